import PyProof.Rows.All
import Wide.All
import OpenK.AllK
import Wide.FinOn
import HandS.ForMost
import HandS.HeadHook4
import HandS.HeadWalk
import HandS.EndTab
import HandS.Head2
import HandS.ForExc
import HandS.ExcInit
import HandS.Nested
import HandS.Lambda
import HandS.Flow
import HandS.Zip
import HandS.Defaults
import HandS.TupAny
import PyProof.NeKinds
import HandS.IsInst
import HandS.ListItems
import HandS.WordsDict
import HandS.TupLen
import HandS.Conv
import KE.KExcIs
import HandS.ExcIs
import HandS.ExcField
import HandS.ExcValue
import HandS.MakeKw
import HandS.HeadHook2
import HandS.Words
import HandS.More
import HandS.Head0
import HandS.Head1
import HandS.HeadEnd
import HandS.HeadHook1
import HandS.HeadHook3
import PySem.Challenge.RW_drawnandrun_k00_errors_made
set_option Elab.async false
section
set_option Elab.async false
set_option linter.all false
set_option maxRecDepth 100000
set_option maxHeartbeats 4000000
namespace MI
open PySem L2 PySem.Spec PyProof.Rows
def kSub (s : Stmt) (i : Nat) : Stmt := match s with
  | .If _ a _ _ => a.getD i s
  | .While _ a _ _ => a.getD i s
  | .For _ _ a _ _ => a.getD i s
  | .Try a _ _ _ _ => a.getD i s
  | .ClassDef _ _ _ a _ _ _ _ _ _ _ => a.getD i s
  | _ => s
def oexB (K : PySem.W.Frag) (C : Addr) : Bool := (match K.lookup C with
  | some ⟨.type t, _, .cls cd, sl⟩ => decide (t = "type") && ((match cd.mro with
    | .ref C' :: bm => decide (C' = C) && PySem.HandSPX.refsVE bm
    | _ => false) && (cd.hasDict && (!cd.hasDel && (match sl.toList with
    | [_, _, _, _, some (.builtin n), _] => decide (n = "ValueError.__new__")
    | _ => false))))
  | _ => false) && (He.eqO (PySem.W.findIn K (.ref C) "__setattr__") (some (some (.builtin "object.__setattr__"))) && (decide (PySem.W.subIn K (.ref C) (.type "BaseException") = some true) && (decide (PySem.W.typeIn K (.ref C) = some (.type "type")) && PySem.W.keepIn K (.ref C))))
def excB (K : PySem.W.Frag) (D : Addr) : Bool := He.eqO (PySem.W.findIn K (.ref D) "__getattribute__") (some (some (.builtin "BaseException.__getattribute__"))) && (He.eqO (PySem.W.findIn K (.ref D) "__getattr__") (some none) && (decide (PySem.W.subIn K (.ref D) (.type "BaseException") = some true) && (PySem.W.hasDictIn K D &&
  (He.eqO (PySem.W.findIn K (.ref D) "__class__") (some (some (.builtin "object.__class__"))) && (decide (PySem.W.specialIn K (.builtin "object.__class__") "__get__" = some (some (.builtin "getset_descriptor.__get__"))) && (decide (PySem.W.takesIn K (.builtin "object.__class__") = some true) && decide (PySem.W.mroIn K D (.type "object") = some true)))))))
/-- __init__ of the class C stands at fI -/
def initB (K : PySem.W.Frag) (C fI : Addr) : Bool := He.eqO (PySem.W.findIn K (.ref C) "__init__") (some (some (.ref fI))) && decide (PySem.W.typeIn K (.ref fI) = some (.type "function"))
def noB (K : PySem.W.Frag) (C : Addr) (fs : List Str) : Bool := fs.all fun f => He.eqO (PySem.W.findIn K (.ref C) f) (some none)
def errNB (K : PySem.W.Frag) (C : Addr) : Bool := PySem.W.excIn K C He.veBase "ValueError.__new__" && (PySem.W.keepIn K (.ref C) && excB K C)
/-- what the written part says of the classes' orders -/
def mroB (K : PySem.W.Frag) (ca : Nat → Addr) (anc : Nat → List Nat) (m : Nat) : Bool := decide (((List.range m).map ca).Nodup) && (List.range m).all fun c => (match PySem.W.clsIn K (ca c) with
    | some cd => decide (cd.mro = (anc c).map (fun d => .ref (ca d)) ++ PySem.HandSPX.veTail)
    | none => false) && (decide (PySem.W.typeIn K (.ref (ca c)) = some (.type "type")) && (decide (c ∈ anc c) && (anc c).all fun d => decide (d < m)))
/-- the tables are not one -/
def tabB (K : PySem.W.Frag) (tf : List He.Defn) : Bool := decide ((tf.map fun p => (He.cT K p).2).Nodup)
def vRefs (o : Obj) : List Addr := match o.data with
  | .dict es _ => es.toList.flatMap fun e => He.refV e.val
  | _ => []
def cRefs (o : Obj) : List Addr := match o.data with
  | .func fd => He.refV fd.code
  | .cls cd => [cd.ns]
  | _ => []
def stepA (g : Addr → Option Obj) (f : Obj → List Addr) (as : List Addr) : List Addr := as.flatMap fun a => match g a with
  | some o => f o
  | none => []
/-- the module's names, their code and classes' dicts, what stands there, its code -/
def asL (g : Addr → Option Obj) : List Addr :=
  let l1 := stepA g vRefs [mainGlobals]
  let l2 := stepA g cRefs l1
  let l3 := stepA g vRefs l2
  mainGlobals :: (l1 ++ (l2 ++ (l3 ++ stepA g cRefs l3)))
theorem says_as {as : List Addr} {fa : List He.Fa} {fn : List He.DefD} {tf : List He.Defn} {ex : PySem.W.Frag → Bool} {w : World} {h : Heap} (e : (He.obsT fa fn [] (He.frT h.get? as), ex (He.frT h.get? as) && He.tabsB h.get? tf (He.frT h.get? as)) = He.valX fn [] w) : He.SaysX fa fn [] tf ex w h (He.frT h.get? as) := by
  have e1 : He.obsT fa fn [] (He.frT h.get? as) = He.valT fn [] w := congrArg (fun z : He.AlX => z.1) e
  have e2 : (ex (He.frT h.get? as) && He.tabsB h.get? tf (He.frT h.get? as)) = true := congrArg (fun z : He.AlX => z.2) e
  obtain ⟨h1, h2⟩ := Bool.and_eq_true_iff.mp e2
  have key : ∀ p ∈ tf, PySem.W.codeHdIn (He.frT h.get? as) (He.cT (He.frT h.get? as) p).1 (He.cT (He.frT h.get? as) p).2 = true ∧ ∃ o, h.get? (He.cT (He.frT h.get? as) p).2 = some o ∧ He.emptyTab o = true := fun p hp => by
    obtain ⟨h3, h4⟩ := Bool.and_eq_true_iff.mp (List.all_eq_true.mp h2 p hp)
    refine ⟨h3, ?_⟩
    cases q : h.get? (He.cT (He.frT h.get? as) p).2 with
    | none => rw [q] at h4; cases h4
    | some o => rw [q] at h4; exact ⟨o, rfl, h4⟩
  refine ⟨e1, h1, fun p hp => (key p hp).1, fun p hp => ?_, fun p hp => ?_⟩
  · obtain ⟨_, o, q, z⟩ := key p hp
    exact He.frT_none q z
  · obtain ⟨_, o, q, z⟩ := key p hp
    rw [q, He.emptyTab_eq z]
def obsL (fa : List He.Fa) (fn : List He.DefD) (tf : List He.Defn) (ex : PySem.W.Frag → Bool) (g : Addr → Option Obj) : He.AlX := (He.obsT fa fn [] (He.frT g (asL g)), ex (He.frT g (asL g)) && He.tabsB g tf (He.frT g (asL g)))
def hookL (fa : List He.Fa) (fn : List He.DefD) (tf : List He.Defn) (ex : PySem.W.Frag → Bool) : PySem.W.Hook where
  α := He.AlX
  obs := fun s => obsL fa fn tf ex s.heap.get?
  val := fun w => He.valX fn [] w
  says := fun w h => ∃ K : PySem.W.Frag, K.In h ∧ He.SaysX fa fn [] tf ex w h K
  of := fun _ _ e => ⟨_, He.frT_in, says_as e⟩
  keeps := fun _ _ _ ⟨K, hK, c⟩ k => ⟨K, PySem.W.Frag.In.keeps hK k, ⟨c.t, c.more, c.hd, c.out, fun p hp => k _ _ (c.empty p hp)⟩⟩
theorem obsL_eq {fa : List He.Fa} {fn : List He.DefD} {tf : List He.Defn} {ex : PySem.W.Frag → Bool} {g : Addr → Option Obj} {s : Shared} (h : ∀ a, g a = s.heap.get? a) : obsL fa fn tf ex g = (hookL fa fn tf ex).obs s := by
  have e : g = s.heap.get? := funext h
  rw [e] <;> rfl
end MI
namespace Law
open PySem L2 MI
def top (i : Nat) : Stmt := PySem.Challenge.pw_drawnandrun_k00_errors_made.main.body.getD i (.Pass ⟨0, 0, 0, 0⟩)
def kAt (b : List Stmt) (i : Nat) : Stmt := b.getD i (.Pass ⟨0, 0, 0, 0⟩)
def defNames : List Str := (["_law_start", "_law_draw", "_law_mixed", "_law_made_a", "_law_made_b", "_law_made_c", "_law_made_d", "_law_kinds_a", "_law_kinds_b", "_law_kinds_c", "_law_kinds_d", "_law_kinds", "_law_is_own", "_law_same", "_law_are_these", "law"] : List Str)
def clsNames : List Str := (["ChartError", "BadBeginning", "BadChart", "BadChartbook", "BadCharts", "BadClasses", "BadDeed", "BadDelays", "BadForm", "BadGood", "BadIndex", "BadLeader", "BadLot", "BadNames", "BadNaming", "BadNode", "BadNumber", "BadOne", "BadOther", "BadOtherChart", "BadOtherLot", "BadOtherPlace", "BadPaper", "BadPath", "BadPeople", "BadPerson", "BadPicks", "BadPlace", "BadPlan", "BadQuestion"] : List Str) ++ (["BadRowsBegun", "BadRun", "BadSchedule", "BadSeen", "BadText", "BadTimes", "BadTold", "BadWeb", "BadWord", "BadWords", "FitsNot", "Holds", "InUse", "IsBounded", "IsWatched", "NoCount", "NoEvents", "NoPlan", "NoRounds", "NobodyLeft", "NotLocal", "NotNow", "NotQuiet", "NotWatched", "NotWhole", "NothingCommon", "NothingFits", "UnlikePeople", "WouldChange"] : List Str)
def clsFlds : List (List Str) := ([[], ["thing"], ["fault"], ["thing"], ["index"], ["thing"], ["thing"], ["thing"], ["thing"], ["index"], ["thing"], ["thing"], ["index"], ["index"], ["thing"], ["thing"], ["thing"], ["thing"], ["thing"], ["fault"], ["index"], ["thing"], ["thing"], ["thing"], ["index"], ["thing"], ["index"], ["thing"], ["thing"], ["thing"]] : List (List Str)) ++ ([["thing"], ["fault"], ["fault"], ["thing"], ["line", "sign"], ["thing"], ["thing"], ["fault"], ["thing"], ["index"], [], [], ["question"], [], ["question"], ["thing"], [], [], [], [], [], ["why"], [], ["question"], [], [], [], [], ["question", "why"]] : List (List Str))
def nCls : Nat := 59
def tf : List He.Defn := [("_law_made_a", none), ("_law_made_b", none), ("_law_made_c", none), ("_law_made_d", none)]
def sI_1 : Stmt := kSub (top 2) 0
def dI_1 : He.DefD := ⟨("BadBeginning", some "__init__"), "__init__", "BadBeginning.__init__", defArgs sI_1, defBody sI_1, defScope sI_1, [], []⟩
def sI_2 : Stmt := kSub (top 3) 0
def dI_2 : He.DefD := ⟨("BadChart", some "__init__"), "__init__", "BadChart.__init__", defArgs sI_2, defBody sI_2, defScope sI_2, [], []⟩
def sI_3 : Stmt := kSub (top 4) 0
def dI_3 : He.DefD := ⟨("BadChartbook", some "__init__"), "__init__", "BadChartbook.__init__", defArgs sI_3, defBody sI_3, defScope sI_3, [], []⟩
def sI_4 : Stmt := kSub (top 5) 0
def dI_4 : He.DefD := ⟨("BadCharts", some "__init__"), "__init__", "BadCharts.__init__", defArgs sI_4, defBody sI_4, defScope sI_4, [], []⟩
def sI_5 : Stmt := kSub (top 6) 0
def dI_5 : He.DefD := ⟨("BadClasses", some "__init__"), "__init__", "BadClasses.__init__", defArgs sI_5, defBody sI_5, defScope sI_5, [], []⟩
def sI_6 : Stmt := kSub (top 7) 0
def dI_6 : He.DefD := ⟨("BadDeed", some "__init__"), "__init__", "BadDeed.__init__", defArgs sI_6, defBody sI_6, defScope sI_6, [], []⟩
def sI_7 : Stmt := kSub (top 8) 0
def dI_7 : He.DefD := ⟨("BadDelays", some "__init__"), "__init__", "BadDelays.__init__", defArgs sI_7, defBody sI_7, defScope sI_7, [], []⟩
def sI_8 : Stmt := kSub (top 9) 0
def dI_8 : He.DefD := ⟨("BadForm", some "__init__"), "__init__", "BadForm.__init__", defArgs sI_8, defBody sI_8, defScope sI_8, [], []⟩
def sI_9 : Stmt := kSub (top 10) 0
def dI_9 : He.DefD := ⟨("BadGood", some "__init__"), "__init__", "BadGood.__init__", defArgs sI_9, defBody sI_9, defScope sI_9, [], []⟩
def sI_10 : Stmt := kSub (top 11) 0
def dI_10 : He.DefD := ⟨("BadIndex", some "__init__"), "__init__", "BadIndex.__init__", defArgs sI_10, defBody sI_10, defScope sI_10, [], []⟩
def sI_11 : Stmt := kSub (top 12) 0
def dI_11 : He.DefD := ⟨("BadLeader", some "__init__"), "__init__", "BadLeader.__init__", defArgs sI_11, defBody sI_11, defScope sI_11, [], []⟩
def sI_12 : Stmt := kSub (top 13) 0
def dI_12 : He.DefD := ⟨("BadLot", some "__init__"), "__init__", "BadLot.__init__", defArgs sI_12, defBody sI_12, defScope sI_12, [], []⟩
def sI_13 : Stmt := kSub (top 14) 0
def dI_13 : He.DefD := ⟨("BadNames", some "__init__"), "__init__", "BadNames.__init__", defArgs sI_13, defBody sI_13, defScope sI_13, [], []⟩
def sI_14 : Stmt := kSub (top 15) 0
def dI_14 : He.DefD := ⟨("BadNaming", some "__init__"), "__init__", "BadNaming.__init__", defArgs sI_14, defBody sI_14, defScope sI_14, [], []⟩
def sI_15 : Stmt := kSub (top 16) 0
def dI_15 : He.DefD := ⟨("BadNode", some "__init__"), "__init__", "BadNode.__init__", defArgs sI_15, defBody sI_15, defScope sI_15, [], []⟩
def sI_16 : Stmt := kSub (top 17) 0
def dI_16 : He.DefD := ⟨("BadNumber", some "__init__"), "__init__", "BadNumber.__init__", defArgs sI_16, defBody sI_16, defScope sI_16, [], []⟩
def sI_17 : Stmt := kSub (top 18) 0
def dI_17 : He.DefD := ⟨("BadOne", some "__init__"), "__init__", "BadOne.__init__", defArgs sI_17, defBody sI_17, defScope sI_17, [], []⟩
def sI_18 : Stmt := kSub (top 19) 0
def dI_18 : He.DefD := ⟨("BadOther", some "__init__"), "__init__", "BadOther.__init__", defArgs sI_18, defBody sI_18, defScope sI_18, [], []⟩
def sI_19 : Stmt := kSub (top 20) 0
def dI_19 : He.DefD := ⟨("BadOtherChart", some "__init__"), "__init__", "BadOtherChart.__init__", defArgs sI_19, defBody sI_19, defScope sI_19, [], []⟩
def sI_20 : Stmt := kSub (top 21) 0
def dI_20 : He.DefD := ⟨("BadOtherLot", some "__init__"), "__init__", "BadOtherLot.__init__", defArgs sI_20, defBody sI_20, defScope sI_20, [], []⟩
def sI_21 : Stmt := kSub (top 22) 0
def dI_21 : He.DefD := ⟨("BadOtherPlace", some "__init__"), "__init__", "BadOtherPlace.__init__", defArgs sI_21, defBody sI_21, defScope sI_21, [], []⟩
def sI_22 : Stmt := kSub (top 23) 0
def dI_22 : He.DefD := ⟨("BadPaper", some "__init__"), "__init__", "BadPaper.__init__", defArgs sI_22, defBody sI_22, defScope sI_22, [], []⟩
def sI_23 : Stmt := kSub (top 24) 0
def dI_23 : He.DefD := ⟨("BadPath", some "__init__"), "__init__", "BadPath.__init__", defArgs sI_23, defBody sI_23, defScope sI_23, [], []⟩
def sI_24 : Stmt := kSub (top 25) 0
def dI_24 : He.DefD := ⟨("BadPeople", some "__init__"), "__init__", "BadPeople.__init__", defArgs sI_24, defBody sI_24, defScope sI_24, [], []⟩
def sI_25 : Stmt := kSub (top 26) 0
def dI_25 : He.DefD := ⟨("BadPerson", some "__init__"), "__init__", "BadPerson.__init__", defArgs sI_25, defBody sI_25, defScope sI_25, [], []⟩
def sI_26 : Stmt := kSub (top 27) 0
def dI_26 : He.DefD := ⟨("BadPicks", some "__init__"), "__init__", "BadPicks.__init__", defArgs sI_26, defBody sI_26, defScope sI_26, [], []⟩
def sI_27 : Stmt := kSub (top 28) 0
def dI_27 : He.DefD := ⟨("BadPlace", some "__init__"), "__init__", "BadPlace.__init__", defArgs sI_27, defBody sI_27, defScope sI_27, [], []⟩
def sI_28 : Stmt := kSub (top 29) 0
def dI_28 : He.DefD := ⟨("BadPlan", some "__init__"), "__init__", "BadPlan.__init__", defArgs sI_28, defBody sI_28, defScope sI_28, [], []⟩
def sI_29 : Stmt := kSub (top 30) 0
def dI_29 : He.DefD := ⟨("BadQuestion", some "__init__"), "__init__", "BadQuestion.__init__", defArgs sI_29, defBody sI_29, defScope sI_29, [], []⟩
def sI_30 : Stmt := kSub (top 31) 0
def dI_30 : He.DefD := ⟨("BadRowsBegun", some "__init__"), "__init__", "BadRowsBegun.__init__", defArgs sI_30, defBody sI_30, defScope sI_30, [], []⟩
def sI_31 : Stmt := kSub (top 32) 0
def dI_31 : He.DefD := ⟨("BadRun", some "__init__"), "__init__", "BadRun.__init__", defArgs sI_31, defBody sI_31, defScope sI_31, [], []⟩
def sI_32 : Stmt := kSub (top 33) 0
def dI_32 : He.DefD := ⟨("BadSchedule", some "__init__"), "__init__", "BadSchedule.__init__", defArgs sI_32, defBody sI_32, defScope sI_32, [], []⟩
def sI_33 : Stmt := kSub (top 34) 0
def dI_33 : He.DefD := ⟨("BadSeen", some "__init__"), "__init__", "BadSeen.__init__", defArgs sI_33, defBody sI_33, defScope sI_33, [], []⟩
def sI_34 : Stmt := kSub (top 35) 0
def dI_34 : He.DefD := ⟨("BadText", some "__init__"), "__init__", "BadText.__init__", defArgs sI_34, defBody sI_34, defScope sI_34, [], []⟩
def sI_35 : Stmt := kSub (top 36) 0
def dI_35 : He.DefD := ⟨("BadTimes", some "__init__"), "__init__", "BadTimes.__init__", defArgs sI_35, defBody sI_35, defScope sI_35, [], []⟩
def sI_36 : Stmt := kSub (top 37) 0
def dI_36 : He.DefD := ⟨("BadTold", some "__init__"), "__init__", "BadTold.__init__", defArgs sI_36, defBody sI_36, defScope sI_36, [], []⟩
def sI_37 : Stmt := kSub (top 38) 0
def dI_37 : He.DefD := ⟨("BadWeb", some "__init__"), "__init__", "BadWeb.__init__", defArgs sI_37, defBody sI_37, defScope sI_37, [], []⟩
def sI_38 : Stmt := kSub (top 39) 0
def dI_38 : He.DefD := ⟨("BadWord", some "__init__"), "__init__", "BadWord.__init__", defArgs sI_38, defBody sI_38, defScope sI_38, [], []⟩
def sI_39 : Stmt := kSub (top 40) 0
def dI_39 : He.DefD := ⟨("BadWords", some "__init__"), "__init__", "BadWords.__init__", defArgs sI_39, defBody sI_39, defScope sI_39, [], []⟩
def sI_42 : Stmt := kSub (top 43) 0
def dI_42 : He.DefD := ⟨("InUse", some "__init__"), "__init__", "InUse.__init__", defArgs sI_42, defBody sI_42, defScope sI_42, [], []⟩
def sI_44 : Stmt := kSub (top 45) 0
def dI_44 : He.DefD := ⟨("IsWatched", some "__init__"), "__init__", "IsWatched.__init__", defArgs sI_44, defBody sI_44, defScope sI_44, [], []⟩
def sI_45 : Stmt := kSub (top 46) 0
def dI_45 : He.DefD := ⟨("NoCount", some "__init__"), "__init__", "NoCount.__init__", defArgs sI_45, defBody sI_45, defScope sI_45, [], []⟩
def sI_51 : Stmt := kSub (top 52) 0
def dI_51 : He.DefD := ⟨("NotNow", some "__init__"), "__init__", "NotNow.__init__", defArgs sI_51, defBody sI_51, defScope sI_51, [], []⟩
def sI_53 : Stmt := kSub (top 54) 0
def dI_53 : He.DefD := ⟨("NotWatched", some "__init__"), "__init__", "NotWatched.__init__", defArgs sI_53, defBody sI_53, defScope sI_53, [], []⟩
def sI_58 : Stmt := kSub (top 59) 0
def dI_58 : He.DefD := ⟨("WouldChange", some "__init__"), "__init__", "WouldChange.__init__", defArgs sI_58, defBody sI_58, defScope sI_58, [], []⟩
def fas : List He.Fa := ([.glo "_law_start", .glo "_law_draw", .glo "_law_mixed", .glo "_law_made_a", .glo "_law_made_b", .glo "_law_made_c", .glo "_law_made_d", .glo "_law_kinds_a", .glo "_law_kinds_b", .glo "_law_kinds_c", .glo "_law_kinds_d", .glo "_law_kinds", .glo "_law_is_own", .glo "_law_same", .glo "_law_are_these", .glo "law", .glo "ChartError", .glo "BadBeginning", .glo "BadChart", .glo "BadChartbook", .glo "BadCharts", .glo "BadClasses", .glo "BadDeed", .glo "BadDelays", .glo "BadForm", .glo "BadGood", .glo "BadIndex", .glo "BadLeader", .glo "BadLot", .glo "BadNames"] : List He.Fa) ++ ([.glo "BadNaming", .glo "BadNode", .glo "BadNumber", .glo "BadOne", .glo "BadOther", .glo "BadOtherChart", .glo "BadOtherLot", .glo "BadOtherPlace", .glo "BadPaper", .glo "BadPath", .glo "BadPeople", .glo "BadPerson", .glo "BadPicks", .glo "BadPlace", .glo "BadPlan", .glo "BadQuestion", .glo "BadRowsBegun", .glo "BadRun", .glo "BadSchedule", .glo "BadSeen", .glo "BadText", .glo "BadTimes", .glo "BadTold", .glo "BadWeb", .glo "BadWord", .glo "BadWords", .glo "FitsNot", .glo "Holds", .glo "InUse", .glo "IsBounded"] : List He.Fa) ++ ([.glo "IsWatched", .glo "NoCount", .glo "NoEvents", .glo "NoPlan", .glo "NoRounds", .glo "NobodyLeft", .glo "NotLocal", .glo "NotNow", .glo "NotQuiet", .glo "NotWatched", .glo "NotWhole", .glo "NothingCommon", .glo "NothingFits", .glo "UnlikePeople", .glo "WouldChange", .free "ArithmeticError", .free "LookupError", .free "TypeError", .free "ValueError", .free "all", .free "bool", .free "dict", .free "enumerate", .free "int", .free "isinstance", .free "len", .free "list", .free "range", .free "str", .free "tuple"] : List He.Fa) ++ ([.free "zip"] : List He.Fa)
def d_0 : He.DefD := ⟨("_law_start", none), "_law_start", "_law_start", defArgs (top 61), defBody (top 61), defScope (top 61), [], []⟩
def d_1 : He.DefD := ⟨("_law_draw", none), "_law_draw", "_law_draw", defArgs (top 62), defBody (top 62), defScope (top 62), [], []⟩
def d_2 : He.DefD := ⟨("_law_mixed", none), "_law_mixed", "_law_mixed", defArgs (top 63), defBody (top 63), defScope (top 63), [], []⟩
def d_3 : He.DefD := ⟨("_law_made_a", none), "_law_made_a", "_law_made_a", defArgs (top 64), defBody (top 64), defScope (top 64), [], []⟩
def d_4 : He.DefD := ⟨("_law_made_b", none), "_law_made_b", "_law_made_b", defArgs (top 65), defBody (top 65), defScope (top 65), [], []⟩
def d_5 : He.DefD := ⟨("_law_made_c", none), "_law_made_c", "_law_made_c", defArgs (top 66), defBody (top 66), defScope (top 66), [], []⟩
def d_6 : He.DefD := ⟨("_law_made_d", none), "_law_made_d", "_law_made_d", defArgs (top 67), defBody (top 67), defScope (top 67), [], []⟩
def d_7 : He.DefD := ⟨("_law_kinds_a", none), "_law_kinds_a", "_law_kinds_a", defArgs (top 68), defBody (top 68), defScope (top 68), [], []⟩
def d_8 : He.DefD := ⟨("_law_kinds_b", none), "_law_kinds_b", "_law_kinds_b", defArgs (top 69), defBody (top 69), defScope (top 69), [], []⟩
def d_9 : He.DefD := ⟨("_law_kinds_c", none), "_law_kinds_c", "_law_kinds_c", defArgs (top 70), defBody (top 70), defScope (top 70), [], []⟩
def d_10 : He.DefD := ⟨("_law_kinds_d", none), "_law_kinds_d", "_law_kinds_d", defArgs (top 71), defBody (top 71), defScope (top 71), [], []⟩
def d_11 : He.DefD := ⟨("_law_kinds", none), "_law_kinds", "_law_kinds", defArgs (top 72), defBody (top 72), defScope (top 72), [], []⟩
def d_12 : He.DefD := ⟨("_law_is_own", none), "_law_is_own", "_law_is_own", defArgs (top 73), defBody (top 73), defScope (top 73), [], []⟩
def d_13 : He.DefD := ⟨("_law_same", none), "_law_same", "_law_same", defArgs (top 74), defBody (top 74), defScope (top 74), [], []⟩
def d_14 : He.DefD := ⟨("_law_are_these", none), "_law_are_these", "_law_are_these", defArgs (top 75), defBody (top 75), defScope (top 75), [], []⟩
def d_15 : He.DefD := ⟨("law", none), "law", "law", defArgs (top 76), defBody (top 76), defScope (top 76), [], []⟩
def fns : List He.DefD := ([d_0, d_1, d_2, d_3, d_4, d_5, d_6, d_7, d_8, d_9, d_10, d_11, d_12, d_13, d_14, d_15, dI_1, dI_2, dI_3, dI_4, dI_5, dI_6, dI_7, dI_8, dI_9, dI_10, dI_11, dI_12, dI_13, dI_14] : List He.DefD) ++ ([dI_15, dI_16, dI_17, dI_18, dI_19, dI_20, dI_21, dI_22, dI_23, dI_24, dI_25, dI_26, dI_27, dI_28, dI_29, dI_30, dI_31, dI_32, dI_33, dI_34, dI_35, dI_36, dI_37, dI_38, dI_39, dI_42, dI_44, dI_45, dI_51, dI_53] : List He.DefD) ++ ([dI_58] : List He.DefD)
def caK (K : PySem.W.Frag) (c : Nat) : Addr := He.ga K (clsNames.getD c "ChartError")
def initCs : List Nat := ([1, 2, 3, 4, 5, 6, 7, 8, 9, 10, 11, 12, 13, 14, 15, 16, 17, 18, 19, 20, 21, 22, 23, 24, 25, 26, 27, 28, 29, 30] : List Nat) ++ ([31, 32, 33, 34, 35, 36, 37, 38, 39, 42, 44, 45, 51, 53, 58] : List Nat)
def plainCs : List Nat := ([0, 40, 41, 43, 46, 47, 48, 49, 50, 52, 54, 55, 56, 57] : List Nat)
def exE (K : PySem.W.Frag) : Bool := (initCs.all fun c => oexB K (caK K c) && (excB K (caK K c) && (noB K (caK K c) (clsFlds.getD c []) && initB K (caK K c) (He.ma K (caK K c) "__init__")))) && (plainCs.all fun c => errNB K (caK K c))
def ancs : List (List Nat) := ([[0], [1, 0], [2, 0], [3, 0], [4, 0], [5, 0], [6, 0], [7, 0], [8, 0], [9, 0], [10, 0], [11, 0], [12, 0], [13, 0], [14, 0], [15, 0], [16, 0], [17, 0], [18, 0], [19, 0], [20, 0], [21, 0], [22, 0], [23, 0], [24, 0], [25, 0], [26, 0], [27, 0], [28, 0], [29, 0]] : List (List Nat)) ++ ([[30, 0], [31, 0], [32, 0], [33, 0], [34, 0], [35, 0], [36, 0], [37, 0], [38, 0], [39, 0], [40, 0], [41, 0], [42, 0], [43, 0], [44, 0], [45, 0], [46, 0], [47, 0], [48, 0], [49, 0], [50, 0], [51, 0], [52, 0], [53, 0], [54, 0], [55, 0], [56, 0], [57, 0], [58, 0]] : List (List Nat))
def anc (c : Nat) : List Nat := ancs.getD c []
def exI (K : PySem.W.Frag) : Bool := mroB K (caK K) anc nCls
def ex (K : PySem.W.Frag) : Bool := exE K && (exI K && tabB K tf)
abbrev R : PySem.W.OpenRow := PySem.W.OpenLaw.row PySem.Challenge.rw_drawnandrun_k00_errors_made
abbrev hk : PySem.W.Hook := hookL fas fns tf ex
def ob (s : PySem.W.SharedT) : He.AlX := obsL fas fns tf ex (HandSHeadRun.getT s)
theorem ob_eq (s : PySem.W.SharedT) : ob s = hk.obs s.abs := obsL_eq (HandSHeadRun.getT_eq s)
def loose : List Str := (["ChartError", "BadBeginning", "BadChart", "BadChartbook", "BadCharts", "BadClasses", "BadDeed", "BadDelays", "BadForm", "BadGood", "BadIndex", "BadLeader", "BadLot", "BadNames", "BadNaming", "BadNode", "BadNumber", "BadOne", "BadOther", "BadOtherChart", "BadOtherLot", "BadOtherPlace", "BadPaper", "BadPath", "BadPeople", "BadPerson", "BadPicks", "BadPlace", "BadPlan", "BadQuestion"] : List Str) ++ (["BadRowsBegun", "BadRun", "BadSchedule", "BadSeen", "BadText", "BadTimes", "BadTold", "BadWeb", "BadWord", "BadWords", "FitsNot", "Holds", "InUse", "IsBounded", "IsWatched", "NoCount", "NoEvents", "NoPlan", "NoRounds", "NobodyLeft", "NotLocal", "NotNow", "NotQuiet", "NotWatched", "NotWhole", "NothingCommon", "NothingFits", "UnlikePeople", "WouldChange", "_law_start"] : List Str) ++ (["_law_draw", "_law_mixed", "_law_made_a", "_law_made_b", "_law_made_c", "_law_made_d", "_law_kinds_a", "_law_kinds_b", "_law_kinds_c", "_law_kinds_d", "_law_kinds", "_law_is_own", "_law_same", "_law_are_these"] : List Str)
noncomputable abbrev E (w : World) (os : OsState) := HandSHeadRun.endF (HandSHeadRun.stepQ (HandSHeadRun.denQ HandSHeadRun.tabQ) R.prog w) 60000 R.prog w os
abbrev vw : PySem.Program := PySem.W.view R.prog [76]
theorem run1 (w : World) (os : OsState) : (E w os).map (fun s => (HandSHeadRun.looksF R.prog (PySem.W.boot_heap w.params) s.abs, HandSHeadRun.seenQ vw loose (PySem.importedModules R.prog.main.body) (fun s => PySem.W.xlAt vw [] s && PySem.W.recOk R.toRowW.records s) s.abs)) = some (true, PySem.W.openGood vw loose) := by kernel_rfl
abbrev frE (s : PySem.W.SharedT) : PySem.W.Frag := He.frT (HandSHeadRun.getT s) (asL (HandSHeadRun.getT s))
theorem run2a (w : World) (os : OsState) : (E w os).map (fun s => He.obsT fas fns [] (frE s)) = some (He.valT fns [] w) := by kernel_rfl
theorem run2b (w : World) (os : OsState) : (E w os).map (fun s => exE (frE s)) = some true := by kernel_rfl
theorem run2c (w : World) (os : OsState) : (E w os).map (fun s => (exI (frE s) && tabB (frE s) tf) && He.tabsB (HandSHeadRun.getT s) tf (frE s)) = some true := by kernel_rfl
theorem run2 (w : World) (os : OsState) : (E w os).map ob = some (hk.val w) := by
  have h1 := run2a w os
  have h2 := run2b w os
  have h3 := run2c w os
  revert h1 h2 h3
  generalize E w os = x
  intro h1 h2 h3
  cases x with
  | none => cases h1
  | some s =>
    have e1 : He.obsT fas fns [] (frE s) = He.valT fns [] w := Option.some.inj h1
    have e2 : exE (frE s) = true := Option.some.inj h2
    obtain ⟨e3, e4⟩ := Bool.and_eq_true_iff.mp (Option.some.inj h3)
    show some (He.obsT fas fns [] (frE s), (exE (frE s) && (exI (frE s) && tabB (frE s) tf)) && He.tabsB (HandSHeadRun.getT s) tf (frE s)) = some (He.valT fns [] w, true)
    rw [e1, e2, e3, e4]; rfl
end Law
end

section
set_option Elab.async false
set_option linter.all false
set_option maxRecDepth 100000
/-! MI: a small evaluator of the part of Python that the laws use, over a heap of its own. -/
namespace MI
open PySem

inductive IV where
  | non | bl (b : Bool) | int (i : Int) | str (s : Str) | tup (vs : List IV) | ref (i : Nat) | gfn (g : Nat) | exc (c : Nat) (vs : List IV) | scr (ns : List Int) | tok (k : Nat)
abbrev Env := List (Option IV)
inductive IO where
  | lst (vs : List IV) | dct (kvs : List (L2.Key × IV)) | dcT (kvs : List (List L2.Key × IV)) | lam (k : Nat) (caps : List (Option IV))

/-! ### the heap -/
inductive T where
  | e | n (v : Option IO) (l r : T)
def T.v : T → Option IO
  | .e => none
  | .n v _ _ => v
def T.l : T → T
  | .e => .e
  | .n _ l _ => l
def T.r : T → T
  | .e => .e
  | .n _ _ r => r
def T.get : T → Nat → Option IO
  | .e, _ => none
  | .n v l r, i => if i = 0 then v else if i % 2 = 1 then l.get (i / 2) else r.get (i / 2 - 1)
def T.set : Nat → T → Nat → IO → T
  | 0, t, _, _ => t
  | f + 1, t, i, o => if i = 0 then .n (some o) t.l t.r else if i % 2 = 1 then .n t.v (T.set f t.l (i / 2) o) t.r else .n t.v t.l (T.set f t.r (i / 2 - 1) o)
theorem T.get_eq (t : T) (i : Nat) : t.get i = if i = 0 then t.v else if i % 2 = 1 then t.l.get (i / 2) else t.r.get (i / 2 - 1) := by
  cases t with
  | e => simp only [T.v, T.l, T.r, T.get]; split <;> (try rfl); split <;> rfl
  | n v l r => rfl
theorem T.get_set : ∀ (f : Nat) (t : T) (i : Nat) (o : IO), i < f → ∀ j, (T.set f t i o).get j = if j = i then some o else t.get j
  | 0, _, _, _, h, _ => absurd h (Nat.not_lt_zero _)
  | f + 1, t, i, o, h, j => by
    unfold T.set
    by_cases h0 : i = 0
    · subst h0
      rw [if_pos rfl, T.get_eq]
      by_cases hj : j = 0
      · subst hj; rfl
      · rw [if_neg hj, if_neg hj, T.get_eq t j, if_neg hj]; rfl
    · rw [if_neg h0]
      by_cases h1 : i % 2 = 1
      · rw [if_pos h1, T.get_eq]
        show (if j = 0 then t.v else if j % 2 = 1 then (T.set f t.l (i / 2) o).get (j / 2) else t.r.get (j / 2 - 1)) = _
        rw [T.get_eq t j, T.get_set f t.l (i / 2) o (by omega)]
        by_cases hj : j = 0
        · rw [if_pos hj, if_pos hj, if_neg (by omega)]
        · rw [if_neg hj, if_neg hj]
          by_cases hj1 : j % 2 = 1
          · rw [if_pos hj1, if_pos hj1]
            by_cases e : j = i
            · rw [if_pos e, if_pos (by rw [e])]
            · rw [if_neg e, if_neg (by omega)]
          · rw [if_neg hj1, if_neg hj1, if_neg (by intro e; rw [e] at hj1; exact hj1 h1)]
      · rw [if_neg h1, T.get_eq]
        show (if j = 0 then t.v else if j % 2 = 1 then t.l.get (j / 2) else (T.set f t.r (i / 2 - 1) o).get (j / 2 - 1)) = _
        rw [T.get_eq t j, T.get_set f t.r (i / 2 - 1) o (by omega)]
        by_cases hj : j = 0
        · rw [if_pos hj, if_pos hj, if_neg (by omega)]
        · rw [if_neg hj, if_neg hj]
          by_cases hj1 : j % 2 = 1
          · rw [if_pos hj1, if_pos hj1, if_neg (by intro e; rw [e] at hj1; exact h1 hj1)]
          · rw [if_neg hj1, if_neg hj1]
            by_cases e : j = i
            · rw [if_pos e, if_pos (by rw [e])]
            · rw [if_neg e, if_neg (by omega)]
structure IH where
  n : Nat
  t : T
def IH.get (h : IH) (i : Nat) : Option IO := h.t.get i
def IH.put (h : IH) (i : Nat) (o : IO) : IH := ⟨h.n, h.t.set (i + 1) i o⟩
def IH.push (h : IH) (o : IO) : IH := ⟨h.n + 1, h.t.set (h.n + 1) h.n o⟩
theorem IH.get_put (h : IH) (i : Nat) (o : IO) (j : Nat) : (h.put i o).get j = if j = i then some o else h.get j := T.get_set _ _ _ _ (Nat.lt_succ_self _) j
theorem IH.get_push (h : IH) (o : IO) (j : Nat) : (h.push o).get j = if j = h.n then some o else h.get j := T.get_set _ _ _ _ (Nat.lt_succ_self _) j
@[simp] theorem IH.n_put (h : IH) (i : Nat) (o : IO) : (h.put i o).n = h.n := rfl
@[simp] theorem IH.n_push (h : IH) (o : IO) : (h.push o).n = h.n + 1 := rfl

/-! ### outcomes -/
inductive Out (α : Type) where
  | ok (a : α) (h : IH) | exc (e : IV) (h : IH) | bad
def Out.bind {α β : Type} (x : Out α) (f : α → IH → Out β) : Out β :=
  match x with
  | .ok a h => f a h
  | .exc e h => .exc e h
  | .bad => .bad
def Out.of {α : Type} (x : Option α) (h : IH) : Out α :=
  match x with
  | some a => .ok a h
  | none => .bad
inductive Fl where
  | nx (σ : Env) (h : IH) | ret (v : IV) (h : IH) | exc (e : IV) (σ : Env) (h : IH) | brk (σ : Env) (h : IH) | ct (σ : Env) (h : IH) | bad
def Fl.seq (x : Fl) (f : Env → IH → Fl) : Fl :=
  match x with
  | .nx σ h => f σ h
  | y => y

/-! ### values -/
def num : IV → Option Int
  | .int i => some i
  | .bl b => some (if b then 1 else 0)
  | _ => none
def truthy (h : IH) : IV → Option Bool
  | .non => some false
  | .bl b => some b
  | .int i => some (i != 0)
  | .str s => if s.length ≤ sizeLine then some ((s.length : Int) != 0) else none
  | .tup vs => if vs.length ≤ sizeLine then some (!vs.isEmpty) else none
  | .ref i => (match h.get i with
    | some (.lst vs) => some (!vs.isEmpty)
    | some (.dct kvs) => some (!kvs.isEmpty)
    | _ => none)
  | _ => none
/-- dicts: a key's value; a value stored -/
def dGet {κ α : Type} [DecidableEq κ] (k : κ) : List (κ × α) → Option α
  | [] => none
  | (j, v) :: r => if j = k then some v else dGet k r
def dHas {κ α : Type} [DecidableEq κ] (k : κ) (kvs : List (κ × α)) : Bool := (dGet k kvs).isSome
def dPut {κ α : Type} [DecidableEq κ] (k : κ) (v : α) (kvs : List (κ × α)) : List (κ × α) :=
  if (kvs.any fun kv => decide (kv.1 = k)) = true then kvs.map (fun kv => if kv.1 = k then (kv.1, v) else kv) else kvs ++ [(k, v)]
def keyI : IV → Option L2.Key
  | .int i => some (.inl i)
  | .str s => some (.inr s)
  | _ => none
def keysI : List IV → Option (List L2.Key)
  | [] => some []
  | v :: vs => (match keyI v, keysI vs with
    | some k, some ks => some (k :: ks)
    | _, _ => none)
def unkey : L2.Key → IV
  | .inl i => .int i
  | .inr s => .str s
def oAnd (a b : Option Bool) : Option Bool :=
  match a, b with
  | some x, some y => some (x && y)
  | _, _ => none
def all2 (f : IV → IV → Option Bool) : List IV → List IV → Option Bool
  | x :: xs, y :: ys => oAnd (f x y) (all2 f xs ys)
  | _, _ => some true
inductive Kd where
  | non | num | str | tup | lst | dct | oth
  deriving DecidableEq
def kind (h : IH) : IV → Kd
  | .non => .non
  | .bl _ => .num
  | .int _ => .num
  | .str _ => .str
  | .tup _ => .tup
  | .ref i => (match h.get i with
    | some (.lst _) => .lst
    | some (.dct _) => .dct
    | some (.dcT _) => .dct
    | _ => .oth)
  | _ => .oth
/-- things of unlike kinds are not equal -/
def kdNe (h : IH) (a b : IV) : Option Bool := if kind h a = .oth ∨ kind h b = .oth ∨ kind h a = kind h b ∨ kind h a = .dct ∨ kind h b = .dct then none else some false
def eqOth (h : IH) (a b : IV) : Option Bool := match num a, num b with
  | some x, some y => some (x == y)
  | _, _ => kdNe h a b
/-- == of data -/
def eqv (h : IH) : Nat → IV → IV → Option Bool
  | 0, _, _ => none
  | n + 1, a, b =>
    match a, b with
    | .non, .non => some true
    | .str x, .str y => some (x == y)
    | .tup xs, .tup ys => oAnd (all2 (eqv h n) xs ys) (some (xs.length == ys.length))
    | .ref i, .ref j => (match h.get i, h.get j with
      | some (.lst xs), some (.lst ys) => if i = j then some true else if xs.length = ys.length then all2 (eqv h n) xs ys else some false
      | _, _ => kdNe h (.ref i) (.ref j))
    | a, b => eqOth h a b

/-! ### the context, terms as functions -/
structure Ctx where
  call : Nat → List IV → IH → Out IV
  lam : Nat → List (Option IV) → List IV → IH → Out IV
abbrev Ex := Ctx → Env → IH → Out IV
abbrev Tx := Ctx → Env → IH → Out Bool
abbrev Lx := Ctx → Env → IH → Out (List IV)
abbrev Sx := Ctx → Env → IH → Fl
def vGet (σ : Env) (i : Nat) : Option IV := match σ[i]? with
  | some (some v) => some v
  | _ => none
def eVar (i : Nat) : Ex := fun _ σ h => Out.of (vGet σ i) h
def eCon (v : IV) : Ex := fun _ _ h => .ok v h
def lNil : Lx := fun _ _ h => .ok [] h
def lCons (a : Ex) (r : Lx) : Lx := fun c σ h => (a c σ h).bind fun v h => (r c σ h).bind fun vs h => .ok (v :: vs) h
def eList : List Ex → Lx
  | [] => lNil
  | a :: r => lCons a (eList r)
def eOp (f : IV → IV → IH → Out IV) (a b : Ex) : Ex := fun c σ h => (a c σ h).bind fun x h => (b c σ h).bind fun y h => f x y h
def eUn (f : IV → IH → Out IV) (a : Ex) : Ex := fun c σ h => (a c σ h).bind f
def ePrim (f : List IV → IH → Out IV) (es : Lx) : Ex := fun c σ h => (es c σ h).bind f
def eMeth (k : Kd) (f : IV → List IV → IH → Out IV) (o : Ex) (es : Lx) : Ex := fun c σ h => (o c σ h).bind fun x h => if kind h x = k then (es c σ h).bind fun vs h => f x vs h else .bad
def eCall (g : Nat) (es : Lx) : Ex := fun c σ h => (es c σ h).bind fun vs h => c.call g vs h
def permV (p : List Nat) (vs : List IV) : List IV := p.filterMap fun i => vs[i]?
/-- keyword arguments: p tells at which place of the row as it is written each parameter's value stands -/
def eCallP (g : Nat) (p : List Nat) (es : Lx) : Ex := fun c σ h => (es c σ h).bind fun vs h => c.call g (permV p vs) h
def fnVal (h : IH) : IV → Option (Sum Nat (Nat × List (Option IV)))
  | .gfn g => some (.inl g)
  | .ref i => (match h.get i with
    | some (.lam k cs) => some (.inr (k, cs))
    | _ => none)
  | _ => none
def eCallV (f : Ex) (es : Lx) : Ex := fun c σ h => (f c σ h).bind fun x h => (es c σ h).bind fun vs h =>
  match fnVal h x with
  | some (.inl g) => c.call g vs h
  | some (.inr (k, cs)) => c.lam k cs vs h
  | none => .bad
/-! tests -/
def tVal (a : Ex) : Tx := fun c σ h => (a c σ h).bind fun v h => Out.of (truthy h v) h
/-- a truth value as it is -/
def tBl (a : Ex) : Tx := fun c σ h => (a c σ h).bind fun v h => match v with
  | .bl k => .ok k h
  | _ => .bad
def tAnd (a b : Tx) : Tx := fun c σ h => (a c σ h).bind fun x h => if x = true then b c σ h else .ok false h
def tOr (a b : Tx) : Tx := fun c σ h => (a c σ h).bind fun x h => if x = true then .ok true h else b c σ h
def tNot (a : Tx) : Tx := fun c σ h => (a c σ h).bind fun x h => .ok (!x) h
def eAnd (a b : Ex) : Ex := fun c σ h => (a c σ h).bind fun v h => (Out.of (truthy h v) h).bind fun k h => if k = true then b c σ h else .ok v h
def eOr (a b : Ex) : Ex := fun c σ h => (a c σ h).bind fun v h => (Out.of (truthy h v) h).bind fun k h => if k = true then .ok v h else b c σ h
def eNot (a : Ex) : Ex := fun c σ h => (a c σ h).bind fun v h => (Out.of (truthy h v) h).bind fun k h => .ok (.bl (!k)) h
def eIf (t : Tx) (a b : Ex) : Ex := fun c σ h => (t c σ h).bind fun x h => if x = true then a c σ h else b c σ h
/-- a o b p c, b reckoned once -/
def eChain (f g : IV → IV → IH → Out IV) (a b d : Ex) : Ex := fun c σ h => (a c σ h).bind fun x h => (b c σ h).bind fun y h => (f x y h).bind fun z h =>
  match z with
  | .bl true => (d c σ h).bind fun w h => g y w h
  | .bl false => .ok (.bl false) h
  | _ => .bad
/-! displays -/
def eTup (es : Lx) : Ex := ePrim (fun vs h => if vs.length ≤ sizeLine then .ok (.tup vs) h else .bad) es
def pLst (vs : List IV) (h : IH) : Out IV := if vs.length ≤ sizeLine then .ok (.ref h.n) (h.push (.lst vs)) else .bad
def eLst (es : Lx) : Ex := ePrim pLst es
/-- {k: v, ..}: the dict stands, empty, while the pairs are made -/
def lPairs : List (Ex × Ex) → Ctx → Env → IH → Out (List (L2.Key × IV))
  | [], _, _, h => .ok [] h
  | (a, b) :: r, c, σ, h => (a c σ h).bind fun k h => (b c σ h).bind fun v h => (lPairs r c σ h).bind fun ps h => match keyI k with
    | some k => .ok ((k, v) :: ps) h
    | none => .bad
def eDct (ps : List (Ex × Ex)) : Ex := fun c σ h0 => (lPairs ps c σ (h0.push (.dct []))).bind fun kvs h => match h.get h0.n with
  | some (.dct []) => .ok (.ref h0.n) (h.put h0.n (.dct (kvs.foldl (fun acc kv => dPut kv.1 kv.2 acc) [])))
  | _ => .bad
/-! targets, iteration -/
abbrev Gx := IV → Ctx → Env → IH → Out Env
def gName (i : Nat) : Gx := fun v _ σ h => .ok (σ.set i (some v)) h
abbrev GLx := List IV → Ctx → Env → IH → Out Env
def gNil : GLx := fun vs _ σ h => match vs with
  | [] => .ok σ h
  | _ => .bad
def gCons (g : Gx) (r : GLx) : GLx := fun vs c σ h => match vs with
  | v :: vs => (g v c σ h).bind fun σ h => r vs c σ h
  | [] => .bad
def rowOf (h : IH) : IV → Option (List IV)
  | .tup vs => some vs
  | .ref i => (match h.get i with
    | some (.lst vs) => some vs
    | _ => none)
  | _ => none
def gTup (n : Nat) (r : GLx) : Gx := fun v c σ h => match rowOf h v with
  | some vs => if vs.length = n then r vs c σ h else .bad
  | none => .bad
def Out.fl (x : Out Env) : Fl := match x with
  | .ok σ h => .nx σ h
  | _ => .bad
/-- what is walked -/
inductive Src where
  | lst (i : Nat) | tup (vs : List IV) | rng (lo : Int) (n : Nat) | enum (s : Src) | zip (s t : Src)
inductive Nx where
  | stop | yld (v : IV) | bad
def ofIx (x : Option IV) : Nx := match x with
  | some v => .yld v
  | none => .stop
def Nx.both (a b : Nx) : Nx := match a, b with
  | .yld v, .yld u => .yld (.tup [v, u])
  | .bad, _ => .bad
  | _, .bad => .bad
  | _, _ => .stop
def Src.at : Src → Nat → IH → Nx
  | .lst i, k, h => (match h.get i with
    | some (.lst vs) => ofIx vs[k]?
    | _ => .bad)
  | .tup vs, k, _ => ofIx vs[k]?
  | .rng lo n, k, _ => if k < n then .yld (.int (lo + (k : Int))) else .stop
  | .enum s, k, h => (match s.at k h with
    | .yld v => .yld (.tup [.int k, v])
    | x => x)
  | .zip s t, k, h => Nx.both (s.at k h) (t.at k h)
/-- a bound of the turns -/
def Src.len : Src → IH → Nat
  | .lst i, h => (match h.get i with
    | some (.lst vs) => vs.length
    | _ => 0)
  | .tup vs, _ => vs.length
  | .rng _ n, _ => n
  | .enum s, h => s.len h
  | .zip s _, h => s.len h
abbrev Ix := Ctx → Env → IH → Out Src
def srcOf (h : IH) : IV → Option Src
  | .tup vs => if vs.length ≤ sizeLine then some (.tup vs) else none
  | .ref i => (match h.get i with
    | some (.lst _) => some (.lst i)
    | _ => none)
  | _ => none
def iVal (e : Ex) : Ix := fun c σ h => (e c σ h).bind fun v h => Out.of (srcOf h v) h
def iEnum (e : Ex) : Ix := fun c σ h => (e c σ h).bind fun v h => Out.of ((srcOf h v).map .enum) h
def iZip (a b : Ex) : Ix := fun c σ h => (a c σ h).bind fun v h => (b c σ h).bind fun u h => Out.of ((srcOf h v).bind fun s => (srcOf h u).map fun t => .zip s t) h
def in62 (i : Int) : Bool := decide (-(2 ^ 62) ≤ i) && decide (i < 2 ^ 62)
def iRng1 (e : Ex) : Ix := fun c σ h => (e c σ h).bind fun v h => match v with
  | .int j => if in62 j = true then .ok (.rng 0 j.toNat) h else .bad
  | _ => .bad
def fRng2 (u v : IV) (h : IH) : Out Src := match u, v with
  | .int i, .int j => if in62 i = true ∧ in62 j = true then .ok (.rng i (j - i).toNat) h else .bad
  | _, _ => .bad
def iRng2 (a b : Ex) : Ix := fun c σ h => (a c σ h).bind fun u h => (b c σ h).bind fun v h => fRng2 u v h
/-! statements -/
def sNx : Sx := fun _ σ h => .nx σ h
def sSeq (a b : Sx) : Sx := fun c σ h => (a c σ h).seq fun σ h => b c σ h
def sBlock : List Sx → Sx
  | [] => sNx
  | a :: r => sSeq a (sBlock r)
def flow (x : Out IV) (σ : Env) (f : IV → IH → Fl) : Fl := match x with
  | .ok v h => f v h
  | .exc e h => .exc e σ h
  | .bad => .bad
def sExpr (e : Ex) : Sx := fun c σ h => flow (e c σ h) σ fun _ h => .nx σ h
def sAsg (g : Gx) (e : Ex) : Sx := fun c σ h => flow (e c σ h) σ fun v h => (g v c σ h).fl
def sRet (e : Ex) : Sx := fun c σ h => flow (e c σ h) σ fun v h => .ret v h
def sRetN : Sx := fun _ _ h => .ret .non h
def flowT (x : Out Bool) (σ : Env) (f : Bool → IH → Fl) : Fl := match x with
  | .ok v h => f v h
  | .exc e h => .exc e σ h
  | .bad => .bad
def sIf (t : Tx) (a b : Sx) : Sx := fun c σ h => flowT (t c σ h) σ fun k h => if k = true then a c σ h else b c σ h
/-- a turn's end, the loop going on by k -/
def Fl.turn (x : Fl) (k : Env → IH → Fl) : Fl := match x with
  | .nx σ h => k σ h
  | .ct σ h => k σ h
  | .brk σ h => .nx σ h
  | y => y
def forL (s : Src) (g : Gx) (b : Sx) (c : Ctx) : Nat → Nat → Env → IH → Fl
  | 0, k, σ, h => (match s.at k h with
    | .stop => .nx σ h
    | _ => .bad)
  | f + 1, k, σ, h => (match s.at k h with
    | .stop => .nx σ h
    | .yld v => ((g v c σ h).fl.seq fun σ h => b c σ h).turn fun σ h => forL s g b c f (k + 1) σ h
    | .bad => .bad)
def sFor (it : Ix) (g : Gx) (b : Sx) : Sx := fun c σ h => match it c σ h with
  | .ok s h => forL s g b c (s.len h) 0 σ h
  | .exc e h => .exc e σ h
  | .bad => .bad
def whlL (t : Tx) (b : Sx) (c : Ctx) : Nat → Env → IH → Fl
  | 0, _, _ => .bad
  | f + 1, σ, h => flowT (t c σ h) σ fun k h => if k = true then (b c σ h).turn fun σ h => whlL t b c f σ h else .nx σ h
def whileMax : Nat := 1000000
def sWhl (t : Tx) (b : Sx) : Sx := fun c σ h => whlL t b c whileMax σ h
/-! comprehensions -/
def wipeE (σ : Env) : List Nat → Env
  | [] => σ
  | v :: vs => (wipeE σ vs).set v none
def lcL (s : Src) (g : Gx) (t : Tx) (e : Ex) (c : Ctx) (σ : Env) (d : Nat) : Nat → Nat → IH → Out IV
  | 0, k, h => (match s.at k h with
    | .stop => .ok (.ref d) h
    | _ => .bad)
  | f + 1, k, h => (match s.at k h with
    | .stop => .ok (.ref d) h
    | .yld v => (match g v c σ h with
      | .ok σ' h => (match t c σ' h with
        | .ok true h => (match e c σ' h with
          | .ok y h => (match h.get d with
            | some (.lst acc) => if acc.length < sizeLine then lcL s g t e c σ d f (k + 1) (h.put d (.lst (acc ++ [y]))) else .bad
            | _ => .bad)
          | _ => .bad)
        | .ok false h => lcL s g t e c σ d f (k + 1) h
        | _ => .bad)
      | _ => .bad)
    | .bad => .bad)
def tYes : Tx := fun _ _ h => .ok true h
def eLc (own : List Nat) (it : Ix) (g : Gx) (t : Tx) (e : Ex) : Ex := fun c σ h => (it c σ h).bind fun s h => lcL s g t e c (wipeE σ own) h.n (s.len h) 0 (h.push (.lst []))
/-! ### programs -/
/-- a def: how many names, how many parameters, its body -/
structure Df where
  N : Nat
  p : Nat
  body : Sx
def startE (n : Nat) (vs : List IV) : Env := vs.map some ++ List.replicate (n - vs.length) none
def Fl.out (x : Fl) : Out IV := match x with
  | .ret v h => .ok v h
  | .nx _ h => .ok .non h
  | .exc e _ h => .exc e h
  | _ => .bad
structure Prog where
  df : Nat → Option Df
  lm : Nat → Option Df
def runDf (d : Option Df) (c : Ctx) (pre : List (Option IV)) (vs : List IV) (h : IH) : Out IV := match d with
  | some d => if vs.length = d.p then (d.body c (vs.map some ++ pre ++ List.replicate (d.N - vs.length - pre.length) none) h).out else .bad
  | none => .bad
def ctx (P : Prog) : Nat → Ctx
  | 0 => ⟨fun _ _ _ => .bad, fun _ _ _ _ => .bad⟩
  | n + 1 => ⟨fun g vs h => runDf (P.df g) (ctx P n) [] vs h, fun k cs vs h => runDf (P.lm k) (ctx P n) cs vs h⟩
end MI
end

section
set_option Elab.async false
set_option linter.all false
set_option maxRecDepth 100000
set_option autoImplicit false
set_option maxHeartbeats 1000000
/-! MI, the relation: how MI's values and heap stand for the layer's. -/
namespace MI
open PySem L2

/-- a lambda's words -/
structure LmI where
  qual : Str
  params : Arguments
  body : Expr
  scope : Scope
  ps : List Str
  fr : List Str
def LmO (f c' : Addr) (L : LmI) (cl : List (Str × Addr)) : HO := .ext fun h => ∃ pm ctv : Value, h.get? f = some (PySem.W.kla_obj "<lambda>" L.qual L.params L.body L.scope cl pm c' ctv)
/-- what a law's program is: where its defs and error classes stand, the fields of the classes -/
structure Gl where
  P : Program
  w : World
  K : PySem.W.Frag
  mg : Str → Option Value
  base : Heap
  fa : Nat → Addr
  ca : Nat → Addr
  cf : Nat → List Str
  lm : Nat → LmI
  T : List (Addr × Str)
structure Pt where
  ρ : Nat → Addr
  n : Nat
  H : Hp
def PersO : HO → Prop
  | .tup _ => True
  | .ext _ => True
  | .frz _ _ => True
  | _ => False
/-- what is never written (tables grow) -/
def Fix : HO → Prop
  | .tup _ => True
  | .ext _ => True
  | .frz _ _ => True
  | .tbl _ => True
  | _ => False
theorem Fix.of {o : HO} (h : PersO o) : Fix o := by cases o <;> first | exact h | exact h.elim
def Pers (H H' : Hp) : Prop := ∀ a o, H a = some o → PersO o → H' a = some o
theorem Pers.refl (H : Hp) : Pers H H := fun _ _ e _ => e
theorem Pers.trans {H H1 H2 : Hp} (a : Pers H H1) (b : Pers H1 H2) : Pers H H2 := fun x o e p => b x o (a x o e p) p
theorem Pers.new {H : Hp} {p : Addr} {o : HO} (h : H p = none) : Pers H (upd H p o) := fun a u e _ => by rw [upd_ne (ne_of_none e h)]; exact e
theorem Pers.wr {H : Hp} {p : Addr} {o u : HO} (h : H p = some u) (n : ¬ PersO u) : Pers H (upd H p o) := fun a v e k => by
  rw [upd_ne]
  · exact e
  · intro z; subst z; rw [h] at e; cases e; exact n k
structure Pt.Le (p q : Pt) : Prop where
  n : p.n ≤ q.n
  ρ : ∀ i, i < p.n → q.ρ i = p.ρ i
  H : Pers p.H q.H
theorem Pt.Le.refl (p : Pt) : p.Le p := ⟨Nat.le_refl _, fun _ _ => rfl, Pers.refl _⟩
theorem Pt.Le.trans {p q r : Pt} (a : p.Le q) (b : q.Le r) : p.Le r := ⟨Nat.le_trans a.n b.n, fun i h => (b.ρ i (Nat.lt_of_lt_of_le h a.n)).trans (a.ρ i h), a.H.trans b.H⟩

/-- a list of the program's own that is never written: the law's script -/
def FrzL (K : PySem.W.Frag) (H : Hp) (a : Addr) (xs : List V) : Prop := (∃ o, H a = some (.frz o (.lst xs))) ∨
  ∃ (o : Obj) (its : Array Value) (n : Nat), K.lookup a = some o ∧ o.cls = .type "list" ∧ o.dict = none ∧ o.data = .seq its n ∧ its.size ≤ sizeLine ∧ Vals xs its.toList
theorem FrzL.sq {K : PySem.W.Frag} {H : Hp} {a : Addr} {xs : List V} (h : FrzL K H a xs) : SqL K H a xs := by
  rcases h with h | h
  · exact .inl (.inr h)
  · exact .inr h
theorem FrzL.mono {K : PySem.W.Frag} {H H' : Hp} {a : Addr} {xs : List V} (l : Pers H H') (h : FrzL K H a xs) : FrzL K H' a xs := by
  rcases h with ⟨o, h⟩ | h
  · exact .inl ⟨o, l _ _ h trivial⟩
  · exact .inr h
variable (G : Gl)
mutual
def VR (p : Pt) : IV → V → Prop
  | .non, x => x = .non
  | .bl b, x => x = .bl b
  | .int i, x => x = .int i
  | .str s, x => x = .str s
  | .tup vs, x => ∃ a xs, x = .ref a ∧ p.H a = some (.tup xs) ∧ VRs p vs xs
  | .ref i, x => i < p.n ∧ x = .ref (p.ρ i)
  | .gfn g, x => x = .ref (G.fa g)
  | .exc c vs, x => ∃ a d fs, x = .ref a ∧ p.H a = some (exo a (G.ca c) d) ∧ (match d with
      | none => vs = []
      | some dx => p.H dx = some (exd dx fs)) ∧ VRf p fs (G.cf c) vs
  | .scr ns, x => ∃ a, x = .ref a ∧ FrzL G.K p.H a (ns.map V.int)
  | .tok _, _ => False
def VRs (p : Pt) : List IV → List V → Prop
  | [], xs => xs = []
  | v :: vs, xs => ∃ y ys, xs = y :: ys ∧ VR p v y ∧ VRs p vs ys
def VRf (p : Pt) (fs : List (Str × V)) (ns : List Str) : List IV → Prop
  | [] => ns = []
  | v :: vs => ∃ f ns', ns = f :: ns' ∧ (∃ y, fs.lookup f = some y ∧ VR p v y) ∧ VRf p fs ns' vs
end
variable {G}
mutual
theorem VR.mono {p q : Pt} (l : p.Le q) : ∀ {v : IV} {x : V}, VR G p v x → VR G q v x
  | .non, _, h => h
  | .bl _, _, h => h
  | .int _, _, h => h
  | .str _, _, h => h
  | .tup vs, x, h => by
    unfold VR at h ⊢
    obtain ⟨a, xs, e, ha, r⟩ := h
    exact ⟨a, xs, e, l.H _ _ ha trivial, VRs.mono l r⟩
  | .ref i, x, h => by
    unfold VR at h ⊢
    exact ⟨Nat.lt_of_lt_of_le h.1 l.n, by rw [l.ρ i h.1]; exact h.2⟩
  | .gfn _, _, h => h
  | .exc c vs, x, h => by
    unfold VR at h ⊢
    obtain ⟨a, d, fs, e, ha, hd, r⟩ := h
    refine ⟨a, d, fs, e, l.H _ _ ha trivial, ?_, VRf.mono l r⟩
    cases d with
    | none => exact hd
    | some dx => exact l.H _ _ hd trivial
  | .scr ns, x, h => by
    unfold VR at h ⊢
    obtain ⟨a, e, r⟩ := h
    exact ⟨a, e, r.mono l.H⟩
  | .tok _, _, h => h
theorem VRs.mono {p q : Pt} (l : p.Le q) : ∀ {vs : List IV} {xs : List V}, VRs G p vs xs → VRs G q vs xs
  | [], _, h => h
  | v :: vs, xs, h => by
    unfold VRs at h ⊢
    obtain ⟨y, ys, e, r, rs⟩ := h
    exact ⟨y, ys, e, VR.mono l r, VRs.mono l rs⟩
theorem VRf.mono {p q : Pt} (l : p.Le q) {fs : List (Str × V)} : ∀ {ns : List Str} {vs : List IV}, VRf G p fs ns vs → VRf G q fs ns vs
  | _, [], h => h
  | ns, v :: vs, h => by
    unfold VRf at h ⊢
    obtain ⟨f, ns', e, ⟨y, hy, r⟩, rs⟩ := h
    exact ⟨f, ns', e, ⟨y, hy, VR.mono l r⟩, VRf.mono l rs⟩
end
theorem VRs.length {p : Pt} : ∀ {vs : List IV} {xs : List V}, VRs G p vs xs → xs.length = vs.length
  | [], _, h => by unfold VRs at h; rw [h]; rfl
  | v :: vs, xs, h => by
    unfold VRs at h
    obtain ⟨y, ys, e, _, rs⟩ := h
    rw [e, List.length_cons, List.length_cons, VRs.length rs]
theorem VRs.get {p : Pt} : ∀ {vs : List IV} {xs : List V} {i : Nat} {v : IV}, VRs G p vs xs → vs[i]? = some v → ∃ x, xs[i]? = some x ∧ VR G p v x
  | [], _, _, _, _, e => by simp at e
  | u :: vs, xs, 0, v, h, e => by
    unfold VRs at h
    obtain ⟨y, ys, e1, r, rs⟩ := h
    simp at e; subst e e1
    exact ⟨y, rfl, r⟩
  | u :: vs, xs, i + 1, v, h, e => by
    unfold VRs at h
    obtain ⟨y, ys, e1, r, rs⟩ := h
    subst e1
    obtain ⟨x, h1, h2⟩ := VRs.get rs (by simpa using e)
    exact ⟨x, by simpa using h1, h2⟩
theorem VRs.none {p : Pt} {vs : List IV} {xs : List V} {i : Nat} (h : VRs G p vs xs) (e : vs[i]? = none) : xs[i]? = none := by
  rw [List.getElem?_eq_none_iff] at e ⊢; rw [h.length]; exact e
theorem VRs.nil {p : Pt} : VRs G p [] [] := by unfold VRs; rfl
theorem VRs.cons {p : Pt} {v : IV} {x : V} {vs : List IV} {xs : List V} (r : VR G p v x) (rs : VRs G p vs xs) : VRs G p (v :: vs) (x :: xs) := by
  unfold VRs; exact ⟨x, xs, rfl, r, rs⟩
theorem VRs.app {p : Pt} : ∀ {vs us : List IV} {xs ys : List V}, VRs G p vs xs → VRs G p us ys → VRs G p (vs ++ us) (xs ++ ys)
  | [], _, xs, ys, h, k => by unfold VRs at h; subst h; exact k
  | v :: vs, us, xs, ys, h, k => by
    unfold VRs at h
    obtain ⟨y, zs, e, r, rs⟩ := h
    subst e
    exact VRs.cons r (VRs.app rs k)
theorem VRs.drop {p : Pt} : ∀ (n : Nat) {vs : List IV} {xs : List V}, VRs G p vs xs → VRs G p (vs.drop n) (xs.drop n)
  | 0, _, _, h => h
  | n + 1, [], xs, h => by unfold VRs at h; subst h; exact VRs.nil
  | n + 1, v :: vs, xs, h => by
    unfold VRs at h
    obtain ⟨y, zs, e, r, rs⟩ := h
    subst e
    exact VRs.drop n rs
theorem VRs.take {p : Pt} : ∀ (n : Nat) {vs : List IV} {xs : List V}, VRs G p vs xs → VRs G p (vs.take n) (xs.take n)
  | 0, _, _, h => VRs.nil
  | n + 1, [], xs, h => by unfold VRs at h; subst h; exact VRs.nil
  | n + 1, v :: vs, xs, h => by
    unfold VRs at h
    obtain ⟨y, zs, e, r, rs⟩ := h
    subst e
    exact VRs.cons r (VRs.take n rs)
theorem VRs.set {p : Pt} {v : IV} {x : V} (rv : VR G p v x) : ∀ (n : Nat) {vs : List IV} {xs : List V}, VRs G p vs xs → VRs G p (vs.set n v) (xs.set n x)
  | n, [], xs, h => by unfold VRs at h; subst h; exact VRs.nil
  | 0, u :: vs, xs, h => by
    unfold VRs at h
    obtain ⟨y, zs, e, r, rs⟩ := h
    subst e
    exact VRs.cons rv rs
  | n + 1, u :: vs, xs, h => by
    unfold VRs at h
    obtain ⟨y, zs, e, r, rs⟩ := h
    subst e
    exact VRs.cons r (VRs.set rv n rs)
theorem VRs.erase {p : Pt} : ∀ (n : Nat) {vs : List IV} {xs : List V}, VRs G p vs xs → VRs G p (vs.eraseIdx n) (xs.eraseIdx n)
  | n, [], xs, h => by unfold VRs at h; subst h; exact VRs.nil
  | 0, u :: vs, xs, h => by
    unfold VRs at h
    obtain ⟨y, zs, e, r, rs⟩ := h
    subst e
    exact rs
  | n + 1, u :: vs, xs, h => by
    unfold VRs at h
    obtain ⟨y, zs, e, r, rs⟩ := h
    subst e
    exact VRs.cons r (VRs.erase n rs)
theorem VRs.inv {p : Pt} {v : IV} {vs : List IV} {xs : List V} (h : VRs G p (v :: vs) xs) : ∃ y ys, xs = y :: ys ∧ VR G p v y ∧ VRs G p vs ys := by
  unfold VRs at h; exact h
theorem VRs.inv0 {p : Pt} {xs : List V} (h : VRs G p [] xs) : xs = [] := by unfold VRs at h; exact h

/-! ### objects -/
variable (G)
def KVR {κ : Type} (p : Pt) : List (κ × IV) → List (κ × V) → Prop
  | [], ks => ks = []
  | (k, v) :: r, ks => ∃ x ks', ks = (k, x) :: ks' ∧ VR G p v x ∧ KVR p r ks'
def OR (p : Pt) : IO → Addr → Prop
  | .lst vs, a => ∃ xs, p.H a = some (.lst xs) ∧ VRs G p vs xs
  | .dct kvs, a => ∃ ks, p.H a = some (.dK ks) ∧ KVR G p kvs ks
  | .dcT kvs, a => ∃ ks, p.H a = some (.dT ks) ∧ KVR G p kvs ks
  | .lam k cs, a => ∃ c', cs = [] ∧ p.H a = some (LmO a c' (G.lm k) []) ∧ p.H c' = some (LamX.CodeO c' (G.lm k).qual)
structure RelI (p : Pt) (σI : Env) (ih : IH) (σ : L2.St) : Prop where
  n : ih.n = p.n
  inj : ∀ i j, i < p.n → j < p.n → p.ρ i = p.ρ j → i = j
  th : ∀ i, i < p.n → p.H (p.ρ i) ≠ none
  ob : ∀ i o, i < p.n → ih.get i = some o → OR G p o (p.ρ i)
  tab : LamX.Tabs G.T p.H
  len : σ.length = σI.length
  vars : ∀ (i : Nat) (v : IV), σI[i]? = some (some v) → ∃ x, σ[i]? = some (some x) ∧ VR G p v x
/-- how an error that flies stands for MI's -/
def XR (p : Pt) (e : IV) (cls : Value) (d : Option Addr) : Prop :=
  ∃ c vs fs, e = .exc c vs ∧ cls = .ref (G.ca c) ∧ (match d with
    | none => vs = []
    | some dx => p.H dx = some (.xd fs)) ∧ VRf G p fs (G.cf c) vs
variable {G}
def Post {α β : Type} (G : Gl) (W : WX) (σI : Env) (σ : L2.St) (R : Pt → α → β → Prop) (p : Pt) (res : Out α) (Q : β → Hp → Prop) : Prop :=
  match res with
  | .ok v ih => ∀ q x, p.Le q → RelI G q σI ih σ → R q v x → Q x q.H
  | .exc e ih => ∀ q cls d, p.Le q → RelI G q σI ih σ → XR G q e cls d → W cls d σ q.H
  | .bad => False
theorem Post.le {α β : Type} {W : WX} {σI : Env} {σ : L2.St} {R : Pt → α → β → Prop} {p q : Pt} {res : Out α} {Q : β → Hp → Prop} (l : p.Le q) (h : Post G W σI σ R p res Q) : Post G W σI σ R q res Q := by
  cases res with
  | ok v ih => exact fun r x l' => h r x (l.trans l')
  | exc e ih => exact fun r c d l' => h r c d (l.trans l')
  | bad => exact h
theorem Post.imp {α β : Type} {W : WX} {σI : Env} {σ : L2.St} {R : Pt → α → β → Prop} {p : Pt} {res : Out α} {Q Q' : β → Hp → Prop} (h : Post G W σI σ R p res Q) (k : ∀ x H, Q x H → Q' x H) : Post G W σI σ R p res Q' := by
  cases res with
  | ok v ih => exact fun r x l' a b => k _ _ (h r x l' a b)
  | exc e ih => exact h
  | bad => exact h
/-- one after another -/
theorem Post.bind {α β γ δ : Type} {W : WX} {σI : Env} {σ : L2.St} {R : Pt → α → β → Prop} {R' : Pt → γ → δ → Prop} {p : Pt} {x : Out α} {k : α → IH → Out γ} {Q : δ → Hp → Prop}
    (h : Post G W σI σ R' p (x.bind k) Q) : Post G W σI σ R p x (fun a H => ∃ q v ih, q.H = H ∧ p.Le q ∧ RelI G q σI ih σ ∧ R q v a ∧ x = .ok v ih ∧ Post G W σI σ R' q (k v ih) Q) := by
  cases x with
  | ok v ih => exact fun q a l r rv => ⟨q, v, ih, rfl, l, r, rv, rfl, Post.le l h⟩
  | exc e ih => exact h
  | bad => exact h
def tG {α β : Type} (G : Gl) (W : WX) (R : Pt → α → β → Prop) (f : Env → IH → Out α) : L2.St → Hp → (β → Hp → Prop) → Prop := fun σ H Q =>
  ∃ p σI ih, p.H = H ∧ RelI G p σI ih σ ∧ Post G W σI σ R p (f σI ih) Q
theorem tG.of {α β : Type} {W : WX} {R : Pt → α → β → Prop} {f : Env → IH → Out α} {σ : L2.St} {Q : β → Hp → Prop} {p : Pt} {σI : Env} {ih : IH} (r : RelI G p σI ih σ) (h : Post G W σI σ R p (f σI ih) Q) : tG G W R f σ p.H Q := ⟨p, σI, ih, rfl, r, h⟩
abbrev tE (G : Gl) (W : WX) (f : Env → IH → Out IV) : TE := tG G W (VR G) f
abbrev tT (G : Gl) (W : WX) (f : Env → IH → Out Bool) : TT := tG G W (fun _ a b => a = b) f
abbrev tL (G : Gl) (W : WX) (f : Env → IH → Out (List IV)) : TA := tG G W (VRs G) f

/-- the room that a budget asks -/
def lv (n : Nat) : Nat := 2 * n + 4
theorem RelI.bare {p : Pt} {σI : Env} {ih : IH} {σ : L2.St} (R : RelI G p σI ih σ) : RelI G p [] ih [] := ⟨R.n, R.inj, R.th, R.ob, R.tab, rfl, fun i v e => by simp at e⟩
/-- a def's outcome -/
def PostO (G : Gl) (p : Pt) (res : Out IV) (Q : VK) (E : XK) : Prop := match res with
  | .ok v ih => ∀ q x, p.Le q → RelI G q [] ih [] → VR G q v x → Q x q.H
  | .exc e ih => ∀ q cls d, p.Le q → RelI G q [] ih [] → XR G q e cls d → E cls d q.H
  | .bad => False
/-- what a def promises: what MI reckons -/
def spI (G : Gl) (f : List IV → IH → Out IV) (k : Nat) : Sp := fun vs H Q E => vs.length = k ∧ ∃ p ivs ih, p.H = H ∧ RelI G p [] ih [] ∧ VRs G p ivs vs ∧ PostO G p (f ivs ih) Q E
structure DefAt (G : Gl) (nm : Str) (ps : List Str) (f : Addr) (fd : FuncData) : Prop where
  mg : G.mg nm = some (.ref f)
  keep : PySem.W.keepIn G.K (.ref f) = true
  binds : Binds G.K fd ps []
def AllOk (G : Gl) (Pr : Prog) (nm : Nat → Str) (ps : Nat → List Str) (n : Nat) : Prop := ∀ g d, Pr.df g = some d →
  ∃ fd, DefAt G (nm g) (ps g) (G.fa g) fd ∧ (ps g).length = d.p ∧ FnOk G.P G.w G.K G.mg G.base (L2.CX G.P G.w) (lv n) (G.fa g) fd (ps g) (spI G ((ctx Pr n).call g) d.p)
/-- the program as it is known: its defs' names and parameters -/
structure Tb where
  Pr : Prog
  nm : Nat → Str
  ps : Nat → List Str
/-- a block's names: their places, its scope, the names whose cells are its own -/
structure Fs where
  N : List Str
  sc : Scope
  fn : Str → Bool
  cd : Option (Addr × Addr)
  q : Str
/-- a lambda's promise -/
structure LOk (P : Program) (w : World) (K : PySem.W.Frag) (mg : Str → Option Value) (base : Heap) (CX : CXT) (k : Nat) (L : LmI) (sp : Sp) : Prop where
  len : ∀ vs H Q E, sp vs H Q E → vs.length = L.ps.length
  run : ∀ (f c' : Addr) (A : Around) (outer : List PySem.Env) (s : Shared) (H : Hp) (us : List Value) (vs : List V) (Q : VK) (E : XK), Room k A → Env0 P w K mg base A outer s H → H f = some (LmO f c' L []) → H c' = some (LamX.CodeO c' L.qual) →
    Vals vs us → sp vs H Q E → codeAny (model P w) A (.call (.ref f) ⟨us, []⟩) (CR CX outer P w H s Q E) s
def AllLm (G : Gl) (Pr : Prog) (n : Nat) : Prop := ∀ k d, Pr.lm k = some d → (G.lm k).ps.length = d.p ∧ LOk G.P G.w G.K G.mg G.base (L2.CX G.P G.w) (lv n) (G.lm k) (spI G ((ctx Pr n).lam k []) d.p)
/-- where a def's lambdas are noted -/
structure CdOk (G : Gl) (q : Str) (c P : Addr) : Prop where
  tb : LamX.TabB G.base G.mg c P
  mem : (P, q ++ "<lambda>") ∈ G.T
  uniq : ∀ p ∈ G.T, p.1 = P → p.2 = q ++ "<lambda>"
structure CtxOk (G : Gl) (Pr : Tb) (S : Fs) (n : Nat) (X : Cx) (W : WX) : Prop where
  prog : X.prog = G.P
  w : X.w = G.w
  K : X.K = G.K
  mg : X.mg = G.mg
  base : X.base = G.base
  eN : X.N = S.N
  nd : S.N.Nodup
  esc : X.env.scope = S.sc
  calm : X.calm = true
  room : Room (lv n) X.A
  takes : Takes X W
  pass : PassesOwn (model X.prog X.w) X.A X.env X.xe
  all : AllOk G Pr.Pr Pr.nm Pr.ps n
  fn : X.fn = S.fn
  lms : AllLm G Pr.Pr n
  kf : ∀ g, PySem.W.keepIn G.K (.ref (G.fa g)) = true
  code : ∀ c P, S.cd = some (c, P) → X.env.code = .ref c ∧ X.env.qual = S.q ∧ CdOk G S.q c P
def SE (G : Gl) (Pr : Tb) (S : Fs) (n : Nat) (e : Expr) (f : Ex) : Prop := ∀ X W, CtxOk G Pr S n X W → PE X e (tE G W (f (ctx Pr.Pr n)))
def ST (G : Gl) (Pr : Tb) (S : Fs) (n : Nat) (e : Expr) (f : Tx) : Prop := ∀ X W, CtxOk G Pr S n X W → PT X e (tT G W (f (ctx Pr.Pr n)))
def SA (G : Gl) (Pr : Tb) (S : Fs) (n : Nat) (es : List Expr) (f : Lx) : Prop := ∀ X W, CtxOk G Pr S n X W → PA X es (tL G W (f (ctx Pr.Pr n)))
theorem pe_imp {X : Cx} {e : Expr} {t t' : TE} (h : PE X e t) (k : ∀ σ H Q, t' σ H Q → t σ H Q) : PE X e t' := ⟨fun pins s σ H Q I q => h.run pins s σ H Q I (k _ _ _ q)⟩
theorem pt_imp {X : Cx} {e : Expr} {t t' : TT} (h : PT X e t) (k : ∀ σ H Q, t' σ H Q → t σ H Q) : PT X e t' := ⟨fun pins s σ H Q I q => h.run pins s σ H Q I (k _ _ _ q)⟩
theorem pa_imp {X : Cx} {es : List Expr} {t t' : TA} (h : PA X es t) (k : ∀ σ H Q, t' σ H Q → t σ H Q) : PA X es t' := ⟨fun pos pins s σ H Q I q => h.run pos pins s σ H Q I (k _ _ _ q)⟩
theorem ps_imp {X : Cx} {e : Stmt} {t t' : TS} (h : PS X e t) (k : ∀ D σ H, t' D σ H → t D σ H) : PS X e t' := ⟨fun pins s σ H D I q => h.run pins s σ H D I (k _ _ _ q)⟩
theorem pss_imp {X : Cx} {e : List Stmt} {t t' : TS} (h : PSs X e t) (k : ∀ D σ H, t' D σ H → t D σ H) : PSs X e t' := ⟨fun pins s σ H D I q => h.run pins s σ H D I (k _ _ _ q)⟩
end MI
end

section
set_option Elab.async false
set_option linter.all false
set_option maxRecDepth 100000
set_option autoImplicit false
set_option maxHeartbeats 1000000
/-! MI, expressions: each combinator is what the layer's rule reads. -/
namespace MI
open PySem L2
variable {G : Gl} {Pr : Tb} {S : Fs} {n : Nat}

theorem RelI.var {p : Pt} {σI : Env} {ih : IH} {σ : L2.St} (R : RelI G p σI ih σ) {i : Nat} {v : IV} (h : vGet σI i = some v) : ∃ x, σ[i]? = some (some x) ∧ VR G p v x := by
  unfold vGet at h
  split at h
  · rename_i u e; cases h; exact R.vars i _ e
  · cases h
/-- the end of a part that gives a value and leaves the state -/
theorem post_ok {α β : Type} {W : WX} {σI : Env} {σ : L2.St} {R : Pt → α → β → Prop} {p : Pt} {ih : IH} {v : α} {Q : β → Hp → Prop} {x : β} (h : Post G W σI σ R p (.ok v ih) Q) (r : RelI G p σI ih σ) (rv : R p v x) : Q x p.H := h p x (Pt.Le.refl p) r rv
theorem out_of {α : Type} {x : Option α} {h : IH} {β : Type} {W : WX} {σI : Env} {σ : L2.St} {R : Pt → α → β → Prop} {p : Pt} {Q : β → Hp → Prop} (hp : Post G W σI σ R p (Out.of x h) Q) : ∃ v, x = some v ∧ Post G W σI σ R p (.ok v h) Q := by
  cases x with
  | none => exact hp.elim
  | some v => exact ⟨v, rfl, hp⟩

/-! ### names and constants -/
theorem se_var {i : Nat} {x : Str} {pos : Pos} (hN : S.N[i]? = some x) (hv : Vis S.sc x) (hd : (x == ("__debug__" : Str)) = false := by decide) (hcd : (x == ("__classdict__" : Str)) = false := by decide) : SE G Pr S n (.Name x pos) (eVar i) := fun X W c =>
  pe_imp (pe_var (i := i) (by rw [c.eN]; exact hN) (by rw [c.esc]; exact hv) hd hcd) fun σ H Q ⟨p, σI, ih, eH, R, hp⟩ => by
    obtain ⟨v, e, hq⟩ := out_of hp
    obtain ⟨x, hx, rv⟩ := R.var e
    subst eH
    exact ⟨x, hx, post_ok hq R rv⟩
theorem se_con {v : IV} {x : V} {e : Expr} (h : ∀ X : Cx, PE X e (tC x)) (rv : ∀ p, VR G p v x) : SE G Pr S n e (eCon v) := fun X W c =>
  pe_imp (h X) fun σ H Q ⟨p, σI, ih, eH, R, hp⟩ => by
    subst eH
    exact post_ok hp R (rv p)
theorem se_int {i : Int} {j : Nat} {pos : Pos} : SE G Pr S n (.Constant (.int i) j pos) (eCon (.int i)) := se_con (fun _ => pe_int) fun _ => rfl
theorem se_bl {b : Bool} {j : Nat} {pos : Pos} : SE G Pr S n (.Constant (.bool b) j pos) (eCon (.bl b)) := se_con (fun _ => pe_bl) fun _ => rfl
theorem se_non {j : Nat} {pos : Pos} : SE G Pr S n (.Constant .none j pos) (eCon .non) := se_con (fun _ => pe_non) fun _ => rfl
theorem se_str {s : Str} {j : Nat} {pos : Pos} : SE G Pr S n (.Constant (.str s) j pos) (eCon (.str s)) := se_con (fun _ => pe_str) fun _ => rfl

/-! ### operators -/
def OpS (G : Gl) (f : IV → IV → IH → Out IV) (r : R2) : Prop :=
  ∀ (W : WX) (p : Pt) (σI : Env) (ih : IH) (σ : L2.St) (v u : IV) (x y : V) (Q : VK), RelI G p σI ih σ → VR G p v x → VR G p u y → Post G W σI σ (VR G) p (f v u ih) Q → r x y p.H Q
theorem op_read {W : WX} {f : IV → IV → IH → Out IV} {r : R2} (hs : OpS G f r) {fa fb : Env → IH → Out IV} {σ : L2.St} {H : Hp} {Q : VK}
    (h : tE G W (fun σ h => (fa σ h).bind fun x h => (fb σ h).bind fun y h => f x y h) σ H Q) : tOp r (tE G W fa) (tE G W fb) σ H Q := by
  obtain ⟨p, σI, ih, eH, R, hp⟩ := h
  subst eH
  refine tG.of R (Post.imp (Post.bind hp) ?_)
  rintro x H ⟨q, v, ih1, rfl, l, R1, rv, -, hp1⟩
  refine tG.of R1 (Post.imp (Post.bind hp1) ?_)
  rintro y H ⟨q2, u, ih2, rfl, l2, R2, ru, -, hp2⟩
  exact hs W q2 σI ih2 σ v u x y Q R2 (VR.mono l2 rv) ru hp2
theorem se_bin {a b : Expr} {op : Operator} {pos : Pos} {f : IV → IV → IH → Out IV} {r : R2} {fa fb : Ex} (ho : ∀ X W, CtxOk G Pr S n X W → OpR X (binaryOp op) r) (hs : OpS G f r) (ha : SE G Pr S n a fa) (hb : SE G Pr S n b fb) :
    SE G Pr S n (.BinOp a op b pos) (eOp f fa fb) := fun X W c => pe_imp (pe_op (ho X W c) (ha X W c) (hb X W c)) fun σ H Q h => op_read hs h
theorem se_cmp {a b : Expr} {op : CmpOp} {pos : Pos} {f : IV → IV → IH → Out IV} {r : R2} {fa fb : Ex} (ho : ∀ X W, CtxOk G Pr S n X W → OpR X (compareOp op) r) (hs : OpS G f r) (ha : SE G Pr S n a fa) (hb : SE G Pr S n b fb) (hm : behindInMarks op b = false) :
    SE G Pr S n (.Compare a [op] [b] pos) (eOp f fa fb) := fun X W c => pe_imp (pe_cmpR (ho X W c) (ha X W c) (hb X W c) hm) fun σ H Q h => op_read hs h
/-- a test by a comparison -/
theorem st_cmp {a b : Expr} {op : CmpOp} {pos : Pos} {f : IV → IV → IH → Out IV} {r : R2} {fa fb : Ex} (ho : ∀ X W, CtxOk G Pr S n X W → OpR X (compareOp op) r) (hs : OpS G f r) (ha : SE G Pr S n a fa) (hb : SE G Pr S n b fb) (hm : behindInMarks op b = false) :
    ST G Pr S n (.Compare a [op] [b] pos) (tBl (eOp f fa fb)) := fun X W c => pt_imp (pt_cmpR (ho X W c) (ha X W c) (hb X W c) hm) fun σ H Q h => by
  obtain ⟨p, σI, ih, eH, R, hp⟩ := h
  subst eH
  refine op_read hs (tG.of R (Post.imp (Post.bind hp) ?_))
  rintro x H ⟨q, v, ih1, rfl, l, R1, rv, -, hp1⟩
  cases v with
  | bl k => exact ⟨k, rv, post_ok hp1 R1 rfl⟩
  | _ => exact hp1.elim

/-! ### truth -/
theorem KVR.emp {κ : Type} {p : Pt} : ∀ {kvs : List (κ × IV)} {ks : List (κ × V)}, KVR G p kvs ks → ks.isEmpty = kvs.isEmpty
  | [], _, h => by unfold KVR at h; rw [h]; rfl
  | (k, v) :: r, _, h => by unfold KVR at h; obtain ⟨x, ks', e, _⟩ := h; rw [e]; rfl
theorem VRs.emp {p : Pt} : ∀ {vs : List IV} {xs : List V}, VRs G p vs xs → xs.isEmpty = vs.isEmpty
  | [], _, h => by rw [h.inv0]; rfl
  | v :: vs, _, h => by obtain ⟨y, ys, e, _⟩ := h.inv; rw [e]; rfl
theorem RelI.lst {p : Pt} {σI : Env} {ih : IH} {σ : L2.St} (R : RelI G p σI ih σ) {i : Nat} {x : V} {vs : List IV} (r : VR G p (.ref i) x) (e : ih.get i = some (.lst vs)) :
    ∃ xs, x = .ref (p.ρ i) ∧ i < p.n ∧ p.H (p.ρ i) = some (.lst xs) ∧ VRs G p vs xs := by
  unfold VR at r
  obtain ⟨xs, h1, h2⟩ := R.ob i _ r.1 e
  exact ⟨xs, r.2, r.1, h1, h2⟩
theorem RelI.dct {p : Pt} {σI : Env} {ih : IH} {σ : L2.St} (R : RelI G p σI ih σ) {i : Nat} {x : V} {kvs : List (Key × IV)} (r : VR G p (.ref i) x) (e : ih.get i = some (.dct kvs)) :
    ∃ ks, x = .ref (p.ρ i) ∧ i < p.n ∧ p.H (p.ρ i) = some (.dK ks) ∧ KVR G p kvs ks := by
  unfold VR at r
  obtain ⟨xs, h1, h2⟩ := R.ob i _ r.1 e
  exact ⟨xs, r.2, r.1, h1, h2⟩
theorem truthy_ok {K : PySem.W.Frag} {p : Pt} {σI : Env} {ih : IH} {σ : L2.St} (R : RelI G p σI ih σ) {v : IV} {x : V} {k : Bool} (r : VR G p v x) (e : truthy ih v = some k) : TruV K x p.H k := by
  cases v with
  | non => cases r; cases e; exact rfl
  | bl b => cases r; cases e; exact rfl
  | int i => cases r; cases e; exact rfl
  | str s =>
    cases r
    change (if s.length ≤ sizeLine then some ((s.length : Int) != 0) else none) = some k at e
    split at e
    · rename_i h; cases e; exact ⟨h, rfl⟩
    · cases e
  | tup vs =>
    unfold VR at r
    obtain ⟨a, xs, e1, h1, h2⟩ := r
    subst e1
    change (if vs.length ≤ sizeLine then some (!vs.isEmpty) else none) = some k at e
    split at e
    · cases e; exact .inr (.inl ⟨xs, SqT.of h1, by rw [h2.emp]⟩)
    · cases e
  | ref i =>
    change (match ih.get i with
      | some (.lst vs) => some (!vs.isEmpty)
      | some (.dct kvs) => some (!kvs.isEmpty)
      | _ => none) = some k at e
    cases q : ih.get i with
    | none => rw [q] at e; cases e
    | some o =>
      rw [q] at e
      cases o with
      | lst vs =>
        cases e
        obtain ⟨xs, e1, _, h1, h2⟩ := R.lst r q
        subst e1
        exact .inl ⟨xs, SqL.of h1, by rw [h2.emp]⟩
      | dct kvs =>
        cases e
        obtain ⟨xs, e1, _, h1, h2⟩ := R.dct r q
        subst e1
        exact .inr (.inr ⟨xs, h1, by rw [h2.emp]⟩)
      | dcT _ => cases e
      | lam k cs => cases e
  | gfn g => cases e
  | exc c vs => cases e
  | scr ns => cases e
  | tok k => cases e
theorem se_and {a b : Expr} {rest : List Expr} {pos : Pos} {fa fb : Ex} (ha : SE G Pr S n a fa) (hb : SE G Pr S n (.BoolOp .And (b :: rest) pos) fb) : SE G Pr S n (.BoolOp .And (a :: b :: rest) pos) (eAnd fa fb) := fun X W c =>
  pe_imp (pe_andT (ha X W c) (hb X W c)) fun σ H Q ⟨p, σI, ih, eH, R, hp⟩ => by
    subst eH
    refine tG.of R (Post.imp (Post.bind hp) ?_)
    rintro x H ⟨q, v, ih1, rfl, l, R1, rv, -, hp1⟩
    cases e : truthy ih1 v with
    | none => rw [e] at hp1; exact hp1.elim
    | some k =>
      refine ⟨k, truthy_ok R1 rv e, ?_⟩
      rw [e] at hp1
      cases k with
      | true => exact tG.of R1 hp1
      | false => exact post_ok hp1 R1 rv
theorem se_or {a b : Expr} {rest : List Expr} {pos : Pos} {fa fb : Ex} (ha : SE G Pr S n a fa) (hb : SE G Pr S n (.BoolOp .Or (b :: rest) pos) fb) : SE G Pr S n (.BoolOp .Or (a :: b :: rest) pos) (eOr fa fb) := fun X W c =>
  pe_imp (pe_orT (ha X W c) (hb X W c)) fun σ H Q ⟨p, σI, ih, eH, R, hp⟩ => by
    subst eH
    refine tG.of R (Post.imp (Post.bind hp) ?_)
    rintro x H ⟨q, v, ih1, rfl, l, R1, rv, -, hp1⟩
    cases e : truthy ih1 v with
    | none => rw [e] at hp1; exact hp1.elim
    | some k =>
      refine ⟨k, truthy_ok R1 rv e, ?_⟩
      rw [e] at hp1
      cases k with
      | true => exact post_ok hp1 R1 rv
      | false => exact tG.of R1 hp1
theorem se_one {op : BoolOp} {a : Expr} {pos : Pos} {fa : Ex} (ha : SE G Pr S n a fa) : SE G Pr S n (.BoolOp op [a] pos) fa := fun X W c => pe_one (ha X W c)
theorem se_not {a : Expr} {pos : Pos} {fa : Ex} (ha : SE G Pr S n a fa) : SE G Pr S n (.UnaryOp .Not a pos) (eNot fa) := fun X W c =>
  pe_imp (pe_notT (ha X W c)) fun σ H Q ⟨p, σI, ih, eH, R, hp⟩ => by
    subst eH
    refine tG.of R (Post.imp (Post.bind hp) ?_)
    rintro x H ⟨q, v, ih1, rfl, l, R1, rv, -, hp1⟩
    cases e : truthy ih1 v with
    | none => rw [e] at hp1; exact hp1.elim
    | some k =>
      refine ⟨k, truthy_ok R1 rv e, ?_⟩
      rw [e] at hp1
      exact post_ok hp1 R1 (rfl : V.bl (!k) = V.bl (!k))
/-! ### tests -/
theorem st_val {a : Expr} {fa : Ex} (ha : SE G Pr S n a fa) (he : ∀ env whole, isTrue a env whole = (do let v ← whole; standAt a.pos; holding [v] (PySem.truthy v))) : ST G Pr S n a (tVal fa) := fun X W c =>
  pt_imp (pt_truth (ha X W c) (he X.env)) fun σ H Q ⟨p, σI, ih, eH, R, hp⟩ => by
    subst eH
    refine tG.of R (Post.imp (Post.bind hp) ?_)
    rintro x H ⟨q, v, ih1, rfl, l, R1, rv, -, hp1⟩
    obtain ⟨k, e, hp2⟩ := out_of hp1
    exact ⟨k, truthy_ok R1 rv e, post_ok hp2 R1 rfl⟩
def SW (G : Gl) (Pr : Tb) (S : Fs) (n : Nat) (e : Expr) (f : Tx) : Prop := ∀ X W, CtxOk G Pr S n X W → PW X e (tT G W (f (ctx Pr.Pr n)))
theorem pw_imp {X : Cx} {e : Expr} {t t' : TT} (h : PW X e t) (k : ∀ σ H Q, t' σ H Q → t σ H Q) : PW X e t' := ⟨fun whole pins s σ H Q I q => h.run whole pins s σ H Q I (k _ _ _ q)⟩
theorem st_of {e : Expr} {f : Tx} (h : SW G Pr S n e f) : ST G Pr S n e f := fun X W c => (h X W c).pt
theorem and_read {W : WX} {fa fb : Env → IH → Out Bool} {σ : L2.St} {H : Hp} {Q : Bool → Hp → Prop} (h : tT G W (fun σ h => (fa σ h).bind fun x h => if x = true then fb σ h else .ok false h) σ H Q) : L2.tAnd (tT G W fa) (tT G W fb) σ H Q := by
  obtain ⟨p, σI, ih, eH, R, hp⟩ := h
  subst eH
  refine tG.of R (Post.imp (Post.bind hp) ?_)
  rintro x H ⟨q, v, ih1, rfl, l, R1, rv, -, hp1⟩
  subst rv
  cases v with
  | true => exact tG.of R1 hp1
  | false => exact post_ok hp1 R1 rfl
theorem or_read {W : WX} {fa fb : Env → IH → Out Bool} {σ : L2.St} {H : Hp} {Q : Bool → Hp → Prop} (h : tT G W (fun σ h => (fa σ h).bind fun x h => if x = true then .ok true h else fb σ h) σ H Q) : L2.tOr (tT G W fa) (tT G W fb) σ H Q := by
  obtain ⟨p, σI, ih, eH, R, hp⟩ := h
  subst eH
  refine tG.of R (Post.imp (Post.bind hp) ?_)
  rintro x H ⟨q, v, ih1, rfl, l, R1, rv, -, hp1⟩
  subst rv
  cases v with
  | true => exact post_ok hp1 R1 rfl
  | false => exact tG.of R1 hp1
theorem sw_and1 {a : Expr} {pos : Pos} {fa : Tx} (ha : ST G Pr S n a fa) : SW G Pr S n (.BoolOp .And [a] pos) fa := fun X W c => pw_and1 (ha X W c)
theorem sw_or1 {a : Expr} {pos : Pos} {fa : Tx} (ha : ST G Pr S n a fa) : SW G Pr S n (.BoolOp .Or [a] pos) fa := fun X W c => pw_or1 (ha X W c)
theorem sw_and {a b : Expr} {rest : List Expr} {pos : Pos} {fa fb : Tx} (ha : ST G Pr S n a fa) (hb : SW G Pr S n (.BoolOp .And (b :: rest) pos) fb) : SW G Pr S n (.BoolOp .And (a :: b :: rest) pos) (tAnd fa fb) := fun X W c =>
  pw_imp (pw_and (ha X W c) (hb X W c)) fun σ H Q h => and_read h
theorem sw_or {a b : Expr} {rest : List Expr} {pos : Pos} {fa fb : Tx} (ha : ST G Pr S n a fa) (hb : SW G Pr S n (.BoolOp .Or (b :: rest) pos) fb) : SW G Pr S n (.BoolOp .Or (a :: b :: rest) pos) (tOr fa fb) := fun X W c =>
  pw_imp (pw_or (ha X W c) (hb X W c)) fun σ H Q h => or_read h
theorem st_not {a : Expr} {pos : Pos} {fa : Tx} (ha : ST G Pr S n a fa) : ST G Pr S n (.UnaryOp .Not a pos) (tNot fa) := fun X W c =>
  pt_imp (pt_not (ha X W c)) fun σ H Q ⟨p, σI, ih, eH, R, hp⟩ => by
    subst eH
    refine tG.of R (Post.imp (Post.bind hp) ?_)
    rintro x H ⟨q, v, ih1, rfl, l, R1, rv, -, hp1⟩
    subst rv
    exact post_ok hp1 R1 rfl
theorem se_ife {t a b : Expr} {pos : Pos} {ft : Tx} {fa fb : Ex} (ht : ST G Pr S n t ft) (ha : SE G Pr S n a fa) (hb : SE G Pr S n b fb) : SE G Pr S n (.IfExp t a b pos) (eIf ft fa fb) := fun X W c =>
  pe_imp (pe_ifExp (ht X W c) (ha X W c) (hb X W c)) fun σ H Q ⟨p, σI, ih, eH, R, hp⟩ => by
    subst eH
    refine tG.of R (Post.imp (Post.bind hp) ?_)
    rintro x H ⟨q, v, ih1, rfl, l, R1, rv, -, hp1⟩
    subst rv
    cases v with
    | true => exact tG.of R1 hp1
    | false => exact tG.of R1 hp1
theorem chain_read {W : WX} {f g : IV → IV → IH → Out IV} {r r' : R2} (hf : OpS G f r) (hg : OpS G g r') {fa fb fd : Env → IH → Out IV} {σ : L2.St} {H : Hp} {Q : VK}
    (h : tE G W (fun σ h => (fa σ h).bind fun x h => (fb σ h).bind fun y h => (f x y h).bind fun z h => match z with
      | .bl true => (fd σ h).bind fun w h => g y w h
      | .bl false => .ok (.bl false) h
      | _ => .bad) σ H Q) : tChain r r' (tE G W fa) (tE G W fb) (tE G W fd) σ H Q := by
  obtain ⟨p, σI, ih, eH, R, hp⟩ := h
  subst eH
  refine tG.of R (Post.imp (Post.bind hp) ?_)
  rintro x H ⟨q, v, ih1, rfl, l, R1, rv, -, hp1⟩
  refine tG.of R1 (Post.imp (Post.bind hp1) ?_)
  rintro y H ⟨q2, u, ih2, rfl, l2, R2, ru, -, hp2⟩
  refine hf W q2 σI ih2 σ v u x y _ R2 (VR.mono l2 rv) ru (Post.imp (Post.bind hp2) ?_)
  rintro z H ⟨q3, t, ih3, rfl, l3, R3, rt, -, hp3⟩
  cases t with
  | bl k =>
    refine ⟨k, rt, ?_⟩
    cases k with
    | true =>
      refine tG.of R3 (Post.imp (Post.bind hp3) ?_)
      rintro w H ⟨q4, t, ih4, rfl, l4, R4, rw', -, hp4⟩
      exact hg W q4 σI ih4 σ u t y w Q R4 (VR.mono (l3.trans l4) ru) rw' hp4
    | false => exact post_ok hp3 R3 rfl
  | _ => exact hp3.elim
theorem se_chain {a b d : Expr} {op op' : CmpOp} {pos : Pos} {f g : IV → IV → IH → Out IV} {r r' : R2} {fa fb fd : Ex} (ho : ∀ X W, CtxOk G Pr S n X W → OpR X (compareOp op) r) (ho' : ∀ X W, CtxOk G Pr S n X W → OpR X (compareOp op') r') (hf : OpS G f r) (hg : OpS G g r')
    (ha : SE G Pr S n a fa) (hb : SE G Pr S n b fb) (hd : SE G Pr S n d fd) (hm : lastMarks [op, op'] [b, d] = false := by with_unfolding_all rfl) : SE G Pr S n (.Compare a [op, op'] [b, d] pos) (eChain f g fa fb fd) := fun X W c =>
  pe_imp (pe_chain (ho X W c) (ho' X W c) (ha X W c) (hb X W c) (hd X W c) hm) fun σ H Q h => chain_read hf hg h
theorem st_chain {a b d : Expr} {op op' : CmpOp} {pos : Pos} {f g : IV → IV → IH → Out IV} {r r' : R2} {fa fb fd : Ex} (ho : ∀ X W, CtxOk G Pr S n X W → OpR X (compareOp op) r) (ho' : ∀ X W, CtxOk G Pr S n X W → OpR X (compareOp op') r') (hf : OpS G f r) (hg : OpS G g r')
    (ha : SE G Pr S n a fa) (hb : SE G Pr S n b fb) (hd : SE G Pr S n d fd) (hm : lastMarks [op, op'] [b, d] = false := by with_unfolding_all rfl) : ST G Pr S n (.Compare a [op, op'] [b, d] pos) (tBl (eChain f g fa fb fd)) := fun X W c =>
  pt_imp (pt_chain (ho X W c) (ho' X W c) (ha X W c) (hb X W c) (hd X W c) hm) fun σ H Q h => by
    obtain ⟨p, σI, ih, eH, R, hp⟩ := h
    subst eH
    refine chain_read hf hg (tG.of R (Post.imp (Post.bind hp) ?_))
    rintro x H ⟨q, v, ih1, rfl, l, R1, rv, -, hp1⟩
    cases v with
    | bl k => exact ⟨k, rv, post_ok hp1 R1 rfl⟩
    | _ => exact hp1.elim
/-! ### arguments, calls of what is built in -/
theorem sa_nil : SA G Pr S n [] lNil := fun X W c => pa_imp pa_nil fun σ H Q ⟨p, σI, ih, eH, R, hp⟩ => by
  subst eH
  exact post_ok hp R VRs.nil
theorem sa_cons {e : Expr} {es : List Expr} {fe : Ex} {fs : Lx} (he : SE G Pr S n e fe) (hs : SA G Pr S n es fs) (hst : ∀ env, starEach (e :: es) env = (false, eval e env) :: starEach es env := by intro _; rfl) : SA G Pr S n (e :: es) (lCons fe fs) := fun X W c =>
  pa_imp (pa_cons (he X W c) (hs X W c) (hst X.env)) fun σ H Q ⟨p, σI, ih, eH, R, hp⟩ => by
    subst eH
    refine tG.of R (Post.imp (Post.bind hp) ?_)
    rintro x H ⟨q, v, ih1, rfl, l, R1, rv, -, hp1⟩
    refine tG.of R1 (Post.imp (Post.bind hp1) ?_)
    rintro xs H ⟨q2, vs, ih2, rfl, l2, R2, rvs, -, hp2⟩
    exact post_ok hp2 R2 (VRs.cons (VR.mono l2 rv) rvs)
def CaS (G : Gl) (f : List IV → IH → Out IV) (r : List V → Hp → VK → Prop) : Prop :=
  ∀ (W : WX) (p : Pt) (σI : Env) (ih : IH) (σ : L2.St) (vs : List IV) (xs : List V) (Q : VK), RelI G p σI ih σ → VRs G p vs xs → Post G W σI σ (VR G) p (f vs ih) Q → r xs p.H Q
theorem prim_read {W : WX} {f : List IV → IH → Out IV} {r : List V → Hp → VK → Prop} (hs : CaS G f r) {fa : Env → IH → Out (List IV)} {σ : L2.St} {H : Hp} {Q : VK} (h : tE G W (fun σ h => (fa σ h).bind f) σ H Q) : tL G W fa σ H (fun vs H1 => r vs H1 Q) := by
  obtain ⟨p, σI, ih, eH, R, hp⟩ := h
  subst eH
  refine tG.of R (Post.imp (Post.bind hp) ?_)
  rintro xs H ⟨q, vs, ih1, rfl, l, R1, rv, -, hp1⟩
  exact hs W q σI ih1 σ vs xs Q R1 rv hp1
theorem se_bltn {x : Str} {id : String} {e : Expr} {es : List Expr} {p pos : Pos} {f : List IV → IH → Out IV} {r : List V → Hp → VK → Prop} {fs : Lx} (hc : ∀ X W, CtxOk G Pr S n X W → CallR X (.builtin id) r) (hs : CaS G f r) (hg : S.sc.names.lookup x = some .globalImplicit) (hm : G.mg x = none)
    (hv : bootBuiltins x = some (.builtin id)) (ha : SA G Pr S n (e :: es) fs) (he : ∀ env, starEach (e :: es) env = (false, eval e env) :: starEach es env := by intro _; rfl) (hpl : ∀ env, (backTo pos (starEach es env)).any (·.1) = false := by intro _; rfl)
    (hn : x ≠ "__name__" := by decide) (hdb : (x == ("__debug__" : Str)) = false := by decide) : SE G Pr S n (.Call (.Name x p) (e :: es) [] pos) (ePrim f fs) := fun X W c =>
  pe_imp (pe_callB (hc X W c) (show X.env.scope.names.lookup x = _ by rw [c.esc]; exact hg) (by rw [c.mg]; exact hm) hv (ha X W c) hn hdb (he X.env) (hpl X.env)) fun σ H Q h => prim_read hs h
theorem se_bty {x : Str} {T : String} {e : Expr} {es : List Expr} {p pos : Pos} {f : List IV → IH → Out IV} {r : List V → Hp → VK → Prop} {fs : Lx} (hc : ∀ X W, CtxOk G Pr S n X W → CallR X (.type T) r) (hs : CaS G f r) (hg : S.sc.names.lookup x = some .globalImplicit) (hm : G.mg x = none)
    (hv : bootBuiltins x = some (.type T)) (ha : SA G Pr S n (e :: es) fs) (he : ∀ env, starEach (e :: es) env = (false, eval e env) :: starEach es env := by intro _; rfl) (hpl : ∀ env, (backTo pos (starEach es env)).any (·.1) = false := by intro _; rfl)
    (hn : x ≠ "__name__" := by decide) (hdb : (x == ("__debug__" : Str)) = false := by decide) : SE G Pr S n (.Call (.Name x p) (e :: es) [] pos) (ePrim f fs) := fun X W c =>
  pe_imp (pe_callTy (hc X W c) (show X.env.scope.names.lookup x = _ by rw [c.esc]; exact hg) (by rw [c.mg]; exact hm) hv (ha X W c) hn hdb (he X.env) (hpl X.env)) fun σ H Q h => prim_read hs h
end MI
end

section
set_option Elab.async false
set_option linter.all false
set_option maxRecDepth 100000
set_option autoImplicit false
set_option maxHeartbeats 1000000
/-! MI, objects made and changed; displays, subscripts, methods. -/
namespace MI
open PySem L2
variable {G : Gl} {Pr : Tb} {S : Fs} {n : Nat}

def Pt.add (p : Pt) (a : Addr) (o : HO) : Pt := ⟨fun i => if i = p.n then a else p.ρ i, p.n + 1, upd p.H a o⟩
def Pt.wr (p : Pt) (a : Addr) (o : HO) : Pt := ⟨p.ρ, p.n, upd p.H a o⟩
/-- beside MI's heap: a tuple, an error *)-/
def Pt.lay (p : Pt) (H : Hp) : Pt := ⟨p.ρ, p.n, H⟩
theorem Pt.le_add {p : Pt} {a : Addr} {o : HO} (h : p.H a = none) : p.Le (p.add a o) := ⟨Nat.le_succ _, fun i hi => if_neg (Nat.ne_of_lt hi), Pers.new h⟩
theorem Pt.le_wr {p : Pt} {a : Addr} {o u : HO} (h : p.H a = some u) (k : ¬ Fix u) : p.Le (p.wr a o) := ⟨Nat.le_refl _, fun _ _ => rfl, Pers.wr h fun z => k (Fix.of z)⟩
theorem Pt.le_lay {p : Pt} {H : Hp} (h : Pers p.H H) : p.Le (p.lay H) := ⟨Nat.le_refl _, fun _ _ => rfl, h⟩
theorem Pt.add_at {p : Pt} {a : Addr} {o : HO} : (p.add a o).ρ p.n = a := if_pos rfl
theorem KVR.mono {κ : Type} {p q : Pt} (l : p.Le q) : ∀ {kvs : List (κ × IV)} {ks : List (κ × V)}, KVR G p kvs ks → KVR G q kvs ks
  | [], _, h => h
  | (k, v) :: r, ks, h => by
    unfold KVR at h ⊢
    obtain ⟨x, ks', e, rv, rr⟩ := h
    exact ⟨x, ks', e, VR.mono l rv, KVR.mono l rr⟩
theorem OR.mono {p q : Pt} (l : p.Le q) {o : IO} {a : Addr} (ha : ∀ u, p.H a = some u → q.H a = some u) (h : OR G p o a) : OR G q o a := by
  cases o with
  | lst vs => obtain ⟨xs, e, r⟩ := h; exact ⟨xs, ha _ e, VRs.mono l r⟩
  | dct kvs => obtain ⟨ks, e, r⟩ := h; exact ⟨ks, ha _ e, KVR.mono l r⟩
  | dcT kvs => obtain ⟨ks, e, r⟩ := h; exact ⟨ks, ha _ e, KVR.mono l r⟩
  | lam k cs => obtain ⟨c', e0, e, r⟩ := h; exact ⟨c', e0, l.H _ _ e trivial, l.H _ _ r trivial⟩
theorem RelI.push {p : Pt} {σI : Env} {ih : IH} {σ : L2.St} {a : Addr} {ho : HO} {o : IO} (R : RelI G p σI ih σ) (hn : p.H a = none) (h : OR G (p.add a ho) o a) : RelI G (p.add a ho) σI (ih.push o) σ := by
  have l : p.Le (p.add a ho) := Pt.le_add hn
  have ne : ∀ i, i < p.n → p.ρ i ≠ a := fun i hi z => R.th i hi (by rw [z]; exact hn)
  refine ⟨by show ih.n + 1 = p.n + 1; rw [R.n], fun i j hi hj e => ?_, fun i hi => ?_, fun i u hi e => ?_, R.tab.ext (fun b o e => (upd_ne (ne_of_none e hn)).trans e), R.len, fun i v e => ?_⟩
  · change i < p.n + 1 at hi
    change j < p.n + 1 at hj
    change (if i = p.n then a else p.ρ i) = (if j = p.n then a else p.ρ j) at e
    by_cases h1 : i = p.n
    · by_cases h2 : j = p.n
      · rw [h1, h2]
      · rw [if_pos h1, if_neg h2] at e
        exact absurd e.symm (ne j (by omega))
    · by_cases h2 : j = p.n
      · rw [if_neg h1, if_pos h2] at e
        exact absurd e (ne i (by omega))
      · rw [if_neg h1, if_neg h2] at e
        exact R.inj i j (by omega) (by omega) e
  · change i < p.n + 1 at hi
    show upd p.H a ho (if i = p.n then a else p.ρ i) ≠ none
    by_cases h1 : i = p.n
    · rw [if_pos h1, upd_same]; exact fun z => nomatch z
    · rw [if_neg h1, upd_ne (ne i (by omega))]; exact R.th i (by omega)
  · rw [IH.get_push] at e
    change i < p.n + 1 at hi
    show OR G _ u (if i = p.n then a else p.ρ i)
    by_cases h1 : i = p.n
    · rw [if_pos (by rw [h1, R.n])] at e
      cases e
      rw [if_pos h1]; exact h
    · rw [if_neg (by rw [R.n]; exact h1)] at e
      rw [if_neg h1]
      refine OR.mono l (fun u' e' => ?_) (R.ob i u (by omega) e)
      show upd p.H a ho (p.ρ i) = _
      rw [upd_ne (ne i (by omega))]; exact e'
  · obtain ⟨x, e1, r⟩ := R.vars i v e
    exact ⟨x, e1, VR.mono l r⟩
theorem tabs_wr {H : Hp} {T : List (Addr × Str)} {a : Addr} {u ho : HO} (hu : H a = some u) (hk : ¬ Fix u) (h : LamX.Tabs T H) : LamX.Tabs T (upd H a ho) := fun q hq => by
  obtain ⟨ps, h1, h2, h3⟩ := h q hq
  have ne : ∀ b o, H b = some o → Fix o → upd H a ho b = some o := fun b o e f => by
    rw [upd_ne]
    · exact e
    · intro z; subst z; rw [hu] at e; cases e; exact hk f
  refine ⟨ps, ne _ _ h1 trivial, h2, fun pos cv hc => ?_⟩
  obtain ⟨c, e1, e2⟩ := h3 pos cv hc
  exact ⟨c, e1, ne _ _ e2 trivial⟩
theorem RelI.put {p : Pt} {σI : Env} {ih : IH} {σ : L2.St} {i : Nat} {ho u : HO} {o : IO} (R : RelI G p σI ih σ) (hi : i < p.n) (hu : p.H (p.ρ i) = some u) (hk : ¬ Fix u) (h : OR G (p.wr (p.ρ i) ho) o (p.ρ i)) : RelI G (p.wr (p.ρ i) ho) σI (ih.put i o) σ := by
  have l : p.Le (p.wr (p.ρ i) ho) := Pt.le_wr hu hk
  refine ⟨R.n, R.inj, fun j hj => ?_, fun j u hj e => ?_, tabs_wr hu hk R.tab, R.len, fun i v e => ?_⟩
  · show upd p.H (p.ρ i) ho (p.ρ j) ≠ none
    by_cases h1 : p.ρ j = p.ρ i
    · rw [h1, upd_same]; exact fun z => nomatch z
    · rw [upd_ne h1]; exact R.th j hj
  · rw [IH.get_put] at e
    by_cases h1 : j = i
    · rw [if_pos h1] at e
      cases e
      subst h1
      exact h
    · rw [if_neg h1] at e
      have ne : p.ρ j ≠ p.ρ i := fun z => h1 (R.inj j i hj hi z)
      refine OR.mono l (fun u' e' => ?_) (R.ob j u hj e)
      show upd p.H (p.ρ i) ho (p.ρ j) = _
      rw [upd_ne ne]; exact e'
  · obtain ⟨x, e1, r⟩ := R.vars i v e
    exact ⟨x, e1, VR.mono l r⟩
/-- things beside MI's heap come, all tracked objects stay -/
theorem RelI.lay {p : Pt} {σI : Env} {ih : IH} {σ : L2.St} {H : Hp} (R : RelI G p σI ih σ) (k : ∀ a o, p.H a = some o → H a = some o) : RelI G (p.lay H) σI ih σ := by
  have l : p.Le (p.lay H) := Pt.le_lay fun a o e _ => k a o e
  refine ⟨R.n, R.inj, fun j hj z => ?_, fun j u hj e => ?_, R.tab.ext k, R.len, fun i v e => ?_⟩
  · cases q : p.H (p.ρ j) with
    | none => exact R.th j hj q
    | some u => change H (p.ρ j) = none at z; rw [k _ _ q] at z; cases z
  · exact OR.mono l (fun u' e' => k _ _ e') (R.ob j u hj e)
  · obtain ⟨x, e1, r⟩ := R.vars i v e
    exact ⟨x, e1, VR.mono l r⟩
theorem same_new {H : Hp} {p : Addr} {o : HO} (h : H p = none) : ∀ a u, H a = some u → upd H p o a = some u := fun a u e => by rw [upd_ne (ne_of_none e h)]; exact e
/-- a new object is MI's, too -/
theorem post_new {W : WX} {σI : Env} {σ : L2.St} {p : Pt} {ih : IH} {o : IO} {Q : VK} {a : Addr} {ho : HO} (h : Post G W σI σ (VR G) p (.ok (.ref ih.n) (ih.push o)) Q) (R : RelI G p σI ih σ) (hn : p.H a = none) (hO : OR G (p.add a ho) o a) : Q (.ref a) (upd p.H a ho) := by
  refine h (p.add a ho) (.ref a) (Pt.le_add hn) (R.push hn hO) ?_
  show ih.n < p.n + 1 ∧ V.ref a = V.ref (if ih.n = p.n then a else p.ρ ih.n)
  rw [R.n, if_pos rfl]
  exact ⟨Nat.lt_succ_self _, rfl⟩
theorem or_lst {p : Pt} {vs : List IV} {xs : List V} {a : Addr} (hn : p.H a = none) (r : VRs G p vs xs) : OR G (p.add a (.lst xs)) (.lst vs) a := ⟨xs, upd_same, VRs.mono (Pt.le_add hn) r⟩
/-- a tuple is laid beside -/
theorem post_tup {W : WX} {σI : Env} {σ : L2.St} {p : Pt} {ih : IH} {vs : List IV} {xs : List V} {Q : VK} {a : Addr} (h : Post G W σI σ (VR G) p (.ok (.tup vs) ih) Q) (R : RelI G p σI ih σ) (hn : p.H a = none) (r : VRs G p vs xs) : Q (.ref a) (upd p.H a (.tup xs)) := by
  have l : p.Le (p.lay (upd p.H a (.tup xs))) := Pt.le_lay (Pers.new hn)
  refine h (p.lay (upd p.H a (.tup xs))) (.ref a) l (R.lay (same_new hn)) ?_
  unfold VR
  exact ⟨a, xs, rfl, upd_same, VRs.mono l r⟩
theorem not_pers_lst {xs : List V} : ¬ Fix (.lst xs) := fun h => h
theorem not_pers_dK {xs : List (Key × V)} : ¬ Fix (.dK xs) := fun h => h
/-- a list is changed -/
theorem post_putL {α β : Type} {W : WX} {σI : Env} {σ : L2.St} {p : Pt} {ih : IH} {i : Nat} {v : α} {vs : List IV} {xs ys : List V} {R' : Pt → α → β → Prop} {Q : β → Hp → Prop} {x : β} (h : Post G W σI σ R' p (.ok v (ih.put i (.lst vs))) Q) (R : RelI G p σI ih σ) (hi : i < p.n)
    (hx : p.H (p.ρ i) = some (.lst xs)) (r : VRs G p vs ys) (rv : ∀ q, p.Le q → R' q v x) : Q x (upd p.H (p.ρ i) (.lst ys)) := by
  have l : p.Le (p.wr (p.ρ i) (.lst ys)) := Pt.le_wr hx not_pers_lst
  exact h (p.wr (p.ρ i) (.lst ys)) x l (R.put hi hx not_pers_lst ⟨ys, upd_same, VRs.mono l r⟩) (rv _ l)

/-! ### displays -/
theorem se_tup {es : List Expr} {k : Nat} {pos : Pos} {fs : Lx} (hs : SA G Pr S n es fs) : SE G Pr S n (.Tuple es k pos) (eTup fs) := fun X W c =>
  pe_imp (pe_tup (hs X W c)) fun σ H Q ⟨p, σI, ih, eH, R, hp⟩ => by
    subst eH
    refine tG.of R (Post.imp (Post.bind hp) ?_)
    rintro xs H ⟨q, vs, ih1, rfl, l, R1, rv, -, hp1⟩
    change Post _ _ _ _ _ _ (if vs.length ≤ sizeLine then _ else _) _ at hp1
    split at hp1
    · rename_i hz
      exact ⟨by rw [rv.length]; exact hz, fun a ha => post_tup hp1 R1 ha rv⟩
    · exact hp1.elim
theorem se_lst {es : List Expr} {pos : Pos} {fs : Lx} (hs : SA G Pr S n es fs) : SE G Pr S n (.List es pos) (eLst fs) := fun X W c =>
  pe_imp (pe_lst (hs X W c)) fun σ H Q ⟨p, σI, ih, eH, R, hp⟩ => by
    subst eH
    refine tG.of R (Post.imp (Post.bind hp) ?_)
    rintro xs H ⟨q, vs, ih1, rfl, l, R1, rv, -, hp1⟩
    unfold pLst at hp1
    split at hp1
    · rename_i hz
      exact ⟨by rw [rv.length]; exact hz, fun a ha => post_new hp1 R1 ha (or_lst ha rv)⟩
    · exact hp1.elim

/-! ### subscripts -/
def fIdx : IV → IV → IH → Out IV := fun x y h => match x, y with
  | .tup vs, .int i => Out.of (atI vs i) h
  | .ref k, .int i => (match h.get k with
    | some (.lst vs) => Out.of (atI vs i) h
    | _ => .bad)
  | .str z, .int i => if z.length ≤ sizeLine then Out.of ((atI z.cps.toList i).map fun c => .str ⟨#[c]⟩) h else .bad
  | _, _ => .bad
theorem VRs.atI {p : Pt} {vs : List IV} {xs : List V} {i : Int} {v : IV} (r : VRs G p vs xs) (h : L2.atI vs i = some v) : ∃ x, L2.atI xs i = some x ∧ VR G p v x := by
  unfold L2.atI at h ⊢
  rw [r.length]
  cases e : ixN vs.length i with
  | none => rw [e] at h; cases h
  | some j =>
    rw [e] at h
    obtain ⟨x, e1, e2⟩ := r.get h
    exact ⟨x, e1, e2⟩
theorem ops_idx : OpS G fIdx (rIx G.K) := by
  intro W p σI ih σ v u x y Q R rv ru hp
  cases u with
  | int i =>
    cases ru
    cases v with
    | tup vs =>
      obtain ⟨w, e, h2⟩ := out_of hp
      unfold VR at rv
      obtain ⟨a, xs, e1, h3, h4⟩ := rv
      obtain ⟨z, h5, h6⟩ := h4.atI e
      exact .inr (.inl ⟨a, xs, i, z, e1, rfl, SqT.of h3, h5, post_ok h2 R h6⟩)
    | ref k =>
      change Post _ _ _ _ _ _ (match ih.get k with
        | some (.lst vs) => Out.of (L2.atI vs i) ih
        | _ => .bad) _ at hp
      cases q : ih.get k with
      | none => rw [q] at hp; exact hp.elim
      | some o =>
        rw [q] at hp
        cases o with
        | lst vs =>
          obtain ⟨w, e, h2⟩ := out_of hp
          obtain ⟨xs, e1, _, h3, h4⟩ := R.lst rv q
          obtain ⟨z, h5, h6⟩ := h4.atI e
          exact .inl ⟨_, xs, i, z, e1, rfl, SqL.of h3, h5, post_ok h2 R h6⟩
        | _ => exact hp.elim
    | str z =>
      cases rv
      change Post _ _ _ _ _ _ (if z.length ≤ sizeLine then Out.of ((L2.atI z.cps.toList i).map fun c => IV.str ⟨#[c]⟩) ih else .bad) _ at hp
      split at hp
      · rename_i hz
        obtain ⟨w, e, h2⟩ := out_of hp
        cases e2 : L2.atI z.cps.toList i with
        | none => rw [e2] at e; cases e
        | some c =>
          rw [e2] at e
          cases e
          exact .inr (.inr ⟨z, i, c, rfl, rfl, hz, e2, post_ok h2 R rfl⟩)
      · exact hp.elim
    | _ => exact hp.elim
  | _ => cases v <;> exact hp.elim
theorem se_idx {a b : Expr} {pos : Pos} {fa fb : Ex} (ha : SE G Pr S n a fa) (hb : SE G Pr S n b fb) (hs : PlainIx b := by intro _ _; rfl) : SE G Pr S n (.Subscript a b pos) (eOp fIdx fa fb) := fun X W c =>
  pe_imp (pe_ix (ix_seq (X := X)) (ha X W c) (hb X W c) hs) fun σ H Q h => op_read (by rw [c.K]; exact ops_idx) h
/-- a part of a slice -/
abbrev Ox := Ctx → Env → IH → Out (Option Int)
def oNone : Ox := fun _ _ h => .ok none h
def oSome (e : Ex) : Ox := fun c σ h => (e c σ h).bind fun v h => match v with
  | .int i => .ok (some i) h
  | _ => .bad
abbrev tO (G : Gl) (W : WX) (f : Env → IH → Out (Option Int)) : TO := tG G W (fun _ a b => a = b) f
def SO (G : Gl) (Pr : Tb) (S : Fs) (n : Nat) (e : Option Expr) (f : Ox) : Prop := ∀ X W, CtxOk G Pr S n X W → PO X e (tO G W (f (ctx Pr.Pr n)))
theorem po_imp {X : Cx} {e : Option Expr} {t t' : TO} (h : PO X e t) (k : ∀ σ H Q, t' σ H Q → t σ H Q) : PO X e t' := ⟨fun pins s σ H Q I q => h.run pins s σ H Q I (k _ _ _ q)⟩
theorem so_none : SO G Pr S n none oNone := fun X W c => po_imp po_none fun σ H Q ⟨p, σI, ih, eH, R, hp⟩ => by
  subst eH
  exact post_ok hp R rfl
theorem so_some {e : Expr} {f : Ex} (h : SE G Pr S n e f) : SO G Pr S n (some e) (oSome f) := fun X W c => po_imp (po_some (h X W c)) fun σ H Q ⟨p, σI, ih, eH, R, hp⟩ => by
  subst eH
  refine tG.of R (Post.imp (Post.bind hp) ?_)
  rintro x H ⟨q, v, ih1, rfl, l, R1, rv, -, hp1⟩
  cases v with
  | int i => exact ⟨i, rv, post_ok hp1 R1 rfl⟩
  | _ => exact hp1.elim
/-- xs[lo:hi] of a row -/
def cutI (xs : List IV) (lo hi : Option Int) : List IV := (xs.drop (HT.sIx xs.length 0 lo)).take (HT.sIx xs.length xs.length hi - HT.sIx xs.length 0 lo)
def fCut (x : IV) (lo hi : Option Int) (h : IH) : Out IV := match x with
  | .ref k => (match h.get k with
    | some (.lst vs) => .ok (.ref h.n) (h.push (.lst (cutI vs lo hi)))
    | _ => .bad)
  | _ => .bad
def eCut (a : Ex) (lo hi : Ox) : Ex := fun c σ h => (a c σ h).bind fun x h => (lo c σ h).bind fun l h => (hi c σ h).bind fun u h => fCut x l u h
theorem VRs.cut {p : Pt} {vs : List IV} {xs : List V} {lo hi : Option Int} (r : VRs G p vs xs) : VRs G p (cutI vs lo hi) (cutV xs lo hi) := by
  unfold cutI cutV
  rw [r.length]
  exact VRs.take _ (VRs.drop _ r)
theorem se_cut {a : Expr} {lo hi : Option Expr} {pos p2 : Pos} {fa : Ex} {fl fh : Ox} (ha : SE G Pr S n a fa) (hl : SO G Pr S n lo fl) (hh : SO G Pr S n hi fh) : SE G Pr S n (.Subscript a (.Slice lo hi none p2) pos) (eCut fa fl fh) := fun X W c =>
  pe_imp (pe_slice (sl_list (X := X)) (ha X W c) (hl X W c) (hh X W c)) fun σ H Q ⟨p, σI, ih, eH, R, hp⟩ => by
    subst eH
    refine tG.of R (Post.imp (Post.bind hp) ?_)
    rintro x H ⟨q, v, ih1, rfl, l, R1, rv, -, hp1⟩
    refine tG.of R1 (Post.imp (Post.bind hp1) ?_)
    rintro lo' H ⟨q2, u, ih2, rfl, l2, R2, rfl, -, hp2⟩
    refine tG.of R2 (Post.imp (Post.bind hp2) ?_)
    rintro hi' H ⟨q3, w, ih3, rfl, l3, R3, rfl, -, hp3⟩
    cases v with
    | ref k =>
      have rv3 := VR.mono (l2.trans l3) rv
      change Post _ _ _ _ _ _ (match ih3.get k with
        | some (.lst vs) => Out.ok (IV.ref ih3.n) (ih3.push (.lst (cutI vs u w)))
        | _ => Out.bad) _ at hp3
      cases e : ih3.get k with
      | none => rw [e] at hp3; exact hp3.elim
      | some o =>
        rw [e] at hp3
        cases o with
        | lst vs =>
          obtain ⟨xs, e1, _, h3, h4⟩ := R3.lst rv3 e
          exact ⟨_, xs, e1, SqL.of h3, fun a ha => post_new hp3 R3 ha (or_lst ha h4.cut)⟩
        | _ => exact hp3.elim
    | _ => exact hp3.elim

/-! ### methods of what is built in -/
def MtS (G : Gl) (k : Kd) (f : IV → List IV → IH → Out IV) (r : V → List V → Hp → VK → Prop) : Prop :=
  ∀ (W : WX) (p : Pt) (σI : Env) (ih : IH) (σ : L2.St) (v : IV) (x : V) (vs : List IV) (xs : List V) (Q : VK), RelI G p σI ih σ → VR G p v x → VRs G p vs xs → Post G W σI σ (VR G) p (f v vs ih) Q → r x xs p.H Q
def kdT : Kd → String
  | .lst => "list"
  | .dct => "dict"
  | .str => "str"
  | _ => ""
theorem kind_ty {K : PySem.W.Frag} {p : Pt} {σI : Env} {ih : IH} {σ : L2.St} (R : RelI G p σI ih σ) {v : IV} {x : V} {k : Kd} (r : VR G p v x) (e : kind ih v = k) (hk : k = .lst ∨ k = .dct ∨ k = .str) : tyV K (kdT k) x p.H := by
  cases v with
  | ref i =>
    change (match ih.get i with
      | some (.lst _) => Kd.lst
      | some (.dct _) => Kd.dct
      | some (.dcT _) => Kd.dct
      | _ => Kd.oth) = k at e
    cases q : ih.get i with
    | none => rw [q] at e; subst e; rcases hk with h | h | h <;> cases h
    | some o =>
      rw [q] at e
      cases o with
      | lst vs =>
        subst e
        obtain ⟨xs, e1, _, h3, _⟩ := R.lst r q
        subst e1
        exact .inl ⟨rfl, xs, SqL.of h3⟩
      | dct kvs =>
        subst e
        obtain ⟨xs, e1, _, h3, _⟩ := R.dct r q
        subst e1
        exact .inr (.inr (.inl ⟨rfl, .inl ⟨xs, h3⟩⟩))
      | dcT kvs =>
        subst e
        unfold VR at r
        obtain ⟨xs, h3, _⟩ := R.ob i _ r.1 q
        rw [r.2]
        exact .inr (.inr (.inl ⟨rfl, .inr ⟨xs, h3⟩⟩))
      | lam _ _ => subst e; rcases hk with h | h | h <;> cases h
  | str s => cases r; subst e; exact rfl
  | _ => subst e; rcases hk with h | h | h <;> cases h
theorem se_bm {o e : Expr} {es : List Expr} {name : Str} {apos cpos : Pos} {k : Kd} {id : String} {r : V → List V → Hp → VK → Prop} {f : IV → List IV → IH → Out IV} {fo : Ex} {fs : Lx} (hk : k = .lst ∨ k = .dct ∨ k = .str)
    (pa : PlainAttrs (kdT k)) (slot : Slot (kdT k) name id) (hty : typeOf (.builtin id) = pure (.type "method_descriptor")) (hm : ∀ X W, CtxOk G Pr S n X W → MtR X id r) (hs : MtS G k f r) (ho : SE G Pr S n o fo) (ha : SA G Pr S n (e :: es) fs)
    (hbase : ∀ env, attributeBase o name env (eval o env) = eval o env := by intro _; rfl)
    (hfew : ∀ env, ((backTo cpos (starEach (e :: es) env)).all (fun x => !x.1) && (backToKw cpos (keywordEach [] env)).all (fun x => x.1.isSome)
      && decide ((e :: es).length + ([] : List Keyword).length + (if ([] : List Keyword).isEmpty then 0 else 1) < 30)) = true := by intro _; rfl)
    (hline : (apos.endLine == cpos.line) = true := by rfl) (hst : ∀ env, starEach (e :: es) env = (false, eval e env) :: starEach es env := by intro _; rfl) (hplain : ∀ env, (backTo cpos (starEach es env)).any (·.1) = false := by intro _; rfl) :
    SE G Pr S n (.Call (.Attribute o name apos) (e :: es) [] cpos) (eMeth k f fo fs) := fun X W c =>
  pe_imp (pe_bm pa slot hty (hm X W c) (ho X W c) (ha X W c) (hbase X.env) (hfew X.env) hline (hst X.env) (hplain X.env)) fun σ H Q ⟨p, σI, ih, eH, R, hp⟩ => by
    subst eH
    refine tG.of R (Post.imp (Post.bind hp) ?_)
    rintro x H ⟨q, v, ih1, rfl, l, R1, rv, -, hp1⟩
    split at hp1
    · rename_i hki
      refine ⟨kind_ty R1 rv hki hk, tG.of R1 (Post.imp (Post.bind hp1) ?_)⟩
      rintro xs H ⟨q2, vs, ih2, rfl, l2, R2, rvs, -, hp2⟩
      exact hs W q2 σI ih2 σ v x vs xs Q R2 (VR.mono l2 rv) rvs hp2
    · exact hp1.elim
theorem se_bm0 {o : Expr} {name : Str} {apos cpos : Pos} {k : Kd} {id : String} {r : V → List V → Hp → VK → Prop} {f : IV → List IV → IH → Out IV} {fo : Ex} (hk : k = .lst ∨ k = .dct ∨ k = .str)
    (pa : PlainAttrs (kdT k)) (slot : Slot (kdT k) name id) (hty : typeOf (.builtin id) = pure (.type "method_descriptor")) (hm : ∀ X W, CtxOk G Pr S n X W → MtR X id r) (hs : MtS G k f r) (ho : SE G Pr S n o fo)
    (hbase : ∀ env, attributeBase o name env (eval o env) = eval o env := by intro _; rfl) (hline : (apos.endLine == cpos.line) = true := by rfl) :
    SE G Pr S n (.Call (.Attribute o name apos) [] [] cpos) (eMeth k f fo lNil) := fun X W c =>
  pe_imp (pe_bm0 pa slot hty (hm X W c) (ho X W c) (hbase X.env) hline) fun σ H Q ⟨p, σI, ih, eH, R, hp⟩ => by
    subst eH
    refine tG.of R (Post.imp (Post.bind hp) ?_)
    rintro x H ⟨q, v, ih1, rfl, l, R1, rv, -, hp1⟩
    split at hp1
    · rename_i hki
      exact ⟨kind_ty R1 rv hki hk, hs W q σI ih1 σ v x [] [] Q R1 rv VRs.nil hp1⟩
    · exact hp1.elim
/-- what a list's method does to the list at i -/
def onL (v : IV) (h : IH) (f : Nat → List IV → Out IV) : Out IV := match v with
  | .ref i => (match h.get i with
    | some (.lst vs) => f i vs
    | _ => .bad)
  | _ => .bad
theorem onL_of {W : WX} {σI : Env} {σ : L2.St} {p : Pt} {Q : VK} {v : IV} {ih : IH} {f : Nat → List IV → Out IV} {x : V} (R : RelI G p σI ih σ) (r : VR G p v x) (h : Post G W σI σ (VR G) p (onL v ih f) Q) :
    ∃ i vs xs, v = .ref i ∧ ih.get i = some (.lst vs) ∧ x = .ref (p.ρ i) ∧ i < p.n ∧ p.H (p.ρ i) = some (.lst xs) ∧ VRs G p vs xs ∧ Post G W σI σ (VR G) p (f i vs) Q := by
  cases v with
  | ref i =>
    change Post _ _ _ _ _ _ (match ih.get i with
      | some (.lst vs) => f i vs
      | _ => .bad) _ at h
    cases e : ih.get i with
    | none => rw [e] at h; exact h.elim
    | some o =>
      rw [e] at h
      cases o with
      | lst vs =>
        obtain ⟨xs, e1, e2, h3, h4⟩ := R.lst r e
        exact ⟨i, vs, xs, rfl, e, e1, e2, h3, h4, h⟩
      | _ => exact h.elim
  | _ => exact h.elim
def fAppend : IV → List IV → IH → Out IV := fun v ws h => onL v h fun i vs => match ws with
  | [y] => if vs.length < sizeLine then .ok .non (h.put i (.lst (vs ++ [y]))) else .bad
  | _ => .bad
theorem mts_append : MtS G .lst fAppend rAppend := by
  intro W p σI ih σ v x ws xs Q R rv rvs hp
  obtain ⟨i, vs, ys, rfl, e, e1, hi, h3, h4, hp⟩ := onL_of R rv hp
  cases ws with
  | nil => exact hp.elim
  | cons y r =>
    cases r with
    | nil =>
      obtain ⟨z, zs, e5, r5, r6⟩ := rvs.inv
      have e6 := r6.inv0
      subst e5 e6
      change Post _ _ _ _ _ _ (if vs.length < sizeLine then _ else _) _ at hp
      split at hp
      · rename_i hz
        exact ⟨_, ys, z, e1, rfl, h3, by rw [h4.length]; exact hz, post_putL hp R hi h3 (VRs.app h4 (VRs.cons r5 VRs.nil)) fun _ _ => rfl⟩
      · exact hp.elim
    | cons _ _ => exact hp.elim
def fExtend : IV → List IV → IH → Out IV := fun v ws h => onL v h fun i vs => match ws with
  | [y] => onL y h fun _ us => if vs.length + us.length ≤ sizeLine then .ok .non (h.put i (.lst (vs ++ us))) else .bad
  | _ => .bad
theorem mts_extend : MtS G .lst fExtend rExtend := by
  intro W p σI ih σ v x ws xs Q R rv rvs hp
  obtain ⟨i, vs, ys, rfl, e, e1, hi, h3, h4, hp⟩ := onL_of R rv hp
  cases ws with
  | nil => exact hp.elim
  | cons y r =>
    cases r with
    | nil =>
      obtain ⟨z, zs, e5, r5, r6⟩ := rvs.inv
      have e6 := r6.inv0
      subst e5 e6
      obtain ⟨j, us, zs, rfl, e7, e8, hj, h9, h10, hp⟩ := onL_of R r5 hp
      change Post _ _ _ _ _ _ (if vs.length + us.length ≤ sizeLine then _ else _) _ at hp
      split at hp
      · rename_i hz
        exact ⟨_, _, ys, zs, e1, by rw [e8], h3, h9, by rw [h4.length, h10.length]; exact hz, post_putL hp R hi h3 (VRs.app h4 h10) fun _ _ => rfl⟩
      · exact hp.elim
    | cons _ _ => exact hp.elim
/-- pop(i) -/
def fPopAt : IV → List IV → IH → Out IV := fun v ws h => onL v h fun i vs => match ws with
  | [.int k] => if -(2 ^ 63) ≤ k ∧ k < 2 ^ 63 then (match seqIndex? k vs.length with
    | some j => (match vs[j]? with
      | some y => .ok y (h.put i (.lst (vs.eraseIdx j)))
      | none => .bad)
    | none => .bad) else .bad
  | _ => .bad
theorem mts_popAt : MtS G .lst fPopAt rPopAt := by
  intro W p σI ih σ v x ws xs Q R rv rvs hp
  obtain ⟨i, vs, ys, rfl, e, e1, hi, h3, h4, hp⟩ := onL_of R rv hp
  cases ws with
  | nil => exact hp.elim
  | cons y r =>
    cases r with
    | nil =>
      obtain ⟨z, zs, e5, r5, r6⟩ := rvs.inv
      have e6 := r6.inv0
      subst e5 e6
      cases y with
      | int k =>
        cases r5
        change Post _ _ _ _ _ _ (if -(2 ^ 63) ≤ k ∧ k < 2 ^ 63 then (match seqIndex? k vs.length with
          | some j => (match vs[j]? with
            | some y => .ok y (ih.put i (.lst (vs.eraseIdx j)))
            | none => .bad)
          | none => .bad) else .bad) _ at hp
        split at hp
        · rename_i hz
          cases e2 : seqIndex? k vs.length with
          | none => rw [e2] at hp; exact hp.elim
          | some j =>
            rw [e2] at hp
            cases e3 : vs[j]? with
            | none => simp only [e3] at hp; exact hp.elim
            | some w =>
              simp only [e3] at hp
              obtain ⟨u, e4, r4⟩ := h4.get e3
              exact ⟨_, ys, k, j, u, e1, rfl, h3, hz.1, hz.2, by rw [h4.length]; exact e2, e4, post_putL hp R hi h3 (VRs.erase j h4) fun q l => VR.mono l r4⟩
        · exact hp.elim
      | _ => exact hp.elim
    | cons _ _ => cases y <;> exact hp.elim
end MI
end

section
set_option Elab.async false
set_option linter.all false
set_option maxRecDepth 100000
set_option autoImplicit false
set_option maxHeartbeats 1000000
/-! MI, statements, loops, comprehensions, calls, defs. -/
namespace MI
open PySem L2
variable {G : Gl} {Pr : Tb} {S : Fs} {n : Nat}

/-! ### a statement's outcome -/
def PostF (G : Gl) (W : WX) (p : Pt) (res : Fl) (D : Ends) : Prop := match res with
  | .nx σI ih => ∀ q σ, p.Le q → RelI G q σI ih σ → D.nx σ q.H
  | .ct σI ih => ∀ q σ, p.Le q → RelI G q σI ih σ → D.ct σ q.H
  | .brk σI ih => ∀ q σ, p.Le q → RelI G q σI ih σ → D.bk σ q.H
  | .ret v ih => ∀ q x, p.Le q → RelI G q [] ih [] → VR G q v x → D.rt x q.H
  | .exc e σI ih => ∀ q σ cls d, p.Le q → RelI G q σI ih σ → XR G q e cls d → W cls d σ q.H
  | .bad => False
theorem PostF.le {W : WX} {p q : Pt} {res : Fl} {D : Ends} (l : p.Le q) (h : PostF G W p res D) : PostF G W q res D := by
  cases res with
  | nx σ ih => exact fun r x l' => h r x (l.trans l')
  | ct σ ih => exact fun r x l' => h r x (l.trans l')
  | brk σ ih => exact fun r x l' => h r x (l.trans l')
  | ret v ih => exact fun r x l' => h r x (l.trans l')
  | exc e σ ih => exact fun r x c d l' => h r x c d (l.trans l')
  | bad => exact h
/-- a place in a run -/
def At (G : Gl) (p : Pt) (σ : L2.St) (H : Hp) (f : Pt → Env → IH → Prop) : Prop := ∃ q σI ih, q.H = H ∧ p.Le q ∧ RelI G q σI ih σ ∧ f q σI ih
theorem PostF.seq {W : WX} {p : Pt} {x : Fl} {k : Env → IH → Fl} {D : Ends} (h : PostF G W p (x.seq k) D) : PostF G W p x { D with nx := fun σ H => At G p σ H fun q σI ih => x = .nx σI ih ∧ PostF G W q (k σI ih) D } := by
  cases x with
  | nx σI ih => exact fun q σ l r => ⟨q, σI, ih, rfl, l, r, rfl, PostF.le l h⟩
  | ct σ ih => exact h
  | brk σ ih => exact h
  | ret v ih => exact h
  | exc e σ ih => exact h
  | bad => exact h
theorem PostF.turn {W : WX} {p : Pt} {x : Fl} {k : Env → IH → Fl} {D : Ends} {N : L2.St → Hp → Prop} (h : PostF G W p (x.turn k) D) (hN : ∀ σ H, At G p σ H (fun q σI ih => PostF G W q (k σI ih) D) → N σ H) : PostF G W p x { D with nx := N, ct := N, bk := D.nx } := by
  cases x with
  | nx σI ih => exact fun q σ l r => hN _ _ ⟨q, σI, ih, rfl, l, r, PostF.le l h⟩
  | ct σI ih => exact fun q σ l r => hN _ _ ⟨q, σI, ih, rfl, l, r, PostF.le l h⟩
  | brk σ ih => exact h
  | ret v ih => exact h
  | exc e σ ih => exact h
  | bad => exact h
/-- behind an expression -/
theorem PostF.flow {W : WX} {p : Pt} {σI : Env} {σ : L2.St} {R : Pt → IV → V → Prop} {x : Out IV} {k : IV → IH → Fl} {D : Ends} (h : PostF G W p (flow x σI k) D) :
    Post G W σI σ R p x (fun a H => ∃ q v ih, q.H = H ∧ p.Le q ∧ RelI G q σI ih σ ∧ R q v a ∧ x = .ok v ih ∧ PostF G W q (k v ih) D) := by
  cases x with
  | ok v ih => exact fun q a l r rv => ⟨q, v, ih, rfl, l, r, rv, rfl, PostF.le l h⟩
  | exc e ih => exact fun q c d l r xr => h q σ c d l r xr
  | bad => exact h
theorem PostF.flowT {W : WX} {p : Pt} {σI : Env} {σ : L2.St} {x : Out Bool} {k : Bool → IH → Fl} {D : Ends} (h : PostF G W p (flowT x σI k) D) :
    Post G W σI σ (fun _ a b => a = b) p x (fun (a : Bool) H => ∃ q v ih, q.H = H ∧ p.Le q ∧ RelI G q σI ih σ ∧ v = a ∧ x = .ok v ih ∧ PostF G W q (k v ih) D) := by
  cases x with
  | ok v ih => exact fun q a l r rv => ⟨q, v, ih, rfl, l, r, rv, rfl, PostF.le l h⟩
  | exc e ih => exact fun q c d l r xr => h q σ c d l r xr
  | bad => exact h
def tS (G : Gl) (W : WX) (f : Env → IH → Fl) : TS := fun D σ H => ∃ p σI ih, p.H = H ∧ RelI G p σI ih σ ∧ PostF G W p (f σI ih) D
def SS (G : Gl) (Pr : Tb) (S : Fs) (n : Nat) (st : Stmt) (f : Sx) : Prop := ∀ X W, CtxOk G Pr S n X W → PS X st (tS G W (f (ctx Pr.Pr n)))
def SB (G : Gl) (Pr : Tb) (S : Fs) (n : Nat) (st : List Stmt) (f : Sx) : Prop := ∀ X W, CtxOk G Pr S n X W → PSs X st (tS G W (f (ctx Pr.Pr n)))
theorem nx_ok {W : WX} {p : Pt} {σI : Env} {ih : IH} {σ : L2.St} {D : Ends} (h : PostF G W p (.nx σI ih) D) (R : RelI G p σI ih σ) : D.nx σ p.H := h p σ (Pt.Le.refl p) R
theorem sb_nil : SB G Pr S n [] sNx := fun X W c => pss_imp pss_nil fun D σ H ⟨p, σI, ih, eH, R, hp⟩ => by
  subst eH
  exact nx_ok hp R
theorem sb_cons {st : Stmt} {r : List Stmt} {f g : Sx} (hs : SS G Pr S n st f) (hr : SB G Pr S n r g) : SB G Pr S n (st :: r) (sSeq f g) := fun X W c =>
  pss_imp (pss_cons (hs X W c) (hr X W c)) fun D σ H ⟨p, σI, ih, eH, R, hp⟩ => by
    subst eH
    refine ⟨p, σI, ih, rfl, R, ?_⟩
    have h2 := PostF.seq hp
    generalize f (ctx Pr.Pr n) σI ih = x at h2
    cases x with
    | nx σ2 ih2 =>
      intro q σ' l r'
      obtain ⟨q2, σI2, ih3, e1, l2, r2, -, hp2⟩ := h2 q σ' l r'
      exact ⟨q2, σI2, ih3, e1, r2, hp2⟩
    | ct σ ih => exact h2
    | brk σ ih => exact h2
    | ret v ih => exact h2
    | exc e σ ih => exact h2
    | bad => exact h2
theorem sb_one {st : Stmt} {f : Sx} (hs : SS G Pr S n st f) : SB G Pr S n [st] f := fun X W c => pss_one (hs X W c)
theorem ss_pass {pos : Pos} : SS G Pr S n (.Pass pos) sNx := fun X W c => ps_imp ps_pass fun D σ H ⟨p, σI, ih, eH, R, hp⟩ => by
  subst eH
  exact nx_ok hp R
theorem ss_expr {e : Expr} {pos : Pos} {f : Ex} (h : SE G Pr S n e f) (hs : ∀ env, swapsWith e none pos.line env = pure false := by intro _; rfl) : SS G Pr S n (.Expr e pos) (sExpr f) := fun X W c =>
  ps_imp (ps_expr (h X W c) (hs X.env)) fun D σ H ⟨p, σI, ih, eH, R, hp⟩ => by
    subst eH
    refine tG.of R (Post.imp (PostF.flow hp) ?_)
    rintro x H ⟨q, v, ih1, rfl, l, R1, rv, -, hp1⟩
    exact nx_ok hp1 R1
theorem ss_ret {e : Expr} {pos : Pos} {f : Ex} (h : SE G Pr S n e f) : SS G Pr S n (.Return (some e) pos) (sRet f) := fun X W c =>
  ps_imp (ps_ret (h X W c)) fun D σ H ⟨p, σI, ih, eH, R, hp⟩ => by
    subst eH
    refine tG.of R (Post.imp (PostF.flow hp) ?_)
    rintro x H ⟨q, v, ih1, rfl, l, R1, rv, -, hp1⟩
    exact hp1 q x (Pt.Le.refl q) R1.bare rv
theorem ss_retN {pos : Pos} : SS G Pr S n (.Return none pos) sRetN := fun X W c => ps_imp ps_retN fun D σ H ⟨p, σI, ih, eH, R, hp⟩ => by
  subst eH
  exact hp p .non (Pt.Le.refl p) R.bare rfl
theorem ss_if {c0 : Expr} {a b : List Stmt} {pos : Pos} {ft : Tx} {fa fb : Sx} (hc : ST G Pr S n c0 ft) (ha : SB G Pr S n a fa) (hb : SB G Pr S n b fb) : SS G Pr S n (.If c0 a b pos) (sIf ft fa fb) := fun X W c =>
  ps_imp (ps_if (hc X W c) (ha X W c) (hb X W c)) fun D σ H ⟨p, σI, ih, eH, R, hp⟩ => by
    subst eH
    refine tG.of R (Post.imp (PostF.flowT hp) ?_)
    rintro x H ⟨q, v, ih1, rfl, l, R1, rfl, -, hp1⟩
    cases v with
    | true => exact ⟨q, σI, ih1, rfl, R1, hp1⟩
    | false => exact ⟨q, σI, ih1, rfl, R1, hp1⟩

/-! ### targets -/
def AgreeOut (ws : List Nat) (σ σ' : L2.St) : Prop := σ'.length = σ.length ∧ ∀ i, i ∉ ws → σ'[i]? = σ[i]?
theorem AgreeOut.refl {ws : List Nat} {σ : L2.St} : AgreeOut ws σ σ := ⟨rfl, fun _ _ => rfl⟩
def PostG (G : Gl) (ws : List Nat) (p : Pt) (σ : L2.St) (res : Out Env) (Q : L2.St → Hp → Prop) : Prop := match res with
  | .ok σI ih => ∀ q σ', p.Le q → RelI G q σI ih σ' → AgreeOut ws σ σ' → Q σ' q.H
  | _ => False
def tGx (G : Gl) (ws : List Nat) (g : IV → Env → IH → Out Env) : TG := fun x σ H Q => ∃ p σI ih v, p.H = H ∧ RelI G p σI ih σ ∧ VR G p v x ∧ PostG G ws p σ (g v σI ih) Q
def SG (G : Gl) (Pr : Tb) (S : Fs) (n : Nat) (tg : Expr) (ws : List Nat) (g : Gx) : Prop := ∀ X W, CtxOk G Pr S n X W → PG X tg (tGx G ws (fun v => g v (ctx Pr.Pr n)))
def tGs (G : Gl) (ws : List Nat) (g : List IV → Env → IH → Out Env) : TGs := fun xs σ H Q => ∃ p σI ih vs, p.H = H ∧ RelI G p σI ih σ ∧ VRs G p vs xs ∧ PostG G ws p σ (g vs σI ih) Q
def SGs (G : Gl) (Pr : Tb) (S : Fs) (n : Nat) (ts : List Expr) (ws : List Nat) (g : GLx) : Prop := ∀ X W, CtxOk G Pr S n X W → PGs X ts (tGs G ws (fun v => g v (ctx Pr.Pr n)))
theorem pg_imp {X : Cx} {e : Expr} {t t' : TG} (h : PG X e t) (k : ∀ x σ H Q, t' x σ H Q → t x σ H Q) : PG X e t' := by
  obtain ⟨h⟩ := h
  exact ⟨by intros; apply h <;> first | assumption | (apply k; assumption)⟩
theorem pgs_imp {X : Cx} {e : List Expr} {t t' : TGs} (h : PGs X e t) (k : ∀ x σ H Q, t' x σ H Q → t x σ H Q) : PGs X e t' := by
  obtain ⟨h⟩ := h
  exact ⟨by intros; apply h <;> first | assumption | (apply k; assumption)⟩
theorem RelI.set {p : Pt} {σI : Env} {ih : IH} {σ : L2.St} {i : Nat} {v : IV} {x : V} (R : RelI G p σI ih σ) (r : VR G p v x) : RelI G p (σI.set i (some v)) ih (σ.set i (some x)) := by
  refine ⟨R.n, R.inj, R.th, R.ob, R.tab, by rw [List.length_set, List.length_set]; exact R.len, fun j u e => ?_⟩
  by_cases h : i = j
  · subst h
    by_cases hi : i < σI.length
    · rw [List.getElem?_set_self hi] at e
      cases e
      exact ⟨x, by rw [List.getElem?_set_self (by rw [R.len]; exact hi)], r⟩
    · rw [List.getElem?_eq_none (by rw [List.length_set]; omega)] at e; cases e
  · rw [List.getElem?_set_ne h] at e
    obtain ⟨y, e1, r1⟩ := R.vars j u e
    exact ⟨y, by rw [List.getElem?_set_ne h]; exact e1, r1⟩
theorem sg_name {i : Nat} {x : Str} {pos : Pos} (hN : S.N[i]? = some x) (hx : L2.Loc S.sc x) (hf : S.fn x = true ∨ S.sc.names.lookup x = some .local) : SG G Pr S n (.Name x pos) [i] (MI.gName i) := fun X W c =>
  pg_imp (pg_name (i := i) (by rw [c.eN]; exact c.nd) (by rw [c.eN]; exact hN) (by rw [c.esc]; exact hx) (by rw [c.esc, c.fn]; exact hf)) fun x σ H Q ⟨p, σI, ih, v, eH, R, rv, hp⟩ => by
    subst eH
    refine hp p _ (Pt.Le.refl p) (R.set rv) ⟨List.length_set, fun j hj => ?_⟩
    rw [List.getElem?_set_ne]
    intro e; subst e; exact hj List.mem_cons_self
theorem sgs_nil : SGs G Pr S n [] [] MI.gNil := fun X W c => pgs_imp pgs_nil fun xs σ H Q ⟨p, σI, ih, vs, eH, R, rv, hp⟩ => by
  subst eH
  cases vs with
  | nil => exact ⟨rv.inv0, hp p σ (Pt.Le.refl p) R AgreeOut.refl⟩
  | cons _ _ => exact hp.elim
theorem sgs_cons {e : Expr} {es : List Expr} {w1 w2 : List Nat} {g : Gx} {gs : GLx} (h1 : SG G Pr S n e w1 g) (h2 : SGs G Pr S n es w2 gs)
    (hs : ∀ env, (assignEach (e :: es) env).map (·.2) = assign e env :: (assignEach es env).map (·.2) := by intro _; rfl) :
    SGs G Pr S n (e :: es) (w1 ++ w2) (MI.gCons g gs) := fun X W c => pgs_imp (L2.pgs_cons (h1 X W c) (h2 X W c) (hs X.env)) fun xs σ H Q ⟨p, σI, ih, vs, eH, R, rv, hp⟩ => by
  subst eH
  cases vs with
  | nil => exact hp.elim
  | cons v vs =>
    obtain ⟨y, ys, e1, r1, r2⟩ := rv.inv
    refine ⟨y, ys, e1, p, σI, ih, v, rfl, R, r1, ?_⟩
    change PostG G _ p σ ((g v (ctx Pr.Pr n) σI ih).bind fun σ h => gs vs (ctx Pr.Pr n) σ h) Q at hp
    show PostG G w1 p σ (g v (ctx Pr.Pr n) σI ih) _
    cases q : g v (ctx Pr.Pr n) σI ih with
    | ok σ2 ih2 =>
      rw [q] at hp
      intro q2 σ' l R2 a
      refine ⟨q2, σ2, ih2, vs, rfl, R2, VRs.mono l r2, ?_⟩
      change PostG G _ p σ (gs vs (ctx Pr.Pr n) σ2 ih2) Q at hp
      show PostG G w2 q2 σ' (gs vs (ctx Pr.Pr n) σ2 ih2) Q
      cases q3 : gs vs (ctx Pr.Pr n) σ2 ih2 with
      | ok σ3 ih3 =>
        rw [q3] at hp
        intro q4 σ4 l2 R3 a2
        refine hp q4 σ4 (l.trans l2) R3 ⟨a2.1.trans a.1, fun i hi => ?_⟩
        rw [a2.2 i (fun z => hi (List.mem_append_right _ z)), a.2 i (fun z => hi (List.mem_append_left _ z))]
      | exc _ _ => rw [q3] at hp; exact hp.elim
      | bad => rw [q3] at hp; exact hp.elim
    | exc _ _ => rw [q] at hp; exact hp.elim
    | bad => rw [q] at hp; exact hp.elim

theorem pg_or {X : Cx} {e : Expr} {t t' : TG} (h : PG X e t) (h' : PG X e t') : PG X e (fun v σ H Q => t v σ H Q ∨ t' v σ H Q) := by
  refine ⟨fun pins s σ H v u Q I r hw => ?_⟩
  rcases hw with hw | hw
  · exact h.run pins s σ H v u Q I r hw
  · exact h'.run pins s σ H v u Q I r hw
theorem sg_tup {es : List Expr} {k : Nat} {pos : Pos} {m : Nat} {ws : List Nat} {g : GLx} (h : SGs G Pr S n es ws g) (hn : ∀ env, (assignEach es env).length = m := by intro _; rfl) (hst : ∀ env, (assignEach es env).findIdx? (·.1) = none := by intro _; rfl) :
    SG G Pr S n (.Tuple es k pos) ws (MI.gTup m g) := fun X W c =>
  pg_imp (pg_or (pg_tup c.calm (h X W c) (hn X.env) (hst X.env)) (pg_lst c.calm (h X W c) (hn X.env) (hst X.env))) fun x σ H Q ⟨p, σI, ih, v, eH, R, rv, hp⟩ => by
    subst eH
    change PostG G _ p σ (match rowOf ih v with
      | some vs => if vs.length = m then g vs (ctx Pr.Pr n) σI ih else .bad
      | none => .bad) Q at hp
    cases v with
    | tup vs =>
      change PostG G _ p σ (if vs.length = m then g vs (ctx Pr.Pr n) σI ih else .bad) Q at hp
      split at hp
      · rename_i hz
        unfold VR at rv
        obtain ⟨a, xs, e1, h3, h4⟩ := rv
        exact .inl ⟨a, xs, e1, SqT.of h3, by rw [h4.length, hz], p, σI, ih, vs, rfl, R, h4, hp⟩
      · exact hp.elim
    | ref i =>
      change PostG G _ p σ (match (match ih.get i with
        | some (.lst vs) => some vs
        | _ => none) with
        | some vs => if vs.length = m then g vs (ctx Pr.Pr n) σI ih else .bad
        | none => .bad) Q at hp
      cases q : ih.get i with
      | none => rw [q] at hp; exact hp.elim
      | some o =>
        rw [q] at hp
        cases o with
        | lst vs =>
          change PostG G _ p σ (if vs.length = m then g vs (ctx Pr.Pr n) σI ih else .bad) Q at hp
          split at hp
          · rename_i hz
            obtain ⟨xs, e1, _, h3, h4⟩ := R.lst rv q
            exact .inr ⟨_, xs, e1, SqL.of h3, by rw [h4.length, hz], p, σI, ih, vs, rfl, R, h4, hp⟩
          · exact hp.elim
        | _ => exact hp.elim
    | _ => exact hp.elim
/-! o[i] = v -/
def gSub (f : IV → IV → IV → IH → Out Unit) (o i : Ex) : Gx := fun v c σ h => match o c σ h with
  | .ok x h => (match i c σ h with
    | .ok k h => (match f x k v h with
      | .ok _ h => .ok σ h
      | _ => .bad)
    | _ => .bad)
  | _ => .bad
def fSetL (x k v : IV) (h : IH) : Out Unit := match x, k with
  | .ref i, .int k => (match h.get i with
    | some (.lst vs) => (match ixN vs.length k with
      | some j => .ok () (h.put i (.lst (vs.set j v)))
      | none => .bad)
    | _ => .bad)
  | _, _ => .bad
def StS (G : Gl) (f : IV → IV → IV → IH → Out Unit) (t : TSet) : Prop :=
  ∀ (p : Pt) (σI : Env) (ih ih' : IH) (σ : L2.St) (o i v : IV) (x y z : V) (Q : Hp → Prop), RelI G p σI ih σ → VR G p o x → VR G p i y → VR G p v z → f o i v ih = .ok () ih' → (∀ q, p.Le q → RelI G q σI ih' σ → Q q.H) → t x y z p.H Q
theorem sts_list : StS G fSetL rSetL := by
  intro p σI ih ih' σ o i v x y z Q R ro ri rv e k
  cases o with
  | ref a =>
    cases i with
    | int j =>
      change (match ih.get a with
        | some (.lst vs) => (match ixN vs.length j with
          | some j => Out.ok () (ih.put a (.lst (vs.set j v)))
          | none => .bad)
        | _ => .bad) = _ at e
      cases q : ih.get a with
      | none => rw [q] at e; cases e
      | some ob =>
        rw [q] at e
        cases ob with
        | lst vs =>
          change (match ixN vs.length j with
            | some j => Out.ok () (ih.put a (.lst (vs.set j v)))
            | none => .bad) = _ at e
          cases q2 : ixN vs.length j with
          | none => rw [q2] at e; cases e
          | some m =>
            rw [q2] at e
            cases e
            obtain ⟨xs, e1, hi, h3, h4⟩ := R.lst ro q
            have l : p.Le (p.wr (p.ρ a) (.lst (xs.set m z))) := Pt.le_wr h3 not_pers_lst
            exact ⟨_, xs, j, m, e1, ri, h3, by rw [h4.length]; exact q2, k _ l (R.put hi h3 not_pers_lst ⟨_, upd_same, VRs.mono l (VRs.set rv m h4)⟩)⟩
        | _ => cases e
    | _ => cases e
  | _ => cases i <;> cases e
theorem sg_sub {o i : Expr} {pos : Pos} {fo fi : Ex} {f : IV → IV → IV → IH → Out Unit} {t : TSet} (hs : ∀ X W, CtxOk G Pr S n X W → PSet X t) (hf : StS G f t) (ho : SE G Pr S n o fo) (hi : SE G Pr S n i fi)
    (ha : ∀ env v, assign (.Subscript o i pos) env v = (do
      let ov ← holding [v] (eval o env)
      let iv ← holding [v, ov] (eval i env)
      standAt pos
      holding [v, ov, iv] (setItem ov iv v)
      release [v, ov, iv] []) := by intro _ _; rfl) : SG G Pr S n (.Subscript o i pos) [] (gSub f fo fi) := fun X W c =>
  pg_imp (pg_sub (ho X W c) (hi X W c) (hs X W c) (ha X.env)) fun x σ H Q ⟨p, σI, ih, v, eH, R, rv, hp⟩ => by
    subst eH
    change PostG G _ p σ (match fo (ctx Pr.Pr n) σI ih with
      | .ok x h => (match fi (ctx Pr.Pr n) σI h with
        | .ok k h => (match f x k v h with
          | .ok _ h => .ok σI h
          | _ => .bad)
        | _ => .bad)
      | _ => .bad) Q at hp
    refine ⟨p, σI, ih, rfl, R, ?_⟩
    cases e1 : fo (ctx Pr.Pr n) σI ih with
    | ok a ih1 =>
      rw [e1] at hp
      intro q x1 l1 R1 r1
      refine ⟨q, σI, ih1, rfl, R1, ?_⟩
      change PostG G _ p σ (match fi (ctx Pr.Pr n) σI ih1 with
        | .ok k h => (match f a k v h with
          | .ok _ h => .ok σI h
          | _ => .bad)
        | _ => .bad) Q at hp
      cases e2 : fi (ctx Pr.Pr n) σI ih1 with
      | ok b ih2 =>
        rw [e2] at hp
        intro q2 x2 l2 R2 r2
        change PostG G _ p σ (match f a b v ih2 with
          | .ok _ h => .ok σI h
          | _ => .bad) Q at hp
        cases e3 : f a b v ih2 with
        | ok u ih3 =>
          rw [e3] at hp
          exact hf q2 σI ih2 ih3 σ a b v x1 x2 x _ R2 (VR.mono l2 r1) r2 (VR.mono (l1.trans l2) rv) e3 fun q3 l3 R3 => hp q3 σ ((l1.trans l2).trans l3) R3 AgreeOut.refl
        | exc _ _ => rw [e3] at hp; exact hp.elim
        | bad => rw [e3] at hp; exact hp.elim
      | exc _ _ => rw [e2] at hp; exact hp.elim
      | bad => rw [e2] at hp; exact hp.elim
    | exc _ _ => rw [e1] at hp; exact hp.elim
    | bad => rw [e1] at hp; exact hp.elim
/-! ### assignments -/
theorem asg_read {W : WX} {ws : List Nat} {fe : Env → IH → Out IV} {g : IV → Env → IH → Out Env} {D : Ends} {σ : L2.St} {H : Hp} (h : tS G W (fun σ h => MI.flow (fe σ h) σ fun v h => (g v σ h).fl) D σ H) : tAsg (tE G W fe) (tGx G ws g) D σ H := by
  obtain ⟨p, σI, ih, eH, R, hp⟩ := h
  subst eH
  refine tG.of R (Post.imp (PostF.flow hp) ?_)
  rintro x H ⟨q, v, ih1, rfl, l, R1, rv, -, hp1⟩
  refine ⟨q, σI, ih1, v, rfl, R1, rv, ?_⟩
  show PostG G ws q σ (g v σI ih1) _
  cases e : g v σI ih1 with
  | ok σ2 ih2 =>
    rw [e] at hp1
    exact fun q2 σ' l2 R2 _ => hp1 q2 σ' l2 R2
  | exc _ _ => rw [e] at hp1; exact hp1.elim
  | bad => rw [e] at hp1; exact hp1.elim
theorem ss_asg {tg e : Expr} {pos : Pos} {ws : List Nat} {fe : Ex} {g : Gx} (he : SE G Pr S n e fe) (hg : SG G Pr S n tg ws g) (hs : ∀ env, swapsWithSole [tg] e pos.line env = pure false := by intro _; rfl) (hw : ∀ env, swappedStores [tg] e env = pure none := by intro _; rfl)
    (h1 : ∀ env, (assignEach [tg] env).map (·.2) = [assign tg env] := by intro _; rfl) : SS G Pr S n (.Assign [tg] e pos) (sAsg g fe) := fun X W c => ps_imp (ps_asg (he X W c) (hg X W c) (hs X.env) (hw X.env) (h1 X.env)) fun D σ H h => asg_read h
/-! ### loops -/
def SrcR (G : Gl) (q : Pt) (s : Src) (J : It) : Prop := ∀ q' σI ih σ, q.Le q' → RelI G q' σI ih σ → ∀ k, match s.at k ih with
  | .stop => J.stop k q'.H
  | .yld v => J.go k q'.H ∧ ∀ x H', J.yld k q'.H x H' → ∃ q'', q''.H = H' ∧ q'.Le q'' ∧ RelI G q'' σI ih σ ∧ VR G q'' v x
  | .bad => True
abbrev tI (G : Gl) (W : WX) (f : Env → IH → Out Src) : TI := tG G W (SrcR G) f
def SI (G : Gl) (Pr : Tb) (S : Fs) (n : Nat) (tg it : Expr) (f : Ix) : Prop := ∀ X W, CtxOk G Pr S n X W → PI X tg it (tI G W (f (ctx Pr.Pr n)))
theorem PostF.seqE {W : WX} {p : Pt} {σ : L2.St} {ws : List Nat} {x : Out Env} {k : Env → IH → Fl} {D : Ends} (h : PostF G W p (x.fl.seq k) D) : PostG G ws p σ x (fun σ H => At G p σ H fun q σI ih => PostF G W q (k σI ih) D) := by
  cases x with
  | ok σI ih => exact fun q σ' l r _ => ⟨q, σI, ih, rfl, l, r, PostF.le l h⟩
  | exc e ih => exact h.elim
  | bad => exact h.elim
theorem ss_for {tg iter : Expr} {body : List Stmt} {pos : Pos} {ws : List Nat} {it : Ix} {g : Gx} {b : Sx} (hi : SI G Pr S n tg iter it) (hg : SG G Pr S n tg ws g) (hb : SB G Pr S n body b)
    (hfs : ∀ env x, foldedSetIterable iter env x = pure x := by intro _ _; rfl) : SS G Pr S n (.For tg iter body [] pos) (sFor it g b) := fun X W c =>
  ps_imp (ps_for c.pass c.calm (hi X W c) (hg X W c) (hb X W c) (hfs X.env)) fun D σ H ⟨p, σI, ih, eH, R, hp⟩ => by
    subst eH
    unfold sFor at hp
    refine ⟨p, σI, ih, rfl, R, ?_⟩
    cases e : it (ctx Pr.Pr n) σI ih with
    | bad => rw [e] at hp; exact hp.elim
    | exc v ih1 => rw [e] at hp; exact fun q cls d l r xr => hp q σ cls d l r xr
    | ok s ih1 =>
      rw [e] at hp
      intro q J l R1 sr
      change PostF G W p (forL s g b (ctx Pr.Pr n) (s.len ih1) 0 σI ih1) D at hp
      refine ⟨fun k m σ H => At G q σ H fun q σI ih => PostF G W q (forL s g b (ctx Pr.Pr n) m k σI ih) D, ⟨s.len ih1, q, σI, ih1, rfl, Pt.Le.refl q, R1, PostF.le l hp⟩, ?_⟩
      rintro k m σ1 H1 ⟨q1, σI1, ih2, rfl, l1, R2, hp1⟩
      have h1 := sr q1 σI1 ih2 σ1 l1 R2 k
      cases m with
      | zero =>
        change PostF G W q1 (match s.at k ih2 with
          | .stop => .nx σI1 ih2
          | _ => .bad) D at hp1
        cases e1 : s.at k ih2 with
        | stop => rw [e1] at hp1 h1; exact .inl ⟨h1, nx_ok hp1 R2⟩
        | yld v => rw [e1] at hp1; exact hp1.elim
        | bad => rw [e1] at hp1; exact hp1.elim
      | succ m =>
        change PostF G W q1 (match s.at k ih2 with
          | .stop => .nx σI1 ih2
          | .yld v => ((g v (ctx Pr.Pr n) σI1 ih2).fl.seq fun σ h => b (ctx Pr.Pr n) σ h).turn fun σ h => forL s g b (ctx Pr.Pr n) m (k + 1) σ h
          | .bad => .bad) D at hp1
        cases e1 : s.at k ih2 with
        | stop => rw [e1] at hp1 h1; exact .inl ⟨h1, nx_ok hp1 R2⟩
        | bad => rw [e1] at hp1; exact hp1.elim
        | yld v =>
          rw [e1] at hp1 h1
          refine .inr ⟨h1.1, fun σ H => At G q σ H fun q σI ih => PostF G W q (forL s g b (ctx Pr.Pr n) m (k + 1) σI ih) D, fun σ' H' hw => ⟨m, Nat.lt_succ_self m, hw⟩, fun x H' hy => ?_⟩
          obtain ⟨q2, eq, l2, R3, rv⟩ := h1.2 x H' hy
          subst eq
          refine ⟨q2, σI1, ih2, v, rfl, R3, rv, ?_⟩
          have h3 := PostF.turn (N := fun σ H => At G q σ H fun q σI ih => PostF G W q (forL s g b (ctx Pr.Pr n) m (k + 1) σI ih) D) (PostF.le l2 hp1) fun σ H ⟨q3, σI3, ih3, e3, l3, r3, h3⟩ => ⟨q3, σI3, ih3, e3, (l1.trans l2).trans l3, r3, h3⟩
          have h4 := PostF.seqE (σ := σ1) (ws := ws) h3
          show PostG G ws q2 σ1 (g v (ctx Pr.Pr n) σI1 ih2) _
          cases e4 : g v (ctx Pr.Pr n) σI1 ih2 with
          | ok σ5 ih5 =>
            rw [e4] at h4
            intro q6 σ6 l6 R6 a6
            obtain ⟨q7, σ7, ih7, e7, l7, R7, h7⟩ := h4 q6 σ6 l6 R6 a6
            exact ⟨q7, σ7, ih7, e7, R7, h7⟩
          | exc _ _ => rw [e4] at h4; exact h4.elim
          | bad => rw [e4] at h4; exact h4.elim
theorem ss_while {c0 : Expr} {body : List Stmt} {pos : Pos} {t : Tx} {b : Sx} (hc : ST G Pr S n c0 t) (hb : SB G Pr S n body b) : SS G Pr S n (.While c0 body [] pos) (sWhl t b) := fun X W c =>
  ps_imp (ps_while c.pass (hc X W c) (hb X W c)) fun D σ H ⟨p, σI, ih, eH, R, hp⟩ => by
    subst eH
    refine ⟨fun m σ H => At G p σ H fun q σI ih => PostF G W q (whlL t b (ctx Pr.Pr n) m σI ih) D, ⟨whileMax, p, σI, ih, rfl, Pt.Le.refl p, R, hp⟩, ?_⟩
    rintro m σ1 H1 ⟨q1, σI1, ih2, rfl, l1, R2, hp1⟩
    cases m with
    | zero => exact hp1.elim
    | succ m =>
      refine tG.of R2 (Post.imp (PostF.flowT hp1) ?_)
      rintro x H ⟨q, v, ih3, rfl, l, R3, rfl, -, hp3⟩
      cases v with
      | false => exact nx_ok hp3 R3
      | true =>
        refine ⟨fun σ H => At G p σ H fun q σI ih => PostF G W q (whlL t b (ctx Pr.Pr n) m σI ih) D, fun σ' H' hw => ⟨m, Nat.lt_succ_self m, hw⟩, q, σI1, ih3, rfl, R3, ?_⟩
        exact PostF.turn hp3 fun σ H ⟨q3, σI3, ih3, e3, l3, r3, h3⟩ => ⟨q3, σI3, ih3, e3, (l1.trans l).trans l3, r3, h3⟩
end MI
end

section
set_option Elab.async false
set_option linter.all false
set_option maxRecDepth 100000
set_option autoImplicit false
set_option maxHeartbeats 1000000
/-! MI, what is walked; comprehensions; calls; defs. -/
namespace MI
open PySem L2
variable {G : Gl} {Pr : Tb} {S : Fs} {n : Nat}

/-! ### what is walked -/
theorem pi_or {X : Cx} {tg e : Expr} {t t' : TI} (h : PI X tg e t) (h' : PI X tg e t') : PI X tg e (fun σ H R => t σ H R ∨ t' σ H R) := by
  refine ⟨fun pins s σ H R I hw => ?_⟩
  rcases hw with hw | hw
  · exact h.run pins s σ H R I hw
  · exact h'.run pins s σ H R I hw
theorem pi_imp {X : Cx} {tg e : Expr} {t t' : TI} (h : PI X tg e t) (k : ∀ σ H R, t' σ H R → t σ H R) : PI X tg e t' := ⟨fun pins s σ H R I q => h.run pins s σ H R I (k _ _ _ q)⟩
theorem lst_yld {p : Pt} {σI : Env} {ih : IH} {σ : L2.St} {i k : Nat} {v : IV} (R : RelI G p σI ih σ) (hi : i < p.n) (e : (Src.lst i).at k ih = .yld v) : ∃ xs x, p.H (p.ρ i) = some (.lst xs) ∧ xs[k]? = some x ∧ VR G p v x := by
  have hr : VR G p (.ref i) (.ref (p.ρ i)) := by unfold VR; exact ⟨hi, rfl⟩
  change (match ih.get i with
    | some (.lst vs) => ofIx vs[k]?
    | _ => .bad) = Nx.yld v at e
  cases e1 : ih.get i with
  | none => rw [e1] at e; cases e
  | some o =>
    rw [e1] at e
    cases o with
    | lst vs =>
      obtain ⟨xs, _, _, h3, h4⟩ := R.lst hr e1
      change ofIx vs[k]? = Nx.yld v at e
      cases e2 : vs[k]? with
      | none => rw [e2] at e; cases e
      | some u =>
        rw [e2] at e
        cases e
        obtain ⟨x, e3, r3⟩ := h4.get e2
        exact ⟨xs, x, h3, e3, r3⟩
    | _ => cases e
theorem srcR_lst {q : Pt} {i : Nat} (hi : i < q.n) : SrcR G q (.lst i) (Itl G.K (q.ρ i)) := by
  intro q' σI ih σ l R k
  have hr : VR G q' (.ref i) (.ref (q'.ρ i)) := by unfold VR; exact ⟨Nat.lt_of_lt_of_le hi l.n, rfl⟩
  have he : q'.ρ i = q.ρ i := l.ρ i hi
  show match (match ih.get i with
    | some (.lst vs) => ofIx vs[k]?
    | _ => .bad) with
    | .stop => _
    | .yld v => _
    | .bad => True
  cases e : ih.get i with
  | none => trivial
  | some o =>
    cases o with
    | lst vs =>
      obtain ⟨xs, _, _, h3, h4⟩ := R.lst hr e
      rw [he] at h3
      show match ofIx vs[k]? with
        | .stop => _
        | .yld v => _
        | .bad => True
      cases e2 : vs[k]? with
      | none =>
        refine ⟨xs, SqL.of h3, ?_⟩
        have := h4.none e2
        exact List.getElem?_eq_none_iff.mp this
      | some v =>
        obtain ⟨x, e3, r3⟩ := h4.get e2
        refine ⟨⟨xs, x, SqL.of h3, e3⟩, fun y H' hy => ?_⟩
        obtain ⟨eH, hx⟩ := hy
        have e4 := hx xs (SqL.of h3)
        rw [e3] at e4
        cases e4
        exact ⟨q', eH.symm, Pt.Le.refl q', R, r3⟩
    | _ => trivial
theorem srcR_tup {q : Pt} {vs : List IV} {xs : List V} {a : Addr} (ha : q.H a = some (.tup xs)) (r : VRs G q vs xs) : SrcR G q (.tup vs) (Itt G.K a) := by
  intro q' σI ih σ l R k
  have h3 := l.H _ _ ha trivial
  have h4 := VRs.mono l r
  show match ofIx vs[k]? with
    | .stop => _
    | .yld v => _
    | .bad => True
  cases e2 : vs[k]? with
  | none =>
    refine ⟨xs, SqT.of h3, ?_⟩
    have := h4.none e2
    exact List.getElem?_eq_none_iff.mp this
  | some v =>
    obtain ⟨x, e3, r3⟩ := h4.get e2
    refine ⟨⟨xs, x, SqT.of h3, e3⟩, fun y H' hy => ?_⟩
    obtain ⟨eH, hx⟩ := hy
    have e4 := hx xs (SqT.of h3)
    rw [e3] at e4
    cases e4
    exact ⟨q', eH.symm, Pt.Le.refl q', R, r3⟩
theorem srcR_rng {q : Pt} {lo : Int} {m : Nat} : SrcR G q (.rng lo m) (Itr lo m) := by
  intro q' σI ih σ l R k
  show match (if k < m then Nx.yld (.int (lo + (k : Int))) else .stop) with
    | .stop => _
    | .yld v => _
    | .bad => True
  by_cases h : k < m
  · rw [if_pos h]
    exact ⟨h, fun x H' hy => ⟨q', hy.1.symm, Pt.Le.refl q', R, hy.2⟩⟩
  · rw [if_neg h]
    exact Nat.le_of_not_lt h
theorem pair_lay {q : Pt} {σI : Env} {ih : IH} {σ : L2.St} {T : Addr} {v u : IV} {x y : V} (R : RelI G q σI ih σ) (hT : q.H T = none) (rv : VR G q v x) (ru : VR G q u y) :
    ∃ q'', q''.H = upd q.H T (.tup [x, y]) ∧ q.Le q'' ∧ RelI G q'' σI ih σ ∧ VR G q'' (.tup [v, u]) (.ref T) := by
  have l : q.Le (q.lay (upd q.H T (.tup [x, y]))) := Pt.le_lay (Pers.new hT)
  refine ⟨q.lay _, rfl, l, R.lay (same_new hT), ?_⟩
  unfold VR
  exact ⟨T, [x, y], rfl, upd_same, VRs.cons (VR.mono l rv) (VRs.cons (VR.mono l ru) VRs.nil)⟩
theorem srcR_enum {q : Pt} {i : Nat} (hi : i < q.n) : SrcR G q (.enum (.lst i)) (Ite G.K (q.ρ i)) := by
  intro q' σI ih σ l R k
  have h := srcR_lst (G := G) hi q' σI ih σ l R k
  show match (match (Src.lst i).at k ih with
    | .yld v => Nx.yld (.tup [.int k, v])
    | x => x) with
    | .stop => _
    | .yld v => _
    | .bad => True
  cases e : (Src.lst i).at k ih with
  | stop => rw [e] at h; exact h
  | bad => trivial
  | yld v =>
    rw [e] at h
    refine ⟨h.1, fun x H' hy => ?_⟩
    obtain ⟨T, y, ex, hT, eH, hx⟩ := hy
    obtain ⟨q2, e2, l2, R2, r2⟩ := h.2 y q'.H ⟨rfl, hx⟩
    subst ex
    rw [eH, ← e2]
    rw [← e2] at hT
    obtain ⟨q3, h31, h32, h33, h34⟩ := pair_lay (v := .int k) (x := .int (k : Nat)) R2 hT rfl r2
    exact ⟨q3, h31, l2.trans h32, h33, h34⟩
theorem srcR_zip {q : Pt} {i j : Nat} (hi : i < q.n) (hj : j < q.n) : SrcR G q (.zip (.lst i) (.lst j)) (Itz G.K (q.ρ i) (q.ρ j)) := by
  intro q' σI ih σ l R k
  have h := srcR_lst (G := G) hi q' σI ih σ l R k
  have h' := srcR_lst (G := G) hj q' σI ih σ l R k
  show match Nx.both ((Src.lst i).at k ih) ((Src.lst j).at k ih) with
    | .stop => _
    | .yld v => _
    | .bad => True
  have pos : ∀ {i : Nat}, i < q.n → ∀ {s : Nx}, (Src.lst i).at k ih = s → s ≠ .bad → ∃ xs, SqL G.K q'.H (q.ρ i) xs := by
    intro i hi s e ne
    have hr : VR G q' (.ref i) (.ref (q'.ρ i)) := by unfold VR; exact ⟨Nat.lt_of_lt_of_le hi l.n, rfl⟩
    have he : q'.ρ i = q.ρ i := l.ρ i hi
    change (match ih.get i with
      | some (.lst vs) => ofIx vs[k]?
      | _ => .bad) = s at e
    cases e1 : ih.get i with
    | none => rw [e1] at e; exact absurd e.symm ne
    | some o =>
      rw [e1] at e
      cases o with
      | lst vs =>
        obtain ⟨xs, _, _, h3, h4⟩ := R.lst hr e1
        rw [he] at h3
        exact ⟨xs, SqL.of h3⟩
      | _ => exact absurd e.symm ne
  have pi := @pos i hi
  have pj := @pos j hj
  cases e : (Src.lst i).at k ih with
  | bad => trivial
  | stop =>
    rw [e] at h
    obtain ⟨xs, h1, h2⟩ := h
    cases e' : (Src.lst j).at k ih with
    | bad => trivial
    | stop =>
      obtain ⟨ys, h3⟩ := pj e' (fun z => nomatch z)
      exact ⟨xs, ys, h1, h3, .inl h2⟩
    | yld u =>
      obtain ⟨ys, h3⟩ := pj e' (fun z => nomatch z)
      exact ⟨xs, ys, h1, h3, .inl h2⟩
  | yld v =>
    rw [e] at h
    cases e' : (Src.lst j).at k ih with
    | bad => trivial
    | stop =>
      rw [e'] at h'
      obtain ⟨ys, h3, h4⟩ := h'
      obtain ⟨xs, h5⟩ := pi e (fun z => nomatch z)
      exact ⟨xs, ys, h5, h3, .inr h4⟩
    | yld u =>
      rw [e'] at h'
      obtain ⟨⟨xs, x, h1, h2⟩, h3⟩ := h
      obtain ⟨⟨ys, y, h4, h5⟩, h6⟩ := h'
      refine ⟨⟨xs, ys, x, y, h1, h4, h2, h5⟩, fun z H' hy => ?_⟩
      obtain ⟨T, a, b, ez, hT, eH, hx, hx'⟩ := hy
      obtain ⟨zs, z1, h7, h8, h9⟩ := lst_yld R (Nat.lt_of_lt_of_le hi l.n) e
      obtain ⟨ws, w1, h10, h11, h12⟩ := lst_yld R (Nat.lt_of_lt_of_le hj l.n) e'
      rw [l.ρ i hi] at h7
      rw [l.ρ j hj] at h10
      have e5 := hx zs (SqL.of h7)
      have e6 := hx' ws (SqL.of h10)
      rw [h8] at e5
      rw [h11] at e6
      cases e5
      cases e6
      subst ez
      rw [eH]
      exact pair_lay R hT h9 h12
/-- a tuple walked -/
theorem src_of {p : Pt} {σI : Env} {ih : IH} {σ : L2.St} {v : IV} {x : V} {s : Src} (R : RelI G p σI ih σ) (r : VR G p v x) (e : srcOf ih v = some s) :
    (∃ i, s = .lst i ∧ i < p.n ∧ x = .ref (p.ρ i) ∧ ∃ xs, SqL G.K p.H (p.ρ i) xs) ∨ (∃ vs a xs, s = .tup vs ∧ x = .ref a ∧ p.H a = some (.tup xs) ∧ VRs G p vs xs) := by
  cases v with
  | tup vs =>
    change (if vs.length ≤ sizeLine then some (Src.tup vs) else none) = some s at e
    split at e
    · cases e
      unfold VR at r
      obtain ⟨a, xs, e1, h3, h4⟩ := r
      exact .inr ⟨vs, a, xs, rfl, e1, h3, h4⟩
    · cases e
  | ref i =>
    change (match ih.get i with
      | some (.lst _) => some (Src.lst i)
      | _ => none) = some s at e
    cases q : ih.get i with
    | none => rw [q] at e; cases e
    | some o =>
      rw [q] at e
      cases o with
      | lst vs =>
        cases e
        obtain ⟨xs, e1, hi, h3, h4⟩ := R.lst r q
        exact .inl ⟨i, rfl, hi, e1, xs, SqL.of h3⟩
      | _ => cases e
  | _ => cases e

theorem si_val {tg e : Expr} {fe : Ex} (h : SE G Pr S n e fe) : SI G Pr S n tg e (MI.iVal fe) := fun X W c =>
  pi_imp (pi_or (pi_list (tg := tg) (h X W c)) (pi_tup (tg := tg) (h X W c))) fun σ H Q ⟨p, σI, ih, eH, R, hp⟩ => by
    subst eH
    change Post G W σI σ (SrcR G) p ((fe (ctx Pr.Pr n) σI ih).bind fun v h => Out.of (srcOf h v) h) Q at hp
    cases q : fe (ctx Pr.Pr n) σI ih with
    | bad => rw [q] at hp; exact hp.elim
    | exc v ih1 =>
      rw [q] at hp
      exact .inl ⟨p, σI, ih, rfl, R, by rw [q]; exact hp⟩
    | ok v ih1 =>
      rw [q] at hp
      obtain ⟨s, e1, hp1⟩ := out_of hp
      cases v with
      | tup vs =>
        refine .inr ⟨p, σI, ih, rfl, R, ?_⟩
        rw [q]
        intro q1 x l R1 rv
        rcases src_of R1 rv e1 with ⟨i, es, _⟩ | ⟨vs', a, xs, es, ex, ha, rs⟩
        · subst es
          change (if vs.length ≤ sizeLine then some (Src.tup vs) else none) = _ at e1
          split at e1 <;> cases e1
        · subst es
          rw [c.K]
          exact ⟨a, ex, ⟨xs, SqT.of ha⟩, post_ok (Post.le l hp1) R1 (srcR_tup ha rs)⟩
      | ref k =>
        refine .inl ⟨p, σI, ih, rfl, R, ?_⟩
        rw [q]
        intro q1 x l R1 rv
        rcases src_of R1 rv e1 with ⟨i, es, hi, ex, hx⟩ | ⟨vs', a, xs, es, ex, ha, rs⟩
        · subst es
          rw [c.K]
          exact ⟨_, ex, hx, post_ok (Post.le l hp1) R1 (srcR_lst hi)⟩
        · subst es
          change (match ih1.get k with
            | some (.lst _) => some (Src.lst k)
            | _ => none) = _ at e1
          split at e1 <;> cases e1
      | _ => cases e1
theorem in62_of {i : Int} (h : in62 i = true) : -(2 ^ 62) ≤ i ∧ i < 2 ^ 62 := by
  unfold in62 at h
  rw [Bool.and_eq_true] at h
  exact ⟨of_decide_eq_true h.1, of_decide_eq_true h.2⟩
theorem si_rng1 {tg a : Expr} {p pos : Pos} {fa : Ex} (hg : S.sc.names.lookup ("range" : Str) = some .globalImplicit) (hm : G.mg ("range" : Str) = none) (ha : SE G Pr S n a fa) (hs : ∀ env, starEach [a] env = [(false, eval a env)] := by intro _; rfl) :
    SI G Pr S n tg (.Call (.Name "range" p) [a] [] pos) (MI.iRng1 fa) := fun X W c =>
  pi_imp (pi_range1 (tg := tg) (show X.env.scope.names.lookup _ = _ by rw [c.esc]; exact hg) (by rw [c.mg]; exact hm) ((sa_cons ha sa_nil (hst := fun env => hs env)) X W c) (hs X.env)) fun σ H Q ⟨p, σI, ih, eH, R, hp⟩ => by
    subst eH
    change Post G W σI σ (SrcR G) p ((fa (ctx Pr.Pr n) σI ih).bind fun v h => match v with
      | .int j => if in62 j = true then .ok (.rng 0 j.toNat) h else .bad
      | _ => .bad) Q at hp
    show tG G W (VRs G) (lCons fa lNil (ctx Pr.Pr n)) σ p.H _
    refine tG.of R ?_
    show Post G W σI σ (VRs G) p ((fa (ctx Pr.Pr n) σI ih).bind fun v h => .ok [v] h) _
    cases q : fa (ctx Pr.Pr n) σI ih with
    | bad => rw [q] at hp; exact hp.elim
    | exc v ih1 => rw [q] at hp; exact hp
    | ok v ih1 =>
      rw [q] at hp
      intro q1 xs l R1 rv
      obtain ⟨x, ys, e1, r1, r2⟩ := rv.inv
      have e2 := r2.inv0
      subst e1 e2
      cases v with
      | int j =>
        cases r1
        change Post G W σI σ (SrcR G) p (if in62 j = true then .ok (.rng 0 j.toNat) ih1 else .bad) Q at hp
        split at hp
        · rename_i hj
          exact ⟨j, rfl, (in62_of hj).1, (in62_of hj).2, post_ok (Post.le l hp) R1 srcR_rng⟩
        · exact hp.elim
      | _ => exact hp.elim
theorem si_rng2 {tg a b : Expr} {p pos : Pos} {fa fb : Ex} (hg : S.sc.names.lookup ("range" : Str) = some .globalImplicit) (hm : G.mg ("range" : Str) = none) (ha : SE G Pr S n a fa) (hb : SE G Pr S n b fb) (hs : ∀ env, starEach [a, b] env = [(false, eval a env), (false, eval b env)] := by intro _; rfl) (hs2 : ∀ env, starEach [b] env = [(false, eval b env)] := by intro _; rfl) :
    SI G Pr S n tg (.Call (.Name "range" p) [a, b] [] pos) (MI.iRng2 fa fb) := fun X W c =>
  pi_imp (pi_range2 (tg := tg) (show X.env.scope.names.lookup _ = _ by rw [c.esc]; exact hg) (by rw [c.mg]; exact hm) ((sa_cons ha (sa_cons hb sa_nil (hst := fun env => hs2 env)) (hst := fun env => (hs env).trans (by rw [hs2]))) X W c) (hs X.env) (hs2 X.env)) fun σ H Q ⟨p, σI, ih, eH, R, hp⟩ => by
    subst eH
    change Post G W σI σ (SrcR G) p ((fa (ctx Pr.Pr n) σI ih).bind fun u h => (fb (ctx Pr.Pr n) σI h).bind fun v h => fRng2 u v h) Q at hp
    show tG G W (VRs G) (lCons fa (lCons fb lNil) (ctx Pr.Pr n)) σ p.H _
    refine tG.of R ?_
    show Post G W σI σ (VRs G) p ((fa (ctx Pr.Pr n) σI ih).bind fun v h => ((fb (ctx Pr.Pr n) σI h).bind fun u h => Out.ok [u] h).bind fun vs h => .ok (v :: vs) h) _
    cases q : fa (ctx Pr.Pr n) σI ih with
    | bad => rw [q] at hp; exact hp.elim
    | exc v ih1 => rw [q] at hp; exact hp
    | ok v ih1 =>
      rw [q] at hp
      show Post G W σI σ (VRs G) p (((fb (ctx Pr.Pr n) σI ih1).bind fun u h => Out.ok [u] h).bind fun vs h => .ok (v :: vs) h) _
      change Post G W σI σ (SrcR G) p ((fb (ctx Pr.Pr n) σI ih1).bind fun u h => fRng2 v u h) Q at hp
      cases q2 : fb (ctx Pr.Pr n) σI ih1 with
      | bad => rw [q2] at hp; exact hp.elim
      | exc v ih1 => rw [q2] at hp; exact hp
      | ok u ih2 =>
        rw [q2] at hp
        intro q1 xs l R1 rv
        obtain ⟨x, ys, e1, r1, r2⟩ := rv.inv
        obtain ⟨y, zs, e3, r3, r4⟩ := r2.inv
        have e2 := r4.inv0
        subst e1 e3 e2
        cases v with
        | int i =>
          cases u with
          | int j =>
            cases r1
            cases r3
            change Post G W σI σ (SrcR G) p (if in62 i = true ∧ in62 j = true then .ok (.rng i (j - i).toNat) ih2 else .bad) Q at hp
            split at hp
            · rename_i hj
              exact ⟨i, j, rfl, ⟨(in62_of hj.1).1, (in62_of hj.1).2, (in62_of hj.2).1, (in62_of hj.2).2⟩, post_ok (Post.le l hp) R1 srcR_rng⟩
            · exact hp.elim
          | _ => exact hp.elim
        | _ => cases u <;> exact hp.elim

theorem tup_yld {p : Pt} {vs : List IV} {xs : List V} {k : Nat} {v : IV} {ih : IH} (r : VRs G p vs xs) (e : (Src.tup vs).at k ih = .yld v) : ∃ x, xs[k]? = some x ∧ VR G p v x := by
  change ofIx vs[k]? = Nx.yld v at e
  cases e2 : vs[k]? with
  | none => rw [e2] at e; cases e
  | some u =>
    rw [e2] at e
    cases e
    exact r.get e2
theorem tup_stop {p : Pt} {vs : List IV} {xs : List V} {k : Nat} {ih : IH} (r : VRs G p vs xs) (e : (Src.tup vs).at k ih = .stop) : xs.length ≤ k := by
  change ofIx vs[k]? = Nx.stop at e
  cases e2 : vs[k]? with
  | none => exact List.getElem?_eq_none_iff.mp (r.none e2)
  | some u => rw [e2] at e; cases e
theorem srcR_zipT {q : Pt} {vs us : List IV} {xs ys : List V} {a b : Addr} (ha : q.H a = some (.tup xs)) (hb : q.H b = some (.tup ys)) (r : VRs G q vs xs) (r' : VRs G q us ys) : SrcR G q (.zip (.tup vs) (.tup us)) (RZ.ItzT G.K a b) := by
  intro q' σI ih σ l R k
  have h3 := SqT.of (K := G.K) (l.H _ _ ha trivial)
  have h4 := VRs.mono l r
  have h3' := SqT.of (K := G.K) (l.H _ _ hb trivial)
  have h4' := VRs.mono l r'
  show match Nx.both ((Src.tup vs).at k ih) ((Src.tup us).at k ih) with
    | .stop => _
    | .yld v => _
    | .bad => True
  cases e : (Src.tup vs).at k ih with
  | bad => trivial
  | stop =>
    cases e' : (Src.tup us).at k ih with
    | bad => trivial
    | stop => exact ⟨xs, ys, h3, h3', .inl (tup_stop h4 e)⟩
    | yld u => exact ⟨xs, ys, h3, h3', .inl (tup_stop h4 e)⟩
  | yld v =>
    cases e' : (Src.tup us).at k ih with
    | bad => trivial
    | stop => exact ⟨xs, ys, h3, h3', .inr (tup_stop h4' e')⟩
    | yld u =>
      obtain ⟨x, h1, h2⟩ := tup_yld h4 e
      obtain ⟨y, h5, h6⟩ := tup_yld h4' e'
      refine ⟨⟨xs, ys, x, y, h3, h3', h1, h5⟩, fun z H' hy => ?_⟩
      obtain ⟨T, a, b, ez, hT, eH, hx, hx'⟩ := hy
      have e5 := hx xs h3
      have e6 := hx' ys h3'
      rw [h1] at e5
      rw [h5] at e6
      cases e5
      cases e6
      subst ez
      rw [eH]
      exact pair_lay R hT h2 h6
/-- zip of two lists, or of two tuples -/
def fZip (v u : IV) (h : IH) : Out Src := match srcOf h v, srcOf h u with
  | some (.lst i), some (.lst j) => .ok (.zip (.lst i) (.lst j)) h
  | some (.tup a), some (.tup b) => .ok (.zip (.tup a) (.tup b)) h
  | _, _ => .bad
def iZip2 (a b : Ex) : Ix := fun c σ h => (a c σ h).bind fun v h => (b c σ h).bind fun u h => fZip v u h
theorem si_zip {elts : List Expr} {kk : Nat} {tpos : Pos} {a b : Expr} {p pos : Pos} {fa fb : Ex} (hg : S.sc.names.lookup ("zip" : Str) = some .globalImplicit) (hm : G.mg ("zip" : Str) = none) (ha : SE G Pr S n a fa) (hb : SE G Pr S n b fb) (hs : ∀ env, starEach [a, b] env = (false, eval a env) :: starEach [b] env := by intro _; rfl) (hs2 : ∀ env, starEach [b] env = [(false, eval b env)] := by intro _; rfl)
    (hpl : ∀ env, (backTo pos (starEach [b] env)).any (·.1) = false := by intro _; rfl) : SI G Pr S n (.Tuple elts kk tpos) (.Call (.Name "zip" p) [a, b] [] pos) (iZip2 fa fb) := fun X W c =>
  pi_imp (RZ.pi_zipA (show X.env.scope.names.lookup _ = _ by rw [c.esc]; exact hg) (by rw [c.mg]; exact hm) ((sa_cons ha (sa_cons hb sa_nil (hst := fun env => hs2 env)) (hst := fun env => hs env)) X W c) (hs X.env) (hpl X.env)) fun σ H Q ⟨p, σI, ih, eH, R, hp⟩ => by
    subst eH
    change Post G W σI σ (SrcR G) p ((fa (ctx Pr.Pr n) σI ih).bind fun u h => (fb (ctx Pr.Pr n) σI h).bind fun v h => fZip u v h) Q at hp
    show tG G W (VRs G) (lCons fa (lCons fb lNil) (ctx Pr.Pr n)) σ p.H _
    refine tG.of R ?_
    show Post G W σI σ (VRs G) p ((fa (ctx Pr.Pr n) σI ih).bind fun v h => ((fb (ctx Pr.Pr n) σI h).bind fun u h => Out.ok [u] h).bind fun vs h => .ok (v :: vs) h) _
    cases q : fa (ctx Pr.Pr n) σI ih with
    | bad => rw [q] at hp; exact hp.elim
    | exc v ih1 => rw [q] at hp; exact hp
    | ok v ih1 =>
      rw [q] at hp
      show Post G W σI σ (VRs G) p (((fb (ctx Pr.Pr n) σI ih1).bind fun u h => Out.ok [u] h).bind fun vs h => .ok (v :: vs) h) _
      change Post G W σI σ (SrcR G) p ((fb (ctx Pr.Pr n) σI ih1).bind fun u h => fZip v u h) Q at hp
      cases q2 : fb (ctx Pr.Pr n) σI ih1 with
      | bad => rw [q2] at hp; exact hp.elim
      | exc v ih1 => rw [q2] at hp; exact hp
      | ok u ih2 =>
        rw [q2] at hp
        intro q1 xs l R1 rv
        obtain ⟨x, ys, e1, r1, r2⟩ := rv.inv
        obtain ⟨y, zs, e3, r3, r4⟩ := r2.inv
        have e2 := r4.inv0
        subst e1 e3 e2
        change Post G W σI σ (SrcR G) p (fZip v u ih2) Q at hp
        unfold fZip at hp
        cases e5 : srcOf ih2 v with
        | none => rw [e5] at hp; exact hp.elim
        | some s =>
          cases e6 : srcOf ih2 u with
          | none => rw [e5, e6] at hp; cases s <;> exact hp.elim
          | some t =>
            rw [e5, e6] at hp
            rw [c.K]
            rcases src_of R1 r1 e5 with ⟨i, es, hi, ex, xs, hx⟩ | ⟨vs', a, xs, es, ex, ha, rs⟩
            · rcases src_of R1 r3 e6 with ⟨j, et, hj, ey, ys, hy⟩ | ⟨us', b, ys, et, ey, hb, rt⟩
              · subst es et
                exact ⟨_, _, xs, ys, by rw [ex, ey], .inl ⟨hx, hy, post_ok (Post.le l hp) R1 (srcR_zip hi hj)⟩⟩
              · subst es et; exact hp.elim
            · rcases src_of R1 r3 e6 with ⟨j, et, hj, ey, ys, hy⟩ | ⟨us', b, ys, et, ey, hb, rt⟩
              · subst es et; exact hp.elim
              · subst es et
                exact ⟨_, _, xs, ys, by rw [ex, ey], .inr ⟨SqT.of ha, SqT.of hb, post_ok (Post.le l hp) R1 (srcR_zipT ha hb rs rt)⟩⟩
def fEnum (v : IV) (h : IH) : Out Src := match srcOf h v with
  | some (.lst i) => .ok (.enum (.lst i)) h
  | _ => .bad
def iEnumL (a : Ex) : Ix := fun c σ h => (a c σ h).bind fun v h => fEnum v h
theorem si_enum {elts : List Expr} {kk : Nat} {tpos : Pos} {a : Expr} {p pos : Pos} {fa : Ex} (hg : S.sc.names.lookup ("enumerate" : Str) = some .globalImplicit) (hm : G.mg ("enumerate" : Str) = none) (ha : SE G Pr S n a fa) (hs : ∀ env, starEach [a] env = [(false, eval a env)] := by intro _; rfl) :
    SI G Pr S n (.Tuple elts kk tpos) (.Call (.Name "enumerate" p) [a] [] pos) (iEnumL fa) := fun X W c =>
  pi_imp (pi_enum (show X.env.scope.names.lookup _ = _ by rw [c.esc]; exact hg) (by rw [c.mg]; exact hm) ((sa_cons ha sa_nil (hst := fun env => hs env)) X W c) (hs X.env)) fun σ H Q ⟨p, σI, ih, eH, R, hp⟩ => by
    subst eH
    change Post G W σI σ (SrcR G) p ((fa (ctx Pr.Pr n) σI ih).bind fun v h => fEnum v h) Q at hp
    show tG G W (VRs G) (lCons fa lNil (ctx Pr.Pr n)) σ p.H _
    refine tG.of R ?_
    show Post G W σI σ (VRs G) p ((fa (ctx Pr.Pr n) σI ih).bind fun v h => .ok [v] h) _
    cases q : fa (ctx Pr.Pr n) σI ih with
    | bad => rw [q] at hp; exact hp.elim
    | exc v ih1 => rw [q] at hp; exact hp
    | ok v ih1 =>
      rw [q] at hp
      intro q1 xs l R1 rv
      obtain ⟨x, ys, e1, r1, r2⟩ := rv.inv
      have e2 := r2.inv0
      subst e1 e2
      change Post G W σI σ (SrcR G) p (fEnum v ih1) Q at hp
      unfold fEnum at hp
      cases e5 : srcOf ih1 v with
      | none => rw [e5] at hp; exact hp.elim
      | some s =>
        rw [e5] at hp
        rw [c.K]
        rcases src_of R1 r1 e5 with ⟨i, es, hi, ex, xs, hx⟩ | ⟨vs', a, xs, es, ex, ha, rs⟩
        · subst es
          exact ⟨_, xs, by rw [ex], hx, post_ok (Post.le l hp) R1 (srcR_enum hi)⟩
        · subst es; exact hp.elim

/-! ### comprehensions -/
/-- a comprehension's block in a block: its scope sc0 as written, own its names with their places -/
def Fs.blk (S : Fs) (sc0 : Scope) : Fs := ⟨S.N, relS sc0 S.sc, fun x => sc0.names.lookup x == some .cell, S.cd, S.q⟩
theorem CtxOk.blk {X : Cx} {W : WX} (c : CtxOk G Pr S n X W) (sc0 : Scope) (s : Shared) (H : Hp) (C : Addr) (cl : List (Str × Addr)) (fp : List Addr) : CtxOk G Pr (S.blk sc0) n (X.blk s H sc0 (compEnvC sc0 cl C X.env) fp) (fun _ _ _ _ => False) where
  prog := c.prog
  w := c.w
  K := c.K
  mg := c.mg
  base := c.base
  eN := c.eN
  nd := c.nd
  esc := by show relabel sc0 X.env = relS sc0 S.sc; rw [← c.esc] <;> rfl
  calm := c.calm
  room := c.room
  takes := LamX.takes0
  pass := PassesOwn.never
  all := c.all
  fn := rfl
  lms := c.lms
  kf := c.kf
  code := c.code
def STs (G : Gl) (Pr : Tb) (S : Fs) (n : Nat) (ifs : List Expr) (f : Tx) : Prop := ∀ X W, CtxOk G Pr S n X W → PTs X ifs (tT G W (f (ctx Pr.Pr n)))
theorem pts_imp {X : Cx} {es : List Expr} {t t' : TT} (h : PTs X es t) (k : ∀ σ H Q, t' σ H Q → t σ H Q) : PTs X es t' := ⟨fun pins s σ H Q I q => h.run pins s σ H Q I (k _ _ _ q)⟩
theorem sts_nil : STs G Pr S n [] MI.tYes := fun X W c => pts_imp pts_nil fun σ H Q ⟨p, σI, ih, eH, R, hp⟩ => by
  subst eH
  exact post_ok hp R rfl
theorem sts_one {e : Expr} {f : Tx} (h : ST G Pr S n e f) : STs G Pr S n [e] f := fun X W c => pts_one (h X W c)
theorem wipeE_length (σ : Env) : ∀ vs : List Nat, (wipeE σ vs).length = σ.length
  | [] => rfl
  | v :: vs => by unfold wipeE; rw [List.length_set, wipeE_length σ vs]
theorem wipe_at {α : Type} {σ : List (Option α)} : ∀ {vs : List Nat} {i : Nat}, i ∈ vs → i < σ.length → (vs.foldr (fun v s => s.set v none) σ)[i]? = some none
  | [], _, h, _ => by cases h
  | v :: vs, i, h, hl => by
    have hlen : (vs.foldr (fun v s => s.set v none) σ).length = σ.length := by
      clear h
      induction vs with
      | nil => rfl
      | cons a r ih => show ((r.foldr (fun v s => s.set v none) σ).set a none).length = _; rw [List.length_set]; exact ih
    show ((vs.foldr (fun v s => s.set v none) σ).set v none)[i]? = some none
    by_cases e : v = i
    · subst e
      rw [List.getElem?_set_self (by rw [hlen]; exact hl)]
    · rw [List.getElem?_set_ne e]
      have h2 : i ∈ vs := by
        rcases List.mem_cons.mp h with z | z
        · exact absurd z.symm e
        · exact z
      exact wipe_at h2 hl
theorem wipe_fold (σ : L2.St) : ∀ vs : List Nat, wipe σ vs = vs.foldr (fun v s => s.set v none) σ
  | [] => rfl
  | v :: vs => by show (wipe σ vs).set v none = _; rw [wipe_fold σ vs] <;> rfl
theorem wipe_ext {σ σ2 : L2.St} {ws vs : List Nat} (a : AgreeOut ws (wipe σ vs) σ2) (hw : ∀ i ∈ ws, i ∈ vs) : wipe σ2 vs = wipe σ vs := by
  have hl : σ2.length = σ.length := a.1.trans (wipe_length σ vs)
  apply List.ext_getElem?
  intro i
  by_cases hi : i ∈ vs
  · by_cases hil : i < σ.length
    · rw [wipe_fold, wipe_fold, wipe_at hi (by rw [hl]; exact hil), wipe_at hi hil]
    · rw [List.getElem?_eq_none (by rw [wipe_length, hl]; omega), List.getElem?_eq_none (by rw [wipe_length]; omega)]
  · rw [wipe_out hi, a.2 i (fun z => hi (hw i z))]
theorem wipeE_some {σ : Env} {i : Nat} {x : IV} : ∀ {vs : List Nat}, (wipeE σ vs)[i]? = some (some x) → σ[i]? = some (some x) ∧ i ∉ vs
  | [], h => ⟨h, by simp⟩
  | v :: vs, h => by
    unfold wipeE at h
    by_cases hi : v = i
    · subst hi
      by_cases hv : v < (wipeE σ vs).length
      · rw [List.getElem?_set_self hv] at h; cases h
      · rw [List.getElem?_eq_none (by simpa using hv)] at h; cases h
    · rw [List.getElem?_set_ne hi] at h
      obtain ⟨h1, h2⟩ := wipeE_some h
      exact ⟨h1, by simp only [List.mem_cons, not_or]; exact ⟨fun e => hi e.symm, h2⟩⟩
theorem RelI.wipe {p : Pt} {σI : Env} {ih : IH} {σ : L2.St} (R : RelI G p σI ih σ) (vs : List Nat) : RelI G p (wipeE σI vs) ih (wipe σ vs) := by
  refine ⟨R.n, R.inj, R.th, R.ob, R.tab, by rw [wipe_length, wipeE_length]; exact R.len, fun i v e => ?_⟩
  obtain ⟨e1, e2⟩ := wipeE_some e
  obtain ⟨x, e3, r⟩ := R.vars i v e1
  exact ⟨x, by rw [wipe_out e2]; exact e3, r⟩
/-- the frame's variables again, behind something that left MI's heap so -/
theorem RelI.rebase {p q : Pt} {σI σI' : Env} {ih ih' : IH} {σ σ' : L2.St} (R : RelI G p σI ih σ) (l : p.Le q) (R' : RelI G q σI' ih' σ') : RelI G q σI ih' σ := by
  refine ⟨R'.n, R'.inj, R'.th, R'.ob, R'.tab, R.len, fun i v e => ?_⟩
  obtain ⟨x, e3, r⟩ := R.vars i v e
  exact ⟨x, e3, VR.mono l r⟩
end MI
end

section
set_option Elab.async false
set_option linter.all false
set_option maxRecDepth 100000
set_option autoImplicit false
set_option maxHeartbeats 1000000
/-! MI, comprehensions, calls, defs. -/
namespace MI
open PySem L2
variable {G : Gl} {Pr : Tb} {S : Fs} {n : Nat}

theorem Post.okOf {α β : Type} {W : WX} {σI : Env} {σ : L2.St} {R : Pt → α → β → Prop} {p : Pt} {v : α} {ih : IH} {Q : β → Hp → Prop} (h : ∀ q x, p.Le q → RelI G q σI ih σ → R q v x → Q x q.H) : Post G W σI σ R p (.ok v ih) Q := h
theorem lc_read {W : WX} {own ws : List Nat} {it : Env → IH → Out Src} {g : Gx} {t : Tx} {e : Ex} (hw : ∀ i ∈ ws, i ∈ own) {σ : L2.St} {H : Hp} {Q : VK}
    (h : tE G W (fun σ h => (it σ h).bind fun s h => lcL s g t e (ctx Pr.Pr n) (wipeE σ own) h.n (s.len h) 0 (h.push (.lst []))) σ H Q) :
    tLc (tI G W it) (tGx G ws (fun v => g v (ctx Pr.Pr n))) (tT G (fun _ _ _ _ => False) (t (ctx Pr.Pr n))) (tE G (fun _ _ _ _ => False) (e (ctx Pr.Pr n))) own σ H Q := by
  obtain ⟨p, σI, ih, eH, R, hp⟩ := h
  subst eH
  refine tG.of R (Post.imp (Post.bind hp) ?_)
  rintro J H ⟨q, s, ih1, rfl, l, R1, sr, -, hp1⟩
  intro D hD
  have l0 : q.Le (q.add D (.lst [])) := Pt.le_add hD
  have R2 : RelI G (q.add D (.lst [])) σI (ih1.push (.lst [])) σ := R1.push hD (or_lst hD VRs.nil)
  -- the invariant
  refine ⟨fun k m H => ∃ q' ih', q'.H = H ∧ (q.add D (.lst [])).Le q' ∧ RelI G q' σI ih' σ ∧ Post G W σI σ (VR G) q' (lcL s g t e (ctx Pr.Pr n) (wipeE σI own) ih1.n m k ih') Q, ⟨s.len ih1, q.add D (.lst []), ih1.push (.lst []), rfl, Pt.Le.refl _, R2, Post.le l0 hp1⟩, ?_⟩
  rintro k m H ⟨q1, ih2, rfl, l1, R3, hp2⟩
  have hDn : ih1.n < q1.n := Nat.lt_of_lt_of_le (by show ih1.n < q.n + 1; rw [R1.n]; exact Nat.lt_succ_self _) l1.n
  have hDr : q1.ρ ih1.n = D := by
    rw [l1.ρ ih1.n (by show ih1.n < q.n + 1; rw [R1.n]; exact Nat.lt_succ_self _)]
    show (if ih1.n = q.n then D else q.ρ ih1.n) = D
    rw [if_pos R1.n]
  have stop : ∀ {ih3 : IH}, Post G W σI σ (VR G) q1 (.ok (.ref ih1.n) ih3) Q → RelI G q1 σI ih3 σ → Q (.ref D) q1.H := fun {ih3} hq R4 => by
    refine post_ok hq R4 ?_
    unfold VR
    exact ⟨hDn, by rw [hDr]⟩
  have h1 := sr q1 σI ih2 σ (l0.trans l1) R3 k
  cases m with
  | zero =>
    change Post G W σI σ (VR G) q1 (match s.at k ih2 with
      | .stop => .ok (.ref ih1.n) ih2
      | _ => .bad) Q at hp2
    cases e1 : s.at k ih2 with
    | stop => rw [e1] at hp2 h1; exact .inl ⟨h1, stop hp2 R3⟩
    | yld v => rw [e1] at hp2; exact hp2.elim
    | bad => rw [e1] at hp2; exact hp2.elim
  | succ m =>
    unfold lcL at hp2
    cases e1 : s.at k ih2 with
    | stop => rw [e1] at hp2 h1; exact .inl ⟨h1, stop hp2 R3⟩
    | bad => rw [e1] at hp2; exact hp2.elim
    | yld v =>
      simp only [e1] at hp2 h1
      refine .inr ⟨h1.1, fun H => ∃ q' ih', q'.H = H ∧ (q.add D (.lst [])).Le q' ∧ RelI G q' σI ih' σ ∧ Post G W σI σ (VR G) q' (lcL s g t e (ctx Pr.Pr n) (wipeE σI own) ih1.n m (k + 1) ih') Q, fun H' hw => ⟨m, Nat.lt_succ_self m, hw⟩, fun x H' hy => ?_⟩
      obtain ⟨q2, eq, l2, R4, rv⟩ := h1.2 x H' hy
      subst eq
      refine ⟨q2, wipeE σI own, ih2, v, rfl, R4.wipe own, rv, ?_⟩
      show PostG G ws q2 (wipe σ own) (g v (ctx Pr.Pr n) (wipeE σI own) ih2) _
      cases e2 : g v (ctx Pr.Pr n) (wipeE σI own) ih2 with
      | exc _ _ => simp only [e2] at hp2; exact hp2.elim
      | bad => simp only [e2] at hp2; exact hp2.elim
      | ok σ5 ih5 =>
        simp only [e2] at hp2
        intro q3 σ3 l3 R5 a5
        refine ⟨wipe_ext a5 hw, q3, σ5, ih5, rfl, R5, ?_⟩
        show Post G (fun _ _ _ _ => False) σ5 σ3 (fun _ a b => a = b) q3 (t (ctx Pr.Pr n) σ5 ih5) _
        cases e3 : t (ctx Pr.Pr n) σ5 ih5 with
        | exc _ _ => simp only [e3] at hp2; exact hp2.elim
        | bad => simp only [e3] at hp2; exact hp2.elim
        | ok b ih6 =>
          intro q4 b' l4 R6 eb
          subst eb
          cases b with
          | false =>
            simp only [e3] at hp2
            exact ⟨q4, ih6, rfl, l1.trans (l2.trans (l3.trans l4)), R4.rebase (l3.trans l4) R6, Post.le (l2.trans (l3.trans l4)) hp2⟩
          | true =>
            simp only [e3] at hp2
            show tE G (fun _ _ _ _ => False) (e (ctx Pr.Pr n)) σ3 q4.H _
            refine tG.of R6 ?_
            cases e4 : e (ctx Pr.Pr n) σ5 ih6 with
            | exc _ _ => simp only [e4] at hp2; exact hp2.elim
            | bad => simp only [e4] at hp2; exact hp2.elim
            | ok y ih7 =>
              simp only [e4] at hp2
              refine Post.okOf fun q5 z l5 R7 rz => ?_
              have l6 : q1.Le q5 := l2.trans (l3.trans (l4.trans l5))
              cases e5 : ih7.get ih1.n with
              | none => simp only [e5] at hp2; exact hp2.elim
              | some o =>
                cases o with
                | lst acc =>
                  simp only [e5] at hp2
                  have hr : VR G q5 (.ref ih1.n) (.ref D) := by
                    unfold VR
                    exact ⟨Nat.lt_of_lt_of_le hDn l6.n, by rw [l6.ρ _ hDn, hDr]⟩
                  obtain ⟨xs, e6, hi, h3, h4⟩ := R7.lst hr e5
                  split at hp2
                  · rename_i hz
                    cases e6
                    refine ⟨xs, h3, by rw [h4.length]; exact hz, ?_⟩
                    have l7 : q5.Le (q5.wr (q5.ρ ih1.n) (.lst (xs ++ [z]))) := Pt.le_wr h3 not_pers_lst
                    exact ⟨_, _, rfl, l1.trans (l6.trans l7), (R4.rebase (l3.trans (l4.trans l5)) R7).put (o := .lst (acc ++ [y])) hi h3 not_pers_lst ⟨_, upd_same, VRs.mono l7 (VRs.app h4 (VRs.cons rz VRs.nil))⟩, Post.le (l6.trans l7) hp2⟩
                  · exact hp2.elim
                | dct _ => simp only [e5] at hp2; exact hp2.elim
                | dcT _ => simp only [e5] at hp2; exact hp2.elim
                | lam _ _ => simp only [e5] at hp2; exact hp2.elim
theorem se_lc {elt tg iter : Expr} {ifs : List Expr} {scope : Scope} {own : List (Str × Nat)} {pos : Pos} {ws : List Nat} {it : Ix} {g : Gx} {t : Tx} {e : Ex} (hi : SI G Pr S n tg iter it) (ok : blkC S.N S.sc scope own = true) (hw : ∀ i ∈ ws, i ∈ own.map (·.2))
    (hg : SG G Pr (S.blk scope) n tg ws g) (ht : STs G Pr (S.blk scope) n ifs t) (he : SE G Pr (S.blk scope) n elt e) (hs : ∀ env x, foldedSetIterable iter env x = pure x := by intro _ _; rfl) :
    SE G Pr S n (.ListComp elt [⟨tg, iter, ifs, 0⟩] scope pos) (eLc (own.map (·.2)) it g t e) := fun X W c =>
  pe_imp (pe_lc c.calm (by rw [c.eN]; exact c.nd) (hi X W c) (blkOk_by (by rw [c.eN, c.esc]; exact ok)) (fun s H C cl fp => hg _ _ (c.blk scope s H C cl fp)) (fun s H C cl fp => ht _ _ (c.blk scope s H C cl fp)) (fun s H C cl fp => he _ _ (c.blk scope s H C cl fp)) (hs X.env)) fun σ H Q h => lc_read hw h
/-- name = [..] on one line, the name a local -/
theorem ss_asgLc {i : Nat} {y : Str} {py : Pos} {elt tg iter : Expr} {ifs : List Expr} {scope : Scope} {own : List (Str × Nat)} {pos spos : Pos} {ws : List Nat} {it : Ix} {g : Gx} {t : Tx} {e : Ex} (hy : S.N[i]? = some y) (hyl : S.sc.names.lookup y = some .local) (hk : S.sc.kind = .function) (hl : (py.line == pos.line) = true)
    (hnn : (scope.names.any fun (n, k) => n == y && (k == .local || k == .cell)) = false) (hi : SI G Pr S n tg iter it) (ok : blkC S.N S.sc scope own = true) (hw : ∀ i ∈ ws, i ∈ own.map (·.2))
    (hg : SG G Pr (S.blk scope) n tg ws g) (ht : STs G Pr (S.blk scope) n ifs t) (he : SE G Pr (S.blk scope) n elt e) (hs : ∀ env x, foldedSetIterable iter env x = pure x := by intro _ _; rfl) :
    SS G Pr S n (.Assign [.Name y py] (.ListComp elt [⟨tg, iter, ifs, 0⟩] scope pos) spos) (sAsg (MI.gName i) (eLc (own.map (·.2)) it g t e)) := fun X W c =>
  ps_imp (ps_setLc c.calm (by rw [c.eN]; exact c.nd) (by rw [c.eN]; exact hy) (by rw [c.esc]; exact hyl) (sw_true (by rw [c.esc]; exact hk) (by rw [c.esc]; exact hyl) hl hnn) (hi X W c) (blkOk_by (by rw [c.eN, c.esc]; exact ok)) (fun s H C cl fp => hg _ _ (c.blk scope s H C cl fp)) (fun s H C cl fp => ht _ _ (c.blk scope s H C cl fp)) (fun s H C cl fp => he _ _ (c.blk scope s H C cl fp)) (hs X.env)) fun D σ H h => by
    obtain ⟨p, σI, ih, eH, R, hp⟩ := h
    subst eH
    refine lc_read (Pr := Pr) (n := n) hw (tG.of R (Post.imp (PostF.flow hp) ?_))
    rintro x H ⟨q, v, ih1, rfl, l, R1, rv, -, hp1⟩
    exact hp1 q _ (Pt.Le.refl q) (R1.set rv)

/-! ### calls of the program's own defs -/
theorem call_of {g : Nat} {vs : List IV} {ih : IH} (h : (ctx Pr.Pr n).call g vs ih ≠ .bad) : ∃ d, Pr.Pr.df g = some d ∧ vs.length = d.p := by
  cases n with
  | zero => exact absurd rfl h
  | succ m =>
    change runDf (Pr.Pr.df g) (ctx Pr.Pr m) [] vs ih ≠ .bad at h
    cases e : Pr.Pr.df g with
    | none => rw [e] at h; exact absurd rfl h
    | some d =>
      rw [e] at h
      refine ⟨d, rfl, ?_⟩
      unfold runDf at h
      by_cases hz : vs.length = d.p
      · exact hz
      · exact absurd (if_neg hz) h
theorem sp_of {X : Cx} {W : WX} {q : Pt} {σI : Env} {ih : IH} {σ : L2.St} {g : Nat} {d : Df} {vs : List IV} {xs : List V} {Q : VK} (R : RelI G q σI ih σ) (r : VRs G q vs xs) (hl : vs.length = d.p) (hp : Post G W σI σ (VR G) q ((ctx Pr.Pr n).call g vs ih) Q) :
    spI G ((ctx Pr.Pr n).call g) d.p xs q.H Q (WE W σ) := by
  refine ⟨by rw [r.length, hl], q, vs, ih, rfl, R.bare, r, ?_⟩
  cases e : (ctx Pr.Pr n).call g vs ih with
  | ok v ih2 => rw [e] at hp; exact fun q2 x l R2 rv => hp q2 x l (R.rebase l R2) rv
  | exc v ih2 => rw [e] at hp; exact fun q2 c d' l R2 xr => hp q2 c d' l (R.rebase l R2) xr
  | bad => rw [e] at hp; exact hp.elim
theorem pe_call0S {X : Cx} {CX : CXT} {k : Nat} {f : Addr} {fd : FuncData} {ps : List Str} {sp : Sp} {E : L2.St → XK} {x : Str} {p pos : Pos} (F : FnOk X.prog X.w X.K X.mg X.base CX k f fd ps sp) (hr : Room k X.A) (hg : L2.Gl X x) (hm : X.mg x = some (.ref f)) (hk : PySem.W.keepIn X.K (.ref f) = true) (hb : Binds X.K fd ps []) (hx : ∀ σ, PassesAt CX X σ (E σ))
    (hdb : (x == ("__debug__" : Str)) = false := by decide) : PE X (.Call (.Name x p) [] [] pos) (tCallS sp E L2.tNil) := by
  refine ⟨fun pins s σ H Q I h => ?_⟩
  refine wpAny_Call_Name_kw (ld_glob I hg hm ?_ hdb)
  exact PySem.W.callWith_K0 I.kIn hk (run_fnS (us := []) F hr hb (hx σ) I .nil h)
theorem post_call {W : WX} {σI : Env} {σ : L2.St} {q : Pt} {g : Nat} {vs : List IV} {ih : IH} {Q : VK} (hp : Post G W σI σ (VR G) q ((ctx Pr.Pr n).call g vs ih) Q) : ∃ d, Pr.Pr.df g = some d ∧ vs.length = d.p :=
  call_of fun z => by rw [z] at hp; exact hp
theorem se_call {g : Nat} {d : Df} {x : Str} {e : Expr} {es : List Expr} {p pos : Pos} {fs : Lx} (hd : Pr.Pr.df g = some d) (hx : Pr.nm g = x) (hg : S.sc.names.lookup x = some .globalImplicit) (ha : SA G Pr S n (e :: es) fs)
    (hdb : (x == ("__debug__" : Str)) = false := by decide) (he : ∀ env, starEach (e :: es) env = (false, eval e env) :: starEach es env := by intro _; rfl) (hpl : ∀ env, (backTo pos (starEach es env)).any (·.1) = false := by intro _; rfl) : SE G Pr S n (.Call (.Name x p) (e :: es) [] pos) (eCall g fs) := fun X W c => by
  obtain ⟨fd, A, hl, F⟩ := c.all g d hd
  rw [hx] at A
  have F' : FnOk X.prog X.w X.K X.mg X.base (L2.CX X.prog X.w) (lv n) (G.fa g) fd (Pr.ps g) (spI G ((ctx Pr.Pr n).call g) d.p) := by rw [c.prog, c.w, c.K, c.mg, c.base]; exact F
  refine pe_imp (pe_callS F' c.room (show X.env.scope.names.lookup x = _ by rw [c.esc]; exact hg) (by rw [c.mg]; exact A.mg) (by rw [c.K]; exact A.keep) (by rw [c.K]; exact A.binds) (fun σ => passAt c.takes σ) (ha X W c) hdb (he X.env) (hpl X.env)) fun σ H Q ⟨p, σI, ih, eH, R, hp⟩ => ?_
  subst eH
  refine tG.of R (Post.imp (Post.bind hp) ?_)
  rintro xs H ⟨q, vs, ih1, rfl, l, R1, rv, -, hp1⟩
  obtain ⟨d', hd', hz⟩ := post_call hp1
  rw [hd] at hd'
  cases hd'
  exact sp_of (X := X) R1 rv hz hp1
theorem se_call0 {g : Nat} {d : Df} {x : Str} {p pos : Pos} (hd : Pr.Pr.df g = some d) (hx : Pr.nm g = x) (hg : S.sc.names.lookup x = some .globalImplicit) (hdb : (x == ("__debug__" : Str)) = false := by decide) : SE G Pr S n (.Call (.Name x p) [] [] pos) (eCall g MI.lNil) := fun X W c => by
  obtain ⟨fd, A, hl, F⟩ := c.all g d hd
  rw [hx] at A
  have F' : FnOk X.prog X.w X.K X.mg X.base (L2.CX X.prog X.w) (lv n) (G.fa g) fd (Pr.ps g) (spI G ((ctx Pr.Pr n).call g) d.p) := by rw [c.prog, c.w, c.K, c.mg, c.base]; exact F
  refine pe_imp (pe_call0S F' c.room (show X.env.scope.names.lookup x = _ by rw [c.esc]; exact hg) (by rw [c.mg]; exact A.mg) (by rw [c.K]; exact A.keep) (by rw [c.K]; exact A.binds) (fun σ => passAt c.takes σ) hdb) fun σ H Q ⟨p, σI, ih, eH, R, hp⟩ => ?_
  subst eH
  change Post G W σI σ (VR G) p ((ctx Pr.Pr n).call g [] ih) Q at hp
  obtain ⟨d', hd', hz⟩ := post_call hp
  rw [hd] at hd'
  cases hd'
  exact sp_of (X := X) (xs := []) R VRs.nil hz hp

/-! ### a def -/
theorem start_vars {p : Pt} : ∀ {vs : List IV} {xs : List V} (k : Nat), VRs G p vs xs → ∀ (i : Nat) (v : IV), (vs.map some ++ List.replicate k none)[i]? = some (some v) → ∃ x, (xs.map some ++ List.replicate k none)[i]? = some (some x) ∧ VR G p v x
  | [], xs, k, h, i, v, e => by
    rw [List.map_nil, List.nil_append, List.getElem?_replicate] at e
    split at e <;> cases e
  | u :: vs, xs, k, h, 0, v, e => by
    obtain ⟨y, ys, e1, r, rs⟩ := h.inv
    subst e1
    cases e
    exact ⟨y, rfl, r⟩
  | u :: vs, xs, k, h, i + 1, v, e => by
    obtain ⟨y, ys, e1, r, rs⟩ := h.inv
    subst e1
    exact start_vars k rs i v e
/-- what is asked of a def's derivation: its body, at every budget -/
structure DefOk (G : Gl) (Pr : Tb) (g : Nat) (d : Df) (N : List Str) (body : List Stmt) (scope : Scope) (cd : Option (Addr × Addr)) (q : Str) : Prop where
  sc : FnScope N (Pr.ps g) scope
  df : Pr.Pr.df g = some d
  nN : d.N = N.length
  np : d.p = (Pr.ps g).length
  cds : ∀ c P, cd = some (c, P) → CdOk G q c P
  body : ∀ n, SB G Pr ⟨N, scope, fun _ => true, cd, q⟩ n body d.body
theorem def_step {g : Nat} {d : Df} {N : List Str} {x qual : Str} {params : Arguments} {body : List Stmt} {scope : Scope} {fd : FuncData} {cd : Option (Addr × Addr)} (F : FunD G.K x qual params body scope [] [] (G.fa g) fd) (hcd : ∀ c P, cd = some (c, P) → fd.code = .ref c) (D : DefOk G Pr g d N body scope cd (qual ++ ".<locals>.")) (A : AllOk G Pr.Pr Pr.nm Pr.ps n) (AL : AllLm G Pr.Pr n) (hkf : ∀ g, PySem.W.keepIn G.K (.ref (G.fa g)) = true) :
    FnOk G.P G.w G.K G.mg G.base (L2.CX G.P G.w) (lv (n + 1)) (G.fa g) fd (Pr.ps g) (spI G ((ctx Pr.Pr (n + 1)).call g) d.p) := by
  refine FnOk.mono (j := lv n + 1) ?_ (by unfold lv; omega)
  obtain ⟨oc, od, dV, kV, doc, pm, an, cdv, ct, osl, rfl, lk, hcode, _, _⟩ := F.ex
  refine L2.fn_of lk hcode D.sc (fun vs H Q E h => by rw [h.1, D.np]) fun A' outer s H vs Q E hr hsp => ?_
  obtain ⟨hl, p, ivs, ih, eH, R, rv, hq⟩ := hsp
  subst eH
  have c : CtxOk G Pr ⟨N, scope, fun _ => true, cd, qual ++ ".<locals>."⟩ n (cxOf (L2.CX G.P G.w) G.P G.w G.K G.mg G.base N qual scope (G.fa g) cdv A' outer s p.H E) (fun cls d _ H => E cls d H) :=
    { prog := rfl, w := rfl, K := rfl, mg := rfl, base := rfl, eN := rfl, nd := D.sc.nd, esc := rfl, calm := rfl, room := hr, takes := takes_of rfl rfl rfl rfl, pass := passes_of rfl, all := A, fn := rfl, lms := AL, kf := hkf, code := fun c P e => ⟨hcd c P e, rfl, D.cds c P e⟩ }
  refine ⟨_, D.body n _ _ c, p, startE N.length ivs, ih, rfl, ?_, ?_⟩
  · have hvl : vs.length = ivs.length := rv.length
    refine ⟨R.n, R.inj, R.th, R.ob, R.tab, ?_, fun i v e => ?_⟩
    · unfold startE L2.start
      rw [List.length_append, List.length_append, List.length_map, List.length_map, List.length_replicate, List.length_replicate, hvl]
    · unfold startE at e
      unfold L2.start
      rw [hvl]
      exact start_vars _ rv i v e
  · change PostO G p (runDf (Pr.Pr.df g) (ctx Pr.Pr n) [] ivs ih) Q E at hq
    rw [D.df] at hq
    unfold runDf at hq
    have hz : ivs.length = d.p := by rw [← rv.length, hl]
    simp only [if_pos hz] at hq
    have e1 : (ivs.map some ++ [] ++ List.replicate (d.N - ivs.length - ([] : List (Option IV)).length) none) = startE N.length ivs := by
      unfold startE
      rw [List.append_nil, D.nN, List.length_nil, Nat.sub_zero]
    rw [e1] at hq
    cases e : d.body (ctx Pr.Pr n) (startE N.length ivs) ih with
    | nx σ2 ih2 => rw [e] at hq; exact fun q σ l R2 => hq q .non l R2.bare rfl
    | ret v ih2 => rw [e] at hq; exact fun q x l R2 rv => hq q x l R2 rv
    | exc v σ2 ih2 => rw [e] at hq; exact fun q σ cls d l R2 xr => hq q cls d l R2.bare xr
    | ct σ2 ih2 => rw [e] at hq; exact hq.elim
    | brk σ2 ih2 => rw [e] at hq; exact hq.elim
    | bad => rw [e] at hq; exact hq.elim
end MI
end

section
set_option Elab.async false
set_option linter.all false
set_option maxRecDepth 100000
set_option autoImplicit false
set_option maxHeartbeats 1000000
/-! MI, == of data. -/
namespace MI
open PySem L2 PySem.W
variable {G : Gl}

theorem oAnd_some {a b : Option Bool} {k : Bool} (h : oAnd a b = some k) : ∃ x y, a = some x ∧ b = some y ∧ k = (x && y) := by
  cases a with
  | none => cases h
  | some x =>
    cases b with
    | none => cases h
    | some y => cases h; exact ⟨x, y, rfl, rfl, rfl⟩
theorem all2_e {f : IV → IV → Option Bool} : ∀ {xs ys : List IV} {k : Bool}, all2 f xs ys = some k → ∃ e : Nat → Bool, (∀ (j : Nat) a b, xs[j]? = some a → ys[j]? = some b → f a b = some (e j)) ∧ (List.range (min xs.length ys.length)).all e = k
  | [], ys, k, h => by
    cases h
    exact ⟨fun _ => true, fun j a b e => by simp at e, by simp⟩
  | x :: xs, [], k, h => by
    cases h
    exact ⟨fun _ => true, fun j a b _ e => by simp at e, by simp⟩
  | x :: xs, y :: ys, k, h => by
    obtain ⟨k1, k2, h1, h2, rfl⟩ := oAnd_some h
    obtain ⟨e, he, hk⟩ := all2_e h2
    refine ⟨fun j => match j with
      | 0 => k1
      | j + 1 => e j, fun j a b ha hb => ?_, ?_⟩
    · cases j with
      | zero => simp at ha hb; subst ha hb; exact h1
      | succ j => exact he j a b (by simpa using ha) (by simpa using hb)
    · show (List.range (min (xs.length + 1) (ys.length + 1))).all _ = _
      rw [Nat.add_min_add_right, List.range_succ_eq_map, List.all_cons, List.all_map]
      show (k1 && (List.range (min xs.length ys.length)).all e) = _
      rw [hk]
/-- values by kind -/
inductive KVa (s : Shared) : Kd → Value → Prop
  | non : KVa s .non .none
  | bl (b : Bool) : KVa s .num (.bool b)
  | int (i : Int) (t : Tok) : KVa s .num (.int i t)
  | str (x : Str) (t : Tok) : KVa s .str (.str x t)
  | tup {l : Addr} {items : Array Value} (h : s.heap.IsTuple l items) : KVa s .tup (.ref l)
  | lst {l : Addr} {items : Array Value} (h : s.heap.IsList l items) : KVa s .lst (.ref l)
theorem rc_differ {A : Around} {s : Shared} {k1 k2 : Kd} {u v : Value} (hu : A.units < cLine) (h1 : KVa s k1 u) (h2 : KVa s k2 v) (hne : k1 ≠ k2) : SeqAt.RcAt A s u v false := by
  cases h1 with
  | non =>
    cases h2 with
    | non => exact absurd rfl hne
    | bl b => exact SeqAt.RcAt.none_bool b
    | int i t => exact SeqAt.RcAt.none_int i t
    | str x t => exact SeqAt.RcAt.none_str x t
    | tup h => exact SeqAt.RcAt.none_tuple h hu
    | lst h => exact SeqAt.RcAt.none_list h hu
  | bl b =>
    cases h2 with
    | non => exact SeqAt.RcAt.bool_none b
    | bl _ => exact absurd rfl hne
    | int i t => exact absurd rfl hne
    | str x t => exact SeqAt.RcAt.bool_str b x t
    | tup h => exact SeqAt.RcAt.bool_tuple b h hu
    | lst h => exact SeqAt.RcAt.bool_list b h hu
  | int b t' =>
    cases h2 with
    | non => exact SeqAt.RcAt.int_none b t'
    | bl _ => exact absurd rfl hne
    | int i t => exact absurd rfl hne
    | str x t => exact SeqAt.RcAt.int_str b t' x t
    | tup h => exact SeqAt.RcAt.int_tuple b t' h hu
    | lst h => exact SeqAt.RcAt.int_list b t' h hu
  | str b t' =>
    cases h2 with
    | non => exact SeqAt.RcAt.str_none b t'
    | bl x => exact SeqAt.RcAt.str_bool b t' x
    | int i t => exact SeqAt.RcAt.str_int b t' i t
    | str x t => exact absurd rfl hne
    | tup h => exact SeqAt.RcAt.str_tuple b t' h hu
    | lst h => exact SeqAt.RcAt.str_list b t' h hu
  | tup h' =>
    cases h2 with
    | non => exact SeqAt.RcAt.tuple_none h' hu
    | bl x => exact SeqAt.RcAt.tuple_bool x h' hu
    | int i t => exact SeqAt.RcAt.tuple_int i t h' hu
    | str x t => exact SeqAt.RcAt.tuple_str x t h' hu
    | tup h => exact absurd rfl hne
    | lst h => exact SeqAt.RcAt.tuple_list h' h hu
  | lst h' =>
    cases h2 with
    | non => exact SeqAt.RcAt.list_none h' hu
    | bl x => exact SeqAt.RcAt.list_bool x h' hu
    | int i t => exact SeqAt.RcAt.list_int i t h' hu
    | str x t => exact SeqAt.RcAt.list_str x t h' hu
    | tup h => exact SeqAt.RcAt.list_tuple h' h hu
    | lst h => exact absurd rfl hne
theorem ne_differ {A : Around} {s : Shared} {k1 k2 : Kd} {u v : Value} (hu : A.units < cLine) (h1 : KVa s k1 u) (h2 : KVa s k2 v) (hne : k1 ≠ k2) : SeqAt.RcNeAt A s u v true := by
  cases h1 with
  | non =>
    cases h2 with
    | non => exact absurd rfl hne
    | bl b => exact SeqAt.RcNeAt.none_bool b
    | int i t => exact SeqAt.RcNeAt.none_int i t
    | str x t => exact SeqAt.RcNeAt.none_str x t
    | tup h => exact SeqAt.RcNeAt.none_tuple h hu
    | lst h => exact SeqAt.RcNeAt.none_list h hu
  | bl b =>
    cases h2 with
    | non => exact SeqAt.RcNeAt.bool_none b
    | bl _ => exact absurd rfl hne
    | int i t => exact absurd rfl hne
    | str x t => exact SeqAt.RcNeAt.bool_str b x t
    | tup h => exact SeqAt.RcNeAt.bool_tuple b h hu
    | lst h => exact SeqAt.RcNeAt.bool_list b h hu
  | int b t' =>
    cases h2 with
    | non => exact SeqAt.RcNeAt.int_none b t'
    | bl _ => exact absurd rfl hne
    | int i t => exact absurd rfl hne
    | str x t => exact SeqAt.RcNeAt.int_str b t' x t
    | tup h => exact SeqAt.RcNeAt.int_tuple b t' h hu
    | lst h => exact SeqAt.RcNeAt.int_list b t' h hu
  | str b t' =>
    cases h2 with
    | non => exact SeqAt.RcNeAt.str_none b t'
    | bl x => exact SeqAt.RcNeAt.str_bool b t' x
    | int i t => exact SeqAt.RcNeAt.str_int b t' i t
    | str x t => exact absurd rfl hne
    | tup h => exact SeqAt.RcNeAt.str_tuple b t' h hu
    | lst h => exact SeqAt.RcNeAt.str_list b t' h hu
  | tup h' =>
    cases h2 with
    | non => exact SeqAt.RcNeAt.tuple_none h' hu
    | bl x => exact SeqAt.RcNeAt.tuple_bool x h' hu
    | int i t => exact SeqAt.RcNeAt.tuple_int i t h' hu
    | str x t => exact SeqAt.RcNeAt.tuple_str x t h' hu
    | tup h => exact absurd rfl hne
    | lst h => exact SeqAt.RcNeAt.tuple_list h' h hu
  | lst h' =>
    cases h2 with
    | non => exact SeqAt.RcNeAt.list_none h' hu
    | bl x => exact SeqAt.RcNeAt.list_bool x h' hu
    | int i t => exact SeqAt.RcNeAt.list_int i t h' hu
    | str x t => exact SeqAt.RcNeAt.list_str x t h' hu
    | tup h => exact SeqAt.RcNeAt.list_tuple h' h hu
    | lst h => exact absurd rfl hne
theorem eq_differ {A : Around} {s : Shared} {k1 k2 : Kd} {u v : Value} (hu : A.units < cLine) (h1 : KVa s k1 u) (h2 : KVa s k2 v) (hne : k1 ≠ k2) : SeqAt.EqAt A s u v false := by
  cases h1 with
  | non =>
    cases h2 with
    | non => exact absurd rfl hne
    | bl b => exact SeqAt.EqAt.none_bool b
    | int i t => exact SeqAt.EqAt.none_int i t
    | str x t => exact SeqAt.EqAt.none_str x t
    | tup h => exact SeqAt.EqAt.none_tuple h hu
    | lst h => exact SeqAt.EqAt.none_list h hu
  | bl b =>
    cases h2 with
    | non => exact SeqAt.EqAt.bool_none b
    | bl _ => exact absurd rfl hne
    | int i t => exact absurd rfl hne
    | str x t => exact SeqAt.EqAt.bool_str b x t
    | tup h => exact SeqAt.EqAt.bool_tuple b h hu
    | lst h => exact SeqAt.EqAt.bool_list b h hu
  | int b t' =>
    cases h2 with
    | non => exact SeqAt.EqAt.int_none b t'
    | bl _ => exact absurd rfl hne
    | int i t => exact absurd rfl hne
    | str x t => exact SeqAt.EqAt.int_str b t' x t
    | tup h => exact SeqAt.EqAt.int_tuple b t' h hu
    | lst h => exact SeqAt.EqAt.int_list b t' h hu
  | str b t' =>
    cases h2 with
    | non => exact SeqAt.EqAt.str_none b t'
    | bl x => exact SeqAt.EqAt.str_bool b t' x
    | int i t => exact SeqAt.EqAt.str_int b t' i t
    | str x t => exact absurd rfl hne
    | tup h => exact SeqAt.EqAt.str_tuple b t' h hu
    | lst h => exact SeqAt.EqAt.str_list b t' h hu
  | tup h' =>
    cases h2 with
    | non => exact SeqAt.EqAt.tuple_none h' hu
    | bl x => exact SeqAt.EqAt.tuple_bool x h' hu
    | int i t => exact SeqAt.EqAt.tuple_int i t h' hu
    | str x t => exact SeqAt.EqAt.tuple_str x t h' hu
    | tup h => exact absurd rfl hne
    | lst h => exact SeqAt.EqAt.tuple_list h' h hu
  | lst h' =>
    cases h2 with
    | non => exact SeqAt.EqAt.list_none h' hu
    | bl x => exact SeqAt.EqAt.list_bool x h' hu
    | int i t => exact SeqAt.EqAt.list_int i t h' hu
    | str x t => exact SeqAt.EqAt.list_str x t h' hu
    | tup h => exact SeqAt.EqAt.list_tuple h' h hu
    | lst h => exact absurd rfl hne
/-- u == v answers k, within rows and by itself; u != v the contrary -/
structure E3 (A : Around) (s : Shared) (u v : Value) (k : Bool) : Prop where
  eq : SeqAt.EqAt A s u v k
  rc : SeqAt.RcAt A s u v k
  ne : SeqAt.RcNeAt A s u v (!k)
/-- two numbers (truths among them) -/
theorem rc_num {A : Around} {s : Shared} {u v : Value} {a b : IV} {p : Pt} {x y : V} {i j : Int} (ra : VR G p a x) (rb : VR G p b y) (ru : RelV x u) (rv : RelV y v) (h1 : num a = some i) (h2 : num b = some j) : E3 A s u v (i == j) := by
  cases a with
  | int a =>
    cases ra
    obtain ⟨t, rfl⟩ := ru
    cases h1
    cases b with
    | int b =>
      cases rb
      obtain ⟨t', rfl⟩ := rv
      cases h2
      exact ⟨SeqAt.EqAt.int_int _ _ _ _, SeqAt.RcAt.int_int _ _ _ _, SeqAt.RcNeAt.int_int _ _ _ _⟩
    | bl b =>
      cases rb
      cases rv
      cases h2
      exact ⟨SeqAt.EqAt.int_bool _ _ _, SeqAt.RcAt.int_bool _ _ _, SeqAt.RcNeAt.int_bool _ _ _⟩
    | _ => cases h2
  | bl a =>
    cases ra
    cases ru
    cases h1
    cases b with
    | int b =>
      cases rb
      obtain ⟨t', rfl⟩ := rv
      cases h2
      exact ⟨SeqAt.EqAt.bool_int _ _ _, SeqAt.RcAt.bool_int _ _ _, SeqAt.RcNeAt.bool_int _ _ _⟩
    | bl b =>
      cases rb
      cases rv
      cases h2
      have e : ((if a = true then (1 : Int) else 0) == (if b = true then (1 : Int) else 0)) = (a == b) := by cases a <;> cases b <;> rfl
      rw [e]
      exact ⟨SeqAt.EqAt.bool_bool _ _, SeqAt.RcAt.bool_bool _ _, SeqAt.RcNeAt.bool_bool _ _⟩
    | _ => cases h2
  | _ => cases h1
/-- the kind of a value as MI sees it -/
theorem kva_of {X : Cx} {pins : List (Addr × Obj)} {τ : L2.St} {s : Shared} {p : Pt} {σI : Env} {ih : IH} {σ : L2.St} {a : IV} {x : V} {u : Value} (I : Inv X pins τ p.H s) (R : RelI G p σI ih σ) (ra : VR G p a x) (ru : RelV x u) (h : kind ih a ≠ .oth) (hd : kind ih a ≠ .dct) : KVa s (kind ih a) u := by
  cases a with
  | non => cases ra; cases ru; exact .non
  | bl b => cases ra; cases ru; exact .bl b
  | int i => cases ra; obtain ⟨t, rfl⟩ := ru; exact .int i t
  | str x => cases ra; obtain ⟨t, rfl⟩ := ru; exact .str x t
  | tup vs =>
    unfold VR at ra
    obtain ⟨l, xs, e, h1, h2⟩ := ra
    subst e
    cases ru
    obtain ⟨its, _, ht, _⟩ := I.tuple (SqT.of h1)
    exact .tup (items := its.toArray) ht
  | ref i =>
    have hk : kind ih (.ref i) = (match ih.get i with
      | some (.lst _) => Kd.lst
      | some (.dct _) => Kd.dct
      | some (.dcT _) => Kd.dct
      | _ => Kd.oth) := rfl
    rw [hk] at h hd ⊢
    cases q : ih.get i with
    | none => rw [q] at h; exact absurd rfl h
    | some o =>
      rw [q] at h hd
      cases o with
      | lst vs =>
        obtain ⟨xs, e1, _, h3, _⟩ := R.lst ra q
        subst e1
        cases ru
        obtain ⟨its, _, pl, _⟩ := I.list (SqL.of h3)
        exact .lst pl.isList
      | dct _ => exact absurd rfl hd
      | dcT _ => exact absurd rfl hd
      | lam _ _ => exact absurd rfl h
  | gfn g => exact absurd rfl h
  | exc c vs => exact absurd rfl h
  | scr ns => exact absurd rfl h
  | tok k => exact absurd rfl h

/-- values of two rows, place by place -/
theorem vals_at {p : Pt} {vs : List IV} {xs : List V} {us : List Value} (r : VRs G p vs xs) (ru : Vals xs us) {j : Nat} (h : j < us.toArray.size) : ∃ a x, vs[j]? = some a ∧ VR G p a x ∧ RelV x us.toArray[j] ∧ xs[j]? = some x := by
  have hl : j < us.length := by simpa using h
  have hx : j < xs.length := by rw [ru.length]; exact hl
  have hv : j < vs.length := by rw [← r.length]; exact hx
  obtain ⟨x, e1, r1⟩ := r.get (List.getElem?_eq_getElem hv)
  obtain ⟨u, e2, r2⟩ := ru.get e1
  rw [List.getElem?_eq_getElem hl] at e2
  cases e2
  exact ⟨_, x, List.getElem?_eq_getElem hv, r1, by simpa using r2, e1⟩
/-- data that stand for one value are equal, as far as == is told -/
theorem eqv_same {p : Pt} {σI : Env} {ih : IH} {σ : L2.St} (R : RelI G p σI ih σ) : ∀ (n : Nat) (a b : IV) (x : V) (k : Bool), VR G p a x → VR G p b x → eqv ih n a b = some k → k = true
  | 0, _, _, _, _, _, _, h => by cases h
  | n + 1, a, b, x, k, ra, rb, h => by
    have tup_ref : ∀ {vs : List IV} {i : Nat}, VR G p (.tup vs) x → VR G p (.ref i) x → kind ih (.ref i) = .oth ∨ False := by
      intro vs i r1 r2
      unfold VR at r1
      obtain ⟨l, xs, e, h1, h2⟩ := r1
      left
      show (match ih.get i with
        | some (.lst _) => Kd.lst
        | some (.dct _) => Kd.dct
        | some (.dcT _) => Kd.dct
        | _ => Kd.oth) = .oth
      cases q : ih.get i with
      | none => rfl
      | some o =>
        cases o with
        | lst us =>
          obtain ⟨ys, e1, _, h3, _⟩ := R.lst r2 q
          rw [e] at e1
          cases e1
          rw [h1] at h3
          cases h3
        | dct us =>
          obtain ⟨ys, e1, _, h3, _⟩ := R.dct r2 q
          rw [e] at e1
          cases e1
          rw [h1] at h3
          cases h3
        | dcT us =>
          have r3 := (show _ ∧ _ from r2)
          obtain ⟨ys, h3, _⟩ := R.ob i _ r3.1 q
          rw [e] at r3
          cases r3.2
          rw [h1] at h3
          cases h3
        | lam _ _ => rfl
    cases a with
    | non =>
      cases ra
      cases b with
      | non => cases h; rfl
      | bl b => cases rb
      | int b => cases rb
      | str b => cases rb
      | tup b => unfold VR at rb; obtain ⟨l, xs, e, _⟩ := rb; cases e
      | ref b => cases (show _ ∧ _ from rb).2
      | gfn b => cases rb
      | exc c vs => unfold VR at rb; obtain ⟨l, d, fs, e, _⟩ := rb; cases e
      | scr ns => unfold VR at rb; obtain ⟨l, e, _⟩ := rb; cases e
      | tok k => exact (show False from rb).elim
    | bl a =>
      cases ra
      cases b with
      | bl b => cases rb; change some ((if a = true then (1 : Int) else 0) == (if a = true then (1 : Int) else 0)) = some k at h; rw [beq_self_eq_true] at h; cases h; rfl
      | tup b => unfold VR at rb; obtain ⟨l, xs, e, _⟩ := rb; cases e
      | ref b => cases (show _ ∧ _ from rb).2
      | exc c vs => unfold VR at rb; obtain ⟨l, d, fs, e, _⟩ := rb; cases e
      | scr ns => unfold VR at rb; obtain ⟨l, e, _⟩ := rb; cases e
      | tok k => exact (show False from rb).elim
      | _ => cases rb
    | int a =>
      cases ra
      cases b with
      | int b => cases rb; change some (a == a) = some k at h; rw [beq_self_eq_true] at h; cases h; rfl
      | tup b => unfold VR at rb; obtain ⟨l, xs, e, _⟩ := rb; cases e
      | ref b => cases (show _ ∧ _ from rb).2
      | exc c vs => unfold VR at rb; obtain ⟨l, d, fs, e, _⟩ := rb; cases e
      | scr ns => unfold VR at rb; obtain ⟨l, e, _⟩ := rb; cases e
      | tok k => exact (show False from rb).elim
      | _ => cases rb
    | str a =>
      cases ra
      cases b with
      | str b => cases rb; change some (a == a) = some k at h; rw [beq_self_eq_true] at h; cases h; rfl
      | tup b => unfold VR at rb; obtain ⟨l, xs, e, _⟩ := rb; cases e
      | ref b => cases (show _ ∧ _ from rb).2
      | exc c vs => unfold VR at rb; obtain ⟨l, d, fs, e, _⟩ := rb; cases e
      | scr ns => unfold VR at rb; obtain ⟨l, e, _⟩ := rb; cases e
      | tok k => exact (show False from rb).elim
      | _ => cases rb
    | tup vs =>
      cases b with
      | tup us =>
        unfold VR at ra rb
        obtain ⟨l, xs, e, h1, h2⟩ := ra
        obtain ⟨l', xs', e', h1', h2'⟩ := rb
        rw [e] at e'
        cases e'
        rw [h1] at h1'
        cases h1'
        change oAnd (all2 (eqv ih n) vs us) (some (vs.length == us.length)) = some k at h
        obtain ⟨k1, k2, e1, e2, rfl⟩ := oAnd_some h
        cases e2
        have hl : vs.length = us.length := by rw [← h2.length, ← h2'.length]
        rw [hl, beq_self_eq_true, Bool.and_true]
        obtain ⟨f, hf, rfl⟩ := all2_e e1
        rw [List.all_eq_true]
        intro j hj
        have hj2 : j < us.length := by have := List.mem_range.mp hj; omega
        have hj1 : j < vs.length := by rw [hl]; exact hj2
        obtain ⟨y, q1, r1⟩ := h2.get (List.getElem?_eq_getElem hj1)
        obtain ⟨z, q2, r2⟩ := h2'.get (List.getElem?_eq_getElem hj2)
        rw [q1] at q2
        cases q2
        exact eqv_same R n _ _ y _ r1 r2 (hf j _ _ (List.getElem?_eq_getElem hj1) (List.getElem?_eq_getElem hj2))
      | ref i =>
        rcases tup_ref ra rb with q | q
        · change kdNe ih (.tup vs) (.ref i) = some k at h; unfold kdNe at h
          rw [if_pos (.inr (.inl q))] at h
          cases h
        · exact q.elim
      | exc c us => change kdNe ih (.tup vs) (.exc c us) = some k at h; unfold kdNe at h; rw [if_pos (.inr (.inl rfl))] at h; cases h
      | gfn g => change kdNe ih (.tup vs) (.gfn g) = some k at h; unfold kdNe at h; rw [if_pos (.inr (.inl rfl))] at h; cases h
      | scr ns => change kdNe ih (.tup vs) (.scr ns) = some k at h; unfold kdNe at h; rw [if_pos (.inr (.inl rfl))] at h; cases h
      | tok k => exact (show False from rb).elim
      | _ => cases rb; unfold VR at ra; obtain ⟨l, xs, e, _⟩ := ra; cases e
    | ref i =>
      cases b with
      | ref j =>
        have e1 := (show _ ∧ _ from ra)
        have e2 := (show _ ∧ _ from rb)
        have e3 : p.ρ i = p.ρ j := by
          injection (e1.2.symm.trans e2.2)
        have e4 := R.inj i j e1.1 e2.1 e3
        subst e4
        change (match ih.get i, ih.get i with
          | some (.lst xs), some (.lst ys) => if i = i then some true else if xs.length = ys.length then all2 (eqv ih n) xs ys else some false
          | _, _ => kdNe ih (.ref i) (.ref i)) = some k at h
        have hk : ∀ {q : Bool}, kdNe ih (.ref i) (.ref i) = some q → False := fun {q} z => by
          unfold kdNe at z
          rw [if_pos (.inr (.inr (.inl rfl)))] at z
          cases z
        cases e1 : ih.get i with
        | none => rw [e1] at h; exact (hk h).elim
        | some o =>
          rw [e1] at h
          cases o with
          | lst vs =>
            change (if i = i then some true else _) = some k at h
            rw [if_pos rfl] at h
            cases h; rfl
          | _ => exact (hk h).elim
      | tup vs =>
        rcases tup_ref rb ra with q | q
        · change kdNe ih (.ref i) (.tup vs) = some k at h; unfold kdNe at h
          rw [if_pos (.inl q)] at h
          cases h
        · exact q.elim
      | exc c us => change kdNe ih (.ref i) (.exc c us) = some k at h; unfold kdNe at h; rw [if_pos (.inr (.inl rfl))] at h; cases h
      | gfn g => change kdNe ih (.ref i) (.gfn g) = some k at h; unfold kdNe at h; rw [if_pos (.inr (.inl rfl))] at h; cases h
      | scr ns => change kdNe ih (.ref i) (.scr ns) = some k at h; unfold kdNe at h; rw [if_pos (.inr (.inl rfl))] at h; cases h
      | tok k => exact (show False from rb).elim
      | _ => cases rb; cases (show _ ∧ _ from ra).2
    | gfn g =>
      have e : eqv ih (n + 1) (.gfn g) b = kdNe ih (.gfn g) b := by cases b <;> rfl
      rw [e] at h; unfold kdNe at h; rw [if_pos (.inl rfl)] at h; cases h
    | exc c us =>
      have e : eqv ih (n + 1) (.exc c us) b = kdNe ih (.exc c us) b := by cases b <;> rfl
      rw [e] at h; unfold kdNe at h; rw [if_pos (.inl rfl)] at h; cases h
    | scr ns =>
      have e : eqv ih (n + 1) (.scr ns) b = kdNe ih (.scr ns) b := by cases b <;> rfl
      rw [e] at h; unfold kdNe at h; rw [if_pos (.inl rfl)] at h; cases h
    | tok k => exact (show False from ra).elim
/-- MI's == is the model's -/
theorem eqv_ok {X : Cx} {pins : List (Addr × Obj)} {τ : L2.St} {s : Shared} {p : Pt} {σI : Env} {ih : IH} {σ : L2.St} (I : Inv X pins τ p.H s) (R : RelI G p σI ih σ) :
    ∀ (n : Nat) (a b : IV) (x y : V) (u v : Value) (k : Bool), VR G p a x → VR G p b y → RelV x u → RelV y v → eqv ih n a b = some k → ∀ A : Around, A.units + n < cLine → E3 A s u v k
  | 0, _, _, _, _, _, _, _, _, _, _, _, h => by cases h
  | n + 1, a, b, x, y, u, v, k, ra, rb, ru, rv, h => fun A hu => by
    have hu1 : A.in1.units + n < cLine := by show A.units + 1 + n < cLine; omega
    have hu0 : A.units < cLine := by omega
    have nex : kdNe ih a b = some k → E3 A s u v k := by
      intro h
      unfold kdNe at h
      split at h
      · cases h
      · rename_i hz
        cases h
        have h1 := kva_of I R ra ru (fun z => hz (.inl z)) (fun z => hz (.inr (.inr (.inr (.inl z)))))
        have h2 := kva_of I R rb rv (fun z => hz (.inr (.inl z))) (fun z => hz (.inr (.inr (.inr (.inr z)))))
        have h3 : kind ih a ≠ kind ih b := fun z => hz (.inr (.inr (.inl z)))
        exact ⟨eq_differ hu0 h1 h2 h3, rc_differ hu0 h1 h2 h3, ne_differ hu0 h1 h2 h3⟩
    have oth : eqOth ih a b = some k → E3 A s u v k := by
      intro h
      unfold eqOth at h
      split at h
      · rename_i i j h1 h2
        cases h
        exact rc_num ra rb ru rv h1 h2
      · exact nex h
    have tups : ∀ {vs us : List IV}, a = .tup vs → b = .tup us → E3 A s u v k := by
      intro vs us ea eb
      subst ea eb
      have h0 := h
      change oAnd (all2 (eqv ih n) vs us) (some (vs.length == us.length)) = some k at h
      obtain ⟨k1, k2, e1, e2, ek⟩ := oAnd_some h
      cases e2
      unfold VR at ra rb
      obtain ⟨l, xs, e, h1, h2⟩ := ra
      obtain ⟨l', xs', e', h1', h2'⟩ := rb
      subst e e'
      cases ru
      cases rv
      obtain ⟨f, hf, hk1⟩ := all2_e e1
      obtain ⟨its, rx, ht, _⟩ := I.tuple (SqT.of h1)
      obtain ⟨its', rx', ht', _⟩ := I.tuple (SqT.of h1')
      have s1 : its.toArray.size = vs.length := by simp; rw [← rx.length, h2.length]
      have s2 : its'.toArray.size = us.length := by simp; rw [← rx'.length, h2'.length]
      have each : ∀ j (j1 : j < its.toArray.size) (j2 : j < its'.toArray.size), SeqAt.EqAt A.in1 s its.toArray[j] its'.toArray[j] (f j) := fun j j1 j2 => by
        obtain ⟨a, x, q1, q2, q3, _⟩ := vals_at h2 rx j1
        obtain ⟨b, y, q4, q5, q6, _⟩ := vals_at h2' rx' j2
        exact (eqv_ok I R n a b x y _ _ _ q2 q5 q3 q6 (hf j a b q1 q4) A.in1 hu1).eq
      have r1 := SeqAt.RcAt.tuples ht ht' hu0 each
      have r2 := SeqAt.RcNeAt.tuples ht ht' hu0 each
      rw [s1, s2, hk1, ← ek] at r1 r2
      by_cases hl : l = l'
      · subst hl
        have := eqv_same R (n + 1) (.tup vs) (.tup us) (.ref l) k (by unfold VR; exact ⟨l, xs, rfl, h1, h2⟩) (by unfold VR; exact ⟨l, xs', rfl, h1', h2'⟩) h0
        subst this
        exact ⟨SeqAt.EqAt.same _, r1, r2⟩
      · exact ⟨SeqAt.EqAt.of_refs hl r1, r1, r2⟩
    have lists : ∀ {i j : Nat} {vs us : List IV}, a = .ref i → b = .ref j → ih.get i = some (.lst vs) → ih.get j = some (.lst us) → (if i = j then some true else if vs.length = us.length then all2 (eqv ih n) vs us else some false) = some k → E3 A s u v k := by
      intro i j vs us ea eb e1 e2 hh
      subst ea eb
      obtain ⟨xs, ex, hi, h1, h2⟩ := R.lst ra e1
      obtain ⟨ys, ey, hj, h1', h2'⟩ := R.lst rb e2
      subst ex ey
      cases ru
      cases rv
      obtain ⟨its, rx, ht, _⟩ := I.list (SqL.of h1)
      obtain ⟨its', rx', ht', _⟩ := I.list (SqL.of h1')
      have s1 : its.toArray.size = vs.length := by simp; rw [← rx.length, h2.length]
      have s2 : its'.toArray.size = us.length := by simp; rw [← rx'.length, h2'.length]
      by_cases hij : i = j
      · subst hij
        rw [if_pos rfl] at hh
        cases hh
        have each : ∀ j (j1 : j < its.toArray.size) (j2 : j < its.toArray.size), SeqAt.EqAt A.in1 s its.toArray[j] its.toArray[j] ((fun _ => true) j) := fun j j1 j2 => SeqAt.EqAt.same _
        have r1 := SeqAt.RcAt.lists ht.isList ht.isList rfl hu0 each
        have r2 := SeqAt.RcNeAt.lists ht.isList ht.isList rfl hu0 each
        have e : (List.range its.toArray.size).all (fun _ => true) = true := by simp
        rw [e] at r1 r2
        exact ⟨SeqAt.EqAt.same _, r1, r2⟩
      · rw [if_neg hij] at hh
        have hl : p.ρ i ≠ p.ρ j := fun z => hij (R.inj i j hi hj z)
        by_cases hz : vs.length = us.length
        · rw [if_pos hz] at hh
          obtain ⟨f, hf, hk1⟩ := all2_e hh
          have each : ∀ j (j1 : j < its.toArray.size) (j2 : j < its'.toArray.size), SeqAt.EqAt A.in1 s its.toArray[j] its'.toArray[j] (f j) := fun j j1 j2 => by
            obtain ⟨a, x, q1, q2, q3, _⟩ := vals_at h2 rx j1
            obtain ⟨b, y, q4, q5, q6, _⟩ := vals_at h2' rx' j2
            exact (eqv_ok I R n a b x y _ _ _ q2 q5 q3 q6 (hf j a b q1 q4) A.in1 hu1).eq
          have r1 := SeqAt.RcAt.lists ht.isList ht'.isList (by rw [s1, s2, hz]) hu0 each
          have r2 := SeqAt.RcNeAt.lists ht.isList ht'.isList (by rw [s1, s2, hz]) hu0 each
          rw [← hz, Nat.min_self] at hk1
          rw [s1, hk1] at r1 r2
          exact ⟨SeqAt.EqAt.of_refs hl r1, r1, r2⟩
        · rw [if_neg hz] at hh
          cases hh
          have hne : (its.toArray.size != its'.toArray.size) = true := by rw [s1, s2]; simpa using hz
          have r1 := SeqAt.RcAt.lists_lengths ht.isList ht'.isList hne hu0
          exact ⟨SeqAt.EqAt.of_refs hl r1, r1, SeqAt.RcNeAt.lists_lengths ht.isList ht'.isList hne hu0⟩
    cases a with
    | non =>
      cases b with
      | non => cases h; cases ra; cases rb; cases ru; cases rv; exact ⟨SeqAt.EqAt.same _, SeqAt.RcAt.none_none, SeqAt.RcNeAt.none_none⟩
      | _ => exact oth h
    | str a =>
      cases b with
      | str b =>
        cases ra
        cases rb
        obtain ⟨t, rfl⟩ := ru
        obtain ⟨t', rfl⟩ := rv
        change some (a == b) = some k at h
        cases h
        exact ⟨SeqAt.EqAt.str_str _ _ _ _, SeqAt.RcAt.str_str _ _ _ _, SeqAt.RcNeAt.str_str _ _ _ _⟩
      | _ => exact oth h
    | tup vs =>
      cases b with
      | tup us => exact tups rfl rfl
      | _ => exact oth h
    | ref i =>
      cases b with
      | ref j =>
        change (match ih.get i, ih.get j with
          | some (.lst xs), some (.lst ys) => if i = j then some true else if xs.length = ys.length then all2 (eqv ih n) xs ys else some false
          | _, _ => kdNe ih (.ref i) (.ref j)) = some k at h
        cases e1 : ih.get i with
        | none => rw [e1] at h; exact nex h
        | some o =>
          cases e2 : ih.get j with
          | none => rw [e1, e2] at h; cases o <;> exact nex h
          | some o' =>
            rw [e1, e2] at h
            cases o with
            | lst vs =>
              cases o' with
              | lst us => exact lists rfl rfl e1 e2 h
              | _ => exact nex h
            | _ => exact nex h
      | _ => exact oth h
    | bl a => cases b <;> exact oth h
    | int a => cases b <;> exact oth h
    | gfn a => cases b <;> exact oth h
    | exc a _ => cases b <;> exact oth h
    | scr a => cases b <;> exact oth h
    | tok k => exact (show False from ra).elim
/-- a == b, a != b -/
def fEq (a b : IV) (h : IH) : Out IV := Out.of ((eqv h 60 a b).map .bl) h
def fNe (a b : IV) (h : IH) : Out IV := Out.of ((eqv h 60 a b).map fun k => .bl (!k)) h
def rEqI (G : Gl) (neg : Bool) : R2 := fun x y H Q => ∃ p σI ih σ a b k, p.H = H ∧ RelI G p σI ih σ ∧ VR G p a x ∧ VR G p b y ∧ eqv ih 60 a b = some k ∧ Q (.bl (if neg then !k else k)) H
theorem op_eqI {X : Cx} (hu : X.A.units + 64 < cLine) : OpR X (compareOp .Eq) (rEqI G false) := by
  intro pins s σ H x y v u Q I rx ry ⟨p, σI, ih, σ', a, b, k, eH, R, ra, rb, e, q⟩
  subst eH
  exact (eqv_ok I R 60 a b x y v u k ra rb rx ry e X.A (by omega)).rc X.prog X.w X.xe _ ⟨.bl k, p.H, I, rfl, q⟩
theorem op_neI {X : Cx} (hu : X.A.units + 64 < cLine) : OpR X (compareOp .NotEq) (rEqI G true) := by
  intro pins s σ H x y v u Q I rx ry ⟨p, σI, ih, σ', a, b, k, eH, R, ra, rb, e, q⟩
  subst eH
  exact (eqv_ok I R 60 a b x y v u k ra rb rx ry e X.A (by omega)).ne X.prog X.w X.xe _ ⟨.bl (!k), p.H, I, rfl, q⟩
theorem ops_eq : OpS G fEq (rEqI G false) := by
  intro W p σI ih σ v u x y Q R rv ru hp
  obtain ⟨w, e, h2⟩ := out_of hp
  cases e1 : eqv ih 60 v u with
  | none => rw [e1] at e; cases e
  | some k => rw [e1] at e; cases e; exact ⟨p, σI, ih, σ, v, u, k, rfl, R, rv, ru, e1, post_ok h2 R rfl⟩
theorem ops_ne : OpS G fNe (rEqI G true) := by
  intro W p σI ih σ v u x y Q R rv ru hp
  obtain ⟨w, e, h2⟩ := out_of hp
  cases e1 : eqv ih 60 v u with
  | none => rw [e1] at e; cases e
  | some k => rw [e1] at e; cases e; exact ⟨p, σI, ih, σ, v, u, k, rfl, R, rv, ru, e1, post_ok h2 R rfl⟩
end MI
end

section
set_option Elab.async false
set_option linter.all false
set_option maxRecDepth 100000
set_option autoImplicit false
set_option maxHeartbeats 1000000
/-! MI, operators by values. -/
namespace MI
open PySem L2
variable {G : Gl} {Pr : Tb} {S : Fs} {n : Nat}
theorem OpR.or4 {X : Cx} {f : Value → Value → Sem Value} {r1 r2 r3 r4 : R2} (h1 : OpR X f r1) (h2 : OpR X f r2) (h3 : OpR X f r3) (h4 : OpR X f r4) : OpR X f (fun x y H Q => r1 x y H Q ∨ r2 x y H Q ∨ r3 x y H Q ∨ r4 x y H Q) := h1.or (h2.or (h3.or h4))
/-! ### + -/
def fAdd (a b : IV) (h : IH) : Out IV := match a, b with
  | .int i, .int j => .ok (.int (i + j)) h
  | .str x, .str y => if x.length + y.length ≤ sizeLine then .ok (.str (x ++ y)) h else .bad
  | .tup xs, .tup ys => if xs.length + ys.length ≤ sizeLine then .ok (.tup (xs ++ ys)) h else .bad
  | .ref _, .ref _ => onL a h fun _ xs => onL b h fun _ ys => if xs.length + ys.length ≤ sizeLine then .ok (.ref h.n) (h.push (.lst (xs ++ ys))) else .bad
  | _, _ => .bad
def rAddI (K : PySem.W.Frag) : R2 := fun x y H Q => (rI0 fun i j => .int (i + j)) x y H Q ∨ (fun x y H Q => ∃ i j, x = .str i ∧ y = .str j ∧ i.length + j.length ≤ sizeLine ∧ Q (.str (i ++ j)) H : R2) x y H Q ∨ rCatA K x y H Q ∨ rCat x y H Q
theorem op_addI {X : Cx} : OpR X (binaryOp .Add) (rAddI X.K) := OpR.or4 op_add op_add_str op_catA op_cat
theorem ops_add : OpS G fAdd (rAddI G.K) := by
  intro W p σI ih σ v u x y Q R rv ru hp
  cases v with
  | int i =>
    cases u with
    | int j => cases rv; cases ru; exact .inl ⟨i, j, rfl, rfl, post_ok hp R rfl⟩
    | _ => exact hp.elim
  | str a =>
    cases u with
    | str b =>
      cases rv
      cases ru
      change Post _ _ _ _ _ _ (if a.length + b.length ≤ sizeLine then _ else _) _ at hp
      split at hp
      · rename_i hz; exact .inr (.inl ⟨a, b, rfl, rfl, hz, post_ok hp R rfl⟩)
      · exact hp.elim
    | _ => exact hp.elim
  | tup vs =>
    cases u with
    | tup us =>
      change Post _ _ _ _ _ _ (if vs.length + us.length ≤ sizeLine then _ else _) _ at hp
      split at hp
      · rename_i hz
        have rv0 := rv
        have ru0 := ru
        unfold VR at rv ru
        obtain ⟨a, xs, e1, h1, h2⟩ := rv
        obtain ⟨b, ys, e2, h3, h4⟩ := ru
        refine .inr (.inr (.inl ⟨a, b, xs, ys, e1, e2, SqT.of h1, SqT.of h3, by rw [h2.length, h4.length]; exact hz, fun e => ?_, fun _ e => ?_, fun _ _ q hq => post_tup hp R hq (VRs.app h2 h4)⟩))
        · have e3 : vs = [] := by
            have := h2.length
            rw [e] at this
            exact List.length_eq_zero_iff.mp this.symm
          subst e3
          rw [← e2]
          exact post_ok hp R ru0
        · have e3 : us = [] := by
            have := h4.length
            rw [e] at this
            exact List.length_eq_zero_iff.mp this.symm
          subst e3
          rw [← e1]
          rw [List.append_nil] at hp
          exact post_ok hp R rv0
      · exact hp.elim
    | _ => exact hp.elim
  | ref i =>
    cases u with
    | ref j =>
      obtain ⟨i', vs, xs, e0, e, e1, hi, h3, h4, hp⟩ := onL_of (f := fun _ xs => onL (.ref j) ih fun _ ys => if xs.length + ys.length ≤ sizeLine then .ok (.ref ih.n) (ih.push (.lst (xs ++ ys))) else .bad) R rv hp
      obtain ⟨j', us, ys, e0', e', e1', hj, h3', h4', hp⟩ := onL_of (f := fun _ ys => if vs.length + ys.length ≤ sizeLine then .ok (.ref ih.n) (ih.push (.lst (vs ++ ys))) else .bad) R ru hp
      split at hp
      · rename_i hz
        exact .inr (.inr (.inr ⟨_, _, xs, ys, e1, e1', h3, h3', by rw [h4.length, h4'.length]; exact hz, fun q hq => post_new hp R hq (or_lst hq (VRs.app h4 h4'))⟩))
      · exact hp.elim
    | _ => exact hp.elim
  | _ => cases u <;> exact hp.elim
/-! ### ints -/
def fInt (C : Int → Int → Bool) (f : Int → Int → IV) (a b : IV) (h : IH) : Out IV := match a, b with
  | .int i, .int j => if C i j = true then .ok (f i j) h else .bad
  | _, _ => .bad
theorem ops_int {C : Int → Int → Bool} {D : Int → Int → Prop} {f : Int → Int → IV} {g : Int → Int → V} (hC : ∀ i j, C i j = true → D i j) (hf : ∀ p i j, VR G p (f i j) (g i j)) : OpS G (fInt C f) (rI D g) := by
  intro W p σI ih σ v u x y Q R rv ru hp
  cases v with
  | int i =>
    cases u with
    | int j =>
      cases rv
      cases ru
      change Post _ _ _ _ _ _ (if C i j = true then _ else _) _ at hp
      split at hp
      · rename_i hz; exact ⟨i, j, rfl, rfl, hC i j hz, post_ok hp R (hf p i j)⟩
      · exact hp.elim
    | _ => exact hp.elim
  | _ => cases u <;> exact hp.elim
def fInt0 (f : Int → Int → IV) (a b : IV) (h : IH) : Out IV := match a, b with
  | .int i, .int j => .ok (f i j) h
  | _, _ => .bad
theorem ops_int0 {f : Int → Int → IV} {g : Int → Int → V} (hf : ∀ p i j, VR G p (f i j) (g i j)) : OpS G (fInt0 f) (rI0 g) := by
  intro W p σI ih σ v u x y Q R rv ru hp
  cases v with
  | int i =>
    cases u with
    | int j => cases rv; cases ru; exact ⟨i, j, rfl, rfl, post_ok hp R (hf p i j)⟩
    | _ => exact hp.elim
  | _ => cases u <;> exact hp.elim
def fSub := fInt0 fun i j => .int (i - j)
def fLt := fInt0 fun i j => .bl (decide (i < j))
def fLe := fInt0 fun i j => .bl (decide (i ≤ j))
def fGt := fInt0 fun i j => .bl (decide (j < i))
def fGe := fInt0 fun i j => .bl (decide (j ≤ i))
def cMul (i j : Int) : Bool := (decide (-(2 ^ 64) < i) && decide (i < 2 ^ 64)) || (decide (-(2 ^ 64) < j) && decide (j < 2 ^ 64))
def cDiv (i j : Int) : Bool := decide (0 < j) && decide (j < 1073741824)
def cMod (i j : Int) : Bool := decide (0 < j)
def cPow (i j : Int) : Bool := decide (0 ≤ j) && decide (j ≤ 1000000) && decide (i.natAbs < 2 ^ 64)
def fMulI := fInt cMul fun i j => .int (i * j)
def fFdiv := fInt cDiv fun i j => .int (i / j)
def fMod := fInt cMod fun i j => .int (i % j)
def fPow := fInt cPow fun i j => .int (i ^ j.toNat)
theorem ops_sub : OpS G fSub (rI0 fun i j => .int (i - j)) := ops_int0 fun _ _ _ => rfl
theorem ops_lt : OpS G fLt (rI0 fun i j => .bl (decide (i < j))) := ops_int0 fun _ _ _ => rfl
theorem ops_le : OpS G fLe (rI0 fun i j => .bl (decide (i ≤ j))) := ops_int0 fun _ _ _ => rfl
theorem ops_gt : OpS G fGt (rI0 fun i j => .bl (decide (j < i))) := ops_int0 fun _ _ _ => rfl
theorem ops_ge : OpS G fGe (rI0 fun i j => .bl (decide (j ≤ i))) := ops_int0 fun _ _ _ => rfl
theorem ops_mulI : OpS G fMulI (rI CMul fun i j => .int (i * j)) := ops_int (fun i j h => by
  unfold cMul at h
  simp only [Bool.or_eq_true, Bool.and_eq_true, decide_eq_true_eq] at h
  exact h) fun _ _ _ => rfl
theorem ops_fdiv : OpS G fFdiv (rI CDiv fun i j => .int (i / j)) := ops_int (fun i j h => by
  unfold cDiv at h
  simp only [Bool.and_eq_true, decide_eq_true_eq] at h
  exact h) fun _ _ _ => rfl
theorem ops_mod : OpS G fMod (rI (fun _ j => 0 < j) fun i j => .int (i % j)) := ops_int (fun i j h => of_decide_eq_true h) fun _ _ _ => rfl
theorem ops_pow : OpS G fPow (rI CPow fun i j => .int (i ^ j.toNat)) := ops_int (fun i j h => by
  unfold cPow at h
  simp only [Bool.and_eq_true, decide_eq_true_eq] at h
  exact ⟨h.1.1, h.1.2, h.2⟩) fun _ _ _ => rfl
/-! ### - a -/
def fNeg (a : IV) (h : IH) : Out IV := match a with
  | .int i => .ok (.int (-i)) h
  | _ => .bad
theorem se_neg {a : Expr} {pos : Pos} {fa : Ex} (ha : SE G Pr S n a fa) : SE G Pr S n (.UnaryOp .USub a pos) (eUn fNeg fa) := fun X W c =>
  pe_imp (pe_un un_neg (ha X W c)) fun σ H Q ⟨p, σI, ih, eH, R, hp⟩ => by
    subst eH
    refine tG.of R (Post.imp (Post.bind hp) ?_)
    rintro x H ⟨q, v, ih1, rfl, l, R1, rv, -, hp1⟩
    cases v with
    | int i => exact ⟨i, rv, post_ok hp1 R1 rfl⟩
    | _ => exact hp1.elim
/-! ### is None -/
def isNonI : IV → Bool
  | .non => true
  | _ => false
theorem isNon_dec {p : Pt} {v : IV} {x : V} (r : VR G p v x) : decide (x = .non) = isNonI v := by
  cases v with
  | non => cases r; rfl
  | bl b => cases r; rfl
  | int b => cases r; rfl
  | str b => cases r; rfl
  | tup b => unfold VR at r; obtain ⟨_, _, e, _⟩ := r; rw [e]; rfl
  | ref b => rw [(show _ ∧ _ from r).2]; rfl
  | gfn b => cases r; rfl
  | exc c vs => unfold VR at r; obtain ⟨_, _, _, e, _⟩ := r; rw [e]; rfl
  | scr ns => unfold VR at r; obtain ⟨_, e, _⟩ := r; rw [e]; rfl
  | tok k => exact (show False from r).elim
def isTok : IV → Bool
  | .tok _ => true
  | _ => false
def fIsN (a b : IV) (h : IH) : Out IV := match b with
  | .non => if isTok a = true then .bad else .ok (.bl (isNonI a)) h
  | _ => .bad
def fNotN (a b : IV) (h : IH) : Out IV := match b with
  | .non => if isTok a = true then .bad else .ok (.bl (!isNonI a)) h
  | _ => .bad
theorem ops_isN : OpS G fIsN (fun x y H Q => y = .non ∧ Q (.bl (decide (x = .non))) H) := by
  intro W p σI ih σ v u x y Q R rv ru hp
  cases u with
  | non =>
    change Post _ _ _ _ _ _ (if isTok v = true then .bad else _) _ at hp
    split at hp
    · exact hp.elim
    · exact ⟨ru, by rw [isNon_dec rv]; exact post_ok hp R rfl⟩
  | _ => exact hp.elim
theorem ops_notN : OpS G fNotN (fun x y H Q => y = .non ∧ Q (.bl (!decide (x = .non))) H) := by
  intro W p σI ih σ v u x y Q R rv ru hp
  cases u with
  | non =>
    change Post _ _ _ _ _ _ (if isTok v = true then .bad else _) _ at hp
    split at hp
    · exact hp.elim
    · exact ⟨ru, by rw [isNon_dec rv]; exact post_ok hp R rfl⟩
  | _ => exact hp.elim
/-! ### in, not in: lists, tuples, texts -/
def anyE (f : IV → Option Bool) : List IV → Option Bool
  | [] => some false
  | x :: xs => (match f x, anyE f xs with
    | some a, some b => some (a || b)
    | _, _ => none)
theorem anyE_of {f : IV → Option Bool} : ∀ {xs : List IV} {k : Bool}, anyE f xs = some k → (∀ x ∈ xs, ∃ b, f x = some b) ∧ (k = true ↔ ∃ x ∈ xs, f x = some true)
  | [], k, h => by
    cases h
    constructor
    · intro x hx; cases hx
    · simp
  | x :: xs, k, h => by
    unfold anyE at h
    cases e1 : f x with
    | none => rw [e1] at h; cases h
    | some a =>
      cases e2 : anyE f xs with
      | none => rw [e1, e2] at h; cases h
      | some b =>
        rw [e1, e2] at h
        cases h
        obtain ⟨h1, h2⟩ := anyE_of e2
        refine ⟨fun y hy => ?_, ?_⟩
        · rcases List.mem_cons.mp hy with z | z
          · subst z; exact ⟨a, e1⟩
          · exact h1 y z
        · constructor
          · intro hk
            rcases (Bool.or_eq_true _ _ ▸ hk : a = true ∨ b = true) with z | z
            · exact ⟨x, List.mem_cons_self, by rw [e1, z]⟩
            · obtain ⟨y, hy, e⟩ := h2.mp z
              exact ⟨y, List.mem_cons_of_mem _ hy, e⟩
          · rintro ⟨y, hy, e⟩
            rcases List.mem_cons.mp hy with z | z
            · subst z; rw [e1] at e; cases e; rfl
            · rw [h2.mpr ⟨y, z, e⟩, Bool.or_true]
def fIn (neg : Bool) (a b : IV) (h : IH) : Out IV := match b with
  | .str y => (match a with
    | .str x => .ok (.bl (if neg then !(!(Builtin.Str.occurrences y x 0 y.length 1).isEmpty) else !(Builtin.Str.occurrences y x 0 y.length 1).isEmpty)) h
    | _ => .bad)
  | _ => (match rowOf h b with
    | some ys => Out.of ((anyE (fun z => eqv h 60 z a) ys).map fun k => .bl (if neg then !k else k)) h
    | none => .bad)
def rInI (G : Gl) (neg : Bool) : R2 := fun x y H Q =>
  (∃ i j, x = .str i ∧ y = .str j ∧ Q (.bl (if neg then !(!(Builtin.Str.occurrences j i 0 j.length 1).isEmpty) else !(Builtin.Str.occurrences j i 0 j.length 1).isEmpty)) H) ∨
  ∃ p σI ih σ a ys xs l k, p.H = H ∧ RelI G p σI ih σ ∧ VR G p a x ∧ y = .ref l ∧ (SqL G.K H l xs ∨ SqT G.K H l xs) ∧ VRs G p ys xs ∧ anyE (fun z => eqv ih 60 z a) ys = some k ∧ Q (.bl (if neg then !k else k)) H
theorem mem_at {xs : List V} {us : List Value} (r : Vals xs us) : ∀ {ys : List IV} {p : Pt}, VRs G p ys xs → ∀ u ∈ us, ∃ a x, a ∈ ys ∧ VR G p a x ∧ RelV x u := by
  intro ys p rs u hu
  obtain ⟨j, hj, e⟩ := List.mem_iff_getElem.mp hu
  obtain ⟨a, x, h1, h2, h3, _⟩ := vals_at rs r (j := j) (by simpa using hj)
  exact ⟨a, x, List.mem_of_getElem? h1, h2, by simpa [e] using h3⟩
theorem mem_back {xs : List V} {us : List Value} (r : Vals xs us) : ∀ {ys : List IV} {p : Pt}, VRs G p ys xs → ∀ a ∈ ys, ∃ x u, u ∈ us ∧ VR G p a x ∧ RelV x u := by
  intro ys p rs a ha
  obtain ⟨j, hj, e⟩ := List.mem_iff_getElem.mp ha
  obtain ⟨x, h1, h2⟩ := rs.get (List.getElem?_eq_getElem hj)
  obtain ⟨u, h3, h4⟩ := r.get h1
  exact ⟨x, u, List.mem_of_getElem? h3, by rw [← e]; exact h2, h4⟩
theorem op_inI {X : Cx} (hu : X.A.units + 64 < cLine) (hK : X.K = G.K) : OpR X (compareOp .In) (rInI G false) ∧ OpR X (compareOp .NotIn) (rInI G true) := by
  have key : ∀ {pins : List (Addr × Obj)} {τ : L2.St} {s : Shared} {p : Pt} {σI : Env} {ih : IH} {σ : L2.St} {a : IV} {x : V} {v : Value} {ys : List IV} {xs : List V} {us : List Value} {k : Bool}, Inv X pins τ p.H s → RelI G p σI ih σ → VR G p a x → RelV x v → VRs G p ys xs → Vals xs us → anyE (fun z => eqv ih 60 z a) ys = some k →
      ∃ e : Value → Bool, (∀ y, y ∈ us.toArray → SeqAt.EqAt X.A.in1 s y v (e y)) ∧ us.toArray.any e = k := by
    intro pins τ s p σI ih σ a x v ys xs us k I R ra rv rs ru h
    obtain ⟨h1, h2⟩ := anyE_of h
    have hu1 : X.A.in1.units + 60 < cLine := by show X.A.units + 1 + 60 < cLine; omega
    classical
    refine ⟨fun u => decide (∃ b z, b ∈ ys ∧ VR G p b z ∧ RelV z u ∧ eqv ih 60 b a = some true), fun u hm => ?_, ?_⟩
    · obtain ⟨b, z, hb, rb, rz⟩ := mem_at ru rs u (by simpa using hm)
      obtain ⟨q, hq⟩ := h1 b hb
      by_cases he : ∃ b z, b ∈ ys ∧ VR G p b z ∧ RelV z u ∧ eqv ih 60 b a = some true
      · show SeqAt.EqAt _ _ _ _ (decide _)
        rw [decide_eq_true he]
        obtain ⟨b', z', hb', rb', rz', e'⟩ := he
        exact (eqv_ok I R 60 b' a z' x u v true rb' ra rz' rv e' X.A.in1 hu1).eq
      · show SeqAt.EqAt _ _ _ _ (decide _)
        rw [decide_eq_false he]
        cases q with
        | true => exact absurd ⟨b, z, hb, rb, rz, hq⟩ he
        | false => exact (eqv_ok I R 60 b a z x u v false rb ra rz rv hq X.A.in1 hu1).eq
    · rw [Bool.eq_iff_iff, h2, Array.any_eq_true']
      constructor
      · rintro ⟨u, _, hu⟩
        obtain ⟨b, z, hb, _, _, e⟩ := of_decide_eq_true hu
        exact ⟨b, hb, e⟩
      · rintro ⟨b, hb, e⟩
        obtain ⟨z, u, hu, rb, rz⟩ := mem_back ru rs b hb
        exact ⟨u, by simpa using hu, decide_eq_true ⟨b, z, hb, rb, rz, e⟩⟩
  constructor
  · intro pins s τ H x y v u Q I rx ry hh
    rcases hh with hh | ⟨p, σI, ih, σ, a, ys, xs, l, k, eH, R, ra, ey, hs, rs, h, q⟩
    · exact op_in_str pins s τ H x y v u Q I rx ry hh
    · subst eH ey
      cases ry
      rw [← hK] at hs
      rcases hs with hs | hs
      · obtain ⟨us, ru, pl, _⟩ := I.list hs
        obtain ⟨e, h1, h2⟩ := key I R ra rx rs ru h
        exact SeqAt.in_listAt e pl.isList h1 ⟨.bl k, p.H, I, by rw [h2] <;> rfl, q⟩
      · obtain ⟨us, ru, ht, _⟩ := I.tuple hs
        obtain ⟨e, h1, h2⟩ := key I R ra rx rs ru h
        exact SeqAt.in_tupleAt e ht h1 ⟨.bl k, p.H, I, by rw [h2] <;> rfl, q⟩
  · intro pins s τ H x y v u Q I rx ry hh
    rcases hh with hh | ⟨p, σI, ih, σ, a, ys, xs, l, k, eH, R, ra, ey, hs, rs, h, q⟩
    · exact L2.op_notin_str pins s τ H x y v u Q I rx ry hh
    · subst eH ey
      cases ry
      rw [← hK] at hs
      rcases hs with hs | hs
      · obtain ⟨us, ru, pl, _⟩ := I.list hs
        obtain ⟨e, h1, h2⟩ := key I R ra rx rs ru h
        exact SeqAt.notIn_listAt e pl.isList h1 ⟨.bl (!k), p.H, I, by rw [h2] <;> rfl, q⟩
      · obtain ⟨us, ru, ht, _⟩ := I.tuple hs
        obtain ⟨e, h1, h2⟩ := key I R ra rx rs ru h
        exact SeqAt.notIn_tupleAt e ht h1 ⟨.bl (!k), p.H, I, by rw [h2] <;> rfl, q⟩
theorem row_of {p : Pt} {σI : Env} {ih : IH} {σ : L2.St} {v : IV} {x : V} {vs : List IV} (R : RelI G p σI ih σ) (r : VR G p v x) (h : rowOf ih v = some vs) : ∃ l xs, x = .ref l ∧ VRs G p vs xs ∧ (SqL G.K p.H l xs ∨ SqT G.K p.H l xs) := by
  cases v with
  | tup us =>
    cases h
    unfold VR at r
    obtain ⟨a, xs, e1, h3, h4⟩ := r
    exact ⟨a, xs, e1, h4, .inr (SqT.of h3)⟩
  | ref i =>
    change (match ih.get i with
      | some (.lst vs) => some vs
      | _ => none) = some vs at h
    cases q : ih.get i with
    | none => rw [q] at h; cases h
    | some o =>
      rw [q] at h
      cases o with
      | lst us =>
        cases h
        obtain ⟨xs, e1, _, h3, h4⟩ := R.lst r q
        exact ⟨_, xs, e1, h4, .inl (SqL.of h3)⟩
      | _ => cases h
  | _ => cases h
theorem ops_in (neg : Bool) : OpS G (fIn neg) (rInI G neg) := by
  intro W p σI ih σ v u x y Q R rv ru hp
  have row : Post G W σI σ (VR G) p (match rowOf ih u with
    | some ys => Out.of ((anyE (fun z => eqv ih 60 z v) ys).map fun k => .bl (if neg then !k else k)) ih
    | none => .bad) Q → rInI G neg x y p.H Q := by
    intro hp
    cases e1 : rowOf ih u with
    | none => rw [e1] at hp; exact hp.elim
    | some ys =>
      rw [e1] at hp
      obtain ⟨w, e, h2⟩ := out_of hp
      cases e2 : anyE (fun z => eqv ih 60 z v) ys with
      | none => rw [e2] at e; cases e
      | some k =>
        rw [e2] at e
        cases e
        obtain ⟨l, xs, ey, rs, hs⟩ := row_of R ru e1
        exact .inr ⟨p, σI, ih, σ, v, ys, xs, l, k, rfl, R, rv, ey, hs, rs, e2, post_ok h2 R rfl⟩
  cases u with
  | str y =>
    cases v with
    | str x => cases rv; cases ru; exact .inl ⟨x, y, rfl, rfl, post_ok hp R rfl⟩
    | _ => exact hp.elim
  | _ => exact row hp
end MI
end

section
set_option Elab.async false
set_option linter.all false
set_option maxRecDepth 100000
set_option autoImplicit false
set_option maxHeartbeats 1000000
/-! MI, what is built in: len, int, list, tuple, all, any; items. -/
namespace MI
open PySem L2
variable {G : Gl} {Pr : Tb} {S : Fs} {n : Nat}
theorem KVR.length {κ : Type} {p : Pt} : ∀ {kvs : List (κ × IV)} {ks : List (κ × V)}, KVR G p kvs ks → ks.length = kvs.length
  | [], _, h => by unfold KVR at h; rw [h]; rfl
  | (k, v) :: r, _, h => by
    unfold KVR at h
    obtain ⟨x, ks', e, _, hr⟩ := h
    rw [e, List.length_cons, List.length_cons, KVR.length hr]
theorem vr_unkey {p : Pt} (k : Key) : VR G p (unkey k) (kV k) := by cases k <;> rfl
theorem VRs.keys {p : Pt} : ∀ {kvs : List (Key × IV)} {ks : List (Key × V)}, KVR G p kvs ks → VRs G p (kvs.map fun kv => unkey kv.1) (ks.map fun kv => kV kv.1)
  | [], _, h => by unfold KVR at h; rw [h]; exact VRs.nil
  | (k, v) :: r, _, h => by
    unfold KVR at h
    obtain ⟨x, ks', e, _, hr⟩ := h
    rw [e]
    exact VRs.cons (vr_unkey k) (VRs.keys hr)
theorem RelI.dcT {p : Pt} {σI : Env} {ih : IH} {σ : L2.St} (R : RelI G p σI ih σ) {i : Nat} {x : V} {kvs : List (List Key × IV)} (r : VR G p (.ref i) x) (e : ih.get i = some (.dcT kvs)) :
    ∃ ks, x = .ref (p.ρ i) ∧ i < p.n ∧ p.H (p.ρ i) = some (.dT ks) ∧ KVR G p kvs ks := by
  unfold VR at r
  obtain ⟨xs, h1, h2⟩ := R.ob i _ r.1 e
  exact ⟨xs, r.2, r.1, h1, h2⟩
/-- all stays, an object at a new place comes (with things beside) -/
def Pt.grow (p : Pt) (a : Addr) (H : Hp) : Pt := ⟨fun i => if i = p.n then a else p.ρ i, p.n + 1, H⟩
theorem Pt.le_grow {p : Pt} {a : Addr} {H : Hp} (k : ∀ b o, p.H b = some o → H b = some o) : p.Le (p.grow a H) := ⟨Nat.le_succ _, fun i hi => if_neg (Nat.ne_of_lt hi), fun b o e _ => k b o e⟩
theorem RelI.grow {p : Pt} {σI : Env} {ih : IH} {σ : L2.St} {a : Addr} {H : Hp} {o : IO} (R : RelI G p σI ih σ) (k : ∀ b o, p.H b = some o → H b = some o) (hn : p.H a = none) (ha : H a ≠ none) (h : OR G (p.grow a H) o a) : RelI G (p.grow a H) σI (ih.push o) σ := by
  have l : p.Le (p.grow a H) := Pt.le_grow k
  have ne : ∀ i, i < p.n → p.ρ i ≠ a := fun i hi z => R.th i hi (by rw [z]; exact hn)
  refine ⟨by show ih.n + 1 = p.n + 1; rw [R.n], fun i j hi hj e => ?_, fun i hi => ?_, fun i u hi e => ?_, R.tab.ext k, R.len, fun i v e => ?_⟩
  · change i < p.n + 1 at hi
    change j < p.n + 1 at hj
    change (if i = p.n then a else p.ρ i) = (if j = p.n then a else p.ρ j) at e
    by_cases h1 : i = p.n
    · by_cases h2 : j = p.n
      · rw [h1, h2]
      · rw [if_pos h1, if_neg h2] at e
        exact absurd e.symm (ne j (by omega))
    · by_cases h2 : j = p.n
      · rw [if_neg h1, if_pos h2] at e
        exact absurd e (ne i (by omega))
      · rw [if_neg h1, if_neg h2] at e
        exact R.inj i j (by omega) (by omega) e
  · change i < p.n + 1 at hi
    show H (if i = p.n then a else p.ρ i) ≠ none
    by_cases h1 : i = p.n
    · rw [if_pos h1]; exact ha
    · rw [if_neg h1]
      intro z
      cases q : p.H (p.ρ i) with
      | none => exact R.th i (by omega) q
      | some u => rw [k _ _ q] at z; cases z
  · rw [IH.get_push] at e
    change i < p.n + 1 at hi
    show OR G _ u (if i = p.n then a else p.ρ i)
    by_cases h1 : i = p.n
    · rw [if_pos (by rw [h1, R.n])] at e
      cases e
      rw [if_pos h1]; exact h
    · rw [if_neg (by rw [R.n]; exact h1)] at e
      rw [if_neg h1]
      exact OR.mono l (fun u' e' => k _ _ e') (R.ob i u (by omega) e)
  · obtain ⟨x, e1, r⟩ := R.vars i v e
    exact ⟨x, e1, VR.mono l r⟩
theorem post_grow {W : WX} {σI : Env} {σ : L2.St} {p : Pt} {ih : IH} {o : IO} {Q : VK} {a : Addr} {H : Hp} (h : Post G W σI σ (VR G) p (.ok (.ref ih.n) (ih.push o)) Q) (R : RelI G p σI ih σ) (k : ∀ b o, p.H b = some o → H b = some o) (hn : p.H a = none) (ha : H a ≠ none) (hO : OR G (p.grow a H) o a) : Q (.ref a) H := by
  refine h (p.grow a H) (.ref a) (Pt.le_grow k) (R.grow k hn ha hO) ?_
  show ih.n < p.n + 1 ∧ V.ref a = V.ref (if ih.n = p.n then a else p.ρ ih.n)
  rw [R.n, if_pos rfl]
  exact ⟨Nat.lt_succ_self _, rfl⟩
def one (vs : List IV) (f : IV → Out IV) : Out IV := match vs with
  | [v] => f v
  | _ => .bad
theorem one_of {p : Pt} {v : IV} {xs : List V} (r : VRs G p [v] xs) : ∃ x, xs = [x] ∧ VR G p v x := by
  obtain ⟨y, ys, e, r1, r2⟩ := r.inv
  rw [r2.inv0] at e
  exact ⟨y, e, r1⟩
theorem one_el {p : Pt} {vs : List IV} {xs : List V} {f : IV → Out IV} {W : WX} {σI : Env} {σ : L2.St} {Q : VK} (r : VRs G p vs xs) (hp : Post G W σI σ (VR G) p (one vs f) Q) : ∃ v x, vs = [v] ∧ xs = [x] ∧ VR G p v x ∧ Post G W σI σ (VR G) p (f v) Q := by
  match vs, r, hp with
  | [], _, hp => exact hp.elim
  | _ :: _ :: _, _, hp => exact hp.elim
  | [v], r, hp =>
    obtain ⟨x, rfl, r'⟩ := one_of r
    exact ⟨v, x, rfl, rfl, r', hp⟩
/-! ### len -/
def fLenV (v : IV) (h : IH) : Option Nat := match v with
  | .str s => if s.length ≤ sizeLine then some s.length else none
  | .tup vs => some vs.length
  | .ref i => (match h.get i with
    | some (.lst vs) => some vs.length
    | some (.dct kvs) => some kvs.length
    | some (.dcT kvs) => some kvs.length
    | _ => none)
  | _ => none
def pLen (vs : List IV) (h : IH) : Out IV := one vs fun v => Out.of ((fLenV v h).map fun n => .int n) h
def rLenI (K : PySem.W.Frag) : List V → Hp → VK → Prop := fun xs H Q =>
  (∃ x n, xs = [x] ∧ LenV K x H n ∧ Q (.int n) H) ∨ (∃ a kvs, xs = [V.ref a] ∧ H a = some (.dK kvs) ∧ Q (.int kvs.length) H) ∨ rLenT xs H Q
theorem call_lenI {X : Cx} : CallR X (.builtin "len") (rLenI X.K) := CallR.or call_len (CallR.or call_lenD call_len_dT)
theorem cas_len : CaS G pLen (rLenI G.K) := by
  intro W p σI ih σ vs xs Q R rv hp
  obtain ⟨v, x, rfl, rfl, r, hp⟩ := one_el rv hp
  all_goals
    obtain ⟨w, e, h2⟩ := out_of hp
    cases e1 : fLenV v ih with
    | none => rw [e1] at e; cases e
    | some k =>
      rw [e1] at e
      cases e
      have q := post_ok h2 R (rfl : V.int ((k : Nat) : Int) = _)
      cases v with
      | str s =>
        cases r
        change (if s.length ≤ sizeLine then some s.length else none) = some k at e1
        split at e1
        · rename_i hz
          cases e1
          exact .inl ⟨_, _, rfl, ⟨hz, rfl⟩, q⟩
        · cases e1
      | tup vs =>
        cases e1
        unfold VR at r
        obtain ⟨a, xs, e3, h3, h4⟩ := r
        subst e3
        refine .inl ⟨_, vs.length, rfl, .inr ⟨xs, SqT.of h3, h4.length.symm⟩, q⟩
      | ref i =>
        change (match ih.get i with
          | some (.lst vs) => some vs.length
          | some (.dct kvs) => some kvs.length
          | some (.dcT kvs) => some kvs.length
          | _ => none) = some k at e1
        cases q1 : ih.get i with
        | none => rw [q1] at e1; cases e1
        | some o =>
          rw [q1] at e1
          cases o with
          | lst vs =>
            cases e1
            obtain ⟨xs, e3, _, h3, h4⟩ := R.lst r q1
            subst e3
            exact .inl ⟨_, vs.length, rfl, .inl ⟨xs, SqL.of h3, h4.length.symm⟩, q⟩
          | dct kvs =>
            cases e1
            obtain ⟨xs, e3, _, h3, h4⟩ := R.dct r q1
            subst e3
            rw [← h4.length] at q
            exact .inr (.inl ⟨_, xs, rfl, h3, q⟩)
          | dcT kvs =>
            cases e1
            obtain ⟨xs, e3, _, h3, h4⟩ := R.dcT r q1
            subst e3
            rw [← h4.length] at q
            exact .inr (.inr ⟨_, xs, rfl, h3, q⟩)
          | lam _ _ => cases e1
      | _ => cases e1
/-! ### int -/
def pInt (vs : List IV) (h : IH) : Out IV := one vs fun v => match v with
  | .int i => .ok (.int i) h
  | .bl k => .ok (.int (if k then 1 else 0)) h
  | _ => .bad
theorem cas_int : CaS G pInt (fun xs H Q => (∃ i, xs = [.int i] ∧ Q (.int i) H) ∨ ∃ k, xs = [.bl k] ∧ Q (.int (if k then 1 else 0)) H) := by
  intro W p σI ih σ vs xs Q R rv hp
  obtain ⟨v, x, rfl, rfl, r, hp⟩ := one_el rv hp
  all_goals
    cases v with
    | int i => cases r; exact .inl ⟨i, rfl, post_ok hp R rfl⟩
    | bl k => cases r; exact .inr ⟨k, rfl, post_ok hp R rfl⟩
    | _ => exact hp.elim
/-! ### list -/
def keyRow : List Key → IV := fun ks => .tup (ks.map unkey)
def pList (vs : List IV) (h : IH) : Out IV := one vs fun v => match v with
  | .tup us => .ok (.ref h.n) (h.push (.lst us))
  | .scr ns => .ok (.ref h.n) (h.push (.lst (ns.map .int)))
  | .ref i => (match h.get i with
    | some (.lst us) => .ok (.ref h.n) (h.push (.lst us))
    | some (.dct kvs) => .ok (.ref h.n) (h.push (.lst (kvs.map fun kv => unkey kv.1)))
    | some (.dcT kvs) => .ok (.ref h.n) (h.push (.lst (kvs.map fun kv => keyRow kv.1)))
    | _ => .bad)
  | _ => .bad
def rListOf (K : PySem.W.Frag) : List V → Hp → VK → Prop := fun xs H Q => ∃ p ys, xs = [.ref p] ∧ (SqL K H p ys ∨ SqT K H p ys) ∧ ∀ l, H l = none → Q (.ref l) (upd H l (.lst ys))
def rListDT : List V → Hp → VK → Prop := fun xs H Q => ∃ d kvs, xs = [V.ref d] ∧ Rd H d (.dT kvs) ∧ ∀ p bs, H p = none → IsKeys H kvs bs → Q (.ref p) (upd H p (.lst (bs.map V.ref)))
def rListI (K : PySem.W.Frag) : List V → Hp → VK → Prop := fun xs H Q => rListOf K xs H Q ∨ rListD xs H Q ∨ rListDT xs H Q
theorem call_listI {X : Cx} (hc : X.calm = true) : CallR X (.type "list") (rListI X.K) := CallR.or call_list_of (CallR.or (call_list_dK hc) (call_list_dT hc))
theorem VRs.unkeys {p : Pt} : ∀ ks : List Key, VRs G p (ks.map unkey) (ks.map kV)
  | [] => VRs.nil
  | k :: ks => VRs.cons (vr_unkey k) (VRs.unkeys ks)
theorem VRs.keysT {p : Pt} : ∀ {kvs : List (List Key × IV)} {ks : List (List Key × V)} {bs : List Addr}, KVR G p kvs ks → IsKeys p.H ks bs → VRs G p (kvs.map fun kv => keyRow kv.1) (bs.map V.ref)
  | [], _, bs, h, k => by
    unfold KVR at h
    subst h
    unfold IsKeys at k
    cases k
    exact VRs.nil
  | (k, v) :: r, _, bs, h, kk => by
    unfold KVR at h
    obtain ⟨x, ks', e, _, hr⟩ := h
    subst e
    unfold IsKeys at kk
    cases kk with
    | cons k1 k2 =>
      refine VRs.cons ?_ (VRs.keysT hr k2)
      show VR G p (.tup (k.map unkey)) _
      unfold VR
      exact ⟨_, _, rfl, k1, VRs.unkeys k⟩
theorem VRs.ints {p : Pt} : ∀ ns : List Int, VRs G p (ns.map .int) (ns.map V.int)
  | [] => VRs.nil
  | n :: ns => VRs.cons rfl (VRs.ints ns)
theorem cas_list : CaS G pList (rListI G.K) := by
  intro W p σI ih σ vs xs Q R rv hp
  obtain ⟨v, x, rfl, rfl, r, hp⟩ := one_el rv hp
  all_goals
    cases v with
    | tup us =>
      unfold VR at r
      obtain ⟨a, xs, e3, h3, h4⟩ := r
      subst e3
      exact .inl ⟨_, xs, rfl, .inr (SqT.of h3), fun l hl => post_new hp R hl (or_lst hl h4)⟩
    | scr ns =>
      unfold VR at r
      obtain ⟨a, e3, h3⟩ := r
      subst e3
      exact .inl ⟨_, _, rfl, .inl h3.sq, fun l hl => post_new hp R hl (or_lst hl (VRs.ints ns))⟩
    | ref i =>
      change Post _ _ _ _ _ _ (match ih.get i with
        | some (.lst us) => Out.ok (IV.ref ih.n) (ih.push (.lst us))
        | some (.dct kvs) => .ok (.ref ih.n) (ih.push (.lst (kvs.map fun kv => unkey kv.1)))
        | some (.dcT kvs) => .ok (.ref ih.n) (ih.push (.lst (kvs.map fun kv => keyRow kv.1)))
        | _ => .bad) _ at hp
      cases q1 : ih.get i with
      | none => rw [q1] at hp; exact hp.elim
      | some o =>
        rw [q1] at hp
        cases o with
        | lst vs =>
          obtain ⟨xs, e3, _, h3, h4⟩ := R.lst r q1
          subst e3
          exact .inl ⟨_, xs, rfl, .inl (SqL.of h3), fun l hl => post_new hp R hl (or_lst hl h4)⟩
        | dct kvs =>
          obtain ⟨xs, e3, _, h3, h4⟩ := R.dct r q1
          subst e3
          exact .inr (.inl ⟨_, xs, rfl, h3, fun l hl => post_new hp R hl (or_lst hl (VRs.keys h4))⟩)
        | dcT kvs =>
          obtain ⟨xs, e3, _, h3, h4⟩ := R.dcT r q1
          subst e3
          exact .inr (.inr ⟨_, xs, rfl, .inl h3, fun l bs hl hk => post_new hp R hl (or_lst hl (VRs.keysT h4 hk))⟩)
        | lam _ _ => exact hp.elim
    | _ => exact hp.elim
/-! ### tuple -/
def pTuple (vs : List IV) (h : IH) : Out IV := one vs fun v => match v with
  | .tup us => .ok (.tup us) h
  | .ref i => (match h.get i with
    | some (.lst us) => .ok (.tup us) h
    | _ => .bad)
  | _ => .bad
def rTupleI (K : PySem.W.Frag) : List V → Hp → VK → Prop := fun xs H Q => ∃ p ys, xs = [.ref p] ∧ ((SqL K H p ys ∧ ∀ l, H l = none → Q (.ref l) (upd H l (.tup ys))) ∨ (SqT K H p ys ∧ Q (.ref p) H))
theorem call_tupleI {X : Cx} : CallR X (.type "tuple") (rTupleI X.K) := call_tuple_of
theorem cas_tuple : CaS G pTuple (rTupleI G.K) := by
  intro W p σI ih σ vs xs Q R rv hp
  obtain ⟨v, x, rfl, rfl, r, hp⟩ := one_el rv hp
  all_goals
    cases v with
    | tup us =>
      have r0 := r
      unfold VR at r
      obtain ⟨a, xs, e3, h3, h4⟩ := r
      subst e3
      exact ⟨_, xs, rfl, .inr ⟨SqT.of h3, post_ok hp R r0⟩⟩
    | ref i =>
      change Post _ _ _ _ _ _ (match ih.get i with
        | some (.lst us) => Out.ok (IV.tup us) ih
        | _ => .bad) _ at hp
      cases q1 : ih.get i with
      | none => rw [q1] at hp; exact hp.elim
      | some o =>
        rw [q1] at hp
        cases o with
        | lst vs =>
          obtain ⟨xs, e3, _, h3, h4⟩ := R.lst r q1
          subst e3
          exact ⟨_, xs, rfl, .inl ⟨SqL.of h3, fun l hl => post_tup hp R hl h4⟩⟩
        | _ => exact hp.elim
    | _ => exact hp.elim
/-! ### all, any: lists of truth values -/
def blsOf : List IV → Option (List Bool)
  | [] => some []
  | .bl b :: vs => (blsOf vs).map (b :: ·)
  | _ => none
theorem bls_of {p : Pt} : ∀ {vs : List IV} {bs : List Bool} {xs : List V}, blsOf vs = some bs → VRs G p vs xs → xs = bs.map V.bl
  | [], bs, xs, e, r => by cases e; exact r.inv0
  | v :: vs, bs, xs, e, r => by
    cases v with
    | bl b =>
      change (blsOf vs).map (b :: ·) = some bs at e
      cases e1 : blsOf vs with
      | none => rw [e1] at e; cases e
      | some bs' =>
        rw [e1] at e
        cases e
        obtain ⟨y, ys, e2, r1, r2⟩ := r.inv
        rw [e2, bls_of e1 r2, show y = V.bl b from r1]
        rfl
    | _ => cases e
def pBls (f : List Bool → Bool) (vs : List IV) (h : IH) : Out IV := one vs fun v => onL v h fun _ us => Out.of ((blsOf us).map fun bs => .bl (f bs)) h
def pAll := pBls fun bs => bs.all id
def pAny := pBls fun bs => bs.any id
theorem cas_bls {f : List Bool → Bool} : CaS G (pBls f) (fun vs H Q => ∃ (a : Addr) (bs : List Bool), vs = [V.ref a] ∧ SqL G.K H a (bs.map V.bl) ∧ Q (.bl (f bs)) H) := by
  intro W p σI ih σ vs xs Q R rv hp
  obtain ⟨v, x, rfl, rfl, r, hp⟩ := one_el rv hp
  all_goals
    obtain ⟨i, us, ys, rfl, e, e1, hi, h3, h4, hp⟩ := onL_of R r hp
    obtain ⟨w, e2, h2⟩ := out_of hp
    cases e4 : blsOf us with
    | none => rw [e4] at e2; cases e2
    | some bs =>
      rw [e4] at e2
      cases e2
      subst e1
      exact ⟨_, bs, rfl, SqL.of (by rw [← bls_of e4 h4]; exact h3), post_ok h2 R rfl⟩
theorem cas_all : CaS G pAll (rAll G.K) := cas_bls
theorem cas_any : CaS G pAny (rAny G.K) := cas_bls
/-! ### list(d.items()) -/
def fItems (v : IV) (h : IH) : Out IV := match v with
  | .ref i => (match h.get i with
    | some (.dct kvs) => .ok (.ref h.n) (h.push (.lst (kvs.map fun kv => .tup [unkey kv.1, kv.2])))
    | _ => .bad)
  | _ => .bad
theorem items_vrs {p : Pt} : ∀ {kvs : List (Key × IV)} {ks : List (Key × V)} {ts : List Addr}, KVR G p kvs ks → Paired (fun (t : Addr) (q : Key × V) => p.H t = some (.tup [kV q.1, q.2])) ts ks → VRs G p (kvs.map fun kv => .tup [unkey kv.1, kv.2]) (ts.map V.ref)
  | [], _, ts, h, k => by
    unfold KVR at h
    subst h
    cases k
    exact VRs.nil
  | (k, v) :: r, _, ts, h, kk => by
    unfold KVR at h
    obtain ⟨x, ks', e, rv, hr⟩ := h
    subst e
    cases kk with
    | cons k1 k2 =>
      refine VRs.cons ?_ (items_vrs hr k2)
      unfold VR
      exact ⟨_, _, rfl, k1, VRs.cons (vr_unkey k) (VRs.cons rv VRs.nil)⟩
theorem se_items {e : Expr} {p apos cpos pos : Pos} {fe : Ex} (he : SE G Pr S n e fe) (hg : S.sc.names.lookup ("list" : Str) = some .globalImplicit) (hm : G.mg ("list" : Str) = none) (hv : bootBuiltins "list" = some (.type "list"))
    (hbase : ∀ env, attributeBase e "items" env (eval e env) = eval e env := by intro _; rfl) (hline : (apos.endLine == cpos.line) = true := by rfl)
    (hs : ∀ env, starEach [.Call (.Attribute e "items" apos) [] [] cpos] env = (false, eval (.Call (.Attribute e "items" apos) [] [] cpos) env) :: starEach [] env := by intro _; rfl) :
    SE G Pr S n (.Call (.Name "list" p) [.Call (.Attribute e "items" apos) [] [] cpos] [] pos) (eUn fItems fe) := fun X W c =>
  pe_imp (LiI.pe_listItems c.calm (he X W c) (show X.env.scope.names.lookup _ = _ by rw [c.esc]; exact hg) (by rw [c.mg]; exact hm) hv (hbase X.env) hline (hs X.env)) fun σ H Q ⟨p, σI, ih, eH, R, hp⟩ => by
    subst eH
    refine tG.of R (Post.imp (Post.bind hp) ?_)
    rintro x H ⟨q, v, ih1, rfl, l, R1, rv, -, hp1⟩
    cases v with
    | ref i =>
      change Post _ _ _ _ _ _ (match ih1.get i with
        | some (.dct kvs) => Out.ok (IV.ref ih1.n) (ih1.push (.lst (kvs.map fun kv => .tup [unkey kv.1, kv.2])))
        | _ => .bad) _ at hp1
      cases q1 : ih1.get i with
      | none => rw [q1] at hp1; exact hp1.elim
      | some o =>
        rw [q1] at hp1
        cases o with
        | dct kvs =>
          obtain ⟨ks, e3, hi, h3, h4⟩ := R1.dct rv q1
          refine ⟨_, ks, e3, h3, fun H' pa ts hk hn hts hnp hl hpair => ?_⟩
          exact post_grow hp1 R1 hk hn (by rw [hl]; exact fun z => nomatch z) ⟨_, hl, items_vrs (KVR.mono (Pt.le_grow hk) h4) hpair⟩
        | _ => exact hp1.elim
    | _ => exact hp1.elim
end MI
end

section
set_option Elab.async false
set_option linter.all false
set_option maxRecDepth 100000
set_option autoImplicit false
set_option maxHeartbeats 1000000
/-! MI, lambdas that capture nothing; calls of functions that are values; all defs at every budget. -/
namespace MI
open PySem L2 PySem.Spec PyProof.Rows
variable {G : Gl} {Pr : Tb} {S : Fs} {n : Nat}

/-! ### a lambda is made -/
theorem inv_lm {X : Cx} {pins : List (Addr × Obj)} {σ : L2.St} {H : Hp} {s : Shared} {L : LmI} {t' : Nat} {c' : Addr} {pm ctv : Value} (I : Inv X pins σ H s) :
    Inv X pins σ (upd H s.heap.objs.size (LmO s.heap.objs.size c' L [])) { s with heap := s.heap.push (PySem.W.kla_obj "<lambda>" L.qual L.params L.body L.scope [] pm c' ctv), toks := t' } := by
  refine I.laid (a := s.heap.objs.size) (fun b u e => Heap.get?_push_of_some _ e) (Nat.le_refl _) ?_
  have e : (s.heap.push (PySem.W.kla_obj "<lambda>" L.qual L.params L.body L.scope [] pm c' ctv)).get? s.heap.objs.size = some (PySem.W.kla_obj "<lambda>" L.qual L.params L.body L.scope [] pm c' ctv) := Heap.get?_push_size _ rfl
  exact ⟨⟨pm, ctv, e⟩, ⟨_, e⟩, fun h1 h2 ⟨p, t, z⟩ st => ⟨p, t, st _ z⟩⟩
/-- how what is tracked changes where a lambda is made -/
structure MadeL (T : List (Addr × Str)) (H H1 : Hp) (f c' : Addr) (L : LmI) : Prop where
  ext : LamX.ExtN H H1
  grow : ∀ b, H1 b = none → H b = none
  tbl : ∀ b ps, H b = some (.tbl ps) → ∃ qs, H1 b = some (.tbl qs)
  tab : LamX.Tabs T H1
  new : H f = none
  at_ : H1 f = some (LmO f c' L [])
  co : H1 c' = some (LamX.CodeO c' L.qual)
theorem cloFrom_nil {cells : List (Str × Addr)} : ∀ {names : List (Str × NameKind)} {acc : List (Str × Addr)}, (∀ y ∈ names, y.2 ≠ .free) → cloFrom cells names acc = acc := by
  intro names
  induction names with
  | nil => intro acc _; rfl
  | cons y ys ih =>
    intro acc h
    obtain ⟨x, k⟩ := y
    have h1 : k ≠ .free := h (x, k) List.mem_cons_self
    have h2 := fun z hz => h z (List.mem_cons_of_mem _ hz)
    cases k <;> first | exact absurd rfl h1 | (show cloFrom cells ys acc = acc; exact ih h2)
theorem lam_made {X : Cx} {pins : List (Addr × Obj)} {σ : L2.St} {H : Hp} {s : Shared} {T : List (Addr × Str)} {c P : Addr} {L : LmI} {pos : Pos} {E : Value → Shared → Prop} {Q : Value → Shared → Prop} (I : Inv X pins σ H s) (TB : LamX.TabB X.base X.mg c P) (hcode : X.env.code = .ref c)
    (hq : L.qual = X.env.qual ++ "<lambda>") (hm : (P, L.qual) ∈ T) (hu : ∀ p ∈ T, p.1 = P → p.2 = L.qual) (hT : LamX.Tabs T H) (hdef : defaultsOf L.params X.env = ([], [])) (hfree : ∀ y ∈ L.scope.names, y.2 ≠ .free)
    (h : ∀ (f c' : Addr) (H1 : Hp) (s' : Shared), Inv X pins σ H1 s' → MadeL T H H1 f c' L → Q (.ref f) s') :
    wpAny (model X.prog X.w) X.A (eval (.Lambda L.params L.body L.scope pos) X.env) Q E s := by
  obtain ⟨ps, hP, ht, ha⟩ := hT _ hm
  refine PySem.W.kla_eval hdef ?_
  rw [← hq]
  have bP : s.heap.BuiltinsAt X.mg P := TB.bm.keeps I.bk
  have hP' : s.heap.get? P = some { cls := .none, data := .fields ps } := I.hok P _ hP
  have hclo : closureFor L.scope X.env = pure (cloFrom X.env.cells L.scope.names []) := closure_ok fun y hy e => absurd e (hfree y hy)
  rw [cloFrom_nil hfree] at hclo
  cases hc : codeAmong pos ps.toList with
  | none =>
    refine PySem.W.kla_makeFunction (mg := X.mg) (c := c) (P := P) (ps := ps) hclo I.ok.glob (I.mod.glob.keeps I.bk) hcode (TB.code.keeps I.bk) hP' ht hc TB.gP bP fun c' ctv h' tk hx hge hlt hrec htb => ?_
    obtain ⟨c2, oc, vs, t, e2, hoc, hd, hv⟩ := hrec
    cases e2
    have nC : H c' = none := I.hok.fresh hge
    have I1 := LamX.inv_table (t' := tk) (more := #[rawInt pos.line, rawInt pos.col, .ref c']) (h' := h') I hP (fun b o hb e => hx b o hb e) htb hge ⟨oc, vs, t, hoc, hd, hv⟩
    have I2 := inv_lm (L := L) (t' := tk) (c' := c') (pm := (X.mg "__name__").getD .none) (ctv := ctv) I1
    have nF := I1.hok.fresh (Nat.le_refl _)
    have hE : LamX.ExtN H (upd (upd H P (.tbl (ps ++ #[rawInt pos.line, rawInt pos.col, .ref c']))) c' (LamX.CodeO c' L.qual)) := fun b o e n => by
      rw [upd_ne (ne_of_none e nC), upd_ne (fun z => n ps (Option.some.inj (e.symm.trans (by rw [z]; exact hP))))]
      exact e
    have eL : (ps ++ #[rawInt pos.line, rawInt pos.col, .ref c']).toList = ps.toList ++ [rawInt pos.line, rawInt pos.col, .ref c'] := by simp
    have T1 : LamX.Tabs T (upd (upd H P (.tbl (ps ++ #[rawInt pos.line, rawInt pos.col, .ref c']))) c' (LamX.CodeO c' L.qual)) := fun p hp => by
      by_cases hb : p.1 = P
      · rw [hu p hp hb, hb]
        refine ⟨_, by rw [upd_ne (ne_of_none hP nC), upd_same], by rw [eL]; exact PySem.TriplesOk_snoc _ _ _ _ ht, fun p' cv hcv => ?_⟩
        rw [eL] at hcv
        rcases LamX.among_app _ ht hcv with z | z
        · obtain ⟨c0, e1, e2⟩ := ha p' cv z
          exact ⟨c0, e1, hE _ _ e2 LamX.codeO_ne⟩
        · exact ⟨c', z, upd_same⟩
      · obtain ⟨ps', a1, a2, a3⟩ := hT p hp
        refine ⟨ps', by rw [upd_ne (ne_of_none a1 nC), upd_ne hb]; exact a1, a2, fun p' cv hcv => ?_⟩
        obtain ⟨c0, e1, e2⟩ := a3 p' cv hcv
        exact ⟨c0, e1, hE _ _ e2 LamX.codeO_ne⟩
    refine h h'.objs.size c' _ _ I2 ⟨fun b o e n => ?_, fun b e => NdefX.upd_none (NdefX.upd_none (NdefX.upd_none e)), fun b qs e => ?_, T1.ext fun b o e => ?_, I.hok.fresh (Nat.le_trans hge (Nat.le_of_lt hlt)), upd_same, ?_⟩
    · have e1 := hE b o e n
      exact (upd_ne (ne_of_none e1 nF)).trans e1
    · by_cases hb : b = P
      · subst hb
        exact ⟨_, (upd_ne (fun z => absurd (Heap.lt_size hP') (by rw [z]; exact Nat.not_lt.mpr (Nat.le_trans hge (Nat.le_of_lt hlt))))).trans ((upd_ne (ne_of_none hP nC)).trans upd_same)⟩
      · have e1 : upd (upd H P (.tbl (ps ++ #[rawInt pos.line, rawInt pos.col, .ref c']))) c' (LamX.CodeO c' L.qual) b = some (.tbl qs) := by rw [upd_ne (ne_of_none e nC), upd_ne hb]; exact e
        exact ⟨qs, (upd_ne (ne_of_none e1 nF)).trans e1⟩
    · exact (upd_ne (ne_of_none e nF)).trans e
    · exact (upd_ne (Nat.ne_of_lt hlt)).trans upd_same
  | some cv =>
    obtain ⟨c', e, hco⟩ := ha pos cv hc
    subst e
    refine PySem.W.kla_makeFunctionHit (mg := X.mg) (c := c) (P := P) (ps := ps) hclo I.ok.glob (I.mod.glob.keeps I.bk) hcode (TB.code.keeps I.bk) hP' ht hc bP fun ctv h' tk hx hsz => ?_
    have I1 : Inv X pins σ H { s with heap := h', toks := tk } := I.kept hx
    have I2 := inv_lm (L := L) (t' := tk) (c' := c') (pm := (X.mg "__name__").getD .none) (ctv := ctv) I1
    have nF : H h'.objs.size = none := I1.hok.fresh (Nat.le_refl _)
    have hE : ∀ b o, H b = some o → upd H h'.objs.size (LmO h'.objs.size c' L []) b = some o := fun b o e => (upd_ne (ne_of_none e nF)).trans e
    exact h h'.objs.size c' _ _ I2 ⟨fun b o e n => hE b o e, fun b e => NdefX.upd_none e, fun b qs e => ⟨qs, hE _ _ e⟩, hT.ext hE, nF, upd_same, hE _ _ hco⟩
/-- MI's: a lambda that captures nothing -/
def eLam (k : Nat) : Ex := fun _ _ h => .ok (.ref h.n) (h.push (.lam k []))
theorem OR.of {p q : Pt} (l : p.Le q) {o : IO} {a : Addr} (ha : ∀ u, (∀ ps, u ≠ .tbl ps) → p.H a = some u → q.H a = some u) (h : OR G p o a) : OR G q o a := by
  cases o with
  | lst vs => obtain ⟨xs, e, r⟩ := h; exact ⟨xs, ha _ (fun _ z => nomatch z) e, VRs.mono l r⟩
  | dct kvs => obtain ⟨ks, e, r⟩ := h; exact ⟨ks, ha _ (fun _ z => nomatch z) e, KVR.mono l r⟩
  | dcT kvs => obtain ⟨ks, e, r⟩ := h; exact ⟨ks, ha _ (fun _ z => nomatch z) e, KVR.mono l r⟩
  | lam k cs => obtain ⟨c', e0, e, r⟩ := h; exact ⟨c', e0, l.H _ _ e trivial, l.H _ _ r trivial⟩
theorem post_lam {W : WX} {σI : Env} {σ : L2.St} {p : Pt} {ih : IH} {k : Nat} {Q : VK} {f c' : Addr} {H1 : Hp} (h : Post G W σI σ (VR G) p (.ok (.ref ih.n) (ih.push (.lam k []))) Q) (R : RelI G p σI ih σ) (M : MadeL G.T p.H H1 f c' (G.lm k)) : Q (.ref f) H1 := by
  have keep : ∀ b o, p.H b = some o → (∀ ps, o ≠ .tbl ps) → H1 b = some o := M.ext
  have l : p.Le (p.grow f H1) := ⟨Nat.le_succ _, fun i hi => if_neg (Nat.ne_of_lt hi), fun b o e f => keep b o e fun ps z => by subst z; exact f⟩
  have ne : ∀ i, i < p.n → p.ρ i ≠ f := fun i hi z => R.th i hi (by rw [z]; exact M.new)
  refine h (p.grow f H1) (.ref f) l ⟨by show ih.n + 1 = p.n + 1; rw [R.n], fun i j hi hj e => ?_, fun i hi => ?_, fun i u hi e => ?_, M.tab, R.len, fun i v e => ?_⟩ ?_
  · change i < p.n + 1 at hi
    change j < p.n + 1 at hj
    change (if i = p.n then f else p.ρ i) = (if j = p.n then f else p.ρ j) at e
    by_cases h1 : i = p.n
    · by_cases h2 : j = p.n
      · rw [h1, h2]
      · rw [if_pos h1, if_neg h2] at e
        exact absurd e.symm (ne j (by omega))
    · by_cases h2 : j = p.n
      · rw [if_neg h1, if_pos h2] at e
        exact absurd e (ne i (by omega))
      · rw [if_neg h1, if_neg h2] at e
        exact R.inj i j (by omega) (by omega) e
  · change i < p.n + 1 at hi
    show H1 (if i = p.n then f else p.ρ i) ≠ none
    by_cases h1 : i = p.n
    · rw [if_pos h1, M.at_]; exact fun z => nomatch z
    · rw [if_neg h1]
      intro z
      exact R.th i (by omega) (M.grow _ z)
  · rw [IH.get_push] at e
    change i < p.n + 1 at hi
    show OR G _ u (if i = p.n then f else p.ρ i)
    by_cases h1 : i = p.n
    · rw [if_pos (by rw [h1, R.n])] at e
      cases e
      rw [if_pos h1]; exact ⟨c', rfl, M.at_, M.co⟩
    · rw [if_neg (by rw [R.n]; exact h1)] at e
      rw [if_neg h1]
      exact OR.of l (fun u' n' e' => keep _ _ e' n') (R.ob i u (by omega) e)
  · obtain ⟨x, e1, r⟩ := R.vars i v e
    exact ⟨x, e1, VR.mono l r⟩
  · show ih.n < p.n + 1 ∧ V.ref f = V.ref (if ih.n = p.n then f else p.ρ ih.n)
    rw [R.n, if_pos rfl]
    exact ⟨Nat.lt_succ_self _, rfl⟩
theorem se_lam {k : Nat} {c P : Addr} {params : Arguments} {body : Expr} {scope : Scope} {pos : Pos} {L : LmI} (hk : G.lm k = L) (hp : L.params = params) (hb : L.body = body) (hs : L.scope = scope) (hq : L.qual = S.q ++ "<lambda>") (hcd : S.cd = some (c, P))
    (hfree : ∀ y ∈ scope.names, y.2 ≠ .free) (hdef : ∀ env, defaultsOf params env = ([], []) := by intro _; rfl) : SE G Pr S n (.Lambda params body scope pos) (eLam k) := fun X W cc => by
  subst hp hb hs
  obtain ⟨e1, e2, co⟩ := cc.code c P hcd
  refine ⟨fun pins s σ H Q I hh => ?_⟩
  obtain ⟨p, σI, ih, eH, R, hp⟩ := hh
  subst eH
  refine lam_made (T := G.T) (c := c) (P := P) I (by rw [cc.base, cc.mg]; exact co.tb) e1 (by rw [hq, e2]) (by rw [hq]; exact co.mem) (by rw [hq]; exact co.uniq) R.tab (hdef _) hfree fun f c' H1 s' I1 M => ?_
  exact ⟨.ref f, H1, I1, rfl, post_lam (k := k) hp R (by rw [hk]; exact M)⟩
/-! ### its promise -/
abbrev lNF (L : LmI) (c' : Addr) : NdefX.NF := ⟨"<lambda>", L.qual, L.params, [], L.scope, [], c'⟩
theorem lok_of {CX : CXT} {P : Program} {w : World} {K : PySem.W.Frag} {mg : Str → Option Value} {base : Heap} {N : List Str} {L : LmI} {k : Nat} {sp : Sp} (Sc : NdefX.NScope N L.ps [] L.scope) (hb : ∀ (pm cv ctv : Value) (us : List Value), us.length = L.ps.length → bindArgs (PySem.W.kla_fn "<lambda>" L.qual L.params L.body L.scope [] pm cv ctv) ⟨us, []⟩ = pure (L.ps.zip us)) (len : ∀ vs H Q E, sp vs H Q E → vs.length = L.ps.length)
    (hbody : ∀ (f c' : Addr) (A : Around) (outer : List PySem.Env) (s : Shared) (H : Hp) (vs : List V) (Q : VK) (E : XK), Room k (A.deeper (NdefX.envF (lNF L c') f s.heap.objs.size)) → sp vs H Q E →
      ∃ t, PE (NdefX.ncx CX P w K mg base N (lNF L c') f A outer s H E) L.body t ∧ t (NdefX.startF N vs []) H Q) : LOk P w K mg base CX (k + 1) L sp := by
  refine ⟨len, fun f c' A outer s H us vs Q E hr e0 hf hc r hsp => ?_⟩
  have hl := len _ _ _ _ hsp
  have lim : s.heap.NoLimit := e0.mod.nolimit.keeps fun b o e => (e0.bs b o e).1
  obtain ⟨⟨pm, ctv, ho⟩, _, _⟩ := e0.hok f _ hf
  refine PySem.W.kla_callFunE hr.depth ho rfl Sc.co Sc.gen rfl (NdefX.codeO_at e0.hok hc) ?_
  rw [hb pm (.ref c') ctv us (by rw [← r.length]; exact hl)]
  refine wpAny_pure (wpAny_newFunctionEnv Sc.nocell (fun ⟨n, _⟩ hy => Sc.par n (List.of_mem_zip hy).1) (fun h₁ hns hsb => ⟨lim.fresh _ hsb, ?_⟩) Sc.kind)
  show codeAny _ _ (.expr L.body (NdefX.envF (lNF L c') f s.heap.objs.size)) _ _
  have kp : ∀ b o, s.heap.get? b = some o → h₁.get? b = some o := fun b o e => hsb.extBut b o (Nat.ne_of_lt (Heap.lt_size e)) (Heap.get?_push_of_some _ e)
  obtain ⟨t, ht, hq⟩ := hbody f c' A outer s H vs Q E (hr.deeper _) hsp
  have C : NdefX.CellsAt [] [] [] s.heap H := ⟨rfl, fun y c e => by simp at e, fun x y c e => by simp at e, fun i y e => by simp at e⟩
  have I : Inv (NdefX.ncx CX P w K mg base N (lNF L c') f A outer s H E) [] (NdefX.startF N vs []) H { s with heap := h₁, toks := s.toks + (L.ps.zip us).length } := NdefX.inv_startN (F := lNF L c') Sc hr.hd e0 hl r C hns kp
  refine PySem.W.kla_codeExpr (wpAny_mono (ht.run [] _ _ H Q I hq) (fun v s' hs => ?_) fun e s' hs => hs)
  obtain ⟨v', H', J, rv, q⟩ := hs
  exact ⟨v', H', J.os, J.bare, J.base, J.hok, rv, q⟩
/-- what is asked of a lambda's derivation -/
structure LamOk (G : Gl) (Pr : Tb) (k : Nat) (d : Df) (N : List Str) (f : Ex) : Prop where
  sc : NdefX.NScope N (G.lm k).ps [] (G.lm k).scope
  bind : ∀ (pm cv ctv : Value) (us : List Value), us.length = (G.lm k).ps.length → bindArgs (PySem.W.kla_fn "<lambda>" (G.lm k).qual (G.lm k).params (G.lm k).body (G.lm k).scope [] pm cv ctv) ⟨us, []⟩ = pure ((G.lm k).ps.zip us)
  lm : Pr.Pr.lm k = some d
  nN : d.N = N.length
  np : d.p = (G.lm k).ps.length
  fb : d.body = sRet f
  body : ∀ n, SE G Pr ⟨N, (G.lm k).scope, fun _ => false, none, (G.lm k).qual⟩ n (G.lm k).body f
theorem lam_step {k : Nat} {d : Df} {N : List Str} {f : Ex} (D : LamOk G Pr k d N f) (A : AllOk G Pr.Pr Pr.nm Pr.ps n) (AL : AllLm G Pr.Pr n) (hkf : ∀ g, PySem.W.keepIn G.K (.ref (G.fa g)) = true) : LOk G.P G.w G.K G.mg G.base (L2.CX G.P G.w) (lv (n + 1)) (G.lm k) (spI G ((ctx Pr.Pr (n + 1)).lam k []) d.p) := by
  have key : LOk G.P G.w G.K G.mg G.base (L2.CX G.P G.w) (lv n + 1) (G.lm k) (spI G ((ctx Pr.Pr (n + 1)).lam k []) d.p) := by
    refine lok_of D.sc D.bind (fun vs H Q E h => by rw [h.1, D.np]) fun fa c' A' outer s H vs Q E hr hsp => ?_
    obtain ⟨hl, p, ivs, ih, eH, R, rv, hq⟩ := hsp
    subst eH
    have c : CtxOk G Pr ⟨N, (G.lm k).scope, fun _ => false, none, (G.lm k).qual⟩ n (NdefX.ncx (L2.CX G.P G.w) G.P G.w G.K G.mg G.base N (lNF (G.lm k) c') fa A' outer s p.H E) (fun cls d _ H => E cls d H) :=
      { prog := rfl, w := rfl, K := rfl, mg := rfl, base := rfl, eN := rfl, nd := D.sc.nd, esc := rfl, calm := rfl, room := hr, takes := takes_of rfl rfl rfl rfl, pass := passes_of rfl, all := A, fn := rfl, lms := AL, kf := hkf, code := fun c P e => nomatch e }
    refine ⟨_, D.body n _ _ c, p, startE N.length ivs, ih, rfl, ?_, ?_⟩
    · have hvl : vs.length = ivs.length := rv.length
      have e2 : NdefX.startF N vs [] = vs.map some ++ List.replicate (N.length - ivs.length) none := by
        unfold NdefX.startF
        rw [List.nil_append, List.length_nil, Nat.sub_zero, hvl]
      rw [e2]
      refine ⟨R.n, R.inj, R.th, R.ob, R.tab, ?_, fun i v e => ?_⟩
      · unfold startE
        rw [List.length_append, List.length_append, List.length_map, List.length_map, List.length_replicate, List.length_replicate, hvl]
      · unfold startE at e
        exact start_vars _ rv i v e
    · change PostO G p (runDf (Pr.Pr.lm k) (ctx Pr.Pr n) [] ivs ih) Q E at hq
      rw [D.lm] at hq
      unfold runDf at hq
      have hz : ivs.length = d.p := by rw [← rv.length, hl]
      simp only [if_pos hz] at hq
      have e1 : (ivs.map some ++ [] ++ List.replicate (d.N - ivs.length - ([] : List (Option IV)).length) none) = startE N.length ivs := by
        unfold startE
        rw [List.append_nil, D.nN, List.length_nil, Nat.sub_zero]
      rw [e1, D.fb] at hq
      unfold sRet flow at hq
      cases e : f (ctx Pr.Pr n) (startE N.length ivs) ih with
      | ok v ih2 => rw [e] at hq; exact fun q x l R2 rv => hq q x l R2.bare rv
      | exc v ih2 => rw [e] at hq; exact fun q cls d l R2 xr => hq q cls d l R2.bare xr
      | bad => rw [e] at hq; exact hq.elim
  exact ⟨key.len, fun f c' A' outer s H us vs Q E hr => key.run f c' A' outer s H us vs Q E (hr.mono (by unfold lv; omega))⟩
theorem all_ok (h : ∀ g d, Pr.Pr.df g = some d → ∃ fd, DefAt G (Pr.nm g) (Pr.ps g) (G.fa g) fd ∧ (Pr.ps g).length = d.p ∧ ∃ x qual params body scope N cd, FunD G.K x qual params body scope [] [] (G.fa g) fd ∧ (∀ c P, cd = some (c, P) → fd.code = .ref c) ∧ DefOk G Pr g d N body scope cd (qual ++ ".<locals>."))
    (hl : ∀ k d, Pr.Pr.lm k = some d → ∃ N f, LamOk G Pr k d N f) (hkf : ∀ g, PySem.W.keepIn G.K (.ref (G.fa g)) = true) : ∀ n, AllOk G Pr.Pr Pr.nm Pr.ps n ∧ AllLm G Pr.Pr n
  | 0 => ⟨fun g d hd => by
      obtain ⟨fd, A, hl, x, qual, params, body, scope, N, cd, F, _, D⟩ := h g d hd
      refine ⟨fd, A, hl, ⟨fun vs H Q E hs => by rw [hs.1, hl], fun A outer s H args us vs Q E hr e0 hb r hsp => ?_⟩⟩
      obtain ⟨_, p, ivs, ih, _, _, _, hq⟩ := hsp
      exact hq.elim,
    fun k d hd => by
      obtain ⟨N, f, D⟩ := hl k d hd
      refine ⟨D.np.symm, ⟨fun vs H Q E hs => by rw [hs.1, D.np], fun f c' A outer s H us vs Q E hr e0 hf hc r hsp => ?_⟩⟩
      obtain ⟨_, p, ivs, ih, _, _, _, hq⟩ := hsp
      exact hq.elim⟩
  | n + 1 => by
    obtain ⟨A, AL⟩ := all_ok h hl hkf n
    exact ⟨fun g d hd => by
      obtain ⟨fd, A0, hl, x, qual, params, body, scope, N, cd, F, hcd, D⟩ := h g d hd
      exact ⟨fd, A0, hl, def_step F hcd D A AL hkf⟩,
    fun k d hd => by
      obtain ⟨N, f, D⟩ := hl k d hd
      exact ⟨D.np.symm, lam_step D A AL hkf⟩⟩
/-! ### x(..), x a name that holds a function -/
theorem lm_fnAt {X : Cx} {pins : List (Addr × Obj)} {σ : L2.St} {H : Hp} {s : Shared} {f c' : Addr} {L : LmI} {cl : List (Str × Addr)} (I : Inv X pins σ H s) (e : H f = some (LmO f c' L cl)) : PySem.W.FnAt f s.heap := by
  obtain ⟨⟨pm, ctv, ho⟩, _, _⟩ := I.hok f _ e
  exact ⟨_, _, _, _, ho⟩
/-- a lambda's run -/
theorem lam_run {X : Cx} {W : WX} {pins : List (Addr × Obj)} {σ : L2.St} {s : Shared} {q : Pt} {σI : Env} {ih : IH} {k : Nat} {vs : List IV} {xs : List V} {us : List Value} {Q : VK} {f c' : Addr} (c : CtxOk G Pr S n X W) (I : Inv X pins σ q.H s) (R : RelI G q σI ih σ)
    (e1 : q.H f = some (LmO f c' (G.lm k) [])) (e2 : q.H c' = some (LamX.CodeO c' (G.lm k).qual)) (rv : VRs G q vs xs) (r : Vals xs us) (hp : Post G W σI σ (VR G) q ((ctx Pr.Pr n).lam k [] vs ih) Q) : wpAny (model X.prog X.w) X.A (call (.ref f) us) (EP X pins σ Q) X.xe s := by
  have hne : (ctx Pr.Pr n).lam k [] vs ih ≠ .bad := fun z => by rw [z] at hp; exact hp
  have hd : ∃ d, Pr.Pr.lm k = some d ∧ vs.length = d.p := by
    cases n with
    | zero => exact absurd rfl hne
    | succ m =>
      change runDf (Pr.Pr.lm k) (ctx Pr.Pr m) [] vs ih ≠ .bad at hne
      cases e : Pr.Pr.lm k with
      | none => rw [e] at hne; exact absurd rfl hne
      | some d =>
        rw [e] at hne
        refine ⟨d, rfl, ?_⟩
        unfold runDf at hne
        by_cases hz : vs.length = d.p
        · exact hz
        · exact absurd (if_neg hz) hne
  obtain ⟨d, hd, hz⟩ := hd
  obtain ⟨hl, F⟩ := c.lms k d hd
  rw [← c.prog, ← c.w, ← c.K, ← c.mg, ← c.base] at F
  have hsp : spI G ((ctx Pr.Pr n).lam k []) d.p xs q.H Q (WE W σ) := by
    refine ⟨by rw [rv.length, hz], q, vs, ih, rfl, R.bare, rv, ?_⟩
    cases e : (ctx Pr.Pr n).lam k [] vs ih with
    | ok v ih2 => rw [e] at hp; exact fun q2 x l R2 rv => hp q2 x l (R.rebase l R2) rv
    | exc v ih2 => rw [e] at hp; exact fun q2 c d' l R2 xr => hp q2 c d' l (R.rebase l R2) xr
    | bad => rw [e] at hp; exact hp.elim
  refine wpAny_call (codeAny_mono (F.run _ c' X.A X.stack s q.H us xs Q (WE W σ) c.room I.env0 e1 e2 r hsp) fun res s' hq => ?_)
  cases res with
  | error e => exact passAt c.takes σ pins q.H s e s' I hq
  | ok fl =>
    cases fl with
    | ret u => exact I.after hq
    | next => exact False.elim hq
    | brk => exact False.elim hq
    | cont => exact False.elim hq
/-- a def's run -/
theorem def_run {X : Cx} {W : WX} {pins : List (Addr × Obj)} {σ : L2.St} {s : Shared} {q : Pt} {σI : Env} {ih : IH} {g : Nat} {vs : List IV} {xs : List V} {us : List Value} {Q : VK} (c : CtxOk G Pr S n X W) (I : Inv X pins σ q.H s) (R : RelI G q σI ih σ) (rv : VRs G q vs xs) (r : Vals xs us)
    (hp : Post G W σI σ (VR G) q ((ctx Pr.Pr n).call g vs ih) Q) : wpAny (model X.prog X.w) X.A (call (.ref (G.fa g)) us) (EP X pins σ Q) X.xe s := by
  obtain ⟨d, hd, hz⟩ := post_call hp
  obtain ⟨fd, A, hl, F⟩ := c.all g d hd
  rw [← c.prog, ← c.w, ← c.K, ← c.mg, ← c.base] at F
  exact run_fnS F c.room (by rw [c.K]; exact A.binds) (passAt c.takes σ) I r (sp_of (X := X) R rv hz hp)
/-- x(..), x a name of the frame's -/
def eCallF (f : Ex) (es : Lx) : Ex := fun c σ h => (f c σ h).bind fun x h1 => match fnVal h1 x with
  | some (.inl g) => (es c σ h1).bind fun vs h => c.call g vs h
  | some (.inr (k, cs)) => (es c σ h1).bind fun vs h => c.lam k cs vs h
  | none => .bad
theorem fnVal_of {p : Pt} {σI : Env} {ih : IH} {σ : L2.St} {v : IV} {x : V} (R : RelI G p σI ih σ) (r : VR G p v x) : match fnVal ih v with
    | some (.inl g) => x = .ref (G.fa g)
    | some (.inr (k, cs)) => cs = [] ∧ ∃ f c', x = .ref f ∧ p.H f = some (LmO f c' (G.lm k) []) ∧ p.H c' = some (LamX.CodeO c' (G.lm k).qual)
    | none => True := by
  cases v with
  | gfn g => exact r
  | ref i =>
    show match (match ih.get i with
      | some (.lam k cs) => some (Sum.inr (k, cs))
      | _ => none : Option (Sum Nat (Nat × List (Option IV)))) with
      | some (.inl g) => x = .ref (G.fa g)
      | some (.inr (k, cs)) => cs = [] ∧ ∃ f c', x = .ref f ∧ p.H f = some (LmO f c' (G.lm k) []) ∧ p.H c' = some (LamX.CodeO c' (G.lm k).qual)
      | none => True
    cases q : ih.get i with
    | none => exact trivial
    | some o =>
      cases o with
      | lam k cs =>
        unfold VR at r
        obtain ⟨c', e0, e1, e2⟩ := R.ob i _ r.1 q
        exact ⟨e0, _, c', r.2, e1, e2⟩
      | _ => exact trivial
  | _ => exact trivial
theorem callF_run {X : Cx} {W : WX} {e : Expr} {es : List Expr} {pos : Pos} {fs : Lx} {pins : List (Addr × Obj)} {σ : L2.St} {s : Shared} {p : Pt} {σI : Env} {ih : IH} {v : IV} {x : V} {u : Value} {Q : VK} (c : CtxOk G Pr S n X W) (I : Inv X pins σ p.H s) (R : RelI G p σI ih σ) (rv : VR G p v x) (ru : RelV x u)
    (ha : SA G Pr S n (e :: es) fs) (he : starEach (e :: es) X.env = (false, eval e X.env) :: starEach es X.env) (hpl : (backTo pos (starEach es X.env)).any (·.1) = false)
    (hp : Post G W σI σ (VR G) p (match fnVal ih v with
      | some (.inl g) => (fs (ctx Pr.Pr n) σI ih).bind fun vs h => (ctx Pr.Pr n).call g vs h
      | some (.inr (k, cs)) => (fs (ctx Pr.Pr n) σI ih).bind fun vs h => (ctx Pr.Pr n).lam k cs vs h
      | none => .bad) Q) : wpAny (model X.prog X.w) X.A (callWith pos u [] (backTo pos (starEach (e :: es) X.env)) []) (EP X pins σ Q) X.xe s := by
  have fv := fnVal_of R rv
  cases q : fnVal ih v with
  | none => rw [q] at hp; exact hp.elim
  | some z =>
    rw [q] at hp fv
    cases z with
    | inl g =>
      change x = .ref (G.fa g) at fv
      subst fv
      obtain rfl : u = Value.ref (G.fa g) := ru
      change Post G W σI σ (VR G) p ((fs (ctx Pr.Pr n) σI ih).bind fun vs h => (ctx Pr.Pr n).call g vs h) Q at hp
      refine PySem.W.callWith_K (h₀ := X.base) I.ok.mod.kin (by rw [c.K]; exact c.kf g) (thn ((ha X W c).run pos pins s σ p.H _ I (tG.of R (Post.imp (Post.bind hp) fun xs H h => h))) fun us s1 ⟨vs, H1, I1, r, q1⟩ => ⟨I1.kIn, ?_⟩) he hpl
      obtain ⟨q2, ws, ih2, rfl, l, R2, r2, -, hp2⟩ := q1
      exact def_run c I1 R2 r2 r hp2
    | inr kc =>
      obtain ⟨k, cs⟩ := kc
      obtain ⟨e0, f, c', ex, e1, e2⟩ := fv
      subst e0 ex
      obtain rfl : u = Value.ref f := ru
      change Post G W σI σ (VR G) p ((fs (ctx Pr.Pr n) σI ih).bind fun vs h => (ctx Pr.Pr n).lam k [] vs h) Q at hp
      refine PySem.W.callWith_F (first := []) (lm_fnAt I e1) (thn ((ha X W c).run pos pins s σ p.H _ I (tG.of R (Post.imp (Post.bind hp) fun xs H h => h))) fun us s1 ⟨vs, H1, I1, r, q1⟩ => ?_) he hpl
      obtain ⟨q2, ws, ih2, rfl, l, R2, r2, -, hp2⟩ := q1
      have e1' := l.H _ _ e1 trivial
      exact ⟨lm_fnAt I1 e1', lam_run c I1 R2 e1' (l.H _ _ e2 trivial) r2 r hp2⟩
theorem se_callF {i : Nat} {x : Str} {e : Expr} {es : List Expr} {p pos : Pos} {fs : Lx} (hN : S.N[i]? = some x) (hv : Vis S.sc x) (ha : SA G Pr S n (e :: es) fs) (hd : (x == ("__debug__" : Str)) = false := by decide) (hcd : (x == ("__classdict__" : Str)) = false := by decide)
    (he : ∀ env, starEach (e :: es) env = (false, eval e env) :: starEach es env := by intro _; rfl) (hpl : ∀ env, (backTo pos (starEach es env)).any (·.1) = false := by intro _; rfl) : SE G Pr S n (.Call (.Name x p) (e :: es) [] pos) (eCallF (eVar i) fs) := fun X W c => by
  refine ⟨fun pins s σ H Q I hh => ?_⟩
  obtain ⟨p, σI, ih, eH, R, hp⟩ := hh
  subst eH
  change Post G W σI σ (VR G) p ((Out.of (vGet σI i) ih).bind _) Q at hp
  cases ev : vGet σI i with
  | none => rw [ev] at hp; exact hp.elim
  | some v =>
    rw [ev] at hp
    obtain ⟨w, hw, rv⟩ := R.var ev
    refine wpAny_Call_Name_kw (thn ((pe_var (X := X) (i := i) (x := x) (by rw [c.eN]; exact hN) (by rw [c.esc]; exact hv) hd hcd).run pins s σ p.H (fun y H1 => y = w ∧ H1 = p.H) I ⟨w, hw, rfl, rfl⟩) fun u s1 ⟨y, H1, I1, r1, q1⟩ => ?_)
    obtain ⟨ey, eH⟩ := q1
    subst ey eH
    exact callF_run c I1 R rv r1 ha (he X.env) (hpl X.env) hp
end MI
end

section
set_option Elab.async false
set_option linter.all false
set_option maxRecDepth 100000
set_option autoImplicit false
set_option maxHeartbeats 1000000
/-! MI, isinstance; errors that are made and kept; their fields. -/
namespace MI
open PySem L2 PySem.Spec PyProof.Rows
variable {G : Gl} {Pr : Tb} {S : Fs} {n : Nat}
/-! ### types -/
inductive Ty where
  | non | bl | int | str | tup | lst | dct | exc (c : Nat)
def tyI (h : IH) : IV → Option Ty
  | .non => some .non
  | .bl _ => some .bl
  | .int _ => some .int
  | .str _ => some .str
  | .tup _ => some .tup
  | .ref i => (match h.get i with
    | some (.lst _) => some .lst
    | some (.dct _) => some .dct
    | some (.dcT _) => some .dct
    | _ => none)
  | .exc c _ => some (.exc c)
  | _ => none
def tyVal (G : Gl) : Ty → Value
  | .non => .type "NoneType"
  | .bl => .type "bool"
  | .int => .type "int"
  | .str => .type "str"
  | .tup => .type "tuple"
  | .lst => .type "list"
  | .dct => .type "dict"
  | .exc c => .ref (G.ca c)
/-- a value's type: what is built in, an own error -/
def KitV (K : PySem.W.Frag) (H : Hp) (x : V) (t : Value) : Prop := TyX K H x t ∨
  ∃ (a C : Addr) (d : Option Addr), x = .ref a ∧ t = .ref C ∧ ExcC K C ∧ H a = some (exo a C d) ∧ ∀ dx, d = some dx → ∃ fs, H dx = some (exd dx fs)
theorem exo_inst {P : Program} {w : World} {H : Hp} {h : Heap} {a C : Addr} {d : Option Addr} (hok : HOk P w H h) (e : H a = some (exo a C d)) (hd : ∀ dx, d = some dx → ∃ fs, H dx = some (exd dx fs)) : ∃ ox od, PySem.W.InstAt h a ox C od := by
  obtain ⟨t1, ho⟩ := exo_at hok e
  cases d with
  | none => exact ⟨_, none, ho, rfl, rfl, trivial⟩
  | some dx =>
    obtain ⟨fs, ed⟩ := hd dx rfl
    obtain ⟨mA, hns, rel⟩ := exd_at hok ed
    obtain ⟨oD, _, _, hoD, _, _⟩ := hns.count (within_of rel)
    exact ⟨_, some oD, ho, rfl, rfl, hoD⟩
theorem kit_ofV {X : Cx} {pins : List (Addr × Obj)} {σ : L2.St} {H : Hp} {s : Shared} {x : V} {u t : Value} (I : Inv X pins σ H s) (rx : RelV x u) (ty : KitV X.K H x t) : ∃ P : Heap → Prop, PySem.W.KitX X.K u t P ∧ P s.heap ∧ u ≠ .builtin "__main__.__loader__#opaque" := by
  rcases ty with ty | ⟨a, C, d, ex, et, c, ea, hd⟩
  · exact kit_of I rx ty
  · subst ex et
    obtain rfl : u = Value.ref a := rx
    obtain ⟨ox, od, J⟩ := exo_inst I.hok ea hd
    have hcl : (PySem.W.clsIn X.K C).isSome = true := by
      have h := c.hd
      unfold PySem.W.hasDictIn at h
      cases e : PySem.W.clsIn X.K C with
      | none => rw [e] at h; cases h
      | some _ => rfl
    exact ⟨_, PySem.W.kitx_exc (od := od) hcl c.hg c.hk c.hs c.ha c.hn c.ht c.hm, J, fun z => nomatch z⟩
def rIsiV (K : PySem.W.Frag) : List V → Hp → VK → Prop := fun xs H Q => ∃ (x c : V) (t u : Value) (b : Bool), xs = [x, c] ∧ ClsV c u ∧ KitV K H x t ∧ PySem.W.kitOne K t u = some b ∧ Q (.bl b) H
def rIsiVT (K : PySem.W.Frag) : List V → Hp → VK → Prop := fun xs H Q => ∃ (x : V) (tp : Addr) (cs : List V) (t : Value) (us : List Value) (b : Bool), xs = [x, .ref tp] ∧ H tp = some (.tup cs) ∧ Paired ClsV cs us ∧ KitV K H x t ∧ PySem.W.kitAny K t us = some b ∧ Q (.bl b) H
theorem call_isiV {X : Cx} : CallR X (.builtin "isinstance") (rIsiV X.K) := by
  intro pins s σ H xs us Q I r h
  obtain ⟨x, c, t, u, b, rfl, k, ty, e, q⟩ := h
  obtain ⟨u1, u2, rfl, r1, r2⟩ := vals2 r
  have e2 := k.eq r2
  subst e2
  obtain ⟨P, Z, p, hx⟩ := kit_ofV I r1 ty
  exact PySem.W.kia_one Z I.kIn p e hx fun tk => ⟨.bl b, H, I.tok tk, rfl, q⟩
theorem call_isiVT {X : Cx} : CallR X (.builtin "isinstance") (rIsiVT X.K) := by
  intro pins s σ H xs us Q I r h
  obtain ⟨x, tp, cs, t, ws, b, rfl, hT, k, ty, e, q⟩ := h
  obtain ⟨u1, u2, rfl, r1, r2⟩ := vals2 r
  obtain rfl : u2 = Value.ref tp := r2
  obtain ⟨P, Z, p, hx⟩ := kit_ofV I r1 ty
  obtain ⟨_, its, rv, o, h1, h2, n, h3⟩ := (show ObjOk X.prog X.w H s.heap tp (.tup cs) from I.hok tp _ hT)
  have e3 := ClsV.all k rv
  subst e3
  obtain ⟨oc, od, dt, sl⟩ := o
  simp only at h2 h3
  subst h2 h3
  exact PySem.W.kia_tup Z I.kIn p h1 e hx fun tk => ⟨.bl b, H, I.tok tk, rfl, q⟩
/-! ### isinstance(e, c) -/
def eIsi (f : Ty → Option Bool) (e : Ex) : Ex := fun c σ h => (e c σ h).bind fun v h => Out.of (((tyI h v).bind f).map .bl) h
/-- a class in the text: what it is called by, what it is -/
inductive ClsE (G : Gl) (S : Fs) : Expr → V → Value → Prop where
  | ty {x : Str} {T : String} {p : Pos} (hg : S.sc.names.lookup x = some .globalImplicit) (hm : G.mg x = none) (hv : bootBuiltins x = some (.type T)) (hn : x ≠ "__name__") (hd : (x == ("__debug__" : Str)) = false) : ClsE G S (.Name x p) (.ty T) (.type T)
  | own {x : Str} {C : Addr} {p : Pos} (hg : S.sc.names.lookup x = some .globalImplicit) (hm : G.mg x = some (.ref C)) (hd : (x == ("__debug__" : Str)) = false) : ClsE G S (.Name x p) (.ref C) (.ref C)
theorem ClsE.cls {e : Expr} {c : V} {u : Value} (h : ClsE G S e c u) : ClsV c u := by
  cases h with
  | ty => exact .ty _
  | own => exact .own _
theorem pe_cls {X : Cx} {W : WX} (c : CtxOk G Pr S n X W) {e : Expr} {v : V} {u : Value} (h : ClsE G S e v u) : PE X e (tC v) := by
  cases h with
  | ty hg hm hv hn hd => exact pe_bltn (show X.env.scope.names.lookup _ = _ by rw [c.esc]; exact hg) (by rw [c.mg]; exact hm) hv rfl hn hd
  | own hg hm hd => exact pe_glob (show X.env.scope.names.lookup _ = _ by rw [c.esc]; exact hg) (by rw [c.mg]; exact hm) rfl hd
/-- what a table of answers must keep -/
def IsiOk (G : Gl) (u : Value) (f : Ty → Option Bool) : Prop := ∀ t b, f t = some b → PySem.W.kitOne G.K (tyVal G t) u = some b ∧ ∀ c, t = .exc c → ExcC G.K (G.ca c)
def IsiAny (G : Gl) (us : List Value) (f : Ty → Option Bool) : Prop := ∀ t b, f t = some b → PySem.W.kitAny G.K (tyVal G t) us = some b ∧ ∀ c, t = .exc c → ExcC G.K (G.ca c)
theorem kitV_of {p : Pt} {σI : Env} {ih : IH} {σ : L2.St} {v : IV} {x : V} {t : Ty} (R : RelI G p σI ih σ) (r : VR G p v x) (e : tyI ih v = some t) (hx : ∀ c, t = .exc c → ExcC G.K (G.ca c)) : KitV G.K p.H x (tyVal G t) := by
  cases v with
  | non => cases r; cases e; exact .inl (.base .non)
  | bl b => cases r; cases e; exact .inl (.base (.bl b))
  | int b => cases r; cases e; exact .inl (.base (.int b))
  | str b => cases r; cases e; exact .inl (.base (.str b))
  | tup vs =>
    cases e
    unfold VR at r
    obtain ⟨a, xs, e1, h1, h2⟩ := r
    subst e1
    exact .inl (.base (.tup h1))
  | ref i =>
    change (match ih.get i with
      | some (.lst _) => some Ty.lst
      | some (.dct _) => some .dct
      | some (.dcT _) => some .dct
      | _ => none) = some t at e
    cases q : ih.get i with
    | none => rw [q] at e; cases e
    | some o =>
      rw [q] at e
      cases o with
      | lst vs =>
        cases e
        obtain ⟨xs, e1, _, h3, _⟩ := R.lst r q
        subst e1
        exact .inl (.base (.lst h3))
      | dct vs =>
        cases e
        obtain ⟨xs, e1, _, h3, _⟩ := R.dct r q
        subst e1
        exact .inl (.base (.dK h3))
      | dcT vs =>
        cases e
        obtain ⟨xs, e1, _, h3, _⟩ := R.dcT r q
        subst e1
        exact .inl (.base (.dT h3))
      | lam _ _ => cases e
  | gfn g => cases e
  | exc c vs =>
    cases e
    unfold VR at r
    obtain ⟨a, d, fs, e1, ha, hd, _⟩ := r
    refine .inr ⟨a, _, d, e1, rfl, hx c rfl, ha, fun dx ed => ?_⟩
    subst ed
    exact ⟨fs, hd⟩
  | scr ns => cases e
  | tok k => cases e
theorem se_isi {f : Ty → Option Bool} {e ce : Expr} {cv : V} {u : Value} {p pos : Pos} {fe : Ex} (hg : S.sc.names.lookup ("isinstance" : Str) = some .globalImplicit) (hm : G.mg ("isinstance" : Str) = none) (hv : bootBuiltins "isinstance" = some (.builtin "isinstance")) (hc : ClsE G S ce cv u) (hf : IsiOk G u f) (he : SE G Pr S n e fe)
    (hs : ∀ env, starEach [e, ce] env = (false, eval e env) :: starEach [ce] env := by intro _; rfl) (hpl : ∀ env, (backTo pos (starEach [ce] env)).any (·.1) = false := by intro _; rfl) : SE G Pr S n (.Call (.Name "isinstance" p) [e, ce] [] pos) (eIsi f fe) := fun X W c =>
  pe_imp (pe_callB call_isiV (show X.env.scope.names.lookup _ = _ by rw [c.esc]; exact hg) (by rw [c.mg]; exact hm) hv (pa_cons (he X W c) (pa_cons (pe_cls c hc) pa_nil (by cases hc <;> rfl)) (hs X.env)) (by decide) (by decide) (hs X.env) (hpl X.env)) fun σ H Q ⟨p, σI, ih, eH, R, hp⟩ => by
    subst eH
    refine tG.of R (Post.imp (Post.bind hp) ?_)
    rintro x H ⟨q, v, ih1, rfl, l, R1, rv, -, hp1⟩
    obtain ⟨w, e1, hp2⟩ := out_of hp1
    cases e2 : tyI ih1 v with
    | none => rw [e2] at e1; cases e1
    | some t =>
      rw [e2] at e1
      cases e3 : f t with
      | none => simp only [Option.bind_some, e3, Option.map_none] at e1; cases e1
      | some b =>
        simp only [Option.bind_some, e3, Option.map_some] at e1
        cases e1
        obtain ⟨h1, h2⟩ := hf t b e3
        exact ⟨x, cv, _, u, b, rfl, hc.cls, by rw [c.K]; exact kitV_of R1 rv e2 h2, by rw [c.K]; exact h1, post_ok hp2 R1 rfl⟩
/-- classes in a row -/
inductive ClsEs (G : Gl) (S : Fs) : List Expr → List V → List Value → Prop where
  | nil : ClsEs G S [] [] []
  | cons {e : Expr} {es : List Expr} {v : V} {vs : List V} {u : Value} {us : List Value} (h : ClsE G S e v u) (t : ClsEs G S es vs us) : ClsEs G S (e :: es) (v :: vs) (u :: us)
theorem ClsEs.cls {es : List Expr} {vs : List V} {us : List Value} (h : ClsEs G S es vs us) : Paired ClsV vs us := by
  induction h with
  | nil => exact .nil
  | cons h t ih => exact .cons h.cls ih
theorem pa_clss {X : Cx} {W : WX} (c : CtxOk G Pr S n X W) {es : List Expr} {vs : List V} {us : List Value} (h : ClsEs G S es vs us) : PA X es (fun σ H Q => Q vs H) := by
  induction h with
  | nil => exact pa_nil
  | cons h t ih =>
    refine pa_imp (pa_cons (pe_cls c h) ih (by cases h <;> rfl)) fun σ H Q q => ?_
    exact q
theorem se_isiT {f : Ty → Option Bool} {e : Expr} {ces : List Expr} {cvs : List V} {us : List Value} {k : Nat} {p pos tpos : Pos} {fe : Ex} (hg : S.sc.names.lookup ("isinstance" : Str) = some .globalImplicit) (hm : G.mg ("isinstance" : Str) = none) (hv : bootBuiltins "isinstance" = some (.builtin "isinstance")) (hc : ClsEs G S ces cvs us) (hl : cvs.length ≤ 1000) (hf : IsiAny G us f) (he : SE G Pr S n e fe)
    (hs : ∀ env, starEach [e, .Tuple ces k tpos] env = (false, eval e env) :: starEach [.Tuple ces k tpos] env := by intro _; rfl) (hpl : ∀ env, (backTo pos (starEach [.Tuple ces k tpos] env)).any (·.1) = false := by intro _; rfl) : SE G Pr S n (.Call (.Name "isinstance" p) [e, .Tuple ces k tpos] [] pos) (eIsi f fe) := fun X W c =>
  pe_imp (pe_callB call_isiVT (show X.env.scope.names.lookup _ = _ by rw [c.esc]; exact hg) (by rw [c.mg]; exact hm) hv (pa_cons (he X W c) (pa_cons (pe_tup (pa_clss c hc)) pa_nil (by rfl)) (hs X.env)) (by decide) (by decide) (hs X.env) (hpl X.env)) fun σ H Q ⟨p, σI, ih, eH, R, hp⟩ => by
    subst eH
    refine tG.of R (Post.imp (Post.bind hp) ?_)
    rintro x H ⟨q, v, ih1, rfl, l, R1, rv, -, hp1⟩
    obtain ⟨w, e1, hp2⟩ := out_of hp1
    cases e2 : tyI ih1 v with
    | none => rw [e2] at e1; cases e1
    | some t =>
      rw [e2] at e1
      cases e3 : f t with
      | none => simp only [Option.bind_some, e3, Option.map_none] at e1; cases e1
      | some b =>
        simp only [Option.bind_some, e3, Option.map_some] at e1
        cases e1
        obtain ⟨h1, h2⟩ := hf t b e3
        refine ⟨by rw [sizeLine_eq]; omega, fun a ha => ?_⟩
        have l1 : q.Le (q.lay (upd q.H a (.tup cvs))) := Pt.le_lay (Pers.new ha)
        have R2 := R1.lay (same_new (o := .tup cvs) ha)
        exact ⟨x, a, cvs, _, us, b, rfl, upd_same, hc.cls, by rw [c.K]; exact kitV_of R2 (VR.mono l1 rv) e2 h2, by rw [c.K]; exact h1, hp2 _ _ l1 R2 rfl⟩
end MI
end

section
set_option Elab.async false
set_option linter.all false
set_option maxRecDepth 100000
set_option autoImplicit false
set_option maxHeartbeats 4000000
/-! MI, an own error class called with keywords. -/
namespace MI
open PySem PySem.HandSPX PySem.Builtin PySem.Builtin.ObjectAttr
section
variable {M : Model} {A : Around} {E : Value → Shared → Prop} {h : Heap} {g : Array GenState} {d : Drawn} {t : Nat} {os : OsState}
variable {nm q : Str} {C N : Addr} {bs bm bmB : List Value} {hdct : Bool} {sn : List Str} {sub : List Value} {ab : Bool} {col : Option Bool} {dd : Option Addr} {k0 k1 k2 k3 k5 : Option Value} {B newId initId : String}
theorem check_new_kw (F : ExcBaseFacts B newId initId bmB) (hT : ∀ X : String, bm.contains (.type X) = bmB.contains (.type X)) {rest : List Value} {kw : List (Str × Value)} {Q : Unit → Shared → Prop}
    (hC : h.get? C = some (excClassObj nm q C N bs bm hdct sn sub ab col dd k0 k1 k2 k3 k5 newId)) (hq : Q () ⟨h, g, d, t, os⟩) : wpAny M A (checkBuiltinCall newId ⟨.ref C :: rest, kw⟩) Q E ⟨h, g, d, t, os⟩ := by
  have hcont : (Value.ref C :: bm).contains (.type B) = true := by rw [List.contains_cons, hT, F.hasB, Bool.or_true]
  have hstar := F.noStar
  simp only [checkBuiltinCall, F.newKind, F.newSplit, F.newRow]
  repeat (first | refine wpAny_loadPart_at hC ?_ | (refine wpAny_isSubtype_exc hC ?_; rw [hcont]) | refine wpAny_staticBase_exc hC ?_ | refine wpAny_madeBy_exc hC ?_ | simp only [bne_self_eq_false, Bool.false_eq_true, if_false] | wp_step)
  exact hq
theorem check_tc_kw {rest : List Value} {kw : List (Str × Value)} {Q : Unit → Shared → Prop} {newId : String} (hC : h.get? C = some (excClassObj nm q C N bs bm hdct sn sub ab col dd k0 k1 k2 k3 k5 newId))
    (hq : Q () ⟨h, g, d, t, os⟩) : wpAny M A (checkBuiltinCall "type.__call__" ⟨.ref C :: rest, kw⟩) Q E ⟨h, g, d, t, os⟩ := by
  have f3 := tc_sub
  have hT : (⟨h, g, d, t, os⟩ : Shared).TypeIs (.ref C) "type" := ⟨_, hC, rfl⟩
  simp only [checkBuiltinCall, tc_kind, tc_split]
  repeat (any_goals (first | assumption | with_reducible refine wpAny_loadPart_at hC ?_ | with_reducible refine wpAny_onRaise ?_ | with_reducible refine wpAny_map ?_ | wp_step))
end
section
variable {prog : Program} {w : World} {A : Around} {E : Value → Shared → Prop} {R : Result → Shared → Prop} {h : Heap} {g : Array GenState} {d : Drawn} {t : Nat} {os : OsState}
variable {nm q : Str} {C N : Addr} {bs bm bmB : List Value} {hdct : Bool} {sn : List Str} {sub : List Value} {ab : Bool} {col : Option Bool} {dd : Option Addr} {k0 k1 k2 k3 k5 : Option Value} {B newId initId : String}
theorem new_kw (F : ExcBaseFacts B newId initId bmB) (hT : ∀ X : String, bm.contains (.type X) = bmB.contains (.type X)) {rest : List Value} {kw : List (Str × Value)}
    (hC : h.get? C = some (excClassObj nm q C N bs bm hdct sn sub ab col dd k0 k1 k2 k3 k5 newId))
    (hq : R (.ok (.ret (.ref (h.objs.size + 1)))) ⟨(h.push { cls := .type "tuple", data := .seq rest.toArray }).push
      { cls := .ref C, data := .fields #[.ref h.objs.size, .none, .none, .none, .bool false, .none] }, g, d, t, os⟩) (hrest : rest.length ≤ sizeLine) :
    codeAny (model prog w) A (.builtin newId ⟨.ref C :: rest, kw⟩) R ⟨h, g, d, t, os⟩ := by
  have hends := F.ends
  have hcB : (Value.ref C :: bm).contains (.type B) = true := by rw [List.contains_cons, hT, F.hasB, Bool.or_true]
  have hcA : (Value.ref C :: bm).contains (.type "AttributeError") = false := by rw [List.contains_cons, hT, F.noAttr]; rfl
  have hcN : (Value.ref C :: bm).contains (.type "NameError") = false := by rw [List.contains_cons, hT, F.noName]; rfl
  refine codeAny_builtinAt F.entry ?_
  unfold Builtin.«BaseException.__new__»
  refine wpAt_bind ?_
  show wpAt _ _ _ (stack >>= _) _ _ _
  refine wpAt_bind (wpAt_stack fun p below => wpAt_of_wpAny ?_)
  wp_walk
  refine wpAt_of_wpAny ?_
  rw [F.owner]
  repeat (first | with_reducible refine wpAny_madeHere_exc F.canon hC ?_ | with_reducible refine wpAny_loadPart_at hC ?_ | (with_reducible refine wpAny_isSubtype_exc hC ?_; first | rw [hcB] | rw [hcA] | rw [hcN]) | wp_step)
  show R _ _
  rw [Heap.size_push]
  exact hq
theorem type_call_kw (F : ExcBaseFacts B newId initId bmB) (hT : ∀ X : String, bm.contains (.type X) = bmB.contains (.type X)) {rest : List Value} {kw : List (Str × Value)} {fI : Addr} {Q : Fin → Shared → Prop}
    (hC : h.get? C = some (excClassObj nm q C N bs bm hdct sn sub ab col dd k0 k1 k2 k3 k5 newId))
    (hi : W.Looks (model prog w) h (typeLookup (.ref C) "__init__") (some (.ref fI))) (hb : ∀ self, W.Looks (model prog w) h (bindSpecial (.ref fI) self) (.ref fI, [self])) (hrest : rest.length ≤ sizeLine)
    (hq : codeAny (model prog w) A (.call (.ref fI) ⟨.ref (h.objs.size + 1) :: rest, kw⟩)
      (fun r s' => match r with | .ok (.ret v) => v = .none ∧ Q (.done (.ret (.ref (h.objs.size + 1)))) s' | .ok _ => False | .error e => E e s')
      ⟨(h.push (W.kdv_tup rest)).push (excO C h.objs.size), g, d, t, os⟩) :
    wpAny (model prog w) A (Builtin.«type.__call__» ⟨.ref C :: rest, kw⟩) Q E ⟨h, g, d, t, os⟩ := by
  repeat (first | with_reducible refine wpAny_loadPart_at hC ?_ | with_reducible refine wpAny_madeBy_exc hC ?_ | wp_step)
  refine codeAny_call_builtin_code (Code.quiet_builtin _ F.quiet) (check_new_kw F hT hC ?_)
  refine new_kw F hT hC ?_ hrest
  show wpAny _ _ _ _ _ _
  have k : ∀ b o, h.get? b = some o → ((h.push (W.kdv_tup rest)).push (excO C h.objs.size)).get? b = some o := fun b o e => Heap.get?_push_of_some _ (Heap.get?_push_of_some _ e)
  have hC₁ := k _ _ hC
  have hget : ((h.push (W.kdv_tup rest)).push (excO C h.objs.size)).get? (h.objs.size + 1) = some (excO C h.objs.size) := by heap_get
  have hcC : (Value.ref C :: bm).contains (.ref C) = true := by simp
  have i1 := hi.keeps k
  have b1 := (hb (.ref (h.objs.size + 1))).keeps k
  unfold isInstance
  repeat (first | with_reducible refine wpAny_loadPart_at hget ?_ | (with_reducible refine wpAny_isSubtype_exc hC₁ ?_; rw [hcC]) | wp_step)
  show wpAny _ _ (typeLookup (.ref C) _) _ _ _
  refine i1.at ?_
  refine wpAny_holding (wpAny_bind (b1.at ?_))
  refine wpAny_bind (wpAny_call (codeAny_mono hq fun r s' z => ?_))
  rcases r with e | (v | _ | _ | _) <;> first | exact z | exact z.elim | skip
  obtain ⟨rfl, z⟩ := z
  first
    | exact wpAny_pure (wpAny_pure z)
    | (wp_walk; exact z)
theorem call_kw (F : ExcBaseFacts B newId initId bmB) (hT : ∀ X : String, bm.contains (.type X) = bmB.contains (.type X)) {rest : List Value} {kw : List (Str × Value)} {fI : Addr}
    (hC : h.get? C = some (excClassObj nm q C N bs bm hdct sn sub ab col dd k0 k1 k2 k3 k5 newId))
    (hi : W.Looks (model prog w) h (typeLookup (.ref C) "__init__") (some (.ref fI))) (hb : ∀ self, W.Looks (model prog w) h (bindSpecial (.ref fI) self) (.ref fI, [self])) (hrest : rest.length ≤ sizeLine)
    (hq : codeAny (model prog w) (A.under (.builtin "type.__call__" ⟨.ref C :: rest, kw⟩)) (.call (.ref fI) ⟨.ref (h.objs.size + 1) :: rest, kw⟩) (W.InitBack (h.objs.size + 1) R)
      ⟨(h.push (W.kdv_tup rest)).push (excO C h.objs.size), g, d, t, os⟩) :
    codeAny (model prog w) A (.call (.ref C) ⟨rest, kw⟩) R ⟨h, g, d, t, os⟩ := by
  have f1 := tc_lookup
  have f2 := tc_bind (.ref C)
  have hTy : (⟨h, g, d, t, os⟩ : Shared).TypeIs (.ref C) "type" := ⟨_, hC, rfl⟩
  refine codeAny_of_tree ?_
  show wpAny _ _ (callAny (.ref C) _) _ _ _
  repeat (any_goals (first | assumption | with_reducible refine wpAny_loadPart_at hC ?_ | wp_step))
  refine ⟨rfl, ?_⟩
  refine codeAny_call_builtin_at (Code.quiet_builtin _ (by decide +kernel)) entry_typeCall (check_tc_kw hC (type_call_kw F hT hC hi hb hrest ?_))
  refine codeAny_mono hq fun r s' z => ?_
  rcases r with e | (v | _ | _ | _) <;> exact z
end
end MI
end

section
set_option Elab.async false
set_option linter.all false
set_option maxRecDepth 100000
set_option autoImplicit false
set_option maxHeartbeats 1000000
/-! MI, errors made and held; their fields. -/
namespace MI
open PySem L2 PySem.Spec PyProof.Rows
variable {G : Gl} {Pr : Tb} {S : Fs} {n : Nat}
/-! ### what an own __init__ does -/
/-- behind __init__: the error has its dict, with these fields -/
def Initd (fs : List Str) (ys : List V) (a C : Addr) (H H' : Hp) : Prop := ∃ (dx : Addr) (l : List (Str × V)), H dx = none ∧ dx ≠ a ∧ H' a = some (exo a C (some dx)) ∧ H' dx = some (exd dx l) ∧ (∀ b, b ≠ a → b ≠ dx → H' b = H b) ∧
  ∀ (i : Nat) (f : Str) (y : V), fs[i]? = some f → ys[i]? = some y → l.lookup f = some y
def initSp (K : PySem.W.Frag) (C : Addr) (fs : List Str) : Sp := fun vs H Q _ => ∃ (a : Addr) (ys : List V), vs = .ref a :: ys ∧ ys.length = fs.length ∧ OexC K C ∧ (∀ f ∈ fs, PySem.W.findIn K (.ref C) f = some none) ∧ H a = some (exo a C none) ∧ ∀ H', Initd fs ys a C H H' → Q .non H'
section
variable {P : Program} {w : World} {K : PySem.W.Frag} {mg : Str → Option Value} {base : Heap} {CX : CXT} {x qual : Str} {params : Arguments} {scope : Scope} {fI C : Addr} {fd : FuncData} {s y z f g : Str} {p1 p2 p3 p4 q1 q2 q3 q4 : Pos}
theorem init_one (F : FunD K x qual params [.Assign [.Attribute (.Name s p1) f p2] (.Name y p3) p4] scope [] [] fI fd) (Sc : FnScope [s, y] [s, y] scope) (hs : Vis scope s) (hy : Vis scope y) (ds : (s == ("__debug__" : Str)) = false) (dy : (y == ("__debug__" : Str)) = false) (cs : (s == ("__classdict__" : Str)) = false) (cy : (y == ("__classdict__" : Str)) = false) (hsw : ∀ env, swapsWith (.Name y p3) (some (.Attribute (.Name s p1) f p2)) p4.line env = pure false) :
    FnOk P w K mg base CX 1 fI fd [s, y] (initSp K C [f]) := by
  refine F.ok Sc (fun vs H Q E h => ?_) fun cdv A outer sh H vs Q E hr h => ?_
  · obtain ⟨a, ys, rfl, hl, _⟩ := h
    rw [List.length_cons, hl]; rfl
  · obtain ⟨a, ys, rfl, hl, T, hno, ha, hq⟩ := h
    match ys, hl with
    | [v], _ =>
      refine ⟨_, pss_one (ps_ost (pe_var (i := 0) rfl hs ds cs) (pe_var (i := 1) rfl hy dy cy) (hsw _)), ?_⟩
      refine ⟨v, rfl, .ref a, rfl, a, C, rfl, T, hno f List.mem_cons_self, .inl ⟨ha, fun dx hd hne => hq _ ⟨dx, [(f, v)], hd, hne, upd_same, ?_, ?_, ?_⟩⟩⟩
      · rw [upd_ne hne, upd_same]
      · intro b h1 h2; rw [upd_ne h1, upd_ne h2]
      · intro i f' y' e1 e2
        match i, e1, e2 with
        | 0, e1, e2 => cases e1; cases e2; simp [List.lookup]
theorem init_two (F : FunD K x qual params [.Assign [.Attribute (.Name s p1) f p2] (.Name y p3) p4, .Assign [.Attribute (.Name s q1) g q2] (.Name z q3) q4] scope [] [] fI fd) (Sc : FnScope [s, y, z] [s, y, z] scope) (hs : Vis scope s) (hy : Vis scope y) (hz : Vis scope z) (ds : (s == ("__debug__" : Str)) = false) (dy : (y == ("__debug__" : Str)) = false) (dz : (z == ("__debug__" : Str)) = false) (cs : (s == ("__classdict__" : Str)) = false) (cy : (y == ("__classdict__" : Str)) = false) (cz : (z == ("__classdict__" : Str)) = false)
    (hsw : ∀ env, swapsWith (.Name y p3) (some (.Attribute (.Name s p1) f p2)) p4.line env = pure false) (hsw2 : ∀ env, swapsWith (.Name z q3) (some (.Attribute (.Name s q1) g q2)) q4.line env = pure false) (hfg : f ≠ g) :
    FnOk P w K mg base CX 1 fI fd [s, y, z] (initSp K C [f, g]) := by
  refine F.ok Sc (fun vs H Q E h => ?_) fun cdv A outer sh H vs Q E hr h => ?_
  · obtain ⟨a, ys, rfl, hl, _⟩ := h
    rw [List.length_cons, hl]; rfl
  · obtain ⟨a, ys, rfl, hl, T, hno, ha, hq⟩ := h
    match ys, hl with
    | [v, u], _ =>
      refine ⟨_, pss_cons (ps_ost (pe_var (i := 0) rfl hs ds cs) (pe_var (i := 1) rfl hy dy cy) (hsw _)) (pss_one (ps_ost (pe_var (i := 0) rfl hs ds cs) (pe_var (i := 2) rfl hz dz cz) (hsw2 _))), ?_⟩
      refine ⟨v, rfl, .ref a, rfl, a, C, rfl, T, hno f List.mem_cons_self, .inl ⟨ha, fun dx hd hne => ?_⟩⟩
      refine ⟨u, rfl, .ref a, rfl, a, C, rfl, T, hno g (List.mem_cons_of_mem _ List.mem_cons_self), .inr ⟨dx, [(f, v)], upd_same, by rw [upd_ne hne, upd_same], (by show 1 ≤ 900; omega), hq _ ⟨dx, [(g, u), (f, v)], hd, hne, ?_, upd_same, ?_, ?_⟩⟩⟩
      · rw [upd_ne hne.symm, upd_same]
      · intro b h1 h2; rw [upd_ne h2, upd_ne h1, upd_ne h2]
      · intro i f' y' e1 e2
        have n1 : (f == g) = false := by simpa using hfg
        match i, e1, e2 with
        | 0, e1, e2 => cases e1; cases e2; simp [List.lookup, n1]
        | 1, e1, e2 => cases e1; cases e2; simp [List.lookup]
end
/-! ### C(..), C of an own __init__ -/
theorem run_oex {X : Cx} {CX : CXT} {pins : List (Addr × Obj)} {σ : L2.St} {H : Hp} {s : Shared} {C fI : Addr} {k : Nat} {fd : FuncData} {ps : List Str} {sp : Sp} {us us' : List Value} {kw : List (Str × Value)} {vs : List V} {Q : VK} (T : OexC X.K C) (iC : PySem.W.findIn X.K (.ref C) "__init__" = some (some (.ref fI))) (tI : PySem.W.typeIn X.K (.ref fI) = some (.type "function"))
    (F1 : FnOk X.prog X.w X.K X.mg X.base CX k fI fd ps sp) (hr : Room (k + 1) X.A) (hx : Passes CX X (fun _ _ _ => False)) (I : Inv X pins σ H s) (hb : ∀ (s' : Shared) (self : Value), X.K.In s'.heap → BindsTo s' fd ⟨self :: us, kw⟩ (ps.zip (self :: us'))) (r : Vals vs us') (hl : us.length ≤ sizeLine)
    (h : ∀ a, H a = none → sp (.ref a :: vs) (upd H a (exo a C none)) (fun v H2 => v = .non ∧ Q (.ref a) H2) (fun _ _ _ => False)) : wpAny (model X.prog X.w) X.A (call (.ref C) us kw) (EP X pins σ Q) X.xe s := by
  obtain ⟨nm, q, N, bs, bm, sn, sub, ab, col, dd, k0, k1, k2, k3, k5, hC, hbm⟩ := T.cls
  obtain ⟨hp, g, dr, tk, os⟩ := s
  have hsz : hp.objs.size ≤ hp.objs.size + 1 := Nat.le_succ _
  have hn : H (hp.objs.size + 1) = none := I.hok.fresh hsz
  have hq := h (hp.objs.size + 1) hn
  have kk : ∀ b o, hp.get? b = some o → ((hp.push (PySem.W.kdv_tup us)).push (PySem.HandSPX.excO C hp.objs.size)).get? b = some o := fun b o e => Heap.get?_push_of_some _ (Heap.get?_push_of_some _ e)
  have hget : ((hp.push (PySem.W.kdv_tup us)).push (PySem.HandSPX.excO C hp.objs.size)).get? (hp.objs.size + 1) = some (PySem.HandSPX.excO C hp.objs.size) := by heap_get
  have I2 : Inv X pins σ (upd H (hp.objs.size + 1) (exo (hp.objs.size + 1) C none)) ⟨(hp.push (PySem.W.kdv_tup us)).push (PySem.HandSPX.excO C hp.objs.size), g, dr, tk, os⟩ :=
    I.laid (t' := tk) (a := hp.objs.size + 1) (o := exo (hp.objs.size + 1) C none) (h' := (hp.push (PySem.W.kdv_tup us)).push (PySem.HandSPX.excO C hp.objs.size)) kk hsz (exo_ok hget)
  have r2 : Vals (V.ref (hp.objs.size + 1) :: vs) (Value.ref (hp.objs.size + 1) :: us') := .cons rfl r
  refine wpAny_call (call_kw F.excBase_ValueError (fun Y => PySem.HandSPX.refsVE_contains Y bm hbm) (I.kIn _ _ hC) (PySem.W.looks_findIn I.kIn iC) (fun self => PySem.W.bind_fn I.kIn self tI) hl
    (codeAny_mono (F1.run _ X.stack _ _ ⟨Value.ref (hp.objs.size + 1) :: us, kw⟩ (Value.ref (hp.objs.size + 1) :: us') _ _ (fun _ _ _ => False) (hr.make C us kw) (I2.env0.make C us kw) (hb _ _ I2.kIn) r2 hq) fun r s' hq' => ?_))
  cases r with
  | error er => exact hx pins σ _ _ er s' I2 hq'
  | ok fl =>
    cases fl with
    | ret u =>
      obtain ⟨v, H2, I3, rv, ev, q2⟩ := I2.after hq'
      subst ev
      exact ⟨rv, .ref (hp.objs.size + 1), H2, I3, rfl, q2⟩
    | next => exact False.elim hq'
    | brk => exact False.elim hq'
    | cont => exact False.elim hq'
theorem vrf_of {p : Pt} {l : List (Str × V)} : ∀ {fs : List Str} {vs : List IV} {ys : List V}, VRs G p vs ys → vs.length = fs.length → (∀ (i : Nat) (f : Str) (y : V), fs[i]? = some f → ys[i]? = some y → l.lookup f = some y) → VRf G p l fs vs
  | [], [], _, _, _, _ => rfl
  | [], _ :: _, _, _, hl, _ => by simp at hl
  | _ :: _, [], _, _, hl, _ => by simp at hl
  | f :: fs, v :: vs, ys, r, hl, h => by
    obtain ⟨y, zs, e, r1, r2⟩ := r.inv
    subst e
    unfold VRf
    exact ⟨f, fs, rfl, ⟨y, h 0 f y rfl rfl, r1⟩, vrf_of r2 (by simpa using hl) fun i f' y' e1 e2 => h (i + 1) f' y' (by simpa using e1) (by simpa using e2)⟩
/-- an own class with an own __init__ that keeps what it gets -/
structure ErrI (G : Gl) (c : Nat) (d : He.DefD) (ps : List Str) : Prop where
  oex : OexC G.K (G.ca c)
  xc : ExcC G.K (G.ca c)
  no : ∀ f ∈ G.cf c, PySem.W.findIn G.K (.ref (G.ca c)) f = some none
  init : ∃ fI fd, PySem.W.findIn G.K (.ref (G.ca c)) "__init__" = some (some (.ref fI)) ∧ PySem.W.typeIn G.K (.ref fI) = some (.type "function") ∧ FunD G.K d.name d.qual d.params d.body d.scope [] [] fI fd ∧
    FnOk G.P G.w G.K G.mg G.base (L2.CX G.P G.w) 1 fI fd ps (initSp G.K (G.ca c) (G.cf c))
  len : ps.length = (G.cf c).length + 1
def permL {α : Type} (p : List Nat) (l : List α) : List α := p.filterMap fun i => l[i]?
theorem permL_vals : ∀ (p : List Nat) {vs : List V} {us : List Value}, Vals vs us → Vals (permL p vs) (permL p us)
  | [], _, _, _ => .nil
  | i :: p, vs, us, r => by
    unfold permL
    rw [List.filterMap_cons, List.filterMap_cons]
    cases e : vs[i]? with
    | none =>
      have e2 : us[i]? = none := by rw [List.getElem?_eq_none_iff] at e ⊢; rw [← r.length]; exact e
      rw [e2]
      exact permL_vals p r
    | some v =>
      obtain ⟨u, e2, r2⟩ := r.get e
      rw [e2]
      exact .cons r2 (permL_vals p r)
theorem permL_vrs {p0 : Pt} : ∀ (p : List Nat) {vs : List IV} {xs : List V}, VRs G p0 vs xs → VRs G p0 (permL p vs) (permL p xs)
  | [], _, _, _ => VRs.nil
  | i :: p, vs, xs, r => by
    unfold permL
    rw [List.filterMap_cons, List.filterMap_cons]
    cases e : vs[i]? with
    | none =>
      rw [r.none e]
      exact permL_vrs p r
    | some v =>
      obtain ⟨x, e2, r2⟩ := r.get e
      rw [e2]
      exact VRs.cons r2 (permL_vrs p r)
/-- MI's: an error made; p: at which place of the row as it is written each field's value stands -/
def eMk (c k : Nat) (p : List Nat) (es : Lx) : Ex := fun x σ h => (es x σ h).bind fun vs h => if vs.length = k ∧ (permL p vs).length = k then .ok (.exc c (permL p vs)) h else .bad
theorem mk_run {X : Cx} {W : WX} {pins : List (Addr × Obj)} {σ : L2.St} {s : Shared} {q : Pt} {σI : Env} {ih : IH} {c : Nat} {d : He.DefD} {ps : List Str} {vs : List IV} {xs : List V} {us us' : List Value} {kw : List (Str × Value)} {p : List Nat} {Q : VK} (cx : CtxOk G Pr S n X W) (E : ErrI G c d ps) (I : Inv X pins σ q.H s) (R : RelI G q σI ih σ)
    (rv : VRs G q (permL p vs) xs) (r : Vals xs us') (hl : us.length ≤ sizeLine) (hb : ∀ (fd : FuncData) (fI : Addr), FunD G.K d.name d.qual d.params d.body d.scope [] [] fI fd → ∀ (s' : Shared) (self : Value), BindsTo s' fd ⟨self :: us, kw⟩ (ps.zip (self :: us'))) (hz : (permL p vs).length = (G.cf c).length)
    (hp : Post G W σI σ (VR G) q (.ok (.exc c (permL p vs)) ih) Q) : wpAny (model X.prog X.w) X.A (call (.ref (G.ca c)) us kw) (EP X pins σ Q) X.xe s := by
  obtain ⟨fI, fd, iC, tI, F, F1⟩ := E.init
  rw [← cx.prog, ← cx.w, ← cx.mg, ← cx.base] at F1
  have K1 := cx.K
  rw [← K1] at F1 iC tI
  refine run_oex (CX := L2.CX X.prog X.w) (by rw [K1]; exact E.oex) iC tI (by rw [cx.prog, cx.w] at F1 ⊢; exact F1) ?_ (passes_call cx.takes fun _ _ _ _ z => z.elim) I (fun s' self _ => hb fd fI F s' self) r hl fun a ha => ?_
  · exact cx.room.mono (by unfold lv; omega)
  · refine ⟨a, xs, rfl, by rw [rv.length]; exact hz, by rw [K1]; exact E.oex, by rw [K1]; exact E.no, upd_same, fun H' hi => ⟨rfl, ?_⟩⟩
    obtain ⟨dx, l, h1, h2, h3, h4, h5, h6⟩ := hi
    have hd : q.H dx = none := by rw [upd_ne h2] at h1; exact h1
    have keep : ∀ b o, q.H b = some o → H' b = some o := fun b o e => by
      have n1 : b ≠ a := ne_of_none e ha
      have n2 : b ≠ dx := ne_of_none e hd
      rw [h5 b n1 n2, upd_ne n1]; exact e
    have l1 : q.Le (q.lay H') := Pt.le_lay fun b o e _ => keep b o e
    refine hp (q.lay H') (.ref a) l1 (R.lay keep) ?_
    unfold VR
    exact ⟨a, some dx, l, rfl, h3, h4, vrf_of (VRs.mono l1 rv) hz h6⟩
def idP (k : Nat) : List Nat := List.range k
/-- C(e, ..) -/
theorem se_mk {c k : Nat} {d : He.DefD} {ps : List Str} {x : Str} {e : Expr} {es : List Expr} {p pos : Pos} {fs : Lx} (E : ErrI G c d ps) (hk : k = (G.cf c).length) (hk2 : k ≤ 1000) (hp : ∀ vs : List Value, vs.length = k → permL (idP k) vs = vs) (hpI : ∀ vs : List IV, vs.length = k → permL (idP k) vs = vs)
    (hb : ∀ (kV doc pm : Value) (an : Option Addr) (cdv ct : Value) (us : List Value), us.length = k + 1 → bindArgs (PySem.W.fnOf d.name d.qual d.params d.body d.scope .none kV doc pm an cdv ct) ⟨us, []⟩ = pure (ps.zip us))
    (hg : S.sc.names.lookup x = some .globalImplicit) (hm : G.mg x = some (.ref (G.ca c))) (ha : SA G Pr S n (e :: es) fs) (hdb : (x == ("__debug__" : Str)) = false := by decide) (he : ∀ env, starEach (e :: es) env = (false, eval e env) :: starEach es env := by intro _; rfl) (hpl : ∀ env, (backTo pos (starEach es env)).any (·.1) = false := by intro _; rfl) :
    SE G Pr S n (.Call (.Name x p) (e :: es) [] pos) (eMk c k (idP k) fs) := fun X W cx => by
  refine ⟨fun pins s σ H Q I h => ?_⟩
  obtain ⟨p, σI, ih, eH, R, hq⟩ := h
  subst eH
  refine wpAny_Call_Name_kw (ld_glob I (show X.env.scope.names.lookup x = _ by rw [cx.esc]; exact hg) (by rw [cx.mg]; exact hm) ?_ hdb)
  refine PySem.W.callWith_K (h₀ := X.base) I.ok.mod.kin (by rw [cx.K]; exact E.oex.kC) (thn ((ha X W cx).run pos pins s σ p.H _ I (tG.of R (Post.imp (Post.bind hq) fun xs H h => h))) fun us s1 ⟨xs, H1, I1, r, q1⟩ => ⟨I1.kIn, ?_⟩) (he X.env) (hpl X.env)
  obtain ⟨q, vs, ih1, rfl, l, R1, rv, -, hp1⟩ := q1
  split at hp1
  · rename_i hz
    have e1 := hpI vs hz.1
    have lu : us.length = k := by rw [← r.length, rv.length]; exact hz.1
    show wpAny _ _ (call (.ref (G.ca c)) us) _ _ _
    refine mk_run (vs := vs) (p := idP k) (us' := us) cx E I1 R1 (by rw [e1]; exact rv) r (by rw [lu, sizeLine_eq]; omega) (fun fd fI F s' self => ?_) (by rw [hz.2]; exact hk) hp1
    obtain ⟨oc, od, dV, kV, doc, pm, an, cdv, ct, osl, rfl, lk, hcd, hD, _⟩ := F.ex
    rcases hD with ⟨_, rfl⟩ | ⟨e, _⟩
    · exact .of_eq (hb kV doc pm an cdv ct (self :: us) (by rw [List.length_cons, lu]))
    · exact absurd rfl e
  · exact hp1.elim
/-- keywords' values -/
def SK (G : Gl) (Pr : Tb) (S : Fs) (n : Nat) (kws : List Keyword) (f : Lx) : Prop := ∀ X W, CtxOk G Pr S n X W → PK X kws (tL G W (f (ctx Pr.Pr n)))
theorem pk_imp {X : Cx} {es : List Keyword} {t t' : TA} (h : PK X es t) (k : ∀ σ H Q, t' σ H Q → t σ H Q) : PK X es t' := ⟨fun pos pins s σ H Q I q => h.run pos pins s σ H Q I (k _ _ _ q)⟩
theorem sk_nil : SK G Pr S n [] lNil := fun X W c => pk_imp pk_nil fun σ H Q ⟨p, σI, ih, eH, R, hp⟩ => by
  subst eH
  exact post_ok hp R VRs.nil
theorem sk_cons {nm : Option Str} {kp : Pos} {e : Expr} {es : List Keyword} {fe : Ex} {fs : Lx} (he : SE G Pr S n e fe) (hs : SK G Pr S n es fs) : SK G Pr S n (⟨nm, e, kp⟩ :: es) (lCons fe fs) := fun X W c =>
  pk_imp (pk_cons (he X W c) (hs X W c)) fun σ H Q ⟨p, σI, ih, eH, R, hp⟩ => by
    subst eH
    refine tG.of R (Post.imp (Post.bind hp) ?_)
    rintro x H ⟨q, v, ih1, rfl, l, R1, rv, -, hp1⟩
    refine tG.of R1 (Post.imp (Post.bind hp1) ?_)
    rintro xs H ⟨q2, vs, ih2, rfl, l2, R2, rvs, -, hp2⟩
    exact post_ok hp2 R2 (VRs.cons (VR.mono l2 rv) rvs)
/-- C(f = e, ..) -/
theorem se_mkK {c k : Nat} {d : He.DefD} {ps ks : List Str} {x : Str} {kws : List Keyword} {p pos : Pos} {fs : Lx} {pm0 : List Nat} (E : ErrI G c d ps) (hk : k = (G.cf c).length)
    (hb : ∀ (kV doc pm : Value) (an : Option Addr) (cdv ct : Value) (self : Value) (ws : List Value), ws.length = k → bindArgs (PySem.W.fnOf d.name d.qual d.params d.body d.scope .none kV doc pm an cdv ct) ⟨[self], ks.zip ws⟩ = pure (ps.zip (self :: permL pm0 ws)))
    (hg : S.sc.names.lookup x = some .globalImplicit) (hm : G.mg x = some (.ref (G.ca c))) (ha : SK G Pr S n kws fs) (hdb : (x == ("__debug__" : Str)) = false := by decide) (hall : ∀ env, (backToKw pos (keywordEach kws env)).all (·.1.isSome) = true := by intro _; rfl) (hks : ∀ env, (backToKw pos (keywordEach kws env)).filterMap (·.1) = ks := by intro _; rfl)
    (hpl : ∀ env, ((backTo pos (starEach [] env)).any (·.1) || (backToKw pos (keywordEach kws env)).any (·.1.isNone)) = false := by intro _; rfl) :
    SE G Pr S n (.Call (.Name x p) [] kws pos) (eMk c k pm0 fs) := fun X W cx => by
  refine ⟨fun pins s σ H Q I h => ?_⟩
  obtain ⟨p, σI, ih, eH, R, hq⟩ := h
  subst eH
  refine wpAny_Call_Name_kw (ld_glob I (show X.env.scope.names.lookup x = _ by rw [cx.esc]; exact hg) (by rw [cx.mg]; exact hm) ?_ hdb)
  refine PySem.W.callWith_KW0 (h₀ := X.base) I.ok.mod.kin (by rw [cx.K]; exact E.oex.kC) (hall X.env) ?_ (hpl X.env)
  refine thn ((ha X W cx).run pos pins s σ p.H _ I (tG.of R (Post.imp (Post.bind hq) fun xs H h => h))) fun ws s1 ⟨xs, H1, I1, r, q1⟩ => ⟨I1.kIn, ?_⟩
  obtain ⟨q, vs, ih1, rfl, l, R1, rv, -, hp1⟩ := q1
  split at hp1
  · rename_i hz
    have lu : ws.length = k := by rw [← r.length, rv.length]; exact hz.1
    rw [hks X.env]
    refine mk_run (vs := vs) (p := pm0) (us := []) (us' := permL pm0 ws) cx E I1 R1 (permL_vrs pm0 rv) (permL_vals pm0 r) (by rw [sizeLine_eq]; decide) (fun fd fI F s' self => ?_) (by rw [hz.2]; exact hk) hp1
    obtain ⟨oc, od, dV, kV, doc, pm, an, cdv, ct, osl, rfl, lk, hcd, hD, _⟩ := F.ex
    rcases hD with ⟨_, rfl⟩ | ⟨e, _⟩
    · exact .of_eq (hb kV doc pm an cdv ct self ws lu)
    · exact absurd rfl e
  · exact hp1.elim
/-! ### C(), C without an own __init__ -/
structure ErrN (G : Gl) (c : Nat) : Prop where
  ex : PySem.W.excIn G.K (G.ca c) He.veBase "ValueError.__new__" = true
  kp : PySem.W.keepIn G.K (.ref (G.ca c)) = true
  xc : ExcC G.K (G.ca c)
  no : G.cf c = []
def eMk0 (c : Nat) : Ex := fun _ _ h => .ok (.exc c []) h
theorem se_mk0 {c : Nat} {x : Str} {p pos : Pos} (E : ErrN G c) (hg : S.sc.names.lookup x = some .globalImplicit) (hm : G.mg x = some (.ref (G.ca c))) (hdb : (x == ("__debug__" : Str)) = false := by decide) : SE G Pr S n (.Call (.Name x p) [] [] pos) (eMk0 c) := fun X W cx => by
  refine ⟨fun pins s σ H Q I h => ?_⟩
  obtain ⟨p, σI, ih, eH, R, hq⟩ := h
  subst eH
  refine wpAny_Call_Name_kw (ld_glob I (show X.env.scope.names.lookup x = _ by rw [cx.esc]; exact hg) (by rw [cx.mg]; exact hm) ?_ hdb)
  refine PySem.W.callWith_K0 I.kIn (by rw [cx.K]; exact E.kp) ?_
  show wpAny _ _ (call (.ref (G.ca c)) []) _ _ _
  have qx := E.ex
  rw [← cx.K] at qx
  obtain ⟨bm, N, nm, qn, bs, hdct, sn, sub, ab, col, dd, k0, k1, k2, k3, k5, mN, hC, hN, hni, T⟩ := exc_obj I.kIn qx
  refine wpAny_call_exc_subT F.excBase_ValueError T hC hN hni (fun h' a hm => ?_) (by show 0 ≤ sizeLine; rw [sizeLine_eq]; omega)
  have hn : p.H a = none := I.hok.gone hm.new
  obtain ⟨t, ht, _, _⟩ := hm.there
  have J : Inv X pins σ (upd p.H a (exo a (G.ca c) none)) { s with heap := h', toks := s.toks } := I.laidN hm.keeps hm.new hn (exo_ok ht)
  refine ⟨.ref a, _, J, rfl, ?_⟩
  have l1 : p.Le (p.lay (upd p.H a (exo a (G.ca c) none))) := Pt.le_lay (Pers.new hn)
  refine hq (p.lay (upd p.H a (exo a (G.ca c) none))) (.ref a) l1 (R.lay (same_new hn)) ?_
  unfold VR
  exact ⟨a, none, [], rfl, upd_same, rfl, E.no⟩
/-! ### e.f -/
def ixOf (f : Str) : List Str → Nat → Option Nat
  | [], _ => none
  | g :: r, i => if g = f then some i else ixOf f r (i + 1)
/-- MI's: the i-th field of an error of the class c, for all (c, i) told -/
def fldI (T : List (Nat × Nat)) (v : IV) : Option IV := match v with
  | .exc c vs => (match T.lookup c with
    | some i => vs[i]?
    | none => none)
  | _ => none
def eFld (T : List (Nat × Nat)) (e : Ex) : Ex := fun c σ h => (e c σ h).bind fun v h => Out.of (fldI T v) h
theorem vrf_at {p : Pt} {l : List (Str × V)} : ∀ {fs : List Str} {vs : List IV} {i : Nat} {f : Str} {v : IV}, VRf G p l fs vs → fs[i]? = some f → vs[i]? = some v → ∃ y, l.lookup f = some y ∧ VR G p v y
  | _, [], i, _, _, _, _, e => by simp at e
  | fs, u :: vs, 0, f, v, r, e1, e2 => by
    unfold VRf at r
    obtain ⟨g, ns, rfl, ⟨y, hy, ry⟩, _⟩ := r
    cases e1; cases e2
    exact ⟨y, hy, ry⟩
  | fs, u :: vs, i + 1, f, v, r, e1, e2 => by
    unfold VRf at r
    obtain ⟨g, ns, rfl, _, r⟩ := r
    exact vrf_at r (by simpa using e1) (by simpa using e2)
def FldOk (G : Gl) (f : Str) (T : List (Nat × Nat)) : Prop := ∀ c i, T.lookup c = some i → (G.cf c)[i]? = some f ∧ ExcC G.K (G.ca c) ∧ PySem.W.findIn G.K (.ref (G.ca c)) f = some none
theorem se_fld {T : List (Nat × Nat)} {e : Expr} {f : Str} {pos : Pos} {fe : Ex} (hT : FldOk G f T) (he : SE G Pr S n e fe) (hb : ∀ env, attributeBase e f env (eval e env) = eval e env := by intro _; rfl) : SE G Pr S n (.Attribute e f pos) (eFld T fe) := fun X W cx => by
  refine ⟨fun pins s σ H Q I h => ?_⟩
  obtain ⟨p, σI, ih, eH, R, hq⟩ := h
  subst eH
  refine attr_of (hb X.env) (thn ((he X W cx).run pins s σ p.H _ I (tG.of R (Post.imp (Post.bind hq) fun x H h => h))) fun u s1 ⟨x, H1, I1, rx, q1⟩ => ?_)
  obtain ⟨q, v, ih1, rfl, l, R1, rv, -, hp1⟩ := q1
  obtain ⟨w, e1, hp2⟩ := out_of hp1
  cases v with
  | exc c vs =>
    change (match T.lookup c with
      | some i => vs[i]?
      | none => none) = some w at e1
    cases e2 : T.lookup c with
    | none => rw [e2] at e1; cases e1
    | some i =>
      rw [e2] at e1
      obtain ⟨h1, h2, h3⟩ := hT c i e2
      unfold VR at rv
      obtain ⟨a, d, fs, e3, ha, hd, rf⟩ := rv
      subst e3
      obtain rfl : u = Value.ref a := rx
      cases d with
      | none =>
        change vs = [] at hd
        subst hd
        simp at e1
      | some dx =>
        change q.H dx = some (exd dx fs) at hd
        obtain ⟨y, hy, ry⟩ := vrf_at rf h1 e1
        obtain ⟨t1, ho⟩ := exo_at I1.hok ha
        obtain ⟨mA, hns, rel⟩ := exd_at I1.hok hd
        obtain ⟨oD, hoD, hlk⟩ := lookIn_ns hns
        obtain ⟨u, hu, ru⟩ := RelO.some_of (v := y) (o := mA f) (by rw [← hy]; exact rel f)
        have J : PySem.W.InstAt s1.heap a _ (G.ca c) (some oD) := ⟨ho, rfl, rfl, hoD⟩
        rw [← cx.K] at h2 h3
        exact HandSPX.exc_get I1.kIn J h2.hg h2.hk h2.hs (PySem.W.findObj_own h2.hd h3 rfl (by rw [hlk, hu])) (handed_of ru) ⟨y, q.H, I1.tok _, ru, hp2 q y (Pt.Le.refl q) R1 ry⟩
  | _ => cases e1
end MI
end

section
set_option Elab.async false
set_option linter.all false
set_option maxRecDepth 100000
set_option autoImplicit false
set_option maxHeartbeats 1000000
/-! MI, dicts: displays. -/
namespace MI
open PySem L2
variable {G : Gl} {Pr : Tb} {S : Fs} {n : Nat}
theorem key_vr {p : Pt} {v : IV} {x : V} {k : Key} (r : VR G p v x) (e : keyI v = some k) : x = kV k := by
  cases v with
  | int i => cases r; cases e; rfl
  | str i => cases r; cases e; rfl
  | _ => cases e
theorem KVR.any {κ : Type} {p : Pt} (f : κ → Bool) : ∀ {kvs : List (κ × IV)} {ks : List (κ × V)}, KVR G p kvs ks → (ks.any fun kv => f kv.1) = (kvs.any fun kv => f kv.1)
  | [], _, h => by unfold KVR at h; subst h; rfl
  | (j, u) :: r, _, h => by
    unfold KVR at h
    obtain ⟨y, ks', e, ru, hr⟩ := h
    subst e
    rw [List.any_cons, List.any_cons, KVR.any f hr]
theorem KVR.map {κ : Type} [DecidableEq κ] {p : Pt} (k : κ) {v : IV} {x : V} (rv : VR G p v x) : ∀ {kvs : List (κ × IV)} {ks : List (κ × V)}, KVR G p kvs ks → KVR G p (kvs.map fun kv => if kv.1 = k then (kv.1, v) else kv) (ks.map fun kv => if kv.1 = k then (kv.1, x) else kv)
  | [], _, h => by unfold KVR at h; subst h; rfl
  | (j, u) :: r, _, h => by
    unfold KVR at h
    obtain ⟨y, ks', e, ru, hr⟩ := h
    subst e
    rw [List.map_cons, List.map_cons]
    by_cases hj : j = k
    · rw [if_pos (show ((j, u) : κ × IV).1 = k from hj), if_pos (show ((j, y) : κ × V).1 = k from hj)]
      exact ⟨x, _, rfl, rv, KVR.map k rv hr⟩
    · rw [if_neg (show ¬ ((j, u) : κ × IV).1 = k from hj), if_neg (show ¬ ((j, y) : κ × V).1 = k from hj)]
      exact ⟨y, _, rfl, ru, KVR.map k rv hr⟩
theorem KVR.app {κ : Type} {p : Pt} {k : κ} {v : IV} {x : V} (rv : VR G p v x) : ∀ {kvs : List (κ × IV)} {ks : List (κ × V)}, KVR G p kvs ks → KVR G p (kvs ++ [(k, v)]) (ks ++ [(k, x)])
  | [], _, h => by unfold KVR at h; subst h; exact ⟨x, [], rfl, rv, rfl⟩
  | (j, u) :: r, _, h => by
    unfold KVR at h
    obtain ⟨y, ks', e, ru, hr⟩ := h
    subst e
    exact ⟨y, _, rfl, ru, KVR.app rv hr⟩
theorem KVR.put {κ : Type} [DecidableEq κ] {p : Pt} (k : κ) {v : IV} {x : V} (rv : VR G p v x) {kvs : List (κ × IV)} {ks : List (κ × V)} (h : KVR G p kvs ks) : KVR G p (dPut k v kvs) (putK ks k x) := by
  unfold dPut putK
  rw [KVR.any (fun j => decide (j = k)) h]
  split
  · exact KVR.map k rv h
  · exact KVR.app rv h
theorem KVR.merge {p : Pt} : ∀ {more : List (Key × IV)} {ms : List (Key × V)} {kvs : List (Key × IV)} {ks : List (Key × V)}, KVR G p more ms → KVR G p kvs ks → KVR G p (more.foldl (fun acc kv => dPut kv.1 kv.2 acc) kvs) (mergeK ks ms)
  | [], _, kvs, ks, h, r => by unfold KVR at h; subst h; exact r
  | (k, v) :: more, _, kvs, ks, h, r => by
    unfold KVR at h
    obtain ⟨y, ms', e, ru, hr⟩ := h
    subst e
    have q := KVR.merge hr (KVR.put k ru r)
    exact q
/-- pairs of a display -/
structure SPs (G : Gl) (Pr : Tb) (S : Fs) (n : Nat) (keys : List (Option Expr)) (vals : List Expr) (ps : List (Ex × Ex)) : Prop where
  pps : ∀ X W pos, CtxOk G Pr S n X W → PPs X pos keys vals (ps.map fun p => (tE G W (p.1 (ctx Pr.Pr n)), tE G W (p.2 (ctx Pr.Pr n))))
  all : keys.all (·.isSome) = true
  len : keys.length = vals.length
  len2 : keys.length = ps.length
theorem sps_nil : SPs G Pr S n [] [] [] := ⟨fun _ _ _ _ => pps_nil, rfl, rfl, rfl⟩
theorem sps_cons {k v : Expr} {ks : List (Option Expr)} {vs : List Expr} {fk fv : Ex} {ps : List (Ex × Ex)} (hk : SE G Pr S n k fk) (hv : SE G Pr S n v fv) (hr : SPs G Pr S n ks vs ps) : SPs G Pr S n (some k :: ks) (v :: vs) ((fk, fv) :: ps) :=
  ⟨fun X W pos c => pps_cons (hk X W c) (hv X W c) (hr.pps X W pos c), hr.all, congrArg (· + 1) hr.len, congrArg (· + 1) hr.len2⟩
def PairR (G : Gl) (p : Pt) (kvs : List (Key × IV)) (ps : List (V × V)) : Prop := ∃ ks, KVR G p kvs ks ∧ ps = ks.map fun kv => (kV kv.1, kv.2)
theorem pairs_read {W : WX} : ∀ {ps : List (Ex × Ex)} {c : Ctx} {σI : Env} {ih : IH} {σ : L2.St} {p : Pt} {Q : List (V × V) → Hp → Prop}, RelI G p σI ih σ → Post G W σI σ (PairR G) p (lPairs ps c σI ih) Q → tPairs (ps.map fun q => (tE G W (q.1 c), tE G W (q.2 c))) σ p.H Q
  | [], c, σI, ih, σ, p, Q, R, hp => post_ok hp R ⟨[], rfl, rfl⟩
  | (a, b) :: r, c, σI, ih, σ, p, Q, R, hp => by
    refine tG.of R (Post.imp (Post.bind hp) ?_)
    rintro x H ⟨q, v, ih1, rfl, l, R1, rv, -, hp1⟩
    refine tG.of R1 (Post.imp (Post.bind hp1) ?_)
    rintro y H ⟨q2, u, ih2, rfl, l2, R2, ru, -, hp2⟩
    refine pairs_read (ps := r) (c := c) R2 (Post.imp (Post.bind hp2) ?_)
    rintro zs H ⟨q3, kvs, ih3, rfl, l3, R3, ⟨ks, rk, rfl⟩, -, hp3⟩
    cases e : keyI v with
    | none => rw [e] at hp3; exact hp3.elim
    | some k =>
      rw [e] at hp3
      have ex := key_vr rv e
      subst ex
      exact post_ok hp3 R3 ⟨(k, y) :: ks, ⟨y, ks, rfl, VR.mono l3 ru, rk⟩, rfl⟩
theorem post_put {α β : Type} {W : WX} {σI : Env} {σ : L2.St} {p : Pt} {ih : IH} {i : Nat} {v : α} {o : IO} {ho u : HO} {R' : Pt → α → β → Prop} {Q : β → Hp → Prop} {x : β} (h : Post G W σI σ R' p (.ok v (ih.put i o)) Q) (R : RelI G p σI ih σ) (hi : i < p.n)
    (hx : p.H (p.ρ i) = some u) (hu : ¬ Fix u) (hO : ∀ q, p.Le q → q.H = upd p.H (p.ρ i) ho → OR G q o (p.ρ i)) (rv : ∀ q, p.Le q → R' q v x) : Q x (upd p.H (p.ρ i) ho) := by
  have l : p.Le (p.wr (p.ρ i) ho) := Pt.le_wr hx hu
  exact h (p.wr (p.ρ i) ho) x l (R.put hi hx hu (hO _ l rfl)) (rv _ l)
theorem se_dct {keys : List (Option Expr)} {vals : List Expr} {ps : List (Ex × Ex)} {pos : Pos} (h : SPs G Pr S n keys vals ps) (h0 : keys ≠ []) (h15 : keys.length ≤ 15) : SE G Pr S n (.Dict keys vals pos) (eDct ps) := fun X W c =>
  pe_imp (pe_disp (h.pps X W pos c) h.all h.len h0 h15) fun σ H Q ⟨p, σI, ih, eH, R, hp⟩ => by
    subst eH
    intro a ha
    have hO : OR G (p.add a (.dK [])) (.dct []) a := ⟨[], upd_same, rfl⟩
    have R0 := R.push (o := .dct []) ha hO
    have l0 : p.Le (p.add a (.dK [])) := Pt.le_add ha
    change Post G W σI σ (VR G) p ((lPairs ps (ctx Pr.Pr n) σI (ih.push (.dct []))).bind _) Q at hp
    refine pairs_read (p := p.add a (.dK [])) R0 (Post.imp (Post.bind (Post.le l0 hp)) ?_)
    rintro zs H ⟨q, kvs, ih1, rfl, l, R1, ⟨ks, rk, rfl⟩, ek, hp1⟩
    have hnq : ih.n < q.n := Nat.lt_of_lt_of_le (by show ih.n < p.n + 1; rw [R.n]; exact Nat.lt_succ_self _) l.n
    have hr : q.ρ ih.n = a := by
      rw [l.ρ ih.n (by show ih.n < p.n + 1; rw [R.n]; exact Nat.lt_succ_self _)]
      show (if ih.n = p.n then a else p.ρ ih.n) = a
      rw [if_pos R.n]
    have hlen : ∀ (ps : List (Ex × Ex)) (h0 h1 : IH) (kvs : List (Key × IV)), lPairs ps (ctx Pr.Pr n) σI h0 = .ok kvs h1 → kvs.length = ps.length := by
      intro ps
      induction ps with
      | nil => intro h0 h1 kvs e; cases e; rfl
      | cons pr r ihp =>
        obtain ⟨fa, fb⟩ := pr
        intro h0 h1 kvs e
        change ((fa (ctx Pr.Pr n) σI h0).bind fun k h => (fb (ctx Pr.Pr n) σI h).bind fun v h => (lPairs r (ctx Pr.Pr n) σI h).bind fun ps h => match keyI k with
          | some k => .ok ((k, v) :: ps) h
          | none => .bad) = .ok kvs h1 at e
        cases e1 : fa (ctx Pr.Pr n) σI h0 with
        | ok k h2 =>
          rw [e1] at e
          change ((fb (ctx Pr.Pr n) σI h2).bind fun v h => (lPairs r (ctx Pr.Pr n) σI h).bind fun ps h => match keyI k with
            | some k => .ok ((k, v) :: ps) h
            | none => .bad) = .ok kvs h1 at e
          cases e2 : fb (ctx Pr.Pr n) σI h2 with
          | ok v h3 =>
            rw [e2] at e
            change ((lPairs r (ctx Pr.Pr n) σI h3).bind fun ps h => match keyI k with
              | some k => .ok ((k, v) :: ps) h
              | none => .bad) = .ok kvs h1 at e
            cases e3 : lPairs r (ctx Pr.Pr n) σI h3 with
            | ok qs h4 =>
              rw [e3] at e
              have hl := ihp _ _ _ e3
              cases e4 : keyI k with
              | none => simp only [Out.bind, e4] at e; cases e
              | some kk =>
                simp only [Out.bind, e4] at e
                cases e
                rw [List.length_cons, List.length_cons, hl]
            | exc _ _ => rw [e3] at e; cases e
            | bad => rw [e3] at e; cases e
          | exc _ _ => rw [e2] at e; cases e
          | bad => rw [e2] at e; cases e
        | exc _ _ => rw [e1] at e; cases e
        | bad => rw [e1] at e; cases e
    have hk15 : ks.length ≤ 15 := by
      rw [rk.length, hlen _ _ _ _ ek, ← h.len2]; exact h15
    cases e1 : ih1.get ih.n with
    | none => rw [e1] at hp1; exact hp1.elim
    | some o =>
      rw [e1] at hp1
      cases o with
      | dct kvs0 =>
        cases kvs0 with
        | nil =>
          obtain ⟨ks0, h1, h2⟩ := R1.ob _ _ hnq e1
          have h3 : ks0 = [] := h2
          subst h3
          rw [hr] at h1
          refine ⟨h1, ks, rfl, hk15, ?_⟩
          have hp2 : Post G W σI σ (VR G) q (.ok (.ref ih.n) (ih1.put ih.n (.dct (kvs.foldl (fun acc kv => dPut kv.1 kv.2 acc) [])))) Q := hp1
          have := post_put (ho := .dK (mergeK [] ks)) hp2 R1 hnq (by rw [hr]; exact h1) not_pers_dK (fun q2 l2 eH => ⟨_, by rw [eH, upd_same], KVR.mono l2 (KVR.merge (kvs := []) (ks := []) rk rfl)⟩) (x := .ref a) (fun q2 l2 => ⟨Nat.lt_of_lt_of_le hnq l2.n, by rw [l2.ρ _ hnq, hr]⟩)
          rw [hr] at this
          exact this
        | cons _ _ => exact hp1.elim
      | _ => exact hp1.elim
end MI
end

section
set_option Elab.async false
set_option linter.all false
set_option maxRecDepth 100000
set_option autoImplicit false
set_option maxHeartbeats 1000000
/-! MI, the rules by short names, as the printed derivations use them. -/
namespace MI
open PySem L2
variable {G : Gl} {Pr : Tb} {S : Fs} {n : Nat}
theorem CtxOk.u {X : Cx} {W : WX} (c : CtxOk G Pr S n X W) : X.A.units + 64 < cLine := by have := c.room.un; omega
section
variable {a b d : Expr} {fa fb fd : Ex} {pos : Pos}
theorem q_eq (ha : SE G Pr S n a fa) (hb : SE G Pr S n b fb) (hm : behindInMarks .Eq b = false := by rfl) : SE G Pr S n (.Compare a [.Eq] [b] pos) (eOp fEq fa fb) := se_cmp (fun _ _ c => op_eqI c.u) ops_eq ha hb hm
theorem q_ne (ha : SE G Pr S n a fa) (hb : SE G Pr S n b fb) (hm : behindInMarks .NotEq b = false := by rfl) : SE G Pr S n (.Compare a [.NotEq] [b] pos) (eOp fNe fa fb) := se_cmp (fun _ _ c => op_neI c.u) ops_ne ha hb hm
theorem q_lt (ha : SE G Pr S n a fa) (hb : SE G Pr S n b fb) (hm : behindInMarks .Lt b = false := by rfl) : SE G Pr S n (.Compare a [.Lt] [b] pos) (eOp fLt fa fb) := se_cmp (fun _ _ c => op_lt) ops_lt ha hb hm
theorem q_le (ha : SE G Pr S n a fa) (hb : SE G Pr S n b fb) (hm : behindInMarks .LtE b = false := by rfl) : SE G Pr S n (.Compare a [.LtE] [b] pos) (eOp fLe fa fb) := se_cmp (fun _ _ c => op_le) ops_le ha hb hm
theorem q_gt (ha : SE G Pr S n a fa) (hb : SE G Pr S n b fb) (hm : behindInMarks .Gt b = false := by rfl) : SE G Pr S n (.Compare a [.Gt] [b] pos) (eOp fGt fa fb) := se_cmp (fun _ _ c => op_gt) ops_gt ha hb hm
theorem q_ge (ha : SE G Pr S n a fa) (hb : SE G Pr S n b fb) (hm : behindInMarks .GtE b = false := by rfl) : SE G Pr S n (.Compare a [.GtE] [b] pos) (eOp fGe fa fb) := se_cmp (fun _ _ c => op_ge) ops_ge ha hb hm
theorem q_is (ha : SE G Pr S n a fa) (hb : SE G Pr S n b fb) (hm : behindInMarks .Is b = false := by rfl) : SE G Pr S n (.Compare a [.Is] [b] pos) (eOp fIsN fa fb) := se_cmp (fun _ _ c => op_isN) ops_isN ha hb hm
theorem q_isn (ha : SE G Pr S n a fa) (hb : SE G Pr S n b fb) (hm : behindInMarks .IsNot b = false := by rfl) : SE G Pr S n (.Compare a [.IsNot] [b] pos) (eOp fNotN fa fb) := se_cmp (fun _ _ c => op_notN) ops_notN ha hb hm
theorem q_in (ha : SE G Pr S n a fa) (hb : SE G Pr S n b fb) (hm : behindInMarks .In b = false := by rfl) : SE G Pr S n (.Compare a [.In] [b] pos) (eOp (fIn false) fa fb) := se_cmp (fun _ _ c => (op_inI c.u c.K).1) (ops_in false) ha hb hm
theorem q_nin (ha : SE G Pr S n a fa) (hb : SE G Pr S n b fb) (hm : behindInMarks .NotIn b = false := by rfl) : SE G Pr S n (.Compare a [.NotIn] [b] pos) (eOp (fIn true) fa fb) := se_cmp (fun _ _ c => (op_inI c.u c.K).2) (ops_in true) ha hb hm
theorem t_eq (ha : SE G Pr S n a fa) (hb : SE G Pr S n b fb) (hm : behindInMarks .Eq b = false := by rfl) : ST G Pr S n (.Compare a [.Eq] [b] pos) (tBl (eOp fEq fa fb)) := st_cmp (fun _ _ c => op_eqI c.u) ops_eq ha hb hm
theorem t_ne (ha : SE G Pr S n a fa) (hb : SE G Pr S n b fb) (hm : behindInMarks .NotEq b = false := by rfl) : ST G Pr S n (.Compare a [.NotEq] [b] pos) (tBl (eOp fNe fa fb)) := st_cmp (fun _ _ c => op_neI c.u) ops_ne ha hb hm
theorem t_lt (ha : SE G Pr S n a fa) (hb : SE G Pr S n b fb) (hm : behindInMarks .Lt b = false := by rfl) : ST G Pr S n (.Compare a [.Lt] [b] pos) (tBl (eOp fLt fa fb)) := st_cmp (fun _ _ c => op_lt) ops_lt ha hb hm
theorem t_le (ha : SE G Pr S n a fa) (hb : SE G Pr S n b fb) (hm : behindInMarks .LtE b = false := by rfl) : ST G Pr S n (.Compare a [.LtE] [b] pos) (tBl (eOp fLe fa fb)) := st_cmp (fun _ _ c => op_le) ops_le ha hb hm
theorem t_gt (ha : SE G Pr S n a fa) (hb : SE G Pr S n b fb) (hm : behindInMarks .Gt b = false := by rfl) : ST G Pr S n (.Compare a [.Gt] [b] pos) (tBl (eOp fGt fa fb)) := st_cmp (fun _ _ c => op_gt) ops_gt ha hb hm
theorem t_ge (ha : SE G Pr S n a fa) (hb : SE G Pr S n b fb) (hm : behindInMarks .GtE b = false := by rfl) : ST G Pr S n (.Compare a [.GtE] [b] pos) (tBl (eOp fGe fa fb)) := st_cmp (fun _ _ c => op_ge) ops_ge ha hb hm
theorem t_is (ha : SE G Pr S n a fa) (hb : SE G Pr S n b fb) (hm : behindInMarks .Is b = false := by rfl) : ST G Pr S n (.Compare a [.Is] [b] pos) (tBl (eOp fIsN fa fb)) := st_cmp (fun _ _ c => op_isN) ops_isN ha hb hm
theorem t_isn (ha : SE G Pr S n a fa) (hb : SE G Pr S n b fb) (hm : behindInMarks .IsNot b = false := by rfl) : ST G Pr S n (.Compare a [.IsNot] [b] pos) (tBl (eOp fNotN fa fb)) := st_cmp (fun _ _ c => op_notN) ops_notN ha hb hm
theorem t_in (ha : SE G Pr S n a fa) (hb : SE G Pr S n b fb) (hm : behindInMarks .In b = false := by rfl) : ST G Pr S n (.Compare a [.In] [b] pos) (tBl (eOp (fIn false) fa fb)) := st_cmp (fun _ _ c => (op_inI c.u c.K).1) (ops_in false) ha hb hm
theorem t_nin (ha : SE G Pr S n a fa) (hb : SE G Pr S n b fb) (hm : behindInMarks .NotIn b = false := by rfl) : ST G Pr S n (.Compare a [.NotIn] [b] pos) (tBl (eOp (fIn true) fa fb)) := st_cmp (fun _ _ c => (op_inI c.u c.K).2) (ops_in true) ha hb hm
theorem b_add (ha : SE G Pr S n a fa) (hb : SE G Pr S n b fb) : SE G Pr S n (.BinOp a .Add b pos) (eOp fAdd fa fb) := se_bin (fun _ _ c => by rw [← c.K]; exact op_addI) ops_add ha hb
theorem b_sub (ha : SE G Pr S n a fa) (hb : SE G Pr S n b fb) : SE G Pr S n (.BinOp a .Sub b pos) (eOp fSub fa fb) := se_bin (fun _ _ c => op_sub) ops_sub ha hb
theorem b_mul (ha : SE G Pr S n a fa) (hb : SE G Pr S n b fb) : SE G Pr S n (.BinOp a .Mult b pos) (eOp fMulI fa fb) := se_bin (fun _ _ c => op_mul) ops_mulI ha hb
theorem b_div (ha : SE G Pr S n a fa) (hb : SE G Pr S n b fb) : SE G Pr S n (.BinOp a .FloorDiv b pos) (eOp fFdiv fa fb) := se_bin (fun _ _ c => op_fdiv) ops_fdiv ha hb
theorem b_mod (ha : SE G Pr S n a fa) (hb : SE G Pr S n b fb) : SE G Pr S n (.BinOp a .Mod b pos) (eOp fMod fa fb) := se_bin (fun _ _ c => op_mod) ops_mod ha hb
theorem b_pow (ha : SE G Pr S n a fa) (hb : SE G Pr S n b fb) : SE G Pr S n (.BinOp a .Pow b pos) (eOp fPow fa fb) := se_bin (fun _ _ c => op_pow) ops_pow ha hb
end
section
variable {e : Expr} {es : List Expr} {p pos : Pos} {fs : Lx}
theorem c_len (hg : S.sc.names.lookup ("len" : Str) = some .globalImplicit) (hm : G.mg ("len" : Str) = none) (ha : SA G Pr S n (e :: es) fs) (he : ∀ env, starEach (e :: es) env = (false, eval e env) :: starEach es env := by intro _; rfl) (hpl : ∀ env, (backTo pos (starEach es env)).any (·.1) = false := by intro _; rfl) :
    SE G Pr S n (.Call (.Name "len" p) (e :: es) [] pos) (ePrim pLen fs) := se_bltn (fun _ _ c => by rw [← c.K]; exact call_lenI) cas_len hg hm PyProof.Rows.Boot.«len» ha he hpl
theorem c_all (hg : S.sc.names.lookup ("all" : Str) = some .globalImplicit) (hm : G.mg ("all" : Str) = none) (ha : SA G Pr S n (e :: es) fs) (he : ∀ env, starEach (e :: es) env = (false, eval e env) :: starEach es env := by intro _; rfl) (hpl : ∀ env, (backTo pos (starEach es env)).any (·.1) = false := by intro _; rfl) :
    SE G Pr S n (.Call (.Name "all" p) (e :: es) [] pos) (ePrim pAll fs) := se_bltn (fun _ _ c => by rw [← c.K]; exact cr_all c.calm) cas_all hg hm PyProof.Rows.Boot.«all» ha he hpl
theorem c_any (hg : S.sc.names.lookup ("any" : Str) = some .globalImplicit) (hm : G.mg ("any" : Str) = none) (ha : SA G Pr S n (e :: es) fs) (he : ∀ env, starEach (e :: es) env = (false, eval e env) :: starEach es env := by intro _; rfl) (hpl : ∀ env, (backTo pos (starEach es env)).any (·.1) = false := by intro _; rfl) :
    SE G Pr S n (.Call (.Name "any" p) (e :: es) [] pos) (ePrim pAny fs) := se_bltn (fun _ _ c => by rw [← c.K]; exact cr_any c.calm) cas_any hg hm PyProof.Rows.Boot.«any» ha he hpl
theorem c_int (hg : S.sc.names.lookup ("int" : Str) = some .globalImplicit) (hm : G.mg ("int" : Str) = none) (ha : SA G Pr S n (e :: es) fs) (he : ∀ env, starEach (e :: es) env = (false, eval e env) :: starEach es env := by intro _; rfl) (hpl : ∀ env, (backTo pos (starEach es env)).any (·.1) = false := by intro _; rfl) :
    SE G Pr S n (.Call (.Name "int" p) (e :: es) [] pos) (ePrim pInt fs) := se_bty (fun _ _ c => call_int1) cas_int hg hm PyProof.Rows.Boot.«int» ha he hpl
theorem c_list (hg : S.sc.names.lookup ("list" : Str) = some .globalImplicit) (hm : G.mg ("list" : Str) = none) (ha : SA G Pr S n (e :: es) fs) (he : ∀ env, starEach (e :: es) env = (false, eval e env) :: starEach es env := by intro _; rfl) (hpl : ∀ env, (backTo pos (starEach es env)).any (·.1) = false := by intro _; rfl) :
    SE G Pr S n (.Call (.Name "list" p) (e :: es) [] pos) (ePrim pList fs) := se_bty (fun _ _ c => by rw [← c.K]; exact call_listI c.calm) cas_list hg hm PyProof.Rows.Boot.«list» ha he hpl
theorem c_tuple (hg : S.sc.names.lookup ("tuple" : Str) = some .globalImplicit) (hm : G.mg ("tuple" : Str) = none) (ha : SA G Pr S n (e :: es) fs) (he : ∀ env, starEach (e :: es) env = (false, eval e env) :: starEach es env := by intro _; rfl) (hpl : ∀ env, (backTo pos (starEach es env)).any (·.1) = false := by intro _; rfl) :
    SE G Pr S n (.Call (.Name "tuple" p) (e :: es) [] pos) (ePrim pTuple fs) := se_bty (fun _ _ c => by rw [← c.K]; exact call_tupleI) cas_tuple hg hm PyProof.Rows.Boot.«tuple» ha he hpl
theorem c_items {o : Expr} {apos cpos : Pos} {fo : Ex} (hg : S.sc.names.lookup ("list" : Str) = some .globalImplicit) (hm : G.mg ("list" : Str) = none) (ho : SE G Pr S n o fo) (hbase : ∀ env, attributeBase o "items" env (eval o env) = eval o env := by intro _; rfl) (hline : (apos.endLine == cpos.line) = true := by rfl)
    (hs : ∀ env, starEach [.Call (.Attribute o "items" apos) [] [] cpos] env = (false, eval (.Call (.Attribute o "items" apos) [] [] cpos) env) :: starEach [] env := by intro _; rfl) : SE G Pr S n (.Call (.Name "list" p) [.Call (.Attribute o "items" apos) [] [] cpos] [] pos) (eUn fItems fo) :=
  se_items ho hg hm PyProof.Rows.Boot.«list» hbase hline hs
theorem c_isi {f : Ty → Option Bool} {ce : Expr} {cv : V} {u : Value} {fe : Ex} (hg : S.sc.names.lookup ("isinstance" : Str) = some .globalImplicit) (hm : G.mg ("isinstance" : Str) = none) (hc : ClsE G S ce cv u) (hf : IsiOk G u f) (he : SE G Pr S n e fe)
    (hs : ∀ env, starEach [e, ce] env = (false, eval e env) :: starEach [ce] env := by intro _; rfl) (hpl : ∀ env, (backTo pos (starEach [ce] env)).any (·.1) = false := by intro _; rfl) : SE G Pr S n (.Call (.Name "isinstance" p) [e, ce] [] pos) (eIsi f fe) := se_isi hg hm PyProof.Rows.Boot.«isinstance» hc hf he hs hpl
theorem c_isiT {f : Ty → Option Bool} {ces : List Expr} {cvs : List V} {us : List Value} {k : Nat} {tpos : Pos} {fe : Ex} (hg : S.sc.names.lookup ("isinstance" : Str) = some .globalImplicit) (hm : G.mg ("isinstance" : Str) = none) (hc : ClsEs G S ces cvs us) (hf : IsiAny G us f) (he : SE G Pr S n e fe) (hl : cvs.length ≤ 1000 := by decide)
    (hs : ∀ env, starEach [e, .Tuple ces k tpos] env = (false, eval e env) :: starEach [.Tuple ces k tpos] env := by intro _; rfl) (hpl : ∀ env, (backTo pos (starEach [.Tuple ces k tpos] env)).any (·.1) = false := by intro _; rfl) : SE G Pr S n (.Call (.Name "isinstance" p) [e, .Tuple ces k tpos] [] pos) (eIsi f fe) := se_isiT hg hm PyProof.Rows.Boot.«isinstance» hc hl hf he hs hpl
end
/-! methods of lists -/
section
variable {o e : Expr} {es : List Expr} {apos cpos : Pos} {fo : Ex} {fs : Lx}
theorem m_append (ho : SE G Pr S n o fo) (ha : SA G Pr S n (e :: es) fs) (hbase : ∀ env, attributeBase o "append" env (eval o env) = eval o env := by intro _; rfl)
    (hfew : ∀ env, ((backTo cpos (starEach (e :: es) env)).all (fun x => !x.1) && (backToKw cpos (keywordEach [] env)).all (fun x => x.1.isSome)
      && decide ((e :: es).length + ([] : List Keyword).length + (if ([] : List Keyword).isEmpty then 0 else 1) < 30)) = true := by intro _; rfl)
    (hline : (apos.endLine == cpos.line) = true := by rfl) (hst : ∀ env, starEach (e :: es) env = (false, eval e env) :: starEach es env := by intro _; rfl) (hplain : ∀ env, (backTo cpos (starEach es env)).any (·.1) = false := by intro _; rfl) :
    SE G Pr S n (.Call (.Attribute o "append" apos) (e :: es) [] cpos) (eMeth .lst fAppend fo fs) := se_bm (.inl rfl) F.plainAttrs_list F.slot_list_append F.type_list_append (fun _ _ c => mt_append) mts_append ho ha hbase hfew hline hst hplain
theorem m_extend (ho : SE G Pr S n o fo) (ha : SA G Pr S n (e :: es) fs) (hbase : ∀ env, attributeBase o "extend" env (eval o env) = eval o env := by intro _; rfl)
    (hfew : ∀ env, ((backTo cpos (starEach (e :: es) env)).all (fun x => !x.1) && (backToKw cpos (keywordEach [] env)).all (fun x => x.1.isSome)
      && decide ((e :: es).length + ([] : List Keyword).length + (if ([] : List Keyword).isEmpty then 0 else 1) < 30)) = true := by intro _; rfl)
    (hline : (apos.endLine == cpos.line) = true := by rfl) (hst : ∀ env, starEach (e :: es) env = (false, eval e env) :: starEach es env := by intro _; rfl) (hplain : ∀ env, (backTo cpos (starEach es env)).any (·.1) = false := by intro _; rfl) :
    SE G Pr S n (.Call (.Attribute o "extend" apos) (e :: es) [] cpos) (eMeth .lst fExtend fo fs) := se_bm (.inl rfl) F.plainAttrs_list F.slot_list_extend F.type_list_extend (fun _ _ c => mt_extend) mts_extend ho ha hbase hfew hline hst hplain
theorem m_popAt (ho : SE G Pr S n o fo) (ha : SA G Pr S n (e :: es) fs) (hbase : ∀ env, attributeBase o "pop" env (eval o env) = eval o env := by intro _; rfl)
    (hfew : ∀ env, ((backTo cpos (starEach (e :: es) env)).all (fun x => !x.1) && (backToKw cpos (keywordEach [] env)).all (fun x => x.1.isSome)
      && decide ((e :: es).length + ([] : List Keyword).length + (if ([] : List Keyword).isEmpty then 0 else 1) < 30)) = true := by intro _; rfl)
    (hline : (apos.endLine == cpos.line) = true := by rfl) (hst : ∀ env, starEach (e :: es) env = (false, eval e env) :: starEach es env := by intro _; rfl) (hplain : ∀ env, (backTo cpos (starEach es env)).any (·.1) = false := by intro _; rfl) :
    SE G Pr S n (.Call (.Attribute o "pop" apos) (e :: es) [] cpos) (eMeth .lst fPopAt fo fs) := se_bm (.inl rfl) F.plainAttrs_list F.slot_list_pop F.type_list_pop (fun _ _ c => mt_popAt) mts_popAt ho ha hbase hfew hline hst hplain
end
theorem g_subL {o i : Expr} {pos : Pos} {fo fi : Ex} (ho : SE G Pr S n o fo) (hi : SE G Pr S n i fi) (ha : ∀ env v, assign (.Subscript o i pos) env v = (do
      let ov ← holding [v] (eval o env)
      let iv ← holding [v, ov] (eval i env)
      standAt pos
      holding [v, ov, iv] (setItem ov iv v)
      release [v, ov, iv] []) := by intro _ _; rfl) : SG G Pr S n (.Subscript o i pos) [] (gSub fSetL fo fi) := sg_sub (fun _ _ c => set_list) sts_list ho hi ha
theorem x_tv {a : Expr} {fa : Ex} (ha : SE G Pr S n a fa) (he : ∀ env whole, isTrue a env whole = (do let v ← whole; standAt a.pos; holding [v] (PySem.truthy v)) := by intro _ _; rfl) : ST G Pr S n a (tVal fa) := st_val ha he
/-! ### paths into a text -/
def kArg (e : Expr) (i : Nat) : Expr := match e with
  | .Call _ es _ _ => es.getD i e
  | _ => e
def kFun (e : Expr) : Expr := match e with
  | .Call f _ _ _ => f
  | _ => e
def kKw (e : Expr) (i : Nat) : Expr := match e with
  | .Call _ _ ks _ => (match ks[i]? with
    | some k => k.value
    | none => e)
  | _ => e
def kElt (e : Expr) (i : Nat) : Expr := match e with
  | .Tuple es _ _ => es.getD i e
  | .List es _ => es.getD i e
  | .BoolOp _ es _ => es.getD i e
  | .Compare a _ es _ => (match i with
    | 0 => a
    | j + 1 => es.getD j e)
  | .BinOp a _ b _ => (match i with
    | 0 => a
    | _ => b)
  | .UnaryOp _ a _ => a
  | .IfExp t a b _ => (match i with
    | 0 => t
    | 1 => a
    | _ => b)
  | .Subscript a b _ => (match i with
    | 0 => a
    | _ => b)
  | .Attribute a _ _ => a
  | .Dict _ vs _ => vs.getD i e
  | .ListComp a _ _ _ => a
  | .Starred a _ => a
  | _ => e
def kIter (e : Expr) (i : Nat) : Expr := match e with
  | .ListComp _ gs _ _ => (match gs[i]? with
    | some g => g.iter
    | none => e)
  | _ => e
def kIfs (e : Expr) (i j : Nat) : Expr := match e with
  | .ListComp _ gs _ _ => (match gs[i]? with
    | some g => g.ifs.getD j e
    | none => e)
  | _ => e
def noE : Expr := .Constant .none 0 ⟨0, 0, 0, 0⟩
def kVal : Stmt → Expr
  | .Expr e _ => e
  | .Assign _ e _ => e
  | .AugAssign _ _ e _ => e
  | .Return (some e) _ => e
  | .If t _ _ _ => t
  | .While t _ _ _ => t
  | .For _ e _ _ _ => e
  | _ => noE
def kElse (s : Stmt) (i : Nat) : Stmt := match s with
  | .If _ _ a _ => a.getD i s
  | _ => s
def lamI (q : Str) (ps : List Str) (e : Expr) : LmI := match e with
  | .Lambda a b s _ => ⟨q, a, b, s, ps, []⟩
  | _ => ⟨q, ⟨[], [], none, [], [], none, []⟩, noE, ⟨.function, [], false, false, []⟩, ps, []⟩
end MI
end

section
set_option Elab.async false
set_option linter.all false
set_option maxRecDepth 100000
set_option autoImplicit false
set_option maxHeartbeats 1000000
/-! MI, looks at the written part by Bools; the end of a law. -/
namespace MI
open PySem L2 PySem.Spec PyProof.Rows
/-! ### own error classes -/
theorem oexB_ok {K : PySem.W.Frag} {C : Addr} (h : oexB K C = true) : OexC K C := by
  obtain ⟨h1, h⟩ := Bool.and_eq_true_iff.mp h
  obtain ⟨h2, h⟩ := Bool.and_eq_true_iff.mp h
  obtain ⟨h3, h⟩ := Bool.and_eq_true_iff.mp h
  obtain ⟨h4, h5⟩ := Bool.and_eq_true_iff.mp h
  refine ⟨?_, He.eqO_ok h2, of_decide_eq_true h3, of_decide_eq_true h4, h5⟩
  cases e : K.lookup C with
  | none => rw [e] at h1; cases h1
  | some o =>
    rw [e] at h1
    obtain ⟨oc, od, dt, sl⟩ := o
    cases oc with
    | type t =>
      cases dt with
      | cls cd =>
        obtain ⟨nm, bs, mro, ns, qn, hd, sn, sb, ab, col, del⟩ := cd
        obtain ⟨a1, r1⟩ := Bool.and_eq_true_iff.mp h1
        obtain ⟨a2, r2⟩ := Bool.and_eq_true_iff.mp r1
        obtain ⟨a3, r3⟩ := Bool.and_eq_true_iff.mp r2
        obtain ⟨a4, a5⟩ := Bool.and_eq_true_iff.mp r3
        clear h1 r1 r2 r3
        have et := of_decide_eq_true a1
        have a3' : hd = true := a3
        have a4' : (!del) = true := a4
        subst et a3'
        have ed : del = false := by cases del with | false => rfl | true => cases a4'
        subst ed
        cases mro with
        | nil => cases a2
        | cons v bm =>
          cases v with
          | ref C' =>
            have a2' : (decide (C' = C) && PySem.HandSPX.refsVE bm) = true := a2
            obtain ⟨b1, b2⟩ := Bool.and_eq_true_iff.mp a2'
            have ec := of_decide_eq_true b1
            subst ec
            obtain ⟨sl⟩ := sl
            match sl, a5 with
            | [k0, k1, k2, k3, some (.builtin n), k5], a5 =>
              have en : n = "ValueError.__new__" := of_decide_eq_true a5
              subst en
              exact ⟨nm, qn, ns, bs, bm, sn, sb, ab, col, od, k0, k1, k2, k3, k5, rfl, b2⟩
          | _ => cases a2
      | _ => cases h1
    | _ => cases dt <;> cases h1
theorem excB_ok {K : PySem.W.Frag} {D : Addr} (h : excB K D = true) : ExcC K D := by
  obtain ⟨h1, h⟩ := Bool.and_eq_true_iff.mp h
  obtain ⟨h2, h⟩ := Bool.and_eq_true_iff.mp h
  obtain ⟨h3, h⟩ := Bool.and_eq_true_iff.mp h
  obtain ⟨h4, h⟩ := Bool.and_eq_true_iff.mp h
  obtain ⟨h5, h⟩ := Bool.and_eq_true_iff.mp h
  obtain ⟨h6, h⟩ := Bool.and_eq_true_iff.mp h
  obtain ⟨h7, h8⟩ := Bool.and_eq_true_iff.mp h
  exact ⟨He.eqO_ok h1, He.eqO_ok h2, of_decide_eq_true h3, h4, He.eqO_ok h5, of_decide_eq_true h6, of_decide_eq_true h7, of_decide_eq_true h8⟩
theorem initB_ok {K : PySem.W.Frag} {C fI : Addr} (h : initB K C fI = true) : PySem.W.findIn K (.ref C) "__init__" = some (some (.ref fI)) ∧ PySem.W.typeIn K (.ref fI) = some (.type "function") := by
  obtain ⟨h1, h2⟩ := Bool.and_eq_true_iff.mp h
  exact ⟨He.eqO_ok h1, of_decide_eq_true h2⟩
theorem noB_ok {K : PySem.W.Frag} {C : Addr} {fs : List Str} (h : noB K C fs = true) : ∀ f ∈ fs, PySem.W.findIn K (.ref C) f = some none := fun f hf => He.eqO_ok (List.all_eq_true.mp h f hf)
theorem errNB_ok {G : Gl} {c : Nat} (h : errNB G.K (G.ca c) = true) (hc : G.cf c = []) : ErrN G c := by
  obtain ⟨h1, h⟩ := Bool.and_eq_true_iff.mp h
  obtain ⟨h2, h3⟩ := Bool.and_eq_true_iff.mp h
  exact ⟨h1, h2, excB_ok h3, hc⟩
/-! ### isinstance -/
def tyAll : List Ty := [.non, .bl, .int, .str, .tup, .lst, .dct]
/-- a class in the text: an own error, a built-in type -/
inductive UC where
  | own (d : Nat) | bt (T : String)
def UC.val (ca : Nat → Addr) : UC → Value
  | .own d => .ref (ca d)
  | .bt T => .type T
def tyName : Ty → String
  | .non => "NoneType"
  | .bl => "bool"
  | .int => "int"
  | .str => "str"
  | .tup => "tuple"
  | .lst => "list"
  | .dct => "dict"
  | .exc _ => ""
/-- isinstance, without a heap: anc c, the own classes that c is beneath, itself first -/
def kt (anc : Nat → List Nat) (m : Nat) : Ty → UC → Option Bool
  | .exc c, .own d => if c < m ∧ d < m then some (decide (d ∈ anc c)) else none
  | .exc c, .bt T => if c < m ∧ PySem.W.kitMeta T = true then some (PySem.HandSPX.veTail.contains (.type T)) else none
  | t, .own d => if d < m ∧ (fastFind? (tyName t)).isSome = true then some false else none
  | t, .bt T => kitB (tyName t) T
def ktAny (anc : Nat → List Nat) (m : Nat) (t : Ty) : List UC → Option Bool
  | [] => some false
  | u :: us => (match kt anc m t u with
    | some true => some true
    | some false => ktAny anc m t us
    | none => none)
theorem nodup_inj {α β : Type} {f : α → β} : ∀ {l : List α}, (l.map f).Nodup → ∀ x ∈ l, ∀ y ∈ l, f x = f y → x = y
  | [], _, x, hx, _, _, _ => by cases hx
  | a :: l, h, x, hx, y, hy, e => by
    rw [List.map_cons, List.nodup_cons] at h
    rcases List.mem_cons.mp hx with z | z
    · rcases List.mem_cons.mp hy with z2 | z2
      · rw [z, z2]
      · subst z; exact absurd (e ▸ List.mem_map_of_mem z2) h.1
    · rcases List.mem_cons.mp hy with z2 | z2
      · subst z2; exact absurd (e ▸ List.mem_map_of_mem z) h.1
      · exact nodup_inj h.2 x z y z2 e
section
variable {K : PySem.W.Frag} {ca : Nat → Addr} {anc : Nat → List Nat} {m : Nat}
structure MroOk (K : PySem.W.Frag) (ca : Nat → Addr) (anc : Nat → List Nat) (m : Nat) : Prop where
  inj : ∀ c d, c < m → d < m → ca c = ca d → c = d
  cls : ∀ c, c < m → ∃ cd, PySem.W.clsIn K (ca c) = some cd ∧ cd.mro = (anc c).map (fun d => .ref (ca d)) ++ PySem.HandSPX.veTail
  ty : ∀ c, c < m → PySem.W.typeIn K (.ref (ca c)) = some (.type "type")
  self : ∀ c, c < m → c ∈ anc c
  lt : ∀ c, c < m → ∀ d ∈ anc c, d < m
theorem mroB_ok (h : mroB K ca anc m = true) : MroOk K ca anc m := by
  obtain ⟨h1, h2⟩ := Bool.and_eq_true_iff.mp h
  have at_ := fun c (hc : c < m) => List.all_eq_true.mp h2 c (List.mem_range.mpr hc)
  refine ⟨fun c d hc hd e => nodup_inj (of_decide_eq_true h1) c (List.mem_range.mpr hc) d (List.mem_range.mpr hd) e, fun c hc => ?_, fun c hc => ?_, fun c hc => ?_, fun c hc d hd => ?_⟩
  all_goals
    obtain ⟨a1, a2⟩ := Bool.and_eq_true_iff.mp (at_ c hc)
    obtain ⟨a2, a3⟩ := Bool.and_eq_true_iff.mp a2
    obtain ⟨a3, a4⟩ := Bool.and_eq_true_iff.mp a3
  · cases e : PySem.W.clsIn K (ca c) with
    | none => rw [e] at a1; cases a1
    | some cd => rw [e] at a1; exact ⟨cd, rfl, of_decide_eq_true a1⟩
  · exact of_decide_eq_true a2
  · exact of_decide_eq_true a3
  · exact of_decide_eq_true (List.all_eq_true.mp a4 d hd)
theorem contains_types (l : List String) (a : Addr) : (l.map Value.type).contains (.ref a) = false := by
  induction l with
  | nil => rfl
  | cons x l ih => rw [List.map_cons, List.contains_cons, ih]; rfl
theorem MroOk.mem (M : MroOk K ca anc m) {c d : Nat} (hc : c < m) (hd : d < m) : ((anc c).map (fun d => Value.ref (ca d)) ++ PySem.HandSPX.veTail).contains (.ref (ca d)) = decide (d ∈ anc c) := by
  by_cases h : d ∈ anc c
  · rw [decide_eq_true h]
    exact List.contains_iff_mem.mpr (List.mem_append_left _ (List.mem_map_of_mem h))
  · rw [decide_eq_false h]
    refine Bool.eq_false_iff.mpr fun z => ?_
    rcases List.mem_append.mp (List.contains_iff_mem.mp z) with z | z
    · obtain ⟨e, he, q⟩ := List.mem_map.mp z
      have : ca e = ca d := Value.ref.inj q
      rw [M.inj e d (M.lt c hc e he) hd this] at he
      exact h he
    · simp [PySem.HandSPX.veTail] at z
theorem MroOk.own (M : MroOk K ca anc m) {d : Nat} (hd : d < m) (t : Value) (ht : (t == .ref (ca d)) = false) {b : Bool} (h : PySem.W.subIn K t (.ref (ca d)) = some b) : PySem.W.kitOne K t (.ref (ca d)) = some b := by
  unfold PySem.W.kitOne
  rw [ht]
  obtain ⟨cd, e, _⟩ := M.cls d hd
  show (if ((PySem.W.clsIn K (ca d)).isSome && PySem.W.typeIn K (.ref (ca d)) == some (.type "type")) = true then PySem.W.subIn K t (.ref (ca d)) else none) = some b
  rw [e, M.ty d hd, h]
  rfl
theorem kt_ok {G : Gl} (M : MroOk G.K G.ca anc m) {t : Ty} {u : UC} {b : Bool} (h : kt anc m t u = some b) : PySem.W.kitOne G.K (tyVal G t) (u.val G.ca) = some b := by
  have base : ∀ t, (∀ c, t ≠ Ty.exc c) → kt anc m t u = some b → tyVal G t = .type (tyName t) → PySem.W.kitOne G.K (tyVal G t) (u.val G.ca) = some b := by
    intro t hn h ht
    cases u with
    | own d =>
      have h' : (if d < m ∧ (fastFind? (tyName t)).isSome = true then some false else none) = some b := by
        cases t with
        | exc c => exact absurd rfl (hn c)
        | _ => exact h
      split at h'
      · rename_i hz
        cases h'
        refine M.own hz.1 _ (by rw [ht]; rfl) ?_
        rw [ht]
        show (fastBuiltinMro (tyName t)).map (·.contains (.ref (G.ca d))) = some false
        unfold fastBuiltinMro
        obtain ⟨z, e⟩ := Option.isSome_iff_exists.mp hz.2
        rw [e]
        show some ((z.mro.map Value.type).contains (.ref (G.ca d))) = some false
        rw [contains_types]
      · cases h'
    | bt T =>
      have h' : kitB (tyName t) T = some b := by
        cases t with
        | exc c => exact absurd rfl (hn c)
        | _ => exact h
      rw [ht]
      exact kit_ty h'
  cases t with
  | exc c =>
    cases u with
    | own d =>
      change (if c < m ∧ d < m then some (decide (d ∈ anc c)) else none) = some b at h
      split at h
      · rename_i hz
        cases h
        show PySem.W.kitOne G.K (.ref (G.ca c)) (.ref (G.ca d)) = _
        by_cases q : (Value.ref (G.ca c) == Value.ref (G.ca d)) = true
        · have e := M.inj c d hz.1 hz.2 (Value.ref.inj (eq_of_beq q))
          subst e
          unfold PySem.W.kitOne
          rw [if_pos q, decide_eq_true (M.self c hz.1)]
        · refine M.own hz.2 _ (Bool.eq_false_iff.mpr q) ?_
          obtain ⟨cd, e1, e2⟩ := M.cls c hz.1
          show PySem.W.mroIn G.K (G.ca c) (.ref (G.ca d)) = _
          unfold PySem.W.mroIn
          rw [e1, Option.bind_some, e2, M.mem hz.1 hz.2, if_neg]
          simp [PySem.HandSPX.veTail]
      · cases h
    | bt T =>
      change (if c < m ∧ PySem.W.kitMeta T = true then some (PySem.HandSPX.veTail.contains (.type T)) else none) = some b at h
      split at h
      · rename_i hz
        cases h
        show PySem.W.kitOne G.K (.ref (G.ca c)) (.type T) = _
        unfold PySem.W.kitOne
        rw [show (Value.ref (G.ca c) == Value.type T) = false from rfl]
        show (if PySem.W.kitMeta T = true then PySem.W.subIn G.K (.ref (G.ca c)) (.type T) else none) = _
        rw [if_pos hz.2]
        obtain ⟨cd, e1, e2⟩ := M.cls c hz.1
        show PySem.W.mroIn G.K (G.ca c) (.type T) = _
        unfold PySem.W.mroIn
        rw [e1, Option.bind_some, e2, if_neg (by simp [PySem.HandSPX.veTail])]
        have e3 : ((anc c).map (fun d => Value.ref (G.ca d)) ++ PySem.HandSPX.veTail).contains (.type T) = PySem.HandSPX.veTail.contains (.type T) := by
          induction anc c with
          | nil => rfl
          | cons x l ih => rw [List.map_cons, List.cons_append, List.contains_cons, ih]; rfl
        rw [e3]
      · cases h
  | _ => exact base _ (fun c z => nomatch z) h rfl
theorem ktAny_ok {G : Gl} (M : MroOk G.K G.ca anc m) {t : Ty} : ∀ {us : List UC} {b : Bool}, ktAny anc m t us = some b → PySem.W.kitAny G.K (tyVal G t) (us.map (UC.val G.ca)) = some b
  | [], b, h => by cases h; rfl
  | u :: us, b, h => by
    unfold ktAny at h
    cases e : kt anc m t u with
    | none => rw [e] at h; cases h
    | some k =>
      rw [e] at h
      rw [List.map_cons]
      unfold PySem.W.kitAny
      rw [kt_ok M e]
      cases k with
      | true => cases h; rfl
      | false => exact ktAny_ok M h
/-- a table of answers: looked at without a heap -/
def isiF (anc : Nat → List Nat) (m : Nat) (us : List UC) (f : Ty → Option Bool) : Bool := (tyAll ++ (List.range m).map Ty.exc).all fun t => match f t with
    | some b => decide (ktAny anc m t us = some b)
    | none => true
theorem isiA_ok {G : Gl} {us : List UC} {f : Ty → Option Bool} (M : MroOk G.K G.ca anc m) (h : isiF anc m us f = true) (hf : ∀ c, m ≤ c → f (.exc c) = none) (hx : ∀ c, c < m → ExcC G.K (G.ca c)) : IsiAny G (us.map (UC.val G.ca)) f := by
  intro t b e
  have key : t ∈ tyAll ++ (List.range m).map Ty.exc := by
    cases t with
    | exc c =>
      by_cases hc : c < m
      · exact List.mem_append_right _ (List.mem_map_of_mem (List.mem_range.mpr hc))
      · rw [hf c (Nat.not_lt.mp hc)] at e; cases e
    | _ => exact List.mem_append_left _ (by simp [tyAll])
  have h3 := List.all_eq_true.mp h t key
  rw [e] at h3
  refine ⟨ktAny_ok M (of_decide_eq_true h3), fun c ec => ?_⟩
  subst ec
  by_cases hc : c < m
  · exact hx c hc
  · rw [hf c (Nat.not_lt.mp hc)] at e; cases e
theorem kitOne_of {K : PySem.W.Frag} {t u : Value} {b : Bool} (h : PySem.W.kitAny K t [u] = some b) : PySem.W.kitOne K t u = some b := by
  unfold PySem.W.kitAny at h
  cases e : PySem.W.kitOne K t u with
  | none => rw [e] at h; cases h
  | some k =>
    rw [e] at h
    cases k with
    | true => exact h
    | false => exact h
theorem isi_ok {G : Gl} {u : UC} {f : Ty → Option Bool} (M : MroOk G.K G.ca anc m) (h : isiF anc m [u] f = true) (hf : ∀ c, m ≤ c → f (.exc c) = none) (hx : ∀ c, c < m → ExcC G.K (G.ca c)) : IsiOk G (u.val G.ca) f := fun t b e =>
  ⟨kitOne_of (isiA_ok M h hf hx t b e).1, (isiA_ok M h hf hx t b e).2⟩
end
theorem lkp_mem {α β : Type} [BEq α] [LawfulBEq α] {a : α} {b : β} : ∀ {l : List (α × β)}, l.lookup a = some b → (a, b) ∈ l
  | [], h => by cases h
  | (c, d) :: r, h => by
    rw [List.lookup_cons] at h
    cases q : (a == c) with
    | true =>
      rw [q] at h
      cases h
      rw [eq_of_beq q]
      exact List.mem_cons_self
    | false =>
      rw [q] at h
      exact List.mem_cons_of_mem _ (lkp_mem h)
/-! ### code objects, tables -/
theorem code_at {K : PySem.W.Frag} {x qual : Str} {params : Arguments} {body : List Stmt} {scope : Scope} {p : Str × Option Str} {fd : FuncData} {dvs : List V} {kws : List (Str × V)} (F : FunD K x qual params body scope dvs kws (He.fAd K p) fd) : fd.code = .ref (He.codeOf K p) := by
  obtain ⟨oc, od, dV, kV, doc, pm, an, cdv, ct, osl, rfl, lk, hcd, _, _⟩ := F.ex
  obtain ⟨c, rfl⟩ := He.codeIn_ref hcd
  rw [He.codeOf_eq lk rfl]
def tabT (K : PySem.W.Frag) (tf : List He.Defn) : List (Addr × Str) := tf.map fun p => ((He.cT K p).2, p.1 ++ ".<locals>." ++ "<lambda>")
theorem cd_of {G : Gl} {tf : List He.Defn} {p : He.Defn} (hT : G.T = tabT G.K tf) (hB : tabB G.K tf = true) (hp : p ∈ tf) (hTB : ∀ q ∈ tf.map (He.cT G.K), LamX.TabB G.base G.mg q.1 q.2) : CdOk G (p.1 ++ ".<locals>.") (He.cT G.K p).1 (He.cT G.K p).2 := by
  refine ⟨hTB _ (List.mem_map_of_mem hp), by rw [hT]; exact List.mem_map_of_mem (f := fun p => ((He.cT G.K p).2, p.1 ++ ".<locals>." ++ "<lambda>")) hp, fun q hq e => ?_⟩
  rw [hT] at hq
  obtain ⟨r, hr, e2⟩ := List.mem_map.mp hq
  subst e2
  have := nodup_inj (of_decide_eq_true hB) r hr p hp e
  rw [this]
/-! ### a Hook that looks at fewer objects -/
/-- two looks at one run -/
theorem two_looks {σ α β : Type} {x : Option σ} {f : σ → α} {g : σ → β} {a : α} {b : β} (h1 : x.map f = some a) (h2 : x.map g = some b) : x.map (fun s => (f s, g s)) = some (a, b) := by
  cases x with
  | none => cases h1
  | some s => cases h1; cases h2; rfl
/-! ### the script, frozen -/
theorem frz_hok {P : Program} {w : World} {H : Hp} {h : Heap} {a : Addr} {xs : List V} (x : HOk P w H h) (e : H a = some (.lst xs)) : ∃ o, HOk P w (upd H a (.frz o (.lst xs))) h := by
  obtain ⟨hz, vs, c, rv, ho⟩ := (show ObjOk P w H h a (.lst xs) from x a _ e)
  refine ⟨({ cls := .type "list", data := .seq vs.toArray c, slots := #[] } : Obj), fun b u q => ?_⟩
  · have ne : ∀ c' u, H c' = some u → (∀ xs, u ≠ .lst xs) → upd H a (.frz ({ cls := .type "list", data := .seq vs.toArray c, slots := #[] } : Obj) (.lst xs)) c' = some u := fun c u q n => by
      rw [upd_ne]
      · exact q
      · intro z; rw [z, e] at q; cases q; exact n xs rfl
    by_cases hb : b = a
    · subst hb
      rw [upd_same] at q
      cases q
      exact ⟨ho, hz, vs, c, rv, ho⟩
    · rw [upd_ne hb] at q
      exact (x b u q).stay (fun c v _ z => z) (fun c z => ne c _ z fun _ y => nomatch y) fun c xs z => ne c _ z fun _ y => nomatch y
/-- what a law is asked -/
def spLaw (K : PySem.W.Frag) (T : List (Addr × Str)) (m : Nat) : Sp := fun vs H Q _ => ∃ (a : Addr) (ns : List Int), vs = [.ref a] ∧ SqL K H a (ns.map V.int) ∧ ns.length ≤ m ∧ (∀ z ∈ ns, Builtin.Int.intBits z ≤ 1048576) ∧ LamX.Tabs T H ∧ ∀ H', Q (.bl true) H'
theorem law_ok {G : Gl} {fa : Addr} {fd : FuncData} {x : Str} {k m : Nat} {f : List IV → IH → Out IV} (F : FnOk G.P G.w G.K G.mg G.base (L2.CX G.P G.w) k fa fd [x] (spI G f 1)) (hf : ∀ ns : List Int, ns.length ≤ m → (∀ z ∈ ns, Builtin.Int.intBits z ≤ 1048576) → ∃ ih, f [.scr ns] ⟨0, .e⟩ = .ok (.bl true) ih) :
    FnOk G.P G.w G.K G.mg G.base (L2.CX G.P G.w) k fa fd [x] (spLaw G.K G.T m) := by
  refine ⟨fun vs H Q E h => ?_, fun A outer s H args us vs Q E hr e0 hb r h => ?_⟩
  · obtain ⟨a, ns, rfl, _⟩ := h; rfl
  obtain ⟨a, ns, rfl, hS, hl, hbit, hT, hQ⟩ := h
  obtain ⟨ih, hrun⟩ := hf ns hl hbit
  -- from a heap in which the script is frozen
  have key : ∀ (H1 : Hp), Env0 G.P G.w G.K G.mg G.base A outer s H1 → FrzL G.K H1 a (ns.map V.int) → LamX.Tabs G.T H1 →
      codeAny (model G.P G.w) A (.call (.ref fa) args) (CR (L2.CX G.P G.w) outer G.P G.w H1 s (fun v _ => v = .bl true) (fun _ _ _ => False)) s := fun H1 e1 hz hT1 => by
    refine F.run A outer s H1 args us [.ref a] _ _ hr e1 hb r ⟨rfl, ⟨fun _ => 0, 0, H1⟩, [.scr ns], ⟨0, .e⟩, rfl, ⟨rfl, fun i j hi => absurd hi (Nat.not_lt_zero i), fun i hi => absurd hi (Nat.not_lt_zero i), fun i o hi => absurd hi (Nat.not_lt_zero i), hT1, rfl, fun i v e => by simp at e⟩, VRs.cons ?_ VRs.nil, ?_⟩
    · unfold VR
      exact ⟨a, rfl, hz⟩
    · rw [hrun]
      intro q x l R rv
      exact rv
  have done : ∀ (H1 : Hp), (∀ b, H1 b = none ↔ H b = none) → (∀ b, b ≠ a → H1 b = H b) → (H1 a = H a ∨ ∃ xs, H a = some (.lst xs)) → ∀ res s', CR (L2.CX G.P G.w) outer G.P G.w H1 s (fun v _ => v = .bl true) (fun _ _ _ => False) res s' → CR (L2.CX G.P G.w) outer G.P G.w H s Q E res s' := by
    intro H1 hn hne hla res s' hc
    cases res with
    | error e =>
      obtain ⟨_, _, _, _, _, _, _, _, _, _, _, _, z⟩ := hc
      exact z.elim
    | ok fl =>
      cases fl with
      | ret u =>
        obtain ⟨v, H2, os, bare, un, hok, rv, ev⟩ := hc
        subst ev
        have sp : ∀ b u, H b = some u → (∀ xs, u ≠ .lst xs) → H1 b = some u := fun b u q n => by
          by_cases z : b = a
          · subst z
            rcases hla with z | ⟨xs, z⟩
            · rw [z]; exact q
            · rw [z] at q; cases q; exact absurd rfl (n xs)
          · rw [hne b z]; exact q
        exact ⟨.bl true, H2, os, bare, ⟨fun b o e n => un.keep b o e ((hn b).mpr n), fun b o e n => un.slot b o e ((hn b).mpr n), fun b o e n => un.free b o e ((hn b).mpr n), un.there, fun b xs e => un.tups b xs (sp b _ e fun _ z => nomatch z), fun b o v e => un.frzs b o v (sp b _ e fun _ z => nomatch z), fun b ps e => un.tbls b ps (sp b _ e fun _ z => nomatch z)⟩, hok, rv, hQ H2⟩
      | next => exact False.elim hc
      | brk => exact False.elim hc
      | cont => exact False.elim hc
  have plain : FrzL G.K H a (ns.map V.int) → codeAny (model G.P G.w) A (.call (.ref fa) args) (CR (L2.CX G.P G.w) outer G.P G.w H s Q E) s := fun hz =>
    codeAny_mono (key H e0 hz hT) fun res s' hc => done H (fun _ => Iff.rfl) (fun _ _ => rfl) (.inl rfl) res s' hc
  rcases hS with (hL | hF) | hK
  · obtain ⟨o, hok⟩ := frz_hok e0.hok hL
    have hn : ∀ b, upd H a (.frz o (.lst (ns.map V.int))) b = none ↔ H b = none := fun b => by
      by_cases z : b = a
      · subst z; rw [upd_same, hL]; exact ⟨fun z => (nomatch z), fun z => (nomatch z)⟩
      · rw [upd_ne z]
    have e1 : Env0 G.P G.w G.K G.mg G.base A outer s (upd H a (.frz o (.lst (ns.map V.int)))) := ⟨e0.frames, e0.mod, fun b u e => ⟨(e0.bs b u e).1, (hn b).mpr (e0.bs b u e).2⟩, e0.bsz, e0.funs, fun b hb => (hn b).mpr (e0.frf b hb), hok, e0.bare⟩
    refine codeAny_mono (key _ e1 (.inl ⟨o, upd_same⟩) ?_) fun res s' hc => done _ hn (fun b hb => upd_ne hb) (.inr ⟨_, hL⟩) res s' hc
    intro q hq
    have ne : ∀ c u, H c = some u → (∀ xs, u ≠ .lst xs) → upd H a (.frz o (.lst (ns.map V.int))) c = some u := fun c u q n => by
      rw [upd_ne]
      · exact q
      · intro z; subst z; rw [hL] at q; cases q; exact n _ rfl
    obtain ⟨ps, h1, h2, h3⟩ := hT q hq
    refine ⟨ps, ne _ _ h1 (fun _ z => nomatch z), h2, fun pos cv hc => ?_⟩
    obtain ⟨c, e1, e2⟩ := h3 pos cv hc
    exact ⟨c, e1, ne _ _ e2 (fun _ z => by unfold LamX.CodeO at z; cases z)⟩
  · exact plain (.inl hF)
  · exact plain (.inr hK)
theorem cx_false {P : Program} {w : World} {H : Hp} {s : Shared} {e : Value} {s' : Shared} (h : L2.CX P w [] H s (fun _ _ _ => False) e s') : False := by
  obtain ⟨_, _, _, _, _, _, _, _, _, _, _, _, z⟩ := h
  exact z
/-- the law at the head's heap -/
theorem law_at {l : PySem.W.OpenLaw} {w : World} {K : PySem.W.Frag} {mg : Str → Option Value} {fa : Addr} {h : Heap} {k m : Nat} {x : Str} {fd : FuncData} {fas : List He.Fa} {fn : List He.DefD} {ts : List He.Tab} {tf : List He.Defn} {ex : PySem.W.Frag → Bool} (X : K.In h) (c : He.SaysX fas fn ts tf ex w h K)
    (hb : ∀ (s : Shared) (u : Value), BindsTo s fd ⟨[u], []⟩ [(x, u)]) (hF : ∀ base : Heap, K.In base → base.Ns mainGlobals mg → (∀ p ∈ tf.map (He.cT K), LamX.TabB base mg p.1 p.2) → FnOk l.prog w K mg base (L2.CX l.prog w) k fa fd [x] (spLaw K (tabT K tf) m)) : LamX.LawAtS l w K (L2.CX l.prog w) k m x mg fa h := by
  have im : ∀ p ∈ tf.map (He.cT K), ∃ q ∈ tf, p = He.cT K q := fun p hp => by
    obtain ⟨q, hq, e⟩ := List.mem_map.mp hp
    exact ⟨q, hq, e.symm⟩
  refine ⟨fd, tf.map (He.cT K), spLaw K (tabT K tf) m, fun p hp => ?_, fun p hp => ?_, fun p hp => ?_, hb, fun H a ns hl hbits hT hS => ⟨a, ns, rfl, hS, hl, hbits, fun q hq => ?_, fun _ => rfl⟩, hF⟩
  · obtain ⟨q, hq, rfl⟩ := im p hp; exact c.empty q hq
  · obtain ⟨q, hq, rfl⟩ := im p hp; exact c.out q hq
  · obtain ⟨q, hq, rfl⟩ := im p hp; exact PySem.W.codeHd_of_K X (c.hd q hq)
  · obtain ⟨r, hr, rfl⟩ := List.mem_map.mp hq
    exact LamX.TabS.nil (hT _ (List.mem_map_of_mem hr))
end MI
end

section
set_option Elab.async false
set_option linter.all false
set_option maxRecDepth 100000
set_option autoImplicit false
set_option maxHeartbeats 1000000
/-! MI, a run goes over to a bigger heap: refs by a map ρ, tokens by what stands for them. -/
namespace MI
open PySem L2
/-- how a small run stands to a big one: n0 objects of the small heap ahead, B the big heap ahead -/
structure Sub where
  ρ : Nat → Nat
  θ : Nat → IV
  n0 : Nat
  B : IH
variable (s : Sub)
mutual
def renV : IV → IV
  | .tup vs => .tup (renVs vs)
  | .ref i => .ref (s.ρ i)
  | .exc c vs => .exc c (renVs vs)
  | .tok k => s.θ k
  | .non => .non
  | .bl b => .bl b
  | .int i => .int i
  | .str x => .str x
  | .gfn g => .gfn g
  | .scr ns => .scr ns
def renVs : List IV → List IV
  | [] => []
  | v :: vs => renV v :: renVs vs
end
variable {s : Sub}
theorem renVs_eq : ∀ vs : List IV, renVs s vs = vs.map (renV s)
  | [] => rfl
  | v :: vs => by unfold renVs; rw [renVs_eq vs]; rfl
theorem ren_tup (vs : List IV) : renV s (.tup vs) = .tup (vs.map (renV s)) := by show IV.tup (renVs s vs) = _; rw [renVs_eq]
theorem ren_exc (c : Nat) (vs : List IV) : renV s (.exc c vs) = .exc c (vs.map (renV s)) := by show IV.exc c (renVs s vs) = _; rw [renVs_eq]
theorem ren_ref (i : Nat) : renV s (.ref i) = .ref (s.ρ i) := rfl
variable (s)
def renO : IO → IO
  | .lst vs => .lst (vs.map (renV s))
  | .dct kvs => .dct (kvs.map fun kv => (kv.1, renV s kv.2))
  | .dcT kvs => .dcT (kvs.map fun kv => (kv.1, renV s kv.2))
  | .lam k cs => .lam k (cs.map fun o => o.map (renV s))
def renE (σ : Env) : Env := σ.map fun o => o.map (renV s)
structure Sim (h h' : IH) : Prop where
  n : ∀ k, s.ρ (h.n + k) = h'.n + k
  ge : s.n0 ≤ h.n
  inj : ∀ i j, s.ρ i = s.ρ j → i = j
  lo : ∀ i, s.n0 ≤ i → s.B.n ≤ s.ρ i
  ob : ∀ i o, h.get i = some o → h'.get (s.ρ i) = some (renO s o)
  fr : ∀ j, j < s.B.n → (∀ i, i < s.n0 → s.ρ i ≠ j) → h'.get j = s.B.get j
variable {s}
theorem Sim.push {h h' : IH} (S : Sim s h h') (o : IO) : Sim s (h.push o) (h'.push (renO s o)) := by
  have e0 : s.ρ h.n = h'.n := S.n 0
  refine ⟨fun k => by show s.ρ (h.n + 1 + k) = h'.n + 1 + k; rw [Nat.add_assoc, Nat.add_assoc]; exact S.n (1 + k), Nat.le_trans S.ge (Nat.le_succ _), S.inj, S.lo, fun i u e => ?_, fun j hj hn => ?_⟩
  · rw [IH.get_push] at e ⊢
    by_cases hi : i = h.n
    · rw [if_pos hi] at e
      cases e
      rw [if_pos (by rw [hi, e0])]
    · rw [if_neg hi] at e
      rw [if_neg (fun z => hi (S.inj i h.n (by rw [z, e0])))]
      exact S.ob i u e
  · rw [IH.get_push, if_neg]
    · exact S.fr j hj hn
    · intro z
      have := S.lo h.n S.ge
      rw [e0] at this
      omega
theorem Sim.put {h h' : IH} (S : Sim s h h') {i : Nat} {u : IO} (e : h.get i = some u) (o : IO) : Sim s (h.put i o) (h'.put (s.ρ i) (renO s o)) := by
  refine ⟨S.n, S.ge, S.inj, S.lo, fun j v q => ?_, fun j hj hn => ?_⟩
  · rw [IH.get_put] at q ⊢
    by_cases hi : j = i
    · rw [if_pos hi] at q
      cases q
      rw [if_pos (by rw [hi])]
    · rw [if_neg hi] at q
      rw [if_neg (fun z => hi (S.inj j i z))]
      exact S.ob j v q
  · rw [IH.get_put, if_neg]
    · exact S.fr j hj hn
    · intro z
      by_cases hi : i < s.n0
      · exact hn i hi z.symm
      · have := S.lo i (Nat.not_lt.mp hi)
        omega
theorem Sim.eN {h h' : IH} (S : Sim s h h') : s.ρ h.n = h'.n := S.n 0
/-! ### outcomes -/
def OutS {α : Type} (s : Sub) (f : α → α) (x x' : Out α) : Prop := match x with
  | .ok v h => ∃ h', x' = .ok (f v) h' ∧ Sim s h h'
  | .exc e h => ∃ h', x' = .exc (renV s e) h' ∧ Sim s h h'
  | .bad => True
theorem OutS.ok {α : Type} {f : α → α} {v : α} {h h' : IH} (S : Sim s h h') : OutS s f (.ok v h) (.ok (f v) h') := ⟨h', rfl, S⟩
theorem OutS.bind {α β : Type} {f : α → α} {g : β → β} {x x' : Out α} {k k' : α → IH → Out β} (hx : OutS s f x x') (hk : ∀ v h h', Sim s h h' → OutS s g (k v h) (k' (f v) h')) : OutS s g (x.bind k) (x'.bind k') := by
  cases x with
  | ok v h => obtain ⟨h', rfl, S⟩ := hx; exact hk v h h' S
  | exc e h => obtain ⟨h', rfl, S⟩ := hx; exact ⟨h', rfl, S⟩
  | bad => trivial
theorem OutS.of {α : Type} {f : α → α} {x x' : Option α} {h h' : IH} (S : Sim s h h') (hx : ∀ v, x = some v → x' = some (f v)) : OutS s f (Out.of x h) (Out.of x' h') := by
  cases x with
  | none => trivial
  | some v => rw [hx v rfl]; exact OutS.ok S
/-! ### contexts, terms -/
structure CtxS (s : Sub) (c : Ctx) : Prop where
  call : ∀ g vs h h', Sim s h h' → OutS s (renV s) (c.call g vs h) (c.call g (vs.map (renV s)) h')
  lam : ∀ k cs vs h h', Sim s h h' → OutS s (renV s) (c.lam k cs vs h) (c.lam k (cs.map fun o => o.map (renV s)) (vs.map (renV s)) h')
def QE (s : Sub) (e : Ex) : Prop := ∀ c σ h h', CtxS s c → Sim s h h' → OutS s (renV s) (e c σ h) (e c (renE s σ) h')
def QT (s : Sub) (e : Tx) : Prop := ∀ c σ h h', CtxS s c → Sim s h h' → OutS s (fun b => b) (e c σ h) (e c (renE s σ) h')
def QL (s : Sub) (e : Lx) : Prop := ∀ c σ h h', CtxS s c → Sim s h h' → OutS s (List.map (renV s)) (e c σ h) (e c (renE s σ) h')
theorem vGet_ren {σ : Env} {i : Nat} {v : IV} (h : vGet σ i = some v) : vGet (renE s σ) i = some (renV s v) := by
  unfold vGet renE at *
  rw [List.getElem?_map]
  cases e : σ[i]? with
  | none => rw [e] at h; cases h
  | some o =>
    rw [e] at h
    cases o with
    | none => cases h
    | some u => cases h; rfl
theorem q_var (i : Nat) : QE s (eVar i) := fun c σ h h' C S => OutS.of S fun v e => vGet_ren e
theorem q_con {v : IV} (hv : ∀ s, renV s v = v) : QE s (eCon v) := fun c σ h h' C S => ⟨h', by show Out.ok v h' = _; rw [hv], S⟩
theorem q_lnil : QL s lNil := fun c σ h h' C S => ⟨h', rfl, S⟩
theorem q_lcons {a : Ex} {r : Lx} (ha : QE s a) (hr : QL s r) : QL s (lCons a r) := fun c σ h h' C S => OutS.bind (ha c σ h h' C S) fun v h h' S => OutS.bind (hr c σ h h' C S) fun vs h h' S => ⟨h', rfl, S⟩
def QF (s : Sub) (f : IV → IV → IH → Out IV) : Prop := ∀ a b h h', Sim s h h' → OutS s (renV s) (f a b h) (f (renV s a) (renV s b) h')
def QU (s : Sub) (f : IV → IH → Out IV) : Prop := ∀ a h h', Sim s h h' → OutS s (renV s) (f a h) (f (renV s a) h')
def QP (s : Sub) (f : List IV → IH → Out IV) : Prop := ∀ vs h h', Sim s h h' → OutS s (renV s) (f vs h) (f (vs.map (renV s)) h')
def QM (s : Sub) (f : IV → List IV → IH → Out IV) : Prop := ∀ v vs h h', Sim s h h' → OutS s (renV s) (f v vs h) (f (renV s v) (vs.map (renV s)) h')
theorem q_op {f : IV → IV → IH → Out IV} {a b : Ex} (hf : QF s f) (ha : QE s a) (hb : QE s b) : QE s (eOp f a b) := fun c σ h h' C S => OutS.bind (ha c σ h h' C S) fun v h h' S => OutS.bind (hb c σ h h' C S) fun u h h' S => hf v u h h' S
theorem q_un {f : IV → IH → Out IV} {a : Ex} (hf : QU s f) (ha : QE s a) : QE s (eUn f a) := fun c σ h h' C S => OutS.bind (ha c σ h h' C S) fun v h h' S => hf v h h' S
theorem q_prim {f : List IV → IH → Out IV} {es : Lx} (hf : QP s f) (ha : QL s es) : QE s (ePrim f es) := fun c σ h h' C S => OutS.bind (ha c σ h h' C S) fun v h h' S => hf v h h' S
theorem kind_ren {h h' : IH} (S : Sim s h h') {v : IV} (hk : kind h v ≠ .oth) : kind h' (renV s v) = kind h v := by
  cases v with
  | ref i =>
    unfold renV
    show (match h'.get (s.ρ i) with
      | some (.lst _) => Kd.lst
      | some (.dct _) => Kd.dct
      | some (.dcT _) => Kd.dct
      | _ => Kd.oth) = (match h.get i with
      | some (.lst _) => Kd.lst
      | some (.dct _) => Kd.dct
      | some (.dcT _) => Kd.dct
      | _ => Kd.oth)
    have hk' : (match h.get i with
      | some (.lst _) => Kd.lst
      | some (.dct _) => Kd.dct
      | some (.dcT _) => Kd.dct
      | _ => Kd.oth) ≠ .oth := hk
    cases e : h.get i with
    | none => rw [e] at hk'; exact absurd rfl hk'
    | some o => rw [S.ob i o e]; cases o <;> rfl
  | tok k => exact absurd rfl hk
  | exc c vs => exact absurd rfl hk
  | gfn g => exact absurd rfl hk
  | scr ns => exact absurd rfl hk
  | tup vs => unfold renV; rfl
  | _ => rfl
theorem q_meth {k : Kd} {f : IV → List IV → IH → Out IV} {o : Ex} {es : Lx} (hk : k ≠ .oth) (hf : QM s f) (ho : QE s o) (he : QL s es) : QE s (eMeth k f o es) := fun c σ h h' C S => OutS.bind (ho c σ h h' C S) fun v h h' S => by
  by_cases e : kind h v = k
  · have e2 := kind_ren S (v := v) (by rw [e]; exact hk)
    rw [if_pos e, if_pos (e2.trans e)]
    exact OutS.bind (he c σ h h' C S) fun vs h h' S => hf v vs h h' S
  · rw [if_neg e]; trivial
theorem q_call {g : Nat} {es : Lx} (he : QL s es) : QE s (eCall g es) := fun c σ h h' C S => OutS.bind (he c σ h h' C S) fun vs h h' S => C.call g vs h h' S
theorem fnVal_ref (h : IH) (i : Nat) : fnVal h (.ref i) = (match h.get i with
    | some (.lam k cs) => some (.inr (k, cs))
    | _ => none) := rfl
theorem q_callF {f : Ex} {es : Lx} (hf : QE s f) (he : QL s es) : QE s (eCallF f es) := fun c σ h h' C S => OutS.bind (hf c σ h h' C S) fun v h h' S => by
  cases v with
  | gfn g => exact OutS.bind (he c σ h h' C S) fun vs h h' S => C.call g vs h h' S
  | ref i =>
    cases e : h.get i with
    | none => rw [show fnVal h (.ref i) = none from by rw [fnVal_ref, e]]; trivial
    | some o =>
      cases o with
      | lam k cs =>
        have e1 : fnVal h (.ref i) = some (.inr (k, cs)) := by rw [fnVal_ref, e]
        have e2 : fnVal h' (renV s (.ref i)) = some (.inr (k, cs.map fun o => o.map (renV s))) := by
          show fnVal h' (.ref (s.ρ i)) = _
          rw [fnVal_ref, S.ob i _ e]; rfl
        rw [e1, e2]
        exact OutS.bind (he c σ h h' C S) fun vs h h' S => C.lam k cs vs h h' S
      | lst _ => rw [show fnVal h (.ref i) = none from by rw [fnVal_ref, e]]; trivial
      | dct _ => rw [show fnVal h (.ref i) = none from by rw [fnVal_ref, e]]; trivial
      | dcT _ => rw [show fnVal h (.ref i) = none from by rw [fnVal_ref, e]]; trivial
  | _ => trivial
/-! ### tests -/
theorem truthy_ren {h h' : IH} (S : Sim s h h') {v : IV} {k : Bool} (e : truthy h v = some k) : truthy h' (renV s v) = some k := by
  cases v with
  | ref i =>
    unfold renV
    change (match h.get i with
      | some (.lst vs) => some (!vs.isEmpty)
      | some (.dct kvs) => some (!kvs.isEmpty)
      | _ => none) = some k at e
    show (match h'.get (s.ρ i) with
      | some (.lst vs) => some (!vs.isEmpty)
      | some (.dct kvs) => some (!kvs.isEmpty)
      | _ => none) = some k
    cases q : h.get i with
    | none => rw [q] at e; cases e
    | some o =>
      rw [q] at e
      rw [S.ob i o q]
      cases o with
      | lst vs => cases e; cases vs <;> rfl
      | dct vs => cases e; cases vs <;> rfl
      | dcT vs => cases e
      | lam _ _ => cases e
  | tup vs =>
    unfold renV
    rw [renVs_eq]
    change (if vs.length ≤ sizeLine then some (!vs.isEmpty) else none) = some k at e
    show (if (vs.map (renV s)).length ≤ sizeLine then some (!(vs.map (renV s)).isEmpty) else none) = some k
    rw [List.length_map]
    split at e
    · rename_i hz; rw [if_pos hz]; cases e; cases vs <;> rfl
    · cases e
  | tok k => cases e
  | exc c vs => cases e
  | _ => exact e
theorem q_tval {a : Ex} (ha : QE s a) : QT s (tVal a) := fun c σ h h' C S => OutS.bind (ha c σ h h' C S) fun v h h' S => OutS.of S fun k e => truthy_ren S e
theorem q_tbl {a : Ex} (ha : QE s a) : QT s (tBl a) := fun c σ h h' C S => OutS.bind (ha c σ h h' C S) fun v h h' S => by
  cases v with
  | bl k => exact ⟨h', rfl, S⟩
  | _ => trivial
theorem q_tand {a b : Tx} (ha : QT s a) (hb : QT s b) : QT s (MI.tAnd a b) := fun c σ h h' C S => OutS.bind (ha c σ h h' C S) fun v h h' S => by
  cases v with
  | true => exact hb c σ h h' C S
  | false => exact ⟨h', rfl, S⟩
theorem q_tor {a b : Tx} (ha : QT s a) (hb : QT s b) : QT s (MI.tOr a b) := fun c σ h h' C S => OutS.bind (ha c σ h h' C S) fun v h h' S => by
  cases v with
  | true => exact ⟨h', rfl, S⟩
  | false => exact hb c σ h h' C S
theorem q_tnot {a : Tx} (ha : QT s a) : QT s (tNot a) := fun c σ h h' C S => OutS.bind (ha c σ h h' C S) fun v h h' S => ⟨h', rfl, S⟩
theorem q_and {a b : Ex} (ha : QE s a) (hb : QE s b) : QE s (eAnd a b) := fun c σ h h' C S => OutS.bind (ha c σ h h' C S) fun v h h' S => OutS.bind (f := fun b => b) (OutS.of S fun k e => truthy_ren S e) fun k h h' S => by
  cases k with
  | true => exact hb c σ h h' C S
  | false => exact ⟨h', rfl, S⟩
theorem q_or {a b : Ex} (ha : QE s a) (hb : QE s b) : QE s (eOr a b) := fun c σ h h' C S => OutS.bind (ha c σ h h' C S) fun v h h' S => OutS.bind (f := fun b => b) (OutS.of S fun k e => truthy_ren S e) fun k h h' S => by
  cases k with
  | true => exact ⟨h', rfl, S⟩
  | false => exact hb c σ h h' C S
theorem q_not {a : Ex} (ha : QE s a) : QE s (eNot a) := fun c σ h h' C S => OutS.bind (ha c σ h h' C S) fun v h h' S => OutS.bind (f := fun b => b) (OutS.of S fun k e => truthy_ren S e) fun k h h' S => ⟨h', rfl, S⟩
theorem q_if {t : Tx} {a b : Ex} (ht : QT s t) (ha : QE s a) (hb : QE s b) : QE s (eIf t a b) := fun c σ h h' C S => OutS.bind (ht c σ h h' C S) fun v h h' S => by
  cases v with
  | true => exact ha c σ h h' C S
  | false => exact hb c σ h h' C S
theorem q_chain {f g : IV → IV → IH → Out IV} {a b d : Ex} (hf : QF s f) (hg : QF s g) (ha : QE s a) (hb : QE s b) (hd : QE s d) : QE s (eChain f g a b d) := fun c σ h h' C S => OutS.bind (ha c σ h h' C S) fun x h h' S => OutS.bind (hb c σ h h' C S) fun y h h' S => OutS.bind (hf x y h h' S) fun z h h' S => by
  cases z with
  | bl k =>
    cases k with
    | true => exact OutS.bind (hd c σ h h' C S) fun w h h' S => hg y w h h' S
    | false => exact ⟨h', rfl, S⟩
  | _ => trivial
/-! ### displays -/
theorem q_ptup : QP s (fun vs h => if vs.length ≤ sizeLine then .ok (.tup vs) h else .bad) := fun vs h h' S => by
  by_cases e : vs.length ≤ sizeLine
  · show OutS s (renV s) (if vs.length ≤ sizeLine then _ else _) (if (vs.map (renV s)).length ≤ sizeLine then _ else _)
    rw [if_pos e, if_pos (by rw [List.length_map]; exact e)]
    exact ⟨h', by rw [show renV s (.tup vs) = .tup (vs.map (renV s)) from by unfold renV; rw [renVs_eq]], S⟩
  · show OutS s (renV s) (if vs.length ≤ sizeLine then _ else _) _
    rw [if_neg e]; trivial
theorem q_tup {es : Lx} (h : QL s es) : QE s (eTup es) := q_prim q_ptup h
theorem ok_new {h h' : IH} (S : Sim s h h') (o : IO) : OutS s (renV s) (.ok (.ref h.n) (h.push o)) (.ok (.ref h'.n) (h'.push (renO s o))) := ⟨_, by rw [show renV s (.ref h.n) = .ref (s.ρ h.n) from rfl, S.eN], S.push o⟩
theorem q_plst : QP s pLst := fun vs h h' S => by
  unfold pLst
  by_cases e : vs.length ≤ sizeLine
  · rw [if_pos e, if_pos (by rw [List.length_map]; exact e)]
    exact ok_new S (.lst vs)
  · rw [if_neg e]; trivial
theorem q_lst {es : Lx} (h : QL s es) : QE s (eLst es) := q_prim q_plst h
theorem q_lam (k : Nat) : QE s (eLam k) := fun c σ h h' C S => ok_new S (.lam k [])
theorem permL_map {α β : Type} (f : α → β) (p : List Nat) (l : List α) : permL p (l.map f) = (permL p l).map f := by
  unfold permL
  induction p with
  | nil => rfl
  | cons i p ih =>
    rw [List.filterMap_cons, List.filterMap_cons, List.getElem?_map]
    cases e : l[i]? with
    | none => exact ih
    | some v => rw [show Option.map f (some v) = some (f v) from rfl]; simp only [List.map_cons]; rw [ih]
theorem q_mk {c k : Nat} {p : List Nat} {es : Lx} (he : QL s es) : QE s (eMk c k p es) := fun x σ h h' C S => OutS.bind (he x σ h h' C S) fun vs h h' S => by
  by_cases e : vs.length = k ∧ (permL p vs).length = k
  · rw [if_pos e, if_pos (by rw [List.length_map, permL_map, List.length_map]; exact e)]
    exact ⟨h', by rw [permL_map, show renV s (.exc c (permL p vs)) = .exc c ((permL p vs).map (renV s)) from by unfold renV; rw [renVs_eq]], S⟩
  · rw [if_neg e]; trivial
theorem q_mk0 (c : Nat) : QE s (eMk0 c) := fun x σ h h' C S => ⟨h', rfl, S⟩
theorem q_fld {T : List (Nat × Nat)} {e : Ex} (he : QE s e) : QE s (eFld T e) := fun x σ h h' C S => OutS.bind (he x σ h h' C S) fun v h h' S => OutS.of S fun u q => by
  cases v with
  | exc c vs =>
    change (match T.lookup c with
      | some i => vs[i]?
      | none => none) = some u at q
    rw [ren_exc]
    show (match T.lookup c with
      | some i => (vs.map (renV s))[i]?
      | none => none) = some (renV s u)
    cases e : T.lookup c with
    | none => rw [e] at q; cases q
    | some i =>
      rw [e] at q
      have q' : vs[i]? = some u := q
      simp only [List.getElem?_map, q']; rfl
  | _ => cases q
theorem tyI_ren {h h' : IH} (S : Sim s h h') {v : IV} {t : Ty} (e : tyI h v = some t) : tyI h' (renV s v) = some t := by
  cases v with
  | ref i =>
    unfold renV
    change (match h.get i with
      | some (.lst _) => some Ty.lst
      | some (.dct _) => some .dct
      | some (.dcT _) => some .dct
      | _ => none) = some t at e
    show (match h'.get (s.ρ i) with
      | some (.lst _) => some Ty.lst
      | some (.dct _) => some .dct
      | some (.dcT _) => some .dct
      | _ => none) = some t
    cases q : h.get i with
    | none => rw [q] at e; cases e
    | some o =>
      rw [q] at e
      rw [S.ob i o q]
      cases o <;> first | exact e | cases e
  | tok k => cases e
  | tup vs => unfold renV; exact e
  | exc c vs => unfold renV; exact e
  | _ => exact e
theorem q_isi {f : Ty → Option Bool} {e : Ex} (he : QE s e) : QE s (eIsi f e) := fun x σ h h' C S => OutS.bind (he x σ h h' C S) fun v h h' S => OutS.of S fun u q => by
  cases e1 : tyI h v with
  | none => rw [e1] at q; cases q
  | some t =>
    rw [e1] at q
    rw [tyI_ren S e1]
    cases e2 : f t with
    | none => simp only [Option.bind_some, e2, Option.map_none] at q; cases q
    | some b => simp only [Option.bind_some, e2, Option.map_some] at q ⊢; cases q; rfl

/-! ### operators -/
theorem q_int0 {f : Int → Int → IV} (hf : ∀ i j, renV s (f i j) = f i j) : QF s (fInt0 f) := fun a b h h' S => by
  cases a with
  | int i =>
    cases b with
    | int j => exact ⟨h', by show Out.ok (f i j) h' = _; rw [hf], S⟩
    | _ => trivial
  | _ => cases b <;> trivial
theorem q_intC {C : Int → Int → Bool} {f : Int → Int → IV} (hf : ∀ i j, renV s (f i j) = f i j) : QF s (fInt C f) := fun a b h h' S => by
  cases a with
  | int i =>
    cases b with
    | int j =>
      show OutS s (renV s) (if C i j = true then .ok (f i j) h else .bad) (if C i j = true then .ok (f i j) h' else .bad)
      by_cases e : C i j = true
      · rw [if_pos e, if_pos e]; exact ⟨h', by rw [hf], S⟩
      · rw [if_neg e]; trivial
    | _ => trivial
  | _ => cases b <;> trivial
theorem q_fSub : QF s fSub := q_int0 fun _ _ => rfl
theorem q_fLt : QF s fLt := q_int0 fun _ _ => rfl
theorem q_fLe : QF s fLe := q_int0 fun _ _ => rfl
theorem q_fGt : QF s fGt := q_int0 fun _ _ => rfl
theorem q_fGe : QF s fGe := q_int0 fun _ _ => rfl
theorem q_fMulI : QF s fMulI := q_intC fun _ _ => rfl
theorem q_fFdiv : QF s fFdiv := q_intC fun _ _ => rfl
theorem q_fMod : QF s fMod := q_intC fun _ _ => rfl
theorem q_fPow : QF s fPow := q_intC fun _ _ => rfl
theorem q_fNeg : QU s fNeg := fun a h h' S => by
  cases a with
  | int i => exact ⟨h', rfl, S⟩
  | _ => trivial
theorem isNon_ren {v : IV} (h : isTok v = false) : isNonI (renV s v) = isNonI v ∧ isTok (renV s v) = false := by
  cases v with
  | tok k => cases h
  | tup vs => rw [ren_tup]; exact ⟨rfl, rfl⟩
  | exc c vs => rw [ren_exc]; exact ⟨rfl, rfl⟩
  | _ => exact ⟨rfl, rfl⟩
theorem q_fIsN : QF s fIsN := fun a b h h' S => by
  cases b with
  | non =>
    show OutS s (renV s) (if isTok a = true then .bad else .ok (.bl (isNonI a)) h) (if isTok (renV s a) = true then .bad else .ok (.bl (isNonI (renV s a))) h')
    by_cases e : isTok a = true
    · rw [if_pos e]; trivial
    · obtain ⟨e1, e2⟩ := isNon_ren (s := s) (Bool.eq_false_iff.mpr e)
      rw [if_neg e, e1, e2]; exact ⟨h', rfl, S⟩
  | _ => trivial
theorem q_fNotN : QF s fNotN := fun a b h h' S => by
  cases b with
  | non =>
    show OutS s (renV s) (if isTok a = true then .bad else .ok (.bl (!isNonI a)) h) (if isTok (renV s a) = true then .bad else .ok (.bl (!isNonI (renV s a))) h')
    by_cases e : isTok a = true
    · rw [if_pos e]; trivial
    · obtain ⟨e1, e2⟩ := isNon_ren (s := s) (Bool.eq_false_iff.mpr e)
      rw [if_neg e, e1, e2]; exact ⟨h', rfl, S⟩
  | _ => trivial
theorem onL_ren {h h' : IH} (S : Sim s h h') {v : IV} {f f' : Nat → List IV → Out IV} (hf : ∀ i vs, h.get i = some (.lst vs) → OutS s (renV s) (f i vs) (f' (s.ρ i) (vs.map (renV s)))) : OutS s (renV s) (onL v h f) (onL (renV s v) h' f') := by
  cases v with
  | ref i =>
    show OutS s (renV s) (match h.get i with
      | some (.lst vs) => f i vs
      | _ => .bad) (match h'.get (s.ρ i) with
      | some (.lst vs) => f' (s.ρ i) vs
      | _ => .bad)
    cases e : h.get i with
    | none => trivial
    | some o =>
      rw [S.ob i o e]
      cases o with
      | lst vs => exact hf i vs e
      | _ => trivial
  | _ => trivial
theorem q_fAdd : QF s fAdd := fun a b h h' S => by
  cases a with
  | int i =>
    cases b with
    | int j => exact ⟨h', rfl, S⟩
    | _ => trivial
  | str x =>
    cases b with
    | str y =>
      show OutS s (renV s) (if x.length + y.length ≤ sizeLine then .ok (.str (x ++ y)) h else .bad) (if x.length + y.length ≤ sizeLine then .ok (.str (x ++ y)) h' else .bad)
      by_cases e : x.length + y.length ≤ sizeLine
      · rw [if_pos e, if_pos e]; exact ⟨h', rfl, S⟩
      · rw [if_neg e]; trivial
    | _ => trivial
  | tup xs =>
    cases b with
    | tup ys =>
      rw [ren_tup, ren_tup]
      show OutS s (renV s) (if xs.length + ys.length ≤ sizeLine then .ok (.tup (xs ++ ys)) h else .bad) (if (xs.map (renV s)).length + (ys.map (renV s)).length ≤ sizeLine then .ok (.tup (xs.map (renV s) ++ ys.map (renV s))) h' else .bad)
      rw [List.length_map, List.length_map]
      by_cases e : xs.length + ys.length ≤ sizeLine
      · rw [if_pos e, if_pos e]; exact ⟨h', by rw [ren_tup, List.map_append], S⟩
      · rw [if_neg e]; trivial
    | _ => trivial
  | ref i =>
    cases b with
    | ref j =>
      refine onL_ren (v := .ref i) (f := fun _ xs => onL (.ref j) h fun _ ys => if xs.length + ys.length ≤ sizeLine then .ok (.ref h.n) (h.push (.lst (xs ++ ys))) else .bad) (f' := fun _ xs => onL (renV s (.ref j)) h' fun _ ys => if xs.length + ys.length ≤ sizeLine then .ok (.ref h'.n) (h'.push (.lst (xs ++ ys))) else .bad) S fun i xs e1 => ?_
      refine onL_ren (v := .ref j) S fun j ys e2 => ?_
      rw [List.length_map, List.length_map]
      by_cases e : xs.length + ys.length ≤ sizeLine
      · rw [if_pos e, if_pos e]
        have := ok_new S (.lst (xs ++ ys))
        rw [show renO s (.lst (xs ++ ys)) = .lst (xs.map (renV s) ++ ys.map (renV s)) from by show IO.lst _ = _; rw [List.map_append]] at this
        exact this
      · rw [if_neg e]; trivial
    | _ => trivial
  | _ => cases b <;> trivial
theorem atI_map {α β : Type} (f : α → β) (l : List α) (i : Int) : L2.atI (l.map f) i = (L2.atI l i).map f := by
  unfold L2.atI
  rw [List.length_map]
  cases ixN l.length i with
  | none => rfl
  | some j => exact List.getElem?_map ..
theorem q_fIdx : QF s fIdx := fun a b h h' S => by
  cases b with
  | int i =>
    cases a with
    | tup vs => rw [ren_tup]; exact OutS.of S fun v e => by rw [atI_map, e]; rfl
    | ref k =>
      show OutS s (renV s) (match h.get k with
        | some (.lst vs) => Out.of (L2.atI vs i) h
        | _ => .bad) (match h'.get (s.ρ k) with
        | some (.lst vs) => Out.of (L2.atI vs i) h'
        | _ => .bad)
      cases e : h.get k with
      | none => trivial
      | some o =>
        rw [S.ob k o e]
        cases o with
        | lst vs => exact OutS.of S fun v e => by rw [atI_map, e]; rfl
        | _ => trivial
    | str z =>
      show OutS s (renV s) (if z.length ≤ sizeLine then Out.of ((L2.atI z.cps.toList i).map fun c => .str ⟨#[c]⟩) h else .bad) (if z.length ≤ sizeLine then Out.of ((L2.atI z.cps.toList i).map fun c => .str ⟨#[c]⟩) h' else .bad)
      by_cases e : z.length ≤ sizeLine
      · rw [if_pos e, if_pos e]
        refine OutS.of S fun v e => ?_
        cases q : L2.atI z.cps.toList i with
        | none => rw [q] at e; cases e
        | some c => rw [q] at e; cases e; rfl
      · rw [if_neg e]; trivial
    | _ => trivial
  | _ => cases a <;> trivial
/-! ### == -/
theorem kd_ren {h h' : IH} (S : Sim s h h') {a b : IV} {k : Bool} (e : kdNe h a b = some k) : kdNe h' (renV s a) (renV s b) = some k := by
  unfold kdNe at e ⊢
  split at e
  · cases e
  · rename_i hn
    have h1 : kind h a ≠ .oth := fun z => hn (.inl z)
    have h2 : kind h b ≠ .oth := fun z => hn (.inr (.inl z))
    rw [kind_ren S h1, kind_ren S h2, if_neg hn]; exact e
theorem num_ren {v : IV} {i : Int} (e : num v = some i) : num (renV s v) = some i := by
  cases v with
  | int j => exact e
  | bl b => exact e
  | _ => cases e
theorem oth_ren {h h' : IH} (S : Sim s h h') {a b : IV} {k : Bool} (e : eqOth h a b = some k) : eqOth h' (renV s a) (renV s b) = some k := by
  unfold eqOth at e ⊢
  cases e1 : num a with
  | some x =>
    cases e2 : num b with
    | some y => rw [e1, e2] at e; rw [num_ren e1, num_ren e2]; exact e
    | none =>
      rw [e1, e2] at e
      have := kd_ren S e
      have hb : num (renV s b) = none := by
        cases b with
        | int _ => cases e2
        | bl _ => cases e2
        | tok k => unfold kdNe at e; rw [if_pos (.inr (.inl rfl))] at e; cases e
        | tup vs => rw [ren_tup]; rfl
        | exc c vs => rw [ren_exc]; rfl
        | _ => rfl
      rw [num_ren e1, hb]; exact this
  | none =>
    rw [e1] at e
    have := kd_ren S e
    have ha : num (renV s a) = none := by
      cases a with
      | int _ => cases e1
      | bl _ => cases e1
      | tok k => unfold kdNe at e; rw [if_pos (.inl rfl)] at e; cases e
      | tup vs => rw [ren_tup]; rfl
      | exc c vs => rw [ren_exc]; rfl
      | _ => rfl
    rw [ha]; exact this
theorem all2_ren {f f' : IV → IV → Option Bool} (hf : ∀ a b k, f a b = some k → f' (renV s a) (renV s b) = some k) : ∀ {xs ys : List IV} {k : Bool}, all2 f xs ys = some k → all2 f' (xs.map (renV s)) (ys.map (renV s)) = some k
  | [], [], k, e => e
  | [], _ :: _, k, e => e
  | _ :: _, [], k, e => e
  | x :: xs, y :: ys, k, e => by
    obtain ⟨a, b, e1, e2, rfl⟩ := oAnd_some (show oAnd (f x y) (all2 f xs ys) = some k from e)
    show oAnd (f' (renV s x) (renV s y)) (all2 f' (xs.map (renV s)) (ys.map (renV s))) = _
    rw [hf x y a e1, all2_ren hf e2]; rfl
end MI
end

section
set_option Elab.async false
set_option linter.all false
set_option maxRecDepth 100000
set_option autoImplicit false
set_option maxHeartbeats 1000000
/-! MI, a run goes over to a bigger heap: ==, what is built in, statements, programs. -/
namespace MI
open PySem L2
variable {s : Sub}
theorem oth_tok1 (h : IH) (j : Nat) (b : IV) : eqOth h (.tok j) b = none := by
  show kdNe h (.tok j) b = none
  unfold kdNe
  exact if_pos (.inl rfl)
theorem oth_tok2 (h : IH) (j : Nat) (a : IV) : eqOth h a (.tok j) = none := by
  have e : eqOth h a (.tok j) = kdNe h a (.tok j) := by unfold eqOth; cases num a <;> rfl
  rw [e]
  unfold kdNe
  exact if_pos (.inr (.inl rfl))
theorem eqv_ren {h h' : IH} (S : Sim s h h') : ∀ (n : Nat) (a b : IV) (k : Bool), eqv h n a b = some k → eqv h' n (renV s a) (renV s b) = some k
  | 0, _, _, _, e => by cases e
  | n + 1, a, b, k, e => by
    have t1 : ∀ {j b}, eqOth h (.tok j) b = some k → False := fun z => by rw [oth_tok1] at z; cases z
    have t2 : ∀ {j a}, eqOth h a (.tok j) = some k → False := fun z => by rw [oth_tok2] at z; cases z
    cases a with
    | non =>
      cases b with
      | non => exact e
      | tok j => exact (t2 (a := .non) e).elim
      | _ => exact oth_ren S (a := .non) e
    | str x =>
      cases b with
      | str y => exact e
      | tok j => exact (t2 (a := .str x) e).elim
      | _ => exact oth_ren S (a := .str x) e
    | tup xs =>
      cases b with
      | tup ys =>
        obtain ⟨k1, k2, e1, e2, rfl⟩ := oAnd_some (show oAnd (all2 (eqv h n) xs ys) (some (xs.length == ys.length)) = some k from e)
        rw [ren_tup, ren_tup]
        show oAnd (all2 (eqv h' n) (xs.map (renV s)) (ys.map (renV s))) (some ((xs.map (renV s)).length == (ys.map (renV s)).length)) = _
        rw [all2_ren (fun a b k => eqv_ren S n a b k) e1, List.length_map, List.length_map, e2]
        rfl
      | tok j => exact (t2 (a := .tup xs) e).elim
      | _ => exact oth_ren S (a := .tup xs) e
    | ref i =>
      cases b with
      | ref j =>
        change (match h.get i, h.get j with
          | some (.lst xs), some (.lst ys) => if i = j then some true else if xs.length = ys.length then all2 (eqv h n) xs ys else some false
          | _, _ => kdNe h (.ref i) (.ref j)) = some k at e
        show (match h'.get (s.ρ i), h'.get (s.ρ j) with
          | some (.lst xs), some (.lst ys) => if s.ρ i = s.ρ j then some true else if xs.length = ys.length then all2 (eqv h' n) xs ys else some false
          | _, _ => kdNe h' (.ref (s.ρ i)) (.ref (s.ρ j))) = some k
        have kd : kdNe h (.ref i) (.ref j) = some k → kdNe h' (.ref (s.ρ i)) (.ref (s.ρ j)) = some k := fun z => kd_ren S (a := .ref i) (b := .ref j) z
        have hn : ∀ {x}, h.get x = none → kind h (.ref x) = .oth := fun z => by
          show (match h.get _ with
            | some (.lst _) => Kd.lst
            | some (.dct _) => Kd.dct
            | some (.dcT _) => Kd.dct
            | _ => Kd.oth) = _
          rw [z]
        cases e1 : h.get i with
        | none =>
          rw [e1] at e
          have z : kdNe h (.ref i) (.ref j) = some k := e
          unfold kdNe at z
          rw [if_pos (.inl (hn e1))] at z
          cases z
        | some o =>
          cases e2 : h.get j with
          | none =>
            rw [e1, e2] at e
            have z : kdNe h (.ref i) (.ref j) = some k := by cases o <;> exact e
            unfold kdNe at z
            rw [if_pos (.inr (.inl (hn e2)))] at z
            cases z
          | some o' =>
            rw [e1, e2] at e
            rw [S.ob i o e1, S.ob j o' e2]
            cases o with
            | lst xs =>
              cases o' with
              | lst ys =>
                change (if i = j then some true else if xs.length = ys.length then all2 (eqv h n) xs ys else some false) = some k at e
                show (if s.ρ i = s.ρ j then some true else if (xs.map (renV s)).length = (ys.map (renV s)).length then all2 (eqv h' n) (xs.map (renV s)) (ys.map (renV s)) else some false) = some k
                rw [List.length_map, List.length_map]
                by_cases hij : i = j
                · rw [if_pos hij] at e
                  rw [if_pos (by rw [hij])]; exact e
                · rw [if_neg hij] at e
                  rw [if_neg (fun z => hij (S.inj i j z))]
                  by_cases hl : xs.length = ys.length
                  · rw [if_pos hl] at e ⊢
                    exact all2_ren (fun a b k => eqv_ren S n a b k) e
                  · rw [if_neg hl] at e ⊢; exact e
              | _ => exact kd e
            | _ => cases o' <;> exact kd e
      | tok j => exact (t2 (a := .ref i) e).elim
      | _ => exact oth_ren S (a := .ref i) e
    | tok j => exact (t1 (show eqOth h (.tok j) b = some k from e)).elim
    | bl x => exact oth_ren S (a := .bl x) (b := b) (show eqOth h (.bl x) b = some k from e)
    | int x => exact oth_ren S (a := .int x) (b := b) (show eqOth h (.int x) b = some k from e)
    | gfn x => exact oth_ren S (a := .gfn x) (b := b) (show eqOth h (.gfn x) b = some k from e)
    | exc x vs => exact oth_ren S (a := .exc x vs) (b := b) (show eqOth h (.exc x vs) b = some k from e)
    | scr x => exact oth_ren S (a := .scr x) (b := b) (show eqOth h (.scr x) b = some k from e)
theorem q_fEq : QF s fEq := fun a b h h' S => OutS.of S fun v e => by
  cases q : eqv h 60 a b with
  | none => rw [q] at e; cases e
  | some k => rw [q] at e; cases e; rw [eqv_ren S 60 a b k q]; rfl
theorem q_fNe : QF s fNe := fun a b h h' S => OutS.of S fun v e => by
  cases q : eqv h 60 a b with
  | none => rw [q] at e; cases e
  | some k => rw [q] at e; cases e; rw [eqv_ren S 60 a b k q]; rfl
theorem rowOf_ren {h h' : IH} (S : Sim s h h') {v : IV} {vs : List IV} (e : rowOf h v = some vs) : rowOf h' (renV s v) = some (vs.map (renV s)) := by
  cases v with
  | tup us => cases e; rw [ren_tup]; rfl
  | ref i =>
    change (match h.get i with
      | some (.lst vs) => some vs
      | _ => none) = some vs at e
    show (match h'.get (s.ρ i) with
      | some (.lst vs) => some vs
      | _ => none) = _
    cases q : h.get i with
    | none => rw [q] at e; cases e
    | some o =>
      rw [q] at e
      rw [S.ob i o q]
      cases o with
      | lst us => cases e; rfl
      | _ => cases e
  | _ => cases e
theorem anyE_ren {f f' : IV → Option Bool} (hf : ∀ a k, f a = some k → f' (renV s a) = some k) : ∀ {xs : List IV} {k : Bool}, anyE f xs = some k → anyE f' (xs.map (renV s)) = some k
  | [], k, e => e
  | x :: xs, k, e => by
    unfold anyE at e
    cases e1 : f x with
    | none => rw [e1] at e; cases e
    | some a =>
      cases e2 : anyE f xs with
      | none => rw [e1, e2] at e; cases e
      | some b =>
        rw [e1, e2] at e
        rw [List.map_cons]
        unfold anyE
        rw [hf x a e1, anyE_ren hf e2]; exact e
theorem q_fIn (neg : Bool) : QF s (fIn neg) := fun a b h h' S => by
  have row : ∀ b : IV, (∀ y, b ≠ .str y) → OutS s (renV s) (match rowOf h b with
      | some ys => Out.of ((anyE (fun z => eqv h 60 z a) ys).map fun k => IV.bl (if neg then !k else k)) h
      | none => .bad) (match rowOf h' (renV s b) with
      | some ys => Out.of ((anyE (fun z => eqv h' 60 z (renV s a)) ys).map fun k => IV.bl (if neg then !k else k)) h'
      | none => .bad) := fun b _ => by
    cases e : rowOf h b with
    | none => trivial
    | some ys =>
      rw [rowOf_ren S e]
      refine OutS.of S fun v q => ?_
      cases e2 : anyE (fun z => eqv h 60 z a) ys with
      | none => rw [e2] at q; cases q
      | some k =>
        rw [e2] at q
        cases q
        rw [anyE_ren (f' := fun z => eqv h' 60 z (renV s a)) (fun z k hz => eqv_ren S 60 z a k hz) e2]
        rfl
  cases b with
  | str y =>
    cases a with
    | str x => exact ⟨h', rfl, S⟩
    | _ => trivial
  | tup vs =>
    have := row (.tup vs) (fun _ z => nomatch z)
    rw [ren_tup] at this ⊢
    exact this
  | ref i => exact row (.ref i) fun _ z => nomatch z
  | _ => trivial
/-! ### what is built in -/
theorem one_ren {h h' : IH} {f f' : IV → Out IV} {vs : List IV} (hf : ∀ v, OutS s (renV s) (f v) (f' (renV s v))) : OutS s (renV s) (one vs f) (one (vs.map (renV s)) f') := by
  match vs with
  | [] => trivial
  | [v] => exact hf v
  | _ :: _ :: _ => trivial
theorem q_pInt : QP s pInt := fun vs h h' S => one_ren (h := h) (h' := h') fun v => by
  cases v with
  | int i => exact ⟨h', rfl, S⟩
  | bl k => exact ⟨h', rfl, S⟩
  | _ => trivial
theorem q_pLen : QP s pLen := fun vs h h' S => one_ren (h := h) (h' := h') fun v => OutS.of S fun u e => by
  cases v with
  | str x =>
    cases q : fLenV (.str x) h with
    | none => rw [q] at e; cases e
    | some k =>
      rw [q] at e; cases e
      rw [show fLenV (renV s (.str x)) h' = fLenV (.str x) h from rfl, q]; rfl
  | tup us => cases e; rw [ren_tup]; show some (IV.int ((us.map (renV s)).length : Nat)) = _; rw [List.length_map]; rfl
  | ref i =>
    have e1 : fLenV (.ref i) h = (match h.get i with
      | some (.lst vs) => some vs.length
      | some (.dct kvs) => some kvs.length
      | some (.dcT kvs) => some kvs.length
      | _ => none) := rfl
    have e2 : fLenV (renV s (.ref i)) h' = (match h'.get (s.ρ i) with
      | some (.lst vs) => some vs.length
      | some (.dct kvs) => some kvs.length
      | some (.dcT kvs) => some kvs.length
      | _ => none) := rfl
    rw [e1] at e
    rw [e2]
    cases q : h.get i with
    | none => rw [q] at e; cases e
    | some o =>
      rw [q] at e
      rw [S.ob i o q]
      cases o with
      | lst us => cases e; show some (IV.int ((us.map (renV s)).length : Nat)) = _; rw [List.length_map]; rfl
      | dct us => cases e; show some (IV.int ((us.map _).length : Nat)) = _; rw [List.length_map]; rfl
      | dcT us => cases e; show some (IV.int ((us.map _).length : Nat)) = _; rw [List.length_map]; rfl
      | lam _ _ => cases e
  | _ => cases e
theorem ren_unkey (k : Key) : renV s (unkey k) = unkey k := by cases k <;> rfl
theorem ok_newL {h h' : IH} (S : Sim s h h') (vs us : List IV) (e : vs.map (renV s) = us) : OutS s (renV s) (.ok (.ref h.n) (h.push (.lst vs))) (.ok (.ref h'.n) (h'.push (.lst us))) := by
  subst e; exact ok_new S (.lst vs)
theorem map_unkey (ks : List Key) : (ks.map unkey).map (renV s) = ks.map unkey := by
  rw [List.map_map]
  exact List.map_congr_left fun k _ => ren_unkey k
theorem q_pList : QP s pList := fun vs h h' S => one_ren (h := h) (h' := h') fun v => by
  cases v with
  | tup us => rw [ren_tup]; exact ok_newL S _ _ rfl
  | scr ns => exact ok_newL S _ _ (by rw [List.map_map]; rfl)
  | ref i =>
    show OutS s (renV s) (match h.get i with
      | some (.lst us) => Out.ok (IV.ref h.n) (h.push (.lst us))
      | some (.dct kvs) => .ok (.ref h.n) (h.push (.lst (kvs.map fun kv => unkey kv.1)))
      | some (.dcT kvs) => .ok (.ref h.n) (h.push (.lst (kvs.map fun kv => keyRow kv.1)))
      | _ => .bad) (match h'.get (s.ρ i) with
      | some (.lst us) => Out.ok (IV.ref h'.n) (h'.push (.lst us))
      | some (.dct kvs) => .ok (.ref h'.n) (h'.push (.lst (kvs.map fun kv => unkey kv.1)))
      | some (.dcT kvs) => .ok (.ref h'.n) (h'.push (.lst (kvs.map fun kv => keyRow kv.1)))
      | _ => .bad)
    cases q : h.get i with
    | none => trivial
    | some o =>
      rw [S.ob i o q]
      cases o with
      | lst us => exact ok_newL S _ _ rfl
      | dct us => exact ok_newL S _ _ (by rw [List.map_map, List.map_map]; exact List.map_congr_left fun kv _ => ren_unkey kv.1)
      | dcT us => exact ok_newL S _ _ (by rw [List.map_map, List.map_map]; exact List.map_congr_left fun kv _ => by show renV s (keyRow kv.1) = keyRow kv.1; unfold keyRow; rw [ren_tup, map_unkey])
      | lam _ _ => trivial
  | _ => trivial
theorem q_pTuple : QP s pTuple := fun vs h h' S => one_ren (h := h) (h' := h') fun v => by
  cases v with
  | tup us => rw [ren_tup]; exact ⟨h', by rw [ren_tup], S⟩
  | ref i =>
    show OutS s (renV s) (match h.get i with
      | some (.lst us) => Out.ok (IV.tup us) h
      | _ => .bad) (match h'.get (s.ρ i) with
      | some (.lst us) => Out.ok (IV.tup us) h'
      | _ => .bad)
    cases q : h.get i with
    | none => trivial
    | some o =>
      rw [S.ob i o q]
      cases o with
      | lst us => exact ⟨h', by rw [ren_tup]; rfl, S⟩
      | _ => trivial
  | _ => trivial
theorem bls_ren : ∀ {vs : List IV} {bs : List Bool}, blsOf vs = some bs → blsOf (vs.map (renV s)) = some bs
  | [], bs, e => e
  | v :: vs, bs, e => by
    cases v with
    | bl b =>
      change (blsOf vs).map (b :: ·) = some bs at e
      show (blsOf (vs.map (renV s))).map (b :: ·) = some bs
      cases q : blsOf vs with
      | none => rw [q] at e; cases e
      | some us => rw [q] at e; rw [bls_ren q]; exact e
    | _ => cases e
theorem q_pBls (f : List Bool → Bool) : QP s (pBls f) := fun vs h h' S => one_ren (h := h) (h' := h') fun v => onL_ren S fun i us e => OutS.of S fun w q => by
  cases e1 : blsOf us with
  | none => rw [e1] at q; cases q
  | some bs => rw [e1] at q; cases q; rw [bls_ren e1]; rfl
theorem q_pAll : QP s pAll := q_pBls _
theorem q_pAny : QP s pAny := q_pBls _
theorem q_fItems : QU s fItems := fun v h h' S => by
  cases v with
  | ref i =>
    show OutS s (renV s) (match h.get i with
      | some (.dct kvs) => Out.ok (IV.ref h.n) (h.push (.lst (kvs.map fun kv => .tup [unkey kv.1, kv.2])))
      | _ => .bad) (match h'.get (s.ρ i) with
      | some (.dct kvs) => Out.ok (IV.ref h'.n) (h'.push (.lst (kvs.map fun kv => .tup [unkey kv.1, kv.2])))
      | _ => .bad)
    cases q : h.get i with
    | none => trivial
    | some o =>
      rw [S.ob i o q]
      cases o with
      | dct us => exact ok_newL S _ _ (by rw [List.map_map, List.map_map]; exact List.map_congr_left fun kv _ => by show renV s (.tup [unkey kv.1, kv.2]) = .tup [unkey kv.1, renV s kv.2]; rw [ren_tup]; show IV.tup [renV s (unkey kv.1), renV s kv.2] = _; rw [ren_unkey])
      | _ => trivial
  | _ => trivial
end MI
end

section
set_option Elab.async false
set_option linter.all false
set_option maxRecDepth 100000
set_option autoImplicit false
set_option maxHeartbeats 1000000
/-! MI, a run goes over to a bigger heap: methods, slices, dicts, targets, sources, statements, programs. -/
namespace MI
open PySem L2
variable {s : Sub}
theorem ok_put {α : Type} {f : α → α} {h h' : IH} (S : Sim s h h') {i : Nat} {u : IO} (e : h.get i = some u) (v : α) (vs us : List IV) (eu : vs.map (renV s) = us) : OutS s f (.ok v (h.put i (.lst vs))) (.ok (f v) (h'.put (s.ρ i) (.lst us))) := by
  subst eu; exact ⟨_, rfl, S.put e (.lst vs)⟩
/-! ### methods of lists -/
theorem q_fAppend : QM s fAppend := fun v ws h h' S => onL_ren S fun i vs e => by
  match ws with
  | [] => trivial
  | [y] =>
    show OutS s (renV s) (if vs.length < sizeLine then .ok .non (h.put i (.lst (vs ++ [y]))) else .bad) (if (vs.map (renV s)).length < sizeLine then .ok .non (h'.put (s.ρ i) (.lst (vs.map (renV s) ++ [renV s y]))) else .bad)
    rw [List.length_map]
    by_cases hz : vs.length < sizeLine
    · rw [if_pos hz, if_pos hz]
      exact ok_put S e IV.non _ _ (by rw [List.map_append]; rfl)
    · rw [if_neg hz]; trivial
  | _ :: _ :: _ => trivial
theorem q_fExtend : QM s fExtend := fun v ws h h' S => onL_ren S fun i vs e => by
  match ws with
  | [] => trivial
  | [y] =>
    refine onL_ren (f := fun _ us => if vs.length + us.length ≤ sizeLine then .ok .non (h.put i (.lst (vs ++ us))) else .bad) (f' := fun _ us => if (vs.map (renV s)).length + us.length ≤ sizeLine then .ok .non (h'.put (s.ρ i) (.lst (vs.map (renV s) ++ us))) else .bad) S fun j us e2 => ?_
    rw [List.length_map, List.length_map]
    by_cases hz : vs.length + us.length ≤ sizeLine
    · rw [if_pos hz, if_pos hz]
      exact ok_put S e IV.non _ _ (by rw [List.map_append])
    · rw [if_neg hz]; trivial
  | _ :: _ :: _ => trivial
theorem eraseIdx_map {α β : Type} (f : α → β) : ∀ (l : List α) (j : Nat), (l.eraseIdx j).map f = (l.map f).eraseIdx j
  | [], _ => rfl
  | _ :: _, 0 => rfl
  | x :: l, j + 1 => by rw [List.map_cons, List.eraseIdx_cons_succ, List.eraseIdx_cons_succ, List.map_cons, eraseIdx_map f l j]
theorem q_fPopAt : QM s fPopAt := fun v ws h h' S => onL_ren S fun i vs e => by
  match ws with
  | [] => trivial
  | a :: _ :: _ => cases a <;> trivial
  | [.int k] =>
    show OutS s (renV s) (if -(2 ^ 63) ≤ k ∧ k < 2 ^ 63 then (match seqIndex? k vs.length with
      | some j => (match vs[j]? with
        | some y => .ok y (h.put i (.lst (vs.eraseIdx j)))
        | none => .bad)
      | none => .bad) else .bad) (if -(2 ^ 63) ≤ k ∧ k < 2 ^ 63 then (match seqIndex? k (vs.map (renV s)).length with
      | some j => (match (vs.map (renV s))[j]? with
        | some y => .ok y (h'.put (s.ρ i) (.lst ((vs.map (renV s)).eraseIdx j)))
        | none => .bad)
      | none => .bad) else .bad)
    by_cases hz : -(2 ^ 63) ≤ k ∧ k < 2 ^ 63
    · rw [if_pos hz, if_pos hz, List.length_map]
      cases e2 : seqIndex? k vs.length with
      | none => trivial
      | some j =>
        cases e3 : vs[j]? with
        | none => simp only [e3]; trivial
        | some y =>
          simp only [e3, List.getElem?_map]
          exact ok_put S e y _ _ (eraseIdx_map _ _ _)
    · rw [if_neg hz]; trivial
  | [.non] => trivial
  | [.bl _] => trivial
  | [.str _] => trivial
  | [.tup _] => trivial
  | [.ref _] => trivial
  | [.gfn _] => trivial
  | [.exc _ _] => trivial
  | [.scr _] => trivial
  | [.tok _] => trivial
/-! ### slices -/
def QO (s : Sub) (e : Ox) : Prop := ∀ c σ h h', CtxS s c → Sim s h h' → OutS s (fun b => b) (e c σ h) (e c (renE s σ) h')
theorem q_onone : QO s oNone := fun c σ h h' C S => ⟨h', rfl, S⟩
theorem q_osome {e : Ex} (he : QE s e) : QO s (oSome e) := fun c σ h h' C S => OutS.bind (he c σ h h' C S) fun v h h' S => by
  cases v with
  | int i => exact ⟨h', rfl, S⟩
  | _ => trivial
theorem q_cut {a : Ex} {lo hi : Ox} (ha : QE s a) (hl : QO s lo) (hh : QO s hi) : QE s (eCut a lo hi) := fun c σ h h' C S => OutS.bind (ha c σ h h' C S) fun x h h' S => OutS.bind (hl c σ h h' C S) fun l h h' S => OutS.bind (hh c σ h h' C S) fun u h h' S => by
  cases x with
  | ref k =>
    show OutS s (renV s) (match h.get k with
      | some (.lst vs) => .ok (.ref h.n) (h.push (.lst (cutI vs l u)))
      | _ => .bad) (match h'.get (s.ρ k) with
      | some (.lst vs) => .ok (.ref h'.n) (h'.push (.lst (cutI vs l u)))
      | _ => .bad)
    cases e : h.get k with
    | none => trivial
    | some o =>
      rw [S.ob k o e]
      cases o with
      | lst vs => exact ok_newL S _ _ (by unfold cutI; rw [List.map_take, List.map_drop, List.length_map])
      | _ => trivial
  | _ => trivial
/-! ### dicts -/
def renKs (s : Sub) (kvs : List (Key × IV)) : List (Key × IV) := kvs.map fun kv => (kv.1, renV s kv.2)
theorem key_ren {v : IV} {k : Key} (e : keyI v = some k) : keyI (renV s v) = some k := by
  cases v with
  | int i => exact e
  | str i => exact e
  | _ => cases e
inductive QPs (s : Sub) : List (Ex × Ex) → Prop where
  | nil : QPs s []
  | cons {a b : Ex} {r : List (Ex × Ex)} (ha : QE s a) (hb : QE s b) (hr : QPs s r) : QPs s ((a, b) :: r)
theorem q_pairs {ps : List (Ex × Ex)} (hp : QPs s ps) : ∀ c σ h h', CtxS s c → Sim s h h' → OutS s (renKs s) (lPairs ps c σ h) (lPairs ps c (renE s σ) h') := by
  induction hp with
  | nil => exact fun c σ h h' C S => ⟨h', rfl, S⟩
  | cons ha hb hr ih =>
    exact fun c σ h h' C S => OutS.bind (ha c σ h h' C S) fun k h h' S => OutS.bind (hb c σ h h' C S) fun v h h' S => OutS.bind (ih c σ h h' C S) fun ps h h' S => by
      cases e : keyI k with
      | none => trivial
      | some kk => rw [key_ren e]; exact ⟨h', rfl, S⟩
theorem dPut_ren {k : Key} {v : IV} (kvs : List (Key × IV)) : renKs s (dPut k v kvs) = dPut k (renV s v) (renKs s kvs) := by
  unfold dPut renKs
  have e : ((kvs.map fun kv => (kv.1, renV s kv.2)).any fun kv => decide (kv.1 = k)) = (kvs.any fun kv => decide (kv.1 = k)) := by rw [List.any_map]; rfl
  rw [e]
  split
  · rw [List.map_map, List.map_map]
    refine List.map_congr_left fun kv _ => ?_
    show (fun kv : Key × IV => (kv.1, renV s kv.2)) (if kv.1 = k then (kv.1, v) else kv) = (if kv.1 = k then (kv.1, renV s v) else (kv.1, renV s kv.2))
    split <;> rfl
  · rw [List.map_append]; rfl
theorem fold_ren : ∀ (more acc : List (Key × IV)), renKs s (more.foldl (fun acc kv => dPut kv.1 kv.2 acc) acc) = (renKs s more).foldl (fun acc kv => dPut kv.1 kv.2 acc) (renKs s acc)
  | [], acc => rfl
  | kv :: more, acc => by
    show renKs s (more.foldl _ (dPut kv.1 kv.2 acc)) = (renKs s more).foldl _ (dPut kv.1 (renV s kv.2) (renKs s acc))
    rw [fold_ren more, dPut_ren]
theorem q_dct {ps : List (Ex × Ex)} (hp : QPs s ps) : QE s (eDct ps) := fun c σ h0 h0' C S0 => by
  have S1 := S0.push (.dct [])
  refine OutS.bind (f := renKs s) (q_pairs hp c σ _ _ C S1) fun kvs h h' S => ?_
  have e0 := S0.eN
  cases e : h.get h0.n with
  | none => trivial
  | some o =>
    have e2 := S.ob _ _ e
    rw [e0] at e2
    cases o with
    | dct kv0 =>
      cases kv0 with
      | nil =>
        have e3 : h'.get h0'.n = some (.dct []) := e2
        show OutS s (renV s) (.ok (.ref h0.n) (h.put h0.n (.dct (kvs.foldl (fun acc kv => dPut kv.1 kv.2 acc) [])))) (match h'.get h0'.n with
          | some (.dct []) => .ok (.ref h0'.n) (h'.put h0'.n (.dct ((renKs s kvs).foldl (fun acc kv => dPut kv.1 kv.2 acc) [])))
          | _ => .bad)
        rw [e3]
        refine ⟨_, by rw [ren_ref, e0], ?_⟩
        have := S.put e (.dct (kvs.foldl (fun acc kv => dPut kv.1 kv.2 acc) []))
        rw [e0] at this
        have e4 : renO s (.dct (kvs.foldl (fun acc kv => dPut kv.1 kv.2 acc) [])) = .dct ((renKs s kvs).foldl (fun acc kv => dPut kv.1 kv.2 acc) []) := congrArg IO.dct (fold_ren kvs [])
        rw [e4] at this
        exact this
      | cons _ _ => trivial
    | _ => trivial
/-! ### targets -/
def QG (s : Sub) (g : Gx) : Prop := ∀ v c σ h h', CtxS s c → Sim s h h' → OutS s (renE s) (g v c σ h) (g (renV s v) c (renE s σ) h')
def QGs (s : Sub) (g : GLx) : Prop := ∀ vs c σ h h', CtxS s c → Sim s h h' → OutS s (renE s) (g vs c σ h) (g (vs.map (renV s)) c (renE s σ) h')
theorem renE_set (σ : Env) (i : Nat) (v : IV) : renE s (σ.set i (some v)) = (renE s σ).set i (some (renV s v)) := by
  unfold renE
  rw [List.map_set]; rfl
theorem q_gname (i : Nat) : QG s (MI.gName i) := fun v c σ h h' C S => ⟨h', by show Out.ok ((renE s σ).set i (some (renV s v))) h' = _; rw [renE_set], S⟩
theorem q_gnil : QGs s MI.gNil := fun vs c σ h h' C S => by
  cases vs with
  | nil => exact ⟨h', rfl, S⟩
  | cons _ _ => trivial
theorem q_gcons {g : Gx} {r : GLx} (hg : QG s g) (hr : QGs s r) : QGs s (MI.gCons g r) := fun vs c σ h h' C S => by
  cases vs with
  | nil => trivial
  | cons v vs => exact OutS.bind (hg v c σ h h' C S) fun σ h h' S => hr vs c σ h h' C S
theorem q_gtup {n : Nat} {r : GLx} (hr : QGs s r) : QG s (MI.gTup n r) := fun v c σ h h' C S => by
  show OutS s (renE s) (match rowOf h v with
    | some vs => if vs.length = n then r vs c σ h else .bad
    | none => .bad) (match rowOf h' (renV s v) with
    | some vs => if vs.length = n then r vs c (renE s σ) h' else .bad
    | none => .bad)
  cases e : rowOf h v with
  | none => trivial
  | some vs =>
    rw [rowOf_ren S e]
    show OutS s (renE s) (if vs.length = n then r vs c σ h else .bad) (if (vs.map (renV s)).length = n then r (vs.map (renV s)) c (renE s σ) h' else .bad)
    rw [List.length_map]
    by_cases hz : vs.length = n
    · rw [if_pos hz, if_pos hz]; exact hr vs c σ h h' C S
    · rw [if_neg hz]; trivial
def QSet (s : Sub) (f : IV → IV → IV → IH → Out Unit) : Prop := ∀ x k v h h', Sim s h h' → OutS s (fun u => u) (f x k v h) (f (renV s x) (renV s k) (renV s v) h')
theorem q_fSetL : QSet s fSetL := fun x k v h h' S => by
  cases x with
  | ref i =>
    cases k with
    | int j =>
      show OutS s (fun u => u) (match h.get i with
        | some (.lst vs) => (match ixN vs.length j with
          | some m => Out.ok () (h.put i (.lst (vs.set m v)))
          | none => .bad)
        | _ => .bad) (match h'.get (s.ρ i) with
        | some (.lst vs) => (match ixN vs.length j with
          | some m => Out.ok () (h'.put (s.ρ i) (.lst (vs.set m (renV s v))))
          | none => .bad)
        | _ => .bad)
      cases e : h.get i with
      | none => trivial
      | some o =>
        rw [S.ob i o e]
        cases o with
        | lst vs =>
          show OutS s (fun u => u) (match ixN vs.length j with
            | some m => Out.ok () (h.put i (.lst (vs.set m v)))
            | none => .bad) (match ixN (vs.map (renV s)).length j with
            | some m => Out.ok () (h'.put (s.ρ i) (.lst ((vs.map (renV s)).set m (renV s v))))
            | none => .bad)
          rw [List.length_map]
          cases ixN vs.length j with
          | none => trivial
          | some m => exact ok_put S e () _ _ (List.map_set ..)
        | _ => trivial
    | _ => trivial
  | _ => cases k <;> trivial
theorem q_gsub {f : IV → IV → IV → IH → Out Unit} {o i : Ex} (hf : QSet s f) (ho : QE s o) (hi : QE s i) : QG s (gSub f o i) := fun v c σ h h' C S => by
  have h1 := ho c σ h h' C S
  show OutS s (renE s) (match o c σ h with
    | .ok x h => (match i c σ h with
      | .ok k h => (match f x k v h with
        | .ok _ h => .ok σ h
        | _ => .bad)
      | _ => .bad)
    | _ => .bad) (match o c (renE s σ) h' with
    | .ok x h => (match i c (renE s σ) h with
      | .ok k h => (match f x k (renV s v) h with
        | .ok _ h => .ok (renE s σ) h
        | _ => .bad)
      | _ => .bad)
    | _ => .bad)
  cases e1 : o c σ h with
  | ok x h2 =>
    rw [e1] at h1
    obtain ⟨h2', q1, S2⟩ := h1
    rw [q1]
    have h3 := hi c σ h2 h2' C S2
    cases e2 : i c σ h2 with
    | ok k h4 =>
      rw [e2] at h3
      obtain ⟨h4', q2, S4⟩ := h3
      have h5 := hf x k v h4 h4' S4
      cases e3 : f x k v h4 with
      | ok u h6 =>
        rw [e3] at h5
        obtain ⟨h6', q3, S6⟩ := h5
        simp only [e2, e3, q2, q3]
        exact ⟨h6', rfl, S6⟩
      | exc _ _ => simp only [e2, e3]; trivial
      | bad => simp only [e2, e3]; trivial
    | exc _ _ => simp only [e2]; trivial
    | bad => simp only [e2]; trivial
  | exc _ _ => trivial
  | bad => trivial
/-! ### what is walked -/
def renS (s : Sub) : Src → Src
  | .lst i => .lst (s.ρ i)
  | .tup vs => .tup (vs.map (renV s))
  | .rng lo n => .rng lo n
  | .enum t => .enum (renS s t)
  | .zip t u => .zip (renS s t) (renS s u)
def renN (s : Sub) : Nx → Nx
  | .yld v => .yld (renV s v)
  | .stop => .stop
  | .bad => .bad
def NxS (s : Sub) (x x' : Nx) : Prop := x = .bad ∨ x' = renN s x
theorem at_ren {h h' : IH} (S : Sim s h h') : ∀ (t : Src) (k : Nat), NxS s (t.at k h) ((renS s t).at k h')
  | .lst i, k => by
    show NxS s (match h.get i with
      | some (.lst vs) => ofIx vs[k]?
      | _ => .bad) (match h'.get (s.ρ i) with
      | some (.lst vs) => ofIx vs[k]?
      | _ => .bad)
    cases e : h.get i with
    | none => exact .inl rfl
    | some o =>
      rw [S.ob i o e]
      cases o with
      | lst vs =>
        right
        show ofIx (vs.map (renV s))[k]? = renN s (ofIx vs[k]?)
        rw [List.getElem?_map]
        cases vs[k]? <;> rfl
      | _ => exact .inl rfl
  | .tup vs, k => by
    right
    show ofIx (vs.map (renV s))[k]? = renN s (ofIx vs[k]?)
    rw [List.getElem?_map]
    cases vs[k]? <;> rfl
  | .rng lo n, k => by
    right
    show (if k < n then Nx.yld (.int (lo + (k : Int))) else .stop) = renN s (if k < n then Nx.yld (.int (lo + (k : Int))) else .stop)
    split <;> rfl
  | .enum t, k => by
    have ih := at_ren S t k
    show NxS s (match t.at k h with
      | .yld v => .yld (.tup [.int k, v])
      | x => x) (match (renS s t).at k h' with
      | .yld v => .yld (.tup [.int k, v])
      | x => x)
    rcases ih with e | e
    · rw [e]; exact .inl rfl
    · rw [e]
      right
      cases t.at k h with
      | yld v => show Nx.yld _ = Nx.yld _; rw [ren_tup]; rfl
      | stop => rfl
      | bad => rfl
  | .zip t u, k => by
    have h1 := at_ren S t k
    have h2 := at_ren S u k
    show NxS s (Nx.both (t.at k h) (u.at k h)) (Nx.both ((renS s t).at k h') ((renS s u).at k h'))
    rcases h1 with e | e
    · rw [e]; exact .inl rfl
    · rw [e]
      rcases h2 with e2 | e2
      · rw [e2]; left; cases t.at k h <;> rfl
      · rw [e2]
        right
        cases t.at k h with
        | yld v => cases u.at k h with
          | yld w => show Nx.yld _ = Nx.yld _; rw [ren_tup]; rfl
          | _ => rfl
        | stop => cases u.at k h <;> rfl
        | bad => rfl
theorem len_ren {h h' : IH} (S : Sim s h h') : ∀ (t : Src), (∃ k, t.at k h ≠ .bad) → (renS s t).len h' = t.len h
  | .lst i, ⟨k, hk⟩ => by
    show (match h'.get (s.ρ i) with
      | some (.lst vs) => vs.length
      | _ => 0) = (match h.get i with
      | some (.lst vs) => vs.length
      | _ => 0)
    have hk' : (match h.get i with
      | some (.lst vs) => ofIx vs[k]?
      | _ => Nx.bad) ≠ .bad := hk
    cases e : h.get i with
    | none => rw [e] at hk'; exact absurd rfl hk'
    | some o =>
      rw [e] at hk'
      rw [S.ob i o e]
      cases o with
      | lst vs => exact List.length_map _
      | _ => exact absurd rfl hk'
  | .tup vs, _ => List.length_map _
  | .rng _ _, _ => rfl
  | .enum t, ⟨k, hk⟩ => len_ren S t ⟨k, fun z => hk (by show (match t.at k h with | .yld v => Nx.yld (.tup [.int k, v]) | x => x) = _; rw [z])⟩
  | .zip t u, ⟨k, hk⟩ => len_ren S t ⟨k, fun z => hk (by show Nx.both (t.at k h) (u.at k h) = _; rw [z]; rfl)⟩

structure QI (s : Sub) (e : Ix) : Prop where
  sim : ∀ c σ h h', CtxS s c → Sim s h h' → OutS s (renS s) (e c σ h) (e c (renE s σ) h')
  good : ∀ c σ h u h2, e c σ h = .ok u h2 → u.at 0 h2 ≠ .bad
theorem bind_ok {α β : Type} {x : Out α} {k : α → IH → Out β} {v : β} {h : IH} (e : x.bind k = .ok v h) : ∃ u h2, x = .ok u h2 ∧ k u h2 = .ok v h := by
  cases x with
  | ok u h2 => exact ⟨u, h2, rfl, e⟩
  | exc _ _ => cases e
  | bad => cases e
theorem of_ok {α : Type} {x : Option α} {h h2 : IH} {v : α} (e : Out.of x h = .ok v h2) : x = some v ∧ h2 = h := by
  cases x with
  | none => cases e
  | some u => cases e; exact ⟨rfl, rfl⟩
theorem ofIx_ne (x : Option IV) : ofIx x ≠ .bad := by cases x <;> exact fun z => nomatch z
theorem srcOf_good {h : IH} {v : IV} {t : Src} (e : srcOf h v = some t) (k : Nat) : t.at k h ≠ .bad := by
  cases v with
  | tup vs =>
    change (if vs.length ≤ sizeLine then some (Src.tup vs) else none) = some t at e
    split at e
    · cases e; exact ofIx_ne _
    · cases e
  | ref i =>
    change (match h.get i with
      | some (.lst _) => some (Src.lst i)
      | _ => none) = some t at e
    cases q : h.get i with
    | none => rw [q] at e; cases e
    | some o =>
      rw [q] at e
      cases o with
      | lst vs =>
        cases e
        show (match h.get i with
          | some (.lst vs) => ofIx vs[k]?
          | _ => Nx.bad) ≠ .bad
        rw [q]; exact ofIx_ne _
      | _ => cases e
  | _ => cases e
theorem srcOf_ren {h h' : IH} (S : Sim s h h') {v : IV} {t : Src} (e : srcOf h v = some t) : srcOf h' (renV s v) = some (renS s t) := by
  cases v with
  | tup vs =>
    change (if vs.length ≤ sizeLine then some (Src.tup vs) else none) = some t at e
    rw [ren_tup]
    show (if (vs.map (renV s)).length ≤ sizeLine then some (Src.tup (vs.map (renV s))) else none) = _
    rw [List.length_map]
    split at e
    · rename_i hz; cases e; rw [if_pos hz]; rfl
    · cases e
  | ref i =>
    change (match h.get i with
      | some (.lst _) => some (Src.lst i)
      | _ => none) = some t at e
    show (match h'.get (s.ρ i) with
      | some (.lst _) => some (Src.lst (s.ρ i))
      | _ => none) = _
    cases q : h.get i with
    | none => rw [q] at e; cases e
    | some o =>
      rw [q] at e
      rw [S.ob i o q]
      cases o with
      | lst vs => cases e; rfl
      | _ => cases e
  | _ => cases e
theorem q_ival {e : Ex} (he : QE s e) : QI s (MI.iVal e) := ⟨fun c σ h h' C S => OutS.bind (he c σ h h' C S) fun v h h' S => OutS.of S fun t q => srcOf_ren S q, fun c σ h u h2 e => by
  obtain ⟨v, h3, _, e2⟩ := bind_ok e
  obtain ⟨e3, e4⟩ := of_ok e2
  subst e4
  exact srcOf_good e3 0⟩
theorem rng_good (lo : Int) (n : Nat) (h : IH) : (Src.rng lo n).at 0 h ≠ .bad := by
  show (if 0 < n then Nx.yld (.int (lo + ((0 : Nat) : Int))) else .stop) ≠ .bad
  split <;> exact fun z => nomatch z
theorem q_rng1 {e : Ex} (he : QE s e) : QI s (MI.iRng1 e) := ⟨fun c σ h h' C S => OutS.bind (he c σ h h' C S) fun v h h' S => by
  cases v with
  | int j =>
    show OutS s (renS s) (if in62 j = true then .ok (.rng 0 j.toNat) h else .bad) (if in62 j = true then .ok (.rng 0 j.toNat) h' else .bad)
    by_cases e : in62 j = true
    · rw [if_pos e, if_pos e]; exact ⟨h', rfl, S⟩
    · rw [if_neg e]; trivial
  | _ => trivial, fun c σ h u h2 e => by
  obtain ⟨v, h3, _, e2⟩ := bind_ok e
  cases v with
  | int j =>
    change (if in62 j = true then Out.ok (Src.rng 0 j.toNat) h3 else .bad) = _ at e2
    split at e2
    · cases e2; exact rng_good _ _ _
    · cases e2
  | _ => cases e2⟩
theorem q_rng2 {a b : Ex} (ha : QE s a) (hb : QE s b) : QI s (MI.iRng2 a b) := ⟨fun c σ h h' C S => OutS.bind (ha c σ h h' C S) fun u h h' S => OutS.bind (hb c σ h h' C S) fun v h h' S => by
  cases u with
  | int i =>
    cases v with
    | int j =>
      show OutS s (renS s) (if in62 i = true ∧ in62 j = true then .ok (.rng i (j - i).toNat) h else .bad) (if in62 i = true ∧ in62 j = true then .ok (.rng i (j - i).toNat) h' else .bad)
      by_cases e : in62 i = true ∧ in62 j = true
      · rw [if_pos e, if_pos e]; exact ⟨h', rfl, S⟩
      · rw [if_neg e]; trivial
    | _ => trivial
  | _ => cases v <;> trivial, fun c σ h u h2 e => by
  obtain ⟨v, h3, _, e2⟩ := bind_ok e
  obtain ⟨w, h4, _, e3⟩ := bind_ok e2
  cases v with
  | int i =>
    cases w with
    | int j =>
      change (if in62 i = true ∧ in62 j = true then Out.ok (Src.rng i (j - i).toNat) h4 else .bad) = _ at e3
      split at e3
      · cases e3; exact rng_good _ _ _
      · cases e3
    | _ => cases e3
  | _ => cases w <;> cases e3⟩
/-! ### statements -/
def FlS (s : Sub) (x x' : Fl) : Prop := match x with
  | .nx σ h => ∃ h', x' = .nx (renE s σ) h' ∧ Sim s h h'
  | .ct σ h => ∃ h', x' = .ct (renE s σ) h' ∧ Sim s h h'
  | .brk σ h => ∃ h', x' = .brk (renE s σ) h' ∧ Sim s h h'
  | .ret v h => ∃ h', x' = .ret (renV s v) h' ∧ Sim s h h'
  | .exc e σ h => ∃ h', x' = .exc (renV s e) (renE s σ) h' ∧ Sim s h h'
  | .bad => True
def QS (s : Sub) (f : Sx) : Prop := ∀ c σ h h', CtxS s c → Sim s h h' → FlS s (f c σ h) (f c (renE s σ) h')
theorem FlS.seq {x x' : Fl} {f f' : Env → IH → Fl} (hx : FlS s x x') (hf : ∀ σ h h', Sim s h h' → FlS s (f σ h) (f' (renE s σ) h')) : FlS s (x.seq f) (x'.seq f') := by
  cases x with
  | nx σ h => obtain ⟨h', rfl, S⟩ := hx; exact hf σ h h' S
  | ct σ h => obtain ⟨h', rfl, S⟩ := hx; exact ⟨h', rfl, S⟩
  | brk σ h => obtain ⟨h', rfl, S⟩ := hx; exact ⟨h', rfl, S⟩
  | ret v h => obtain ⟨h', rfl, S⟩ := hx; exact ⟨h', rfl, S⟩
  | exc e σ h => obtain ⟨h', rfl, S⟩ := hx; exact ⟨h', rfl, S⟩
  | bad => trivial
theorem FlS.turn {x x' : Fl} {f f' : Env → IH → Fl} (hx : FlS s x x') (hf : ∀ σ h h', Sim s h h' → FlS s (f σ h) (f' (renE s σ) h')) : FlS s (x.turn f) (x'.turn f') := by
  cases x with
  | nx σ h => obtain ⟨h', rfl, S⟩ := hx; exact hf σ h h' S
  | ct σ h => obtain ⟨h', rfl, S⟩ := hx; exact hf σ h h' S
  | brk σ h => obtain ⟨h', rfl, S⟩ := hx; exact ⟨h', rfl, S⟩
  | ret v h => obtain ⟨h', rfl, S⟩ := hx; exact ⟨h', rfl, S⟩
  | exc e σ h => obtain ⟨h', rfl, S⟩ := hx; exact ⟨h', rfl, S⟩
  | bad => trivial
theorem OutS.flow {x x' : Out IV} {σ : Env} {f f' : IV → IH → Fl} (hx : OutS s (renV s) x x') (hf : ∀ v h h', Sim s h h' → FlS s (f v h) (f' (renV s v) h')) : FlS s (flow x σ f) (flow x' (renE s σ) f') := by
  cases x with
  | ok v h => obtain ⟨h', rfl, S⟩ := hx; exact hf v h h' S
  | exc e h => obtain ⟨h', rfl, S⟩ := hx; exact ⟨h', rfl, S⟩
  | bad => trivial
theorem OutS.flowT {x x' : Out Bool} {σ : Env} {f f' : Bool → IH → Fl} (hx : OutS s (fun b => b) x x') (hf : ∀ v h h', Sim s h h' → FlS s (f v h) (f' v h')) : FlS s (flowT x σ f) (flowT x' (renE s σ) f') := by
  cases x with
  | ok v h => obtain ⟨h', rfl, S⟩ := hx; exact hf v h h' S
  | exc e h => obtain ⟨h', rfl, S⟩ := hx; exact ⟨h', rfl, S⟩
  | bad => trivial
theorem OutS.fl {x x' : Out Env} (hx : OutS s (renE s) x x') : FlS s x.fl x'.fl := by
  cases x with
  | ok v h => obtain ⟨h', rfl, S⟩ := hx; exact ⟨h', rfl, S⟩
  | exc e h => trivial
  | bad => trivial
theorem q_nx : QS s sNx := fun c σ h h' C S => ⟨h', rfl, S⟩
theorem q_seq {a b : Sx} (ha : QS s a) (hb : QS s b) : QS s (sSeq a b) := fun c σ h h' C S => FlS.seq (ha c σ h h' C S) fun σ h h' S => hb c σ h h' C S
theorem q_expr {e : Ex} (he : QE s e) : QS s (sExpr e) := fun c σ h h' C S => OutS.flow (he c σ h h' C S) fun v h h' S => ⟨h', rfl, S⟩
theorem q_asg {g : Gx} {e : Ex} (hg : QG s g) (he : QE s e) : QS s (sAsg g e) := fun c σ h h' C S => OutS.flow (he c σ h h' C S) fun v h h' S => OutS.fl (hg v c σ h h' C S)
theorem q_ret {e : Ex} (he : QE s e) : QS s (sRet e) := fun c σ h h' C S => OutS.flow (he c σ h h' C S) fun v h h' S => ⟨h', rfl, S⟩
theorem q_retN : QS s sRetN := fun c σ h h' C S => ⟨h', rfl, S⟩
theorem q_sif {t : Tx} {a b : Sx} (ht : QT s t) (ha : QS s a) (hb : QS s b) : QS s (sIf t a b) := fun c σ h h' C S => OutS.flowT (ht c σ h h' C S) fun k h h' S => by
  cases k with
  | true => exact ha c σ h h' C S
  | false => exact hb c σ h h' C S
theorem forL_ren {g : Gx} {b : Sx} {c : Ctx} (hg : QG s g) (hb : QS s b) (C : CtxS s c) (t : Src) : ∀ (f k : Nat) (σ : Env) (h h' : IH), Sim s h h' → FlS s (forL t g b c f k σ h) (forL (renS s t) g b c f k (renE s σ) h')
  | 0, k, σ, h, h', S => by
    show FlS s (match t.at k h with
      | .stop => .nx σ h
      | _ => .bad) (match (renS s t).at k h' with
      | .stop => .nx (renE s σ) h'
      | _ => .bad)
    rcases at_ren S t k with e | e
    · rw [e]; trivial
    · rw [e]
      cases t.at k h with
      | stop => exact ⟨h', rfl, S⟩
      | _ => trivial
  | f + 1, k, σ, h, h', S => by
    show FlS s (match t.at k h with
      | .stop => .nx σ h
      | .yld v => ((g v c σ h).fl.seq fun σ h => b c σ h).turn fun σ h => forL t g b c f (k + 1) σ h
      | .bad => .bad) (match (renS s t).at k h' with
      | .stop => .nx (renE s σ) h'
      | .yld v => ((g v c (renE s σ) h').fl.seq fun σ h => b c σ h).turn fun σ h => forL (renS s t) g b c f (k + 1) σ h
      | .bad => .bad)
    rcases at_ren S t k with e | e
    · rw [e]; trivial
    · rw [e]
      cases t.at k h with
      | stop => exact ⟨h', rfl, S⟩
      | bad => trivial
      | yld v => exact FlS.turn (FlS.seq (OutS.fl (hg v c σ h h' C S)) fun σ h h' S => hb c σ h h' C S) fun σ h h' S => forL_ren hg hb C t f (k + 1) σ h h' S
theorem q_for {it : Ix} {g : Gx} {b : Sx} (hi : QI s it) (hg : QG s g) (hb : QS s b) : QS s (sFor it g b) := fun c σ h h' C S => by
  have h1 := hi.sim c σ h h' C S
  show FlS s (match it c σ h with
    | .ok t h => forL t g b c (t.len h) 0 σ h
    | .exc e h => .exc e σ h
    | .bad => .bad) (match it c (renE s σ) h' with
    | .ok t h => forL t g b c (t.len h) 0 (renE s σ) h
    | .exc e h => .exc e (renE s σ) h
    | .bad => .bad)
  cases e : it c σ h with
  | ok t h2 =>
    rw [e] at h1
    obtain ⟨h2', q, S2⟩ := h1
    rw [q]
    show FlS s (forL t g b c (t.len h2) 0 σ h2) (forL (renS s t) g b c ((renS s t).len h2') 0 (renE s σ) h2')
    rw [len_ren S2 t ⟨0, hi.good c σ h t h2 e⟩]
    exact forL_ren hg hb C t _ 0 σ h2 h2' S2
  | exc v h2 => rw [e] at h1; obtain ⟨h2', q, S2⟩ := h1; rw [q]; exact ⟨h2', rfl, S2⟩
  | bad => trivial
theorem whlL_ren {t : Tx} {b : Sx} {c : Ctx} (ht : QT s t) (hb : QS s b) (C : CtxS s c) : ∀ (f : Nat) (σ : Env) (h h' : IH), Sim s h h' → FlS s (whlL t b c f σ h) (whlL t b c f (renE s σ) h')
  | 0, _, _, _, _ => trivial
  | f + 1, σ, h, h', S => OutS.flowT (ht c σ h h' C S) fun k h h' S => by
    cases k with
    | true => exact FlS.turn (hb c σ h h' C S) fun σ h h' S => whlL_ren ht hb C f σ h h' S
    | false => exact ⟨h', rfl, S⟩
theorem q_whl {t : Tx} {b : Sx} (ht : QT s t) (hb : QS s b) : QS s (sWhl t b) := fun c σ h h' C S => whlL_ren ht hb C whileMax σ h h' S
/-! ### programs -/
theorem renE_start (vs : List IV) (pre : List (Option IV)) (k : Nat) : renE s (vs.map some ++ pre ++ List.replicate k none) = (vs.map (renV s)).map some ++ pre.map (fun o => o.map (renV s)) ++ List.replicate k none := by
  unfold renE
  rw [List.map_append, List.map_append, List.map_map, List.map_map, List.map_replicate]; rfl
theorem FlS.out {x x' : Fl} (hx : FlS s x x') : OutS s (renV s) x.out x'.out := by
  cases x with
  | nx σ h => obtain ⟨h', rfl, S⟩ := hx; exact ⟨h', rfl, S⟩
  | ret v h => obtain ⟨h', rfl, S⟩ := hx; exact ⟨h', rfl, S⟩
  | exc e σ h => obtain ⟨h', rfl, S⟩ := hx; exact ⟨h', rfl, S⟩
  | _ => trivial
theorem runDf_ren {d : Option Df} {c : Ctx} (hd : ∀ e, d = some e → QS s e.body) (C : CtxS s c) (pre : List (Option IV)) (vs : List IV) {h h' : IH} (S : Sim s h h') : OutS s (renV s) (runDf d c pre vs h) (runDf d c (pre.map fun o => o.map (renV s)) (vs.map (renV s)) h') := by
  cases d with
  | none => trivial
  | some d =>
    show OutS s (renV s) (if vs.length = d.p then (d.body c (vs.map some ++ pre ++ List.replicate (d.N - vs.length - pre.length) none) h).out else .bad) (if (vs.map (renV s)).length = d.p then (d.body c ((vs.map (renV s)).map some ++ (pre.map fun o => o.map (renV s)) ++ List.replicate (d.N - (vs.map (renV s)).length - (pre.map fun o => o.map (renV s)).length) none) h').out else .bad)
    rw [List.length_map, List.length_map]
    by_cases e : vs.length = d.p
    · rw [if_pos e, if_pos e, ← renE_start]
      exact FlS.out (hd d rfl c _ h h' C S)
    · rw [if_neg e]; trivial
structure ProgS (s : Sub) (P : Prog) : Prop where
  df : ∀ g d, P.df g = some d → QS s d.body
  lm : ∀ g d, P.lm g = some d → QS s d.body
theorem ctxS (P : Prog) (hP : ProgS s P) : ∀ n, CtxS s (ctx P n)
  | 0 => ⟨fun _ _ _ _ _ => trivial, fun _ _ _ _ _ _ => trivial⟩
  | n + 1 => ⟨fun g vs h h' S => runDf_ren (hP.df g) (ctxS P hP n) [] vs S, fun k cs vs h h' S => runDf_ren (hP.lm k) (ctxS P hP n) cs vs S⟩
end MI
end

section
set_option Elab.async false
set_option linter.all false
set_option maxRecDepth 100000
set_option autoImplicit false
set_option maxHeartbeats 1000000
/-! MI, a run goes over to a bigger heap: comprehensions, enumerate, zip; the use of it. -/
namespace MI
open PySem L2
variable {s : Sub}
theorem renE_setN (σ : Env) (i : Nat) : renE s (σ.set i none) = (renE s σ).set i none := by
  unfold renE
  rw [List.map_set]; rfl
theorem renE_wipe (σ : Env) : ∀ vs : List Nat, renE s (wipeE σ vs) = wipeE (renE s σ) vs
  | [] => rfl
  | v :: vs => by
    show renE s ((wipeE σ vs).set v none) = (wipeE (renE s σ) vs).set v none
    rw [renE_setN, renE_wipe σ vs]
theorem lcL_ren {g : Gx} {t : Tx} {e : Ex} {c : Ctx} (hg : QG s g) (ht : QT s t) (he : QE s e) (C : CtxS s c) (u : Src) (σ : Env) (d : Nat) : ∀ (f k : Nat) (h h' : IH), Sim s h h' → OutS s (renV s) (lcL u g t e c σ d f k h) (lcL (renS s u) g t e c (renE s σ) (s.ρ d) f k h')
  | 0, k, h, h', S => by
    show OutS s (renV s) (match u.at k h with
      | .stop => .ok (.ref d) h
      | _ => .bad) (match (renS s u).at k h' with
      | .stop => .ok (.ref (s.ρ d)) h'
      | _ => .bad)
    rcases at_ren S u k with q | q
    · rw [q]; trivial
    · rw [q]
      cases u.at k h with
      | stop => exact ⟨h', rfl, S⟩
      | _ => trivial
  | f + 1, k, h, h', S => by
    unfold lcL
    rcases at_ren S u k with q | q
    · rw [q]; trivial
    · rw [q]
      cases u.at k h with
      | stop => exact ⟨h', rfl, S⟩
      | bad => trivial
      | yld v =>
        have h1 := hg v c σ h h' C S
        simp only [renN]
        cases e1 : g v c σ h with
        | exc _ _ => trivial
        | bad => trivial
        | ok σ1 h2 =>
          rw [e1] at h1
          obtain ⟨h2', q1, S1⟩ := h1
          rw [q1]
          have h3 := ht c σ1 h2 h2' C S1
          simp only []
          cases e2 : t c σ1 h2 with
          | exc _ _ => trivial
          | bad => trivial
          | ok b h4 =>
            rw [e2] at h3
            obtain ⟨h4', q2, S2⟩ := h3
            rw [q2]
            cases b with
            | false => exact lcL_ren hg ht he C u σ d f (k + 1) h4 h4' S2
            | true =>
              have h5 := he c σ1 h4 h4' C S2
              simp only []
              cases e3 : e c σ1 h4 with
              | exc _ _ => trivial
              | bad => trivial
              | ok y h6 =>
                rw [e3] at h5
                obtain ⟨h6', q3, S3⟩ := h5
                rw [q3]
                simp only []
                cases e4 : h6.get d with
                | none => trivial
                | some o =>
                  rw [S3.ob d o e4]
                  cases o with
                  | lst acc =>
                    show OutS s (renV s) (if acc.length < sizeLine then lcL u g t e c σ d f (k + 1) (h6.put d (.lst (acc ++ [y]))) else .bad) (if (acc.map (renV s)).length < sizeLine then lcL (renS s u) g t e c (renE s σ) (s.ρ d) f (k + 1) (h6'.put (s.ρ d) (.lst (acc.map (renV s) ++ [renV s y]))) else .bad)
                    rw [List.length_map]
                    by_cases hz : acc.length < sizeLine
                    · rw [if_pos hz, if_pos hz]
                      have S4 := S3.put e4 (.lst (acc ++ [y]))
                      rw [show renO s (.lst (acc ++ [y])) = .lst (acc.map (renV s) ++ [renV s y]) from by show IO.lst _ = _; rw [List.map_append]; rfl] at S4
                      exact lcL_ren hg ht he C u σ d f (k + 1) _ _ S4
                    · rw [if_neg hz]; trivial
                  | dct _ => trivial
                  | dcT _ => trivial
                  | lam _ _ => trivial
theorem q_lc {own : List Nat} {it : Ix} {g : Gx} {t : Tx} {e : Ex} (hi : QI s it) (hg : QG s g) (ht : QT s t) (he : QE s e) : QE s (eLc own it g t e) := fun c σ h0 h0' C S0 => by
  have h1 := hi.sim c σ h0 h0' C S0
  show OutS s (renV s) ((it c σ h0).bind fun u h => lcL u g t e c (wipeE σ own) h.n (u.len h) 0 (h.push (.lst []))) ((it c (renE s σ) h0').bind fun u h => lcL u g t e c (wipeE (renE s σ) own) h.n (u.len h) 0 (h.push (.lst [])))
  cases q : it c σ h0 with
  | ok u h =>
    rw [q] at h1
    obtain ⟨h', q2, S⟩ := h1
    rw [q2]
    show OutS s (renV s) (lcL u g t e c (wipeE σ own) h.n (u.len h) 0 (h.push (.lst []))) (lcL (renS s u) g t e c (wipeE (renE s σ) own) h'.n ((renS s u).len h') 0 (h'.push (.lst [])))
    rw [← renE_wipe, ← S.eN, len_ren S u ⟨0, hi.good c σ h0 u h q⟩]
    exact lcL_ren hg ht he C u _ h.n _ 0 _ _ (S.push (.lst []))
  | exc v h => rw [q] at h1; obtain ⟨h', q2, S⟩ := h1; rw [q2]; exact ⟨h', rfl, S⟩
  | bad => trivial
theorem q_enum {a : Ex} (ha : QE s a) : QI s (iEnumL a) := ⟨fun c σ h h' C S => OutS.bind (ha c σ h h' C S) fun v h h' S => by
  show OutS s (renS s) (fEnum v h) (fEnum (renV s v) h')
  unfold fEnum
  cases e : srcOf h v with
  | none => trivial
  | some t =>
    rw [srcOf_ren S e]
    cases t with
    | lst i => exact ⟨h', rfl, S⟩
    | _ => trivial, fun c σ h u h2 e => by
  obtain ⟨v, h3, _, e2⟩ := bind_ok e
  change fEnum v h3 = _ at e2
  unfold fEnum at e2
  cases q : srcOf h3 v with
  | none => rw [q] at e2; cases e2
  | some t =>
    rw [q] at e2
    cases t with
    | lst i =>
      cases e2
      have := srcOf_good q 0
      show (match (Src.lst i).at 0 h2 with | .yld v => Nx.yld (.tup [.int (0 : Nat), v]) | x => x) ≠ .bad
      cases w : (Src.lst i).at 0 h2 with
      | bad => exact absurd w this
      | _ => exact fun z => nomatch z
    | _ => cases e2⟩
theorem both_good {x y : Nx} (h1 : x ≠ .bad) (h2 : y ≠ .bad) : Nx.both x y ≠ .bad := by
  cases x with
  | bad => exact absurd rfl h1
  | stop => cases y with
    | bad => exact absurd rfl h2
    | _ => exact fun z => nomatch z
  | yld v => cases y with
    | bad => exact absurd rfl h2
    | _ => exact fun z => nomatch z
theorem q_zip {a b : Ex} (ha : QE s a) (hb : QE s b) : QI s (iZip2 a b) := ⟨fun c σ h h' C S => OutS.bind (ha c σ h h' C S) fun v h h' S => OutS.bind (hb c σ h h' C S) fun u h h' S => by
  show OutS s (renS s) (fZip v u h) (fZip (renV s v) (renV s u) h')
  unfold fZip
  cases e : srcOf h v with
  | none => trivial
  | some t =>
    cases e2 : srcOf h u with
    | none => cases t <;> trivial
    | some t2 =>
      rw [srcOf_ren S e, srcOf_ren S e2]
      cases t with
      | lst i => cases t2 with
        | lst j => exact ⟨h', rfl, S⟩
        | _ => trivial
      | tup i => cases t2 with
        | tup j => exact ⟨h', rfl, S⟩
        | _ => trivial
      | _ => cases t2 <;> trivial, fun c σ h u h2 e => by
  obtain ⟨v, h3, _, e2⟩ := bind_ok e
  obtain ⟨w, h4, _, e3⟩ := bind_ok e2
  change fZip v w h4 = _ at e3
  unfold fZip at e3
  cases q : srcOf h4 v with
  | none => rw [q] at e3; cases e3
  | some t =>
    cases q2 : srcOf h4 w with
    | none => rw [q, q2] at e3; cases t <;> cases e3
    | some t2 =>
      rw [q, q2] at e3
      have g1 := srcOf_good q 0
      have g2 := srcOf_good q2 0
      cases t with
      | lst i => cases t2 with
        | lst j => cases e3; exact both_good g1 g2
        | _ => cases e3
      | tup i => cases t2 with
        | tup j => cases e3; exact both_good g1 g2
        | _ => cases e3
      | _ => cases t2 <;> cases e3⟩
theorem q_tyes : QT s tYes := fun c σ h h' C S => ⟨h', rfl, S⟩
end MI
end

section
set_option Elab.async false
set_option linter.all false
set_option maxRecDepth 100000
set_option autoImplicit false
set_option maxHeartbeats 1000000
/-! the stream of draws: contracts of _law_draw, _law_mixed -/
namespace MI
open PySem L2
structure Ext (P : Nat → Prop) (h h' : IH) : Prop where
  n : h.n ≤ h'.n
  g : ∀ j, j < h.n → P j → h'.get j = h.get j
variable {P : Nat → Prop} {h h1 h2 : IH}
theorem Ext.refl : Ext P h h := ⟨Nat.le_refl _, fun _ _ _ => rfl⟩
theorem Ext.trans (a : Ext P h h1) (b : Ext P h1 h2) : Ext P h h2 := ⟨Nat.le_trans a.n b.n, fun j l p => (b.g j (Nat.lt_of_lt_of_le l a.n) p).trans (a.g j l p)⟩
theorem Ext.push (o : IO) : Ext P h (h.push o) := ⟨Nat.le_succ _, fun j l _ => by rw [IH.get_push, if_neg (Nat.ne_of_lt l)]⟩
theorem Ext.put {i : Nat} (o : IO) (hp : ¬ P i) : Ext P h (h.put i o) := ⟨Nat.le_refl _, fun j l p => by rw [IH.get_put, if_neg (fun e => hp (by rw [← e]; exact p))]⟩
theorem Ext.imp {Q : Nat → Prop} (a : Ext P h h1) (k : ∀ j, j < h.n → Q j → P j) : Ext Q h h1 := ⟨a.n, fun j l q => a.g j l (k j l q)⟩
theorem vGet_set_ne {σ : Env} {i j : Nat} {v : Option IV} (n : i ≠ j) : vGet (σ.set i v) j = vGet σ j := by
  unfold vGet; rw [List.getElem?_set_ne n]
theorem vGet_set_eq {σ : Env} {i : Nat} {v : IV} (l : i < σ.length) : vGet (σ.set i (some v)) i = some v := by
  unfold vGet; rw [List.getElem?_set_self l]
/-- a stream object -/
structure Str (h : IH) (r q : Nat) (ns : List Int) (v1 v2 v3 : Int) : Prop where
  s : h.get r = some (.lst [.ref q, .int v1, .int v2, .int v3])
  c : h.get q = some (.lst (ns.map .int))
  ne : r ≠ q
  lr : r < h.n
  lq : q < h.n
variable {r q : Nat} {ns : List Int} {v1 v2 v3 : Int}
theorem Str.wr (S : Str h r q ns v1 v2 v3) (a b d : Int) : Str (h.put r (.lst [.ref q, .int a, .int b, .int d])) r q ns a b d :=
  ⟨by rw [IH.get_put, if_pos rfl], by rw [IH.get_put, if_neg (Ne.symm S.ne)]; exact S.c, S.ne, S.lr, S.lq⟩
theorem Str.cut (S : Str h r q ns v1 v2 v3) (ms : List Int) : Str (h.put q (.lst (ms.map .int))) r q ms v1 v2 v3 :=
  ⟨by rw [IH.get_put, if_neg S.ne]; exact S.s, by rw [IH.get_put, if_pos rfl], S.ne, S.lr, S.lq⟩
theorem Str.ext (S : Str h r q ns v1 v2 v3) (hp : P r ∧ P q) (e : Ext P h h1) : Str h1 r q ns v1 v2 v3 :=
  ⟨(e.g r S.lr hp.1).trans S.s, (e.g q S.lq hp.2).trans S.c, S.ne, Nat.lt_of_lt_of_le S.lr e.n, Nat.lt_of_lt_of_le S.lq e.n⟩
/-- all but the stream -/
def off (r q : Nat) : Nat → Prop := fun j => j ≠ r ∧ j ≠ q
theorem off_r : ¬ off r q r := fun h => h.1 rfl
theorem off_q : ¬ off r q q := fun h => h.2 rfl
theorem fEq_int (i j : Int) (h : IH) : fEq (.int i) (.int j) h = .ok (.bl (i == j)) h := rfl
theorem fNe_nil {m : Nat} {vs : List IV} (e1 : h.get q = some (.lst vs)) (e2 : h.get m = some (.lst [])) (hn : q ≠ m) : fNe (.ref q) (.ref m) h = .ok (.bl (!vs.isEmpty)) h := by
  have e : eqv h 60 (.ref q) (.ref m) = some vs.isEmpty := by
    show (match h.get q, h.get m with
      | some (.lst xs), some (.lst ys) => if q = m then some true else if xs.length = ys.length then all2 (eqv h 59) xs ys else some false
      | _, _ => kdNe h (.ref q) (.ref m)) = _
    rw [e1, e2]
    show (if q = m then some true else if vs.length = 0 then all2 (eqv h 59) vs [] else some false) = _
    rw [if_neg hn]
    cases vs with
    | nil => rfl
    | cons v vs => rfl
  show Out.of ((eqv h 60 (.ref q) (.ref m)).map fun k => IV.bl (!k)) h = _
  rw [e]; rfl
/-! _law_draw -/
def dS1 : Sx := sAsg (gSub fSetL (eVar 0) (eCon (.int 2))) (eOp fAdd (eOp fIdx (eVar 0) (eCon (.int 2))) (eCon (.int 1)))
def dW : Tx := MI.tAnd (tBl (eOp fEq (eOp fIdx (eVar 0) (eCon (.int 1))) (eCon (.int 0)))) (tBl (eOp fNe (eOp fIdx (eVar 0) (eCon (.int 0))) (eLst lNil)))
def dB1 : Sx := sAsg (MI.gName 2) (eMeth .lst fPopAt (eOp fIdx (eVar 0) (eCon (.int 0))) (lCons (eCon (.int 0)) lNil))
def dB2 : Sx := sAsg (gSub fSetL (eVar 0) (eCon (.int 3))) (eOp fMod (ePrim pInt (lCons (eOp fAdd (eOp fAdd (eOp fMulI (eOp fIdx (eVar 0) (eCon (.int 3))) (eCon (.int 72103))) (eVar 2)) (eCon (.int 43))) lNil)) (eCon (.int 2147483647)))
def dB3 : Sx := sAsg (gSub fSetL (eVar 0) (eCon (.int 1))) (eIf (tBl (eOp fGe (eVar 2) (eOp fPow (eCon (.int 10)) (eCon (.int 18))))) (eVar 2) (eCon (.int 0)))
def dB : Sx := sSeq dB1 (sSeq dB2 (sSeq dB3 sNx))
def dI1 : Sx := sAsg (MI.gName 3) (eOp fMod (ePrim pInt (lCons (eOp fIdx (eVar 0) (eCon (.int 1))) lNil)) (eVar 1))
def dI2 : Sx := sAsg (gSub fSetL (eVar 0) (eCon (.int 1))) (eOp fFdiv (eOp fIdx (eVar 0) (eCon (.int 1))) (eVar 1))
def dI : Sx := sIf (tBl (eOp fGt (eOp fIdx (eVar 0) (eCon (.int 1))) (eCon (.int 0)))) (sSeq dI1 (sSeq dI2 (sSeq (sRet (eVar 3)) sNx))) sNx
def dM : Sx := sAsg (MI.gName 4) (eOp fMod (ePrim pInt (lCons (eOp fPow (eOp fAdd (eOp fAdd (eOp fIdx (eVar 0) (eCon (.int 3))) (eOp fMulI (eCon (.int 9161)) (eOp fIdx (eVar 0) (eCon (.int 2))))) (eCon (.int 190027))) (eCon (.int 5))) lNil)) (eCon (.int 2147483629)))
def dR : Sx := sRet (eOp fMod (eOp fMod (ePrim pInt (lCons (eOp fPow (eOp fAdd (eOp fAdd (eOp fMulI (eVar 4) (eCon (.int 63029))) (eOp fMulI (eCon (.int 74017)) (eOp fIdx (eVar 0) (eCon (.int 2))))) (eCon (.int 61))) (eCon (.int 3))) lNil)) (eCon (.int 1000000007))) (eVar 1))
def drawB : Sx := sSeq dS1 (sSeq (sWhl dW dB) (sSeq dI (sSeq dM (sSeq dR sNx))))
variable {c : MI.Ctx} {σ : MI.Env}
theorem dS1_run (S : Str h r q ns v1 v2 v3) (hσ : vGet σ 0 = some (.ref r)) : dS1 c σ h = .nx σ (h.put r (.lst [.ref q, .int v1, .int (v2 + 1), .int v3])) := by
  have e := S.s
  simp [dS1, sAsg, flow, gSub, eOp, Out.bind, eVar, Out.of, hσ, eCon, fIdx, e, L2.atI, L2.ixN, fAdd, fSetL, Out.fl]
theorem dW_run (S : Str h r q ns v1 v2 v3) (hσ : vGet σ 0 = some (.ref r)) :
    dW c σ h = if v1 = 0 then .ok (!ns.isEmpty) (h.push (.lst [])) else .ok false h := by
  have e := S.s
  have e1 := S.c
  by_cases z : v1 = 0
  · subst z
    have g1 : (h.push (.lst [])).get q = some (.lst (ns.map .int)) := by rw [IH.get_push, if_neg (Nat.ne_of_lt S.lq)]; exact e1
    have g2 : (h.push (.lst [])).get h.n = some (.lst []) := by rw [IH.get_push, if_pos rfl]
    have g3 := fNe_nil g1 g2 (Nat.ne_of_lt S.lq)
    simp [dW, MI.tAnd, tBl, eOp, Out.bind, eVar, Out.of, hσ, eCon, fIdx, e, L2.atI, L2.ixN, fEq_int, eLst, ePrim, lNil, pLst, g3, sizeLine_eq]
  · simp [dW, MI.tAnd, tBl, eOp, Out.bind, eVar, Out.of, hσ, eCon, fIdx, e, L2.atI, L2.ixN, fEq_int, z]
theorem dB1_run {z : Int} (S : Str h r q (z :: ns) v1 v2 v3) (hσ : vGet σ 0 = some (.ref r)) : dB1 c σ h = .nx (σ.set 2 (some (.int z))) (h.put q (.lst (ns.map .int))) := by
  have e := S.s
  have e1 := S.c
  simp [dB1, sAsg, flow, MI.gName, eMeth, eOp, Out.bind, eVar, Out.of, hσ, eCon, fIdx, e, L2.atI, L2.ixN, lCons, lNil, kind, e1, fPopAt, onL, seqIndex?, Out.fl]
theorem dB2_run {z : Int} (S : Str h r q ns v1 v2 v3) (hσ : vGet σ 0 = some (.ref r)) (h2 : vGet σ 2 = some (.int z)) : dB2 c σ h = .nx σ (h.put r (.lst [.ref q, .int v1, .int v2, .int ((v3 * 72103 + z + 43) % 2147483647)])) := by
  have e := S.s
  simp [dB2, sAsg, flow, gSub, eOp, Out.bind, eVar, Out.of, hσ, h2, eCon, fIdx, e, L2.atI, L2.ixN, lCons, lNil, fAdd, fMulI, fMod, fInt, cMul, cMod, ePrim, pInt, one, fSetL, Out.fl]
theorem dB3_run {z : Int} (S : Str h r q ns v1 v2 v3) (hσ : vGet σ 0 = some (.ref r)) (h2 : vGet σ 2 = some (.int z)) : dB3 c σ h = .nx σ (h.put r (.lst [.ref q, .int (if 1000000000000000000 ≤ z then z else 0), .int v2, .int v3])) := by
  have e := S.s
  by_cases w : (1000000000000000000 : Int) ≤ z
  · simp [dB3, sAsg, flow, gSub, eOp, eIf, tBl, Out.bind, eVar, Out.of, hσ, h2, eCon, fIdx, e, L2.atI, L2.ixN, fGe, fInt0, fPow, fInt, cPow, fSetL, Out.fl, w]
  · simp [dB3, sAsg, flow, gSub, eOp, eIf, tBl, Out.bind, eVar, Out.of, hσ, h2, eCon, fIdx, e, L2.atI, L2.ixN, fGe, fInt0, fPow, fInt, cPow, fSetL, Out.fl, w]
theorem dB_run {z : Int} (S : Str h r q (z :: ns) v1 v2 v3) (h0 : vGet σ 0 = some (.ref r)) (hl : σ.length = 5) : dB c σ h = .nx (σ.set 2 (some (.int z))) (((h.put q (.lst (ns.map .int))).put r (.lst [.ref q, .int v1, .int v2, .int ((v3 * 72103 + z + 43) % 2147483647)])).put r (.lst [.ref q, .int (if 1000000000000000000 ≤ z then z else 0), .int v2, .int ((v3 * 72103 + z + 43) % 2147483647)])) := by
  have S2 := S.cut ns
  have h0' : vGet (σ.set 2 (some (.int z))) 0 = some (.ref r) := by rw [vGet_set_ne (by decide)]; exact h0
  have h2' : vGet (σ.set 2 (some (.int z))) 2 = some (.int z) := vGet_set_eq (by rw [hl]; decide)
  have S3 := S2.wr v1 v2 ((v3 * 72103 + z + 43) % 2147483647)
  show (dB1 c σ h).seq _ = _
  rw [dB1_run S h0]
  show (dB2 c _ _).seq _ = _
  rw [dB2_run S2 h0' h2']
  show (dB3 c _ _).seq _ = _
  rw [dB3_run S3 h0' h2']
  rfl
/-- what a stream keeps -/
structure StrOk (v1 v2 v3 : Int) : Prop where
  a : 0 ≤ v1
  b : 0 ≤ v2
  b2 : v2 < 1000000000
  d : 0 ≤ v3
  d2 : v3 < 2147483647
theorem whl_run : ∀ (ns : List Int) (f : Nat) (h : IH) (v1 v3 : Int) (σ : Env), ns.length + 2 ≤ f → Str h r q ns v1 v2 v3 → StrOk v1 v2 v3 → vGet σ 0 = some (.ref r) → σ.length = 5 →
    ∃ σ' h' ns' v1' v3', whlL dW dB c f σ h = .nx σ' h' ∧ vGet σ' 0 = some (.ref r) ∧ vGet σ' 1 = vGet σ 1 ∧ σ'.length = 5 ∧ Str h' r q ns' v1' v2 v3' ∧ StrOk v1' v2 v3' ∧ ns'.length ≤ ns.length ∧ Ext (off r q) h h' := by
  intro ns
  induction ns with
  | nil =>
    intro f h v1 v3 σ hf S K h0 hl
    obtain ⟨f, rfl⟩ : ∃ g, f = g + 1 := ⟨f - 1, by simp at hf; omega⟩
    by_cases z : v1 = 0
    · exact ⟨σ, h.push (.lst []), [], v1, v3, by unfold whlL; rw [dW_run S h0, if_pos z]; rfl, h0, rfl, hl, S.ext (P := fun _ => True) ⟨trivial, trivial⟩ (Ext.push _), K, Nat.le_refl _, Ext.push _⟩
    · exact ⟨σ, h, [], v1, v3, by unfold whlL; rw [dW_run S h0, if_neg z]; rfl, h0, rfl, hl, S, K, Nat.le_refl _, Ext.refl⟩
  | cons a ns ihn =>
    intro f h v1 v3 σ hf S K h0 hl
    obtain ⟨f, rfl⟩ : ∃ g, f = g + 1 := ⟨f - 1, by simp at hf; omega⟩
    by_cases z : v1 = 0
    · have S1 : Str (h.push (.lst [])) r q (a :: ns) v1 v2 v3 := S.ext (P := fun _ => True) ⟨trivial, trivial⟩ (Ext.push _)
      have S2 := S1.cut ns
      have h0' : vGet (σ.set 2 (some (.int a))) 0 = some (.ref r) := by rw [vGet_set_ne (by decide)]; exact h0
      have h2' : vGet (σ.set 2 (some (.int a))) 2 = some (.int a) := vGet_set_eq (by rw [hl]; decide)
      have S3 := S2.wr v1 v2 ((v3 * 72103 + a + 43) % 2147483647)
      have S4 := S3.wr (if 1000000000000000000 ≤ a then a else 0) v2 ((v3 * 72103 + a + 43) % 2147483647)
      have K4 : StrOk (if 1000000000000000000 ≤ a then a else 0) v2 ((v3 * 72103 + a + 43) % 2147483647) := ⟨by split <;> omega, K.b, K.b2, by omega, by omega⟩
      obtain ⟨σ', h', ns', v1', v3', e1, e2, e3, e4, e5, e6, e7, e8⟩ := ihn f _ _ _ (σ.set 2 (some (.int a))) (by simp at hf ⊢; omega) S4 K4 h0' (by rw [List.length_set]; exact hl)
      refine ⟨σ', h', ns', v1', v3', ?_, e2, e3.trans (vGet_set_ne (by decide)), e4, e5, e6, Nat.le_trans e7 (by simp), ?_⟩
      · unfold whlL
        rw [dW_run S h0, if_pos z]
        show (dB c σ (h.push (.lst []))).turn _ = _
        rw [dB_run S1 h0 hl]
        exact e1
      · exact ((Ext.push _).trans ((Ext.put _ off_q).trans ((Ext.put _ off_r).trans (Ext.put _ off_r)))).trans e8
    · exact ⟨σ, h, a :: ns, v1, v3, by unfold whlL; rw [dW_run S h0, if_neg z]; rfl, h0, rfl, hl, S, K, Nat.le_refl _, Ext.refl⟩
theorem dI_no (S : Str h r q ns v1 v2 v3) (hσ : vGet σ 0 = some (.ref r)) (z : ¬ 0 < v1) : dI c σ h = .nx σ h := by
  have e := S.s
  simp [dI, sIf, flowT, tBl, eOp, Out.bind, eVar, Out.of, hσ, eCon, fIdx, e, L2.atI, L2.ixN, fGt, fInt0, z, sNx]
theorem dI_yes {many : Int} (S : Str h r q ns v1 v2 v3) (hl : σ.length = 5) (hσ : vGet σ 0 = some (.ref r)) (h1 : vGet σ 1 = some (.int many)) (hm : 0 < many) (hm2 : many < 1073741824) (z : 0 < v1) : dI c σ h = .ret (.int (v1 % many)) (h.put r (.lst [.ref q, .int (v1 / many), .int v2, .int v3])) := by
  have e := S.s
  have a0 : vGet (σ.set 3 (some (.int (v1 % many)))) 0 = some (.ref r) := by rw [vGet_set_ne (by decide)]; exact hσ
  have a1 : vGet (σ.set 3 (some (.int (v1 % many)))) 1 = some (.int many) := by rw [vGet_set_ne (by decide)]; exact h1
  have a3 : vGet (σ.set 3 (some (.int (v1 % many)))) 3 = some (.int (v1 % many)) := vGet_set_eq (by rw [hl]; decide)
  simp [dI, dI1, dI2, sIf, flowT, tBl, sSeq, Fl.seq, sAsg, flow, MI.gName, gSub, sRet, eOp, Out.bind, eVar, Out.of, hσ, h1, a0, a1, a3, eCon, fIdx, e, L2.atI, L2.ixN, fGt, fInt0, fMod, fInt, cMod, fFdiv, cDiv, ePrim, lCons, lNil, pInt, one, fSetL, Out.fl, z, hm, hm2]
theorem dM_run (S : Str h r q ns v1 v2 v3) (K : StrOk v1 v2 v3) (hσ : vGet σ 0 = some (.ref r)) : ∃ m, dM c σ h = .nx (σ.set 4 (some (.int m))) h ∧ 0 ≤ m ∧ m < 2147483629 := by
  have e := S.s
  have b := K.b
  have b2 := K.b2
  have d := K.d
  have d2 := K.d2
  have p : cPow (v3 + 9161 * v2 + 190027) 5 = true := by
    simp only [cPow, Bool.and_eq_true, decide_eq_true_eq]
    omega
  refine ⟨(v3 + 9161 * v2 + 190027) ^ 5 % 2147483629, ?_, by omega, by omega⟩
  simp [dM, sAsg, flow, MI.gName, eOp, Out.bind, eVar, Out.of, hσ, eCon, fIdx, e, L2.atI, L2.ixN, lCons, lNil, fAdd, fMulI, fMod, fPow, fInt, cMul, cMod, p, ePrim, pInt, one, Out.fl]
theorem dR_run {m many : Int} (S : Str h r q ns v1 v2 v3) (K : StrOk v1 v2 v3) (hσ : vGet σ 0 = some (.ref r)) (h1 : vGet σ 1 = some (.int many)) (h4 : vGet σ 4 = some (.int m)) (m0 : 0 ≤ m) (m1 : m < 2147483629) (hm : 0 < many) :
    ∃ d, dR c σ h = .ret (.int d) h ∧ 0 ≤ d ∧ d < many := by
  have e := S.s
  have b := K.b
  have b2 := K.b2
  have p : cPow (m * 63029 + 74017 * v2 + 61) 3 = true := by
    simp only [cPow, Bool.and_eq_true, decide_eq_true_eq]
    omega
  refine ⟨(m * 63029 + 74017 * v2 + 61) ^ 3 % 1000000007 % many, ?_, Int.emod_nonneg _ (by omega), Int.emod_lt_of_pos _ hm⟩
  simp [dR, sRet, flow, eOp, Out.bind, eVar, Out.of, hσ, h1, h4, eCon, fIdx, e, L2.atI, L2.ixN, lCons, lNil, fAdd, fMulI, fMod, fPow, fInt, cMul, cMod, p, ePrim, pInt, one, hm]
/-- what a draw does -/
theorem draw_run {many : Int} (S : Str h r q ns v1 v2 v3) (K : StrOk v1 v2 v3) (hn : ns.length < 1000) (hb : v2 + 1 < 1000000000) (hm : 0 < many) (hm2 : many < 1073741824) :
    ∃ d h' ns' v1' v3', (drawB c [some (.ref r), some (.int many), none, none, none] h).out = .ok (.int d) h' ∧ 0 ≤ d ∧ d < many ∧ Str h' r q ns' v1' (v2 + 1) v3' ∧ StrOk v1' (v2 + 1) v3' ∧ ns'.length ≤ ns.length ∧ Ext (off r q) h h' := by
  have S1 := S.wr v1 (v2 + 1) v3
  have K1 : StrOk v1 (v2 + 1) v3 := ⟨K.a, by have := K.b; omega, hb, K.d, K.d2⟩
  obtain ⟨σ', h', ns', v1', v3', e1, e2, e3, e4, e5, e6, e7, e8⟩ := whl_run (c := c) ns whileMax _ v1 v3 [some (.ref r), some (.int many), none, none, none] (by unfold whileMax; omega) S1 K1 rfl rfl
  have x1 := (Ext.put (h := h) (.lst [.ref q, .int v1, .int (v2 + 1), .int v3]) (off_r (r := r) (q := q))).trans e8
  by_cases z : 0 < v1'
  · refine ⟨v1' % many, h'.put r (.lst [.ref q, .int (v1' / many), .int (v2 + 1), .int v3']), ns', v1' / many, v3', ?_, Int.emod_nonneg _ (by omega), Int.emod_lt_of_pos _ hm, e5.wr _ _ _, ⟨Int.ediv_nonneg (by omega) (by omega), e6.b, e6.b2, e6.d, e6.d2⟩, e7, x1.trans (Ext.put _ off_r)⟩
    unfold drawB
    show ((dS1 c _ h).seq _).out = _
    rw [dS1_run S rfl]
    show ((whlL dW dB c whileMax _ _).seq _).out = _
    rw [e1]
    show ((dI c σ' h').seq _).out = _
    rw [dI_yes e5 e4 e2 e3 hm hm2 z]
    rfl
  · obtain ⟨m, q1, m0, m1⟩ := dM_run (c := c) e5 e6 e2
    have a0 : vGet (σ'.set 4 (some (.int m))) 0 = some (.ref r) := by rw [vGet_set_ne (by decide)]; exact e2
    have a1 : vGet (σ'.set 4 (some (.int m))) 1 = some (.int many) := by rw [vGet_set_ne (by decide)]; exact e3
    obtain ⟨d, q2, d0, d1⟩ := dR_run (c := c) e5 e6 a0 a1 (vGet_set_eq (by rw [e4]; decide)) m0 m1 hm
    refine ⟨d, h', ns', v1', v3', ?_, d0, d1, e5, e6, e7, x1⟩
    unfold drawB
    show ((dS1 c _ h).seq _).out = _
    rw [dS1_run S rfl]
    show ((whlL dW dB c whileMax _ _).seq _).out = _
    rw [e1]
    show ((dI c σ' h').seq _).out = _
    rw [dI_no e5 e2 z]
    show ((dM c σ' h').seq _).out = _
    rw [q1]
    show ((dR c _ h').seq _).out = _
    rw [q2]
    rfl
end MI
end

section
set_option Elab.async false
set_option linter.all false
set_option maxRecDepth 100000
set_option autoImplicit false
set_option maxHeartbeats 1000000
/-! the stream of draws: contracts of _law_draw, _law_mixed -/
namespace MI
open PySem L2
/-- a stream object that had v draws -/
def Stm (h : IH) (r q : Nat) (v : Int) : Prop := ∃ ns v1 v3, Str h r q ns v1 v v3 ∧ StrOk v1 v v3 ∧ ns.length < 1000
theorem Stm.ext {P : Nat → Prop} {h h1 : IH} {r q : Nat} {v : Int} (S : Stm h r q v) (hp : P r ∧ P q) (e : Ext P h h1) : Stm h1 r q v := by
  obtain ⟨ns, v1, v3, a, b, d⟩ := S
  exact ⟨ns, v1, v3, a.ext hp e, b, d⟩
theorem Stm.ne {h : IH} {r q : Nat} {v : Int} (S : Stm h r q v) : r ≠ q ∧ r < h.n ∧ q < h.n := by
  obtain ⟨ns, v1, v3, a, b, d⟩ := S
  exact ⟨a.ne, a.lr, a.lq⟩
/-- the draw's contract -/
def DrawC (c : MI.Ctx) (g : Nat) : Prop := ∀ (h : IH) (r q : Nat) (v many : Int), Stm h r q v → v < 900000000 → 0 < many → many < 1073741824 →
  ∃ d h', c.call g [.ref r, .int many] h = .ok (.int d) h' ∧ 0 ≤ d ∧ d < many ∧ Stm h' r q (v + 1) ∧ Ext (off r q) h h'
theorem drawC {P : Prog} {n g : Nat} (hd : P.df g = some ⟨5, 2, drawB⟩) : DrawC (ctx P (n + 1)) g := by
  intro h r q v many ⟨ns, v1, v3, S, K, hl⟩ hv hm hm2
  obtain ⟨d, h', ns', v1', v3', e1, e2, e3, e4, e5, e6, e7⟩ := draw_run (c := ctx P n) S K hl (by omega) hm hm2
  refine ⟨d, h', ?_, e2, e3, ⟨ns', v1', v3', e4, e5, by omega⟩, e7⟩
  show runDf (P.df g) (ctx P n) [] [.ref r, .int many] h = _
  rw [hd]
  exact e1
def mixE (g : Nat) : Ex := eMeth .lst fPopAt (eVar 2) (lCons (eCall g (lCons (eVar 0) (lCons (ePrim pLen (lCons (eVar 2) lNil)) lNil))) lNil)
def mixB (g : Nat) : Sx := sSeq (sAsg (MI.gName 2) (ePrim pList (lCons (eVar 1) lNil))) (sSeq (sRet (eLc [3] (iRng1 (ePrim pLen (lCons (eVar 2) lNil))) (MI.gName 3) tYes (mixE g))) sNx)
variable {c : MI.Ctx} {g : Nat}
theorem popAt_run {h : IH} {l : Nat} {vs : List IV} {d : Int} (e : h.get l = some (.lst vs)) (h0 : 0 ≤ d) (h1 : d < vs.length) (h2 : vs.length < 1073741824) : ∃ y, vs[d.toNat]? = some y ∧ fPopAt (.ref l) [.int d] h = .ok y (h.put l (.lst (vs.eraseIdx d.toNat))) := by
  have hb : d.toNat < vs.length := by omega
  refine ⟨vs[d.toNat], List.getElem?_eq_getElem hb, ?_⟩
  have hs : seqIndex? d vs.length = some d.toNat := by
    unfold seqIndex?
    have : ¬ d < 0 := by omega
    simp [this, h0, h1]
  have hr : -(2 ^ 63) ≤ d ∧ d < 2 ^ 63 := by omega
  simp only [fPopAt, onL, e, hr, and_self, if_true, hs, List.getElem?_eq_getElem hb]
theorem pLen_run {h : IH} {l : Nat} {vs : List IV} (e : h.get l = some (.lst vs)) : pLen [.ref l] h = .ok (.int vs.length) h := by
  simp only [pLen, one, fLenV, e]
  rfl
theorem rng1_run {e : Ex} {σ : MI.Env} {h h1 : IH} {k : Nat} (q : e c σ h = .ok (.int k) h1) (hk : in62 k = true) : iRng1 e c σ h = .ok (.rng 0 k) h1 := by
  simp only [iRng1, q, Out.bind, hk, if_true, Int.toNat_natCast]
theorem mixE_run {σ : Env} {h : IH} {r q l : Nat} {v : Int} {left : List IV} (D : DrawC c g) (S : Stm h r q v) (hv : v < 900000000) (h0 : vGet σ 0 = some (.ref r)) (h2 : vGet σ 2 = some (.ref l)) (e : h.get l = some (.lst left)) (ho : off r q l) (hl : l < h.n) (hz : 0 < left.length) (hz2 : left.length < 1073741824) :
    ∃ (d : Nat) (y : IV) (h' : IH), mixE g c σ h = .ok y h' ∧ left[d]? = some y ∧ h'.get l = some (.lst (left.eraseIdx d)) ∧ Stm h' r q (v + 1) ∧ Ext (fun j => off r q j ∧ j ≠ l) h h' := by
  obtain ⟨d, h1, e1, d0, d1, S1, x1⟩ := D h r q v left.length S hv (by omega) (by omega)
  have e2 : h1.get l = some (.lst left) := (x1.g l hl ho).trans e
  obtain ⟨y, q1, q2⟩ := popAt_run e2 d0 d1 hz2
  refine ⟨d.toNat, y, h1.put l (.lst (left.eraseIdx d.toNat)), ?_, q1, by rw [IH.get_put, if_pos rfl], ?_, ?_⟩
  · simp only [mixE, eMeth, eCall, ePrim, lCons, lNil, eVar, h0, h2, Out.of, Out.bind, kind, e, pLen_run e, if_true]
    rw [e1]
    exact q2
  · exact S1.ext (P := fun j => j ≠ l) ⟨Ne.symm ho.1, Ne.symm ho.2⟩ (Ext.put _ (fun z => z rfl))
  · exact (x1.imp (fun j _ z => z.1)).trans (Ext.put _ (fun z => z.2 rfl))
theorem perm_erase {α : Type} : ∀ (l : List α) (i : Nat) (h : i < l.length), (l[i] :: l.eraseIdx i).Perm l
  | a :: l, 0, _ => List.Perm.refl _
  | a :: l, i + 1, h => by
    have hi : i < l.length := by simpa using h
    have := perm_erase l i hi
    show (l[i] :: a :: l.eraseIdx i).Perm (a :: l)
    exact (List.Perm.swap a l[i] _).trans (this.cons a)
theorem mixL_run {r q l d n : Nat} (D : DrawC c g) (ho : off r q l) (hd : off r q d) (hdl : d ≠ l) (hn : n < 16000000) (σ : Env) (h0 : vGet σ 0 = some (.ref r)) (h2 : vGet σ 2 = some (.ref l)) : ∀ (f k : Nat) (h : IH) (v : Int) (left acc : List IV), f + k = n → h.get d = some (.lst acc) → acc.length = k → h.get l = some (.lst left) → left.length = f → l < h.n → d < h.n → Stm h r q v → v + f < 900000000 →
    ∃ us h', lcL (.rng 0 n) (MI.gName 3) tYes (mixE g) c σ d f k h = .ok (.ref d) h' ∧ h'.get d = some (.lst us) ∧ us.Perm (acc ++ left) ∧ Stm h' r q (v + f) ∧ Ext (fun j => off r q j ∧ j ≠ l ∧ j ≠ d) h h' := by
  intro f
  induction f with
  | zero =>
    intro k h v left acc hk ed ea el elen hl hdn S hv
    have : left = [] := List.length_eq_zero_iff.mp elen
    subst this
    refine ⟨acc, h, ?_, ed, by rw [List.append_nil], by simpa using S, Ext.refl⟩
    show (match Src.at (.rng 0 n) k h with
      | .stop => (Out.ok (.ref d) h : Out IV)
      | _ => .bad) = _
    have : ¬ k < n := by omega
    simp only [Src.at, this, if_false]
  | succ f ihf =>
    intro k h v left acc hk ed ea el elen hl hdn S hv
    have hkn : k < n := by omega
    obtain ⟨i, y, h1, e1, e2, e3, S1, x1⟩ := mixE_run (c := c) (g := g) (σ := σ.set 3 (some (.int (0 + (k : Int))))) D S (by omega) (by rw [vGet_set_ne (by decide)]; exact h0) (by rw [vGet_set_ne (by decide)]; exact h2) el ho hl (by omega) (by omega)
    have hi : i < left.length := by
      rw [List.getElem?_eq_some_iff] at e2
      exact e2.1
    have ed1 : h1.get d = some (.lst acc) := (x1.g d hdn ⟨hd, hdl⟩).trans ed
    have hsz : acc.length < sizeLine := by rw [sizeLine_eq]; omega
    have x2 : Ext (fun j => off r q j ∧ j ≠ l ∧ j ≠ d) h (h1.put d (.lst (acc ++ [y]))) := (x1.imp (fun j _ z => ⟨z.1, z.2.1⟩)).trans (Ext.put _ (fun z => z.2.2 rfl))
    obtain ⟨us, h', q1, q2, q3, q4, q5⟩ := ihf (k + 1) (h1.put d (.lst (acc ++ [y]))) (v + 1) (left.eraseIdx i) (acc ++ [y]) (by omega) (by rw [IH.get_put, if_pos rfl]) (by simp [ea]) (by rw [IH.get_put, if_neg (Ne.symm hdl)]; exact e3) (by rw [List.length_eraseIdx_of_lt hi]; omega) (Nat.lt_of_lt_of_le hl x2.n) (Nat.lt_of_lt_of_le hdn x2.n) (S1.ext (P := fun j => j ≠ d) ⟨Ne.symm hd.1, Ne.symm hd.2⟩ (Ext.put _ (fun z => z rfl))) (by omega)
    refine ⟨us, h', ?_, q2, ?_, ?_, x2.trans q5⟩
    · unfold lcL
      simp only [Src.at, hkn, if_true, MI.gName, tYes, e1, ed1, hsz]
      exact q1
    · refine q3.trans ?_
      rw [List.append_assoc]
      refine List.Perm.append_left acc ?_
      have e4 : left[i] = y := by
        rw [List.getElem?_eq_getElem hi] at e2
        exact Option.some.inj e2
      have := perm_erase left i hi
      rw [e4] at this
      exact this
    · have : v + 1 + (f : Int) = v + ((f + 1 : Nat) : Int) := by omega
      rw [← this]; exact q4
/-- the contract of the mixing -/
def MixC (c : MI.Ctx) (g : Nat) : Prop := ∀ (h : IH) (r q l : Nat) (v : Int) (vs : List IV), Stm h r q v → h.get l = some (.lst vs) → off r q l → l < h.n → vs.length < 16000000 → v + vs.length < 900000000 →
  ∃ d us h', c.call g [.ref r, .ref l] h = .ok (.ref d) h' ∧ h.n ≤ d ∧ d < h'.n ∧ h'.get d = some (.lst us) ∧ us.Perm vs ∧ Stm h' r q (v + vs.length) ∧ Ext (off r q) h h'
theorem mixC {P : Prog} {n g g2 : Nat} (D : DrawC (ctx P n) g) (hd : P.df g2 = some ⟨4, 2, mixB g⟩) : MixC (ctx P (n + 1)) g2 := by
  intro h r q l v vs S e ho hl hz hv
  have hne := S.ne
  have hno : off r q h.n := ⟨by omega, by omega⟩
  have hno1 : off r q (h.n + 1) := ⟨by omega, by omega⟩
  let h1 := h.push (.lst vs)
  let h2 := h1.push (.lst [])
  have hin : (vs.length : Int) < 2 ^ 62 ∧ -(2 ^ 62) ≤ (vs.length : Int) := by omega
  have g0 : (IH.push h (.lst vs)).get h.n = some (.lst vs) := by rw [IH.get_push, if_pos rfl]
  have g1 : h2.get (h.n + 1) = some (.lst []) := by show (IH.push h1 (.lst [])).get h1.n = _; rw [IH.get_push, if_pos rfl]
  have g2' : h2.get h.n = some (.lst vs) := by show (IH.push h1 (.lst [])).get h.n = _; rw [IH.get_push, if_neg (by show h.n ≠ h.n + 1; omega)]; exact g0
  have S2 : Stm h2 r q v := S.ext (P := fun _ => True) ⟨trivial, trivial⟩ ((Ext.push _).trans (Ext.push _))
  obtain ⟨us, h', e1, e2, e3, e4, e5⟩ := mixL_run (c := ctx P n) (g := g) (l := h.n) (d := h.n + 1) (n := vs.length) D hno hno1 (by omega) hz [some (.ref r), some (.ref l), some (.ref h.n), none] rfl rfl vs.length 0 h2 v vs [] rfl g1 rfl g2' rfl (by show h.n < h.n + 1 + 1; omega) (by show h.n + 1 < h.n + 1 + 1; omega) S2 hv
  have x : Ext (off r q) h h' := by
    have a : Ext (off r q) h h2 := (Ext.push _).trans (Ext.push _)
    exact ⟨Nat.le_trans a.n e5.n, fun j hj p => (e5.g j (Nat.lt_of_lt_of_le hj a.n) ⟨p, by omega, by omega⟩).trans (a.g j hj p)⟩
  refine ⟨h.n + 1, us, h', ?_, by omega, Nat.lt_of_lt_of_le (by show h.n + 1 < h.n + 1 + 1; omega) e5.n, e2, by simpa using e3, e4, x⟩
  show runDf (P.df g2) (ctx P n) [] [.ref r, .ref l] h = _
  rw [hd]
  show (mixB g (ctx P n) [some (.ref r), some (.ref l), none, none] h).out = _
  have a1 : (sAsg (MI.gName 2) (ePrim pList (lCons (eVar 1) lNil))) (ctx P n) [some (.ref r), some (.ref l), none, none] h = .nx [some (.ref r), some (.ref l), some (.ref h.n), none] h1 := by
    show flow ((match h.get l with
      | some (.lst us) => .ok (.ref h.n) (h.push (.lst us))
      | some (.dct kvs) => .ok (.ref h.n) (h.push (.lst (kvs.map fun kv => unkey kv.1)))
      | some (.dcT kvs) => .ok (.ref h.n) (h.push (.lst (kvs.map fun kv => keyRow kv.1)))
      | _ => .bad)) _ _ = _
    rw [e]
    rfl
  have a2 : (eLc [3] (iRng1 (ePrim pLen (lCons (eVar 2) lNil))) (MI.gName 3) tYes (mixE g)) (ctx P n) [some (.ref r), some (.ref l), some (.ref h.n), none] h1 = .ok (.ref (h.n + 1)) h' := by
    have b : iRng1 (ePrim pLen (lCons (eVar 2) lNil)) (ctx P n) [some (.ref r), some (.ref l), some (.ref h.n), none] h1 = .ok (.rng 0 vs.length) h1 := by
      have g0' : h1.get h.n = some (.lst vs) := g0
      have b1 : (ePrim pLen (lCons (eVar 2) lNil)) (ctx P n) [some (.ref r), some (.ref l), some (.ref h.n), none] h1 = .ok (.int vs.length) h1 := by
        simp only [ePrim, lCons, lNil, eVar, vGet, List.getElem?_cons_succ, List.getElem?_cons_zero, Out.of, Out.bind, pLen_run g0']
      exact rng1_run b1 (by simp only [in62, Bool.and_eq_true, decide_eq_true_eq]; omega)
    unfold eLc
    rw [b]
    exact e1
  unfold mixB
  show (((sAsg (MI.gName 2) (ePrim pList (lCons (eVar 1) lNil))) (ctx P n) [some (.ref r), some (.ref l), none, none] h).seq _).out = _
  rw [a1]
  show ((flow ((eLc [3] (iRng1 (ePrim pLen (lCons (eVar 2) lNil))) (MI.gName 3) tYes (mixE g)) (ctx P n) [some (.ref r), some (.ref l), some (.ref h.n), none] h1) _ _).seq _).out = _
  rw [a2]
  rfl
end MI
end

section
set_option Elab.async false
set_option linter.all false
namespace Law
open PySem L2 MI
set_option maxRecDepth 100000
set_option maxHeartbeats 4000000
/-! the text: where the defs stand -/
def defPs : List (List Str) := ([["script"], ["stream", "many"], ["stream", "some"], ["x", "y", "z"], ["x", "y", "z"], ["x", "y", "z"], ["x", "y", "z"], ["e"], ["e"], ["e"], ["e"], ["e"], ["e", "at"], ["found", "due"], ["found", "due"], ["script"]] : List (List Str))
/-! lambdas -/
def lam_0 : LmI := lamI "_law_made_a.<locals>.<lambda>" ["e"] (kElt (kArg (kVal (kAt (defBody (top 64)) 1)) 0) 2)
def lam_1 : LmI := lamI "_law_made_a.<locals>.<lambda>" ["e"] (kElt (kArg (kVal (kAt (defBody (top 64)) 2)) 0) 2)
def lam_2 : LmI := lamI "_law_made_a.<locals>.<lambda>" ["e"] (kElt (kArg (kVal (kAt (defBody (top 64)) 3)) 0) 2)
def lam_3 : LmI := lamI "_law_made_a.<locals>.<lambda>" ["e"] (kElt (kArg (kVal (kAt (defBody (top 64)) 4)) 0) 2)
def lam_4 : LmI := lamI "_law_made_a.<locals>.<lambda>" ["e"] (kElt (kArg (kVal (kAt (defBody (top 64)) 5)) 0) 2)
def lam_5 : LmI := lamI "_law_made_a.<locals>.<lambda>" ["e"] (kElt (kArg (kVal (kAt (defBody (top 64)) 6)) 0) 2)
def lam_6 : LmI := lamI "_law_made_a.<locals>.<lambda>" ["e"] (kElt (kArg (kVal (kAt (defBody (top 64)) 7)) 0) 2)
def lam_7 : LmI := lamI "_law_made_a.<locals>.<lambda>" ["e"] (kElt (kArg (kVal (kAt (defBody (top 64)) 8)) 0) 2)
def lam_8 : LmI := lamI "_law_made_a.<locals>.<lambda>" ["e"] (kElt (kArg (kVal (kAt (defBody (top 64)) 9)) 0) 2)
def lam_9 : LmI := lamI "_law_made_a.<locals>.<lambda>" ["e"] (kElt (kArg (kVal (kAt (defBody (top 64)) 10)) 0) 2)
def lam_10 : LmI := lamI "_law_made_a.<locals>.<lambda>" ["e"] (kElt (kArg (kVal (kAt (defBody (top 64)) 11)) 0) 2)
def lam_11 : LmI := lamI "_law_made_a.<locals>.<lambda>" ["e"] (kElt (kArg (kVal (kAt (defBody (top 64)) 12)) 0) 2)
def lam_12 : LmI := lamI "_law_made_a.<locals>.<lambda>" ["e"] (kElt (kArg (kVal (kAt (defBody (top 64)) 13)) 0) 2)
def lam_13 : LmI := lamI "_law_made_a.<locals>.<lambda>" ["e"] (kElt (kArg (kVal (kAt (defBody (top 64)) 14)) 0) 2)
def lam_14 : LmI := lamI "_law_made_a.<locals>.<lambda>" ["e"] (kElt (kArg (kVal (kAt (defBody (top 64)) 15)) 0) 2)
def lam_15 : LmI := lamI "_law_made_a.<locals>.<lambda>" ["e"] (kElt (kArg (kVal (kAt (defBody (top 64)) 16)) 0) 2)
def lam_16 : LmI := lamI "_law_made_a.<locals>.<lambda>" ["e"] (kElt (kArg (kVal (kAt (defBody (top 64)) 17)) 0) 2)
def lam_17 : LmI := lamI "_law_made_a.<locals>.<lambda>" ["e"] (kElt (kArg (kVal (kAt (defBody (top 64)) 18)) 0) 2)
def lam_18 : LmI := lamI "_law_made_b.<locals>.<lambda>" ["e"] (kElt (kArg (kVal (kAt (defBody (top 65)) 1)) 0) 2)
def lam_19 : LmI := lamI "_law_made_b.<locals>.<lambda>" ["e"] (kElt (kArg (kVal (kAt (defBody (top 65)) 2)) 0) 2)
def lam_20 : LmI := lamI "_law_made_b.<locals>.<lambda>" ["e"] (kElt (kArg (kVal (kAt (defBody (top 65)) 3)) 0) 2)
def lam_21 : LmI := lamI "_law_made_b.<locals>.<lambda>" ["e"] (kElt (kArg (kVal (kAt (defBody (top 65)) 4)) 0) 2)
def lam_22 : LmI := lamI "_law_made_b.<locals>.<lambda>" ["e"] (kElt (kArg (kVal (kAt (defBody (top 65)) 5)) 0) 2)
def lam_23 : LmI := lamI "_law_made_b.<locals>.<lambda>" ["e"] (kElt (kArg (kVal (kAt (defBody (top 65)) 6)) 0) 2)
def lam_24 : LmI := lamI "_law_made_b.<locals>.<lambda>" ["e"] (kElt (kArg (kVal (kAt (defBody (top 65)) 7)) 0) 2)
def lam_25 : LmI := lamI "_law_made_b.<locals>.<lambda>" ["e"] (kElt (kArg (kVal (kAt (defBody (top 65)) 8)) 0) 2)
def lam_26 : LmI := lamI "_law_made_b.<locals>.<lambda>" ["e"] (kElt (kArg (kVal (kAt (defBody (top 65)) 9)) 0) 2)
def lam_27 : LmI := lamI "_law_made_b.<locals>.<lambda>" ["e"] (kElt (kArg (kVal (kAt (defBody (top 65)) 10)) 0) 2)
def lam_28 : LmI := lamI "_law_made_b.<locals>.<lambda>" ["e"] (kElt (kArg (kVal (kAt (defBody (top 65)) 11)) 0) 2)
def lam_29 : LmI := lamI "_law_made_b.<locals>.<lambda>" ["e"] (kElt (kArg (kVal (kAt (defBody (top 65)) 12)) 0) 2)
def lam_30 : LmI := lamI "_law_made_b.<locals>.<lambda>" ["e"] (kElt (kArg (kVal (kAt (defBody (top 65)) 13)) 0) 2)
def lam_31 : LmI := lamI "_law_made_b.<locals>.<lambda>" ["e"] (kElt (kArg (kVal (kAt (defBody (top 65)) 14)) 0) 2)
def lam_32 : LmI := lamI "_law_made_b.<locals>.<lambda>" ["e"] (kElt (kArg (kVal (kAt (defBody (top 65)) 15)) 0) 2)
def lam_33 : LmI := lamI "_law_made_b.<locals>.<lambda>" ["e"] (kElt (kArg (kVal (kAt (defBody (top 65)) 16)) 0) 2)
def lam_34 : LmI := lamI "_law_made_b.<locals>.<lambda>" ["e"] (kElt (kArg (kVal (kAt (defBody (top 65)) 17)) 0) 2)
def lam_35 : LmI := lamI "_law_made_b.<locals>.<lambda>" ["e"] (kElt (kArg (kVal (kAt (defBody (top 65)) 18)) 0) 2)
def lam_36 : LmI := lamI "_law_made_c.<locals>.<lambda>" ["e"] (kElt (kArg (kVal (kAt (defBody (top 66)) 1)) 0) 2)
def lam_37 : LmI := lamI "_law_made_c.<locals>.<lambda>" ["e"] (kElt (kArg (kVal (kAt (defBody (top 66)) 2)) 0) 2)
def lam_38 : LmI := lamI "_law_made_c.<locals>.<lambda>" ["e"] (kElt (kArg (kVal (kAt (defBody (top 66)) 3)) 0) 2)
def lam_39 : LmI := lamI "_law_made_c.<locals>.<lambda>" ["e"] (kElt (kArg (kVal (kAt (defBody (top 66)) 4)) 0) 2)
def lam_40 : LmI := lamI "_law_made_c.<locals>.<lambda>" ["e"] (kElt (kArg (kVal (kAt (defBody (top 66)) 5)) 0) 2)
def lam_41 : LmI := lamI "_law_made_c.<locals>.<lambda>" ["e"] (kElt (kArg (kVal (kAt (defBody (top 66)) 6)) 0) 2)
def lam_42 : LmI := lamI "_law_made_c.<locals>.<lambda>" ["e"] (kElt (kArg (kVal (kAt (defBody (top 66)) 7)) 0) 2)
def lam_43 : LmI := lamI "_law_made_c.<locals>.<lambda>" ["e"] (kElt (kArg (kVal (kAt (defBody (top 66)) 8)) 0) 2)
def lam_44 : LmI := lamI "_law_made_c.<locals>.<lambda>" ["e"] (kElt (kArg (kVal (kAt (defBody (top 66)) 9)) 0) 2)
def lam_45 : LmI := lamI "_law_made_c.<locals>.<lambda>" ["e"] (kElt (kArg (kVal (kAt (defBody (top 66)) 10)) 0) 2)
def lam_46 : LmI := lamI "_law_made_c.<locals>.<lambda>" ["e"] (kElt (kArg (kVal (kAt (defBody (top 66)) 11)) 0) 2)
def lam_47 : LmI := lamI "_law_made_c.<locals>.<lambda>" ["e"] (kElt (kArg (kVal (kAt (defBody (top 66)) 12)) 0) 2)
def lam_48 : LmI := lamI "_law_made_c.<locals>.<lambda>" ["e"] (kElt (kArg (kVal (kAt (defBody (top 66)) 13)) 0) 2)
def lam_49 : LmI := lamI "_law_made_c.<locals>.<lambda>" ["e"] (kElt (kArg (kVal (kAt (defBody (top 66)) 14)) 0) 2)
def lam_50 : LmI := lamI "_law_made_c.<locals>.<lambda>" ["e"] (kElt (kArg (kVal (kAt (defBody (top 66)) 15)) 0) 2)
def lam_51 : LmI := lamI "_law_made_c.<locals>.<lambda>" ["e"] (kElt (kArg (kVal (kAt (defBody (top 66)) 16)) 0) 2)
def lam_52 : LmI := lamI "_law_made_c.<locals>.<lambda>" ["e"] (kElt (kArg (kVal (kAt (defBody (top 66)) 17)) 0) 2)
def lam_53 : LmI := lamI "_law_made_c.<locals>.<lambda>" ["e"] (kElt (kArg (kVal (kAt (defBody (top 66)) 18)) 0) 2)
def lam_54 : LmI := lamI "_law_made_d.<locals>.<lambda>" ["e"] (kElt (kArg (kVal (kAt (defBody (top 67)) 1)) 0) 2)
def lam_55 : LmI := lamI "_law_made_d.<locals>.<lambda>" ["e"] (kElt (kArg (kVal (kAt (defBody (top 67)) 2)) 0) 2)
def lam_56 : LmI := lamI "_law_made_d.<locals>.<lambda>" ["e"] (kElt (kArg (kVal (kAt (defBody (top 67)) 3)) 0) 2)
def lam_57 : LmI := lamI "_law_made_d.<locals>.<lambda>" ["e"] (kElt (kArg (kVal (kAt (defBody (top 67)) 4)) 0) 2)
def lam_no : LmI := lamI "" [] noE
def lamAll : List LmI := ([lam_0, lam_1, lam_2, lam_3, lam_4, lam_5, lam_6, lam_7, lam_8, lam_9, lam_10, lam_11, lam_12, lam_13, lam_14, lam_15, lam_16, lam_17, lam_18, lam_19, lam_20, lam_21, lam_22, lam_23, lam_24, lam_25, lam_26, lam_27, lam_28, lam_29] : List LmI) ++ ([lam_30, lam_31, lam_32, lam_33, lam_34, lam_35, lam_36, lam_37, lam_38, lam_39, lam_40, lam_41, lam_42, lam_43, lam_44, lam_45, lam_46, lam_47, lam_48, lam_49, lam_50, lam_51, lam_52, lam_53, lam_54, lam_55, lam_56, lam_57] : List LmI)
/-! isinstance -/
def isi_ArithmeticError : Ty → Option Bool
  | .exc c => if c < nCls then some false else none
  | _ => some false
def isi_BadBeginning : Ty → Option Bool
  | .exc c => if c < nCls then some (c == 1) else none
  | _ => some false
def isi_BadChart : Ty → Option Bool
  | .exc c => if c < nCls then some (c == 2) else none
  | _ => some false
def isi_BadChartbook : Ty → Option Bool
  | .exc c => if c < nCls then some (c == 3) else none
  | _ => some false
def isi_BadCharts : Ty → Option Bool
  | .exc c => if c < nCls then some (c == 4) else none
  | _ => some false
def isi_BadClasses : Ty → Option Bool
  | .exc c => if c < nCls then some (c == 5) else none
  | _ => some false
def isi_BadDeed : Ty → Option Bool
  | .exc c => if c < nCls then some (c == 6) else none
  | _ => some false
def isi_BadDelays : Ty → Option Bool
  | .exc c => if c < nCls then some (c == 7) else none
  | _ => some false
def isi_BadForm : Ty → Option Bool
  | .exc c => if c < nCls then some (c == 8) else none
  | _ => some false
def isi_BadGood : Ty → Option Bool
  | .exc c => if c < nCls then some (c == 9) else none
  | _ => some false
def isi_BadIndex : Ty → Option Bool
  | .exc c => if c < nCls then some (c == 10) else none
  | _ => some false
def isi_BadLeader : Ty → Option Bool
  | .exc c => if c < nCls then some (c == 11) else none
  | _ => some false
def isi_BadLot : Ty → Option Bool
  | .exc c => if c < nCls then some (c == 12) else none
  | _ => some false
def isi_BadNames : Ty → Option Bool
  | .exc c => if c < nCls then some (c == 13) else none
  | _ => some false
def isi_BadNaming : Ty → Option Bool
  | .exc c => if c < nCls then some (c == 14) else none
  | _ => some false
def isi_BadNode : Ty → Option Bool
  | .exc c => if c < nCls then some (c == 15) else none
  | _ => some false
def isi_BadNumber : Ty → Option Bool
  | .exc c => if c < nCls then some (c == 16) else none
  | _ => some false
def isi_BadOne : Ty → Option Bool
  | .exc c => if c < nCls then some (c == 17) else none
  | _ => some false
def isi_BadOther : Ty → Option Bool
  | .exc c => if c < nCls then some (c == 18) else none
  | _ => some false
def isi_BadOtherChart : Ty → Option Bool
  | .exc c => if c < nCls then some (c == 19) else none
  | _ => some false
def isi_BadOtherLot : Ty → Option Bool
  | .exc c => if c < nCls then some (c == 20) else none
  | _ => some false
def isi_BadOtherPlace : Ty → Option Bool
  | .exc c => if c < nCls then some (c == 21) else none
  | _ => some false
def isi_BadPaper : Ty → Option Bool
  | .exc c => if c < nCls then some (c == 22) else none
  | _ => some false
def isi_BadPath : Ty → Option Bool
  | .exc c => if c < nCls then some (c == 23) else none
  | _ => some false
def isi_BadPeople : Ty → Option Bool
  | .exc c => if c < nCls then some (c == 24) else none
  | _ => some false
def isi_BadPerson : Ty → Option Bool
  | .exc c => if c < nCls then some (c == 25) else none
  | _ => some false
def isi_BadPicks : Ty → Option Bool
  | .exc c => if c < nCls then some (c == 26) else none
  | _ => some false
def isi_BadPlace : Ty → Option Bool
  | .exc c => if c < nCls then some (c == 27) else none
  | _ => some false
def isi_BadPlan : Ty → Option Bool
  | .exc c => if c < nCls then some (c == 28) else none
  | _ => some false
def isi_BadQuestion : Ty → Option Bool
  | .exc c => if c < nCls then some (c == 29) else none
  | _ => some false
def isi_BadRowsBegun : Ty → Option Bool
  | .exc c => if c < nCls then some (c == 30) else none
  | _ => some false
def isi_BadRun : Ty → Option Bool
  | .exc c => if c < nCls then some (c == 31) else none
  | _ => some false
def isi_BadSchedule : Ty → Option Bool
  | .exc c => if c < nCls then some (c == 32) else none
  | _ => some false
def isi_BadSeen : Ty → Option Bool
  | .exc c => if c < nCls then some (c == 33) else none
  | _ => some false
def isi_BadText : Ty → Option Bool
  | .exc c => if c < nCls then some (c == 34) else none
  | _ => some false
def isi_BadTimes : Ty → Option Bool
  | .exc c => if c < nCls then some (c == 35) else none
  | _ => some false
def isi_BadTold : Ty → Option Bool
  | .exc c => if c < nCls then some (c == 36) else none
  | _ => some false
def isi_BadWeb : Ty → Option Bool
  | .exc c => if c < nCls then some (c == 37) else none
  | _ => some false
def isi_BadWord : Ty → Option Bool
  | .exc c => if c < nCls then some (c == 38) else none
  | _ => some false
def isi_BadWords : Ty → Option Bool
  | .exc c => if c < nCls then some (c == 39) else none
  | _ => some false
def isi_ChartError : Ty → Option Bool
  | .exc c => if c < nCls then some true else none
  | _ => some false
def isi_FitsNot : Ty → Option Bool
  | .exc c => if c < nCls then some (c == 40) else none
  | _ => some false
def isi_Holds : Ty → Option Bool
  | .exc c => if c < nCls then some (c == 41) else none
  | _ => some false
def isi_InUse : Ty → Option Bool
  | .exc c => if c < nCls then some (c == 42) else none
  | _ => some false
def isi_IsBounded : Ty → Option Bool
  | .exc c => if c < nCls then some (c == 43) else none
  | _ => some false
def isi_IsWatched : Ty → Option Bool
  | .exc c => if c < nCls then some (c == 44) else none
  | _ => some false
def isi_LookupError : Ty → Option Bool
  | .exc c => if c < nCls then some false else none
  | _ => some false
def isi_NoCount : Ty → Option Bool
  | .exc c => if c < nCls then some (c == 45) else none
  | _ => some false
def isi_NoEvents : Ty → Option Bool
  | .exc c => if c < nCls then some (c == 46) else none
  | _ => some false
def isi_NoPlan : Ty → Option Bool
  | .exc c => if c < nCls then some (c == 47) else none
  | _ => some false
def isi_NoRounds : Ty → Option Bool
  | .exc c => if c < nCls then some (c == 48) else none
  | _ => some false
def isi_NobodyLeft : Ty → Option Bool
  | .exc c => if c < nCls then some (c == 49) else none
  | _ => some false
def isi_NotLocal : Ty → Option Bool
  | .exc c => if c < nCls then some (c == 50) else none
  | _ => some false
def isi_NotNow : Ty → Option Bool
  | .exc c => if c < nCls then some (c == 51) else none
  | _ => some false
def isi_NotQuiet : Ty → Option Bool
  | .exc c => if c < nCls then some (c == 52) else none
  | _ => some false
def isi_NotWatched : Ty → Option Bool
  | .exc c => if c < nCls then some (c == 53) else none
  | _ => some false
def isi_NotWhole : Ty → Option Bool
  | .exc c => if c < nCls then some (c == 54) else none
  | _ => some false
def isi_NothingCommon : Ty → Option Bool
  | .exc c => if c < nCls then some (c == 55) else none
  | _ => some false
def isi_NothingFits : Ty → Option Bool
  | .exc c => if c < nCls then some (c == 56) else none
  | _ => some false
def isi_TypeError : Ty → Option Bool
  | .exc c => if c < nCls then some false else none
  | _ => some false
def isi_UnlikePeople : Ty → Option Bool
  | .exc c => if c < nCls then some (c == 57) else none
  | _ => some false
def isi_ValueError : Ty → Option Bool
  | .exc c => if c < nCls then some true else none
  | _ => some false
def isi_WouldChange : Ty → Option Bool
  | .exc c => if c < nCls then some (c == 58) else none
  | _ => some false
def isi_bool : Ty → Option Bool
  | .exc c => if c < nCls then some false else none
  | .bl => some true
  | _ => some false
def isi_dict : Ty → Option Bool
  | .exc c => if c < nCls then some false else none
  | .dct => some true
  | _ => some false
def isi_int : Ty → Option Bool
  | .exc c => if c < nCls then some false else none
  | .int => some true
  | .bl => some true
  | _ => some false
def isi_list : Ty → Option Bool
  | .exc c => if c < nCls then some false else none
  | .lst => some true
  | _ => some false
def isi_list_tuple : Ty → Option Bool
  | .exc c => if c < nCls then some false else none
  | .lst => some true
  | .tup => some true
  | _ => some false
def isi_str : Ty → Option Bool
  | .exc c => if c < nCls then some false else none
  | .str => some true
  | _ => some false
def isi_tuple : Ty → Option Bool
  | .exc c => if c < nCls then some false else none
  | .tup => some true
  | _ => some false
/-! fields -/
def fld_fault : List (Nat × Nat) := [(2, 0), (19, 0), (31, 0), (32, 0), (37, 0)]
def fld_index : List (Nat × Nat) := [(4, 0), (9, 0), (12, 0), (13, 0), (20, 0), (24, 0), (26, 0), (39, 0)]
def fld_line : List (Nat × Nat) := [(34, 0)]
def fld_question : List (Nat × Nat) := [(42, 0), (44, 0), (53, 0), (58, 0)]
def fld_sign : List (Nat × Nat) := [(34, 1)]
def fld_thing : List (Nat × Nat) := [(1, 0), (3, 0), (5, 0), (6, 0), (7, 0), (8, 0), (10, 0), (11, 0), (14, 0), (15, 0), (16, 0), (17, 0), (18, 0), (21, 0), (22, 0), (23, 0), (25, 0), (27, 0), (28, 0), (29, 0), (30, 0), (33, 0), (35, 0), (36, 0), (38, 0), (45, 0)]
def fld_why : List (Nat × Nat) := [(51, 0), (58, 1)]
/-! the defs as MI has them -/
def m_0 : Sx := (sSeq (sRet (eLst (lCons (ePrim pList (lCons (eVar 0) lNil)) (lCons (eCon (.int 0)) (lCons (eCon (.int 0)) (lCons (eCon (.int 89)) lNil)))))) sNx)
def m_1 : Sx := (sSeq (sAsg (gSub fSetL (eVar 0) (eCon (.int 2))) (eOp fAdd (eOp fIdx (eVar 0) (eCon (.int 2))) (eCon (.int 1)))) (sSeq (sWhl (MI.tAnd (tBl (eOp fEq (eOp fIdx (eVar 0) (eCon (.int 1))) (eCon (.int 0)))) (tBl (eOp fNe (eOp fIdx (eVar 0) (eCon (.int 0))) (eLst lNil)))) (sSeq (sAsg (MI.gName 2) (eMeth .lst fPopAt (eOp fIdx (eVar 0) (eCon (.int 0))) (lCons (eCon (.int 0)) lNil))) (sSeq (sAsg (gSub fSetL (eVar 0) (eCon (.int 3))) (eOp fMod (ePrim pInt (lCons (eOp fAdd (eOp fAdd (eOp fMulI (eOp fIdx (eVar 0) (eCon (.int 3))) (eCon (.int 72103))) (eVar 2)) (eCon (.int 43))) lNil)) (eCon (.int 2147483647)))) (sSeq (sAsg (gSub fSetL (eVar 0) (eCon (.int 1))) (eIf (tBl (eOp fGe (eVar 2) (eOp fPow (eCon (.int 10)) (eCon (.int 18))))) (eVar 2) (eCon (.int 0)))) sNx)))) (sSeq (sIf (tBl (eOp fGt (eOp fIdx (eVar 0) (eCon (.int 1))) (eCon (.int 0)))) (sSeq (sAsg (MI.gName 3) (eOp fMod (ePrim pInt (lCons (eOp fIdx (eVar 0) (eCon (.int 1))) lNil)) (eVar 1))) (sSeq (sAsg (gSub fSetL (eVar 0) (eCon (.int 1))) (eOp fFdiv (eOp fIdx (eVar 0) (eCon (.int 1))) (eVar 1))) (sSeq (sRet (eVar 3)) sNx))) sNx) (sSeq (sAsg (MI.gName 4) (eOp fMod (ePrim pInt (lCons (eOp fPow (eOp fAdd (eOp fAdd (eOp fIdx (eVar 0) (eCon (.int 3))) (eOp fMulI (eCon (.int 9161)) (eOp fIdx (eVar 0) (eCon (.int 2))))) (eCon (.int 190027))) (eCon (.int 5))) lNil)) (eCon (.int 2147483629)))) (sSeq (sRet (eOp fMod (eOp fMod (ePrim pInt (lCons (eOp fPow (eOp fAdd (eOp fAdd (eOp fMulI (eVar 4) (eCon (.int 63029))) (eOp fMulI (eCon (.int 74017)) (eOp fIdx (eVar 0) (eCon (.int 2))))) (eCon (.int 61))) (eCon (.int 3))) lNil)) (eCon (.int 1000000007))) (eVar 1))) sNx)))))
def m_2 : Sx := (sSeq (sAsg (MI.gName 2) (ePrim pList (lCons (eVar 1) lNil))) (sSeq (sRet (eLc [3] (iRng1 (ePrim pLen (lCons (eVar 2) lNil))) (MI.gName 3) tYes (eMeth .lst fPopAt (eVar 2) (lCons (eCall 1 (lCons (eVar 0) (lCons (ePrim pLen (lCons (eVar 2) lNil)) lNil))) lNil)))) sNx))
def m_3 : Sx := (sSeq (sAsg (MI.gName 3) (eLst lNil)) (sSeq (sExpr (eMeth .lst fAppend (eVar 3) (lCons (eTup (lCons (eMk 1 1 (idP 1) (lCons (eVar 0) lNil)) (lCons (eMk 1 1 [0] (lCons (eVar 0) lNil)) (lCons (eLam 0) (lCons (eLst (lCons (eVar 0) lNil)) lNil))))) lNil))) (sSeq (sExpr (eMeth .lst fAppend (eVar 3) (lCons (eTup (lCons (eMk 2 1 (idP 1) (lCons (eVar 0) lNil)) (lCons (eMk 2 1 [0] (lCons (eVar 0) lNil)) (lCons (eLam 1) (lCons (eLst (lCons (eVar 0) lNil)) lNil))))) lNil))) (sSeq (sExpr (eMeth .lst fAppend (eVar 3) (lCons (eTup (lCons (eMk 3 1 (idP 1) (lCons (eVar 0) lNil)) (lCons (eMk 3 1 [0] (lCons (eVar 0) lNil)) (lCons (eLam 2) (lCons (eLst (lCons (eVar 0) lNil)) lNil))))) lNil))) (sSeq (sExpr (eMeth .lst fAppend (eVar 3) (lCons (eTup (lCons (eMk 4 1 (idP 1) (lCons (eVar 0) lNil)) (lCons (eMk 4 1 [0] (lCons (eVar 0) lNil)) (lCons (eLam 3) (lCons (eLst (lCons (eVar 0) lNil)) lNil))))) lNil))) (sSeq (sExpr (eMeth .lst fAppend (eVar 3) (lCons (eTup (lCons (eMk 5 1 (idP 1) (lCons (eVar 0) lNil)) (lCons (eMk 5 1 [0] (lCons (eVar 0) lNil)) (lCons (eLam 4) (lCons (eLst (lCons (eVar 0) lNil)) lNil))))) lNil))) (sSeq (sExpr (eMeth .lst fAppend (eVar 3) (lCons (eTup (lCons (eMk 6 1 (idP 1) (lCons (eVar 0) lNil)) (lCons (eMk 6 1 [0] (lCons (eVar 0) lNil)) (lCons (eLam 5) (lCons (eLst (lCons (eVar 0) lNil)) lNil))))) lNil))) (sSeq (sExpr (eMeth .lst fAppend (eVar 3) (lCons (eTup (lCons (eMk 7 1 (idP 1) (lCons (eVar 0) lNil)) (lCons (eMk 7 1 [0] (lCons (eVar 0) lNil)) (lCons (eLam 6) (lCons (eLst (lCons (eVar 0) lNil)) lNil))))) lNil))) (sSeq (sExpr (eMeth .lst fAppend (eVar 3) (lCons (eTup (lCons (eMk 8 1 (idP 1) (lCons (eVar 0) lNil)) (lCons (eMk 8 1 [0] (lCons (eVar 0) lNil)) (lCons (eLam 7) (lCons (eLst (lCons (eVar 0) lNil)) lNil))))) lNil))) (sSeq (sExpr (eMeth .lst fAppend (eVar 3) (lCons (eTup (lCons (eMk 9 1 (idP 1) (lCons (eVar 0) lNil)) (lCons (eMk 9 1 [0] (lCons (eVar 0) lNil)) (lCons (eLam 8) (lCons (eLst (lCons (eVar 0) lNil)) lNil))))) lNil))) (sSeq (sExpr (eMeth .lst fAppend (eVar 3) (lCons (eTup (lCons (eMk 10 1 (idP 1) (lCons (eVar 0) lNil)) (lCons (eMk 10 1 [0] (lCons (eVar 0) lNil)) (lCons (eLam 9) (lCons (eLst (lCons (eVar 0) lNil)) lNil))))) lNil))) (sSeq (sExpr (eMeth .lst fAppend (eVar 3) (lCons (eTup (lCons (eMk 11 1 (idP 1) (lCons (eVar 0) lNil)) (lCons (eMk 11 1 [0] (lCons (eVar 0) lNil)) (lCons (eLam 10) (lCons (eLst (lCons (eVar 0) lNil)) lNil))))) lNil))) (sSeq (sExpr (eMeth .lst fAppend (eVar 3) (lCons (eTup (lCons (eMk 12 1 (idP 1) (lCons (eVar 0) lNil)) (lCons (eMk 12 1 [0] (lCons (eVar 0) lNil)) (lCons (eLam 11) (lCons (eLst (lCons (eVar 0) lNil)) lNil))))) lNil))) (sSeq (sExpr (eMeth .lst fAppend (eVar 3) (lCons (eTup (lCons (eMk 13 1 (idP 1) (lCons (eVar 0) lNil)) (lCons (eMk 13 1 [0] (lCons (eVar 0) lNil)) (lCons (eLam 12) (lCons (eLst (lCons (eVar 0) lNil)) lNil))))) lNil))) (sSeq (sExpr (eMeth .lst fAppend (eVar 3) (lCons (eTup (lCons (eMk 14 1 (idP 1) (lCons (eVar 0) lNil)) (lCons (eMk 14 1 [0] (lCons (eVar 0) lNil)) (lCons (eLam 13) (lCons (eLst (lCons (eVar 0) lNil)) lNil))))) lNil))) (sSeq (sExpr (eMeth .lst fAppend (eVar 3) (lCons (eTup (lCons (eMk 15 1 (idP 1) (lCons (eVar 0) lNil)) (lCons (eMk 15 1 [0] (lCons (eVar 0) lNil)) (lCons (eLam 14) (lCons (eLst (lCons (eVar 0) lNil)) lNil))))) lNil))) (sSeq (sExpr (eMeth .lst fAppend (eVar 3) (lCons (eTup (lCons (eMk 16 1 (idP 1) (lCons (eVar 0) lNil)) (lCons (eMk 16 1 [0] (lCons (eVar 0) lNil)) (lCons (eLam 15) (lCons (eLst (lCons (eVar 0) lNil)) lNil))))) lNil))) (sSeq (sExpr (eMeth .lst fAppend (eVar 3) (lCons (eTup (lCons (eMk 17 1 (idP 1) (lCons (eVar 0) lNil)) (lCons (eMk 17 1 [0] (lCons (eVar 0) lNil)) (lCons (eLam 16) (lCons (eLst (lCons (eVar 0) lNil)) lNil))))) lNil))) (sSeq (sExpr (eMeth .lst fAppend (eVar 3) (lCons (eTup (lCons (eMk 18 1 (idP 1) (lCons (eVar 0) lNil)) (lCons (eMk 18 1 [0] (lCons (eVar 0) lNil)) (lCons (eLam 17) (lCons (eLst (lCons (eVar 0) lNil)) lNil))))) lNil))) (sSeq (sRet (eVar 3)) sNx))))))))))))))))))))
def m_4 : Sx := (sSeq (sAsg (MI.gName 3) (eLst lNil)) (sSeq (sExpr (eMeth .lst fAppend (eVar 3) (lCons (eTup (lCons (eMk 19 1 (idP 1) (lCons (eVar 0) lNil)) (lCons (eMk 19 1 [0] (lCons (eVar 0) lNil)) (lCons (eLam 18) (lCons (eLst (lCons (eVar 0) lNil)) lNil))))) lNil))) (sSeq (sExpr (eMeth .lst fAppend (eVar 3) (lCons (eTup (lCons (eMk 20 1 (idP 1) (lCons (eVar 0) lNil)) (lCons (eMk 20 1 [0] (lCons (eVar 0) lNil)) (lCons (eLam 19) (lCons (eLst (lCons (eVar 0) lNil)) lNil))))) lNil))) (sSeq (sExpr (eMeth .lst fAppend (eVar 3) (lCons (eTup (lCons (eMk 21 1 (idP 1) (lCons (eVar 0) lNil)) (lCons (eMk 21 1 [0] (lCons (eVar 0) lNil)) (lCons (eLam 20) (lCons (eLst (lCons (eVar 0) lNil)) lNil))))) lNil))) (sSeq (sExpr (eMeth .lst fAppend (eVar 3) (lCons (eTup (lCons (eMk 22 1 (idP 1) (lCons (eVar 0) lNil)) (lCons (eMk 22 1 [0] (lCons (eVar 0) lNil)) (lCons (eLam 21) (lCons (eLst (lCons (eVar 0) lNil)) lNil))))) lNil))) (sSeq (sExpr (eMeth .lst fAppend (eVar 3) (lCons (eTup (lCons (eMk 23 1 (idP 1) (lCons (eVar 0) lNil)) (lCons (eMk 23 1 [0] (lCons (eVar 0) lNil)) (lCons (eLam 22) (lCons (eLst (lCons (eVar 0) lNil)) lNil))))) lNil))) (sSeq (sExpr (eMeth .lst fAppend (eVar 3) (lCons (eTup (lCons (eMk 24 1 (idP 1) (lCons (eVar 0) lNil)) (lCons (eMk 24 1 [0] (lCons (eVar 0) lNil)) (lCons (eLam 23) (lCons (eLst (lCons (eVar 0) lNil)) lNil))))) lNil))) (sSeq (sExpr (eMeth .lst fAppend (eVar 3) (lCons (eTup (lCons (eMk 25 1 (idP 1) (lCons (eVar 0) lNil)) (lCons (eMk 25 1 [0] (lCons (eVar 0) lNil)) (lCons (eLam 24) (lCons (eLst (lCons (eVar 0) lNil)) lNil))))) lNil))) (sSeq (sExpr (eMeth .lst fAppend (eVar 3) (lCons (eTup (lCons (eMk 26 1 (idP 1) (lCons (eVar 0) lNil)) (lCons (eMk 26 1 [0] (lCons (eVar 0) lNil)) (lCons (eLam 25) (lCons (eLst (lCons (eVar 0) lNil)) lNil))))) lNil))) (sSeq (sExpr (eMeth .lst fAppend (eVar 3) (lCons (eTup (lCons (eMk 27 1 (idP 1) (lCons (eVar 0) lNil)) (lCons (eMk 27 1 [0] (lCons (eVar 0) lNil)) (lCons (eLam 26) (lCons (eLst (lCons (eVar 0) lNil)) lNil))))) lNil))) (sSeq (sExpr (eMeth .lst fAppend (eVar 3) (lCons (eTup (lCons (eMk 28 1 (idP 1) (lCons (eVar 0) lNil)) (lCons (eMk 28 1 [0] (lCons (eVar 0) lNil)) (lCons (eLam 27) (lCons (eLst (lCons (eVar 0) lNil)) lNil))))) lNil))) (sSeq (sExpr (eMeth .lst fAppend (eVar 3) (lCons (eTup (lCons (eMk 29 1 (idP 1) (lCons (eVar 0) lNil)) (lCons (eMk 29 1 [0] (lCons (eVar 0) lNil)) (lCons (eLam 28) (lCons (eLst (lCons (eVar 0) lNil)) lNil))))) lNil))) (sSeq (sExpr (eMeth .lst fAppend (eVar 3) (lCons (eTup (lCons (eMk 30 1 (idP 1) (lCons (eVar 0) lNil)) (lCons (eMk 30 1 [0] (lCons (eVar 0) lNil)) (lCons (eLam 29) (lCons (eLst (lCons (eVar 0) lNil)) lNil))))) lNil))) (sSeq (sExpr (eMeth .lst fAppend (eVar 3) (lCons (eTup (lCons (eMk 31 1 (idP 1) (lCons (eVar 0) lNil)) (lCons (eMk 31 1 [0] (lCons (eVar 0) lNil)) (lCons (eLam 30) (lCons (eLst (lCons (eVar 0) lNil)) lNil))))) lNil))) (sSeq (sExpr (eMeth .lst fAppend (eVar 3) (lCons (eTup (lCons (eMk 32 1 (idP 1) (lCons (eVar 0) lNil)) (lCons (eMk 32 1 [0] (lCons (eVar 0) lNil)) (lCons (eLam 31) (lCons (eLst (lCons (eVar 0) lNil)) lNil))))) lNil))) (sSeq (sExpr (eMeth .lst fAppend (eVar 3) (lCons (eTup (lCons (eMk 33 1 (idP 1) (lCons (eVar 0) lNil)) (lCons (eMk 33 1 [0] (lCons (eVar 0) lNil)) (lCons (eLam 32) (lCons (eLst (lCons (eVar 0) lNil)) lNil))))) lNil))) (sSeq (sExpr (eMeth .lst fAppend (eVar 3) (lCons (eTup (lCons (eMk 34 2 (idP 2) (lCons (eVar 0) (lCons (eVar 1) lNil))) (lCons (eMk 34 2 [1, 0] (lCons (eVar 1) (lCons (eVar 0) lNil))) (lCons (eLam 33) (lCons (eLst (lCons (eVar 0) (lCons (eVar 1) lNil))) lNil))))) lNil))) (sSeq (sExpr (eMeth .lst fAppend (eVar 3) (lCons (eTup (lCons (eMk 35 1 (idP 1) (lCons (eVar 0) lNil)) (lCons (eMk 35 1 [0] (lCons (eVar 0) lNil)) (lCons (eLam 34) (lCons (eLst (lCons (eVar 0) lNil)) lNil))))) lNil))) (sSeq (sExpr (eMeth .lst fAppend (eVar 3) (lCons (eTup (lCons (eMk 36 1 (idP 1) (lCons (eVar 0) lNil)) (lCons (eMk 36 1 [0] (lCons (eVar 0) lNil)) (lCons (eLam 35) (lCons (eLst (lCons (eVar 0) lNil)) lNil))))) lNil))) (sSeq (sRet (eVar 3)) sNx))))))))))))))))))))
def m_5 : Sx := (sSeq (sAsg (MI.gName 3) (eLst lNil)) (sSeq (sExpr (eMeth .lst fAppend (eVar 3) (lCons (eTup (lCons (eMk 37 1 (idP 1) (lCons (eVar 0) lNil)) (lCons (eMk 37 1 [0] (lCons (eVar 0) lNil)) (lCons (eLam 36) (lCons (eLst (lCons (eVar 0) lNil)) lNil))))) lNil))) (sSeq (sExpr (eMeth .lst fAppend (eVar 3) (lCons (eTup (lCons (eMk 38 1 (idP 1) (lCons (eVar 0) lNil)) (lCons (eMk 38 1 [0] (lCons (eVar 0) lNil)) (lCons (eLam 37) (lCons (eLst (lCons (eVar 0) lNil)) lNil))))) lNil))) (sSeq (sExpr (eMeth .lst fAppend (eVar 3) (lCons (eTup (lCons (eMk 39 1 (idP 1) (lCons (eVar 0) lNil)) (lCons (eMk 39 1 [0] (lCons (eVar 0) lNil)) (lCons (eLam 38) (lCons (eLst (lCons (eVar 0) lNil)) lNil))))) lNil))) (sSeq (sExpr (eMeth .lst fAppend (eVar 3) (lCons (eTup (lCons (eMk0 40) (lCons (eMk0 40) (lCons (eLam 39) (lCons (eLst lNil) lNil))))) lNil))) (sSeq (sExpr (eMeth .lst fAppend (eVar 3) (lCons (eTup (lCons (eMk0 41) (lCons (eMk0 41) (lCons (eLam 40) (lCons (eLst lNil) lNil))))) lNil))) (sSeq (sExpr (eMeth .lst fAppend (eVar 3) (lCons (eTup (lCons (eMk 42 1 (idP 1) (lCons (eVar 0) lNil)) (lCons (eMk 42 1 [0] (lCons (eVar 0) lNil)) (lCons (eLam 41) (lCons (eLst (lCons (eVar 0) lNil)) lNil))))) lNil))) (sSeq (sExpr (eMeth .lst fAppend (eVar 3) (lCons (eTup (lCons (eMk0 43) (lCons (eMk0 43) (lCons (eLam 42) (lCons (eLst lNil) lNil))))) lNil))) (sSeq (sExpr (eMeth .lst fAppend (eVar 3) (lCons (eTup (lCons (eMk 44 1 (idP 1) (lCons (eVar 0) lNil)) (lCons (eMk 44 1 [0] (lCons (eVar 0) lNil)) (lCons (eLam 43) (lCons (eLst (lCons (eVar 0) lNil)) lNil))))) lNil))) (sSeq (sExpr (eMeth .lst fAppend (eVar 3) (lCons (eTup (lCons (eMk 45 1 (idP 1) (lCons (eVar 0) lNil)) (lCons (eMk 45 1 [0] (lCons (eVar 0) lNil)) (lCons (eLam 44) (lCons (eLst (lCons (eVar 0) lNil)) lNil))))) lNil))) (sSeq (sExpr (eMeth .lst fAppend (eVar 3) (lCons (eTup (lCons (eMk0 46) (lCons (eMk0 46) (lCons (eLam 45) (lCons (eLst lNil) lNil))))) lNil))) (sSeq (sExpr (eMeth .lst fAppend (eVar 3) (lCons (eTup (lCons (eMk0 47) (lCons (eMk0 47) (lCons (eLam 46) (lCons (eLst lNil) lNil))))) lNil))) (sSeq (sExpr (eMeth .lst fAppend (eVar 3) (lCons (eTup (lCons (eMk0 48) (lCons (eMk0 48) (lCons (eLam 47) (lCons (eLst lNil) lNil))))) lNil))) (sSeq (sExpr (eMeth .lst fAppend (eVar 3) (lCons (eTup (lCons (eMk0 49) (lCons (eMk0 49) (lCons (eLam 48) (lCons (eLst lNil) lNil))))) lNil))) (sSeq (sExpr (eMeth .lst fAppend (eVar 3) (lCons (eTup (lCons (eMk0 50) (lCons (eMk0 50) (lCons (eLam 49) (lCons (eLst lNil) lNil))))) lNil))) (sSeq (sExpr (eMeth .lst fAppend (eVar 3) (lCons (eTup (lCons (eMk 51 1 (idP 1) (lCons (eVar 0) lNil)) (lCons (eMk 51 1 [0] (lCons (eVar 0) lNil)) (lCons (eLam 50) (lCons (eLst (lCons (eVar 0) lNil)) lNil))))) lNil))) (sSeq (sExpr (eMeth .lst fAppend (eVar 3) (lCons (eTup (lCons (eMk0 52) (lCons (eMk0 52) (lCons (eLam 51) (lCons (eLst lNil) lNil))))) lNil))) (sSeq (sExpr (eMeth .lst fAppend (eVar 3) (lCons (eTup (lCons (eMk 53 1 (idP 1) (lCons (eVar 0) lNil)) (lCons (eMk 53 1 [0] (lCons (eVar 0) lNil)) (lCons (eLam 52) (lCons (eLst (lCons (eVar 0) lNil)) lNil))))) lNil))) (sSeq (sExpr (eMeth .lst fAppend (eVar 3) (lCons (eTup (lCons (eMk0 54) (lCons (eMk0 54) (lCons (eLam 53) (lCons (eLst lNil) lNil))))) lNil))) (sSeq (sRet (eVar 3)) sNx))))))))))))))))))))
def m_6 : Sx := (sSeq (sAsg (MI.gName 3) (eLst lNil)) (sSeq (sExpr (eMeth .lst fAppend (eVar 3) (lCons (eTup (lCons (eMk0 55) (lCons (eMk0 55) (lCons (eLam 54) (lCons (eLst lNil) lNil))))) lNil))) (sSeq (sExpr (eMeth .lst fAppend (eVar 3) (lCons (eTup (lCons (eMk0 56) (lCons (eMk0 56) (lCons (eLam 55) (lCons (eLst lNil) lNil))))) lNil))) (sSeq (sExpr (eMeth .lst fAppend (eVar 3) (lCons (eTup (lCons (eMk0 57) (lCons (eMk0 57) (lCons (eLam 56) (lCons (eLst lNil) lNil))))) lNil))) (sSeq (sExpr (eMeth .lst fAppend (eVar 3) (lCons (eTup (lCons (eMk 58 2 (idP 2) (lCons (eVar 0) (lCons (eVar 1) lNil))) (lCons (eMk 58 2 [1, 0] (lCons (eVar 1) (lCons (eVar 0) lNil))) (lCons (eLam 57) (lCons (eLst (lCons (eVar 0) (lCons (eVar 1) lNil))) lNil))))) lNil))) (sSeq (sRet (eVar 3)) sNx))))))
def m_7 : Sx := (sSeq (sAsg (MI.gName 1) (eLst lNil)) (sSeq (sExpr (eMeth .lst fExtend (eVar 1) (lCons (eLst (lCons (eIsi isi_BadBeginning (eVar 0)) (lCons (eIsi isi_BadChart (eVar 0)) lNil))) lNil))) (sSeq (sExpr (eMeth .lst fExtend (eVar 1) (lCons (eLst (lCons (eIsi isi_BadChartbook (eVar 0)) (lCons (eIsi isi_BadCharts (eVar 0)) lNil))) lNil))) (sSeq (sExpr (eMeth .lst fExtend (eVar 1) (lCons (eLst (lCons (eIsi isi_BadClasses (eVar 0)) (lCons (eIsi isi_BadDeed (eVar 0)) lNil))) lNil))) (sSeq (sExpr (eMeth .lst fExtend (eVar 1) (lCons (eLst (lCons (eIsi isi_BadDelays (eVar 0)) (lCons (eIsi isi_BadForm (eVar 0)) lNil))) lNil))) (sSeq (sExpr (eMeth .lst fExtend (eVar 1) (lCons (eLst (lCons (eIsi isi_BadGood (eVar 0)) (lCons (eIsi isi_BadIndex (eVar 0)) lNil))) lNil))) (sSeq (sExpr (eMeth .lst fExtend (eVar 1) (lCons (eLst (lCons (eIsi isi_BadLeader (eVar 0)) (lCons (eIsi isi_BadLot (eVar 0)) lNil))) lNil))) (sSeq (sExpr (eMeth .lst fExtend (eVar 1) (lCons (eLst (lCons (eIsi isi_BadNames (eVar 0)) (lCons (eIsi isi_BadNaming (eVar 0)) lNil))) lNil))) (sSeq (sExpr (eMeth .lst fExtend (eVar 1) (lCons (eLst (lCons (eIsi isi_BadNode (eVar 0)) (lCons (eIsi isi_BadNumber (eVar 0)) lNil))) lNil))) (sSeq (sExpr (eMeth .lst fExtend (eVar 1) (lCons (eLst (lCons (eIsi isi_BadOne (eVar 0)) (lCons (eIsi isi_BadOther (eVar 0)) lNil))) lNil))) (sSeq (sRet (eVar 1)) sNx)))))))))))
def m_8 : Sx := (sSeq (sAsg (MI.gName 1) (eLst lNil)) (sSeq (sExpr (eMeth .lst fExtend (eVar 1) (lCons (eLst (lCons (eIsi isi_BadOtherChart (eVar 0)) (lCons (eIsi isi_BadOtherLot (eVar 0)) lNil))) lNil))) (sSeq (sExpr (eMeth .lst fExtend (eVar 1) (lCons (eLst (lCons (eIsi isi_BadOtherPlace (eVar 0)) (lCons (eIsi isi_BadPaper (eVar 0)) lNil))) lNil))) (sSeq (sExpr (eMeth .lst fExtend (eVar 1) (lCons (eLst (lCons (eIsi isi_BadPath (eVar 0)) (lCons (eIsi isi_BadPeople (eVar 0)) lNil))) lNil))) (sSeq (sExpr (eMeth .lst fExtend (eVar 1) (lCons (eLst (lCons (eIsi isi_BadPerson (eVar 0)) (lCons (eIsi isi_BadPicks (eVar 0)) lNil))) lNil))) (sSeq (sExpr (eMeth .lst fExtend (eVar 1) (lCons (eLst (lCons (eIsi isi_BadPlace (eVar 0)) (lCons (eIsi isi_BadPlan (eVar 0)) lNil))) lNil))) (sSeq (sExpr (eMeth .lst fExtend (eVar 1) (lCons (eLst (lCons (eIsi isi_BadQuestion (eVar 0)) (lCons (eIsi isi_BadRowsBegun (eVar 0)) lNil))) lNil))) (sSeq (sExpr (eMeth .lst fExtend (eVar 1) (lCons (eLst (lCons (eIsi isi_BadRun (eVar 0)) (lCons (eIsi isi_BadSchedule (eVar 0)) lNil))) lNil))) (sSeq (sExpr (eMeth .lst fExtend (eVar 1) (lCons (eLst (lCons (eIsi isi_BadSeen (eVar 0)) (lCons (eIsi isi_BadText (eVar 0)) lNil))) lNil))) (sSeq (sExpr (eMeth .lst fExtend (eVar 1) (lCons (eLst (lCons (eIsi isi_BadTimes (eVar 0)) (lCons (eIsi isi_BadTold (eVar 0)) lNil))) lNil))) (sSeq (sRet (eVar 1)) sNx)))))))))))
def m_9 : Sx := (sSeq (sAsg (MI.gName 1) (eLst lNil)) (sSeq (sExpr (eMeth .lst fExtend (eVar 1) (lCons (eLst (lCons (eIsi isi_BadWeb (eVar 0)) (lCons (eIsi isi_BadWord (eVar 0)) lNil))) lNil))) (sSeq (sExpr (eMeth .lst fExtend (eVar 1) (lCons (eLst (lCons (eIsi isi_BadWords (eVar 0)) (lCons (eIsi isi_FitsNot (eVar 0)) lNil))) lNil))) (sSeq (sExpr (eMeth .lst fExtend (eVar 1) (lCons (eLst (lCons (eIsi isi_Holds (eVar 0)) (lCons (eIsi isi_InUse (eVar 0)) lNil))) lNil))) (sSeq (sExpr (eMeth .lst fExtend (eVar 1) (lCons (eLst (lCons (eIsi isi_IsBounded (eVar 0)) (lCons (eIsi isi_IsWatched (eVar 0)) lNil))) lNil))) (sSeq (sExpr (eMeth .lst fExtend (eVar 1) (lCons (eLst (lCons (eIsi isi_NoCount (eVar 0)) (lCons (eIsi isi_NoEvents (eVar 0)) lNil))) lNil))) (sSeq (sExpr (eMeth .lst fExtend (eVar 1) (lCons (eLst (lCons (eIsi isi_NoPlan (eVar 0)) (lCons (eIsi isi_NoRounds (eVar 0)) lNil))) lNil))) (sSeq (sExpr (eMeth .lst fExtend (eVar 1) (lCons (eLst (lCons (eIsi isi_NobodyLeft (eVar 0)) (lCons (eIsi isi_NotLocal (eVar 0)) lNil))) lNil))) (sSeq (sExpr (eMeth .lst fExtend (eVar 1) (lCons (eLst (lCons (eIsi isi_NotNow (eVar 0)) (lCons (eIsi isi_NotQuiet (eVar 0)) lNil))) lNil))) (sSeq (sExpr (eMeth .lst fExtend (eVar 1) (lCons (eLst (lCons (eIsi isi_NotWatched (eVar 0)) (lCons (eIsi isi_NotWhole (eVar 0)) lNil))) lNil))) (sSeq (sRet (eVar 1)) sNx)))))))))))
def m_10 : Sx := (sSeq (sAsg (MI.gName 1) (eLst lNil)) (sSeq (sExpr (eMeth .lst fExtend (eVar 1) (lCons (eLst (lCons (eIsi isi_NothingCommon (eVar 0)) (lCons (eIsi isi_NothingFits (eVar 0)) lNil))) lNil))) (sSeq (sExpr (eMeth .lst fExtend (eVar 1) (lCons (eLst (lCons (eIsi isi_UnlikePeople (eVar 0)) (lCons (eIsi isi_WouldChange (eVar 0)) lNil))) lNil))) (sSeq (sRet (eVar 1)) sNx))))
def m_11 : Sx := (sSeq (sRet (eOp fAdd (eOp fAdd (eOp fAdd (eCall 7 (lCons (eVar 0) lNil)) (eCall 8 (lCons (eVar 0) lNil))) (eCall 9 (lCons (eVar 0) lNil))) (eCall 10 (lCons (eVar 0) lNil)))) sNx)
def m_12 : Sx := (sSeq (sIf (MI.tOr (tNot (tVal (eIsi isi_ChartError (eVar 0)))) (tNot (tVal (eIsi isi_ValueError (eVar 0))))) (sSeq (sRet (eCon (.bl false))) sNx) sNx) (sSeq (sIf (MI.tOr (tVal (eIsi isi_LookupError (eVar 0))) (MI.tOr (tVal (eIsi isi_ArithmeticError (eVar 0))) (tVal (eIsi isi_TypeError (eVar 0))))) (sSeq (sRet (eCon (.bl false))) sNx) sNx) (sSeq (sRet (eOp fEq (eCall 11 (lCons (eVar 0) lNil)) (eLc [2] (iRng1 (eCon (.int 58))) (MI.gName 2) tYes (eOp fEq (eVar 2) (eVar 1))))) sNx)))
def m_13 : Sx := (sSeq (sIf (tBl (eOp fIsN (eVar 1) (eCon .non))) (sSeq (sRet (eOp fIsN (eVar 0) (eCon .non))) sNx) sNx) (sSeq (sIf (tVal (eIsi isi_str (eVar 1))) (sSeq (sRet (eAnd (eIsi isi_str (eVar 0)) (eOp fEq (eVar 0) (eVar 1)))) sNx) sNx) (sSeq (sIf (tVal (eIsi isi_list_tuple (eVar 1))) (sSeq (sIf (MI.tOr (tBl (eOp fNe (eIsi isi_list (eVar 0)) (eIsi isi_list (eVar 1)))) (tBl (eOp fNe (eIsi isi_tuple (eVar 0)) (eIsi isi_tuple (eVar 1))))) (sSeq (sRet (eCon (.bl false))) sNx) sNx) (sSeq (sRet (eAnd (eOp fEq (ePrim pLen (lCons (eVar 0) lNil)) (ePrim pLen (lCons (eVar 1) lNil))) (ePrim pAll (lCons (eLc [2, 3] (iZip2 (eVar 0) (eVar 1)) (MI.gTup 2 (MI.gCons (MI.gName 2) (MI.gCons (MI.gName 3) MI.gNil))) tYes (eCall 13 (lCons (eVar 2) (lCons (eVar 3) lNil)))) lNil)))) sNx)) sNx) (sSeq (sIf (tVal (eIsi isi_dict (eVar 1))) (sSeq (sRet (eAnd (eIsi isi_dict (eVar 0)) (eCall 13 (lCons (eUn fItems (eVar 0)) (lCons (eUn fItems (eVar 1)) lNil))))) sNx) sNx) (sSeq (sRet (eAnd (eIsi isi_int (eVar 0)) (eAnd (eOp fEq (eIsi isi_bool (eVar 0)) (eIsi isi_bool (eVar 1))) (eOp fEq (eVar 0) (eVar 1))))) sNx)))))
def m_14 : Sx := (sSeq (sRet (eCall 13 (lCons (eVar 0) (lCons (eVar 1) lNil)))) sNx)
def m_15 : Sx := (sSeq (sAsg (MI.gName 1) (eCall 0 (lCons (eVar 0) lNil))) (sSeq (sAsg (MI.gName 2) (eLst (lCons (eCon .non) (lCons (eCon (.int 5)) (lCons (eUn fNeg (eCon (.int 1))) (lCons (eCon (.bl true)) (lCons (eCon (.str "a")) (lCons (eCon (.str "")) (lCons (eLst (lCons (eCon (.int 1)) (lCons (eCon (.str "b")) lNil))) (lCons (eTup (lCons (eCon (.int 2)) (lCons (eCon .non) lNil))) (lCons (eDct [((eCon (.str "a")), (eCon (.int 1)))]) (lCons (eLst (lCons (eLst (lCons (eCon (.str "x")) lNil)) lNil)) (lCons (eOp fPow (eCon (.int 10)) (eCon (.int 30))) (lCons (eTup (lCons (eCon (.str "s")) (lCons (eCon (.int 3)) lNil))) (lCons (eCon (.bl false)) (lCons (eCon (.int 0)) (lCons (eCon (.int 1)) lNil))))))))))))))))) (sSeq (sFor (iRng1 (eCon (.int 2))) (MI.gName 3) (sSeq (sAsg (MI.gTup 3 (MI.gCons (MI.gName 4) (MI.gCons (MI.gName 5) (MI.gCons (MI.gName 6) MI.gNil)))) (eCut (eCall 2 (lCons (eVar 1) (lCons (eVar 2) lNil))) oNone (oSome (eCon (.int 3))))) (sSeq (sAsg (MI.gName 7) (eOp fAdd (eOp fAdd (eCall 3 (lCons (eVar 4) (lCons (eVar 5) (lCons (eVar 6) lNil)))) (eCall 4 (lCons (eVar 4) (lCons (eVar 5) (lCons (eVar 6) lNil))))) (eCall 5 (lCons (eVar 4) (lCons (eVar 5) (lCons (eVar 6) lNil)))))) (sSeq (sExpr (eMeth .lst fExtend (eVar 7) (lCons (eCall 6 (lCons (eVar 4) (lCons (eVar 5) (lCons (eVar 6) lNil)))) lNil))) (sSeq (sFor (iEnumL (eVar 7)) (MI.gTup 2 (MI.gCons (MI.gName 8) (MI.gCons (MI.gTup 4 (MI.gCons (MI.gName 9) (MI.gCons (MI.gName 10) (MI.gCons (MI.gName 11) (MI.gCons (MI.gName 12) MI.gNil))))) MI.gNil))) (sSeq (sIf (MI.tOr (tNot (tVal (eCall 12 (lCons (eVar 9) (lCons (eVar 8) lNil))))) (tNot (tVal (eCall 12 (lCons (eVar 10) (lCons (eVar 8) lNil)))))) (sSeq (sRet (eCon (.bl false))) sNx) sNx) (sSeq (sIf (MI.tOr (tNot (tVal (eCall 14 (lCons (eCallF (eVar 11) (lCons (eVar 9) lNil)) (lCons (eVar 12) lNil))))) (tNot (tVal (eCall 14 (lCons (eCallF (eVar 11) (lCons (eVar 10) lNil)) (lCons (eVar 12) lNil)))))) (sSeq (sRet (eCon (.bl false))) sNx) sNx) sNx))) sNx))))) (sSeq (sAsg (MI.gName 13) (eLst (lCons (eCon (.str "v")) lNil))) (sSeq (sAsg (MI.gName 7) (eOp fAdd (eOp fAdd (eCall 3 (lCons (eVar 13) (lCons (eVar 13) (lCons (eVar 13) lNil)))) (eCall 4 (lCons (eVar 13) (lCons (eVar 13) (lCons (eVar 13) lNil))))) (eCall 5 (lCons (eVar 13) (lCons (eVar 13) (lCons (eVar 13) lNil)))))) (sSeq (sExpr (eMeth .lst fExtend (eVar 7) (lCons (eCall 6 (lCons (eVar 13) (lCons (eVar 13) (lCons (eVar 13) lNil)))) lNil))) (sSeq (sExpr (eMeth .lst fAppend (eVar 13) (lCons (eCon (.str "w")) lNil))) (sSeq (sFor (iVal (eVar 7)) (MI.gTup 4 (MI.gCons (MI.gName 9) (MI.gCons (MI.gName 10) (MI.gCons (MI.gName 11) (MI.gCons (MI.gName 12) MI.gNil))))) (sSeq (sIf (MI.tOr (tNot (tVal (eCall 14 (lCons (eCallF (eVar 11) (lCons (eVar 9) lNil)) (lCons (eVar 12) lNil))))) (tNot (tVal (eCall 14 (lCons (eCallF (eVar 11) (lCons (eVar 10) lNil)) (lCons (eVar 12) lNil)))))) (sSeq (sRet (eCon (.bl false))) sNx) sNx) sNx)) (sSeq (sAsg (MI.gName 14) (eMk0 0)) (sSeq (sRet (eAnd (eIsi isi_ValueError (eVar 14)) (eOp (fIn true) (eCon (.bl true)) (eCall 11 (lCons (eVar 14) lNil))))) sNx))))))))))
def l_0 : Ex := (eLst (lCons (eFld fld_thing (eVar 0)) lNil))
def l_1 : Ex := (eLst (lCons (eFld fld_fault (eVar 0)) lNil))
def l_2 : Ex := (eLst (lCons (eFld fld_thing (eVar 0)) lNil))
def l_3 : Ex := (eLst (lCons (eFld fld_index (eVar 0)) lNil))
def l_4 : Ex := (eLst (lCons (eFld fld_thing (eVar 0)) lNil))
def l_5 : Ex := (eLst (lCons (eFld fld_thing (eVar 0)) lNil))
def l_6 : Ex := (eLst (lCons (eFld fld_thing (eVar 0)) lNil))
def l_7 : Ex := (eLst (lCons (eFld fld_thing (eVar 0)) lNil))
def l_8 : Ex := (eLst (lCons (eFld fld_index (eVar 0)) lNil))
def l_9 : Ex := (eLst (lCons (eFld fld_thing (eVar 0)) lNil))
def l_10 : Ex := (eLst (lCons (eFld fld_thing (eVar 0)) lNil))
def l_11 : Ex := (eLst (lCons (eFld fld_index (eVar 0)) lNil))
def l_12 : Ex := (eLst (lCons (eFld fld_index (eVar 0)) lNil))
def l_13 : Ex := (eLst (lCons (eFld fld_thing (eVar 0)) lNil))
def l_14 : Ex := (eLst (lCons (eFld fld_thing (eVar 0)) lNil))
def l_15 : Ex := (eLst (lCons (eFld fld_thing (eVar 0)) lNil))
def l_16 : Ex := (eLst (lCons (eFld fld_thing (eVar 0)) lNil))
def l_17 : Ex := (eLst (lCons (eFld fld_thing (eVar 0)) lNil))
def l_18 : Ex := (eLst (lCons (eFld fld_fault (eVar 0)) lNil))
def l_19 : Ex := (eLst (lCons (eFld fld_index (eVar 0)) lNil))
def l_20 : Ex := (eLst (lCons (eFld fld_thing (eVar 0)) lNil))
def l_21 : Ex := (eLst (lCons (eFld fld_thing (eVar 0)) lNil))
def l_22 : Ex := (eLst (lCons (eFld fld_thing (eVar 0)) lNil))
def l_23 : Ex := (eLst (lCons (eFld fld_index (eVar 0)) lNil))
def l_24 : Ex := (eLst (lCons (eFld fld_thing (eVar 0)) lNil))
def l_25 : Ex := (eLst (lCons (eFld fld_index (eVar 0)) lNil))
def l_26 : Ex := (eLst (lCons (eFld fld_thing (eVar 0)) lNil))
def l_27 : Ex := (eLst (lCons (eFld fld_thing (eVar 0)) lNil))
def l_28 : Ex := (eLst (lCons (eFld fld_thing (eVar 0)) lNil))
def l_29 : Ex := (eLst (lCons (eFld fld_thing (eVar 0)) lNil))
def l_30 : Ex := (eLst (lCons (eFld fld_fault (eVar 0)) lNil))
def l_31 : Ex := (eLst (lCons (eFld fld_fault (eVar 0)) lNil))
def l_32 : Ex := (eLst (lCons (eFld fld_thing (eVar 0)) lNil))
def l_33 : Ex := (eLst (lCons (eFld fld_line (eVar 0)) (lCons (eFld fld_sign (eVar 0)) lNil)))
def l_34 : Ex := (eLst (lCons (eFld fld_thing (eVar 0)) lNil))
def l_35 : Ex := (eLst (lCons (eFld fld_thing (eVar 0)) lNil))
def l_36 : Ex := (eLst (lCons (eFld fld_fault (eVar 0)) lNil))
def l_37 : Ex := (eLst (lCons (eFld fld_thing (eVar 0)) lNil))
def l_38 : Ex := (eLst (lCons (eFld fld_index (eVar 0)) lNil))
def l_39 : Ex := (eLst lNil)
def l_40 : Ex := (eLst lNil)
def l_41 : Ex := (eLst (lCons (eFld fld_question (eVar 0)) lNil))
def l_42 : Ex := (eLst lNil)
def l_43 : Ex := (eLst (lCons (eFld fld_question (eVar 0)) lNil))
def l_44 : Ex := (eLst (lCons (eFld fld_thing (eVar 0)) lNil))
def l_45 : Ex := (eLst lNil)
def l_46 : Ex := (eLst lNil)
def l_47 : Ex := (eLst lNil)
def l_48 : Ex := (eLst lNil)
def l_49 : Ex := (eLst lNil)
def l_50 : Ex := (eLst (lCons (eFld fld_why (eVar 0)) lNil))
def l_51 : Ex := (eLst lNil)
def l_52 : Ex := (eLst (lCons (eFld fld_question (eVar 0)) lNil))
def l_53 : Ex := (eLst lNil)
def l_54 : Ex := (eLst lNil)
def l_55 : Ex := (eLst lNil)
def l_56 : Ex := (eLst lNil)
def l_57 : Ex := (eLst (lCons (eFld fld_question (eVar 0)) (lCons (eFld fld_why (eVar 0)) lNil)))
def dfAll : List Df := ([⟨1, 1, m_0⟩, ⟨5, 2, m_1⟩, ⟨4, 2, m_2⟩, ⟨4, 3, m_3⟩, ⟨4, 3, m_4⟩, ⟨4, 3, m_5⟩, ⟨4, 3, m_6⟩, ⟨2, 1, m_7⟩, ⟨2, 1, m_8⟩, ⟨2, 1, m_9⟩, ⟨2, 1, m_10⟩, ⟨1, 1, m_11⟩, ⟨3, 2, m_12⟩, ⟨4, 2, m_13⟩, ⟨2, 2, m_14⟩, ⟨15, 1, m_15⟩] : List Df)
def lmAll : List Df := ([⟨1, 1, sRet l_0⟩, ⟨1, 1, sRet l_1⟩, ⟨1, 1, sRet l_2⟩, ⟨1, 1, sRet l_3⟩, ⟨1, 1, sRet l_4⟩, ⟨1, 1, sRet l_5⟩, ⟨1, 1, sRet l_6⟩, ⟨1, 1, sRet l_7⟩, ⟨1, 1, sRet l_8⟩, ⟨1, 1, sRet l_9⟩, ⟨1, 1, sRet l_10⟩, ⟨1, 1, sRet l_11⟩, ⟨1, 1, sRet l_12⟩, ⟨1, 1, sRet l_13⟩, ⟨1, 1, sRet l_14⟩, ⟨1, 1, sRet l_15⟩, ⟨1, 1, sRet l_16⟩, ⟨1, 1, sRet l_17⟩, ⟨1, 1, sRet l_18⟩, ⟨1, 1, sRet l_19⟩, ⟨1, 1, sRet l_20⟩, ⟨1, 1, sRet l_21⟩, ⟨1, 1, sRet l_22⟩, ⟨1, 1, sRet l_23⟩, ⟨1, 1, sRet l_24⟩, ⟨1, 1, sRet l_25⟩, ⟨1, 1, sRet l_26⟩, ⟨1, 1, sRet l_27⟩, ⟨1, 1, sRet l_28⟩, ⟨1, 1, sRet l_29⟩] : List Df) ++ ([⟨1, 1, sRet l_30⟩, ⟨1, 1, sRet l_31⟩, ⟨1, 1, sRet l_32⟩, ⟨1, 1, sRet l_33⟩, ⟨1, 1, sRet l_34⟩, ⟨1, 1, sRet l_35⟩, ⟨1, 1, sRet l_36⟩, ⟨1, 1, sRet l_37⟩, ⟨1, 1, sRet l_38⟩, ⟨1, 1, sRet l_39⟩, ⟨1, 1, sRet l_40⟩, ⟨1, 1, sRet l_41⟩, ⟨1, 1, sRet l_42⟩, ⟨1, 1, sRet l_43⟩, ⟨1, 1, sRet l_44⟩, ⟨1, 1, sRet l_45⟩, ⟨1, 1, sRet l_46⟩, ⟨1, 1, sRet l_47⟩, ⟨1, 1, sRet l_48⟩, ⟨1, 1, sRet l_49⟩, ⟨1, 1, sRet l_50⟩, ⟨1, 1, sRet l_51⟩, ⟨1, 1, sRet l_52⟩, ⟨1, 1, sRet l_53⟩, ⟨1, 1, sRet l_54⟩, ⟨1, 1, sRet l_55⟩, ⟨1, 1, sRet l_56⟩, ⟨1, 1, sRet l_57⟩] : List Df)
def prog : Prog := ⟨fun g => dfAll[g]?, fun k => lmAll[k]?⟩
def tb : Tb := ⟨prog, fun g => defNames.getD g "", fun g => defPs.getD g []⟩
/-! a run goes over to a bigger heap -/
theorem q_0 {s : Sub} : QS s m_0 := (q_seq (q_ret (q_lst (q_lcons (q_prim q_pList (q_lcons (q_var 0) q_lnil)) (q_lcons (q_con fun _ => rfl) (q_lcons (q_con fun _ => rfl) (q_lcons (q_con fun _ => rfl) q_lnil)))))) q_nx)
theorem q_1 {s : Sub} : QS s m_1 := (q_seq (q_asg (q_gsub q_fSetL (q_var 0) (q_con fun _ => rfl)) (q_op q_fAdd (q_op q_fIdx (q_var 0) (q_con fun _ => rfl)) (q_con fun _ => rfl))) (q_seq (q_whl (q_tand (q_tbl (q_op q_fEq (q_op q_fIdx (q_var 0) (q_con fun _ => rfl)) (q_con fun _ => rfl))) (q_tbl (q_op q_fNe (q_op q_fIdx (q_var 0) (q_con fun _ => rfl)) (q_lst q_lnil)))) (q_seq (q_asg (q_gname 2) (q_meth (by decide) q_fPopAt (q_op q_fIdx (q_var 0) (q_con fun _ => rfl)) (q_lcons (q_con fun _ => rfl) q_lnil))) (q_seq (q_asg (q_gsub q_fSetL (q_var 0) (q_con fun _ => rfl)) (q_op q_fMod (q_prim q_pInt (q_lcons (q_op q_fAdd (q_op q_fAdd (q_op q_fMulI (q_op q_fIdx (q_var 0) (q_con fun _ => rfl)) (q_con fun _ => rfl)) (q_var 2)) (q_con fun _ => rfl)) q_lnil)) (q_con fun _ => rfl))) (q_seq (q_asg (q_gsub q_fSetL (q_var 0) (q_con fun _ => rfl)) (q_if (q_tbl (q_op q_fGe (q_var 2) (q_op q_fPow (q_con fun _ => rfl) (q_con fun _ => rfl)))) (q_var 2) (q_con fun _ => rfl))) q_nx)))) (q_seq (q_sif (q_tbl (q_op q_fGt (q_op q_fIdx (q_var 0) (q_con fun _ => rfl)) (q_con fun _ => rfl))) (q_seq (q_asg (q_gname 3) (q_op q_fMod (q_prim q_pInt (q_lcons (q_op q_fIdx (q_var 0) (q_con fun _ => rfl)) q_lnil)) (q_var 1))) (q_seq (q_asg (q_gsub q_fSetL (q_var 0) (q_con fun _ => rfl)) (q_op q_fFdiv (q_op q_fIdx (q_var 0) (q_con fun _ => rfl)) (q_var 1))) (q_seq (q_ret (q_var 3)) q_nx))) q_nx) (q_seq (q_asg (q_gname 4) (q_op q_fMod (q_prim q_pInt (q_lcons (q_op q_fPow (q_op q_fAdd (q_op q_fAdd (q_op q_fIdx (q_var 0) (q_con fun _ => rfl)) (q_op q_fMulI (q_con fun _ => rfl) (q_op q_fIdx (q_var 0) (q_con fun _ => rfl)))) (q_con fun _ => rfl)) (q_con fun _ => rfl)) q_lnil)) (q_con fun _ => rfl))) (q_seq (q_ret (q_op q_fMod (q_op q_fMod (q_prim q_pInt (q_lcons (q_op q_fPow (q_op q_fAdd (q_op q_fAdd (q_op q_fMulI (q_var 4) (q_con fun _ => rfl)) (q_op q_fMulI (q_con fun _ => rfl) (q_op q_fIdx (q_var 0) (q_con fun _ => rfl)))) (q_con fun _ => rfl)) (q_con fun _ => rfl)) q_lnil)) (q_con fun _ => rfl)) (q_var 1))) q_nx)))))
theorem q_2 {s : Sub} : QS s m_2 := (q_seq (q_asg (q_gname 2) (q_prim q_pList (q_lcons (q_var 1) q_lnil))) (q_seq (q_ret (q_lc (q_rng1 (q_prim q_pLen (q_lcons (q_var 2) q_lnil))) (q_gname 3) q_tyes (q_meth (by decide) q_fPopAt (q_var 2) (q_lcons (q_call (q_lcons (q_var 0) (q_lcons (q_prim q_pLen (q_lcons (q_var 2) q_lnil)) q_lnil))) q_lnil)))) q_nx))
theorem q_3 {s : Sub} : QS s m_3 := (q_seq (q_asg (q_gname 3) (q_lst q_lnil)) (q_seq (q_expr (q_meth (by decide) q_fAppend (q_var 3) (q_lcons (q_tup (q_lcons (q_mk (q_lcons (q_var 0) q_lnil)) (q_lcons (q_mk (q_lcons (q_var 0) q_lnil)) (q_lcons (q_lam 0) (q_lcons (q_lst (q_lcons (q_var 0) q_lnil)) q_lnil))))) q_lnil))) (q_seq (q_expr (q_meth (by decide) q_fAppend (q_var 3) (q_lcons (q_tup (q_lcons (q_mk (q_lcons (q_var 0) q_lnil)) (q_lcons (q_mk (q_lcons (q_var 0) q_lnil)) (q_lcons (q_lam 1) (q_lcons (q_lst (q_lcons (q_var 0) q_lnil)) q_lnil))))) q_lnil))) (q_seq (q_expr (q_meth (by decide) q_fAppend (q_var 3) (q_lcons (q_tup (q_lcons (q_mk (q_lcons (q_var 0) q_lnil)) (q_lcons (q_mk (q_lcons (q_var 0) q_lnil)) (q_lcons (q_lam 2) (q_lcons (q_lst (q_lcons (q_var 0) q_lnil)) q_lnil))))) q_lnil))) (q_seq (q_expr (q_meth (by decide) q_fAppend (q_var 3) (q_lcons (q_tup (q_lcons (q_mk (q_lcons (q_var 0) q_lnil)) (q_lcons (q_mk (q_lcons (q_var 0) q_lnil)) (q_lcons (q_lam 3) (q_lcons (q_lst (q_lcons (q_var 0) q_lnil)) q_lnil))))) q_lnil))) (q_seq (q_expr (q_meth (by decide) q_fAppend (q_var 3) (q_lcons (q_tup (q_lcons (q_mk (q_lcons (q_var 0) q_lnil)) (q_lcons (q_mk (q_lcons (q_var 0) q_lnil)) (q_lcons (q_lam 4) (q_lcons (q_lst (q_lcons (q_var 0) q_lnil)) q_lnil))))) q_lnil))) (q_seq (q_expr (q_meth (by decide) q_fAppend (q_var 3) (q_lcons (q_tup (q_lcons (q_mk (q_lcons (q_var 0) q_lnil)) (q_lcons (q_mk (q_lcons (q_var 0) q_lnil)) (q_lcons (q_lam 5) (q_lcons (q_lst (q_lcons (q_var 0) q_lnil)) q_lnil))))) q_lnil))) (q_seq (q_expr (q_meth (by decide) q_fAppend (q_var 3) (q_lcons (q_tup (q_lcons (q_mk (q_lcons (q_var 0) q_lnil)) (q_lcons (q_mk (q_lcons (q_var 0) q_lnil)) (q_lcons (q_lam 6) (q_lcons (q_lst (q_lcons (q_var 0) q_lnil)) q_lnil))))) q_lnil))) (q_seq (q_expr (q_meth (by decide) q_fAppend (q_var 3) (q_lcons (q_tup (q_lcons (q_mk (q_lcons (q_var 0) q_lnil)) (q_lcons (q_mk (q_lcons (q_var 0) q_lnil)) (q_lcons (q_lam 7) (q_lcons (q_lst (q_lcons (q_var 0) q_lnil)) q_lnil))))) q_lnil))) (q_seq (q_expr (q_meth (by decide) q_fAppend (q_var 3) (q_lcons (q_tup (q_lcons (q_mk (q_lcons (q_var 0) q_lnil)) (q_lcons (q_mk (q_lcons (q_var 0) q_lnil)) (q_lcons (q_lam 8) (q_lcons (q_lst (q_lcons (q_var 0) q_lnil)) q_lnil))))) q_lnil))) (q_seq (q_expr (q_meth (by decide) q_fAppend (q_var 3) (q_lcons (q_tup (q_lcons (q_mk (q_lcons (q_var 0) q_lnil)) (q_lcons (q_mk (q_lcons (q_var 0) q_lnil)) (q_lcons (q_lam 9) (q_lcons (q_lst (q_lcons (q_var 0) q_lnil)) q_lnil))))) q_lnil))) (q_seq (q_expr (q_meth (by decide) q_fAppend (q_var 3) (q_lcons (q_tup (q_lcons (q_mk (q_lcons (q_var 0) q_lnil)) (q_lcons (q_mk (q_lcons (q_var 0) q_lnil)) (q_lcons (q_lam 10) (q_lcons (q_lst (q_lcons (q_var 0) q_lnil)) q_lnil))))) q_lnil))) (q_seq (q_expr (q_meth (by decide) q_fAppend (q_var 3) (q_lcons (q_tup (q_lcons (q_mk (q_lcons (q_var 0) q_lnil)) (q_lcons (q_mk (q_lcons (q_var 0) q_lnil)) (q_lcons (q_lam 11) (q_lcons (q_lst (q_lcons (q_var 0) q_lnil)) q_lnil))))) q_lnil))) (q_seq (q_expr (q_meth (by decide) q_fAppend (q_var 3) (q_lcons (q_tup (q_lcons (q_mk (q_lcons (q_var 0) q_lnil)) (q_lcons (q_mk (q_lcons (q_var 0) q_lnil)) (q_lcons (q_lam 12) (q_lcons (q_lst (q_lcons (q_var 0) q_lnil)) q_lnil))))) q_lnil))) (q_seq (q_expr (q_meth (by decide) q_fAppend (q_var 3) (q_lcons (q_tup (q_lcons (q_mk (q_lcons (q_var 0) q_lnil)) (q_lcons (q_mk (q_lcons (q_var 0) q_lnil)) (q_lcons (q_lam 13) (q_lcons (q_lst (q_lcons (q_var 0) q_lnil)) q_lnil))))) q_lnil))) (q_seq (q_expr (q_meth (by decide) q_fAppend (q_var 3) (q_lcons (q_tup (q_lcons (q_mk (q_lcons (q_var 0) q_lnil)) (q_lcons (q_mk (q_lcons (q_var 0) q_lnil)) (q_lcons (q_lam 14) (q_lcons (q_lst (q_lcons (q_var 0) q_lnil)) q_lnil))))) q_lnil))) (q_seq (q_expr (q_meth (by decide) q_fAppend (q_var 3) (q_lcons (q_tup (q_lcons (q_mk (q_lcons (q_var 0) q_lnil)) (q_lcons (q_mk (q_lcons (q_var 0) q_lnil)) (q_lcons (q_lam 15) (q_lcons (q_lst (q_lcons (q_var 0) q_lnil)) q_lnil))))) q_lnil))) (q_seq (q_expr (q_meth (by decide) q_fAppend (q_var 3) (q_lcons (q_tup (q_lcons (q_mk (q_lcons (q_var 0) q_lnil)) (q_lcons (q_mk (q_lcons (q_var 0) q_lnil)) (q_lcons (q_lam 16) (q_lcons (q_lst (q_lcons (q_var 0) q_lnil)) q_lnil))))) q_lnil))) (q_seq (q_expr (q_meth (by decide) q_fAppend (q_var 3) (q_lcons (q_tup (q_lcons (q_mk (q_lcons (q_var 0) q_lnil)) (q_lcons (q_mk (q_lcons (q_var 0) q_lnil)) (q_lcons (q_lam 17) (q_lcons (q_lst (q_lcons (q_var 0) q_lnil)) q_lnil))))) q_lnil))) (q_seq (q_ret (q_var 3)) q_nx))))))))))))))))))))
theorem q_4 {s : Sub} : QS s m_4 := (q_seq (q_asg (q_gname 3) (q_lst q_lnil)) (q_seq (q_expr (q_meth (by decide) q_fAppend (q_var 3) (q_lcons (q_tup (q_lcons (q_mk (q_lcons (q_var 0) q_lnil)) (q_lcons (q_mk (q_lcons (q_var 0) q_lnil)) (q_lcons (q_lam 18) (q_lcons (q_lst (q_lcons (q_var 0) q_lnil)) q_lnil))))) q_lnil))) (q_seq (q_expr (q_meth (by decide) q_fAppend (q_var 3) (q_lcons (q_tup (q_lcons (q_mk (q_lcons (q_var 0) q_lnil)) (q_lcons (q_mk (q_lcons (q_var 0) q_lnil)) (q_lcons (q_lam 19) (q_lcons (q_lst (q_lcons (q_var 0) q_lnil)) q_lnil))))) q_lnil))) (q_seq (q_expr (q_meth (by decide) q_fAppend (q_var 3) (q_lcons (q_tup (q_lcons (q_mk (q_lcons (q_var 0) q_lnil)) (q_lcons (q_mk (q_lcons (q_var 0) q_lnil)) (q_lcons (q_lam 20) (q_lcons (q_lst (q_lcons (q_var 0) q_lnil)) q_lnil))))) q_lnil))) (q_seq (q_expr (q_meth (by decide) q_fAppend (q_var 3) (q_lcons (q_tup (q_lcons (q_mk (q_lcons (q_var 0) q_lnil)) (q_lcons (q_mk (q_lcons (q_var 0) q_lnil)) (q_lcons (q_lam 21) (q_lcons (q_lst (q_lcons (q_var 0) q_lnil)) q_lnil))))) q_lnil))) (q_seq (q_expr (q_meth (by decide) q_fAppend (q_var 3) (q_lcons (q_tup (q_lcons (q_mk (q_lcons (q_var 0) q_lnil)) (q_lcons (q_mk (q_lcons (q_var 0) q_lnil)) (q_lcons (q_lam 22) (q_lcons (q_lst (q_lcons (q_var 0) q_lnil)) q_lnil))))) q_lnil))) (q_seq (q_expr (q_meth (by decide) q_fAppend (q_var 3) (q_lcons (q_tup (q_lcons (q_mk (q_lcons (q_var 0) q_lnil)) (q_lcons (q_mk (q_lcons (q_var 0) q_lnil)) (q_lcons (q_lam 23) (q_lcons (q_lst (q_lcons (q_var 0) q_lnil)) q_lnil))))) q_lnil))) (q_seq (q_expr (q_meth (by decide) q_fAppend (q_var 3) (q_lcons (q_tup (q_lcons (q_mk (q_lcons (q_var 0) q_lnil)) (q_lcons (q_mk (q_lcons (q_var 0) q_lnil)) (q_lcons (q_lam 24) (q_lcons (q_lst (q_lcons (q_var 0) q_lnil)) q_lnil))))) q_lnil))) (q_seq (q_expr (q_meth (by decide) q_fAppend (q_var 3) (q_lcons (q_tup (q_lcons (q_mk (q_lcons (q_var 0) q_lnil)) (q_lcons (q_mk (q_lcons (q_var 0) q_lnil)) (q_lcons (q_lam 25) (q_lcons (q_lst (q_lcons (q_var 0) q_lnil)) q_lnil))))) q_lnil))) (q_seq (q_expr (q_meth (by decide) q_fAppend (q_var 3) (q_lcons (q_tup (q_lcons (q_mk (q_lcons (q_var 0) q_lnil)) (q_lcons (q_mk (q_lcons (q_var 0) q_lnil)) (q_lcons (q_lam 26) (q_lcons (q_lst (q_lcons (q_var 0) q_lnil)) q_lnil))))) q_lnil))) (q_seq (q_expr (q_meth (by decide) q_fAppend (q_var 3) (q_lcons (q_tup (q_lcons (q_mk (q_lcons (q_var 0) q_lnil)) (q_lcons (q_mk (q_lcons (q_var 0) q_lnil)) (q_lcons (q_lam 27) (q_lcons (q_lst (q_lcons (q_var 0) q_lnil)) q_lnil))))) q_lnil))) (q_seq (q_expr (q_meth (by decide) q_fAppend (q_var 3) (q_lcons (q_tup (q_lcons (q_mk (q_lcons (q_var 0) q_lnil)) (q_lcons (q_mk (q_lcons (q_var 0) q_lnil)) (q_lcons (q_lam 28) (q_lcons (q_lst (q_lcons (q_var 0) q_lnil)) q_lnil))))) q_lnil))) (q_seq (q_expr (q_meth (by decide) q_fAppend (q_var 3) (q_lcons (q_tup (q_lcons (q_mk (q_lcons (q_var 0) q_lnil)) (q_lcons (q_mk (q_lcons (q_var 0) q_lnil)) (q_lcons (q_lam 29) (q_lcons (q_lst (q_lcons (q_var 0) q_lnil)) q_lnil))))) q_lnil))) (q_seq (q_expr (q_meth (by decide) q_fAppend (q_var 3) (q_lcons (q_tup (q_lcons (q_mk (q_lcons (q_var 0) q_lnil)) (q_lcons (q_mk (q_lcons (q_var 0) q_lnil)) (q_lcons (q_lam 30) (q_lcons (q_lst (q_lcons (q_var 0) q_lnil)) q_lnil))))) q_lnil))) (q_seq (q_expr (q_meth (by decide) q_fAppend (q_var 3) (q_lcons (q_tup (q_lcons (q_mk (q_lcons (q_var 0) q_lnil)) (q_lcons (q_mk (q_lcons (q_var 0) q_lnil)) (q_lcons (q_lam 31) (q_lcons (q_lst (q_lcons (q_var 0) q_lnil)) q_lnil))))) q_lnil))) (q_seq (q_expr (q_meth (by decide) q_fAppend (q_var 3) (q_lcons (q_tup (q_lcons (q_mk (q_lcons (q_var 0) q_lnil)) (q_lcons (q_mk (q_lcons (q_var 0) q_lnil)) (q_lcons (q_lam 32) (q_lcons (q_lst (q_lcons (q_var 0) q_lnil)) q_lnil))))) q_lnil))) (q_seq (q_expr (q_meth (by decide) q_fAppend (q_var 3) (q_lcons (q_tup (q_lcons (q_mk (q_lcons (q_var 0) (q_lcons (q_var 1) q_lnil))) (q_lcons (q_mk (q_lcons (q_var 1) (q_lcons (q_var 0) q_lnil))) (q_lcons (q_lam 33) (q_lcons (q_lst (q_lcons (q_var 0) (q_lcons (q_var 1) q_lnil))) q_lnil))))) q_lnil))) (q_seq (q_expr (q_meth (by decide) q_fAppend (q_var 3) (q_lcons (q_tup (q_lcons (q_mk (q_lcons (q_var 0) q_lnil)) (q_lcons (q_mk (q_lcons (q_var 0) q_lnil)) (q_lcons (q_lam 34) (q_lcons (q_lst (q_lcons (q_var 0) q_lnil)) q_lnil))))) q_lnil))) (q_seq (q_expr (q_meth (by decide) q_fAppend (q_var 3) (q_lcons (q_tup (q_lcons (q_mk (q_lcons (q_var 0) q_lnil)) (q_lcons (q_mk (q_lcons (q_var 0) q_lnil)) (q_lcons (q_lam 35) (q_lcons (q_lst (q_lcons (q_var 0) q_lnil)) q_lnil))))) q_lnil))) (q_seq (q_ret (q_var 3)) q_nx))))))))))))))))))))
theorem q_5 {s : Sub} : QS s m_5 := (q_seq (q_asg (q_gname 3) (q_lst q_lnil)) (q_seq (q_expr (q_meth (by decide) q_fAppend (q_var 3) (q_lcons (q_tup (q_lcons (q_mk (q_lcons (q_var 0) q_lnil)) (q_lcons (q_mk (q_lcons (q_var 0) q_lnil)) (q_lcons (q_lam 36) (q_lcons (q_lst (q_lcons (q_var 0) q_lnil)) q_lnil))))) q_lnil))) (q_seq (q_expr (q_meth (by decide) q_fAppend (q_var 3) (q_lcons (q_tup (q_lcons (q_mk (q_lcons (q_var 0) q_lnil)) (q_lcons (q_mk (q_lcons (q_var 0) q_lnil)) (q_lcons (q_lam 37) (q_lcons (q_lst (q_lcons (q_var 0) q_lnil)) q_lnil))))) q_lnil))) (q_seq (q_expr (q_meth (by decide) q_fAppend (q_var 3) (q_lcons (q_tup (q_lcons (q_mk (q_lcons (q_var 0) q_lnil)) (q_lcons (q_mk (q_lcons (q_var 0) q_lnil)) (q_lcons (q_lam 38) (q_lcons (q_lst (q_lcons (q_var 0) q_lnil)) q_lnil))))) q_lnil))) (q_seq (q_expr (q_meth (by decide) q_fAppend (q_var 3) (q_lcons (q_tup (q_lcons (q_mk0 40) (q_lcons (q_mk0 40) (q_lcons (q_lam 39) (q_lcons (q_lst q_lnil) q_lnil))))) q_lnil))) (q_seq (q_expr (q_meth (by decide) q_fAppend (q_var 3) (q_lcons (q_tup (q_lcons (q_mk0 41) (q_lcons (q_mk0 41) (q_lcons (q_lam 40) (q_lcons (q_lst q_lnil) q_lnil))))) q_lnil))) (q_seq (q_expr (q_meth (by decide) q_fAppend (q_var 3) (q_lcons (q_tup (q_lcons (q_mk (q_lcons (q_var 0) q_lnil)) (q_lcons (q_mk (q_lcons (q_var 0) q_lnil)) (q_lcons (q_lam 41) (q_lcons (q_lst (q_lcons (q_var 0) q_lnil)) q_lnil))))) q_lnil))) (q_seq (q_expr (q_meth (by decide) q_fAppend (q_var 3) (q_lcons (q_tup (q_lcons (q_mk0 43) (q_lcons (q_mk0 43) (q_lcons (q_lam 42) (q_lcons (q_lst q_lnil) q_lnil))))) q_lnil))) (q_seq (q_expr (q_meth (by decide) q_fAppend (q_var 3) (q_lcons (q_tup (q_lcons (q_mk (q_lcons (q_var 0) q_lnil)) (q_lcons (q_mk (q_lcons (q_var 0) q_lnil)) (q_lcons (q_lam 43) (q_lcons (q_lst (q_lcons (q_var 0) q_lnil)) q_lnil))))) q_lnil))) (q_seq (q_expr (q_meth (by decide) q_fAppend (q_var 3) (q_lcons (q_tup (q_lcons (q_mk (q_lcons (q_var 0) q_lnil)) (q_lcons (q_mk (q_lcons (q_var 0) q_lnil)) (q_lcons (q_lam 44) (q_lcons (q_lst (q_lcons (q_var 0) q_lnil)) q_lnil))))) q_lnil))) (q_seq (q_expr (q_meth (by decide) q_fAppend (q_var 3) (q_lcons (q_tup (q_lcons (q_mk0 46) (q_lcons (q_mk0 46) (q_lcons (q_lam 45) (q_lcons (q_lst q_lnil) q_lnil))))) q_lnil))) (q_seq (q_expr (q_meth (by decide) q_fAppend (q_var 3) (q_lcons (q_tup (q_lcons (q_mk0 47) (q_lcons (q_mk0 47) (q_lcons (q_lam 46) (q_lcons (q_lst q_lnil) q_lnil))))) q_lnil))) (q_seq (q_expr (q_meth (by decide) q_fAppend (q_var 3) (q_lcons (q_tup (q_lcons (q_mk0 48) (q_lcons (q_mk0 48) (q_lcons (q_lam 47) (q_lcons (q_lst q_lnil) q_lnil))))) q_lnil))) (q_seq (q_expr (q_meth (by decide) q_fAppend (q_var 3) (q_lcons (q_tup (q_lcons (q_mk0 49) (q_lcons (q_mk0 49) (q_lcons (q_lam 48) (q_lcons (q_lst q_lnil) q_lnil))))) q_lnil))) (q_seq (q_expr (q_meth (by decide) q_fAppend (q_var 3) (q_lcons (q_tup (q_lcons (q_mk0 50) (q_lcons (q_mk0 50) (q_lcons (q_lam 49) (q_lcons (q_lst q_lnil) q_lnil))))) q_lnil))) (q_seq (q_expr (q_meth (by decide) q_fAppend (q_var 3) (q_lcons (q_tup (q_lcons (q_mk (q_lcons (q_var 0) q_lnil)) (q_lcons (q_mk (q_lcons (q_var 0) q_lnil)) (q_lcons (q_lam 50) (q_lcons (q_lst (q_lcons (q_var 0) q_lnil)) q_lnil))))) q_lnil))) (q_seq (q_expr (q_meth (by decide) q_fAppend (q_var 3) (q_lcons (q_tup (q_lcons (q_mk0 52) (q_lcons (q_mk0 52) (q_lcons (q_lam 51) (q_lcons (q_lst q_lnil) q_lnil))))) q_lnil))) (q_seq (q_expr (q_meth (by decide) q_fAppend (q_var 3) (q_lcons (q_tup (q_lcons (q_mk (q_lcons (q_var 0) q_lnil)) (q_lcons (q_mk (q_lcons (q_var 0) q_lnil)) (q_lcons (q_lam 52) (q_lcons (q_lst (q_lcons (q_var 0) q_lnil)) q_lnil))))) q_lnil))) (q_seq (q_expr (q_meth (by decide) q_fAppend (q_var 3) (q_lcons (q_tup (q_lcons (q_mk0 54) (q_lcons (q_mk0 54) (q_lcons (q_lam 53) (q_lcons (q_lst q_lnil) q_lnil))))) q_lnil))) (q_seq (q_ret (q_var 3)) q_nx))))))))))))))))))))
theorem q_6 {s : Sub} : QS s m_6 := (q_seq (q_asg (q_gname 3) (q_lst q_lnil)) (q_seq (q_expr (q_meth (by decide) q_fAppend (q_var 3) (q_lcons (q_tup (q_lcons (q_mk0 55) (q_lcons (q_mk0 55) (q_lcons (q_lam 54) (q_lcons (q_lst q_lnil) q_lnil))))) q_lnil))) (q_seq (q_expr (q_meth (by decide) q_fAppend (q_var 3) (q_lcons (q_tup (q_lcons (q_mk0 56) (q_lcons (q_mk0 56) (q_lcons (q_lam 55) (q_lcons (q_lst q_lnil) q_lnil))))) q_lnil))) (q_seq (q_expr (q_meth (by decide) q_fAppend (q_var 3) (q_lcons (q_tup (q_lcons (q_mk0 57) (q_lcons (q_mk0 57) (q_lcons (q_lam 56) (q_lcons (q_lst q_lnil) q_lnil))))) q_lnil))) (q_seq (q_expr (q_meth (by decide) q_fAppend (q_var 3) (q_lcons (q_tup (q_lcons (q_mk (q_lcons (q_var 0) (q_lcons (q_var 1) q_lnil))) (q_lcons (q_mk (q_lcons (q_var 1) (q_lcons (q_var 0) q_lnil))) (q_lcons (q_lam 57) (q_lcons (q_lst (q_lcons (q_var 0) (q_lcons (q_var 1) q_lnil))) q_lnil))))) q_lnil))) (q_seq (q_ret (q_var 3)) q_nx))))))
theorem q_7 {s : Sub} : QS s m_7 := (q_seq (q_asg (q_gname 1) (q_lst q_lnil)) (q_seq (q_expr (q_meth (by decide) q_fExtend (q_var 1) (q_lcons (q_lst (q_lcons (q_isi (q_var 0)) (q_lcons (q_isi (q_var 0)) q_lnil))) q_lnil))) (q_seq (q_expr (q_meth (by decide) q_fExtend (q_var 1) (q_lcons (q_lst (q_lcons (q_isi (q_var 0)) (q_lcons (q_isi (q_var 0)) q_lnil))) q_lnil))) (q_seq (q_expr (q_meth (by decide) q_fExtend (q_var 1) (q_lcons (q_lst (q_lcons (q_isi (q_var 0)) (q_lcons (q_isi (q_var 0)) q_lnil))) q_lnil))) (q_seq (q_expr (q_meth (by decide) q_fExtend (q_var 1) (q_lcons (q_lst (q_lcons (q_isi (q_var 0)) (q_lcons (q_isi (q_var 0)) q_lnil))) q_lnil))) (q_seq (q_expr (q_meth (by decide) q_fExtend (q_var 1) (q_lcons (q_lst (q_lcons (q_isi (q_var 0)) (q_lcons (q_isi (q_var 0)) q_lnil))) q_lnil))) (q_seq (q_expr (q_meth (by decide) q_fExtend (q_var 1) (q_lcons (q_lst (q_lcons (q_isi (q_var 0)) (q_lcons (q_isi (q_var 0)) q_lnil))) q_lnil))) (q_seq (q_expr (q_meth (by decide) q_fExtend (q_var 1) (q_lcons (q_lst (q_lcons (q_isi (q_var 0)) (q_lcons (q_isi (q_var 0)) q_lnil))) q_lnil))) (q_seq (q_expr (q_meth (by decide) q_fExtend (q_var 1) (q_lcons (q_lst (q_lcons (q_isi (q_var 0)) (q_lcons (q_isi (q_var 0)) q_lnil))) q_lnil))) (q_seq (q_expr (q_meth (by decide) q_fExtend (q_var 1) (q_lcons (q_lst (q_lcons (q_isi (q_var 0)) (q_lcons (q_isi (q_var 0)) q_lnil))) q_lnil))) (q_seq (q_ret (q_var 1)) q_nx)))))))))))
theorem q_8 {s : Sub} : QS s m_8 := (q_seq (q_asg (q_gname 1) (q_lst q_lnil)) (q_seq (q_expr (q_meth (by decide) q_fExtend (q_var 1) (q_lcons (q_lst (q_lcons (q_isi (q_var 0)) (q_lcons (q_isi (q_var 0)) q_lnil))) q_lnil))) (q_seq (q_expr (q_meth (by decide) q_fExtend (q_var 1) (q_lcons (q_lst (q_lcons (q_isi (q_var 0)) (q_lcons (q_isi (q_var 0)) q_lnil))) q_lnil))) (q_seq (q_expr (q_meth (by decide) q_fExtend (q_var 1) (q_lcons (q_lst (q_lcons (q_isi (q_var 0)) (q_lcons (q_isi (q_var 0)) q_lnil))) q_lnil))) (q_seq (q_expr (q_meth (by decide) q_fExtend (q_var 1) (q_lcons (q_lst (q_lcons (q_isi (q_var 0)) (q_lcons (q_isi (q_var 0)) q_lnil))) q_lnil))) (q_seq (q_expr (q_meth (by decide) q_fExtend (q_var 1) (q_lcons (q_lst (q_lcons (q_isi (q_var 0)) (q_lcons (q_isi (q_var 0)) q_lnil))) q_lnil))) (q_seq (q_expr (q_meth (by decide) q_fExtend (q_var 1) (q_lcons (q_lst (q_lcons (q_isi (q_var 0)) (q_lcons (q_isi (q_var 0)) q_lnil))) q_lnil))) (q_seq (q_expr (q_meth (by decide) q_fExtend (q_var 1) (q_lcons (q_lst (q_lcons (q_isi (q_var 0)) (q_lcons (q_isi (q_var 0)) q_lnil))) q_lnil))) (q_seq (q_expr (q_meth (by decide) q_fExtend (q_var 1) (q_lcons (q_lst (q_lcons (q_isi (q_var 0)) (q_lcons (q_isi (q_var 0)) q_lnil))) q_lnil))) (q_seq (q_expr (q_meth (by decide) q_fExtend (q_var 1) (q_lcons (q_lst (q_lcons (q_isi (q_var 0)) (q_lcons (q_isi (q_var 0)) q_lnil))) q_lnil))) (q_seq (q_ret (q_var 1)) q_nx)))))))))))
theorem q_9 {s : Sub} : QS s m_9 := (q_seq (q_asg (q_gname 1) (q_lst q_lnil)) (q_seq (q_expr (q_meth (by decide) q_fExtend (q_var 1) (q_lcons (q_lst (q_lcons (q_isi (q_var 0)) (q_lcons (q_isi (q_var 0)) q_lnil))) q_lnil))) (q_seq (q_expr (q_meth (by decide) q_fExtend (q_var 1) (q_lcons (q_lst (q_lcons (q_isi (q_var 0)) (q_lcons (q_isi (q_var 0)) q_lnil))) q_lnil))) (q_seq (q_expr (q_meth (by decide) q_fExtend (q_var 1) (q_lcons (q_lst (q_lcons (q_isi (q_var 0)) (q_lcons (q_isi (q_var 0)) q_lnil))) q_lnil))) (q_seq (q_expr (q_meth (by decide) q_fExtend (q_var 1) (q_lcons (q_lst (q_lcons (q_isi (q_var 0)) (q_lcons (q_isi (q_var 0)) q_lnil))) q_lnil))) (q_seq (q_expr (q_meth (by decide) q_fExtend (q_var 1) (q_lcons (q_lst (q_lcons (q_isi (q_var 0)) (q_lcons (q_isi (q_var 0)) q_lnil))) q_lnil))) (q_seq (q_expr (q_meth (by decide) q_fExtend (q_var 1) (q_lcons (q_lst (q_lcons (q_isi (q_var 0)) (q_lcons (q_isi (q_var 0)) q_lnil))) q_lnil))) (q_seq (q_expr (q_meth (by decide) q_fExtend (q_var 1) (q_lcons (q_lst (q_lcons (q_isi (q_var 0)) (q_lcons (q_isi (q_var 0)) q_lnil))) q_lnil))) (q_seq (q_expr (q_meth (by decide) q_fExtend (q_var 1) (q_lcons (q_lst (q_lcons (q_isi (q_var 0)) (q_lcons (q_isi (q_var 0)) q_lnil))) q_lnil))) (q_seq (q_expr (q_meth (by decide) q_fExtend (q_var 1) (q_lcons (q_lst (q_lcons (q_isi (q_var 0)) (q_lcons (q_isi (q_var 0)) q_lnil))) q_lnil))) (q_seq (q_ret (q_var 1)) q_nx)))))))))))
theorem q_10 {s : Sub} : QS s m_10 := (q_seq (q_asg (q_gname 1) (q_lst q_lnil)) (q_seq (q_expr (q_meth (by decide) q_fExtend (q_var 1) (q_lcons (q_lst (q_lcons (q_isi (q_var 0)) (q_lcons (q_isi (q_var 0)) q_lnil))) q_lnil))) (q_seq (q_expr (q_meth (by decide) q_fExtend (q_var 1) (q_lcons (q_lst (q_lcons (q_isi (q_var 0)) (q_lcons (q_isi (q_var 0)) q_lnil))) q_lnil))) (q_seq (q_ret (q_var 1)) q_nx))))
theorem q_11 {s : Sub} : QS s m_11 := (q_seq (q_ret (q_op q_fAdd (q_op q_fAdd (q_op q_fAdd (q_call (q_lcons (q_var 0) q_lnil)) (q_call (q_lcons (q_var 0) q_lnil))) (q_call (q_lcons (q_var 0) q_lnil))) (q_call (q_lcons (q_var 0) q_lnil)))) q_nx)
theorem q_12 {s : Sub} : QS s m_12 := (q_seq (q_sif (q_tor (q_tnot (q_tval (q_isi (q_var 0)))) (q_tnot (q_tval (q_isi (q_var 0))))) (q_seq (q_ret (q_con fun _ => rfl)) q_nx) q_nx) (q_seq (q_sif (q_tor (q_tval (q_isi (q_var 0))) (q_tor (q_tval (q_isi (q_var 0))) (q_tval (q_isi (q_var 0))))) (q_seq (q_ret (q_con fun _ => rfl)) q_nx) q_nx) (q_seq (q_ret (q_op q_fEq (q_call (q_lcons (q_var 0) q_lnil)) (q_lc (q_rng1 (q_con fun _ => rfl)) (q_gname 2) q_tyes (q_op q_fEq (q_var 2) (q_var 1))))) q_nx)))
theorem q_13 {s : Sub} : QS s m_13 := (q_seq (q_sif (q_tbl (q_op q_fIsN (q_var 1) (q_con fun _ => rfl))) (q_seq (q_ret (q_op q_fIsN (q_var 0) (q_con fun _ => rfl))) q_nx) q_nx) (q_seq (q_sif (q_tval (q_isi (q_var 1))) (q_seq (q_ret (q_and (q_isi (q_var 0)) (q_op q_fEq (q_var 0) (q_var 1)))) q_nx) q_nx) (q_seq (q_sif (q_tval (q_isi (q_var 1))) (q_seq (q_sif (q_tor (q_tbl (q_op q_fNe (q_isi (q_var 0)) (q_isi (q_var 1)))) (q_tbl (q_op q_fNe (q_isi (q_var 0)) (q_isi (q_var 1))))) (q_seq (q_ret (q_con fun _ => rfl)) q_nx) q_nx) (q_seq (q_ret (q_and (q_op q_fEq (q_prim q_pLen (q_lcons (q_var 0) q_lnil)) (q_prim q_pLen (q_lcons (q_var 1) q_lnil))) (q_prim q_pAll (q_lcons (q_lc (q_zip (q_var 0) (q_var 1)) (q_gtup (q_gcons (q_gname 2) (q_gcons (q_gname 3) q_gnil))) q_tyes (q_call (q_lcons (q_var 2) (q_lcons (q_var 3) q_lnil)))) q_lnil)))) q_nx)) q_nx) (q_seq (q_sif (q_tval (q_isi (q_var 1))) (q_seq (q_ret (q_and (q_isi (q_var 0)) (q_call (q_lcons (q_un q_fItems (q_var 0)) (q_lcons (q_un q_fItems (q_var 1)) q_lnil))))) q_nx) q_nx) (q_seq (q_ret (q_and (q_isi (q_var 0)) (q_and (q_op q_fEq (q_isi (q_var 0)) (q_isi (q_var 1))) (q_op q_fEq (q_var 0) (q_var 1))))) q_nx)))))
theorem q_14 {s : Sub} : QS s m_14 := (q_seq (q_ret (q_call (q_lcons (q_var 0) (q_lcons (q_var 1) q_lnil)))) q_nx)
theorem q_15 {s : Sub} : QS s m_15 := (q_seq (q_asg (q_gname 1) (q_call (q_lcons (q_var 0) q_lnil))) (q_seq (q_asg (q_gname 2) (q_lst (q_lcons (q_con fun _ => rfl) (q_lcons (q_con fun _ => rfl) (q_lcons (q_un q_fNeg (q_con fun _ => rfl)) (q_lcons (q_con fun _ => rfl) (q_lcons (q_con fun _ => rfl) (q_lcons (q_con fun _ => rfl) (q_lcons (q_lst (q_lcons (q_con fun _ => rfl) (q_lcons (q_con fun _ => rfl) q_lnil))) (q_lcons (q_tup (q_lcons (q_con fun _ => rfl) (q_lcons (q_con fun _ => rfl) q_lnil))) (q_lcons (q_dct (.cons (q_con fun _ => rfl) (q_con fun _ => rfl) .nil)) (q_lcons (q_lst (q_lcons (q_lst (q_lcons (q_con fun _ => rfl) q_lnil)) q_lnil)) (q_lcons (q_op q_fPow (q_con fun _ => rfl) (q_con fun _ => rfl)) (q_lcons (q_tup (q_lcons (q_con fun _ => rfl) (q_lcons (q_con fun _ => rfl) q_lnil))) (q_lcons (q_con fun _ => rfl) (q_lcons (q_con fun _ => rfl) (q_lcons (q_con fun _ => rfl) q_lnil))))))))))))))))) (q_seq (q_for (q_rng1 (q_con fun _ => rfl)) (q_gname 3) (q_seq (q_asg (q_gtup (q_gcons (q_gname 4) (q_gcons (q_gname 5) (q_gcons (q_gname 6) q_gnil)))) (q_cut (q_call (q_lcons (q_var 1) (q_lcons (q_var 2) q_lnil))) q_onone (q_osome (q_con fun _ => rfl)))) (q_seq (q_asg (q_gname 7) (q_op q_fAdd (q_op q_fAdd (q_call (q_lcons (q_var 4) (q_lcons (q_var 5) (q_lcons (q_var 6) q_lnil)))) (q_call (q_lcons (q_var 4) (q_lcons (q_var 5) (q_lcons (q_var 6) q_lnil))))) (q_call (q_lcons (q_var 4) (q_lcons (q_var 5) (q_lcons (q_var 6) q_lnil)))))) (q_seq (q_expr (q_meth (by decide) q_fExtend (q_var 7) (q_lcons (q_call (q_lcons (q_var 4) (q_lcons (q_var 5) (q_lcons (q_var 6) q_lnil)))) q_lnil))) (q_seq (q_for (q_enum (q_var 7)) (q_gtup (q_gcons (q_gname 8) (q_gcons (q_gtup (q_gcons (q_gname 9) (q_gcons (q_gname 10) (q_gcons (q_gname 11) (q_gcons (q_gname 12) q_gnil))))) q_gnil))) (q_seq (q_sif (q_tor (q_tnot (q_tval (q_call (q_lcons (q_var 9) (q_lcons (q_var 8) q_lnil))))) (q_tnot (q_tval (q_call (q_lcons (q_var 10) (q_lcons (q_var 8) q_lnil)))))) (q_seq (q_ret (q_con fun _ => rfl)) q_nx) q_nx) (q_seq (q_sif (q_tor (q_tnot (q_tval (q_call (q_lcons (q_callF (q_var 11) (q_lcons (q_var 9) q_lnil)) (q_lcons (q_var 12) q_lnil))))) (q_tnot (q_tval (q_call (q_lcons (q_callF (q_var 11) (q_lcons (q_var 10) q_lnil)) (q_lcons (q_var 12) q_lnil)))))) (q_seq (q_ret (q_con fun _ => rfl)) q_nx) q_nx) q_nx))) q_nx))))) (q_seq (q_asg (q_gname 13) (q_lst (q_lcons (q_con fun _ => rfl) q_lnil))) (q_seq (q_asg (q_gname 7) (q_op q_fAdd (q_op q_fAdd (q_call (q_lcons (q_var 13) (q_lcons (q_var 13) (q_lcons (q_var 13) q_lnil)))) (q_call (q_lcons (q_var 13) (q_lcons (q_var 13) (q_lcons (q_var 13) q_lnil))))) (q_call (q_lcons (q_var 13) (q_lcons (q_var 13) (q_lcons (q_var 13) q_lnil)))))) (q_seq (q_expr (q_meth (by decide) q_fExtend (q_var 7) (q_lcons (q_call (q_lcons (q_var 13) (q_lcons (q_var 13) (q_lcons (q_var 13) q_lnil)))) q_lnil))) (q_seq (q_expr (q_meth (by decide) q_fAppend (q_var 13) (q_lcons (q_con fun _ => rfl) q_lnil))) (q_seq (q_for (q_ival (q_var 7)) (q_gtup (q_gcons (q_gname 9) (q_gcons (q_gname 10) (q_gcons (q_gname 11) (q_gcons (q_gname 12) q_gnil))))) (q_seq (q_sif (q_tor (q_tnot (q_tval (q_call (q_lcons (q_callF (q_var 11) (q_lcons (q_var 9) q_lnil)) (q_lcons (q_var 12) q_lnil))))) (q_tnot (q_tval (q_call (q_lcons (q_callF (q_var 11) (q_lcons (q_var 10) q_lnil)) (q_lcons (q_var 12) q_lnil)))))) (q_seq (q_ret (q_con fun _ => rfl)) q_nx) q_nx) q_nx)) (q_seq (q_asg (q_gname 14) (q_mk0 0)) (q_seq (q_ret (q_and (q_isi (q_var 14)) (q_op (q_fIn true) (q_con fun _ => rfl) (q_call (q_lcons (q_var 14) q_lnil))))) q_nx))))))))))
theorem ql_0 {s : Sub} : QE s l_0 := (q_lst (q_lcons (q_fld (q_var 0)) q_lnil))
theorem ql_1 {s : Sub} : QE s l_1 := (q_lst (q_lcons (q_fld (q_var 0)) q_lnil))
theorem ql_2 {s : Sub} : QE s l_2 := (q_lst (q_lcons (q_fld (q_var 0)) q_lnil))
theorem ql_3 {s : Sub} : QE s l_3 := (q_lst (q_lcons (q_fld (q_var 0)) q_lnil))
theorem ql_4 {s : Sub} : QE s l_4 := (q_lst (q_lcons (q_fld (q_var 0)) q_lnil))
theorem ql_5 {s : Sub} : QE s l_5 := (q_lst (q_lcons (q_fld (q_var 0)) q_lnil))
theorem ql_6 {s : Sub} : QE s l_6 := (q_lst (q_lcons (q_fld (q_var 0)) q_lnil))
theorem ql_7 {s : Sub} : QE s l_7 := (q_lst (q_lcons (q_fld (q_var 0)) q_lnil))
theorem ql_8 {s : Sub} : QE s l_8 := (q_lst (q_lcons (q_fld (q_var 0)) q_lnil))
theorem ql_9 {s : Sub} : QE s l_9 := (q_lst (q_lcons (q_fld (q_var 0)) q_lnil))
theorem ql_10 {s : Sub} : QE s l_10 := (q_lst (q_lcons (q_fld (q_var 0)) q_lnil))
theorem ql_11 {s : Sub} : QE s l_11 := (q_lst (q_lcons (q_fld (q_var 0)) q_lnil))
theorem ql_12 {s : Sub} : QE s l_12 := (q_lst (q_lcons (q_fld (q_var 0)) q_lnil))
theorem ql_13 {s : Sub} : QE s l_13 := (q_lst (q_lcons (q_fld (q_var 0)) q_lnil))
theorem ql_14 {s : Sub} : QE s l_14 := (q_lst (q_lcons (q_fld (q_var 0)) q_lnil))
theorem ql_15 {s : Sub} : QE s l_15 := (q_lst (q_lcons (q_fld (q_var 0)) q_lnil))
theorem ql_16 {s : Sub} : QE s l_16 := (q_lst (q_lcons (q_fld (q_var 0)) q_lnil))
theorem ql_17 {s : Sub} : QE s l_17 := (q_lst (q_lcons (q_fld (q_var 0)) q_lnil))
theorem ql_18 {s : Sub} : QE s l_18 := (q_lst (q_lcons (q_fld (q_var 0)) q_lnil))
theorem ql_19 {s : Sub} : QE s l_19 := (q_lst (q_lcons (q_fld (q_var 0)) q_lnil))
theorem ql_20 {s : Sub} : QE s l_20 := (q_lst (q_lcons (q_fld (q_var 0)) q_lnil))
theorem ql_21 {s : Sub} : QE s l_21 := (q_lst (q_lcons (q_fld (q_var 0)) q_lnil))
theorem ql_22 {s : Sub} : QE s l_22 := (q_lst (q_lcons (q_fld (q_var 0)) q_lnil))
theorem ql_23 {s : Sub} : QE s l_23 := (q_lst (q_lcons (q_fld (q_var 0)) q_lnil))
theorem ql_24 {s : Sub} : QE s l_24 := (q_lst (q_lcons (q_fld (q_var 0)) q_lnil))
theorem ql_25 {s : Sub} : QE s l_25 := (q_lst (q_lcons (q_fld (q_var 0)) q_lnil))
theorem ql_26 {s : Sub} : QE s l_26 := (q_lst (q_lcons (q_fld (q_var 0)) q_lnil))
theorem ql_27 {s : Sub} : QE s l_27 := (q_lst (q_lcons (q_fld (q_var 0)) q_lnil))
theorem ql_28 {s : Sub} : QE s l_28 := (q_lst (q_lcons (q_fld (q_var 0)) q_lnil))
theorem ql_29 {s : Sub} : QE s l_29 := (q_lst (q_lcons (q_fld (q_var 0)) q_lnil))
theorem ql_30 {s : Sub} : QE s l_30 := (q_lst (q_lcons (q_fld (q_var 0)) q_lnil))
theorem ql_31 {s : Sub} : QE s l_31 := (q_lst (q_lcons (q_fld (q_var 0)) q_lnil))
theorem ql_32 {s : Sub} : QE s l_32 := (q_lst (q_lcons (q_fld (q_var 0)) q_lnil))
theorem ql_33 {s : Sub} : QE s l_33 := (q_lst (q_lcons (q_fld (q_var 0)) (q_lcons (q_fld (q_var 0)) q_lnil)))
theorem ql_34 {s : Sub} : QE s l_34 := (q_lst (q_lcons (q_fld (q_var 0)) q_lnil))
theorem ql_35 {s : Sub} : QE s l_35 := (q_lst (q_lcons (q_fld (q_var 0)) q_lnil))
theorem ql_36 {s : Sub} : QE s l_36 := (q_lst (q_lcons (q_fld (q_var 0)) q_lnil))
theorem ql_37 {s : Sub} : QE s l_37 := (q_lst (q_lcons (q_fld (q_var 0)) q_lnil))
theorem ql_38 {s : Sub} : QE s l_38 := (q_lst (q_lcons (q_fld (q_var 0)) q_lnil))
theorem ql_39 {s : Sub} : QE s l_39 := (q_lst q_lnil)
theorem ql_40 {s : Sub} : QE s l_40 := (q_lst q_lnil)
theorem ql_41 {s : Sub} : QE s l_41 := (q_lst (q_lcons (q_fld (q_var 0)) q_lnil))
theorem ql_42 {s : Sub} : QE s l_42 := (q_lst q_lnil)
theorem ql_43 {s : Sub} : QE s l_43 := (q_lst (q_lcons (q_fld (q_var 0)) q_lnil))
theorem ql_44 {s : Sub} : QE s l_44 := (q_lst (q_lcons (q_fld (q_var 0)) q_lnil))
theorem ql_45 {s : Sub} : QE s l_45 := (q_lst q_lnil)
theorem ql_46 {s : Sub} : QE s l_46 := (q_lst q_lnil)
theorem ql_47 {s : Sub} : QE s l_47 := (q_lst q_lnil)
theorem ql_48 {s : Sub} : QE s l_48 := (q_lst q_lnil)
theorem ql_49 {s : Sub} : QE s l_49 := (q_lst q_lnil)
theorem ql_50 {s : Sub} : QE s l_50 := (q_lst (q_lcons (q_fld (q_var 0)) q_lnil))
theorem ql_51 {s : Sub} : QE s l_51 := (q_lst q_lnil)
theorem ql_52 {s : Sub} : QE s l_52 := (q_lst (q_lcons (q_fld (q_var 0)) q_lnil))
theorem ql_53 {s : Sub} : QE s l_53 := (q_lst q_lnil)
theorem ql_54 {s : Sub} : QE s l_54 := (q_lst q_lnil)
theorem ql_55 {s : Sub} : QE s l_55 := (q_lst q_lnil)
theorem ql_56 {s : Sub} : QE s l_56 := (q_lst q_lnil)
theorem ql_57 {s : Sub} : QE s l_57 := (q_lst (q_lcons (q_fld (q_var 0)) (q_lcons (q_fld (q_var 0)) q_lnil)))
theorem progS (s : Sub) : ProgS s prog := ⟨(fun g d hd => match g, hd with
  | 0, hd => by cases hd; exact q_0
  | 1, hd => by cases hd; exact q_1
  | 2, hd => by cases hd; exact q_2
  | 3, hd => by cases hd; exact q_3
  | 4, hd => by cases hd; exact q_4
  | 5, hd => by cases hd; exact q_5
  | 6, hd => by cases hd; exact q_6
  | 7, hd => by cases hd; exact q_7
  | 8, hd => by cases hd; exact q_8
  | 9, hd => by cases hd; exact q_9
  | 10, hd => by cases hd; exact q_10
  | 11, hd => by cases hd; exact q_11
  | 12, hd => by cases hd; exact q_12
  | 13, hd => by cases hd; exact q_13
  | 14, hd => by cases hd; exact q_14
  | 15, hd => by cases hd; exact q_15
  | n + 16, hd => (nomatch hd)), (fun k d hd => match k, hd with
  | 0, hd => by cases hd; exact q_ret ql_0
  | 1, hd => by cases hd; exact q_ret ql_1
  | 2, hd => by cases hd; exact q_ret ql_2
  | 3, hd => by cases hd; exact q_ret ql_3
  | 4, hd => by cases hd; exact q_ret ql_4
  | 5, hd => by cases hd; exact q_ret ql_5
  | 6, hd => by cases hd; exact q_ret ql_6
  | 7, hd => by cases hd; exact q_ret ql_7
  | 8, hd => by cases hd; exact q_ret ql_8
  | 9, hd => by cases hd; exact q_ret ql_9
  | 10, hd => by cases hd; exact q_ret ql_10
  | 11, hd => by cases hd; exact q_ret ql_11
  | 12, hd => by cases hd; exact q_ret ql_12
  | 13, hd => by cases hd; exact q_ret ql_13
  | 14, hd => by cases hd; exact q_ret ql_14
  | 15, hd => by cases hd; exact q_ret ql_15
  | 16, hd => by cases hd; exact q_ret ql_16
  | 17, hd => by cases hd; exact q_ret ql_17
  | 18, hd => by cases hd; exact q_ret ql_18
  | 19, hd => by cases hd; exact q_ret ql_19
  | 20, hd => by cases hd; exact q_ret ql_20
  | 21, hd => by cases hd; exact q_ret ql_21
  | 22, hd => by cases hd; exact q_ret ql_22
  | 23, hd => by cases hd; exact q_ret ql_23
  | 24, hd => by cases hd; exact q_ret ql_24
  | 25, hd => by cases hd; exact q_ret ql_25
  | 26, hd => by cases hd; exact q_ret ql_26
  | 27, hd => by cases hd; exact q_ret ql_27
  | 28, hd => by cases hd; exact q_ret ql_28
  | 29, hd => by cases hd; exact q_ret ql_29
  | 30, hd => by cases hd; exact q_ret ql_30
  | 31, hd => by cases hd; exact q_ret ql_31
  | 32, hd => by cases hd; exact q_ret ql_32
  | 33, hd => by cases hd; exact q_ret ql_33
  | 34, hd => by cases hd; exact q_ret ql_34
  | 35, hd => by cases hd; exact q_ret ql_35
  | 36, hd => by cases hd; exact q_ret ql_36
  | 37, hd => by cases hd; exact q_ret ql_37
  | 38, hd => by cases hd; exact q_ret ql_38
  | 39, hd => by cases hd; exact q_ret ql_39
  | 40, hd => by cases hd; exact q_ret ql_40
  | 41, hd => by cases hd; exact q_ret ql_41
  | 42, hd => by cases hd; exact q_ret ql_42
  | 43, hd => by cases hd; exact q_ret ql_43
  | 44, hd => by cases hd; exact q_ret ql_44
  | 45, hd => by cases hd; exact q_ret ql_45
  | 46, hd => by cases hd; exact q_ret ql_46
  | 47, hd => by cases hd; exact q_ret ql_47
  | 48, hd => by cases hd; exact q_ret ql_48
  | 49, hd => by cases hd; exact q_ret ql_49
  | 50, hd => by cases hd; exact q_ret ql_50
  | 51, hd => by cases hd; exact q_ret ql_51
  | 52, hd => by cases hd; exact q_ret ql_52
  | 53, hd => by cases hd; exact q_ret ql_53
  | 54, hd => by cases hd; exact q_ret ql_54
  | 55, hd => by cases hd; exact q_ret ql_55
  | 56, hd => by cases hd; exact q_ret ql_56
  | 57, hd => by cases hd; exact q_ret ql_57
  | n + 58, hd => (nomatch hd))⟩
/-! where all stands -/
abbrev gl (w : World) (K : PySem.W.Frag) (mg : Str → Option Value) (base : Heap) : Gl where
  P := PySem.Challenge.pw_drawnandrun_k00_errors_made
  w := w
  K := K
  mg := mg
  base := base
  fa := fun g => He.ga K (defNames.getD g "law")
  ca := fun c => He.ga K (clsNames.getD c "ChartError")
  cf := fun c => clsFlds.getD c []
  lm := fun k => lamAll.getD k lam_no
  T := tabT K tf
structure Fc (G : Gl) : Prop where
  b_ArithmeticError : G.mg "ArithmeticError" = none
  b_LookupError : G.mg "LookupError" = none
  b_TypeError : G.mg "TypeError" = none
  b_ValueError : G.mg "ValueError" = none
  b_all : G.mg "all" = none
  b_bool : G.mg "bool" = none
  b_dict : G.mg "dict" = none
  b_enumerate : G.mg "enumerate" = none
  b_int : G.mg "int" = none
  b_isinstance : G.mg "isinstance" = none
  b_len : G.mg "len" = none
  b_list : G.mg "list" = none
  b_range : G.mg "range" = none
  b_str : G.mg "str" = none
  b_tuple : G.mg "tuple" = none
  b_zip : G.mg "zip" = none
  c_BadBeginning : G.mg "BadBeginning" = some (.ref (G.ca 1))
  c_BadChart : G.mg "BadChart" = some (.ref (G.ca 2))
  c_BadChartbook : G.mg "BadChartbook" = some (.ref (G.ca 3))
  c_BadCharts : G.mg "BadCharts" = some (.ref (G.ca 4))
  c_BadClasses : G.mg "BadClasses" = some (.ref (G.ca 5))
  c_BadDeed : G.mg "BadDeed" = some (.ref (G.ca 6))
  c_BadDelays : G.mg "BadDelays" = some (.ref (G.ca 7))
  c_BadForm : G.mg "BadForm" = some (.ref (G.ca 8))
  c_BadGood : G.mg "BadGood" = some (.ref (G.ca 9))
  c_BadIndex : G.mg "BadIndex" = some (.ref (G.ca 10))
  c_BadLeader : G.mg "BadLeader" = some (.ref (G.ca 11))
  c_BadLot : G.mg "BadLot" = some (.ref (G.ca 12))
  c_BadNames : G.mg "BadNames" = some (.ref (G.ca 13))
  c_BadNaming : G.mg "BadNaming" = some (.ref (G.ca 14))
  c_BadNode : G.mg "BadNode" = some (.ref (G.ca 15))
  c_BadNumber : G.mg "BadNumber" = some (.ref (G.ca 16))
  c_BadOne : G.mg "BadOne" = some (.ref (G.ca 17))
  c_BadOther : G.mg "BadOther" = some (.ref (G.ca 18))
  c_BadOtherChart : G.mg "BadOtherChart" = some (.ref (G.ca 19))
  c_BadOtherLot : G.mg "BadOtherLot" = some (.ref (G.ca 20))
  c_BadOtherPlace : G.mg "BadOtherPlace" = some (.ref (G.ca 21))
  c_BadPaper : G.mg "BadPaper" = some (.ref (G.ca 22))
  c_BadPath : G.mg "BadPath" = some (.ref (G.ca 23))
  c_BadPeople : G.mg "BadPeople" = some (.ref (G.ca 24))
  c_BadPerson : G.mg "BadPerson" = some (.ref (G.ca 25))
  c_BadPicks : G.mg "BadPicks" = some (.ref (G.ca 26))
  c_BadPlace : G.mg "BadPlace" = some (.ref (G.ca 27))
  c_BadPlan : G.mg "BadPlan" = some (.ref (G.ca 28))
  c_BadQuestion : G.mg "BadQuestion" = some (.ref (G.ca 29))
  c_BadRowsBegun : G.mg "BadRowsBegun" = some (.ref (G.ca 30))
  c_BadRun : G.mg "BadRun" = some (.ref (G.ca 31))
  c_BadSchedule : G.mg "BadSchedule" = some (.ref (G.ca 32))
  c_BadSeen : G.mg "BadSeen" = some (.ref (G.ca 33))
  c_BadText : G.mg "BadText" = some (.ref (G.ca 34))
  c_BadTimes : G.mg "BadTimes" = some (.ref (G.ca 35))
  c_BadTold : G.mg "BadTold" = some (.ref (G.ca 36))
  c_BadWeb : G.mg "BadWeb" = some (.ref (G.ca 37))
  c_BadWord : G.mg "BadWord" = some (.ref (G.ca 38))
  c_BadWords : G.mg "BadWords" = some (.ref (G.ca 39))
  c_ChartError : G.mg "ChartError" = some (.ref (G.ca 0))
  c_FitsNot : G.mg "FitsNot" = some (.ref (G.ca 40))
  c_Holds : G.mg "Holds" = some (.ref (G.ca 41))
  c_InUse : G.mg "InUse" = some (.ref (G.ca 42))
  c_IsBounded : G.mg "IsBounded" = some (.ref (G.ca 43))
  c_IsWatched : G.mg "IsWatched" = some (.ref (G.ca 44))
  c_NoCount : G.mg "NoCount" = some (.ref (G.ca 45))
  c_NoEvents : G.mg "NoEvents" = some (.ref (G.ca 46))
  c_NoPlan : G.mg "NoPlan" = some (.ref (G.ca 47))
  c_NoRounds : G.mg "NoRounds" = some (.ref (G.ca 48))
  c_NobodyLeft : G.mg "NobodyLeft" = some (.ref (G.ca 49))
  c_NotLocal : G.mg "NotLocal" = some (.ref (G.ca 50))
  c_NotNow : G.mg "NotNow" = some (.ref (G.ca 51))
  c_NotQuiet : G.mg "NotQuiet" = some (.ref (G.ca 52))
  c_NotWatched : G.mg "NotWatched" = some (.ref (G.ca 53))
  c_NotWhole : G.mg "NotWhole" = some (.ref (G.ca 54))
  c_NothingCommon : G.mg "NothingCommon" = some (.ref (G.ca 55))
  c_NothingFits : G.mg "NothingFits" = some (.ref (G.ca 56))
  c_UnlikePeople : G.mg "UnlikePeople" = some (.ref (G.ca 57))
  c_WouldChange : G.mg "WouldChange" = some (.ref (G.ca 58))
  e_BadBeginning : ErrI G 1 dI_1 ["self", "thing"]
  e_BadChart : ErrI G 2 dI_2 ["self", "fault"]
  e_BadChartbook : ErrI G 3 dI_3 ["self", "thing"]
  e_BadCharts : ErrI G 4 dI_4 ["self", "index"]
  e_BadClasses : ErrI G 5 dI_5 ["self", "thing"]
  e_BadDeed : ErrI G 6 dI_6 ["self", "thing"]
  e_BadDelays : ErrI G 7 dI_7 ["self", "thing"]
  e_BadForm : ErrI G 8 dI_8 ["self", "thing"]
  e_BadGood : ErrI G 9 dI_9 ["self", "index"]
  e_BadIndex : ErrI G 10 dI_10 ["self", "thing"]
  e_BadLeader : ErrI G 11 dI_11 ["self", "thing"]
  e_BadLot : ErrI G 12 dI_12 ["self", "index"]
  e_BadNames : ErrI G 13 dI_13 ["self", "index"]
  e_BadNaming : ErrI G 14 dI_14 ["self", "thing"]
  e_BadNode : ErrI G 15 dI_15 ["self", "thing"]
  e_BadNumber : ErrI G 16 dI_16 ["self", "thing"]
  e_BadOne : ErrI G 17 dI_17 ["self", "thing"]
  e_BadOther : ErrI G 18 dI_18 ["self", "thing"]
  e_BadOtherChart : ErrI G 19 dI_19 ["self", "fault"]
  e_BadOtherLot : ErrI G 20 dI_20 ["self", "index"]
  e_BadOtherPlace : ErrI G 21 dI_21 ["self", "thing"]
  e_BadPaper : ErrI G 22 dI_22 ["self", "thing"]
  e_BadPath : ErrI G 23 dI_23 ["self", "thing"]
  e_BadPeople : ErrI G 24 dI_24 ["self", "index"]
  e_BadPerson : ErrI G 25 dI_25 ["self", "thing"]
  e_BadPicks : ErrI G 26 dI_26 ["self", "index"]
  e_BadPlace : ErrI G 27 dI_27 ["self", "thing"]
  e_BadPlan : ErrI G 28 dI_28 ["self", "thing"]
  e_BadQuestion : ErrI G 29 dI_29 ["self", "thing"]
  e_BadRowsBegun : ErrI G 30 dI_30 ["self", "thing"]
  e_BadRun : ErrI G 31 dI_31 ["self", "fault"]
  e_BadSchedule : ErrI G 32 dI_32 ["self", "fault"]
  e_BadSeen : ErrI G 33 dI_33 ["self", "thing"]
  e_BadText : ErrI G 34 dI_34 ["self", "line", "sign"]
  e_BadTimes : ErrI G 35 dI_35 ["self", "thing"]
  e_BadTold : ErrI G 36 dI_36 ["self", "thing"]
  e_BadWeb : ErrI G 37 dI_37 ["self", "fault"]
  e_BadWord : ErrI G 38 dI_38 ["self", "thing"]
  e_BadWords : ErrI G 39 dI_39 ["self", "index"]
  e_InUse : ErrI G 42 dI_42 ["self", "question"]
  e_IsWatched : ErrI G 44 dI_44 ["self", "question"]
  e_NoCount : ErrI G 45 dI_45 ["self", "thing"]
  e_NotNow : ErrI G 51 dI_51 ["self", "why"]
  e_NotWatched : ErrI G 53 dI_53 ["self", "question"]
  e_WouldChange : ErrI G 58 dI_58 ["self", "question", "why"]
  n_ChartError : ErrN G 0
  n_FitsNot : ErrN G 40
  n_Holds : ErrN G 41
  n_IsBounded : ErrN G 43
  n_NoEvents : ErrN G 46
  n_NoPlan : ErrN G 47
  n_NoRounds : ErrN G 48
  n_NobodyLeft : ErrN G 49
  n_NotLocal : ErrN G 50
  n_NotQuiet : ErrN G 52
  n_NotWhole : ErrN G 54
  n_NothingCommon : ErrN G 55
  n_NothingFits : ErrN G 56
  n_UnlikePeople : ErrN G 57
  i_ArithmeticError : IsiOk G (.type "ArithmeticError") isi_ArithmeticError
  i_BadBeginning : IsiOk G (.ref (G.ca 1)) isi_BadBeginning
  i_BadChart : IsiOk G (.ref (G.ca 2)) isi_BadChart
  i_BadChartbook : IsiOk G (.ref (G.ca 3)) isi_BadChartbook
  i_BadCharts : IsiOk G (.ref (G.ca 4)) isi_BadCharts
  i_BadClasses : IsiOk G (.ref (G.ca 5)) isi_BadClasses
  i_BadDeed : IsiOk G (.ref (G.ca 6)) isi_BadDeed
  i_BadDelays : IsiOk G (.ref (G.ca 7)) isi_BadDelays
  i_BadForm : IsiOk G (.ref (G.ca 8)) isi_BadForm
  i_BadGood : IsiOk G (.ref (G.ca 9)) isi_BadGood
  i_BadIndex : IsiOk G (.ref (G.ca 10)) isi_BadIndex
  i_BadLeader : IsiOk G (.ref (G.ca 11)) isi_BadLeader
  i_BadLot : IsiOk G (.ref (G.ca 12)) isi_BadLot
  i_BadNames : IsiOk G (.ref (G.ca 13)) isi_BadNames
  i_BadNaming : IsiOk G (.ref (G.ca 14)) isi_BadNaming
  i_BadNode : IsiOk G (.ref (G.ca 15)) isi_BadNode
  i_BadNumber : IsiOk G (.ref (G.ca 16)) isi_BadNumber
  i_BadOne : IsiOk G (.ref (G.ca 17)) isi_BadOne
  i_BadOther : IsiOk G (.ref (G.ca 18)) isi_BadOther
  i_BadOtherChart : IsiOk G (.ref (G.ca 19)) isi_BadOtherChart
  i_BadOtherLot : IsiOk G (.ref (G.ca 20)) isi_BadOtherLot
  i_BadOtherPlace : IsiOk G (.ref (G.ca 21)) isi_BadOtherPlace
  i_BadPaper : IsiOk G (.ref (G.ca 22)) isi_BadPaper
  i_BadPath : IsiOk G (.ref (G.ca 23)) isi_BadPath
  i_BadPeople : IsiOk G (.ref (G.ca 24)) isi_BadPeople
  i_BadPerson : IsiOk G (.ref (G.ca 25)) isi_BadPerson
  i_BadPicks : IsiOk G (.ref (G.ca 26)) isi_BadPicks
  i_BadPlace : IsiOk G (.ref (G.ca 27)) isi_BadPlace
  i_BadPlan : IsiOk G (.ref (G.ca 28)) isi_BadPlan
  i_BadQuestion : IsiOk G (.ref (G.ca 29)) isi_BadQuestion
  i_BadRowsBegun : IsiOk G (.ref (G.ca 30)) isi_BadRowsBegun
  i_BadRun : IsiOk G (.ref (G.ca 31)) isi_BadRun
  i_BadSchedule : IsiOk G (.ref (G.ca 32)) isi_BadSchedule
  i_BadSeen : IsiOk G (.ref (G.ca 33)) isi_BadSeen
  i_BadText : IsiOk G (.ref (G.ca 34)) isi_BadText
  i_BadTimes : IsiOk G (.ref (G.ca 35)) isi_BadTimes
  i_BadTold : IsiOk G (.ref (G.ca 36)) isi_BadTold
  i_BadWeb : IsiOk G (.ref (G.ca 37)) isi_BadWeb
  i_BadWord : IsiOk G (.ref (G.ca 38)) isi_BadWord
  i_BadWords : IsiOk G (.ref (G.ca 39)) isi_BadWords
  i_ChartError : IsiOk G (.ref (G.ca 0)) isi_ChartError
  i_FitsNot : IsiOk G (.ref (G.ca 40)) isi_FitsNot
  i_Holds : IsiOk G (.ref (G.ca 41)) isi_Holds
  i_InUse : IsiOk G (.ref (G.ca 42)) isi_InUse
  i_IsBounded : IsiOk G (.ref (G.ca 43)) isi_IsBounded
  i_IsWatched : IsiOk G (.ref (G.ca 44)) isi_IsWatched
  i_LookupError : IsiOk G (.type "LookupError") isi_LookupError
  i_NoCount : IsiOk G (.ref (G.ca 45)) isi_NoCount
  i_NoEvents : IsiOk G (.ref (G.ca 46)) isi_NoEvents
  i_NoPlan : IsiOk G (.ref (G.ca 47)) isi_NoPlan
  i_NoRounds : IsiOk G (.ref (G.ca 48)) isi_NoRounds
  i_NobodyLeft : IsiOk G (.ref (G.ca 49)) isi_NobodyLeft
  i_NotLocal : IsiOk G (.ref (G.ca 50)) isi_NotLocal
  i_NotNow : IsiOk G (.ref (G.ca 51)) isi_NotNow
  i_NotQuiet : IsiOk G (.ref (G.ca 52)) isi_NotQuiet
  i_NotWatched : IsiOk G (.ref (G.ca 53)) isi_NotWatched
  i_NotWhole : IsiOk G (.ref (G.ca 54)) isi_NotWhole
  i_NothingCommon : IsiOk G (.ref (G.ca 55)) isi_NothingCommon
  i_NothingFits : IsiOk G (.ref (G.ca 56)) isi_NothingFits
  i_TypeError : IsiOk G (.type "TypeError") isi_TypeError
  i_UnlikePeople : IsiOk G (.ref (G.ca 57)) isi_UnlikePeople
  i_ValueError : IsiOk G (.type "ValueError") isi_ValueError
  i_WouldChange : IsiOk G (.ref (G.ca 58)) isi_WouldChange
  i_bool : IsiOk G (.type "bool") isi_bool
  i_dict : IsiOk G (.type "dict") isi_dict
  i_int : IsiOk G (.type "int") isi_int
  i_list : IsiOk G (.type "list") isi_list
  i_list_tuple : IsiAny G [.type "list", .type "tuple"] isi_list_tuple
  i_str : IsiOk G (.type "str") isi_str
  i_tuple : IsiOk G (.type "tuple") isi_tuple
  f_fault : FldOk G "fault" fld_fault
  f_index : FldOk G "index" fld_index
  f_line : FldOk G "line" fld_line
  f_question : FldOk G "question" fld_question
  f_sign : FldOk G "sign" fld_sign
  f_thing : FldOk G "thing" fld_thing
  f_why : FldOk G "why" fld_why
section
variable {w : World} {K : PySem.W.Frag} {mg : Str → Option Value} {base : Heap}
theorem k_0 (F : Fc (gl w K mg base)) (n : Nat) : SB (gl w K mg base) tb ⟨["script"], defScope (top 61), fun _ => true, none, "_law_start.<locals>."⟩ n (defBody (top 61)) m_0 := (sb_cons (ss_ret (se_lst (sa_cons (c_list rfl F.b_list (sa_cons (se_var (i := 0) rfl (.inl rfl)) sa_nil)) (sa_cons se_int (sa_cons se_int (sa_cons se_int sa_nil)))))) sb_nil)
theorem k_1 (F : Fc (gl w K mg base)) (n : Nat) : SB (gl w K mg base) tb ⟨["stream", "many", "cell", "digit", "mixed"], defScope (top 62), fun _ => true, none, "_law_draw.<locals>."⟩ n (defBody (top 62)) m_1 := (sb_cons (ss_asg (b_add (se_idx (se_var (i := 0) rfl (.inl rfl)) se_int) se_int) (g_subL (se_var (i := 0) rfl (.inl rfl)) se_int)) (sb_cons (ss_while (st_of (sw_and (t_eq (se_idx (se_var (i := 0) rfl (.inl rfl)) se_int) se_int) (sw_and1 (t_ne (se_idx (se_var (i := 0) rfl (.inl rfl)) se_int) (se_lst sa_nil))))) (sb_cons (ss_asg (m_popAt (se_idx (se_var (i := 0) rfl (.inl rfl)) se_int) (sa_cons se_int sa_nil)) (sg_name (i := 2) rfl (.inl rfl) (.inr rfl))) (sb_cons (ss_asg (b_mod (c_int rfl F.b_int (sa_cons (b_add (b_add (b_mul (se_idx (se_var (i := 0) rfl (.inl rfl)) se_int) se_int) (se_var (i := 2) rfl (.inl rfl))) se_int) sa_nil)) se_int) (g_subL (se_var (i := 0) rfl (.inl rfl)) se_int)) (sb_cons (ss_asg (se_ife (t_ge (se_var (i := 2) rfl (.inl rfl)) (b_pow se_int se_int)) (se_var (i := 2) rfl (.inl rfl)) se_int) (g_subL (se_var (i := 0) rfl (.inl rfl)) se_int)) sb_nil)))) (sb_cons (ss_if (t_gt (se_idx (se_var (i := 0) rfl (.inl rfl)) se_int) se_int) (sb_cons (ss_asg (b_mod (c_int rfl F.b_int (sa_cons (se_idx (se_var (i := 0) rfl (.inl rfl)) se_int) sa_nil)) (se_var (i := 1) rfl (.inl rfl))) (sg_name (i := 3) rfl (.inl rfl) (.inr rfl))) (sb_cons (ss_asg (b_div (se_idx (se_var (i := 0) rfl (.inl rfl)) se_int) (se_var (i := 1) rfl (.inl rfl))) (g_subL (se_var (i := 0) rfl (.inl rfl)) se_int)) (sb_cons (ss_ret (se_var (i := 3) rfl (.inl rfl))) sb_nil))) sb_nil) (sb_cons (ss_asg (b_mod (c_int rfl F.b_int (sa_cons (b_pow (b_add (b_add (se_idx (se_var (i := 0) rfl (.inl rfl)) se_int) (b_mul se_int (se_idx (se_var (i := 0) rfl (.inl rfl)) se_int))) se_int) se_int) sa_nil)) se_int) (sg_name (i := 4) rfl (.inl rfl) (.inr rfl))) (sb_cons (ss_ret (b_mod (b_mod (c_int rfl F.b_int (sa_cons (b_pow (b_add (b_add (b_mul (se_var (i := 4) rfl (.inl rfl)) se_int) (b_mul se_int (se_idx (se_var (i := 0) rfl (.inl rfl)) se_int))) se_int) se_int) sa_nil)) se_int) (se_var (i := 1) rfl (.inl rfl)))) sb_nil)))))
theorem k_2 (F : Fc (gl w K mg base)) (n : Nat) : SB (gl w K mg base) tb ⟨["stream", "some", "left", "k"], defScope (top 63), fun _ => true, none, "_law_mixed.<locals>."⟩ n (defBody (top 63)) m_2 := (sb_cons (ss_asg (c_list rfl F.b_list (sa_cons (se_var (i := 1) rfl (.inl rfl)) sa_nil)) (sg_name (i := 2) rfl (.inr rfl) (.inl rfl))) (sb_cons (ss_ret (se_lc (own := [("k", 3)]) (si_rng1 rfl F.b_range (c_len rfl F.b_len (sa_cons (se_var (i := 2) rfl (.inr (.inl rfl))) sa_nil))) (by decide +kernel) (by decide) (sg_name (i := 3) rfl (.inl rfl) (.inr rfl)) sts_nil (m_popAt (se_var (i := 2) rfl (.inr (.inl rfl))) (sa_cons (se_call (g := 1) rfl rfl rfl (sa_cons (se_var (i := 0) rfl (.inr (.inl rfl))) (sa_cons (c_len rfl F.b_len (sa_cons (se_var (i := 2) rfl (.inr (.inl rfl))) sa_nil)) sa_nil))) sa_nil)))) sb_nil))
theorem k_3 (F : Fc (gl w K mg base)) (n : Nat) : SB (gl w K mg base) tb ⟨["x", "y", "z", "found"], defScope (top 64), fun _ => true, some (He.cT K ("_law_made_a", none)), "_law_made_a.<locals>."⟩ n (defBody (top 64)) m_3 := (sb_cons (ss_asg (se_lst sa_nil) (sg_name (i := 3) rfl (.inl rfl) (.inr rfl))) (sb_cons (ss_expr (m_append (se_var (i := 3) rfl (.inl rfl)) (sa_cons (se_tup (sa_cons (se_mk F.e_BadBeginning rfl (by decide) (fun us hl => match us, hl with | [_], _ => rfl) (fun us hl => match us, hl with | [_], _ => rfl) (fun _ _ _ _ _ _ us hl => match us, hl with | [_, _], _ => rfl) rfl F.c_BadBeginning (sa_cons (se_var (i := 0) rfl (.inl rfl)) sa_nil)) (sa_cons (se_mkK (ks := ["thing"]) (pm0 := [0]) F.e_BadBeginning rfl (fun _ _ _ _ _ _ _ ws hl => match ws, hl with | [_], _ => rfl) rfl F.c_BadBeginning (sk_cons (se_var (i := 0) rfl (.inl rfl)) sk_nil)) (sa_cons (se_lam (k := 0) rfl rfl rfl rfl rfl rfl (by decide +kernel)) (sa_cons (se_lst (sa_cons (se_var (i := 0) rfl (.inl rfl)) sa_nil)) sa_nil))))) sa_nil))) (sb_cons (ss_expr (m_append (se_var (i := 3) rfl (.inl rfl)) (sa_cons (se_tup (sa_cons (se_mk F.e_BadChart rfl (by decide) (fun us hl => match us, hl with | [_], _ => rfl) (fun us hl => match us, hl with | [_], _ => rfl) (fun _ _ _ _ _ _ us hl => match us, hl with | [_, _], _ => rfl) rfl F.c_BadChart (sa_cons (se_var (i := 0) rfl (.inl rfl)) sa_nil)) (sa_cons (se_mkK (ks := ["fault"]) (pm0 := [0]) F.e_BadChart rfl (fun _ _ _ _ _ _ _ ws hl => match ws, hl with | [_], _ => rfl) rfl F.c_BadChart (sk_cons (se_var (i := 0) rfl (.inl rfl)) sk_nil)) (sa_cons (se_lam (k := 1) rfl rfl rfl rfl rfl rfl (by decide +kernel)) (sa_cons (se_lst (sa_cons (se_var (i := 0) rfl (.inl rfl)) sa_nil)) sa_nil))))) sa_nil))) (sb_cons (ss_expr (m_append (se_var (i := 3) rfl (.inl rfl)) (sa_cons (se_tup (sa_cons (se_mk F.e_BadChartbook rfl (by decide) (fun us hl => match us, hl with | [_], _ => rfl) (fun us hl => match us, hl with | [_], _ => rfl) (fun _ _ _ _ _ _ us hl => match us, hl with | [_, _], _ => rfl) rfl F.c_BadChartbook (sa_cons (se_var (i := 0) rfl (.inl rfl)) sa_nil)) (sa_cons (se_mkK (ks := ["thing"]) (pm0 := [0]) F.e_BadChartbook rfl (fun _ _ _ _ _ _ _ ws hl => match ws, hl with | [_], _ => rfl) rfl F.c_BadChartbook (sk_cons (se_var (i := 0) rfl (.inl rfl)) sk_nil)) (sa_cons (se_lam (k := 2) rfl rfl rfl rfl rfl rfl (by decide +kernel)) (sa_cons (se_lst (sa_cons (se_var (i := 0) rfl (.inl rfl)) sa_nil)) sa_nil))))) sa_nil))) (sb_cons (ss_expr (m_append (se_var (i := 3) rfl (.inl rfl)) (sa_cons (se_tup (sa_cons (se_mk F.e_BadCharts rfl (by decide) (fun us hl => match us, hl with | [_], _ => rfl) (fun us hl => match us, hl with | [_], _ => rfl) (fun _ _ _ _ _ _ us hl => match us, hl with | [_, _], _ => rfl) rfl F.c_BadCharts (sa_cons (se_var (i := 0) rfl (.inl rfl)) sa_nil)) (sa_cons (se_mkK (ks := ["index"]) (pm0 := [0]) F.e_BadCharts rfl (fun _ _ _ _ _ _ _ ws hl => match ws, hl with | [_], _ => rfl) rfl F.c_BadCharts (sk_cons (se_var (i := 0) rfl (.inl rfl)) sk_nil)) (sa_cons (se_lam (k := 3) rfl rfl rfl rfl rfl rfl (by decide +kernel)) (sa_cons (se_lst (sa_cons (se_var (i := 0) rfl (.inl rfl)) sa_nil)) sa_nil))))) sa_nil))) (sb_cons (ss_expr (m_append (se_var (i := 3) rfl (.inl rfl)) (sa_cons (se_tup (sa_cons (se_mk F.e_BadClasses rfl (by decide) (fun us hl => match us, hl with | [_], _ => rfl) (fun us hl => match us, hl with | [_], _ => rfl) (fun _ _ _ _ _ _ us hl => match us, hl with | [_, _], _ => rfl) rfl F.c_BadClasses (sa_cons (se_var (i := 0) rfl (.inl rfl)) sa_nil)) (sa_cons (se_mkK (ks := ["thing"]) (pm0 := [0]) F.e_BadClasses rfl (fun _ _ _ _ _ _ _ ws hl => match ws, hl with | [_], _ => rfl) rfl F.c_BadClasses (sk_cons (se_var (i := 0) rfl (.inl rfl)) sk_nil)) (sa_cons (se_lam (k := 4) rfl rfl rfl rfl rfl rfl (by decide +kernel)) (sa_cons (se_lst (sa_cons (se_var (i := 0) rfl (.inl rfl)) sa_nil)) sa_nil))))) sa_nil))) (sb_cons (ss_expr (m_append (se_var (i := 3) rfl (.inl rfl)) (sa_cons (se_tup (sa_cons (se_mk F.e_BadDeed rfl (by decide) (fun us hl => match us, hl with | [_], _ => rfl) (fun us hl => match us, hl with | [_], _ => rfl) (fun _ _ _ _ _ _ us hl => match us, hl with | [_, _], _ => rfl) rfl F.c_BadDeed (sa_cons (se_var (i := 0) rfl (.inl rfl)) sa_nil)) (sa_cons (se_mkK (ks := ["thing"]) (pm0 := [0]) F.e_BadDeed rfl (fun _ _ _ _ _ _ _ ws hl => match ws, hl with | [_], _ => rfl) rfl F.c_BadDeed (sk_cons (se_var (i := 0) rfl (.inl rfl)) sk_nil)) (sa_cons (se_lam (k := 5) rfl rfl rfl rfl rfl rfl (by decide +kernel)) (sa_cons (se_lst (sa_cons (se_var (i := 0) rfl (.inl rfl)) sa_nil)) sa_nil))))) sa_nil))) (sb_cons (ss_expr (m_append (se_var (i := 3) rfl (.inl rfl)) (sa_cons (se_tup (sa_cons (se_mk F.e_BadDelays rfl (by decide) (fun us hl => match us, hl with | [_], _ => rfl) (fun us hl => match us, hl with | [_], _ => rfl) (fun _ _ _ _ _ _ us hl => match us, hl with | [_, _], _ => rfl) rfl F.c_BadDelays (sa_cons (se_var (i := 0) rfl (.inl rfl)) sa_nil)) (sa_cons (se_mkK (ks := ["thing"]) (pm0 := [0]) F.e_BadDelays rfl (fun _ _ _ _ _ _ _ ws hl => match ws, hl with | [_], _ => rfl) rfl F.c_BadDelays (sk_cons (se_var (i := 0) rfl (.inl rfl)) sk_nil)) (sa_cons (se_lam (k := 6) rfl rfl rfl rfl rfl rfl (by decide +kernel)) (sa_cons (se_lst (sa_cons (se_var (i := 0) rfl (.inl rfl)) sa_nil)) sa_nil))))) sa_nil))) (sb_cons (ss_expr (m_append (se_var (i := 3) rfl (.inl rfl)) (sa_cons (se_tup (sa_cons (se_mk F.e_BadForm rfl (by decide) (fun us hl => match us, hl with | [_], _ => rfl) (fun us hl => match us, hl with | [_], _ => rfl) (fun _ _ _ _ _ _ us hl => match us, hl with | [_, _], _ => rfl) rfl F.c_BadForm (sa_cons (se_var (i := 0) rfl (.inl rfl)) sa_nil)) (sa_cons (se_mkK (ks := ["thing"]) (pm0 := [0]) F.e_BadForm rfl (fun _ _ _ _ _ _ _ ws hl => match ws, hl with | [_], _ => rfl) rfl F.c_BadForm (sk_cons (se_var (i := 0) rfl (.inl rfl)) sk_nil)) (sa_cons (se_lam (k := 7) rfl rfl rfl rfl rfl rfl (by decide +kernel)) (sa_cons (se_lst (sa_cons (se_var (i := 0) rfl (.inl rfl)) sa_nil)) sa_nil))))) sa_nil))) (sb_cons (ss_expr (m_append (se_var (i := 3) rfl (.inl rfl)) (sa_cons (se_tup (sa_cons (se_mk F.e_BadGood rfl (by decide) (fun us hl => match us, hl with | [_], _ => rfl) (fun us hl => match us, hl with | [_], _ => rfl) (fun _ _ _ _ _ _ us hl => match us, hl with | [_, _], _ => rfl) rfl F.c_BadGood (sa_cons (se_var (i := 0) rfl (.inl rfl)) sa_nil)) (sa_cons (se_mkK (ks := ["index"]) (pm0 := [0]) F.e_BadGood rfl (fun _ _ _ _ _ _ _ ws hl => match ws, hl with | [_], _ => rfl) rfl F.c_BadGood (sk_cons (se_var (i := 0) rfl (.inl rfl)) sk_nil)) (sa_cons (se_lam (k := 8) rfl rfl rfl rfl rfl rfl (by decide +kernel)) (sa_cons (se_lst (sa_cons (se_var (i := 0) rfl (.inl rfl)) sa_nil)) sa_nil))))) sa_nil))) (sb_cons (ss_expr (m_append (se_var (i := 3) rfl (.inl rfl)) (sa_cons (se_tup (sa_cons (se_mk F.e_BadIndex rfl (by decide) (fun us hl => match us, hl with | [_], _ => rfl) (fun us hl => match us, hl with | [_], _ => rfl) (fun _ _ _ _ _ _ us hl => match us, hl with | [_, _], _ => rfl) rfl F.c_BadIndex (sa_cons (se_var (i := 0) rfl (.inl rfl)) sa_nil)) (sa_cons (se_mkK (ks := ["thing"]) (pm0 := [0]) F.e_BadIndex rfl (fun _ _ _ _ _ _ _ ws hl => match ws, hl with | [_], _ => rfl) rfl F.c_BadIndex (sk_cons (se_var (i := 0) rfl (.inl rfl)) sk_nil)) (sa_cons (se_lam (k := 9) rfl rfl rfl rfl rfl rfl (by decide +kernel)) (sa_cons (se_lst (sa_cons (se_var (i := 0) rfl (.inl rfl)) sa_nil)) sa_nil))))) sa_nil))) (sb_cons (ss_expr (m_append (se_var (i := 3) rfl (.inl rfl)) (sa_cons (se_tup (sa_cons (se_mk F.e_BadLeader rfl (by decide) (fun us hl => match us, hl with | [_], _ => rfl) (fun us hl => match us, hl with | [_], _ => rfl) (fun _ _ _ _ _ _ us hl => match us, hl with | [_, _], _ => rfl) rfl F.c_BadLeader (sa_cons (se_var (i := 0) rfl (.inl rfl)) sa_nil)) (sa_cons (se_mkK (ks := ["thing"]) (pm0 := [0]) F.e_BadLeader rfl (fun _ _ _ _ _ _ _ ws hl => match ws, hl with | [_], _ => rfl) rfl F.c_BadLeader (sk_cons (se_var (i := 0) rfl (.inl rfl)) sk_nil)) (sa_cons (se_lam (k := 10) rfl rfl rfl rfl rfl rfl (by decide +kernel)) (sa_cons (se_lst (sa_cons (se_var (i := 0) rfl (.inl rfl)) sa_nil)) sa_nil))))) sa_nil))) (sb_cons (ss_expr (m_append (se_var (i := 3) rfl (.inl rfl)) (sa_cons (se_tup (sa_cons (se_mk F.e_BadLot rfl (by decide) (fun us hl => match us, hl with | [_], _ => rfl) (fun us hl => match us, hl with | [_], _ => rfl) (fun _ _ _ _ _ _ us hl => match us, hl with | [_, _], _ => rfl) rfl F.c_BadLot (sa_cons (se_var (i := 0) rfl (.inl rfl)) sa_nil)) (sa_cons (se_mkK (ks := ["index"]) (pm0 := [0]) F.e_BadLot rfl (fun _ _ _ _ _ _ _ ws hl => match ws, hl with | [_], _ => rfl) rfl F.c_BadLot (sk_cons (se_var (i := 0) rfl (.inl rfl)) sk_nil)) (sa_cons (se_lam (k := 11) rfl rfl rfl rfl rfl rfl (by decide +kernel)) (sa_cons (se_lst (sa_cons (se_var (i := 0) rfl (.inl rfl)) sa_nil)) sa_nil))))) sa_nil))) (sb_cons (ss_expr (m_append (se_var (i := 3) rfl (.inl rfl)) (sa_cons (se_tup (sa_cons (se_mk F.e_BadNames rfl (by decide) (fun us hl => match us, hl with | [_], _ => rfl) (fun us hl => match us, hl with | [_], _ => rfl) (fun _ _ _ _ _ _ us hl => match us, hl with | [_, _], _ => rfl) rfl F.c_BadNames (sa_cons (se_var (i := 0) rfl (.inl rfl)) sa_nil)) (sa_cons (se_mkK (ks := ["index"]) (pm0 := [0]) F.e_BadNames rfl (fun _ _ _ _ _ _ _ ws hl => match ws, hl with | [_], _ => rfl) rfl F.c_BadNames (sk_cons (se_var (i := 0) rfl (.inl rfl)) sk_nil)) (sa_cons (se_lam (k := 12) rfl rfl rfl rfl rfl rfl (by decide +kernel)) (sa_cons (se_lst (sa_cons (se_var (i := 0) rfl (.inl rfl)) sa_nil)) sa_nil))))) sa_nil))) (sb_cons (ss_expr (m_append (se_var (i := 3) rfl (.inl rfl)) (sa_cons (se_tup (sa_cons (se_mk F.e_BadNaming rfl (by decide) (fun us hl => match us, hl with | [_], _ => rfl) (fun us hl => match us, hl with | [_], _ => rfl) (fun _ _ _ _ _ _ us hl => match us, hl with | [_, _], _ => rfl) rfl F.c_BadNaming (sa_cons (se_var (i := 0) rfl (.inl rfl)) sa_nil)) (sa_cons (se_mkK (ks := ["thing"]) (pm0 := [0]) F.e_BadNaming rfl (fun _ _ _ _ _ _ _ ws hl => match ws, hl with | [_], _ => rfl) rfl F.c_BadNaming (sk_cons (se_var (i := 0) rfl (.inl rfl)) sk_nil)) (sa_cons (se_lam (k := 13) rfl rfl rfl rfl rfl rfl (by decide +kernel)) (sa_cons (se_lst (sa_cons (se_var (i := 0) rfl (.inl rfl)) sa_nil)) sa_nil))))) sa_nil))) (sb_cons (ss_expr (m_append (se_var (i := 3) rfl (.inl rfl)) (sa_cons (se_tup (sa_cons (se_mk F.e_BadNode rfl (by decide) (fun us hl => match us, hl with | [_], _ => rfl) (fun us hl => match us, hl with | [_], _ => rfl) (fun _ _ _ _ _ _ us hl => match us, hl with | [_, _], _ => rfl) rfl F.c_BadNode (sa_cons (se_var (i := 0) rfl (.inl rfl)) sa_nil)) (sa_cons (se_mkK (ks := ["thing"]) (pm0 := [0]) F.e_BadNode rfl (fun _ _ _ _ _ _ _ ws hl => match ws, hl with | [_], _ => rfl) rfl F.c_BadNode (sk_cons (se_var (i := 0) rfl (.inl rfl)) sk_nil)) (sa_cons (se_lam (k := 14) rfl rfl rfl rfl rfl rfl (by decide +kernel)) (sa_cons (se_lst (sa_cons (se_var (i := 0) rfl (.inl rfl)) sa_nil)) sa_nil))))) sa_nil))) (sb_cons (ss_expr (m_append (se_var (i := 3) rfl (.inl rfl)) (sa_cons (se_tup (sa_cons (se_mk F.e_BadNumber rfl (by decide) (fun us hl => match us, hl with | [_], _ => rfl) (fun us hl => match us, hl with | [_], _ => rfl) (fun _ _ _ _ _ _ us hl => match us, hl with | [_, _], _ => rfl) rfl F.c_BadNumber (sa_cons (se_var (i := 0) rfl (.inl rfl)) sa_nil)) (sa_cons (se_mkK (ks := ["thing"]) (pm0 := [0]) F.e_BadNumber rfl (fun _ _ _ _ _ _ _ ws hl => match ws, hl with | [_], _ => rfl) rfl F.c_BadNumber (sk_cons (se_var (i := 0) rfl (.inl rfl)) sk_nil)) (sa_cons (se_lam (k := 15) rfl rfl rfl rfl rfl rfl (by decide +kernel)) (sa_cons (se_lst (sa_cons (se_var (i := 0) rfl (.inl rfl)) sa_nil)) sa_nil))))) sa_nil))) (sb_cons (ss_expr (m_append (se_var (i := 3) rfl (.inl rfl)) (sa_cons (se_tup (sa_cons (se_mk F.e_BadOne rfl (by decide) (fun us hl => match us, hl with | [_], _ => rfl) (fun us hl => match us, hl with | [_], _ => rfl) (fun _ _ _ _ _ _ us hl => match us, hl with | [_, _], _ => rfl) rfl F.c_BadOne (sa_cons (se_var (i := 0) rfl (.inl rfl)) sa_nil)) (sa_cons (se_mkK (ks := ["thing"]) (pm0 := [0]) F.e_BadOne rfl (fun _ _ _ _ _ _ _ ws hl => match ws, hl with | [_], _ => rfl) rfl F.c_BadOne (sk_cons (se_var (i := 0) rfl (.inl rfl)) sk_nil)) (sa_cons (se_lam (k := 16) rfl rfl rfl rfl rfl rfl (by decide +kernel)) (sa_cons (se_lst (sa_cons (se_var (i := 0) rfl (.inl rfl)) sa_nil)) sa_nil))))) sa_nil))) (sb_cons (ss_expr (m_append (se_var (i := 3) rfl (.inl rfl)) (sa_cons (se_tup (sa_cons (se_mk F.e_BadOther rfl (by decide) (fun us hl => match us, hl with | [_], _ => rfl) (fun us hl => match us, hl with | [_], _ => rfl) (fun _ _ _ _ _ _ us hl => match us, hl with | [_, _], _ => rfl) rfl F.c_BadOther (sa_cons (se_var (i := 0) rfl (.inl rfl)) sa_nil)) (sa_cons (se_mkK (ks := ["thing"]) (pm0 := [0]) F.e_BadOther rfl (fun _ _ _ _ _ _ _ ws hl => match ws, hl with | [_], _ => rfl) rfl F.c_BadOther (sk_cons (se_var (i := 0) rfl (.inl rfl)) sk_nil)) (sa_cons (se_lam (k := 17) rfl rfl rfl rfl rfl rfl (by decide +kernel)) (sa_cons (se_lst (sa_cons (se_var (i := 0) rfl (.inl rfl)) sa_nil)) sa_nil))))) sa_nil))) (sb_cons (ss_ret (se_var (i := 3) rfl (.inl rfl))) sb_nil))))))))))))))))))))
theorem k_4 (F : Fc (gl w K mg base)) (n : Nat) : SB (gl w K mg base) tb ⟨["x", "y", "z", "found"], defScope (top 65), fun _ => true, some (He.cT K ("_law_made_b", none)), "_law_made_b.<locals>."⟩ n (defBody (top 65)) m_4 := (sb_cons (ss_asg (se_lst sa_nil) (sg_name (i := 3) rfl (.inl rfl) (.inr rfl))) (sb_cons (ss_expr (m_append (se_var (i := 3) rfl (.inl rfl)) (sa_cons (se_tup (sa_cons (se_mk F.e_BadOtherChart rfl (by decide) (fun us hl => match us, hl with | [_], _ => rfl) (fun us hl => match us, hl with | [_], _ => rfl) (fun _ _ _ _ _ _ us hl => match us, hl with | [_, _], _ => rfl) rfl F.c_BadOtherChart (sa_cons (se_var (i := 0) rfl (.inl rfl)) sa_nil)) (sa_cons (se_mkK (ks := ["fault"]) (pm0 := [0]) F.e_BadOtherChart rfl (fun _ _ _ _ _ _ _ ws hl => match ws, hl with | [_], _ => rfl) rfl F.c_BadOtherChart (sk_cons (se_var (i := 0) rfl (.inl rfl)) sk_nil)) (sa_cons (se_lam (k := 18) rfl rfl rfl rfl rfl rfl (by decide +kernel)) (sa_cons (se_lst (sa_cons (se_var (i := 0) rfl (.inl rfl)) sa_nil)) sa_nil))))) sa_nil))) (sb_cons (ss_expr (m_append (se_var (i := 3) rfl (.inl rfl)) (sa_cons (se_tup (sa_cons (se_mk F.e_BadOtherLot rfl (by decide) (fun us hl => match us, hl with | [_], _ => rfl) (fun us hl => match us, hl with | [_], _ => rfl) (fun _ _ _ _ _ _ us hl => match us, hl with | [_, _], _ => rfl) rfl F.c_BadOtherLot (sa_cons (se_var (i := 0) rfl (.inl rfl)) sa_nil)) (sa_cons (se_mkK (ks := ["index"]) (pm0 := [0]) F.e_BadOtherLot rfl (fun _ _ _ _ _ _ _ ws hl => match ws, hl with | [_], _ => rfl) rfl F.c_BadOtherLot (sk_cons (se_var (i := 0) rfl (.inl rfl)) sk_nil)) (sa_cons (se_lam (k := 19) rfl rfl rfl rfl rfl rfl (by decide +kernel)) (sa_cons (se_lst (sa_cons (se_var (i := 0) rfl (.inl rfl)) sa_nil)) sa_nil))))) sa_nil))) (sb_cons (ss_expr (m_append (se_var (i := 3) rfl (.inl rfl)) (sa_cons (se_tup (sa_cons (se_mk F.e_BadOtherPlace rfl (by decide) (fun us hl => match us, hl with | [_], _ => rfl) (fun us hl => match us, hl with | [_], _ => rfl) (fun _ _ _ _ _ _ us hl => match us, hl with | [_, _], _ => rfl) rfl F.c_BadOtherPlace (sa_cons (se_var (i := 0) rfl (.inl rfl)) sa_nil)) (sa_cons (se_mkK (ks := ["thing"]) (pm0 := [0]) F.e_BadOtherPlace rfl (fun _ _ _ _ _ _ _ ws hl => match ws, hl with | [_], _ => rfl) rfl F.c_BadOtherPlace (sk_cons (se_var (i := 0) rfl (.inl rfl)) sk_nil)) (sa_cons (se_lam (k := 20) rfl rfl rfl rfl rfl rfl (by decide +kernel)) (sa_cons (se_lst (sa_cons (se_var (i := 0) rfl (.inl rfl)) sa_nil)) sa_nil))))) sa_nil))) (sb_cons (ss_expr (m_append (se_var (i := 3) rfl (.inl rfl)) (sa_cons (se_tup (sa_cons (se_mk F.e_BadPaper rfl (by decide) (fun us hl => match us, hl with | [_], _ => rfl) (fun us hl => match us, hl with | [_], _ => rfl) (fun _ _ _ _ _ _ us hl => match us, hl with | [_, _], _ => rfl) rfl F.c_BadPaper (sa_cons (se_var (i := 0) rfl (.inl rfl)) sa_nil)) (sa_cons (se_mkK (ks := ["thing"]) (pm0 := [0]) F.e_BadPaper rfl (fun _ _ _ _ _ _ _ ws hl => match ws, hl with | [_], _ => rfl) rfl F.c_BadPaper (sk_cons (se_var (i := 0) rfl (.inl rfl)) sk_nil)) (sa_cons (se_lam (k := 21) rfl rfl rfl rfl rfl rfl (by decide +kernel)) (sa_cons (se_lst (sa_cons (se_var (i := 0) rfl (.inl rfl)) sa_nil)) sa_nil))))) sa_nil))) (sb_cons (ss_expr (m_append (se_var (i := 3) rfl (.inl rfl)) (sa_cons (se_tup (sa_cons (se_mk F.e_BadPath rfl (by decide) (fun us hl => match us, hl with | [_], _ => rfl) (fun us hl => match us, hl with | [_], _ => rfl) (fun _ _ _ _ _ _ us hl => match us, hl with | [_, _], _ => rfl) rfl F.c_BadPath (sa_cons (se_var (i := 0) rfl (.inl rfl)) sa_nil)) (sa_cons (se_mkK (ks := ["thing"]) (pm0 := [0]) F.e_BadPath rfl (fun _ _ _ _ _ _ _ ws hl => match ws, hl with | [_], _ => rfl) rfl F.c_BadPath (sk_cons (se_var (i := 0) rfl (.inl rfl)) sk_nil)) (sa_cons (se_lam (k := 22) rfl rfl rfl rfl rfl rfl (by decide +kernel)) (sa_cons (se_lst (sa_cons (se_var (i := 0) rfl (.inl rfl)) sa_nil)) sa_nil))))) sa_nil))) (sb_cons (ss_expr (m_append (se_var (i := 3) rfl (.inl rfl)) (sa_cons (se_tup (sa_cons (se_mk F.e_BadPeople rfl (by decide) (fun us hl => match us, hl with | [_], _ => rfl) (fun us hl => match us, hl with | [_], _ => rfl) (fun _ _ _ _ _ _ us hl => match us, hl with | [_, _], _ => rfl) rfl F.c_BadPeople (sa_cons (se_var (i := 0) rfl (.inl rfl)) sa_nil)) (sa_cons (se_mkK (ks := ["index"]) (pm0 := [0]) F.e_BadPeople rfl (fun _ _ _ _ _ _ _ ws hl => match ws, hl with | [_], _ => rfl) rfl F.c_BadPeople (sk_cons (se_var (i := 0) rfl (.inl rfl)) sk_nil)) (sa_cons (se_lam (k := 23) rfl rfl rfl rfl rfl rfl (by decide +kernel)) (sa_cons (se_lst (sa_cons (se_var (i := 0) rfl (.inl rfl)) sa_nil)) sa_nil))))) sa_nil))) (sb_cons (ss_expr (m_append (se_var (i := 3) rfl (.inl rfl)) (sa_cons (se_tup (sa_cons (se_mk F.e_BadPerson rfl (by decide) (fun us hl => match us, hl with | [_], _ => rfl) (fun us hl => match us, hl with | [_], _ => rfl) (fun _ _ _ _ _ _ us hl => match us, hl with | [_, _], _ => rfl) rfl F.c_BadPerson (sa_cons (se_var (i := 0) rfl (.inl rfl)) sa_nil)) (sa_cons (se_mkK (ks := ["thing"]) (pm0 := [0]) F.e_BadPerson rfl (fun _ _ _ _ _ _ _ ws hl => match ws, hl with | [_], _ => rfl) rfl F.c_BadPerson (sk_cons (se_var (i := 0) rfl (.inl rfl)) sk_nil)) (sa_cons (se_lam (k := 24) rfl rfl rfl rfl rfl rfl (by decide +kernel)) (sa_cons (se_lst (sa_cons (se_var (i := 0) rfl (.inl rfl)) sa_nil)) sa_nil))))) sa_nil))) (sb_cons (ss_expr (m_append (se_var (i := 3) rfl (.inl rfl)) (sa_cons (se_tup (sa_cons (se_mk F.e_BadPicks rfl (by decide) (fun us hl => match us, hl with | [_], _ => rfl) (fun us hl => match us, hl with | [_], _ => rfl) (fun _ _ _ _ _ _ us hl => match us, hl with | [_, _], _ => rfl) rfl F.c_BadPicks (sa_cons (se_var (i := 0) rfl (.inl rfl)) sa_nil)) (sa_cons (se_mkK (ks := ["index"]) (pm0 := [0]) F.e_BadPicks rfl (fun _ _ _ _ _ _ _ ws hl => match ws, hl with | [_], _ => rfl) rfl F.c_BadPicks (sk_cons (se_var (i := 0) rfl (.inl rfl)) sk_nil)) (sa_cons (se_lam (k := 25) rfl rfl rfl rfl rfl rfl (by decide +kernel)) (sa_cons (se_lst (sa_cons (se_var (i := 0) rfl (.inl rfl)) sa_nil)) sa_nil))))) sa_nil))) (sb_cons (ss_expr (m_append (se_var (i := 3) rfl (.inl rfl)) (sa_cons (se_tup (sa_cons (se_mk F.e_BadPlace rfl (by decide) (fun us hl => match us, hl with | [_], _ => rfl) (fun us hl => match us, hl with | [_], _ => rfl) (fun _ _ _ _ _ _ us hl => match us, hl with | [_, _], _ => rfl) rfl F.c_BadPlace (sa_cons (se_var (i := 0) rfl (.inl rfl)) sa_nil)) (sa_cons (se_mkK (ks := ["thing"]) (pm0 := [0]) F.e_BadPlace rfl (fun _ _ _ _ _ _ _ ws hl => match ws, hl with | [_], _ => rfl) rfl F.c_BadPlace (sk_cons (se_var (i := 0) rfl (.inl rfl)) sk_nil)) (sa_cons (se_lam (k := 26) rfl rfl rfl rfl rfl rfl (by decide +kernel)) (sa_cons (se_lst (sa_cons (se_var (i := 0) rfl (.inl rfl)) sa_nil)) sa_nil))))) sa_nil))) (sb_cons (ss_expr (m_append (se_var (i := 3) rfl (.inl rfl)) (sa_cons (se_tup (sa_cons (se_mk F.e_BadPlan rfl (by decide) (fun us hl => match us, hl with | [_], _ => rfl) (fun us hl => match us, hl with | [_], _ => rfl) (fun _ _ _ _ _ _ us hl => match us, hl with | [_, _], _ => rfl) rfl F.c_BadPlan (sa_cons (se_var (i := 0) rfl (.inl rfl)) sa_nil)) (sa_cons (se_mkK (ks := ["thing"]) (pm0 := [0]) F.e_BadPlan rfl (fun _ _ _ _ _ _ _ ws hl => match ws, hl with | [_], _ => rfl) rfl F.c_BadPlan (sk_cons (se_var (i := 0) rfl (.inl rfl)) sk_nil)) (sa_cons (se_lam (k := 27) rfl rfl rfl rfl rfl rfl (by decide +kernel)) (sa_cons (se_lst (sa_cons (se_var (i := 0) rfl (.inl rfl)) sa_nil)) sa_nil))))) sa_nil))) (sb_cons (ss_expr (m_append (se_var (i := 3) rfl (.inl rfl)) (sa_cons (se_tup (sa_cons (se_mk F.e_BadQuestion rfl (by decide) (fun us hl => match us, hl with | [_], _ => rfl) (fun us hl => match us, hl with | [_], _ => rfl) (fun _ _ _ _ _ _ us hl => match us, hl with | [_, _], _ => rfl) rfl F.c_BadQuestion (sa_cons (se_var (i := 0) rfl (.inl rfl)) sa_nil)) (sa_cons (se_mkK (ks := ["thing"]) (pm0 := [0]) F.e_BadQuestion rfl (fun _ _ _ _ _ _ _ ws hl => match ws, hl with | [_], _ => rfl) rfl F.c_BadQuestion (sk_cons (se_var (i := 0) rfl (.inl rfl)) sk_nil)) (sa_cons (se_lam (k := 28) rfl rfl rfl rfl rfl rfl (by decide +kernel)) (sa_cons (se_lst (sa_cons (se_var (i := 0) rfl (.inl rfl)) sa_nil)) sa_nil))))) sa_nil))) (sb_cons (ss_expr (m_append (se_var (i := 3) rfl (.inl rfl)) (sa_cons (se_tup (sa_cons (se_mk F.e_BadRowsBegun rfl (by decide) (fun us hl => match us, hl with | [_], _ => rfl) (fun us hl => match us, hl with | [_], _ => rfl) (fun _ _ _ _ _ _ us hl => match us, hl with | [_, _], _ => rfl) rfl F.c_BadRowsBegun (sa_cons (se_var (i := 0) rfl (.inl rfl)) sa_nil)) (sa_cons (se_mkK (ks := ["thing"]) (pm0 := [0]) F.e_BadRowsBegun rfl (fun _ _ _ _ _ _ _ ws hl => match ws, hl with | [_], _ => rfl) rfl F.c_BadRowsBegun (sk_cons (se_var (i := 0) rfl (.inl rfl)) sk_nil)) (sa_cons (se_lam (k := 29) rfl rfl rfl rfl rfl rfl (by decide +kernel)) (sa_cons (se_lst (sa_cons (se_var (i := 0) rfl (.inl rfl)) sa_nil)) sa_nil))))) sa_nil))) (sb_cons (ss_expr (m_append (se_var (i := 3) rfl (.inl rfl)) (sa_cons (se_tup (sa_cons (se_mk F.e_BadRun rfl (by decide) (fun us hl => match us, hl with | [_], _ => rfl) (fun us hl => match us, hl with | [_], _ => rfl) (fun _ _ _ _ _ _ us hl => match us, hl with | [_, _], _ => rfl) rfl F.c_BadRun (sa_cons (se_var (i := 0) rfl (.inl rfl)) sa_nil)) (sa_cons (se_mkK (ks := ["fault"]) (pm0 := [0]) F.e_BadRun rfl (fun _ _ _ _ _ _ _ ws hl => match ws, hl with | [_], _ => rfl) rfl F.c_BadRun (sk_cons (se_var (i := 0) rfl (.inl rfl)) sk_nil)) (sa_cons (se_lam (k := 30) rfl rfl rfl rfl rfl rfl (by decide +kernel)) (sa_cons (se_lst (sa_cons (se_var (i := 0) rfl (.inl rfl)) sa_nil)) sa_nil))))) sa_nil))) (sb_cons (ss_expr (m_append (se_var (i := 3) rfl (.inl rfl)) (sa_cons (se_tup (sa_cons (se_mk F.e_BadSchedule rfl (by decide) (fun us hl => match us, hl with | [_], _ => rfl) (fun us hl => match us, hl with | [_], _ => rfl) (fun _ _ _ _ _ _ us hl => match us, hl with | [_, _], _ => rfl) rfl F.c_BadSchedule (sa_cons (se_var (i := 0) rfl (.inl rfl)) sa_nil)) (sa_cons (se_mkK (ks := ["fault"]) (pm0 := [0]) F.e_BadSchedule rfl (fun _ _ _ _ _ _ _ ws hl => match ws, hl with | [_], _ => rfl) rfl F.c_BadSchedule (sk_cons (se_var (i := 0) rfl (.inl rfl)) sk_nil)) (sa_cons (se_lam (k := 31) rfl rfl rfl rfl rfl rfl (by decide +kernel)) (sa_cons (se_lst (sa_cons (se_var (i := 0) rfl (.inl rfl)) sa_nil)) sa_nil))))) sa_nil))) (sb_cons (ss_expr (m_append (se_var (i := 3) rfl (.inl rfl)) (sa_cons (se_tup (sa_cons (se_mk F.e_BadSeen rfl (by decide) (fun us hl => match us, hl with | [_], _ => rfl) (fun us hl => match us, hl with | [_], _ => rfl) (fun _ _ _ _ _ _ us hl => match us, hl with | [_, _], _ => rfl) rfl F.c_BadSeen (sa_cons (se_var (i := 0) rfl (.inl rfl)) sa_nil)) (sa_cons (se_mkK (ks := ["thing"]) (pm0 := [0]) F.e_BadSeen rfl (fun _ _ _ _ _ _ _ ws hl => match ws, hl with | [_], _ => rfl) rfl F.c_BadSeen (sk_cons (se_var (i := 0) rfl (.inl rfl)) sk_nil)) (sa_cons (se_lam (k := 32) rfl rfl rfl rfl rfl rfl (by decide +kernel)) (sa_cons (se_lst (sa_cons (se_var (i := 0) rfl (.inl rfl)) sa_nil)) sa_nil))))) sa_nil))) (sb_cons (ss_expr (m_append (se_var (i := 3) rfl (.inl rfl)) (sa_cons (se_tup (sa_cons (se_mk F.e_BadText rfl (by decide) (fun us hl => match us, hl with | [_, _], _ => rfl) (fun us hl => match us, hl with | [_, _], _ => rfl) (fun _ _ _ _ _ _ us hl => match us, hl with | [_, _, _], _ => rfl) rfl F.c_BadText (sa_cons (se_var (i := 0) rfl (.inl rfl)) (sa_cons (se_var (i := 1) rfl (.inl rfl)) sa_nil))) (sa_cons (se_mkK (ks := ["sign", "line"]) (pm0 := [1, 0]) F.e_BadText rfl (fun _ _ _ _ _ _ _ ws hl => match ws, hl with | [_, _], _ => rfl) rfl F.c_BadText (sk_cons (se_var (i := 1) rfl (.inl rfl)) (sk_cons (se_var (i := 0) rfl (.inl rfl)) sk_nil))) (sa_cons (se_lam (k := 33) rfl rfl rfl rfl rfl rfl (by decide +kernel)) (sa_cons (se_lst (sa_cons (se_var (i := 0) rfl (.inl rfl)) (sa_cons (se_var (i := 1) rfl (.inl rfl)) sa_nil))) sa_nil))))) sa_nil))) (sb_cons (ss_expr (m_append (se_var (i := 3) rfl (.inl rfl)) (sa_cons (se_tup (sa_cons (se_mk F.e_BadTimes rfl (by decide) (fun us hl => match us, hl with | [_], _ => rfl) (fun us hl => match us, hl with | [_], _ => rfl) (fun _ _ _ _ _ _ us hl => match us, hl with | [_, _], _ => rfl) rfl F.c_BadTimes (sa_cons (se_var (i := 0) rfl (.inl rfl)) sa_nil)) (sa_cons (se_mkK (ks := ["thing"]) (pm0 := [0]) F.e_BadTimes rfl (fun _ _ _ _ _ _ _ ws hl => match ws, hl with | [_], _ => rfl) rfl F.c_BadTimes (sk_cons (se_var (i := 0) rfl (.inl rfl)) sk_nil)) (sa_cons (se_lam (k := 34) rfl rfl rfl rfl rfl rfl (by decide +kernel)) (sa_cons (se_lst (sa_cons (se_var (i := 0) rfl (.inl rfl)) sa_nil)) sa_nil))))) sa_nil))) (sb_cons (ss_expr (m_append (se_var (i := 3) rfl (.inl rfl)) (sa_cons (se_tup (sa_cons (se_mk F.e_BadTold rfl (by decide) (fun us hl => match us, hl with | [_], _ => rfl) (fun us hl => match us, hl with | [_], _ => rfl) (fun _ _ _ _ _ _ us hl => match us, hl with | [_, _], _ => rfl) rfl F.c_BadTold (sa_cons (se_var (i := 0) rfl (.inl rfl)) sa_nil)) (sa_cons (se_mkK (ks := ["thing"]) (pm0 := [0]) F.e_BadTold rfl (fun _ _ _ _ _ _ _ ws hl => match ws, hl with | [_], _ => rfl) rfl F.c_BadTold (sk_cons (se_var (i := 0) rfl (.inl rfl)) sk_nil)) (sa_cons (se_lam (k := 35) rfl rfl rfl rfl rfl rfl (by decide +kernel)) (sa_cons (se_lst (sa_cons (se_var (i := 0) rfl (.inl rfl)) sa_nil)) sa_nil))))) sa_nil))) (sb_cons (ss_ret (se_var (i := 3) rfl (.inl rfl))) sb_nil))))))))))))))))))))
theorem k_5 (F : Fc (gl w K mg base)) (n : Nat) : SB (gl w K mg base) tb ⟨["x", "y", "z", "found"], defScope (top 66), fun _ => true, some (He.cT K ("_law_made_c", none)), "_law_made_c.<locals>."⟩ n (defBody (top 66)) m_5 := (sb_cons (ss_asg (se_lst sa_nil) (sg_name (i := 3) rfl (.inl rfl) (.inr rfl))) (sb_cons (ss_expr (m_append (se_var (i := 3) rfl (.inl rfl)) (sa_cons (se_tup (sa_cons (se_mk F.e_BadWeb rfl (by decide) (fun us hl => match us, hl with | [_], _ => rfl) (fun us hl => match us, hl with | [_], _ => rfl) (fun _ _ _ _ _ _ us hl => match us, hl with | [_, _], _ => rfl) rfl F.c_BadWeb (sa_cons (se_var (i := 0) rfl (.inl rfl)) sa_nil)) (sa_cons (se_mkK (ks := ["fault"]) (pm0 := [0]) F.e_BadWeb rfl (fun _ _ _ _ _ _ _ ws hl => match ws, hl with | [_], _ => rfl) rfl F.c_BadWeb (sk_cons (se_var (i := 0) rfl (.inl rfl)) sk_nil)) (sa_cons (se_lam (k := 36) rfl rfl rfl rfl rfl rfl (by decide +kernel)) (sa_cons (se_lst (sa_cons (se_var (i := 0) rfl (.inl rfl)) sa_nil)) sa_nil))))) sa_nil))) (sb_cons (ss_expr (m_append (se_var (i := 3) rfl (.inl rfl)) (sa_cons (se_tup (sa_cons (se_mk F.e_BadWord rfl (by decide) (fun us hl => match us, hl with | [_], _ => rfl) (fun us hl => match us, hl with | [_], _ => rfl) (fun _ _ _ _ _ _ us hl => match us, hl with | [_, _], _ => rfl) rfl F.c_BadWord (sa_cons (se_var (i := 0) rfl (.inl rfl)) sa_nil)) (sa_cons (se_mkK (ks := ["thing"]) (pm0 := [0]) F.e_BadWord rfl (fun _ _ _ _ _ _ _ ws hl => match ws, hl with | [_], _ => rfl) rfl F.c_BadWord (sk_cons (se_var (i := 0) rfl (.inl rfl)) sk_nil)) (sa_cons (se_lam (k := 37) rfl rfl rfl rfl rfl rfl (by decide +kernel)) (sa_cons (se_lst (sa_cons (se_var (i := 0) rfl (.inl rfl)) sa_nil)) sa_nil))))) sa_nil))) (sb_cons (ss_expr (m_append (se_var (i := 3) rfl (.inl rfl)) (sa_cons (se_tup (sa_cons (se_mk F.e_BadWords rfl (by decide) (fun us hl => match us, hl with | [_], _ => rfl) (fun us hl => match us, hl with | [_], _ => rfl) (fun _ _ _ _ _ _ us hl => match us, hl with | [_, _], _ => rfl) rfl F.c_BadWords (sa_cons (se_var (i := 0) rfl (.inl rfl)) sa_nil)) (sa_cons (se_mkK (ks := ["index"]) (pm0 := [0]) F.e_BadWords rfl (fun _ _ _ _ _ _ _ ws hl => match ws, hl with | [_], _ => rfl) rfl F.c_BadWords (sk_cons (se_var (i := 0) rfl (.inl rfl)) sk_nil)) (sa_cons (se_lam (k := 38) rfl rfl rfl rfl rfl rfl (by decide +kernel)) (sa_cons (se_lst (sa_cons (se_var (i := 0) rfl (.inl rfl)) sa_nil)) sa_nil))))) sa_nil))) (sb_cons (ss_expr (m_append (se_var (i := 3) rfl (.inl rfl)) (sa_cons (se_tup (sa_cons (se_mk0 F.n_FitsNot rfl F.c_FitsNot) (sa_cons (se_mk0 F.n_FitsNot rfl F.c_FitsNot) (sa_cons (se_lam (k := 39) rfl rfl rfl rfl rfl rfl (by decide +kernel)) (sa_cons (se_lst sa_nil) sa_nil))))) sa_nil))) (sb_cons (ss_expr (m_append (se_var (i := 3) rfl (.inl rfl)) (sa_cons (se_tup (sa_cons (se_mk0 F.n_Holds rfl F.c_Holds) (sa_cons (se_mk0 F.n_Holds rfl F.c_Holds) (sa_cons (se_lam (k := 40) rfl rfl rfl rfl rfl rfl (by decide +kernel)) (sa_cons (se_lst sa_nil) sa_nil))))) sa_nil))) (sb_cons (ss_expr (m_append (se_var (i := 3) rfl (.inl rfl)) (sa_cons (se_tup (sa_cons (se_mk F.e_InUse rfl (by decide) (fun us hl => match us, hl with | [_], _ => rfl) (fun us hl => match us, hl with | [_], _ => rfl) (fun _ _ _ _ _ _ us hl => match us, hl with | [_, _], _ => rfl) rfl F.c_InUse (sa_cons (se_var (i := 0) rfl (.inl rfl)) sa_nil)) (sa_cons (se_mkK (ks := ["question"]) (pm0 := [0]) F.e_InUse rfl (fun _ _ _ _ _ _ _ ws hl => match ws, hl with | [_], _ => rfl) rfl F.c_InUse (sk_cons (se_var (i := 0) rfl (.inl rfl)) sk_nil)) (sa_cons (se_lam (k := 41) rfl rfl rfl rfl rfl rfl (by decide +kernel)) (sa_cons (se_lst (sa_cons (se_var (i := 0) rfl (.inl rfl)) sa_nil)) sa_nil))))) sa_nil))) (sb_cons (ss_expr (m_append (se_var (i := 3) rfl (.inl rfl)) (sa_cons (se_tup (sa_cons (se_mk0 F.n_IsBounded rfl F.c_IsBounded) (sa_cons (se_mk0 F.n_IsBounded rfl F.c_IsBounded) (sa_cons (se_lam (k := 42) rfl rfl rfl rfl rfl rfl (by decide +kernel)) (sa_cons (se_lst sa_nil) sa_nil))))) sa_nil))) (sb_cons (ss_expr (m_append (se_var (i := 3) rfl (.inl rfl)) (sa_cons (se_tup (sa_cons (se_mk F.e_IsWatched rfl (by decide) (fun us hl => match us, hl with | [_], _ => rfl) (fun us hl => match us, hl with | [_], _ => rfl) (fun _ _ _ _ _ _ us hl => match us, hl with | [_, _], _ => rfl) rfl F.c_IsWatched (sa_cons (se_var (i := 0) rfl (.inl rfl)) sa_nil)) (sa_cons (se_mkK (ks := ["question"]) (pm0 := [0]) F.e_IsWatched rfl (fun _ _ _ _ _ _ _ ws hl => match ws, hl with | [_], _ => rfl) rfl F.c_IsWatched (sk_cons (se_var (i := 0) rfl (.inl rfl)) sk_nil)) (sa_cons (se_lam (k := 43) rfl rfl rfl rfl rfl rfl (by decide +kernel)) (sa_cons (se_lst (sa_cons (se_var (i := 0) rfl (.inl rfl)) sa_nil)) sa_nil))))) sa_nil))) (sb_cons (ss_expr (m_append (se_var (i := 3) rfl (.inl rfl)) (sa_cons (se_tup (sa_cons (se_mk F.e_NoCount rfl (by decide) (fun us hl => match us, hl with | [_], _ => rfl) (fun us hl => match us, hl with | [_], _ => rfl) (fun _ _ _ _ _ _ us hl => match us, hl with | [_, _], _ => rfl) rfl F.c_NoCount (sa_cons (se_var (i := 0) rfl (.inl rfl)) sa_nil)) (sa_cons (se_mkK (ks := ["thing"]) (pm0 := [0]) F.e_NoCount rfl (fun _ _ _ _ _ _ _ ws hl => match ws, hl with | [_], _ => rfl) rfl F.c_NoCount (sk_cons (se_var (i := 0) rfl (.inl rfl)) sk_nil)) (sa_cons (se_lam (k := 44) rfl rfl rfl rfl rfl rfl (by decide +kernel)) (sa_cons (se_lst (sa_cons (se_var (i := 0) rfl (.inl rfl)) sa_nil)) sa_nil))))) sa_nil))) (sb_cons (ss_expr (m_append (se_var (i := 3) rfl (.inl rfl)) (sa_cons (se_tup (sa_cons (se_mk0 F.n_NoEvents rfl F.c_NoEvents) (sa_cons (se_mk0 F.n_NoEvents rfl F.c_NoEvents) (sa_cons (se_lam (k := 45) rfl rfl rfl rfl rfl rfl (by decide +kernel)) (sa_cons (se_lst sa_nil) sa_nil))))) sa_nil))) (sb_cons (ss_expr (m_append (se_var (i := 3) rfl (.inl rfl)) (sa_cons (se_tup (sa_cons (se_mk0 F.n_NoPlan rfl F.c_NoPlan) (sa_cons (se_mk0 F.n_NoPlan rfl F.c_NoPlan) (sa_cons (se_lam (k := 46) rfl rfl rfl rfl rfl rfl (by decide +kernel)) (sa_cons (se_lst sa_nil) sa_nil))))) sa_nil))) (sb_cons (ss_expr (m_append (se_var (i := 3) rfl (.inl rfl)) (sa_cons (se_tup (sa_cons (se_mk0 F.n_NoRounds rfl F.c_NoRounds) (sa_cons (se_mk0 F.n_NoRounds rfl F.c_NoRounds) (sa_cons (se_lam (k := 47) rfl rfl rfl rfl rfl rfl (by decide +kernel)) (sa_cons (se_lst sa_nil) sa_nil))))) sa_nil))) (sb_cons (ss_expr (m_append (se_var (i := 3) rfl (.inl rfl)) (sa_cons (se_tup (sa_cons (se_mk0 F.n_NobodyLeft rfl F.c_NobodyLeft) (sa_cons (se_mk0 F.n_NobodyLeft rfl F.c_NobodyLeft) (sa_cons (se_lam (k := 48) rfl rfl rfl rfl rfl rfl (by decide +kernel)) (sa_cons (se_lst sa_nil) sa_nil))))) sa_nil))) (sb_cons (ss_expr (m_append (se_var (i := 3) rfl (.inl rfl)) (sa_cons (se_tup (sa_cons (se_mk0 F.n_NotLocal rfl F.c_NotLocal) (sa_cons (se_mk0 F.n_NotLocal rfl F.c_NotLocal) (sa_cons (se_lam (k := 49) rfl rfl rfl rfl rfl rfl (by decide +kernel)) (sa_cons (se_lst sa_nil) sa_nil))))) sa_nil))) (sb_cons (ss_expr (m_append (se_var (i := 3) rfl (.inl rfl)) (sa_cons (se_tup (sa_cons (se_mk F.e_NotNow rfl (by decide) (fun us hl => match us, hl with | [_], _ => rfl) (fun us hl => match us, hl with | [_], _ => rfl) (fun _ _ _ _ _ _ us hl => match us, hl with | [_, _], _ => rfl) rfl F.c_NotNow (sa_cons (se_var (i := 0) rfl (.inl rfl)) sa_nil)) (sa_cons (se_mkK (ks := ["why"]) (pm0 := [0]) F.e_NotNow rfl (fun _ _ _ _ _ _ _ ws hl => match ws, hl with | [_], _ => rfl) rfl F.c_NotNow (sk_cons (se_var (i := 0) rfl (.inl rfl)) sk_nil)) (sa_cons (se_lam (k := 50) rfl rfl rfl rfl rfl rfl (by decide +kernel)) (sa_cons (se_lst (sa_cons (se_var (i := 0) rfl (.inl rfl)) sa_nil)) sa_nil))))) sa_nil))) (sb_cons (ss_expr (m_append (se_var (i := 3) rfl (.inl rfl)) (sa_cons (se_tup (sa_cons (se_mk0 F.n_NotQuiet rfl F.c_NotQuiet) (sa_cons (se_mk0 F.n_NotQuiet rfl F.c_NotQuiet) (sa_cons (se_lam (k := 51) rfl rfl rfl rfl rfl rfl (by decide +kernel)) (sa_cons (se_lst sa_nil) sa_nil))))) sa_nil))) (sb_cons (ss_expr (m_append (se_var (i := 3) rfl (.inl rfl)) (sa_cons (se_tup (sa_cons (se_mk F.e_NotWatched rfl (by decide) (fun us hl => match us, hl with | [_], _ => rfl) (fun us hl => match us, hl with | [_], _ => rfl) (fun _ _ _ _ _ _ us hl => match us, hl with | [_, _], _ => rfl) rfl F.c_NotWatched (sa_cons (se_var (i := 0) rfl (.inl rfl)) sa_nil)) (sa_cons (se_mkK (ks := ["question"]) (pm0 := [0]) F.e_NotWatched rfl (fun _ _ _ _ _ _ _ ws hl => match ws, hl with | [_], _ => rfl) rfl F.c_NotWatched (sk_cons (se_var (i := 0) rfl (.inl rfl)) sk_nil)) (sa_cons (se_lam (k := 52) rfl rfl rfl rfl rfl rfl (by decide +kernel)) (sa_cons (se_lst (sa_cons (se_var (i := 0) rfl (.inl rfl)) sa_nil)) sa_nil))))) sa_nil))) (sb_cons (ss_expr (m_append (se_var (i := 3) rfl (.inl rfl)) (sa_cons (se_tup (sa_cons (se_mk0 F.n_NotWhole rfl F.c_NotWhole) (sa_cons (se_mk0 F.n_NotWhole rfl F.c_NotWhole) (sa_cons (se_lam (k := 53) rfl rfl rfl rfl rfl rfl (by decide +kernel)) (sa_cons (se_lst sa_nil) sa_nil))))) sa_nil))) (sb_cons (ss_ret (se_var (i := 3) rfl (.inl rfl))) sb_nil))))))))))))))))))))
theorem k_6 (F : Fc (gl w K mg base)) (n : Nat) : SB (gl w K mg base) tb ⟨["x", "y", "z", "found"], defScope (top 67), fun _ => true, some (He.cT K ("_law_made_d", none)), "_law_made_d.<locals>."⟩ n (defBody (top 67)) m_6 := (sb_cons (ss_asg (se_lst sa_nil) (sg_name (i := 3) rfl (.inl rfl) (.inr rfl))) (sb_cons (ss_expr (m_append (se_var (i := 3) rfl (.inl rfl)) (sa_cons (se_tup (sa_cons (se_mk0 F.n_NothingCommon rfl F.c_NothingCommon) (sa_cons (se_mk0 F.n_NothingCommon rfl F.c_NothingCommon) (sa_cons (se_lam (k := 54) rfl rfl rfl rfl rfl rfl (by decide +kernel)) (sa_cons (se_lst sa_nil) sa_nil))))) sa_nil))) (sb_cons (ss_expr (m_append (se_var (i := 3) rfl (.inl rfl)) (sa_cons (se_tup (sa_cons (se_mk0 F.n_NothingFits rfl F.c_NothingFits) (sa_cons (se_mk0 F.n_NothingFits rfl F.c_NothingFits) (sa_cons (se_lam (k := 55) rfl rfl rfl rfl rfl rfl (by decide +kernel)) (sa_cons (se_lst sa_nil) sa_nil))))) sa_nil))) (sb_cons (ss_expr (m_append (se_var (i := 3) rfl (.inl rfl)) (sa_cons (se_tup (sa_cons (se_mk0 F.n_UnlikePeople rfl F.c_UnlikePeople) (sa_cons (se_mk0 F.n_UnlikePeople rfl F.c_UnlikePeople) (sa_cons (se_lam (k := 56) rfl rfl rfl rfl rfl rfl (by decide +kernel)) (sa_cons (se_lst sa_nil) sa_nil))))) sa_nil))) (sb_cons (ss_expr (m_append (se_var (i := 3) rfl (.inl rfl)) (sa_cons (se_tup (sa_cons (se_mk F.e_WouldChange rfl (by decide) (fun us hl => match us, hl with | [_, _], _ => rfl) (fun us hl => match us, hl with | [_, _], _ => rfl) (fun _ _ _ _ _ _ us hl => match us, hl with | [_, _, _], _ => rfl) rfl F.c_WouldChange (sa_cons (se_var (i := 0) rfl (.inl rfl)) (sa_cons (se_var (i := 1) rfl (.inl rfl)) sa_nil))) (sa_cons (se_mkK (ks := ["why", "question"]) (pm0 := [1, 0]) F.e_WouldChange rfl (fun _ _ _ _ _ _ _ ws hl => match ws, hl with | [_, _], _ => rfl) rfl F.c_WouldChange (sk_cons (se_var (i := 1) rfl (.inl rfl)) (sk_cons (se_var (i := 0) rfl (.inl rfl)) sk_nil))) (sa_cons (se_lam (k := 57) rfl rfl rfl rfl rfl rfl (by decide +kernel)) (sa_cons (se_lst (sa_cons (se_var (i := 0) rfl (.inl rfl)) (sa_cons (se_var (i := 1) rfl (.inl rfl)) sa_nil))) sa_nil))))) sa_nil))) (sb_cons (ss_ret (se_var (i := 3) rfl (.inl rfl))) sb_nil))))))
theorem k_7 (F : Fc (gl w K mg base)) (n : Nat) : SB (gl w K mg base) tb ⟨["e", "found"], defScope (top 68), fun _ => true, none, "_law_kinds_a.<locals>."⟩ n (defBody (top 68)) m_7 := (sb_cons (ss_asg (se_lst sa_nil) (sg_name (i := 1) rfl (.inl rfl) (.inr rfl))) (sb_cons (ss_expr (m_extend (se_var (i := 1) rfl (.inl rfl)) (sa_cons (se_lst (sa_cons (c_isi rfl F.b_isinstance (.own rfl (F.c_BadBeginning) rfl) F.i_BadBeginning (se_var (i := 0) rfl (.inl rfl))) (sa_cons (c_isi rfl F.b_isinstance (.own rfl (F.c_BadChart) rfl) F.i_BadChart (se_var (i := 0) rfl (.inl rfl))) sa_nil))) sa_nil))) (sb_cons (ss_expr (m_extend (se_var (i := 1) rfl (.inl rfl)) (sa_cons (se_lst (sa_cons (c_isi rfl F.b_isinstance (.own rfl (F.c_BadChartbook) rfl) F.i_BadChartbook (se_var (i := 0) rfl (.inl rfl))) (sa_cons (c_isi rfl F.b_isinstance (.own rfl (F.c_BadCharts) rfl) F.i_BadCharts (se_var (i := 0) rfl (.inl rfl))) sa_nil))) sa_nil))) (sb_cons (ss_expr (m_extend (se_var (i := 1) rfl (.inl rfl)) (sa_cons (se_lst (sa_cons (c_isi rfl F.b_isinstance (.own rfl (F.c_BadClasses) rfl) F.i_BadClasses (se_var (i := 0) rfl (.inl rfl))) (sa_cons (c_isi rfl F.b_isinstance (.own rfl (F.c_BadDeed) rfl) F.i_BadDeed (se_var (i := 0) rfl (.inl rfl))) sa_nil))) sa_nil))) (sb_cons (ss_expr (m_extend (se_var (i := 1) rfl (.inl rfl)) (sa_cons (se_lst (sa_cons (c_isi rfl F.b_isinstance (.own rfl (F.c_BadDelays) rfl) F.i_BadDelays (se_var (i := 0) rfl (.inl rfl))) (sa_cons (c_isi rfl F.b_isinstance (.own rfl (F.c_BadForm) rfl) F.i_BadForm (se_var (i := 0) rfl (.inl rfl))) sa_nil))) sa_nil))) (sb_cons (ss_expr (m_extend (se_var (i := 1) rfl (.inl rfl)) (sa_cons (se_lst (sa_cons (c_isi rfl F.b_isinstance (.own rfl (F.c_BadGood) rfl) F.i_BadGood (se_var (i := 0) rfl (.inl rfl))) (sa_cons (c_isi rfl F.b_isinstance (.own rfl (F.c_BadIndex) rfl) F.i_BadIndex (se_var (i := 0) rfl (.inl rfl))) sa_nil))) sa_nil))) (sb_cons (ss_expr (m_extend (se_var (i := 1) rfl (.inl rfl)) (sa_cons (se_lst (sa_cons (c_isi rfl F.b_isinstance (.own rfl (F.c_BadLeader) rfl) F.i_BadLeader (se_var (i := 0) rfl (.inl rfl))) (sa_cons (c_isi rfl F.b_isinstance (.own rfl (F.c_BadLot) rfl) F.i_BadLot (se_var (i := 0) rfl (.inl rfl))) sa_nil))) sa_nil))) (sb_cons (ss_expr (m_extend (se_var (i := 1) rfl (.inl rfl)) (sa_cons (se_lst (sa_cons (c_isi rfl F.b_isinstance (.own rfl (F.c_BadNames) rfl) F.i_BadNames (se_var (i := 0) rfl (.inl rfl))) (sa_cons (c_isi rfl F.b_isinstance (.own rfl (F.c_BadNaming) rfl) F.i_BadNaming (se_var (i := 0) rfl (.inl rfl))) sa_nil))) sa_nil))) (sb_cons (ss_expr (m_extend (se_var (i := 1) rfl (.inl rfl)) (sa_cons (se_lst (sa_cons (c_isi rfl F.b_isinstance (.own rfl (F.c_BadNode) rfl) F.i_BadNode (se_var (i := 0) rfl (.inl rfl))) (sa_cons (c_isi rfl F.b_isinstance (.own rfl (F.c_BadNumber) rfl) F.i_BadNumber (se_var (i := 0) rfl (.inl rfl))) sa_nil))) sa_nil))) (sb_cons (ss_expr (m_extend (se_var (i := 1) rfl (.inl rfl)) (sa_cons (se_lst (sa_cons (c_isi rfl F.b_isinstance (.own rfl (F.c_BadOne) rfl) F.i_BadOne (se_var (i := 0) rfl (.inl rfl))) (sa_cons (c_isi rfl F.b_isinstance (.own rfl (F.c_BadOther) rfl) F.i_BadOther (se_var (i := 0) rfl (.inl rfl))) sa_nil))) sa_nil))) (sb_cons (ss_ret (se_var (i := 1) rfl (.inl rfl))) sb_nil)))))))))))
theorem k_8 (F : Fc (gl w K mg base)) (n : Nat) : SB (gl w K mg base) tb ⟨["e", "found"], defScope (top 69), fun _ => true, none, "_law_kinds_b.<locals>."⟩ n (defBody (top 69)) m_8 := (sb_cons (ss_asg (se_lst sa_nil) (sg_name (i := 1) rfl (.inl rfl) (.inr rfl))) (sb_cons (ss_expr (m_extend (se_var (i := 1) rfl (.inl rfl)) (sa_cons (se_lst (sa_cons (c_isi rfl F.b_isinstance (.own rfl (F.c_BadOtherChart) rfl) F.i_BadOtherChart (se_var (i := 0) rfl (.inl rfl))) (sa_cons (c_isi rfl F.b_isinstance (.own rfl (F.c_BadOtherLot) rfl) F.i_BadOtherLot (se_var (i := 0) rfl (.inl rfl))) sa_nil))) sa_nil))) (sb_cons (ss_expr (m_extend (se_var (i := 1) rfl (.inl rfl)) (sa_cons (se_lst (sa_cons (c_isi rfl F.b_isinstance (.own rfl (F.c_BadOtherPlace) rfl) F.i_BadOtherPlace (se_var (i := 0) rfl (.inl rfl))) (sa_cons (c_isi rfl F.b_isinstance (.own rfl (F.c_BadPaper) rfl) F.i_BadPaper (se_var (i := 0) rfl (.inl rfl))) sa_nil))) sa_nil))) (sb_cons (ss_expr (m_extend (se_var (i := 1) rfl (.inl rfl)) (sa_cons (se_lst (sa_cons (c_isi rfl F.b_isinstance (.own rfl (F.c_BadPath) rfl) F.i_BadPath (se_var (i := 0) rfl (.inl rfl))) (sa_cons (c_isi rfl F.b_isinstance (.own rfl (F.c_BadPeople) rfl) F.i_BadPeople (se_var (i := 0) rfl (.inl rfl))) sa_nil))) sa_nil))) (sb_cons (ss_expr (m_extend (se_var (i := 1) rfl (.inl rfl)) (sa_cons (se_lst (sa_cons (c_isi rfl F.b_isinstance (.own rfl (F.c_BadPerson) rfl) F.i_BadPerson (se_var (i := 0) rfl (.inl rfl))) (sa_cons (c_isi rfl F.b_isinstance (.own rfl (F.c_BadPicks) rfl) F.i_BadPicks (se_var (i := 0) rfl (.inl rfl))) sa_nil))) sa_nil))) (sb_cons (ss_expr (m_extend (se_var (i := 1) rfl (.inl rfl)) (sa_cons (se_lst (sa_cons (c_isi rfl F.b_isinstance (.own rfl (F.c_BadPlace) rfl) F.i_BadPlace (se_var (i := 0) rfl (.inl rfl))) (sa_cons (c_isi rfl F.b_isinstance (.own rfl (F.c_BadPlan) rfl) F.i_BadPlan (se_var (i := 0) rfl (.inl rfl))) sa_nil))) sa_nil))) (sb_cons (ss_expr (m_extend (se_var (i := 1) rfl (.inl rfl)) (sa_cons (se_lst (sa_cons (c_isi rfl F.b_isinstance (.own rfl (F.c_BadQuestion) rfl) F.i_BadQuestion (se_var (i := 0) rfl (.inl rfl))) (sa_cons (c_isi rfl F.b_isinstance (.own rfl (F.c_BadRowsBegun) rfl) F.i_BadRowsBegun (se_var (i := 0) rfl (.inl rfl))) sa_nil))) sa_nil))) (sb_cons (ss_expr (m_extend (se_var (i := 1) rfl (.inl rfl)) (sa_cons (se_lst (sa_cons (c_isi rfl F.b_isinstance (.own rfl (F.c_BadRun) rfl) F.i_BadRun (se_var (i := 0) rfl (.inl rfl))) (sa_cons (c_isi rfl F.b_isinstance (.own rfl (F.c_BadSchedule) rfl) F.i_BadSchedule (se_var (i := 0) rfl (.inl rfl))) sa_nil))) sa_nil))) (sb_cons (ss_expr (m_extend (se_var (i := 1) rfl (.inl rfl)) (sa_cons (se_lst (sa_cons (c_isi rfl F.b_isinstance (.own rfl (F.c_BadSeen) rfl) F.i_BadSeen (se_var (i := 0) rfl (.inl rfl))) (sa_cons (c_isi rfl F.b_isinstance (.own rfl (F.c_BadText) rfl) F.i_BadText (se_var (i := 0) rfl (.inl rfl))) sa_nil))) sa_nil))) (sb_cons (ss_expr (m_extend (se_var (i := 1) rfl (.inl rfl)) (sa_cons (se_lst (sa_cons (c_isi rfl F.b_isinstance (.own rfl (F.c_BadTimes) rfl) F.i_BadTimes (se_var (i := 0) rfl (.inl rfl))) (sa_cons (c_isi rfl F.b_isinstance (.own rfl (F.c_BadTold) rfl) F.i_BadTold (se_var (i := 0) rfl (.inl rfl))) sa_nil))) sa_nil))) (sb_cons (ss_ret (se_var (i := 1) rfl (.inl rfl))) sb_nil)))))))))))
theorem k_9 (F : Fc (gl w K mg base)) (n : Nat) : SB (gl w K mg base) tb ⟨["e", "found"], defScope (top 70), fun _ => true, none, "_law_kinds_c.<locals>."⟩ n (defBody (top 70)) m_9 := (sb_cons (ss_asg (se_lst sa_nil) (sg_name (i := 1) rfl (.inl rfl) (.inr rfl))) (sb_cons (ss_expr (m_extend (se_var (i := 1) rfl (.inl rfl)) (sa_cons (se_lst (sa_cons (c_isi rfl F.b_isinstance (.own rfl (F.c_BadWeb) rfl) F.i_BadWeb (se_var (i := 0) rfl (.inl rfl))) (sa_cons (c_isi rfl F.b_isinstance (.own rfl (F.c_BadWord) rfl) F.i_BadWord (se_var (i := 0) rfl (.inl rfl))) sa_nil))) sa_nil))) (sb_cons (ss_expr (m_extend (se_var (i := 1) rfl (.inl rfl)) (sa_cons (se_lst (sa_cons (c_isi rfl F.b_isinstance (.own rfl (F.c_BadWords) rfl) F.i_BadWords (se_var (i := 0) rfl (.inl rfl))) (sa_cons (c_isi rfl F.b_isinstance (.own rfl (F.c_FitsNot) rfl) F.i_FitsNot (se_var (i := 0) rfl (.inl rfl))) sa_nil))) sa_nil))) (sb_cons (ss_expr (m_extend (se_var (i := 1) rfl (.inl rfl)) (sa_cons (se_lst (sa_cons (c_isi rfl F.b_isinstance (.own rfl (F.c_Holds) rfl) F.i_Holds (se_var (i := 0) rfl (.inl rfl))) (sa_cons (c_isi rfl F.b_isinstance (.own rfl (F.c_InUse) rfl) F.i_InUse (se_var (i := 0) rfl (.inl rfl))) sa_nil))) sa_nil))) (sb_cons (ss_expr (m_extend (se_var (i := 1) rfl (.inl rfl)) (sa_cons (se_lst (sa_cons (c_isi rfl F.b_isinstance (.own rfl (F.c_IsBounded) rfl) F.i_IsBounded (se_var (i := 0) rfl (.inl rfl))) (sa_cons (c_isi rfl F.b_isinstance (.own rfl (F.c_IsWatched) rfl) F.i_IsWatched (se_var (i := 0) rfl (.inl rfl))) sa_nil))) sa_nil))) (sb_cons (ss_expr (m_extend (se_var (i := 1) rfl (.inl rfl)) (sa_cons (se_lst (sa_cons (c_isi rfl F.b_isinstance (.own rfl (F.c_NoCount) rfl) F.i_NoCount (se_var (i := 0) rfl (.inl rfl))) (sa_cons (c_isi rfl F.b_isinstance (.own rfl (F.c_NoEvents) rfl) F.i_NoEvents (se_var (i := 0) rfl (.inl rfl))) sa_nil))) sa_nil))) (sb_cons (ss_expr (m_extend (se_var (i := 1) rfl (.inl rfl)) (sa_cons (se_lst (sa_cons (c_isi rfl F.b_isinstance (.own rfl (F.c_NoPlan) rfl) F.i_NoPlan (se_var (i := 0) rfl (.inl rfl))) (sa_cons (c_isi rfl F.b_isinstance (.own rfl (F.c_NoRounds) rfl) F.i_NoRounds (se_var (i := 0) rfl (.inl rfl))) sa_nil))) sa_nil))) (sb_cons (ss_expr (m_extend (se_var (i := 1) rfl (.inl rfl)) (sa_cons (se_lst (sa_cons (c_isi rfl F.b_isinstance (.own rfl (F.c_NobodyLeft) rfl) F.i_NobodyLeft (se_var (i := 0) rfl (.inl rfl))) (sa_cons (c_isi rfl F.b_isinstance (.own rfl (F.c_NotLocal) rfl) F.i_NotLocal (se_var (i := 0) rfl (.inl rfl))) sa_nil))) sa_nil))) (sb_cons (ss_expr (m_extend (se_var (i := 1) rfl (.inl rfl)) (sa_cons (se_lst (sa_cons (c_isi rfl F.b_isinstance (.own rfl (F.c_NotNow) rfl) F.i_NotNow (se_var (i := 0) rfl (.inl rfl))) (sa_cons (c_isi rfl F.b_isinstance (.own rfl (F.c_NotQuiet) rfl) F.i_NotQuiet (se_var (i := 0) rfl (.inl rfl))) sa_nil))) sa_nil))) (sb_cons (ss_expr (m_extend (se_var (i := 1) rfl (.inl rfl)) (sa_cons (se_lst (sa_cons (c_isi rfl F.b_isinstance (.own rfl (F.c_NotWatched) rfl) F.i_NotWatched (se_var (i := 0) rfl (.inl rfl))) (sa_cons (c_isi rfl F.b_isinstance (.own rfl (F.c_NotWhole) rfl) F.i_NotWhole (se_var (i := 0) rfl (.inl rfl))) sa_nil))) sa_nil))) (sb_cons (ss_ret (se_var (i := 1) rfl (.inl rfl))) sb_nil)))))))))))
theorem k_10 (F : Fc (gl w K mg base)) (n : Nat) : SB (gl w K mg base) tb ⟨["e", "found"], defScope (top 71), fun _ => true, none, "_law_kinds_d.<locals>."⟩ n (defBody (top 71)) m_10 := (sb_cons (ss_asg (se_lst sa_nil) (sg_name (i := 1) rfl (.inl rfl) (.inr rfl))) (sb_cons (ss_expr (m_extend (se_var (i := 1) rfl (.inl rfl)) (sa_cons (se_lst (sa_cons (c_isi rfl F.b_isinstance (.own rfl (F.c_NothingCommon) rfl) F.i_NothingCommon (se_var (i := 0) rfl (.inl rfl))) (sa_cons (c_isi rfl F.b_isinstance (.own rfl (F.c_NothingFits) rfl) F.i_NothingFits (se_var (i := 0) rfl (.inl rfl))) sa_nil))) sa_nil))) (sb_cons (ss_expr (m_extend (se_var (i := 1) rfl (.inl rfl)) (sa_cons (se_lst (sa_cons (c_isi rfl F.b_isinstance (.own rfl (F.c_UnlikePeople) rfl) F.i_UnlikePeople (se_var (i := 0) rfl (.inl rfl))) (sa_cons (c_isi rfl F.b_isinstance (.own rfl (F.c_WouldChange) rfl) F.i_WouldChange (se_var (i := 0) rfl (.inl rfl))) sa_nil))) sa_nil))) (sb_cons (ss_ret (se_var (i := 1) rfl (.inl rfl))) sb_nil))))
theorem k_11 (F : Fc (gl w K mg base)) (n : Nat) : SB (gl w K mg base) tb ⟨["e"], defScope (top 72), fun _ => true, none, "_law_kinds.<locals>."⟩ n (defBody (top 72)) m_11 := (sb_cons (ss_ret (b_add (b_add (b_add (se_call (g := 7) rfl rfl rfl (sa_cons (se_var (i := 0) rfl (.inl rfl)) sa_nil)) (se_call (g := 8) rfl rfl rfl (sa_cons (se_var (i := 0) rfl (.inl rfl)) sa_nil))) (se_call (g := 9) rfl rfl rfl (sa_cons (se_var (i := 0) rfl (.inl rfl)) sa_nil))) (se_call (g := 10) rfl rfl rfl (sa_cons (se_var (i := 0) rfl (.inl rfl)) sa_nil)))) sb_nil)
theorem k_12 (F : Fc (gl w K mg base)) (n : Nat) : SB (gl w K mg base) tb ⟨["e", "at", "k"], defScope (top 73), fun _ => true, none, "_law_is_own.<locals>."⟩ n (defBody (top 73)) m_12 := (sb_cons (ss_if (st_of (sw_or (st_not (x_tv (c_isi rfl F.b_isinstance (.own rfl (F.c_ChartError) rfl) F.i_ChartError (se_var (i := 0) rfl (.inl rfl))))) (sw_or1 (st_not (x_tv (c_isi rfl F.b_isinstance (.ty rfl F.b_ValueError PyProof.Rows.Boot.«ValueError» (by decide) rfl) F.i_ValueError (se_var (i := 0) rfl (.inl rfl)))))))) (sb_cons (ss_ret se_bl) sb_nil) sb_nil) (sb_cons (ss_if (st_of (sw_or (x_tv (c_isi rfl F.b_isinstance (.ty rfl F.b_LookupError PyProof.Rows.Boot.«LookupError» (by decide) rfl) F.i_LookupError (se_var (i := 0) rfl (.inl rfl)))) (sw_or (x_tv (c_isi rfl F.b_isinstance (.ty rfl F.b_ArithmeticError PyProof.Rows.Boot.«ArithmeticError» (by decide) rfl) F.i_ArithmeticError (se_var (i := 0) rfl (.inl rfl)))) (sw_or1 (x_tv (c_isi rfl F.b_isinstance (.ty rfl F.b_TypeError PyProof.Rows.Boot.«TypeError» (by decide) rfl) F.i_TypeError (se_var (i := 0) rfl (.inl rfl)))))))) (sb_cons (ss_ret se_bl) sb_nil) sb_nil) (sb_cons (ss_ret (q_eq (se_call (g := 11) rfl rfl rfl (sa_cons (se_var (i := 0) rfl (.inl rfl)) sa_nil)) (se_lc (own := [("k", 2)]) (si_rng1 rfl F.b_range se_int) (by decide +kernel) (by decide) (sg_name (i := 2) rfl (.inl rfl) (.inr rfl)) sts_nil (q_eq (se_var (i := 2) rfl (.inl rfl)) (se_var (i := 1) rfl (.inr (.inl rfl))))))) sb_nil)))
theorem k_13 (F : Fc (gl w K mg base)) (n : Nat) : SB (gl w K mg base) tb ⟨["found", "due", "x", "y"], defScope (top 74), fun _ => true, none, "_law_same.<locals>."⟩ n (defBody (top 74)) m_13 := (sb_cons (ss_if (t_is (se_var (i := 1) rfl (.inl rfl)) se_non) (sb_cons (ss_ret (q_is (se_var (i := 0) rfl (.inl rfl)) se_non)) sb_nil) sb_nil) (sb_cons (ss_if (x_tv (c_isi rfl F.b_isinstance (.ty rfl F.b_str PyProof.Rows.Boot.«str» (by decide) rfl) F.i_str (se_var (i := 1) rfl (.inl rfl)))) (sb_cons (ss_ret (se_and (c_isi rfl F.b_isinstance (.ty rfl F.b_str PyProof.Rows.Boot.«str» (by decide) rfl) F.i_str (se_var (i := 0) rfl (.inl rfl))) (se_one (q_eq (se_var (i := 0) rfl (.inl rfl)) (se_var (i := 1) rfl (.inl rfl)))))) sb_nil) sb_nil) (sb_cons (ss_if (x_tv (c_isiT rfl F.b_isinstance (.cons (.ty rfl F.b_list PyProof.Rows.Boot.«list» (by decide) rfl) (.cons (.ty rfl F.b_tuple PyProof.Rows.Boot.«tuple» (by decide) rfl) .nil)) F.i_list_tuple (se_var (i := 1) rfl (.inl rfl)))) (sb_cons (ss_if (st_of (sw_or (t_ne (c_isi rfl F.b_isinstance (.ty rfl F.b_list PyProof.Rows.Boot.«list» (by decide) rfl) F.i_list (se_var (i := 0) rfl (.inl rfl))) (c_isi rfl F.b_isinstance (.ty rfl F.b_list PyProof.Rows.Boot.«list» (by decide) rfl) F.i_list (se_var (i := 1) rfl (.inl rfl)))) (sw_or1 (t_ne (c_isi rfl F.b_isinstance (.ty rfl F.b_tuple PyProof.Rows.Boot.«tuple» (by decide) rfl) F.i_tuple (se_var (i := 0) rfl (.inl rfl))) (c_isi rfl F.b_isinstance (.ty rfl F.b_tuple PyProof.Rows.Boot.«tuple» (by decide) rfl) F.i_tuple (se_var (i := 1) rfl (.inl rfl))))))) (sb_cons (ss_ret se_bl) sb_nil) sb_nil) (sb_cons (ss_ret (se_and (q_eq (c_len rfl F.b_len (sa_cons (se_var (i := 0) rfl (.inl rfl)) sa_nil)) (c_len rfl F.b_len (sa_cons (se_var (i := 1) rfl (.inl rfl)) sa_nil))) (se_one (c_all rfl F.b_all (sa_cons (se_lc (own := [("x", 2), ("y", 3)]) (si_zip rfl F.b_zip (se_var (i := 0) rfl (.inl rfl)) (se_var (i := 1) rfl (.inl rfl))) (by decide +kernel) (by decide) (sg_tup (sgs_cons (sg_name (i := 2) rfl (.inl rfl) (.inr rfl)) (sgs_cons (sg_name (i := 3) rfl (.inl rfl) (.inr rfl)) sgs_nil))) sts_nil (se_call (g := 13) rfl rfl rfl (sa_cons (se_var (i := 2) rfl (.inl rfl)) (sa_cons (se_var (i := 3) rfl (.inl rfl)) sa_nil)))) sa_nil))))) sb_nil)) sb_nil) (sb_cons (ss_if (x_tv (c_isi rfl F.b_isinstance (.ty rfl F.b_dict PyProof.Rows.Boot.«dict» (by decide) rfl) F.i_dict (se_var (i := 1) rfl (.inl rfl)))) (sb_cons (ss_ret (se_and (c_isi rfl F.b_isinstance (.ty rfl F.b_dict PyProof.Rows.Boot.«dict» (by decide) rfl) F.i_dict (se_var (i := 0) rfl (.inl rfl))) (se_one (se_call (g := 13) rfl rfl rfl (sa_cons (c_items rfl F.b_list (se_var (i := 0) rfl (.inl rfl))) (sa_cons (c_items rfl F.b_list (se_var (i := 1) rfl (.inl rfl))) sa_nil)))))) sb_nil) sb_nil) (sb_cons (ss_ret (se_and (c_isi rfl F.b_isinstance (.ty rfl F.b_int PyProof.Rows.Boot.«int» (by decide) rfl) F.i_int (se_var (i := 0) rfl (.inl rfl))) (se_and (q_eq (c_isi rfl F.b_isinstance (.ty rfl F.b_bool PyProof.Rows.Boot.«bool» (by decide) rfl) F.i_bool (se_var (i := 0) rfl (.inl rfl))) (c_isi rfl F.b_isinstance (.ty rfl F.b_bool PyProof.Rows.Boot.«bool» (by decide) rfl) F.i_bool (se_var (i := 1) rfl (.inl rfl)))) (se_one (q_eq (se_var (i := 0) rfl (.inl rfl)) (se_var (i := 1) rfl (.inl rfl))))))) sb_nil)))))
theorem k_14 (F : Fc (gl w K mg base)) (n : Nat) : SB (gl w K mg base) tb ⟨["found", "due"], defScope (top 75), fun _ => true, none, "_law_are_these.<locals>."⟩ n (defBody (top 75)) m_14 := (sb_cons (ss_ret (se_call (g := 13) rfl rfl rfl (sa_cons (se_var (i := 0) rfl (.inl rfl)) (sa_cons (se_var (i := 1) rfl (.inl rfl)) sa_nil)))) sb_nil)
theorem k_15 (F : Fc (gl w K mg base)) (n : Nat) : SB (gl w K mg base) tb ⟨["script", "stream", "some", "turn", "x", "y", "z", "rows_made", "at", "mine", "twin", "field", "due", "held", "base"], defScope (top 76), fun _ => true, none, "law.<locals>."⟩ n (defBody (top 76)) m_15 := (sb_cons (ss_asg (se_call (g := 0) rfl rfl rfl (sa_cons (se_var (i := 0) rfl (.inl rfl)) sa_nil)) (sg_name (i := 1) rfl (.inl rfl) (.inr rfl))) (sb_cons (ss_asg (se_lst (sa_cons se_non (sa_cons se_int (sa_cons (se_neg se_int) (sa_cons se_bl (sa_cons se_str (sa_cons se_str (sa_cons (se_lst (sa_cons se_int (sa_cons se_str sa_nil))) (sa_cons (se_tup (sa_cons se_int (sa_cons se_non sa_nil))) (sa_cons (se_dct (sps_cons se_str se_int sps_nil) (by decide) (by decide)) (sa_cons (se_lst (sa_cons (se_lst (sa_cons se_str sa_nil)) sa_nil)) (sa_cons (b_pow se_int se_int) (sa_cons (se_tup (sa_cons se_str (sa_cons se_int sa_nil))) (sa_cons se_bl (sa_cons se_int (sa_cons se_int sa_nil)))))))))))))))) (sg_name (i := 2) rfl (.inl rfl) (.inr rfl))) (sb_cons (ss_for (si_rng1 rfl F.b_range se_int) (sg_name (i := 3) rfl (.inl rfl) (.inr rfl)) (sb_cons (ss_asg (se_cut (se_call (g := 2) rfl rfl rfl (sa_cons (se_var (i := 1) rfl (.inl rfl)) (sa_cons (se_var (i := 2) rfl (.inl rfl)) sa_nil))) so_none (so_some se_int)) (sg_tup (sgs_cons (sg_name (i := 4) rfl (.inl rfl) (.inr rfl)) (sgs_cons (sg_name (i := 5) rfl (.inl rfl) (.inr rfl)) (sgs_cons (sg_name (i := 6) rfl (.inl rfl) (.inr rfl)) sgs_nil))))) (sb_cons (ss_asg (b_add (b_add (se_call (g := 3) rfl rfl rfl (sa_cons (se_var (i := 4) rfl (.inl rfl)) (sa_cons (se_var (i := 5) rfl (.inl rfl)) (sa_cons (se_var (i := 6) rfl (.inl rfl)) sa_nil)))) (se_call (g := 4) rfl rfl rfl (sa_cons (se_var (i := 4) rfl (.inl rfl)) (sa_cons (se_var (i := 5) rfl (.inl rfl)) (sa_cons (se_var (i := 6) rfl (.inl rfl)) sa_nil))))) (se_call (g := 5) rfl rfl rfl (sa_cons (se_var (i := 4) rfl (.inl rfl)) (sa_cons (se_var (i := 5) rfl (.inl rfl)) (sa_cons (se_var (i := 6) rfl (.inl rfl)) sa_nil))))) (sg_name (i := 7) rfl (.inl rfl) (.inr rfl))) (sb_cons (ss_expr (m_extend (se_var (i := 7) rfl (.inl rfl)) (sa_cons (se_call (g := 6) rfl rfl rfl (sa_cons (se_var (i := 4) rfl (.inl rfl)) (sa_cons (se_var (i := 5) rfl (.inl rfl)) (sa_cons (se_var (i := 6) rfl (.inl rfl)) sa_nil)))) sa_nil))) (sb_cons (ss_for (si_enum rfl F.b_enumerate (se_var (i := 7) rfl (.inl rfl))) (sg_tup (sgs_cons (sg_name (i := 8) rfl (.inl rfl) (.inr rfl)) (sgs_cons (sg_tup (sgs_cons (sg_name (i := 9) rfl (.inl rfl) (.inr rfl)) (sgs_cons (sg_name (i := 10) rfl (.inl rfl) (.inr rfl)) (sgs_cons (sg_name (i := 11) rfl (.inl rfl) (.inr rfl)) (sgs_cons (sg_name (i := 12) rfl (.inl rfl) (.inr rfl)) sgs_nil))))) sgs_nil))) (sb_cons (ss_if (st_of (sw_or (st_not (x_tv (se_call (g := 12) rfl rfl rfl (sa_cons (se_var (i := 9) rfl (.inl rfl)) (sa_cons (se_var (i := 8) rfl (.inl rfl)) sa_nil))))) (sw_or1 (st_not (x_tv (se_call (g := 12) rfl rfl rfl (sa_cons (se_var (i := 10) rfl (.inl rfl)) (sa_cons (se_var (i := 8) rfl (.inl rfl)) sa_nil)))))))) (sb_cons (ss_ret se_bl) sb_nil) sb_nil) (sb_cons (ss_if (st_of (sw_or (st_not (x_tv (se_call (g := 14) rfl rfl rfl (sa_cons (se_callF (i := 11) rfl (.inl rfl) (sa_cons (se_var (i := 9) rfl (.inl rfl)) sa_nil)) (sa_cons (se_var (i := 12) rfl (.inl rfl)) sa_nil))))) (sw_or1 (st_not (x_tv (se_call (g := 14) rfl rfl rfl (sa_cons (se_callF (i := 11) rfl (.inl rfl) (sa_cons (se_var (i := 10) rfl (.inl rfl)) sa_nil)) (sa_cons (se_var (i := 12) rfl (.inl rfl)) sa_nil)))))))) (sb_cons (ss_ret se_bl) sb_nil) sb_nil) sb_nil))) sb_nil))))) (sb_cons (ss_asg (se_lst (sa_cons se_str sa_nil)) (sg_name (i := 13) rfl (.inl rfl) (.inr rfl))) (sb_cons (ss_asg (b_add (b_add (se_call (g := 3) rfl rfl rfl (sa_cons (se_var (i := 13) rfl (.inl rfl)) (sa_cons (se_var (i := 13) rfl (.inl rfl)) (sa_cons (se_var (i := 13) rfl (.inl rfl)) sa_nil)))) (se_call (g := 4) rfl rfl rfl (sa_cons (se_var (i := 13) rfl (.inl rfl)) (sa_cons (se_var (i := 13) rfl (.inl rfl)) (sa_cons (se_var (i := 13) rfl (.inl rfl)) sa_nil))))) (se_call (g := 5) rfl rfl rfl (sa_cons (se_var (i := 13) rfl (.inl rfl)) (sa_cons (se_var (i := 13) rfl (.inl rfl)) (sa_cons (se_var (i := 13) rfl (.inl rfl)) sa_nil))))) (sg_name (i := 7) rfl (.inl rfl) (.inr rfl))) (sb_cons (ss_expr (m_extend (se_var (i := 7) rfl (.inl rfl)) (sa_cons (se_call (g := 6) rfl rfl rfl (sa_cons (se_var (i := 13) rfl (.inl rfl)) (sa_cons (se_var (i := 13) rfl (.inl rfl)) (sa_cons (se_var (i := 13) rfl (.inl rfl)) sa_nil)))) sa_nil))) (sb_cons (ss_expr (m_append (se_var (i := 13) rfl (.inl rfl)) (sa_cons se_str sa_nil))) (sb_cons (ss_for (si_val (se_var (i := 7) rfl (.inl rfl))) (sg_tup (sgs_cons (sg_name (i := 9) rfl (.inl rfl) (.inr rfl)) (sgs_cons (sg_name (i := 10) rfl (.inl rfl) (.inr rfl)) (sgs_cons (sg_name (i := 11) rfl (.inl rfl) (.inr rfl)) (sgs_cons (sg_name (i := 12) rfl (.inl rfl) (.inr rfl)) sgs_nil))))) (sb_cons (ss_if (st_of (sw_or (st_not (x_tv (se_call (g := 14) rfl rfl rfl (sa_cons (se_callF (i := 11) rfl (.inl rfl) (sa_cons (se_var (i := 9) rfl (.inl rfl)) sa_nil)) (sa_cons (se_var (i := 12) rfl (.inl rfl)) sa_nil))))) (sw_or1 (st_not (x_tv (se_call (g := 14) rfl rfl rfl (sa_cons (se_callF (i := 11) rfl (.inl rfl) (sa_cons (se_var (i := 10) rfl (.inl rfl)) sa_nil)) (sa_cons (se_var (i := 12) rfl (.inl rfl)) sa_nil)))))))) (sb_cons (ss_ret se_bl) sb_nil) sb_nil) sb_nil)) (sb_cons (ss_asg (se_mk0 F.n_ChartError rfl F.c_ChartError) (sg_name (i := 14) rfl (.inl rfl) (.inr rfl))) (sb_cons (ss_ret (se_and (c_isi rfl F.b_isinstance (.ty rfl F.b_ValueError PyProof.Rows.Boot.«ValueError» (by decide) rfl) F.i_ValueError (se_var (i := 14) rfl (.inl rfl))) (se_one (q_nin se_bl (se_call (g := 11) rfl rfl rfl (sa_cons (se_var (i := 14) rfl (.inl rfl)) sa_nil)))))) sb_nil))))))))))
theorem kl_0 (F : Fc (gl w K mg base)) (n : Nat) : SE (gl w K mg base) tb ⟨["e"], lam_0.scope, fun _ => false, none, lam_0.qual⟩ n lam_0.body l_0 := (se_lst (sa_cons (se_fld F.f_thing (se_var (i := 0) rfl (.inl rfl))) sa_nil))
theorem kl_1 (F : Fc (gl w K mg base)) (n : Nat) : SE (gl w K mg base) tb ⟨["e"], lam_1.scope, fun _ => false, none, lam_1.qual⟩ n lam_1.body l_1 := (se_lst (sa_cons (se_fld F.f_fault (se_var (i := 0) rfl (.inl rfl))) sa_nil))
theorem kl_2 (F : Fc (gl w K mg base)) (n : Nat) : SE (gl w K mg base) tb ⟨["e"], lam_2.scope, fun _ => false, none, lam_2.qual⟩ n lam_2.body l_2 := (se_lst (sa_cons (se_fld F.f_thing (se_var (i := 0) rfl (.inl rfl))) sa_nil))
theorem kl_3 (F : Fc (gl w K mg base)) (n : Nat) : SE (gl w K mg base) tb ⟨["e"], lam_3.scope, fun _ => false, none, lam_3.qual⟩ n lam_3.body l_3 := (se_lst (sa_cons (se_fld F.f_index (se_var (i := 0) rfl (.inl rfl))) sa_nil))
theorem kl_4 (F : Fc (gl w K mg base)) (n : Nat) : SE (gl w K mg base) tb ⟨["e"], lam_4.scope, fun _ => false, none, lam_4.qual⟩ n lam_4.body l_4 := (se_lst (sa_cons (se_fld F.f_thing (se_var (i := 0) rfl (.inl rfl))) sa_nil))
theorem kl_5 (F : Fc (gl w K mg base)) (n : Nat) : SE (gl w K mg base) tb ⟨["e"], lam_5.scope, fun _ => false, none, lam_5.qual⟩ n lam_5.body l_5 := (se_lst (sa_cons (se_fld F.f_thing (se_var (i := 0) rfl (.inl rfl))) sa_nil))
theorem kl_6 (F : Fc (gl w K mg base)) (n : Nat) : SE (gl w K mg base) tb ⟨["e"], lam_6.scope, fun _ => false, none, lam_6.qual⟩ n lam_6.body l_6 := (se_lst (sa_cons (se_fld F.f_thing (se_var (i := 0) rfl (.inl rfl))) sa_nil))
theorem kl_7 (F : Fc (gl w K mg base)) (n : Nat) : SE (gl w K mg base) tb ⟨["e"], lam_7.scope, fun _ => false, none, lam_7.qual⟩ n lam_7.body l_7 := (se_lst (sa_cons (se_fld F.f_thing (se_var (i := 0) rfl (.inl rfl))) sa_nil))
theorem kl_8 (F : Fc (gl w K mg base)) (n : Nat) : SE (gl w K mg base) tb ⟨["e"], lam_8.scope, fun _ => false, none, lam_8.qual⟩ n lam_8.body l_8 := (se_lst (sa_cons (se_fld F.f_index (se_var (i := 0) rfl (.inl rfl))) sa_nil))
theorem kl_9 (F : Fc (gl w K mg base)) (n : Nat) : SE (gl w K mg base) tb ⟨["e"], lam_9.scope, fun _ => false, none, lam_9.qual⟩ n lam_9.body l_9 := (se_lst (sa_cons (se_fld F.f_thing (se_var (i := 0) rfl (.inl rfl))) sa_nil))
theorem kl_10 (F : Fc (gl w K mg base)) (n : Nat) : SE (gl w K mg base) tb ⟨["e"], lam_10.scope, fun _ => false, none, lam_10.qual⟩ n lam_10.body l_10 := (se_lst (sa_cons (se_fld F.f_thing (se_var (i := 0) rfl (.inl rfl))) sa_nil))
theorem kl_11 (F : Fc (gl w K mg base)) (n : Nat) : SE (gl w K mg base) tb ⟨["e"], lam_11.scope, fun _ => false, none, lam_11.qual⟩ n lam_11.body l_11 := (se_lst (sa_cons (se_fld F.f_index (se_var (i := 0) rfl (.inl rfl))) sa_nil))
theorem kl_12 (F : Fc (gl w K mg base)) (n : Nat) : SE (gl w K mg base) tb ⟨["e"], lam_12.scope, fun _ => false, none, lam_12.qual⟩ n lam_12.body l_12 := (se_lst (sa_cons (se_fld F.f_index (se_var (i := 0) rfl (.inl rfl))) sa_nil))
theorem kl_13 (F : Fc (gl w K mg base)) (n : Nat) : SE (gl w K mg base) tb ⟨["e"], lam_13.scope, fun _ => false, none, lam_13.qual⟩ n lam_13.body l_13 := (se_lst (sa_cons (se_fld F.f_thing (se_var (i := 0) rfl (.inl rfl))) sa_nil))
theorem kl_14 (F : Fc (gl w K mg base)) (n : Nat) : SE (gl w K mg base) tb ⟨["e"], lam_14.scope, fun _ => false, none, lam_14.qual⟩ n lam_14.body l_14 := (se_lst (sa_cons (se_fld F.f_thing (se_var (i := 0) rfl (.inl rfl))) sa_nil))
theorem kl_15 (F : Fc (gl w K mg base)) (n : Nat) : SE (gl w K mg base) tb ⟨["e"], lam_15.scope, fun _ => false, none, lam_15.qual⟩ n lam_15.body l_15 := (se_lst (sa_cons (se_fld F.f_thing (se_var (i := 0) rfl (.inl rfl))) sa_nil))
theorem kl_16 (F : Fc (gl w K mg base)) (n : Nat) : SE (gl w K mg base) tb ⟨["e"], lam_16.scope, fun _ => false, none, lam_16.qual⟩ n lam_16.body l_16 := (se_lst (sa_cons (se_fld F.f_thing (se_var (i := 0) rfl (.inl rfl))) sa_nil))
theorem kl_17 (F : Fc (gl w K mg base)) (n : Nat) : SE (gl w K mg base) tb ⟨["e"], lam_17.scope, fun _ => false, none, lam_17.qual⟩ n lam_17.body l_17 := (se_lst (sa_cons (se_fld F.f_thing (se_var (i := 0) rfl (.inl rfl))) sa_nil))
theorem kl_18 (F : Fc (gl w K mg base)) (n : Nat) : SE (gl w K mg base) tb ⟨["e"], lam_18.scope, fun _ => false, none, lam_18.qual⟩ n lam_18.body l_18 := (se_lst (sa_cons (se_fld F.f_fault (se_var (i := 0) rfl (.inl rfl))) sa_nil))
theorem kl_19 (F : Fc (gl w K mg base)) (n : Nat) : SE (gl w K mg base) tb ⟨["e"], lam_19.scope, fun _ => false, none, lam_19.qual⟩ n lam_19.body l_19 := (se_lst (sa_cons (se_fld F.f_index (se_var (i := 0) rfl (.inl rfl))) sa_nil))
theorem kl_20 (F : Fc (gl w K mg base)) (n : Nat) : SE (gl w K mg base) tb ⟨["e"], lam_20.scope, fun _ => false, none, lam_20.qual⟩ n lam_20.body l_20 := (se_lst (sa_cons (se_fld F.f_thing (se_var (i := 0) rfl (.inl rfl))) sa_nil))
theorem kl_21 (F : Fc (gl w K mg base)) (n : Nat) : SE (gl w K mg base) tb ⟨["e"], lam_21.scope, fun _ => false, none, lam_21.qual⟩ n lam_21.body l_21 := (se_lst (sa_cons (se_fld F.f_thing (se_var (i := 0) rfl (.inl rfl))) sa_nil))
theorem kl_22 (F : Fc (gl w K mg base)) (n : Nat) : SE (gl w K mg base) tb ⟨["e"], lam_22.scope, fun _ => false, none, lam_22.qual⟩ n lam_22.body l_22 := (se_lst (sa_cons (se_fld F.f_thing (se_var (i := 0) rfl (.inl rfl))) sa_nil))
theorem kl_23 (F : Fc (gl w K mg base)) (n : Nat) : SE (gl w K mg base) tb ⟨["e"], lam_23.scope, fun _ => false, none, lam_23.qual⟩ n lam_23.body l_23 := (se_lst (sa_cons (se_fld F.f_index (se_var (i := 0) rfl (.inl rfl))) sa_nil))
theorem kl_24 (F : Fc (gl w K mg base)) (n : Nat) : SE (gl w K mg base) tb ⟨["e"], lam_24.scope, fun _ => false, none, lam_24.qual⟩ n lam_24.body l_24 := (se_lst (sa_cons (se_fld F.f_thing (se_var (i := 0) rfl (.inl rfl))) sa_nil))
theorem kl_25 (F : Fc (gl w K mg base)) (n : Nat) : SE (gl w K mg base) tb ⟨["e"], lam_25.scope, fun _ => false, none, lam_25.qual⟩ n lam_25.body l_25 := (se_lst (sa_cons (se_fld F.f_index (se_var (i := 0) rfl (.inl rfl))) sa_nil))
theorem kl_26 (F : Fc (gl w K mg base)) (n : Nat) : SE (gl w K mg base) tb ⟨["e"], lam_26.scope, fun _ => false, none, lam_26.qual⟩ n lam_26.body l_26 := (se_lst (sa_cons (se_fld F.f_thing (se_var (i := 0) rfl (.inl rfl))) sa_nil))
theorem kl_27 (F : Fc (gl w K mg base)) (n : Nat) : SE (gl w K mg base) tb ⟨["e"], lam_27.scope, fun _ => false, none, lam_27.qual⟩ n lam_27.body l_27 := (se_lst (sa_cons (se_fld F.f_thing (se_var (i := 0) rfl (.inl rfl))) sa_nil))
theorem kl_28 (F : Fc (gl w K mg base)) (n : Nat) : SE (gl w K mg base) tb ⟨["e"], lam_28.scope, fun _ => false, none, lam_28.qual⟩ n lam_28.body l_28 := (se_lst (sa_cons (se_fld F.f_thing (se_var (i := 0) rfl (.inl rfl))) sa_nil))
theorem kl_29 (F : Fc (gl w K mg base)) (n : Nat) : SE (gl w K mg base) tb ⟨["e"], lam_29.scope, fun _ => false, none, lam_29.qual⟩ n lam_29.body l_29 := (se_lst (sa_cons (se_fld F.f_thing (se_var (i := 0) rfl (.inl rfl))) sa_nil))
theorem kl_30 (F : Fc (gl w K mg base)) (n : Nat) : SE (gl w K mg base) tb ⟨["e"], lam_30.scope, fun _ => false, none, lam_30.qual⟩ n lam_30.body l_30 := (se_lst (sa_cons (se_fld F.f_fault (se_var (i := 0) rfl (.inl rfl))) sa_nil))
theorem kl_31 (F : Fc (gl w K mg base)) (n : Nat) : SE (gl w K mg base) tb ⟨["e"], lam_31.scope, fun _ => false, none, lam_31.qual⟩ n lam_31.body l_31 := (se_lst (sa_cons (se_fld F.f_fault (se_var (i := 0) rfl (.inl rfl))) sa_nil))
theorem kl_32 (F : Fc (gl w K mg base)) (n : Nat) : SE (gl w K mg base) tb ⟨["e"], lam_32.scope, fun _ => false, none, lam_32.qual⟩ n lam_32.body l_32 := (se_lst (sa_cons (se_fld F.f_thing (se_var (i := 0) rfl (.inl rfl))) sa_nil))
theorem kl_33 (F : Fc (gl w K mg base)) (n : Nat) : SE (gl w K mg base) tb ⟨["e"], lam_33.scope, fun _ => false, none, lam_33.qual⟩ n lam_33.body l_33 := (se_lst (sa_cons (se_fld F.f_line (se_var (i := 0) rfl (.inl rfl))) (sa_cons (se_fld F.f_sign (se_var (i := 0) rfl (.inl rfl))) sa_nil)))
theorem kl_34 (F : Fc (gl w K mg base)) (n : Nat) : SE (gl w K mg base) tb ⟨["e"], lam_34.scope, fun _ => false, none, lam_34.qual⟩ n lam_34.body l_34 := (se_lst (sa_cons (se_fld F.f_thing (se_var (i := 0) rfl (.inl rfl))) sa_nil))
theorem kl_35 (F : Fc (gl w K mg base)) (n : Nat) : SE (gl w K mg base) tb ⟨["e"], lam_35.scope, fun _ => false, none, lam_35.qual⟩ n lam_35.body l_35 := (se_lst (sa_cons (se_fld F.f_thing (se_var (i := 0) rfl (.inl rfl))) sa_nil))
theorem kl_36 (F : Fc (gl w K mg base)) (n : Nat) : SE (gl w K mg base) tb ⟨["e"], lam_36.scope, fun _ => false, none, lam_36.qual⟩ n lam_36.body l_36 := (se_lst (sa_cons (se_fld F.f_fault (se_var (i := 0) rfl (.inl rfl))) sa_nil))
theorem kl_37 (F : Fc (gl w K mg base)) (n : Nat) : SE (gl w K mg base) tb ⟨["e"], lam_37.scope, fun _ => false, none, lam_37.qual⟩ n lam_37.body l_37 := (se_lst (sa_cons (se_fld F.f_thing (se_var (i := 0) rfl (.inl rfl))) sa_nil))
theorem kl_38 (F : Fc (gl w K mg base)) (n : Nat) : SE (gl w K mg base) tb ⟨["e"], lam_38.scope, fun _ => false, none, lam_38.qual⟩ n lam_38.body l_38 := (se_lst (sa_cons (se_fld F.f_index (se_var (i := 0) rfl (.inl rfl))) sa_nil))
theorem kl_39 (F : Fc (gl w K mg base)) (n : Nat) : SE (gl w K mg base) tb ⟨["e"], lam_39.scope, fun _ => false, none, lam_39.qual⟩ n lam_39.body l_39 := (se_lst sa_nil)
theorem kl_40 (F : Fc (gl w K mg base)) (n : Nat) : SE (gl w K mg base) tb ⟨["e"], lam_40.scope, fun _ => false, none, lam_40.qual⟩ n lam_40.body l_40 := (se_lst sa_nil)
theorem kl_41 (F : Fc (gl w K mg base)) (n : Nat) : SE (gl w K mg base) tb ⟨["e"], lam_41.scope, fun _ => false, none, lam_41.qual⟩ n lam_41.body l_41 := (se_lst (sa_cons (se_fld F.f_question (se_var (i := 0) rfl (.inl rfl))) sa_nil))
theorem kl_42 (F : Fc (gl w K mg base)) (n : Nat) : SE (gl w K mg base) tb ⟨["e"], lam_42.scope, fun _ => false, none, lam_42.qual⟩ n lam_42.body l_42 := (se_lst sa_nil)
theorem kl_43 (F : Fc (gl w K mg base)) (n : Nat) : SE (gl w K mg base) tb ⟨["e"], lam_43.scope, fun _ => false, none, lam_43.qual⟩ n lam_43.body l_43 := (se_lst (sa_cons (se_fld F.f_question (se_var (i := 0) rfl (.inl rfl))) sa_nil))
theorem kl_44 (F : Fc (gl w K mg base)) (n : Nat) : SE (gl w K mg base) tb ⟨["e"], lam_44.scope, fun _ => false, none, lam_44.qual⟩ n lam_44.body l_44 := (se_lst (sa_cons (se_fld F.f_thing (se_var (i := 0) rfl (.inl rfl))) sa_nil))
theorem kl_45 (F : Fc (gl w K mg base)) (n : Nat) : SE (gl w K mg base) tb ⟨["e"], lam_45.scope, fun _ => false, none, lam_45.qual⟩ n lam_45.body l_45 := (se_lst sa_nil)
theorem kl_46 (F : Fc (gl w K mg base)) (n : Nat) : SE (gl w K mg base) tb ⟨["e"], lam_46.scope, fun _ => false, none, lam_46.qual⟩ n lam_46.body l_46 := (se_lst sa_nil)
theorem kl_47 (F : Fc (gl w K mg base)) (n : Nat) : SE (gl w K mg base) tb ⟨["e"], lam_47.scope, fun _ => false, none, lam_47.qual⟩ n lam_47.body l_47 := (se_lst sa_nil)
theorem kl_48 (F : Fc (gl w K mg base)) (n : Nat) : SE (gl w K mg base) tb ⟨["e"], lam_48.scope, fun _ => false, none, lam_48.qual⟩ n lam_48.body l_48 := (se_lst sa_nil)
theorem kl_49 (F : Fc (gl w K mg base)) (n : Nat) : SE (gl w K mg base) tb ⟨["e"], lam_49.scope, fun _ => false, none, lam_49.qual⟩ n lam_49.body l_49 := (se_lst sa_nil)
theorem kl_50 (F : Fc (gl w K mg base)) (n : Nat) : SE (gl w K mg base) tb ⟨["e"], lam_50.scope, fun _ => false, none, lam_50.qual⟩ n lam_50.body l_50 := (se_lst (sa_cons (se_fld F.f_why (se_var (i := 0) rfl (.inl rfl))) sa_nil))
theorem kl_51 (F : Fc (gl w K mg base)) (n : Nat) : SE (gl w K mg base) tb ⟨["e"], lam_51.scope, fun _ => false, none, lam_51.qual⟩ n lam_51.body l_51 := (se_lst sa_nil)
theorem kl_52 (F : Fc (gl w K mg base)) (n : Nat) : SE (gl w K mg base) tb ⟨["e"], lam_52.scope, fun _ => false, none, lam_52.qual⟩ n lam_52.body l_52 := (se_lst (sa_cons (se_fld F.f_question (se_var (i := 0) rfl (.inl rfl))) sa_nil))
theorem kl_53 (F : Fc (gl w K mg base)) (n : Nat) : SE (gl w K mg base) tb ⟨["e"], lam_53.scope, fun _ => false, none, lam_53.qual⟩ n lam_53.body l_53 := (se_lst sa_nil)
theorem kl_54 (F : Fc (gl w K mg base)) (n : Nat) : SE (gl w K mg base) tb ⟨["e"], lam_54.scope, fun _ => false, none, lam_54.qual⟩ n lam_54.body l_54 := (se_lst sa_nil)
theorem kl_55 (F : Fc (gl w K mg base)) (n : Nat) : SE (gl w K mg base) tb ⟨["e"], lam_55.scope, fun _ => false, none, lam_55.qual⟩ n lam_55.body l_55 := (se_lst sa_nil)
theorem kl_56 (F : Fc (gl w K mg base)) (n : Nat) : SE (gl w K mg base) tb ⟨["e"], lam_56.scope, fun _ => false, none, lam_56.qual⟩ n lam_56.body l_56 := (se_lst sa_nil)
theorem kl_57 (F : Fc (gl w K mg base)) (n : Nat) : SE (gl w K mg base) tb ⟨["e"], lam_57.scope, fun _ => false, none, lam_57.qual⟩ n lam_57.body l_57 := (se_lst (sa_cons (se_fld F.f_question (se_var (i := 0) rfl (.inl rfl))) (sa_cons (se_fld F.f_why (se_var (i := 0) rfl (.inl rfl))) sa_nil)))
end
end Law
end

section
set_option Elab.async false
set_option linter.all false
namespace Law
open PySem L2 MI
set_option maxRecDepth 100000
set_option maxHeartbeats 4000000
/-! the head -/
section
variable {w : World} {K : PySem.W.Frag} {mg : Str → Option Value} {base h : Heap}
theorem excs (e : ex K = true) : ∀ c, c < nCls → ExcC K (caK K c) := by
  obtain ⟨e1, _⟩ := Bool.and_eq_true_iff.mp e
  obtain ⟨e2, e3⟩ := Bool.and_eq_true_iff.mp e1
  intro c hc
  have key : c ∈ initCs ∨ c ∈ plainCs := by
    have : ∀ c < nCls, c ∈ initCs ∨ c ∈ plainCs := by decide +kernel
    exact this c hc
  rcases key with k | k
  · have := List.all_eq_true.mp e2 c k
    exact excB_ok (Bool.and_eq_true_iff.mp (Bool.and_eq_true_iff.mp this).2).1
  · have := List.all_eq_true.mp e3 c k
    exact excB_ok (Bool.and_eq_true_iff.mp (Bool.and_eq_true_iff.mp this).2).2
theorem err_1 (e : ex K = true) {fd : FuncData} (F : FunD K dI_1.name dI_1.qual dI_1.params dI_1.body dI_1.scope [] [] (He.ma K (caK K 1) "__init__") fd) : ErrI (gl w K mg base) 1 dI_1 ["self", "thing"] := by
  have c1 := List.all_eq_true.mp (Bool.and_eq_true_iff.mp (Bool.and_eq_true_iff.mp e).1).1 1 (by decide +kernel)
  obtain ⟨h1, h2⟩ := Bool.and_eq_true_iff.mp c1
  obtain ⟨h2, h3⟩ := Bool.and_eq_true_iff.mp h2
  obtain ⟨h3, h4⟩ := Bool.and_eq_true_iff.mp h3
  have sc : FnScope ["self", "thing"] ["self", "thing"] dI_1.scope := ⟨rfl, rfl, rfl, by decide +kernel, rfl, by decide +kernel, by decide +kernel⟩
  exact ⟨oexB_ok h1, excB_ok h2, noB_ok h3, ⟨_, fd, (initB_ok h4).1, (initB_ok h4).2, F, init_one F sc (.inl rfl) (.inl rfl) rfl rfl rfl rfl (fun _ => rfl)⟩, rfl⟩
theorem err_2 (e : ex K = true) {fd : FuncData} (F : FunD K dI_2.name dI_2.qual dI_2.params dI_2.body dI_2.scope [] [] (He.ma K (caK K 2) "__init__") fd) : ErrI (gl w K mg base) 2 dI_2 ["self", "fault"] := by
  have c1 := List.all_eq_true.mp (Bool.and_eq_true_iff.mp (Bool.and_eq_true_iff.mp e).1).1 2 (by decide +kernel)
  obtain ⟨h1, h2⟩ := Bool.and_eq_true_iff.mp c1
  obtain ⟨h2, h3⟩ := Bool.and_eq_true_iff.mp h2
  obtain ⟨h3, h4⟩ := Bool.and_eq_true_iff.mp h3
  have sc : FnScope ["self", "fault"] ["self", "fault"] dI_2.scope := ⟨rfl, rfl, rfl, by decide +kernel, rfl, by decide +kernel, by decide +kernel⟩
  exact ⟨oexB_ok h1, excB_ok h2, noB_ok h3, ⟨_, fd, (initB_ok h4).1, (initB_ok h4).2, F, init_one F sc (.inl rfl) (.inl rfl) rfl rfl rfl rfl (fun _ => rfl)⟩, rfl⟩
theorem err_3 (e : ex K = true) {fd : FuncData} (F : FunD K dI_3.name dI_3.qual dI_3.params dI_3.body dI_3.scope [] [] (He.ma K (caK K 3) "__init__") fd) : ErrI (gl w K mg base) 3 dI_3 ["self", "thing"] := by
  have c1 := List.all_eq_true.mp (Bool.and_eq_true_iff.mp (Bool.and_eq_true_iff.mp e).1).1 3 (by decide +kernel)
  obtain ⟨h1, h2⟩ := Bool.and_eq_true_iff.mp c1
  obtain ⟨h2, h3⟩ := Bool.and_eq_true_iff.mp h2
  obtain ⟨h3, h4⟩ := Bool.and_eq_true_iff.mp h3
  have sc : FnScope ["self", "thing"] ["self", "thing"] dI_3.scope := ⟨rfl, rfl, rfl, by decide +kernel, rfl, by decide +kernel, by decide +kernel⟩
  exact ⟨oexB_ok h1, excB_ok h2, noB_ok h3, ⟨_, fd, (initB_ok h4).1, (initB_ok h4).2, F, init_one F sc (.inl rfl) (.inl rfl) rfl rfl rfl rfl (fun _ => rfl)⟩, rfl⟩
theorem err_4 (e : ex K = true) {fd : FuncData} (F : FunD K dI_4.name dI_4.qual dI_4.params dI_4.body dI_4.scope [] [] (He.ma K (caK K 4) "__init__") fd) : ErrI (gl w K mg base) 4 dI_4 ["self", "index"] := by
  have c1 := List.all_eq_true.mp (Bool.and_eq_true_iff.mp (Bool.and_eq_true_iff.mp e).1).1 4 (by decide +kernel)
  obtain ⟨h1, h2⟩ := Bool.and_eq_true_iff.mp c1
  obtain ⟨h2, h3⟩ := Bool.and_eq_true_iff.mp h2
  obtain ⟨h3, h4⟩ := Bool.and_eq_true_iff.mp h3
  have sc : FnScope ["self", "index"] ["self", "index"] dI_4.scope := ⟨rfl, rfl, rfl, by decide +kernel, rfl, by decide +kernel, by decide +kernel⟩
  exact ⟨oexB_ok h1, excB_ok h2, noB_ok h3, ⟨_, fd, (initB_ok h4).1, (initB_ok h4).2, F, init_one F sc (.inl rfl) (.inl rfl) rfl rfl rfl rfl (fun _ => rfl)⟩, rfl⟩
theorem err_5 (e : ex K = true) {fd : FuncData} (F : FunD K dI_5.name dI_5.qual dI_5.params dI_5.body dI_5.scope [] [] (He.ma K (caK K 5) "__init__") fd) : ErrI (gl w K mg base) 5 dI_5 ["self", "thing"] := by
  have c1 := List.all_eq_true.mp (Bool.and_eq_true_iff.mp (Bool.and_eq_true_iff.mp e).1).1 5 (by decide +kernel)
  obtain ⟨h1, h2⟩ := Bool.and_eq_true_iff.mp c1
  obtain ⟨h2, h3⟩ := Bool.and_eq_true_iff.mp h2
  obtain ⟨h3, h4⟩ := Bool.and_eq_true_iff.mp h3
  have sc : FnScope ["self", "thing"] ["self", "thing"] dI_5.scope := ⟨rfl, rfl, rfl, by decide +kernel, rfl, by decide +kernel, by decide +kernel⟩
  exact ⟨oexB_ok h1, excB_ok h2, noB_ok h3, ⟨_, fd, (initB_ok h4).1, (initB_ok h4).2, F, init_one F sc (.inl rfl) (.inl rfl) rfl rfl rfl rfl (fun _ => rfl)⟩, rfl⟩
theorem err_6 (e : ex K = true) {fd : FuncData} (F : FunD K dI_6.name dI_6.qual dI_6.params dI_6.body dI_6.scope [] [] (He.ma K (caK K 6) "__init__") fd) : ErrI (gl w K mg base) 6 dI_6 ["self", "thing"] := by
  have c1 := List.all_eq_true.mp (Bool.and_eq_true_iff.mp (Bool.and_eq_true_iff.mp e).1).1 6 (by decide +kernel)
  obtain ⟨h1, h2⟩ := Bool.and_eq_true_iff.mp c1
  obtain ⟨h2, h3⟩ := Bool.and_eq_true_iff.mp h2
  obtain ⟨h3, h4⟩ := Bool.and_eq_true_iff.mp h3
  have sc : FnScope ["self", "thing"] ["self", "thing"] dI_6.scope := ⟨rfl, rfl, rfl, by decide +kernel, rfl, by decide +kernel, by decide +kernel⟩
  exact ⟨oexB_ok h1, excB_ok h2, noB_ok h3, ⟨_, fd, (initB_ok h4).1, (initB_ok h4).2, F, init_one F sc (.inl rfl) (.inl rfl) rfl rfl rfl rfl (fun _ => rfl)⟩, rfl⟩
theorem err_7 (e : ex K = true) {fd : FuncData} (F : FunD K dI_7.name dI_7.qual dI_7.params dI_7.body dI_7.scope [] [] (He.ma K (caK K 7) "__init__") fd) : ErrI (gl w K mg base) 7 dI_7 ["self", "thing"] := by
  have c1 := List.all_eq_true.mp (Bool.and_eq_true_iff.mp (Bool.and_eq_true_iff.mp e).1).1 7 (by decide +kernel)
  obtain ⟨h1, h2⟩ := Bool.and_eq_true_iff.mp c1
  obtain ⟨h2, h3⟩ := Bool.and_eq_true_iff.mp h2
  obtain ⟨h3, h4⟩ := Bool.and_eq_true_iff.mp h3
  have sc : FnScope ["self", "thing"] ["self", "thing"] dI_7.scope := ⟨rfl, rfl, rfl, by decide +kernel, rfl, by decide +kernel, by decide +kernel⟩
  exact ⟨oexB_ok h1, excB_ok h2, noB_ok h3, ⟨_, fd, (initB_ok h4).1, (initB_ok h4).2, F, init_one F sc (.inl rfl) (.inl rfl) rfl rfl rfl rfl (fun _ => rfl)⟩, rfl⟩
theorem err_8 (e : ex K = true) {fd : FuncData} (F : FunD K dI_8.name dI_8.qual dI_8.params dI_8.body dI_8.scope [] [] (He.ma K (caK K 8) "__init__") fd) : ErrI (gl w K mg base) 8 dI_8 ["self", "thing"] := by
  have c1 := List.all_eq_true.mp (Bool.and_eq_true_iff.mp (Bool.and_eq_true_iff.mp e).1).1 8 (by decide +kernel)
  obtain ⟨h1, h2⟩ := Bool.and_eq_true_iff.mp c1
  obtain ⟨h2, h3⟩ := Bool.and_eq_true_iff.mp h2
  obtain ⟨h3, h4⟩ := Bool.and_eq_true_iff.mp h3
  have sc : FnScope ["self", "thing"] ["self", "thing"] dI_8.scope := ⟨rfl, rfl, rfl, by decide +kernel, rfl, by decide +kernel, by decide +kernel⟩
  exact ⟨oexB_ok h1, excB_ok h2, noB_ok h3, ⟨_, fd, (initB_ok h4).1, (initB_ok h4).2, F, init_one F sc (.inl rfl) (.inl rfl) rfl rfl rfl rfl (fun _ => rfl)⟩, rfl⟩
theorem err_9 (e : ex K = true) {fd : FuncData} (F : FunD K dI_9.name dI_9.qual dI_9.params dI_9.body dI_9.scope [] [] (He.ma K (caK K 9) "__init__") fd) : ErrI (gl w K mg base) 9 dI_9 ["self", "index"] := by
  have c1 := List.all_eq_true.mp (Bool.and_eq_true_iff.mp (Bool.and_eq_true_iff.mp e).1).1 9 (by decide +kernel)
  obtain ⟨h1, h2⟩ := Bool.and_eq_true_iff.mp c1
  obtain ⟨h2, h3⟩ := Bool.and_eq_true_iff.mp h2
  obtain ⟨h3, h4⟩ := Bool.and_eq_true_iff.mp h3
  have sc : FnScope ["self", "index"] ["self", "index"] dI_9.scope := ⟨rfl, rfl, rfl, by decide +kernel, rfl, by decide +kernel, by decide +kernel⟩
  exact ⟨oexB_ok h1, excB_ok h2, noB_ok h3, ⟨_, fd, (initB_ok h4).1, (initB_ok h4).2, F, init_one F sc (.inl rfl) (.inl rfl) rfl rfl rfl rfl (fun _ => rfl)⟩, rfl⟩
theorem err_10 (e : ex K = true) {fd : FuncData} (F : FunD K dI_10.name dI_10.qual dI_10.params dI_10.body dI_10.scope [] [] (He.ma K (caK K 10) "__init__") fd) : ErrI (gl w K mg base) 10 dI_10 ["self", "thing"] := by
  have c1 := List.all_eq_true.mp (Bool.and_eq_true_iff.mp (Bool.and_eq_true_iff.mp e).1).1 10 (by decide +kernel)
  obtain ⟨h1, h2⟩ := Bool.and_eq_true_iff.mp c1
  obtain ⟨h2, h3⟩ := Bool.and_eq_true_iff.mp h2
  obtain ⟨h3, h4⟩ := Bool.and_eq_true_iff.mp h3
  have sc : FnScope ["self", "thing"] ["self", "thing"] dI_10.scope := ⟨rfl, rfl, rfl, by decide +kernel, rfl, by decide +kernel, by decide +kernel⟩
  exact ⟨oexB_ok h1, excB_ok h2, noB_ok h3, ⟨_, fd, (initB_ok h4).1, (initB_ok h4).2, F, init_one F sc (.inl rfl) (.inl rfl) rfl rfl rfl rfl (fun _ => rfl)⟩, rfl⟩
theorem err_11 (e : ex K = true) {fd : FuncData} (F : FunD K dI_11.name dI_11.qual dI_11.params dI_11.body dI_11.scope [] [] (He.ma K (caK K 11) "__init__") fd) : ErrI (gl w K mg base) 11 dI_11 ["self", "thing"] := by
  have c1 := List.all_eq_true.mp (Bool.and_eq_true_iff.mp (Bool.and_eq_true_iff.mp e).1).1 11 (by decide +kernel)
  obtain ⟨h1, h2⟩ := Bool.and_eq_true_iff.mp c1
  obtain ⟨h2, h3⟩ := Bool.and_eq_true_iff.mp h2
  obtain ⟨h3, h4⟩ := Bool.and_eq_true_iff.mp h3
  have sc : FnScope ["self", "thing"] ["self", "thing"] dI_11.scope := ⟨rfl, rfl, rfl, by decide +kernel, rfl, by decide +kernel, by decide +kernel⟩
  exact ⟨oexB_ok h1, excB_ok h2, noB_ok h3, ⟨_, fd, (initB_ok h4).1, (initB_ok h4).2, F, init_one F sc (.inl rfl) (.inl rfl) rfl rfl rfl rfl (fun _ => rfl)⟩, rfl⟩
theorem err_12 (e : ex K = true) {fd : FuncData} (F : FunD K dI_12.name dI_12.qual dI_12.params dI_12.body dI_12.scope [] [] (He.ma K (caK K 12) "__init__") fd) : ErrI (gl w K mg base) 12 dI_12 ["self", "index"] := by
  have c1 := List.all_eq_true.mp (Bool.and_eq_true_iff.mp (Bool.and_eq_true_iff.mp e).1).1 12 (by decide +kernel)
  obtain ⟨h1, h2⟩ := Bool.and_eq_true_iff.mp c1
  obtain ⟨h2, h3⟩ := Bool.and_eq_true_iff.mp h2
  obtain ⟨h3, h4⟩ := Bool.and_eq_true_iff.mp h3
  have sc : FnScope ["self", "index"] ["self", "index"] dI_12.scope := ⟨rfl, rfl, rfl, by decide +kernel, rfl, by decide +kernel, by decide +kernel⟩
  exact ⟨oexB_ok h1, excB_ok h2, noB_ok h3, ⟨_, fd, (initB_ok h4).1, (initB_ok h4).2, F, init_one F sc (.inl rfl) (.inl rfl) rfl rfl rfl rfl (fun _ => rfl)⟩, rfl⟩
theorem err_13 (e : ex K = true) {fd : FuncData} (F : FunD K dI_13.name dI_13.qual dI_13.params dI_13.body dI_13.scope [] [] (He.ma K (caK K 13) "__init__") fd) : ErrI (gl w K mg base) 13 dI_13 ["self", "index"] := by
  have c1 := List.all_eq_true.mp (Bool.and_eq_true_iff.mp (Bool.and_eq_true_iff.mp e).1).1 13 (by decide +kernel)
  obtain ⟨h1, h2⟩ := Bool.and_eq_true_iff.mp c1
  obtain ⟨h2, h3⟩ := Bool.and_eq_true_iff.mp h2
  obtain ⟨h3, h4⟩ := Bool.and_eq_true_iff.mp h3
  have sc : FnScope ["self", "index"] ["self", "index"] dI_13.scope := ⟨rfl, rfl, rfl, by decide +kernel, rfl, by decide +kernel, by decide +kernel⟩
  exact ⟨oexB_ok h1, excB_ok h2, noB_ok h3, ⟨_, fd, (initB_ok h4).1, (initB_ok h4).2, F, init_one F sc (.inl rfl) (.inl rfl) rfl rfl rfl rfl (fun _ => rfl)⟩, rfl⟩
theorem err_14 (e : ex K = true) {fd : FuncData} (F : FunD K dI_14.name dI_14.qual dI_14.params dI_14.body dI_14.scope [] [] (He.ma K (caK K 14) "__init__") fd) : ErrI (gl w K mg base) 14 dI_14 ["self", "thing"] := by
  have c1 := List.all_eq_true.mp (Bool.and_eq_true_iff.mp (Bool.and_eq_true_iff.mp e).1).1 14 (by decide +kernel)
  obtain ⟨h1, h2⟩ := Bool.and_eq_true_iff.mp c1
  obtain ⟨h2, h3⟩ := Bool.and_eq_true_iff.mp h2
  obtain ⟨h3, h4⟩ := Bool.and_eq_true_iff.mp h3
  have sc : FnScope ["self", "thing"] ["self", "thing"] dI_14.scope := ⟨rfl, rfl, rfl, by decide +kernel, rfl, by decide +kernel, by decide +kernel⟩
  exact ⟨oexB_ok h1, excB_ok h2, noB_ok h3, ⟨_, fd, (initB_ok h4).1, (initB_ok h4).2, F, init_one F sc (.inl rfl) (.inl rfl) rfl rfl rfl rfl (fun _ => rfl)⟩, rfl⟩
theorem err_15 (e : ex K = true) {fd : FuncData} (F : FunD K dI_15.name dI_15.qual dI_15.params dI_15.body dI_15.scope [] [] (He.ma K (caK K 15) "__init__") fd) : ErrI (gl w K mg base) 15 dI_15 ["self", "thing"] := by
  have c1 := List.all_eq_true.mp (Bool.and_eq_true_iff.mp (Bool.and_eq_true_iff.mp e).1).1 15 (by decide +kernel)
  obtain ⟨h1, h2⟩ := Bool.and_eq_true_iff.mp c1
  obtain ⟨h2, h3⟩ := Bool.and_eq_true_iff.mp h2
  obtain ⟨h3, h4⟩ := Bool.and_eq_true_iff.mp h3
  have sc : FnScope ["self", "thing"] ["self", "thing"] dI_15.scope := ⟨rfl, rfl, rfl, by decide +kernel, rfl, by decide +kernel, by decide +kernel⟩
  exact ⟨oexB_ok h1, excB_ok h2, noB_ok h3, ⟨_, fd, (initB_ok h4).1, (initB_ok h4).2, F, init_one F sc (.inl rfl) (.inl rfl) rfl rfl rfl rfl (fun _ => rfl)⟩, rfl⟩
theorem err_16 (e : ex K = true) {fd : FuncData} (F : FunD K dI_16.name dI_16.qual dI_16.params dI_16.body dI_16.scope [] [] (He.ma K (caK K 16) "__init__") fd) : ErrI (gl w K mg base) 16 dI_16 ["self", "thing"] := by
  have c1 := List.all_eq_true.mp (Bool.and_eq_true_iff.mp (Bool.and_eq_true_iff.mp e).1).1 16 (by decide +kernel)
  obtain ⟨h1, h2⟩ := Bool.and_eq_true_iff.mp c1
  obtain ⟨h2, h3⟩ := Bool.and_eq_true_iff.mp h2
  obtain ⟨h3, h4⟩ := Bool.and_eq_true_iff.mp h3
  have sc : FnScope ["self", "thing"] ["self", "thing"] dI_16.scope := ⟨rfl, rfl, rfl, by decide +kernel, rfl, by decide +kernel, by decide +kernel⟩
  exact ⟨oexB_ok h1, excB_ok h2, noB_ok h3, ⟨_, fd, (initB_ok h4).1, (initB_ok h4).2, F, init_one F sc (.inl rfl) (.inl rfl) rfl rfl rfl rfl (fun _ => rfl)⟩, rfl⟩
theorem err_17 (e : ex K = true) {fd : FuncData} (F : FunD K dI_17.name dI_17.qual dI_17.params dI_17.body dI_17.scope [] [] (He.ma K (caK K 17) "__init__") fd) : ErrI (gl w K mg base) 17 dI_17 ["self", "thing"] := by
  have c1 := List.all_eq_true.mp (Bool.and_eq_true_iff.mp (Bool.and_eq_true_iff.mp e).1).1 17 (by decide +kernel)
  obtain ⟨h1, h2⟩ := Bool.and_eq_true_iff.mp c1
  obtain ⟨h2, h3⟩ := Bool.and_eq_true_iff.mp h2
  obtain ⟨h3, h4⟩ := Bool.and_eq_true_iff.mp h3
  have sc : FnScope ["self", "thing"] ["self", "thing"] dI_17.scope := ⟨rfl, rfl, rfl, by decide +kernel, rfl, by decide +kernel, by decide +kernel⟩
  exact ⟨oexB_ok h1, excB_ok h2, noB_ok h3, ⟨_, fd, (initB_ok h4).1, (initB_ok h4).2, F, init_one F sc (.inl rfl) (.inl rfl) rfl rfl rfl rfl (fun _ => rfl)⟩, rfl⟩
theorem err_18 (e : ex K = true) {fd : FuncData} (F : FunD K dI_18.name dI_18.qual dI_18.params dI_18.body dI_18.scope [] [] (He.ma K (caK K 18) "__init__") fd) : ErrI (gl w K mg base) 18 dI_18 ["self", "thing"] := by
  have c1 := List.all_eq_true.mp (Bool.and_eq_true_iff.mp (Bool.and_eq_true_iff.mp e).1).1 18 (by decide +kernel)
  obtain ⟨h1, h2⟩ := Bool.and_eq_true_iff.mp c1
  obtain ⟨h2, h3⟩ := Bool.and_eq_true_iff.mp h2
  obtain ⟨h3, h4⟩ := Bool.and_eq_true_iff.mp h3
  have sc : FnScope ["self", "thing"] ["self", "thing"] dI_18.scope := ⟨rfl, rfl, rfl, by decide +kernel, rfl, by decide +kernel, by decide +kernel⟩
  exact ⟨oexB_ok h1, excB_ok h2, noB_ok h3, ⟨_, fd, (initB_ok h4).1, (initB_ok h4).2, F, init_one F sc (.inl rfl) (.inl rfl) rfl rfl rfl rfl (fun _ => rfl)⟩, rfl⟩
theorem err_19 (e : ex K = true) {fd : FuncData} (F : FunD K dI_19.name dI_19.qual dI_19.params dI_19.body dI_19.scope [] [] (He.ma K (caK K 19) "__init__") fd) : ErrI (gl w K mg base) 19 dI_19 ["self", "fault"] := by
  have c1 := List.all_eq_true.mp (Bool.and_eq_true_iff.mp (Bool.and_eq_true_iff.mp e).1).1 19 (by decide +kernel)
  obtain ⟨h1, h2⟩ := Bool.and_eq_true_iff.mp c1
  obtain ⟨h2, h3⟩ := Bool.and_eq_true_iff.mp h2
  obtain ⟨h3, h4⟩ := Bool.and_eq_true_iff.mp h3
  have sc : FnScope ["self", "fault"] ["self", "fault"] dI_19.scope := ⟨rfl, rfl, rfl, by decide +kernel, rfl, by decide +kernel, by decide +kernel⟩
  exact ⟨oexB_ok h1, excB_ok h2, noB_ok h3, ⟨_, fd, (initB_ok h4).1, (initB_ok h4).2, F, init_one F sc (.inl rfl) (.inl rfl) rfl rfl rfl rfl (fun _ => rfl)⟩, rfl⟩
theorem err_20 (e : ex K = true) {fd : FuncData} (F : FunD K dI_20.name dI_20.qual dI_20.params dI_20.body dI_20.scope [] [] (He.ma K (caK K 20) "__init__") fd) : ErrI (gl w K mg base) 20 dI_20 ["self", "index"] := by
  have c1 := List.all_eq_true.mp (Bool.and_eq_true_iff.mp (Bool.and_eq_true_iff.mp e).1).1 20 (by decide +kernel)
  obtain ⟨h1, h2⟩ := Bool.and_eq_true_iff.mp c1
  obtain ⟨h2, h3⟩ := Bool.and_eq_true_iff.mp h2
  obtain ⟨h3, h4⟩ := Bool.and_eq_true_iff.mp h3
  have sc : FnScope ["self", "index"] ["self", "index"] dI_20.scope := ⟨rfl, rfl, rfl, by decide +kernel, rfl, by decide +kernel, by decide +kernel⟩
  exact ⟨oexB_ok h1, excB_ok h2, noB_ok h3, ⟨_, fd, (initB_ok h4).1, (initB_ok h4).2, F, init_one F sc (.inl rfl) (.inl rfl) rfl rfl rfl rfl (fun _ => rfl)⟩, rfl⟩
theorem err_21 (e : ex K = true) {fd : FuncData} (F : FunD K dI_21.name dI_21.qual dI_21.params dI_21.body dI_21.scope [] [] (He.ma K (caK K 21) "__init__") fd) : ErrI (gl w K mg base) 21 dI_21 ["self", "thing"] := by
  have c1 := List.all_eq_true.mp (Bool.and_eq_true_iff.mp (Bool.and_eq_true_iff.mp e).1).1 21 (by decide +kernel)
  obtain ⟨h1, h2⟩ := Bool.and_eq_true_iff.mp c1
  obtain ⟨h2, h3⟩ := Bool.and_eq_true_iff.mp h2
  obtain ⟨h3, h4⟩ := Bool.and_eq_true_iff.mp h3
  have sc : FnScope ["self", "thing"] ["self", "thing"] dI_21.scope := ⟨rfl, rfl, rfl, by decide +kernel, rfl, by decide +kernel, by decide +kernel⟩
  exact ⟨oexB_ok h1, excB_ok h2, noB_ok h3, ⟨_, fd, (initB_ok h4).1, (initB_ok h4).2, F, init_one F sc (.inl rfl) (.inl rfl) rfl rfl rfl rfl (fun _ => rfl)⟩, rfl⟩
theorem err_22 (e : ex K = true) {fd : FuncData} (F : FunD K dI_22.name dI_22.qual dI_22.params dI_22.body dI_22.scope [] [] (He.ma K (caK K 22) "__init__") fd) : ErrI (gl w K mg base) 22 dI_22 ["self", "thing"] := by
  have c1 := List.all_eq_true.mp (Bool.and_eq_true_iff.mp (Bool.and_eq_true_iff.mp e).1).1 22 (by decide +kernel)
  obtain ⟨h1, h2⟩ := Bool.and_eq_true_iff.mp c1
  obtain ⟨h2, h3⟩ := Bool.and_eq_true_iff.mp h2
  obtain ⟨h3, h4⟩ := Bool.and_eq_true_iff.mp h3
  have sc : FnScope ["self", "thing"] ["self", "thing"] dI_22.scope := ⟨rfl, rfl, rfl, by decide +kernel, rfl, by decide +kernel, by decide +kernel⟩
  exact ⟨oexB_ok h1, excB_ok h2, noB_ok h3, ⟨_, fd, (initB_ok h4).1, (initB_ok h4).2, F, init_one F sc (.inl rfl) (.inl rfl) rfl rfl rfl rfl (fun _ => rfl)⟩, rfl⟩
theorem err_23 (e : ex K = true) {fd : FuncData} (F : FunD K dI_23.name dI_23.qual dI_23.params dI_23.body dI_23.scope [] [] (He.ma K (caK K 23) "__init__") fd) : ErrI (gl w K mg base) 23 dI_23 ["self", "thing"] := by
  have c1 := List.all_eq_true.mp (Bool.and_eq_true_iff.mp (Bool.and_eq_true_iff.mp e).1).1 23 (by decide +kernel)
  obtain ⟨h1, h2⟩ := Bool.and_eq_true_iff.mp c1
  obtain ⟨h2, h3⟩ := Bool.and_eq_true_iff.mp h2
  obtain ⟨h3, h4⟩ := Bool.and_eq_true_iff.mp h3
  have sc : FnScope ["self", "thing"] ["self", "thing"] dI_23.scope := ⟨rfl, rfl, rfl, by decide +kernel, rfl, by decide +kernel, by decide +kernel⟩
  exact ⟨oexB_ok h1, excB_ok h2, noB_ok h3, ⟨_, fd, (initB_ok h4).1, (initB_ok h4).2, F, init_one F sc (.inl rfl) (.inl rfl) rfl rfl rfl rfl (fun _ => rfl)⟩, rfl⟩
theorem err_24 (e : ex K = true) {fd : FuncData} (F : FunD K dI_24.name dI_24.qual dI_24.params dI_24.body dI_24.scope [] [] (He.ma K (caK K 24) "__init__") fd) : ErrI (gl w K mg base) 24 dI_24 ["self", "index"] := by
  have c1 := List.all_eq_true.mp (Bool.and_eq_true_iff.mp (Bool.and_eq_true_iff.mp e).1).1 24 (by decide +kernel)
  obtain ⟨h1, h2⟩ := Bool.and_eq_true_iff.mp c1
  obtain ⟨h2, h3⟩ := Bool.and_eq_true_iff.mp h2
  obtain ⟨h3, h4⟩ := Bool.and_eq_true_iff.mp h3
  have sc : FnScope ["self", "index"] ["self", "index"] dI_24.scope := ⟨rfl, rfl, rfl, by decide +kernel, rfl, by decide +kernel, by decide +kernel⟩
  exact ⟨oexB_ok h1, excB_ok h2, noB_ok h3, ⟨_, fd, (initB_ok h4).1, (initB_ok h4).2, F, init_one F sc (.inl rfl) (.inl rfl) rfl rfl rfl rfl (fun _ => rfl)⟩, rfl⟩
theorem err_25 (e : ex K = true) {fd : FuncData} (F : FunD K dI_25.name dI_25.qual dI_25.params dI_25.body dI_25.scope [] [] (He.ma K (caK K 25) "__init__") fd) : ErrI (gl w K mg base) 25 dI_25 ["self", "thing"] := by
  have c1 := List.all_eq_true.mp (Bool.and_eq_true_iff.mp (Bool.and_eq_true_iff.mp e).1).1 25 (by decide +kernel)
  obtain ⟨h1, h2⟩ := Bool.and_eq_true_iff.mp c1
  obtain ⟨h2, h3⟩ := Bool.and_eq_true_iff.mp h2
  obtain ⟨h3, h4⟩ := Bool.and_eq_true_iff.mp h3
  have sc : FnScope ["self", "thing"] ["self", "thing"] dI_25.scope := ⟨rfl, rfl, rfl, by decide +kernel, rfl, by decide +kernel, by decide +kernel⟩
  exact ⟨oexB_ok h1, excB_ok h2, noB_ok h3, ⟨_, fd, (initB_ok h4).1, (initB_ok h4).2, F, init_one F sc (.inl rfl) (.inl rfl) rfl rfl rfl rfl (fun _ => rfl)⟩, rfl⟩
theorem err_26 (e : ex K = true) {fd : FuncData} (F : FunD K dI_26.name dI_26.qual dI_26.params dI_26.body dI_26.scope [] [] (He.ma K (caK K 26) "__init__") fd) : ErrI (gl w K mg base) 26 dI_26 ["self", "index"] := by
  have c1 := List.all_eq_true.mp (Bool.and_eq_true_iff.mp (Bool.and_eq_true_iff.mp e).1).1 26 (by decide +kernel)
  obtain ⟨h1, h2⟩ := Bool.and_eq_true_iff.mp c1
  obtain ⟨h2, h3⟩ := Bool.and_eq_true_iff.mp h2
  obtain ⟨h3, h4⟩ := Bool.and_eq_true_iff.mp h3
  have sc : FnScope ["self", "index"] ["self", "index"] dI_26.scope := ⟨rfl, rfl, rfl, by decide +kernel, rfl, by decide +kernel, by decide +kernel⟩
  exact ⟨oexB_ok h1, excB_ok h2, noB_ok h3, ⟨_, fd, (initB_ok h4).1, (initB_ok h4).2, F, init_one F sc (.inl rfl) (.inl rfl) rfl rfl rfl rfl (fun _ => rfl)⟩, rfl⟩
theorem err_27 (e : ex K = true) {fd : FuncData} (F : FunD K dI_27.name dI_27.qual dI_27.params dI_27.body dI_27.scope [] [] (He.ma K (caK K 27) "__init__") fd) : ErrI (gl w K mg base) 27 dI_27 ["self", "thing"] := by
  have c1 := List.all_eq_true.mp (Bool.and_eq_true_iff.mp (Bool.and_eq_true_iff.mp e).1).1 27 (by decide +kernel)
  obtain ⟨h1, h2⟩ := Bool.and_eq_true_iff.mp c1
  obtain ⟨h2, h3⟩ := Bool.and_eq_true_iff.mp h2
  obtain ⟨h3, h4⟩ := Bool.and_eq_true_iff.mp h3
  have sc : FnScope ["self", "thing"] ["self", "thing"] dI_27.scope := ⟨rfl, rfl, rfl, by decide +kernel, rfl, by decide +kernel, by decide +kernel⟩
  exact ⟨oexB_ok h1, excB_ok h2, noB_ok h3, ⟨_, fd, (initB_ok h4).1, (initB_ok h4).2, F, init_one F sc (.inl rfl) (.inl rfl) rfl rfl rfl rfl (fun _ => rfl)⟩, rfl⟩
theorem err_28 (e : ex K = true) {fd : FuncData} (F : FunD K dI_28.name dI_28.qual dI_28.params dI_28.body dI_28.scope [] [] (He.ma K (caK K 28) "__init__") fd) : ErrI (gl w K mg base) 28 dI_28 ["self", "thing"] := by
  have c1 := List.all_eq_true.mp (Bool.and_eq_true_iff.mp (Bool.and_eq_true_iff.mp e).1).1 28 (by decide +kernel)
  obtain ⟨h1, h2⟩ := Bool.and_eq_true_iff.mp c1
  obtain ⟨h2, h3⟩ := Bool.and_eq_true_iff.mp h2
  obtain ⟨h3, h4⟩ := Bool.and_eq_true_iff.mp h3
  have sc : FnScope ["self", "thing"] ["self", "thing"] dI_28.scope := ⟨rfl, rfl, rfl, by decide +kernel, rfl, by decide +kernel, by decide +kernel⟩
  exact ⟨oexB_ok h1, excB_ok h2, noB_ok h3, ⟨_, fd, (initB_ok h4).1, (initB_ok h4).2, F, init_one F sc (.inl rfl) (.inl rfl) rfl rfl rfl rfl (fun _ => rfl)⟩, rfl⟩
theorem err_29 (e : ex K = true) {fd : FuncData} (F : FunD K dI_29.name dI_29.qual dI_29.params dI_29.body dI_29.scope [] [] (He.ma K (caK K 29) "__init__") fd) : ErrI (gl w K mg base) 29 dI_29 ["self", "thing"] := by
  have c1 := List.all_eq_true.mp (Bool.and_eq_true_iff.mp (Bool.and_eq_true_iff.mp e).1).1 29 (by decide +kernel)
  obtain ⟨h1, h2⟩ := Bool.and_eq_true_iff.mp c1
  obtain ⟨h2, h3⟩ := Bool.and_eq_true_iff.mp h2
  obtain ⟨h3, h4⟩ := Bool.and_eq_true_iff.mp h3
  have sc : FnScope ["self", "thing"] ["self", "thing"] dI_29.scope := ⟨rfl, rfl, rfl, by decide +kernel, rfl, by decide +kernel, by decide +kernel⟩
  exact ⟨oexB_ok h1, excB_ok h2, noB_ok h3, ⟨_, fd, (initB_ok h4).1, (initB_ok h4).2, F, init_one F sc (.inl rfl) (.inl rfl) rfl rfl rfl rfl (fun _ => rfl)⟩, rfl⟩
theorem err_30 (e : ex K = true) {fd : FuncData} (F : FunD K dI_30.name dI_30.qual dI_30.params dI_30.body dI_30.scope [] [] (He.ma K (caK K 30) "__init__") fd) : ErrI (gl w K mg base) 30 dI_30 ["self", "thing"] := by
  have c1 := List.all_eq_true.mp (Bool.and_eq_true_iff.mp (Bool.and_eq_true_iff.mp e).1).1 30 (by decide +kernel)
  obtain ⟨h1, h2⟩ := Bool.and_eq_true_iff.mp c1
  obtain ⟨h2, h3⟩ := Bool.and_eq_true_iff.mp h2
  obtain ⟨h3, h4⟩ := Bool.and_eq_true_iff.mp h3
  have sc : FnScope ["self", "thing"] ["self", "thing"] dI_30.scope := ⟨rfl, rfl, rfl, by decide +kernel, rfl, by decide +kernel, by decide +kernel⟩
  exact ⟨oexB_ok h1, excB_ok h2, noB_ok h3, ⟨_, fd, (initB_ok h4).1, (initB_ok h4).2, F, init_one F sc (.inl rfl) (.inl rfl) rfl rfl rfl rfl (fun _ => rfl)⟩, rfl⟩
theorem err_31 (e : ex K = true) {fd : FuncData} (F : FunD K dI_31.name dI_31.qual dI_31.params dI_31.body dI_31.scope [] [] (He.ma K (caK K 31) "__init__") fd) : ErrI (gl w K mg base) 31 dI_31 ["self", "fault"] := by
  have c1 := List.all_eq_true.mp (Bool.and_eq_true_iff.mp (Bool.and_eq_true_iff.mp e).1).1 31 (by decide +kernel)
  obtain ⟨h1, h2⟩ := Bool.and_eq_true_iff.mp c1
  obtain ⟨h2, h3⟩ := Bool.and_eq_true_iff.mp h2
  obtain ⟨h3, h4⟩ := Bool.and_eq_true_iff.mp h3
  have sc : FnScope ["self", "fault"] ["self", "fault"] dI_31.scope := ⟨rfl, rfl, rfl, by decide +kernel, rfl, by decide +kernel, by decide +kernel⟩
  exact ⟨oexB_ok h1, excB_ok h2, noB_ok h3, ⟨_, fd, (initB_ok h4).1, (initB_ok h4).2, F, init_one F sc (.inl rfl) (.inl rfl) rfl rfl rfl rfl (fun _ => rfl)⟩, rfl⟩
theorem err_32 (e : ex K = true) {fd : FuncData} (F : FunD K dI_32.name dI_32.qual dI_32.params dI_32.body dI_32.scope [] [] (He.ma K (caK K 32) "__init__") fd) : ErrI (gl w K mg base) 32 dI_32 ["self", "fault"] := by
  have c1 := List.all_eq_true.mp (Bool.and_eq_true_iff.mp (Bool.and_eq_true_iff.mp e).1).1 32 (by decide +kernel)
  obtain ⟨h1, h2⟩ := Bool.and_eq_true_iff.mp c1
  obtain ⟨h2, h3⟩ := Bool.and_eq_true_iff.mp h2
  obtain ⟨h3, h4⟩ := Bool.and_eq_true_iff.mp h3
  have sc : FnScope ["self", "fault"] ["self", "fault"] dI_32.scope := ⟨rfl, rfl, rfl, by decide +kernel, rfl, by decide +kernel, by decide +kernel⟩
  exact ⟨oexB_ok h1, excB_ok h2, noB_ok h3, ⟨_, fd, (initB_ok h4).1, (initB_ok h4).2, F, init_one F sc (.inl rfl) (.inl rfl) rfl rfl rfl rfl (fun _ => rfl)⟩, rfl⟩
theorem err_33 (e : ex K = true) {fd : FuncData} (F : FunD K dI_33.name dI_33.qual dI_33.params dI_33.body dI_33.scope [] [] (He.ma K (caK K 33) "__init__") fd) : ErrI (gl w K mg base) 33 dI_33 ["self", "thing"] := by
  have c1 := List.all_eq_true.mp (Bool.and_eq_true_iff.mp (Bool.and_eq_true_iff.mp e).1).1 33 (by decide +kernel)
  obtain ⟨h1, h2⟩ := Bool.and_eq_true_iff.mp c1
  obtain ⟨h2, h3⟩ := Bool.and_eq_true_iff.mp h2
  obtain ⟨h3, h4⟩ := Bool.and_eq_true_iff.mp h3
  have sc : FnScope ["self", "thing"] ["self", "thing"] dI_33.scope := ⟨rfl, rfl, rfl, by decide +kernel, rfl, by decide +kernel, by decide +kernel⟩
  exact ⟨oexB_ok h1, excB_ok h2, noB_ok h3, ⟨_, fd, (initB_ok h4).1, (initB_ok h4).2, F, init_one F sc (.inl rfl) (.inl rfl) rfl rfl rfl rfl (fun _ => rfl)⟩, rfl⟩
theorem err_34 (e : ex K = true) {fd : FuncData} (F : FunD K dI_34.name dI_34.qual dI_34.params dI_34.body dI_34.scope [] [] (He.ma K (caK K 34) "__init__") fd) : ErrI (gl w K mg base) 34 dI_34 ["self", "line", "sign"] := by
  have c1 := List.all_eq_true.mp (Bool.and_eq_true_iff.mp (Bool.and_eq_true_iff.mp e).1).1 34 (by decide +kernel)
  obtain ⟨h1, h2⟩ := Bool.and_eq_true_iff.mp c1
  obtain ⟨h2, h3⟩ := Bool.and_eq_true_iff.mp h2
  obtain ⟨h3, h4⟩ := Bool.and_eq_true_iff.mp h3
  have sc : FnScope ["self", "line", "sign"] ["self", "line", "sign"] dI_34.scope := ⟨rfl, rfl, rfl, by decide +kernel, rfl, by decide +kernel, by decide +kernel⟩
  exact ⟨oexB_ok h1, excB_ok h2, noB_ok h3, ⟨_, fd, (initB_ok h4).1, (initB_ok h4).2, F, init_two F sc (.inl rfl) (.inl rfl) (.inl rfl) rfl rfl rfl rfl rfl rfl (fun _ => rfl) (fun _ => rfl) (by decide)⟩, rfl⟩
theorem err_35 (e : ex K = true) {fd : FuncData} (F : FunD K dI_35.name dI_35.qual dI_35.params dI_35.body dI_35.scope [] [] (He.ma K (caK K 35) "__init__") fd) : ErrI (gl w K mg base) 35 dI_35 ["self", "thing"] := by
  have c1 := List.all_eq_true.mp (Bool.and_eq_true_iff.mp (Bool.and_eq_true_iff.mp e).1).1 35 (by decide +kernel)
  obtain ⟨h1, h2⟩ := Bool.and_eq_true_iff.mp c1
  obtain ⟨h2, h3⟩ := Bool.and_eq_true_iff.mp h2
  obtain ⟨h3, h4⟩ := Bool.and_eq_true_iff.mp h3
  have sc : FnScope ["self", "thing"] ["self", "thing"] dI_35.scope := ⟨rfl, rfl, rfl, by decide +kernel, rfl, by decide +kernel, by decide +kernel⟩
  exact ⟨oexB_ok h1, excB_ok h2, noB_ok h3, ⟨_, fd, (initB_ok h4).1, (initB_ok h4).2, F, init_one F sc (.inl rfl) (.inl rfl) rfl rfl rfl rfl (fun _ => rfl)⟩, rfl⟩
theorem err_36 (e : ex K = true) {fd : FuncData} (F : FunD K dI_36.name dI_36.qual dI_36.params dI_36.body dI_36.scope [] [] (He.ma K (caK K 36) "__init__") fd) : ErrI (gl w K mg base) 36 dI_36 ["self", "thing"] := by
  have c1 := List.all_eq_true.mp (Bool.and_eq_true_iff.mp (Bool.and_eq_true_iff.mp e).1).1 36 (by decide +kernel)
  obtain ⟨h1, h2⟩ := Bool.and_eq_true_iff.mp c1
  obtain ⟨h2, h3⟩ := Bool.and_eq_true_iff.mp h2
  obtain ⟨h3, h4⟩ := Bool.and_eq_true_iff.mp h3
  have sc : FnScope ["self", "thing"] ["self", "thing"] dI_36.scope := ⟨rfl, rfl, rfl, by decide +kernel, rfl, by decide +kernel, by decide +kernel⟩
  exact ⟨oexB_ok h1, excB_ok h2, noB_ok h3, ⟨_, fd, (initB_ok h4).1, (initB_ok h4).2, F, init_one F sc (.inl rfl) (.inl rfl) rfl rfl rfl rfl (fun _ => rfl)⟩, rfl⟩
theorem err_37 (e : ex K = true) {fd : FuncData} (F : FunD K dI_37.name dI_37.qual dI_37.params dI_37.body dI_37.scope [] [] (He.ma K (caK K 37) "__init__") fd) : ErrI (gl w K mg base) 37 dI_37 ["self", "fault"] := by
  have c1 := List.all_eq_true.mp (Bool.and_eq_true_iff.mp (Bool.and_eq_true_iff.mp e).1).1 37 (by decide +kernel)
  obtain ⟨h1, h2⟩ := Bool.and_eq_true_iff.mp c1
  obtain ⟨h2, h3⟩ := Bool.and_eq_true_iff.mp h2
  obtain ⟨h3, h4⟩ := Bool.and_eq_true_iff.mp h3
  have sc : FnScope ["self", "fault"] ["self", "fault"] dI_37.scope := ⟨rfl, rfl, rfl, by decide +kernel, rfl, by decide +kernel, by decide +kernel⟩
  exact ⟨oexB_ok h1, excB_ok h2, noB_ok h3, ⟨_, fd, (initB_ok h4).1, (initB_ok h4).2, F, init_one F sc (.inl rfl) (.inl rfl) rfl rfl rfl rfl (fun _ => rfl)⟩, rfl⟩
theorem err_38 (e : ex K = true) {fd : FuncData} (F : FunD K dI_38.name dI_38.qual dI_38.params dI_38.body dI_38.scope [] [] (He.ma K (caK K 38) "__init__") fd) : ErrI (gl w K mg base) 38 dI_38 ["self", "thing"] := by
  have c1 := List.all_eq_true.mp (Bool.and_eq_true_iff.mp (Bool.and_eq_true_iff.mp e).1).1 38 (by decide +kernel)
  obtain ⟨h1, h2⟩ := Bool.and_eq_true_iff.mp c1
  obtain ⟨h2, h3⟩ := Bool.and_eq_true_iff.mp h2
  obtain ⟨h3, h4⟩ := Bool.and_eq_true_iff.mp h3
  have sc : FnScope ["self", "thing"] ["self", "thing"] dI_38.scope := ⟨rfl, rfl, rfl, by decide +kernel, rfl, by decide +kernel, by decide +kernel⟩
  exact ⟨oexB_ok h1, excB_ok h2, noB_ok h3, ⟨_, fd, (initB_ok h4).1, (initB_ok h4).2, F, init_one F sc (.inl rfl) (.inl rfl) rfl rfl rfl rfl (fun _ => rfl)⟩, rfl⟩
theorem err_39 (e : ex K = true) {fd : FuncData} (F : FunD K dI_39.name dI_39.qual dI_39.params dI_39.body dI_39.scope [] [] (He.ma K (caK K 39) "__init__") fd) : ErrI (gl w K mg base) 39 dI_39 ["self", "index"] := by
  have c1 := List.all_eq_true.mp (Bool.and_eq_true_iff.mp (Bool.and_eq_true_iff.mp e).1).1 39 (by decide +kernel)
  obtain ⟨h1, h2⟩ := Bool.and_eq_true_iff.mp c1
  obtain ⟨h2, h3⟩ := Bool.and_eq_true_iff.mp h2
  obtain ⟨h3, h4⟩ := Bool.and_eq_true_iff.mp h3
  have sc : FnScope ["self", "index"] ["self", "index"] dI_39.scope := ⟨rfl, rfl, rfl, by decide +kernel, rfl, by decide +kernel, by decide +kernel⟩
  exact ⟨oexB_ok h1, excB_ok h2, noB_ok h3, ⟨_, fd, (initB_ok h4).1, (initB_ok h4).2, F, init_one F sc (.inl rfl) (.inl rfl) rfl rfl rfl rfl (fun _ => rfl)⟩, rfl⟩
theorem err_42 (e : ex K = true) {fd : FuncData} (F : FunD K dI_42.name dI_42.qual dI_42.params dI_42.body dI_42.scope [] [] (He.ma K (caK K 42) "__init__") fd) : ErrI (gl w K mg base) 42 dI_42 ["self", "question"] := by
  have c1 := List.all_eq_true.mp (Bool.and_eq_true_iff.mp (Bool.and_eq_true_iff.mp e).1).1 42 (by decide +kernel)
  obtain ⟨h1, h2⟩ := Bool.and_eq_true_iff.mp c1
  obtain ⟨h2, h3⟩ := Bool.and_eq_true_iff.mp h2
  obtain ⟨h3, h4⟩ := Bool.and_eq_true_iff.mp h3
  have sc : FnScope ["self", "question"] ["self", "question"] dI_42.scope := ⟨rfl, rfl, rfl, by decide +kernel, rfl, by decide +kernel, by decide +kernel⟩
  exact ⟨oexB_ok h1, excB_ok h2, noB_ok h3, ⟨_, fd, (initB_ok h4).1, (initB_ok h4).2, F, init_one F sc (.inl rfl) (.inl rfl) rfl rfl rfl rfl (fun _ => rfl)⟩, rfl⟩
theorem err_44 (e : ex K = true) {fd : FuncData} (F : FunD K dI_44.name dI_44.qual dI_44.params dI_44.body dI_44.scope [] [] (He.ma K (caK K 44) "__init__") fd) : ErrI (gl w K mg base) 44 dI_44 ["self", "question"] := by
  have c1 := List.all_eq_true.mp (Bool.and_eq_true_iff.mp (Bool.and_eq_true_iff.mp e).1).1 44 (by decide +kernel)
  obtain ⟨h1, h2⟩ := Bool.and_eq_true_iff.mp c1
  obtain ⟨h2, h3⟩ := Bool.and_eq_true_iff.mp h2
  obtain ⟨h3, h4⟩ := Bool.and_eq_true_iff.mp h3
  have sc : FnScope ["self", "question"] ["self", "question"] dI_44.scope := ⟨rfl, rfl, rfl, by decide +kernel, rfl, by decide +kernel, by decide +kernel⟩
  exact ⟨oexB_ok h1, excB_ok h2, noB_ok h3, ⟨_, fd, (initB_ok h4).1, (initB_ok h4).2, F, init_one F sc (.inl rfl) (.inl rfl) rfl rfl rfl rfl (fun _ => rfl)⟩, rfl⟩
theorem err_45 (e : ex K = true) {fd : FuncData} (F : FunD K dI_45.name dI_45.qual dI_45.params dI_45.body dI_45.scope [] [] (He.ma K (caK K 45) "__init__") fd) : ErrI (gl w K mg base) 45 dI_45 ["self", "thing"] := by
  have c1 := List.all_eq_true.mp (Bool.and_eq_true_iff.mp (Bool.and_eq_true_iff.mp e).1).1 45 (by decide +kernel)
  obtain ⟨h1, h2⟩ := Bool.and_eq_true_iff.mp c1
  obtain ⟨h2, h3⟩ := Bool.and_eq_true_iff.mp h2
  obtain ⟨h3, h4⟩ := Bool.and_eq_true_iff.mp h3
  have sc : FnScope ["self", "thing"] ["self", "thing"] dI_45.scope := ⟨rfl, rfl, rfl, by decide +kernel, rfl, by decide +kernel, by decide +kernel⟩
  exact ⟨oexB_ok h1, excB_ok h2, noB_ok h3, ⟨_, fd, (initB_ok h4).1, (initB_ok h4).2, F, init_one F sc (.inl rfl) (.inl rfl) rfl rfl rfl rfl (fun _ => rfl)⟩, rfl⟩
theorem err_51 (e : ex K = true) {fd : FuncData} (F : FunD K dI_51.name dI_51.qual dI_51.params dI_51.body dI_51.scope [] [] (He.ma K (caK K 51) "__init__") fd) : ErrI (gl w K mg base) 51 dI_51 ["self", "why"] := by
  have c1 := List.all_eq_true.mp (Bool.and_eq_true_iff.mp (Bool.and_eq_true_iff.mp e).1).1 51 (by decide +kernel)
  obtain ⟨h1, h2⟩ := Bool.and_eq_true_iff.mp c1
  obtain ⟨h2, h3⟩ := Bool.and_eq_true_iff.mp h2
  obtain ⟨h3, h4⟩ := Bool.and_eq_true_iff.mp h3
  have sc : FnScope ["self", "why"] ["self", "why"] dI_51.scope := ⟨rfl, rfl, rfl, by decide +kernel, rfl, by decide +kernel, by decide +kernel⟩
  exact ⟨oexB_ok h1, excB_ok h2, noB_ok h3, ⟨_, fd, (initB_ok h4).1, (initB_ok h4).2, F, init_one F sc (.inl rfl) (.inl rfl) rfl rfl rfl rfl (fun _ => rfl)⟩, rfl⟩
theorem err_53 (e : ex K = true) {fd : FuncData} (F : FunD K dI_53.name dI_53.qual dI_53.params dI_53.body dI_53.scope [] [] (He.ma K (caK K 53) "__init__") fd) : ErrI (gl w K mg base) 53 dI_53 ["self", "question"] := by
  have c1 := List.all_eq_true.mp (Bool.and_eq_true_iff.mp (Bool.and_eq_true_iff.mp e).1).1 53 (by decide +kernel)
  obtain ⟨h1, h2⟩ := Bool.and_eq_true_iff.mp c1
  obtain ⟨h2, h3⟩ := Bool.and_eq_true_iff.mp h2
  obtain ⟨h3, h4⟩ := Bool.and_eq_true_iff.mp h3
  have sc : FnScope ["self", "question"] ["self", "question"] dI_53.scope := ⟨rfl, rfl, rfl, by decide +kernel, rfl, by decide +kernel, by decide +kernel⟩
  exact ⟨oexB_ok h1, excB_ok h2, noB_ok h3, ⟨_, fd, (initB_ok h4).1, (initB_ok h4).2, F, init_one F sc (.inl rfl) (.inl rfl) rfl rfl rfl rfl (fun _ => rfl)⟩, rfl⟩
theorem err_58 (e : ex K = true) {fd : FuncData} (F : FunD K dI_58.name dI_58.qual dI_58.params dI_58.body dI_58.scope [] [] (He.ma K (caK K 58) "__init__") fd) : ErrI (gl w K mg base) 58 dI_58 ["self", "question", "why"] := by
  have c1 := List.all_eq_true.mp (Bool.and_eq_true_iff.mp (Bool.and_eq_true_iff.mp e).1).1 58 (by decide +kernel)
  obtain ⟨h1, h2⟩ := Bool.and_eq_true_iff.mp c1
  obtain ⟨h2, h3⟩ := Bool.and_eq_true_iff.mp h2
  obtain ⟨h3, h4⟩ := Bool.and_eq_true_iff.mp h3
  have sc : FnScope ["self", "question", "why"] ["self", "question", "why"] dI_58.scope := ⟨rfl, rfl, rfl, by decide +kernel, rfl, by decide +kernel, by decide +kernel⟩
  exact ⟨oexB_ok h1, excB_ok h2, noB_ok h3, ⟨_, fd, (initB_ok h4).1, (initB_ok h4).2, F, init_two F sc (.inl rfl) (.inl rfl) (.inl rfl) rfl rfl rfl rfl rfl rfl (fun _ => rfl) (fun _ => rfl) (by decide)⟩, rfl⟩
theorem fld_of {f : Str} {T : List (Nat × Nat)} (e : ex K = true) (hT : (T.all fun p => decide (p.1 ∈ initCs) && decide ((clsFlds.getD p.1 [])[p.2]? = some f)) = true) {cc i : Nat} (hl : T.lookup cc = some i) : ((gl w K mg base).cf cc)[i]? = some f ∧ ExcC (gl w K mg base).K ((gl w K mg base).ca cc) ∧ PySem.W.findIn (gl w K mg base).K (.ref ((gl w K mg base).ca cc)) f = some none := by
  have hm : (cc, i) ∈ T := lkp_mem hl
  obtain ⟨h1, h2⟩ := Bool.and_eq_true_iff.mp (List.all_eq_true.mp hT _ hm)
  have k1 := of_decide_eq_true h1
  have k2 := of_decide_eq_true h2
  have c1 := List.all_eq_true.mp (Bool.and_eq_true_iff.mp (Bool.and_eq_true_iff.mp e).1).1 cc k1
  obtain ⟨_, h2⟩ := Bool.and_eq_true_iff.mp c1
  obtain ⟨h2, h3⟩ := Bool.and_eq_true_iff.mp h2
  obtain ⟨h3, _⟩ := Bool.and_eq_true_iff.mp h3
  exact ⟨k2, excB_ok h2, noB_ok h3 f (List.mem_of_getElem? k2)⟩
theorem facts (X : K.In h) (M : h.Ns mainGlobals mg) (c : He.SaysX fas fns [] tf ex w h K) : Fc (gl w K mg base) where
  b_ArithmeticError := He.free_ok X M (c.t.d.fact 75 (f := .free "ArithmeticError") rfl)
  b_LookupError := He.free_ok X M (c.t.d.fact 76 (f := .free "LookupError") rfl)
  b_TypeError := He.free_ok X M (c.t.d.fact 77 (f := .free "TypeError") rfl)
  b_ValueError := He.free_ok X M (c.t.d.fact 78 (f := .free "ValueError") rfl)
  b_all := He.free_ok X M (c.t.d.fact 79 (f := .free "all") rfl)
  b_bool := He.free_ok X M (c.t.d.fact 80 (f := .free "bool") rfl)
  b_dict := He.free_ok X M (c.t.d.fact 81 (f := .free "dict") rfl)
  b_enumerate := He.free_ok X M (c.t.d.fact 82 (f := .free "enumerate") rfl)
  b_int := He.free_ok X M (c.t.d.fact 83 (f := .free "int") rfl)
  b_isinstance := He.free_ok X M (c.t.d.fact 84 (f := .free "isinstance") rfl)
  b_len := He.free_ok X M (c.t.d.fact 85 (f := .free "len") rfl)
  b_list := He.free_ok X M (c.t.d.fact 86 (f := .free "list") rfl)
  b_range := He.free_ok X M (c.t.d.fact 87 (f := .free "range") rfl)
  b_str := He.free_ok X M (c.t.d.fact 88 (f := .free "str") rfl)
  b_tuple := He.free_ok X M (c.t.d.fact 89 (f := .free "tuple") rfl)
  b_zip := He.free_ok X M (c.t.d.fact 90 (f := .free "zip") rfl)
  c_BadBeginning := He.glo_ok X M (c.t.d.fact 17 (f := .glo "BadBeginning") rfl)
  c_BadChart := He.glo_ok X M (c.t.d.fact 18 (f := .glo "BadChart") rfl)
  c_BadChartbook := He.glo_ok X M (c.t.d.fact 19 (f := .glo "BadChartbook") rfl)
  c_BadCharts := He.glo_ok X M (c.t.d.fact 20 (f := .glo "BadCharts") rfl)
  c_BadClasses := He.glo_ok X M (c.t.d.fact 21 (f := .glo "BadClasses") rfl)
  c_BadDeed := He.glo_ok X M (c.t.d.fact 22 (f := .glo "BadDeed") rfl)
  c_BadDelays := He.glo_ok X M (c.t.d.fact 23 (f := .glo "BadDelays") rfl)
  c_BadForm := He.glo_ok X M (c.t.d.fact 24 (f := .glo "BadForm") rfl)
  c_BadGood := He.glo_ok X M (c.t.d.fact 25 (f := .glo "BadGood") rfl)
  c_BadIndex := He.glo_ok X M (c.t.d.fact 26 (f := .glo "BadIndex") rfl)
  c_BadLeader := He.glo_ok X M (c.t.d.fact 27 (f := .glo "BadLeader") rfl)
  c_BadLot := He.glo_ok X M (c.t.d.fact 28 (f := .glo "BadLot") rfl)
  c_BadNames := He.glo_ok X M (c.t.d.fact 29 (f := .glo "BadNames") rfl)
  c_BadNaming := He.glo_ok X M (c.t.d.fact 30 (f := .glo "BadNaming") rfl)
  c_BadNode := He.glo_ok X M (c.t.d.fact 31 (f := .glo "BadNode") rfl)
  c_BadNumber := He.glo_ok X M (c.t.d.fact 32 (f := .glo "BadNumber") rfl)
  c_BadOne := He.glo_ok X M (c.t.d.fact 33 (f := .glo "BadOne") rfl)
  c_BadOther := He.glo_ok X M (c.t.d.fact 34 (f := .glo "BadOther") rfl)
  c_BadOtherChart := He.glo_ok X M (c.t.d.fact 35 (f := .glo "BadOtherChart") rfl)
  c_BadOtherLot := He.glo_ok X M (c.t.d.fact 36 (f := .glo "BadOtherLot") rfl)
  c_BadOtherPlace := He.glo_ok X M (c.t.d.fact 37 (f := .glo "BadOtherPlace") rfl)
  c_BadPaper := He.glo_ok X M (c.t.d.fact 38 (f := .glo "BadPaper") rfl)
  c_BadPath := He.glo_ok X M (c.t.d.fact 39 (f := .glo "BadPath") rfl)
  c_BadPeople := He.glo_ok X M (c.t.d.fact 40 (f := .glo "BadPeople") rfl)
  c_BadPerson := He.glo_ok X M (c.t.d.fact 41 (f := .glo "BadPerson") rfl)
  c_BadPicks := He.glo_ok X M (c.t.d.fact 42 (f := .glo "BadPicks") rfl)
  c_BadPlace := He.glo_ok X M (c.t.d.fact 43 (f := .glo "BadPlace") rfl)
  c_BadPlan := He.glo_ok X M (c.t.d.fact 44 (f := .glo "BadPlan") rfl)
  c_BadQuestion := He.glo_ok X M (c.t.d.fact 45 (f := .glo "BadQuestion") rfl)
  c_BadRowsBegun := He.glo_ok X M (c.t.d.fact 46 (f := .glo "BadRowsBegun") rfl)
  c_BadRun := He.glo_ok X M (c.t.d.fact 47 (f := .glo "BadRun") rfl)
  c_BadSchedule := He.glo_ok X M (c.t.d.fact 48 (f := .glo "BadSchedule") rfl)
  c_BadSeen := He.glo_ok X M (c.t.d.fact 49 (f := .glo "BadSeen") rfl)
  c_BadText := He.glo_ok X M (c.t.d.fact 50 (f := .glo "BadText") rfl)
  c_BadTimes := He.glo_ok X M (c.t.d.fact 51 (f := .glo "BadTimes") rfl)
  c_BadTold := He.glo_ok X M (c.t.d.fact 52 (f := .glo "BadTold") rfl)
  c_BadWeb := He.glo_ok X M (c.t.d.fact 53 (f := .glo "BadWeb") rfl)
  c_BadWord := He.glo_ok X M (c.t.d.fact 54 (f := .glo "BadWord") rfl)
  c_BadWords := He.glo_ok X M (c.t.d.fact 55 (f := .glo "BadWords") rfl)
  c_ChartError := He.glo_ok X M (c.t.d.fact 16 (f := .glo "ChartError") rfl)
  c_FitsNot := He.glo_ok X M (c.t.d.fact 56 (f := .glo "FitsNot") rfl)
  c_Holds := He.glo_ok X M (c.t.d.fact 57 (f := .glo "Holds") rfl)
  c_InUse := He.glo_ok X M (c.t.d.fact 58 (f := .glo "InUse") rfl)
  c_IsBounded := He.glo_ok X M (c.t.d.fact 59 (f := .glo "IsBounded") rfl)
  c_IsWatched := He.glo_ok X M (c.t.d.fact 60 (f := .glo "IsWatched") rfl)
  c_NoCount := He.glo_ok X M (c.t.d.fact 61 (f := .glo "NoCount") rfl)
  c_NoEvents := He.glo_ok X M (c.t.d.fact 62 (f := .glo "NoEvents") rfl)
  c_NoPlan := He.glo_ok X M (c.t.d.fact 63 (f := .glo "NoPlan") rfl)
  c_NoRounds := He.glo_ok X M (c.t.d.fact 64 (f := .glo "NoRounds") rfl)
  c_NobodyLeft := He.glo_ok X M (c.t.d.fact 65 (f := .glo "NobodyLeft") rfl)
  c_NotLocal := He.glo_ok X M (c.t.d.fact 66 (f := .glo "NotLocal") rfl)
  c_NotNow := He.glo_ok X M (c.t.d.fact 67 (f := .glo "NotNow") rfl)
  c_NotQuiet := He.glo_ok X M (c.t.d.fact 68 (f := .glo "NotQuiet") rfl)
  c_NotWatched := He.glo_ok X M (c.t.d.fact 69 (f := .glo "NotWatched") rfl)
  c_NotWhole := He.glo_ok X M (c.t.d.fact 70 (f := .glo "NotWhole") rfl)
  c_NothingCommon := He.glo_ok X M (c.t.d.fact 71 (f := .glo "NothingCommon") rfl)
  c_NothingFits := He.glo_ok X M (c.t.d.fact 72 (f := .glo "NothingFits") rfl)
  c_UnlikePeople := He.glo_ok X M (c.t.d.fact 73 (f := .glo "UnlikePeople") rfl)
  c_WouldChange := He.glo_ok X M (c.t.d.fact 74 (f := .glo "WouldChange") rfl)
  e_BadBeginning := (c.t.d.def_ 16 (d := dI_1) rfl).elim fun _ F => err_1 c.more F
  e_BadChart := (c.t.d.def_ 17 (d := dI_2) rfl).elim fun _ F => err_2 c.more F
  e_BadChartbook := (c.t.d.def_ 18 (d := dI_3) rfl).elim fun _ F => err_3 c.more F
  e_BadCharts := (c.t.d.def_ 19 (d := dI_4) rfl).elim fun _ F => err_4 c.more F
  e_BadClasses := (c.t.d.def_ 20 (d := dI_5) rfl).elim fun _ F => err_5 c.more F
  e_BadDeed := (c.t.d.def_ 21 (d := dI_6) rfl).elim fun _ F => err_6 c.more F
  e_BadDelays := (c.t.d.def_ 22 (d := dI_7) rfl).elim fun _ F => err_7 c.more F
  e_BadForm := (c.t.d.def_ 23 (d := dI_8) rfl).elim fun _ F => err_8 c.more F
  e_BadGood := (c.t.d.def_ 24 (d := dI_9) rfl).elim fun _ F => err_9 c.more F
  e_BadIndex := (c.t.d.def_ 25 (d := dI_10) rfl).elim fun _ F => err_10 c.more F
  e_BadLeader := (c.t.d.def_ 26 (d := dI_11) rfl).elim fun _ F => err_11 c.more F
  e_BadLot := (c.t.d.def_ 27 (d := dI_12) rfl).elim fun _ F => err_12 c.more F
  e_BadNames := (c.t.d.def_ 28 (d := dI_13) rfl).elim fun _ F => err_13 c.more F
  e_BadNaming := (c.t.d.def_ 29 (d := dI_14) rfl).elim fun _ F => err_14 c.more F
  e_BadNode := (c.t.d.def_ 30 (d := dI_15) rfl).elim fun _ F => err_15 c.more F
  e_BadNumber := (c.t.d.def_ 31 (d := dI_16) rfl).elim fun _ F => err_16 c.more F
  e_BadOne := (c.t.d.def_ 32 (d := dI_17) rfl).elim fun _ F => err_17 c.more F
  e_BadOther := (c.t.d.def_ 33 (d := dI_18) rfl).elim fun _ F => err_18 c.more F
  e_BadOtherChart := (c.t.d.def_ 34 (d := dI_19) rfl).elim fun _ F => err_19 c.more F
  e_BadOtherLot := (c.t.d.def_ 35 (d := dI_20) rfl).elim fun _ F => err_20 c.more F
  e_BadOtherPlace := (c.t.d.def_ 36 (d := dI_21) rfl).elim fun _ F => err_21 c.more F
  e_BadPaper := (c.t.d.def_ 37 (d := dI_22) rfl).elim fun _ F => err_22 c.more F
  e_BadPath := (c.t.d.def_ 38 (d := dI_23) rfl).elim fun _ F => err_23 c.more F
  e_BadPeople := (c.t.d.def_ 39 (d := dI_24) rfl).elim fun _ F => err_24 c.more F
  e_BadPerson := (c.t.d.def_ 40 (d := dI_25) rfl).elim fun _ F => err_25 c.more F
  e_BadPicks := (c.t.d.def_ 41 (d := dI_26) rfl).elim fun _ F => err_26 c.more F
  e_BadPlace := (c.t.d.def_ 42 (d := dI_27) rfl).elim fun _ F => err_27 c.more F
  e_BadPlan := (c.t.d.def_ 43 (d := dI_28) rfl).elim fun _ F => err_28 c.more F
  e_BadQuestion := (c.t.d.def_ 44 (d := dI_29) rfl).elim fun _ F => err_29 c.more F
  e_BadRowsBegun := (c.t.d.def_ 45 (d := dI_30) rfl).elim fun _ F => err_30 c.more F
  e_BadRun := (c.t.d.def_ 46 (d := dI_31) rfl).elim fun _ F => err_31 c.more F
  e_BadSchedule := (c.t.d.def_ 47 (d := dI_32) rfl).elim fun _ F => err_32 c.more F
  e_BadSeen := (c.t.d.def_ 48 (d := dI_33) rfl).elim fun _ F => err_33 c.more F
  e_BadText := (c.t.d.def_ 49 (d := dI_34) rfl).elim fun _ F => err_34 c.more F
  e_BadTimes := (c.t.d.def_ 50 (d := dI_35) rfl).elim fun _ F => err_35 c.more F
  e_BadTold := (c.t.d.def_ 51 (d := dI_36) rfl).elim fun _ F => err_36 c.more F
  e_BadWeb := (c.t.d.def_ 52 (d := dI_37) rfl).elim fun _ F => err_37 c.more F
  e_BadWord := (c.t.d.def_ 53 (d := dI_38) rfl).elim fun _ F => err_38 c.more F
  e_BadWords := (c.t.d.def_ 54 (d := dI_39) rfl).elim fun _ F => err_39 c.more F
  e_InUse := (c.t.d.def_ 55 (d := dI_42) rfl).elim fun _ F => err_42 c.more F
  e_IsWatched := (c.t.d.def_ 56 (d := dI_44) rfl).elim fun _ F => err_44 c.more F
  e_NoCount := (c.t.d.def_ 57 (d := dI_45) rfl).elim fun _ F => err_45 c.more F
  e_NotNow := (c.t.d.def_ 58 (d := dI_51) rfl).elim fun _ F => err_51 c.more F
  e_NotWatched := (c.t.d.def_ 59 (d := dI_53) rfl).elim fun _ F => err_53 c.more F
  e_WouldChange := (c.t.d.def_ 60 (d := dI_58) rfl).elim fun _ F => err_58 c.more F
  n_ChartError := errNB_ok (List.all_eq_true.mp (Bool.and_eq_true_iff.mp (Bool.and_eq_true_iff.mp c.more).1).2 0 (by decide +kernel)) rfl
  n_FitsNot := errNB_ok (List.all_eq_true.mp (Bool.and_eq_true_iff.mp (Bool.and_eq_true_iff.mp c.more).1).2 40 (by decide +kernel)) rfl
  n_Holds := errNB_ok (List.all_eq_true.mp (Bool.and_eq_true_iff.mp (Bool.and_eq_true_iff.mp c.more).1).2 41 (by decide +kernel)) rfl
  n_IsBounded := errNB_ok (List.all_eq_true.mp (Bool.and_eq_true_iff.mp (Bool.and_eq_true_iff.mp c.more).1).2 43 (by decide +kernel)) rfl
  n_NoEvents := errNB_ok (List.all_eq_true.mp (Bool.and_eq_true_iff.mp (Bool.and_eq_true_iff.mp c.more).1).2 46 (by decide +kernel)) rfl
  n_NoPlan := errNB_ok (List.all_eq_true.mp (Bool.and_eq_true_iff.mp (Bool.and_eq_true_iff.mp c.more).1).2 47 (by decide +kernel)) rfl
  n_NoRounds := errNB_ok (List.all_eq_true.mp (Bool.and_eq_true_iff.mp (Bool.and_eq_true_iff.mp c.more).1).2 48 (by decide +kernel)) rfl
  n_NobodyLeft := errNB_ok (List.all_eq_true.mp (Bool.and_eq_true_iff.mp (Bool.and_eq_true_iff.mp c.more).1).2 49 (by decide +kernel)) rfl
  n_NotLocal := errNB_ok (List.all_eq_true.mp (Bool.and_eq_true_iff.mp (Bool.and_eq_true_iff.mp c.more).1).2 50 (by decide +kernel)) rfl
  n_NotQuiet := errNB_ok (List.all_eq_true.mp (Bool.and_eq_true_iff.mp (Bool.and_eq_true_iff.mp c.more).1).2 52 (by decide +kernel)) rfl
  n_NotWhole := errNB_ok (List.all_eq_true.mp (Bool.and_eq_true_iff.mp (Bool.and_eq_true_iff.mp c.more).1).2 54 (by decide +kernel)) rfl
  n_NothingCommon := errNB_ok (List.all_eq_true.mp (Bool.and_eq_true_iff.mp (Bool.and_eq_true_iff.mp c.more).1).2 55 (by decide +kernel)) rfl
  n_NothingFits := errNB_ok (List.all_eq_true.mp (Bool.and_eq_true_iff.mp (Bool.and_eq_true_iff.mp c.more).1).2 56 (by decide +kernel)) rfl
  n_UnlikePeople := errNB_ok (List.all_eq_true.mp (Bool.and_eq_true_iff.mp (Bool.and_eq_true_iff.mp c.more).1).2 57 (by decide +kernel)) rfl
  i_ArithmeticError := isi_ok (G := gl w K mg base) (anc := anc) (m := nCls) (u := .bt "ArithmeticError") (mroB_ok (Bool.and_eq_true_iff.mp (Bool.and_eq_true_iff.mp c.more).2).1) (by decide +kernel) (fun c hc => if_neg (Nat.not_lt.mpr hc)) (excs c.more)
  i_BadBeginning := isi_ok (G := gl w K mg base) (anc := anc) (m := nCls) (u := .own 1) (mroB_ok (Bool.and_eq_true_iff.mp (Bool.and_eq_true_iff.mp c.more).2).1) (by decide +kernel) (fun c hc => if_neg (Nat.not_lt.mpr hc)) (excs c.more)
  i_BadChart := isi_ok (G := gl w K mg base) (anc := anc) (m := nCls) (u := .own 2) (mroB_ok (Bool.and_eq_true_iff.mp (Bool.and_eq_true_iff.mp c.more).2).1) (by decide +kernel) (fun c hc => if_neg (Nat.not_lt.mpr hc)) (excs c.more)
  i_BadChartbook := isi_ok (G := gl w K mg base) (anc := anc) (m := nCls) (u := .own 3) (mroB_ok (Bool.and_eq_true_iff.mp (Bool.and_eq_true_iff.mp c.more).2).1) (by decide +kernel) (fun c hc => if_neg (Nat.not_lt.mpr hc)) (excs c.more)
  i_BadCharts := isi_ok (G := gl w K mg base) (anc := anc) (m := nCls) (u := .own 4) (mroB_ok (Bool.and_eq_true_iff.mp (Bool.and_eq_true_iff.mp c.more).2).1) (by decide +kernel) (fun c hc => if_neg (Nat.not_lt.mpr hc)) (excs c.more)
  i_BadClasses := isi_ok (G := gl w K mg base) (anc := anc) (m := nCls) (u := .own 5) (mroB_ok (Bool.and_eq_true_iff.mp (Bool.and_eq_true_iff.mp c.more).2).1) (by decide +kernel) (fun c hc => if_neg (Nat.not_lt.mpr hc)) (excs c.more)
  i_BadDeed := isi_ok (G := gl w K mg base) (anc := anc) (m := nCls) (u := .own 6) (mroB_ok (Bool.and_eq_true_iff.mp (Bool.and_eq_true_iff.mp c.more).2).1) (by decide +kernel) (fun c hc => if_neg (Nat.not_lt.mpr hc)) (excs c.more)
  i_BadDelays := isi_ok (G := gl w K mg base) (anc := anc) (m := nCls) (u := .own 7) (mroB_ok (Bool.and_eq_true_iff.mp (Bool.and_eq_true_iff.mp c.more).2).1) (by decide +kernel) (fun c hc => if_neg (Nat.not_lt.mpr hc)) (excs c.more)
  i_BadForm := isi_ok (G := gl w K mg base) (anc := anc) (m := nCls) (u := .own 8) (mroB_ok (Bool.and_eq_true_iff.mp (Bool.and_eq_true_iff.mp c.more).2).1) (by decide +kernel) (fun c hc => if_neg (Nat.not_lt.mpr hc)) (excs c.more)
  i_BadGood := isi_ok (G := gl w K mg base) (anc := anc) (m := nCls) (u := .own 9) (mroB_ok (Bool.and_eq_true_iff.mp (Bool.and_eq_true_iff.mp c.more).2).1) (by decide +kernel) (fun c hc => if_neg (Nat.not_lt.mpr hc)) (excs c.more)
  i_BadIndex := isi_ok (G := gl w K mg base) (anc := anc) (m := nCls) (u := .own 10) (mroB_ok (Bool.and_eq_true_iff.mp (Bool.and_eq_true_iff.mp c.more).2).1) (by decide +kernel) (fun c hc => if_neg (Nat.not_lt.mpr hc)) (excs c.more)
  i_BadLeader := isi_ok (G := gl w K mg base) (anc := anc) (m := nCls) (u := .own 11) (mroB_ok (Bool.and_eq_true_iff.mp (Bool.and_eq_true_iff.mp c.more).2).1) (by decide +kernel) (fun c hc => if_neg (Nat.not_lt.mpr hc)) (excs c.more)
  i_BadLot := isi_ok (G := gl w K mg base) (anc := anc) (m := nCls) (u := .own 12) (mroB_ok (Bool.and_eq_true_iff.mp (Bool.and_eq_true_iff.mp c.more).2).1) (by decide +kernel) (fun c hc => if_neg (Nat.not_lt.mpr hc)) (excs c.more)
  i_BadNames := isi_ok (G := gl w K mg base) (anc := anc) (m := nCls) (u := .own 13) (mroB_ok (Bool.and_eq_true_iff.mp (Bool.and_eq_true_iff.mp c.more).2).1) (by decide +kernel) (fun c hc => if_neg (Nat.not_lt.mpr hc)) (excs c.more)
  i_BadNaming := isi_ok (G := gl w K mg base) (anc := anc) (m := nCls) (u := .own 14) (mroB_ok (Bool.and_eq_true_iff.mp (Bool.and_eq_true_iff.mp c.more).2).1) (by decide +kernel) (fun c hc => if_neg (Nat.not_lt.mpr hc)) (excs c.more)
  i_BadNode := isi_ok (G := gl w K mg base) (anc := anc) (m := nCls) (u := .own 15) (mroB_ok (Bool.and_eq_true_iff.mp (Bool.and_eq_true_iff.mp c.more).2).1) (by decide +kernel) (fun c hc => if_neg (Nat.not_lt.mpr hc)) (excs c.more)
  i_BadNumber := isi_ok (G := gl w K mg base) (anc := anc) (m := nCls) (u := .own 16) (mroB_ok (Bool.and_eq_true_iff.mp (Bool.and_eq_true_iff.mp c.more).2).1) (by decide +kernel) (fun c hc => if_neg (Nat.not_lt.mpr hc)) (excs c.more)
  i_BadOne := isi_ok (G := gl w K mg base) (anc := anc) (m := nCls) (u := .own 17) (mroB_ok (Bool.and_eq_true_iff.mp (Bool.and_eq_true_iff.mp c.more).2).1) (by decide +kernel) (fun c hc => if_neg (Nat.not_lt.mpr hc)) (excs c.more)
  i_BadOther := isi_ok (G := gl w K mg base) (anc := anc) (m := nCls) (u := .own 18) (mroB_ok (Bool.and_eq_true_iff.mp (Bool.and_eq_true_iff.mp c.more).2).1) (by decide +kernel) (fun c hc => if_neg (Nat.not_lt.mpr hc)) (excs c.more)
  i_BadOtherChart := isi_ok (G := gl w K mg base) (anc := anc) (m := nCls) (u := .own 19) (mroB_ok (Bool.and_eq_true_iff.mp (Bool.and_eq_true_iff.mp c.more).2).1) (by decide +kernel) (fun c hc => if_neg (Nat.not_lt.mpr hc)) (excs c.more)
  i_BadOtherLot := isi_ok (G := gl w K mg base) (anc := anc) (m := nCls) (u := .own 20) (mroB_ok (Bool.and_eq_true_iff.mp (Bool.and_eq_true_iff.mp c.more).2).1) (by decide +kernel) (fun c hc => if_neg (Nat.not_lt.mpr hc)) (excs c.more)
  i_BadOtherPlace := isi_ok (G := gl w K mg base) (anc := anc) (m := nCls) (u := .own 21) (mroB_ok (Bool.and_eq_true_iff.mp (Bool.and_eq_true_iff.mp c.more).2).1) (by decide +kernel) (fun c hc => if_neg (Nat.not_lt.mpr hc)) (excs c.more)
  i_BadPaper := isi_ok (G := gl w K mg base) (anc := anc) (m := nCls) (u := .own 22) (mroB_ok (Bool.and_eq_true_iff.mp (Bool.and_eq_true_iff.mp c.more).2).1) (by decide +kernel) (fun c hc => if_neg (Nat.not_lt.mpr hc)) (excs c.more)
  i_BadPath := isi_ok (G := gl w K mg base) (anc := anc) (m := nCls) (u := .own 23) (mroB_ok (Bool.and_eq_true_iff.mp (Bool.and_eq_true_iff.mp c.more).2).1) (by decide +kernel) (fun c hc => if_neg (Nat.not_lt.mpr hc)) (excs c.more)
  i_BadPeople := isi_ok (G := gl w K mg base) (anc := anc) (m := nCls) (u := .own 24) (mroB_ok (Bool.and_eq_true_iff.mp (Bool.and_eq_true_iff.mp c.more).2).1) (by decide +kernel) (fun c hc => if_neg (Nat.not_lt.mpr hc)) (excs c.more)
  i_BadPerson := isi_ok (G := gl w K mg base) (anc := anc) (m := nCls) (u := .own 25) (mroB_ok (Bool.and_eq_true_iff.mp (Bool.and_eq_true_iff.mp c.more).2).1) (by decide +kernel) (fun c hc => if_neg (Nat.not_lt.mpr hc)) (excs c.more)
  i_BadPicks := isi_ok (G := gl w K mg base) (anc := anc) (m := nCls) (u := .own 26) (mroB_ok (Bool.and_eq_true_iff.mp (Bool.and_eq_true_iff.mp c.more).2).1) (by decide +kernel) (fun c hc => if_neg (Nat.not_lt.mpr hc)) (excs c.more)
  i_BadPlace := isi_ok (G := gl w K mg base) (anc := anc) (m := nCls) (u := .own 27) (mroB_ok (Bool.and_eq_true_iff.mp (Bool.and_eq_true_iff.mp c.more).2).1) (by decide +kernel) (fun c hc => if_neg (Nat.not_lt.mpr hc)) (excs c.more)
  i_BadPlan := isi_ok (G := gl w K mg base) (anc := anc) (m := nCls) (u := .own 28) (mroB_ok (Bool.and_eq_true_iff.mp (Bool.and_eq_true_iff.mp c.more).2).1) (by decide +kernel) (fun c hc => if_neg (Nat.not_lt.mpr hc)) (excs c.more)
  i_BadQuestion := isi_ok (G := gl w K mg base) (anc := anc) (m := nCls) (u := .own 29) (mroB_ok (Bool.and_eq_true_iff.mp (Bool.and_eq_true_iff.mp c.more).2).1) (by decide +kernel) (fun c hc => if_neg (Nat.not_lt.mpr hc)) (excs c.more)
  i_BadRowsBegun := isi_ok (G := gl w K mg base) (anc := anc) (m := nCls) (u := .own 30) (mroB_ok (Bool.and_eq_true_iff.mp (Bool.and_eq_true_iff.mp c.more).2).1) (by decide +kernel) (fun c hc => if_neg (Nat.not_lt.mpr hc)) (excs c.more)
  i_BadRun := isi_ok (G := gl w K mg base) (anc := anc) (m := nCls) (u := .own 31) (mroB_ok (Bool.and_eq_true_iff.mp (Bool.and_eq_true_iff.mp c.more).2).1) (by decide +kernel) (fun c hc => if_neg (Nat.not_lt.mpr hc)) (excs c.more)
  i_BadSchedule := isi_ok (G := gl w K mg base) (anc := anc) (m := nCls) (u := .own 32) (mroB_ok (Bool.and_eq_true_iff.mp (Bool.and_eq_true_iff.mp c.more).2).1) (by decide +kernel) (fun c hc => if_neg (Nat.not_lt.mpr hc)) (excs c.more)
  i_BadSeen := isi_ok (G := gl w K mg base) (anc := anc) (m := nCls) (u := .own 33) (mroB_ok (Bool.and_eq_true_iff.mp (Bool.and_eq_true_iff.mp c.more).2).1) (by decide +kernel) (fun c hc => if_neg (Nat.not_lt.mpr hc)) (excs c.more)
  i_BadText := isi_ok (G := gl w K mg base) (anc := anc) (m := nCls) (u := .own 34) (mroB_ok (Bool.and_eq_true_iff.mp (Bool.and_eq_true_iff.mp c.more).2).1) (by decide +kernel) (fun c hc => if_neg (Nat.not_lt.mpr hc)) (excs c.more)
  i_BadTimes := isi_ok (G := gl w K mg base) (anc := anc) (m := nCls) (u := .own 35) (mroB_ok (Bool.and_eq_true_iff.mp (Bool.and_eq_true_iff.mp c.more).2).1) (by decide +kernel) (fun c hc => if_neg (Nat.not_lt.mpr hc)) (excs c.more)
  i_BadTold := isi_ok (G := gl w K mg base) (anc := anc) (m := nCls) (u := .own 36) (mroB_ok (Bool.and_eq_true_iff.mp (Bool.and_eq_true_iff.mp c.more).2).1) (by decide +kernel) (fun c hc => if_neg (Nat.not_lt.mpr hc)) (excs c.more)
  i_BadWeb := isi_ok (G := gl w K mg base) (anc := anc) (m := nCls) (u := .own 37) (mroB_ok (Bool.and_eq_true_iff.mp (Bool.and_eq_true_iff.mp c.more).2).1) (by decide +kernel) (fun c hc => if_neg (Nat.not_lt.mpr hc)) (excs c.more)
  i_BadWord := isi_ok (G := gl w K mg base) (anc := anc) (m := nCls) (u := .own 38) (mroB_ok (Bool.and_eq_true_iff.mp (Bool.and_eq_true_iff.mp c.more).2).1) (by decide +kernel) (fun c hc => if_neg (Nat.not_lt.mpr hc)) (excs c.more)
  i_BadWords := isi_ok (G := gl w K mg base) (anc := anc) (m := nCls) (u := .own 39) (mroB_ok (Bool.and_eq_true_iff.mp (Bool.and_eq_true_iff.mp c.more).2).1) (by decide +kernel) (fun c hc => if_neg (Nat.not_lt.mpr hc)) (excs c.more)
  i_ChartError := isi_ok (G := gl w K mg base) (anc := anc) (m := nCls) (u := .own 0) (mroB_ok (Bool.and_eq_true_iff.mp (Bool.and_eq_true_iff.mp c.more).2).1) (by decide +kernel) (fun c hc => if_neg (Nat.not_lt.mpr hc)) (excs c.more)
  i_FitsNot := isi_ok (G := gl w K mg base) (anc := anc) (m := nCls) (u := .own 40) (mroB_ok (Bool.and_eq_true_iff.mp (Bool.and_eq_true_iff.mp c.more).2).1) (by decide +kernel) (fun c hc => if_neg (Nat.not_lt.mpr hc)) (excs c.more)
  i_Holds := isi_ok (G := gl w K mg base) (anc := anc) (m := nCls) (u := .own 41) (mroB_ok (Bool.and_eq_true_iff.mp (Bool.and_eq_true_iff.mp c.more).2).1) (by decide +kernel) (fun c hc => if_neg (Nat.not_lt.mpr hc)) (excs c.more)
  i_InUse := isi_ok (G := gl w K mg base) (anc := anc) (m := nCls) (u := .own 42) (mroB_ok (Bool.and_eq_true_iff.mp (Bool.and_eq_true_iff.mp c.more).2).1) (by decide +kernel) (fun c hc => if_neg (Nat.not_lt.mpr hc)) (excs c.more)
  i_IsBounded := isi_ok (G := gl w K mg base) (anc := anc) (m := nCls) (u := .own 43) (mroB_ok (Bool.and_eq_true_iff.mp (Bool.and_eq_true_iff.mp c.more).2).1) (by decide +kernel) (fun c hc => if_neg (Nat.not_lt.mpr hc)) (excs c.more)
  i_IsWatched := isi_ok (G := gl w K mg base) (anc := anc) (m := nCls) (u := .own 44) (mroB_ok (Bool.and_eq_true_iff.mp (Bool.and_eq_true_iff.mp c.more).2).1) (by decide +kernel) (fun c hc => if_neg (Nat.not_lt.mpr hc)) (excs c.more)
  i_LookupError := isi_ok (G := gl w K mg base) (anc := anc) (m := nCls) (u := .bt "LookupError") (mroB_ok (Bool.and_eq_true_iff.mp (Bool.and_eq_true_iff.mp c.more).2).1) (by decide +kernel) (fun c hc => if_neg (Nat.not_lt.mpr hc)) (excs c.more)
  i_NoCount := isi_ok (G := gl w K mg base) (anc := anc) (m := nCls) (u := .own 45) (mroB_ok (Bool.and_eq_true_iff.mp (Bool.and_eq_true_iff.mp c.more).2).1) (by decide +kernel) (fun c hc => if_neg (Nat.not_lt.mpr hc)) (excs c.more)
  i_NoEvents := isi_ok (G := gl w K mg base) (anc := anc) (m := nCls) (u := .own 46) (mroB_ok (Bool.and_eq_true_iff.mp (Bool.and_eq_true_iff.mp c.more).2).1) (by decide +kernel) (fun c hc => if_neg (Nat.not_lt.mpr hc)) (excs c.more)
  i_NoPlan := isi_ok (G := gl w K mg base) (anc := anc) (m := nCls) (u := .own 47) (mroB_ok (Bool.and_eq_true_iff.mp (Bool.and_eq_true_iff.mp c.more).2).1) (by decide +kernel) (fun c hc => if_neg (Nat.not_lt.mpr hc)) (excs c.more)
  i_NoRounds := isi_ok (G := gl w K mg base) (anc := anc) (m := nCls) (u := .own 48) (mroB_ok (Bool.and_eq_true_iff.mp (Bool.and_eq_true_iff.mp c.more).2).1) (by decide +kernel) (fun c hc => if_neg (Nat.not_lt.mpr hc)) (excs c.more)
  i_NobodyLeft := isi_ok (G := gl w K mg base) (anc := anc) (m := nCls) (u := .own 49) (mroB_ok (Bool.and_eq_true_iff.mp (Bool.and_eq_true_iff.mp c.more).2).1) (by decide +kernel) (fun c hc => if_neg (Nat.not_lt.mpr hc)) (excs c.more)
  i_NotLocal := isi_ok (G := gl w K mg base) (anc := anc) (m := nCls) (u := .own 50) (mroB_ok (Bool.and_eq_true_iff.mp (Bool.and_eq_true_iff.mp c.more).2).1) (by decide +kernel) (fun c hc => if_neg (Nat.not_lt.mpr hc)) (excs c.more)
  i_NotNow := isi_ok (G := gl w K mg base) (anc := anc) (m := nCls) (u := .own 51) (mroB_ok (Bool.and_eq_true_iff.mp (Bool.and_eq_true_iff.mp c.more).2).1) (by decide +kernel) (fun c hc => if_neg (Nat.not_lt.mpr hc)) (excs c.more)
  i_NotQuiet := isi_ok (G := gl w K mg base) (anc := anc) (m := nCls) (u := .own 52) (mroB_ok (Bool.and_eq_true_iff.mp (Bool.and_eq_true_iff.mp c.more).2).1) (by decide +kernel) (fun c hc => if_neg (Nat.not_lt.mpr hc)) (excs c.more)
  i_NotWatched := isi_ok (G := gl w K mg base) (anc := anc) (m := nCls) (u := .own 53) (mroB_ok (Bool.and_eq_true_iff.mp (Bool.and_eq_true_iff.mp c.more).2).1) (by decide +kernel) (fun c hc => if_neg (Nat.not_lt.mpr hc)) (excs c.more)
  i_NotWhole := isi_ok (G := gl w K mg base) (anc := anc) (m := nCls) (u := .own 54) (mroB_ok (Bool.and_eq_true_iff.mp (Bool.and_eq_true_iff.mp c.more).2).1) (by decide +kernel) (fun c hc => if_neg (Nat.not_lt.mpr hc)) (excs c.more)
  i_NothingCommon := isi_ok (G := gl w K mg base) (anc := anc) (m := nCls) (u := .own 55) (mroB_ok (Bool.and_eq_true_iff.mp (Bool.and_eq_true_iff.mp c.more).2).1) (by decide +kernel) (fun c hc => if_neg (Nat.not_lt.mpr hc)) (excs c.more)
  i_NothingFits := isi_ok (G := gl w K mg base) (anc := anc) (m := nCls) (u := .own 56) (mroB_ok (Bool.and_eq_true_iff.mp (Bool.and_eq_true_iff.mp c.more).2).1) (by decide +kernel) (fun c hc => if_neg (Nat.not_lt.mpr hc)) (excs c.more)
  i_TypeError := isi_ok (G := gl w K mg base) (anc := anc) (m := nCls) (u := .bt "TypeError") (mroB_ok (Bool.and_eq_true_iff.mp (Bool.and_eq_true_iff.mp c.more).2).1) (by decide +kernel) (fun c hc => if_neg (Nat.not_lt.mpr hc)) (excs c.more)
  i_UnlikePeople := isi_ok (G := gl w K mg base) (anc := anc) (m := nCls) (u := .own 57) (mroB_ok (Bool.and_eq_true_iff.mp (Bool.and_eq_true_iff.mp c.more).2).1) (by decide +kernel) (fun c hc => if_neg (Nat.not_lt.mpr hc)) (excs c.more)
  i_ValueError := isi_ok (G := gl w K mg base) (anc := anc) (m := nCls) (u := .bt "ValueError") (mroB_ok (Bool.and_eq_true_iff.mp (Bool.and_eq_true_iff.mp c.more).2).1) (by decide +kernel) (fun c hc => if_neg (Nat.not_lt.mpr hc)) (excs c.more)
  i_WouldChange := isi_ok (G := gl w K mg base) (anc := anc) (m := nCls) (u := .own 58) (mroB_ok (Bool.and_eq_true_iff.mp (Bool.and_eq_true_iff.mp c.more).2).1) (by decide +kernel) (fun c hc => if_neg (Nat.not_lt.mpr hc)) (excs c.more)
  i_bool := isi_ok (G := gl w K mg base) (anc := anc) (m := nCls) (u := .bt "bool") (mroB_ok (Bool.and_eq_true_iff.mp (Bool.and_eq_true_iff.mp c.more).2).1) (by decide +kernel) (fun c hc => if_neg (Nat.not_lt.mpr hc)) (excs c.more)
  i_dict := isi_ok (G := gl w K mg base) (anc := anc) (m := nCls) (u := .bt "dict") (mroB_ok (Bool.and_eq_true_iff.mp (Bool.and_eq_true_iff.mp c.more).2).1) (by decide +kernel) (fun c hc => if_neg (Nat.not_lt.mpr hc)) (excs c.more)
  i_int := isi_ok (G := gl w K mg base) (anc := anc) (m := nCls) (u := .bt "int") (mroB_ok (Bool.and_eq_true_iff.mp (Bool.and_eq_true_iff.mp c.more).2).1) (by decide +kernel) (fun c hc => if_neg (Nat.not_lt.mpr hc)) (excs c.more)
  i_list := isi_ok (G := gl w K mg base) (anc := anc) (m := nCls) (u := .bt "list") (mroB_ok (Bool.and_eq_true_iff.mp (Bool.and_eq_true_iff.mp c.more).2).1) (by decide +kernel) (fun c hc => if_neg (Nat.not_lt.mpr hc)) (excs c.more)
  i_list_tuple := isiA_ok (G := gl w K mg base) (anc := anc) (m := nCls) (us := [.bt "list", .bt "tuple"]) (mroB_ok (Bool.and_eq_true_iff.mp (Bool.and_eq_true_iff.mp c.more).2).1) (by decide +kernel) (fun c hc => if_neg (Nat.not_lt.mpr hc)) (excs c.more)
  i_str := isi_ok (G := gl w K mg base) (anc := anc) (m := nCls) (u := .bt "str") (mroB_ok (Bool.and_eq_true_iff.mp (Bool.and_eq_true_iff.mp c.more).2).1) (by decide +kernel) (fun c hc => if_neg (Nat.not_lt.mpr hc)) (excs c.more)
  i_tuple := isi_ok (G := gl w K mg base) (anc := anc) (m := nCls) (u := .bt "tuple") (mroB_ok (Bool.and_eq_true_iff.mp (Bool.and_eq_true_iff.mp c.more).2).1) (by decide +kernel) (fun c hc => if_neg (Nat.not_lt.mpr hc)) (excs c.more)
  f_fault := fun cc i hl => fld_of c.more (f := "fault") (T := fld_fault) (by decide +kernel) hl
  f_index := fun cc i hl => fld_of c.more (f := "index") (T := fld_index) (by decide +kernel) hl
  f_line := fun cc i hl => fld_of c.more (f := "line") (T := fld_line) (by decide +kernel) hl
  f_question := fun cc i hl => fld_of c.more (f := "question") (T := fld_question) (by decide +kernel) hl
  f_sign := fun cc i hl => fld_of c.more (f := "sign") (T := fld_sign) (by decide +kernel) hl
  f_thing := fun cc i hl => fld_of c.more (f := "thing") (T := fld_thing) (by decide +kernel) hl
  f_why := fun cc i hl => fld_of c.more (f := "why") (T := fld_why) (by decide +kernel) hl
theorem defs_ok (X : K.In h) (M : h.Ns mainGlobals mg) (c : He.SaysX fas fns [] tf ex w h K) (hTB : ∀ q ∈ tf.map (He.cT K), LamX.TabB base mg q.1 q.2) : ∀ g d, tb.Pr.df g = some d → ∃ fd, DefAt (gl w K mg base) (tb.nm g) (tb.ps g) ((gl w K mg base).fa g) fd ∧ (tb.ps g).length = d.p ∧ ∃ x qual params body scope N cd, FunD K x qual params body scope [] [] ((gl w K mg base).fa g) fd ∧ (∀ c P, cd = some (c, P) → fd.code = .ref c) ∧ DefOk (gl w K mg base) tb g d N body scope cd (qual ++ ".<locals>.") := by
  have F0 : Fc (gl w K mg base) := facts X M c
  have tB := (Bool.and_eq_true_iff.mp (Bool.and_eq_true_iff.mp c.more).2).2
  intro g d hd
  match g, hd with
  | 0, hd =>
    cases hd
    obtain ⟨fd, F⟩ := c.t.d.def_ 0 (d := d_0) rfl
    exact ⟨fd, ⟨He.glo_ok X M (c.t.d.fact 0 (f := .glo "_law_start") rfl), F.kp, F.bindsN fun _ _ _ _ _ _ us hl => match us, hl with | [_], _ => rfl⟩, rfl, _, _, _, _, _, ["script"], none, F, (fun c P e => (nomatch e)), ⟨⟨rfl, rfl, rfl, by decide +kernel, rfl, by decide +kernel, by decide +kernel⟩, rfl, rfl, rfl, (fun c P e => (nomatch e)), fun n => k_0 F0 n⟩⟩
  | 1, hd =>
    cases hd
    obtain ⟨fd, F⟩ := c.t.d.def_ 1 (d := d_1) rfl
    exact ⟨fd, ⟨He.glo_ok X M (c.t.d.fact 1 (f := .glo "_law_draw") rfl), F.kp, F.bindsN fun _ _ _ _ _ _ us hl => match us, hl with | [_, _], _ => rfl⟩, rfl, _, _, _, _, _, ["stream", "many", "cell", "digit", "mixed"], none, F, (fun c P e => (nomatch e)), ⟨⟨rfl, rfl, rfl, by decide +kernel, rfl, by decide +kernel, by decide +kernel⟩, rfl, rfl, rfl, (fun c P e => (nomatch e)), fun n => k_1 F0 n⟩⟩
  | 2, hd =>
    cases hd
    obtain ⟨fd, F⟩ := c.t.d.def_ 2 (d := d_2) rfl
    exact ⟨fd, ⟨He.glo_ok X M (c.t.d.fact 2 (f := .glo "_law_mixed") rfl), F.kp, F.bindsN fun _ _ _ _ _ _ us hl => match us, hl with | [_, _], _ => rfl⟩, rfl, _, _, _, _, _, ["stream", "some", "left", "k"], none, F, (fun c P e => (nomatch e)), ⟨⟨rfl, rfl, rfl, by decide +kernel, rfl, by decide +kernel, by decide +kernel⟩, rfl, rfl, rfl, (fun c P e => (nomatch e)), fun n => k_2 F0 n⟩⟩
  | 3, hd =>
    cases hd
    obtain ⟨fd, F⟩ := c.t.d.def_ 3 (d := d_3) rfl
    exact ⟨fd, ⟨He.glo_ok X M (c.t.d.fact 3 (f := .glo "_law_made_a") rfl), F.kp, F.bindsN fun _ _ _ _ _ _ us hl => match us, hl with | [_, _, _], _ => rfl⟩, rfl, _, _, _, _, _, ["x", "y", "z", "found"], some (He.cT K ("_law_made_a", none)), F, (fun c P e => by cases e; exact code_at (p := ("_law_made_a", none)) F), ⟨⟨rfl, rfl, rfl, by decide +kernel, rfl, by decide +kernel, by decide +kernel⟩, rfl, rfl, rfl, (fun c P e => by cases e; exact cd_of (G := gl w K mg base) (p := ("_law_made_a", none)) rfl tB (by decide +kernel) hTB), fun n => k_3 F0 n⟩⟩
  | 4, hd =>
    cases hd
    obtain ⟨fd, F⟩ := c.t.d.def_ 4 (d := d_4) rfl
    exact ⟨fd, ⟨He.glo_ok X M (c.t.d.fact 4 (f := .glo "_law_made_b") rfl), F.kp, F.bindsN fun _ _ _ _ _ _ us hl => match us, hl with | [_, _, _], _ => rfl⟩, rfl, _, _, _, _, _, ["x", "y", "z", "found"], some (He.cT K ("_law_made_b", none)), F, (fun c P e => by cases e; exact code_at (p := ("_law_made_b", none)) F), ⟨⟨rfl, rfl, rfl, by decide +kernel, rfl, by decide +kernel, by decide +kernel⟩, rfl, rfl, rfl, (fun c P e => by cases e; exact cd_of (G := gl w K mg base) (p := ("_law_made_b", none)) rfl tB (by decide +kernel) hTB), fun n => k_4 F0 n⟩⟩
  | 5, hd =>
    cases hd
    obtain ⟨fd, F⟩ := c.t.d.def_ 5 (d := d_5) rfl
    exact ⟨fd, ⟨He.glo_ok X M (c.t.d.fact 5 (f := .glo "_law_made_c") rfl), F.kp, F.bindsN fun _ _ _ _ _ _ us hl => match us, hl with | [_, _, _], _ => rfl⟩, rfl, _, _, _, _, _, ["x", "y", "z", "found"], some (He.cT K ("_law_made_c", none)), F, (fun c P e => by cases e; exact code_at (p := ("_law_made_c", none)) F), ⟨⟨rfl, rfl, rfl, by decide +kernel, rfl, by decide +kernel, by decide +kernel⟩, rfl, rfl, rfl, (fun c P e => by cases e; exact cd_of (G := gl w K mg base) (p := ("_law_made_c", none)) rfl tB (by decide +kernel) hTB), fun n => k_5 F0 n⟩⟩
  | 6, hd =>
    cases hd
    obtain ⟨fd, F⟩ := c.t.d.def_ 6 (d := d_6) rfl
    exact ⟨fd, ⟨He.glo_ok X M (c.t.d.fact 6 (f := .glo "_law_made_d") rfl), F.kp, F.bindsN fun _ _ _ _ _ _ us hl => match us, hl with | [_, _, _], _ => rfl⟩, rfl, _, _, _, _, _, ["x", "y", "z", "found"], some (He.cT K ("_law_made_d", none)), F, (fun c P e => by cases e; exact code_at (p := ("_law_made_d", none)) F), ⟨⟨rfl, rfl, rfl, by decide +kernel, rfl, by decide +kernel, by decide +kernel⟩, rfl, rfl, rfl, (fun c P e => by cases e; exact cd_of (G := gl w K mg base) (p := ("_law_made_d", none)) rfl tB (by decide +kernel) hTB), fun n => k_6 F0 n⟩⟩
  | 7, hd =>
    cases hd
    obtain ⟨fd, F⟩ := c.t.d.def_ 7 (d := d_7) rfl
    exact ⟨fd, ⟨He.glo_ok X M (c.t.d.fact 7 (f := .glo "_law_kinds_a") rfl), F.kp, F.bindsN fun _ _ _ _ _ _ us hl => match us, hl with | [_], _ => rfl⟩, rfl, _, _, _, _, _, ["e", "found"], none, F, (fun c P e => (nomatch e)), ⟨⟨rfl, rfl, rfl, by decide +kernel, rfl, by decide +kernel, by decide +kernel⟩, rfl, rfl, rfl, (fun c P e => (nomatch e)), fun n => k_7 F0 n⟩⟩
  | 8, hd =>
    cases hd
    obtain ⟨fd, F⟩ := c.t.d.def_ 8 (d := d_8) rfl
    exact ⟨fd, ⟨He.glo_ok X M (c.t.d.fact 8 (f := .glo "_law_kinds_b") rfl), F.kp, F.bindsN fun _ _ _ _ _ _ us hl => match us, hl with | [_], _ => rfl⟩, rfl, _, _, _, _, _, ["e", "found"], none, F, (fun c P e => (nomatch e)), ⟨⟨rfl, rfl, rfl, by decide +kernel, rfl, by decide +kernel, by decide +kernel⟩, rfl, rfl, rfl, (fun c P e => (nomatch e)), fun n => k_8 F0 n⟩⟩
  | 9, hd =>
    cases hd
    obtain ⟨fd, F⟩ := c.t.d.def_ 9 (d := d_9) rfl
    exact ⟨fd, ⟨He.glo_ok X M (c.t.d.fact 9 (f := .glo "_law_kinds_c") rfl), F.kp, F.bindsN fun _ _ _ _ _ _ us hl => match us, hl with | [_], _ => rfl⟩, rfl, _, _, _, _, _, ["e", "found"], none, F, (fun c P e => (nomatch e)), ⟨⟨rfl, rfl, rfl, by decide +kernel, rfl, by decide +kernel, by decide +kernel⟩, rfl, rfl, rfl, (fun c P e => (nomatch e)), fun n => k_9 F0 n⟩⟩
  | 10, hd =>
    cases hd
    obtain ⟨fd, F⟩ := c.t.d.def_ 10 (d := d_10) rfl
    exact ⟨fd, ⟨He.glo_ok X M (c.t.d.fact 10 (f := .glo "_law_kinds_d") rfl), F.kp, F.bindsN fun _ _ _ _ _ _ us hl => match us, hl with | [_], _ => rfl⟩, rfl, _, _, _, _, _, ["e", "found"], none, F, (fun c P e => (nomatch e)), ⟨⟨rfl, rfl, rfl, by decide +kernel, rfl, by decide +kernel, by decide +kernel⟩, rfl, rfl, rfl, (fun c P e => (nomatch e)), fun n => k_10 F0 n⟩⟩
  | 11, hd =>
    cases hd
    obtain ⟨fd, F⟩ := c.t.d.def_ 11 (d := d_11) rfl
    exact ⟨fd, ⟨He.glo_ok X M (c.t.d.fact 11 (f := .glo "_law_kinds") rfl), F.kp, F.bindsN fun _ _ _ _ _ _ us hl => match us, hl with | [_], _ => rfl⟩, rfl, _, _, _, _, _, ["e"], none, F, (fun c P e => (nomatch e)), ⟨⟨rfl, rfl, rfl, by decide +kernel, rfl, by decide +kernel, by decide +kernel⟩, rfl, rfl, rfl, (fun c P e => (nomatch e)), fun n => k_11 F0 n⟩⟩
  | 12, hd =>
    cases hd
    obtain ⟨fd, F⟩ := c.t.d.def_ 12 (d := d_12) rfl
    exact ⟨fd, ⟨He.glo_ok X M (c.t.d.fact 12 (f := .glo "_law_is_own") rfl), F.kp, F.bindsN fun _ _ _ _ _ _ us hl => match us, hl with | [_, _], _ => rfl⟩, rfl, _, _, _, _, _, ["e", "at", "k"], none, F, (fun c P e => (nomatch e)), ⟨⟨rfl, rfl, rfl, by decide +kernel, rfl, by decide +kernel, by decide +kernel⟩, rfl, rfl, rfl, (fun c P e => (nomatch e)), fun n => k_12 F0 n⟩⟩
  | 13, hd =>
    cases hd
    obtain ⟨fd, F⟩ := c.t.d.def_ 13 (d := d_13) rfl
    exact ⟨fd, ⟨He.glo_ok X M (c.t.d.fact 13 (f := .glo "_law_same") rfl), F.kp, F.bindsN fun _ _ _ _ _ _ us hl => match us, hl with | [_, _], _ => rfl⟩, rfl, _, _, _, _, _, ["found", "due", "x", "y"], none, F, (fun c P e => (nomatch e)), ⟨⟨rfl, rfl, rfl, by decide +kernel, rfl, by decide +kernel, by decide +kernel⟩, rfl, rfl, rfl, (fun c P e => (nomatch e)), fun n => k_13 F0 n⟩⟩
  | 14, hd =>
    cases hd
    obtain ⟨fd, F⟩ := c.t.d.def_ 14 (d := d_14) rfl
    exact ⟨fd, ⟨He.glo_ok X M (c.t.d.fact 14 (f := .glo "_law_are_these") rfl), F.kp, F.bindsN fun _ _ _ _ _ _ us hl => match us, hl with | [_, _], _ => rfl⟩, rfl, _, _, _, _, _, ["found", "due"], none, F, (fun c P e => (nomatch e)), ⟨⟨rfl, rfl, rfl, by decide +kernel, rfl, by decide +kernel, by decide +kernel⟩, rfl, rfl, rfl, (fun c P e => (nomatch e)), fun n => k_14 F0 n⟩⟩
  | 15, hd =>
    cases hd
    obtain ⟨fd, F⟩ := c.t.d.def_ 15 (d := d_15) rfl
    exact ⟨fd, ⟨He.glo_ok X M (c.t.d.fact 15 (f := .glo "law") rfl), F.kp, F.bindsN fun _ _ _ _ _ _ us hl => match us, hl with | [_], _ => rfl⟩, rfl, _, _, _, _, _, ["script", "stream", "some", "turn", "x", "y", "z", "rows_made", "at", "mine", "twin", "field", "due", "held", "base"], none, F, (fun c P e => (nomatch e)), ⟨⟨rfl, rfl, rfl, by decide +kernel, rfl, by decide +kernel, by decide +kernel⟩, rfl, rfl, rfl, (fun c P e => (nomatch e)), fun n => k_15 F0 n⟩⟩
  | n + 16, hd => exact nomatch hd
theorem lams_ok (X : K.In h) (M : h.Ns mainGlobals mg) (c : He.SaysX fas fns [] tf ex w h K) : ∀ k d, tb.Pr.lm k = some d → ∃ N f, LamOk (gl w K mg base) tb k d N f := by
  have F0 : Fc (gl w K mg base) := facts X M c
  intro k d hd
  match k, hd with
  | 0, hd => cases hd; exact ⟨["e"], l_0, ⟨NdefX.nscope_by (show NdefX.nscB ["e"] lam_0.ps [] lam_0.scope = true by decide +kernel), fun _ _ _ us hl => match us, hl with | [_], _ => rfl, rfl, rfl, rfl, rfl, fun n => kl_0 F0 n⟩⟩
  | 1, hd => cases hd; exact ⟨["e"], l_1, ⟨NdefX.nscope_by (show NdefX.nscB ["e"] lam_1.ps [] lam_1.scope = true by decide +kernel), fun _ _ _ us hl => match us, hl with | [_], _ => rfl, rfl, rfl, rfl, rfl, fun n => kl_1 F0 n⟩⟩
  | 2, hd => cases hd; exact ⟨["e"], l_2, ⟨NdefX.nscope_by (show NdefX.nscB ["e"] lam_2.ps [] lam_2.scope = true by decide +kernel), fun _ _ _ us hl => match us, hl with | [_], _ => rfl, rfl, rfl, rfl, rfl, fun n => kl_2 F0 n⟩⟩
  | 3, hd => cases hd; exact ⟨["e"], l_3, ⟨NdefX.nscope_by (show NdefX.nscB ["e"] lam_3.ps [] lam_3.scope = true by decide +kernel), fun _ _ _ us hl => match us, hl with | [_], _ => rfl, rfl, rfl, rfl, rfl, fun n => kl_3 F0 n⟩⟩
  | 4, hd => cases hd; exact ⟨["e"], l_4, ⟨NdefX.nscope_by (show NdefX.nscB ["e"] lam_4.ps [] lam_4.scope = true by decide +kernel), fun _ _ _ us hl => match us, hl with | [_], _ => rfl, rfl, rfl, rfl, rfl, fun n => kl_4 F0 n⟩⟩
  | 5, hd => cases hd; exact ⟨["e"], l_5, ⟨NdefX.nscope_by (show NdefX.nscB ["e"] lam_5.ps [] lam_5.scope = true by decide +kernel), fun _ _ _ us hl => match us, hl with | [_], _ => rfl, rfl, rfl, rfl, rfl, fun n => kl_5 F0 n⟩⟩
  | 6, hd => cases hd; exact ⟨["e"], l_6, ⟨NdefX.nscope_by (show NdefX.nscB ["e"] lam_6.ps [] lam_6.scope = true by decide +kernel), fun _ _ _ us hl => match us, hl with | [_], _ => rfl, rfl, rfl, rfl, rfl, fun n => kl_6 F0 n⟩⟩
  | 7, hd => cases hd; exact ⟨["e"], l_7, ⟨NdefX.nscope_by (show NdefX.nscB ["e"] lam_7.ps [] lam_7.scope = true by decide +kernel), fun _ _ _ us hl => match us, hl with | [_], _ => rfl, rfl, rfl, rfl, rfl, fun n => kl_7 F0 n⟩⟩
  | 8, hd => cases hd; exact ⟨["e"], l_8, ⟨NdefX.nscope_by (show NdefX.nscB ["e"] lam_8.ps [] lam_8.scope = true by decide +kernel), fun _ _ _ us hl => match us, hl with | [_], _ => rfl, rfl, rfl, rfl, rfl, fun n => kl_8 F0 n⟩⟩
  | 9, hd => cases hd; exact ⟨["e"], l_9, ⟨NdefX.nscope_by (show NdefX.nscB ["e"] lam_9.ps [] lam_9.scope = true by decide +kernel), fun _ _ _ us hl => match us, hl with | [_], _ => rfl, rfl, rfl, rfl, rfl, fun n => kl_9 F0 n⟩⟩
  | 10, hd => cases hd; exact ⟨["e"], l_10, ⟨NdefX.nscope_by (show NdefX.nscB ["e"] lam_10.ps [] lam_10.scope = true by decide +kernel), fun _ _ _ us hl => match us, hl with | [_], _ => rfl, rfl, rfl, rfl, rfl, fun n => kl_10 F0 n⟩⟩
  | 11, hd => cases hd; exact ⟨["e"], l_11, ⟨NdefX.nscope_by (show NdefX.nscB ["e"] lam_11.ps [] lam_11.scope = true by decide +kernel), fun _ _ _ us hl => match us, hl with | [_], _ => rfl, rfl, rfl, rfl, rfl, fun n => kl_11 F0 n⟩⟩
  | 12, hd => cases hd; exact ⟨["e"], l_12, ⟨NdefX.nscope_by (show NdefX.nscB ["e"] lam_12.ps [] lam_12.scope = true by decide +kernel), fun _ _ _ us hl => match us, hl with | [_], _ => rfl, rfl, rfl, rfl, rfl, fun n => kl_12 F0 n⟩⟩
  | 13, hd => cases hd; exact ⟨["e"], l_13, ⟨NdefX.nscope_by (show NdefX.nscB ["e"] lam_13.ps [] lam_13.scope = true by decide +kernel), fun _ _ _ us hl => match us, hl with | [_], _ => rfl, rfl, rfl, rfl, rfl, fun n => kl_13 F0 n⟩⟩
  | 14, hd => cases hd; exact ⟨["e"], l_14, ⟨NdefX.nscope_by (show NdefX.nscB ["e"] lam_14.ps [] lam_14.scope = true by decide +kernel), fun _ _ _ us hl => match us, hl with | [_], _ => rfl, rfl, rfl, rfl, rfl, fun n => kl_14 F0 n⟩⟩
  | 15, hd => cases hd; exact ⟨["e"], l_15, ⟨NdefX.nscope_by (show NdefX.nscB ["e"] lam_15.ps [] lam_15.scope = true by decide +kernel), fun _ _ _ us hl => match us, hl with | [_], _ => rfl, rfl, rfl, rfl, rfl, fun n => kl_15 F0 n⟩⟩
  | 16, hd => cases hd; exact ⟨["e"], l_16, ⟨NdefX.nscope_by (show NdefX.nscB ["e"] lam_16.ps [] lam_16.scope = true by decide +kernel), fun _ _ _ us hl => match us, hl with | [_], _ => rfl, rfl, rfl, rfl, rfl, fun n => kl_16 F0 n⟩⟩
  | 17, hd => cases hd; exact ⟨["e"], l_17, ⟨NdefX.nscope_by (show NdefX.nscB ["e"] lam_17.ps [] lam_17.scope = true by decide +kernel), fun _ _ _ us hl => match us, hl with | [_], _ => rfl, rfl, rfl, rfl, rfl, fun n => kl_17 F0 n⟩⟩
  | 18, hd => cases hd; exact ⟨["e"], l_18, ⟨NdefX.nscope_by (show NdefX.nscB ["e"] lam_18.ps [] lam_18.scope = true by decide +kernel), fun _ _ _ us hl => match us, hl with | [_], _ => rfl, rfl, rfl, rfl, rfl, fun n => kl_18 F0 n⟩⟩
  | 19, hd => cases hd; exact ⟨["e"], l_19, ⟨NdefX.nscope_by (show NdefX.nscB ["e"] lam_19.ps [] lam_19.scope = true by decide +kernel), fun _ _ _ us hl => match us, hl with | [_], _ => rfl, rfl, rfl, rfl, rfl, fun n => kl_19 F0 n⟩⟩
  | 20, hd => cases hd; exact ⟨["e"], l_20, ⟨NdefX.nscope_by (show NdefX.nscB ["e"] lam_20.ps [] lam_20.scope = true by decide +kernel), fun _ _ _ us hl => match us, hl with | [_], _ => rfl, rfl, rfl, rfl, rfl, fun n => kl_20 F0 n⟩⟩
  | 21, hd => cases hd; exact ⟨["e"], l_21, ⟨NdefX.nscope_by (show NdefX.nscB ["e"] lam_21.ps [] lam_21.scope = true by decide +kernel), fun _ _ _ us hl => match us, hl with | [_], _ => rfl, rfl, rfl, rfl, rfl, fun n => kl_21 F0 n⟩⟩
  | 22, hd => cases hd; exact ⟨["e"], l_22, ⟨NdefX.nscope_by (show NdefX.nscB ["e"] lam_22.ps [] lam_22.scope = true by decide +kernel), fun _ _ _ us hl => match us, hl with | [_], _ => rfl, rfl, rfl, rfl, rfl, fun n => kl_22 F0 n⟩⟩
  | 23, hd => cases hd; exact ⟨["e"], l_23, ⟨NdefX.nscope_by (show NdefX.nscB ["e"] lam_23.ps [] lam_23.scope = true by decide +kernel), fun _ _ _ us hl => match us, hl with | [_], _ => rfl, rfl, rfl, rfl, rfl, fun n => kl_23 F0 n⟩⟩
  | 24, hd => cases hd; exact ⟨["e"], l_24, ⟨NdefX.nscope_by (show NdefX.nscB ["e"] lam_24.ps [] lam_24.scope = true by decide +kernel), fun _ _ _ us hl => match us, hl with | [_], _ => rfl, rfl, rfl, rfl, rfl, fun n => kl_24 F0 n⟩⟩
  | 25, hd => cases hd; exact ⟨["e"], l_25, ⟨NdefX.nscope_by (show NdefX.nscB ["e"] lam_25.ps [] lam_25.scope = true by decide +kernel), fun _ _ _ us hl => match us, hl with | [_], _ => rfl, rfl, rfl, rfl, rfl, fun n => kl_25 F0 n⟩⟩
  | 26, hd => cases hd; exact ⟨["e"], l_26, ⟨NdefX.nscope_by (show NdefX.nscB ["e"] lam_26.ps [] lam_26.scope = true by decide +kernel), fun _ _ _ us hl => match us, hl with | [_], _ => rfl, rfl, rfl, rfl, rfl, fun n => kl_26 F0 n⟩⟩
  | 27, hd => cases hd; exact ⟨["e"], l_27, ⟨NdefX.nscope_by (show NdefX.nscB ["e"] lam_27.ps [] lam_27.scope = true by decide +kernel), fun _ _ _ us hl => match us, hl with | [_], _ => rfl, rfl, rfl, rfl, rfl, fun n => kl_27 F0 n⟩⟩
  | 28, hd => cases hd; exact ⟨["e"], l_28, ⟨NdefX.nscope_by (show NdefX.nscB ["e"] lam_28.ps [] lam_28.scope = true by decide +kernel), fun _ _ _ us hl => match us, hl with | [_], _ => rfl, rfl, rfl, rfl, rfl, fun n => kl_28 F0 n⟩⟩
  | 29, hd => cases hd; exact ⟨["e"], l_29, ⟨NdefX.nscope_by (show NdefX.nscB ["e"] lam_29.ps [] lam_29.scope = true by decide +kernel), fun _ _ _ us hl => match us, hl with | [_], _ => rfl, rfl, rfl, rfl, rfl, fun n => kl_29 F0 n⟩⟩
  | 30, hd => cases hd; exact ⟨["e"], l_30, ⟨NdefX.nscope_by (show NdefX.nscB ["e"] lam_30.ps [] lam_30.scope = true by decide +kernel), fun _ _ _ us hl => match us, hl with | [_], _ => rfl, rfl, rfl, rfl, rfl, fun n => kl_30 F0 n⟩⟩
  | 31, hd => cases hd; exact ⟨["e"], l_31, ⟨NdefX.nscope_by (show NdefX.nscB ["e"] lam_31.ps [] lam_31.scope = true by decide +kernel), fun _ _ _ us hl => match us, hl with | [_], _ => rfl, rfl, rfl, rfl, rfl, fun n => kl_31 F0 n⟩⟩
  | 32, hd => cases hd; exact ⟨["e"], l_32, ⟨NdefX.nscope_by (show NdefX.nscB ["e"] lam_32.ps [] lam_32.scope = true by decide +kernel), fun _ _ _ us hl => match us, hl with | [_], _ => rfl, rfl, rfl, rfl, rfl, fun n => kl_32 F0 n⟩⟩
  | 33, hd => cases hd; exact ⟨["e"], l_33, ⟨NdefX.nscope_by (show NdefX.nscB ["e"] lam_33.ps [] lam_33.scope = true by decide +kernel), fun _ _ _ us hl => match us, hl with | [_], _ => rfl, rfl, rfl, rfl, rfl, fun n => kl_33 F0 n⟩⟩
  | 34, hd => cases hd; exact ⟨["e"], l_34, ⟨NdefX.nscope_by (show NdefX.nscB ["e"] lam_34.ps [] lam_34.scope = true by decide +kernel), fun _ _ _ us hl => match us, hl with | [_], _ => rfl, rfl, rfl, rfl, rfl, fun n => kl_34 F0 n⟩⟩
  | 35, hd => cases hd; exact ⟨["e"], l_35, ⟨NdefX.nscope_by (show NdefX.nscB ["e"] lam_35.ps [] lam_35.scope = true by decide +kernel), fun _ _ _ us hl => match us, hl with | [_], _ => rfl, rfl, rfl, rfl, rfl, fun n => kl_35 F0 n⟩⟩
  | 36, hd => cases hd; exact ⟨["e"], l_36, ⟨NdefX.nscope_by (show NdefX.nscB ["e"] lam_36.ps [] lam_36.scope = true by decide +kernel), fun _ _ _ us hl => match us, hl with | [_], _ => rfl, rfl, rfl, rfl, rfl, fun n => kl_36 F0 n⟩⟩
  | 37, hd => cases hd; exact ⟨["e"], l_37, ⟨NdefX.nscope_by (show NdefX.nscB ["e"] lam_37.ps [] lam_37.scope = true by decide +kernel), fun _ _ _ us hl => match us, hl with | [_], _ => rfl, rfl, rfl, rfl, rfl, fun n => kl_37 F0 n⟩⟩
  | 38, hd => cases hd; exact ⟨["e"], l_38, ⟨NdefX.nscope_by (show NdefX.nscB ["e"] lam_38.ps [] lam_38.scope = true by decide +kernel), fun _ _ _ us hl => match us, hl with | [_], _ => rfl, rfl, rfl, rfl, rfl, fun n => kl_38 F0 n⟩⟩
  | 39, hd => cases hd; exact ⟨["e"], l_39, ⟨NdefX.nscope_by (show NdefX.nscB ["e"] lam_39.ps [] lam_39.scope = true by decide +kernel), fun _ _ _ us hl => match us, hl with | [_], _ => rfl, rfl, rfl, rfl, rfl, fun n => kl_39 F0 n⟩⟩
  | 40, hd => cases hd; exact ⟨["e"], l_40, ⟨NdefX.nscope_by (show NdefX.nscB ["e"] lam_40.ps [] lam_40.scope = true by decide +kernel), fun _ _ _ us hl => match us, hl with | [_], _ => rfl, rfl, rfl, rfl, rfl, fun n => kl_40 F0 n⟩⟩
  | 41, hd => cases hd; exact ⟨["e"], l_41, ⟨NdefX.nscope_by (show NdefX.nscB ["e"] lam_41.ps [] lam_41.scope = true by decide +kernel), fun _ _ _ us hl => match us, hl with | [_], _ => rfl, rfl, rfl, rfl, rfl, fun n => kl_41 F0 n⟩⟩
  | 42, hd => cases hd; exact ⟨["e"], l_42, ⟨NdefX.nscope_by (show NdefX.nscB ["e"] lam_42.ps [] lam_42.scope = true by decide +kernel), fun _ _ _ us hl => match us, hl with | [_], _ => rfl, rfl, rfl, rfl, rfl, fun n => kl_42 F0 n⟩⟩
  | 43, hd => cases hd; exact ⟨["e"], l_43, ⟨NdefX.nscope_by (show NdefX.nscB ["e"] lam_43.ps [] lam_43.scope = true by decide +kernel), fun _ _ _ us hl => match us, hl with | [_], _ => rfl, rfl, rfl, rfl, rfl, fun n => kl_43 F0 n⟩⟩
  | 44, hd => cases hd; exact ⟨["e"], l_44, ⟨NdefX.nscope_by (show NdefX.nscB ["e"] lam_44.ps [] lam_44.scope = true by decide +kernel), fun _ _ _ us hl => match us, hl with | [_], _ => rfl, rfl, rfl, rfl, rfl, fun n => kl_44 F0 n⟩⟩
  | 45, hd => cases hd; exact ⟨["e"], l_45, ⟨NdefX.nscope_by (show NdefX.nscB ["e"] lam_45.ps [] lam_45.scope = true by decide +kernel), fun _ _ _ us hl => match us, hl with | [_], _ => rfl, rfl, rfl, rfl, rfl, fun n => kl_45 F0 n⟩⟩
  | 46, hd => cases hd; exact ⟨["e"], l_46, ⟨NdefX.nscope_by (show NdefX.nscB ["e"] lam_46.ps [] lam_46.scope = true by decide +kernel), fun _ _ _ us hl => match us, hl with | [_], _ => rfl, rfl, rfl, rfl, rfl, fun n => kl_46 F0 n⟩⟩
  | 47, hd => cases hd; exact ⟨["e"], l_47, ⟨NdefX.nscope_by (show NdefX.nscB ["e"] lam_47.ps [] lam_47.scope = true by decide +kernel), fun _ _ _ us hl => match us, hl with | [_], _ => rfl, rfl, rfl, rfl, rfl, fun n => kl_47 F0 n⟩⟩
  | 48, hd => cases hd; exact ⟨["e"], l_48, ⟨NdefX.nscope_by (show NdefX.nscB ["e"] lam_48.ps [] lam_48.scope = true by decide +kernel), fun _ _ _ us hl => match us, hl with | [_], _ => rfl, rfl, rfl, rfl, rfl, fun n => kl_48 F0 n⟩⟩
  | 49, hd => cases hd; exact ⟨["e"], l_49, ⟨NdefX.nscope_by (show NdefX.nscB ["e"] lam_49.ps [] lam_49.scope = true by decide +kernel), fun _ _ _ us hl => match us, hl with | [_], _ => rfl, rfl, rfl, rfl, rfl, fun n => kl_49 F0 n⟩⟩
  | 50, hd => cases hd; exact ⟨["e"], l_50, ⟨NdefX.nscope_by (show NdefX.nscB ["e"] lam_50.ps [] lam_50.scope = true by decide +kernel), fun _ _ _ us hl => match us, hl with | [_], _ => rfl, rfl, rfl, rfl, rfl, fun n => kl_50 F0 n⟩⟩
  | 51, hd => cases hd; exact ⟨["e"], l_51, ⟨NdefX.nscope_by (show NdefX.nscB ["e"] lam_51.ps [] lam_51.scope = true by decide +kernel), fun _ _ _ us hl => match us, hl with | [_], _ => rfl, rfl, rfl, rfl, rfl, fun n => kl_51 F0 n⟩⟩
  | 52, hd => cases hd; exact ⟨["e"], l_52, ⟨NdefX.nscope_by (show NdefX.nscB ["e"] lam_52.ps [] lam_52.scope = true by decide +kernel), fun _ _ _ us hl => match us, hl with | [_], _ => rfl, rfl, rfl, rfl, rfl, fun n => kl_52 F0 n⟩⟩
  | 53, hd => cases hd; exact ⟨["e"], l_53, ⟨NdefX.nscope_by (show NdefX.nscB ["e"] lam_53.ps [] lam_53.scope = true by decide +kernel), fun _ _ _ us hl => match us, hl with | [_], _ => rfl, rfl, rfl, rfl, rfl, fun n => kl_53 F0 n⟩⟩
  | 54, hd => cases hd; exact ⟨["e"], l_54, ⟨NdefX.nscope_by (show NdefX.nscB ["e"] lam_54.ps [] lam_54.scope = true by decide +kernel), fun _ _ _ us hl => match us, hl with | [_], _ => rfl, rfl, rfl, rfl, rfl, fun n => kl_54 F0 n⟩⟩
  | 55, hd => cases hd; exact ⟨["e"], l_55, ⟨NdefX.nscope_by (show NdefX.nscB ["e"] lam_55.ps [] lam_55.scope = true by decide +kernel), fun _ _ _ us hl => match us, hl with | [_], _ => rfl, rfl, rfl, rfl, rfl, fun n => kl_55 F0 n⟩⟩
  | 56, hd => cases hd; exact ⟨["e"], l_56, ⟨NdefX.nscope_by (show NdefX.nscB ["e"] lam_56.ps [] lam_56.scope = true by decide +kernel), fun _ _ _ us hl => match us, hl with | [_], _ => rfl, rfl, rfl, rfl, rfl, fun n => kl_56 F0 n⟩⟩
  | 57, hd => cases hd; exact ⟨["e"], l_57, ⟨NdefX.nscope_by (show NdefX.nscB ["e"] lam_57.ps [] lam_57.scope = true by decide +kernel), fun _ _ _ us hl => match us, hl with | [_], _ => rfl, rfl, rfl, rfl, rfl, fun n => kl_57 F0 n⟩⟩
  | n + 58, hd => exact nomatch hd
theorem kf_ok (X : K.In h) (M : h.Ns mainGlobals mg) (c : He.SaysX fas fns [] tf ex w h K) : ∀ g, PySem.W.keepIn K (.ref ((gl w K mg base).fa g)) = true := by
  intro g
  have key : ∀ d ∈ fns, PySem.W.keepIn K (.ref (He.fAd K d.at_)) = true := fun d hd => (c.t.d.defs hd).elim fun _ F => F.kp
  have k2 : ∀ x ∈ defNames, PySem.W.keepIn K (.ref (He.ga K x)) = true := by
    intro x hx
    have : ∀ x ∈ defNames, ∃ d ∈ fns, d.at_ = (x, none) := by
      intro x hx
      have h2 : (defNames.all fun x => (fns.map (·.at_)).contains (x, none)) = true := by decide +kernel
      have h3 := List.all_eq_true.mp h2 x hx
      obtain ⟨d, hd, e⟩ := List.mem_map.mp (List.contains_iff_mem.mp h3)
      exact ⟨d, hd, e⟩
    obtain ⟨d, hd, e⟩ := this x hx
    have := key d hd
    rw [e] at this
    exact this
  show PySem.W.keepIn K (.ref (He.ga K (defNames.getD g "law"))) = true
  cases e : defNames[g]? with
  | none => rw [List.getD_eq_getElem?_getD, e]; exact k2 _ (by decide +kernel)
  | some x => rw [List.getD_eq_getElem?_getD, e]; exact k2 _ (List.mem_of_getElem? e)
end
end Law
end

section
set_option Elab.async false
set_option linter.all false
namespace Law
open PySem L2 MI
set_option maxRecDepth 100000
set_option maxHeartbeats 4000000
/-! the run -/
theorem run (w : World) : HandSHeadRun.RunEq R vw hk ob 60000 loose w := by
  intro os
  have h1 := run1 w os
  have h2 := run2 w os
  show (E w os).map _ = _
  revert h1 h2
  generalize E w os = x
  intro h1 h2
  cases x with
  | none => cases h1
  | some s =>
    have e1 := Option.some.inj h1
    have e2 := Option.some.inj h2
    injection e1 with e3 e4
    show some (_, _, _) = some (_, _, _)
    rw [e3, e4, e2]
theorem atLaw {w : World} {mg : Str → Option Value} {fa : Addr} {h : Heap} {K : PySem.W.Frag} (X : K.In h) (M : h.Ns mainGlobals mg) (hfa : mg "law" = some (.ref fa)) (c : He.SaysX fas fns [] tf ex w h K) (n m : Nat) (hf : ∀ ns : List Int, ns.length ≤ m → (∀ z ∈ ns, Builtin.Int.intBits z ≤ 1048576) → ∃ ih, (ctx prog (n + 1)).call 15 [.scr ns] ⟨0, .e⟩ = .ok (.bl true) ih) : LamX.LawAtS PySem.Challenge.rw_drawnandrun_k00_errors_made w K (L2.CX (PySem.Challenge.rw_drawnandrun_k00_errors_made).prog w) (lv (n + 1)) m "script" mg fa h := by
  obtain ⟨fd, F⟩ := c.t.d.def_ 15 (d := d_15) rfl
  have e := hfa.symm.trans (He.glo_ok X M (c.t.d.fact 15 (f := .glo "law") rfl))
  cases e
  have b := FunD.bindsA (ps := ["script"]) F fun _ _ _ _ _ _ us hl => match us, hl with | [_], _ => rfl
  refine law_at (fd := fd) X c (fun s v => b s [v] rfl) fun base _ _ hTB => ?_
  obtain ⟨A, AL⟩ := all_ok (G := gl w K mg base) (Pr := tb) (defs_ok X M c hTB) (lams_ok X M c) (kf_ok X M c) n
  have D : DefOk (gl w K mg base) tb 15 ⟨15, 1, m_15⟩ ["script", "stream", "some", "turn", "x", "y", "z", "rows_made", "at", "mine", "twin", "field", "due", "held", "base"] (defBody (top 76)) (defScope (top 76)) none ("law" ++ ".<locals>.") := ⟨⟨rfl, rfl, rfl, by decide +kernel, rfl, by decide +kernel, by decide +kernel⟩, rfl, rfl, rfl, fun c P e => (nomatch e), fun n => k_15 (facts X M c) n⟩
  have F2 := def_step (G := gl w K mg base) (n := n) (cd := none) F (fun c P e => (nomatch e)) D A AL (kf_ok X M c)
  exact law_ok F2 hf
theorem holds_of (n : Nat) (hn : Room (lv (n + 1)) callerA) (hf : ∀ ns : List Int, ns.length ≤ 63 → (∀ z ∈ ns, Builtin.Int.intBits z ≤ 1048576) → ∃ ih, (ctx prog (n + 1)).call 15 [.scr ns] ⟨0, .e⟩ = .ok (.bl true) ih) : (PySem.Challenge.rw_drawnandrun_k00_errors_made).Holds := by
  w_on; o_law
  refine HandSHeadRun.head_any (r := PySem.W.OpenLaw.row PySem.Challenge.rw_drawnandrun_k00_errors_made) (q := PySem.W.view (PySem.W.OpenLaw.row PySem.Challenge.rw_drawnandrun_k00_errors_made).prog [76]) (H := hk) (ob := ob) (M := 60000) (loose := loose) (d := HandSHeadRun.topDef (PySem.W.OpenLaw.row PySem.Challenge.rw_drawnandrun_k00_errors_made).prog 76) (kwd := []) ob_eq
    (by kernel_rfl) (fun s => by kernel_rfl) run (by kernel_rfl) (by kernel_rfl) (by kernel_rfl) (by rfl) (by first | assumption | decide +kernel) (by decide +kernel) ⟨rfl, rfl, rfl, rfl, rfl, by decide +kernel⟩ ?hw ?hc
  case hw => w_witness2
  case hc =>
    refine LamX.walk_ofTsE (l := PySem.Challenge.rw_drawnandrun_k00_errors_made) (n := 63) (k := lv (n + 1)) (x := "script") (CX := fun w => L2.CX (PySem.Challenge.rw_drawnandrun_k00_errors_made).prog w) rfl (by decide) (by kernel_rfl) hn ?F (fun w H s e s' h => cx_false h)
    intro w mg fa h Y M hmg0
    obtain ⟨K, KX, c⟩ := Y
    have hmg : mg ("law" : PySem.Str) = some (.ref fa) := by
      have e : (HandSHeadRun.topDef (PySem.W.OpenLaw.row PySem.Challenge.rw_drawnandrun_k00_errors_made).prog 76).name = ("law" : PySem.Str) := by kernel_rfl
      rw [← e]
      exact hmg0
    exact ⟨K, KX, atLaw KX M hmg c n 63 hf⟩
end Law
end

section
set_option Elab.async false
set_option linter.all false
set_option maxRecDepth 100000
set_option autoImplicit false
set_option maxHeartbeats 2000000
namespace Law
open PySem L2 MI
def pA0 : Sx := (sAsg (MI.gName 1) (eCall 0 (lCons (eVar 0) lNil)))
def pA1 : Sx := (sAsg (MI.gName 2) (eLst (lCons (eCon .non) (lCons (eCon (.int 5)) (lCons (eUn fNeg (eCon (.int 1))) (lCons (eCon (.bl true)) (lCons (eCon (.str "a")) (lCons (eCon (.str "")) (lCons (eLst (lCons (eCon (.int 1)) (lCons (eCon (.str "b")) lNil))) (lCons (eTup (lCons (eCon (.int 2)) (lCons (eCon .non) lNil))) (lCons (eDct [((eCon (.str "a")), (eCon (.int 1)))]) (lCons (eLst (lCons (eLst (lCons (eCon (.str "x")) lNil)) lNil)) (lCons (eOp fPow (eCon (.int 10)) (eCon (.int 30))) (lCons (eTup (lCons (eCon (.str "s")) (lCons (eCon (.int 3)) lNil))) (lCons (eCon (.bl false)) (lCons (eCon (.int 0)) (lCons (eCon (.int 1)) lNil)))))))))))))))))
def rowE : Ex := (eOp fAdd (eOp fAdd (eCall 3 (lCons (eVar 4) (lCons (eVar 5) (lCons (eVar 6) lNil)))) (eCall 4 (lCons (eVar 4) (lCons (eVar 5) (lCons (eVar 6) lNil))))) (eCall 5 (lCons (eVar 4) (lCons (eVar 5) (lCons (eVar 6) lNil)))))
theorem q_rowE {s : Sub} : QE s rowE := (q_op q_fAdd (q_op q_fAdd (q_call (q_lcons (q_var 4) (q_lcons (q_var 5) (q_lcons (q_var 6) q_lnil)))) (q_call (q_lcons (q_var 4) (q_lcons (q_var 5) (q_lcons (q_var 6) q_lnil))))) (q_call (q_lcons (q_var 4) (q_lcons (q_var 5) (q_lcons (q_var 6) q_lnil)))))
def rowX : Ex := (eMeth .lst fExtend (eVar 7) (lCons (eCall 6 (lCons (eVar 4) (lCons (eVar 5) (lCons (eVar 6) lNil)))) lNil))
theorem q_rowX {s : Sub} : QE s rowX := (q_meth (by decide) q_fExtend (q_var 7) (q_lcons (q_call (q_lcons (q_var 4) (q_lcons (q_var 5) (q_lcons (q_var 6) q_lnil)))) q_lnil))
def pT1 : Sx := (sAsg (MI.gTup 3 (MI.gCons (MI.gName 4) (MI.gCons (MI.gName 5) (MI.gCons (MI.gName 6) MI.gNil)))) (eCut (eCall 2 (lCons (eVar 1) (lCons (eVar 2) lNil))) oNone (oSome (eCon (.int 3)))))
def rG : Gx := (MI.gTup 2 (MI.gCons (MI.gName 8) (MI.gCons (MI.gTup 4 (MI.gCons (MI.gName 9) (MI.gCons (MI.gName 10) (MI.gCons (MI.gName 11) (MI.gCons (MI.gName 12) MI.gNil))))) MI.gNil)))
def rB : Sx := (sSeq (sIf (MI.tOr (tNot (tVal (eCall 12 (lCons (eVar 9) (lCons (eVar 8) lNil))))) (tNot (tVal (eCall 12 (lCons (eVar 10) (lCons (eVar 8) lNil)))))) (sSeq (sRet (eCon (.bl false))) sNx) sNx) (sSeq (sIf (MI.tOr (tNot (tVal (eCall 14 (lCons (eCallF (eVar 11) (lCons (eVar 9) lNil)) (lCons (eVar 12) lNil))))) (tNot (tVal (eCall 14 (lCons (eCallF (eVar 11) (lCons (eVar 10) lNil)) (lCons (eVar 12) lNil)))))) (sSeq (sRet (eCon (.bl false))) sNx) sNx) sNx))
def pTB : Sx := sSeq pT1 (sSeq (sAsg (MI.gName 7) rowE) (sSeq (sExpr rowX) (sSeq (sFor (iEnumL (eVar 7)) rG rB) sNx)))
def pD : Sx := (sSeq (sAsg (MI.gName 13) (eLst (lCons (eCon (.str "v")) lNil))) (sSeq (sAsg (MI.gName 7) (eOp fAdd (eOp fAdd (eCall 3 (lCons (eVar 13) (lCons (eVar 13) (lCons (eVar 13) lNil)))) (eCall 4 (lCons (eVar 13) (lCons (eVar 13) (lCons (eVar 13) lNil))))) (eCall 5 (lCons (eVar 13) (lCons (eVar 13) (lCons (eVar 13) lNil)))))) (sSeq (sExpr (eMeth .lst fExtend (eVar 7) (lCons (eCall 6 (lCons (eVar 13) (lCons (eVar 13) (lCons (eVar 13) lNil)))) lNil))) (sSeq (sExpr (eMeth .lst fAppend (eVar 13) (lCons (eCon (.str "w")) lNil))) (sSeq (sFor (iVal (eVar 7)) (MI.gTup 4 (MI.gCons (MI.gName 9) (MI.gCons (MI.gName 10) (MI.gCons (MI.gName 11) (MI.gCons (MI.gName 12) MI.gNil))))) (sSeq (sIf (MI.tOr (tNot (tVal (eCall 14 (lCons (eCallF (eVar 11) (lCons (eVar 9) lNil)) (lCons (eVar 12) lNil))))) (tNot (tVal (eCall 14 (lCons (eCallF (eVar 11) (lCons (eVar 10) lNil)) (lCons (eVar 12) lNil)))))) (sSeq (sRet (eCon (.bl false))) sNx) sNx) sNx)) (sSeq (sAsg (MI.gName 14) (eMk0 0)) (sSeq (sRet (eAnd (eIsi isi_ValueError (eVar 14)) (eOp (fIn true) (eCon (.bl true)) (eCall 11 (lCons (eVar 14) lNil))))) sNx)))))))
theorem q_pD {s : Sub} : QS s pD := (q_seq (q_asg (q_gname 13) (q_lst (q_lcons (q_con fun _ => rfl) q_lnil))) (q_seq (q_asg (q_gname 7) (q_op q_fAdd (q_op q_fAdd (q_call (q_lcons (q_var 13) (q_lcons (q_var 13) (q_lcons (q_var 13) q_lnil)))) (q_call (q_lcons (q_var 13) (q_lcons (q_var 13) (q_lcons (q_var 13) q_lnil))))) (q_call (q_lcons (q_var 13) (q_lcons (q_var 13) (q_lcons (q_var 13) q_lnil)))))) (q_seq (q_expr (q_meth (by decide) q_fExtend (q_var 7) (q_lcons (q_call (q_lcons (q_var 13) (q_lcons (q_var 13) (q_lcons (q_var 13) q_lnil)))) q_lnil))) (q_seq (q_expr (q_meth (by decide) q_fAppend (q_var 13) (q_lcons (q_con fun _ => rfl) q_lnil))) (q_seq (q_for (q_ival (q_var 7)) (q_gtup (q_gcons (q_gname 9) (q_gcons (q_gname 10) (q_gcons (q_gname 11) (q_gcons (q_gname 12) q_gnil))))) (q_seq (q_sif (q_tor (q_tnot (q_tval (q_call (q_lcons (q_callF (q_var 11) (q_lcons (q_var 9) q_lnil)) (q_lcons (q_var 12) q_lnil))))) (q_tnot (q_tval (q_call (q_lcons (q_callF (q_var 11) (q_lcons (q_var 10) q_lnil)) (q_lcons (q_var 12) q_lnil)))))) (q_seq (q_ret (q_con fun _ => rfl)) q_nx) q_nx) q_nx)) (q_seq (q_asg (q_gname 14) (q_mk0 0)) (q_seq (q_ret (q_and (q_isi (q_var 14)) (q_op (q_fIn true) (q_con fun _ => rfl) (q_call (q_lcons (q_var 14) q_lnil))))) q_nx)))))))
theorem m15_eq : m_15 = sSeq pA0 (sSeq pA1 (sSeq (sFor (iRng1 (eCon (.int 2))) (MI.gName 3) pTB) pD)) := rfl
/-! equal values -/
mutual
def beqV : IV → IV → Bool
  | .non, .non => true
  | .bl a, .bl b => a == b
  | .int a, .int b => decide (a = b)
  | .str a, .str b => decide (a = b)
  | .tup a, .tup b => beqVs a b
  | .ref a, .ref b => decide (a = b)
  | .tok a, .tok b => decide (a = b)
  | _, _ => false
def beqVs : List IV → List IV → Bool
  | [], [] => true
  | a :: x, b :: y => beqV a b && beqVs x y
  | _, _ => false
end
mutual
theorem beqV_eq : ∀ {a b : IV}, beqV a b = true → a = b
  | .non, b, h => by cases b <;> first | rfl | (unfold beqV at h; cases h)
  | .bl a, b, h => by
    cases b with
    | bl b => unfold beqV at h; rw [eq_of_beq h]
    | _ => unfold beqV at h; cases h
  | .int a, b, h => by
    cases b with
    | int b => unfold beqV at h; rw [of_decide_eq_true h]
    | _ => unfold beqV at h; cases h
  | .str a, b, h => by
    cases b with
    | str b => unfold beqV at h; rw [of_decide_eq_true h]
    | _ => unfold beqV at h; cases h
  | .tup a, b, h => by
    cases b with
    | tup b => unfold beqV at h; rw [beqVs_eq h]
    | _ => unfold beqV at h; cases h
  | .ref a, b, h => by
    cases b with
    | ref b => unfold beqV at h; rw [of_decide_eq_true h]
    | _ => unfold beqV at h; cases h
  | .tok a, b, h => by
    cases b with
    | tok b => unfold beqV at h; rw [of_decide_eq_true h]
    | _ => unfold beqV at h; cases h
  | .gfn a, b, h => by cases b <;> (unfold beqV at h; cases h)
  | .exc a c, b, h => by cases b <;> (unfold beqV at h; cases h)
  | .scr a, b, h => by cases b <;> (unfold beqV at h; cases h)
theorem beqVs_eq : ∀ {a b : List IV}, beqVs a b = true → a = b
  | [], [], _ => rfl
  | a :: x, b :: y, h => by
    unfold beqVs at h
    rw [Bool.and_eq_true] at h
    rw [beqV_eq h.1, beqVs_eq h.2]
  | [], _ :: _, h => by unfold beqVs at h; cases h
  | _ :: _, [], h => by unfold beqVs at h; cases h
end
def beqK : List (Key × IV) → List (Key × IV) → Bool
  | [], [] => true
  | (k, a) :: x, (j, b) :: y => decide (k = j) && (beqV a b && beqK x y)
  | _, _ => false
theorem beqK_eq : ∀ {a b : List (Key × IV)}, beqK a b = true → a = b
  | [], [], _ => rfl
  | (k, a) :: x, (j, b) :: y, h => by
    unfold beqK at h
    rw [Bool.and_eq_true, Bool.and_eq_true] at h
    rw [of_decide_eq_true h.1, beqV_eq h.2.1, beqK_eq h.2.2]
  | [], _ :: _, h => by unfold beqK at h; cases h
  | _ :: _, [], h => by unfold beqK at h; cases h
def beqO : Option IO → Option IO → Bool
  | some (.lst a), some (.lst b) => beqVs a b
  | some (.dct a), some (.dct b) => beqK a b
  | _, _ => false
theorem beqO_eq {a b : Option IO} (h : beqO a b = true) : a = b := by
  unfold beqO at h
  split at h
  · rw [beqVs_eq h]
  · rw [beqK_eq h]
  · cases h
/-! closed runs -/
def isT (x : Out IV) : Bool := match x with
  | .ok (.bl true) _ => true
  | _ => false
theorem isT_of {x : Out IV} (h : isT x = true) : ∃ hs, x = .ok (.bl true) hs := by
  unfold isT at h
  split at h
  · exact ⟨_, rfl⟩
  · cases h
def retT (x : Fl) : Bool := match x with
  | .ret (.bl true) _ => true
  | _ => false
theorem retT_of {x : Fl} (h : retT x = true) : ∃ hs, x = .ret (.bl true) hs := by
  unfold retT at h
  split at h
  · exact ⟨_, rfl⟩
  · cases h
def toks (k : Nat) : List IV := (List.range k).map .tok
/-- how many things each error keeps -/
def kept (i : Nat) : Nat := (clsFlds.getD (i + 1) []).length
def e0 : IH := ⟨0, .e⟩
abbrev cN : MI.Ctx := ctx prog 12
theorem kept_le : ∀ i, i < 58 → kept i ≤ 2 := by decide +kernel
set_option maxHeartbeats 0 in
theorem own_chk : (List.range 58).all (fun i => isT (cN.call 12 [.exc (i + 1) (toks (kept i)), .int i] e0)) = true := by decide +kernel
def VS : List IV := [.non, .int 5, .int (-1), .bl true, .str "a", .str "", .ref 0, .tup [.int 2, .non], .ref 1, .ref 3, .int (10 ^ 30), .tup [.str "s", .int 3], .bl false, .int 0, .int 1]
def VSd (i : Nat) : IV := VS.getD i .non
def hSm (vals : List IV) : IH := (((((e0.push (.lst [.int 1, .str "b"])).push (.dct [(.inr "a", .int 1)])).push (.lst [.str "x"])).push (.lst [.ref 2])).push (.lst vals)).push (.lst vals)
def sameChk (is : List Nat) : Bool := match cN.call 14 [.ref 4, .ref 5] (hSm (is.map VSd)) with
  | .ok (.bl true) hs => (List.range 6).all fun i => beqO (hs.get i) ((hSm (is.map VSd)).get i)
  | _ => false
theorem same_chk0 : sameChk [] = true := by decide +kernel
theorem same_chk1 : (List.range 15).all (fun i => sameChk [i]) = true := by decide +kernel
set_option maxHeartbeats 0 in
theorem same_chk2 : (List.range 15).all (fun i => (List.range 15).all fun j => sameChk [i, j]) = true := by decide +kernel
def lamChk (i : Nat) : Bool := match cN.lam i [] [.exc (i + 1) (toks (kept i))] e0 with
  | .ok (.ref 0) hs => beqO (hs.get 0) (some (.lst (toks (kept i)))) && (hs.n == 1)
  | _ => false
theorem lam_chk : (List.range 58).all lamChk = true := by decide +kernel
def sR : MI.Env := [none, none, none, none, some (.tok 0), some (.tok 1), some (.tok 2), none, none, none, none, none, none, none, none]
def sR7 (L : Nat) : MI.Env := [none, none, none, none, some (.tok 0), some (.tok 1), some (.tok 2), some (.ref L), none, none, none, none, none, none, none]
def rowOk (hs : IH) (rows : List IV) (i : Nat) : Bool := match rows[i]? with
  | some (.tup [.exc c1 v1, .exc c2 v2, .ref a, .ref b]) => decide (c1 = i + 1) && decide (c2 = i + 1) && beqVs v1 (toks (kept i)) && beqVs v2 (toks (kept i)) && (match hs.get a with
    | some (.lam k []) => decide (k = i)
    | _ => false) && beqO (hs.get b) (some (.lst (toks (kept i)))) && decide (b < hs.n) && decide (a < hs.n)
  | _ => false
def rowsChk : Bool := match rowE cN sR e0 with
  | .ok (.ref L) h1 => (match rowX cN (sR7 L) h1 with
    | .ok _ hs => (match hs.get L with
      | some (.lst rows) => decide (rows.length = 58) && (decide (L < hs.n) && (List.range 58).all fun i => rowOk hs rows i)
      | _ => false)
    | _ => false)
  | _ => false
set_option maxHeartbeats 0 in
theorem rows_chk : rowsChk = true := by decide +kernel
def sD : MI.Env := (List.range 13).map (fun k => some (.tok k)) ++ [none, none]
set_option maxHeartbeats 0 in
theorem pD_chk : retT (pD cN sD e0) = true := by decide +kernel
end Law
end

section
set_option Elab.async false
set_option linter.all false
set_option maxRecDepth 100000
set_option autoImplicit false
set_option maxHeartbeats 2000000
namespace Law
open PySem L2 MI
abbrev All : Nat → Prop := fun _ => True
/-- from a run in the empty heap -/
def s0 (θ : Nat → IV) (B : IH) : Sub := ⟨fun i => B.n + i, θ, 0, B⟩
theorem sim0 (θ : Nat → IV) (B : IH) : Sim (s0 θ B) e0 B := by
  refine ⟨fun k => by show B.n + (0 + k) = B.n + k; omega, Nat.le_refl _, fun i j e => by change B.n + i = B.n + j at e; omega, fun i _ => by show B.n ≤ B.n + i; omega, fun i o e => ?_, fun j _ _ => rfl⟩
  cases e
theorem ext0 {θ : Nat → IV} {B hs h' : IH} (S : Sim (s0 θ B) hs h') : Ext All B h' := by
  refine ⟨?_, fun j hj _ => S.fr j hj fun i hi => absurd hi (Nat.not_lt_zero _)⟩
  have : B.n + (hs.n + 0) = h'.n + 0 := S.n 0
  omega
theorem ren_toks (s : Sub) (k : Nat) : (toks k).map (renV s) = (List.range k).map s.θ := by
  unfold toks
  rw [List.map_map]; rfl
def vsθ (θ : Nat → IV) (i : Nat) : List IV := (List.range (kept i)).map θ
theorem own_ok (θ : Nat → IV) {i : Nat} (hi : i < 58) (h : IH) : ∃ h', cN.call 12 [.exc (i + 1) (vsθ θ i), .int i] h = .ok (.bl true) h' ∧ Ext All h h' := by
  have q := List.all_eq_true.mp own_chk i (List.mem_range.mpr hi)
  obtain ⟨hs, e⟩ := isT_of q
  have c := (ctxS (s := s0 θ h) prog (progS _) 12).call 12 [.exc (i + 1) (toks (kept i)), .int i] e0 h (sim0 θ h)
  rw [e] at c
  obtain ⟨h', e', S⟩ := c
  refine ⟨h', ?_, ext0 S⟩
  refine Eq.trans ?_ e'
  show _ = cN.call 12 [renV (s0 θ h) (.exc (i + 1) (toks (kept i))), .int i] h
  rw [ren_exc, ren_toks]; rfl
theorem lam_ok (θ : Nat → IV) {i : Nat} (hi : i < 58) (h : IH) : ∃ h', cN.lam i [] [.exc (i + 1) (vsθ θ i)] h = .ok (.ref h.n) h' ∧ h'.get h.n = some (.lst (vsθ θ i)) ∧ h'.n = h.n + 1 ∧ Ext All h h' := by
  have q := List.all_eq_true.mp lam_chk i (List.mem_range.mpr hi)
  have c := (ctxS (s := s0 θ h) prog (progS _) 12).lam i [] [.exc (i + 1) (toks (kept i))] e0 h (sim0 θ h)
  unfold lamChk at q
  split at q
  · rename_i hs e
    rw [Bool.and_eq_true] at q
    rw [e] at c
    obtain ⟨h', e', S⟩ := c
    have w := S.ob 0 _ (beqO_eq q.1)
    have n1 : hs.n = 1 := eq_of_beq q.2
    have n2 : h.n + (hs.n + 0) = h'.n + 0 := S.n 0
    refine ⟨h', ?_, ?_, by omega, ext0 S⟩
    · refine Eq.trans ?_ e'
      show _ = cN.lam i [] [renV (s0 θ h) (.exc (i + 1) (toks (kept i)))] h
      rw [ren_exc, ren_toks]; rfl
    · show h'.get (h.n + 0) = _
      rw [show h'.get (h.n + 0) = _ from w]
      show some (IO.lst ((toks (kept i)).map (renV (s0 θ h)))) = _
      rw [ren_toks]; rfl
  · cases q
/-! the fifteen things -/
def V15 : List IV := [.non, .int 5, .int (-1), .bl true, .str "a", .str "", .ref 2, .tup [.int 2, .non], .ref 3, .ref 5, .int (10 ^ 30), .tup [.str "s", .int 3], .bl false, .int 0, .int 1]
def VB (i : Nat) : IV := V15.getD i .non
structure Data (h : IH) : Prop where
  d2 : h.get 2 = some (.lst [.int 1, .str "b"])
  d3 : h.get 3 = some (.dct [(.inr "a", .int 1)])
  d4 : h.get 4 = some (.lst [.str "x"])
  d5 : h.get 5 = some (.lst [.ref 4])
  n : 7 ≤ h.n
theorem Data.ext {h h' : IH} (D : Data h) (e : Ext All h h') : Data h' :=
  ⟨(e.g 2 (by have := D.n; omega) trivial).trans D.d2, (e.g 3 (by have := D.n; omega) trivial).trans D.d3, (e.g 4 (by have := D.n; omega) trivial).trans D.d4, (e.g 5 (by have := D.n; omega) trivial).trans D.d5, Nat.le_trans D.n e.n⟩
def ρ1 (a b n : Nat) (i : Nat) : Nat := if i < 4 then i + 2 else if i = 4 then a else if i = 5 then b else n + (i - 6)
def s1 (a b : Nat) (B : IH) : Sub := ⟨ρ1 a b B.n, fun _ => .non, 6, B⟩
theorem ren_VS (a b : Nat) (B : IH) (i : Nat) : renV (s1 a b B) (VSd i) = VB i := by
  have e : VS.map (renV (s1 a b B)) = V15 := rfl
  unfold VB VSd
  rw [← e]
  simp only [List.getD_eq_getElem?_getD, List.getElem?_map]
  cases VS[i]? <;> rfl
theorem ren_VSs (a b : Nat) (B : IH) (is : List Nat) : (is.map VSd).map (renV (s1 a b B)) = is.map VB := by
  rw [List.map_map]
  exact List.map_congr_left fun i _ => ren_VS a b B i
theorem hSm_n (v : List IV) : (hSm v).n = 6 := rfl
theorem hSm_get (v : List IV) (i : Nat) : (hSm v).get i = if i = 5 then some (.lst v) else if i = 4 then some (.lst v) else if i = 3 then some (.lst [.ref 2]) else if i = 2 then some (.lst [.str "x"]) else if i = 1 then some (.dct [(.inr "a", .int 1)]) else if i = 0 then some (.lst [.int 1, .str "b"]) else none := by
  unfold hSm
  rw [IH.get_push, IH.get_push, IH.get_push, IH.get_push, IH.get_push, IH.get_push]; rfl
theorem same_ok {is : List Nat} (hc : sameChk is = true) {B : IH} {a b : Nat} (D : Data B) (ha : 6 ≤ a) (hb : 6 ≤ b) (hab : a ≠ b) (la : a < B.n) (lb : b < B.n) (ea : B.get a = some (.lst (is.map VB))) (eb : B.get b = some (.lst (is.map VB))) :
    ∃ h', cN.call 14 [.ref a, .ref b] B = .ok (.bl true) h' ∧ Ext All B h' := by
  have hn := D.n
  have S : Sim (s1 a b B) (hSm (is.map VSd)) B := by
    refine ⟨fun k => ?_, Nat.le_refl _, fun i j e => ?_, fun i hi => ?_, fun i o e => ?_, fun j _ _ => rfl⟩
    · rw [hSm_n]
      show ρ1 a b B.n (6 + k) = B.n + k
      unfold ρ1
      rw [if_neg (by omega), if_neg (by omega), if_neg (by omega)]
      omega
    · change ρ1 a b B.n i = ρ1 a b B.n j at e
      unfold ρ1 at e
      repeat' split at e
      all_goals omega
    · show B.n ≤ ρ1 a b B.n i
      change 6 ≤ i at hi
      unfold ρ1
      rw [if_neg (by omega), if_neg (by omega), if_neg (by omega)]
      omega
    · show B.get (ρ1 a b B.n i) = _
      rw [hSm_get] at e
      by_cases h5 : i = 5
      · subst h5; cases e; rw [show ρ1 a b B.n 5 = b from rfl, eb]; show _ = some (IO.lst ((is.map VSd).map (renV (s1 a b B)))); rw [ren_VSs]
      rw [if_neg h5] at e
      by_cases h4 : i = 4
      · subst h4; cases e; rw [show ρ1 a b B.n 4 = a from rfl, ea]; show _ = some (IO.lst ((is.map VSd).map (renV (s1 a b B)))); rw [ren_VSs]
      rw [if_neg h4] at e
      by_cases h3 : i = 3
      · subst h3; cases e; exact D.d5
      rw [if_neg h3] at e
      by_cases h2 : i = 2
      · subst h2; cases e; exact D.d4
      rw [if_neg h2] at e
      by_cases h1 : i = 1
      · subst h1; cases e; exact D.d3
      rw [if_neg h1] at e
      by_cases h0 : i = 0
      · subst h0; cases e; exact D.d2
      rw [if_neg h0] at e
      cases e
  have c := (ctxS (s := s1 a b B) prog (progS _) 12).call 14 [.ref 4, .ref 5] _ B S
  have q := hc
  unfold sameChk at q
  split at q
  · rename_i hs e
    rw [e] at c
    obtain ⟨h', e', S'⟩ := c
    refine ⟨h', e', ?_⟩
    have n0 := S'.n 0
    have ge : 6 ≤ hs.n := S'.ge
    change ρ1 a b B.n (hs.n + 0) = h'.n + 0 at n0
    unfold ρ1 at n0
    rw [if_neg (by omega), if_neg (by omega), if_neg (by omega)] at n0
    refine ⟨by omega, fun j hj _ => ?_⟩
    by_cases hz : ∃ i, i < 6 ∧ ρ1 a b B.n i = j
    · obtain ⟨i, hi, ej⟩ := hz
      have w := beqO_eq (List.all_eq_true.mp q i (List.mem_range.mpr hi))
      have hex : ∃ o, (hSm (is.map VSd)).get i = some o := by
        rw [hSm_get]
        match i, hi with
        | 0, _ => exact ⟨_, rfl⟩
        | 1, _ => exact ⟨_, rfl⟩
        | 2, _ => exact ⟨_, rfl⟩
        | 3, _ => exact ⟨_, rfl⟩
        | 4, _ => exact ⟨_, rfl⟩
        | 5, _ => exact ⟨_, rfl⟩
      obtain ⟨o, ho⟩ := hex
      have w1 := S'.ob i o (w.trans ho)
      have w2 := S.ob i o ho
      rw [← ej]
      exact w1.trans w2.symm
    · exact S'.fr j hj fun i hi ej => hz ⟨i, hi, ej⟩
  · cases q
end Law
end

section
set_option Elab.async false
set_option linter.all false
set_option maxRecDepth 100000
set_option autoImplicit false
set_option maxHeartbeats 2000000
namespace Law
open PySem L2 MI
/-- the rows that were made -/
structure RowsAt (B h : IH) (L : Nat) (θ : Nat → IV) (rows : List IV) : Prop where
  get : h.get L = some (.lst rows)
  len : rows.length = 58
  row : ∀ i, i < 58 → ∃ a b, rows[i]? = some (.tup [.exc (i + 1) (vsθ θ i), .exc (i + 1) (vsθ θ i), .ref a, .ref b]) ∧ h.get a = some (.lam i []) ∧ h.get b = some (.lst (vsθ θ i)) ∧ B.n ≤ b ∧ b < h.n ∧ a < h.n
  l : L < h.n
def θ3 (x y z : IV) (k : Nat) : IV := [x, y, z].getD k .non
theorem rowOk_of {hs : IH} {rows : List IV} {i : Nat} (q : rowOk hs rows i = true) : ∃ a b, rows[i]? = some (.tup [.exc (i + 1) (toks (kept i)), .exc (i + 1) (toks (kept i)), .ref a, .ref b]) ∧ hs.get a = some (.lam i []) ∧ hs.get b = some (.lst (toks (kept i))) ∧ b < hs.n ∧ a < hs.n := by
  unfold rowOk at q
  split at q
  · rename_i c1 v1 c2 v2 a b e
    simp only [Bool.and_eq_true, decide_eq_true_eq] at q
    obtain ⟨⟨⟨⟨⟨⟨⟨q1, q2⟩, q3⟩, q4⟩, q5⟩, q6⟩, q7⟩, q8⟩ := q
    refine ⟨a, b, ?_, ?_, beqO_eq q6, q7, q8⟩
    · rw [e, q1, q2, beqVs_eq q3, beqVs_eq q4]
    · split at q5
      · rename_i k e2
        rw [of_decide_eq_true q5] at e2
        exact e2
      · cases q5
  · cases q
theorem rows_ok {x y z : IV} {σ : MI.Env} {B : IH} (h4 : vGet σ 4 = some x) (h5 : vGet σ 5 = some y) (h6 : vGet σ 6 = some z) (hl : 7 < σ.length) :
    ∃ L h1 u h' rows, rowE cN σ B = .ok (.ref L) h1 ∧ rowX cN (σ.set 7 (some (.ref L))) h1 = .ok u h' ∧ Ext All B h' ∧ RowsAt B h' L (θ3 x y z) rows := by
  have q := rows_chk
  unfold rowsChk at q
  split at q
  · rename_i L h1 e1
    split at q
    · rename_i u hs e2
      split at q
      · rename_i rows e3
        rw [Bool.and_eq_true, Bool.and_eq_true] at q
        have C := ctxS (s := s0 (θ3 x y z) B) prog (progS _) 12
        have c1 := q_rowE (s := s0 (θ3 x y z) B) cN sR e0 B C (sim0 _ B)
        rw [e1] at c1
        obtain ⟨h1', e1', S1⟩ := c1
        have c2 := q_rowX (s := s0 (θ3 x y z) B) cN (sR7 L) h1 h1' C S1
        rw [e2] at c2
        obtain ⟨h', e2', S2⟩ := c2
        have hE : rowE cN σ B = rowE cN (renE (s0 (θ3 x y z) B) sR) B := by
          have a4 : vGet (renE (s0 (θ3 x y z) B) sR) 4 = some x := rfl
          have a5 : vGet (renE (s0 (θ3 x y z) B) sR) 5 = some y := rfl
          have a6 : vGet (renE (s0 (θ3 x y z) B) sR) 6 = some z := rfl
          simp only [rowE, eOp, eCall, lCons, lNil, eVar, h4, h5, h6, a4, a5, a6]
        have hX : rowX cN (σ.set 7 (some (.ref (B.n + L)))) h1' = rowX cN (renE (s0 (θ3 x y z) B) (sR7 L)) h1' := by
          have a4 : vGet (renE (s0 (θ3 x y z) B) (sR7 L)) 4 = some x := rfl
          have a5 : vGet (renE (s0 (θ3 x y z) B) (sR7 L)) 5 = some y := rfl
          have a6 : vGet (renE (s0 (θ3 x y z) B) (sR7 L)) 6 = some z := rfl
          have a7 : vGet (renE (s0 (θ3 x y z) B) (sR7 L)) 7 = some (.ref (B.n + L)) := rfl
          have b4 : vGet (σ.set 7 (some (.ref (B.n + L)))) 4 = some x := (vGet_set_ne (by decide)).trans h4
          have b5 : vGet (σ.set 7 (some (.ref (B.n + L)))) 5 = some y := (vGet_set_ne (by decide)).trans h5
          have b6 : vGet (σ.set 7 (some (.ref (B.n + L)))) 6 = some z := (vGet_set_ne (by decide)).trans h6
          have b7 : vGet (σ.set 7 (some (.ref (B.n + L)))) 7 = some (.ref (B.n + L)) := vGet_set_eq hl
          simp only [rowX, eMeth, eCall, lCons, lNil, eVar, a4, a5, a6, a7, b4, b5, b6, b7]
        refine ⟨B.n + L, h1', _, h', rows.map (renV (s0 (θ3 x y z) B)), hE.trans e1', hX.trans e2', ext0 S2, ?_⟩
        have n0 : B.n + (hs.n + 0) = h'.n + 0 := S2.n 0
        have row : ∀ i, i < 58 → ∃ a b, (rows.map (renV (s0 (θ3 x y z) B)))[i]? = some (.tup [.exc (i + 1) (vsθ (θ3 x y z) i), .exc (i + 1) (vsθ (θ3 x y z) i), .ref a, .ref b]) ∧ h'.get a = some (.lam i []) ∧ h'.get b = some (.lst (vsθ (θ3 x y z) i)) ∧ B.n ≤ b ∧ b < h'.n ∧ a < h'.n := by
          intro i hi
          obtain ⟨a, b, r1, r2, r3, r4, r5⟩ := rowOk_of (List.all_eq_true.mp q.2.2 i (List.mem_range.mpr hi))
          refine ⟨B.n + a, B.n + b, ?_, S2.ob a _ r2, ?_, by omega, by omega, by omega⟩
          · rw [List.getElem?_map, r1]
            show some (renV (s0 (θ3 x y z) B) _) = _
            rw [ren_tup]
            show some (IV.tup [renV (s0 (θ3 x y z) B) _, renV (s0 (θ3 x y z) B) _, .ref (B.n + a), .ref (B.n + b)]) = _
            rw [ren_exc, ren_toks]; rfl
          · have w := S2.ob b _ r3
            change h'.get (B.n + b) = some (IO.lst ((toks (kept i)).map (renV (s0 (θ3 x y z) B)))) at w
            rw [ren_toks] at w
            exact w
        exact ⟨S2.ob L _ e3, by rw [List.length_map]; exact of_decide_eq_true q.1, row, by have := of_decide_eq_true q.2.1; omega⟩
      · cases q
    · cases q
  · cases q
/-! one row -/
theorem these {ix iy : Nat} (hx : ix < 15) (hy : iy < 15) (z : IV) {i : Nat} (hi : i < 58) : ∃ is, vsθ (θ3 (VB ix) (VB iy) z) i = is.map VB ∧ sameChk is = true := by
  have k := kept_le i hi
  unfold vsθ
  match e : kept i, k with
  | 0, _ => exact ⟨[], rfl, same_chk0⟩
  | 1, _ => exact ⟨[ix], rfl, List.all_eq_true.mp same_chk1 ix (List.mem_range.mpr hx)⟩
  | 2, _ => exact ⟨[ix, iy], rfl, List.all_eq_true.mp (List.all_eq_true.mp same_chk2 ix (List.mem_range.mpr hx)) iy (List.mem_range.mpr hy)⟩
/-- f(e), then whether it is what is due -/
theorem field_ok {θ : Nat → IV} {i : Nat} (hi : i < 58) {is : List Nat} (ev : vsθ θ i = is.map VB) (hc : sameChk is = true) {σ : MI.Env} {j a b : Nat} {h : IH} (D : Data h) (g9 : vGet σ j = some (.exc (i + 1) (vsθ θ i))) (g11 : vGet σ 11 = some (.ref a)) (g12 : vGet σ 12 = some (.ref b)) (ea : h.get a = some (.lam i [])) (eb : h.get b = some (.lst (vsθ θ i))) (lb : b < h.n) (hb : 6 ≤ b) :
    ∃ h', (eCall 14 (lCons (eCallF (eVar 11) (lCons (eVar j) lNil)) (lCons (eVar 12) lNil))) cN σ h = .ok (.bl true) h' ∧ Ext All h h' := by
  obtain ⟨h1, e1, e2, e3, x1⟩ := lam_ok θ hi h
  have eb1 : h1.get b = some (.lst (vsθ θ i)) := (x1.g b lb trivial).trans eb
  have hn := D.n
  obtain ⟨h2, e4, x2⟩ := same_ok hc (B := h1) (a := h.n) (b := b) (D.ext x1) (by omega) hb (by omega) (by omega) (by omega) (by rw [e2, ev]) (by rw [eb1, ev])
  refine ⟨h2, ?_, x1.trans x2⟩
  have f1 : fnVal h (.ref a) = some (.inr (i, [])) := by
    show (match h.get a with
      | some (.lam k cs) => some (Sum.inr (k, cs))
      | _ => none) = _
    rw [ea]
  simp only [eCall, eCallF, lCons, lNil, eVar, g9, g11, g12, Out.of, Out.bind, f1, e1, e4]
theorem rB_ok {θ : Nat → IV} {i : Nat} (hi : i < 58) {is : List Nat} (ev : vsθ θ i = is.map VB) (hc : sameChk is = true) {σ : MI.Env} {a b : Nat} {h : IH} (D : Data h) (g8 : vGet σ 8 = some (.int i)) (g9 : vGet σ 9 = some (.exc (i + 1) (vsθ θ i))) (g10 : vGet σ 10 = some (.exc (i + 1) (vsθ θ i))) (g11 : vGet σ 11 = some (.ref a)) (g12 : vGet σ 12 = some (.ref b)) (ea : h.get a = some (.lam i [])) (eb : h.get b = some (.lst (vsθ θ i))) (lb : b < h.n) (la : a < h.n) (hb : 6 ≤ b) :
    ∃ h', rB cN σ h = .nx σ h' ∧ Ext All h h' := by
  obtain ⟨h1, e1, x1⟩ := own_ok θ hi h
  obtain ⟨h2, e2, x2⟩ := own_ok θ hi h1
  have x12 := x1.trans x2
  obtain ⟨h3, e3, x3⟩ := field_ok hi ev hc (D.ext x12) g9 g11 g12 ((x12.g a la trivial).trans ea) ((x12.g b lb trivial).trans eb) (Nat.lt_of_lt_of_le lb x12.n) hb
  have x13 := x12.trans x3
  obtain ⟨h4, e4, x4⟩ := field_ok hi ev hc (D.ext x13) g10 g11 g12 ((x13.g a la trivial).trans ea) ((x13.g b lb trivial).trans eb) (Nat.lt_of_lt_of_le lb x13.n) hb
  refine ⟨h4, ?_, x13.trans x4⟩
  have t1 : (eCall 12 (lCons (eVar 9) (lCons (eVar 8) lNil))) cN σ h = .ok (.bl true) h1 := by
    simp only [eCall, lCons, lNil, eVar, g8, g9, Out.of, Out.bind, e1]
  have t2 : (eCall 12 (lCons (eVar 10) (lCons (eVar 8) lNil))) cN σ h1 = .ok (.bl true) h2 := by
    simp only [eCall, lCons, lNil, eVar, g8, g10, Out.of, Out.bind, e2]
  simp [rB, sSeq, Fl.seq, sIf, flowT, MI.tOr, MI.tNot, tVal, Out.of, Out.bind, MI.truthy, t1, t2, e3, e4, sNx]
theorem loop_ok {H0 : IH} {B : IH} {L : Nat} {θ : Nat → IV} {rows : List IV} (R : RowsAt B H0 L θ rows) (D : Data H0) (hB : 6 ≤ B.n) (T : ∀ i, i < 58 → ∃ is, vsθ θ i = is.map VB ∧ sameChk is = true) (s0' s1' s2' s3' s4' s5' s6' s7' : Option IV) :
    ∀ (f k : Nat) (h : IH) (o8 o9 o10 o11 o12 : Option IV), f + k = 58 → Ext All H0 h → (0 < f ∨ ∃ v8 v9 v10 v11 v12, o8 = some v8 ∧ o9 = some v9 ∧ o10 = some v10 ∧ o11 = some v11 ∧ o12 = some v12) →
      ∃ v8 v9 v10 v11 v12 h', forL (.enum (.lst L)) rG rB cN f k [s0', s1', s2', s3', s4', s5', s6', s7', o8, o9, o10, o11, o12, none, none] h = .nx [s0', s1', s2', s3', s4', s5', s6', s7', some v8, some v9, some v10, some v11, some v12, none, none] h' ∧ Ext All H0 h' := by
  intro f
  induction f with
  | zero =>
    intro k h o8 o9 o10 o11 o12 hk x hz
    obtain hz | ⟨v8, v9, v10, v11, v12, rfl, rfl, rfl, rfl, rfl⟩ := hz
    · omega
    refine ⟨v8, v9, v10, v11, v12, h, ?_, x⟩
    have eL : h.get L = some (.lst rows) := (x.g L R.l trivial).trans R.get
    have en : rows[k]? = none := List.getElem?_eq_none (by rw [R.len]; omega)
    have : Src.at (.enum (.lst L)) k h = .stop := by simp only [Src.at, eL, en, ofIx]
    unfold forL
    rw [this]
  | succ f ihf =>
    intro k h o8 o9 o10 o11 o12 hk x hz
    have hk58 : k < 58 := by omega
    obtain ⟨a, b, r1, r2, r3, r4, r5, r6⟩ := R.row k hk58
    obtain ⟨is, ev, hc⟩ := T k hk58
    have eL : h.get L = some (.lst rows) := (x.g L R.l trivial).trans R.get
    have e1 : Src.at (.enum (.lst L)) k h = .yld (.tup [.int k, .tup [.exc (k + 1) (vsθ θ k), .exc (k + 1) (vsθ θ k), .ref a, .ref b]]) := by simp only [Src.at, eL, r1, ofIx]
    let σ1 : MI.Env := [s0', s1', s2', s3', s4', s5', s6', s7', some (.int k), some (.exc (k + 1) (vsθ θ k)), some (.exc (k + 1) (vsθ θ k)), some (.ref a), some (.ref b), none, none]
    obtain ⟨h1, e2, x1⟩ := rB_ok (σ := σ1) (θ := θ) (a := a) (b := b) hk58 ev hc (D.ext x) rfl rfl rfl rfl rfl ((x.g a r6 trivial).trans r2) ((x.g b r5 trivial).trans r3) (Nat.lt_of_lt_of_le r5 x.n) (Nat.lt_of_lt_of_le r6 x.n) (by omega)
    obtain ⟨v8, v9, v10, v11, v12, h', e3, x3⟩ := ihf (k + 1) h1 (some (.int k)) (some (.exc (k + 1) (vsθ θ k))) (some (.exc (k + 1) (vsθ θ k))) (some (.ref a)) (some (.ref b)) (by omega) (x.trans x1) (.inr ⟨_, _, _, _, _, rfl, rfl, rfl, rfl, rfl⟩)
    refine ⟨v8, v9, v10, v11, v12, h', ?_, x3⟩
    unfold forL
    rw [e1]
    show ((rB cN σ1 h).turn _) = _
    rw [e2]
    exact e3
end Law
end

section
set_option Elab.async false
set_option linter.all false
set_option maxRecDepth 100000
set_option autoImplicit false
set_option maxHeartbeats 2000000
namespace Law
open PySem L2 MI
structure Inv (h : IH) (v : Int) : Prop where
  d : Data h
  s : h.get 6 = some (.lst V15)
  st : Stm h 1 0 v
theorem Inv.ext {h h' : IH} {v : Int} (I : Inv h v) (e : Ext All h h') : Inv h' v :=
  ⟨I.d.ext e, (e.g 6 (by have := I.d.n; omega) trivial).trans I.s, I.st.ext (P := All) ⟨trivial, trivial⟩ e⟩
theorem off10 {j : Nat} (h : 2 ≤ j) : off 1 0 j := ⟨by omega, by omega⟩
theorem Inv.extOff {h h' : IH} {v w : Int} (I : Inv h v) (e : Ext (off 1 0) h h') (S : Stm h' 1 0 w) : Inv h' w := by
  have hn := I.d.n
  exact ⟨⟨(e.g 2 (by omega) (off10 (by omega))).trans I.d.d2, (e.g 3 (by omega) (off10 (by omega))).trans I.d.d3, (e.g 4 (by omega) (off10 (by omega))).trans I.d.d4, (e.g 5 (by omega) (off10 (by omega))).trans I.d.d5, Nat.le_trans hn e.n⟩, (e.g 6 (by omega) (off10 (by omega))).trans I.s, S⟩
theorem mem15 {x : IV} (h : x ∈ V15) : ∃ i, i < 15 ∧ VB i = x := by
  obtain ⟨i, hi, e⟩ := List.mem_iff_getElem.mp h
  refine ⟨i, hi, ?_⟩
  unfold VB
  rw [List.getD_eq_getElem?_getD, List.getElem?_eq_getElem hi, e]; rfl
theorem draw1 : DrawC (ctx prog 11) 1 := drawC (P := prog) (n := 10) (g := 1) rfl
theorem mix2 : MixC cN 2 := mixC (P := prog) (n := 11) (g := 1) (g2 := 2) draw1 rfl
theorem cut3 {x y z : IV} {r : List IV} (hl : (x :: y :: z :: r).length = 15) : cutI (x :: y :: z :: r) none (some 3) = [x, y, z] := by
  unfold cutI
  rw [hl]; rfl
theorem pT1_run {h : IH} {v : Int} (I : Inv h v) (hv : v < 800000000) (a0 a3 o4 o5 o6 o7 o8 o9 o10 o11 o12 o13 o14 : Option IV) :
    ∃ ix iy z h', ix < 15 ∧ iy < 15 ∧ pT1 cN [a0, some (.ref 1), some (.ref 6), a3, o4, o5, o6, o7, o8, o9, o10, o11, o12, o13, o14] h = .nx [a0, some (.ref 1), some (.ref 6), a3, some (VB ix), some (VB iy), some z, o7, o8, o9, o10, o11, o12, o13, o14] h' ∧ Inv h' (v + 15) := by
  obtain ⟨d, us, h1, e1, e2, e3, e4, e5, e6, e7⟩ := mix2 h 1 0 6 v V15 I.st I.s (off10 (by omega)) (by have := I.d.n; omega) (by decide) (by show v + (15 : Nat) < _; omega)
  have hl : us.length = 15 := e5.length_eq
  match us, hl, e4, e5 with
  | x :: y :: z :: r, hl, e4, e5 =>
    obtain ⟨ix, hx, rfl⟩ := mem15 (e5.mem_iff.mp (List.mem_cons_self ..))
    obtain ⟨iy, hy, rfl⟩ := mem15 (e5.mem_iff.mp (List.mem_cons_of_mem _ (List.mem_cons_self ..)))
    have x2 : Ext All h1 (h1.push (.lst [VB ix, VB iy, z])) := Ext.push _
    refine ⟨ix, iy, z, h1.push (.lst [VB ix, VB iy, z]), hx, hy, ?_, (I.extOff e7 (w := v + 15) e6).ext x2⟩
    have q1 : (eCall 2 (lCons (eVar 1) (lCons (eVar 2) lNil))) cN [a0, some (.ref 1), some (.ref 6), a3, o4, o5, o6, o7, o8, o9, o10, o11, o12, o13, o14] h = .ok (.ref d) h1 := e1
    have q2 : fCut (.ref d) none (some 3) h1 = .ok (.ref h1.n) (h1.push (.lst [VB ix, VB iy, z])) := by
      unfold fCut
      simp only [e4, cut3 hl]
    have q3 : rowOf (h1.push (.lst [VB ix, VB iy, z])) (.ref h1.n) = some [VB ix, VB iy, z] := by
      simp only [rowOf, IH.get_push, if_true]
    have q4 : (eCut (eCall 2 (lCons (eVar 1) (lCons (eVar 2) lNil))) oNone (oSome (eCon (.int 3)))) cN [a0, some (.ref 1), some (.ref 6), a3, o4, o5, o6, o7, o8, o9, o10, o11, o12, o13, o14] h = .ok (.ref h1.n) (h1.push (.lst [VB ix, VB iy, z])) := by
      unfold eCut
      rw [q1]
      exact q2
    unfold pT1 sAsg
    rw [q4]
    show (MI.gTup 3 _ (.ref h1.n) cN _ (h1.push (.lst [VB ix, VB iy, z]))).fl = _
    unfold MI.gTup
    rw [q3]
    rfl
theorem pTB_run {h : IH} {v : Int} (I : Inv h v) (hv : v < 800000000) (a0 a3 o4 o5 o6 o7 o8 o9 o10 o11 o12 : Option IV) :
    ∃ v4 v5 v6 v7 v8 v9 v10 v11 v12 h', pTB cN [a0, some (.ref 1), some (.ref 6), a3, o4, o5, o6, o7, o8, o9, o10, o11, o12, none, none] h = .nx [a0, some (.ref 1), some (.ref 6), a3, some v4, some v5, some v6, some v7, some v8, some v9, some v10, some v11, some v12, none, none] h' ∧ Inv h' (v + 15) := by
  obtain ⟨ix, iy, z, h1, hx, hy, e1, I1⟩ := pT1_run I hv a0 a3 o4 o5 o6 o7 o8 o9 o10 o11 o12 none none
  obtain ⟨L, h2, u, h3, rows, e2, e3, x3, R⟩ := rows_ok (x := VB ix) (y := VB iy) (z := z) (σ := [a0, some (.ref 1), some (.ref 6), a3, some (VB ix), some (VB iy), some z, o7, o8, o9, o10, o11, o12, none, none]) (B := h1) rfl rfl rfl (by show 7 < 15; decide)
  have hn := I1.d.n
  obtain ⟨v8, v9, v10, v11, v12, h4, e4, x4⟩ := loop_ok R (I1.d.ext x3) (by omega) (fun i hi => these hx hy z hi) a0 (some (.ref 1)) (some (.ref 6)) a3 (some (VB ix)) (some (VB iy)) (some z) (some (.ref L)) 58 0 h3 o8 o9 o10 o11 o12 rfl Ext.refl (.inl (by decide))
  refine ⟨VB ix, VB iy, z, .ref L, v8, v9, v10, v11, v12, h4, ?_, I1.ext (x3.trans x4)⟩
  unfold pTB
  show (pT1 cN _ h).seq _ = _
  rw [e1]
  show (flow (rowE cN _ h1) _ _).seq _ = _
  rw [e2]
  show (flow (rowX cN _ h2) _ _).seq _ = _
  rw [e3]
  have q : iEnumL (eVar 7) cN [a0, some (.ref 1), some (.ref 6), a3, some (VB ix), some (VB iy), some z, some (.ref L), o8, o9, o10, o11, o12, none, none] h3 = .ok (.enum (.lst L)) h3 := by
    have s : srcOf h3 (.ref L) = some (.lst L) := by
      simp only [srcOf, R.get]
    show fEnum (.ref L) h3 = _
    unfold fEnum
    rw [s]
  have ql : Src.len (.enum (.lst L)) h3 = 58 := by
    simp only [Src.len, R.get]
    exact R.len
  show (sFor (iEnumL (eVar 7)) rG rB cN [a0, some (.ref 1), some (.ref 6), a3, some (VB ix), some (VB iy), some z, some (.ref L), o8, o9, o10, o11, o12, none, none] h3).seq _ = _
  unfold sFor
  rw [q]
  show (forL (.enum (.lst L)) rG rB cN (Src.len (.enum (.lst L)) h3) 0 _ h3).seq _ = _
  rw [ql, e4]
  rfl
def hA (ns : List Int) : IH := (e0.push (.lst (ns.map .int))).push (.lst [.ref 0, .int 0, .int 0, .int 89])
def hA1 (ns : List Int) : IH := ((((((hA ns).push (.lst [.int 1, .str "b"])).push (.dct [])).put 3 (.dct [(.inr "a", .int 1)])).push (.lst [.str "x"])).push (.lst [.ref 4])).push (.lst V15)
theorem start_run (ns : List Int) : pA0 cN [some (.scr ns), none, none, none, none, none, none, none, none, none, none, none, none, none, none] e0 = .nx [some (.scr ns), some (.ref 1), none, none, none, none, none, none, none, none, none, none, none, none, none] (hA ns) := by
  rfl
theorem some_run (ns : List Int) : pA1 cN [some (.scr ns), some (.ref 1), none, none, none, none, none, none, none, none, none, none, none, none, none] (hA ns) = .nx [some (.scr ns), some (.ref 1), some (.ref 6), none, none, none, none, none, none, none, none, none, none, none, none] (hA1 ns) := by
  kernel_rfl
theorem inv0 (ns : List Int) (hl : ns.length ≤ 63) : Inv (hA1 ns) 0 := by
  have g : ∀ j, (hA1 ns).get j = if j = 6 then some (.lst V15) else if j = 5 then some (.lst [.ref 4]) else if j = 4 then some (.lst [.str "x"]) else if j = 3 then some (.dct [(.inr "a", .int 1)]) else if j = 3 then some (.dct []) else if j = 2 then some (.lst [.int 1, .str "b"]) else if j = 1 then some (.lst [.ref 0, .int 0, .int 0, .int 89]) else if j = 0 then some (.lst (ns.map .int)) else none := by
    intro j
    unfold hA1 hA
    rw [IH.get_push, IH.get_push, IH.get_push, IH.get_put, IH.get_push, IH.get_push, IH.get_push, IH.get_push]
    rfl
  exact ⟨⟨(g 2).trans rfl, (g 3).trans rfl, (g 4).trans rfl, (g 5).trans rfl, (by show 7 ≤ 7; decide)⟩, (g 6).trans rfl, ns, 0, 89, ⟨(g 1).trans rfl, (g 0).trans rfl, by decide, by show 1 < 7; decide, by show 0 < 7; decide⟩, ⟨by decide, by decide, by decide, by decide, by decide⟩, by omega⟩
theorem pD_run (v0 v1 v2 v3 v4 v5 v6 v7 v8 v9 v10 v11 v12 : IV) (h : IH) : ∃ h', pD cN [some v0, some v1, some v2, some v3, some v4, some v5, some v6, some v7, some v8, some v9, some v10, some v11, some v12, none, none] h = .ret (.bl true) h' := by
  obtain ⟨hs, e⟩ := retT_of pD_chk
  have C := ctxS (s := s0 (fun k => [v0, v1, v2, v3, v4, v5, v6, v7, v8, v9, v10, v11, v12].getD k .non) h) prog (progS _) 12
  have c := q_pD (s := s0 (fun k => [v0, v1, v2, v3, v4, v5, v6, v7, v8, v9, v10, v11, v12].getD k .non) h) cN sD e0 h C (sim0 _ h)
  rw [e] at c
  obtain ⟨h', e', _⟩ := c
  exact ⟨h', e'⟩
theorem law_run (ns : List Int) (hl : ns.length ≤ 63) : ∃ ih, (ctx prog 13).call 15 [.scr ns] ⟨0, .e⟩ = .ok (.bl true) ih := by
  obtain ⟨a4, a5, a6, a7, a8, a9, a10, a11, a12, h1, e1, I1⟩ := pTB_run (inv0 ns hl) (by decide) (some (.scr ns)) (some (.int 0)) none none none none none none none none none
  obtain ⟨b4, b5, b6, b7, b8, b9, b10, b11, b12, h2, e2, I2⟩ := pTB_run I1 (by decide) (some (.scr ns)) (some (.int 1)) (some a4) (some a5) (some a6) (some a7) (some a8) (some a9) (some a10) (some a11) (some a12)
  obtain ⟨h3, e3⟩ := pD_run (.scr ns) (.ref 1) (.ref 6) (.int 1) b4 b5 b6 b7 b8 b9 b10 b11 b12 h2
  refine ⟨h3, ?_⟩
  show (m_15 cN [some (.scr ns), none, none, none, none, none, none, none, none, none, none, none, none, none, none] e0).out = _
  rw [m15_eq]
  show ((pA0 cN _ e0).seq _).out = _
  rw [start_run]
  show ((pA1 cN _ (hA ns)).seq _).out = _
  rw [some_run]
  have q : sFor (iRng1 (eCon (.int 2))) (MI.gName 3) pTB cN [some (.scr ns), some (.ref 1), some (.ref 6), none, none, none, none, none, none, none, none, none, none, none, none] (hA1 ns) = .nx [some (.scr ns), some (.ref 1), some (.ref 6), some (.int 1), some b4, some b5, some b6, some b7, some b8, some b9, some b10, some b11, some b12, none, none] h2 := by
    show ((pTB cN [some (.scr ns), some (.ref 1), some (.ref 6), some (.int 0), none, none, none, none, none, none, none, none, none, none, none] (hA1 ns)).turn _) = _
    rw [e1]
    show ((pTB cN [some (.scr ns), some (.ref 1), some (.ref 6), some (.int 1), some a4, some a5, some a6, some a7, some a8, some a9, some a10, some a11, some a12, none, none] h1).turn _) = _
    rw [e2]
    rfl
  show ((sFor (iRng1 (eCon (.int 2))) (MI.gName 3) pTB cN _ (hA1 ns)).seq _).out = _
  rw [q]
  show (pD cN _ h2).out = _
  rw [e3]
  rfl
end Law
end
set_option Elab.async false
theorem PySem.Challenge.cw_drawnandrun_k00_errors_made_holds : PySem.Challenge.rw_drawnandrun_k00_errors_made.Holds := by
  exact Law.holds_of 12 ⟨rfl, by decide, by decide⟩ fun ns hl _ => Law.law_run ns hl
