import PyProof.Rows.All
import Wide.All
import OpenK.AllK
import Wide.FinOn
import HandS.Words
import HandS.Head2
import HandS.HeadHook4
import KE.KExcIs
import HandS.ExcField
import HandS.ExcIs
import HandS.ExcInit
import HandS.HeadEnd
import HandS.HeadWalk
import HandS.ForMost
import HandS.ForExc
import HandS.Evl
import HandS.TupAny
import HandS.IsInst
import HandS.Strs
import HandS.Style
import HandS.Flow
import HandS.Wide
import HandS.SetFor
import HandS.Zip
import HandS.Codes
import HandS.Defaults
import KE.DataMinMax
import HandS.Lambda
import HandS.HotCalls
import HandS.EndTab
import HandS.SortInts
import HandS.Text
import KE.SortData
import PyProof.StrOps2
import HandS.Conv
import HandS.TryOnly
import HandS.DictComp
import KE.LtData
import HandS.SortKw
import KE.SortKeyHeap
import KE.DataMinKey
import KE.GoesMore
import PyProof.EqAt
import KE.KeyNested
import HandS.HeadHook3
import PyProof.ListStr
import PyProof.Rows.StrSplitCount
import PySem.Challenge.RW_codecolumns_k20_texts_refused
set_option Elab.async false
set_option linter.all false
set_option maxRecDepth 100000
set_option maxHeartbeats 0
namespace CC
open PySem PySem.Spec PyProof.Rows L2
def topS (i : Nat) : Stmt := PySem.Challenge.pw_codecolumns_k20_texts_refused.main.body.getD i (.Pass ⟨0, 0, 0, 0⟩)
abbrev s_need_kinds : Stmt := topS 25
abbrev s_is_word : Stmt := topS 26
abbrev s_is_value : Stmt := topS 27
abbrev s_is_part : Stmt := topS 28
abbrev s_size_of : Stmt := topS 29
abbrev s_need_condition : Stmt := topS 30
abbrev s_number_of : Stmt := topS 35
abbrev s_value_of_word : Stmt := topS 36
abbrev s_read_from : Stmt := topS 37
abbrev s_read : Stmt := topS 38
abbrev s__law_begun : Stmt := topS 40
abbrev s__law_take : Stmt := topS 41
abbrev s__law_alike : Stmt := topS 42
abbrev s__law_class : Stmt := topS 43
abbrev s__law_told : Stmt := topS 44
abbrev s__law_all : Stmt := topS 45
abbrev s__law_kinds : Stmt := topS 46
abbrev s__law_word : Stmt := topS 47
abbrev s__law_value : Stmt := topS 48
abbrev s__law_rows : Stmt := topS 49
abbrev s__law_near : Stmt := topS 50
abbrev s__law_test : Stmt := topS 51
abbrev s__law_narrow : Stmt := topS 52
abbrev s__law_condition : Stmt := topS 53
abbrev s__law_holds : Stmt := topS 54
abbrev s__law_text : Stmt := topS 55
abbrev s__law_spoilt : Stmt := topS 56
abbrev s__law_value_of : Stmt := topS 57
abbrev s__law_read : Stmt := topS 58
abbrev s__law_made : Stmt := topS 59
abbrev s__law_count : Stmt := topS 60
abbrev s__law_due : Stmt := topS 61
abbrev s_law : Stmt := topS 62
abbrev s_BadText___init__ : Stmt := inClass (topS 14) 0
end CC
namespace CC
open PySem PySem.Spec PyProof.Rows L2
def fnC (o : Obj) : List Addr := match o.data with
  | .func fd => He.refV fd.code
  | .cls cd => cd.ns :: cd.mro.flatMap He.refV
  | _ => []
def dicV (o : Obj) : List Addr := match o.data with
  | .dict es _ => es.toList.flatMap fun e => He.refV e.val
  | _ => []
def stepZ (g : Addr → Option Obj) (f : Obj → List Addr) (as : List Addr) : List Addr := as.flatMap fun a => match g a with
  | some o => f o
  | none => []
def asZ (g : Addr → Option Obj) : List Addr := (fun l1 => (fun l2 => (fun l3 => mainGlobals :: (l1 ++ (l2 ++ (l3 ++ stepZ g fnC l3)))) (stepZ g dicV l2)) (stepZ g fnC l1)) (stepZ g dicV [mainGlobals])
def frL {α : Type} : List Addr → (List Addr → α) → α
  | [], k => k []
  | a :: r, k => HandSHeadRun.frNat a fun a => frL r fun r => k (a :: r)
theorem frL_eq {α : Type} : ∀ (l : List Addr) (k : List Addr → α), frL l k = k l
  | [], _ => rfl
  | a :: r, k => by
    show (HandSHeadRun.frNat a fun a => frL r fun r => k (a :: r)) = _
    rw [HandSHeadRun.frNat_eq, frL_eq r]
def frF {α : Type} : PySem.W.Frag → (PySem.W.Frag → α) → α
  | [], k => k []
  | (a, o) :: r, k => HandSHeadRun.frNat a fun a => frF r fun r => k ((a, o) :: r)
theorem frF_eq {α : Type} : ∀ (l : PySem.W.Frag) (k : PySem.W.Frag → α), frF l k = k l
  | [], _ => rfl
  | (a, o) :: r, k => by
    show (HandSHeadRun.frNat a fun a => frF r fun r => k ((a, o) :: r)) = _
    rw [HandSHeadRun.frNat_eq, frF_eq r]
open PySem PySem.W PySem.Calls PyProof.Rows in
theorem runEq_of {r : PySem.W.OpenRow} {q : Program} {H : PySem.W.Hook} {ob : PySem.W.SharedT → H.α} {M : Nat} {loose : List PySem.Str} {w : World}
    (hA : ∀ os : OsState, (HandSHeadRun.endF (HandSHeadRun.stepQ (HandSHeadRun.denQ HandSHeadRun.tabQ) r.prog w) M r.prog w os).map (fun s => (HandSHeadRun.looksF r.prog (boot_heap w.params) s.abs, HandSHeadRun.seenQ q loose (importedModules r.prog.main.body) (fun s => PySem.W.xlAt q [] s && PySem.W.recOk r.toRowW.records s) s.abs)) = some (true, PySem.W.openGood q loose))
    (hB : ∀ os : OsState, (HandSHeadRun.endF (HandSHeadRun.stepQ (HandSHeadRun.denQ HandSHeadRun.tabQ) r.prog w) M r.prog w os).map ob = some (H.val w)) : HandSHeadRun.RunEq r q H ob M loose w := fun os => by
  have a := hA os
  have b := hB os
  cases e : HandSHeadRun.endF (HandSHeadRun.stepQ (HandSHeadRun.denQ HandSHeadRun.tabQ) r.prog w) M r.prog w os with
  | none => rw [e] at a; cases a
  | some s =>
    rw [e] at a b
    have a1 := Option.some.inj a
    have b1 : ob s = H.val w := Option.some.inj b
    obtain ⟨a2, a3⟩ := Prod.mk.inj a1
    exact congrArg some (Prod.ext a2 (Prod.ext a3 b1))
end CC
namespace CC
open PySem PySem.Spec PyProof.Rows L2
def excBh (K : PySem.W.Frag) (D : Addr) : Bool := decide (PySem.W.findIn K (.ref D) "__getattribute__" = some (some (.builtin "BaseException.__getattribute__"))) && (decide (PySem.W.findIn K (.ref D) "__getattr__" = some none) && (decide (PySem.W.subIn K (.ref D) (.type "BaseException") = some true) && (PySem.W.hasDictIn K D &&
  (decide (PySem.W.findIn K (.ref D) "__class__" = some (some (.builtin "object.__class__"))) && (decide (PySem.W.specialIn K (.builtin "object.__class__") "__get__" = some (some (.builtin "getset_descriptor.__get__"))) && (decide (PySem.W.takesIn K (.builtin "object.__class__") = some true) && decide (PySem.W.mroIn K D (.type "object") = some true)))))))
def clsBh (K : PySem.W.Frag) (rs cs : List Str) : Bool := rs.all fun D => (cs.all fun C => decide (PySem.W.kitOne K (.ref (He.ga K D)) (.ref (He.ga K C)) = some (decide (D = C)))) && (decide (PySem.W.kitOne K (.ref (He.ga K D)) (.type "ValueError") = some true) && (decide (PySem.W.exmOne K (.ref (He.ga K D)) (.ref (He.ga K "ColumnError")) = some true) && excBh K (He.ga K D)))
def isValh (r : Option PySem.W.CFound) (id : String) : Bool := match r with
  | some (.val (.builtin i)) => decide (i = id)
  | _ => false
def ceBh (K : PySem.W.Frag) (D : Addr) : Bool := decide (PySem.W.typeIn K (.ref D) = some (.type "type")) && (PySem.W.readsIn K D (.type "type") && (decide (PySem.W.specialIn K (.ref D) "__getattribute__" = some (some (.builtin "type.__getattribute__"))) && isValh (PySem.W.findCls K (.ref D) (.type "type") "__init__") "ValueError.__init__"))
def oexBh (K : PySem.W.Frag) (C : Addr) : Bool := (match K.lookup C with
    | some ⟨.type "type", _, .cls cd, sl⟩ => (match cd.mro, sl.toList with
      | .ref C' :: bm, [_, _, _, _, some (.builtin n), _] => decide (C' = C) && (decide (n = "ValueError.__new__") && (!cd.hasDel && (cd.hasDict && PySem.HandSPX.refsVE bm)))
      | _, _ => false)
    | _ => false) && (decide (PySem.W.findIn K (.ref C) "__setattr__" = some (some (.builtin "object.__setattr__"))) && (decide (PySem.W.subIn K (.ref C) (.type "BaseException") = some true) && (decide (PySem.W.typeIn K (.ref C) = some (.type "type")) && PySem.W.keepIn K (.ref C))))
def lookV (g : Addr → Option Obj) : PySem.W.Frag := He.frT g (cStatics :: asZ g)
def obV (fa : List He.Fa) (fn : List He.DefD) (ts : List He.Tab) (tf : List He.Defn) (ex : PySem.W.Frag → Bool) (g : Addr → Option Obj) : He.AlX := (He.obsT fa fn ts (lookV g), ex (lookV g) && He.tabsB g tf (lookV g))
def obVq (fa : List He.Fa) (fn : List He.DefD) (ts : List He.Tab) (tf : List He.Defn) (ex : PySem.W.Frag → Bool) (g : Addr → Option Obj) : He.AlX :=
  frL (stepZ g dicV [mainGlobals]) fun l1 => frL (stepZ g fnC l1) fun l2 => frL (stepZ g dicV l2) fun l3 => frL (stepZ g fnC l3) fun l4 => frF (He.frT g (cStatics :: mainGlobals :: (l1 ++ (l2 ++ (l3 ++ l4))))) fun K => (He.obsT fa fn ts K, ex K && He.tabsB g tf K)
theorem obVq_eq {fa : List He.Fa} {fn : List He.DefD} {ts : List He.Tab} {tf : List He.Defn} {ex : PySem.W.Frag → Bool} {g : Addr → Option Obj} : obVq fa fn ts tf ex g = obV fa fn ts tf ex g := by
  unfold obVq
  rw [frL_eq, frL_eq, frL_eq, frL_eq, frF_eq]
  rfl
theorem obV_says {fa : List He.Fa} {fn : List He.DefD} {ts : List He.Tab} {tf : List He.Defn} {ex : PySem.W.Frag → Bool} {w : World} {h : Heap} (e : obV fa fn ts tf ex h.get? = He.valX fn ts w) : He.SaysX fa fn ts tf ex w h (lookV h.get?) := by
  have e1 : He.obsT fa fn ts (lookV h.get?) = He.valT fn ts w := congrArg (fun z : He.AlX => z.1) e
  have e2 : (ex (lookV h.get?) && He.tabsB h.get? tf (lookV h.get?)) = true := congrArg (fun z : He.AlX => z.2) e
  obtain ⟨h1, h2⟩ := He.ba e2
  have key : ∀ p ∈ tf, PySem.W.codeHdIn (lookV h.get?) (He.cT (lookV h.get?) p).1 (He.cT (lookV h.get?) p).2 = true ∧ ∃ o, h.get? (He.cT (lookV h.get?) p).2 = some o ∧ He.emptyTab o = true := fun p hp => by
    obtain ⟨h3, h4⟩ := He.ba (List.all_eq_true.mp h2 p hp)
    refine ⟨h3, ?_⟩
    cases q : h.get? (He.cT (lookV h.get?) p).2 with
    | none => rw [q] at h4; cases h4
    | some o => rw [q] at h4; exact ⟨o, rfl, h4⟩
  exact ⟨e1, h1, fun p hp => (key p hp).1, fun p hp => by
    obtain ⟨_, o, q, z⟩ := key p hp
    exact He.frT_none q z, fun p hp => by
    obtain ⟨_, o, q, z⟩ := key p hp
    rw [q, He.emptyTab_eq z]⟩
def hookV (fa : List He.Fa) (fn : List He.DefD) (ts : List He.Tab) (tf : List He.Defn) (ex : PySem.W.Frag → Bool) : PySem.W.Hook where
  α := He.AlX
  obs := fun z => obV fa fn ts tf ex z.heap.get?
  val := fun z => He.valX fn ts z
  says := fun z h => ∃ Y : PySem.W.Frag, Y.In h ∧ He.SaysX fa fn ts tf ex z h Y
  of := fun _ _ z => ⟨_, He.frT_in, obV_says z⟩
  keeps := fun _ _ _ y k => by
    obtain ⟨Y, hY, c⟩ := y
    exact ⟨Y, hY.keeps k, c.t, c.more, c.hd, c.out, fun p hp => k _ _ (c.empty p hp)⟩
theorem obV_eq {fa : List He.Fa} {fn : List He.DefD} {ts : List He.Tab} {tf : List He.Defn} {ex : PySem.W.Frag → Bool} {g : Addr → Option Obj} {z : Shared} (h : ∀ a, g a = z.heap.get? a) : obVq fa fn ts tf ex g = (hookV fa fn ts tf ex).obs z := by
  cases (funext h : g = z.heap.get?)
  exact obVq_eq
end CC
namespace CC
open PySem PySem.Spec PyProof.Rows L2
def dfn (x : Str) (st : Stmt) : He.DefD := ⟨(x, none), x, x, defArgs st, defBody st, defScope st, [], []⟩
def dfnM (x m q : Str) (st : Stmt) : He.DefD := ⟨(x, some m), m, q, defArgs st, defBody st, defScope st, [], []⟩
def fns : List He.DefD := [dfn "need_kinds" s_need_kinds, dfn "is_word" s_is_word, dfn "is_value" s_is_value, dfn "is_part" s_is_part, dfn "size_of" s_size_of, dfn "need_condition" s_need_condition, dfn "number_of" s_number_of, dfn "value_of_word" s_value_of_word, dfn "read_from" s_read_from, dfn "read" s_read, dfn "_law_begun" s__law_begun, dfn "_law_take" s__law_take, dfn "_law_alike" s__law_alike, dfn "_law_class" s__law_class, dfn "_law_told" s__law_told, dfn "_law_all" s__law_all, dfn "_law_kinds" s__law_kinds, dfn "_law_word" s__law_word, dfn "_law_value" s__law_value, dfn "_law_rows" s__law_rows, dfn "_law_near" s__law_near, dfn "_law_test" s__law_test, dfn "_law_narrow" s__law_narrow, dfn "_law_condition" s__law_condition, dfn "_law_holds" s__law_holds, dfn "_law_text" s__law_text, dfn "_law_spoilt" s__law_spoilt, dfn "_law_value_of" s__law_value_of, dfn "_law_read" s__law_read, dfn "_law_made" s__law_made, dfn "_law_count" s__law_count, dfn "_law_due" s__law_due, dfn "law" s_law, dfnM "BadText" "__init__" "BadText.__init__" s_BadText___init__]
def fas : List He.Fa := [.free "len", .free "list", .free "tuple", .free "int", .free "sum", .free "isinstance", .free "min", .free "max", .free "range", .free "str", .free "bool", .free "ValueError", .int "MOST" 9999, .str "NUMBER" "number", .str "WORD" "word", .int "MOST_COLUMNS" 4, .int "MOST_LETTERS" 6, .str "LETTERS" "abcdefghijklmnopqrstuvwxyz", .int "MOST_CONDITIONS" 15, .int "MOST_WITHIN" 7, .glo "SHAPES", .str "FIGURES" "0123456789", .int "MOST_FIGURES" 4, .str "SIGN" "=", .glo "ColumnError", .glo "BadNumber", .glo "BadValues", .glo "NoForm", .glo "BadPrices", .glo "BadKinds", .glo "BadRows", .glo "BadCondition", .glo "BadColumn", .glo "BadHeap", .glo "TooMany", .glo "BadBlock", .glo "Stopped", .glo "BadText", .meth "BadText" "__init__", .noat "BadText" "place", .exc "BadCondition", .exm "BadCondition" "BadCondition" true, .glo "need_kinds", .glo "is_word", .glo "is_value", .glo "is_part", .glo "size_of", .glo "need_condition", .glo "number_of", .glo "value_of_word", .glo "read_from", .glo "read", .glo "_law_begun", .glo "_law_take", .glo "_law_alike", .glo "_law_class", .glo "_law_told", .glo "_law_all", .glo "_law_kinds", .glo "_law_word", .glo "_law_value", .glo "_law_rows", .glo "_law_near", .glo "_law_test", .glo "_law_narrow", .glo "_law_condition", .glo "_law_holds", .glo "_law_text", .glo "_law_spoilt", .glo "_law_value_of", .glo "_law_read", .glo "_law_made", .glo "_law_count", .glo "_law_due", .glo "law"]
def tabs : List He.Tab := [(fun K => He.ga K "SHAPES", (([("is", "cv"), ("less", "cv"), ("within", "cvv"), ("begins", "ct"), ("not", "q"), ("and", "qq"), ("or", "qq"), ("all", "")] : List (Str × Str))).map (·.1))]
def tfs : List He.Defn := [("law", none)]
def plB (K : PySem.W.Frag) : Bool := ceBh K (He.ga K "ColumnError") && (oexBh K (He.ga K "BadText") && true)
def exB (K : PySem.W.Frag) : Bool := clsBh K ["BadText", "BadCondition"] ["BadNumber", "BadValues", "NoForm", "BadPrices", "BadKinds", "BadRows", "BadCondition", "BadColumn", "BadHeap", "TooMany", "BadBlock", "Stopped", "BadText"] && (plB K && (He.valsB K (He.ga K "SHAPES") ((([("is", "cv"), ("less", "cv"), ("within", "cvv"), ("begins", "ct"), ("not", "q"), ("and", "qq"), ("or", "qq"), ("all", "")] : List (Str × Str))).map fun q => (q.1, He.Dv.str q.2))))
abbrev RW : PySem.W.OpenRow := PySem.W.OpenLaw.row PySem.Challenge.rw_codecolumns_k20_texts_refused
abbrev hk : PySem.W.Hook := hookV fas fns tabs tfs exB
def ob (s : PySem.W.SharedT) : He.AlX := obVq fas fns tabs tfs exB (HandSHeadRun.getT s)
theorem ob_eq (s : PySem.W.SharedT) : ob s = hk.obs s.abs := obV_eq (HandSHeadRun.getT_eq s)
def lse : List Str := (["ColumnError", "BadNumber", "BadValues", "NoForm", "BadPrices", "BadKinds", "BadRows", "BadCondition", "BadColumn", "BadHeap", "TooMany", "BadBlock", "Stopped", "BadText", "MOST", "NUMBER", "WORD", "MOST_COLUMNS", "MOST_LETTERS", "LETTERS"] : List Str) ++ (["MOST_CONDITIONS", "MOST_WITHIN", "SHAPES", "need_kinds", "is_word", "is_value", "is_part", "size_of", "need_condition", "FIGURES", "MOST_FIGURES", "SIGN", "number_of", "value_of_word", "read_from", "read", "_law_begun", "_law_take", "_law_alike", "_law_class"] : List Str) ++ (["_law_told", "_law_all", "_law_kinds", "_law_word", "_law_value", "_law_rows", "_law_near", "_law_test", "_law_narrow", "_law_condition", "_law_holds", "_law_text", "_law_spoilt", "_law_value_of", "_law_read", "_law_made", "_law_count", "_law_due"] : List Str)
open PySem PySem.W PySem.Calls PyProof.Rows in
theorem runA_false (w : World) (os : OsState) : (HandSHeadRun.endF (HandSHeadRun.stepQ (HandSHeadRun.denQ HandSHeadRun.tabQ) RW.prog (w.withFollow "special-get-raises" false)) 20000 RW.prog (w.withFollow "special-get-raises" false) os).map (fun s => (HandSHeadRun.looksF RW.prog (boot_heap (w.withFollow "special-get-raises" false).params) s.abs, HandSHeadRun.seenQ (PySem.W.view RW.prog [62]) lse (importedModules RW.prog.main.body) (fun s => PySem.W.xlAt (PySem.W.view RW.prog [62]) [] s && PySem.W.recOk RW.toRowW.records s) s.abs)) = some (true, PySem.W.openGood (PySem.W.view RW.prog [62]) lse) := by kernel_rfl
theorem runB_false (w : World) (os : OsState) : (HandSHeadRun.endF (HandSHeadRun.stepQ (HandSHeadRun.denQ HandSHeadRun.tabQ) RW.prog (w.withFollow "special-get-raises" false)) 20000 RW.prog (w.withFollow "special-get-raises" false) os).map ob = some (hk.val (w.withFollow "special-get-raises" false)) := by kernel_rfl
theorem run_false (w : World) : HandSHeadRun.RunEq RW (PySem.W.view RW.prog [62]) hk ob 20000 lse (w.withFollow "special-get-raises" false) := runEq_of (runA_false w) (runB_false w)
open PySem PySem.W PySem.Calls PyProof.Rows in
theorem runA_true (w : World) (os : OsState) : (HandSHeadRun.endF (HandSHeadRun.stepQ (HandSHeadRun.denQ HandSHeadRun.tabQ) RW.prog (w.withFollow "special-get-raises" true)) 20000 RW.prog (w.withFollow "special-get-raises" true) os).map (fun s => (HandSHeadRun.looksF RW.prog (boot_heap (w.withFollow "special-get-raises" true).params) s.abs, HandSHeadRun.seenQ (PySem.W.view RW.prog [62]) lse (importedModules RW.prog.main.body) (fun s => PySem.W.xlAt (PySem.W.view RW.prog [62]) [] s && PySem.W.recOk RW.toRowW.records s) s.abs)) = some (true, PySem.W.openGood (PySem.W.view RW.prog [62]) lse) := by kernel_rfl
theorem runB_true (w : World) (os : OsState) : (HandSHeadRun.endF (HandSHeadRun.stepQ (HandSHeadRun.denQ HandSHeadRun.tabQ) RW.prog (w.withFollow "special-get-raises" true)) 20000 RW.prog (w.withFollow "special-get-raises" true) os).map ob = some (hk.val (w.withFollow "special-get-raises" true)) := by kernel_rfl
theorem run_true (w : World) : HandSHeadRun.RunEq RW (PySem.W.view RW.prog [62]) hk ob 20000 lse (w.withFollow "special-get-raises" true) := runEq_of (runA_true w) (runB_true w)
theorem run (w : World) : HandSHeadRun.RunEq RW (PySem.W.view RW.prog [62]) hk ob 20000 lse w := PySem.W.byRow2 "special-get-raises" (P := fun w => HandSHeadRun.RunEq RW (PySem.W.view RW.prog [62]) hk ob 20000 lse w) run_false run_true w
open PySem PySem.W PySem.Calls PyProof.Rows in
theorem hd (call : PySem.W.WalkO (PySem.W.view RW.prog [62]) lse (PySem.W.XL (PySem.W.view RW.prog [62]) []) hk.says RW.toRowW (HandSHeadRun.topDef RW.prog 62) [] fun f vs => PySem.call f vs) : PySem.Challenge.rw_codecolumns_k20_texts_refused.Holds := by
  w_on; o_law
  refine HandSHeadRun.head_any (r := OpenLaw.row PySem.Challenge.rw_codecolumns_k20_texts_refused) (q := view (OpenLaw.row PySem.Challenge.rw_codecolumns_k20_texts_refused).prog [62]) (H := hk) (ob := ob) (M := 20000) (loose := lse) (d := HandSHeadRun.topDef (OpenLaw.row PySem.Challenge.rw_codecolumns_k20_texts_refused).prog 62) (kwd := []) ob_eq
    (by kernel_rfl) (fun s => by kernel_rfl) run (by kernel_rfl) (by kernel_rfl) (by kernel_rfl) (by rfl) (by first | assumption | decide +kernel) (by decide +kernel) ⟨rfl, rfl, rfl, rfl, rfl, by decide +kernel⟩ ?hw call
  case hw => w_witness2
end CC
namespace CC
open PySem PySem.Spec PyProof.Rows L2
inductive Dt where
  | non | bl (b : Bool) | int (i : Int) | str (s : Str) | lst (xs : List Dt) | tup (xs : List Dt)
  | dk (kvs : List (Key × Dt)) | dt (kvs : List (List Key × Dt))
  /-- an instance of the class at C that no one changes -/
  | ob (C : Addr) (fs : List (Str × Dt))
  /-- the thing at f, by what is true of some objects (a lambda, its code, its defaults) -/
  | xo (f : Addr) (L : List (Addr × HO))
  /-- a tuple that tuple(..) made, known to bear no dict -/
  | ptup (xs : List Dt)
def thaw : HO → HO
  | .frz _ u => u
  | o => o
def dic : HO → Bool
  | .dK _ => true
  | .dT _ => true
  | _ => false
def Sm (o o' : HO) : Prop := o = o' ∨ (dic (thaw o) = true ∧ thaw o = thaw o')
theorem Sm.rfl {o : HO} : Sm o o := .inl _root_.rfl
theorem Sm.trans {a b c : HO} (h : Sm a b) (k : Sm b c) : Sm a c := by
  rcases h with rfl | ⟨h1, h2⟩
  · exact k
  · rcases k with rfl | ⟨k1, k2⟩
    · exact .inr ⟨h1, h2⟩
    · exact .inr ⟨h1, h2.trans k2⟩
theorem Sm.symm {a b : HO} (h : Sm a b) : Sm b a := by
  rcases h with rfl | ⟨h1, h2⟩
  · exact .inl _root_.rfl
  · exact .inr ⟨by rw [← h2]; exact h1, h2.symm⟩
theorem Sm.lst {xs : List V} {o : HO} (h : Sm (.lst xs) o) : o = .lst xs := by
  rcases h with h | ⟨h, _⟩
  · exact h.symm
  · cases h
theorem Sm.tup {xs : List V} {o : HO} (h : Sm (.tup xs) o) : o = .tup xs := by
  rcases h with h | ⟨h, _⟩
  · exact h.symm
  · cases h
theorem Sm.ftup {xs : List V} {o : HO} {b : Obj} (h : Sm (.frz b (.tup xs)) o) : o = .frz b (.tup xs) := by
  rcases h with h | ⟨h, _⟩
  · exact h.symm
  · cases h
theorem Sm.plain {o o' : HO} (h : Sm o o') (hd : dic (thaw o) = false) : o' = o := by
  rcases h with h | ⟨h, _⟩
  · exact h.symm
  · rw [hd] at h; cases h
structure Ex (mu : Addr → Bool) (H H' : Hp) : Prop where
  keep : ∀ a o, mu a = false → H a = some o → H' a = some o
  dom : ∀ a, H a ≠ none → H' a ≠ none
theorem Ex.refl {mu : Addr → Bool} {H : Hp} : Ex mu H H := ⟨fun _ o _ h => h, fun _ h => h⟩
theorem Ex.trans {mu : Addr → Bool} {H H1 H2 : Hp} (a : Ex mu H H1) (b : Ex mu H1 H2) : Ex mu H H2 := ⟨fun x o hx h => b.keep x o hx (a.keep x o hx h), fun x h => b.dom x (a.dom x h)⟩
theorem Ex.fresh {mu : Addr → Bool} {H H' : Hp} (e : Ex mu H H') {p : Addr} (h : H' p = none) : H p = none := by
  cases q : H p with
  | none => rfl
  | some o => exact absurd h (e.dom p (by rw [q]; exact fun z => nomatch z))
theorem Ex.new {mu : Addr → Bool} {H : Hp} {p : Addr} {o : HO} (h : H p = none) : Ex mu H (upd H p o) := ⟨fun a u _ e => by
  rw [upd_ne (ne_of_none e h)]
  exact e, fun a e => by
  by_cases q : a = p
  · subst q; exact absurd h e
  · rw [upd_ne q]; exact e⟩
theorem upd_dom {H : Hp} {p a : Addr} {o : HO} (h : H a ≠ none) : upd H p o a ≠ none := by
  by_cases q : a = p
  · subst q; rw [upd_same]; exact fun z => nomatch z
  · rw [upd_ne q]; exact h
theorem Ex.mut {mu : Addr → Bool} {H H' : Hp} {p : Addr} {o : HO} (e : Ex mu H H') (h : H p = none ∨ mu p = true) : Ex mu H (upd H' p o) := ⟨fun a u ha hu => by
  by_cases q : a = p
  · subst q
    rcases h with h | h
    · rw [h] at hu; cases hu
    · rw [h] at ha; cases ha
  · rw [upd_ne q]; exact e.keep a u ha hu, fun a ha => upd_dom (e.dom a ha)⟩
theorem Ex.weak {mu nu : Addr → Bool} {H H' : Hp} (e : Ex mu H H') (h : ∀ a, mu a = true → nu a = true) : Ex nu H H' := ⟨fun a o ha => e.keep a o (by
  cases q : mu a with
  | false => rfl
  | true => rw [h a q] at ha; cases ha), e.dom⟩
def Hm (hd : Addr → Bool) (H : Hp) : Hp := fun a => if hd a = true then none else H a
theorem hm_le {hd : Addr → Bool} {H : Hp} {a : Addr} {o : HO} (h : Hm hd H a = some o) : H a = some o := by
  unfold Hm at h
  split at h
  · cases h
  · exact h
theorem hm_not {hd : Addr → Bool} {H : Hp} {a : Addr} {o : HO} (h : Hm hd H a = some o) : hd a = false := by
  unfold Hm at h
  cases q : hd a with
  | false => rfl
  | true => rw [if_pos q] at h; cases h
theorem hm_of {hd : Addr → Bool} {H : Hp} {a : Addr} (h : hd a = false) : Hm hd H a = H a := by
  unfold Hm
  rw [if_neg (by rw [h]; exact Bool.false_ne_true)]
def Sees (G G' : Hp) : Prop := ∀ a o, G a = some o → ∃ o', G' a = some o' ∧ Sm o o'
theorem Sees.refl {G : Hp} : Sees G G := fun _ o h => ⟨o, h, .rfl⟩
theorem Sees.trans {G G1 G2 : Hp} (a : Sees G G1) (b : Sees G1 G2) : Sees G G2 := fun x o h => by
  obtain ⟨o1, h1, s1⟩ := a x o h
  obtain ⟨o2, h2, s2⟩ := b x o1 h1
  exact ⟨o2, h2, s1.trans s2⟩
theorem Ex.sees {mu hd : Addr → Bool} {H H' : Hp} (e : Ex mu H H') (hm : ∀ a, mu a = true → hd a = true) : Sees (Hm hd H) (Hm hd H') := fun a o h => by
  have h1 := hm_not h
  have h2 := e.keep a o (by
    cases q : mu a with
    | false => rfl
    | true => rw [hm a q] at h1; cases h1) (hm_le h)
  exact ⟨o, by rw [hm_of h1]; exact h2, .rfl⟩
theorem sees_hide {hd hd' : Addr → Bool} {H : Hp} (h : ∀ a, hd a = true → hd' a = true) : Sees (Hm hd' H) (Hm hd H) := fun a o e => by
  refine ⟨o, ?_, .rfl⟩
  have h1 := hm_not e
  rw [hm_of]
  · exact hm_le e
  · cases q : hd a with
    | false => rfl
    | true => rw [h a q] at h1; cases h1
theorem sees_le {hd : Addr → Bool} {H : Hp} : Sees (Hm hd H) H := fun _ o h => ⟨o, hm_le h, .rfl⟩
theorem hm_upd {hd : Addr → Bool} {H : Hp} {p : Addr} {o : HO} (h : hd p = true) : Hm hd (upd H p o) = Hm hd H := by
  funext a
  unfold Hm upd
  by_cases q : a = p
  · subst q; rw [if_pos h, if_pos h]
  · rw [if_neg q]
theorem sees_t {K : PySem.W.Frag} {G G' : Hp} {a : Addr} {xs : List V} (e : Sees G G') (h : SqT K G a xs) : SqT K G' a xs := by
  rcases h with (h | ⟨o, h⟩) | h
  · obtain ⟨o', h1, s⟩ := e a _ h
    rw [s.tup] at h1
    exact .inl (.inl h1)
  · obtain ⟨o', h1, s⟩ := e a _ h
    rw [s.ftup] at h1
    exact .inl (.inr ⟨o, h1⟩)
  · exact .inr h
theorem rd_sm {o o' : HO} (s : Sm o o') {u : HO} (hu : dic u = true) (h : o = u ∨ ∃ b, o = .frz b u) : o' = u ∨ ∃ b, o' = .frz b u := by
  rcases s with rfl | ⟨_, s2⟩
  · exact h
  · have e : thaw o' = u := by
      rw [← s2]
      rcases h with rfl | ⟨b, rfl⟩
      · cases o <;> first | rfl | cases hu
      · rfl
    cases o' with
    | frz b v => exact .inr ⟨b, by rw [show v = u from e]⟩
    | _ => exact .inl e
theorem sees_rd {G G' : Hp} {a : Addr} {u : HO} (e : Sees G G') (hu : dic u = true) (h : Rd G a u) : Rd G' a u := by
  rcases h with h | ⟨b, h⟩
  · obtain ⟨o', h1, s⟩ := e a _ h
    rcases rd_sm s hu (.inl rfl) with q | ⟨b, q⟩
    · subst q; exact .inl h1
    · subst q; exact .inr ⟨b, h1⟩
  · obtain ⟨o', h1, s⟩ := e a _ h
    rcases rd_sm s hu (.inr ⟨b, rfl⟩) with q | ⟨c, q⟩
    · subst q; exact .inl h1
    · subst q; exact .inr ⟨c, h1⟩
mutual
inductive Rp (K : PySem.W.Frag) (G : Hp) : V → Dt → Prop
  | non : Rp K G .non .non
  | bl (b : Bool) : Rp K G (.bl b) (.bl b)
  | int (i : Int) : Rp K G (.int i) (.int i)
  | str (x : Str) : Rp K G (.str x) (.str x)
  | lst {a : Addr} {xs : List V} {ds : List Dt} : G a = some (.lst xs) → RpAll K G xs ds → Rp K G (.ref a) (.lst ds)
  | tup {a : Addr} {xs : List V} {ds : List Dt} : SqT K G a xs → RpAll K G xs ds → Rp K G (.ref a) (.tup ds)
  | dk {a : Addr} {kvs : List (Key × V)} {ds : List (Key × Dt)} : Rd G a (.dK kvs) → RpK K G kvs ds → Rp K G (.ref a) (.dk ds)
  | dt {a : Addr} {kvs : List (List Key × V)} {ds : List (List Key × Dt)} : Rd G a (.dT kvs) → RpT K G kvs ds → Rp K G (.ref a) (.dt ds)
  | ob {a C dx : Addr} {vs : List (Str × V)} {ds : List (Str × Dt)} : G a = some (.ins C dx vs) → RpF K G vs ds → Rp K G (.ref a) (.ob C ds)
  | xo {f : Addr} {L : List (Addr × HO)} : (∀ p ∈ L, dic (thaw p.2) = false ∧ G p.1 = some p.2) → Rp K G (.ref f) (.xo f L)
  | ptup {a : Addr} {ob : Obj} {xs : List V} {ds : List Dt} : ob.cls = .type "tuple" → ob.dict = none → G a = some (.frz ob (.tup xs)) → RpAll K G xs ds → Rp K G (.ref a) (.ptup ds)
inductive RpAll (K : PySem.W.Frag) (G : Hp) : List V → List Dt → Prop
  | nil : RpAll K G [] []
  | cons {v : V} {vs : List V} {d : Dt} {ds : List Dt} : Rp K G v d → RpAll K G vs ds → RpAll K G (v :: vs) (d :: ds)
inductive RpK (K : PySem.W.Frag) (G : Hp) : List (Key × V) → List (Key × Dt) → Prop
  | nil : RpK K G [] []
  | cons {k : Key} {v : V} {vs : List (Key × V)} {d : Dt} {ds : List (Key × Dt)} : Rp K G v d → RpK K G vs ds → RpK K G ((k, v) :: vs) ((k, d) :: ds)
inductive RpF (K : PySem.W.Frag) (G : Hp) : List (Str × V) → List (Str × Dt) → Prop
  | nil : RpF K G [] []
  | cons {k : Str} {v : V} {vs : List (Str × V)} {d : Dt} {ds : List (Str × Dt)} : Rp K G v d → RpF K G vs ds → RpF K G ((k, v) :: vs) ((k, d) :: ds)
inductive RpT (K : PySem.W.Frag) (G : Hp) : List (List Key × V) → List (List Key × Dt) → Prop
  | nil : RpT K G [] []
  | cons {k : List Key} {v : V} {vs : List (List Key × V)} {d : Dt} {ds : List (List Key × Dt)} : Rp K G v d → RpT K G vs ds → RpT K G ((k, v) :: vs) ((k, d) :: ds)
end
mutual
theorem Rp.mono {K : PySem.W.Frag} {G G' : Hp} (e : Sees G G') : ∀ {v : V} {d : Dt}, Rp K G v d → Rp K G' v d
  | _, _, .non => .non
  | _, _, .bl b => .bl b
  | _, _, .int i => .int i
  | _, _, .str x => .str x
  | _, _, .lst (xs := xs) h t => .lst (xs := xs) (by
      obtain ⟨o, h1, s⟩ := e _ _ h
      rw [s.lst] at h1
      exact h1) (RpAll.mono e t)
  | _, _, .tup h t => .tup (sees_t e h) (RpAll.mono e t)
  | _, _, .dk h t => .dk (sees_rd e rfl h) (RpK.mono e t)
  | _, _, .dt h t => .dt (sees_rd e rfl h) (RpT.mono e t)
  | _, _, .ob (C := C) (dx := dx) (vs := vs) h t => .ob (C := C) (dx := dx) (vs := vs) (by
      obtain ⟨o, h1, s⟩ := e _ _ h
      rw [s.plain rfl] at h1
      exact h1) (RpF.mono e t)
  | _, _, .xo h => .xo fun p hp => by
      obtain ⟨h1, h2⟩ := h p hp
      obtain ⟨o, h3, s⟩ := e _ _ h2
      rw [s.plain h1] at h3
      exact ⟨h1, h3⟩
  | _, _, .ptup h1 h2 (ob := ob) (xs := xs) h t => .ptup (ob := ob) (xs := xs) h1 h2 (by
      obtain ⟨o, h3, s⟩ := e _ _ h
      rw [s.ftup] at h3
      exact h3) (RpAll.mono e t)
theorem RpAll.mono {K : PySem.W.Frag} {G G' : Hp} (e : Sees G G') : ∀ {vs : List V} {ds : List Dt}, RpAll K G vs ds → RpAll K G' vs ds
  | _, _, .nil => .nil
  | _, _, .cons h t => .cons (Rp.mono e h) (RpAll.mono e t)
theorem RpK.mono {K : PySem.W.Frag} {G G' : Hp} (e : Sees G G') : ∀ {vs : List (Key × V)} {ds : List (Key × Dt)}, RpK K G vs ds → RpK K G' vs ds
  | _, _, .nil => .nil
  | _, _, .cons h t => .cons (Rp.mono e h) (RpK.mono e t)
theorem RpF.mono {K : PySem.W.Frag} {G G' : Hp} (e : Sees G G') : ∀ {vs : List (Str × V)} {ds : List (Str × Dt)}, RpF K G vs ds → RpF K G' vs ds
  | _, _, .nil => .nil
  | _, _, .cons h t => .cons (Rp.mono e h) (RpF.mono e t)
theorem RpT.mono {K : PySem.W.Frag} {G G' : Hp} (e : Sees G G') : ∀ {vs : List (List Key × V)} {ds : List (List Key × Dt)}, RpT K G vs ds → RpT K G' vs ds
  | _, _, .nil => .nil
  | _, _, .cons h t => .cons (Rp.mono e h) (RpT.mono e t)
end
end CC
namespace CC
open PySem PySem.Spec PyProof.Rows L2
section
variable {K : PySem.W.Frag} {G G' : Hp}
theorem RpAll.length : ∀ {vs : List V} {ds : List Dt}, RpAll K G vs ds → vs.length = ds.length
  | _, _, .nil => rfl
  | _, _, .cons _ t => congrArg (· + 1) (RpAll.length t)
theorem RpAll.get : ∀ {vs : List V} {ds : List Dt} {i : Nat} {d : Dt}, RpAll K G vs ds → ds[i]? = some d → ∃ v, vs[i]? = some v ∧ Rp K G v d
  | _, _, 0, _, .cons h _, e => ⟨_, rfl, by rw [show _ = _ from Option.some.inj e] at h; exact h⟩
  | _, _, i + 1, _, .cons _ t, e => RpAll.get (i := i) t e
theorem RpAll.getV : ∀ {vs : List V} {ds : List Dt} {i : Nat} {v : V}, RpAll K G vs ds → vs[i]? = some v → ∃ d, ds[i]? = some d ∧ Rp K G v d
  | _, _, 0, _, .cons h _, e => ⟨_, rfl, by rw [show _ = _ from Option.some.inj e] at h; exact h⟩
  | _, _, i + 1, _, .cons _ t, e => RpAll.getV (i := i) t e
theorem RpAll.append : ∀ {vs ws : List V} {ds es : List Dt}, RpAll K G vs ds → RpAll K G ws es → RpAll K G (vs ++ ws) (ds ++ es)
  | _, _, _, _, .nil, s => s
  | _, _, _, _, .cons h t, s => .cons h (RpAll.append t s)
theorem RpAll.take : ∀ {vs : List V} {ds : List Dt} (n : Nat), RpAll K G vs ds → RpAll K G (vs.take n) (ds.take n)
  | _, _, 0, _ => .nil
  | _, _, _ + 1, .nil => .nil
  | _, _, n + 1, .cons h t => .cons h (RpAll.take n t)
theorem RpAll.drop : ∀ {vs : List V} {ds : List Dt} (n : Nat), RpAll K G vs ds → RpAll K G (vs.drop n) (ds.drop n)
  | _, _, 0, h => h
  | _, _, _ + 1, .nil => .nil
  | _, _, n + 1, .cons _ t => RpAll.drop n t
theorem RpAll.set {v : V} {d : Dt} (h : Rp K G v d) : ∀ {vs : List V} {ds : List Dt} (n : Nat), RpAll K G vs ds → RpAll K G (vs.set n v) (ds.set n d)
  | _, _, _, .nil => .nil
  | _, _, 0, .cons _ t => .cons h t
  | _, _, n + 1, .cons q t => .cons q (RpAll.set h n t)
theorem RpAll.rep {vs : List V} {ds : List Dt} (h : RpAll K G vs ds) : ∀ n : Nat, RpAll K G (List.replicate n vs).flatten (List.replicate n ds).flatten
  | 0 => .nil
  | n + 1 => by
    rw [List.replicate_succ, List.replicate_succ, List.flatten_cons, List.flatten_cons]
    exact h.append (RpAll.rep h n)
theorem RpAll.ints : ∀ {vs : List V} {ns : List Int}, RpAll K G vs (ns.map Dt.int) → vs = ns.map V.int
  | _, [], .nil => rfl
  | _, n :: r, .cons h t => by
    cases h
    rw [RpAll.ints t]
    rfl
theorem RpAll.bls : ∀ {vs : List V} {ns : List Bool}, RpAll K G vs (ns.map Dt.bl) → vs = ns.map V.bl
  | _, [], .nil => rfl
  | _, n :: r, .cons h t => by
    cases h
    rw [RpAll.bls t]
    rfl
theorem RpAll.strs : ∀ {vs : List V} {ns : List Str}, RpAll K G vs (ns.map Dt.str) → vs = ns.map V.str
  | _, [], .nil => rfl
  | _, n :: r, .cons h t => by
    cases h
    rw [RpAll.strs t]
    rfl
end
def ext : HO → Bool
  | .ext _ => true
  | _ => false
structure Cn where
  K : PySem.W.Frag
  mu : Addr → Bool
  B : (Addr → Bool) → Hp → Prop
  stab : ∀ hd hd' H H', Sees (Hm hd H) (Hm hd' H') → (∀ a o, (mu a = true ∨ ext o = true) → H a = some o → H' a = some o) → B hd H → B hd' H'
def none0 : Addr → Bool := fun _ => false
theorem Cn.putS (c : Cn) {hd hd' : Addr → Bool} {H : Hp} {o : Addr} {u v : HO} (e : Sees (Hm hd H) (Hm hd' (upd H o u))) (hm : c.mu o = false) (hv : H o = some v) (hx : ext v = false) (b : c.B hd H) : c.B hd' (upd H o u) := c.stab hd hd' H _ e (fun a x h q => by
  rw [upd_ne (fun z => by
    subst z
    rcases h with h | h
    · rw [hm] at h; cases h
    · rw [hv] at q
      cases q
      rw [hx] at h; cases h)]
  exact q) b
theorem Cn.put (c : Cn) {hd : Addr → Bool} {H : Hp} {o : Addr} {u v : HO} (ho : hd o = true) (hm : c.mu o = false) (hv : H o = some v) (hx : ext v = false) (b : c.B hd H) : c.B hd (upd H o u) := c.putS (by rw [hm_upd ho]; exact Sees.refl) hm hv hx b
theorem Cn.unhide (c : Cn) {hd hd' : Addr → Bool} {H : Hp} (h : ∀ a, hd a = true → hd' a = true) (b : c.B hd' H) : c.B hd H := c.stab hd' hd H H (sees_hide h) (fun _ _ _ q => q) b
abbrev Cn.pure (K : PySem.W.Frag) : Cn := ⟨K, none0, fun _ _ => True, fun _ _ _ _ _ _ _ => trivial⟩
inductive Sl where
  | un | im (d : Dt) | ac (ds : List Dt) | ak (kvs : List (Key × Dt)) | aT (kvs : List (List Key × Dt)) | rw (v : V) | iK (kvs : List (Key × Dt)) | dl (o : Addr) (kvs : List (Key × Dt))
def SlOk (c : Cn) (hd : Addr → Bool) (H : Hp) : Option V → Sl → Prop
  | _, .un => True
  | some v, .im d => Rp c.K (Hm hd H) v d
  | some (.ref o), .ac ds => hd o = true ∧ c.mu o = false ∧ ∃ vs, H o = some (.lst vs) ∧ RpAll c.K (Hm hd H) vs ds
  | some (.ref o), .ak ds => hd o = true ∧ c.mu o = false ∧ ∃ vs, H o = some (.dK vs) ∧ RpK c.K (Hm hd H) vs ds
  | some (.ref o), .aT ds => hd o = true ∧ c.mu o = false ∧ ∃ vs, H o = some (.dT vs) ∧ RpT c.K (Hm hd H) vs ds
  | some v, .rw u => v = u
  | some (.ref o), .iK ds => hd o = false ∧ c.mu o = false ∧ ∃ vs, H o = some (.dK vs) ∧ RpK c.K (Hm hd H) vs ds
  | some v, .dl o ds => v = .ref o ∧ Rp c.K (Hm hd H) (.ref o) (.dk ds)
  | _, _ => False
def owns : Sl → Bool
  | .ac _ => true
  | .ak _ => true
  | .aT _ => true
  | _ => false
inductive SlAll (c : Cn) (hd : Addr → Bool) (H : Hp) : List (Option V) → List Sl → Prop
  | nil : SlAll c hd H [] []
  | cons {o : Option V} {os : List (Option V)} {s : Sl} {ss : List Sl} : SlOk c hd H o s → SlAll c hd H os ss → SlAll c hd H (o :: os) (s :: ss)
structure SV (c : Cn) (hd : Addr → Bool) (H : Hp) (σ : L2.St) (ρ : List Sl) : Prop where
  dom : ∀ a, hd a = true → H a ≠ none
  muh : ∀ a, c.mu a = true → hd a = true
  inv : c.B hd H
  slots : SlAll c hd H σ ρ
def ownAt (σ : L2.St) (ρ : List Sl) (i : Nat) (o : Addr) : Prop := σ[i]? = some (some (.ref o)) ∧ ∃ s, ρ[i]? = some s ∧ owns s = true
structure SD (c : Cn) (hid hd : Addr → Bool) (H0 H : Hp) (σ : L2.St) (ρ : List Sl) : Prop extends SV c hd H σ ρ where
  sub : ∀ a, hid a = true → hd a = true
  ext : Ex c.mu H0 H
  new : ∀ a, hd a = true → hid a = false → H0 a = none
  own : ∀ i j o, ownAt σ ρ i o → ownAt σ ρ j o → i = j
  ownh : ∀ i o, ownAt σ ρ i o → hid o = false
def hide (hd : Addr → Bool) (o : Addr) : Addr → Bool := fun a => hd a || decide (a = o)
theorem hide_self {hd : Addr → Bool} {o : Addr} : hide hd o o = true := by unfold hide; rw [decide_eq_true rfl, Bool.or_true]
theorem hide_of {hd : Addr → Bool} {o a : Addr} (h : hd a = true) : hide hd o a = true := by unfold hide; rw [h, Bool.true_or]
theorem hide_ne {hd : Addr → Bool} {o a : Addr} (h : a ≠ o) : hide hd o a = hd a := by unfold hide; rw [decide_eq_false h, Bool.or_false]
theorem hide_inv {hd : Addr → Bool} {o a : Addr} (h : hide hd o a = true) : hd a = true ∨ a = o := by
  by_cases q : a = o
  · exact .inr q
  · rw [hide_ne q] at h; exact .inl h
section
variable {c : Cn} {hid hd hd' : Addr → Bool} {H0 H H' : Hp} {σ : L2.St} {ρ : List Sl}
theorem SlAll.get : ∀ {σ : L2.St} {ρ : List Sl} {i : Nat} {s : Sl}, SlAll c hd H σ ρ → ρ[i]? = some s → ∃ o, σ[i]? = some o ∧ SlOk c hd H o s
  | _, _, 0, _, .cons h _, e => ⟨_, rfl, by rw [show _ = _ from Option.some.inj e] at h; exact h⟩
  | _, _, i + 1, _, .cons _ t, e => SlAll.get (i := i) t e
theorem SlAll.set {o : Option V} {s : Sl} (h : SlOk c hd H o s) : ∀ {σ : L2.St} {ρ : List Sl} (i : Nat), SlAll c hd H σ ρ → SlAll c hd H (σ.set i o) (ρ.set i s)
  | _, _, _, .nil => .nil
  | _, _, 0, .cons _ t => .cons h t
  | _, _, n + 1, .cons q t => .cons q (SlAll.set h n t)
theorem SlAll.imp (h : ∀ o s, SlOk c hd H o s → SlOk c hd' H' o s) : ∀ {σ : L2.St} {ρ : List Sl}, SlAll c hd H σ ρ → SlAll c hd' H' σ ρ
  | _, _, .nil => .nil
  | _, _, .cons q t => .cons (h _ _ q) (SlAll.imp h t)
theorem SlOk.mono (e : Sees (Hm hd H) (Hm hd' H')) (hs : ∀ a, hd a = true → hd' a = true) (hn : ∀ a, hd a = false → H a ≠ none → hd' a = false) (ho : ∀ a o, c.mu a = false → H a = some o → H' a = some o) (o : Option V) (s : Sl) (h : SlOk c hd H o s) : SlOk c hd' H' o s := by
  cases s with
  | un => unfold SlOk; split <;> trivial
  | im d =>
    cases o with
    | none => exact h.elim
    | some v => exact Rp.mono e h
  | rw u =>
    cases o with
    | none => exact h.elim
    | some v => exact h
  | dl q ds =>
    cases o with
    | none => exact h.elim
    | some v => exact ⟨h.1, Rp.mono e h.2⟩
  | ac ds =>
    cases o with
    | none => exact h.elim
    | some v =>
      cases v with
      | ref q =>
        obtain ⟨h1, h2, vs, h3, h4⟩ := h
        exact ⟨hs q h1, h2, vs, ho q _ h2 h3, RpAll.mono e h4⟩
      | _ => exact h.elim
  | ak ds =>
    cases o with
    | none => exact h.elim
    | some v =>
      cases v with
      | ref q =>
        obtain ⟨h1, h2, vs, h3, h4⟩ := h
        exact ⟨hs q h1, h2, vs, ho q _ h2 h3, RpK.mono e h4⟩
      | _ => exact h.elim
  | aT ds =>
    cases o with
    | none => exact h.elim
    | some v =>
      cases v with
      | ref q =>
        obtain ⟨h1, h2, vs, h3, h4⟩ := h
        exact ⟨hs q h1, h2, vs, ho q _ h2 h3, RpT.mono e h4⟩
      | _ => exact h.elim
  | iK ds =>
    cases o with
    | none => exact h.elim
    | some v =>
      cases v with
      | ref q =>
        obtain ⟨h1, h2, vs, h3, h4⟩ := h
        exact ⟨hn q h1 (by rw [h3]; exact fun z => nomatch z), h2, vs, ho q _ h2 h3, RpK.mono e h4⟩
      | _ => exact h.elim
end
end CC
namespace CC
open PySem PySem.Spec PyProof.Rows L2
section
variable {c : Cn} {hid hd hd' : Addr → Bool} {H0 H H' : Hp} {σ : L2.St} {ρ : List Sl}
theorem Ex.up (e : Ex none0 H H') : Ex c.mu H H' := e.weak (fun _ h => nomatch h)
theorem Cn.keep0 (e : Ex none0 H H') (b : c.B hd H) : c.B hd H' := c.stab hd hd H H' (e.sees fun _ h => nomatch h) (fun a o _ h => e.keep a o rfl h) b
theorem SV.go (v : SV c hd H σ ρ) (e : Ex c.mu H H') (b : c.B hd H') : SV c hd H' σ ρ :=
  ⟨fun a h => e.dom a (v.dom a h), v.muh, b, v.slots.imp (SlOk.mono (e.sees v.muh) (fun _ h => h) (fun _ h _ => h) (fun a o hm h => e.keep a o hm h))⟩
theorem SV.go0 (v : SV c hd H σ ρ) (e : Ex none0 H H') : SV c hd H' σ ρ := v.go e.up (c.keep0 e v.inv)
theorem sees_new {mu : Addr → Bool} {o : Addr} (e : Ex mu H H') (hm : ∀ a, mu a = true → hd a = true) (ho : H o = none) : Sees (Hm hd H) (Hm (hide hd o) H') := fun a u h => by
  have h1 := hm_not h
  have h2 := hm_le h
  have na : a ≠ o := ne_of_none h2 ho
  refine ⟨u, ?_, .rfl⟩
  rw [hm_of (by rw [hide_ne na]; exact h1)]
  exact e.keep a u (by
    cases q : mu a with
    | false => rfl
    | true => rw [hm a q] at h1; cases h1) h2
theorem Cn.keepN {o : Addr} (e : Ex none0 H H') (ho : H o = none) (b : c.B hd H) : c.B (hide hd o) H' := c.stab hd _ H H' (sees_new e (fun _ h => nomatch h) ho) (fun a x _ h => e.keep a x rfl h) b
theorem SV.hide (v : SV c hd H σ ρ) {o : Addr} (e : Ex c.mu H H') (b : c.B (hide hd o) H') (ho : H o = none) (h' : H' o ≠ none) : SV c (hide hd o) H' σ ρ :=
  ⟨fun a h => by
    rcases hide_inv h with h | h
    · exact e.dom a (v.dom a h)
    · subst h; exact h', fun a h => hide_of (v.muh a h), b, v.slots.imp (SlOk.mono (sees_new e v.muh ho) (fun _ h => hide_of h) (fun a h hn => by rw [hide_ne (fun z => by subst z; exact hn ho)]; exact h) (fun a o hm h => e.keep a o hm h))⟩
theorem SV.set (v : SV c hd H σ ρ) {o : Option V} {s : Sl} (i : Nat) (h : SlOk c hd H o s) : SV c hd H (σ.set i o) (ρ.set i s) := ⟨v.dom, v.muh, v.inv, v.slots.set h i⟩
theorem fresh_hd (dom : ∀ a, hd a = true → H a ≠ none) {p : Addr} (h : H p = none) : hd p = false := by
  cases q : hd p with
  | false => rfl
  | true => exact absurd h (dom p q)
end
def Kv (c : Cn) (hd : Addr → Bool) (H : Hp) (Q : Dt → Prop) (Qh : VK) : Prop := ∀ d v H', Q d → Ex c.mu H H' → c.B hd H' → Rp c.K (Hm hd H') v d → Qh v H'
def Kn (c : Cn) (hd : Addr → Bool) (H : Hp) (Q : List Dt → Prop) (Qh : VK) : Prop := ∀ ds o vs H', Q ds → Ex c.mu H H' → c.B (hide hd o) H' → H o = none → H' o = some (.lst vs) → RpAll c.K (Hm (hide hd o) H') vs ds → Qh (.ref o) H'
def EV (c : Cn) (te : TE) (ρ : List Sl) (Q : Dt → Prop) : Prop := ∀ hd H σ, SV c hd H σ ρ → ∀ Qh : VK, Kv c hd H Q Qh → te σ H Qh
def EN (c : Cn) (te : TE) (ρ : List Sl) (Q : List Dt → Prop) : Prop := ∀ hd H σ, SV c hd H σ ρ → ∀ Qh : VK, Kn c hd H Q Qh → te σ H Qh
def EVT (c : Cn) (tt : TT) (ρ : List Sl) (Q : Bool → Prop) : Prop := ∀ hd H σ, SV c hd H σ ρ → ∀ Qh : Bool → Hp → Prop, (∀ b H', Q b → Ex c.mu H H' → c.B hd H' → Qh b H') → tt σ H Qh
def EVA (c : Cn) (ta : TA) (ρ : List Sl) (Q : List Dt → Prop) : Prop := ∀ hd H σ, SV c hd H σ ρ → ∀ Qh : List V → Hp → Prop, (∀ ds vs H', Q ds → Ex c.mu H H' → c.B hd H' → RpAll c.K (Hm hd H') vs ds → Qh vs H') → ta σ H Qh
def EVO (c : Cn) (to : TO) (ρ : List Sl) (Q : Option Int → Prop) : Prop := ∀ hd H σ, SV c hd H σ ρ → ∀ Qh : Option Int → Hp → Prop, (∀ o H', Q o → Ex c.mu H H' → c.B hd H' → Qh o H') → to σ H Qh
def R2J (c : Cn) (r : R2) (d1 d2 : Dt) (Q : Dt → Prop) : Prop := ∀ hd H x y, (∀ a, hd a = true → H a ≠ none) → (∀ a, c.mu a = true → hd a = true) → c.B hd H → Rp c.K (Hm hd H) x d1 → Rp c.K (Hm hd H) y d2 → ∀ Qh : VK, Kv c hd H Q Qh → r x y H Qh
def R2N (c : Cn) (r : R2) (d1 d2 : Dt) (Q : List Dt → Prop) : Prop := ∀ hd H x y, (∀ a, hd a = true → H a ≠ none) → (∀ a, c.mu a = true → hd a = true) → c.B hd H → Rp c.K (Hm hd H) x d1 → Rp c.K (Hm hd H) y d2 → ∀ Qh : VK, Kn c hd H Q Qh → r x y H Qh
def RCJ (c : Cn) (r : List V → Hp → VK → Prop) (ds : List Dt) (Q : Dt → Prop) : Prop := ∀ hd H vs, (∀ a, hd a = true → H a ≠ none) → (∀ a, c.mu a = true → hd a = true) → c.B hd H → RpAll c.K (Hm hd H) vs ds → ∀ Qh : VK, Kv c hd H Q Qh → r vs H Qh
def RCN (c : Cn) (r : List V → Hp → VK → Prop) (ds : List Dt) (Q : List Dt → Prop) : Prop := ∀ hd H vs, (∀ a, hd a = true → H a ≠ none) → (∀ a, c.mu a = true → hd a = true) → c.B hd H → RpAll c.K (Hm hd H) vs ds → ∀ Qh : VK, Kn c hd H Q Qh → r vs H Qh
section
variable {c : Cn} {ρ : List Sl} {ta tb te tx : TE} {t u : TT} {Q : Dt → Prop}
theorem EV.imp {Q' : Dt → Prop} (h : EV c te ρ Q) (k : ∀ d, Q d → Q' d) : EV c te ρ Q' := fun hd H σ v Qh q => h hd H σ v Qh fun d x H' hq => q d x H' (k d hq)
theorem EN.imp {Q Q' : List Dt → Prop} (h : EN c te ρ Q) (k : ∀ d, Q d → Q' d) : EN c te ρ Q' := fun hd H σ v Qh q => h hd H σ v Qh fun d o vs H' hq => q d o vs H' (k d hq)
theorem EVT.imp {Q Q' : Bool → Prop} (h : EVT c t ρ Q) (k : ∀ d, Q d → Q' d) : EVT c t ρ Q' := fun hd H σ v Qh q => h hd H σ v Qh fun b H' hq => q b H' (k b hq)
theorem kn_kv {hd : Addr → Bool} {H : Hp} {Q : Dt → Prop} {Qh : VK} (dom : ∀ a, hd a = true → H a ≠ none) (q : Kv c hd H Q Qh) : Kn c hd H (fun ds => Q (.lst ds)) Qh := fun ds o vs H' hq e b ho h1 h2 =>
  q (.lst ds) (.ref o) H' hq e (c.unhide (fun _ h => hide_of h) b) (.lst (by rw [hm_of (fresh_hd dom ho)]; exact h1) (h2.mono (sees_hide fun _ h => hide_of h)))
theorem EN.ev (h : EN c te ρ fun ds => Q (.lst ds)) : EV c te ρ Q := fun hd H σ v Qh q => h hd H σ v Qh (kn_kv v.dom q)
theorem R2N.j {r : R2} {d1 d2 : Dt} (h : R2N c r d1 d2 fun ds => Q (.lst ds)) : R2J c r d1 d2 Q := fun hd H x y dom mh b hx hy Qh q => h hd H x y dom mh b hx hy Qh (kn_kv dom q)
theorem RCN.j {r : List V → Hp → VK → Prop} {ds : List Dt} (h : RCN c r ds fun ds => Q (.lst ds)) : RCJ c r ds Q := fun hd H vs dom mh b hv Qh q => h hd H vs dom mh b hv Qh (kn_kv dom q)
theorem ev_var {i : Nat} {d : Dt} (h : ρ[i]? = some (.im d)) (k : Q d) : EV c (tVar i) ρ Q := fun hd H σ v Qh q => by
  obtain ⟨o, h1, h2⟩ := v.slots.get h
  cases o with
  | none => exact h2.elim
  | some x => exact ⟨x, h1, q d x H k .refl v.inv h2⟩
theorem ev_int {i : Int} (k : Q (.int i)) : EV c (tC (.int i)) ρ Q := fun hd H σ v Qh q => q _ _ H k .refl v.inv (.int i)
theorem ev_str {i : Str} (k : Q (.str i)) : EV c (tC (.str i)) ρ Q := fun hd H σ v Qh q => q _ _ H k .refl v.inv (.str i)
theorem ev_bl {i : Bool} (k : Q (.bl i)) : EV c (tC (.bl i)) ρ Q := fun hd H σ v Qh q => q _ _ H k .refl v.inv (.bl i)
theorem ev_non (k : Q .non) : EV c (tC .non) ρ Q := fun hd H σ v Qh q => q _ _ H k .refl v.inv .non
theorem ev_op {r : R2} (h : EV c ta ρ fun d1 => EV c tb ρ fun d2 => R2J c r d1 d2 Q) : EV c (tOp r ta tb) ρ Q := fun hd H σ v Qh q =>
  h hd H σ v _ fun d1 x H1 h1 e1 b1 r1 => h1 hd H1 σ (v.go e1 b1) _ fun d2 y H2 h2 e2 b2 r2 =>
    h2 hd H2 x y (fun a h => e2.dom a (e1.dom a (v.dom a h))) v.muh b2 (r1.mono (e2.sees v.muh)) r2 Qh fun d z H3 hq e3 => q d z H3 hq ((e1.trans e2).trans e3)
theorem en_op {r : R2} {Q : List Dt → Prop} (h : EV c ta ρ fun d1 => EV c tb ρ fun d2 => R2N c r d1 d2 Q) : EN c (tOp r ta tb) ρ Q := fun hd H σ v Qh q =>
  h hd H σ v _ fun d1 x H1 h1 e1 b1 r1 => h1 hd H1 σ (v.go e1 b1) _ fun d2 y H2 h2 e2 b2 r2 =>
    h2 hd H2 x y (fun a h => e2.dom a (e1.dom a (v.dom a h))) v.muh b2 (r1.mono (e2.sees v.muh)) r2 Qh fun ds o vs H3 hq e3 b3 ho => q ds o vs H3 hq ((e1.trans e2).trans e3) b3 ((e1.trans e2).fresh ho)
theorem ev_if (h : EVT c t ρ fun b => (b = true → EV c ta ρ Q) ∧ (b = false → EV c tb ρ Q)) : EV c (tIf t ta tb) ρ Q := fun hd H σ v Qh q =>
  h hd H σ v _ fun b H1 h1 e1 b1 => by
    cases b with
    | true =>
      show ta σ H1 Qh
      exact h1.1 rfl hd H1 σ (v.go e1 b1) Qh fun d z H3 hq e3 => q d z H3 hq (e1.trans e3)
    | false =>
      show tb σ H1 Qh
      exact h1.2 rfl hd H1 σ (v.go e1 b1) Qh fun d z H3 hq e3 => q d z H3 hq (e1.trans e3)
theorem en_if {Q : List Dt → Prop} (h : EVT c t ρ fun b => (b = true → EN c ta ρ Q) ∧ (b = false → EN c tb ρ Q)) : EN c (tIf t ta tb) ρ Q := fun hd H σ v Qh q =>
  h hd H σ v _ fun b H1 h1 e1 b1 => by
    cases b with
    | true =>
      show ta σ H1 Qh
      exact h1.1 rfl hd H1 σ (v.go e1 b1) Qh fun ds o vs H3 hq e3 b3 ho => q ds o vs H3 hq (e1.trans e3) b3 (e1.fresh ho)
    | false =>
      show tb σ H1 Qh
      exact h1.2 rfl hd H1 σ (v.go e1 b1) Qh fun ds o vs H3 hq e3 b3 ho => q ds o vs H3 hq (e1.trans e3) b3 (e1.fresh ho)
def BlJ (Q : Bool → Prop) : Dt → Prop
  | .bl b => Q b
  | _ => False
theorem rp_bl {K : PySem.W.Frag} {G : Hp} {x : V} {b : Bool} (h : Rp K G x (.bl b)) : x = .bl b := by cases h; rfl
theorem rp_int {K : PySem.W.Frag} {G : Hp} {x : V} {b : Int} (h : Rp K G x (.int b)) : x = .int b := by cases h; rfl
theorem et_test {Q : Bool → Prop} (h : EV c te ρ (BlJ Q)) : EVT c (tTest te) ρ Q := fun hd H σ v Qh q => h hd H σ v _ fun d x H1 h1 e1 b1 r1 => by
  cases d with
  | bl b => exact ⟨b, rp_bl r1, q b H1 h1 e1 b1⟩
  | _ => exact h1.elim
theorem et_B {Q : Bool → Prop} (h : EV c te ρ (BlJ Q)) : EVT c (tB te) ρ Q := fun hd H σ v Qh q => h hd H σ v _ fun d x H1 h1 e1 b1 r1 => by
  cases d with
  | bl b => exact ⟨b, rp_bl r1, q b H1 h1 e1 b1⟩
  | _ => exact h1.elim
theorem et_and {Q : Bool → Prop} (h : EVT c t ρ fun a => (a = true → EVT c u ρ Q) ∧ (a = false → Q false)) : EVT c (tAnd t u) ρ Q := fun hd H σ v Qh q => h hd H σ v _ fun b H1 h1 e1 b1 => by
  cases b with
  | true =>
    show u σ H1 Qh
    exact h1.1 rfl hd H1 σ (v.go e1 b1) Qh fun b H2 hq e2 => q b H2 hq (e1.trans e2)
  | false => exact q false H1 (h1.2 rfl) e1 b1
theorem et_or {Q : Bool → Prop} (h : EVT c t ρ fun a => (a = false → EVT c u ρ Q) ∧ (a = true → Q true)) : EVT c (tOr t u) ρ Q := fun hd H σ v Qh q => h hd H σ v _ fun b H1 h1 e1 b1 => by
  cases b with
  | false =>
    show u σ H1 Qh
    exact h1.1 rfl hd H1 σ (v.go e1 b1) Qh fun b H2 hq e2 => q b H2 hq (e1.trans e2)
  | true => exact q true H1 (h1.2 rfl) e1 b1
theorem et_not {Q : Bool → Prop} (h : EVT c t ρ fun a => Q (!a)) : EVT c (tNot t) ρ Q := fun hd H σ v Qh q => h hd H σ v _ fun b H1 h1 e1 b1 => q _ H1 h1 e1 b1
theorem ev_andV (h : EV c ta ρ (BlJ fun a => (a = true → EV c tb ρ Q) ∧ (a = false → Q (.bl false)))) : EV c (tAndV ta tb) ρ Q := fun hd H σ v Qh q => h hd H σ v _ fun d x H1 h1 e1 b1 r1 => by
  cases d with
  | bl b =>
    refine ⟨b, rp_bl r1, ?_⟩
    cases b with
    | true =>
      show tb σ H1 Qh
      exact h1.1 rfl hd H1 σ (v.go e1 b1) Qh fun d z H2 hq e2 => q d z H2 hq (e1.trans e2)
    | false => exact q _ _ H1 (h1.2 rfl) e1 b1 (.bl false)
  | _ => exact h1.elim
theorem ev_orV (h : EV c ta ρ (BlJ fun a => (a = false → EV c tb ρ Q) ∧ (a = true → Q (.bl true)))) : EV c (tOrV ta tb) ρ Q := fun hd H σ v Qh q => h hd H σ v _ fun d x H1 h1 e1 b1 r1 => by
  cases d with
  | bl b =>
    refine ⟨b, rp_bl r1, ?_⟩
    cases b with
    | false =>
      show tb σ H1 Qh
      exact h1.1 rfl hd H1 σ (v.go e1 b1) Qh fun d z H2 hq e2 => q d z H2 hq (e1.trans e2)
    | true => exact q _ _ H1 (h1.2 rfl) e1 b1 (.bl true)
  | _ => exact h1.elim
theorem ev_notV (h : EV c ta ρ (BlJ fun a => Q (.bl (!a)))) : EV c (tNotV ta) ρ Q := fun hd H σ v Qh q => h hd H σ v _ fun d x H1 h1 e1 b1 r1 => by
  cases d with
  | bl b => exact ⟨b, rp_bl r1, q _ _ H1 h1 e1 b1 (.bl _)⟩
  | _ => exact h1.elim
theorem ev_chain {r r' : R2} (h : EV c ta ρ fun d1 => EV c tb ρ fun d2 => R2J c r d1 d2 (BlJ fun k => (k = true → EV c te ρ fun d3 => R2J c r' d2 d3 Q) ∧ (k = false → Q (.bl false)))) : EV c (tChain r r' ta tb te) ρ Q := fun hd H σ v Qh q =>
  h hd H σ v _ fun d1 x H1 h1 e1 b1 r1 => h1 hd H1 σ (v.go e1 b1) _ fun d2 y H2 h2 e2 b2 r2 => by
    refine h2 hd H2 x y (fun a h => e2.dom a (e1.dom a (v.dom a h))) v.muh b2 (r1.mono (e2.sees v.muh)) r2 _ fun d z H3 hq e3 b3 r3 => ?_
    cases d with
    | bl k =>
      refine ⟨k, rp_bl r3, ?_⟩
      have e13 := (e1.trans e2).trans e3
      cases k with
      | true =>
        show te σ H3 _
        exact hq.1 rfl hd H3 σ (v.go e13 b3) _ fun d3 w' H4 h4 e4 b4 r4 => h4 hd H4 y w' (fun a h => e4.dom a (e13.dom a (v.dom a h))) v.muh b4 ((r2.mono (e3.sees v.muh)).mono (e4.sees v.muh)) r4 Qh fun d z H5 hq e5 => q d z H5 hq ((e13.trans e4).trans e5)
      | false => exact q _ _ H3 (hq.2 rfl) e13 b3 (.bl false)
    | _ => exact hq.elim
theorem ea_nil {Q : List Dt → Prop} (k : Q []) : EVA c tNil ρ Q := fun hd H σ v Qh q => q [] [] H k .refl v.inv .nil
theorem ea_cons {Q : List Dt → Prop} {tr : TA} (h : EV c ta ρ fun d => EVA c tr ρ fun ds => Q (d :: ds)) : EVA c (tCons ta tr) ρ Q := fun hd H σ v Qh q =>
  h hd H σ v _ fun d x H1 h1 e1 b1 r1 => h1 hd H1 σ (v.go e1 b1) _ fun ds vs H2 h2 e2 b2 r2 => q (d :: ds) (x :: vs) H2 h2 (e1.trans e2) b2 (.cons (r1.mono (e2.sees v.muh)) r2)
theorem en_lst {Q : List Dt → Prop} {ta : TA} (h : EVA c ta ρ fun ds => ds.length ≤ 100000 ∧ Q ds) : EN c (tLst ta) ρ Q := fun hd H σ v Qh q =>
  h hd H σ v _ fun ds vs H1 h1 e1 b1 r1 => ⟨by rw [r1.length]; exact Evl.sz_of h1.1, fun p hp => q ds p vs (upd H1 p (.lst vs)) h1.2 (e1.trans (.new hp)) (c.keepN (.new hp) hp b1) (e1.fresh hp) upd_same
    (r1.mono (sees_new (.new hp (mu := none0)) (fun _ h => nomatch h) hp))⟩
theorem ev_tup {ta : TA} (h : EVA c ta ρ fun ds => ds.length ≤ 100000 ∧ Q (.tup ds)) : EV c (tTup ta) ρ Q := fun hd H σ v Qh q =>
  h hd H σ v _ fun ds vs H1 h1 e1 b1 r1 => ⟨by rw [r1.length]; exact Evl.sz_of h1.1, fun p hp => by
    have dom1 : ∀ a, hd a = true → H1 a ≠ none := fun a h => e1.dom a (v.dom a h)
    refine q (.tup ds) (.ref p) (upd H1 p (.tup vs)) h1.2 (e1.trans (.new hp)) (c.keep0 (.new hp) b1) (.tup (xs := vs) (.inl (.inl ?_)) (r1.mono ((Ex.new hp (mu := none0)).sees (fun _ h => nomatch h))))
    rw [hm_of (fresh_hd dom1 hp), upd_same]⟩
theorem ev_cb {r : List V → Hp → VK → Prop} {ta : TA} (h : EVA c ta ρ fun ds => RCJ c r ds Q) : EV c (tCB r ta) ρ Q := fun hd H σ v Qh q =>
  h hd H σ v _ fun ds vs H1 h1 e1 b1 r1 => h1 hd H1 vs (fun a h => e1.dom a (v.dom a h)) v.muh b1 r1 Qh fun d z H2 hq e2 => q d z H2 hq (e1.trans e2)
theorem en_cb {r : List V → Hp → VK → Prop} {ta : TA} {Q : List Dt → Prop} (h : EVA c ta ρ fun ds => RCN c r ds Q) : EN c (tCB r ta) ρ Q := fun hd H σ v Qh q =>
  h hd H σ v _ fun ds vs H1 h1 e1 b1 r1 => h1 hd H1 vs (fun a h => e1.dom a (v.dom a h)) v.muh b1 r1 Qh fun ds o vs H2 hq e2 b2 ho => q ds o vs H2 hq (e1.trans e2) b2 (e1.fresh ho)
def SpJ (c : Cn) (sp : Sp) (E : XK) (ds : List Dt) (Q : Dt → Prop) : Prop := RCJ c (fun vs H Qh => sp vs H Qh E) ds Q
def SpN (c : Cn) (sp : Sp) (E : XK) (ds : List Dt) (Q : List Dt → Prop) : Prop := RCN c (fun vs H Qh => sp vs H Qh E) ds Q
theorem ev_call {sp : Sp} {E : XK} {ta : TA} (h : EVA c ta ρ fun ds => SpJ c sp E ds Q) : EV c (tCall sp [] E ta) ρ Q := fun hd H σ v Qh q =>
  h hd H σ v _ fun ds vs H1 h1 e1 b1 r1 => by
    show sp (vs ++ []) H1 Qh E
    rw [List.append_nil]
    exact h1 hd H1 vs (fun a h => e1.dom a (v.dom a h)) v.muh b1 r1 Qh fun d z H2 hq e2 => q d z H2 hq (e1.trans e2)
theorem en_call {sp : Sp} {E : XK} {ta : TA} {Q : List Dt → Prop} (h : EVA c ta ρ fun ds => SpN c sp E ds Q) : EN c (tCall sp [] E ta) ρ Q := fun hd H σ v Qh q =>
  h hd H σ v _ fun ds vs H1 h1 e1 b1 r1 => by
    show sp (vs ++ []) H1 Qh E
    rw [List.append_nil]
    exact h1 hd H1 vs (fun a h => e1.dom a (v.dom a h)) v.muh b1 r1 Qh fun ds o vs H2 hq e2 b2 ho => q ds o vs H2 hq (e1.trans e2) b2 (e1.fresh ho)
theorem eo_none {Q : Option Int → Prop} (k : Q none) : EVO c tNoPart ρ Q := fun hd H σ v Qh q => q none H k .refl v.inv
def IntJ (Q : Int → Prop) : Dt → Prop
  | .int b => Q b
  | _ => False
theorem eo_some {Q : Option Int → Prop} (h : EV c te ρ (IntJ fun i => Q (some i))) : EVO c (tPart te) ρ Q := fun hd H σ v Qh q => h hd H σ v _ fun d x H1 h1 e1 b1 r1 => by
  cases d with
  | int i => exact ⟨i, rp_int r1, q _ H1 h1 e1 b1⟩
  | _ => exact h1.elim
end
end CC
namespace CC
open PySem PySem.Spec PyProof.Rows L2
section
variable {c : Cn} {hid hd hd' : Addr → Bool} {H0 H H' : Hp} {σ : L2.St} {ρ : List Sl}
theorem SlAll.len : ∀ {σ : L2.St} {ρ : List Sl}, SlAll c hd H σ ρ → σ.length = ρ.length
  | _, _, .nil => rfl
  | _, _, .cons _ t => congrArg (· + 1) (SlAll.len t)
theorem SlAll.of_get : ∀ {σ : L2.St} {ρ : List Sl}, σ.length = ρ.length → (∀ (i : Nat) (o : Option V) (s : Sl), σ[i]? = some o → ρ[i]? = some s → SlOk c hd H o s) → SlAll c hd H σ ρ
  | [], [], _, _ => .nil
  | o :: os, s :: ss, hl, h => .cons (h 0 o s rfl rfl) (SlAll.of_get (by simpa using hl) fun i o s h1 h2 => h (i + 1) o s h1 h2)
  | [], _ :: _, hl, _ => by simp at hl
  | _ :: _, [], hl, _ => by simp at hl
theorem set_get {α : Type} {l : List α} {i k : Nat} {x y : α} (h : (l.set i x)[k]? = some y) : (k = i ∧ y = x) ∨ (k ≠ i ∧ l[k]? = some y) := by
  by_cases q : k = i
  · subst q
    by_cases hl : k < l.length
    · rw [List.getElem?_set_self hl] at h
      exact .inl ⟨rfl, (Option.some.inj h).symm⟩
    · rw [List.getElem?_eq_none (by simpa using hl)] at h
      cases h
  · rw [List.getElem?_set_ne (Ne.symm q)] at h
    exact .inr ⟨q, h⟩
theorem ownAt_set {i k : Nat} {o : Addr} {x : Option V} {s : Sl} (h : ownAt (σ.set i x) (ρ.set i s) k o) : (k = i ∧ x = some (.ref o) ∧ owns s = true) ∨ (k ≠ i ∧ ownAt σ ρ k o) := by
  obtain ⟨h1, s', h2, h3⟩ := h
  rcases set_get h1 with ⟨q, e⟩ | ⟨q, e⟩
  · rcases set_get h2 with ⟨_, e2⟩ | ⟨q2, _⟩
    · exact .inl ⟨q, e.symm, by rw [← e2]; exact h3⟩
    · exact absurd q q2
  · rcases set_get h2 with ⟨q2, _⟩ | ⟨_, e2⟩
    · exact absurd q2 q
    · exact .inr ⟨q, e, s', e2, h3⟩
theorem SD.go (s : SD c hid hd H0 H σ ρ) (e : Ex c.mu H H') (b : c.B hd H') : SD c hid hd H0 H' σ ρ := ⟨s.toSV.go e b, s.sub, s.ext.trans e, s.new, s.own, s.ownh⟩
theorem SD.setIm (s : SD c hid hd H0 H σ ρ) {i : Nat} {v : V} {d : Dt} (h : Rp c.K (Hm hd H) v d) : SD c hid hd H0 H (σ.set i (some v)) (ρ.set i (.im d)) :=
  ⟨s.toSV.set i h, s.sub, s.ext, s.new, fun a b o h1 h2 => by
    rcases ownAt_set h1 with ⟨_, _, z⟩ | ⟨_, h1⟩
    · cases z
    · rcases ownAt_set h2 with ⟨_, _, z⟩ | ⟨_, h2⟩
      · cases z
      · exact s.own a b o h1 h2, fun a o h1 => by
    rcases ownAt_set h1 with ⟨_, _, z⟩ | ⟨_, h1⟩
    · cases z
    · exact s.ownh a o h1⟩
theorem ownAt_dom (s : SlAll c hd H σ ρ) {i : Nat} {o : Addr} (h : ownAt σ ρ i o) : hd o = true ∧ c.mu o = false ∧ H o ≠ none := by
  obtain ⟨h1, sl, h2, h3⟩ := h
  obtain ⟨o', h4, h5⟩ := s.get h2
  rw [h1] at h4
  cases h4
  cases sl with
  | ac ds => obtain ⟨a1, a2, vs, a3, _⟩ := h5; exact ⟨a1, a2, by rw [a3]; exact fun z => nomatch z⟩
  | ak ds => obtain ⟨a1, a2, vs, a3, _⟩ := h5; exact ⟨a1, a2, by rw [a3]; exact fun z => nomatch z⟩
  | aT ds => obtain ⟨a1, a2, vs, a3, _⟩ := h5; exact ⟨a1, a2, by rw [a3]; exact fun z => nomatch z⟩
  | _ => cases h3
theorem ownAt_ext (s : SlAll c hd H σ ρ) {i : Nat} {o : Addr} (h : ownAt σ ρ i o) : ∃ v, H o = some v ∧ ext v = false := by
  obtain ⟨h1, sl, h2, h3⟩ := h
  obtain ⟨x, h4, h5⟩ := s.get h2
  rw [h1] at h4
  cases h4
  cases sl with
  | ac ds => obtain ⟨_, _, vs, a3, _⟩ := h5; exact ⟨_, a3, rfl⟩
  | ak ds => obtain ⟨_, _, vs, a3, _⟩ := h5; exact ⟨_, a3, rfl⟩
  | aT ds => obtain ⟨_, _, vs, a3, _⟩ := h5; exact ⟨_, a3, rfl⟩
  | _ => cases h3
theorem SD.setNew (s : SD c hid hd H0 H σ ρ) {o : Addr} (e : Ex c.mu H H') (b : c.B (hide hd o) H') {i : Nat} {sl : Sl} (ho : H o = none) (h1 : H' o ≠ none) (h : SlOk c (hide hd o) H' (some (.ref o)) sl) :
    SD c hid (hide hd o) H0 H' (σ.set i (some (.ref o))) (ρ.set i sl) := by
  have no : ∀ k, ¬ ownAt σ ρ k o := fun k q => (ownAt_dom s.slots q).2.2 ho
  have nh : hid o = false := by
    cases q : hid o with
    | false => rfl
    | true => exact absurd ho (s.dom o (s.sub o q))
  refine ⟨(s.toSV.hide e b ho h1).set i h, fun a z => hide_of (s.sub a z), s.ext.trans e, fun a z hz => ?_, fun a b u z1 z2 => ?_, fun a u z1 => ?_⟩
  · rcases hide_inv z with z | z
    · exact s.new a z hz
    · subst z; exact s.ext.fresh ho
  · rcases ownAt_set z1 with ⟨q1, e1, _⟩ | ⟨q1, z1⟩
    · rcases ownAt_set z2 with ⟨q2, _, _⟩ | ⟨q2, z2⟩
      · rw [q1, q2]
      · cases e1; exact absurd z2 (no b)
    · rcases ownAt_set z2 with ⟨q2, e2, _⟩ | ⟨q2, z2⟩
      · cases e2; exact absurd z1 (no a)
      · exact s.own a b u z1 z2
  · rcases ownAt_set z1 with ⟨_, e1, _⟩ | ⟨_, z1⟩
    · cases e1; exact nh
    · exact s.ownh a u z1
theorem SlOk.ne {o : Option V} {sl : Sl} {p : Addr} {u : HO} (hp : hd p = true) (hn : ∀ q, o = some (.ref q) → owns sl = true → q ≠ p) : SlOk c hd H o sl → SlOk c hd (upd H p u) o sl := by
  intro h
  have eh : Hm hd (upd H p u) = Hm hd H := hm_upd hp
  cases sl with
  | un => unfold SlOk; split <;> trivial
  | im d =>
    cases o with
    | none => exact h.elim
    | some v => show Rp c.K (Hm hd (upd H p u)) v d; rw [eh]; exact h
  | rw v =>
    cases o with
    | none => exact h.elim
    | some v => exact h
  | dl q ds =>
    cases o with
    | none => exact h.elim
    | some v =>
      refine ⟨h.1, ?_⟩
      show Rp c.K (Hm hd (upd H p u)) (.ref q) (.dk ds)
      rw [eh]
      exact h.2
  | iK ds =>
    cases o with
    | none => exact h.elim
    | some v =>
      cases v with
      | ref q =>
        obtain ⟨a1, a2, vs, a3, a4⟩ := h
        exact ⟨a1, a2, vs, by rw [upd_ne (fun z => by subst z; rw [hp] at a1; cases a1)]; exact a3, by rw [eh]; exact a4⟩
      | _ => exact h.elim
  | ac ds =>
    cases o with
    | none => exact h.elim
    | some v =>
      cases v with
      | ref q =>
        obtain ⟨a1, a2, vs, a3, a4⟩ := h
        exact ⟨a1, a2, vs, by rw [upd_ne (hn q rfl rfl)]; exact a3, by rw [eh]; exact a4⟩
      | _ => exact h.elim
  | ak ds =>
    cases o with
    | none => exact h.elim
    | some v =>
      cases v with
      | ref q =>
        obtain ⟨a1, a2, vs, a3, a4⟩ := h
        exact ⟨a1, a2, vs, by rw [upd_ne (hn q rfl rfl)]; exact a3, by rw [eh]; exact a4⟩
      | _ => exact h.elim
  | aT ds =>
    cases o with
    | none => exact h.elim
    | some v =>
      cases v with
      | ref q =>
        obtain ⟨a1, a2, vs, a3, a4⟩ := h
        exact ⟨a1, a2, vs, by rw [upd_ne (hn q rfl rfl)]; exact a3, by rw [eh]; exact a4⟩
      | _ => exact h.elim
theorem SD.mutOwn (s : SD c hid hd H0 H σ ρ) {i : Nat} {o : Addr} {sl : Sl} {u : HO} (ho : ownAt σ ρ i o) (hs : owns sl = true) (h : SlOk c hd (upd H o u) (some (.ref o)) sl) : SD c hid hd H0 (upd H o u) σ (ρ.set i sl) := by
  obtain ⟨hh, hmu, hdom⟩ := ownAt_dom s.slots ho
  have nh := s.ownh i o ho
  have key : ∀ k p, ownAt σ (ρ.set i sl) k p → ownAt σ ρ k p := fun k p q => by
    obtain ⟨q1, s', q2, q3⟩ := q
    rcases set_get q2 with ⟨rfl, _⟩ | ⟨z, e⟩
    · obtain ⟨w1, s2, w2, w3⟩ := ho
      exact ⟨q1, s2, w2, w3⟩
    · exact ⟨q1, s', e, q3⟩
  refine ⟨⟨fun a q => upd_dom (s.dom a q), s.muh, c.put hh hmu (ownAt_ext s.slots ho).choose_spec.1 (ownAt_ext s.slots ho).choose_spec.2 s.inv, SlAll.of_get ?_ fun k x s' h1 h2 => ?_⟩, s.sub, s.ext.mut (.inl (s.new o hh nh)), s.new, fun a b p z1 z2 => s.own a b p (key _ _ z1) (key _ _ z2), fun a p z1 => s.ownh a p (key _ _ z1)⟩
  · rw [List.length_set]; exact s.slots.len
  · rcases set_get h2 with ⟨rfl, e⟩ | ⟨q, e⟩
    · rw [e]
      obtain ⟨w1, _⟩ := ho
      rw [w1] at h1
      cases h1
      exact h
    · obtain ⟨x', g1, g2⟩ := s.slots.get e
      rw [h1] at g1
      cases g1
      refine SlOk.ne hh (fun p ep ow z => ?_) g2
      subst z
      subst ep
      exact q (s.own k i p ⟨h1, s', e, ow⟩ ho)
theorem SD.share (s : SD c hid hd H0 H σ ρ) {i : Nat} {sl sl' : Sl} (hi : ρ[i]? = some sl) (hs : owns sl = true) (no : owns sl' = false)
    (h : ∀ (o : Addr) (hd' : Addr → Bool), (∀ a, hd' a = true → hd a = true) → hd' o = false → SlOk c hd H (some (.ref o)) sl → SlOk c hd' H (some (.ref o)) sl') : ∃ hd', SD c hid hd' H0 H σ (ρ.set i sl') := by
  obtain ⟨x, g1, g2⟩ := s.slots.get hi
  obtain ⟨o, rfl⟩ : ∃ o, x = some (.ref o) := by
    cases x with
    | none => cases sl <;> first | exact g2.elim | cases hs
    | some v => cases v <;> cases sl <;> first | exact ⟨_, rfl⟩ | exact g2.elim | cases hs
  have ho : ownAt σ ρ i o := ⟨g1, sl, hi, hs⟩
  obtain ⟨hh, hmu, hdom⟩ := ownAt_dom s.slots ho
  have nh := s.ownh i o ho
  let hd' : Addr → Bool := fun a => hd a && !decide (a = o)
  have le : ∀ a, hd' a = true → hd a = true := fun a q => (Bool.and_eq_true_iff.mp q).1
  have ho' : hd' o = false := by show (hd o && !decide (o = o)) = false; rw [decide_eq_true rfl]; simp
  have ne : ∀ a, a ≠ o → hd a = true → hd' a = true := fun a q z => by show (hd a && !decide (a = o)) = true; rw [z, decide_eq_false q]; rfl
  have key : ∀ k p, ownAt σ (ρ.set i sl') k p → k ≠ i ∧ ownAt σ ρ k p := fun k p q => by
    obtain ⟨q1, s', q2, q3⟩ := q
    rcases set_get q2 with ⟨rfl, e⟩ | ⟨z, e⟩
    · rw [e, no] at q3; cases q3
    · exact ⟨z, q1, s', e, q3⟩
  refine ⟨hd', ⟨fun a q => s.dom a (le a q), fun a q => ne a (fun z => by subst z; rw [q] at hmu; cases hmu) (s.muh a q), (c.unhide le s.inv), SlAll.of_get ?_ fun k x s' h1 h2 => ?_⟩, fun a q => ne a (fun z => by subst z; rw [q] at nh; cases nh) (s.sub a q), s.ext, fun a q z => s.new a (le a q) z, fun a b p z1 z2 => s.own a b p (key _ _ z1).2 (key _ _ z2).2, fun a p z1 => s.ownh a p (key _ _ z1).2⟩
  · rw [List.length_set]; exact s.slots.len
  · have sees : Sees (Hm hd H) (Hm hd' H) := sees_hide le
    rcases set_get h2 with ⟨rfl, e⟩ | ⟨q, e⟩
    · rw [e]
      rw [g1] at h1
      cases h1
      exact h o hd' le ho' g2
    · obtain ⟨x', g3, g4⟩ := s.slots.get e
      rw [h1] at g3
      cases g3
      cases s' with
      | un => unfold SlOk; split <;> trivial
      | im d =>
        cases x with
        | none => exact g4.elim
        | some v => exact Rp.mono sees g4
      | rw v =>
        cases x with
        | none => exact g4.elim
        | some v => exact g4
      | dl q ds =>
        cases x with
        | none => exact g4.elim
        | some v => exact ⟨g4.1, Rp.mono sees g4.2⟩
      | iK ds =>
        cases x with
        | none => exact g4.elim
        | some v =>
          cases v with
          | ref p =>
            obtain ⟨a1, a2, vs, a3, a4⟩ := g4
            refine ⟨?_, a2, vs, a3, RpK.mono sees a4⟩
            cases q2 : hd' p with
            | false => rfl
            | true => rw [le p q2] at a1; cases a1
          | _ => exact g4.elim
      | ac ds =>
        cases x with
        | none => exact g4.elim
        | some v =>
          cases v with
          | ref p =>
            obtain ⟨a1, a2, vs, a3, a4⟩ := g4
            exact ⟨ne p (fun z => by subst z; exact q (s.own k i p ⟨h1, _, e, rfl⟩ ho)) a1, a2, vs, a3, RpAll.mono sees a4⟩
          | _ => exact g4.elim
      | ak ds =>
        cases x with
        | none => exact g4.elim
        | some v =>
          cases v with
          | ref p =>
            obtain ⟨a1, a2, vs, a3, a4⟩ := g4
            exact ⟨ne p (fun z => by subst z; exact q (s.own k i p ⟨h1, _, e, rfl⟩ ho)) a1, a2, vs, a3, RpK.mono sees a4⟩
          | _ => exact g4.elim
      | aT ds =>
        cases x with
        | none => exact g4.elim
        | some v =>
          cases v with
          | ref p =>
            obtain ⟨a1, a2, vs, a3, a4⟩ := g4
            exact ⟨ne p (fun z => by subst z; exact q (s.own k i p ⟨h1, _, e, rfl⟩ ho)) a1, a2, vs, a3, RpT.mono sees a4⟩
          | _ => exact g4.elim
inductive Le : List Sl → List Sl → Prop
  | nil : Le [] []
  | un {s : Sl} {a b : List Sl} : Le a b → Le (.un :: a) (s :: b)
  | same {s : Sl} {a b : List Sl} : Le a b → Le (s :: a) (s :: b)
theorem Le.get : ∀ {a b : List Sl}, Le a b → ∀ {i : Nat} {s : Sl}, a[i]? = some s → s = .un ∨ b[i]? = some s
  | _, _, .nil, _, _, h => .inr h
  | _, _, .un _, 0, _, h => .inl (Option.some.inj h).symm
  | _, _, .same _, 0, _, h => .inr h
  | _, _, .un t, i + 1, _, h => Le.get t (i := i) h
  | _, _, .same t, i + 1, _, h => Le.get t (i := i) h
theorem Le.len : ∀ {a b : List Sl}, Le a b → a.length = b.length
  | _, _, .nil => rfl
  | _, _, .un t => congrArg (· + 1) (Le.len t)
  | _, _, .same t => congrArg (· + 1) (Le.len t)
theorem Le.refl : ∀ {a : List Sl}, Le a a
  | [] => .nil
  | _ :: _ => .same Le.refl
theorem SD.weak {ρ' : List Sl} (s : SD c hid hd H0 H σ ρ) (l : Le ρ' ρ) : SD c hid hd H0 H σ ρ' := by
  have key : ∀ k p, ownAt σ ρ' k p → ownAt σ ρ k p := fun k p q => by
    obtain ⟨q1, s', q2, q3⟩ := q
    rcases l.get q2 with rfl | e
    · cases q3
    · exact ⟨q1, s', e, q3⟩
  refine ⟨⟨s.dom, s.muh, s.inv, SlAll.of_get (by rw [l.len]; exact s.slots.len) fun k x s' h1 h2 => ?_⟩, s.sub, s.ext, s.new, fun a b p z1 z2 => s.own a b p (key _ _ z1) (key _ _ z2), fun a p z1 => s.ownh a p (key _ _ z1)⟩
  rcases l.get h2 with rfl | e
  · unfold SlOk; split <;> trivial
  · obtain ⟨x', g1, g2⟩ := s.slots.get e
    rw [h1] at g1
    cases g1
    exact g2
end
end CC
namespace CC
open PySem PySem.Spec PyProof.Rows L2
def NJ (c : Cn) (hid : Addr → Bool) (H0 : Hp) (N : L2.St → Hp → Prop) (ρ : List Sl) : Prop := ∀ hd H σ, SD c hid hd H0 H σ ρ → N σ H
def Nx (c : Cn) (hid : Addr → Bool) (H0 : Hp) (I : List Sl → Prop) : L2.St → Hp → Prop := fun σ H => ∃ ρ hd, I ρ ∧ SD c hid hd H0 H σ ρ
def RJ (c : Cn) (hid : Addr → Bool) (H0 : Hp) (R : VK) (d : Dt) : Prop := ∀ v H', Ex c.mu H0 H' → c.B hid H' → Rp c.K (Hm hid H') v d → R v H'
def RNJ (c : Cn) (hid : Addr → Bool) (H0 : Hp) (R : VK) (ds : List Dt) : Prop := ∀ o vs H', Ex c.mu H0 H' → c.B (hide hid o) H' → H0 o = none → H' o = some (.lst vs) → RpAll c.K (Hm (hide hid o) H') vs ds → R (.ref o) H'
section
variable {c : Cn} {hid : Addr → Bool} {H0 H1 : Hp} {ρ : List Sl} {ta tb te : TE} {t u : TT} {D : Ends} {ts tz : TS} {N : L2.St → Hp → Prop} {g : TG}
theorem SD.base {hd : Addr → Bool} {H : Hp} {σ : L2.St} (e : Ex c.mu H0 H1) (s : SD c hid hd H1 H σ ρ) : SD c hid hd H0 H σ ρ := ⟨s.toSV, s.sub, e.trans s.ext, fun a h1 h2 => e.fresh (s.new a h1 h2), s.own, s.ownh⟩
theorem NJ.base (e : Ex c.mu H0 H1) (h : NJ c hid H0 N ρ) : NJ c hid H1 N ρ := fun hd H σ s => h hd H σ (s.base e)
theorem RJ.base {R : VK} {d : Dt} (e : Ex c.mu H0 H1) (h : RJ c hid H0 R d) : RJ c hid H1 R d := fun v H' e1 => h v H' (e.trans e1)
theorem RNJ.base {R : VK} {d : List Dt} (e : Ex c.mu H0 H1) (h : RNJ c hid H0 R d) : RNJ c hid H1 R d := fun o vs H' e1 b ho => h o vs H' (e.trans e1) b (e.fresh ho)
theorem nj_asg {i : Nat} (h : EV c te ρ fun d => NJ c hid H0 D.nx (ρ.set i (.im d))) : NJ c hid H0 (tAsg te (gName i) D) ρ := fun hd H σ s =>
  h hd H σ s.toSV _ fun d v H' hq e b r => hq hd H' _ ((s.go e b).setIm r)
theorem nj_asgN {i : Nat} (h : EN c te ρ fun ds => NJ c hid H0 D.nx (ρ.set i (.ac ds))) : NJ c hid H0 (tAsg te (gName i) D) ρ := fun hd H σ s =>
  h hd H σ s.toSV _ fun ds o vs H' hq e b ho h1 r => hq (hide hd o) H' _ (s.setNew e b ho (by rw [h1]; exact fun z => nomatch z) ⟨hide_self, by
    cases q : c.mu o with
    | false => rfl
    | true => exact absurd ho (s.dom o (s.muh o q)), vs, h1, r⟩)
def ETJ (c : Cn) (hid : Addr → Bool) (H0 : Hp) (t : TT) (ρ : List Sl) (Q : Bool → Prop) : Prop := ∀ hd H σ, SD c hid hd H0 H σ ρ → ∀ Qh : Bool → Hp → Prop, (∀ b H', Q b → Ex c.mu H H' → c.B hd H' → Qh b H') → t σ H Qh
theorem etj {Q : Bool → Prop} (h : EVT c t ρ Q) : ETJ c hid H0 t ρ Q := fun hd H σ s => h hd H σ s.toSV
def Flat (c : Cn) : Prop := ∀ hd hd' H, c.B hd H → c.B hd' H
theorem etj_peek {Q : Bool → Prop} {i : Nat} {ds : List Dt} (hi : ρ[i]? = some (.ac ds)) (h : ETJ c hid H0 t (ρ.set i (.im (.lst ds))) Q) (fl : Flat c := by exact fun _ _ _ h => h) : ETJ c hid H0 t ρ Q := fun hd H σ s => by
  obtain ⟨hd', s'⟩ := s.share hi rfl (sl' := .im (.lst ds)) rfl fun o hd' le ho g => by
    obtain ⟨a1, a2, vs, a3, a4⟩ := g
    exact .lst (by rw [hm_of ho]; exact a3) (a4.mono (sees_hide le))
  exact fun Qh q => h hd' H σ s' Qh fun b H' hq e bb => q b H' hq e (fl hd' hd H' bb)
theorem nj_if (h : ETJ c hid H0 t ρ fun b => (b = true → NJ c hid H0 (ts D) ρ) ∧ (b = false → NJ c hid H0 (tz D) ρ)) : NJ c hid H0 (tIfS t ts tz D) ρ := fun hd H σ s =>
  h hd H σ s _ fun b H' hq e hb => by
    cases b with
    | true => show ts D σ H'; exact hq.1 rfl hd H' σ (s.go e hb)
    | false => show tz D σ H'; exact hq.2 rfl hd H' σ (s.go e hb)
theorem nj_drop (h : EV c te ρ fun _ => NJ c hid H0 D.nx ρ) : NJ c hid H0 (tDrop te D) ρ := fun hd H σ s =>
  h hd H σ s.toSV _ fun d v H' hq e b r => hq hd H' _ (s.go e b)
theorem nj_ret (h : EV c te ρ fun d => RJ c hid H0 D.rt d) : NJ c hid H0 (tRet te D) ρ := fun hd H σ s =>
  h hd H σ s.toSV _ fun d v H' hq e b r => hq v H' (s.ext.trans e) (c.unhide s.sub b) (r.mono (sees_hide s.sub))
theorem nj_retN (h : EN c te ρ fun ds => RNJ c hid H0 D.rt ds) : NJ c hid H0 (tRet te D) ρ := fun hd H σ s =>
  h hd H σ s.toSV _ fun ds o vs H' hq e b ho h1 r => hq o vs H' (s.ext.trans e) (c.unhide (fun a h => by
    rcases hide_inv h with h | h
    · exact hide_of (s.sub a h)
    · subst h; exact hide_self) b) (s.ext.fresh ho) h1 (r.mono (sees_hide fun a h => by
    rcases hide_inv h with h | h
    · exact hide_of (s.sub a h)
    · subst h; exact hide_self))
theorem nj_retAc {i : Nat} {ds : List Dt} (hi : ρ[i]? = some (.ac ds)) (h : RNJ c hid H0 D.rt ds) : NJ c hid H0 (tRet (tVar i) D) ρ := fun hd H σ s => by
  obtain ⟨x, g1, g2⟩ := s.slots.get hi
  cases x with
  | none => exact g2.elim
  | some v =>
    cases v with
    | ref o =>
      obtain ⟨a1, a2, vs, a3, a4⟩ := g2
      have nh := s.ownh i o ⟨g1, _, hi, rfl⟩
      exact ⟨.ref o, g1, h o vs H s.ext (c.unhide (fun a h => by
        rcases hide_inv h with h | h
        · exact s.sub a h
        · subst h; exact a1) s.inv) (s.new o a1 nh) a3 (a4.mono (sees_hide fun a h => by
        rcases hide_inv h with h | h
        · exact s.sub a h
        · subst h; exact a1))⟩
    | _ => exact g2.elim
theorem nj_share {i : Nat} {ds : List Dt} (hi : ρ[i]? = some (.ac ds)) (h : NJ c hid H0 N (ρ.set i (.im (.lst ds)))) : NJ c hid H0 N ρ := fun hd H σ s => by
  obtain ⟨hd', s'⟩ := s.share hi rfl (sl' := .im (.lst ds)) rfl fun o hd' le ho g => by
    obtain ⟨a1, a2, vs, a3, a4⟩ := g
    exact .lst (by rw [hm_of ho]; exact a3) (a4.mono (sees_hide le))
  exact h hd' H σ s'
theorem nj_weak {ρ' : List Sl} (l : Le ρ' ρ) (h : NJ c hid H0 N ρ') : NJ c hid H0 N ρ := fun hd H σ s => h hd H σ (s.weak l)
theorem nj_nx {I : List Sl → Prop} (h : I ρ) : NJ c hid H0 (Nx c hid H0 I) ρ := fun hd H σ s => ⟨ρ, hd, h, s⟩
theorem nj_nxw {I : List Sl → Prop} (ρ' : List Sl) (h : I ρ') (l : Le ρ' ρ) : NJ c hid H0 (Nx c hid H0 I) ρ := nj_weak l (nj_nx h)
theorem own_get {hd : Addr → Bool} {H : Hp} {σ : L2.St} (s : SlAll c hd H σ ρ) {i : Nat} {ds : List Dt} (hi : ρ[i]? = some (.ac ds)) : ∃ o vs, σ[i]? = some (some (.ref o)) ∧ hd o = true ∧ c.mu o = false ∧ H o = some (.lst vs) ∧ RpAll c.K (Hm hd H) vs ds := by
  obtain ⟨x, g1, g2⟩ := s.get hi
  cases x with
  | none => exact g2.elim
  | some v =>
    cases v with
    | ref o =>
      obtain ⟨a1, a2, vs, a3, a4⟩ := g2
      exact ⟨o, vs, g1, a1, a2, a3, a4⟩
    | _ => exact g2.elim
theorem nj_app {i : Nat} {ds : List Dt} {K : PySem.W.Frag} (hi : ρ[i]? = some (.ac ds)) (hz : ds.length < 100000) (h : EV c te ρ fun d => NJ c hid H0 D.nx (ρ.set i (.ac (ds ++ [d])))) : NJ c hid H0 (tDrop (tBM K "list" rAppend (tVar i) (tCons te tNil)) D) ρ := fun hd H σ s => by
  obtain ⟨o, vs, g1, a1, a2, a3, a4⟩ := own_get s.slots hi
  refine ⟨.ref o, g1, .inl ⟨rfl, vs, .inl (.inl a3)⟩, h hd H σ s.toSV _ fun d v H' hq e b r => ?_⟩
  have s' := s.go e b
  have a3' : H' o = some (.lst vs) := e.keep o _ a2 a3
  refine ⟨o, vs, v, rfl, rfl, a3', Evl.sz_lt (by rw [a4.length]; exact hz), hq hd _ σ (s'.mutOwn ⟨g1, _, hi, rfl⟩ rfl ⟨a1, a2, vs ++ [v], upd_same, ?_⟩)⟩
  rw [hm_upd a1]
  exact (a4.mono (e.sees s.muh)).append (.cons r .nil)
theorem nj_setL {i : Nat} {ds : List Dt} (hi : ρ[i]? = some (.ac ds)) (h : EV c te ρ fun d => EV c tb ρ (IntJ fun k => ∃ j, ixN ds.length k = some j ∧ NJ c hid H0 D.nx (ρ.set i (.ac (ds.set j d))))) : NJ c hid H0 (tAsg te (gSub (tVar i) tb rSetL) D) ρ := fun hd H σ s => by
  obtain ⟨o, vs, g1, a1, a2, a3, a4⟩ := own_get s.slots hi
  refine h hd H σ s.toSV _ fun d v H' hq e b r => ⟨.ref o, g1, hq hd H' σ (s.go e b).toSV _ fun d2 k H2 hk e2 b2 r2 => ?_⟩
  cases d2 with
  | int k' =>
    obtain ⟨j, hj, hq⟩ := hk
    have e12 := e.trans e2
    have s' := s.go e12 b2
    have a3' : H2 o = some (.lst vs) := e12.keep o _ a2 a3
    refine ⟨o, vs, k', j, rfl, rp_int r2, a3', by rw [a4.length]; exact hj, hq hd _ σ (s'.mutOwn ⟨g1, _, hi, rfl⟩ rfl ⟨a1, a2, vs.set j v, upd_same, ?_⟩)⟩
    rw [hm_upd a1]
    exact (a4.mono (e12.sees s.muh)).set (r.mono (e2.sees s.muh)) j
  | _ => exact hk.elim
theorem ev_ixAc {i : Nat} {ds : List Dt} {r : R2} {Q : Dt → Prop} (hr : ∀ p xs k v H (Qh : VK), H p = some (.lst xs) → atI xs k = some v → Qh v H → r (.ref p) (.int k) H Qh) (hi : ρ[i]? = some (.ac ds)) (h : EV c tb ρ (IntJ fun k => ∃ d, atI ds k = some d ∧ Q d)) : EV c (tOp r (tVar i) tb) ρ Q := fun hd H σ s Qh q => by
  obtain ⟨o, vs, g1, a1, a2, a3, a4⟩ := own_get s.slots hi
  refine ⟨.ref o, g1, h hd H σ s _ fun d2 k H2 hk e2 b2 r2 => ?_⟩
  cases d2 with
  | int k' =>
    obtain ⟨d, hd1, hq⟩ := hk
    rw [rp_int r2]
    unfold atI at hd1
    cases hx : ixN ds.length k' with
    | none => rw [hx] at hd1; cases hd1
    | some j =>
      rw [hx] at hd1
      obtain ⟨v, hv, rv⟩ := (a4.mono (e2.sees s.muh)).get (show ds[j]? = some d from hd1)
      refine hr o vs k' v H2 Qh (e2.keep o _ a2 a3) ?_ (q d v H2 hq e2 b2 rv)
      unfold atI
      rw [a4.length, hx]
      exact hv
  | _ => exact hk.elim
def scalar : Dt → Bool
  | .non => true
  | .bl _ => true
  | .int _ => true
  | .str _ => true
  | _ => false
theorem rp_scalar {K : PySem.W.Frag} {G G' : Hp} {v : V} {d : Dt} (h : scalar d = true) (r : Rp K G v d) : Rp K G' v d := by
  cases r with
  | non => exact .non
  | bl b => exact .bl b
  | int b => exact .int b
  | str b => exact .str b
  | _ => cases h
def Sub (G H : Hp) : Prop := ∀ a o, G a = some o → H a = some o
structure ItOk (K : PySem.W.Frag) (G : Hp) (J : It) (its : List Dt) : Prop where
  go : ∀ i H, Sub G H → i < its.length → J.go i H
  yl : ∀ i H x H' d, Sub G H → its[i]? = some d → J.yld i H x H' → Ex none0 H H' ∧ ∀ hd, (∀ a, hd a = true → H a ≠ none) → Sub G (Hm hd H) → Rp K (Hm hd H') x d
  st : ∀ i H, Sub G H → i = its.length → J.stop i H
def IJ (c : Cn) (wi : TI) (ρ : List Sl) (Q : List Dt → Prop) : Prop := ∀ hd H σ, SV c hd H σ ρ → ∀ R : It → Hp → Prop, (∀ its J H', Q its → Ex c.mu H H' → c.B hd H' → ItOk c.K (Hm hd H') J its → R J H') → wi σ H R
def TGJ (c : Cn) (hid : Addr → Bool) (H0 : Hp) (g : TG) (d : Dt) (ρ : List Sl) (N : L2.St → Hp → Prop) : Prop := ∀ hd H σ v, SD c hid hd H0 H σ ρ → Rp c.K (Hm hd H) v d → g v σ H N
theorem tg_name {j : Nat} {d : Dt} (h : NJ c hid H0 N (ρ.set j (.im d))) : TGJ c hid H0 (gName j) d ρ N := fun hd H σ v s r => h hd H _ (s.setIm r)
def TGsJ (c : Cn) (hid : Addr → Bool) (H0 : Hp) (g : TGs) (ds : List Dt) (ρ : List Sl) (N : L2.St → Hp → Prop) : Prop := ∀ hd H σ vs, SD c hid hd H0 H σ ρ → RpAll c.K (Hm hd H) vs ds → g vs σ H N
theorem tgs_nil (h : NJ c hid H0 N ρ) : TGsJ c hid H0 gNil [] ρ N := fun hd H σ vs s r => by
  cases r
  exact ⟨rfl, h hd H σ s⟩
theorem tgs_name {j : Nat} {d : Dt} {ds : List Dt} {gs : TGs} (h : TGsJ c hid H0 gs ds (ρ.set j (.im d)) N) : TGsJ c hid H0 (gCons (gName j) gs) (d :: ds) ρ N := fun hd H σ vs s r => by
  cases r with
  | cons r1 r2 => exact ⟨_, _, rfl, h hd H _ _ (s.setIm r1) r2⟩
theorem sqt_hm {K : PySem.W.Frag} {hd : Addr → Bool} {H : Hp} {a : Addr} {xs : List V} (h : SqT K (Hm hd H) a xs) : SqT K H a xs := sees_t sees_le h
theorem tg_tup {n : Nat} {gs : TGs} {ds : List Dt} (hn : ds.length = n) (h : TGsJ c hid H0 gs ds ρ N) : TGJ c hid H0 (gTup c.K n gs) (.tup ds) ρ N := fun hd H σ v s r => by
  cases r with
  | tup r1 r2 => exact ⟨_, _, rfl, sqt_hm r1, by rw [r2.length]; exact hn, h hd H σ _ s r2⟩
def Hj (H0 : Hp) (hd : Addr → Bool) (H : Hp) : Hp := fun a => if hd a = true then H0 a else H a
theorem hj_ex {hd : Addr → Bool} {H : Hp} {σ : L2.St} (s : SD c hid hd H0 H σ ρ) : Ex c.mu H0 (Hj H0 hd H) := ⟨fun a o hm h => by
  unfold Hj
  split
  · exact h
  · exact s.ext.keep a o hm h, fun a h => by
  unfold Hj
  split
  · exact h
  · exact s.ext.dom a h⟩
theorem hj_sd {hd : Addr → Bool} {H : Hp} {σ : L2.St} (s : SD c hid hd H0 H σ ρ) : SD c hid hd (Hj H0 hd H) H σ ρ := ⟨s.toSV, s.sub, ⟨fun a o hm h => by
  unfold Hj at h
  split at h
  · exact s.ext.keep a o hm h
  · exact h, fun a h => by
  unfold Hj at h
  split at h
  · exact s.ext.dom a h
  · exact h⟩, fun a h1 h2 => by
  unfold Hj
  rw [if_pos h1]
  exact s.new a h1 h2, s.own, s.ownh⟩
theorem nj_for {wi : TI} (h : IJ c wi ρ fun its => ∃ I : Nat → List Sl → Prop, I 0 ρ ∧ (∀ H1, Ex c.mu H0 H1 → ∀ i d ρ', its[i]? = some d → I i ρ' → TGJ c hid H1 g d ρ' (ts { D with nx := Nx c hid H1 (I (i + 1)), ct := Nx c hid H1 (I (i + 1)), bk := D.nx })) ∧
    ∀ ρ', I its.length ρ' → NJ c hid H0 D.nx ρ') : NJ c hid H0 (tFor wi g ts D) ρ := fun hd H σ s => by
  refine h hd H σ s.toSV _ fun its J H' hq e b ok => ?_
  obtain ⟨I, i0, hstep, hend⟩ := hq
  have s' := s.go e b
  have eB := hj_ex s'
  have sB := hj_sd s'
  have vis : ∀ {hd2 H2 σ2 ρ2}, SD c hid hd2 (Hj H0 hd H') H2 σ2 ρ2 → Sub (Hm hd H') (Hm hd2 H2) := fun {hd2 H2 σ2 ρ2} s2 a o ha => by
    have h1 := hm_not ha
    have h2 := hm_le ha
    have hm : c.mu a = false := by
      cases q : c.mu a with
      | false => rfl
      | true => rw [s.muh a q] at h1; cases h1
    have hb : Hj H0 hd H' a = some o := by unfold Hj; rw [if_neg (by rw [h1]; exact Bool.false_ne_true)]; exact h2
    rw [hm_of]
    · exact s2.ext.keep a o hm hb
    · cases q : hd2 a with
      | false => rfl
      | true =>
        cases q2 : hid a with
        | true => rw [s.sub a q2] at h1; cases h1
        | false =>
          have := s2.new a q q2
          rw [hb] at this; cases this
  have vis' : ∀ {hd2 H2 σ2 ρ2}, SD c hid hd2 (Hj H0 hd H') H2 σ2 ρ2 → Sub (Hm hd H') H2 := fun s2 a o ha => hm_le (vis s2 a o ha)
  refine ⟨fun i m σ2 H2 => m = its.length - i ∧ i ≤ its.length ∧ ∃ ρ2 hd2, I i ρ2 ∧ SD c hid hd2 (Hj H0 hd H') H2 σ2 ρ2, ⟨its.length, rfl, Nat.zero_le _, ρ, hd, i0, sB⟩, ?_⟩
  rintro i m σ2 H2 ⟨rfl, hi, ρ2, hd2, hI, s2⟩
  by_cases hlt : i < its.length
  · refine .inr ⟨ok.go i H2 (vis' s2) hlt, Nx c hid (Hj H0 hd H') (I (i + 1)), fun σ' H3 hN => ?_, fun x H3 hy => ?_⟩
    · obtain ⟨ρ3, hd3, hI3, s3⟩ := hN
      exact ⟨its.length - (i + 1), by omega, rfl, hlt, ρ3, hd3, hI3, s3⟩
    · obtain ⟨e3, r3⟩ := ok.yl i H2 x H3 its[i] (vis' s2) (List.getElem?_eq_getElem hlt) hy
      exact hstep (Hj H0 hd H') eB i its[i] ρ2 (List.getElem?_eq_getElem hlt) hI hd2 H3 σ2 x (s2.go e3.up (c.keep0 e3 s2.inv)) (r3 hd2 s2.dom (vis s2))
  · have e : i = its.length := by omega
    exact .inl ⟨ok.st i H2 (vis' s2) e, hend ρ2 (by rw [← e]; exact hI) hd2 H2 σ2 (s2.base eB)⟩
end
end CC
namespace CC
open PySem PySem.Spec PyProof.Rows L2
def LstJ (Q : List Dt → Prop) : Dt → Prop
  | .lst b => Q b
  | _ => False
def TupJ (Q : List Dt → Prop) : Dt → Prop
  | .tup b => Q b
  | _ => False
def rangeD (lo : Int) (n : Nat) : List Dt := (List.range n).map fun i => Dt.int (lo + (i : Nat))
section
variable {c : Cn} {ρ : List Sl} {ta tb te tl : TE} {t u : TT} {Q : List Dt → Prop}
theorem Sub.sees {G G' : Hp} (h : Sub G G') : Sees G G' := fun a o e => ⟨o, h a o e, .rfl⟩
theorem ij_tup (h : EV c tl ρ (TupJ Q)) : IJ c (iTup c.K tl) ρ Q := fun hd H σ v R q => h hd H σ v _ fun d x H1 h1 e1 b1 r1 => by
  cases d with
  | tup ds =>
    cases r1 with
    | tup ha r =>
      rename_i a xs
      have hl := r.length
      refine ⟨a, rfl, ⟨xs, sqt_hm ha⟩, q ds (Itt c.K a) H1 h1 e1 b1 ⟨fun i H s hi => ?_, fun i H x H' d s hi y => ?_, fun i H s hi => ?_⟩⟩
      · exact ⟨xs, xs[i]'(by omega), sees_t s.sees ha, List.getElem?_eq_getElem (by omega)⟩
      · obtain ⟨rfl, y⟩ := y
        have hx := y xs (sees_t s.sees ha)
        obtain ⟨d', hd', rd⟩ := r.getV hx
        rw [hi] at hd'
        cases hd'
        exact ⟨.refl, fun hd2 dom sb => rd.mono sb.sees⟩
      · exact ⟨xs, sees_t s.sees ha, by omega⟩
  | _ => exact h1.elim
theorem itr_ok {K : PySem.W.Frag} {G : Hp} (lo : Int) (n : Nat) : ItOk K G (Itr lo n) (rangeD lo n) := by
  have hl : (rangeD lo n).length = n := by unfold rangeD; rw [List.length_map, List.length_range]
  refine ⟨fun i H s hi => by rw [hl] at hi; exact hi, fun i H x H' d s hi y => ?_, fun i H s hi => by rw [hl] at hi; exact Nat.le_of_eq hi.symm⟩
  obtain ⟨rfl, rfl⟩ := y
  have hn : i < n := by
    have := (List.getElem?_eq_some_iff.mp hi).1
    rw [hl] at this; exact this
  have e : d = .int (lo + (i : Nat)) := by
    unfold rangeD at hi
    rw [List.getElem?_map, List.getElem?_range hn] at hi
    exact (Option.some.inj hi).symm
  subst e
  exact ⟨.refl, fun hd2 dom sb => .int _⟩
theorem rp_ints1 {K : PySem.W.Frag} {G : Hp} {vs : List V} {i : Int} (r : RpAll K G vs [.int i]) : vs = [.int i] := by
  cases r with
  | cons r1 r2 => cases r1; cases r2; rfl
theorem rp_ints2 {K : PySem.W.Frag} {G : Hp} {vs : List V} {i j : Int} (r : RpAll K G vs [.int i, .int j]) : vs = [.int i, .int j] := by
  cases r with
  | cons r1 r2 => cases r1; rw [rp_ints1 r2]
theorem ij_rng1 {ta : TA} (h : EVA c ta ρ fun ds => ∃ n : Int, ds = [.int n] ∧ n ≤ 1000000 ∧ -1000000 ≤ n ∧ Q (rangeD 0 n.toNat)) : IJ c (iRng1 ta) ρ Q := fun hd H σ v R q => h hd H σ v _ fun ds vs H1 h1 e1 b1 r1 => by
  obtain ⟨n, rfl, h2, h3, hq⟩ := h1
  rw [rp_ints1 r1]
  exact ⟨n, rfl, by omega, by omega, q _ _ H1 hq e1 b1 (itr_ok 0 n.toNat)⟩
def wipeS (ρ : List Sl) : List Nat → List Sl
  | [] => ρ
  | v :: vs => (wipeS ρ vs).set v .un
theorem slok_un {hd : Addr → Bool} {H : Hp} {o : Option V} : SlOk c hd H o .un := by unfold SlOk; split <;> trivial
theorem SV.wipe {hd : Addr → Bool} {H : Hp} {σ : L2.St} (s : SV c hd H σ ρ) : ∀ vs, SV c hd H (L2.wipe σ vs) (wipeS ρ vs)
  | [] => s
  | v :: vs => (SV.wipe s vs).set v slok_un
theorem wipe_at (σ : L2.St) : ∀ (vs : List Nat) (k : Nat), (L2.wipe σ vs)[k]? = if k ∈ vs then σ[k]?.map (fun _ => none) else σ[k]?
  | [], k => by simp [L2.wipe]
  | v :: vs, k => by
    unfold L2.wipe
    by_cases q : k = v
    · subst q
      rw [if_pos (List.mem_cons_self)]
      by_cases hl : k < σ.length
      · rw [List.getElem?_set_self (by rw [wipe_length]; exact hl), List.getElem?_eq_getElem hl]; rfl
      · rw [List.getElem?_eq_none (by rw [List.length_set, wipe_length]; omega), List.getElem?_eq_none (by omega)]; rfl
    · rw [List.getElem?_set_ne (Ne.symm q), wipe_at σ vs k]
      simp only [List.mem_cons, q, false_or]
theorem wipe_set {σ : L2.St} {vs : List Nat} {j : Nat} {x : Option V} (hj : j ∈ vs) : L2.wipe (σ.set j x) vs = L2.wipe σ vs := by
  apply List.ext_getElem?
  intro k
  rw [wipe_at, wipe_at]
  by_cases q : k = j
  · subst q
    rw [if_pos hj, if_pos hj]
    by_cases hl : k < σ.length
    · rw [List.getElem?_set_self hl, List.getElem?_eq_getElem hl]; rfl
    · rw [List.getElem?_eq_none (by rw [List.length_set]; omega), List.getElem?_eq_none (by omega)]
  · rw [List.getElem?_set_ne (Ne.symm q)]
theorem wipe_wipe {σ : L2.St} {vs : List Nat} : L2.wipe (L2.wipe σ vs) vs = L2.wipe σ vs := by
  apply List.ext_getElem?
  intro k
  rw [wipe_at, wipe_at]
  split
  · cases σ[k]? <;> rfl
  · rfl
def TGE (c : Cn) (g : TG) (d : Dt) (ρ : List Sl) (vs : List Nat) (k : List Sl → Prop) : Prop := ∀ hd H σ v (N : L2.St → Hp → Prop), SV c hd H σ ρ → Rp c.K (Hm hd H) v d → (∀ σ2 ρ2, k ρ2 → SV c hd H σ2 ρ2 → L2.wipe σ2 vs = L2.wipe σ vs → N σ2 H) → g v σ H N
theorem tge_name {j : Nat} {d : Dt} {vs : List Nat} {k : List Sl → Prop} (hj : j ∈ vs) (h : k (ρ.set j (.im d))) : TGE c (gName j) d ρ vs k := fun hd H σ v N s r q => q _ _ h (s.set j r) (wipe_set hj)
theorem lc_at {J : It} {its : List Dt} {g : TG} {vs : List Nat} {hd : Addr → Bool} {H1 : Hp} {σ : L2.St} {Qh : VK} (v1 : SV c hd H1 σ ρ) (ok : ItOk c.K (Hm hd H1) J its) (hlen : its.length ≤ 100000) (I : Nat → List Dt → Prop) (i0 : I 0 [])
    (hstep : ∀ i d acc, its[i]? = some d → I i acc → TGE c g d (wipeS ρ vs) vs fun ρ' => EVT c t ρ' fun b => (b = true → EV c te ρ' fun y => I (i + 1) (acc ++ [y])) ∧ (b = false → I (i + 1) acc))
    (hend : ∀ acc L ws H2, I its.length acc → Ex c.mu H1 H2 → c.B (hide hd L) H2 → H1 L = none → H2 L = some (.lst ws) → RpAll c.K (Hm (hide hd L) H2) ws acc → Qh (.ref L) H2) :
    ∀ L, H1 L = none → ∃ W : Nat → Nat → Hp → Prop, (∃ m, W 0 m (upd H1 L (.lst []))) ∧ ∀ i m H, W i m H → (J.stop i H ∧ Qh (.ref L) H) ∨ (J.go i H ∧ ∃ Nx : Hp → Prop, (∀ H', Nx H' → ∃ m', m' < m ∧ W (i + 1) m' H') ∧
      ∀ x H', J.yld i H x H' → g x (L2.wipe σ vs) H' fun σ2 H2 => L2.wipe σ2 vs = L2.wipe σ vs ∧ t σ2 H2 fun b H3 => if b = true then te σ2 H3 fun y H4 => ∃ acc, H4 L = some (.lst acc) ∧ acc.length < sizeLine ∧ Nx (upd H4 L (.lst (acc ++ [y]))) else Nx H3) := by
  intro L hL
  have b1 := v1.inv
  refine ⟨fun i m H2 => m = its.length - i ∧ i ≤ its.length ∧ ∃ ws acc, I i acc ∧ acc.length ≤ i ∧ H2 L = some (.lst ws) ∧ Ex c.mu H1 H2 ∧ c.B (hide hd L) H2 ∧ RpAll c.K (Hm (hide hd L) H2) ws acc, ⟨its.length, rfl, Nat.zero_le _, [], [], i0, Nat.le_refl _, upd_same, (.new hL), c.keepN (.new hL) hL b1, .nil⟩, ?_⟩
  rintro i m H2 ⟨rfl, hi, ws, acc, hI, hal, hw, e2, b2, r2⟩
  have v2 : SV c (hide hd L) H2 σ ρ := v1.hide e2 b2 hL (by rw [hw]; exact fun z => nomatch z)
  have sub2 : Sub (Hm hd H1) (Hm (hide hd L) H2) := fun a o ha => by
    have h1 := hm_not ha
    have h2 := hm_le ha
    rw [hm_of (by rw [hide_ne (ne_of_none h2 hL)]; exact h1)]
    exact e2.keep a o (by
      cases q : c.mu a with
      | false => rfl
      | true => rw [v1.muh a q] at h1; cases h1) h2
  have sub2' : Sub (Hm hd H1) H2 := fun a o ha => hm_le (sub2 a o ha)
  have nmu : c.mu L = false := by
    cases q : c.mu L with
    | false => rfl
    | true => exact absurd hL (v1.dom L (v1.muh L q))
  by_cases hlt : i < its.length
  · refine .inr ⟨ok.go i H2 sub2' hlt, fun H3 => ∃ ws acc, I (i + 1) acc ∧ acc.length ≤ i + 1 ∧ H3 L = some (.lst ws) ∧ Ex c.mu H1 H3 ∧ c.B (hide hd L) H3 ∧ RpAll c.K (Hm (hide hd L) H3) ws acc, fun H3 hN => ⟨its.length - (i + 1), by omega, rfl, hlt, hN⟩, fun x H3 hy => ?_⟩
    obtain ⟨e3, r3⟩ := ok.yl i H2 x H3 its[i] sub2' (List.getElem?_eq_getElem hlt) hy
    have rx := r3 (hide hd L) v2.dom sub2
    have v3 := v2.go0 e3
    have e13 := e2.trans e3.up
    refine hstep i its[i] acc (List.getElem?_eq_getElem hlt) hI (hide hd L) H3 (L2.wipe σ vs) x _ (v3.wipe vs) rx fun σ2 ρ2 hk s2 ew => ⟨ew.trans wipe_wipe, ?_⟩
    refine hk (hide hd L) H3 σ2 s2 _ fun b H4 hb e4 b4 => ?_
    have hL4 : H4 L = some (.lst ws) := e4.keep L _ nmu (e3.keep L _ rfl hw)
    cases b with
    | true =>
      rw [if_pos rfl]
      refine hb.1 rfl (hide hd L) H4 σ2 (s2.go e4 b4) _ fun y w H5 hy5 e5 b5 r5 => ?_
      have hL5 : H5 L = some (.lst ws) := e5.keep L _ nmu hL4
      have r25 : RpAll c.K (Hm (hide hd L) H5) ws acc := ((r2.mono (e3.sees (fun _ h => nomatch h))).mono (e4.sees v3.muh)).mono (e5.sees v3.muh)
      refine ⟨ws, hL5, Evl.sz_lt (by rw [r2.length]; omega), ws ++ [w], acc ++ [y], hy5, by rw [List.length_append]; simp; omega, upd_same, ((e13.trans e4).trans e5).mut (.inl hL), ?_, ?_⟩
      · exact c.put hide_self nmu hL5 rfl b5
      · rw [hm_upd hide_self]
        exact r25.append (.cons r5 .nil)
    | false =>
      rw [if_neg Bool.false_ne_true]
      exact ⟨ws, acc, hb.2 rfl, by omega, hL4, e13.trans e4, b4, (r2.mono (e3.sees (fun _ h => nomatch h))).mono (e4.sees v3.muh)⟩
  · have e : i = its.length := by omega
    exact .inl ⟨ok.st i H2 sub2' e, hend acc L ws H2 (by rw [← e]; exact hI) e2 b2 hL hw r2⟩
theorem en_lc {wi : TI} {g : TG} {vs : List Nat} (h : IJ c wi ρ fun its => its.length ≤ 100000 ∧ ∃ I : Nat → List Dt → Prop, I 0 [] ∧
    (∀ i d acc, its[i]? = some d → I i acc → TGE c g d (wipeS ρ vs) vs fun ρ' => EVT c t ρ' fun b => (b = true → EV c te ρ' fun y => I (i + 1) (acc ++ [y])) ∧ (b = false → I (i + 1) acc)) ∧ ∀ acc, I its.length acc → Q acc) :
    EN c (tLc wi g t te vs) ρ Q := fun hd H σ v Qh q => by
  refine h hd H σ v _ fun its J H1 hq e1 b1 ok => ?_
  obtain ⟨hlen, I, i0, hstep, hend⟩ := hq
  exact lc_at (v.go e1 b1) ok hlen I i0 hstep fun acc L ws H2 hI e2 b2 hL hw r2 => q acc L ws H2 (hend acc hI) (e1.trans e2) b2 (e1.fresh hL) hw r2
end
end CC
namespace CC
open PySem PySem.Spec PyProof.Rows L2
end CC
namespace CC
open PySem PySem.Spec PyProof.Rows L2
section
variable {X : Cx}
def rSetI (K : PySem.W.Frag) (w : World) : List V → Hp → VK → Prop := fun vs H Q => ∃ (a : Addr) (ns : List Int), vs = [.ref a] ∧ SqL K H a (ns.map V.int) ∧ ns.length ≤ 4000 ∧
  ∀ (p : Addr) (ks : List Int), H p = none → ks.Nodup → (∀ k, k ∈ ks ↔ k ∈ ns) → Q (.ref p) (upd H p (SetO w p (fun j => decide (j ∈ ns)) ks.length))
def rLenSet (w : World) : List V → Hp → VK → Prop := fun vs H Q => ∃ (a : Addr) (S : Int → Bool) (n : Nat), vs = [.ref a] ∧ H a = some (SetO w a S n) ∧ Q (.int (n : Nat)) H
end
end CC
namespace CC
open PySem PySem.Spec PyProof.Rows L2
def rAddI : R2 := rI0 fun i j => .int (i + j)
def rSubI : R2 := rI0 fun i j => .int (i - j)
def rMulI : R2 := rI CMul fun i j => .int (i * j)
def rDivI : R2 := rI CDivW fun i j => .int (i / j)
def rModI : R2 := rI (fun _ j => 0 < j) fun i j => .int (i % j)
def rAddS : R2 := fun x y H Q => ∃ i j, x = .str i ∧ y = .str j ∧ i.length + j.length ≤ sizeLine ∧ Q (.str (i ++ j)) H
def rAddU (K : PySem.W.Frag) : R2 := fun x y H Q => rAddI x y H Q ∨ rAddS x y H Q ∨ rCat x y H Q ∨ rCatA K x y H Q
def rMulU : R2 := fun x y H Q => rMulI x y H Q ∨ rRep x y H Q
def rLtI : R2 := rI0 fun i j => .bl (decide (i < j))
def rLeI : R2 := rI0 fun i j => .bl (decide (i ≤ j))
def rGtI : R2 := rI0 fun i j => .bl (decide (j < i))
def rGeI : R2 := rI0 fun i j => .bl (decide (j ≤ i))
def rLtS : R2 := fun x y H Q => ∃ i j, x = .str i ∧ y = .str j ∧ Q (.bl (decide (i.cps.toList < j.cps.toList))) H
def rLeS : R2 := fun x y H Q => ∃ i j, x = .str i ∧ y = .str j ∧ Q (.bl (!decide (j.cps.toList < i.cps.toList))) H
def rGtS : R2 := fun x y H Q => ∃ i j, x = .str i ∧ y = .str j ∧ Q (.bl (decide (j.cps.toList < i.cps.toList))) H
def rGeS : R2 := fun x y H Q => ∃ i j, x = .str i ∧ y = .str j ∧ Q (.bl (!decide (i.cps.toList < j.cps.toList))) H
def rLtU : R2 := fun x y H Q => rLtI x y H Q ∨ rLtS x y H Q
def rLeU : R2 := fun x y H Q => rLeI x y H Q ∨ rLeS x y H Q
def rGtU : R2 := fun x y H Q => rGtI x y H Q ∨ rGtS x y H Q
def rGeU : R2 := fun x y H Q => rGeI x y H Q ∨ rGeS x y H Q
def rEqU (K : PySem.W.Frag) : R2 := fun x y H Q => rEq x y H Q ∨ rEqD K x y H Q
def rNeU (K : PySem.W.Frag) : R2 := fun x y H Q => rNe x y H Q ∨ rNeD K x y H Q
def rIsU : R2 := fun x y H Q => y = .non ∧ Q (.bl (decide (x = .non))) H
def rIsNotU : R2 := fun x y H Q => y = .non ∧ Q (.bl (!decide (x = .non))) H
def rSgIn : R2 := fun x y H Q => ∃ (k : Nat) (z : Str), x = .str ⟨#[k]⟩ ∧ y = .str z ∧ Q (.bl (decide (k ∈ z.cps.toList))) H
def rSgNot : R2 := fun x y H Q => ∃ (k : Nat) (z : Str), x = .str ⟨#[k]⟩ ∧ y = .str z ∧ Q (.bl (!decide (k ∈ z.cps.toList))) H
def rInU (K : PySem.W.Frag) : R2 := fun x y H Q => rIn K false x y H Q ∨ rSgIn x y H Q
def rNotInU (K : PySem.W.Frag) : R2 := fun x y H Q => rIn K true x y H Q ∨ rSgNot x y H Q
section
variable {X : Cx}
theorem op_addU : OpR X (binaryOp .Add) (rAddU X.K) := op_add.or (op_add_str.or (op_cat.or op_catA))
theorem op_subU : OpR X (binaryOp .Sub) rSubI := op_sub
theorem op_mulU : OpR X (binaryOp .Mult) rMulU := op_mul.or op_rep
theorem op_divU : OpR X (binaryOp .FloorDiv) rDivI := op_fdivW
theorem op_modU : OpR X (binaryOp .Mod) rModI := op_mod
theorem op_ltU : OpR X (compareOp .Lt) rLtU := op_lt.or op_lt_str
theorem op_leU : OpR X (compareOp .LtE) rLeU := op_le.or op_le_str
theorem op_gtU : OpR X (compareOp .Gt) rGtU := op_gt.or op_gt_str
theorem op_eqU (hu : X.A.units + 64 < cLine) : OpR X (compareOp .Eq) (rEqU X.K) := op_eq.or (op_eqD hu)
theorem op_neU (hu : X.A.units + 64 < cLine) : OpR X (compareOp .NotEq) (rNeU X.K) := op_ne.or (op_neD hu)
theorem op_isU : OpR X (compareOp .Is) rIsU := op_isN
theorem op_isNotU : OpR X (compareOp .IsNot) rIsNotU := op_notN
theorem op_inU : OpR X (compareOp .In) (rInU X.K) := op_in_seq.or op_in_sign
theorem op_notInU : OpR X (compareOp .NotIn) (rNotInU X.K) := op_notIn_seq.or op_notIn_sign
end
mutual
def py : Dt → PyData
  | .non => .none
  | .bl b => .bool b
  | .int i => .int i
  | .str x => .str x
  | .lst xs => .list (pyL xs)
  | .tup xs => .tuple (pyL xs)
  | .dk _ => .none
  | .dt _ => .none
  | .ob _ _ => .none
  | .xo _ _ => .none
  | .ptup _ => .none
def pyL : List Dt → List PyData
  | [] => []
  | x :: r => py x :: pyL r
end
inductive Sh : Nat → Dt → Prop
  | non {n : Nat} : Sh n .non
  | bl {n : Nat} (b : Bool) : Sh n (.bl b)
  | int {n : Nat} (i : Int) : Sh n (.int i)
  | str {n : Nat} {x : Str} (h : PyData.strOk x = true) : Sh n (.str x)
  | lst {n : Nat} {ds : List Dt} (h : ∀ d ∈ ds, Sh n d) : Sh (n + 1) (.lst ds)
  | tup {n : Nat} {ds : List Dt} (h : ∀ d ∈ ds, Sh n d) : Sh (n + 1) (.tup ds)
section
variable {K : PySem.W.Frag} {G : Hp}
theorem dp_all {n : Nat} (ih : ∀ v d, Sh n d → Rp K G v d → Dp K G v (py d)) : ∀ {vs : List V} {ds : List Dt}, (∀ d ∈ ds, Sh n d) → RpAll K G vs ds → DpAll K G vs (pyL ds)
  | _, _, _, .nil => .nil
  | _, _, h, .cons r t => .cons (ih _ _ (h _ List.mem_cons_self) r) (dp_all ih (fun d hd => h d (List.mem_cons_of_mem _ hd)) t)
theorem Rp.dp : ∀ (n : Nat) (v : V) (d : Dt), Sh n d → Rp K G v d → Dp K G v (py d)
  | _, _, _, .non, .non => .non
  | _, _, _, .bl b, .bl _ => .bl b
  | _, _, _, .int i, .int _ => .int i
  | _, _, _, .str _, .str x => .str x
  | n + 1, _, _, .lst h, .lst ha r => .lst (.inl (.inl ha)) (dp_all (Rp.dp n) h r)
  | n + 1, _, _, .tup h, .tup ha r => .tup ha (dp_all (Rp.dp n) h r)
theorem lay_all {n : Nat} (ih : ∀ d, Sh n d → PyData.canLay0 (py d) = true) : ∀ {ds : List Dt}, (∀ d ∈ ds, Sh n d) → PyData.canLayAll0 (pyL ds) = true
  | [], _ => rfl
  | d :: r, h => by
    show (PyData.canLay0 (py d) && PyData.canLayAll0 (pyL r)) = true
    rw [ih d (h d List.mem_cons_self), lay_all ih fun e he => h e (List.mem_cons_of_mem _ he)]; rfl
theorem Sh.lay : ∀ (n : Nat) (d : Dt), Sh n d → PyData.canLay0 (py d) = true
  | _, _, .non => rfl
  | _, _, .bl b => rfl
  | _, _, .int i => rfl
  | _, _, .str h => h
  | n + 1, _, .lst h => lay_all (Sh.lay n) h
  | n + 1, _, .tup h => lay_all (Sh.lay n) h
theorem depth_all {n : Nat} (ih : ∀ d, Sh n d → (py d).depth ≤ n) : ∀ {ds : List Dt}, (∀ d ∈ ds, Sh n d) → PyData.depthAll (pyL ds) ≤ n
  | [], _ => Nat.zero_le _
  | d :: r, h => by
    have h1 := ih d (h d List.mem_cons_self)
    have h2 := depth_all ih (ds := r) fun e he => h e (List.mem_cons_of_mem _ he)
    show max (py d).depth (PyData.depthAll (pyL r)) ≤ n
    omega
theorem Sh.deep : ∀ (n : Nat) (d : Dt), Sh n d → (py d).depth ≤ n
  | _, _, .non => Nat.zero_le _
  | _, _, .bl b => Nat.zero_le _
  | _, _, .int i => Nat.zero_le _
  | _, _, .str h => Nat.zero_le _
  | n + 1, _, .lst h => Nat.succ_le_succ (depth_all (Sh.deep n) h)
  | n + 1, _, .tup h => Nat.succ_le_succ (depth_all (Sh.deep n) h)
theorem Sh.shaped {n : Nat} {d : Dt} (h : Sh n d) (hn : n ≤ 64) : SeqAt.shaped (py d) = true := by
  unfold SeqAt.shaped
  rw [Sh.lay n d h, decide_eq_true (Nat.le_trans (Sh.deep n d h) hn)]
  rfl
theorem eqv_all {n : Nat} (ih : ∀ d, Sh n d → PyData.eqv (py d) (py d) = true) : ∀ {ds : List Dt}, (∀ d ∈ ds, Sh n d) → PyData.eqvAll (pyL ds) (pyL ds) = true
  | [], _ => rfl
  | d :: r, h => by
    show (PyData.eqv (py d) (py d) && PyData.eqvAll (pyL r) (pyL r)) = true
    rw [ih d (h d List.mem_cons_self), eqv_all ih fun e he => h e (List.mem_cons_of_mem _ he)]; rfl
theorem Sh.eqv : ∀ (n : Nat) (d : Dt), Sh n d → PyData.eqv (py d) (py d) = true
  | _, _, .non => rfl
  | _, _, .bl b => by show (b == b) = true; simp
  | _, _, .int i => by show (i == i) = true; simp
  | _, _, .str (x := x) h => by show (x == x) = true; simp
  | n + 1, _, .lst h => eqv_all (Sh.eqv n) h
  | n + 1, _, .tup h => eqv_all (Sh.eqv n) h
end
end CC
namespace CC
open PySem PySem.Spec PyProof.Rows L2
section
variable {c : Cn} {Q : Dt → Prop} {QL : List Dt → Prop} {i j : Int} {a b : Str} {ds es : List Dt}
theorem kv_here {hd : Addr → Bool} {H : Hp} {Qh : VK} (q : Kv c hd H Q Qh) (bb : c.B hd H) {d : Dt} {v : V} (h : Q d) (r : Rp c.K (Hm hd H) v d) : Qh v H := q d v H h .refl bb r
theorem rj_I0 {f : Int → Int → Int} (h : Q (.int (f i j))) : R2J c (rI0 fun i j => .int (f i j)) (.int i) (.int j) Q := fun hd H x y dom mh bb rx ry Qh q => by
  cases rx; cases ry
  exact ⟨i, j, rfl, rfl, kv_here q bb h (.int _)⟩
theorem rj_B0 {f : Int → Int → Bool} (h : Q (.bl (f i j))) : R2J c (rI0 fun i j => .bl (f i j)) (.int i) (.int j) Q := fun hd H x y dom mh bb rx ry Qh q => by
  cases rx; cases ry
  exact ⟨i, j, rfl, rfl, kv_here q bb h (.bl _)⟩
theorem rj_I {C : Int → Int → Prop} {f : Int → Int → Int} (hc : C i j) (h : Q (.int (f i j))) : R2J c (rI C fun i j => .int (f i j)) (.int i) (.int j) Q := fun hd H x y dom mh bb rx ry Qh q => by
  cases rx; cases ry
  exact ⟨i, j, rfl, rfl, hc, kv_here q bb h (.int _)⟩
theorem R2J.inl {r r' : R2} {d1 d2 : Dt} (h : R2J c r d1 d2 Q) : R2J c (fun x y H Q => r x y H Q ∨ r' x y H Q) d1 d2 Q := fun hd H x y dom mh bb rx ry Qh q => .inl (h hd H x y dom mh bb rx ry Qh q)
theorem R2J.inr {r r' : R2} {d1 d2 : Dt} (h : R2J c r' d1 d2 Q) : R2J c (fun x y H Q => r x y H Q ∨ r' x y H Q) d1 d2 Q := fun hd H x y dom mh bb rx ry Qh q => .inr (h hd H x y dom mh bb rx ry Qh q)
theorem R2N.inl {r r' : R2} {d1 d2 : Dt} (h : R2N c r d1 d2 QL) : R2N c (fun x y H Q => r x y H Q ∨ r' x y H Q) d1 d2 QL := fun hd H x y dom mh bb rx ry Qh q => .inl (h hd H x y dom mh bb rx ry Qh q)
theorem R2N.inr {r r' : R2} {d1 d2 : Dt} (h : R2N c r' d1 d2 QL) : R2N c (fun x y H Q => r x y H Q ∨ r' x y H Q) d1 d2 QL := fun hd H x y dom mh bb rx ry Qh q => .inr (h hd H x y dom mh bb rx ry Qh q)
theorem RCJ.inl {r r' : List V → Hp → VK → Prop} (h : RCJ c r ds Q) : RCJ c (fun x H Q => r x H Q ∨ r' x H Q) ds Q := fun hd H x dom mh bb rx Qh q => .inl (h hd H x dom mh bb rx Qh q)
theorem RCJ.inr {r r' : List V → Hp → VK → Prop} (h : RCJ c r' ds Q) : RCJ c (fun x H Q => r x H Q ∨ r' x H Q) ds Q := fun hd H x dom mh bb rx Qh q => .inr (h hd H x dom mh bb rx Qh q)
theorem sub_i (h : Q (.int (i - j))) : R2J c rSubI (.int i) (.int j) Q := rj_I0 h
theorem add_i (h : Q (.int (i + j))) : R2J c (rAddU c.K) (.int i) (.int j) Q := R2J.inl (rj_I0 h)
theorem mul_i (hc : CMul i j) (h : Q (.int (i * j))) : R2J c rMulU (.int i) (.int j) Q := R2J.inl (rj_I hc h)
theorem div_i (hc : CDivW i j) (h : Q (.int (i / j))) : R2J c rDivI (.int i) (.int j) Q := rj_I hc h
theorem mod_i (hc : 0 < j) (h : Q (.int (i % j))) : R2J c rModI (.int i) (.int j) Q := rj_I (C := fun _ j => 0 < j) hc h
theorem lt_i (h : Q (.bl (decide (i < j)))) : R2J c rLtU (.int i) (.int j) Q := R2J.inl (rj_B0 (f := fun i j => decide (i < j)) h)
theorem le_i (h : Q (.bl (decide (i ≤ j)))) : R2J c rLeU (.int i) (.int j) Q := R2J.inl (rj_B0 (f := fun i j => decide (i ≤ j)) h)
theorem gt_i (h : Q (.bl (decide (j < i)))) : R2J c rGtU (.int i) (.int j) Q := R2J.inl (rj_B0 (f := fun i j => decide (j < i)) h)
theorem ge_i (h : Q (.bl (decide (j ≤ i)))) : R2J c rGeU (.int i) (.int j) Q := R2J.inl (rj_B0 (f := fun i j => decide (j ≤ i)) h)
theorem eq_i (h : Q (.bl (decide (i = j)))) : R2J c (rEqU c.K) (.int i) (.int j) Q := fun hd H x y dom mh bb rx ry Qh q => by
  cases rx; cases ry
  refine .inl ⟨rfl, kv_here q bb h ?_⟩
  rw [show decide (V.int i = V.int j) = decide (i = j) from decide_eq_decide.mpr ⟨fun e => V.int.inj e, fun e => congrArg _ e⟩]
  exact .bl _
theorem ne_i (h : Q (.bl (!decide (i = j)))) : R2J c (rNeU c.K) (.int i) (.int j) Q := fun hd H x y dom mh bb rx ry Qh q => by
  cases rx; cases ry
  refine .inl ⟨rfl, kv_here q bb h ?_⟩
  rw [show decide (V.int i = V.int j) = decide (i = j) from decide_eq_decide.mpr ⟨fun e => V.int.inj e, fun e => congrArg _ e⟩]
  exact .bl _
theorem eq_s (h : Q (.bl (decide (a = b)))) : R2J c (rEqU c.K) (.str a) (.str b) Q := fun hd H x y dom mh bb rx ry Qh q => by
  cases rx; cases ry
  refine .inl ⟨rfl, kv_here q bb h ?_⟩
  rw [show decide (V.str a = V.str b) = decide (a = b) from decide_eq_decide.mpr ⟨fun e => V.str.inj e, fun e => congrArg _ e⟩]
  exact .bl _
theorem ne_s (h : Q (.bl (!decide (a = b)))) : R2J c (rNeU c.K) (.str a) (.str b) Q := fun hd H x y dom mh bb rx ry Qh q => by
  cases rx; cases ry
  refine .inl ⟨rfl, kv_here q bb h ?_⟩
  rw [show decide (V.str a = V.str b) = decide (a = b) from decide_eq_decide.mpr ⟨fun e => V.str.inj e, fun e => congrArg _ e⟩]
  exact .bl _
theorem eq_b {p q : Bool} (h : Q (.bl (decide (p = q)))) : R2J c (rEqU c.K) (.bl p) (.bl q) Q := fun hd H x y dom mh bb rx ry Qh z => by
  cases rx; cases ry
  refine .inl ⟨rfl, kv_here z bb h ?_⟩
  rw [show decide (V.bl p = V.bl q) = decide (p = q) from decide_eq_decide.mpr ⟨fun e => V.bl.inj e, fun e => congrArg _ e⟩]
  exact .bl _
theorem ne_b {p q : Bool} (h : Q (.bl (!decide (p = q)))) : R2J c (rNeU c.K) (.bl p) (.bl q) Q := fun hd H x y dom mh bb rx ry Qh z => by
  cases rx; cases ry
  refine .inl ⟨rfl, kv_here z bb h ?_⟩
  rw [show decide (V.bl p = V.bl q) = decide (p = q) from decide_eq_decide.mpr ⟨fun e => V.bl.inj e, fun e => congrArg _ e⟩]
  exact .bl _
theorem dp_mono {K : PySem.W.Frag} {hd : Addr → Bool} {H : Hp} {v : V} {d : Dt} {n : Nat} (s : Sh n d) (r : Rp K (Hm hd H) v d) : Dp K H v (py d) := Rp.dp n v d s (r.mono sees_le)
theorem eq_d {d e : Dt} {n m : Nat} (s1 : Sh n d) (s2 : Sh m e) (hn : n ≤ 64) (hm : m ≤ 64) (h : Q (.bl (PyData.eqv (py d) (py e)))) : R2J c (rEqU c.K) d e Q := fun hd H x y dom mh bb rx ry Qh q =>
  .inr ⟨py d, py e, dp_mono s1 rx, dp_mono s2 ry, s1.shaped hn, s2.shaped hm, kv_here q bb h (.bl _)⟩
theorem ne_d {d e : Dt} {n m : Nat} (s1 : Sh n d) (s2 : Sh m e) (hn : n ≤ 64) (hm : m ≤ 64) (h : Q (.bl (!PyData.eqv (py d) (py e)))) : R2J c (rNeU c.K) d e Q := fun hd H x y dom mh bb rx ry Qh q =>
  .inr ⟨py d, py e, dp_mono s1 rx, dp_mono s2 ry, s1.shaped hn, s2.shaped hm, kv_here q bb h (.bl _)⟩
def isNon : Dt → Bool
  | .non => true
  | _ => false
theorem rp_isNon {K : PySem.W.Frag} {G : Hp} {v : V} {d : Dt} (r : Rp K G v d) : decide (v = .non) = isNon d := by cases r <;> rfl
theorem is_n {d : Dt} (h : Q (.bl (isNon d))) : R2J c rIsU d .non Q := fun hd H x y dom mh bb rx ry Qh q => by
  cases ry
  exact ⟨rfl, by rw [rp_isNon rx]; exact kv_here q bb h (.bl _)⟩
theorem isnot_n {d : Dt} (h : Q (.bl (!isNon d))) : R2J c rIsNotU d .non Q := fun hd H x y dom mh bb rx ry Qh q => by
  cases ry
  exact ⟨rfl, by rw [rp_isNon rx]; exact kv_here q bb h (.bl _)⟩
theorem add_l (hz : ds.length + es.length ≤ 100000) (h : QL (ds ++ es)) : R2N c (rAddU c.K) (.lst ds) (.lst es) QL := fun hd H x y dom mh bb rx ry Qh q => by
  cases rx with
  | lst ha ra =>
    cases ry with
    | lst hb rb =>
      rename_i p xs p' ys
      refine .inr (.inr (.inl ⟨p, p', xs, ys, rfl, rfl, hm_le ha, hm_le hb, Evl.sz_of (by rw [ra.length, rb.length]; exact hz), fun o ho => ?_⟩))
      exact q (ds ++ es) o (xs ++ ys) _ h (.new ho) (c.keepN (.new ho) ho bb) ho upd_same ((ra.append rb).mono (sees_new (.new ho (mu := none0)) (fun _ h => nomatch h) ho))
theorem add_t (hz : ds.length + es.length ≤ 100000) (h : Q (.tup (ds ++ es))) : R2J c (rAddU c.K) (.tup ds) (.tup es) Q := fun hd H x y dom mh bb rx ry Qh q => by
  cases rx with
  | tup ha ra =>
    cases ry with
    | tup hb rb =>
      rename_i p xs p' ys
      refine .inr (.inr (.inr ⟨p, p', xs, ys, rfl, rfl, sqt_hm ha, sqt_hm hb, Evl.sz_of (by rw [ra.length, rb.length]; exact hz), fun e => ?_, fun _ e => ?_, fun _ _ o ho => ?_⟩))
      · subst e
        cases ra
        exact kv_here q bb h (.tup hb rb)
      · subst e
        cases rb
        rw [List.append_nil] at h
        exact kv_here q bb h (.tup ha ra)
      · refine q _ (.ref o) _ h (.new ho) (c.keep0 (.new ho) bb) (.tup (xs := xs ++ ys) (.inl (.inl ?_)) ((ra.append rb).mono ((Ex.new ho (mu := none0)).sees (fun _ h => nomatch h))))
        rw [hm_of (fresh_hd dom ho), upd_same]
theorem mul_l {k : Int} (hk : k ≤ 1000000 ∧ -1000000 ≤ k) (hz : ds.length * k.toNat ≤ 100000) (h : QL (List.replicate k.toNat ds).flatten) : R2N c rMulU (.lst ds) (.int k) QL := fun hd H x y dom mh bb rx ry Qh q => by
  cases ry
  cases rx with
  | lst ha ra =>
    rename_i p xs
    refine .inr ⟨p, k, xs, rfl, rfl, hm_le ha, by omega, by omega, Evl.sz_of (by rw [ra.length]; exact hz), fun o ho => ?_⟩
    exact q _ o _ _ h (.new ho) (c.keepN (.new ho) ho bb) ho upd_same ((ra.rep _).mono (sees_new (.new ho (mu := none0)) (fun _ h => nomatch h) ho))
theorem atI_rp {K : PySem.W.Frag} {G : Hp} {vs : List V} {ds : List Dt} {k : Int} {d : Dt} (r : RpAll K G vs ds) (h : atI ds k = some d) : ∃ v, atI vs k = some v ∧ Rp K G v d := by
  unfold atI at h
  cases hx : ixN ds.length k with
  | none => rw [hx] at h; cases h
  | some j =>
    rw [hx] at h
    obtain ⟨v, hv, rv⟩ := r.get (show ds[j]? = some d from h)
    refine ⟨v, ?_, rv⟩
    unfold atI
    rw [r.length, hx]
    exact hv
theorem ix_l {k : Int} {d : Dt} (hk : atI ds k = some d) (h : Q d) : R2J c (rIx c.K) (.lst ds) (.int k) Q := fun hd H x y dom mh bb rx ry Qh q => by
  cases ry
  cases rx with
  | lst ha ra =>
    obtain ⟨v, hv, rv⟩ := atI_rp ra hk
    exact .inl ⟨_, _, k, v, rfl, rfl, .inl (.inl (hm_le ha)), hv, kv_here q bb h rv⟩
theorem ix_t {k : Int} {d : Dt} (hk : atI ds k = some d) (h : Q d) : R2J c (rIx c.K) (.tup ds) (.int k) Q := fun hd H x y dom mh bb rx ry Qh q => by
  cases ry
  cases rx with
  | tup ha ra =>
    obtain ⟨v, hv, rv⟩ := atI_rp ra hk
    exact .inr (.inl ⟨_, _, k, v, rfl, rfl, sqt_hm ha, hv, kv_here q bb h rv⟩)
theorem rix_ac {K : PySem.W.Frag} (p : Addr) (xs : List V) (k : Int) (v : V) (H : Hp) (Qh : VK) (hp : H p = some (.lst xs)) (h : atI xs k = some v) (q : Qh v H) : rIx K (.ref p) (.int k) H Qh := .inl ⟨p, xs, k, v, rfl, rfl, .inl (.inl hp), h, q⟩
def cutD (xs : List Dt) (lo hi : Option Int) : List Dt := (xs.drop (HT.sIx xs.length 0 lo)).take (HT.sIx xs.length xs.length hi - HT.sIx xs.length 0 lo)
theorem cut_rp {K : PySem.W.Frag} {G : Hp} {vs : List V} {ds : List Dt} (r : RpAll K G vs ds) (lo hi : Option Int) : RpAll K G (cutV vs lo hi) (cutD ds lo hi) := by
  unfold cutV cutD
  rw [r.length]
  exact (r.drop _).take _
variable {ρ : List Sl} {te ta tb : TE} {tl th : TO}
theorem en_sl (h : EV c te ρ (LstJ fun ds => EVO c tl ρ fun lo => EVO c th ρ fun hi => QL (cutD ds lo hi))) : EN c (tSl (rSlL c.K) te tl th) ρ QL := fun hd H σ v Qh q => h hd H σ v _ fun d x H1 h1 e1 b1 r1 => by
  cases d with
  | lst ds =>
    refine h1 hd H1 σ (v.go e1 b1) _ fun lo H2 h2 e2 b2 => h2 hd H2 σ ((v.go e1 b1).go e2 b2) _ fun hi H3 h3 e3 b3 => ?_
    have e13 := (e1.trans e2).trans e3
    cases (r1.mono ((e2.trans e3).sees v.muh)) with
    | lst ha ra =>
      refine ⟨_, _, rfl, .inl (.inl (hm_le ha)), fun o ho => ?_⟩
      exact q _ o _ _ h3 (e13.trans (.new ho)) (c.keepN (.new ho) ho b3) (e13.fresh ho) upd_same ((cut_rp ra lo hi).mono (sees_new (.new ho (mu := none0)) (fun _ h => nomatch h) ho))
  | _ => exact h1.elim
end
end CC
namespace CC
open PySem PySem.Spec PyProof.Rows L2
def rLenU (K : PySem.W.Frag) : List V → Hp → VK → Prop := fun xs H Q => (∃ p ys, xs = [.ref p] ∧ (SqL K H p ys ∨ SqT K H p ys) ∧ Q (.int ys.length) H) ∨ (∃ z, xs = [.str z] ∧ z.length ≤ sizeLine ∧ Q (.int z.length) H) ∨ (∃ a kvs, xs = [V.ref a] ∧ H a = some (.dK kvs) ∧ Q (.int kvs.length) H)
def rListU (K : PySem.W.Frag) : List V → Hp → VK → Prop := fun xs H Q => ∃ p ys, xs = [.ref p] ∧ (SqL K H p ys ∨ SqT K H p ys) ∧ ∀ l, H l = none → Q (.ref l) (upd H l (.lst ys))
def rTupleU (K : PySem.W.Frag) : List V → Hp → VK → Prop := fun xs H Q => ∃ p ys, xs = [.ref p] ∧ ((SqL K H p ys ∧ ∀ l, H l = none → Q (.ref l) (upd H l (.tup ys))) ∨ (SqT K H p ys ∧ Q (.ref p) H))
def rMin2 : List V → Hp → VK → Prop := fun xs H Q => ∃ i j, xs = [.int i, .int j] ∧ Q (.int (if j < i then j else i)) H
def rMax2 : List V → Hp → VK → Prop := fun xs H Q => ∃ i j, xs = [.int i, .int j] ∧ Q (.int (if j > i then j else i)) H
def rInt1 : List V → Hp → VK → Prop := fun xs H Q => (∃ i, xs = [.int i] ∧ Q (.int i) H) ∨ ∃ k, xs = [.bl k] ∧ Q (.int (if k then 1 else 0)) H
section
variable {X : Cx}
theorem cl_len : CallR X (.builtin "len") (rLenU X.K) := call_len_seq.or (call_len_str.or call_lenD)
theorem cl_list : CallR X (.type "list") (rListU X.K) := call_list_of
theorem cl_tuple : CallR X (.type "tuple") (rTupleU X.K) := call_tuple_of
theorem cl_min2 (hc : X.calm = true) : CallR X (.builtin "min") rMin2 := call_min2 hc
theorem cl_max2 (hc : X.calm = true) : CallR X (.builtin "max") rMax2 := call_max2 hc
theorem cl_int1 : CallR X (.type "int") rInt1 := call_int1
end
section
variable {c : Cn} {Q : Dt → Prop} {QL : List Dt → Prop} {i j : Int} {ds es : List Dt} {ns : List Int}
theorem rp1 {K : PySem.W.Frag} {G : Hp} {vs : List V} {d : Dt} (r : RpAll K G vs [d]) : ∃ v, vs = [v] ∧ Rp K G v d := by
  cases r with
  | cons r1 r2 => cases r2; exact ⟨_, rfl, r1⟩
theorem len_l (h : Q (.int ds.length)) : RCJ c (rLenU c.K) [.lst ds] Q := fun hd H vs dom mh bb r Qh q => by
  obtain ⟨v, rfl, r1⟩ := rp1 r
  cases r1 with
  | lst ha ra => exact .inl ⟨_, _, rfl, .inl (.inl (.inl (hm_le ha))), by rw [ra.length]; exact kv_here q bb h (.int _)⟩
theorem len_t (h : Q (.int ds.length)) : RCJ c (rLenU c.K) [.tup ds] Q := fun hd H vs dom mh bb r Qh q => by
  obtain ⟨v, rfl, r1⟩ := rp1 r
  cases r1 with
  | tup ha ra => exact .inl ⟨_, _, rfl, .inr (sqt_hm ha), by rw [ra.length]; exact kv_here q bb h (.int _)⟩
theorem len_s {x : Str} (hz : x.length ≤ 100000) (h : Q (.int x.length)) : RCJ c (rLenU c.K) [.str x] Q := fun hd H vs dom mh bb r Qh q => by
  obtain ⟨v, rfl, r1⟩ := rp1 r
  cases r1
  exact .inr (.inl ⟨_, rfl, Evl.sz_of hz, kv_here q bb h (.int _)⟩)
theorem list_l (h : QL ds) : RCN c (rListU c.K) [.lst ds] QL := fun hd H vs dom mh bb r Qh q => by
  obtain ⟨v, rfl, r1⟩ := rp1 r
  cases r1 with
  | lst ha ra => exact ⟨_, _, rfl, .inl (.inl (.inl (hm_le ha))), fun o ho => q _ o _ _ h (.new ho) (c.keepN (.new ho) ho bb) ho upd_same (ra.mono (sees_new (.new ho (mu := none0)) (fun _ h => nomatch h) ho))⟩
theorem tuple_l (h : Q (.tup ds)) : RCJ c (rTupleU c.K) [.lst ds] Q := fun hd H vs dom mh bb r Qh q => by
  obtain ⟨v, rfl, r1⟩ := rp1 r
  cases r1 with
  | lst ha ra =>
    refine ⟨_, _, rfl, .inl ⟨.inl (.inl (hm_le ha)), fun o ho => ?_⟩⟩
    refine q _ (.ref o) _ h (.new ho) (c.keep0 (.new ho) bb) (.tup (.inl (.inl ?_)) (ra.mono ((Ex.new ho (mu := none0)).sees (fun _ h => nomatch h))))
    rw [hm_of (fresh_hd dom ho), upd_same]
theorem tuple_t (h : Q (.tup ds)) : RCJ c (rTupleU c.K) [.tup ds] Q := fun hd H vs dom mh bb r Qh q => by
  obtain ⟨v, rfl, r1⟩ := rp1 r
  cases r1 with
  | tup ha ra => exact ⟨_, _, rfl, .inr ⟨sqt_hm ha, kv_here q bb h (.tup ha ra)⟩⟩
theorem lst_ints {K : PySem.W.Frag} {hd : Addr → Bool} {H : Hp} {v : V} (r : Rp K (Hm hd H) v (.lst (ns.map Dt.int))) : ∃ a, v = .ref a ∧ H a = some (.lst (ns.map V.int)) := by
  cases r with
  | lst ha ra => rw [ra.ints] at ha; exact ⟨_, rfl, hm_le ha⟩
theorem min_l (hn : ns ≠ []) (h : ∀ m, m ∈ ns → (∀ y ∈ ns, m ≤ y) → Q (.int m)) : RCJ c (rMin c.K) [.lst (ns.map Dt.int)] Q := fun hd H vs dom mh bb r Qh q => by
  obtain ⟨v, rfl, r1⟩ := rp1 r
  obtain ⟨a, rfl, ha⟩ := lst_ints r1
  exact ⟨a, ns, rfl, .inl (.inl ha), List.length_pos_iff.mpr hn, fun m h1 h2 => kv_here q bb (h m h1 h2) (.int _)⟩
theorem max_l (hn : ns ≠ []) (h : ∀ m, m ∈ ns → (∀ y ∈ ns, y ≤ m) → Q (.int m)) : RCJ c (rMax c.K) [.lst (ns.map Dt.int)] Q := fun hd H vs dom mh bb r Qh q => by
  obtain ⟨v, rfl, r1⟩ := rp1 r
  obtain ⟨a, rfl, ha⟩ := lst_ints r1
  exact ⟨a, ns, rfl, .inl (.inl ha), List.length_pos_iff.mpr hn, fun m h1 h2 => kv_here q bb (h m h1 h2) (.int _)⟩
theorem sum_l (h : Q (.int ns.sum)) : RCJ c (rSum c.K) [.lst (ns.map Dt.int)] Q := fun hd H vs dom mh bb r Qh q => by
  obtain ⟨v, rfl, r1⟩ := rp1 r
  obtain ⟨a, rfl, ha⟩ := lst_ints r1
  exact ⟨a, ns, rfl, .inl (.inl ha), kv_here q bb h (.int _)⟩
theorem min2_i (h : Q (.int (if j < i then j else i))) : RCJ c rMin2 [.int i, .int j] Q := fun hd H vs dom mh bb r Qh q => by
  rw [rp_ints2 r]
  exact ⟨i, j, rfl, kv_here q bb h (.int _)⟩
theorem max2_i (h : Q (.int (if j > i then j else i))) : RCJ c rMax2 [.int i, .int j] Q := fun hd H vs dom mh bb r Qh q => by
  rw [rp_ints2 r]
  exact ⟨i, j, rfl, kv_here q bb h (.int _)⟩
theorem int_b {k : Bool} (h : Q (.int (if k then 1 else 0))) : RCJ c rInt1 [.bl k] Q := fun hd H vs dom mh bb r Qh q => by
  obtain ⟨v, rfl, r1⟩ := rp1 r
  cases r1
  exact .inr ⟨k, rfl, kv_here q bb h (.int _)⟩
theorem ev_lenSet {w : World} {ta : TA} {ρ : List Sl} (h : EVA c ta ρ fun ds => ∃ ns : List Int, ds = [.lst (ns.map Dt.int)] ∧ ns.length ≤ 4000 ∧ ∀ us : List Int, us.Nodup → (∀ k, k ∈ us ↔ k ∈ ns) → Q (.int us.length)) :
    EV c (tCB (rLenSet w) (tCons (tCB (rSetI c.K w) ta) tNil)) ρ Q := fun hd H σ v Qh q => h hd H σ v _ fun ds vs H1 h1 e1 b1 r1 => by
  obtain ⟨ns, rfl, hl, hq⟩ := h1
  obtain ⟨x, rfl, rx⟩ := rp1 r1
  obtain ⟨a, rfl, ha⟩ := lst_ints rx
  refine ⟨a, ns, rfl, .inl (.inl ha), hl, fun p ks hp k1 k2 => ⟨p, _, _, rfl, upd_same, ?_⟩⟩
  have e2 : Ex none0 H1 (upd H1 p (SetO w p (fun j => decide (j ∈ ns)) ks.length)) := .new hp
  exact q _ _ _ (hq ks k1 k2) (e1.trans e2.up) (c.keep0 e2 b1) (.int _)
def tyD : Dt → String
  | .non => "NoneType"
  | .bl _ => "bool"
  | .int _ => "int"
  | .str _ => "str"
  | .lst _ => "list"
  | .tup _ => "tuple"
  | .dk _ => "dict"
  | .dt _ => "dict"
  | .ob _ _ => "object"
  | .xo _ _ => "object"
  | .ptup _ => "object"
def noT : Dt → Bool
  | .dt _ => false
  | .ob _ _ => false
  | .xo _ _ => false
  | .ptup _ => false
  | _ => true
theorem rp_ty {K : PySem.W.Frag} {hd : Addr → Bool} {H : Hp} {v : V} {d : Dt} (hn : noT d = true) (r : Rp K (Hm hd H) v d) : TyX K H v (.type (tyD d)) := by
  cases r with
  | non => exact .base .non
  | bl b => exact .base (.bl b)
  | int b => exact .base (.int b)
  | str b => exact .base (.str b)
  | lst ha _ => exact .base (.lst (hm_le ha))
  | tup ha _ =>
    rcases ha with (ha | ⟨o, ha⟩) | ⟨o, its, n, h1, h2, h3⟩
    · exact .base (.tup (hm_le ha))
    · exact .fTuple (hm_le ha)
    · exact .kTuple h1 h2
  | dk ha _ =>
    rcases ha with ha | ⟨o, ha⟩
    · exact .base (.dK (hm_le ha))
    · exact .fDict (hm_le ha)
  | dt => cases hn
  | ob => cases hn
  | xo => cases hn
  | ptup => cases hn
theorem ev_isi {ta : TE} {T : String} {ρ : List Sl} (h : EV c ta ρ fun d => noT d = true ∧ ∃ b, kitB (tyD d) T = some b ∧ Q (.bl b)) : EV c (tCB (rIsi c.K) (tCons ta (tCons (tC (.ty T)) tNil))) ρ Q := fun hd H σ v Qh q => h hd H σ v _ fun d x H1 h1 e1 b1 r1 => by
  obtain ⟨hn, b, hb, hq⟩ := h1
  exact ⟨x, .ty T, _, _, b, rfl, .ty T, rp_ty hn r1, kit_ty hb, q _ _ H1 hq e1 b1 (.bl _)⟩
end
def spP (K : PySem.W.Frag) (S : List Dt → (Dt → Prop) → Prop) : Sp := fun vs H Qh _ => ∃ hid ds Q, (∀ a, hid a = true → H a ≠ none) ∧ RpAll K (Hm hid H) vs ds ∧ S ds Q ∧ ∀ d v H', Q d → Ex none0 H H' → Rp K (Hm hid H') v d → Qh v H'
def spPN (K : PySem.W.Frag) (S : List Dt → (List Dt → Prop) → Prop) : Sp := fun vs H Qh _ => ∃ hid ds Q, (∀ a, hid a = true → H a ≠ none) ∧ RpAll K (Hm hid H) vs ds ∧ S ds Q ∧
  ∀ es o ws H', Q es → Ex none0 H H' → H o = none → H' o = some (.lst ws) → RpAll K (Hm (hide hid o) H') ws es → Qh (.ref o) H'
structure RetOk (c : Cn) (hid : Addr → Bool) (H0 : Hp) (Q : Dt → Prop) (D : Ends) : Prop where
  rt : ∀ d, Q d → RJ c hid H0 D.rt d
  nx : Q .non → ∀ ρ, NJ c hid H0 D.nx ρ
structure RetN (c : Cn) (hid : Addr → Bool) (H0 : Hp) (Q : List Dt → Prop) (D : Ends) : Prop where
  rt : ∀ d, Q d → RNJ c hid H0 D.rt d
def startS (N : List Str) (ds : List Dt) : List Sl := ds.map Sl.im ++ List.replicate (N.length - ds.length) .un
section
variable {K : PySem.W.Frag} {c : Cn} {Q : Dt → Prop} {QL : List Dt → Prop} {ds : List Dt}
theorem sp_j {S : List Dt → (Dt → Prop) → Prop} {E : XK} (h : S ds Q) : SpJ c (spP c.K S) E ds Q := fun hd H vs dom mh bb r Qh q => ⟨hd, ds, Q, dom, r, h, fun d v H' hq e => q d v H' hq e.up (c.keep0 e bb)⟩
theorem sp_n {S : List Dt → (List Dt → Prop) → Prop} {E : XK} (h : S ds QL) : SpN c (spPN c.K S) E ds QL := fun hd H vs dom mh bb r Qh q => ⟨hd, ds, QL, dom, r, h, fun es o ws H' hq e ho => q es o ws H' hq e.up (c.keepN e ho bb) ho⟩
theorem slall_im {hd : Addr → Bool} {H : Hp} : ∀ {vs : List V} {ds : List Dt} {n : Nat}, RpAll c.K (Hm hd H) vs ds → SlAll c hd H (vs.map some ++ List.replicate n none) (ds.map Sl.im ++ List.replicate n .un)
  | _, _, n, .nil => by
    show SlAll c hd H (List.replicate n none) (List.replicate n .un)
    induction n with
    | zero => exact .nil
    | succ n ih =>
      rw [List.replicate_succ, List.replicate_succ]
      exact .cons trivial ih
  | _, _, n, .cons r t => .cons r (slall_im t)
theorem owns_im {ds : List Dt} {n i : Nat} {s : Sl} (h : (ds.map Sl.im ++ List.replicate n .un)[i]? = some s) : owns s = false := by
  rcases List.mem_append.mp (List.mem_of_getElem? h) with h | h
  · obtain ⟨d, _, rfl⟩ := List.mem_map.mp h
    rfl
  · rw [(List.mem_replicate.mp h).2]; rfl
theorem sd_start {hid : Addr → Bool} {H : Hp} {N : List Str} {vs : List V} (dom : ∀ a, hid a = true → H a ≠ none) (muh : ∀ a, c.mu a = true → hid a = true) (b : c.B hid H) (r : RpAll c.K (Hm hid H) vs ds) : SD c hid hid H H (L2.start N vs) (startS N ds) := by
  have hl := r.length
  refine ⟨⟨dom, muh, b, ?_⟩, fun _ h => h, .refl, fun a h1 h2 => (by rw [h1] at h2; cases h2), fun i j o h1 => ?_, fun i o h1 => ?_⟩
  · unfold L2.start startS
    rw [hl]
    exact slall_im r
  · obtain ⟨_, s, h2, h3⟩ := h1
    rw [owns_im h2] at h3; cases h3
  · obtain ⟨_, s, h2, h3⟩ := h1
    rw [owns_im h2] at h3; cases h3
end
section
variable {P : Program} {w : World} {K : PySem.W.Frag} {mg : Str → Option Value} {base : Heap}
abbrev cxD (P : Program) (w : World) (K : PySem.W.Frag) (mg : Str → Option Value) (base : Heap) (N : List Str) (qual : Str) (st : Stmt) (f : Addr) (cdv : Value) (A : Around) (outer : List Env) (s : Shared) (H : Hp) (E : XK) : Cx := (cxOf CX0 P w K mg base N qual (defScope st) f cdv A outer s H E).nox
theorem fn_pure {x qual : Str} {st : Stmt} {f : Addr} {fd : FuncData} {N ps : List Str} {k : Nat} {S : List Dt → (Dt → Prop) → Prop} (F : Fun K x qual st f fd) (Sc : FnScope N ps (defScope st)) (len : ∀ ds Q, S ds Q → ds.length = ps.length)
    (hb : ∀ (cdv : Value) (A : Around) (outer : List Env) (s : Shared) (H : Hp) (E : XK), Room k (A.deeper (envOfC qual (defScope st) s.heap.objs.size f cdv)) →
      ∃ t, PSs (cxD P w K mg base N qual st f cdv A outer s H E) (defBody st) t ∧ ∀ ds Q, S ds Q → ∀ hid H0 (D : Ends), (∀ a, hid a = true → H0 a ≠ none) → RetOk (Cn.pure K) hid H0 Q D → NJ (Cn.pure K) hid H0 (t D) (startS N ds)) :
    FnOk P w K mg base CX0 (k + 1) f fd ps (spP K S) := by
  refine F.ok Sc (fun vs H Q E h => ?_) (fun cdv A outer s H vs Q E hr h => ?_)
  · obtain ⟨hid, ds, Q', _, r, hS, _⟩ := h
    rw [r.length]
    exact len ds Q' hS
  · obtain ⟨hid, ds, Q', dom, r, hS, q⟩ := h
    obtain ⟨t, ht, hn⟩ := hb cdv A outer s H E hr
    refine ⟨t, ht, hn ds Q' hS hid H _ dom ⟨fun d hd v H' e _ r => q d v H' hd e r, fun hd ρ hd' H' σ sd => q .non .non H' hd sd.ext .non⟩ hid H _ (sd_start dom (fun _ h => nomatch h) trivial r)⟩
theorem fn_pureN {x qual : Str} {st : Stmt} {f : Addr} {fd : FuncData} {N ps : List Str} {k : Nat} {S : List Dt → (List Dt → Prop) → Prop} (F : Fun K x qual st f fd) (Sc : FnScope N ps (defScope st)) (len : ∀ ds Q, S ds Q → ds.length = ps.length)
    (hb : ∀ (cdv : Value) (A : Around) (outer : List Env) (s : Shared) (H : Hp) (E : XK), Room k (A.deeper (envOfC qual (defScope st) s.heap.objs.size f cdv)) →
      ∃ t, PSs (cxD P w K mg base N qual st f cdv A outer s H E) (defBody st) t ∧ ∀ ds Q, S ds Q → ∀ hid H0 (D : Ends), (∀ a, hid a = true → H0 a ≠ none) → RetN (Cn.pure K) hid H0 Q D → NJ (Cn.pure K) hid H0 (t D) (startS N ds)) :
    FnOk P w K mg base CX0 (k + 1) f fd ps (spPN K S) := by
  refine F.ok Sc (fun vs H Q E h => ?_) (fun cdv A outer s H vs Q E hr h => ?_)
  · obtain ⟨hid, ds, Q', _, r, hS, _⟩ := h
    rw [r.length]
    exact len ds Q' hS
  · obtain ⟨hid, ds, Q', dom, r, hS, q⟩ := h
    obtain ⟨t, ht, hn⟩ := hb cdv A outer s H E hr
    exact ⟨t, ht, hn ds Q' hS hid H { nx := fun _ H' => Q .non H', rt := Q } dom ⟨fun d hd o vs H' e _ => q d o vs H' hd e⟩ hid H _ (sd_start dom (fun _ h => nomatch h) trivial r)⟩
end
end CC
namespace CC
open PySem PySem.Spec PyProof.Rows L2
open C8 (Cal pe_c pe_gc)
def FnAt (K : PySem.W.Frag) (mg : Str → Option Value) (x : Str) (st : Stmt) (ps : List Str) : Prop := ∃ f fd, mg x = some (.ref f) ∧ Fun K x x st f fd ∧ Binds K fd ps []
section
variable {P : Program} {w : World} {K : PySem.W.Frag} {mg : Str → Option Value} {base : Heap}
theorem cal_pure {x : Str} {st : Stmt} {N ps : List Str} {k : Nat} {S : List Dt → (Dt → Prop) → Prop} (F : FnAt K mg x st ps) (Sc : FnScope N ps (defScope st)) (len : ∀ ds Q, S ds Q → ds.length = ps.length)
    (hb : ∀ (f : Addr) (cdv : Value) (A : Around) (outer : List Env) (s : Shared) (H : Hp) (E : XK), Room k (A.deeper (envOfC x (defScope st) s.heap.objs.size f cdv)) →
      ∃ t, PSs (cxD P w K mg base N x st f cdv A outer s H E) (defBody st) t ∧ ∀ ds Q, S ds Q → ∀ hid H0 (D : Ends), (∀ a, hid a = true → H0 a ≠ none) → RetOk (Cn.pure K) hid H0 Q D → NJ (Cn.pure K) hid H0 (t D) (startS N ds)) :
    Cal P w K mg base (k + 1) x (spP K S) [] := by
  obtain ⟨f, fd, hm, F, b⟩ := F
  exact ⟨⟨f, fd, ps, [], fn_pure F Sc len (hb f), hm, F.kp, b, .nil⟩⟩
theorem cal_pureN {x : Str} {st : Stmt} {N ps : List Str} {k : Nat} {S : List Dt → (List Dt → Prop) → Prop} (F : FnAt K mg x st ps) (Sc : FnScope N ps (defScope st)) (len : ∀ ds Q, S ds Q → ds.length = ps.length)
    (hb : ∀ (f : Addr) (cdv : Value) (A : Around) (outer : List Env) (s : Shared) (H : Hp) (E : XK), Room k (A.deeper (envOfC x (defScope st) s.heap.objs.size f cdv)) →
      ∃ t, PSs (cxD P w K mg base N x st f cdv A outer s H E) (defBody st) t ∧ ∀ ds Q, S ds Q → ∀ hid H0 (D : Ends), (∀ a, hid a = true → H0 a ≠ none) → RetN (Cn.pure K) hid H0 Q D → NJ (Cn.pure K) hid H0 (t D) (startS N ds)) :
    Cal P w K mg base (k + 1) x (spPN K S) [] := by
  obtain ⟨f, fd, hm, F, b⟩ := F
  exact ⟨⟨f, fd, ps, [], fn_pureN F Sc len (hb f), hm, F.kp, b, .nil⟩⟩
theorem Cal.up {k j : Nat} {x : Str} {sp : Sp} {dvs : List V} (c : Cal P w K mg base k x sp dvs) (h : k ≤ j) : Cal P w K mg base j x sp dvs := by
  obtain ⟨f, fd, ps, ds, F, a⟩ := c.ex
  exact ⟨⟨f, fd, ps, ds, F.mono h, a⟩⟩
theorem et_yes {c : Cn} {ρ : List Sl} {Q : Bool → Prop} (h : Q true) : EVT c tYes ρ Q := fun hd H σ v Qh q => q true H h .refl v.inv
end
end CC
namespace CC
open PySem PySem.Spec PyProof.Rows L2
section
variable {c : Cn} {ρ : List Sl} {ta : TE} {Q : Dt → Prop}
theorem ev_neg (h : EV c ta ρ (IntJ fun i => Q (.int (-i)))) : EV c (tUn (rU fun i => .int (-i)) ta) ρ Q := fun hd H σ v Qh q => h hd H σ v _ fun d x H1 h1 e1 b1 r1 => by
  cases d with
  | int i => exact ⟨i, rp_int r1, q _ _ H1 h1 e1 b1 (.int _)⟩
  | _ => exact h1.elim
theorem ev_ixA {tb : TE} {i : Nat} {ds : List Dt} (hi : ρ[i]? = some (.ac ds)) (h : EV c tb ρ (IntJ fun k => ∃ d, atI ds k = some d ∧ Q d)) : EV c (tOp (rIx c.K) (tVar i) tb) ρ Q := ev_ixAc rix_ac hi h
end
end CC
namespace CC
def powB (b : Int) : Nat → Int → List Int
  | 0, x => [x]
  | n + 1, x => if x * b * b ≤ 10000 then x :: powB b n (x * b) else [x]
def pows (b : Int) : List Int := powB b 14 1
def perB (b : Int) : Nat := (pows b).length
def dsum (b : Int) : List Int → Int
  | [] => 0
  | x :: r => x + b * dsum b r
def chunks (n : Nat) (l : List Int) : List (List Int) :=
  if h : l = [] ∨ n = 0 then [] else l.take n :: chunks n (l.drop n)
termination_by l.length
decreasing_by
  simp only [not_or] at h
  have : 0 < l.length := List.length_pos_iff.mpr h.1
  rw [List.length_drop]; omega
def packI (b : Int) (vs : List Int) : List Int := (chunks (perB b) vs).map (dsum b)
end CC
namespace CC
def ins (x : Int) : List Int → List Int
  | [] => [x]
  | y :: r => if x < y then x :: y :: r else if x = y then y :: r else y :: ins x r
def uniq (vs : List Int) : List Int := vs.foldr ins []
theorem mem_ins {x k : Int} : ∀ {l : List Int}, k ∈ ins x l ↔ k = x ∨ k ∈ l
  | [] => by simp [ins]
  | y :: r => by
    unfold ins
    split
    · simp
    · split
      · rename_i e
        subst e
        simp
      · simp only [List.mem_cons, mem_ins (l := r)]
        constructor
        · rintro (h | h | h)
          · exact .inr (.inl h)
          · exact .inl h
          · exact .inr (.inr h)
        · rintro (h | h | h)
          · exact .inr (.inl h)
          · exact .inl h
          · exact .inr (.inr h)
theorem pw_ins {x : Int} : ∀ {l : List Int}, l.Pairwise (· < ·) → (ins x l).Pairwise (· < ·)
  | [], _ => by simp [ins]
  | y :: r, h => by
    obtain ⟨h1, h2⟩ := List.pairwise_cons.mp h
    unfold ins
    split
    · rename_i hx
      refine List.pairwise_cons.mpr ⟨fun z hz => ?_, h⟩
      rcases List.mem_cons.mp hz with rfl | hz
      · exact hx
      · have := h1 z hz; omega
    · split
      · exact h
      · rename_i h3 h4
        refine List.pairwise_cons.mpr ⟨fun z hz => ?_, pw_ins h2⟩
        rcases mem_ins.mp hz with rfl | hz
        · omega
        · exact h1 z hz
theorem mem_uniq {k : Int} : ∀ {vs : List Int}, k ∈ uniq vs ↔ k ∈ vs
  | [] => by simp [uniq]
  | x :: r => by
    show k ∈ ins x (uniq r) ↔ _
    rw [mem_ins, mem_uniq, List.mem_cons]
theorem pw_uniq : ∀ (vs : List Int), (uniq vs).Pairwise (· < ·)
  | [] => .nil
  | x :: r => pw_ins (pw_uniq r)
theorem nodup_of_pw : ∀ {l : List Int}, l.Pairwise (· < ·) → l.Nodup
  | [], _ => .nil
  | x :: r, h => by
    obtain ⟨h1, h2⟩ := List.pairwise_cons.mp h
    exact List.nodup_cons.mpr ⟨fun hx => by have := h1 x hx; omega, nodup_of_pw h2⟩
theorem nodup_len_le : ∀ (ks ns : List Int), ks.Nodup → (∀ k ∈ ks, k ∈ ns) → ks.length ≤ ns.length
  | [], _, _, _ => Nat.zero_le _
  | k :: r, ns, h, hs => by
    obtain ⟨h1, h2⟩ := List.nodup_cons.mp h
    have hk := hs k List.mem_cons_self
    have ih := nodup_len_le r (ns.erase k) h2 fun x hx => (List.mem_erase_of_ne fun e => h1 (by rw [← e]; exact hx)).mpr (hs x (List.mem_cons_of_mem _ hx))
    rw [List.length_erase_of_mem hk] at ih
    have := List.length_pos_of_mem hk
    rw [List.length_cons]
    omega
theorem uniq_len {us vs : List Int} (h1 : us.Nodup) (h2 : ∀ k, k ∈ us ↔ k ∈ vs) : us.length = (uniq vs).length := by
  have a := nodup_len_le us (uniq vs) h1 fun k hk => mem_uniq.mpr ((h2 k).mp hk)
  have b := nodup_len_le (uniq vs) us (nodup_of_pw (pw_uniq vs)) fun k hk => (h2 k).mpr (mem_uniq.mp hk)
  omega
def posOf (x : Int) : List Int → Nat
  | [] => 0
  | y :: r => if y = x then 0 else posOf x r + 1
def minL : List Int → Int
  | [] => 0
  | x :: r => r.foldl min x
def maxL : List Int → Int
  | [] => 0
  | x :: r => r.foldl max x
theorem foldl_min : ∀ (r : List Int) (x : Int), (r.foldl min x = x ∨ r.foldl min x ∈ r) ∧ r.foldl min x ≤ x ∧ ∀ y ∈ r, r.foldl min x ≤ y
  | [], x => ⟨.inl rfl, Int.le_refl _, fun y h => by simp at h⟩
  | z :: r, x => by
    obtain ⟨h1, h2, h3⟩ := foldl_min r (min x z)
    show ((r.foldl min (min x z)) = x ∨ _) ∧ _
    refine ⟨?_, by rw [List.foldl_cons]; omega, fun y hy => ?_⟩
    · rcases h1 with h1 | h1
      · rw [List.foldl_cons, h1]
        by_cases hx : x ≤ z
        · left; omega
        · right; rw [show min x z = z by omega]; exact List.mem_cons_self
      · right; exact List.mem_cons_of_mem _ h1
    · rcases List.mem_cons.mp hy with rfl | hy
      · rw [List.foldl_cons]; omega
      · exact h3 y hy
theorem foldl_max : ∀ (r : List Int) (x : Int), (r.foldl max x = x ∨ r.foldl max x ∈ r) ∧ x ≤ r.foldl max x ∧ ∀ y ∈ r, y ≤ r.foldl max x
  | [], x => ⟨.inl rfl, Int.le_refl _, fun y h => by simp at h⟩
  | z :: r, x => by
    obtain ⟨h1, h2, h3⟩ := foldl_max r (max x z)
    show ((r.foldl max (max x z)) = x ∨ _) ∧ _
    refine ⟨?_, by rw [List.foldl_cons]; omega, fun y hy => ?_⟩
    · rcases h1 with h1 | h1
      · rw [List.foldl_cons, h1]
        by_cases hx : z ≤ x
        · left; omega
        · right; rw [show max x z = z by omega]; exact List.mem_cons_self
      · right; exact List.mem_cons_of_mem _ h1
    · rcases List.mem_cons.mp hy with rfl | hy
      · rw [List.foldl_cons]; omega
      · exact h3 y hy
theorem minL_mem {vs : List Int} (h : vs ≠ []) : minL vs ∈ vs := by
  cases vs with
  | nil => exact absurd rfl h
  | cons x r =>
    rcases (foldl_min r x).1 with e | e
    · show r.foldl min x ∈ _; rw [e]; exact List.mem_cons_self
    · exact List.mem_cons_of_mem _ e
theorem minL_le {vs : List Int} {y : Int} (h : y ∈ vs) : minL vs ≤ y := by
  cases vs with
  | nil => simp at h
  | cons x r =>
    rcases List.mem_cons.mp h with rfl | h
    · exact (foldl_min r _).2.1
    · exact (foldl_min r x).2.2 y h
theorem maxL_mem {vs : List Int} (h : vs ≠ []) : maxL vs ∈ vs := by
  cases vs with
  | nil => exact absurd rfl h
  | cons x r =>
    rcases (foldl_max r x).1 with e | e
    · show r.foldl max x ∈ _; rw [e]; exact List.mem_cons_self
    · exact List.mem_cons_of_mem _ e
theorem le_maxL {vs : List Int} {y : Int} (h : y ∈ vs) : y ≤ maxL vs := by
  cases vs with
  | nil => simp at h
  | cons x r =>
    rcases List.mem_cons.mp h with rfl | h
    · exact (foldl_max r _).2.1
    · exact (foldl_max r x).2.2 y h
theorem minL_is {vs : List Int} {m : Int} (h1 : m ∈ vs) (h2 : ∀ y ∈ vs, m ≤ y) : m = minL vs := by
  have a := h2 _ (minL_mem (fun e => by rw [e] at h1; simp at h1))
  have b := minL_le h1
  omega
theorem maxL_is {vs : List Int} {m : Int} (h1 : m ∈ vs) (h2 : ∀ y ∈ vs, y ≤ m) : m = maxL vs := by
  have a := h2 _ (maxL_mem (fun e => by rw [e] at h1; simp at h1))
  have b := le_maxL h1
  omega
def spanL (vs : List Int) : Int := maxL vs - minL vs
def dif : List Int → List Int
  | x :: y :: r => (y - x) :: dif (y :: r)
  | _ => []
end CC
namespace CC
inductive Fm where
  | plain (vs : List Int) | one (n : Nat) (v : Int) | codes (n : Nat) (us cs : List Int) | near (n : Nat) (lo sp : Int) (cs : List Int) | steps (n : Nat) (f lo sp : Int) (cs : List Int)
def abv (vs : List Int) : Option (Int × Int × List Int) := if spanL vs + 1 > 10000 then none else some (minL vs, spanL vs, if spanL vs > 0 then packI (spanL vs + 1) (vs.map (· - minL vs)) else [])
def layOne (vs : List Int) : Option Fm := if (uniq vs).length = 1 then some (.one vs.length (vs.headD 0)) else none
def layCodes (vs : List Int) : Option Fm := if (uniq vs).length < 2 then none else some (.codes vs.length (uniq vs) (packI (uniq vs).length (vs.map fun v => (posOf v (uniq vs) : Int))))
def layNear (vs : List Int) : Option Fm := match abv vs with
  | none => none
  | some (lo, sp, cs) => if sp = 0 then none else some (.near vs.length lo sp cs)
def laySteps (vs : List Int) : Option Fm := if vs.length < 2 then none else match abv (dif vs) with
  | none => none
  | some (lo, sp, cs) => some (.steps vs.length (vs.headD 0) lo sp cs)
def lay : Nat → List Int → Option Fm
  | 0, vs => some (.plain vs)
  | 1, vs => layOne vs
  | 2, vs => layCodes vs
  | 3, vs => layNear vs
  | _, vs => laySteps vs
def Fm.size : Fm → Nat
  | .plain vs => vs.length
  | .one n _ => n
  | .codes n _ _ => n
  | .near n _ _ _ => n
  | .steps n _ _ _ _ => n
end CC
namespace CC
open PySem PySem.Spec PyProof.Rows L2
theorem intJ {Q : Int → Prop} {i : Int} (h : Q i) : IntJ Q (.int i) := h
theorem blJ {Q : Bool → Prop} {i : Bool} (h : Q i) : BlJ Q (.bl i) := h
theorem lstJ {Q : List Dt → Prop} {i : List Dt} (h : Q i) : LstJ Q (.lst i) := h
theorem tupJ {Q : List Dt → Prop} {i : List Dt} (h : Q i) : TupJ Q (.tup i) := h
abbrev dT (ns : List Int) : Dt := .tup (ns.map Dt.int)
theorem atI_int {ns : List Int} {k : Int} {x : Int} (h0 : 0 ≤ k) (h : ns[k.toNat]? = some x) : atI (ns.map Dt.int) k = some (.int x) := by
  have e : k = ((k.toNat : Nat) : Int) := by omega
  rw [e]
  refine atI_nat ?_
  rw [List.getElem?_map, h]; rfl
theorem ix_li {c : Cn} {Q : Dt → Prop} {ns : List Int} {k x : Int} (h0 : 0 ≤ k) (h : ns[k.toNat]? = some x) (q : Q (.int x)) : R2J c (rIx c.K) (.lst (ns.map Dt.int)) (.int k) Q := ix_l (atI_int h0 h) q
theorem bl_two {A B p : Prop} {dp : Decidable p} (h1 : p → A) (h2 : ¬ p → B) : (@decide p dp = true → A) ∧ (@decide p dp = false → B) := ⟨fun h => h1 (of_decide_eq_true h), fun h => h2 (of_decide_eq_false h)⟩
theorem bl_yes {A B : Prop} {b : Bool} (e : b = true) (h : A) : (b = true → A) ∧ (b = false → B) := ⟨fun _ => h, fun z => by rw [e] at z; cases z⟩
theorem bl_no {A B : Prop} {b : Bool} (e : b = false) (h : B) : (b = true → A) ∧ (b = false → B) := ⟨fun z => (by rw [e] at z; cases z), fun _ => h⟩
theorem or_yes {A B : Prop} {b : Bool} (e : b = true) (h : B) : (b = false → A) ∧ (b = true → B) := ⟨fun z => (by rw [e] at z; cases z), fun _ => h⟩
theorem or_no {A B : Prop} {b : Bool} (e : b = false) (h : A) : (b = false → A) ∧ (b = true → B) := ⟨fun _ => h, fun z => by rw [e] at z; cases z⟩
section
variable {c : Cn} {hid : Addr → Bool} {H0 H1 : Hp} {ρ : List Sl} {ta tb te : TE} {t u : TT} {D : Ends} {ts tz tu : TS} {g : TG}
theorem q_asg {i : Nat} (h : EV c te ρ fun d => NJ c hid H0 (tz D) (ρ.set i (.im d))) : NJ c hid H0 (tSeq (tAsg te (gName i)) tz D) ρ := nj_asg (D := { D with nx := tz D }) h
theorem q_asgN {i : Nat} (h : EN c te ρ fun ds => NJ c hid H0 (tz D) (ρ.set i (.ac ds))) : NJ c hid H0 (tSeq (tAsg te (gName i)) tz D) ρ := nj_asgN (D := { D with nx := tz D }) h
theorem q_when (h : ETJ c hid H0 t ρ fun b => (b = true → NJ c hid H0 (ts { D with nx := tz D }) ρ) ∧ (b = false → NJ c hid H0 (tz D) ρ)) : NJ c hid H0 (tSeq (tIfS t ts tNext) tz D) ρ := nj_if (D := { D with nx := tz D }) h
theorem nj_when (h : ETJ c hid H0 t ρ fun b => (b = true → NJ c hid H0 (ts D) ρ) ∧ (b = false → NJ c hid H0 D.nx ρ)) : NJ c hid H0 (tIfS t ts tNext D) ρ := nj_if h
theorem q_drop (h : EV c te ρ fun _ => NJ c hid H0 (tz D) ρ) : NJ c hid H0 (tSeq (tDrop te) tz D) ρ := nj_drop (D := { D with nx := tz D }) h
theorem q_app {i : Nat} {ds : List Dt} {K : PySem.W.Frag} (hi : ρ[i]? = some (.ac ds)) (hz : ds.length < 100000) (h : EV c te ρ fun d => NJ c hid H0 (tz D) (ρ.set i (.ac (ds ++ [d])))) : NJ c hid H0 (tSeq (tDrop (tBM K "list" rAppend (tVar i) (tCons te tNil))) tz D) ρ := nj_app (D := { D with nx := tz D }) hi hz h
theorem q_for {wi : TI} (h : IJ c wi ρ fun its => ∃ I : Nat → List Sl → Prop, I 0 ρ ∧ (∀ H1, Ex c.mu H0 H1 → ∀ i d ρ', its[i]? = some d → I i ρ' → TGJ c hid H1 g d ρ' (ts { D with nx := Nx c hid H1 (I (i + 1)), ct := Nx c hid H1 (I (i + 1)), bk := tz D })) ∧
    ∀ ρ', I its.length ρ' → NJ c hid H0 (tz D) ρ') : NJ c hid H0 (tSeq (tFor wi g ts) tz D) ρ := nj_for (D := { D with nx := tz D }) h
theorem q_asgT (h : EV c te ρ fun d => TGJ c hid H0 g d ρ (tz D)) : NJ c hid H0 (tSeq (tAsg te g) tz D) ρ := fun hd H σ s =>
  h hd H σ s.toSV _ fun d v H' hq e b r => hq hd H' σ v (s.go e b) r
end
theorem mul_iL {c : Cn} {Q : Dt → Prop} {i j : Int} (h1 : -18446744073709551616 < i) (h2 : i < 18446744073709551616) (h : Q (.int (i * j))) : R2J c rMulU (.int i) (.int j) Q := mul_i (.inl ⟨h1, h2⟩) h
theorem mul_iR {c : Cn} {Q : Dt → Prop} {i j : Int} (h1 : -18446744073709551616 < j) (h2 : j < 18446744073709551616) (h : Q (.int (i * j))) : R2J c rMulU (.int i) (.int j) Q := mul_i (.inr ⟨h1, h2⟩) h
theorem div_iP {c : Cn} {Q : Dt → Prop} {i j : Int} (h1 : 0 < j) (h2 : j < 4611686018427387904) (h : Q (.int (i / j))) : R2J c rDivI (.int i) (.int j) Q := div_i (wide_div (b := 62) h1 (by omega) (by decide) (by decide)) h
theorem rangeD_at {lo : Int} {n i : Nat} {d : Dt} (h : (rangeD lo n)[i]? = some d) : i < n ∧ d = .int (lo + (i : Nat)) := by
  unfold rangeD at h
  rw [List.getElem?_map] at h
  by_cases hi : i < n
  · rw [List.getElem?_range hi] at h; exact ⟨hi, (Option.some.inj h).symm⟩
  · rw [List.getElem?_eq_none (by rw [List.length_range]; omega)] at h; cases h
theorem rangeD_len {lo : Int} {n : Nat} : (rangeD lo n).length = n := by unfold rangeD; rw [List.length_map, List.length_range]
theorem en_map {c : Cn} {ρ : List Sl} {wi : TI} {g : TG} {t : TT} {te : TE} {vs : List Nat} {Q : List Dt → Prop} (h : IJ c wi ρ fun its => its.length ≤ 100000 ∧ ∃ f : Nat → Dt, (∀ i d, its[i]? = some d → TGE c g d (wipeS ρ vs) vs fun ρ' => EVT c t ρ' fun b => b = true ∧ EV c te ρ' fun y => y = f i) ∧ Q ((List.range its.length).map f)) :
    EN c (tLc wi g t te vs) ρ Q := en_lc (fun hd H σ v R q => h hd H σ v R fun its J H' ⟨hl, f, h1, h2⟩ => q its J H' ⟨hl, fun i acc => acc = (List.range i).map f, rfl, fun i d acc hi ha => (fun hd H σ v N s r k => h1 i d hi hd H σ v N s r fun σ2 ρ2 hk => k σ2 ρ2 (fun hd H σ v Qh q => hk hd H σ v Qh fun b H' hb => q b H' ⟨fun _ => hb.2.imp fun y hy => by (show acc ++ [y] = (List.range (i + 1)).map f); rw [hy, ha, List.range_succ, List.map_append]; rfl, fun z => by rw [hb.1] at z; cases z⟩)), fun acc ha => by rw [ha]; exact h2⟩)
theorem len_li {c : Cn} {Q : Dt → Prop} {ns : List Int} (h : Q (.int ns.length)) : RCJ c (rLenU c.K) [.lst (ns.map Dt.int)] Q := len_l (by rw [List.length_map]; exact h)
theorem len_ti {c : Cn} {Q : Dt → Prop} {ns : List Int} (h : Q (.int ns.length)) : RCJ c (rLenU c.K) [.tup (ns.map Dt.int)] Q := len_t (by rw [List.length_map]; exact h)
theorem lenOk {ds : List Dt} {P : Prop} (h : ds.length ≤ 100000) (q : P) : ds.length ≤ 100000 ∧ P := ⟨h, q⟩
theorem min_li {c : Cn} {Q : Dt → Prop} {ns : List Int} (hn : ns ≠ []) (h : Q (.int (minL ns))) : RCJ c (rMin c.K) [.lst (ns.map Dt.int)] Q := min_l hn fun m h1 h2 => by rw [minL_is h1 h2]; exact h
theorem max_li {c : Cn} {Q : Dt → Prop} {ns : List Int} (hn : ns ≠ []) (h : Q (.int (maxL ns))) : RCJ c (rMax c.K) [.lst (ns.map Dt.int)] Q := max_l hn fun m h1 h2 => by rw [maxL_is h1 h2]; exact h
theorem lenSet_li {c : Cn} {ρ : List Sl} {w : World} {ta : TA} {Q : Dt → Prop} (h : EVA c ta ρ fun ds => ∃ ns : List Int, ds = [.lst (ns.map Dt.int)] ∧ ns.length ≤ 4000 ∧ Q (.int (uniq ns).length)) : EV c (tCB (rLenSet w) (tCons (tCB (rSetI c.K w) ta) tNil)) ρ Q :=
  ev_lenSet fun hd H σ v Qh q => h hd H σ v Qh fun ds vs H' ⟨ns, e, h1, h2⟩ => q ds vs H' ⟨ns, e, h1, fun us h3 h4 => by rw [uniq_len h3 h4]; exact h2⟩
theorem atI_lt {α : Type} {xs : List α} {j : Nat} {x : α} (h : xs[j]? = some x) : atI xs ((j : Nat) : Int) = some x := atI_nat h
theorem ix_t0 {c : Cn} {Q : Dt → Prop} {d0 : Dt} {r : List Dt} (h : Q d0) : R2J c (rIx c.K) (.tup (d0 :: r)) (.int 0) Q := ix_t (atI_lt (j := 0) rfl) h
theorem ix_l0 {c : Cn} {Q : Dt → Prop} {d0 : Dt} {r : List Dt} (h : Q d0) : R2J c (rIx c.K) (.lst (d0 :: r)) (.int 0) Q := ix_l (atI_lt (j := 0) rfl) h
theorem ix_t1 {c : Cn} {Q : Dt → Prop} {d0 d1 : Dt} {r : List Dt} (h : Q d1) : R2J c (rIx c.K) (.tup (d0 :: d1 :: r)) (.int 1) Q := ix_t (atI_lt (j := 1) rfl) h
theorem ix_l1 {c : Cn} {Q : Dt → Prop} {d0 d1 : Dt} {r : List Dt} (h : Q d1) : R2J c (rIx c.K) (.lst (d0 :: d1 :: r)) (.int 1) Q := ix_l (atI_lt (j := 1) rfl) h
theorem ix_t2 {c : Cn} {Q : Dt → Prop} {d0 d1 d2 : Dt} {r : List Dt} (h : Q d2) : R2J c (rIx c.K) (.tup (d0 :: d1 :: d2 :: r)) (.int 2) Q := ix_t (atI_lt (j := 2) rfl) h
theorem ix_l2 {c : Cn} {Q : Dt → Prop} {d0 d1 d2 : Dt} {r : List Dt} (h : Q d2) : R2J c (rIx c.K) (.lst (d0 :: d1 :: d2 :: r)) (.int 2) Q := ix_l (atI_lt (j := 2) rfl) h
theorem ix_t3 {c : Cn} {Q : Dt → Prop} {d0 d1 d2 d3 : Dt} {r : List Dt} (h : Q d3) : R2J c (rIx c.K) (.tup (d0 :: d1 :: d2 :: d3 :: r)) (.int 3) Q := ix_t (atI_lt (j := 3) rfl) h
theorem ix_l3 {c : Cn} {Q : Dt → Prop} {d0 d1 d2 d3 : Dt} {r : List Dt} (h : Q d3) : R2J c (rIx c.K) (.lst (d0 :: d1 :: d2 :: d3 :: r)) (.int 3) Q := ix_l (atI_lt (j := 3) rfl) h
theorem ix_t4 {c : Cn} {Q : Dt → Prop} {d0 d1 d2 d3 d4 : Dt} {r : List Dt} (h : Q d4) : R2J c (rIx c.K) (.tup (d0 :: d1 :: d2 :: d3 :: d4 :: r)) (.int 4) Q := ix_t (atI_lt (j := 4) rfl) h
theorem ix_l4 {c : Cn} {Q : Dt → Prop} {d0 d1 d2 d3 d4 : Dt} {r : List Dt} (h : Q d4) : R2J c (rIx c.K) (.lst (d0 :: d1 :: d2 :: d3 :: d4 :: r)) (.int 4) Q := ix_l (atI_lt (j := 4) rfl) h
theorem ix_t5 {c : Cn} {Q : Dt → Prop} {d0 d1 d2 d3 d4 d5 : Dt} {r : List Dt} (h : Q d5) : R2J c (rIx c.K) (.tup (d0 :: d1 :: d2 :: d3 :: d4 :: d5 :: r)) (.int 5) Q := ix_t (atI_lt (j := 5) rfl) h
theorem ix_l5 {c : Cn} {Q : Dt → Prop} {d0 d1 d2 d3 d4 d5 : Dt} {r : List Dt} (h : Q d5) : R2J c (rIx c.K) (.lst (d0 :: d1 :: d2 :: d3 :: d4 :: d5 :: r)) (.int 5) Q := ix_l (atI_lt (j := 5) rfl) h
theorem ix_h {c : Cn} {Q : Dt → Prop} {ns : List Int} (hn : ns ≠ []) (h : Q (.int (ns.headD 0))) : R2J c (rIx c.K) (.lst (ns.map Dt.int)) (.int 0) Q := ix_li (x := ns.headD 0) (by decide) (by cases ns with
  | nil => exact absurd rfl hn
  | cons x r => rfl) h
section
variable {c : Cn} {hid : Addr → Bool} {H0 H1 : Hp} {ρ : List Sl} {t : TT} {D : Ends} {ts tz : TS}
theorem q_cut (I : List Sl → Prop) (h : NJ c hid H0 (ts { D with nx := Nx c hid H0 I }) ρ) (hk : ∀ ρ', I ρ' → NJ c hid H0 (tz D) ρ') : NJ c hid H0 (Evl.tCut ts tz D) ρ := fun hd H σ s =>
  ⟨Nx c hid H0 I, h hd H σ s, fun σ' H' ⟨ρ', hd', hI, s'⟩ => hk ρ' hI hd' H' σ' s'⟩
theorem q_cut1 (ρ' : List Sl) (h : NJ c hid H0 (ts { D with nx := Nx c hid H0 fun r => r = ρ' }) ρ) (hk : NJ c hid H0 (tz D) ρ') : NJ c hid H0 (Evl.tCut ts tz D) ρ := q_cut (fun r => r = ρ') h fun _ e => by rw [e]; exact hk
end
end CC
namespace CC
open PySem PySem.Spec PyProof.Rows L2
open C8 (Cal pe_c pe_gc)
structure CalX (P : Program) (w : World) (K : PySem.W.Frag) (mg : Str → Option Value) (base : Heap) (k : Nat) (x : Str) (sp : Sp) : Prop where
  ex : ∃ (f : Addr) (fd : FuncData) (ps : List Str), FnOk P w K mg base (L2.CX P w) k f fd ps sp ∧ mg x = some (.ref f) ∧ PySem.W.keepIn K (.ref f) = true ∧ Binds K fd ps []
structure ExC (K : PySem.W.Frag) (mg : Str → Option Value) (x : Str) (C : Addr) : Prop where
  g : mg x = some (.ref C)
  q : PySem.W.excIn K C He.veBase "ValueError.__new__" = true
  k : PySem.W.keepIn K (.ref C) = true
  b : PySem.W.subIn K (.ref C) (.type "BaseException") = some true
  t : PySem.W.typeIn K (.ref C) = some (.type "type")
section
variable {P : Program} {w : World} {K : PySem.W.Frag} {mg : Str → Option Value} {base : Heap}
abbrev cxX (P : Program) (w : World) (K : PySem.W.Frag) (mg : Str → Option Value) (base : Heap) (N : List Str) (qual : Str) (st : Stmt) (f : Addr) (cdv : Value) (A : Around) (outer : List Env) (s : Shared) (H : Hp) (E : XK) : Cx := cxOf (L2.CX P w) P w K mg base N qual (defScope st) f cdv A outer s H E
end
section
variable {X : Cx} {k j : Nat} {x : Str} {sp : Sp} {e : Expr} {es : List Expr} {p pos : Pos} {t : TA} {W : WX}
theorem pe_cX (c : CalX X.prog X.w X.K X.mg X.base k x sp) (hr : Room j X.A) (hk : k ≤ j) (tk : Takes X W) (hg : Gl X x) (ha : PA X (e :: es) t)
    (hdb : (x == ("__debug__" : Str)) = false := by decide) (he : starEach (e :: es) X.env = (false, eval e X.env) :: starEach es X.env := by rfl) (hpl : (backTo pos (starEach es X.env)).any (·.1) = false := by rfl) :
    PE X (.Call (.Name x p) (e :: es) [] pos) (tCallS sp (WE W) t) := by
  obtain ⟨f, fd, ps, F, hm, kp, b⟩ := c.ex
  exact pe_callS F (hr.mono hk) hg hm kp b (fun σ => passAt tk σ) ha hdb he hpl
end
section
variable {c : Cn} {hid : Addr → Bool} {H0 H1 : Hp} {ρ : List Sl} {ta tb te : TE} {t : TT} {D : Ends} {ts tz : TS} {Q : Dt → Prop}
def KeyJ (Q : Key → Prop) : Dt → Prop
  | .int i => Q (.inl i)
  | .str x => Q (.inr x)
  | _ => False
theorem rp_key {K : PySem.W.Frag} {G : Hp} {v : V} {d : Dt} {Q : Key → Prop} (h : KeyJ Q d) (r : Rp K G v d) : ∃ k, v = kV k ∧ Q k := by
  cases r with
  | int i => exact ⟨.inl i, rfl, h⟩
  | str x => exact ⟨.inr x, rfl, h⟩
  | _ => exact h.elim
def valD {κ : Type} [DecidableEq κ] (kvs : List (κ × Dt)) (k : κ) : Option Dt := (kvs.find? fun kv => decide (kv.1 = k)).map (·.2)
def putD {κ : Type} [DecidableEq κ] (kvs : List (κ × Dt)) (k : κ) (d : Dt) : List (κ × Dt) :=
  if (kvs.any fun kv => decide (kv.1 = k)) = true then kvs.map (fun kv => if kv.1 = k then (kv.1, d) else kv) else kvs ++ [(k, d)]
theorem RpK.any {K : PySem.W.Frag} {G : Hp} {k : Key} : ∀ {vs : List (Key × V)} {ds : List (Key × Dt)}, RpK K G vs ds → (vs.any fun kv => decide (kv.1 = k)) = ds.any fun kv => decide (kv.1 = k)
  | _, _, .nil => rfl
  | _, _, .cons _ t => by simp only [List.any_cons, RpK.any t]
theorem RpK.map {K : PySem.W.Frag} {G : Hp} {k : Key} {v : V} {d : Dt} (r : Rp K G v d) : ∀ {vs : List (Key × V)} {ds : List (Key × Dt)}, RpK K G vs ds → RpK K G (vs.map fun kv => if kv.1 = k then (kv.1, v) else kv) (ds.map fun kv => if kv.1 = k then (kv.1, d) else kv)
  | _, _, .nil => .nil
  | _, _, .cons (k := k') h t => by
    rw [List.map_cons, List.map_cons]
    by_cases e : k' = k
    · simp only [e, if_pos]; exact .cons r (RpK.map r t)
    · simp only [e, if_false]; exact .cons h (RpK.map r t)
theorem RpK.append {K : PySem.W.Frag} {G : Hp} : ∀ {vs vs' : List (Key × V)} {ds ds' : List (Key × Dt)}, RpK K G vs ds → RpK K G vs' ds' → RpK K G (vs ++ vs') (ds ++ ds')
  | _, _, _, _, .nil, s => s
  | _, _, _, _, .cons h t, s => .cons h (RpK.append t s)
theorem RpK.len {K : PySem.W.Frag} {G : Hp} : ∀ {vs : List (Key × V)} {ds : List (Key × Dt)}, RpK K G vs ds → vs.length = ds.length
  | _, _, .nil => rfl
  | _, _, .cons _ t => congrArg (· + 1) (RpK.len t)
theorem RpK.put {K : PySem.W.Frag} {G : Hp} {k : Key} {v : V} {d : Dt} (r : Rp K G v d) {vs : List (Key × V)} {ds : List (Key × Dt)} (h : RpK K G vs ds) : RpK K G (putK vs k v) (putD ds k d) := by
  unfold putK putD
  rw [h.any]
  split
  · exact h.map r
  · exact h.append (.cons r .nil)
theorem RpK.val {K : PySem.W.Frag} {G : Hp} {k : Key} : ∀ {vs : List (Key × V)} {ds : List (Key × Dt)}, RpK K G vs ds → (∀ d, valD ds k = some d → ∃ v, valV vs k = some v ∧ Rp K G v d) ∧ (valD ds k = none → valV vs k = none)
  | _, _, .nil => ⟨fun d h => (nomatch h), fun _ => rfl⟩
  | _, _, .cons (k := k') (v := v) (d := d) (vs := vs) (ds := ds) h t => by
    obtain ⟨i1, i2⟩ := RpK.val (k := k) t
    by_cases e : k' = k
    · have e1 : valD ((k', d) :: ds) k = some d := by unfold valD; rw [List.find?_cons_of_pos (by simpa using e)]; rfl
      refine ⟨fun d' hd => ⟨v, valV_pos e, ?_⟩, fun hn => by rw [e1] at hn; cases hn⟩
      rw [e1] at hd
      cases hd
      exact h
    · have e1 : valD ((k', d) :: ds) k = valD ds k := by unfold valD; rw [List.find?_cons_of_neg (by simpa using e)]
      rw [e1, valV_neg (p := (k', v)) e]
      exact ⟨i1, i2⟩
def DkJ (Q : List (Key × Dt) → Prop) : Dt → Prop
  | .dk b => Q b
  | _ => False
theorem dkJ {Q : List (Key × Dt) → Prop} {i : List (Key × Dt)} (h : Q i) : DkJ Q (.dk i) := h
theorem keyJs {Q : Key → Prop} {x : Str} (h : Q (.inr x)) : KeyJ Q (.str x) := h
theorem ev_dget {td ty : TE} (h : EV c td ρ (DkJ fun ds => EV c ty ρ (KeyJ fun k => ∃ d, valD ds k = some d ∧ Q d))) : EV c (tDGet td ty) ρ Q := fun hd H σ v Qh q => h hd H σ v _ fun d x H1 h1 e1 b1 r1 => by
  cases d with
  | dk ds =>
    refine h1 hd H1 σ (v.go e1 b1) _ fun d2 y H2 h2 e2 b2 r2 => ?_
    cases (r1.mono (e2.sees v.muh)) with
    | dk ha ra =>
      rename_i a kvs
      obtain ⟨k, rfl, d, hd1, hq⟩ := rp_key h2 r2
      obtain ⟨w', hw, rw'⟩ := (ra.val (k := k)).1 d hd1
      exact ⟨a, w', rfl, .inl ⟨kvs, k, sees_rd sees_le rfl ha, rfl, hw.symm⟩, q d w' H2 hq (e1.trans e2) b2 rw'⟩
  | _ => exact h1.elim
theorem val_some {K : PySem.W.Frag} {G : Hp} {k : Key} {vs : List (Key × V)} {ds : List (Key × Dt)} (h : RpK K G vs ds) : (valV vs k).isSome = (valD ds k).isSome := by
  cases e : valD ds k with
  | none => rw [(h.val (k := k)).2 e]; rfl
  | some d =>
    obtain ⟨v, hv, _⟩ := (h.val (k := k)).1 d e
    rw [hv]; rfl
theorem ev_dnotin {td ty : TE} (h : EV c ty ρ (KeyJ fun k => EV c td ρ (DkJ fun ds => Q (.bl (!(valD ds k).isSome))))) : EV c (tDNotIn ty td) ρ Q := fun hd H σ v Qh q => h hd H σ v _ fun d x H1 h1 e1 b1 r1 => by
  obtain ⟨k, rfl, h2⟩ := rp_key h1 r1
  refine h2 hd H1 σ (v.go e1 b1) _ fun d2 y H2 h3 e2 b2 r2 => ?_
  cases d2 with
  | dk ds =>
    cases r2 with
    | dk ha ra => exact ⟨_, _, rfl, .inl ⟨_, k, sees_rd sees_le rfl ha, rfl, rfl⟩, by rw [val_some ra]; exact q _ _ H2 h3 (e1.trans e2) b2 (.bl _)⟩
  | _ => exact h3.elim
end
end CC
namespace CC
open PySem PySem.Spec PyProof.Rows L2
end CC
namespace CC
open PySem PySem.Spec PyProof.Rows L2
open C8 (Cal pe_c pe_gc)
def Bx (b l : Addr) (H : Hp) : Prop := ∃ (s : Int) (ns : List Int), H b = some (.lst [.ref l, .int s]) ∧ H l = some (.lst (ns.map V.int))
def muB (b l : Addr) : Addr → Bool := fun a => decide (a = b) || decide (a = l)
theorem muB_b {b l : Addr} : muB b l b = true := by unfold muB; rw [decide_eq_true rfl, Bool.true_or]
theorem muB_l {b l : Addr} : muB b l l = true := by unfold muB; rw [decide_eq_true rfl, Bool.or_true]
theorem muB_of {b l a : Addr} (h : muB b l a = true) : a = b ∨ a = l := by
  unfold muB at h
  rcases Bool.or_eq_true_iff.mp h with h | h
  · exact .inl (of_decide_eq_true h)
  · exact .inr (of_decide_eq_true h)
abbrev cnB (K : PySem.W.Frag) (b l : Addr) : Cn := ⟨K, muB b l, fun _ H => Bx b l H, fun _ _ H H' _ h ⟨s, ns, h1, h2⟩ => ⟨s, ns, h b _ (.inl muB_b) h1, h l _ (.inl muB_l) h2⟩⟩
def spB (K : PySem.W.Frag) (S : List Dt → (Dt → Prop) → Prop) : Sp := fun vs H Qh _ => ∃ b l ws hid ds Q, vs = .ref b :: ws ∧ b ≠ l ∧ Bx b l H ∧ hid b = true ∧ hid l = true ∧ (∀ a, hid a = true → H a ≠ none) ∧ RpAll K (Hm hid H) ws ds ∧ S ds Q ∧
  ∀ d v H', Q d → Ex (muB b l) H H' → Bx b l H' → Rp K (Hm hid H') v d → Qh v H'
def spBN (K : PySem.W.Frag) (S : List Dt → (List Dt → Prop) → Prop) : Sp := fun vs H Qh _ => ∃ b l ws hid ds Q, vs = .ref b :: ws ∧ b ≠ l ∧ Bx b l H ∧ hid b = true ∧ hid l = true ∧ (∀ a, hid a = true → H a ≠ none) ∧ RpAll K (Hm hid H) ws ds ∧ S ds Q ∧
  ∀ es o zs H', Q es → Ex (muB b l) H H' → Bx b l H' → H o = none → H' o = some (.lst zs) → RpAll K (Hm (hide hid o) H') zs es → Qh (.ref o) H'
section
variable {K : PySem.W.Frag} {b l : Addr} {ρ : List Sl} {Q : Dt → Prop} {QL : List Dt → Prop}
theorem rw_get {c : Cn} {hd : Addr → Bool} {H : Hp} {σ : L2.St} (s : SlAll c hd H σ ρ) {i : Nat} {u : V} (hi : ρ[i]? = some (.rw u)) : σ[i]? = some (some u) := by
  obtain ⟨x, g1, g2⟩ := s.get hi
  cases x with
  | none => exact g2.elim
  | some v => rw [g1, show v = u from g2]
theorem ev_callB {S : List Dt → (Dt → Prop) → Prop} {E : XK} {i : Nat} {ta : TA} (hne : b ≠ l) (hi : ρ[i]? = some (.rw (.ref b))) (h : EVA (cnB K b l) ta ρ fun ds => S ds Q) : EV (cnB K b l) (tCall (spB K S) [] E (tCons (tVar i) ta)) ρ Q := fun hd H σ v Qh q =>
  ⟨.ref b, rw_get v.slots hi, h hd H σ v _ fun ds vs H1 h1 e1 b1 r1 => by
    show spB K S ((.ref b :: vs) ++ []) H1 Qh E
    rw [List.append_nil]
    exact ⟨b, l, vs, hd, ds, Q, rfl, hne, b1, v.muh b muB_b, v.muh l muB_l, fun a h => e1.dom a (v.dom a h), r1, h1, fun d z H2 hq e2 b2 r2 => q d z H2 hq (e1.trans e2) b2 r2⟩⟩
end
theorem sd_box {K : PySem.W.Frag} {b l : Addr} {hid : Addr → Bool} {H : Hp} {N : List Str} {ws : List V} {ds : List Dt} (hne : b ≠ l) (bx : Bx b l H) (hb : hid b = true) (hl : hid l = true) (dom : ∀ a, hid a = true → H a ≠ none) (r : RpAll K (Hm hid H) ws ds) (hN : N ≠ []) :
    SD (cnB K b l) hid hid H H (L2.start N (.ref b :: ws)) (.rw (.ref b) :: startS N.tail ds) := by
  have hlen := r.length
  have e : L2.start N (.ref b :: ws) = some (.ref b) :: L2.start N.tail ws := by
    unfold L2.start
    rw [List.map_cons, List.cons_append, List.length_cons, List.length_tail]
    congr 3
    have := List.length_pos_iff.mpr hN
    omega
  have sd := sd_start (c := cnB K b l) (N := N.tail) dom (fun a h => by
    rcases muB_of h with rfl | rfl
    · exact hb
    · exact hl) bx r
  rw [e]
  have key : ∀ i o, ¬ ownAt (some (.ref b) :: L2.start N.tail ws) (.rw (.ref b) :: startS N.tail ds) i o := fun i o h => by
    obtain ⟨h1, s, h2, h3⟩ := h
    cases i with
    | zero => cases h2; cases h3
    | succ i => rw [owns_im (show (startS N.tail ds)[i]? = some s from h2)] at h3; cases h3
  exact ⟨⟨sd.dom, sd.muh, bx, .cons rfl sd.slots⟩, sd.sub, sd.ext, sd.new, fun i j o h1 => (key i o h1).elim, fun i o h1 => (key i o h1).elim⟩
section
variable {P : Program} {w : World} {K : PySem.W.Frag} {mg : Str → Option Value} {base : Heap}
theorem cal_box {x : Str} {st : Stmt} {N ps : List Str} {k : Nat} {S : List Dt → (Dt → Prop) → Prop} (F : FnAt K mg x st ps) (Sc : FnScope N ps (defScope st)) (hN : N ≠ []) (len : ∀ ds Q, S ds Q → ds.length + 1 = ps.length)
    (hb : ∀ (f : Addr) (cdv : Value) (A : Around) (outer : List Env) (s : Shared) (H : Hp) (E : XK), Room k (A.deeper (envOfC x (defScope st) s.heap.objs.size f cdv)) →
      ∃ t, PSs (cxD P w K mg base N x st f cdv A outer s H E) (defBody st) t ∧ ∀ ds Q, S ds Q → ∀ b l, b ≠ l → ∀ hid H0 (D : Ends), (∀ a, hid a = true → H0 a ≠ none) → RetOk (cnB K b l) hid H0 Q D → NJ (cnB K b l) hid H0 (t D) (.rw (.ref b) :: startS N.tail ds)) :
    Cal P w K mg base (k + 1) x (spB K S) [] := by
  obtain ⟨f, fd, hm, F, bi⟩ := F
  refine ⟨⟨f, fd, ps, [], F.ok Sc (fun vs H Q E h => ?_) (fun cdv A outer s H vs Q E hr h => ?_), hm, F.kp, bi, .nil⟩⟩
  · obtain ⟨b, l, ws, hid, ds, Q', rfl, _, _, _, _, _, r, hS, _⟩ := h
    rw [List.length_cons, r.length]
    exact len ds Q' hS
  · obtain ⟨b, l, ws, hid, ds, Q', rfl, hne, bx, h1, h2, dom, r, hS, q⟩ := h
    obtain ⟨t, ht, hn⟩ := hb f cdv A outer s H E hr
    exact ⟨t, ht, hn ds Q' hS b l hne hid H { nx := fun _ H' => Q .non H', rt := Q } dom ⟨fun d hd v H' e bb r => q d v H' hd e bb r, fun hd ρ hd' H' σ sd => q .non .non H' hd sd.ext sd.inv .non⟩ hid H _ (sd_box hne bx h1 h2 dom r hN)⟩
theorem cal_boxN {x : Str} {st : Stmt} {N ps : List Str} {k : Nat} {S : List Dt → (List Dt → Prop) → Prop} (F : FnAt K mg x st ps) (Sc : FnScope N ps (defScope st)) (hN : N ≠ []) (len : ∀ ds Q, S ds Q → ds.length + 1 = ps.length)
    (hb : ∀ (f : Addr) (cdv : Value) (A : Around) (outer : List Env) (s : Shared) (H : Hp) (E : XK), Room k (A.deeper (envOfC x (defScope st) s.heap.objs.size f cdv)) →
      ∃ t, PSs (cxD P w K mg base N x st f cdv A outer s H E) (defBody st) t ∧ ∀ ds Q, S ds Q → ∀ b l, b ≠ l → ∀ hid H0 (D : Ends), (∀ a, hid a = true → H0 a ≠ none) → RetN (cnB K b l) hid H0 Q D → NJ (cnB K b l) hid H0 (t D) (.rw (.ref b) :: startS N.tail ds)) :
    Cal P w K mg base (k + 1) x (spBN K S) [] := by
  obtain ⟨f, fd, hm, F, bi⟩ := F
  refine ⟨⟨f, fd, ps, [], F.ok Sc (fun vs H Q E h => ?_) (fun cdv A outer s H vs Q E hr h => ?_), hm, F.kp, bi, .nil⟩⟩
  · obtain ⟨b, l, ws, hid, ds, Q', rfl, _, _, _, _, _, r, hS, _⟩ := h
    rw [List.length_cons, r.length]
    exact len ds Q' hS
  · obtain ⟨b, l, ws, hid, ds, Q', rfl, hne, bx, h1, h2, dom, r, hS, q⟩ := h
    obtain ⟨t, ht, hn⟩ := hb f cdv A outer s H E hr
    exact ⟨t, ht, hn ds Q' hS b l hne hid H { nx := fun _ H' => Q .non H', rt := Q } dom ⟨fun d hd o vs H' e bb => q d o vs H' hd e bb⟩ hid H _ (sd_box hne bx h1 h2 dom r hN)⟩
end
end CC
namespace CC
open PySem PySem.Spec PyProof.Rows L2
theorem notin_s {c : Cn} {Q : Dt → Prop} {x : Str} {xs : List Str} (h : Q (.bl (!inV (.str x) (xs.map V.str)))) : R2J c (rNotInU c.K) (.str x) (.tup (xs.map Dt.str)) Q := fun hd H u y dom mh bb rx ry Qh q => by
  cases rx
  cases ry with
  | tup ha ra =>
    have e := ra.strs
    subst e
    refine .inl ⟨_, _, rfl, .inr (sqt_hm ha), rfl, ?_, kv_here q bb h (.bl _)⟩
    rw [List.all_eq_true]
    intro z hz
    obtain ⟨n, _, rfl⟩ := List.mem_map.mp hz
    rfl
theorem in_s {c : Cn} {Q : Dt → Prop} {x : Str} {xs : List Str} (h : Q (.bl (inV (.str x) (xs.map V.str)))) : R2J c (rInU c.K) (.str x) (.tup (xs.map Dt.str)) Q := fun hd H u y dom mh bb rx ry Qh q => by
  cases rx
  cases ry with
  | tup ha ra =>
    have e := ra.strs
    subst e
    refine .inl ⟨_, _, rfl, .inr (sqt_hm ha), rfl, ?_, kv_here q bb h (.bl _)⟩
    rw [List.all_eq_true]
    intro z hz
    obtain ⟨n, _, rfl⟩ := List.mem_map.mp hz
    rfl
end CC
namespace CC
open PySem PySem.Spec PyProof.Rows L2
open C8 (Cal pe_c pe_gc)
end CC
namespace CC
open PySem PySem.Spec PyProof.Rows L2
open PySem.W (AlikeAll minD dataLt alike alikeAll alike_unique reads_keeps min_list_data dataLt_int dataLt_tuple dataLt_list dataLt_all_yes dataLt_all_no)
end CC
namespace CC
open PySem PySem.Spec PyProof.Rows L2
open C8 (Cal pe_c pe_gc)
open PySem.W (AlikeAll minD dataLt alike alikeAll dataLt_int dataLt_tuple dataLt_list dataLt_all_yes dataLt_all_no)
theorem RpT.any {K : PySem.W.Frag} {G : Hp} {k : List Key} : ∀ {vs : List (List Key × V)} {ds : List (List Key × Dt)}, RpT K G vs ds → (vs.any fun kv => decide (kv.1 = k)) = ds.any fun kv => decide (kv.1 = k)
  | _, _, .nil => rfl
  | _, _, .cons _ t => by simp only [List.any_cons, RpT.any t]
theorem RpT.map {K : PySem.W.Frag} {G : Hp} {k : List Key} {v : V} {d : Dt} (r : Rp K G v d) : ∀ {vs : List (List Key × V)} {ds : List (List Key × Dt)}, RpT K G vs ds → RpT K G (vs.map fun kv => if kv.1 = k then (kv.1, v) else kv) (ds.map fun kv => if kv.1 = k then (kv.1, d) else kv)
  | _, _, .nil => .nil
  | _, _, .cons (k := k') h t => by
    rw [List.map_cons, List.map_cons]
    by_cases e : k' = k
    · simp only [e, if_pos]; exact .cons r (RpT.map r t)
    · simp only [e, if_false]; exact .cons h (RpT.map r t)
theorem RpT.append {K : PySem.W.Frag} {G : Hp} : ∀ {vs vs' : List (List Key × V)} {ds ds' : List (List Key × Dt)}, RpT K G vs ds → RpT K G vs' ds' → RpT K G (vs ++ vs') (ds ++ ds')
  | _, _, _, _, .nil, s => s
  | _, _, _, _, .cons h t, s => .cons h (RpT.append t s)
theorem RpT.len {K : PySem.W.Frag} {G : Hp} : ∀ {vs : List (List Key × V)} {ds : List (List Key × Dt)}, RpT K G vs ds → vs.length = ds.length
  | _, _, .nil => rfl
  | _, _, .cons _ t => congrArg (· + 1) (RpT.len t)
theorem RpT.put {K : PySem.W.Frag} {G : Hp} {k : List Key} {v : V} {d : Dt} (r : Rp K G v d) {vs : List (List Key × V)} {ds : List (List Key × Dt)} (h : RpT K G vs ds) : RpT K G (putK vs k v) (putD ds k d) := by
  unfold putK putD
  rw [h.any]
  split
  · exact h.map r
  · exact h.append (.cons r .nil)
theorem RpT.val {K : PySem.W.Frag} {G : Hp} {k : List Key} : ∀ {vs : List (List Key × V)} {ds : List (List Key × Dt)}, RpT K G vs ds → ∀ d, valD ds k = some d → ∃ v, valV vs k = some v ∧ Rp K G v d
  | _, _, .nil, d, h => nomatch h
  | _, _, .cons (k := k') (v := v) (d := d) (vs := vs) (ds := ds) h t, d', hd => by
    by_cases e : k' = k
    · have e1 : valD ((k', d) :: ds) k = some d := by unfold valD; rw [List.find?_cons_of_pos (by simpa using e)]; rfl
      rw [e1] at hd
      cases hd
      exact ⟨v, valV_pos e, h⟩
    · have e1 : valD ((k', d) :: ds) k = valD ds k := by unfold valD; rw [List.find?_cons_of_neg (by simpa using e)]
      rw [e1] at hd
      rw [valV_neg (p := (k', v)) e]
      exact RpT.val t d' hd
end CC
namespace CC
open PySem PySem.Spec PyProof.Rows L2
open C8 (Cal pe_c pe_gc)
open PySem.W (AlikeAll minD dataLt alike alikeAll dataLt_int dataLt_tuple dataLt_list dataLt_all_yes dataLt_all_no)
theorem RpK.keys {K : PySem.W.Frag} {G : Hp} : ∀ {vs : List (Key × V)} {ds : List (Key × Dt)}, RpK K G vs ds → vs.map (·.1) = ds.map (·.1)
  | _, _, .nil => rfl
  | _, _, .cons _ t => by rw [List.map_cons, List.map_cons, RpK.keys t]
abbrev Tri : Type := Int × Int × List Int
end CC
namespace CC
open PySem PySem.Spec PyProof.Rows L2
end CC
namespace CC
open PySem PySem.Spec PyProof.Rows L2
open C8 (Cal pe_c pe_gc)
theorem nj_at {c : Cn} {hid hd : Addr → Bool} {H0 H : Hp} {σ : L2.St} {ρ : List Sl} {N : L2.St → Hp → Prop} (k : NJ c hid H0 N ρ) (s : SD c hid hd H0 H σ ρ) : N σ H := k hd H σ s
theorem sd_begun {K : PySem.W.Frag} {a b l : Addr} {H : Hp} (n : Nat) (bx : Bx b l H) : SD (cnB K b l) (muB b l) (muB b l) H H (some (.ref a) :: some (.ref b) :: List.replicate n none) (.rw (.ref a) :: .rw (.ref b) :: List.replicate n .un) := by
  have ho : ∀ i o, ¬ ownAt (some (.ref a) :: some (.ref b) :: List.replicate n none) (.rw (.ref a) :: .rw (.ref b) :: List.replicate n .un) i o := fun i o h => by
    obtain ⟨_, s, h2, h3⟩ := h
    match i, h2 with
    | 0, h2 => cases h2; cases h3
    | 1, h2 => cases h2; cases h3
    | i + 2, h2 =>
      have := List.mem_of_getElem? (l := List.replicate n Sl.un) (i := i) h2
      rw [List.eq_of_mem_replicate this] at h3
      cases h3
  refine ⟨⟨fun x h => ?_, fun x h => h, bx, .cons rfl (.cons rfl ?_)⟩, fun x h => h, .refl, fun x h1 h2 => ?_, fun i j o h => (ho i o h).elim, fun i o h => (ho i o h).elim⟩
  · obtain ⟨s, ns, h1, h2⟩ := bx
    rcases muB_of h with rfl | rfl
    · rw [h1]; exact fun z => nomatch z
    · rw [h2]; exact fun z => nomatch z
  · induction n with
    | zero => exact .nil
    | succ n ih => exact .cons slok_un (ih fun i o h => by
        obtain ⟨h1, s, h2, h3⟩ := h
        match i, h2 with
        | 0, h2 => cases h2; cases h3
        | 1, h2 => cases h2; cases h3
        | i + 2, h2 =>
          have := List.mem_of_getElem? (l := List.replicate n Sl.un) (i := i) h2
          rw [List.eq_of_mem_replicate this] at h3
          cases h3)
  · rw [h1] at h2; cases h2
theorem k_bb : kitB "bool" "bool" = some true := by decide +kernel
theorem k_ib : kitB "int" "bool" = some false := by decide +kernel
theorem k_sb : kitB "str" "bool" = some false := by decide +kernel
theorem k_tb : kitB "tuple" "bool" = some false := by decide +kernel
theorem k_lb : kitB "list" "bool" = some false := by decide +kernel
theorem k_ii : kitB "int" "int" = some true := by decide +kernel
theorem k_bi : kitB "bool" "int" = some true := by decide +kernel
theorem k_si : kitB "str" "int" = some false := by decide +kernel
theorem k_ti : kitB "tuple" "int" = some false := by decide +kernel
theorem k_li : kitB "list" "int" = some false := by decide +kernel
theorem k_ss : kitB "str" "str" = some true := by decide +kernel
theorem k_is : kitB "int" "str" = some false := by decide +kernel
theorem k_ts : kitB "tuple" "str" = some false := by decide +kernel
theorem k_ls : kitB "list" "str" = some false := by decide +kernel
theorem k_tt : kitB "tuple" "tuple" = some true := by decide +kernel
theorem k_lt : kitB "list" "tuple" = some false := by decide +kernel
theorem k_it : kitB "int" "tuple" = some false := by decide +kernel
theorem k_st : kitB "str" "tuple" = some false := by decide +kernel
theorem k_tl : kitB "tuple" "list" = some false := by decide +kernel
theorem k_ll : kitB "list" "list" = some true := by decide +kernel
theorem k_ni : kitB "NoneType" "int" = some false := by decide +kernel
theorem k_ns : kitB "NoneType" "str" = some false := by decide +kernel
inductive Al : Nat → Dt → Prop
  | non {n : Nat} : Al n .non
  | bl {n : Nat} (b : Bool) : Al n (.bl b)
  | int {n : Nat} (i : Int) : Al n (.int i)
  | str {n : Nat} (x : Str) : Al n (.str x)
  | lst {n : Nat} {ds : List Dt} (h : ∀ d ∈ ds, Al n d) (hl : ds.length ≤ 100000) : Al (n + 1) (.lst ds)
  | tup {n : Nat} {ds : List Dt} (h : ∀ d ∈ ds, Al n d) (hl : ds.length ≤ 100000) : Al (n + 1) (.tup ds)
theorem Al.up {n : Nat} {d : Dt} (h : Al n d) : Al (n + 1) d := by
  induction h with
  | non => exact .non
  | bl b => exact .bl b
  | int i => exact .int i
  | str x => exact .str x
  | lst h hl ih => exact .lst ih hl
  | tup h hl ih => exact .tup ih hl
theorem RgC.up {n c : Int} (h0 : 0 ≤ n) (h1 : n < 1000000) (hc : 1 ≤ c) (hc2 : c < 1000000) : RgC 0 n c ((n + c - 1) / c).toNat := by
  have hq0 : 0 ≤ (n + c - 1) / c := Int.ediv_nonneg (by omega) (by omega)
  have hq1 : (n + c - 1) / c ≤ n := by
    rcases Int.lt_or_le 0 n with hn | hn
    · have h2 : n + c - 1 < (n + 1) * c := by
        have : n * 1 ≤ n * c := Int.mul_le_mul_of_nonneg_left hc h0
        have e : (n + 1) * c = n * c + c := by rw [Int.add_mul, Int.one_mul]
        omega
      have h3 : (n + c - 1) / c < n + 1 := Int.ediv_lt_of_lt_mul (by omega) h2
      omega
    · have : n = 0 := by omega
      subst this
      have : (0 + c - 1) / c = 0 := Int.ediv_eq_zero_of_lt (by omega) (by omega)
      omega
  have hs : Builtin.Range.rangeSize 0 n c = (n + c - 1) / c := PyProof.Rows.rangeSize_pos hc h0
  refine ⟨by omega, by omega, ?_, by rw [hs]; omega⟩
  unfold Builtin.Range.small
  rw [hs]
  have hm1 : (n + c - 1) / c * c ≤ n + c - 1 := Int.ediv_mul_le _ (by omega)
  simp only [Builtin.Range.rangeFitsLong, Bool.and_eq_true, Bool.or_eq_true, decide_eq_true_eq, beq_iff_eq, show c > 0 by omega, if_true]
  omega
end CC
namespace CC
open PySem PySem.Spec PyProof.Rows L2
theorem eq_nil {c : Cn} {Q : Dt → Prop} {ds : List Dt} {n : Nat} (s : ∀ d ∈ ds, Sh n d) (hn : n < 64) (h : Q (.bl ds.isEmpty)) : R2J c (rEqU c.K) (.lst ds) (.lst []) Q := by
  refine eq_d (.lst s) (.lst (n := 0) fun d hd => by cases hd) hn (by decide) ?_
  cases ds <;> exact h
theorem ne_nil {c : Cn} {Q : Dt → Prop} {ds : List Dt} {n : Nat} (s : ∀ d ∈ ds, Sh n d) (hn : n < 64) (h : Q (.bl (!ds.isEmpty))) : R2J c (rNeU c.K) (.lst ds) (.lst []) Q := by
  refine ne_d (.lst s) (.lst (n := 0) fun d hd => by cases hd) hn (by decide) ?_
  cases ds <;> exact h
theorem en_fm {c : Cn} {ρ : List Sl} {wi : TI} {g : TG} {t : TT} {te : TE} {vs : List Nat} {Q : List Dt → Prop} (h : IJ c wi ρ fun its => its.length ≤ 100000 ∧ ∃ (p : Dt → Bool) (f : Dt → Dt), (∀ d ∈ its, TGE c g d (wipeS ρ vs) vs fun ρ' => EVT c t ρ' fun b => b = p d ∧ (p d = true → EV c te ρ' fun y => y = f d)) ∧ Q ((its.filter p).map f)) :
    EN c (tLc wi g t te vs) ρ Q := en_lc fun hd H σ v R hR => h hd H σ v R fun its J H' hq => hR its J H' (by
  obtain ⟨hl, p, f, hs, hQ⟩ := hq
  refine ⟨hl, fun i acc => acc = ((its.take i).filter p).map f, rfl, fun i d acc hi ha hd H σ w N sv r k => hs d (List.mem_of_getElem? hi) hd H σ w N sv r fun σ2 ρ2 hk => k σ2 ρ2 (hk.imp ?_), fun acc ha => ?_⟩
  · rintro b ⟨rfl, hb⟩
    subst ha
    have e : its.take (i + 1) = its.take i ++ [d] := by rw [List.take_add_one, hi]; rfl
    refine ⟨fun hp => (hb hp).imp ?_, fun hp => ?_⟩
    · rintro y rfl
      show _ = ((its.take (i + 1)).filter p).map f
      rw [e, List.filter_append, List.map_append, List.filter_cons_of_pos hp]; rfl
    · show _ = ((its.take (i + 1)).filter p).map f
      rw [e, List.filter_append, List.map_append, List.filter_cons_of_neg (by rw [hp]; exact Bool.false_ne_true)]
      exact (List.append_nil _).symm
  · subst ha
    rw [List.take_length]
    exact hQ)
end CC
namespace CC
open PySem PySem.Spec PyProof.Rows L2
open PySem.W (AlikeAll minD dataLt alike alikeAll dataLt_int dataLt_tuple dataLt_list dataLt_all_yes dataLt_all_no keyToksAll keyToks)
def lexI : List Int → List Int → Bool
  | [], [] => false
  | [], _ :: _ => true
  | _ :: _, [] => false
  | x :: a, y :: b => if x = y then lexI a b else decide (x < y)
def tl (a b : Tri) : Prop := a.1 < b.1 ∨ (a.1 = b.1 ∧ (a.2.1 < b.2.1 ∨ (a.2.1 = b.2.1 ∧ lexI a.2.2 b.2.2 = true)))
end CC
namespace CC
open PySem PySem.Spec PyProof.Rows L2
section
variable {X : Cx}
def rCntV (K : PySem.W.Frag) : V → List V → Hp → VK → Prop := fun x xs H Q => ∃ (p : Addr) (ys : List V) (y : V), x = .ref p ∧ xs = [y] ∧ SqL K H p ys ∧ flatV y = true ∧ ys.all flatV = true ∧ Q (.int ((ys.countP fun z => eqV z y : Nat) : Int)) H
theorem cntV {y : V} : ∀ {ys : List V} {us : List Value}, Vals ys us → ys.all flatV = true → us.countP (eqU y) = ys.countP fun z => eqV z y
  | _, _, .nil, _ => rfl
  | z :: ys, u :: us, .cons r t, f => by
    rw [List.all_cons, Bool.and_eq_true] at f
    rw [List.countP_cons, List.countP_cons, cntV t f.2, eqU_of r f.1]
theorem mt_countV : MtR X "list.count" (rCntV X.K) := by
  intro pins s σ H x xs v us Q I rx rxs h
  obtain ⟨p, ys, y, rfl, rfl, hs, fy, fys, q⟩ := h
  cases rx
  obtain ⟨u, rfl, ru⟩ := rxs.one
  obtain ⟨its, rv, ⟨⟨cls, dd, data, sl⟩, n, ho, hc, hdn, hd⟩, hlen⟩ := I.list hs
  simp only at hc hd
  subst hc hd
  refine call_meets PySem.F.slot_list_count ⟨_, ho, rfl⟩ PySem.F.entry_list_count (PySem.F.args_list_count_2 _ _) (SeqAt.list_countAt p its.toArray n dd sl u (eqU y)) ⟨ho, fun u' hu' => mem_eqAt ru fy rv fys u' (by simpa using hu'), ?_⟩
  refine ⟨.int ((ys.countP fun z => eqV z y : Nat) : Int), H, I.tok _, ⟨s.toks, ?_⟩, q⟩
  have e : its.toArray.toList.countP (eqU y) = ys.countP fun z => eqV z y := cntV rv fys
  rw [e]
end
abbrev SpE : Type := Addr × Obj → Sp
structure FnE (P : Program) (w : World) (K : PySem.W.Frag) (mg : Str → Option Value) (base : Heap) (k : Nat) (f : Addr) (fd : FuncData) (ps : List Str) (sp : SpE) : Prop where
  len : ∀ p vs H Q E, sp p vs H Q E → vs.length = ps.length
  run : ∀ (A : Around) (outer : List Env) (s : Shared) (H : Hp) (args : Args) (us : List Value) (vs : List V) (Q : VK) (E : XK) (p : Addr × Obj), L2H.RoomH k A → L2H.PinOk outer H s p → Env0 P w K mg base A outer s H →
    BindsTo s fd args (ps.zip us) → Vals vs us → sp p vs H Q E → codeAny (model P w) A (.call (.ref f) args) (CR CX0 outer P w H s Q E) s
abbrev cxE (P : Program) (w : World) (K : PySem.W.Frag) (mg : Str → Option Value) (base : Heap) (N : List Str) (qual : Str) (st : Stmt) (f : Addr) (cdv : Value) (A : Around) (outer : List Env) (s : Shared) (H : Hp) (E : XK) (p : Addr × Obj) : Cx := L2H.cxH CX0 P w K mg base N qual (defScope st) f cdv A outer s H E p
theorem fn_ofE {P : Program} {w : World} {K : PySem.W.Frag} {mg : Str → Option Value} {base : Heap} {k : Nat} {x qual : Str} {st : Stmt} {f : Addr} {fd : FuncData} {N ps : List Str} {sp : SpE} (F : Fun K x qual st f fd) (S : FnScope N ps (defScope st))
    (len : ∀ p vs H Q E, sp p vs H Q E → vs.length = ps.length)
    (hbody : ∀ (cdv : Value) (A : Around) (outer : List Env) (s : Shared) (H : Hp) (vs : List V) (Q : VK) (E : XK) (p : Addr × Obj), L2H.RoomH k (A.deeper (envOfC qual (defScope st) s.heap.objs.size f cdv)) → sp p vs H Q E →
      ∃ t, PSs (cxE P w K mg base N qual st f cdv A outer s H E p) (defBody st) t ∧ t { nx := fun _ H' => Q .non H', rt := Q } (L2.start N vs) H) :
    FnE P w K mg base (k + 1) f fd ps sp := by
  obtain ⟨⟨oc, od, kV, doc, pm, an, cdv, ct, osl, rfl, lk, hcd⟩, kp⟩ := F
  refine ⟨len, fun A outer s H args us vs Q E p hr hpin e0 hb r hsp => ?_⟩
  have hl : vs.length = ps.length := len _ _ _ _ _ hsp
  have kin : K.In s.heap := e0.mod.kin.keeps fun b o e => (e0.bs b o e).1
  have nol : s.heap.NoLimit := e0.mod.nolimit.keeps fun b o e => (e0.bs b o e).1
  refine codeAny_call_function hr.depth (kin _ _ lk) rfl S.co S.gen rfl (PySem.W.codeRec_of kin hcd) (hb _ _ _ _ ?_)
  refine wpAny_newFunctionEnv_cells S.kind (fun y hy => ?_) fun env he s1 x => ?_
  · obtain ⟨n, v⟩ := y
    rcases S.par n (List.of_mem_zip hy).1 with q | q
    · exact .inl q
    · exact .inr ⟨q, PySem.W.cellsFrom_some _ _ _ (.inl q)⟩
  · subst he
    refine ⟨nol.keeps x.toInCall.keep, codeAny_func ?_⟩
    obtain ⟨t, ht, hq⟩ := hbody cdv A outer s H vs Q E p (hr.deeper _) hsp
    have inv := L2H.inv_startH (CX := CX0) (P := P) (w := w) (K := K) (mg := mg) (base := base) (E := E) S hpin e0 hl r x
    refine wpAny_mono (ht.run [] s1 (L2.start N vs) H _ inv hq) (fun fl s' hs => ?_) fun e s' hs => hs
    cases fl with
    | ret u =>
      obtain ⟨v, σ', H', J, rv, q⟩ := hs
      exact ⟨v, H', J.os, J.bare, J.base, J.hok, rv, q⟩
    | next =>
      obtain ⟨σ', H', J, q⟩ := hs
      exact ⟨.non, H', J.os, J.bare, J.base, J.hok, rfl, q⟩
    | brk =>
      obtain ⟨_, _, _, z⟩ := hs
      exact z.elim
    | cont =>
      obtain ⟨_, _, _, z⟩ := hs
      exact z.elim
def tCallE (sp : SpE) (p : Addr × Obj) (t : TA) : TE := fun σ H Q => t σ H fun vs H1 => sp p vs H1 Q fun _ _ _ => False
theorem pe_callE {X : Cx} {k : Nat} {f : Addr} {fd : FuncData} {ps : List Str} {sp : SpE} {x : Str} {q pos : Pos} {e : Expr} {es : List Expr} {t : TA} {p : Addr × Obj} (F : FnE X.prog X.w X.K X.mg X.base k f fd ps sp) (hr : L2H.RoomH k X.A) (hp : p ∈ X.pn) (hg : Gl X x) (hm : X.mg x = some (.ref f)) (hk : PySem.W.keepIn X.K (.ref f) = true) (hb : Binds X.K fd ps [])
    (ha : PA X (e :: es) t) (hdb : (x == ("__debug__" : Str)) = false := by decide) (he : starEach (e :: es) X.env = (false, eval e X.env) :: starEach es X.env := by rfl) (hpl : (backTo pos (starEach es X.env)).any (·.1) = false := by rfl) :
    PE X (.Call (.Name x q) (e :: es) [] pos) (tCallE sp p t) := by
  refine ⟨fun pins s σ H Q I h => ?_⟩
  refine wpAny_Call_Name_kw (ld_glob I hg hm ?_ hdb)
  refine PySem.W.callWith_K (h₀ := X.base) I.ok.mod.kin hk (thn (ha.run pos pins s σ H _ I h) fun us s1 hh => ?_) he hpl
  obtain ⟨vs, H1, I1, r, hsp⟩ := hh
  refine ⟨I1.kIn, ?_⟩
  have hl : us.length = ps.length := by rw [← r.length]; exact F.len _ _ _ _ _ hsp
  have b := hb s1 us I1.kIn (by rw [List.append_nil]; exact hl)
  rw [List.append_nil] at b
  obtain ⟨p1, p2, p3, p4, p5⟩ := I1.pin p (List.mem_append_left _ hp)
  have pin : L2H.PinOk X.stack H1 s1 p := ⟨p1, p2, fun hm => (List.mem_cons.mp (I1.stkSub p.1 hm)).elim p3 p4, p5⟩
  refine wpAny_call (codeAny_mono (F.run X.A X.stack s1 H1 ⟨us, []⟩ us vs Q _ p hr pin I1.env0 b r hsp) fun r s' hq => ?_)
  cases r with
  | error e => exact hq.elim
  | ok fl =>
    cases fl with
    | ret u => exact I1.after hq
    | next => exact hq.elim
    | brk => exact hq.elim
    | cont => exact hq.elim
end CC
namespace CC
open PySem PySem.Spec PyProof.Rows L2
open LamX (CodeO TabS TabB LamS lamEnv lamCx GivesTo inv_table among_app codeO_ne run_ofS pe_act)
abbrev SpC : Type := Addr → Value → Option Addr → Sp
def spOfC (sp : SpC) : SpE := fun p vs H Q E => ∃ cls d, Zc cls d p.2 ∧ (∃ vs, p.2.data = .fields vs) ∧ sp p.1 cls d vs H Q E
structure CalE (P : Program) (w : World) (K : PySem.W.Frag) (mg : Str → Option Value) (base : Heap) (k : Nat) (x : Str) (sp : SpC) : Prop where
  ex : ∃ (f : Addr) (fd : FuncData) (ps : List Str), FnE P w K mg base k f fd ps (spOfC sp) ∧ mg x = some (.ref f) ∧ PySem.W.keepIn K (.ref f) = true ∧ Binds K fd ps []
def tCallC (sp : SpC) (a : Addr) (cls : Value) (d : Option Addr) (t : TA) : TE := fun σ H Q => t σ H fun vs H1 => sp a cls d vs H1 Q fun _ _ _ => False
theorem pe_callC {X : Cx} {k : Nat} {sp : SpC} {x : Str} {q pos : Pos} {e : Expr} {es : List Expr} {i : Nat} {a : Addr} {oe : Obj} {cls : Value} {d : Option Addr} (F : CalE X.prog X.w X.K X.mg X.base k x sp) (hr : L2H.RoomH k X.A) (hp : (a, oe) ∈ X.pn) (hz : Zc cls d oe) (hf : ∃ vs, oe.data = .fields vs) (hg : Gl X x)
    (ha : PA X (e :: es) (tCons (tVar i) tNil)) (hdb : (x == ("__debug__" : Str)) = false := by decide) (he : starEach (e :: es) X.env = (false, eval e X.env) :: starEach es X.env := by rfl) (hpl : (backTo pos (starEach es X.env)).any (·.1) = false := by rfl) :
    PE X (.Call (.Name x q) (e :: es) [] pos) (tCallC sp a cls d (tCons (tVar i) tNil)) := by
  obtain ⟨f, fd, ps, F, hm, hk, hb⟩ := F.ex
  have hp := pe_callE (p := (a, oe)) (q := q) (pos := pos) F hr hp hg hm hk hb ha hdb he hpl
  refine ⟨fun pins s σ H Q I h => hp.run pins s σ H Q I ?_⟩
  obtain ⟨v, h1, h2⟩ := h
  exact ⟨v, h1, cls, d, hz, hf, h2⟩
theorem roomH_mark {k : Nat} {A : Around} {h : Option Value} (r : Room k A) : L2H.RoomH k (A.mark h) := ⟨r.dp, r.un⟩
def tXfA (K : PySem.W.Frag) (a : Addr) (cls : Value) (d : Option Addr) (f : Str) (te : TE) : TE := fun σ H Q => te σ H fun x H1 => x = .ref a ∧ ∃ (C dd : Addr) (fs : List (Str × V)) (v : V), cls = .ref C ∧ XfC K C ∧ PySem.W.findIn K (.ref C) f = some none ∧ d = some dd ∧ H1 dd = some (.xd fs) ∧ fs.lookup f = some v ∧ Q v H1
theorem pe_xfA {X : Cx} {a : Addr} {oe : Obj} {cls : Value} {d : Option Addr} {pn : List (Addr × Obj)} {e : Expr} {te : TE} {pos : Pos} {n : Str} (hz : Zc cls d oe) (hf : ∃ vs, oe.data = .fields vs) (he : PE (X.suite a ((a, oe) :: pn)) e te) (hb : attributeBase e n X.env (eval e X.env) = eval e X.env := by rfl) :
    PE (X.suite a ((a, oe) :: pn)) (.Attribute e n pos) (tXfA X.K a cls d n te) := by
  refine ⟨fun pins s σ H Q I h => attr_of hb (thn (he.run pins s σ H _ I h) fun u s1 hh => ?_)⟩
  obtain ⟨x, H1, I1, rx, ex, C, dd, fs, v, ec, T, hno, ed, ea, l, q⟩ := hh
  subst ex ec ed
  cases (show u = Value.ref a from rx)
  obtain ⟨vs, hd⟩ := hf
  have get := (I1.pin (a, oe) (List.mem_append_left _ List.mem_cons_self)).1
  obtain ⟨mA, hns, hr⟩ := show ObjOk X.prog X.w H1 s1.heap dd (.xd fs) from I1.hok dd _ ea
  obtain ⟨od, ho, hl⟩ := lookIn_ns hns
  obtain ⟨u, hu, ru⟩ := RelO.some_of (v := v) (o := mA n) (by rw [← l]; exact hr n)
  have inst : PySem.W.InstAt s1.heap a oe C (some od) := ⟨get, hz.1, by unfold PySem.W.notCls; rw [hd] <;> rfl, by rw [hz.2]; exact ho⟩
  exact HandSPX.exc_get I1.kIn inst T.ga T.gg T.exC (PySem.W.findObj_own T.hdC hno rfl (by rw [hl, hu])) (handed_of ru) ⟨v, H1, I1.tok _, ru, q⟩
end CC
namespace CC
open PySem PySem.Spec PyProof.Rows L2
open C8 (Cal pe_c pe_gc)
open LamX (CodeO TabS TabB LamS lamEnv lamCx codeO_ne)
def Pl (d : Option Addr) (pl : Option Int) (H : Hp) : Prop := match d, pl with
  | none, none => True
  | some dd, some i => H dd = some (.xd [("place", .int i)])
  | _, _ => False
def spY (K : PySem.W.Frag) (S : List Dt → (Dt → Prop) → (Str → Option Int → Prop) → Prop) : Sp := fun vs H Qh E => ∃ hid ds Q R, (∀ a, hid a = true → H a ≠ none) ∧ RpAll K (Hm hid H) vs ds ∧ S ds Q R ∧
  (∀ d v H', Q d → Ex none0 H H' → Rp K (Hm hid H') v d → Qh v H') ∧ ∀ nm pl, R nm pl → ∀ d H', Ex none0 H H' → (∀ dd, d = some dd → H dd = none) → Pl d pl H' → E (.ref (He.ga K nm)) d H'
def placed (nm : Str) : Bool := decide (nm = "BadValues") || (decide (nm = "BadRows") || decide (nm = "BadText"))
def Ew (K : PySem.W.Frag) (names : List Str) (Qh : VK) : XK := fun cls d H => ∃ (nm : Str) (pl : Option Int) (hid : Addr → Bool), nm ∈ names ∧ placed nm = pl.isSome ∧ cls = .ref (He.ga K nm) ∧ Pl d pl H ∧ (∀ a, hid a = true → H a ≠ none) ∧ (∀ dd, d = some dd → hid dd = false) ∧ ∀ H' v, Ex none0 H H' → Rp K (Hm hid H') v (.tup [.str nm, .int (pl.getD 0)]) → Qh v H'
section
variable {P : Program} {w : World} {K : PySem.W.Frag} {mg : Str → Option Value} {base : Heap}
theorem cal_y {x : Str} {st : Stmt} {N ps : List Str} {k : Nat} {S : List Dt → (Dt → Prop) → (Str → Option Int → Prop) → Prop} (F : FnAt K mg x st ps) (Sc : FnScope N ps (defScope st)) (len : ∀ ds Q R, S ds Q R → ds.length = ps.length)
    (hb : ∀ (f : Addr) (cdv : Value) (A : Around) (outer : List Env) (s : Shared) (H : Hp) (E : XK), Room k (A.deeper (envOfC x (defScope st) s.heap.objs.size f cdv)) →
      ∃ t, PSs (cxX P w K mg base N x st f cdv A outer s H E) (defBody st) t ∧ ∀ ds Q R, S ds Q R → ∀ hid H0 (D : Ends), (∀ a, hid a = true → H0 a ≠ none) → RetOk (Cn.pure K) hid H0 Q D →
        (∀ nm pl, R nm pl → ∀ d H', Ex none0 H0 H' → (∀ dd, d = some dd → H0 dd = none) → Pl d pl H' → E (.ref (He.ga K nm)) d H') → NJ (Cn.pure K) hid H0 (t D) (startS N ds)) :
    CalX P w K mg base (k + 1) x (spY K S) := by
  obtain ⟨f, fd, hm, F, b⟩ := F
  refine ⟨⟨f, fd, ps, F.okX Sc (fun vs H Q E h => ?_) (fun cdv A outer s H vs Q E hr h => ?_), hm, F.kp, b⟩⟩
  · obtain ⟨hid, ds, Q', R, _, r, hS, _⟩ := h
    rw [r.length]
    exact len ds Q' R hS
  · obtain ⟨hid, ds, Q', R, dom, r, hS, q, qx⟩ := h
    obtain ⟨t, ht, hn⟩ := hb f cdv A outer s H E hr
    exact ⟨t, ht, hn ds Q' R hS hid H { nx := fun _ H' => Q .non H', rt := Q } dom ⟨fun d hd v H' e _ r => q d v H' hd e r, fun hd ρ hd' H' σ sd => q .non .non H' hd sd.ext .non⟩ qx hid H _ (sd_start dom (fun _ h => nomatch h) trivial r)⟩
theorem Fun.okC {x qual : Str} {st : Stmt} {f : Addr} {fd : FuncData} {N ps : List Str} {k : Nat} {sp : Sp} (F : Fun K x qual st f fd) (S : FnScope N ps (defScope st)) (len : ∀ vs H Q E, sp vs H Q E → vs.length = ps.length)
    (hbody : ∀ (A : Around) (outer : List Env) (s : Shared) (H : Hp) (vs : List V) (Q : VK) (E : XK), Room k (A.deeper (envOfC qual (defScope st) s.heap.objs.size f fd.code)) → sp vs H Q E →
      ∃ t, PSs (cxD P w K mg base N qual st f fd.code A outer s H E) (defBody st) t ∧ t { nx := fun _ H' => Q .non H', rt := Q } (L2.start N vs) H) : FnOk P w K mg base CX0 (k + 1) f fd ps sp := by
  obtain ⟨oc, od, kV, doc, pm, an, cdv, ct, osl, rfl, lk, hcd⟩ := F.ex
  exact fn_of lk hcd S len fun A outer s H vs Q E hr hsp => by
    obtain ⟨t, h, q⟩ := hbody A outer s H vs Q E hr hsp
    exact ⟨t, h.nox, q⟩
end
section
variable {c : Cn} {ρ : List Sl} {Q : Dt → Prop}
theorem rp_bls {G : Hp} {K : PySem.W.Frag} {v : V} {bs : List Bool} (r : Rp K G v (.lst (bs.map Dt.bl))) : ∃ a, v = .ref a ∧ G a = some (.lst (bs.map V.bl)) := by
  cases r with
  | lst ha ra =>
    have e := ra.bls
    subst e
    exact ⟨_, rfl, ha⟩
theorem flat_bls (bs : List Bool) : (bs.map V.bl).all flatV = true := by
  rw [List.all_eq_true]
  intro z hz
  obtain ⟨b, _, rfl⟩ := List.mem_map.mp hz
  rfl
theorem ev_indexB {K : PySem.W.Frag} {to : TE} (hK : K = c.K) (h : EV c to ρ fun d => ∃ (bs : List Bool) (j : Nat), d = .lst (bs.map Dt.bl) ∧ bs[j]? = some true ∧ (∀ m, m < j → bs[m]? = some false) ∧ Q (.int (j : Nat))) :
    EV c (tBM K "list" (rIndex K) to (tCons (tC (.bl true)) tNil)) ρ Q := fun hd H σ v Qh q => h hd H σ v _ fun d x H1 h1 e1 b1 r1 => by
  subst hK
  obtain ⟨bs, j, rfl, hj, hno, hq⟩ := h1
  obtain ⟨a, rfl, ha⟩ := rp_bls r1
  have ha' := hm_le ha
  refine ⟨.inl ⟨rfl, _, .inl (.inl ha')⟩, a, bs.map V.bl, .bl true, j, .bl true, rfl, rfl, .inl (.inl ha'), rfl, flat_bls bs, by rw [List.getElem?_map, hj]; rfl, rfl, fun m z hm hz => ?_, q _ _ H1 hq e1 b1 (.int _)⟩
  rw [List.getElem?_map, hno m hm] at hz
  cases hz
  rfl
theorem cnt_bls : ∀ bs : List Bool, ((bs.map V.bl).countP fun z => eqV z (.bl true)) = bs.countP id
  | [] => rfl
  | b :: bs => by
    rw [List.map_cons, List.countP_cons, List.countP_cons, cnt_bls bs]
    cases b <;> rfl
theorem ev_countB {K : PySem.W.Frag} {to : TE} (hK : K = c.K) (h : EV c to ρ fun d => ∃ bs : List Bool, d = .lst (bs.map Dt.bl) ∧ Q (.int (bs.countP id : Nat))) :
    EV c (tBM K "list" (rCntV K) to (tCons (tC (.bl true)) tNil)) ρ Q := fun hd H σ v Qh q => h hd H σ v _ fun d x H1 h1 e1 b1 r1 => by
  subst hK
  obtain ⟨bs, rfl, hq⟩ := h1
  obtain ⟨a, rfl, ha⟩ := rp_bls r1
  have ha' := hm_le ha
  refine ⟨.inl ⟨rfl, _, .inl (.inl ha')⟩, a, bs.map V.bl, .bl true, rfl, rfl, .inl (.inl ha'), rfl, flat_bls bs, ?_⟩
  rw [cnt_bls]
  exact q _ _ H1 hq e1 b1 (.int _)
end
theorem unitsH {k : Nat} {A : Around} (r : L2H.RoomH k A) : A.units + 64 < cLine := by have := r.un; omega
theorem sd_raw {c : Cn} {hid : Addr → Bool} {H : Hp} (dom : ∀ a, hid a = true → H a ≠ none) (mh : ∀ a, c.mu a = true → hid a = true) (bb : c.B hid H) : ∀ (vs : List (Option V)), SD c hid hid H H vs (vs.map fun v => match v with | some v => Sl.rw v | none => Sl.un) := fun vs => by
  have ho : ∀ i o, ¬ ownAt vs (vs.map fun v => match v with | some v => Sl.rw v | none => Sl.un) i o := fun i o h => by
    obtain ⟨h1, s, h2, h3⟩ := h
    rw [List.getElem?_map, h1] at h2
    cases h2
    cases h3
  refine ⟨⟨dom, mh, bb, ?_⟩, fun x h => h, .refl, fun x h1 h2 => ?_, fun i j o h => (ho i o h).elim, fun i o h => (ho i o h).elim⟩
  · clear ho
    induction vs with
    | nil => exact .nil
    | cons v vs ih =>
      cases v with
      | none => exact .cons slok_un ih
      | some v => exact .cons rfl ih
  · rw [h1] at h2; cases h2
def excB (K : PySem.W.Frag) (D : Addr) : Bool := decide (PySem.W.findIn K (.ref D) "__getattribute__" = some (some (.builtin "BaseException.__getattribute__"))) && (decide (PySem.W.findIn K (.ref D) "__getattr__" = some none) && (decide (PySem.W.subIn K (.ref D) (.type "BaseException") = some true) && (PySem.W.hasDictIn K D &&
  (decide (PySem.W.findIn K (.ref D) "__class__" = some (some (.builtin "object.__class__"))) && (decide (PySem.W.specialIn K (.builtin "object.__class__") "__get__" = some (some (.builtin "getset_descriptor.__get__"))) && (decide (PySem.W.takesIn K (.builtin "object.__class__") = some true) && decide (PySem.W.mroIn K D (.type "object") = some true)))))))
theorem excB_ok {K : PySem.W.Frag} {D : Addr} (h : excB K D = true) : ExcC K D := by
  unfold excB at h
  simp only [Bool.and_eq_true, decide_eq_true_eq] at h
  obtain ⟨h1, h2, h3, h4, h5, h6, h7, h8⟩ := h
  exact ⟨h1, h2, h3, h4, h5, h6, h7, h8⟩
def clsB (K : PySem.W.Frag) (rs cs : List Str) : Bool := rs.all fun D => (cs.all fun C => decide (PySem.W.kitOne K (.ref (He.ga K D)) (.ref (He.ga K C)) = some (decide (D = C)))) && (decide (PySem.W.kitOne K (.ref (He.ga K D)) (.type "ValueError") = some true) && (decide (PySem.W.exmOne K (.ref (He.ga K D)) (.ref (He.ga K "ColumnError")) = some true) && excB K (He.ga K D)))
structure ClsF (K : PySem.W.Frag) (rs cs : List Str) : Prop where
  kit : ∀ D ∈ rs, ∀ C ∈ cs, PySem.W.kitOne K (.ref (He.ga K D)) (.ref (He.ga K C)) = some (decide (D = C))
  kitV : ∀ D ∈ rs, PySem.W.kitOne K (.ref (He.ga K D)) (.type "ValueError") = some true
  exm : ∀ D ∈ rs, PySem.W.exmOne K (.ref (He.ga K D)) (.ref (He.ga K "ColumnError")) = some true
  exc : ∀ D ∈ rs, ExcC K (He.ga K D)
theorem clsB_ok {K : PySem.W.Frag} {rs cs : List Str} (h : clsB K rs cs = true) : ClsF K rs cs := by
  have key : ∀ D ∈ rs, (∀ C ∈ cs, PySem.W.kitOne K (.ref (He.ga K D)) (.ref (He.ga K C)) = some (decide (D = C))) ∧ PySem.W.kitOne K (.ref (He.ga K D)) (.type "ValueError") = some true ∧ PySem.W.exmOne K (.ref (He.ga K D)) (.ref (He.ga K "ColumnError")) = some true ∧ excB K (He.ga K D) = true := fun D hD => by
    have h1 := List.all_eq_true.mp h D hD
    simp only [Bool.and_eq_true, decide_eq_true_eq, List.all_eq_true] at h1
    exact h1
  exact ⟨fun D hD => (key D hD).1, fun D hD => (key D hD).2.1, fun D hD => (key D hD).2.2.1, fun D hD => excB_ok (key D hD).2.2.2⟩
end CC
namespace CC
open PySem PySem.Spec PyProof.Rows L2
open C8 (Cal pe_c pe_gc)
structure Wd where
  K : PySem.W.Frag
  G : Type
  mu : G → Addr → Bool
  B : G → (Addr → Bool) → Hp → Prop
  stab : ∀ g hd hd' H H', Sees (Hm hd H) (Hm hd' H') → (∀ a o, (mu g a = true ∨ ext o = true) → H a = some o → H' a = some o) → B g hd H → B g hd' H'
  live : ∀ g hd H, B g hd H → ∀ a, mu g a = true → H a ≠ none
abbrev Wd.cn (W : Wd) (g : W.G) : Cn := ⟨W.K, W.mu g, W.B g, W.stab g⟩
def un (hd mu : Addr → Bool) : Addr → Bool := fun a => hd a || mu a
theorem un_l {hd mu : Addr → Bool} {a : Addr} (h : hd a = true) : un hd mu a = true := by unfold un; rw [h, Bool.true_or]
theorem un_r {hd mu : Addr → Bool} {a : Addr} (h : mu a = true) : un hd mu a = true := by unfold un; rw [h, Bool.or_true]
theorem un_of {hd mu : Addr → Bool} {a : Addr} (h : un hd mu a = true) : hd a = true ∨ mu a = true := Bool.or_eq_true_iff.mp h
theorem un_eq {hd mu : Addr → Bool} (h : ∀ a, mu a = true → hd a = true) : un hd mu = hd := by
  funext a
  unfold un
  cases q : mu a with
  | false => rw [Bool.or_false]
  | true => rw [h a q]; rfl
structure Fr (W : Wd) (g g' : W.G) (H : Hp) : Prop where
  up : ∀ a, W.mu g a = true → W.mu g' a = true
  new : ∀ a, W.mu g' a = true → W.mu g a = true ∨ H a = none
structure Go (W : Wd) (g g' : W.G) (hd : Addr → Bool) (H H' : Hp) : Prop where
  ex : Ex (W.mu g) H H'
  inv : W.B g' (un hd (W.mu g')) H'
  fr : Fr W g g' H
section
variable {W : Wd} {g g' g1 g2 : W.G} {hid hd : Addr → Bool} {H0 H H' H1 H2 : Hp} {σ : L2.St} {ρ : List Sl}
theorem Fr.refl : Fr W g g H := ⟨fun _ h => h, fun _ h => .inl h⟩
theorem Fr.old (f : Fr W g g' H) (e : Ex (W.mu g1) H0 H) : Fr W g g' H0 := ⟨f.up, fun a h => (f.new a h).imp id e.fresh⟩
theorem Fr.trans (f : Fr W g g1 H) (k : Fr W g1 g2 H) : Fr W g g2 H := ⟨fun a h => k.up a (f.up a h), fun a h => by
  rcases k.new a h with h | h
  · exact f.new a h
  · exact .inr h⟩
theorem Fr.ex (f : Fr W g g' H) (e : Ex (W.mu g') H H') : Ex (W.mu g) H H' := ⟨fun a o hm h => e.keep a o (by
  cases q : W.mu g' a with
  | false => rfl
  | true =>
    rcases f.new a q with z | z
    · rw [hm] at z; cases z
    · rw [h] at z; cases z) h, e.dom⟩
theorem Go.of (mh : ∀ a, W.mu g a = true → hd a = true) (e : Ex (W.mu g) H H') (b : W.B g hd H') : Go W g g hd H H' := ⟨e, by rw [un_eq mh]; exact b, .refl⟩
theorem Go.trans (a : Go W g g1 hd H H1) (b : Go W g1 g2 (un hd (W.mu g1)) H1 H2) : Go W g g2 hd H H2 := by
  have f2 : Fr W g1 g2 H := b.fr.old a.ex
  refine ⟨⟨fun x o hm h => ?_, fun x h => b.ex.dom x (a.ex.dom x h)⟩, (W.cn g2).unhide (fun x h => ?_) b.inv, a.fr.trans f2⟩
  · refine b.ex.keep x o ?_ (a.ex.keep x o hm h)
    cases q : W.mu g1 x with
    | false => rfl
    | true =>
      rcases a.fr.new x q with z | z
      · rw [hm] at z; cases z
      · rw [h] at z; cases z
  · rcases un_of h with h | h
    · exact un_l (un_l h)
    · exact un_r h
theorem Go.sees (mh : ∀ a, W.mu g a = true → hd a = true) (s : Go W g g' hd H H') : Sees (Hm hd H) (Hm (un hd (W.mu g')) H') := fun a o h => by
  have h1 := hm_not h
  have h2 := hm_le h
  have nm : W.mu g a = false := by
    cases q : W.mu g a with
    | false => rfl
    | true => rw [mh a q] at h1; cases h1
  refine ⟨o, ?_, .rfl⟩
  rw [hm_of]
  · exact s.ex.keep a o nm h2
  · cases q : un hd (W.mu g') a with
    | false => rfl
    | true =>
      rcases un_of q with z | z
      · rw [h1] at z; cases z
      · rcases s.fr.new a z with z | z
        · rw [nm] at z; cases z
        · rw [h2] at z; cases z
theorem Go.muF (s : Go W g g' hd H H') {a : Addr} (hm : W.mu g a = false) (h : H a ≠ none) : W.mu g' a = false := by
  cases q : W.mu g' a with
  | false => rfl
  | true =>
    rcases s.fr.new a q with z | z
    · rw [hm] at z; cases z
    · exact absurd z h
theorem Go.slot (mh : ∀ a, W.mu g a = true → hd a = true) (s : Go W g g' hd H H') (x : Option V) (sl : Sl) (h : SlOk (W.cn g) hd H x sl) : SlOk (W.cn g') (un hd (W.mu g')) H' x sl := by
  have e := s.sees mh
  have some_ne : ∀ {a : Addr} {o : HO}, H a = some o → H a ≠ none := fun h z => by rw [h] at z; cases z
  cases sl with
  | un => exact slok_un
  | im d =>
    cases x with
    | none => exact h.elim
    | some v => exact Rp.mono e h
  | rw u =>
    cases x with
    | none => exact h.elim
    | some v => exact h
  | dl q ds =>
    cases x with
    | none => exact h.elim
    | some v => exact ⟨h.1, Rp.mono e h.2⟩
  | ac ds =>
    cases x with
    | none => exact h.elim
    | some v =>
      cases v with
      | ref q =>
        obtain ⟨h1, h2, vs, h3, h4⟩ := h
        exact ⟨un_l h1, s.muF h2 (some_ne h3), vs, s.ex.keep q _ h2 h3, RpAll.mono e h4⟩
      | _ => exact h.elim
  | ak ds =>
    cases x with
    | none => exact h.elim
    | some v =>
      cases v with
      | ref q =>
        obtain ⟨h1, h2, vs, h3, h4⟩ := h
        exact ⟨un_l h1, s.muF h2 (some_ne h3), vs, s.ex.keep q _ h2 h3, RpK.mono e h4⟩
      | _ => exact h.elim
  | aT ds =>
    cases x with
    | none => exact h.elim
    | some v =>
      cases v with
      | ref q =>
        obtain ⟨h1, h2, vs, h3, h4⟩ := h
        exact ⟨un_l h1, s.muF h2 (some_ne h3), vs, s.ex.keep q _ h2 h3, RpT.mono e h4⟩
      | _ => exact h.elim
  | iK ds =>
    cases x with
    | none => exact h.elim
    | some v =>
      cases v with
      | ref q =>
        obtain ⟨h1, h2, vs, h3, h4⟩ := h
        refine ⟨?_, s.muF h2 (some_ne h3), vs, s.ex.keep q _ h2 h3, RpK.mono e h4⟩
        show (hd q || W.mu g' q) = false
        rw [h1, s.muF h2 (some_ne h3)]; rfl
      | _ => exact h.elim
theorem SV.step (v : SV (W.cn g) hd H σ ρ) (s : Go W g g' hd H H') : SV (W.cn g') (un hd (W.mu g')) H' σ ρ := by
  refine ⟨fun a h => ?_, fun a h => un_r h, s.inv, ?_⟩
  · rcases un_of h with h | h
    · exact s.ex.dom a (v.dom a h)
    · exact W.live g' _ H' s.inv a h
  · have key : ∀ {σ : L2.St} {ρ : List Sl}, SlAll (W.cn g) hd H σ ρ → SlAll (W.cn g') (un hd (W.mu g')) H' σ ρ := by
      intro σ ρ h
      induction h with
      | nil => exact .nil
      | cons h _ ih => exact .cons (s.slot v.muh _ _ h) ih
    exact key v.slots
theorem SD.step (d : SD (W.cn g) hid hd H0 H σ ρ) (s : Go W g g' hd H H') : SD (W.cn g') hid (un hd (W.mu g')) H0 H' σ ρ ∧ Fr W g g' H0 := by
  have f0 : Fr W g g' H0 := s.fr.old d.ext
  refine ⟨⟨d.toSV.step s, fun a h => un_l (d.sub a h), (d.ext.trans s.ex).weak f0.up, fun a h1 h2 => ?_, d.own, d.ownh⟩, f0⟩
  rcases un_of h1 with h1 | h1
  · exact d.new a h1 h2
  · rcases f0.new a h1 with z | z
    · exact d.new a (d.muh a z) h2
    · exact z
end
section
variable {W : Wd} {g : W.G} {hid : Addr → Bool} {H0 : Hp} {ρ : List Sl} {te ta tb : TE} {t u : TT} {D : Ends} {ts tz : TS}
def NxM (W : Wd) (g : W.G) (hid : Addr → Bool) (H0 : Hp) (I : W.G → List Sl → Prop) : L2.St → Hp → Prop := fun σ H => ∃ g' ρ hd, I g' ρ ∧ Fr W g g' H0 ∧ SD (W.cn g') hid hd H0 H σ ρ
theorem njm_nxw {g1 : W.G} {I : W.G → List Sl → Prop} (ρ' : List Sl) (h : I g ρ') (f : Fr W g1 g H0) (l : Le ρ' ρ) : NJ (W.cn g) hid H0 (NxM W g1 hid H0 I) ρ := fun hd H σ s => ⟨g, ρ', hd, h, f, s.weak l⟩
end
end CC
namespace CC
open PySem PySem.Spec PyProof.Rows L2
open C8 (Cal pe_c pe_gc)
section
variable {W : Wd} {g : W.G} {hid : Addr → Bool} {H0 H1 : Hp} {ρ : List Sl} {te ta tb : TE} {t u : TT} {D : Ends} {ts tz : TS} {gg : TG}
theorem njm_for {wi : TI} (h : IJ (W.cn g) wi ρ fun its => ∃ I : Nat → W.G → List Sl → Prop, I 0 g ρ ∧
      (∀ H1, Ex (W.mu g) H0 H1 → ∀ i d g' ρ', its[i]? = some d → I i g' ρ' → Fr W g g' H1 → TGJ (W.cn g') hid H1 gg d ρ' (ts { D with nx := NxM W g hid H1 (I (i + 1)), ct := NxM W g hid H1 (I (i + 1)), bk := D.nx })) ∧
      ∀ g' ρ', I its.length g' ρ' → Fr W g g' H0 → NJ (W.cn g') hid H0 D.nx ρ') : NJ (W.cn g) hid H0 (tFor wi gg ts D) ρ := fun hd H σ s => by
  refine h hd H σ s.toSV _ fun its J H' hq e b ok => ?_
  obtain ⟨I, i0, hstep, hend⟩ := hq
  have s' := s.go e b
  have eB := hj_ex s'
  have sB := hj_sd s'
  have vis : ∀ {g2 hd2 H2 σ2 ρ2}, Fr W g g2 (Hj H0 hd H') → SD (W.cn g2) hid hd2 (Hj H0 hd H') H2 σ2 ρ2 → Sub (Hm hd H') (Hm hd2 H2) := fun {g2 hd2 H2 σ2 ρ2} f2 s2 a o ha => by
    have h1 := hm_not ha
    have h2 := hm_le ha
    have hb : Hj H0 hd H' a = some o := by unfold Hj; rw [if_neg (by rw [h1]; exact Bool.false_ne_true)]; exact h2
    have hm : W.mu g2 a = false := by
      cases q : W.mu g2 a with
      | false => rfl
      | true =>
        rcases f2.new a q with z | z
        · rw [s.muh a z] at h1; cases h1
        · rw [hb] at z; cases z
    rw [hm_of]
    · exact s2.ext.keep a o hm hb
    · cases q : hd2 a with
      | false => rfl
      | true =>
        cases q2 : hid a with
        | true => rw [s.sub a q2] at h1; cases h1
        | false =>
          have := s2.new a q q2
          rw [hb] at this; cases this
  refine ⟨fun i m σ2 H2 => m = its.length - i ∧ i ≤ its.length ∧ ∃ g2 ρ2 hd2, I i g2 ρ2 ∧ Fr W g g2 (Hj H0 hd H') ∧ SD (W.cn g2) hid hd2 (Hj H0 hd H') H2 σ2 ρ2, ⟨its.length, rfl, Nat.zero_le _, g, ρ, hd, i0, .refl, sB⟩, ?_⟩
  rintro i m σ2 H2 ⟨rfl, hi, g2, ρ2, hd2, hI, f2, s2⟩
  have vs := vis f2 s2
  have vs' : Sub (Hm hd H') H2 := fun a o ha => hm_le (vs a o ha)
  by_cases hlt : i < its.length
  · refine .inr ⟨ok.go i H2 vs' hlt, NxM W g hid (Hj H0 hd H') (I (i + 1)), fun σ' H3 hN => ?_, fun x H3 hy => ?_⟩
    · obtain ⟨g3, ρ3, hd3, hI3, f3, s3⟩ := hN
      exact ⟨its.length - (i + 1), by omega, rfl, hlt, g3, ρ3, hd3, hI3, f3, s3⟩
    · obtain ⟨e3, r3⟩ := ok.yl i H2 x H3 its[i] vs' (List.getElem?_eq_getElem hlt) hy
      exact hstep (Hj H0 hd H') eB i its[i] g2 ρ2 (List.getElem?_eq_getElem hlt) hI f2 hd2 H3 σ2 x (s2.go e3.up ((W.cn g2).keep0 e3 s2.inv)) (r3 hd2 s2.dom vs)
  · have e : i = its.length := by omega
    exact .inl ⟨ok.st i H2 vs' e, hend g2 ρ2 (by rw [← e]; exact hI) (f2.old eB) hd2 H2 σ2 (s2.base (eB.weak f2.up))⟩
end
end CC
namespace CC
open PySem PySem.Spec PyProof.Rows L2
open C8 (Cal pe_c pe_gc)
inductive RV where
  | dat (d : Dt) | ref (a : Addr)
inductive MO where
  | lst (xs : List RV) | dk (kvs : List (Key × RV)) | ins (C dx : Addr) (fs : List (Str × RV)) | own (x : Addr)
inductive P2 {α β : Type} (R : α → β → Prop) : List α → List β → Prop
  | nil : P2 R [] []
  | cons {a : α} {b : β} {as : List α} {bs : List β} : R a b → P2 R as bs → P2 R (a :: as) (b :: bs)
section
variable {α β : Type} {R R' : α → β → Prop}
theorem P2.imp (h : ∀ a b, R a b → R' a b) : ∀ {as : List α} {bs : List β}, P2 R as bs → P2 R' as bs
  | _, _, .nil => .nil
  | _, _, .cons r t => .cons (h _ _ r) (P2.imp h t)
theorem P2.len : ∀ {as : List α} {bs : List β}, P2 R as bs → as.length = bs.length
  | _, _, .nil => rfl
  | _, _, .cons _ t => congrArg (· + 1) (P2.len t)
theorem P2.get : ∀ {as : List α} {bs : List β} {i : Nat} {b : β}, P2 R as bs → bs[i]? = some b → ∃ a, as[i]? = some a ∧ R a b
  | _, _, 0, _, .cons h _, e => ⟨_, rfl, by rw [show _ = _ from Option.some.inj e] at h; exact h⟩
  | _, _, i + 1, _, .cons _ t, e => P2.get (i := i) t e
theorem P2.set {a : α} {b : β} (h : R a b) : ∀ {as : List α} {bs : List β} (n : Nat), P2 R as bs → P2 R (as.set n a) (bs.set n b)
  | _, _, _, .nil => .nil
  | _, _, 0, .cons _ t => .cons h t
  | _, _, n + 1, .cons q t => .cons q (P2.set h n t)
end
def RvOk (K : PySem.W.Frag) (G : Hp) : V → RV → Prop
  | v, .dat d => Rp K G v d
  | v, .ref a => v = .ref a
theorem RvOk.mono {K : PySem.W.Frag} {G G' : Hp} (e : Sees G G') {v : V} {r : RV} (h : RvOk K G v r) : RvOk K G' v r := by
  cases r with
  | dat d => exact Rp.mono e h
  | ref a => exact h
abbrev RvF (K : PySem.W.Frag) (G : Hp) (κ : Type) : κ × V → κ × RV → Prop := fun p q => p.1 = q.1 ∧ RvOk K G p.2 q.2
def MOk (K : PySem.W.Frag) (hd : Addr → Bool) (H : Hp) (a : Addr) : MO → Prop
  | .lst rs => ∃ vs, H a = some (.lst vs) ∧ P2 (RvOk K (Hm hd H)) vs rs
  | .dk rs => ∃ vs, H a = some (.dK vs) ∧ P2 (RvF K (Hm hd H) Key) vs rs
  | .ins C dx rs => ∃ vs, H a = some (.ins C dx vs) ∧ P2 (RvF K (Hm hd H) Str) vs rs
  | .own x => H a = some (.own x)
abbrev GS : Type := Addr → Option MO
theorem MOk.mono {K : PySem.W.Frag} {hd hd' : Addr → Bool} {H H' : Hp} {a : Addr} {m : MO} (e : Sees (Hm hd H) (Hm hd' H')) (k : ∀ o, H a = some o → H' a = some o) (h : MOk K hd H a m) : MOk K hd' H' a m := by
  cases m with
  | lst rs => obtain ⟨vs, h1, h2⟩ := h; exact ⟨vs, k _ h1, h2.imp fun _ _ r => r.mono e⟩
  | dk rs => obtain ⟨vs, h1, h2⟩ := h; exact ⟨vs, k _ h1, h2.imp fun _ _ r => ⟨r.1, r.2.mono e⟩⟩
  | ins C dx rs => obtain ⟨vs, h1, h2⟩ := h; exact ⟨vs, k _ h1, h2.imp fun _ _ r => ⟨r.1, r.2.mono e⟩⟩
  | own x => exact k _ h
theorem MOk.at {K : PySem.W.Frag} {hd : Addr → Bool} {H : Hp} {a : Addr} {m : MO} (h : MOk K hd H a m) : ∃ o, H a = some o ∧ ext o = false := by
  cases m with
  | lst rs => obtain ⟨vs, h1, h2⟩ := h; exact ⟨_, h1, rfl⟩
  | dk rs => obtain ⟨vs, h1, h2⟩ := h; exact ⟨_, h1, rfl⟩
  | ins C dx rs => obtain ⟨vs, h1, h2⟩ := h; exact ⟨_, h1, rfl⟩
  | own x => exact ⟨_, h, rfl⟩
end CC
namespace CC
open PySem PySem.Spec PyProof.Rows L2
open C8 (Cal pe_c pe_gc)
theorem P2.look {K : PySem.W.Frag} {G : Hp} {f : Str} : ∀ {vs : List (Str × V)} {fs : List (Str × RV)} {r : RV}, P2 (RvF K G Str) vs fs → fs.lookup f = some r → ∃ v, vs.lookup f = some v ∧ RvOk K G v r
  | _, _, _, .nil, h => nomatch h
  | (k, v) :: vs, (k', r') :: fs, r, .cons h t, e => by
    obtain ⟨h1, h2⟩ := h
    have h1 : k = k' := h1
    subst h1
    rw [List.lookup_cons] at e ⊢
    cases q : f == k with
    | true =>
      rw [q] at e
      cases e
      exact ⟨v, rfl, h2⟩
    | false =>
      rw [q] at e
      exact P2.look t e
theorem RpF.look {K : PySem.W.Frag} {G : Hp} {f : Str} : ∀ {vs : List (Str × V)} {fs : List (Str × Dt)} {d : Dt}, RpF K G vs fs → fs.lookup f = some d → ∃ v, vs.lookup f = some v ∧ Rp K G v d
  | _, _, _, .nil, h => nomatch h
  | (k, v) :: vs, (_, d') :: fs, d, .cons h t, e => by
    rw [List.lookup_cons] at e ⊢
    cases q : f == k with
    | true =>
      rw [q] at e
      cases e
      exact ⟨v, rfl, h⟩
    | false =>
      rw [q] at e
      exact RpF.look t e
def ERC (c : Cn) (te : TE) (ρ : List Sl) (v : V) : Prop := ∀ hd H σ, SV c hd H σ ρ → ∀ Qh : VK, Qh v H → te σ H Qh
section
variable {K : PySem.W.Frag} {g : GS} {hid : Addr → Bool} {H0 : Hp} {ρ : List Sl} {to te ta tb : TE} {D : Ends} {ts tz : TS} {a b C dx : Addr} {fs : List (Str × RV)} {rs : List RV} {f : Str}
theorem erc_var {c : Cn} {i : Nat} {v : V} (hi : ρ[i]? = some (.rw v)) : ERC c (tVar i) ρ v := fun hd H σ s Qh q => ⟨v, rw_get s.slots hi, q⟩
end
end CC
namespace CC
open PySem PySem.Spec PyProof.Rows L2
open C8 (Cal pe_c pe_gc)
abbrev dats (ds : List Dt) : List RV := ds.map RV.dat
end CC
namespace CC
open PySem PySem.Spec PyProof.Rows L2
open C8 (Cal pe_c pe_gc)
end CC
namespace CC
open PySem PySem.Spec PyProof.Rows L2
open C8 (Cal pe_c pe_gc)
end CC
namespace CC
open PySem PySem.Spec PyProof.Rows L2
open C8 (Cal pe_c pe_gc)
open PySem.W (AllAlike Sortable dataLe sorted_data dataLt EachIs)
end CC
namespace CC
open PySem PySem.Spec PyProof.Rows L2
open C8 (Cal pe_c pe_gc)
def StrJ (Q : Str → Prop) : Dt → Prop
  | .str b => Q b
  | _ => False
theorem strJ {Q : Str → Prop} {x : Str} (h : Q x) : StrJ Q (.str x) := h
def repS (x : Str) (k : Int) : Str := ⟨((List.replicate k.toNat x.cps.toList).flatten).toArray⟩
theorem fold_rep (a : Array Nat) : ∀ (n : Nat) (b : Array Nat), (List.replicate n a).foldl (· ++ ·) b = b ++ (List.replicate n a.toList).flatten.toArray
  | 0, b => by simp
  | n + 1, b => by
    rw [List.replicate_succ, List.foldl_cons, fold_rep a n, List.replicate_succ, List.flatten_cons]
    apply Array.ext'
    simp
def rMulS : R2 := fun x y H Q => ∃ (z : Str) (k : Int), x = .str z ∧ y = .int k ∧ -1000 ≤ k ∧ k ≤ 1000 ∧ z.length ≤ 1000 ∧ Q (.str (repS z k)) H
theorem op_mulS {X : Cx} : OpR X (binaryOp .Mult) rMulS := by
  intro pins s σ H x y v u Q I rx ry h
  obtain ⟨z, k, rfl, rfl, h1, h2, h3, q⟩ := h
  obtain ⟨t, rfl⟩ := rx
  obtain ⟨t2, rfl⟩ := ry
  have hprod : z.length * k.toNat ≤ 1000000 := Nat.le_trans (Nat.mul_le_mul h3 (show k.toNat ≤ 1000 by omega)) (by decide)
  refine P.mul_str (by rw [decide_eq_false (by omega), decide_eq_false (by omega)]; rfl) (fun a b c => ?_) (fun a b => ?_) ?_
  · have h4 : ((z.length : Nat) : Int) * k ≤ 2 ^ 63 - 1 := by
      have : ((z.length * k.toNat : Nat) : Int) ≤ ((1000000 : Nat) : Int) := Int.ofNat_le.mpr hprod
      rw [Int.natCast_mul, Int.toNat_of_nonneg (by omega)] at this
      omega
    have := Int.le_ediv_of_mul_le (show 0 < k by omega) h4
    omega
  · show decide (z.length * k.toNat > sizeLine) = false
    refine decide_eq_false ?_
    rw [sizeLine_eq]
    omega
  · split
    · rename_i hk
      refine ⟨by decide, .str _, H, I.tok _, ⟨s.toks, ?_⟩, q⟩
      show Value.str Str.empty s.toks = Value.str (repS z k) s.toks
      unfold repS
      rw [show k.toNat = 0 by omega]
      rfl
    · rename_i hk
      split
      · rename_i hk2
        refine ⟨.str _, H, I, ⟨t, ?_⟩, q⟩
        have e : z = repS z k := by
          rcases Bool.or_eq_true_iff.mp hk2 with e1 | e1
          · rw [beq_iff_eq.mp e1]
            unfold repS
            show z = ⟨(List.replicate 1 z.cps.toList).flatten.toArray⟩
            simp
          · have e0 : z.cps.toList = [] := by
              have : z.cps.size = 0 := beq_iff_eq.mp e1
              exact List.eq_nil_of_length_eq_zero (by rw [Array.length_toList]; exact this)
            unfold repS
            rw [e0]
            have : z = ⟨z.cps.toList.toArray⟩ := by simp
            rw [this, e0]
            simp
        rw [← e]
      · refine ⟨?_, .str _, H, I.tok _, ⟨s.toks, ?_⟩, q⟩
        · rw [fold_rep]
          show (#[] ++ (List.replicate k.toNat z.cps.toList).flatten.toArray).size ≤ sizeLine
          have e : (#[] ++ (List.replicate k.toNat z.cps.toList).flatten.toArray).size = k.toNat * z.cps.size := by simp
          rw [e, sizeLine_eq, Nat.mul_comm]
          have : z.cps.size * k.toNat ≤ 1000000 := hprod
          omega
        · unfold repS
          rw [fold_rep]
          simp
theorem mul_s {c : Cn} {Q : Dt → Prop} {x : Str} {k : Int} (h1 : -1000 ≤ k) (h2 : k ≤ 1000) (h3 : x.length ≤ 1000) (h : Q (.str (repS x k))) : R2J c rMulS (.str x) (.int k) Q := fun hd H v w dom mh bb r1 r2 Qh q => by
  cases r1
  cases r2
  exact ⟨x, k, rfl, rfl, h1, h2, h3, kv_here q bb h (.str _)⟩
section
variable {c : Cn} {Q : Dt → Prop} {x y : Str} {i j : Int}
theorem ix_s {k : Int} {d : Nat} (hl : x.length ≤ 100000) (hk : atI x.cps.toList k = some d) (h : Q (.str ⟨#[d]⟩)) : R2J c (rIx c.K) (.str x) (.int k) Q := fun hd H v w dom mh bb r1 r2 Qh q => by
  cases r1
  cases r2
  exact .inr (.inr ⟨x, k, d, rfl, rfl, Evl.sz_of hl, hk, kv_here q bb h (.str _)⟩)
theorem lt_s (h : Q (.bl (decide (x.cps.toList < y.cps.toList)))) : R2J c rLtU (.str x) (.str y) Q := R2J.inr fun hd H v w dom mh bb r1 r2 Qh q => by
  cases r1
  cases r2
  exact ⟨x, y, rfl, rfl, kv_here q bb h (.bl _)⟩
theorem le_s (h : Q (.bl (!decide (y.cps.toList < x.cps.toList)))) : R2J c rLeU (.str x) (.str y) Q := R2J.inr fun hd H v w dom mh bb r1 r2 Qh q => by
  cases r1
  cases r2
  exact ⟨x, y, rfl, rfl, kv_here q bb h (.bl _)⟩
theorem gt_s (h : Q (.bl (decide (y.cps.toList < x.cps.toList)))) : R2J c rGtU (.str x) (.str y) Q := R2J.inr fun hd H v w dom mh bb r1 r2 Qh q => by
  cases r1
  cases r2
  exact ⟨x, y, rfl, rfl, kv_here q bb h (.bl _)⟩
theorem ge_s (h : Q (.bl (!decide (x.cps.toList < y.cps.toList)))) : R2J c rGeU (.str x) (.str y) Q := R2J.inr fun hd H v w dom mh bb r1 r2 Qh q => by
  cases r1
  cases r2
  exact ⟨x, y, rfl, rfl, kv_here q bb h (.bl _)⟩
theorem add_s (hz : x.length + y.length ≤ 100000) (h : Q (.str (x ++ y))) : R2J c (rAddU c.K) (.str x) (.str y) Q := R2J.inr (R2J.inl fun hd H v w dom mh bb r1 r2 Qh q => by
  cases r1
  cases r2
  exact ⟨x, y, rfl, rfl, Evl.sz_of hz, kv_here q bb h (.str _)⟩)
theorem notin_c {k : Nat} (h : Q (.bl (!decide (k ∈ y.cps.toList)))) : R2J c (rNotInU c.K) (.str ⟨#[k]⟩) (.str y) Q := R2J.inr fun hd H v w dom mh bb r1 r2 Qh q => by
  cases r1
  cases r2
  exact ⟨k, y, rfl, rfl, kv_here q bb h (.bl _)⟩
theorem in_c {k : Nat} (h : Q (.bl (decide (k ∈ y.cps.toList)))) : R2J c (rInU c.K) (.str ⟨#[k]⟩) (.str y) Q := R2J.inr fun hd H v w dom mh bb r1 r2 Qh q => by
  cases r1
  cases r2
  exact ⟨k, y, rfl, rfl, kv_here q bb h (.bl _)⟩
variable {ρ : List Sl} {te ty tx : TE} {tl th : TO}
theorem ev_slS (h : EV c te ρ (StrJ fun x => x.length ≤ 100000 ∧ EVO c tl ρ fun lo => EVO c th ρ fun hi => Q (.str (cutS x lo hi)))) : EV c (tSl rSlS te tl th) ρ Q := fun hd H σ v Qh q => h hd H σ v _ fun d u H1 h1 e1 b1 r1 => by
  cases d with
  | str x =>
    cases r1
    exact h1.2 hd H1 σ (v.go e1 b1) _ fun lo H2 h2 e2 b2 => h2 hd H2 σ (v.go (e1.trans e2) b2) _ fun hi H3 h3 e3 b3 => ⟨x, rfl, Evl.sz_of h1.1, q _ _ H3 h3 ((e1.trans e2).trans e3) b3 (.str _)⟩
  | _ => exact h1.elim
def chrs (x : Str) : List Dt := x.cps.toList.map fun k => Dt.str ⟨#[k]⟩
theorem ij_str {QI : List Dt → Prop} (h : EV c te ρ (StrJ fun x => QI (chrs x))) : IJ c (iStr te) ρ QI := fun hd H σ v R q => h hd H σ v _ fun d u H1 h1 e1 b1 r1 => by
  cases d with
  | str x =>
    cases r1
    have hl : (chrs x).length = x.cps.size := by unfold chrs; rw [List.length_map, Array.length_toList]
    refine ⟨x, rfl, q (chrs x) _ H1 h1 e1 b1 ⟨fun i H2 hs hi => by rw [hl] at hi; exact hi, fun i H2 y H3 d hs hd hy => ?_, fun i H2 hs hi => by show x.cps.size ≤ i; omega⟩⟩
    obtain ⟨rfl, k, hk, rfl⟩ := hy
    refine ⟨.refl, fun hd2 _ _ => ?_⟩
    unfold chrs at hd
    rw [List.getElem?_map, Array.getElem?_toList, hk] at hd
    cases hd
    exact .str _
  | _ => exact h1.elim
def rJoin (K : PySem.W.Frag) : V → List V → Hp → VK → Prop := fun x xs H Q => ∃ a p, ∃ ys : List Str, x = .str a ∧ xs = [.ref p] ∧ (SqL K H p (ys.map V.str) ∨ SqT K H p (ys.map V.str)) ∧ (ys.map (·.length)).sum + ys.length * a.length ≤ 16777216 ∧ Q (.str (Txt.join a ys)) H
theorem mt_joinU {X : Cx} : MtR X "str.join" (rJoin X.K) := mt_join
theorem ev_join {K : PySem.W.Frag} (hK : K = c.K) (h : EV c te ρ (StrJ fun a => EV c ty ρ fun d => ∃ ys : List Str, d = .lst (ys.map Dt.str) ∧ (ys.map (·.length)).sum + ys.length * a.length ≤ 16777216 ∧ Q (.str (Txt.join a ys)))) : EV c (tBM K "str" (rJoin K) te (tCons ty tNil)) ρ Q := fun hd H σ v Qh q => h hd H σ v _ fun d u H1 h1 e1 b1 r1 => by
  subst hK
  cases d with
  | str a =>
    cases r1
    refine ⟨rfl, h1 hd H1 σ (v.go e1 b1) _ fun d2 u2 H2 h2 e2 b2 r2 => ?_⟩
    obtain ⟨ys, rfl, hz, hq⟩ := h2
    cases r2 with
    | lst ha ra =>
      have e := RpAll.strs ra
      subst e
      exact ⟨a, _, ys, rfl, rfl, .inl (.inl (.inl (hm_le ha))), hz, q _ _ H2 hq (e1.trans e2) b2 (.str _)⟩
  | _ => exact h1.elim
end
def tKGet (K : PySem.W.Frag) (d : Addr) (ty tx : TE) : TE := fun σ H Q => ty σ H fun y H1 => tx σ H1 fun z H2 => ∃ (k : Str) (r : Option Value), y = .str k ∧ PySem.W.nsIn K d k = some r ∧ (∀ u, r = some u → ∃ v, RelV v u ∧ Q v H2) ∧ (r = none → Q z H2)
theorem pe_kget {X : Cx} {d : Addr} {es : Array DictEntry} {n : Nat} {o e f : Expr} {apos cpos : Pos} {ty tx : TE} (D : KDict X.K X.w d es n) (ho : PE X o (tC (.ref d))) (he : PE X e ty) (hf : PE X f tx) (m : M2 X o "get" apos e f cpos) : PE X (.Call (.Attribute o "get" apos) [e, f] [] cpos) (tKGet X.K d ty tx) := by
  refine ⟨fun pins s σ H Q I h => ?_⟩
  refine wpAny_Call_method m.base m.few m.line PySem.F.plainAttrs_dict PySem.F.slot_dict_get PySem.F.type_dict_get (thn (ho.run pins s σ H (fun x H1 => x = .ref d ∧ H1 = H) I ⟨rfl, rfl⟩) fun u s1 ⟨x, H1, I1, rx, ex, eH⟩ => ?_)
  subst ex
  subst eH
  obtain rfl : u = Value.ref d := rx
  refine ⟨kd_type D I1, fun b q => ?_, ?_⟩
  · cases q
    exact ⟨_, I1.kIn _ _ D.at_, rfl⟩
  rw [m.trees]
  refine Calls.callWith_builtin rfl (Calls.evalArgs_plain (Calls.spliced_cons (thn (he.run pins s1 σ H1 _ I1 h) fun iv s2 ⟨y, H2, I2, ry, q2⟩ =>
    Calls.spliced_cons (thn (hf.run pins s2 σ H2 _ I2 q2) fun fv s3 ⟨z, H3, I3, rz, k, r, ey, hr, q3, q4⟩ => Calls.spliced_nil ?_))))
  subst ey
  obtain ⟨t, rfl⟩ := ry
  have hm := PySem.W.mapOf_K (prog := X.prog) (w := X.w) I3.kIn D.at_ D.lit
  refine call_meetsIn PySem.F.slot_dict_get hm.typeIs PySem.F.entry_dict_get (PySem.F.args_dict_get_3 _ _ _) (meets_dict_get_default (PySem.strKind X.prog X.w) d (PySem.strKind_is X.prog X.w k t) D.low fv) ⟨_, hm, ?_⟩
  rw [PySem.W.find_K D.at_ hr]
  cases r with
  | none => exact ⟨z, H3, I3.tok _, rz, q4 rfl⟩
  | some u0 =>
    obtain ⟨v, rv, q⟩ := q3 u0 rfl
    exact ⟨v, H3, I3.tok _, rv, q⟩
theorem ev_kget {c : Cn} {ρ : List Sl} {d : Addr} {ty tx : TE} {Q : Dt → Prop} {kvs : List (Str × Str)} (hv : ∀ q ∈ kvs, ∃ u, PySem.W.nsIn c.K d q.1 = some (some u) ∧ RelV (.str q.2) u) (h : EV c ty ρ (StrJ fun k => EV c tx ρ fun _ => ∃ z, (k, z) ∈ kvs ∧ Q (.str z))) : EV c (tKGet c.K d ty tx) ρ Q := fun hd H σ v Qh q => h hd H σ v _ fun d u H1 h1 e1 b1 r1 => by
  cases d with
  | str k =>
    cases r1
    refine h1 hd H1 σ (v.go e1 b1) _ fun d2 u2 H2 h2 e2 b2 r2 => ?_
    obtain ⟨z, hz, hq⟩ := h2
    obtain ⟨u, h3, h4⟩ := hv _ hz
    refine ⟨k, some u, rfl, h3, fun u' hu' => ?_, fun hn => nomatch hn⟩
    cases hu'
    exact ⟨.str z, h4, q _ _ H2 hq (e1.trans e2) b2 (.str _)⟩
  | _ => exact h1.elim
end CC
namespace CC
open PySem PySem.Spec PyProof.Rows L2
open C8 (Cal pe_c pe_gc)
end CC
namespace CC
open PySem PySem.Spec PyProof.Rows L2
open C8 (Cal pe_c pe_gc)
end CC
namespace CC
open PySem PySem.Spec PyProof.Rows L2
open C8 (Cal pe_c pe_gc)
end CC
namespace CC
open PySem PySem.Spec PyProof.Rows L2
open C8 (Cal pe_c pe_gc)
def Wk (d d' : Dt) : Prop := ∀ K G v, Rp K G v d → Rp K G v d'
inductive WkA : List Dt → List Dt → Prop
  | nil : WkA [] []
  | cons {d d' : Dt} {ds ds' : List Dt} : Wk d d' → WkA ds ds' → WkA (d :: ds) (d' :: ds')
theorem Wk.rfl {d : Dt} : Wk d d := fun _ _ _ h => h
theorem WkA.rfl : ∀ {ds : List Dt}, WkA ds ds
  | [] => .nil
  | _ :: _ => .cons Wk.rfl WkA.rfl
theorem Wk.trans {a b d : Dt} (h : Wk a b) (k : Wk b d) : Wk a d := fun K G v r => k K G v (h K G v r)
theorem WkA.all {K : PySem.W.Frag} {G : Hp} : ∀ {ds ds' : List Dt} {vs : List V}, WkA ds ds' → RpAll K G vs ds → RpAll K G vs ds'
  | _, _, _, .nil, .nil => .nil
  | _, _, _, .cons h t, .cons r s => .cons (h _ _ _ r) (t.all s)
section
variable {c : Cn} {ρ : List Sl} {te to : TE} {Q : Dt → Prop} {QL : List Dt → Prop}
def rTupP (K : PySem.W.Frag) : List V → Hp → VK → Prop := fun xs H Q => ∃ p ys, xs = [.ref p] ∧ SqL K H p ys ∧ ∀ (l : Addr) (ob : Obj), H l = none → ob.cls = .type "tuple" → ob.dict = none → Q (.ref l) (upd H l (.frz ob (.tup ys)))
theorem tuple_lp {ds : List Dt} (h : Q (.ptup ds)) : RCJ c (rTupP c.K) [.lst ds] Q := fun hd H vs dom mh bb r Qh q => by
  obtain ⟨v, rfl, r1⟩ := rp1 r
  cases r1 with
  | @lst a xs _ ha ra =>
    refine ⟨_, _, rfl, .inl (.inl (hm_le ha)), fun l ob hl h1 h2 => ?_⟩
    have en : Ex none0 H (upd H l (.frz ob (.tup xs))) := .new hl
    refine q _ _ _ h en.up (c.keep0 en bb) (.ptup h1 h2 ?_ (ra.mono (en.sees (fun _ h => nomatch h))))
    rw [hm_of (fresh_hd dom hl), upd_same]
end
end CC
namespace CC
open PySem
abbrev Stt := List (Nat × Nat)
inductive Sep : Nat → Stt → Nat → Prop
  | nil {lo hi : Nat} : Sep lo [] hi
  | cons {lo hi b e : Nat} {l : Stt} : lo ≤ b → b < e → e ≤ hi → Sep (e + 1) l hi → Sep lo ((b, e) :: l) hi
inductive WSep : Nat → Stt → Nat → Prop
  | nil {lo hi : Nat} : WSep lo [] hi
  | cons {lo hi b e : Nat} {l : Stt} : lo ≤ b → b < e → e ≤ hi → WSep e l hi → WSep lo ((b, e) :: l) hi
def inl (p : Nat) (l : Stt) : Prop := ∃ q ∈ l, q.1 ≤ p ∧ p < q.2
structure Rn (l : Stt) (f : Nat → Bool) (n : Nat) : Prop where
  sep : Sep 0 l n
  mem : ∀ p, p < n → (f p = true ↔ inl p l)
theorem inl_nil {p : Nat} : ¬ inl p [] := fun ⟨_, h, _⟩ => nomatch h
theorem inl_cons {p b e : Nat} {l : Stt} : inl p ((b, e) :: l) ↔ (b ≤ p ∧ p < e) ∨ inl p l := by
  constructor
  · rintro ⟨q, hq, h1, h2⟩
    rcases List.mem_cons.mp hq with rfl | hq
    · exact .inl ⟨h1, h2⟩
    · exact .inr ⟨q, hq, h1, h2⟩
  · rintro (⟨h1, h2⟩ | ⟨q, hq, h1, h2⟩)
    · exact ⟨_, List.mem_cons_self, h1, h2⟩
    · exact ⟨q, List.mem_cons_of_mem _ hq, h1, h2⟩
theorem Sep.mono {lo lo' hi hi' : Nat} (h1 : lo' ≤ lo) (h2 : hi ≤ hi') : ∀ {l : Stt}, Sep lo l hi → Sep lo' l hi'
  | _, .nil => .nil
  | _, .cons a b c t => .cons (by omega) b (by omega) (t.mono (Nat.le_refl _) h2)
theorem WSep.mono {lo lo' hi hi' : Nat} (h1 : lo' ≤ lo) (h2 : hi ≤ hi') : ∀ {l : Stt}, WSep lo l hi → WSep lo' l hi'
  | _, .nil => .nil
  | _, .cons a b c t => .cons (by omega) b (by omega) (t.mono (Nat.le_refl _) h2)
theorem Sep.weak : ∀ {lo hi : Nat} {l : Stt}, Sep lo l hi → WSep lo l hi
  | _, _, _, .nil => .nil
  | _, _, _, .cons a b c t => .cons a b c (t.weak.mono (Nat.le_succ _) (Nat.le_refl _))
theorem WSep.bd : ∀ {lo hi : Nat} {l : Stt}, WSep lo l hi → ∀ q ∈ l, lo ≤ q.1 ∧ q.1 < q.2 ∧ q.2 ≤ hi
  | _, _, _, .nil, _, h => nomatch h
  | _, _, _, .cons a b c t, q, h => by
    rcases List.mem_cons.mp h with rfl | h
    · exact ⟨a, b, c⟩
    · have := t.bd q h
      omega
theorem Sep.bd {lo hi : Nat} {l : Stt} (h : Sep lo l hi) : ∀ q ∈ l, lo ≤ q.1 ∧ q.1 < q.2 ∧ q.2 ≤ hi := h.weak.bd
theorem WSep.lt {lo hi p : Nat} {l : Stt} (h : WSep lo l hi) (hp : inl p l) : lo ≤ p ∧ p < hi := by
  obtain ⟨q, hq, h1, h2⟩ := hp
  have := h.bd q hq
  omega
theorem Sep.lt {lo hi p : Nat} {l : Stt} (h : Sep lo l hi) (hp : inl p l) : lo ≤ p ∧ p < hi := h.weak.lt hp
theorem Rn.lt {l : Stt} {f : Nat → Bool} {n p : Nat} (h : Rn l f n) (hp : inl p l) : p < n := (h.sep.lt hp).2
theorem sep_uniq : ∀ {l m : Stt} {lo hi : Nat}, Sep lo l hi → Sep lo m hi → (∀ p, inl p l ↔ inl p m) → l = m
  | [], [], _, _, _, _, _ => rfl
  | [], (b, e) :: m, _, _, _, .cons a c d t, h => absurd ((h b).mpr (inl_cons.mpr (.inl ⟨Nat.le_refl _, c⟩))) inl_nil
  | (b, e) :: l, [], _, _, .cons a c d t, _, h => absurd ((h b).mp (inl_cons.mpr (.inl ⟨Nat.le_refl _, c⟩))) inl_nil
  | (b, e) :: l, (b', e') :: m, lo, hi, .cons a c d t, .cons a' c' d' t', h => by
    have key : ∀ {b e b' e' : Nat} {l m : Stt} {hi : Nat}, b < e → Sep (e' + 1) m hi → (inl b ((b', e') :: m)) → b' < e' → b' ≤ b := by
      intro b e b' e' l m hi h1 h2 h3 h4
      rcases inl_cons.mp h3 with h3 | h3
      · exact h3.1
      · have := h2.lt h3
        omega
    have hb : b = b' := Nat.le_antisymm (key (e := e') c' t ((h b').mpr (inl_cons.mpr (.inl ⟨Nat.le_refl _, c'⟩))) c (l := m)) (key (e := e) c t' ((h b).mp (inl_cons.mpr (.inl ⟨Nat.le_refl _, c⟩))) c' (l := l))
    subst hb
    have key2 : ∀ {e e' : Nat} {l m : Stt}, b < e → Sep (e + 1) l hi → Sep (e' + 1) m hi → (∀ p, inl p ((b, e) :: l) ↔ inl p ((b, e') :: m)) → e' ≤ e := by
      intro e e' l m h1 h2 h3 h4
      refine Nat.le_of_not_lt fun hlt => ?_
      rcases inl_cons.mp ((h4 e).mpr (inl_cons.mpr (.inl ⟨by omega, hlt⟩))) with h5 | h5
      · omega
      · have := h2.lt h5
        omega
    have he : e = e' := Nat.le_antisymm (key2 c' t' t fun p => (h p).symm) (key2 c t t' h)
    subst he
    rw [sep_uniq t t' fun p => ?_]
    constructor
    · intro hp
      have h1 := t.lt hp
      rcases inl_cons.mp ((h p).mp (inl_cons.mpr (.inr hp))) with h2 | h2
      · omega
      · exact h2
    · intro hp
      have h1 := t'.lt hp
      rcases inl_cons.mp ((h p).mpr (inl_cons.mpr (.inr hp))) with h2 | h2
      · omega
      · exact h2
theorem Rn.uniq {l m : Stt} {f : Nat → Bool} {n : Nat} (h : Rn l f n) (k : Rn m f n) : l = m := sep_uniq h.sep k.sep fun p => by
  constructor
  · intro hp; exact (k.mem p (h.lt hp)).mp ((h.mem p (h.lt hp)).mpr hp)
  · intro hp; exact (h.mem p (k.lt hp)).mp ((k.mem p (k.lt hp)).mpr hp)
theorem Rn.congr {l : Stt} {f g : Nat → Bool} {n : Nat} (h : Rn l f n) (e : ∀ p, p < n → f p = g p) : Rn l g n := ⟨h.sep, fun p hp => by rw [← e p hp]; exact h.mem p hp⟩
theorem Rn.all {n : Nat} (hn : 0 < n) : Rn [(0, n)] (fun _ => true) n := ⟨.cons (Nat.le_refl _) hn (Nat.le_refl _) .nil, fun p hp => ⟨fun _ => ⟨_, List.mem_cons_self, Nat.zero_le _, hp⟩, fun _ => rfl⟩⟩
theorem Rn.none {n : Nat} : Rn [] (fun _ => false) n := ⟨.nil, fun p hp => ⟨fun h => (by cases h), fun h => absurd h inl_nil⟩⟩
def placesL (l : Stt) : List Nat := l.flatMap fun q => (List.range (q.2 - q.1)).map (q.1 + ·)
def countL (l : Stt) : Nat := (l.map fun q => q.2 - q.1).sum
theorem places_len (l : Stt) : (placesL l).length = countL l := by
  unfold placesL countL
  induction l with
  | nil => rfl
  | cons q r ih => rw [List.flatMap_cons, List.length_append, ih, List.map_cons, List.sum_cons, List.length_map, List.length_range]
theorem mem_places {l : Stt} {p : Nat} : p ∈ placesL l ↔ inl p l := by
  unfold placesL inl
  rw [List.mem_flatMap]
  constructor
  · rintro ⟨q, hq, h⟩
    obtain ⟨i, hi, rfl⟩ := List.mem_map.mp h
    have := List.mem_range.mp hi
    exact ⟨q, hq, by omega, by omega⟩
  · rintro ⟨q, hq, h1, h2⟩
    exact ⟨q, hq, List.mem_map.mpr ⟨p - q.1, List.mem_range.mpr (by omega), by omega⟩⟩
theorem places_pw : ∀ {lo hi : Nat} {l : Stt}, WSep lo l hi → (placesL l).Pairwise (· < ·)
  | _, _, _, .nil => .nil
  | lo, hi, _, .cons (b := b) (e := e) (l := l) a c d t => by
    show ((List.range (e - b)).map (b + ·) ++ placesL l).Pairwise (· < ·)
    rw [List.pairwise_append]
    refine ⟨?_, places_pw t, fun x hx y hy => ?_⟩
    · rw [List.pairwise_map]
      exact List.pairwise_lt_range.imp fun h => by omega
    · obtain ⟨i, hi, rfl⟩ := List.mem_map.mp hx
      have := List.mem_range.mp hi
      have := t.lt (mem_places.mp hy)
      omega
theorem pwN_eq : ∀ {us ws : List Nat}, us.Pairwise (· < ·) → ws.Pairwise (· < ·) → (∀ k, k ∈ us ↔ k ∈ ws) → us = ws
  | [], [], _, _, _ => rfl
  | [], w :: ws, _, _, h => absurd ((h w).mpr List.mem_cons_self) (by simp)
  | u :: us, [], _, _, h => absurd ((h u).mp List.mem_cons_self) (by simp)
  | u :: us, w :: ws, hu, hw, h => by
    obtain ⟨h1, h2⟩ := List.pairwise_cons.mp hu
    obtain ⟨h3, h4⟩ := List.pairwise_cons.mp hw
    have e : u = w := by
      rcases List.mem_cons.mp ((h u).mp List.mem_cons_self) with q | q
      · exact q
      · rcases List.mem_cons.mp ((h w).mpr List.mem_cons_self) with q2 | q2
        · exact q2.symm
        · have := h3 u q
          have := h1 w q2
          omega
    subst e
    rw [pwN_eq h2 h4 fun k => ?_]
    constructor
    · intro hk
      rcases List.mem_cons.mp ((h k).mp (List.mem_cons_of_mem _ hk)) with q | q
      · have := h1 k hk; omega
      · exact q
    · intro hk
      rcases List.mem_cons.mp ((h k).mpr (List.mem_cons_of_mem _ hk)) with q | q
      · have := h3 k hk; omega
      · exact q
theorem Rn.places {l : Stt} {f : Nat → Bool} {n : Nat} (h : Rn l f n) : placesL l = (List.range n).filter f := by
  refine pwN_eq (places_pw h.sep.weak) (List.pairwise_lt_range.filter _) fun k => ?_
  rw [mem_places, List.mem_filter, List.mem_range]
  constructor
  · intro hk; exact ⟨h.lt hk, (h.mem k (h.lt hk)).mpr hk⟩
  · rintro ⟨h1, h2⟩; exact (h.mem k h1).mp h2
theorem Rn.count {l : Stt} {f : Nat → Bool} {n : Nat} (h : Rn l f n) : countL l = ((List.range n).filter f).length := by rw [← places_len, h.places]
end CC
namespace CC
open PySem
inductive Val where
  | i (n : Int) | s (x : Str)
  deriving DecidableEq
abbrev Row := List Val
def Val.dt : Val → Dt
  | .i n => .int n
  | .s x => .str x
def rowD (r : Row) : Dt := .tup (r.map Val.dt)
def kindS (w : Bool) : Str := if w = true then "word" else "number"
def kindsD (ks : List Bool) : Dt := .tup (ks.map fun w => .str (kindS w))
def WordOk (x : Str) : Prop := x.length ≤ 6 ∧ ∀ k ∈ x.cps.toList, 97 ≤ k ∧ k ≤ 122
def ValOk (w : Bool) : Val → Prop
  | .i n => w = false ∧ -9999 ≤ n ∧ n ≤ 9999
  | .s x => w = true ∧ WordOk x
structure KindsOk (ks : List Bool) : Prop where
  pos : 1 ≤ ks.length
  le : ks.length ≤ 4
structure RowOk (ks : List Bool) (r : Row) : Prop where
  len : r.length = ks.length
  val : ∀ (k : Nat) (w : Bool) (v : Val), ks[k]? = some w → r[k]? = some v → ValOk w v
inductive Cd where
  | all | no (c : Cd) | and (a b : Cd) | or (a b : Cd) | is (k : Nat) (v : Val) | less (k : Nat) (v : Val) | within (k : Nat) (v w : Val) | begins (k : Nat) (x : Str)
def Cd.dt : Cd → Dt
  | .all => .tup [.str "all"]
  | .no c => .tup [.str "not", c.dt]
  | .and a b => .tup [.str "and", a.dt, b.dt]
  | .or a b => .tup [.str "or", a.dt, b.dt]
  | .is k v => .tup [.str "is", .int (k : Nat), v.dt]
  | .less k v => .tup [.str "less", .int (k : Nat), v.dt]
  | .within k v w => .tup [.str "within", .int (k : Nat), v.dt, w.dt]
  | .begins k x => .tup [.str "begins", .int (k : Nat), .str x]
def Cd.count : Cd → Nat
  | .no c => 1 + c.count
  | .and a b => 1 + a.count + b.count
  | .or a b => 1 + a.count + b.count
  | _ => 1
def Cd.deep : Cd → Nat
  | .no c => 1 + c.deep
  | .and a b => 1 + max a.deep b.deep
  | .or a b => 1 + max a.deep b.deep
  | _ => 0
def Cd.Fits (ks : List Bool) : Cd → Prop
  | .all => True
  | .no c => c.Fits ks
  | .and a b => a.Fits ks ∧ b.Fits ks
  | .or a b => a.Fits ks ∧ b.Fits ks
  | .is k v => ∃ w, ks[k]? = some w ∧ ValOk w v
  | .less k v => ∃ w, ks[k]? = some w ∧ ValOk w v
  | .within k v u => ∃ w, ks[k]? = some w ∧ ValOk w v ∧ ValOk w u
  | .begins k x => ks[k]? = some true ∧ WordOk x
structure CdOk (ks : List Bool) (c : Cd) : Prop where
  fits : c.Fits ks
  few : c.count ≤ 15
  flat : c.deep ≤ 7
def pre (x : Str) : Val → Bool
  | .s y => decide (y.cps.toList.take x.length = x.cps.toList)
  | _ => false
inductive Pt where
  | qq (c : Cd) | cc (k : Nat) | vv (x : Val) | tt (x : Str)
def Pt.dt : Pt → Dt
  | .qq c => c.dt
  | .cc k => .int (k : Nat)
  | .vv x => x.dt
  | .tt x => .str x
def Cd.word : Cd → Str
  | .all => "all"
  | .no _ => "not"
  | .and _ _ => "and"
  | .or _ _ => "or"
  | .is _ _ => "is"
  | .less _ _ => "less"
  | .within _ _ _ => "within"
  | .begins _ _ => "begins"
def Cd.pts : Cd → List Pt
  | .all => []
  | .no c => [.qq c]
  | .and a b => [.qq a, .qq b]
  | .or a b => [.qq a, .qq b]
  | .is k v => [.cc k, .vv v]
  | .less k v => [.cc k, .vv v]
  | .within k v w => [.cc k, .vv v, .vv w]
  | .begins k x => [.cc k, .tt x]
theorem Cd.dt_pts (c : Cd) : c.dt = .tup (.str c.word :: c.pts.map Pt.dt) := by cases c <;> rfl
theorem Cd.pts_len (c : Cd) : c.pts.length ≤ 3 := by cases c <;> simp [Cd.pts]
def wordB (x : Str) : Bool := decide (x.length ≤ 6) && x.cps.toList.all fun k => decide (97 ≤ k ∧ k ≤ 122)
theorem wordB_iff {x : Str} : wordB x = true ↔ WordOk x := by
  unfold wordB WordOk
  rw [Bool.and_eq_true, decide_eq_true_eq, List.all_eq_true]
  simp only [decide_eq_true_eq]
def isWordD : Dt → Bool
  | .str x => wordB x
  | _ => false
def isValD (w : Bool) (d : Dt) : Bool := if w = true then isWordD d else match d with
  | .int n => decide (-9999 ≤ n ∧ n ≤ 9999)
  | _ => false
def flatD : Dt → Bool
  | .non => true
  | .bl _ => true
  | .int _ => true
  | .str x => decide (x.length ≤ 100000) && PyData.strOk x
  | .lst _ => true
  | .tup _ => true
  | _ => false
theorem word_str {x : Str} (h : WordOk x) : PyData.strOk x = true := by
  unfold PyData.strOk
  rw [← Array.all_toList, List.all_eq_true]
  intro k hk
  have := h.2 k hk
  exact decide_eq_true (by omega)
theorem word_flat {x : Str} (h : WordOk x) : flatD (.str x) = true := by
  show (decide (x.length ≤ 100000) && PyData.strOk x) = true
  rw [word_str h, decide_eq_true (by have := h.1; omega)]; rfl
end CC
namespace CC
open PySem PySem.Spec PyProof.Rows L2
open LamX (CodeO TabS TabB lamEnv lamCx inv_table among_app codeO_ne)
def big (s : Shared) (H : Hp) (l : List Env) : Heap := PySem.W.hideAll s.heap (trk s.heap H ++ frs l)
section
variable {X : Cx} {pins : List (Addr × Obj)} {σ : L2.St} {H : Hp} {s : Shared}
theorem big_get {b : Addr} {o : Obj} {l : List Env} (e : s.heap.get? b = some o) (n : H b = none) (hf : b ∉ frs l) : (big s H l).get? b = some o :=
  PySem.W.hideAll_get _ e fun hm => by
    rcases List.mem_append.mp hm with hm | hm
    · have := (List.mem_filter.mp hm).2
      rw [n] at this; cases this
    · exact hf hm
theorem big_of {b : Addr} {o : Obj} {l : List Env} (e : (big s H l).get? b = some o) : s.heap.get? b = some o ∧ H b = none := by
  have e' := PySem.W.of_hideAll _ e
  refine ⟨e', ?_⟩
  cases q : H b with
  | none => rfl
  | some x =>
    have hm : b ∈ trk s.heap H := List.mem_filter.mpr ⟨List.mem_range.mpr (Heap.lt_size e'), by simp [q]⟩
    have z : (big s H l).get? b = none := PySem.W.hideAll_none _ (List.mem_append_left _ hm)
    rw [z] at e; cases e
theorem env0_big (I : Inv X pins σ H s) : Env0 X.prog X.w X.K X.mg (big s H X.stack) X.A X.stack s H := by
  have kp : ∀ b o, X.base.get? b = some o → (big s H X.stack).get? b = some o := fun b o e => by
    refine big_get (I.bs b o e).1 (I.bs b o e).2 fun hb => ?_
    have := (I.stack.mem hb).1
    rw [e] at this; cases this
  obtain ⟨mb, h1, h2⟩ := I.mod.blt
  refine ⟨I.ok.frames, ⟨I.mod.kin.keeps kp, I.mod.glob.keeps kp, ⟨mb, h1.keeps kp, h2⟩, I.mod.nolimit.keeps kp⟩, fun b o e => big_of e, ?_, ?_, I.stkFree, I.hok, I.bare⟩
  · unfold big; rw [PySem.W.hideAll_size]; exact Nat.le_refl _
  · exact PySem.W.funFrames_hide I.stack fun env he a ha => List.mem_append_right _ (List.mem_filterMap.mpr ⟨env, he, ha⟩)
theorem big_cell (I : Inv X pins σ H s) (hfn : ∀ y, X.fn y = true) {y : Str} {c : Addr} {o : Obj} (hc : X.env.cells.lookup y = some c) (ho : s.heap.get? c = some o) : (big s H X.stack).get? c = some o := by
  refine big_get ho (I.freeC y c hc) fun hb => ?_
  rcases List.mem_cons.mp (I.stkSub c hb) with e | e
  · exact I.cne y c hc e
  · obtain ⟨_, u, hu, _⟩ := I.ok.funs.mem e
    exact absurd (Nat.lt_of_lt_of_le (Heap.lt_size hu) (I.ok.cab y c (hfn y) hc)) (Nat.lt_irrefl _)
end
structure LamS2 (N : List Str) (sc scope : Scope) (ps : List Str) : Prop where
  kind : scope.kind = .function
  co : scope.isCoroutine = false
  gen : scope.isGenerator = false
  cell : ∀ y ∈ scope.names, y.2 ≠ .cell
  loc : ∀ y ∈ scope.names, y.2 = .local → y.1 ∉ N
  par : ∀ p ∈ ps, scope.names.lookup p = some .local
  free : ∀ y ∈ scope.names, y.2 = .free → sc.names.lookup y.1 = some .cell ∨ sc.names.lookup y.1 = some .free
def lamB2 (N : List Str) (sc scope : Scope) (ps : List Str) : Bool :=
  decide (scope.kind = .function) && (!scope.isCoroutine && (!scope.isGenerator && ((scope.names.all fun y => !decide (y.2 = .cell)) && ((scope.names.all fun y => !decide (y.2 = .local) || !N.contains y.1) &&
    ((ps.all fun p => decide (scope.names.lookup p = some .local)) && scope.names.all fun y => !decide (y.2 = .free) || (decide (sc.names.lookup y.1 = some .cell) || decide (sc.names.lookup y.1 = some .free)))))))
theorem lamS2_by {N : List Str} {sc scope : Scope} {ps : List Str} (h : lamB2 N sc scope ps = true) : LamS2 N sc scope ps := by
  unfold lamB2 at h
  simp only [Bool.and_eq_true, Bool.or_eq_true, Bool.not_eq_true', decide_eq_true_eq, decide_eq_false_iff_not, List.all_eq_true] at h
  obtain ⟨h1, h2, h3, h4, h5, h6, h7⟩ := h
  refine ⟨h1, h2, h3, h4, fun y hy e hm => ?_, h6, fun y hy e => ?_⟩
  · rcases h5 y hy with z | z
    · exact z e
    · rw [List.contains_iff_mem.mpr hm] at z; cases z
  · rcases h7 y hy with z | z
    · exact absurd e z
    · exact z
theorem LamS2.has {X : Cx} {scope : Scope} {ps : List Str} (L : LamS2 X.N X.env.scope scope ps) (ok : X.Ok) : ∀ y ∈ scope.names, y.2 = .free → ∃ c, X.env.cells.lookup y.1 = some c := fun y hy e => by
  rcases L.free y hy e with k | k
  · exact ok.has _ (.inl k)
  · exact ok.has _ (.inr k)
abbrev lamCxB (X : Cx) (B : Heap) (A : Around) (outer : List Env) (s : Shared) (H : Hp) (E : XK) (scope : Scope) (f c' : Addr) : Cx := { lamCx X A outer s H E scope f c' with base := B }
section
variable {X : Cx} {pins : List (Addr × Obj)} {σ : L2.St} {H HZ : Hp} {s s1 : Shared}
theorem lam_start3 {B : Heap} {A : Around} {outer : List Env} {E : XK} {scope : Scope} {ps : List Str} {f c' : Addr} {h₁ : Heap} {tk : Nat} {m : Str → Option Value} (I : Inv X pins σ H s) (L : LamS2 X.N X.env.scope scope ps)
    (hB : ∀ y c o, X.env.cells.lookup y = some c → s.heap.get? c = some o → B.get? c = some o) (e0 : Env0 X.prog X.w X.K X.mg B A outer s1 HZ) (hd : A.handled = none)
    (hns : h₁.Ns s1.heap.objs.size m) (kp : ∀ b o, s1.heap.get? b = some o → h₁.get? b = some o) :
    Inv (lamCxB X B A outer s1 HZ E scope f c') [] σ HZ { s1 with heap := h₁, toks := tk } := by
  have hfree := L.has I.ok
  have cm : ∀ {y c}, (cloFrom X.env.cells scope.names []).lookup y = some c → X.env.cells.lookup y = some c := fun {y c} e => by
    rcases cloFrom_mem (PySem.mem_of_lookup e) with hm | ⟨h1, h2⟩
    · cases hm
    · obtain ⟨c1, hc⟩ := hfree _ h1 rfl
      have hc : X.env.cells.lookup y = some c1 := hc
      rw [h2, hc] <;> rfl
  have look : ∀ {y}, scope.names.lookup y = some .free → ∃ c, (cloFrom X.env.cells scope.names []).lookup y = some c := fun {y} hl =>
    mem_lookup (cloFrom_has (cells := X.env.cells) (acc := []) (PySem.mem_of_lookup hl))
  have cell1 : ∀ {y : Str} {c : Addr} {v : Option Value}, X.env.cells.lookup y = some c → s.heap.IsCell c v → h₁.IsCell c v ∧ HZ c = none := fun {y c v} hc ⟨o, ho, hd⟩ => by
    obtain ⟨q1, q2⟩ := e0.bs c o (hB y c o hc ho)
    exact ⟨⟨o, kp _ _ q1, hd⟩, q2⟩
  have noA : ∀ b : Addr, b ∉ (lamCxB X B A outer s1 HZ E scope f c').ex := fun b z => nomatch (show b ∈ ([] : List Addr) from z)
  refine ⟨⟨e0.mod, L.kind, rfl, rfl, Nat.le_refl _, fun y z c e1 e2 => I.ok.inj y z c (cm e1) (cm e2), fun y hy => ?_, fun y c z _ => (Bool.false_ne_true z).elim, fun _ => hd, Around.frames_deeper e0.frames, .inr ⟨rfl, rfl⟩, fun b z => absurd z (noA b), e0.bs, e0.bsz, fun b _ _ => noA b,
      fun b z => absurd z (noA b), e0.funs, e0.frf⟩,
    rfl, e0.bare, Un.kept kp, ⟨_, hns, fun i y v e1 e2 e3 => ?_⟩, fun y c e => ?_, e0.hok.fresh (Nat.le_refl _), fun y c e => ?_, fun q hq => (List.not_mem_nil (show q ∈ ([] : List (Addr × Obj)) from hq)).elim, e0.hok.kept kp, I.len⟩
  · rcases (show scope.names.lookup y = some .cell ∨ scope.names.lookup y = some .free from hy) with hy | hy
    · exact absurd rfl (L.cell _ (PySem.mem_of_lookup hy))
    · exact look hy
  · rcases (show Vis scope y from e3) with k | k | k
    · exact absurd (List.mem_of_getElem? e1) (L.loc _ (PySem.mem_of_lookup k) rfl)
    · exact absurd rfl (L.cell _ (PySem.mem_of_lookup k))
    · obtain ⟨m', hn, hl⟩ := I.loc
      have kk := L.free _ (PySem.mem_of_lookup k) rfl
      obtain ⟨w', r, q⟩ := hl i y v e1 e2 (kk.elim (fun k => .inr (.inl k)) (fun k => .inr (.inr k)))
      obtain ⟨c2, h2⟩ := look k
      refine ⟨w', r, .inr ⟨.inr k, c2, h2, ?_⟩⟩
      rcases q with ⟨k', _⟩ | ⟨_, c3, e', z⟩
      · have k' : X.env.scope.names.lookup y = some .local := k'
        rcases kk with k2 | k2 <;> rw [show X.env.scope.names.lookup y = _ from k2] at k' <;> cases k'
      · rw [cm h2] at e'
        cases e'
        exact (cell1 (cm h2) z).1
  · obtain ⟨w', z⟩ := I.cell y c (cm e)
    exact ⟨w', (cell1 (cm e) z).1⟩
  · obtain ⟨w', z⟩ := I.cell y c (cm e)
    exact (cell1 (cm e) z).2
end
abbrev lamFd (q : Str) (params : Arguments) (body : Expr) (scope : Scope) (cl : List (Str × Addr)) (dV pm cdv ct : Value) : FuncData :=
  { name := "<lambda>", qualname := q, params, body := .expr body, scope, globals := mainGlobals, closure := cl, defaults := dV, kwdefaults := .none, doc := .none, pyModule := pm, annotations := none, code := cdv, closureTuple := ct, builtins := builtinsNs }
abbrev lamOb (q : Str) (params : Arguments) (body : Expr) (scope : Scope) (cl : List (Str × Addr)) (dV pm cdv ct : Value) : Obj := { cls := .type "function", data := .func (lamFd q params body scope cl dV pm cdv ct) }
def LamO (f : Addr) (o : Obj) : HO := .ext fun h => h.get? f = some o
def DefO (T : Addr) (n : Nat) : HO := .ext fun h => ∃ (o : Obj) (its : Array Value) (m : Nat), h.get? T = some o ∧ o.data = .seq its m ∧ its.size = n
def Act (P : Program) (w : World) (K : PySem.W.Frag) (mg : Str → Option Value) (B : Heap) (k : Nat) (f : Addr) (sp : Hp → VK → XK → Prop) : Prop :=
  (∀ H Q E, sp H Q E → ∃ q params body scope cl dV pm cdv ct, H f = some (LamO f (lamOb q params body scope cl dV pm cdv ct))) ∧
  ∀ (A : Around) (outer : List Env) (s : Shared) (H : Hp) (Q : VK) (E : XK), Room k A → Env0 P w K mg B A outer s H → sp H Q E → codeAny (model P w) A (.call (.ref f) ⟨[], []⟩) (CR (L2.CX P w) outer P w H s Q E) s
def FillsD (params : Arguments) (body : Expr) (scope : Scope) (ps : List Str) : Prop := ∀ (q : Str) (cl : List (Str × Addr)) (T : Addr) (pm cdv ct : Value) (its : List Value), its.length = ps.length →
  ∃ k, bindArgs (lamFd q params body scope cl (.ref T) pm cdv ct) ⟨[], []⟩ = seqItems? (.ref T) >>= k ∧ k (some its.toArray) = pure (ps.zip its)
def FillsN (params : Arguments) (body : Expr) (scope : Scope) : Prop := ∀ (q : Str) (cl : List (Str × Addr)) (pm cdv ct : Value), bindArgs (lamFd q params body scope cl .none pm cdv ct) ⟨[], []⟩ = pure []
def LamAt (f c' : Addr) (q : Str) (o : Obj) (dT : Option (Addr × Nat)) : List (Addr × HO) := (f, LamO f o) :: (c', CodeO c' q) :: (match dT with | none => [] | some (T, n) => [(T, DefO T n)])
section
variable {X : Cx} {pins : List (Addr × Obj)} {σ : L2.St} {H : Hp} {s : Shared}
theorem lam_act {q : Str} {params : Arguments} {body : Expr} {scope : Scope} {ps : List Str} {dV pm ctv : Value} {f c' : Addr} {k : Nat} {t : XK → TE} {dT : Option (Addr × Nat)} (hq : X.env.qual ++ "<lambda>" = q) (I : Inv X pins σ H s) (hfn : ∀ y, X.fn y = true) (L : LamS2 X.N X.env.scope scope ps)
    (hD : (dT = none ∧ dV = .none ∧ FillsN params body scope) ∨ (∃ T, dT = some (T, ps.length) ∧ dV = .ref T ∧ FillsD params body scope ps))
    (hbody : ∀ (A : Around) (outer : List Env) (s' : Shared) (H' : Hp) (E : XK), Room k (A.deeper (lamEnv X scope s'.heap.objs.size f c')) → PE (lamCxB X (big s H X.stack) A outer s' H' E scope f c') body (t E)) :
    Act X.prog X.w X.K X.mg (big s H X.stack) (k + 1) f (fun H' Q E => (∀ p ∈ LamAt f c' q (lamOb q params body scope (cloFrom X.env.cells scope.names []) dV pm (.ref c') ctv) dT, H' p.1 = some p.2) ∧ t E σ H' Q) := by
  subst hq
  refine ⟨fun H' Q E h => ⟨_, _, _, _, _, _, _, _, _, h.1 _ List.mem_cons_self⟩, fun A outer s1 H1 Q E hr e0 h => ?_⟩
  obtain ⟨hL, ht⟩ := h
  obtain ⟨of1, _, _⟩ := e0.hok f _ (hL _ List.mem_cons_self)
  obtain ⟨⟨oc, vs, tt, hoc, hdc, hvc⟩, _, _⟩ := e0.hok c' _ (hL (c', CodeO c' (X.env.qual ++ "<lambda>")) (List.mem_cons_of_mem _ List.mem_cons_self))
  have lim : s1.heap.NoLimit := e0.mod.nolimit.keeps fun b o e => (e0.bs b o e).1
  have go : ∀ binds : List (Str × Value), (∀ y ∈ binds, scope.names.lookup y.1 = some .local) → wpAny (model X.prog X.w) A.in1 (newFunctionEnv scope mainGlobals (cloFrom X.env.cells scope.names []) binds (X.env.qual ++ "<lambda>" ++ ".<locals>.") (some f) (.ref c') none builtinsNs)
      (fun env s₂ => s₂.heap.NoLimit ∧ codeAny (model X.prog X.w) A (.expr body env) (CR (L2.CX X.prog X.w) outer X.prog X.w H1 s1 Q E) s₂) (fun e s' => CR (L2.CX X.prog X.w) outer X.prog X.w H1 s1 Q E (.error e) s') s1 := fun binds hbd => by
    refine wpAny_newFunctionEnv L.cell hbd (fun h₁ hns hsb => ⟨lim.fresh _ hsb, ?_⟩) L.kind
    have kp : ∀ b o, s1.heap.get? b = some o → h₁.get? b = some o := fun b o e => hsb.extBut b o (Nat.ne_of_lt (Heap.lt_size e)) (Heap.get?_push_of_some _ e)
    have J := lam_start3 (E := E) (c' := c') (f := f) (tk := s1.toks + binds.length) I L (fun y c o => big_cell I hfn) e0 hr.hd hns kp
    refine PySem.W.kla_codeExpr (wpAny_mono ((hbody A outer s1 H1 E (hr.deeper _)).run [] _ _ H1 Q J ht) (fun v s' hq => ?_) fun e s' hq => hq)
    obtain ⟨w', H', J', rv, q⟩ := hq
    exact ⟨w', H', J'.os, J'.bare, J'.base, J'.hok, rv, q⟩
  refine PySem.W.kla_callFunE hr.depth of1 rfl L.co L.gen rfl ⟨c', oc, vs, tt, rfl, hoc, hdc, hvc⟩ ?_
  rcases hD with ⟨_, rfl, hb⟩ | ⟨T, rfl, rfl, hb⟩
  · rw [hb]
    exact wpAny_pure (go [] (fun y hy => nomatch hy))
  · obtain ⟨⟨o, its, mm, h1, h2, h3⟩, _, _⟩ := e0.hok T _ (hL (T, DefO T ps.length) (by simp [LamAt]))
    obtain ⟨kk, e1, e2⟩ := hb (X.env.qual ++ "<lambda>") (cloFrom X.env.cells scope.names []) T pm (.ref c') ctv its.toList (by simpa using h3)
    rw [e1]
    refine wpAny_bind (wpAny_seqItems h1 h2 ?_)
    rw [show its = its.toList.toArray by simp, e2]
    exact wpAny_pure (go _ fun y hy => L.par y.1 (List.of_mem_zip hy).1)
end
end CC
namespace CC
open PySem PySem.Spec PyProof.Rows L2
open LamX (CodeO TabS TabB lamEnv lamCx inv_table among_app codeO_ne)
open PySem.W (tabObj CodeHd)
section
variable {M : Model} {A : Around} {E : Value → Shared → Prop} {s : Shared} {qual : Str} {params : Arguments} {body : Expr} {scope : Scope} {env : Env} {c P : Addr} {ps : Array Value} {pos : Pos} {firstLine : Nat} {mg : Str → Option Value} {clos : List (Str × Addr)} {Q : Value → Shared → Prop} {dV : Value}
theorem lam_tail (hcl : closureFor scope env = pure clos) (hge0 : env.globals = mainGlobals) (hg : s.heap.Ns mainGlobals mg) (hcode : env.code = .ref c) (C : CodeHd s.heap c P) (hP : s.heap.get? P = some (tabObj ps)) (ht : TriplesOk ps.toList) (hgP : mainGlobals ≠ P) (hb : s.heap.BuiltinsAt mg P)
    (hit : ∀ (cv ctv : Value) (h' : Heap) (tk : Tok), codeAmong pos ps.toList = some cv → (∀ b o, s.heap.get? b = some o → h'.get? b = some o) → s.heap.objs.size ≤ h'.objs.size → Q (.ref h'.objs.size) { s with heap := h'.push (lamOb qual params body scope clos dV ((mg "__name__").getD .none) cv ctv), toks := tk })
    (mis : ∀ c' ctv h' tk, codeAmong pos ps.toList = none → Heap.ExtBut P s.heap h' → s.heap.objs.size ≤ c' → c' < h'.objs.size → h'.CodeRec (.ref c') qual → h'.get? P = some (tabObj (ps ++ #[rawInt pos.line, rawInt pos.col, .ref c'])) →
      Q (.ref h'.objs.size) { s with heap := h'.push (lamOb qual params body scope clos dV ((mg "__name__").getD .none) (.ref c') ctv), toks := tk }) :
    wpAny M A (makeTail "<lambda>" qual params (.expr body) scope env dV .none none pos firstLine) Q E s := by
  obtain ⟨bm, ob, b1, b2, _, b4, b5, b6, b7, b8⟩ := hb
  have rest : ∀ (ctv : Value) (s1 : Shared), s1 = { s with heap := s1.heap } → (∀ b o, s.heap.get? b = some o → s1.heap.get? b = some o) → s.heap.objs.size ≤ s1.heap.objs.size →
      wpAny M A (functionCode env pos firstLine "<lambda>" qual params scope (.expr body) >>= fun cd => builtinsFor mainGlobals env.builtins >>= fun bt => nsGet mainGlobals "__name__" >>= fun pm => (pure Value.none : Sem Value) >>= fun dc =>
        newObj (.type "function") (.func { name := "<lambda>", qualname := qual, params, body := .expr body, scope, globals := mainGlobals, closure := clos, defaults := dV, kwdefaults := .none, doc := dc, pyModule := pm.getD .none, annotations := none, code := cd, closureTuple := ctv, builtins := bt })) Q E s1 := by
    intro ctv s1 e1 k1 z1
    obtain ⟨hh, g1, g2, g3, g4⟩ := s1
    cases e1
    have C1 := C.keeps k1
    have P1 := k1 _ _ hP
    have G1 := hg.keeps k1
    cases hc : codeAmong pos ps.toList with
    | some cv =>
      refine wpAny_bind (wpAny_functionCode_hit hcode (C1.code P1 ht) hc ?_)
      refine wpAny_bind (wpAny_builtinsFor G1 b1 b2 (k1 _ _ b5) b6 b7 b8 ?_)
      refine wpAny_bind (wpAny_nsGet G1 ?_)
      exact wpAny_bind (wpAny_pure (wpAny_newObj_type (hit cv ctv hh _ hc k1 z1) (by size_fits)))
    | none =>
      refine wpAny_bind (wpAny_functionCodeX hcode (C1.code P1 ht) (C1.tab P1) hc fun c' h' tk hx hge hlt _ hrec htb _ => ?_)
      have G2 := G1.extBut hx hgP
      refine wpAny_bind (wpAny_builtinsFor G2 b1 b2 (hx _ _ b4 (k1 _ _ b5)) b6 b7 b8 ?_)
      refine wpAny_bind (wpAny_nsGet G2 ?_)
      exact wpAny_bind (wpAny_pure (wpAny_newObj_type (mis c' ctv h' tk hc (fun b o hb e => hx b o hb (k1 b o e)) (Nat.le_trans z1 hge) hlt hrec htb.2) (by size_fits)))
  unfold makeTail
  rw [hcl, hge0]
  refine wpAny_bind (wpAny_pure ?_)
  cases clos with
  | nil =>
    simp only [List.isEmpty_nil, if_true]
    exact wpAny_bind (wpAny_pure (rest _ s rfl (fun _ _ e => e) (Nat.le_refl _)))
  | cons q r =>
    simp only [List.isEmpty_cons, Bool.false_eq_true, if_false]
    exact wpAny_bind (wpAny_newTextTuple (rest _ _ rfl (fun b o e => Heap.get?_push_of_some _ e) (by rw [Heap.size_push]; omega)))
end
def TabV (hd : Addr → Bool) (H : Hp) (P : Addr) (q : Str) : Prop := ∃ ps : Array Value, H P = some (.tbl ps) ∧ TriplesOk ps.toList ∧ ∀ (pos : Pos) (cv : Value), codeAmong pos ps.toList = some cv → ∃ c, cv = .ref c ∧ Hm hd H c = some (CodeO c q)
theorem TabV.nil {hd : Addr → Bool} {H : Hp} {P : Addr} {q : Str} (h : TabS H P q) (e : ∀ ps, H P = some (.tbl ps) → ps = #[]) : TabV hd H P q := by
  obtain ⟨ps, h1, _, _⟩ := h
  cases e ps h1
  refine ⟨_, h1, trivial, fun pos cv hc => ?_⟩
  have z : codeAmong pos [] = some cv := hc
  simp [codeAmong] at z
theorem TabV.stay {hd hd' : Addr → Bool} {H H' : Hp} {P : Addr} {q : Str} (hP : ∀ o, H P = some o → H' P = some o) (hx : Sees (Hm hd H) (Hm hd' H')) (t : TabV hd H P q) : TabV hd' H' P q := by
  obtain ⟨ps, h1, h2, h3⟩ := t
  refine ⟨ps, hP _ h1, h2, fun pos cv hc => ?_⟩
  obtain ⟨c, e1, e2⟩ := h3 pos cv hc
  obtain ⟨o, e3, e4⟩ := hx _ _ e2
  rw [e4.plain rfl] at e3
  exact ⟨c, e1, e3⟩
theorem TabV.up {hd : Addr → Bool} {H : Hp} {P f : Addr} {q : Str} {o : HO} (hf : H f = none) (t : TabV hd H P q) : TabV hd (upd H f o) P q := by
  refine t.stay (fun u hu => by rw [upd_ne (ne_of_none hu hf)]; exact hu) fun a u hu => ⟨u, ?_, .rfl⟩
  rw [hm_of (hm_not hu), upd_ne (ne_of_none (hm_le hu) hf)]
  exact hm_le hu
def at0 (P : Addr) : Addr → Bool := fun a => decide (a = P)
theorem at0_of {P a : Addr} (h : at0 P a = false) : a ≠ P := fun z => by subst z; unfold at0 at h; rw [decide_eq_true rfl] at h; cases h
section
variable {X : Cx} {pins : List (Addr × Obj)} {σ : L2.St} {H : Hp} {s : Shared} {hd : Addr → Bool} {c P : Addr} {q : Str} {params : Arguments} {body : Expr} {scope : Scope} {pos : Pos} {E : Value → Shared → Prop} {Q : Value → Shared → Prop} {dV : Value}
theorem lam_fin {firstLine : Nat} (I : Inv X pins σ H s) (TB : TabB X.base X.mg c P) (hcode : X.env.code = .ref c) (dom : ∀ a, hd a = true → H a ≠ none) (hT : TabV hd H P q)
    (hfree : ∀ y ∈ scope.names, y.2 = .free → ∃ c, X.env.cells.lookup y.1 = some c)
    (h : ∀ (f c' : Addr) (pm ctv : Value) (H3 : Hp) (s' : Shared), Inv X pins σ H3 s' → Ex (at0 P) H H3 → H f = none → TabV hd H3 P q → H3 f = some (LamO f (lamOb q params body scope (cloFrom X.env.cells scope.names []) dV pm (.ref c') ctv)) → Hm hd H3 c' = some (CodeO c' q) → Q (.ref f) s') :
    wpAny (model X.prog X.w) X.A (makeTail "<lambda>" q params (.expr body) scope X.env dV .none none pos firstLine) Q E s := by
  have hT' := hT
  obtain ⟨ps, hP, ht, ha⟩ := hT
  have getP : s.heap.get? P = some { cls := .none, data := .fields ps } := I.hok P _ hP
  have vis : ∀ a, H a = none → hd a = false := fun a n => by
    cases z : hd a with
    | false => rfl
    | true => exact absurd n (dom a z)
  refine lam_tail (closure_ok hfree) I.ok.glob (I.mod.glob.keeps I.bk) hcode (TB.code.keeps I.bk) getP ht TB.gP (TB.bm.keeps I.bk) (fun cv ctv h' tk hc kp sz => ?_) fun c' ctv h' tk hc hx hge hlt hrec htb => ?_
  · obtain ⟨c', rfl, hco⟩ := ha pos cv hc
    have nf : H h'.objs.size = none := I.hok.fresh sz
    have I1 : Inv X pins σ H { s with heap := h', toks := tk } := I.kept kp
    have I2 := I1.laid (t' := tk) (a := h'.objs.size) (o := LamO h'.objs.size (lamOb q params body scope (cloFrom X.env.cells scope.names []) dV ((X.mg "__name__").getD .none) (.ref c') ctv)) (h' := h'.push (lamOb q params body scope (cloFrom X.env.cells scope.names []) dV ((X.mg "__name__").getD .none) (.ref c') ctv)) (fun b u e => Heap.get?_push_of_some _ e) (Nat.le_refl _) ⟨Heap.get?_push_size _ rfl, ⟨_, Heap.get?_push_size _ rfl⟩, fun h1 h2 p st => st _ p⟩
    refine h _ c' _ ctv _ _ I2 (.new nf) nf (hT'.up nf) upd_same ?_
    rw [hm_of (hm_not hco), upd_ne (ne_of_none (hm_le hco) nf)]
    exact hm_le hco
  · obtain ⟨c2, oc, vs, t, e2, hoc, hdd, hv⟩ := hrec
    cases e2
    have nc : H c' = none := I.hok.fresh hge
    have sz : s.heap.objs.size ≤ h'.objs.size := by omega
    have nf : H h'.objs.size = none := I.hok.fresh sz
    have I1 := inv_table (t' := tk) (q := q) (more := #[rawInt pos.line, rawInt pos.col, .ref c']) I hP (fun b o hb e => hx b o hb e) htb hge ⟨oc, vs, t, hoc, hdd, hv⟩
    have nfc : h'.objs.size ≠ c' := Nat.ne_of_gt hlt
    have nfP : h'.objs.size ≠ P := fun z => by rw [z, hP] at nf; cases nf
    have nPc : P ≠ c' := fun z => by rw [z, nc] at hP; cases hP
    have nf1 : upd (upd H P (.tbl (ps ++ #[rawInt pos.line, rawInt pos.col, .ref c']))) c' (CodeO c' q) h'.objs.size = none := by rw [upd_ne nfc, upd_ne nfP]; exact nf
    have I2 := I1.laid (t' := tk) (a := h'.objs.size) (o := LamO h'.objs.size (lamOb q params body scope (cloFrom X.env.cells scope.names []) dV ((X.mg "__name__").getD .none) (.ref c') ctv)) (h' := h'.push (lamOb q params body scope (cloFrom X.env.cells scope.names []) dV ((X.mg "__name__").getD .none) (.ref c') ctv)) (fun b u e => Heap.get?_push_of_some _ e) (Nat.le_refl _) ⟨Heap.get?_push_size _ rfl, ⟨_, Heap.get?_push_size _ rfl⟩, fun h1 h2 p st => st _ p⟩
    have rows : (ps ++ #[rawInt pos.line, rawInt pos.col, .ref c']).toList = ps.toList ++ [rawInt pos.line, rawInt pos.col, .ref c'] := by simp
    have T1 : TabV hd (upd (upd H P (.tbl (ps ++ #[rawInt pos.line, rawInt pos.col, .ref c']))) c' (CodeO c' q)) P q := by
      refine ⟨_, by rw [upd_ne nPc, upd_same], by rw [rows]; exact PySem.TriplesOk_snoc _ _ _ _ ht, fun p' cv hcv => ?_⟩
      rw [rows] at hcv
      rcases among_app _ ht hcv with z | z
      · obtain ⟨c0, e1, e2⟩ := ha p' cv z
        have n0 : c0 ≠ P := fun z => by subst z; rw [hm_le e2] at hP; cases hP
        exact ⟨c0, e1, by rw [hm_of (hm_not e2), upd_ne (ne_of_none (hm_le e2) nc), upd_ne n0]; exact hm_le e2⟩
      · exact ⟨c', z, by rw [hm_of (vis _ nc)]; exact upd_same⟩
    refine h _ c' _ ctv _ _ I2 ⟨fun a o hm ho => ?_, fun a ho => upd_dom (upd_dom (upd_dom ho))⟩ nf (T1.up nf1) upd_same ?_
    · rw [upd_ne (ne_of_none ho nf), upd_ne (ne_of_none ho nc), upd_ne (at0_of hm)]
      exact ho
    · rw [hm_of (vis _ nc), upd_ne nfc.symm, upd_same]
def DD (es : List Expr) (dT : Option (Addr × Nat)) (dV : Value) : Prop := (es = [] ∧ dT = none ∧ dV = .none) ∨ ∃ T, es ≠ [] ∧ dT = some (T, es.length) ∧ dV = .ref T
def tLamO (P : Addr) (q : Str) (params : Arguments) (body : Expr) (scope : Scope) (cl : List (Str × Addr)) (es : List Expr) : TE := fun σ H Q => ∃ hd, (∀ a, hd a = true → H a ≠ none) ∧ TabV hd H P q ∧
  ∀ (f c' : Addr) (pm ctv dV : Value) (dT : Option (Addr × Nat)) (H3 : Hp), DD es dT dV → Ex (at0 P) H H3 → H f = none → TabV hd H3 P q → (∀ p ∈ LamAt f c' q (lamOb q params body scope cl dV pm (.ref c') ctv) dT, Hm hd H3 p.1 = some p.2) → Q (.ref f) H3
theorem constVals_len : ∀ {es : List Expr} {vs : List Value}, ConstVals es vs → vs.length = es.length
  | [], [], _ => rfl
  | _ :: _, _ :: _, h => congrArg Nat.succ (constVals_len h.2)
theorem pe_lamO {es : List Expr} (TB : TabB X.base X.mg c P) (hcode : X.env.code = .ref c) (hq : X.env.qual ++ "<lambda>" = q) (hdef : defaultsOf params X.env = (evalEach es X.env, [])) (hes : ∀ e ∈ es, e.isPlainConst = true)
    (hfree : X.Ok → ∀ y ∈ scope.names, y.2 = .free → ∃ c, X.env.cells.lookup y.1 = some c) :
    PE X (.Lambda params body scope pos) (tLamO P q params body scope (cloFrom X.env.cells scope.names []) es) := by
  refine ⟨fun pins s σ H Q I h => ?_⟩
  obtain ⟨hd, dom, hT, h⟩ := h
  have vis : ∀ {G : Hp} (a : Addr), (∀ a, hd a = true → G a ≠ none) → G a = none → hd a = false := fun a dm n => by
    cases z : hd a with
    | false => rfl
    | true => exact absurd n (dm a z)
  rw [arm_eval_Lambda, hdef]
  show wpAny _ _ (do let dv ← evalAll (evalEach es X.env); let kdv ← holding dv (evalAllOpt []); makeFunction "<lambda>" (X.env.qual ++ "<lambda>") params (.expr body) scope X.env dv kdv [] pos pos.line) _ _ _
  rw [hq]
  refine wpAny_bind (wpAny_evalAll_consts es s _ hes fun vs tk hv => wpAny_bind (wpAny_holding (wpAny_pure ?_)))
  have hl := constVals_len hv
  rw [makeFunction_eq]
  simp only [List.zip_nil_right, List.filterMap_nil, List.isEmpty_nil, if_true, pure_bind]
  have I0 : Inv X pins σ H { s with toks := tk } := I.tok _
  cases vs with
  | nil =>
    have e0 : es = [] := List.length_eq_zero_iff.mp hl.symm
    simp only [List.isEmpty_nil, if_true, pure_bind]
    refine lam_fin I0 TB hcode dom hT (hfree I.ok) fun f c' pm ctv H3 s' I3 e3 nf T3 hf hc => ?_
    refine ⟨.ref f, H3, I3, rfl, h f c' pm ctv .none none H3 (.inl ⟨e0, rfl, rfl⟩) e3 nf T3 fun p hp => ?_⟩
    rcases List.mem_cons.mp hp with rfl | hp
    · rw [hm_of (vis f dom nf)]; exact hf
    · rcases List.mem_cons.mp hp with rfl | hp
      · exact hc
      · cases hp
  | cons v vs =>
    simp only [List.isEmpty_cons, Bool.false_eq_true, if_false]
    refine wpAny_bind (wpAny_newTextTuple ?_)
    have nT : H s.heap.objs.size = none := I.hok.fresh (Nat.le_refl _)
    have I1 := I0.laid (t' := tk) (a := s.heap.objs.size) (o := DefO s.heap.objs.size es.length) (h' := s.heap.push { cls := .type "tuple", data := .seq (v :: vs).toArray }) (fun b u e => Heap.get?_push_of_some _ e) (Nat.le_refl _) ⟨⟨_, _, _, Heap.get?_push_size _ rfl, rfl, by simpa using hl⟩, ⟨_, Heap.get?_push_size _ rfl⟩, fun h1 h2 ⟨o, its, m, p1, p2, p3⟩ st => ⟨o, its, m, st _ p1, p2, p3⟩⟩
    have dom1 : ∀ a, hd a = true → upd H s.heap.objs.size (DefO s.heap.objs.size es.length) a ≠ none := fun a ha => upd_dom (dom a ha)
    refine lam_fin I1 TB hcode dom1 (hT.up nT) (hfree I.ok) fun f c' pm ctv H3 s' I3 e3 nf T3 hf hc => ?_
    have nf0 : H f = none := (Ex.new (mu := at0 P) nT).fresh nf
    refine ⟨.ref f, H3, I3, rfl, h f c' pm ctv _ (some (s.heap.objs.size, es.length)) H3 (.inr ⟨_, (fun z => by rw [z] at hl; cases hl), rfl, rfl⟩) ((Ex.new nT).trans e3) nf0 T3 fun p hp => ?_⟩
    rcases List.mem_cons.mp hp with rfl | hp
    · rw [hm_of (vis f dom1 nf)]; exact hf
    · rcases List.mem_cons.mp hp with rfl | hp
      · exact hc
      · cases List.mem_singleton.mp hp
        rw [hm_of (vis _ dom nT)]
        refine e3.keep _ _ ?_ upd_same
        obtain ⟨ps, hP, _⟩ := hT
        exact decide_eq_false fun z => by rw [← z, nT] at hP; cases hP
end
end CC
namespace CC
open PySem PySem.Spec PyProof.Rows L2
open C8 (Cal pe_c pe_gc)
structure Cl (K : PySem.W.Frag) where
  mu : Addr → Bool
  B : (Addr → Bool) → Hp → Prop
  stab : ∀ hd hd' H H', Sees (Hm hd H) (Hm hd' H') → (∀ a o, (mu a = true ∨ ext o = true) → H a = some o → H' a = some o) → B hd H → B hd' H'
  live : ∀ hd H, B hd H → ∀ a, mu a = true → H a ≠ none
def Cl.pure (K : PySem.W.Frag) : Cl K := ⟨none0, fun _ _ => True, fun _ _ _ _ _ _ _ => trivial, fun _ _ _ _ h => nomatch h⟩
def Cl.box (K : PySem.W.Frag) (b l : Addr) : Cl K := ⟨muB b l, fun _ H => Bx b l H, (cnB K b l).stab, fun _ H ⟨s, ns, h1, h2⟩ a h => by
  rcases muB_of h with rfl | rfl
  · rw [h1]; exact fun z => nomatch z
  · rw [h2]; exact fun z => nomatch z⟩
inductive MT where
  | lst (xs : List RV) | dk (kvs : List (Key × RV)) | dl (od : Obj) (vs : List (Key × V)) (kvs : List (Key × RV)) | ins (C dx : Addr) (fs : List (Str × RV)) | tp (xs : List RV) | tab (q : Str)
abbrev GT : Type := Addr → Option MT
def MTk (K : PySem.W.Frag) (hd : Addr → Bool) (H : Hp) (a : Addr) : MT → Prop
  | .lst rs => ∃ vs, H a = some (.lst vs) ∧ P2 (RvOk K (Hm hd H)) vs rs
  | .dk rs => ∃ vs, H a = some (.dK vs) ∧ P2 (RvF K (Hm hd H) Key) vs rs
  | .dl od vs rs => H a = some (.frz od (.dK vs)) ∧ P2 (RvF K (Hm hd H) Key) vs rs
  | .ins C dx rs => ∃ vs, H a = some (.ins C dx vs) ∧ P2 (RvF K (Hm hd H) Str) vs rs
  | .tp rs => ∃ vs, H a = some (.tup vs) ∧ P2 (RvOk K (Hm hd H)) vs rs
  | .tab q => TabV hd H a q
def setG (g : GT) (a : Addr) (m : MT) : GT := fun b => if b = a then some m else g b
theorem setG_same {g : GT} {a : Addr} {m : MT} : setG g a m a = some m := if_pos rfl
theorem setG_ne {g : GT} {a b : Addr} {m : MT} (h : b ≠ a) : setG g a m b = g b := if_neg h
theorem MTk.mono {K : PySem.W.Frag} {hd hd' : Addr → Bool} {H H' : Hp} {a : Addr} {m : MT} (e : Sees (Hm hd H) (Hm hd' H')) (k : ∀ o, H a = some o → H' a = some o) (h : MTk K hd H a m) : MTk K hd' H' a m := by
  cases m with
  | lst rs => obtain ⟨vs, h1, h2⟩ := h; exact ⟨vs, k _ h1, h2.imp fun _ _ r => r.mono e⟩
  | dk rs => obtain ⟨vs, h1, h2⟩ := h; exact ⟨vs, k _ h1, h2.imp fun _ _ r => ⟨r.1, r.2.mono e⟩⟩
  | dl od vs rs => obtain ⟨h1, h2⟩ := h; exact ⟨k _ h1, h2.imp fun _ _ r => ⟨r.1, r.2.mono e⟩⟩
  | ins C dx rs => obtain ⟨vs, h1, h2⟩ := h; exact ⟨vs, k _ h1, h2.imp fun _ _ r => ⟨r.1, r.2.mono e⟩⟩
  | tp rs => obtain ⟨vs, h1, h2⟩ := h; exact ⟨vs, k _ h1, h2.imp fun _ _ r => r.mono e⟩
  | tab q => exact TabV.stay k e h
theorem MTk.at {K : PySem.W.Frag} {hd : Addr → Bool} {H : Hp} {a : Addr} {m : MT} (h : MTk K hd H a m) : ∃ o, H a = some o ∧ ext o = false := by
  cases m with
  | lst rs => obtain ⟨vs, h1, h2⟩ := h; exact ⟨_, h1, rfl⟩
  | dk rs => obtain ⟨vs, h1, h2⟩ := h; exact ⟨_, h1, rfl⟩
  | dl od vs rs => obtain ⟨h1, h2⟩ := h; exact ⟨_, h1, rfl⟩
  | ins C dx rs => obtain ⟨vs, h1, h2⟩ := h; exact ⟨_, h1, rfl⟩
  | tp rs => obtain ⟨vs, h1, h2⟩ := h; exact ⟨_, h1, rfl⟩
  | tab q => obtain ⟨ps, h1, h2⟩ := h; exact ⟨_, h1, rfl⟩
@[reducible] def WT {K : PySem.W.Frag} (X : Cl K) : Wd where
  K := K
  G := GT
  mu := fun g a => X.mu a || (g a).isSome
  B := fun g hd H => X.B hd H ∧ ∀ a m, g a = some m → X.mu a = false ∧ MTk K hd H a m
  stab := fun g hd hd' H H' e k h => ⟨X.stab hd hd' H H' e (fun a o ha => k a o (ha.imp (fun h => by rw [h, Bool.true_or]) id)) h.1, fun a m hm => ⟨(h.2 a m hm).1, (h.2 a m hm).2.mono e fun o ho => k a o (.inl (by rw [hm]; exact Bool.or_true _)) ho⟩⟩
  live := fun g hd H h a ha => by
    rcases Bool.or_eq_true_iff.mp ha with ha | ha
    · exact X.live hd H h.1 a ha
    · obtain ⟨m, hm⟩ := Option.isSome_iff_exists.mp ha
      obtain ⟨o, ho, _⟩ := (h.2 a m hm).2.at
      rw [ho]; exact fun z => nomatch z
abbrev ct {K : PySem.W.Frag} (X : Cl K) (g : GT) : Cn := (WT X).cn g
section
variable {K : PySem.W.Frag} {X : Cl K} {g : GT} {hd : Addr → Bool} {H H' : Hp} {a : Addr} {m m' : MT} {o : HO}
theorem muT (h : g a = some m) : (WT X).mu g a = true := by show (X.mu a || (g a).isSome) = true; rw [h]; exact Bool.or_true _
theorem mu_setG (h : g a = some m) (x : Addr) : (WT X).mu (setG g a m') x = (WT X).mu g x := by
  show (X.mu x || (setG g a m' x).isSome) = (X.mu x || (g x).isSome)
  by_cases q : x = a
  · subst q; rw [setG_same, h]; rfl
  · rw [setG_ne q]
theorem got_set (mh : ∀ x, (WT X).mu g x = true → hd x = true) (b : (WT X).B g hd H) (ha : g a = some m) (hx : ext o = false) (h : MTk K hd (upd H a o) a m') : Go (WT X) g (setG g a m') hd H (upd H a o) := by
  have hda := mh a (muT ha)
  have eun : un hd ((WT X).mu (setG g a m')) = hd := un_eq fun x hx => mh x (by rw [← mu_setG (m' := m') ha x]; exact hx)
  refine ⟨(Ex.refl (H := H)).mut (.inr (muT ha)), ?_, ⟨fun x hx => by rw [mu_setG ha x]; exact hx, fun x hx => .inl (by rw [← mu_setG (m' := m') ha x]; exact hx)⟩⟩
  rw [eun]
  have na := (b.2 a m ha).1
  have sm : Sees (Hm hd H) (Hm hd (upd H a o)) := by rw [hm_upd hda]; exact Sees.refl
  refine ⟨X.stab hd hd H _ sm (fun x u hxu hu => ?_) b.1, fun x mx hx => ?_⟩
  · have : x ≠ a := fun z => by
      subst z
      rcases hxu with q | q
      · rw [na] at q; cases q
      · obtain ⟨u2, h3, h4⟩ := (b.2 x m ha).2.at
        rw [hu] at h3
        cases h3
        rw [h4] at q; cases q
    rw [upd_ne this]; exact hu
  · by_cases q : x = a
    · subst q
      rw [setG_same] at hx
      cases hx
      exact ⟨na, h⟩
    · rw [setG_ne q] at hx
      exact ⟨(b.2 x mx hx).1, (b.2 x mx hx).2.mono sm fun u hu => by rw [upd_ne q]; exact hu⟩
theorem got_new (b : (WT X).B g hd H) (mh : ∀ x, (WT X).mu g x = true → hd x = true) (e : Ex ((WT X).mu g) H H') (bb : (WT X).B g (hide hd a) H') (ha : H a = none) (h : MTk K (hide hd a) H' a m') : Go (WT X) g (setG g a m') hd H H' := by
  have na : g a = none := by
    cases q : g a with
    | none => rfl
    | some mm =>
      obtain ⟨u, hu, _⟩ := (b.2 a mm q).2.at
      rw [ha] at hu; cases hu
  have nx : X.mu a = false := by
    cases q : X.mu a with
    | false => rfl
    | true => exact absurd ha (X.live hd H b.1 a q)
  have sub : ∀ x, un hd ((WT X).mu (setG g a m')) x = true → hide hd a x = true := fun x hx => by
    rcases un_of hx with hx | hx
    · exact hide_of hx
    · by_cases q : x = a
      · subst q; exact hide_self
      · refine hide_of (mh x ?_)
        have : (X.mu x || (setG g a m' x).isSome) = true := hx
        rw [setG_ne q] at this
        exact this
  refine ⟨e, ?_, ⟨fun x hx => ?_, fun x hx => ?_⟩⟩
  · refine ((WT X).cn (setG g a m')).unhide sub ⟨bb.1, fun x mx hx => ?_⟩
    by_cases q : x = a
    · subst q
      rw [setG_same] at hx
      cases hx
      exact ⟨nx, h⟩
    · rw [setG_ne q] at hx
      exact bb.2 x mx hx
  · show (X.mu x || (setG g a m' x).isSome) = true
    by_cases q : x = a
    · subst q; rw [setG_same]; exact Bool.or_true _
    · rw [setG_ne q]; exact hx
  · by_cases q : x = a
    · subst q; exact .inr ha
    · refine .inl ?_
      have : (X.mu x || (setG g a m' x).isSome) = true := hx
      rw [setG_ne q] at this
      exact this
theorem g_none (b : (WT X).B g hd H) (ha : H a = none) : g a = none := by
  cases q : g a with
  | none => rfl
  | some mm =>
    obtain ⟨u, hu, _⟩ := (b.2 a mm q).2.at
    rw [ha] at hu; cases hu
end
def EAR (c : Cn) (ta : TA) (ρ : List Sl) (Q : List RV → Prop) : Prop := ∀ hd H σ, SV c hd H σ ρ → ∀ Qh : List V → Hp → Prop, (∀ rs vs H', Q rs → Ex c.mu H H' → c.B hd H' → P2 (RvOk c.K (Hm hd H')) vs rs → Qh vs H') → ta σ H Qh
section
variable {c : Cn} {ρ : List Sl} {te : TE} {tr : TA}
theorem ear_nil {Q : List RV → Prop} (h : Q []) : EAR c tNil ρ Q := fun hd H σ v Qh q => q [] [] H h .refl v.inv .nil
theorem ear_dat {Q : List RV → Prop} (h : EV c te ρ fun d => EAR c tr ρ fun rs => Q (.dat d :: rs)) : EAR c (tCons te tr) ρ Q := fun hd H σ v Qh q =>
  h hd H σ v _ fun d x H1 h1 e1 b1 r1 => h1 hd H1 σ (v.go e1 b1) _ fun rs vs H2 h2 e2 b2 r2 => q (.dat d :: rs) (x :: vs) H2 h2 (e1.trans e2) b2 (.cons (show RvOk _ _ x (.dat d) from r1.mono (e2.sees v.muh)) r2)
theorem ear_ref {Q : List RV → Prop} {a : Addr} (h : ERC c te ρ (.ref a)) (k : EAR c tr ρ fun rs => Q (.ref a :: rs)) : EAR c (tCons te tr) ρ Q := fun hd H σ v Qh q =>
  h hd H σ v _ (k hd H σ v _ fun rs vs H2 h2 e2 b2 r2 => q (.ref a :: rs) (.ref a :: vs) H2 h2 e2 b2 (.cons (show RvOk _ _ (.ref a) (.ref a) from rfl) r2))
end
def spR (K : PySem.W.Frag) (S : GT → List RV → (GT → RV → Prop) → Prop) : Sp := fun vs H Qh _ => ∃ (X : Cl K) (g : GT) (rs : List RV) (hid : Addr → Bool) (Q : GT → RV → Prop), (WT X).B g hid H ∧ (∀ a, (WT X).mu g a = true → hid a = true) ∧ (∀ a, hid a = true → H a ≠ none) ∧ P2 (RvOk K (Hm hid H)) vs rs ∧ S g rs Q ∧
  ∀ g' r v H', Q g' r → Go (WT X) g g' hid H H' → RvOk K (Hm (un hid ((WT X).mu g')) H') v r → Qh v H'
def slR : RV → Sl
  | .dat d => .im d
  | .ref a => .rw (.ref a)
def startR (N : List Str) (rs : List RV) : List Sl := rs.map slR ++ List.replicate (N.length - rs.length) .un
def RJR {K : PySem.W.Frag} (X : Cl K) (g : GT) (hid : Addr → Bool) (H0 : Hp) (R : VK) (r : RV) : Prop := ∀ v H', Ex ((WT X).mu g) H0 H' → (WT X).B g (un hid ((WT X).mu g)) H' → RvOk K (Hm (un hid ((WT X).mu g)) H') v r → R v H'
structure RetR {K : PySem.W.Frag} (X : Cl K) (g : GT) (hid : Addr → Bool) (H0 : Hp) (Q : GT → RV → Prop) (D : Ends) : Prop where
  rt : ∀ g' r, Q g' r → Fr (WT X) g g' H0 → RJR X g' hid H0 D.rt r
  nx : ∀ g', Q g' (.dat .non) → Fr (WT X) g g' H0 → ∀ ρ, NJ (ct X g') hid H0 D.nx ρ
theorem slall_R {K : PySem.W.Frag} {c : Cn} {hd : Addr → Bool} {H : Hp} (hK : c.K = K) : ∀ {vs : List V} {rs : List RV} {n : Nat}, P2 (RvOk K (Hm hd H)) vs rs → SlAll c hd H (vs.map some ++ List.replicate n none) (rs.map slR ++ List.replicate n .un)
  | _, _, n, .nil => by
    show SlAll c hd H (List.replicate n none) (List.replicate n .un)
    induction n with
    | zero => exact .nil
    | succ n ih =>
      rw [List.replicate_succ, List.replicate_succ]
      exact .cons trivial ih
  | _, r :: _, n, .cons h t => by
    subst hK
    refine .cons ?_ (slall_R rfl t)
    cases r with
    | dat d => exact h
    | ref a => exact h
theorem owns_R {rs : List RV} {n i : Nat} {s : Sl} (h : (rs.map slR ++ List.replicate n .un)[i]? = some s) : owns s = false := by
  rcases List.mem_append.mp (List.mem_of_getElem? h) with h | h
  · obtain ⟨r, _, rfl⟩ := List.mem_map.mp h
    cases r <;> rfl
  · rw [(List.mem_replicate.mp h).2]; rfl
theorem sd_startR {c : Cn} {hid : Addr → Bool} {H : Hp} {N : List Str} {vs : List V} {rs : List RV} (dom : ∀ a, hid a = true → H a ≠ none) (muh : ∀ a, c.mu a = true → hid a = true) (b : c.B hid H) (r : P2 (RvOk c.K (Hm hid H)) vs rs) : SD c hid hid H H (L2.start N vs) (startR N rs) := by
  have hl := r.len
  refine ⟨⟨dom, muh, b, ?_⟩, fun _ h => h, .refl, fun a h1 h2 => (by rw [h1] at h2; cases h2), fun i j o h1 => ?_, fun i o h1 => ?_⟩
  · unfold L2.start startR
    rw [hl]
    exact slall_R rfl r
  · obtain ⟨_, s, h2, h3⟩ := h1
    rw [owns_R h2] at h3; cases h3
  · obtain ⟨_, s, h2, h3⟩ := h1
    rw [owns_R h2] at h3; cases h3
section
variable {P : Program} {w : World} {K : PySem.W.Frag} {mg : Str → Option Value} {base : Heap}
theorem fn_r {x qual : Str} {st : Stmt} {f : Addr} {fd : FuncData} {N ps : List Str} {k : Nat} {S : GT → List RV → (GT → RV → Prop) → Prop} (F : Fun K x qual st f fd) (Sc : FnScope N ps (defScope st)) (len : ∀ g rs Q, S g rs Q → rs.length = ps.length)
    (hb : ∀ (cdv : Value) (A : Around) (outer : List Env) (s : Shared) (H : Hp) (E : XK), Room k (A.deeper (envOfC qual (defScope st) s.heap.objs.size f cdv)) →
      ∃ t, PSs (cxD P w K mg base N qual st f cdv A outer s H E) (defBody st) t ∧ ∀ (X : Cl K) g rs Q, S g rs Q → ∀ hid H0 (D : Ends), (∀ a, hid a = true → H0 a ≠ none) → RetR X g hid H0 Q D → NJ (ct X g) hid H0 (t D) (startR N rs)) :
    FnOk P w K mg base CX0 (k + 1) f fd ps (spR K S) := by
  refine F.ok Sc (fun vs H Q E h => ?_) (fun cdv A outer s H vs Q E hr h => ?_)
  · obtain ⟨X, g, rs, hid, Q', _, _, _, r, hS, _⟩ := h
    rw [r.len]
    exact len g rs Q' hS
  · obtain ⟨X, g, rs, hid, Q', bb, mh, dom, r, hS, q⟩ := h
    obtain ⟨t, ht, hn⟩ := hb cdv A outer s H E hr
    refine ⟨t, ht, hn X g rs Q' hS hid H { nx := fun _ H' => Q .non H', rt := Q } dom ⟨fun g' d hd f v H' e b r => q g' d v H' hd ⟨f.ex e, b, f⟩ r, fun g' hd f ρ hd' H' σ sd => ?_⟩ hid H _ (sd_startR (c := ct X g) dom mh bb r)⟩
    have sub : ∀ a, un hid ((WT X).mu g') a = true → hd' a = true := fun a h => by
      rcases un_of h with h | h
      · exact sd.sub a h
      · exact sd.muh a h
    exact q g' (.dat .non) .non H' hd ⟨f.ex sd.ext, ((WT X).cn g').unhide sub sd.inv, f⟩ .non
theorem cal_r {x : Str} {st : Stmt} {N ps : List Str} {k : Nat} {S : GT → List RV → (GT → RV → Prop) → Prop} (F : FnAt K mg x st ps) (Sc : FnScope N ps (defScope st)) (len : ∀ g rs Q, S g rs Q → rs.length = ps.length)
    (hb : ∀ (f : Addr) (cdv : Value) (A : Around) (outer : List Env) (s : Shared) (H : Hp) (E : XK), Room k (A.deeper (envOfC x (defScope st) s.heap.objs.size f cdv)) →
      ∃ t, PSs (cxD P w K mg base N x st f cdv A outer s H E) (defBody st) t ∧ ∀ (X : Cl K) g rs Q, S g rs Q → ∀ hid H0 (D : Ends), (∀ a, hid a = true → H0 a ≠ none) → RetR X g hid H0 Q D → NJ (ct X g) hid H0 (t D) (startR N rs)) :
    Cal P w K mg base (k + 1) x (spR K S) [] := by
  obtain ⟨f, fd, hm, F, b⟩ := F
  exact ⟨⟨f, fd, ps, [], fn_r F Sc len (hb f), hm, F.kp, b, .nil⟩⟩
end
end CC
namespace CC
open PySem PySem.Spec PyProof.Rows L2
open C8 (Cal pe_c pe_gc)
def EVR {K : PySem.W.Frag} (X : Cl K) (g : GT) (te : TE) (ρ : List Sl) (Q : GT → RV → Prop) : Prop := ∀ hd H σ, SV (ct X g) hd H σ ρ → ∀ Qh : VK, (∀ g' r v H', Q g' r → Go (WT X) g g' hd H H' → RvOk K (Hm (un hd ((WT X).mu g')) H') v r → Qh v H') → te σ H Qh
section
variable {K : PySem.W.Frag} {X : Cl K} {g : GT} {hid hd : Addr → Bool} {H0 H : Hp} {σ : L2.St} {ρ : List Sl} {te ta tb to td ty : TE} {t : TT} {D : Ends} {ts tz : TS}
theorem RvOk.hide {h1 h2 : Addr → Bool} (s : ∀ a, h1 a = true → h2 a = true) {v : V} {r : RV} (h : RvOk K (Hm h2 H) v r) : RvOk K (Hm h1 H) v r := h.mono (sees_hide s)
theorem evr {Q : GT → RV → Prop} (h : EV (ct X g) te ρ fun d => Q g (.dat d)) : EVR X g te ρ Q := fun hd H σ v Qh q => h hd H σ v Qh fun d x H' hq e b r => q g (.dat d) x H' hq (.of v.muh e b) (by rw [un_eq v.muh]; exact r)
theorem EVR.imp {Q Q' : GT → RV → Prop} (h : EVR X g te ρ Q) (k : ∀ g' r, Q g' r → Q' g' r) : EVR X g te ρ Q' := fun hd H σ v Qh q => h hd H σ v Qh fun g' r x H' hq => q g' r x H' (k g' r hq)
theorem evr_call {S : GT → List RV → (GT → RV → Prop) → Prop} {E : XK} {ta : TA} {Q : GT → RV → Prop} (h : EAR (ct X g) ta ρ fun rs => S g rs Q) : EVR X g (tCall (spR K S) [] E ta) ρ Q := fun hd H σ v Qh q => h hd H σ v _ fun rs vs H1 hq e1 b1 r1 => by
  have v1 := v.go e1 b1
  rw [List.append_nil]
  refine ⟨X, g, rs, hd, Q, v1.inv, v1.muh, v1.dom, r1, hq, fun g' r z H2 hq2 s2 r2 => q g' r z H2 hq2 ((Go.of v.muh e1 b1).trans ?_) r2⟩
  rw [un_eq v.muh]; exact s2
theorem evr_if {Q : GT → RV → Prop} (h : EVT (ct X g) t ρ fun b => (b = true → EVR X g ta ρ Q) ∧ (b = false → EVR X g tb ρ Q)) : EVR X g (tIf t ta tb) ρ Q := fun hd H σ v Qh q => h hd H σ v _ fun b H1 h1 e1 b1 => by
  have k : ∀ g' r x H', Q g' r → Go (WT X) g g' hd H1 H' → RvOk K (Hm (un hd ((WT X).mu g')) H') x r → Qh x H' := fun g' r x H' hq s2 r2 => q g' r x H' hq ((Go.of v.muh e1 b1).trans (by rw [un_eq v.muh]; exact s2)) r2
  cases b with
  | true => exact h1.1 rfl hd H1 σ (v.go e1 b1) Qh k
  | false => exact h1.2 rfl hd H1 σ (v.go e1 b1) Qh k
theorem p2_dats {G : Hp} : ∀ {vs : List V} {ds : List Dt}, RpAll K G vs ds → P2 (RvOk K G) vs (dats ds)
  | _, _, .nil => .nil
  | _, _, .cons r t => .cons r (p2_dats t)
theorem evr_new {Q : GT → RV → Prop} (h : EN (ct X g) te ρ fun ds => ∀ o, g o = none → Q (setG g o (.lst (dats ds))) (.ref o)) : EVR X g te ρ Q := fun hd H σ v Qh q => h hd H σ v _ fun ds o vs H' hq e b ho h1 r => by
  have go1 := got_new (m' := .lst (dats ds)) v.inv v.muh e b ho ⟨vs, h1, p2_dats r⟩
  exact q _ _ _ H' (hq o (g_none v.inv ho)) go1 rfl
theorem SD.setRw {c : Cn} (s : SD c hid hd H0 H σ ρ) {i : Nat} {v : V} : SD c hid hd H0 H (σ.set i (some v)) (ρ.set i (.rw v)) := by
  refine ⟨⟨s.dom, s.muh, s.inv, s.slots.set (by exact rfl) i⟩, s.sub, s.ext, s.new, fun a b o h1 h2 => ?_, fun a o h1 => ?_⟩
  · rcases ownAt_set h1 with ⟨_, _, z⟩ | ⟨_, h1⟩
    · cases z
    · rcases ownAt_set h2 with ⟨_, _, z⟩ | ⟨_, h2⟩
      · cases z
      · exact s.own a b o h1 h2
  · rcases ownAt_set h1 with ⟨_, _, z⟩ | ⟨_, h1⟩
    · cases z
    · exact s.ownh a o h1
theorem SD.setR {g : GT} (s : SD (ct X g) hid hd H0 H σ ρ) {i : Nat} {v : V} {r : RV} (h : RvOk K (Hm hd H) v r) : SD (ct X g) hid hd H0 H (σ.set i (some v)) (ρ.set i (slR r)) := by
  cases r with
  | dat d => exact s.setIm h
  | ref a => cases h; exact s.setRw
theorem njr_asg {i : Nat} (h : EVR X g te ρ fun g' r => Fr (WT X) g g' H0 → NJ (ct X g') hid H0 D.nx (ρ.set i (slR r))) : NJ (ct X g) hid H0 (tAsg te (gName i) D) ρ := fun hd H σ s => h hd H σ s.toSV _ fun g' r v H' hq st rv => by
  obtain ⟨s', f⟩ := s.step st
  exact hq f _ H' _ (s'.setR rv)
theorem qr_asg {i : Nat} (h : EVR X g te ρ fun g' r => Fr (WT X) g g' H0 → NJ (ct X g') hid H0 (tz D) (ρ.set i (slR r))) : NJ (ct X g) hid H0 (tSeq (tAsg te (gName i)) tz D) ρ := njr_asg (D := { D with nx := tz D }) h
theorem un_sub {g' : GT} (s : ∀ a, hid a = true → hd a = true) : ∀ a, un hid ((WT X).mu g') a = true → un hd ((WT X).mu g') a = true := fun a h => by
  rcases un_of h with h | h
  · exact un_l (s a h)
  · exact un_r h
theorem njr_ret (h : EVR X g te ρ fun g' r => Fr (WT X) g g' H0 → RJR X g' hid H0 D.rt r) : NJ (ct X g) hid H0 (tRet te D) ρ := fun hd H σ s => h hd H σ s.toSV _ fun g' r v H' hq st rv => by
  obtain ⟨s', f⟩ := s.step st
  exact hq f v H' s'.ext (((WT X).cn g').unhide (un_sub s.sub) s'.inv) (rv.hide (un_sub s.sub))
theorem RJR.dat {R : VK} {d : Dt} (h : RJR X g hid H0 R (.dat d)) (mh : True) : ∀ v H', Ex ((WT X).mu g) H0 H' → (WT X).B g (un hid ((WT X).mu g)) H' → Rp K (Hm (un hid ((WT X).mu g)) H') v d → R v H' := h
theorem njr_retD (h : EV (ct X g) te ρ fun d => RJR X g hid H0 D.rt (.dat d)) : NJ (ct X g) hid H0 (tRet te D) ρ := njr_ret (evr (h.imp fun d hd _ => hd))
theorem evr_pop0 {b : Addr} {K' : PySem.W.Frag} {r : RV} {rs : List RV} {Q : GT → RV → Prop} (hr : ERC (ct X g) to ρ (.ref b)) (hb : g b = some (.lst (r :: rs))) (h : Q (setG g b (.lst rs)) r) : EVR X g (tBM K' "list" rPopAt to (tCons (tC (.int 0)) tNil)) ρ Q := fun hd H σ s Qh q => hr hd H σ s _ (by
  obtain ⟨vs, h1, h2⟩ := (s.inv.2 b _ hb).2
  cases h2 with
  | @cons v _ vs0 _ hv ht =>
    refine ⟨.inl ⟨rfl, _, .inl (.inl h1)⟩, b, _, 0, 0, v, rfl, rfl, h1, by decide, by decide, ?_, rfl, ?_⟩
    · unfold seqIndex?
      simp
    · have hdb := s.muh b (muT (X := X) hb)
      have sm : Sees (Hm hd H) (Hm hd (upd H b (.lst vs0))) := by rw [hm_upd hdb]; exact Sees.refl
      have st := got_set (m' := .lst rs) (o := .lst vs0) s.muh s.inv hb rfl ⟨_, upd_same, ht.imp fun _ _ z => z.mono sm⟩
      have eun : un hd ((WT X).mu (setG g b (.lst rs))) = hd := un_eq fun x hx => s.muh x ((mu_setG (X := X) (m' := .lst rs) hb x).symm.trans hx)
      exact q _ r v _ h st (by rw [eun]; exact hv.mono sm))
end
end CC
namespace CC
open PySem PySem.Spec PyProof.Rows L2
open C8 (Cal pe_c pe_gc)
section
variable {K : PySem.W.Frag} {X : Cl K} {g : GT} {hid hd : Addr → Bool} {H0 H : Hp} {σ : L2.St} {ρ : List Sl} {te ta tb to td ty : TE} {t : TT} {D : Ends} {ts tz : TS} {gg : TG}
def g0 : GT := fun _ => none
end
end CC
namespace CC
open PySem PySem.Spec PyProof.Rows L2
section
variable {c : Cn} {ρ : List Sl} {Q : Dt → Prop}
def EVP (c : Cn) (trs : List (TE × TE)) (ρ : List Sl) (Q : List (Key × Dt) → Prop) : Prop := ∀ hd H σ, SV c hd H σ ρ → ∀ Qh : List (V × V) → Hp → Prop, (∀ ds kvs H', Q ds → Ex c.mu H H' → c.B hd H' → RpK c.K (Hm hd H') kvs ds → Qh (kvs.map fun kv => (kV kv.1, kv.2)) H') → tPairs trs σ H Qh
theorem evp_nil {Q : List (Key × Dt) → Prop} (h : Q []) : EVP c [] ρ Q := fun hd H σ v Qh q => q [] [] H h .refl v.inv .nil
theorem evp_cons {Q : List (Key × Dt) → Prop} {tk tv : TE} {trs : List (TE × TE)} (h : EV c tk ρ (KeyJ fun k => EV c tv ρ fun d => EVP c trs ρ fun ds => Q ((k, d) :: ds))) : EVP c ((tk, tv) :: trs) ρ Q := fun hd H σ v Qh q => h hd H σ v _ fun dk x H1 h1 e1 b1 r1 => by
  obtain ⟨k, rfl, h2⟩ := rp_key h1 r1
  have v1 := v.go e1 b1
  refine h2 hd H1 σ v1 _ fun d y H2 h3 e2 b2 r2 => ?_
  have v2 := v1.go e2 b2
  refine h3 hd H2 σ v2 _ fun ds kvs H3 hq e3 b3 r3 => ?_
  exact q ((k, d) :: ds) ((k, y) :: kvs) H3 hq ((e1.trans e2).trans e3) b3 (.cons (r2.mono (e3.sees v2.muh)) r3)
theorem merge_new : ∀ (more kvs : List (Key × V)), ((kvs ++ more).map (·.1)).Nodup → mergeK kvs more = kvs ++ more
  | [], kvs, _ => (List.append_nil kvs).symm
  | (k, x) :: r, kvs, h => by
    show mergeK (putK kvs k x) r = _
    have hp : putK kvs k x = kvs ++ [(k, x)] := by
      unfold putK
      rw [if_neg]
      intro hz
      obtain ⟨⟨k', y⟩, hm, he⟩ := List.any_eq_true.mp hz
      have he : k' = k := of_decide_eq_true he
      subst he
      rw [List.map_append, List.map_cons, List.nodup_append] at h
      exact h.2.2 k' (List.mem_map.mpr ⟨_, hm, rfl⟩) k' (.head _) rfl
    rw [hp, merge_new r (kvs ++ [(k, x)]) (by rw [List.append_assoc]; exact h), List.append_assoc]
    rfl
theorem ev_disp {trs : List (TE × TE)} (h : EVP c trs ρ fun ds => ds.length ≤ 15 ∧ (ds.map (·.1)).Nodup ∧ Q (.dk ds)) : EV c (tDisp trs) ρ Q := fun hd H σ s Qh q p hp => by
  have hmu : c.mu p = false := by
    cases z : c.mu p with
    | false => rfl
    | true => exact absurd hp (s.dom p (s.muh p z))
  have nh : hd p = false := by
    cases z : hd p with
    | false => rfl
    | true => exact absurd hp (s.dom p z)
  have sv : SV c (hide hd p) (upd H p (.dK [])) σ ρ := s.hide (.new hp) (c.keepN (.new hp) hp s.inv) hp (by rw [upd_same]; exact fun z => nomatch z)
  refine h (hide hd p) _ σ sv _ fun ds kvs H2 hq e b r => ?_
  obtain ⟨hl, hn, hq⟩ := hq
  have hk := e.keep p _ hmu upd_same
  have hlen : kvs.length = ds.length := by have := congrArg List.length r.keys; rw [List.length_map, List.length_map] at this; exact this
  refine ⟨hk, kvs, rfl, by omega, ?_⟩
  rw [merge_new kvs [] (by rw [List.nil_append, r.keys]; exact hn), List.nil_append]
  have eH : Ex c.mu H (upd H2 p (.dK kvs)) := Ex.mut ((Ex.new hp).trans e) (.inl hp)
  have se : Sees (Hm (hide hd p) H2) (Hm hd (upd H2 p (.dK kvs))) := by
    have : Hm (hide hd p) H2 = Hm (hide hd p) (upd H2 p (.dK kvs)) := (hm_upd hide_self).symm
    rw [this]
    exact sees_hide fun a ha => hide_of ha
  refine q (.dk ds) (.ref p) _ hq eH (c.putS se hmu hk rfl b) ?_
  exact .dk (.inl (by rw [hm_of nh]; exact upd_same)) (r.mono se)
end
end CC
namespace CC
open PySem PySem.Spec PyProof.Rows L2
open PySem.Sem (wp)
end CC
namespace CC
open PySem PySem.Spec PyProof.Rows L2
end CC
namespace CC
open PySem PySem.Spec PyProof.Rows L2
end CC
namespace CC
open PySem PySem.Spec PyProof.Rows L2
open C8 (Cal pe_c pe_gc)
end CC
namespace CC
open PySem PySem.Spec PyProof.Rows L2
open C8 (Cal pe_c pe_gc)
section
variable {W : Wd} {g : W.G} {hid : Addr → Bool} {H0 H1 : Hp} {ρ : List Sl} {te ta tb : TE} {t u : TT} {D : Ends} {ts tz : TS} {gg : TG}
theorem qm_for {wi : TI} (h : IJ (W.cn g) wi ρ fun its => ∃ I : Nat → W.G → List Sl → Prop, I 0 g ρ ∧
      (∀ H1, Ex (W.mu g) H0 H1 → ∀ i d g' ρ', its[i]? = some d → I i g' ρ' → Fr W g g' H1 → TGJ (W.cn g') hid H1 gg d ρ' (ts { D with nx := NxM W g hid H1 (I (i + 1)), ct := NxM W g hid H1 (I (i + 1)), bk := tz D })) ∧
      ∀ g' ρ', I its.length g' ρ' → Fr W g g' H0 → NJ (W.cn g') hid H0 (tz D) ρ') : NJ (W.cn g) hid H0 (tSeq (tFor wi gg ts) tz D) ρ := njm_for (D := { D with nx := tz D }) h
end
end CC
namespace CC
open PySem PySem.Spec PyProof.Rows L2
open C8 (Cal pe_c pe_gc)
section
variable {K : PySem.W.Frag} {X : Cl K} {g : GT} {hid hd : Addr → Bool} {H0 H : Hp} {σ : L2.St} {ρ : List Sl} {te ta tb to td ty : TE} {t : TT} {D : Ends} {ts tz : TS} {gg : TG}
theorem SV.setR (s : SV (ct X g) hd H σ ρ) {v : V} {r : RV} (i : Nat) (h : RvOk K (Hm hd H) v r) : SV (ct X g) hd H (σ.set i (some v)) (ρ.set i (slR r)) := by
  cases r with
  | dat d => exact s.set i h
  | ref a => cases h; exact s.set i rfl
end
end CC
namespace CC
open PySem PySem.Spec PyProof.Rows L2
open C8 (Cal pe_c pe_gc)
section
variable {K : PySem.W.Frag} {X : Cl K} {g : GT} {hid hd : Addr → Bool} {H0 H : Hp} {σ : L2.St} {ρ : List Sl} {te ta tb to td ty : TE} {t : TT} {D : Ends} {ts tz : TS} {gg : TG}
theorem njr_appA {i : Nat} {ds : List Dt} {K' : PySem.W.Frag} (hi : ρ[i]? = some (.ac ds)) (hz : ds.length < 100000) (h : EVR X g te ρ fun g1 r => ∃ d, r = .dat d ∧ (Fr (WT X) g g1 H0 → NJ (ct X g1) hid H0 D.nx (ρ.set i (.ac (ds ++ [d]))))) : NJ (ct X g) hid H0 (tDrop (tBM K' "list" rAppend (tVar i) (tCons te tNil)) D) ρ := fun hd H σ s => by
  obtain ⟨o, vs, g1, a1, a2, a3, a4⟩ := own_get s.slots hi
  refine ⟨.ref o, g1, .inl ⟨rfl, vs, .inl (.inl a3)⟩, h hd H σ s.toSV _ fun g1' r v H' hq st rv => ?_⟩
  obtain ⟨d, rfl, hq⟩ := hq
  obtain ⟨s', f⟩ := s.step st
  obtain ⟨o', vs', g1'', b1, b2, b3, b4⟩ := own_get s'.slots hi
  rw [g1] at g1''
  cases g1''
  have b3' : H' o = some (.lst vs) := st.ex.keep o _ a2 a3
  rw [b3] at b3'
  cases b3'
  refine ⟨o, vs, v, rfl, rfl, b3, Evl.sz_lt (by rw [b4.length]; exact hz), hq f _ _ σ (s'.mutOwn ⟨g1, _, hi, rfl⟩ rfl ⟨b1, b2, vs ++ [v], upd_same, ?_⟩)⟩
  rw [hm_upd b1]
  exact b4.append (.cons rv .nil)
end
section
variable {W : Wd} {g : W.G} {hid : Addr → Bool} {H0 : Hp} {ρ : List Sl} {D : Ends} {ts tz : TS}
theorem qm_cut (I : W.G → List Sl → Prop) (h : NJ (W.cn g) hid H0 (ts { D with nx := NxM W g hid H0 I }) ρ) (hk : ∀ g' ρ', I g' ρ' → Fr W g g' H0 → NJ (W.cn g') hid H0 (tz D) ρ') : NJ (W.cn g) hid H0 (Evl.tCut ts tz D) ρ := fun hd H σ s => ⟨NxM W g hid H0 I, h hd H σ s, fun σ' H' ⟨g', ρ', hd', hI, f, s'⟩ => hk g' ρ' hI f hd' H' σ' s'⟩
end
end CC
namespace CC
open PySem PySem.Spec PyProof.Rows L2
open C8 (Cal pe_c pe_gc)
end CC
namespace CC
open PySem PySem.Spec PyProof.Rows L2
end CC
namespace CC
open PySem PySem.Spec PyProof.Rows L2
end CC
namespace CC
open PySem PySem.Spec PyProof.Rows L2
open C8 (Cal pe_c pe_gc)
section
variable {K : PySem.W.Frag} {b l : Addr} {g : GT} {hd : Addr → Bool} {H H' : Hp} {ρ : List Sl}
abbrev XB (K : PySem.W.Frag) (b l : Addr) : Cl K := Cl.box K b l
theorem muX {a : Addr} (h : muB b l a = true) : (WT (XB K b l)).mu g a = true := by
  show (muB b l a || (g a).isSome) = true
  rw [h]; rfl
theorem box_keep {o : Addr} (v : (WT (XB K b l)).B g hd H) (mh : ∀ a, (WT (XB K b l)).mu g a = true → hd a = true) (e : Ex (muB b l) H H') (bx : Bx b l H') : (WT (XB K b l)).B g hd H' := ⟨bx, fun a m hm => ⟨(v.2 a m hm).1, (v.2 a m hm).2.mono (e.sees fun a h => mh a (muX h)) fun o ho => e.keep a o (v.2 a m hm).1 ho⟩⟩
theorem ev_callBW {S : List Dt → (Dt → Prop) → Prop} {E : XK} {i : Nat} {ta : TA} {Q : Dt → Prop} (hne : b ≠ l) (hi : ρ[i]? = some (.rw (.ref b))) (h : EVA (ct (XB K b l) g) ta ρ fun ds => S ds Q) : EV (ct (XB K b l) g) (tCall (spB K S) [] E (tCons (tVar i) ta)) ρ Q := fun hd H σ v Qh q =>
  ⟨.ref b, rw_get v.slots hi, h hd H σ v _ fun ds vs H1 h1 e1 b1 r1 => by
    show spB K S ((.ref b :: vs) ++ []) H1 Qh E
    rw [List.append_nil]
    exact ⟨b, l, vs, hd, ds, Q, rfl, hne, b1.1, v.muh b (muX muB_b), v.muh l (muX muB_l), fun a h => e1.dom a (v.dom a h), r1, h1, fun d z H2 hq e2 b2 r2 => q d z H2 hq (e1.trans (e2.weak fun a h => muX h)) (box_keep (o := b) b1 v.muh e2 b2) r2⟩⟩
theorem en_callBW {S : List Dt → (List Dt → Prop) → Prop} {E : XK} {i : Nat} {ta : TA} {Q : List Dt → Prop} (hne : b ≠ l) (hi : ρ[i]? = some (.rw (.ref b))) (h : EVA (ct (XB K b l) g) ta ρ fun ds => S ds Q) : EN (ct (XB K b l) g) (tCall (spBN K S) [] E (tCons (tVar i) ta)) ρ Q := fun hd H σ v Qh q =>
  ⟨.ref b, rw_get v.slots hi, h hd H σ v _ fun ds vs H1 h1 e1 b1 r1 => by
    show spBN K S ((.ref b :: vs) ++ []) H1 Qh E
    rw [List.append_nil]
    refine ⟨b, l, vs, hd, ds, Q, rfl, hne, b1.1, v.muh b (muX muB_b), v.muh l (muX muB_l), fun a h => e1.dom a (v.dom a h), r1, h1, fun es o zs H2 hq e2 b2 ho h3 r3 => q es o zs H2 hq (e1.trans (e2.weak fun a h => muX h)) ?_ (e1.fresh ho) h3 r3⟩
    exact ⟨b2, fun a m hm => ⟨(b1.2 a m hm).1, (b1.2 a m hm).2.mono (sees_new e2 (fun a h => v.muh a (muX h)) ho) fun o ho => e2.keep a o (b1.2 a m hm).1 ho⟩⟩⟩
end
end CC
namespace CC
open PySem PySem.Spec PyProof.Rows L2
open C8 (Cal pe_c pe_gc)
open PySem.W (AlikeAll minD maxD dataLt alike alikeAll alike_unique reads_keeps max_list_data dataLt_int dataLt_str)
section
variable {K : PySem.W.Frag} {X : Cl K} {g : GT} {hid hd : Addr → Bool} {H0 H : Hp} {σ : L2.St} {ρ : List Sl} {te ta tb to td ty : TE} {t : TT} {D : Ends} {ts tz : TS} {gg : TG}
def SeenA (g : GT) (A : Addr → Bool) : Nat → RV → Dt → Prop
  | 0, r, d => r = .dat d
  | n + 1, r, d => r = .dat d ∨ ∃ a rs ds, r = .ref a ∧ A a = true ∧ g a = some (.lst rs) ∧ d = .lst ds ∧ P2 (SeenA g A n) rs ds
theorem p2_seen {hd' : Addr → Bool} {A : Addr → Bool} {n : Nat} (ih : ∀ v r d, RvOk K (Hm hd H) v r → SeenA g A n r d → Rp K (Hm hd' H) v d) : ∀ {vs : List V} {rs : List RV} {ds : List Dt}, P2 (RvOk K (Hm hd H)) vs rs → P2 (SeenA g A n) rs ds → RpAll K (Hm hd' H) vs ds
  | _, _, _, .nil, .nil => .nil
  | _, _, _, .cons h t, .cons s u => .cons (ih _ _ _ h s) (p2_seen ih t u)
theorem seenA_rp {hd' : Addr → Bool} {A : Addr → Bool} (b : (WT X).B g hd H) (hs : ∀ a, hd' a = true → hd a = true) (hA : ∀ a, A a = true → hd' a = false) : ∀ (n : Nat) (v : V) (r : RV) (d : Dt), RvOk K (Hm hd H) v r → SeenA g A n r d → Rp K (Hm hd' H) v d
  | 0, v, r, d, h, s => by
    have s : r = .dat d := s
    subst s
    exact Rp.mono (sees_hide hs) h
  | n + 1, v, r, d, h, s => by
    rcases s with s | ⟨a, rs, ds, rfl, ha, hg, rfl, hp⟩
    · subst s
      exact Rp.mono (sees_hide hs) h
    · have h : v = V.ref a := h
      subst h
      obtain ⟨vs, h1, h2⟩ := (b.2 a _ hg).2
      exact .lst (by rw [hm_of (hA a ha)]; exact h1) (p2_seen (seenA_rp b hs hA n) h2 hp)
def unA (hd A : Addr → Bool) : Addr → Bool := fun a => hd a && !A a
theorem unA_sub {A : Addr → Bool} {a : Addr} (h : unA hd A a = true) : hd a = true := (Bool.and_eq_true_iff.mp h).1
theorem unA_of {A : Addr → Bool} {a : Addr} (h : A a = true) : unA hd A a = false := by unfold unA; rw [h, Bool.not_true, Bool.and_false]
end
end CC
namespace CC
open PySem PySem.Spec PyProof.Rows L2
open C8 (Cal pe_c pe_gc)
section
variable {K : PySem.W.Frag} {X : Cl K} {g : GT} {hid hd : Addr → Bool} {H0 H : Hp} {σ : L2.St} {ρ : List Sl} {te ta tb to td ty : TE} {tr : TA} {t : TT} {D : Ends} {ts tz : TS} {gg : TG}
def EAG (X : Cl K) (g : GT) (ta : TA) (ρ : List Sl) (Q : GT → List RV → Prop) : Prop := ∀ hd H σ, SV (ct X g) hd H σ ρ → ∀ Qh : List V → Hp → Prop, (∀ g' rs vs H', Q g' rs → Go (WT X) g g' hd H H' → P2 (RvOk K (Hm (un hd ((WT X).mu g')) H')) vs rs → Qh vs H') → ta σ H Qh
theorem eag_nil {Q : GT → List RV → Prop} (h : Q g []) : EAG X g tNil ρ Q := fun hd H σ v Qh q => q g [] [] H h (Go.of v.muh .refl v.inv) .nil
theorem eag_cons {Q : GT → List RV → Prop} (h : EVR X g te ρ fun g1 r => EAG X g1 tr ρ fun g2 rs => Q g2 (r :: rs)) : EAG X g (tCons te tr) ρ Q := fun hd H σ v Qh q => h hd H σ v _ fun g1 r x H1 h1 st1 rv1 => h1 _ H1 σ (v.step st1) _ fun g2 rs vs H2 h2 st2 rv2 => by
  have e1 := rv1.mono (st2.sees fun a ha => un_r ha)
  have st := st1.trans st2
  have s0 : ∀ a, un hd ((WT X).mu g2) a = true → un (un hd ((WT X).mu g1)) ((WT X).mu g2) a = true := fun a ha => by
    rcases un_of ha with ha | ha
    · exact un_l (un_l ha)
    · exact un_r ha
  exact q g2 (r :: rs) (x :: vs) H2 h2 st (.cons (e1.hide s0) (rv2.imp fun _ _ z => z.hide s0))
theorem evr_callG {S : GT → List RV → (GT → RV → Prop) → Prop} {E : XK} {ta : TA} {Q : GT → RV → Prop} (h : EAG X g ta ρ fun g1 rs => S g1 rs Q) : EVR X g (tCall (spR K S) [] E ta) ρ Q := fun hd H σ v Qh q => h hd H σ v _ fun g1 rs vs H1 hq st1 r1 => by
  have v1 := v.step st1
  rw [List.append_nil]
  refine ⟨X, g1, rs, un hd ((WT X).mu g1), Q, v1.inv, v1.muh, v1.dom, r1, hq, fun g' r z H2 hq2 s2 r2 => ?_⟩
  have s0 : ∀ a, un hd ((WT X).mu g') a = true → un (un hd ((WT X).mu g1)) ((WT X).mu g') a = true := fun a ha => by
    rcases un_of ha with ha | ha
    · exact un_l (un_l ha)
    · exact un_r ha
  exact q g' r z H2 hq2 (st1.trans s2) (r2.hide s0)
end
end CC
namespace CC
open PySem PySem.Spec PyProof.Rows L2
open C8 (Cal pe_c pe_gc)
open LamX (CodeO TabS TabB lamEnv lamCx)
def tBig (X : Cx) (spf : Heap → Sp) (t : TA) : TE := fun σ H Q => t σ H fun vs H1 => ∀ pins s, Inv X pins σ H1 s → spf (big s H1 X.stack) vs H1 Q fun _ _ _ => False
theorem pe_callBig {X : Cx} {k j : Nat} {spf : Heap → Sp} {x : Str} {q pos : Pos} {e : Expr} {es : List Expr} {t : TA} (F : ∀ B, Cal X.prog X.w X.K X.mg B k x (spf B) []) (hr : Room j X.A) (hk : k ≤ j) (hg : Gl X x) (ha : PA X (e :: es) t)
    (hdb : (x == ("__debug__" : Str)) = false := by decide) (he : starEach (e :: es) X.env = (false, eval e X.env) :: starEach es X.env := by rfl) (hpl : (backTo pos (starEach es X.env)).any (·.1) = false := by rfl) :
    PE X (.Call (.Name x q) (e :: es) [] pos) (tBig X spf t) := by
  refine ⟨fun pins s σ H Q I h => ?_⟩
  obtain ⟨f0, _, _, _, _, hm0, kp0, _, _⟩ := (F X.base).ex
  refine wpAny_Call_Name_kw (ld_glob I hg hm0 ?_ hdb)
  refine PySem.W.callWith_K (h₀ := X.base) I.ok.mod.kin kp0 (thn (ha.run pos pins s σ H _ I h) fun us s1 hh => ?_) he hpl
  obtain ⟨vs, H1, I1, r, hsp⟩ := hh
  refine ⟨I1.kIn, ?_⟩
  obtain ⟨f, fd, ps, ds, F1, hm, kp, hb, hd⟩ := (F (big s1 H1 X.stack)).ex
  have ef : f = f0 := by rw [hm0] at hm; cases hm; rfl
  subst ef
  cases hd
  have hs := hsp pins s1 I1
  have hl : (us ++ []).length = ps.length := by rw [List.append_nil, ← r.length]; exact F1.len _ _ _ _ hs
  have b := hb s1 us I1.kIn hl
  rw [List.append_nil] at b
  refine wpAny_call (codeAny_mono (F1.run X.A X.stack s1 H1 ⟨us, []⟩ us vs Q _ (hr.mono hk) (env0_big I1) b r hs) fun r s' hq => ?_)
  cases r with
  | error e => exact hq.elim
  | ok fl =>
    cases fl with
    | ret u => exact I1.after hq
    | next => exact hq.elim
    | brk => exact hq.elim
    | cont => exact hq.elim
def IsLam (X : Cx) (k : Nat) (t : XK → TE) (f : Addr) (L : List (Addr × HO)) : Prop := ∀ pins σ H s, Inv X pins σ H s → Act X.prog X.w X.K X.mg (big s H X.stack) (k + 1) f fun H' Q E => (∀ p ∈ L, H' p.1 = some p.2) ∧ t E σ H' Q
def tLamM (X : Cx) (P : Addr) (q : Str) (k : Nat) (t : XK → TE) : TE := fun σ H Q => ∃ hd, (∀ a, hd a = true → H a ≠ none) ∧ TabV hd H P q ∧
  ∀ (f : Addr) (L : List (Addr × HO)) (H3 : Hp), IsLam X k t f L → Ex (at0 P) H H3 → TabV hd H3 P q → (∀ p ∈ L, dic (thaw p.2) = false ∧ Hm hd H3 p.1 = some p.2) → Q (.ref f) H3
theorem pe_lamM {X : Cx} {c P : Addr} {q : Str} {params : Arguments} {body : Expr} {scope : Scope} {pos : Pos} {es : List Expr} {ps : List Str} {k : Nat} {t : XK → TE} (TB : TabB X.base X.mg c P) (hcode : X.env.code = .ref c) (hq : X.env.qual ++ "<lambda>" = q) (hfn : ∀ y, X.fn y = true)
    (L : LamS2 X.N X.env.scope scope ps) (hdef : defaultsOf params X.env = (evalEach es X.env, [])) (hes : (es.all fun e => e.isPlainConst) = true) (hlen : es.length = ps.length) (hN : es = [] → FillsN params body scope) (hD : es ≠ [] → FillsD params body scope ps)
    (hbody : ∀ (B : Heap) (A : Around) (outer : List Env) (s' : Shared) (H' : Hp) (E : XK) (f c' : Addr), Room k (A.deeper (lamEnv X scope s'.heap.objs.size f c')) → PE (lamCxB X B A outer s' H' E scope f c') body (t E)) :
    PE X (.Lambda params body scope pos) (tLamM X P q k t) := by
  refine ⟨fun pins s σ H Q I h => ?_⟩
  obtain ⟨hd, dom, hT, h⟩ := h
  refine (pe_lamO TB hcode hq hdef (fun e he => List.all_eq_true.mp hes e he) (fun ok => L.has ok)).run pins s σ H Q I ⟨hd, dom, hT, fun f c' pm ctv dV dT H3 dd e3 nf T3 hL => ?_⟩
  refine h f _ H3 (fun pins' σ' H' s' I' => ?_) e3 T3 fun p hp => ⟨?_, hL p hp⟩
  · refine lam_act hq I' hfn L ?_ fun A outer s1 H1 E hr => hbody _ A outer s1 H1 E f c' hr
    rcases dd with ⟨e0, e1, e2⟩ | ⟨T, e0, e1, e2⟩
    · exact .inl ⟨e1, e2, hN e0⟩
    · exact .inr ⟨T, by rw [e1, hlen], e2, hD e0⟩
  · rcases dT with _ | ⟨T, n⟩
    · simp only [LamAt, List.mem_cons, List.not_mem_nil, or_false] at hp
      rcases hp with rfl | rfl <;> rfl
    · simp only [LamAt, List.mem_cons, List.not_mem_nil, or_false] at hp
      rcases hp with rfl | rfl | rfl <;> rfl
def tAct (P : Program) (w : World) (K : PySem.W.Frag) (mg : Str → Option Value) (B : Heap) (k i : Nat) (W : WX) : TE := fun σ H Q => ∃ f sp, σ[i]? = some (some (.ref f)) ∧ Act P w K mg B k f sp ∧ sp H Q (WE W σ)
theorem pe_actB {X : Cx} {k i : Nat} {a : Str} {W : WX} {p1 p2 : Pos} (hr : Room k X.A) (tk : Takes X W) (hN : X.N[i]? = some a) (hv : Vis X.env.scope a) (hd : (a == ("__debug__" : Str)) = false := by decide) (hcd : (a == ("__classdict__" : Str)) = false := by decide) :
    PE X (.Call (.Name a p1) [] [] p2) (tAct X.prog X.w X.K X.mg X.base k i W) := by
  refine ⟨fun pins s σ H Q I h => ?_⟩
  obtain ⟨f, sp, hs, ⟨isf, run⟩, hsp⟩ := h
  refine wpAny_Call_Name_kw (thn ((pe_var (pos := p1) (i := i) hN hv hd hcd).run pins s σ H (fun v H1 => v = .ref f ∧ H1 = H) I ⟨.ref f, hs, rfl, rfl⟩) fun u s1 hh => ?_)
  obtain ⟨v, H1, I1, r1, rfl, eH⟩ := hh
  rw [eH] at I1
  cases (show u = Value.ref f from r1)
  obtain ⟨q, params, body, scope, cl, dV, pm, cdv, ct, hf⟩ := isf _ _ _ hsp
  obtain ⟨of1, _, _⟩ := I1.hok f _ hf
  refine PySem.W.callWith_F0 ⟨_, _, _, _, of1⟩ ?_
  refine wpAny_call (codeAny_mono (run X.A X.stack s1 H Q (WE W σ) hr I1.env0 hsp) fun r s' hq => ?_)
  cases r with
  | error e => exact passAt tk σ pins H s1 e s' I1 hq
  | ok fl =>
    cases fl with
    | ret u => exact I1.after hq
    | next => exact hq.elim
    | brk => exact hq.elim
    | cont => exact hq.elim
def spT (P : Program) (w : World) (K : PySem.W.Frag) (mg : Str → Option Value) (names : List Str) (k : Nat) (B : Heap) : Sp := fun vs H Q _ => ∃ f sp, vs = [.ref f] ∧ Act P w K mg B k f sp ∧ ∀ W : XK, (∀ cls d H', Ew K names Q cls d H' → W cls d H') → sp H Q W
end CC
namespace CC
open PySem PySem.Spec PyProof.Rows L2
open LamX (CodeO TabS TabB lamEnv lamCx inv_table among_app codeO_ne)
structure LamS3 (N : List Str) (sc scope : Scope) (p : Str) (j : Nat) : Prop where
  kind : scope.kind = .function
  co : scope.isCoroutine = false
  gen : scope.isGenerator = false
  cell : ∀ y ∈ scope.names, y.2 ≠ .cell
  loc : ∀ y ∈ scope.names, y.2 = .local → y.1 ∈ N → y.1 = p
  par : scope.names.lookup p = some .local
  free : ∀ y ∈ scope.names, y.2 = .free → sc.names.lookup y.1 = some .cell ∨ sc.names.lookup y.1 = some .free
  at_ : N[j]? = some p
  one : ∀ i, N[i]? = some p → i = j
theorem LamS3.has {X : Cx} {scope : Scope} {p : Str} {j : Nat} (L : LamS3 X.N X.env.scope scope p j) (ok : X.Ok) : ∀ y ∈ scope.names, y.2 = .free → ∃ c, X.env.cells.lookup y.1 = some c := fun y hy e => by
  rcases L.free y hy e with k | k
  · exact ok.has _ (.inl k)
  · exact ok.has _ (.inr k)
end CC
namespace CC
open PySem PySem.Spec PyProof.Rows L2
open LamX (CodeO TabS TabB lamEnv lamCx inv_table among_app codeO_ne)
open PySem.W (AllAlike Sortable dataLe EachIs KeyPure)
def Kp (s s' : Shared) : Prop := ∃ h' tk, s' = { s with heap := h', toks := tk } ∧ ∀ b o, s.heap.get? b = some o → h'.get? b = some o
theorem Kp.rfl {s : Shared} : Kp s s := ⟨s.heap, s.toks, by cases s; exact Eq.refl _, fun _ _ e => e⟩
theorem Kp.trans {s s1 s2 : Shared} (a : Kp s s1) (b : Kp s1 s2) : Kp s s2 := by
  obtain ⟨h1, t1, rfl, k1⟩ := a
  obtain ⟨h2, t2, rfl, k2⟩ := b
  exact ⟨h2, t2, Eq.refl _, fun b o e => k2 b o (k1 b o e)⟩
theorem Kp.keep {s s1 : Shared} (a : Kp s s1) : ∀ b o, s.heap.get? b = some o → s1.heap.get? b = some o := by
  obtain ⟨h1, t1, rfl, k1⟩ := a
  exact k1
structure LamS4 (sc scope : Scope) (p : Str) : Prop where
  kind : scope.kind = .function
  co : scope.isCoroutine = false
  gen : scope.isGenerator = false
  cell : ∀ y ∈ scope.names, y.2 ≠ .cell
  par : scope.names.lookup p = some .local
  free : ∀ y ∈ scope.names, y.2 = .free → sc.names.lookup y.1 = some .cell ∨ sc.names.lookup y.1 = some .free
theorem LamS4.has {X : Cx} {scope : Scope} {p : Str} (L : LamS4 X.env.scope scope p) (ok : X.Ok) : ∀ y ∈ scope.names, y.2 = .free → ∃ c, X.env.cells.lookup y.1 = some c := fun y hy e => by
  rcases L.free y hy e with k | k
  · exact ok.has _ (.inl k)
  · exact ok.has _ (.inr k)
end CC
namespace CC
open PySem PySem.Spec PyProof.Rows L2
open PySem.W (AllAlike Sortable dataLe)
section
variable {K : PySem.W.Frag} {X : Cl K} {g : GT} {ρ : List Sl} {hd : Addr → Bool} {H H1 H3 : Hp} {P : Addr} {q : Str}
theorem at0_hd (h : hd P = true) : ∀ a, at0 P a = true → hd a = true := fun a z => by
  have : a = P := of_decide_eq_true z
  subst this; exact h
theorem wt_tab (mh : ∀ a, (WT X).mu g a = true → hd a = true) (b : (WT X).B g hd H1) (hP : g P = some (.tab q)) (e : Ex (at0 P) H1 H3) (t : TabV hd H3 P q) : Ex ((WT X).mu g) H1 H3 ∧ (WT X).B g hd H3 ∧ Sees (Hm hd H1) (Hm hd H3) := by
  have sm : Sees (Hm hd H1) (Hm hd H3) := e.sees (at0_hd (mh P (muT hP)))
  have kp : ∀ a o, a ≠ P → H1 a = some o → H3 a = some o := fun a o ha ho => e.keep a o (decide_eq_false ha) ho
  obtain ⟨nP, ps, hps, _⟩ := b.2 P _ hP
  refine ⟨⟨fun a o hm ho => kp a o (fun z => ?_) ho, e.dom⟩, ⟨X.stab hd hd H1 H3 sm (fun a o ha ho => kp a o (fun z => ?_) ho) b.1, fun a m hm => ⟨(b.2 a m hm).1, ?_⟩⟩, sm⟩
  · subst z; rw [muT hP] at hm; cases hm
  · subst z
    rcases ha with ha | ha
    · rw [nP] at ha; cases ha
    · rw [hps] at ho; cases ho; cases ha
  · by_cases z : a = P
    · subst z
      rw [hP] at hm
      cases hm
      exact t
    · exact (b.2 a m hm).2.mono sm fun o ho => kp a o z ho
end
end CC
namespace CC
open PySem PySem.Spec PyProof.Rows L2
open C8 (Cal pe_c pe_gc)
def FnAtC (K : PySem.W.Frag) (mg : Str → Option Value) (x : Str) (st : Stmt) (ps : List Str) (c : Addr) : Prop := ∃ f fd, mg x = some (.ref f) ∧ Fun K x x st f fd ∧ Binds K fd ps [] ∧ fd.code = .ref c
end CC
namespace CC
open PySem PySem.Spec PyProof.Rows L2
open PySem.W (AllAlike Sortable dataLe EachIs list_sort_data dataLe_int dataLe_str)
end CC
namespace CC
open PySem PySem.Spec PyProof.Rows L2
open C8 (Cal pe_c pe_gc)
def gTabs : List (Addr × Str) → GT
  | [] => g0
  | (P, q) :: r => fun a => if a = P then some (.tab q) else gTabs r a
theorem gTabs_mem : ∀ {ts : List (Addr × Str)}, (ts.map (·.1)).Nodup → ∀ p ∈ ts, gTabs ts p.1 = some (.tab p.2)
  | [], _, _, h => nomatch h
  | (P, q) :: r, nd, p, h => by
    rw [List.map_cons, List.nodup_cons] at nd
    rcases List.mem_cons.mp h with rfl | h
    · exact if_pos rfl
    · have := gTabs_mem nd.2 p h
      show (if p.1 = P then _ else _) = _
      rw [if_neg (fun z => nd.1 (List.mem_map.mpr ⟨p, h, z⟩))]; exact this
theorem gTabs_inv : ∀ {ts : List (Addr × Str)} {a : Addr} {m : MT}, gTabs ts a = some m → ∃ q, (a, q) ∈ ts ∧ m = .tab q
  | [], _, _, h => nomatch h
  | (P, q) :: r, a, m, h => by
    have h : (if a = P then some (.tab q) else gTabs r a) = some m := h
    by_cases z : a = P
    · subst z
      rw [if_pos rfl] at h
      cases h
      exact ⟨q, List.mem_cons_self, rfl⟩
    · rw [if_neg z] at h
      obtain ⟨q', h1, h2⟩ := gTabs_inv h
      exact ⟨q', List.mem_cons_of_mem _ h1, h2⟩
theorem tab_new {hd : Addr → Bool} {H : Hp} {P : Addr} {q : Str} (h : H P = some (.tbl #[])) : TabV hd H P q := ⟨#[], h, trivial, fun pos cv hc => by
  have z : PySem.codeAmong pos [] = some cv := hc
  simp [PySem.codeAmong] at z⟩
theorem nj_beginT {K : PySem.W.Frag} {a b l : Addr} {H : Hp} (n : Nat) {ts : List (Addr × Str)} (bx : Bx b l H) (ht : ∀ p ∈ ts, H p.1 = some (.tbl #[])) {N : L2.St → Hp → Prop} (h : ∀ hid, NJ (ct (XB K b l) (gTabs ts)) hid H N (.rw (.ref a) :: .rw (.ref b) :: List.replicate n .un)) : N (some (.ref a) :: some (.ref b) :: List.replicate n none) H := by
  have s := sd_begun (K := K) (a := a) n bx
  have tb : ∀ x, (gTabs ts x).isSome = true → H x = some (.tbl #[]) := fun x hx => by
    obtain ⟨m, hm⟩ := Option.isSome_iff_exists.mp hx
    obtain ⟨q, hq, _⟩ := gTabs_inv hm
    exact ht _ hq
  have nb : ∀ x, (gTabs ts x).isSome = true → muB b l x = false := fun x hx => by
    cases q : muB b l x with
    | false => rfl
    | true =>
      have h1 := tb x hx
      obtain ⟨s, ns, h2, h3⟩ := bx
      rcases muB_of q with rfl | rfl
      · rw [h2] at h1; cases h1
      · rw [h3] at h1; cases h1
  refine h (fun x => muB b l x || (gTabs ts x).isSome) (fun x => muB b l x || (gTabs ts x).isSome) H _ ⟨⟨fun x hx => ?_, fun x hx => hx, ⟨bx, fun x m hm => ⟨nb x (by rw [hm]; rfl), ?_⟩⟩, ?_⟩, fun x hx => hx, .refl, fun x h1 h2 => ?_, s.own, fun i o ho => ?_⟩
  · rcases Bool.or_eq_true_iff.mp hx with hx | hx
    · exact s.dom x hx
    · rw [tb x hx]; exact fun z => nomatch z
  · obtain ⟨q, hq, rfl⟩ := gTabs_inv hm
    exact tab_new (ht _ hq)
  · have sl := s.slots
    refine SlAll.of_get sl.len fun k x z h1 h2 => ?_
    obtain ⟨x', h3, h4⟩ := sl.get h2
    rw [h1] at h3
    cases h3
    match k, h2 with
    | 0, h2 =>
      cases h2
      cases x with
      | none => exact h4.elim
      | some v => exact h4
    | 1, h2 =>
      cases h2
      cases x with
      | none => exact h4.elim
      | some v => exact h4
    | k + 2, h2 =>
      have := List.mem_of_getElem? (l := List.replicate n Sl.un) (i := k) h2
      rw [List.eq_of_mem_replicate this]
      exact slok_un
  · rw [h1] at h2; cases h2
  · obtain ⟨_, z, h2, h3⟩ := ho
    match i, h2 with
    | 0, h2 => cases h2; cases h3
    | 1, h2 => cases h2; cases h3
    | i + 2, h2 =>
      have := List.mem_of_getElem? (l := List.replicate n Sl.un) (i := i) h2
      rw [List.eq_of_mem_replicate this] at h3
      cases h3
end CC
namespace CC
open PySem PySem.Spec PyProof.Rows L2
open LamX (CodeO TabS TabB lamEnv lamCx inv_table among_app codeO_ne)
open PySem.W (KeyPure)
end CC
namespace CC
open PySem PySem.Spec PyProof.Rows L2
open C8 (Cal pe_c pe_gc)
end CC
namespace CC
open PySem PySem.Spec PyProof.Rows L2
open C8 (Cal pe_c pe_gc)
end CC
namespace CC
open PySem PySem.Spec PyProof.Rows L2
open C8 (Cal pe_c pe_gc)
section
variable {K : PySem.W.Frag} {X : Cl K} {g : GT} {hid hd : Addr → Bool} {H0 H : Hp} {σ : L2.St} {ρ : List Sl} {te ta tb to td ty : TE} {tr : TA} {t u : TT} {D : Ends} {ts tz : TS} {gg : TG} {gs : TGs}
def ETR (X : Cl K) (g : GT) (t : TT) (ρ : List Sl) (Q : GT → Bool → Prop) : Prop := ∀ hd H σ, SV (ct X g) hd H σ ρ → ∀ Qh : Bool → Hp → Prop, (∀ g' b H', Q g' b → Go (WT X) g g' hd H H' → Qh b H') → t σ H Qh
theorem etr_B {Q : GT → Bool → Prop} (h : EVR X g te ρ fun g' r => ∃ b, r = .dat (.bl b) ∧ Q g' b) : ETR X g (tB te) ρ Q := fun hd H σ v Qh q => h hd H σ v _ fun g' r x H' hq st rv => by
  obtain ⟨b, rfl, hq⟩ := hq
  exact ⟨b, rp_bl rv, q g' b H' hq st⟩
theorem etr_not {Q : GT → Bool → Prop} (h : ETR X g t ρ fun g' b => Q g' (!b)) : ETR X g (tNot t) ρ Q := fun hd H σ v Qh q => h hd H σ v _ fun g' b H' hq st => q g' _ H' hq st
theorem njg_if {ts tu : TS} (h : ETR X g t ρ fun g1 b => Fr (WT X) g g1 H0 → (b = true → NJ (ct X g1) hid H0 (ts D) ρ) ∧ (b = false → NJ (ct X g1) hid H0 (tu D) ρ)) : NJ (ct X g) hid H0 (tIfS t ts tu D) ρ := fun hd H σ s => h hd H σ s.toSV _ fun g1 b H1 hq st => by
  obtain ⟨s1, f1⟩ := s.step st
  cases b with
  | true => exact (hq f1).1 rfl _ H1 σ s1
  | false => exact (hq f1).2 rfl _ H1 σ s1
theorem qg_when (h : ETR X g t ρ fun g1 b => Fr (WT X) g g1 H0 → (b = true → NJ (ct X g1) hid H0 (ts { D with nx := tz D }) ρ) ∧ (b = false → NJ (ct X g1) hid H0 (tz D) ρ)) : NJ (ct X g) hid H0 (tSeq (tIfS t ts tNext) tz D) ρ := njg_if (D := { D with nx := tz D }) h
theorem njg_when (h : ETR X g t ρ fun g1 b => Fr (WT X) g g1 H0 → (b = true → NJ (ct X g1) hid H0 (ts D) ρ) ∧ (b = false → NJ (ct X g1) hid H0 D.nx ρ)) : NJ (ct X g) hid H0 (tIfS t ts tNext D) ρ := njg_if h
theorem evr_callPG {S : List Dt → (Dt → Prop) → Prop} {E : XK} {Q : GT → RV → Prop} (A : Addr → Bool) (n : Nat) (h : EAG X g tr ρ fun g1 rs => ∃ ds, P2 (SeenA g1 A n) rs ds ∧ S ds fun d => scalar d = true ∧ Q g1 (.dat d)) : EVR X g (tCall (spP K S) [] E tr) ρ Q := fun hd H σ v Qh q => h hd H σ v _ fun g1 rs vs H1 hq st1 r1 => by
  obtain ⟨ds, hs, hS⟩ := hq
  have v1 := v.step st1
  rw [List.append_nil]
  refine ⟨unA (un hd ((WT X).mu g1)) A, ds, _, fun a ha => v1.dom a (unA_sub ha), p2_seen (seenA_rp v1.inv (fun a ha => unA_sub ha) (fun a ha => unA_of ha) n) r1 hs, hS, fun d x H2 hq e2 r2 => ?_⟩
  have go2 : Go (WT X) g1 g1 (un hd ((WT X).mu g1)) H1 H2 := Go.of v1.muh (e2.up (c := ct X g1)) ((ct X g1).keep0 e2 v1.inv)
  exact q g1 (.dat d) x H2 hq.2 (st1.trans go2) (rp_scalar hq.1 r2)
end
end CC
namespace CC
open PySem PySem.Spec PyProof.Rows L2
open C8 (Cal pe_c pe_gc)
end CC
namespace CC
open PySem PySem.Spec PyProof.Rows L2
open C8 (Cal pe_c pe_gc)
section
variable {K : PySem.W.Frag} {X : Cl K} {g : GT} {hid hd : Addr → Bool} {H0 H : Hp} {σ : L2.St} {ρ : List Sl} {te ta tb to td ty : TE} {tr : TA} {t u : TT} {D : Ends} {ts tz : TS}
theorem evr_opPG {r : R2} {Q : GT → RV → Prop} (A : Addr → Bool) (n : Nat) (h : EAG X g (tCons ta (tCons tb tNil)) ρ fun g1 rs => ∃ d1 d2, P2 (SeenA g1 A n) rs [d1, d2] ∧ R2J (Cn.pure K) r d1 d2 fun d => scalar d = true ∧ Q g1 (.dat d)) : EVR X g (tOp r ta tb) ρ Q := fun hd H σ v Qh q => by
  have := h hd H σ v (fun vs H1 => match vs with | [x, y] => r x y H1 Qh | _ => False) fun g1 rs vs H1 hq st1 r1 => by
    obtain ⟨d1, d2, hs, hS⟩ := hq
    have v1 := v.step st1
    have ra := p2_seen (seenA_rp v1.inv (fun a (ha : unA (un hd ((WT X).mu g1)) A a = true) => unA_sub ha) (fun a ha => unA_of ha) n) r1 hs
    cases ra with
    | cons ra rb =>
      cases rb with
      | cons rb rc =>
        cases rc
        refine hS (unA (un hd ((WT X).mu g1)) A) H1 _ _ (fun a ha => v1.dom a (unA_sub ha)) (fun a ha => nomatch ha) trivial ra rb Qh fun d x H2 hq e2 _ r2 => ?_
        have go2 : Go (WT X) g1 g1 (un hd ((WT X).mu g1)) H1 H2 := Go.of v1.muh (e2.up (c := ct X g1)) ((ct X g1).keep0 e2 v1.inv)
        exact q g1 (.dat d) x H2 hq.2 (st1.trans go2) (rp_scalar hq.1 r2)
  exact this
end
end CC
namespace CC
open PySem PySem.Spec PyProof.Rows L2
open C8 (Cal pe_c pe_gc)
open LamX (CodeO TabS TabB)
end CC
namespace CC
open PySem PySem.Spec PyProof.Rows L2
open C8 (Cal pe_c pe_gc)
structure CeC (K : PySem.W.Frag) (mg : Str → Option Value) (x : Str) (D : Addr) : Prop where
  g : mg x = some (.ref D)
  ty : PySem.W.typeIn K (.ref D) = some (.type "type")
  rd : PySem.W.readsIn K D (.type "type") = true
  ga : PySem.W.specialIn K (.ref D) "__getattribute__" = some (some (.builtin "type.__getattribute__"))
  ini : PySem.W.findCls K (.ref D) (.type "type") "__init__" = some (.val (.builtin "ValueError.__init__"))
def isVal (r : Option PySem.W.CFound) (id : String) : Bool := match r with
  | some (.val (.builtin i)) => decide (i = id)
  | _ => false
theorem isVal_okE {r : Option PySem.W.CFound} {id : String} (h : isVal r id = true) : r = some (.val (.builtin id)) := by
  unfold isVal at h
  split at h
  · rw [of_decide_eq_true h]
  · cases h
def ceB (K : PySem.W.Frag) (D : Addr) : Bool := decide (PySem.W.typeIn K (.ref D) = some (.type "type")) && (PySem.W.readsIn K D (.type "type") && (decide (PySem.W.specialIn K (.ref D) "__getattribute__" = some (some (.builtin "type.__getattribute__"))) && isVal (PySem.W.findCls K (.ref D) (.type "type") "__init__") "ValueError.__init__"))
theorem ceB_ok {K : PySem.W.Frag} {mg : Str → Option Value} {x : Str} {D : Addr} (g : mg x = some (.ref D)) (h : ceB K D = true) : CeC K mg x D := by
  unfold ceB at h
  simp only [Bool.and_eq_true, decide_eq_true_eq] at h
  exact ⟨g, h.1, h.2.1, h.2.2.1, isVal_okE h.2.2.2⟩
section
variable {X : Cx} {e : Expr} {es : List Expr} {ta : TA} {p p1 p2 pos : Pos}
theorem pe_ceinit {pl : Sem Bool} {x : Str} {D : Addr} (hg : Gl X x) (c : CeC X.K X.mg x D) (ha : PA X (e :: es) ta) (hdb : (x == ("__debug__" : Str)) = false := by decide)
    (hc : eval (.Call (.Attribute (.Name x p1) "__init__" p2) (e :: es) [] pos) X.env = (do
      let ov ← eval (.Name x p1) X.env
      standAt p2.atName
      let (f, first) ← holding [ov] (getMethod ov "__init__" pl)
      callWith pos f first (backTo pos (starEach (e :: es) X.env)) (backToKw pos (keywordEach [] X.env))) := by rfl)
    (he : starEach (e :: es) X.env = (false, eval e X.env) :: starEach es X.env := by rfl) (hpl : (backTo pos (starEach es X.env)).any (·.1) = false := by rfl) :
    PE X (.Call (.Attribute (.Name x p1) "__init__" p2) (e :: es) [] pos) (tVeI X.K ta) := by
  refine ⟨fun pins s σ H Q I h => ?_⟩
  refine PySem.W.methodCall_KW (ld_glob I hg c.g ?_ hdb) hc
  obtain ⟨m, fr⟩ := I.fr
  refine PySem.W.method_of_cls fr I.ok.mod.kin c.ga (PySem.W.cls_val fr I.ok.mod.kin c.ty c.rd c.ini (by decide +kernel) ?_)
  show wpAny _ _ (callWith pos (Value.builtin "ValueError.__init__") [] (backTo pos (starEach (e :: es) X.env)) []) _ _ _
  refine PyProof.Rows.callWith_method1 (thn (ha.run pos pins _ σ H _ (I.tok _) h) fun us s1 hh => ?_) he hpl
  obtain ⟨vs, H1, I1, r1, a, C, ws, rfl, hl, T, ea, q⟩ := hh
  cases r1 with
  | @cons _ u0 _ ur ra rw' =>
    cases (show u0 = Value.ref a from ra)
    have hlen : ur.length ≤ sizeLine := by
      rw [← Paired.length rw', sizeLine_eq]
      omega
    exact oinit_ok T I1 ea hlen fun s' J => ⟨.non, H1, J, rfl, q⟩
end
def oexB (K : PySem.W.Frag) (C : Addr) : Bool := (match K.lookup C with
    | some ⟨.type "type", _, .cls cd, sl⟩ => (match cd.mro, sl.toList with
      | .ref C' :: bm, [_, _, _, _, some (.builtin n), _] => decide (C' = C) && (decide (n = "ValueError.__new__") && (!cd.hasDel && (cd.hasDict && PySem.HandSPX.refsVE bm)))
      | _, _ => false)
    | _ => false) && (decide (PySem.W.findIn K (.ref C) "__setattr__" = some (some (.builtin "object.__setattr__"))) && (decide (PySem.W.subIn K (.ref C) (.type "BaseException") = some true) && (decide (PySem.W.typeIn K (.ref C) = some (.type "type")) && PySem.W.keepIn K (.ref C))))
theorem oexB_ok {K : PySem.W.Frag} {C : Addr} (h : oexB K C = true) : OexC K C := by
  unfold oexB at h
  simp only [Bool.and_eq_true, decide_eq_true_eq] at h
  obtain ⟨h1, h2, h3, h4, h5⟩ := h
  refine ⟨?_, h2, h3, h4, h5⟩
  split at h1
  · rename_i dd cd sl ho
    split at h1
    · rename_i C' bm k0 k1 k2 k3 n k5 hm hs
      simp only [Bool.and_eq_true, decide_eq_true_eq, Bool.not_eq_true'] at h1
      obtain ⟨rfl, rfl, hd, hh, hr⟩ := h1
      obtain ⟨nm, bs, mro, N, q, hasD, sn, sub, ab, col, del⟩ := cd
      dsimp only at hm hd hh
      subst hm hd hh
      have e : sl = #[k0, k1, k2, k3, some (.builtin "ValueError.__new__"), k5] := by
        rw [← hs]
      subst e
      exact ⟨nm, q, N, bs, bm, sn, sub, ab, col, dd, k0, k1, k2, k3, k5, ho, hr⟩
    · cases h1
  · cases h1
structure InitW (st : Stmt) (qual : Str) : Prop where
  sc : FnScope ["self", "place"] ["self", "place"] (defScope st)
  run : ∀ {P : Program} {w : World} {K : PySem.W.Frag} {mg : Str → Option Value} {base : Heap} {f : Addr} {cdv : Value} {A : Around} {outer : List Env} {s : Shared} {H : Hp} {E : XK} {D : Addr}, CeC K mg "ColumnError" D →
    ∃ z : Str, PSs (cxD P w K mg base ["self", "place"] qual st f cdv A outer s H E) (defBody st) (tSeq (tDrop (tVeI K (tCons (tVar 0) (tCons (tC (.str z)) tNil)))) (tOst K "place" (tVar 0) (tVar 1)))
structure PlC (K : PySem.W.Frag) (mg : Str → Option Value) (x : Str) (C : Addr) : Prop where
  g : mg x = some (.ref C)
  o : OexC K C
  no : PySem.W.findIn K (.ref C) "place" = some none
  ce : ∃ D, CeC K mg "ColumnError" D
  ini : ∃ (f : Addr) (fd : FuncData) (st : Stmt) (qual : Str), Fun K "__init__" qual st f fd ∧ InitW st qual ∧ PySem.W.findIn K (.ref C) "__init__" = some (some (.ref f)) ∧ PySem.W.typeIn K (.ref f) = some (.type "function") ∧ Binds K fd ["self", "place"] []
def spI (C : Addr) : Sp := fun vs H Q _ => ∃ a pl, vs = [.ref a, .int pl] ∧ H a = some (exo a C none) ∧ ∀ dx, H dx = none → dx ≠ a → Q .non (upd (upd H dx (exd dx [("place", .int pl)])) a (exo a C (some dx)))
section
variable {P : Program} {w : World} {K : PySem.W.Frag} {mg : Str → Option Value} {base : Heap}
theorem init_ok {x : Str} {C : Addr} {k : Nat} (c : PlC K mg x C) {f : Addr} {fd : FuncData} {st : Stmt} {qual : Str} (F : Fun K "__init__" qual st f fd) (W : InitW st qual) : FnOk P w K mg base CX0 (k + 1) f fd ["self", "place"] (spI C) := by
  obtain ⟨D, ce⟩ := c.ce
  refine F.ok W.sc (fun vs H Q E h => ?_) (fun cdv A outer s H vs Q E hr h => ?_)
  · obtain ⟨a, pl, rfl, _⟩ := h; rfl
  · obtain ⟨a, pl, rfl, ha, hq⟩ := h
    obtain ⟨z, ht⟩ := W.run (P := P) (w := w) (base := base) (f := f) (cdv := cdv) (A := A) (outer := outer) (s := s) (H := H) (E := E) ce
    refine ⟨_, ht, ?_⟩
    refine ⟨.ref a, rfl, a, C, [.str z], rfl, (by show 1 ≤ 1000; decide), c.o, ha, ?_⟩
    refine ⟨.int pl, rfl, .ref a, rfl, a, C, rfl, c.o, c.no, .inl ⟨ha, fun dx n1 n2 => hq dx n1 n2⟩⟩
end
def tPl (C : Addr) (te : TE) : L2.St → Hp → XK → Prop := fun σ H Q => te σ H fun v H1 => ∃ i : Int, v = .int i ∧ ∀ d H2, H1 d = none → Ex none0 H1 H2 → H2 d = some (.xd [("place", .int i)]) → Q (.ref C) (some d) H2
def tMono (te : TE) : TE := fun σ H Q => ∃ K : VK, te σ H K ∧ ∀ v H1, K v H1 → Q v H1
theorem pe_mono {X : Cx} {e : Expr} {te : TE} (h : PE X e te) : PE X e (tMono te) := ⟨fun pins s σ H Q I q => by
  obtain ⟨K, h1, h2⟩ := q
  refine thn (h.run pins s σ H K I h1) fun u s1 hh => ?_
  obtain ⟨v, H1, I1, r, k⟩ := hh
  exact ⟨v, H1, I1, r, h2 v H1 k⟩⟩
theorem pmk_place {X : Cx} {x : Str} {C : Addr} {e : Expr} {te : TE} {p pos : Pos} {j : Nat} (c : PlC X.K X.mg x C) (hr : Room j X.A) (hj : 2 ≤ j) (hg : Gl X x) (he : PE X e te) (hx : Passes CX0 X (fun _ _ _ => False) := fun _ _ _ _ _ _ _ z => z.elim)
    (hdb : (x == ("__debug__" : Str)) = false := by decide) (hst : starEach [e] X.env = (false, eval e X.env) :: starEach [] X.env := by rfl) (hpl : (backTo pos (starEach [] X.env)).any (·.1) = false := by rfl) :
    PMk X (.Call (.Name x p) [e] [] pos) (tPl C te) := by
  obtain ⟨f, fd, st, qual, F, W, h1, h2, b⟩ := c.ini
  intro pins s σ H Q I h
  refine pmk_oex (k := 1) (sp := spI C) (dvs := []) c.o h1 h2 (init_ok (k := 0) c F W) (hr.mono hj) b .nil hx hg c.g (pa_cons (pe_mono he) pa_nil hst) hdb hst hpl pins s σ H Q I ?_
  refine ⟨_, h, fun v H1 hk => ?_⟩
  obtain ⟨i, rfl, hk⟩ := hk
  refine ⟨by show 1 ≤ 1000; decide, fun a na => ⟨a, i, rfl, upd_same, fun dx nd ne => ⟨rfl, dx, _, upd_same, by rw [upd_ne ne, upd_same], ?_, ?_⟩⟩⟩
  · rw [upd_ne ne] at nd; exact nd
  · rw [upd_ne ne] at nd
    refine hk dx _ nd ⟨fun b o _ ho => ?_, fun b ho => ?_⟩ upd_same
    · have n1 := ne_of_none ho nd
      have n2 := ne_of_none ho na
      rw [upd_ne n1, del_ne n2, upd_ne n2, upd_ne n1, upd_ne n2]
      exact ho
    · cases q : H1 b with
      | none => exact absurd q ho
      | some o =>
        have n1 := ne_of_none q nd
        have n2 := ne_of_none q na
        rw [upd_ne n1, del_ne n2, upd_ne n2, upd_ne n1, upd_ne n2, q]
        exact fun z => nomatch z
end CC
namespace CC
open PySem PySem.Spec PyProof.Rows L2
def rIsA (K : PySem.W.Frag) (D a : Addr) (d : Option Addr) : List V → Hp → VK → Prop := fun xs H Q => ∃ (c : V) (cv : Value) (b : Bool), xs = [.ref a, c] ∧ (∀ u, RelV c u → u = cv) ∧ PySem.W.kitOne K (.ref D) cv = some b ∧ (∀ dd, d = some dd → ∃ fs, H dd = some (.xd fs)) ∧ Q (.bl b) H
theorem call_isA {X : Cx} {a D : Addr} {d : Option Addr} {oe : Obj} (C : ExcC X.K D) (hp : (a, oe) ∈ X.pn) (hz : Zc (.ref D) d oe) (hf : ∃ vs, oe.data = .fields vs) : CallR X (.builtin "isinstance") (rIsA X.K D a d) := by
  intro pins s σ H xs us Q I r h
  obtain ⟨c, cv, b, rfl, hcv, e, hdd, q⟩ := h
  obtain ⟨vs, hv⟩ := hf
  have hget := (I.pin (a, oe) (List.mem_append_left _ hp)).1
  have inst : ∃ od, PySem.W.InstAt s.heap a oe D od := by
    cases d with
    | none => exact ⟨none, hget, hz.1, by unfold PySem.W.notCls; rw [hv] <;> rfl, by rw [hz.2]; trivial⟩
    | some dd =>
      obtain ⟨fs, hx⟩ := hdd dd rfl
      obtain ⟨mA, hns, hr⟩ := show ObjOk X.prog X.w H s.heap dd (.xd fs) from I.hok dd _ hx
      obtain ⟨od, ho, hl⟩ := lookIn_ns hns
      exact ⟨some od, hget, hz.1, by unfold PySem.W.notCls; rw [hv] <;> rfl, by rw [hz.2]; exact ho⟩
  obtain ⟨od, inst⟩ := inst
  have hcl : (PySem.W.clsIn X.K D).isSome = true := by
    obtain ⟨cd, hc, _⟩ := PySem.W.any_some C.hd
    rw [hc]; rfl
  cases r with
  | cons rx rr =>
    cases rr with
    | cons rt rr =>
      cases rr
      cases rx
      cases hcv _ rt
      exact PySem.W.kia_one (PySem.W.kitx_exc hcl C.hg C.hk C.hs C.ha C.hn C.ht C.hm) I.kIn inst e (fun z => nomatch z) fun tk => ⟨.bl b, H, I.kept (t' := tk) fun _ _ z => z, rfl, q⟩
abbrev cnX (K : PySem.W.Frag) (d : Option Addr) (fs : List (Str × V)) : Cn := ⟨K, none0, fun hd H => ∀ dd, d = some dd → Hm hd H dd = some (.xd fs), fun _ _ H H' e _ h dd hd => by
  obtain ⟨o, e1, e2⟩ := e dd _ (h dd hd)
  rw [e2.plain rfl] at e1
  exact e1⟩
theorem ev_isA {K : PySem.W.Frag} {fs : List (Str × V)} {ρ : List Sl} {Q : Dt → Prop} {i : Nat} {a D : Addr} {d : Option Addr} {v : V} {cv : Value} {b : Bool} (hi : ρ[i]? = some (.rw (.ref a))) (hcv : ∀ u, RelV v u → u = cv) (hk : PySem.W.kitOne K (.ref D) cv = some b) (h : Q (.bl b)) :
    EV (cnX K d fs) (tCB (rIsA K D a d) (tCons (tVar i) (tCons (tC v) tNil))) ρ Q := fun hd H σ s Qh q =>
  ⟨.ref a, rw_get s.slots hi, v, cv, b, rfl, hcv, hk, fun dd e => ⟨fs, hm_le (s.inv dd e)⟩, q _ _ H h .refl s.inv (.bl b)⟩
theorem ev_place {K : PySem.W.Frag} {fs : List (Str × V)} {ρ : List Sl} {Q : Dt → Prop} {i : Nat} {a C dd : Addr} {j : Int} {f : Str} (hi : ρ[i]? = some (.rw (.ref a))) (T : XfC K C) (hno : PySem.W.findIn K (.ref C) f = some none) (hl : fs.lookup f = some (.int j)) (h : Q (.int j)) :
    EV (cnX K (some dd) fs) (tXfA K a (.ref C) (some dd) f (tVar i)) ρ Q := fun hd H σ s Qh q =>
  ⟨.ref a, rw_get s.slots hi, rfl, C, dd, fs, .int j, rfl, T, hno, rfl, hm_le (s.inv dd rfl), hl, q _ _ H h .refl s.inv (.int j)⟩
end CC
namespace CC
open PySem PySem.Spec PyProof.Rows L2
open C8 (Cal pe_c pe_gc)
section
variable {c : Cn} {K : PySem.W.Frag} {ρ : List Sl} {Q : Dt → Prop} {ds : List Dt} {E : XK}
def RZ (K : PySem.W.Frag) (E : XK) (R : Str → Option Int → Prop) (H0 : Hp) : Prop := ∀ nm pl, R nm pl → ∀ d H', Ex none0 H0 H' → (∀ dd, d = some dd → H0 dd = none) → Pl d pl H' → E (.ref (He.ga K nm)) d H'
variable {R : Str → Option Int → Prop} {H0 H1 : Hp} {hid : Addr → Bool} {D : Ends} {tz : TS}
theorem RZ.go (h : RZ K E R H0) (e : Ex none0 H0 H1) : RZ K E R H1 := fun nm pl hr d H' e' hf hp => h nm pl hr d H' (e.trans e') (fun dd hd => e.fresh (hf dd hd)) hp
theorem nj_dropY {S : List Dt → (Dt → Prop) → (Str → Option Int → Prop) → Prop} {ta : TA} (hz : RZ K E R H0) (h : EVA (Cn.pure K) ta ρ fun ds => S ds (fun _ => NJ (Cn.pure K) hid H0 D.nx ρ) R) : NJ (Cn.pure K) hid H0 (tDrop (tCallS (spY K S) (fun _ => E) ta) D) ρ := fun hd H σ s =>
  h hd H σ s.toSV _ fun ds vs H1 h1 e1 b1 r1 => ⟨hd, ds, _, R, fun a ha => e1.dom a (s.dom a ha), r1, h1, fun d v H2 hq e2 r2 => hq hd H2 _ (s.go (e1.trans e2) trivial), fun nm pl hr d H2 e2 hf hp => hz nm pl hr d H2 ((s.ext.trans e1).trans e2) (fun dd e => (s.ext.trans e1).fresh (hf dd e)) hp⟩
theorem q_dropY {S : List Dt → (Dt → Prop) → (Str → Option Int → Prop) → Prop} {ta : TA} (hz : RZ K E R H0) (h : EVA (Cn.pure K) ta ρ fun ds => S ds (fun _ => NJ (Cn.pure K) hid H0 (tz D) ρ) R) : NJ (Cn.pure K) hid H0 (tSeq (tDrop (tCallS (spY K S) (fun _ => E) ta)) tz D) ρ := nj_dropY (D := { D with nx := tz D }) hz h
theorem nj_raiseP {x : Str} {i : Nat} {j : Int} (hz : RZ K E R H0) (hi : ρ[i]? = some (.im (.int j))) (hR : R x (some j)) : NJ (Cn.pure K) hid H0 (fun σ H => tPl (He.ga K x) (tVar i) σ H fun cls d H' => E cls d H') ρ := fun hd H σ s => by
  obtain ⟨o, g1, g2⟩ := s.slots.get hi
  cases o with
  | none => exact g2.elim
  | some v =>
    cases (show Rp K (Hm hd H) v (.int j) from g2)
    exact ⟨.int j, g1, j, rfl, fun d H2 nd e hx => hz x (some j) hR _ H2 (s.ext.trans e) (fun dd e => by cases e; exact s.ext.fresh nd) hx⟩
theorem nj_raiseN {x : Str} (hz : RZ K E R H0) (hR : R x none) : NJ (Cn.pure K) hid H0 (fun _ H => E (.ref (He.ga K x)) none H) ρ := fun hd H σ s => hz x none hR none H s.ext (fun _ z => nomatch z) trivial
end
end CC
namespace PySem
open Builtin
end PySem
namespace CC
open PySem PySem.Spec PyProof.Rows L2
end CC
namespace CC
open PySem PySem.Spec PyProof.Rows L2
open C8 (Cal pe_c pe_gc)
def RXR {K : PySem.W.Frag} (X : Cl K) (g : GT) (hid : Addr → Bool) (H0 : Hp) (E : XK) (nm : Str) (pl : Option Int) : Prop := ∀ d H', Ex ((WT X).mu g) H0 H' → (WT X).B g (un hid ((WT X).mu g)) H' → (∀ dd, d = some dd → H0 dd = none ∧ un hid ((WT X).mu g) dd = false) → Pl d pl H' → E (.ref (He.ga K nm)) d H'
section
variable {K : PySem.W.Frag} {X : Cl K} {g g1 : GT} {hid hd : Addr → Bool} {H0 H H' : Hp} {σ : L2.St} {ρ : List Sl} {te ta tb to td ty : TE} {tr : TA} {t u : TT} {D : Ends} {ts tz : TS} {E : XK}
def EVZ (X : Cl K) (g : GT) (hid : Addr → Bool) (H0 : Hp) (te : TE) (ρ : List Sl) (Q : GT → RV → Prop) : Prop := ∀ hd H σ, SD (ct X g) hid hd H0 H σ ρ → ∀ Qh : VK, (∀ g' r v H', Q g' r → Go (WT X) g g' hd H H' → RvOk K (Hm (un hd ((WT X).mu g')) H') v r → Qh v H') → te σ H Qh
theorem EVZ.imp {Q Q' : GT → RV → Prop} (h : EVZ X g hid H0 te ρ Q) (k : ∀ g' r, Q g' r → Q' g' r) : EVZ X g hid H0 te ρ Q' := fun hd H σ s Qh q => h hd H σ s Qh fun g' r v H' hq => q g' r v H' (k g' r hq)
end
end CC
namespace CC
open PySem PySem.Spec PyProof.Rows L2
open C8 (Cal pe_c pe_gc)
end CC
namespace CC
open PySem PySem.Spec PyProof.Rows L2
open C8 (Cal pe_c pe_gc)
end CC
namespace CC
open PySem PySem.Spec PyProof.Rows L2
open C8 (Cal pe_c pe_gc)
section
variable {K : PySem.W.Frag} {X : Cl K} {g g1 : GT} {hid hd : Addr → Bool} {H0 H H' : Hp} {σ : L2.St} {ρ : List Sl} {te ta tb to td ty : TE} {tr : TA} {t u : TT} {D : Ends} {ts tz : TS} {E : XK} {W : WX}
theorem RXR.from {nm : Str} {pl : Option Int} {H1 : Hp} (h : RXR X g1 hid H0 E nm pl) (f : Fr (WT X) g g1 H1) (e : Ex ((WT X).mu g) H0 H1) : RXR X g1 hid H1 E nm pl := fun d H' e1 b hf hp => h d H' ((e.weak f.up).trans e1) b (fun dd z => ⟨e.fresh (hf dd z).1, (hf dd z).2⟩) hp
end
end CC
namespace CC
open PySem PySem.Spec PyProof.Rows L2
open C8 (Cal pe_c pe_gc)
end CC
namespace CC
open PySem PySem.Spec PyProof.Rows L2
open C8 (Cal pe_c pe_gc)
end CC
namespace CC
open PySem PySem.Spec PyProof.Rows L2
open C8 (Cal pe_c pe_gc)
end CC
namespace CC
open PySem PySem.Spec PyProof.Rows L2
open C8 (Cal pe_c pe_gc)
end CC
namespace CC
open PySem PySem.Spec PyProof.Rows L2
open C8 (Cal pe_c pe_gc)
open LamX (CodeO TabS TabB)
section
variable {K : PySem.W.Frag} {X : Cl K} {g g1 : GT} {hd : Addr → Bool} {H H' : Hp} {σ : L2.St} {ρ : List Sl} {names : List Str}
def TWd (X : Cl K) (g : GT) (ρ : List Sl) (names : List Str) (t : XK → TE) (Q : GT → RV → Prop) : Prop := ∀ hd H σ, SV (ct X g) hd H σ ρ → ∀ (Qh : VK) (W : XK),
  (∀ g' r v H', Q g' r → Go (WT X) g g' hd H H' → RvOk K (Hm (un hd ((WT X).mu g')) H') v r → Qh v H') → (∀ cls d H', Ew K names Qh cls d H' → W cls d H') → t W σ H Qh
abbrev refD (nm : Str) (pl : Option Int) : Dt := .tup [.str nm, .int (pl.getD 0)]
theorem ev_lamW {XC : Cx} {P : Addr} {q : Str} {k : Nat} {t : XK → TE} {Q : Dt → Prop} (hP : g P = some (.tab q)) (h : ∀ f L, IsLam XC k t f L → Q (.xo f L)) : EV (ct X g) (tLamM XC P q k t) ρ Q := fun hd H σ v Qh kk => ⟨hd, v.dom, (v.inv.2 P _ hP).2, fun f L H3 il e3 T3 hL => by
  obtain ⟨e4, b3, sm⟩ := wt_tab v.muh v.inv hP e3 T3
  exact kk _ _ H3 (h f L il) e4 b3 (.xo hL)⟩
theorem evr_toldW {XC : Cx} {k : Nat} {ta : TA} {Q : GT → RV → Prop} (hK : XC.K = K) (h : EVA (ct X g) ta ρ fun ds => ∃ t f L, ds = [.xo f L] ∧ IsLam XC k t f L ∧ TWd X g ρ names t Q) : EVR X g (tBig XC (spT XC.prog XC.w K XC.mg names (k + 1)) ta) ρ Q := fun hd H σ v Qh kq => h hd H σ v _ fun ds vs H1 h1 e1 b1 r1 pins s I => by
  obtain ⟨t, f, L, rfl, il, tw⟩ := h1
  subst hK
  have v1 := v.go e1 b1
  obtain ⟨x, rfl, rx⟩ := rp1 r1
  cases rx with
  | xo hL =>
    refine ⟨f, _, rfl, il pins σ H1 s I, fun W hW => ⟨fun p hp => hm_le (hL p hp).2, tw hd H1 σ v1 Qh W (fun g' r z H' hq go rv => kq g' r z H' hq ?_ rv) hW⟩⟩
    have := (Go.of (W := WT X) v.muh e1 b1).trans (by rw [un_eq v.muh]; exact go)
    exact this
end
end CC
namespace CC
open PySem PySem.Spec PyProof.Rows L2
open C8 (Cal pe_c pe_gc)
end CC
namespace CC
open PySem PySem.Spec PyProof.Rows L2
open C8 (Cal pe_c pe_gc)
section
variable {K : PySem.W.Frag} {X : Cl K} {g : GT} {ρ : List Sl} {names : List Str}
theorem twd_callY {S : List Dt → (Dt → Prop) → (Str → Option Int → Prop) → Prop} {Q : GT → RV → Prop} {ta : TA} (h : EVA (ct X g) ta ρ fun ds => ∃ R, S ds (fun d => Q g (.dat d)) R ∧ ∀ nm pl, R nm pl → nm ∈ names ∧ placed nm = pl.isSome ∧ Q g (.dat (refD nm pl))) : TWd X g ρ names (fun E => tCallS (spY K S) (fun _ => E) ta) Q := fun hd H σ v Qh W q hW => h hd H σ v _ fun ds vs H2 h2 e2 b2 r2 => by
  obtain ⟨R, hS, hR⟩ := h2
  have v2 := v.go e2 b2
  refine ⟨hd, ds, _, R, v2.dom, r2, hS, fun d z H3 hd3 e3 r3 => ?_, fun nm pl hr d H3 e3 hf hp => hW _ _ _ ⟨nm, pl, hd, (hR nm pl hr).1, (hR nm pl hr).2.1, rfl, hp, fun a ha => e3.dom a (v2.dom a ha), fun dd e => fresh_hd v2.dom (hf dd e), fun H4 z e4 r4 => ?_⟩⟩
  · exact q g (.dat d) z H3 hd3 (Go.of v.muh (e2.trans (e3.up (c := ct X g))) ((ct X g).keep0 e3 b2)) (by rw [un_eq v.muh]; exact r3)
  · have e5 := e3.trans e4
    exact q g (.dat (refD nm pl)) z H4 (hR nm pl hr).2.2 (Go.of v.muh (e2.trans (e5.up (c := ct X g))) ((ct X g).keep0 e5 b2)) (by rw [un_eq v.muh]; exact r4)
end
end CC
namespace CC
open PySem PySem.Spec PyProof.Rows L2
open C8 (Cal pe_c pe_gc)
section
variable {K : PySem.W.Frag} {X : Cl K} {g g1 : GT} {hid hd : Addr → Bool} {H0 H H' : Hp} {σ : L2.St} {ρ : List Sl} {te ta tb to td ty : TE} {tr : TA} {t u : TT} {D : Ends} {ts tz : TS} {gg : TG} {N : L2.St → Hp → Prop}
theorem dats_rpW {G : Hp} : ∀ {vs : List V} {ds : List Dt}, P2 (RvOk K G) vs (dats ds) → RpAll K G vs ds
  | [], [], _ => .nil
  | _ :: _, d :: ds, .cons h t => .cons h (dats_rpW t)
  | [], _ :: _, h => nomatch h
  | _ :: _, [], h => nomatch h
end
end CC
namespace CC
open PySem PySem.Spec PyProof.Rows L2
def rStrI : List V → Hp → VK → Prop := fun xs H Q => ∃ i : Int, xs = [.int i] ∧ i.natAbs.log2 < 1920 ∧ Q (.str (toString i)) H
theorem cl_strI {X : Cx} : CallR X (.type "str") rStrI := call_str_int
def rIntS : List V → Hp → VK → Prop := fun xs H Q => ∃ a n, xs = [.str a] ∧ PySem.intText? a = some n ∧ a.length ≤ 640 ∧ Q (.int n) H
theorem cl_intS {X : Cx} : CallR X (.type "int") rIntS := call_int_str
def numS (i : Int) : Str := toString i
section
variable {c : Cn} {ρ : List Sl} {te tx : TE} {Q : Dt → Prop}
theorem str_i {i : Int} (hi : i.natAbs < 100000) (h : Q (.str (numS i))) : RCJ c rStrI [.int i] Q := fun hd H vs dom mh bb r Qh q => by
  cases r with
  | cons r1 r2 =>
    cases r2
    cases r1
    refine ⟨i, rfl, ?_, kv_here q bb h (.str _)⟩
    have : i.natAbs.log2 ≤ i.natAbs := Nat.log2_le_self _
    by_cases z : i.natAbs = 0
    · rw [z]; decide
    · have h2 := (Nat.log2_lt z (k := 17)).mpr (by omega)
      omega
theorem int_s {x : Str} {n : Int} (hn : PySem.intText? x = some n) (hl : x.length ≤ 640) (h : Q (.int n)) : RCJ c rIntS [.str x] Q := fun hd H vs dom mh bb r Qh q => by
  cases r with
  | cons r1 r2 =>
    cases r2
    cases r1
    exact ⟨x, n, rfl, hn, hl, kv_here q bb h (.int _)⟩
def rSplit : V → List V → Hp → VK → Prop := fun x xs H Q => ∃ a b, x = .str a ∧ xs = [.str b] ∧ (b.length == 0) = false ∧ a.length + 2 ≤ sizeLine ∧ rNewStrs (Txt.split a b) H Q
theorem mt_splitU {X : Cx} : MtR X "str.split" rSplit := mt_split
theorem rpStrs {K : PySem.W.Frag} {G : Hp} : ∀ ys : List Str, RpAll K G (ys.map V.str) (ys.map Dt.str)
  | [] => .nil
  | y :: r => .cons (.str _) (rpStrs r)
theorem en_split {K : PySem.W.Frag} {b : Str} {QL : List Dt → Prop} (hb : (b.length == 0) = false) (h : EV c te ρ (StrJ fun a => a.length ≤ 90000 ∧ QL ((Txt.split a b).map Dt.str))) : EN c (tBM K "str" rSplit te (tCons (tC (.str b)) tNil)) ρ QL := fun hd H σ v Qh q => h hd H σ v _ fun d u H1 h1 e1 b1 r1 => by
  cases d with
  | str a =>
    cases r1
    refine ⟨rfl, a, b, rfl, rfl, hb, Evl.sz_of (by have := h1.1; omega), fun p hp => ?_⟩
    have v1 := v.go e1 b1
    exact q _ p _ _ h1.2 (e1.trans (.new hp)) (c.keepN (.new hp) hp b1) (e1.fresh hp) upd_same (rpStrs _)
  | _ => exact h1.elim
end
end CC
namespace CC
open PySem PySem.Spec PyProof.Rows L2
end CC
namespace CC
open PySem PySem.Spec PyProof.Rows L2
mutual
def nkD : Dt → PySem.NestedKey
  | .int i => .num i
  | .str x => .text x
  | .tup ds => .tup (nkL ds)
  | .non => .none
  | .bl _ => .none
  | .lst _ => .none
  | .dk _ => .none
  | .dt _ => .none
  | .ob _ _ => .none
  | .xo _ _ => .none
  | .ptup _ => .none
def nkL : List Dt → List PySem.NestedKey
  | [] => []
  | d :: r => nkD d :: nkL r
end
inductive KD : Nat → Dt → Prop
  | int {n : Nat} (i : Int) : KD n (.int i)
  | str {n : Nat} (x : Str) : KD n (.str x)
  | tup {n : Nat} {ds : List Dt} (h : ∀ d ∈ ds, KD n d) : KD (n + 1) (.tup ds)
def EXo (p : Addr) (o : Obj) : HO := .ext fun h => h.get? p = some o
def NDo (P : Program) (w : World) (o : Obj) (xs : List (PySem.NestedKey × Addr × Value)) : Prop := o.ExactDict ∧ ∃ es ep, o.data = .dict es ep ∧ es.toList = xs.map (PySem.entryOfKey (PySem.nestedKind P w)) ∧ (xs.map (·.1)).Nodup
abbrev NDr (K : PySem.W.Frag) (G : Hp) (x : PySem.NestedKey × Addr × Value) (kv : Dt × V) : Prop := x.1 = nkD kv.1 ∧ KD 8 kv.1 ∧ Rp K G (.ref x.2.1) kv.1 ∧ RelV kv.2 x.2.2
def NDH (P : Program) (w : World) (K : PySem.W.Frag) (G H : Hp) (p : Addr) (kvs : List (Dt × V)) : Prop := ∃ o xs, H p = some (EXo p o) ∧ NDo P w o xs ∧ P2 (NDr K G) xs kvs
def Cl.nd (K : PySem.W.Frag) (b l : Addr) (P : Program) (w : World) (p : Addr) (kvs : List (Dt × RV)) : Cl K where
  mu := fun a => muB b l a || decide (a = p)
  B := fun hd H => Bx b l H ∧ ∃ vs, NDH P w K (Hm hd H) H p vs ∧ P2 (RvF K (Hm hd H) Dt) vs kvs
  stab := fun hd hd' H H' e k ⟨h1, vs, ⟨o, xs, h2, h3, h4⟩, h5⟩ => ⟨(cnB K b l).stab hd hd' H H' e (fun a o h => k a o (h.imp (fun z => by
      have z : muB b l a = true := z
      rw [z, Bool.true_or]) id)) h1, vs, ⟨o, xs, k p _ (.inl (by rw [decide_eq_true rfl, Bool.or_true])) h2, h3, h4.imp fun _ _ z => ⟨z.1, z.2.1, z.2.2.1.mono e, z.2.2.2⟩⟩, h5.imp fun _ _ z => ⟨z.1, z.2.mono e⟩⟩
  live := fun hd H ⟨h1, vs, ⟨o, xs, h2, _⟩, _⟩ a h => by
    rcases Bool.or_eq_true_iff.mp h with h | h
    · exact (Cl.box K b l).live hd H h1 a h
    · rw [of_decide_eq_true h, h2]; exact fun z => nomatch z
end CC
namespace CC
open PySem PySem.Spec PyProof.Rows L2
theorem ns_absentL {P : PySem.Params} {k : Str} : ∀ {l : List DictEntry} {ks : List Str}, l.map He.keyOf = He.keysIn P ks → k ∉ ks → l.find? (·.key.isStr k) = none ∧ l.any (·.refKey) = false
  | [], _, _, _ => ⟨rfl, rfl⟩
  | e :: r, [], h, _ => by cases h
  | e :: r, k0 :: ks, h, hk => by
    have h1 : He.keyOf e :: r.map He.keyOf = some (k0, PyData.keyHash P k0) :: He.keysIn P ks := h
    injection h1 with h2 h3
    obtain ⟨i1, i2⟩ := ns_absentL h3 fun z => hk (List.mem_cons_of_mem _ z)
    have hne : k0 ≠ k := fun z => hk (z ▸ List.mem_cons_self)
    unfold He.keyOf at h2
    split at h2
    · rename_i x t hk2
      have h2 := Option.some.inj h2
      have hx : x = k0 := congrArg Prod.fst h2
      have q1 : e.key.isStr k = false := by
        rw [hk2]
        show (x == k) = false
        rw [hx]
        exact beq_eq_false_iff_ne.mpr hne
      have q2 : e.refKey = false := by
        unfold DictEntry.refKey
        rw [hk2]
      rw [List.find?_cons_of_neg (by rw [q1]; exact Bool.false_ne_true), List.any_cons, q2, i2]
      exact ⟨i1, rfl⟩
    · cases h2
theorem ns_absent {K : PySem.W.Frag} {P : PySem.Params} {a : Addr} {ks : List Str} (h : He.dicW K a = some (He.keysIn P ks)) {k : Str} (hk : k ∉ ks) : PySem.W.nsIn K a k = some none := by
  unfold He.dicW at h
  unfold PySem.W.nsIn
  cases q : K.lookup a with
  | none => rw [q] at h; cases h
  | some o =>
    obtain ⟨oc, od, dt, osl⟩ := o
    rw [q] at h
    cases oc with
    | type c =>
      cases od with
      | none =>
        cases dt with
        | dict es n =>
          dsimp only at h ⊢
          split at h
          · obtain ⟨h1, h2⟩ := ns_absentL (Option.some.inj h) hk
            rw [h1, h2]; rfl
          · cases h
        | _ => cases h
      | some _ => cases h
    | _ => cases h
theorem tab_absent {fa : List He.Fa} {fn : List He.DefD} {ts : List He.Tab} {w : World} {K : PySem.W.Frag} (c : He.SaysT fa fn ts w K) (i : Nat) {t : He.Tab} (h : ts[i]? = some t) {k : Str} (hk : k ∉ t.2) : PySem.W.nsIn K (t.1 K) k = some none := by
  have e : ts.map (fun t => He.dicW K (t.1 K)) = ts.map fun t => some (He.keysIn w.params t.2) := congrArg (fun z : He.AlT => z.2) c
  have e2 : (ts.map fun t => He.dicW K (t.1 K))[i]? = (ts.map fun t => some (He.keysIn w.params t.2))[i]? := by rw [e]
  rw [List.getElem?_map, List.getElem?_map, h] at e2
  exact ns_absent (Option.some.inj e2) hk
theorem ev_kgetN {c : Cn} {ρ : List Sl} {d : Addr} {ty tx : TE} {Q : Dt → Prop} {k : Str} (hn : PySem.W.nsIn c.K d k = some none) (h : EV c ty ρ fun x => x = .str k ∧ EV c tx ρ Q) : EV c (tKGet c.K d ty tx) ρ Q := fun hd H σ v Qh q => h hd H σ v _ fun x u H1 h1 e1 b1 r1 => by
  obtain ⟨rfl, h1⟩ := h1
  cases r1
  refine h1 hd H1 σ (v.go e1 b1) _ fun d2 u2 H2 h2 e2 b2 r2 => ?_
  exact ⟨k, none, rfl, hn, (fun u hu => nomatch hu), fun _ => q d2 u2 H2 h2 (e1.trans e2) b2 r2⟩
end CC
namespace CC
open PySem PySem.Spec PyProof.Rows L2
open C8 (Cal pe_c pe_gc)
def sgnS (x : Str) : List Str := x.cps.toList.map fun k => ⟨#[k]⟩
theorem vals_sgn : ∀ (us : List Value) (cs : List Nat), us.length = cs.length → (∀ (j : Nat) v, us[j]? = some v → ∃ c u, cs[j]? = some c ∧ v = .str ⟨#[c]⟩ u) → L2.Vals (cs.map fun k => V.str ⟨#[k]⟩) us
  | [], [], _, _ => .nil
  | [], _ :: _, h, _ => nomatch h
  | _ :: _, [], h, _ => nomatch h
  | u :: us, c :: cs, h, k => by
    obtain ⟨c', t, h1, h2⟩ := k 0 u rfl
    cases h1
    exact .cons ⟨t, h2⟩ (vals_sgn us cs (Nat.succ.inj h) fun j v hj => k (j + 1) v hj)
def rListS : List V → Hp → VK → Prop := fun xs H Q => ∃ z : Str, xs = [.str z] ∧ z.length ≤ 90000 ∧ ∀ l, H l = none → Q (.ref l) (upd H l (.lst ((sgnS z).map V.str)))
theorem cl_listS {X : Cx} (hh : X.A.handled = none) : CallR X (.type "list") rListS := by
  intro pins s σ H xs us Q I r h
  obtain ⟨z, rfl, hz, q⟩ := h
  obtain ⟨u, rfl, t, rfl⟩ := vals1 r
  refine call_list_str hh z t (fun h' tk acc' c' kp e hit => ?_) (Nat.le_trans hz (by decide))
  obtain ⟨hs, hv⟩ := hit
  have r' : L2.Vals ((sgnS z).map V.str) acc'.toList := by
    unfold sgnS
    rw [List.map_map]
    exact vals_sgn acc'.toList z.cps.toList (by rw [Array.length_toList, Array.length_toList]; exact hs) fun j v hj => by
      obtain ⟨c, t, h1, h2⟩ := hv j v (by rw [← Array.getElem?_toList]; exact hj)
      exact ⟨c, t, by rw [Array.getElem?_toList]; exact h1, h2⟩
  have hz' : ((sgnS z).map V.str).length ≤ sizeLine := by
    unfold sgnS
    rw [List.length_map, List.length_map, Array.length_toList]
    exact Nat.le_trans hz (by decide)
  exact ⟨.ref s.heap.objs.size, _, I.laid (t' := tk) kp (Nat.le_refl _) (show ObjOk X.prog X.w _ h' _ (.lst ((sgnS z).map V.str)) from ⟨hz', acc'.toList, c', r', by rw [e, Array.toArray_toList]⟩), rfl, q _ (I.hok.fresh (Nat.le_refl _))⟩
theorem list_s {c : Cn} {QL : List Dt → Prop} {z : Str} (hz : z.length ≤ 90000) (h : QL ((sgnS z).map Dt.str)) : RCN c rListS [.str z] QL := fun hd H vs dom mh bb r Qh q => by
  obtain ⟨v, rfl, r1⟩ := rp1 r
  cases r1
  exact ⟨z, rfl, hz, fun o ho => q _ o _ _ h (.new ho) (c.keepN (.new ho) ho bb) ho upd_same (rpStrs _)⟩
end CC
namespace CC
open PySem PySem.Spec PyProof.Rows L2
open C8 (Cal pe_c pe_gc)
theorem sc_need_kinds : FnScope ["kinds", "kind"] ["kinds"] (defScope s_need_kinds) := ⟨rfl, rfl, rfl, by decide +kernel, rfl, by decide +kernel, by decide +kernel⟩
theorem sc_is_word : FnScope ["value", "one"] ["value"] (defScope s_is_word) := ⟨rfl, rfl, rfl, by decide +kernel, rfl, by decide +kernel, by decide +kernel⟩
theorem sc_is_value : FnScope ["kind", "value"] ["kind", "value"] (defScope s_is_value) := ⟨rfl, rfl, rfl, by decide +kernel, rfl, by decide +kernel, by decide +kernel⟩
theorem sc_is_part : FnScope ["kinds", "parts", "place", "sort", "kind"] ["kinds", "parts", "place", "sort"] (defScope s_is_part) := ⟨rfl, rfl, rfl, by decide +kernel, rfl, by decide +kernel, by decide +kernel⟩
theorem sc_size_of : FnScope ["kinds", "condition", "deep", "shape", "found", "k"] ["kinds", "condition", "deep"] (defScope s_size_of) := ⟨rfl, rfl, rfl, by decide +kernel, rfl, by decide +kernel, by decide +kernel⟩
theorem sc_need_condition : FnScope ["kinds", "condition"] ["kinds", "condition"] (defScope s_need_condition) := ⟨rfl, rfl, rfl, by decide +kernel, rfl, by decide +kernel, by decide +kernel⟩
theorem sc_number_of : FnScope ["word", "bare", "sign"] ["word"] (defScope s_number_of) := ⟨rfl, rfl, rfl, by decide +kernel, rfl, by decide +kernel, by decide +kernel⟩
theorem sc_value_of_word : FnScope ["word", "number"] ["word"] (defScope s_value_of_word) := ⟨rfl, rfl, rfl, by decide +kernel, rfl, by decide +kernel, by decide +kernel⟩
theorem sc_read_from : FnScope ["words", "place", "shape", "found", "sort", "inner", "good", "value"] ["words", "place"] (defScope s_read_from) := ⟨rfl, rfl, rfl, by decide +kernel, rfl, by decide +kernel, by decide +kernel⟩
theorem sc_read : FnScope ["kinds", "text", "words", "condition", "place"] ["kinds", "text"] (defScope s_read) := ⟨rfl, rfl, rfl, by decide +kernel, rfl, by decide +kernel, by decide +kernel⟩
theorem sc__law_begun : FnScope ["_law_script", "_law_stirred", "_law_cell"] ["_law_script"] (defScope s__law_begun) := ⟨rfl, rfl, rfl, by decide +kernel, rfl, by decide +kernel, by decide +kernel⟩
theorem sc__law_take : FnScope ["_law_box", "_law_many", "_law_number"] ["_law_box", "_law_many"] (defScope s__law_take) := ⟨rfl, rfl, rfl, by decide +kernel, rfl, by decide +kernel, by decide +kernel⟩
theorem sc__law_alike : FnScope ["_law_found", "_law_due_here", "_law_k"] ["_law_found", "_law_due_here"] (defScope s__law_alike) := ⟨rfl, rfl, rfl, by decide +kernel, rfl, by decide +kernel, by decide +kernel⟩
theorem sc__law_class : FnScope ["_law_e", "_law_kinds_here", "_law_words"] ["_law_e"] (defScope s__law_class) := ⟨rfl, rfl, rfl, by decide +kernel, rfl, by decide +kernel, by decide +kernel⟩
theorem sc__law_told : FnScope ["_law_work", "_law_e", "_law_word_here"] ["_law_work"] (defScope s__law_told) := ⟨rfl, rfl, rfl, by decide +kernel, rfl, by decide +kernel, by decide +kernel⟩
theorem sc__law_kinds : FnScope ["_law_box", "_law_k"] ["_law_box"] (defScope s__law_kinds) := ⟨rfl, rfl, rfl, by decide +kernel, rfl, by decide +kernel, by decide +kernel⟩
theorem sc__law_word : FnScope ["_law_box", "_law_letters", "_law_many", "_law_found", "_law_k"] ["_law_box"] (defScope s__law_word) := ⟨rfl, rfl, rfl, by decide +kernel, rfl, by decide +kernel, by decide +kernel⟩
theorem sc__law_value : FnScope ["_law_box", "_law_kind"] ["_law_box", "_law_kind"] (defScope s__law_value) := ⟨rfl, rfl, rfl, by decide +kernel, rfl, by decide +kernel, by decide +kernel⟩
theorem sc__law_rows : FnScope ["_law_box", "_law_kinds_here", "_law_most", "_law_found", "_law_often", "_law_turn", "_law_row", "_law_k", "_law_kind"] ["_law_box", "_law_kinds_here", "_law_most"] (defScope s__law_rows) := ⟨rfl, rfl, rfl, by decide +kernel, rfl, by decide +kernel, by decide +kernel⟩
theorem sc__law_near : FnScope ["_law_box", "_law_kinds_here", "_law_rows_here", "_law_column"] ["_law_box", "_law_kinds_here", "_law_rows_here", "_law_column"] (defScope s__law_near) := ⟨rfl, rfl, rfl, by decide +kernel, rfl, by decide +kernel, by decide +kernel⟩
theorem sc__law_test : FnScope ["_law_box", "_law_kinds_here", "_law_rows_here", "_law_column", "_law_value_here", "_law_way"] ["_law_box", "_law_kinds_here", "_law_rows_here"] (defScope s__law_test) := ⟨rfl, rfl, rfl, by decide +kernel, rfl, by decide +kernel, by decide +kernel⟩
theorem sc__law_narrow : FnScope ["_law_box", "_law_kinds_here", "_law_rows_here", "_law_found", "_law_turn", "_law_other", "_law_some"] ["_law_box", "_law_kinds_here", "_law_rows_here"] (defScope s__law_narrow) := ⟨rfl, rfl, rfl, by decide +kernel, rfl, by decide +kernel, by decide +kernel⟩
theorem sc__law_condition : FnScope ["_law_box", "_law_kinds_here", "_law_rows_here", "_law_deep", "_law_way", "_law_one"] ["_law_box", "_law_kinds_here", "_law_rows_here", "_law_deep"] (defScope s__law_condition) := ⟨rfl, rfl, rfl, by decide +kernel, rfl, by decide +kernel, by decide +kernel⟩
theorem sc__law_text : FnScope ["_law_condition_here", "_law_found", "_law_part"] ["_law_condition_here"] (defScope s__law_text) := ⟨rfl, rfl, rfl, by decide +kernel, rfl, by decide +kernel, by decide +kernel⟩
theorem sc__law_spoilt : FnScope ["_law_box", "_law_text_here", "_law_deed", "_law_words", "_law_k", "_law_odd", "_law_some", "_law_place", "_law_signs", "_law_sign"] ["_law_box", "_law_text_here"] (defScope s__law_spoilt) := ⟨rfl, rfl, rfl, by decide +kernel, rfl, by decide +kernel, by decide +kernel⟩
theorem sc__law_value_of : FnScope ["_law_word_here", "_law_rest", "_law_letters", "_law_figures", "_law_sign"] ["_law_word_here"] (defScope s__law_value_of) := ⟨rfl, rfl, rfl, by decide +kernel, rfl, by decide +kernel, by decide +kernel⟩
theorem sc__law_read : FnScope ["_law_words", "_law_waiting", "_law_sizes", "_law_wants", "_law_place", "_law_want"] ["_law_words", "_law_waiting"] (defScope s__law_read) := ⟨rfl, rfl, rfl, by decide +kernel, rfl, by decide +kernel, by decide +kernel⟩
theorem sc__law_made : FnScope ["_law_words", "_law_sizes", "_law_found", "_law_want"] ["_law_words"] (defScope s__law_made) := ⟨rfl, rfl, rfl, by decide +kernel, rfl, by decide +kernel, by decide +kernel⟩
theorem sc__law_count : FnScope ["_law_kinds_here", "_law_condition_here", "_law_deep", "_law_column", "_law_words", "_law_good", "_law_inner", "_law_value_here"] ["_law_kinds_here", "_law_condition_here", "_law_deep"] (defScope s__law_count) := ⟨rfl, rfl, rfl, by decide +kernel, rfl, by decide +kernel, by decide +kernel⟩
theorem sc__law_due : FnScope ["_law_kinds_here", "_law_text_here", "_law_words", "_law_place", "_law_condition_here"] ["_law_kinds_here", "_law_text_here"] (defScope s__law_due) := ⟨rfl, rfl, rfl, by decide +kernel, rfl, by decide +kernel, by decide +kernel⟩
theorem sc_law : FnScope ["_law_script", "_law_box", "_law_kinds_here", "_law_rows_here", "_law_many", "_law_wide", "_law_odd", "_law_turn", "_law_text_here", "_law_deed", "_law_due_here"] ["_law_script"] (defScope s_law) := ⟨rfl, rfl, rfl, by decide +kernel, rfl, by decide +kernel, by decide +kernel⟩
theorem iw_BadText : InitW s_BadText___init__ "BadText.__init__" where
  sc := ⟨rfl, rfl, rfl, by decide +kernel, rfl, by decide +kernel, by decide +kernel⟩
  run := fun c => ⟨_, pss_cons (ps_expr (pe_ceinit (by rfl) c (pa_cons (pv 0) (pa_cons pe_str pa_nil)))) (pss_one (ps_ost (pv 0) (pv 1)))⟩
def clsN : List Str := ["BadNumber", "BadValues", "NoForm", "BadPrices", "BadKinds", "BadRows", "BadCondition", "BadColumn", "BadHeap", "TooMany", "BadBlock", "Stopped", "BadText"]
def rzN : List Str := ["BadText", "BadCondition"]
structure Txt (w : World) (K : PySem.W.Frag) (mg : Str → Option Value) : Prop where
  b_len : mg "len" = none
  b_list : mg "list" = none
  b_tuple : mg "tuple" = none
  b_int : mg "int" = none
  b_sum : mg "sum" = none
  b_isinstance : mg "isinstance" = none
  b_min : mg "min" = none
  b_max : mg "max" = none
  b_range : mg "range" = none
  b_str : mg "str" = none
  b_bool : mg "bool" = none
  b_ValueError : mg "ValueError" = none
  k_MOST : ∃ u, mg "MOST" = some u ∧ RelV (.int 9999) u
  k_NUMBER : ∃ u, mg "NUMBER" = some u ∧ RelV (.str "number") u
  k_WORD : ∃ u, mg "WORD" = some u ∧ RelV (.str "word") u
  k_MOST_COLUMNS : ∃ u, mg "MOST_COLUMNS" = some u ∧ RelV (.int 4) u
  k_MOST_LETTERS : ∃ u, mg "MOST_LETTERS" = some u ∧ RelV (.int 6) u
  k_LETTERS : ∃ u, mg "LETTERS" = some u ∧ RelV (.str "abcdefghijklmnopqrstuvwxyz") u
  k_MOST_CONDITIONS : ∃ u, mg "MOST_CONDITIONS" = some u ∧ RelV (.int 15) u
  k_MOST_WITHIN : ∃ u, mg "MOST_WITHIN" = some u ∧ RelV (.int 7) u
  k_SHAPES : ∃ u, mg "SHAPES" = some u ∧ RelV (.ref (He.ga K "SHAPES")) u
  d_SHAPES : ∃ es n, KDict K w (He.ga K "SHAPES") es n
  v_SHAPES : ∀ q ∈ ([("is", "cv"), ("less", "cv"), ("within", "cvv"), ("begins", "ct"), ("not", "q"), ("and", "qq"), ("or", "qq"), ("all", "")] : List (Str × Str)), ∃ u, PySem.W.nsIn K (He.ga K "SHAPES") q.1 = some (some u) ∧ RelV (.str q.2) u
  n_SHAPES : ∀ k : Str, k ∉ (([("is", "cv"), ("less", "cv"), ("within", "cvv"), ("begins", "ct"), ("not", "q"), ("and", "qq"), ("or", "qq"), ("all", "")] : List (Str × Str))).map (·.1) → PySem.W.nsIn K (He.ga K "SHAPES") k = some none
  k_FIGURES : ∃ u, mg "FIGURES" = some u ∧ RelV (.str "0123456789") u
  k_MOST_FIGURES : ∃ u, mg "MOST_FIGURES" = some u ∧ RelV (.int 4) u
  k_SIGN : ∃ u, mg "SIGN" = some u ∧ RelV (.str "=") u
  x_BadCondition : ExC K mg "BadCondition" (He.ga K "BadCondition")
  m_BadCondition : PySem.W.exmOne K (.ref (He.ga K "BadCondition")) (.ref (He.ga K "BadCondition")) = some true
  g_ColumnError : mg "ColumnError" = some (.ref (He.ga K "ColumnError"))
  g_BadNumber : mg "BadNumber" = some (.ref (He.ga K "BadNumber"))
  g_BadValues : mg "BadValues" = some (.ref (He.ga K "BadValues"))
  g_NoForm : mg "NoForm" = some (.ref (He.ga K "NoForm"))
  g_BadPrices : mg "BadPrices" = some (.ref (He.ga K "BadPrices"))
  g_BadKinds : mg "BadKinds" = some (.ref (He.ga K "BadKinds"))
  g_BadRows : mg "BadRows" = some (.ref (He.ga K "BadRows"))
  g_BadCondition : mg "BadCondition" = some (.ref (He.ga K "BadCondition"))
  g_BadColumn : mg "BadColumn" = some (.ref (He.ga K "BadColumn"))
  g_BadHeap : mg "BadHeap" = some (.ref (He.ga K "BadHeap"))
  g_TooMany : mg "TooMany" = some (.ref (He.ga K "TooMany"))
  g_BadBlock : mg "BadBlock" = some (.ref (He.ga K "BadBlock"))
  g_Stopped : mg "Stopped" = some (.ref (He.ga K "Stopped"))
  g_BadText : mg "BadText" = some (.ref (He.ga K "BadText"))
  cls : ClsF K rzN clsN
  p_BadText : PlC K mg "BadText" (He.ga K "BadText")
  f_need_kinds : FnAt K mg "need_kinds" s_need_kinds ["kinds"]
  f_is_word : FnAt K mg "is_word" s_is_word ["value"]
  f_is_value : FnAt K mg "is_value" s_is_value ["kind", "value"]
  f_is_part : FnAt K mg "is_part" s_is_part ["kinds", "parts", "place", "sort"]
  f_size_of : FnAt K mg "size_of" s_size_of ["kinds", "condition", "deep"]
  f_need_condition : FnAt K mg "need_condition" s_need_condition ["kinds", "condition"]
  f_number_of : FnAt K mg "number_of" s_number_of ["word"]
  f_value_of_word : FnAt K mg "value_of_word" s_value_of_word ["word"]
  f_read_from : FnAt K mg "read_from" s_read_from ["words", "place"]
  f_read : FnAt K mg "read" s_read ["kinds", "text"]
  f__law_begun : FnAt K mg "_law_begun" s__law_begun ["_law_script"]
  f__law_take : FnAt K mg "_law_take" s__law_take ["_law_box", "_law_many"]
  f__law_alike : FnAt K mg "_law_alike" s__law_alike ["_law_found", "_law_due_here"]
  f__law_class : FnAt K mg "_law_class" s__law_class ["_law_e"]
  f__law_told : FnAt K mg "_law_told" s__law_told ["_law_work"]
  f__law_all : FnAt K mg "_law_all" s__law_all ["_law_works", "_law_due_here"]
  f__law_kinds : FnAt K mg "_law_kinds" s__law_kinds ["_law_box"]
  f__law_word : FnAt K mg "_law_word" s__law_word ["_law_box"]
  f__law_value : FnAt K mg "_law_value" s__law_value ["_law_box", "_law_kind"]
  f__law_rows : FnAt K mg "_law_rows" s__law_rows ["_law_box", "_law_kinds_here", "_law_most"]
  f__law_near : FnAt K mg "_law_near" s__law_near ["_law_box", "_law_kinds_here", "_law_rows_here", "_law_column"]
  f__law_test : FnAt K mg "_law_test" s__law_test ["_law_box", "_law_kinds_here", "_law_rows_here"]
  f__law_narrow : FnAt K mg "_law_narrow" s__law_narrow ["_law_box", "_law_kinds_here", "_law_rows_here"]
  f__law_condition : FnAt K mg "_law_condition" s__law_condition ["_law_box", "_law_kinds_here", "_law_rows_here", "_law_deep"]
  f__law_holds : FnAt K mg "_law_holds" s__law_holds ["_law_condition_here", "_law_row"]
  f__law_text : FnAt K mg "_law_text" s__law_text ["_law_condition_here"]
  f__law_spoilt : FnAt K mg "_law_spoilt" s__law_spoilt ["_law_box", "_law_text_here"]
  f__law_value_of : FnAt K mg "_law_value_of" s__law_value_of ["_law_word_here"]
  f__law_read : FnAt K mg "_law_read" s__law_read ["_law_words", "_law_waiting"]
  f__law_made : FnAt K mg "_law_made" s__law_made ["_law_words"]
  f__law_count : FnAt K mg "_law_count" s__law_count ["_law_kinds_here", "_law_condition_here", "_law_deep"]
  f__law_due : FnAt K mg "_law_due" s__law_due ["_law_kinds_here", "_law_text_here"]
  f_law : FnAtC K mg "law" s_law ["_law_script"] (He.cT K ("law", none)).1
theorem plno {K : PySem.W.Frag} {mg : Str → Option Value} (T : Txt w K mg) (nm : Str) (h : nm ∈ rzN) (hp : placed nm = true) : PySem.W.findIn K (.ref (He.ga K nm)) "place" = some none := by
  simp only [rzN, List.mem_cons, List.not_mem_nil, or_false] at h
  rcases h with rfl | rfl
  · exact T.p_BadText.no
  · exact absurd hp (by decide)
end CC
namespace CC
open PySem PySem.Spec PyProof.Rows L2
open C8 (Cal pe_c pe_gc)
local macro_rules | `(tactic| walk_at "ev0") => `(tactic| (first
  | with_reducible refine ev_ixA rfl ?_
  | with_reducible refine ev_op ?_
  | with_reducible refine ev_var rfl ?_
  | with_reducible refine ev_int ?_
  | with_reducible refine ev_str ?_
  | with_reducible refine ev_bl ?_
  | with_reducible refine ev_non ?_
  | with_reducible refine ev_neg ?_
  | with_reducible refine ev_call ?_
  | with_reducible refine ev_tup ?_
  | with_reducible refine ev_chain ?_
  | with_reducible refine ev_andV ?_
  | with_reducible refine ev_orV ?_
  | with_reducible refine ev_notV ?_
  | with_reducible refine ev_isi ?_
  | with_reducible refine lenSet_li ?_
  | with_reducible refine ev_cb ?_
  | with_reducible refine ea_nil ?_
  | with_reducible refine ea_cons ?_
  | with_reducible refine et_test ?_
  | with_reducible refine et_B ?_
  | with_reducible refine et_and ?_
  | with_reducible refine et_or ?_
  | with_reducible refine et_not ?_
  | with_reducible refine et_yes ?_
  | with_reducible refine eo_none ?_
  | with_reducible refine eo_some ?_
  | with_reducible refine add_i ?_
  | with_reducible refine sub_i ?_
  | with_reducible refine lt_i ?_
  | with_reducible refine le_i ?_
  | with_reducible refine gt_i ?_
  | with_reducible refine ge_i ?_
  | with_reducible refine eq_i ?_
  | with_reducible refine ne_i ?_
  | with_reducible refine eq_s ?_
  | with_reducible refine ne_s ?_
  | with_reducible refine lenOk (by (dsimp only [List.length_cons, List.length_nil]; decide)) ?_
  | with_reducible refine len_li ?_
  | with_reducible refine len_ti ?_
  | with_reducible refine len_l ?_
  | with_reducible refine len_t ?_
  | with_reducible refine tuple_l ?_
  | with_reducible refine tuple_lp ?_
  | with_reducible refine tuple_t ?_
  | with_reducible refine is_n ?_
  | with_reducible refine isnot_n ?_
  | with_reducible refine min_li (by assumption) ?_
  | with_reducible refine max_li (by assumption) ?_
  | with_reducible refine ix_h (by assumption) ?_
  | with_reducible refine add_t (by (dsimp only [List.length_cons, List.length_nil]; decide)) ?_
  | with_reducible refine ix_t0 ?_
  | with_reducible refine ix_t1 ?_
  | with_reducible refine ix_t2 ?_
  | with_reducible refine ix_t3 ?_
  | with_reducible refine ix_t4 ?_
  | with_reducible refine ix_t5 ?_
  | with_reducible refine ix_l0 ?_
  | with_reducible refine ix_l1 ?_
  | with_reducible refine ix_l2 ?_
  | with_reducible refine ix_l3 ?_
  | with_reducible refine ix_l4 ?_
  | with_reducible refine ix_l5 ?_
  | with_reducible refine intJ ?_
  | with_reducible refine blJ ?_
  | with_reducible refine lstJ ?_
  | with_reducible refine tupJ ?_
  | with_reducible refine mul_iR (by omega) (by omega) ?_
  | with_reducible refine mul_iL (by omega) (by omega) ?_
  | with_reducible refine div_iP (by omega) (by omega) ?_
  | with_reducible refine mod_i (by omega) ?_
  | with_reducible refine lt_s ?_
  | with_reducible refine le_s ?_
  | with_reducible refine gt_s ?_
  | with_reducible refine ge_s ?_
  | with_reducible refine strJ ?_
  | with_reducible refine ev_slS ?_
  | with_reducible refine notin_c ?_
  | with_reducible refine in_c ?_
  | with_reducible refine max2_i ?_
  | with_reducible refine min2_i ?_
  | with_reducible refine etj ?_))
local macro_rules | `(tactic| walk_at "le") => `(tactic| ((try dsimp only [List.set_cons_zero, List.set_cons_succ]); repeat (first
  | with_reducible exact Le.nil
  | with_reducible refine Le.un ?_
  | with_reducible refine Le.same ?_
  | refine Le.same ?_)))
local macro_rules | `(tactic| walk_at "ev") => `(tactic| (first
  | walk_at "ev0"
  | with_reducible refine ev_if ?_))
local macro_rules | `(tactic| walk_at "go0") => `(tactic| (repeat walk_at "ev0"))
local macro_rules | `(tactic| walk_at "nm") => `(tactic| try dsimp only [wipeS, List.set_cons_zero, List.set_cons_succ])
local macro_rules | `(tactic| walk_at "go") => `(tactic| (repeat walk_at "ev"))
section
theorem rp_ints {K : PySem.W.Frag} {G : Hp} : ∀ ns : List Int, RpAll K G (ns.map V.int) (ns.map Dt.int)
  | [] => .nil
  | n :: ns => .cons (.int n) (rp_ints ns)
theorem ite_y {c : Bool} {a b : Prop} (e : c = true) (h : a) : if c = true then a else b := by rw [if_pos e]; exact h
theorem ite_n {c : Bool} {a b : Prop} (e : c = false) (h : b) : if c = true then a else b := by rw [if_neg (by rw [e]; exact Bool.false_ne_true)]; exact h
theorem ix_0 {n : Nat} : ixN (n + 1) 0 = some 0 := by
  unfold ixN
  simp
theorem at_0 {α : Type} {x : α} {r : List α} : atI (x :: r) 0 = some x := by
  unfold atI
  rw [List.length_cons, ix_0]; rfl
theorem si_0 {n : Nat} : seqIndex? 0 (n + 1) = some 0 := by
  unfold seqIndex?
  simp
def S__law_take (ds : List Dt) (Q : Dt → Prop) : Prop := ∃ m : Int, ds = [.int m] ∧ 0 < m ∧ m < 4611686018427387904 ∧ ∀ r, 0 ≤ r → r < m → Q (.int r)
abbrev sp__law_take (K : PySem.W.Frag) : Sp := spB K S__law_take
theorem ok__law_take {P : Program} {w : World} {K : PySem.W.Frag} {mg : Str → Option Value} {base : Heap} (T : Txt w K mg)  : Cal P w K mg base 1 "_law_take" (sp__law_take K) [] := by
  refine cal_box T.f__law_take sc__law_take (fun z => nomatch z) ?len fun f cdv A outer s H E hr => ⟨_, (pss_cons (ps_if (pt_cmpR (op_eqU hr.units) (pe_ix ix_seq (pv 0) pe_int (fun _ _ => rfl)) (pe_lst pa_nil) (nomark _)) (pss_cons (ps_asg (pe_op op_modU (pe_op op_mulU (pe_ix ix_seq (pv 0) pe_int (fun _ _ => rfl)) pe_int) pe_int) (pg_sub (pv 0) pe_int set_list))
      (pss_one (ps_ret (pe_op op_modU (pe_op op_divU (pe_ix ix_seq (pv 0) pe_int (fun _ _ => rfl)) pe_int) (pv 1))))) pss_nil)
      (pss_cons (ps_set (i := 2) sc__law_take.nd rfl (Or.inl rfl) (pe_ix ix_seq (pe_ix ix_seq (pv 0) pe_int (fun _ _ => rfl)) pe_int (fun _ _ => rfl)))
      (pss_cons (ps_asg (pe_op op_divU (pv 2) (pv 1)) (pg_sub (pe_ix ix_seq (pv 0) pe_int (fun _ _ => rfl)) pe_int set_list))
      (pss_cons (ps_if ((pw_or (pt_cmpR (op_eqU hr.units) (pe_ix ix_seq (pe_ix ix_seq (pv 0) pe_int (fun _ _ => rfl)) pe_int (fun _ _ => rfl)) pe_int (nomark _)) (pw_or1 (pt_cmpR (op_eqU hr.units) (pe_ix ix_seq (pe_ix ix_seq (pv 0) pe_int (fun _ _ => rfl)) pe_int (fun _ _ => rfl)) (pe_un un_neg pe_int) (nomark _))))).pt (pss_one (ps_expr (pe_bm PySem.F.plainAttrs_list PySem.F.slot_list_pop PySem.F.type_list_pop mt_popAt (pe_ix ix_seq (pv 0) pe_int (fun _ _ => rfl)) (pa_cons pe_int pa_nil)))) pss_nil)
      (pss_one (ps_ret (pe_op op_modU (pv 2) (pv 1)))))))), ?body⟩
  case' body => try dsimp only [cxD, cxOf]
  case len => rintro ds Q ⟨b, rfl, _⟩; rfl
  case body =>
    rintro ds Q ⟨m, rfl, h0, h1, hq⟩ b l hne hid H0 D dom hD
    show NJ _ _ _ _ [.rw (.ref b), .im (.int m), .un]
    intro hd H σ sd
    obtain ⟨s, ns, hb, hl⟩ := sd.inv
    obtain ⟨x2, rfl⟩ : ∃ x, σ = [some (.ref b), some (.int m), x] := by
      match σ, sd.slots with
      | [some _, some _, x], .cons h1 (.cons h2 (.cons _ .nil)) =>
        have e1 : _ = V.ref b := h1
        have e2 : Rp _ _ _ (.int m) := h2
        cases e2
        subst e1
        exact ⟨x, rfl⟩
    have fin : ∀ (H' : Hp) (r : Int), Ex (muB b l) H H' → Bx b l H' → D.rt (.int (r % m)) H' := fun H' r e bx =>
      hD.rt _ (hq _ (Int.emod_nonneg _ (by omega)) (Int.emod_lt_of_pos _ h0)) _ _ (sd.ext.trans e) bx (.int _)
    refine ⟨.ref b, rfl, .inl ⟨b, _, 0, .ref l, rfl, rfl, .inl (.inl hb), rfl, by decide, fun p hp => .inr ⟨.list (pyL (ns.map Dt.int)), .list [], ?_, ?_, ?_, rfl, _, rfl, ?_⟩⟩⟩
    · have e : upd H p (.lst []) l = some (.lst (ns.map V.int)) := by
        rw [upd_ne (fun z => by subst z; rw [hl] at hp; cases hp)]; exact hl
      exact Rp.dp 1 _ (.lst (ns.map Dt.int)) (.lst fun d hd => by
        obtain ⟨x, _, rfl⟩ := List.mem_map.mp hd
        exact .int x) (.lst e (rp_ints ns))
    · exact .lst (.inl (.inl upd_same)) .nil
    · exact Sh.shaped (n := 1) (d := .lst (ns.map Dt.int)) (.lst fun d hd => by
        obtain ⟨x, _, rfl⟩ := List.mem_map.mp hd
        exact .int x) (by decide)
    have ne : ∀ a o, H a = some o → upd H p (.lst []) a = some o := fun a o h => by
      rw [upd_ne (fun z => by subst z; rw [h] at hp; cases hp)]; exact h
    have eB := ne _ _ hb
    have eL := ne _ _ hl
    have ex1 : Ex (muB b l) H (upd H p (.lst [])) := .new hp
    cases ns with
    | nil =>
      refine ite_y rfl ?_
      refine ⟨.ref b, rfl, .inl ⟨b, _, 1, .int s, rfl, rfl, .inl (.inl eB), rfl, .inl ⟨s, 48271, rfl, rfl, .inr ⟨by decide, by decide⟩, _, _, rfl, rfl, (show (0 : Int) < 2147483647 by decide), .ref b, rfl, b, _, 1, 1, rfl, rfl, eB, rfl, ?_⟩⟩⟩
      refine ⟨.ref b, rfl, .inl ⟨b, _, 1, .int (s * 48271 % 2147483647), rfl, rfl, .inl (.inl upd_same), rfl, _, 7, rfl, rfl, ⟨by decide, by decide⟩, .int m, rfl, _, m, rfl, rfl, h0, ?_⟩⟩
      exact fin _ _ (ex1.mut (.inr muB_b)) ⟨_, [], upd_same, by rw [upd_ne (Ne.symm hne)]; exact eL⟩
    | cons n ns =>
      refine ite_n rfl ?_
      refine ⟨.ref b, rfl, .inl ⟨b, _, 0, .ref l, rfl, rfl, .inl (.inl eB), rfl, .inl ⟨l, _, 0, .int n, rfl, rfl, .inl (.inl eL), at_0, ?_⟩⟩⟩
      refine ⟨.int n, rfl, .int m, rfl, n, m, rfl, rfl, wide_div (b := 62) h0 (by omega) (by decide) (by decide), .ref b, rfl, .inl ⟨b, _, 0, .ref l, rfl, rfl, .inl (.inl eB), rfl, l, _, 0, 0, rfl, rfl, eL, ix_0, ?_⟩⟩
      have ex2 : Ex (muB b l) H (upd (upd H p (.lst [])) l (.lst (((n :: ns).map V.int).set 0 (.int (n / m))))) := ex1.mut (.inr muB_l)
      have eB2 : upd (upd H p (.lst [])) l (.lst (((n :: ns).map V.int).set 0 (.int (n / m)))) b = some (.lst [.ref l, .int s]) := by rw [upd_ne hne]; exact eB
      have eL2 : upd (upd H p (.lst [])) l (.lst (((n :: ns).map V.int).set 0 (.int (n / m)))) l = some (.lst (.int (n / m) :: ns.map V.int)) := upd_same
      generalize upd (upd H p (.lst [])) l (.lst (((n :: ns).map V.int).set 0 (.int (n / m)))) = H3 at ex2 eB2 eL2
      have stay : D.rt (.int (n % m)) H3 := fin _ _ ex2 ⟨_, (n / m) :: ns, eB2, eL2⟩
      have ret : ∀ H4, D.rt (.int (n % m)) H4 → tRet (tOp rModI (tVar 2) (tVar 1)) D [some (.ref b), some (.int m), some (.int n)] H4 := fun H4 q => ⟨.int n, rfl, .int m, rfl, n, m, rfl, rfl, h0, q⟩
      have pop : tDrop (tBM K "list" rPopAt (tOp (rIx K) (tVar 0) (tC (V.int 0))) (tCons (tC (V.int 0)) tNil)) { D with nx := tRet (tOp rModI (tVar 2) (tVar 1)) D } [some (.ref b), some (.int m), some (.int n)] H3 := by
        refine ⟨.ref b, rfl, .inl ⟨b, _, 0, .ref l, rfl, rfl, .inl (.inl eB2), rfl, .inl ⟨rfl, _, .inl (.inl eL2)⟩, l, _, 0, 0, .int (n / m), rfl, rfl, eL2, by decide, by decide, ?_, rfl, ?_⟩⟩
        · exact si_0
        · refine ret _ ?_
          exact fin _ _ (ex2.mut (.inr muB_l)) ⟨_, ns, by rw [upd_ne hne]; exact eB2, upd_same⟩
      have fst : ∀ Q : VK, Q (.int (n / m)) H3 → tOp (rIx K) (tOp (rIx K) (tVar 0) (tC (V.int 0))) (tC (V.int 0)) [some (.ref b), some (.int m), some (.int n)] H3 Q := fun Q q =>
        ⟨.ref b, rfl, .inl ⟨b, _, 0, .ref l, rfl, rfl, .inl (.inl eB2), rfl, .inl ⟨l, _, 0, .int (n / m), rfl, rfl, .inl (.inl eL2), at_0, q⟩⟩⟩
      refine fst _ (.inl ⟨rfl, _, rfl, ?_⟩)
      by_cases z0 : n / m = 0
      · refine ite_y (decide_eq_true (by rw [z0])) (ite_y rfl ?_)
        exact pop
      · refine ite_n (decide_eq_false fun z => z0 (V.int.inj z)) ?_
        refine fst _ ⟨1, rfl, .inl ⟨rfl, _, rfl, ?_⟩⟩
        by_cases z1 : n / m = -1
        · exact ite_y (decide_eq_true (by rw [z1])) pop
        · exact ite_n (decide_eq_false fun z => z1 (V.int.inj z)) (ret _ stay)
theorem take_j {m : Int} {Q : Dt → Prop} (h0 : 0 < m) (h1 : m < 4611686018427387904) (h : ∀ r, 0 ≤ r → r < m → Q (.int r)) : S__law_take [.int m] Q := ⟨m, rfl, h0, h1, h⟩
end
section
open PySem PySem.Spec PyProof.Rows L2
open C8 (Cal pe_c pe_gc)
def sp__law_begun (K : PySem.W.Frag) : Sp := fun vs H Qh _ => ∃ (a : Addr) (ns : List Int), vs = [.ref a] ∧ SqL K H a (ns.map V.int) ∧ ns.length ≤ 63 ∧ ∀ b l H', b ≠ l → H b = none → H l = none → Ex none0 H H' → Bx b l H' → Qh (.ref b) H'
theorem ok__law_begun {P : Program} {w : World} {K : PySem.W.Frag} {mg : Str → Option Value} {base : Heap} (T : Txt w K mg)  : Cal P w K mg base 1 "_law_begun" (sp__law_begun K) [] := by
  obtain ⟨f, fd, hm, F, bi⟩ := T.f__law_begun
  refine ⟨⟨f, fd, _, [], F.ok sc__law_begun ?len (fun cdv A outer s H vs Q E hr h => ⟨_, (pss_cons (ps_set (i := 1) sc__law_begun.nd rfl (Or.inl rfl) pe_int)
      (pss_cons (ps_for PassesOwn.never rfl (pi_list (pv 0)) (pg_name (i := 2) sc__law_begun.nd rfl (Or.inl rfl)) (pss_one (ps_set (i := 1) sc__law_begun.nd rfl (Or.inl rfl) (pe_op op_modU (pe_op op_addU (pe_op op_addU (pe_op op_mulU (pv 1) pe_int) (pe_op op_mulU (pv 2) pe_int)) pe_int) pe_int))))
      (pss_one (ps_ret (pe_lst (pa_cons (pe_callTy cl_list (by rfl) T.b_list (by decide +kernel) (pa_cons (pv 0) pa_nil)) (pa_cons (pe_op op_mulU (pv 1) (pe_callTy cl_int1 (by rfl) T.b_int (by decide +kernel) (pa_cons (pe_cmpR op_gtU (pe_callB cl_len (by rfl) T.b_len PySem.boot_len (pa_cons (pv 0) pa_nil)) pe_int (nomark _)) pa_nil))) pa_nil))))))), ?body⟩), hm, F.kp, bi, .nil⟩⟩
  case' body => try dsimp only [cxD, cxOf]
  case len => rintro vs H Q E ⟨a, ns, rfl, _⟩; rfl
  case body =>
    obtain ⟨a, ns, rfl, hS, hn, hq⟩ := h
    refine ⟨.ref a, rfl, a, rfl, ⟨_, hS⟩, for_list (xs := ns.map V.int) (fun _ σ H1 => H1 = H ∧ ∃ s x, σ = [some (.ref a), some (.int s), x]) ⟨rfl, 0, none, rfl⟩ (fun i σ H1 _ h => h.1 ▸ hS) ?_ ?_⟩
    · rintro i x σ H1 hx ⟨rfl, s, y, rfl⟩
      obtain ⟨n, _, rfl⟩ := List.mem_map.mp (List.mem_of_getElem? hx)
      refine ⟨.int s, rfl, .inl ⟨s, 48271, rfl, rfl, .inr ⟨by decide, by decide⟩, .int n, rfl, .inl ⟨n, 69621, rfl, rfl, .inr ⟨by decide, by decide⟩, .inl ⟨_, _, rfl, rfl, .inl ⟨_, _, rfl, rfl, _, _, rfl, rfl, (show (0 : Int) < 2147483647 by decide), rfl, _, some (.int n), rfl⟩⟩⟩⟩⟩
    · rintro σ H1 ⟨rfl, s, y, rfl⟩
      refine ⟨.ref a, rfl, _, _, rfl, .inl hS, fun l hl => ?_⟩
      have hS' : SqL K (upd H1 l (.lst (ns.map V.int))) a (ns.map V.int) := by
        rcases hS with (h | ⟨o, h⟩) | h
        · exact .inl (.inl (by rw [upd_ne (fun z => by subst z; rw [h] at hl; cases hl)]; exact h))
        · exact .inl (.inr ⟨o, by rw [upd_ne (fun z => by subst z; rw [h] at hl; cases hl)]; exact h⟩)
        · exact .inr h
      refine ⟨.int s, rfl, .ref a, rfl, .inl ⟨_, _, rfl, .inl hS', .inl ⟨_, _, rfl, rfl, .inr ⟨_, rfl, .inl ⟨s, _, rfl, rfl, .inr ⟨?_, ?_⟩, by show 2 ≤ sizeLine; decide, fun b hb => ?_⟩⟩⟩⟩⟩
      · split <;> decide
      · split <;> decide
      have nbl : b ≠ l := fun z => by subst z; rw [upd_same] at hb; cases hb
      have hb0 : H1 b = none := by rw [upd_ne nbl] at hb; exact hb
      exact hq b l _ nbl hb0 hl ((Ex.new hl).trans (.new hb)) ⟨_, ns, upd_same, by rw [upd_ne (Ne.symm nbl)]; exact upd_same⟩
end
section
open PySem PySem.Spec PyProof.Rows L2
open C8 (Cal pe_c pe_gc)
def S__law_alike (n : Nat) (ds : List Dt) (Q : Dt → Prop) : Prop := ∃ d, ds = [d, d] ∧ Al n d ∧ Q (.bl true)
abbrev sp__law_alike (n : Nat) (K : PySem.W.Frag) : Sp := spP K (S__law_alike n)
theorem ok__law_alike {P : Program} {w : World} {K : PySem.W.Frag} {mg : Str → Option Value} {base : Heap} (T : Txt w K mg)  (n : Nat) : Cal P w K mg base (n + 1) "_law_alike" (sp__law_alike n K) [] := by
  induction n with
  | zero =>
    refine cal_pure T.f__law_alike sc__law_alike ?len fun f cdv A outer s H E hr => ⟨_, (pss_cons (ps_if (pt_cmpR op_isU (pv 1) pe_non (nomark _)) (pss_one (ps_ret (pe_cmpR op_isU (pv 0) pe_non (nomark _)))) pss_nil)
      (pss_cons (ps_if (pt_val (pe_callB call_isi (by rfl) T.b_isinstance (by decide +kernel) (pa_cons (pv 1) (pa_cons (pe_bltn (v := .ty "bool") (by rfl) T.b_bool (by decide +kernel) rfl) pa_nil)))) (pss_one (ps_ret (pe_and (pe_callB call_isi (by rfl) T.b_isinstance (by decide +kernel) (pa_cons (pv 0) (pa_cons (pe_bltn (v := .ty "bool") (by rfl) T.b_bool (by decide +kernel) rfl) pa_nil))) (pe_one (pe_cmpR (op_eqU hr.units) (pv 0) (pv 1) (nomark _)))))) pss_nil)
      (pss_cons (ps_if (pt_val (pe_callB call_isi (by rfl) T.b_isinstance (by decide +kernel) (pa_cons (pv 1) (pa_cons (pe_bltn (v := .ty "int") (by rfl) T.b_int (by decide +kernel) rfl) pa_nil)))) (pss_one (ps_ret (pe_and (pe_callB call_isi (by rfl) T.b_isinstance (by decide +kernel) (pa_cons (pv 0) (pa_cons (pe_bltn (v := .ty "int") (by rfl) T.b_int (by decide +kernel) rfl) pa_nil))) (pe_and (pe_not (pe_callB call_isi (by rfl) T.b_isinstance (by decide +kernel) (pa_cons (pv 0) (pa_cons (pe_bltn (v := .ty "bool") (by rfl) T.b_bool (by decide +kernel) rfl) pa_nil)))) (pe_one (pe_cmpR (op_eqU hr.units) (pv 0) (pv 1) (nomark _))))))) pss_nil)
      (pss_cons (ps_if (pt_val (pe_callB call_isi (by rfl) T.b_isinstance (by decide +kernel) (pa_cons (pv 1) (pa_cons (pe_bltn (v := .ty "str") (by rfl) T.b_str (by decide +kernel) rfl) pa_nil)))) (pss_one (ps_ret (pe_and (pe_callB call_isi (by rfl) T.b_isinstance (by decide +kernel) (pa_cons (pv 0) (pa_cons (pe_bltn (v := .ty "str") (by rfl) T.b_str (by decide +kernel) rfl) pa_nil))) (pe_one (pe_cmpR (op_eqU hr.units) (pv 0) (pv 1) (nomark _)))))) pss_nil)
      pss_never)))), ?body⟩
    case' body => try dsimp only [cxD, cxOf]
    case len => rintro ds Q ⟨b, rfl, _⟩; rfl
    case body =>
      rintro ds Q ⟨d, rfl, h, hq⟩ hid H0 D dom hD
      show NJ _ _ _ _ [.im d, .im d, .un]
      cases h with
      | non =>
        refine q_when ?_
        walk_at "go"
        refine bl_yes rfl (nj_ret ?_)
        walk_at "go"
        exact hD.rt _ hq
      | bl b =>
        refine q_when ?_
        walk_at "go"
        refine bl_no rfl (q_when ?_)
        walk_at "go"
        refine ⟨rfl, _, k_bb, bl_yes rfl (nj_ret ?_)⟩
        walk_at "go"
        refine ⟨rfl, _, k_bb, bl_yes rfl ?_⟩
        walk_at "go"
        refine eq_b ?_
        rw [decide_eq_true rfl]
        exact hD.rt _ hq
      | int i =>
        refine q_when ?_
        walk_at "go"
        refine bl_no rfl (q_when ?_)
        walk_at "go"
        refine ⟨rfl, _, k_ib, bl_no rfl (q_when ?_)⟩
        walk_at "go"
        refine ⟨rfl, _, k_ii, bl_yes rfl (nj_ret ?_)⟩
        walk_at "go"
        refine ⟨rfl, _, k_ii, bl_yes rfl ?_⟩
        walk_at "go"
        refine ⟨rfl, _, k_ib, ?_⟩
        walk_at "go"
        refine bl_yes rfl ?_
        walk_at "go"
        rw [decide_eq_true rfl]
        exact hD.rt _ hq
      | str x =>
        refine q_when ?_
        walk_at "go"
        refine bl_no rfl (q_when ?_)
        walk_at "go"
        refine ⟨rfl, _, k_sb, bl_no rfl (q_when ?_)⟩
        walk_at "go"
        refine ⟨rfl, _, k_si, bl_no rfl (q_when ?_)⟩
        walk_at "go"
        refine ⟨rfl, _, k_ss, bl_yes rfl (nj_ret ?_)⟩
        walk_at "go"
        refine ⟨rfl, _, k_ss, bl_yes rfl ?_⟩
        walk_at "go"
        rw [decide_eq_true rfl]
        exact hD.rt _ hq
  | succ n ih =>
    have c__law_alike := ih
    refine cal_pure T.f__law_alike sc__law_alike ?len fun f cdv A outer s H E hr => ⟨_, (pss_cons (ps_if (pt_cmpR op_isU (pv 1) pe_non (nomark _)) (pss_one (ps_ret (pe_cmpR op_isU (pv 0) pe_non (nomark _)))) pss_nil)
      (pss_cons (ps_if (pt_val (pe_callB call_isi (by rfl) T.b_isinstance (by decide +kernel) (pa_cons (pv 1) (pa_cons (pe_bltn (v := .ty "bool") (by rfl) T.b_bool (by decide +kernel) rfl) pa_nil)))) (pss_one (ps_ret (pe_and (pe_callB call_isi (by rfl) T.b_isinstance (by decide +kernel) (pa_cons (pv 0) (pa_cons (pe_bltn (v := .ty "bool") (by rfl) T.b_bool (by decide +kernel) rfl) pa_nil))) (pe_one (pe_cmpR (op_eqU hr.units) (pv 0) (pv 1) (nomark _)))))) pss_nil)
      (pss_cons (ps_if (pt_val (pe_callB call_isi (by rfl) T.b_isinstance (by decide +kernel) (pa_cons (pv 1) (pa_cons (pe_bltn (v := .ty "int") (by rfl) T.b_int (by decide +kernel) rfl) pa_nil)))) (pss_one (ps_ret (pe_and (pe_callB call_isi (by rfl) T.b_isinstance (by decide +kernel) (pa_cons (pv 0) (pa_cons (pe_bltn (v := .ty "int") (by rfl) T.b_int (by decide +kernel) rfl) pa_nil))) (pe_and (pe_not (pe_callB call_isi (by rfl) T.b_isinstance (by decide +kernel) (pa_cons (pv 0) (pa_cons (pe_bltn (v := .ty "bool") (by rfl) T.b_bool (by decide +kernel) rfl) pa_nil)))) (pe_one (pe_cmpR (op_eqU hr.units) (pv 0) (pv 1) (nomark _))))))) pss_nil)
      (pss_cons (ps_if (pt_val (pe_callB call_isi (by rfl) T.b_isinstance (by decide +kernel) (pa_cons (pv 1) (pa_cons (pe_bltn (v := .ty "str") (by rfl) T.b_str (by decide +kernel) rfl) pa_nil)))) (pss_one (ps_ret (pe_and (pe_callB call_isi (by rfl) T.b_isinstance (by decide +kernel) (pa_cons (pv 0) (pa_cons (pe_bltn (v := .ty "str") (by rfl) T.b_str (by decide +kernel) rfl) pa_nil))) (pe_one (pe_cmpR (op_eqU hr.units) (pv 0) (pv 1) (nomark _)))))) pss_nil)
      (pss_cons (ps_if ((pw_or (pt_cmpR (op_neU hr.units) (pe_callB call_isi (by rfl) T.b_isinstance (by decide +kernel) (pa_cons (pv 1) (pa_cons (pe_bltn (v := .ty "tuple") (by rfl) T.b_tuple (by decide +kernel) rfl) pa_nil))) (pe_callB call_isi (by rfl) T.b_isinstance (by decide +kernel) (pa_cons (pv 0) (pa_cons (pe_bltn (v := .ty "tuple") (by rfl) T.b_tuple (by decide +kernel) rfl) pa_nil))) (nomark _)) (pw_or1 (pt_cmpR (op_neU hr.units) (pe_callB call_isi (by rfl) T.b_isinstance (by decide +kernel) (pa_cons (pv 1) (pa_cons (pe_bltn (v := .ty "list") (by rfl) T.b_list (by decide +kernel) rfl) pa_nil))) (pe_callB call_isi (by rfl) T.b_isinstance (by decide +kernel) (pa_cons (pv 0) (pa_cons (pe_bltn (v := .ty "list") (by rfl) T.b_list (by decide +kernel) rfl) pa_nil))) (nomark _))))).pt (pss_one (ps_ret pe_bl)) pss_nil)
      (pss_cons (ps_if (pt_cmpR (op_neU hr.units) (pe_callB cl_len (by rfl) T.b_len PySem.boot_len (pa_cons (pv 0) pa_nil)) (pe_callB cl_len (by rfl) T.b_len PySem.boot_len (pa_cons (pv 1) pa_nil)) (nomark _)) (pss_one (ps_ret pe_bl)) pss_nil)
      (pss_cons (ps_for PassesOwn.never rfl (pi_range1 (by rfl) T.b_range (pa_cons (pe_callB cl_len (by rfl) T.b_len PySem.boot_len (pa_cons (pv 1) pa_nil)) pa_nil)) (pg_name (i := 2) sc__law_alike.nd rfl (Or.inl rfl)) (pss_one (ps_if (pt_not (pt_val (pe_c c__law_alike hr (Nat.le_refl _) (by rfl) (pa_cons (pe_ix ix_seq (pv 0) (pv 2) (fun _ _ => rfl)) (pa_cons (pe_ix ix_seq (pv 1) (pv 2) (fun _ _ => rfl)) pa_nil))))) (pss_one (ps_ret pe_bl)) pss_nil)))
      (pss_one (ps_ret pe_bl))))))))), ?body⟩
    case' body => try dsimp only [cxD, cxOf]
    case len => rintro ds Q ⟨b, rfl, _⟩; rfl
    case body =>
      rintro ds Q ⟨d, rfl, h, hq⟩ hid H0 D dom hD
      show NJ _ _ _ _ [.im d, .im d, .un]
      cases h with
      | non =>
        refine q_when ?_
        walk_at "go"
        refine bl_yes rfl (nj_ret ?_)
        walk_at "go"
        exact hD.rt _ hq
      | bl b =>
        refine q_when ?_
        walk_at "go"
        refine bl_no rfl (q_when ?_)
        walk_at "go"
        refine ⟨rfl, _, k_bb, bl_yes rfl (nj_ret ?_)⟩
        walk_at "go"
        refine ⟨rfl, _, k_bb, bl_yes rfl ?_⟩
        walk_at "go"
        refine eq_b ?_
        rw [decide_eq_true rfl]
        exact hD.rt _ hq
      | int i =>
        refine q_when ?_
        walk_at "go"
        refine bl_no rfl (q_when ?_)
        walk_at "go"
        refine ⟨rfl, _, k_ib, bl_no rfl (q_when ?_)⟩
        walk_at "go"
        refine ⟨rfl, _, k_ii, bl_yes rfl (nj_ret ?_)⟩
        walk_at "go"
        refine ⟨rfl, _, k_ii, bl_yes rfl ?_⟩
        walk_at "go"
        refine ⟨rfl, _, k_ib, ?_⟩
        walk_at "go"
        refine bl_yes rfl ?_
        walk_at "go"
        rw [decide_eq_true rfl]
        exact hD.rt _ hq
      | str x =>
        refine q_when ?_
        walk_at "go"
        refine bl_no rfl (q_when ?_)
        walk_at "go"
        refine ⟨rfl, _, k_sb, bl_no rfl (q_when ?_)⟩
        walk_at "go"
        refine ⟨rfl, _, k_si, bl_no rfl (q_when ?_)⟩
        walk_at "go"
        refine ⟨rfl, _, k_ss, bl_yes rfl (nj_ret ?_)⟩
        walk_at "go"
        refine ⟨rfl, _, k_ss, bl_yes rfl ?_⟩
        walk_at "go"
        rw [decide_eq_true rfl]
        exact hD.rt _ hq
      | lst hds hl =>
        rename_i es
        refine q_when ?_
        walk_at "go"
        refine bl_no rfl (q_when ?_)
        walk_at "go"
        refine ⟨rfl, _, k_lb, bl_no rfl (q_when ?_)⟩
        walk_at "go"
        refine ⟨rfl, _, k_li, bl_no rfl (q_when ?_)⟩
        walk_at "go"
        refine ⟨rfl, _, k_ls, bl_no rfl (q_when ?_)⟩
        walk_at "go"
        refine ⟨rfl, _, k_lt, ?_⟩
        walk_at "go"
        refine ⟨rfl, _, k_lt, ?_⟩
        refine ne_b (or_no rfl ?_)
        walk_at "go"
        refine ⟨rfl, _, k_ll, ?_⟩
        walk_at "go"
        refine ⟨rfl, _, k_ll, ?_⟩
        refine ne_b (bl_no rfl (q_when ?_))
        walk_at "go"
        refine bl_no (by rw [decide_eq_true rfl]; rfl) ?_
        refine q_for (ij_rng1 ?_)
        walk_at "go"
        refine ⟨es.length, rfl, by omega, by omega, fun i ρ' => ρ' = [.im (.lst es), .im (.lst es), .un], rfl, ?_, ?_⟩
        · rintro H1 e1 i d ρ' hi rfl
          obtain ⟨hil, rfl⟩ := rangeD_at hi
          rw [Int.zero_add]
          have hil' : i < es.length := by omega
          refine tg_name ?_
          walk_at "nm"
          refine nj_when ?_
          walk_at "go"
          refine ix_l (atI_nat (List.getElem?_eq_getElem hil')) ?_
          walk_at "go"
          refine ix_l (atI_nat (List.getElem?_eq_getElem hil')) ?_
          walk_at "go"
          refine sp_j ⟨_, rfl, hds _ (List.getElem_mem hil'), ?_⟩
          refine bl_no rfl ?_
          exact nj_nxw _ rfl (.same (.same (.un .nil)))
        · rintro ρ' rfl
          refine nj_ret ?_
          walk_at "go"
          exact hD.rt _ hq
      | tup hds hl =>
        rename_i es
        refine q_when ?_
        walk_at "go"
        refine bl_no rfl (q_when ?_)
        walk_at "go"
        refine ⟨rfl, _, k_tb, bl_no rfl (q_when ?_)⟩
        walk_at "go"
        refine ⟨rfl, _, k_ti, bl_no rfl (q_when ?_)⟩
        walk_at "go"
        refine ⟨rfl, _, k_ts, bl_no rfl (q_when ?_)⟩
        walk_at "go"
        refine ⟨rfl, _, k_tt, ?_⟩
        walk_at "go"
        refine ⟨rfl, _, k_tt, ?_⟩
        refine ne_b (or_no rfl ?_)
        walk_at "go"
        refine ⟨rfl, _, k_tl, ?_⟩
        walk_at "go"
        refine ⟨rfl, _, k_tl, ?_⟩
        refine ne_b (bl_no rfl (q_when ?_))
        walk_at "go"
        refine bl_no (by rw [decide_eq_true rfl]; rfl) ?_
        refine q_for (ij_rng1 ?_)
        walk_at "go"
        refine ⟨es.length, rfl, by omega, by omega, fun i ρ' => ρ' = [.im (.tup es), .im (.tup es), .un], rfl, ?_, ?_⟩
        · rintro H1 e1 i d ρ' hi rfl
          obtain ⟨hil, rfl⟩ := rangeD_at hi
          rw [Int.zero_add]
          have hil' : i < es.length := by omega
          refine tg_name ?_
          walk_at "nm"
          refine nj_when ?_
          walk_at "go"
          refine ix_t (atI_nat (List.getElem?_eq_getElem hil')) ?_
          walk_at "go"
          refine ix_t (atI_nat (List.getElem?_eq_getElem hil')) ?_
          walk_at "go"
          refine sp_j ⟨_, rfl, hds _ (List.getElem_mem hil'), ?_⟩
          refine bl_no rfl ?_
          exact nj_nxw _ rfl (.same (.same (.un .nil)))
        · rintro ρ' rfl
          refine nj_ret ?_
          walk_at "go"
          exact hD.rt _ hq
end
section
open PySem PySem.Spec PyProof.Rows L2
open C8 (Cal pe_c pe_gc)
theorem en_fmT {c : Cn} {ρ : List Sl} {tl : TE} {j : Nat} {t : TT} {te : TE} {ws : List Nat} {Q : List Dt → Prop} (hj : j ∈ ws) (h : EV c tl ρ fun d => ∃ (ds : List Dt) (p : Dt → Bool) (f : Dt → Dt), d = .tup ds ∧ ds.length ≤ 100000 ∧ (∀ x ∈ ds, EVT c t ((wipeS ρ ws).set j (.im x)) fun b => b = p x ∧ (p x = true → EV c te ((wipeS ρ ws).set j (.im x)) fun y => y = f x)) ∧ Q ((ds.filter p).map f)) :
    EN c (tLc (iTup c.K tl) (gName j) t te ws) ρ Q := en_fm (ij_tup (h.imp (by
  rintro _ ⟨ds, p, f, rfl, hl, hs, hq⟩
  exact ⟨hl, p, f, fun d hd => tge_name hj (hs d hd), hq⟩)))
theorem en_fmS {c : Cn} {ρ : List Sl} {tl : TE} {j : Nat} {t : TT} {te : TE} {ws : List Nat} {Q : List Dt → Prop} (hj : j ∈ ws) (h : EV c tl ρ (StrJ fun x => x.length ≤ 100000 ∧ ∃ (p : Nat → Bool), (∀ k ∈ x.cps.toList, EVT c t ((wipeS ρ ws).set j (.im (.str ⟨#[k]⟩))) fun b => b = p k ∧ (p k = true → EV c te ((wipeS ρ ws).set j (.im (.str ⟨#[k]⟩))) fun y => y = .str ⟨#[k]⟩)) ∧ Q ((x.cps.toList.filter p).map fun k => .str ⟨#[k]⟩))) :
    EN c (tLc (iStr tl) (gName j) t te ws) ρ Q := en_fm (ij_str (h.imp (by
  intro d hd
  cases d with
  | str x =>
    obtain ⟨hl, p, hs, hq⟩ := hd
    show StrJ _ (.str x)
    let pc : Dt → Bool := fun d => match d with
      | .str y => p (y.cps.getD 0 0)
      | _ => false
    refine ⟨by unfold chrs; rw [List.length_map, Array.length_toList]; exact hl, pc, fun d => d, fun d hd => ?_, ?_⟩
    · obtain ⟨k, hk, rfl⟩ := List.mem_map.mp hd
      exact tge_name hj (hs k hk)
    · unfold chrs
      rw [List.filter_map, List.map_map]
      exact hq
  | _ => exact hd.elim)))
theorem sh_strs {n : Nat} {ds : List Dt} (h : ∀ d ∈ ds, ∃ x : Str, d = .str x ∧ PyData.strOk x = true) : ∀ d ∈ ds, Sh n d := fun d hd => by
  obtain ⟨x, rfl, hx⟩ := h d hd
  exact .str hx
theorem kind_in (w : Bool) : (!inV (.str (kindS w)) [.str "number", .str "word"]) = false := by cases w <;> decide
def S_need_kinds (ds : List Dt) (Q : Dt → Prop) : Prop := ∃ ks, ds = [kindsD ks] ∧ KindsOk ks ∧ Q .non
abbrev sp_need_kinds (K : PySem.W.Frag) : Sp := spP K S_need_kinds
theorem ok_need_kinds {P : Program} {w : World} {K : PySem.W.Frag} {mg : Str → Option Value} {base : Heap} (T : Txt w K mg)  : Cal P w K mg base 1 "need_kinds" (sp_need_kinds K) [] := by
  refine cal_pure T.f_need_kinds sc_need_kinds ?len fun f cdv A outer s H E hr => ⟨_, (pss_one (ps_if ((pw_or (pt_not (pt_chain op_leU op_leU pe_int (pe_callB cl_len (by rfl) T.b_len PySem.boot_len (pa_cons (pv 0) pa_nil)) (pe_gc (by rfl) T.k_MOST_COLUMNS))) (pw_or1 (pt_cmpR (op_neU hr.units) (pe_lc (g := (gName 1)) (tt := (tTest (tOp (rNotInU K) (tVar 1) (tTup (tCons (tC (.str "number")) (tCons (tC (.str "word")) tNil)))))) (te := (tVar 1)) (own := [("kind", 1)]) rfl sc_need_kinds.nd (pi_tup (pv 0)) (blkOk_by (N := ["kinds", "kind"]) (sc := defScope s_need_kinds) (by decide +kernel)) (fun _ _ _ _ _ => (pg_name (i := 1) sc_need_kinds.nd rfl (Or.inl rfl))) (fun _ _ _ _ _ => (pts_one (pt_cmpR op_notInU (pv 1) (pe_tup (pa_cons (pe_gc (by rfl) T.k_NUMBER) (pa_cons (pe_gc (by rfl) T.k_WORD) pa_nil))) rfl))) (fun _ _ _ _ _ => (pv 1))) (pe_lst pa_nil) (nomark _))))).pt pss_never pss_nil)), ?body⟩
  case' body => try dsimp only [cxD, cxOf]
  case len => rintro ds Q ⟨b, rfl, _⟩; rfl
  case body =>
    rintro ds Q ⟨ks, rfl, h, hq⟩ hid H0 D dom hD
    show NJ _ _ _ _ [.im (.tup (ks.map fun w => .str (kindS w))), .un]
    have h1 := h.pos
    have h2 := h.le
    refine nj_when ?_
    walk_at "go"
    rw [List.length_map]
    refine bl_yes (decide_eq_true (by omega)) ?_
    walk_at "go"
    refine or_no (by rw [decide_eq_true (by omega)]; rfl) ?_
    walk_at "go"
    refine EN.ev (en_fmT (by decide) ?_)
    walk_at "go"
    refine ⟨_, fun _ => false, fun d => d, rfl, by rw [List.length_map]; omega, fun x hx => ?_, ?_⟩
    · obtain ⟨w, _, rfl⟩ := List.mem_map.mp hx
      walk_at "nm"
      walk_at "go"
      refine notin_s (xs := ["number", "word"]) ?_
      exact ⟨kind_in w, fun z => nomatch z⟩
    rw [show (ks.map fun w => Dt.str (kindS w)).filter (fun _ => false) = [] from List.filter_eq_nil_iff.mpr fun _ _ => Bool.false_ne_true, List.map_nil]
    refine EN.ev (en_lst ?_)
    walk_at "go"
    refine ne_nil (n := 0) (fun d hd => by cases hd) (by decide) ?_
    refine bl_no rfl ?_
    exact hD.nx hq _
theorem letters : ("abcdefghijklmnopqrstuvwxyz" : Str).cps.toList = (List.range 26).map (97 + ·) := by decide
theorem in_letters (k : Nat) : decide (k ∈ ("abcdefghijklmnopqrstuvwxyz" : Str).cps.toList) = decide (97 ≤ k ∧ k ≤ 122) := by
  rw [letters, decide_eq_decide, List.mem_map]
  constructor
  · rintro ⟨i, hi, rfl⟩
    have := List.mem_range.mp hi
    omega
  · intro h
    exact ⟨k - 97, List.mem_range.mpr (by omega), by omega⟩
theorem k_bs : kitB "bool" "str" = some false := by decide +kernel
theorem k_nb : kitB "NoneType" "bool" = some false := by decide +kernel
theorem noT_flat {d : Dt} (h : flatD d = true) : noT d = true := by cases d <;> first | rfl | cases h
theorem kit_str {d : Dt} (h : flatD d = true) : kitB (tyD d) "str" = some (match d with | .str _ => true | _ => false) := by
  cases d with
  | non => exact k_ns
  | bl => exact k_bs
  | int => exact k_is
  | str => exact k_ss
  | lst => exact k_ls
  | tup => exact k_ts
  | _ => cases h
theorem kit_int {d : Dt} (h : flatD d = true) : kitB (tyD d) "int" = some (match d with | .int _ => true | .bl _ => true | _ => false) := by
  cases d with
  | non => exact k_ni
  | bl => exact k_bi
  | int => exact k_ii
  | str => exact k_si
  | lst => exact k_li
  | tup => exact k_ti
  | _ => cases h
theorem chr_ok {x : Str} (h : PyData.strOk x = true) {k : Nat} (hk : k ∈ x.cps.toList) : PyData.strOk ⟨#[k]⟩ = true := by
  unfold PyData.strOk at h ⊢
  rw [← Array.all_toList, List.all_eq_true] at h
  have := h k hk
  simpa using this
theorem fil_all {x : Str} : ((x.cps.toList.filter fun k => !decide (97 ≤ k ∧ k ≤ 122)).map fun k => Dt.str ⟨#[k]⟩).isEmpty = x.cps.toList.all fun k => decide (97 ≤ k ∧ k ≤ 122) := by
  rw [List.isEmpty_map]
  generalize x.cps.toList = l
  induction l with
  | nil => rfl
  | cons k r ih =>
    rw [List.all_cons, List.filter_cons]
    cases decide (97 ≤ k ∧ k ≤ 122) with
    | true => simpa using ih
    | false => simp
def S_is_word (ds : List Dt) (Q : Dt → Prop) : Prop := ∃ d, ds = [d] ∧ flatD d = true ∧ Q (.bl (isWordD d))
abbrev sp_is_word (K : PySem.W.Frag) : Sp := spP K S_is_word
theorem ok_is_word {P : Program} {w : World} {K : PySem.W.Frag} {mg : Str → Option Value} {base : Heap} (T : Txt w K mg)  : Cal P w K mg base 1 "is_word" (sp_is_word K) [] := by
  refine cal_pure T.f_is_word sc_is_word ?len fun f cdv A outer s H E hr => ⟨_, (pss_one (ps_ret (pe_and (pe_callB call_isi (by rfl) T.b_isinstance (by decide +kernel) (pa_cons (pv 0) (pa_cons (pe_bltn (v := .ty "str") (by rfl) T.b_str (by decide +kernel) rfl) pa_nil))) (pe_and (pe_cmpR op_leU (pe_callB cl_len (by rfl) T.b_len PySem.boot_len (pa_cons (pv 0) pa_nil)) (pe_gc (by rfl) T.k_MOST_LETTERS) (nomark _)) (pe_one (pe_cmpR (op_eqU hr.units) (pe_lc (g := (gName 1)) (tt := (tTest (tOp (rNotInU K) (tVar 1) (tC (.str "abcdefghijklmnopqrstuvwxyz"))))) (te := (tVar 1)) (own := [("one", 1)]) rfl sc_is_word.nd (pi_str (pv 0)) (blkOk_by (N := ["value", "one"]) (sc := defScope s_is_word) (by decide +kernel)) (fun _ _ _ _ _ => (pg_name (i := 1) sc_is_word.nd rfl (Or.inl rfl))) (fun _ _ _ _ _ => (pts_one (pt_cmpR op_notInU (pv 1) (pe_gc (by rfl) T.k_LETTERS) rfl))) (fun _ _ _ _ _ => (pv 1))) (pe_lst pa_nil) (nomark _))))))), ?body⟩
  case' body => try dsimp only [cxD, cxOf]
  case len => rintro ds Q ⟨b, rfl, _⟩; rfl
  case body =>
    rintro ds Q ⟨d, rfl, h, hq⟩ hid H0 D dom hD
    show NJ _ _ _ _ [.im d, .un]
    refine nj_ret ?_
    walk_at "go"
    refine ⟨noT_flat h, _, kit_str h, ?_⟩
    cases d with
    | str x =>
      obtain ⟨hl, hx⟩ := Bool.and_eq_true_iff.mp h
      have hl := of_decide_eq_true hl
      refine ⟨fun _ => ?_, fun z => nomatch z⟩
      walk_at "go"
      refine len_s hl ?_
      walk_at "go"
      refine bl_two (fun hc => ?_) (fun hc => ?_)
      · walk_at "go"
        refine EN.ev (en_fmS (by decide) ?_)
        walk_at "go"
        refine ⟨hl, fun k => !decide (97 ≤ k ∧ k ≤ 122), fun k hk => ?_, ?_⟩
        · walk_at "nm"
          walk_at "go"
          rw [in_letters]
          refine ⟨rfl, fun _ => ?_⟩
          walk_at "go"
          rfl
        · refine EN.ev (en_lst ?_)
          walk_at "go"
          refine eq_nil (n := 0) ?_ (by decide) (hD.rt _ ?_)
          · refine sh_strs fun d hd => ?_
            obtain ⟨k, hk, rfl⟩ := List.mem_map.mp hd
            exact ⟨_, rfl, chr_ok hx (List.mem_filter.mp hk).1⟩
          · rw [fil_all]
            refine cast (congrArg (fun b => Q (.bl b)) ?_) hq
            show wordB x = _
            unfold wordB
            rw [decide_eq_true (by omega), Bool.true_and]
      · refine hD.rt _ ?_
        refine cast (congrArg (fun b => Q (.bl b)) ?_) hq
        show wordB x = _
        unfold wordB
        rw [decide_eq_false (by omega), Bool.false_and]
    | _ =>
      refine ⟨(fun z => nomatch z), fun _ => ?_⟩
      exact hD.rt _ hq
def S_is_value (ds : List Dt) (Q : Dt → Prop) : Prop := ∃ w d, ds = [.str (kindS w), d] ∧ flatD d = true ∧ Q (.bl (isValD w d))
abbrev sp_is_value (K : PySem.W.Frag) : Sp := spP K S_is_value
theorem kit_bool {d : Dt} (h : flatD d = true) : kitB (tyD d) "bool" = some (match d with | .bl _ => true | _ => false) := by
  cases d with
  | non => exact k_nb
  | bl => exact k_bb
  | int => exact k_ib
  | str => exact k_sb
  | lst => exact k_lb
  | tup => exact k_tb
  | _ => cases h
theorem ok_is_value {P : Program} {w : World} {K : PySem.W.Frag} {mg : Str → Option Value} {base : Heap} (T : Txt w K mg) (c_is_word : Cal P w K mg base 1 "is_word" (sp_is_word K) []) : Cal P w K mg base 2 "is_value" (sp_is_value K) [] := by
  refine cal_pure T.f_is_value sc_is_value ?len fun f cdv A outer s H E hr => ⟨_, (pss_cons (ps_if (pt_cmpR (op_eqU hr.units) (pv 0) (pe_gc (by rfl) T.k_WORD) (nomark _)) (pss_one (ps_ret (pe_c c_is_word hr (by decide) (by rfl) (pa_cons (pv 1) pa_nil)))) pss_nil)
      (pss_one (ps_ret (pe_and (pe_callB call_isi (by rfl) T.b_isinstance (by decide +kernel) (pa_cons (pv 1) (pa_cons (pe_bltn (v := .ty "int") (by rfl) T.b_int (by decide +kernel) rfl) pa_nil))) (pe_and (pe_not (pe_callB call_isi (by rfl) T.b_isinstance (by decide +kernel) (pa_cons (pv 1) (pa_cons (pe_bltn (v := .ty "bool") (by rfl) T.b_bool (by decide +kernel) rfl) pa_nil)))) (pe_one (pe_chain op_leU op_leU (pe_op op_subU pe_int (pe_gc (by rfl) T.k_MOST)) (pv 1) (pe_gc (by rfl) T.k_MOST)))))))), ?body⟩
  case' body => try dsimp only [cxD, cxOf]
  case len => rintro ds Q ⟨b, _, rfl, _⟩; rfl
  case body =>
    rintro ds Q ⟨w, d, rfl, h, hq⟩ hid H0 D dom hD
    show NJ _ _ _ _ [.im (.str (kindS w)), .im d]
    refine q_when ?_
    walk_at "go"
    cases w with
    | true =>
      refine bl_yes (by decide) ?_
      refine nj_ret ?_
      walk_at "go"
      exact sp_j ⟨d, rfl, h, hD.rt _ hq⟩
    | false =>
      refine bl_no (by decide) ?_
      refine nj_ret ?_
      walk_at "go"
      refine ⟨noT_flat h, _, kit_int h, ?_⟩
      cases d with
      | int n =>
        refine ⟨fun _ => ?_, fun z => nomatch z⟩
        walk_at "go"
        refine ⟨rfl, _, kit_bool h, ?_⟩
        refine ⟨fun _ => ?_, fun z => nomatch z⟩
        walk_at "go"
        refine ⟨fun hc => ?_, fun hc => ?_⟩
        · have hc := of_decide_eq_true hc
          walk_at "go"
          refine hD.rt _ (cast (congrArg (fun b => Q (.bl b)) ?_) hq)
          show decide (-9999 ≤ n ∧ n ≤ 9999) = _
          rw [decide_eq_decide]
          omega
        · have hc := of_decide_eq_false hc
          refine hD.rt _ (cast (congrArg (fun b => Q (.bl b)) ?_) hq)
          exact decide_eq_false (by omega)
      | bl b =>
        refine ⟨fun _ => ?_, fun z => nomatch z⟩
        walk_at "go"
        refine ⟨rfl, _, kit_bool h, ?_⟩
        exact ⟨(fun z => nomatch z), fun _ => hD.rt _ hq⟩
      | _ => exact ⟨(fun z => nomatch z), fun _ => hD.rt _ hq⟩
theorem kinds_at {ks : List Bool} {k : Nat} {w : Bool} (h : ks[k]? = some w) : atI (ks.map fun w => Dt.str (kindS w)) ((k : Nat) : Int) = some (.str (kindS w)) := atI_nat (by rw [List.getElem?_map, h]; rfl)
end
section
open PySem PySem.Spec PyProof.Rows L2
open C8 (Cal pe_c pe_gc)
def PtOk (ks : List Bool) (ps : List Pt) : Pt → Prop
  | .qq _ => False
  | .cc k => k < ks.length
  | .vv v => ∃ k w, ps[0]? = some (.cc k) ∧ ks[k]? = some w ∧ ValOk w v
  | .tt x => ∃ k, ps[0]? = some (.cc k) ∧ ks[k]? = some true ∧ WordOk x
abbrev shapesL : List (Str × Str) := [("is", "cv"), ("less", "cv"), ("within", "cvv"), ("begins", "ct"), ("not", "q"), ("and", "qq"), ("or", "qq"), ("all", "")]
theorem pt_ok {ks : List Bool} {c : Cd} (h : c.Fits ks) : ∀ (j : Nat) (p : Pt), c.pts[j]? = some p → (∃ a, p = .qq a ∧ a.Fits ks ∧ a.deep < c.deep) ∨ PtOk ks c.pts p := by
  intro j p hp
  have lt : ∀ {k : Nat} {w : Bool}, ks[k]? = some w → k < ks.length := fun h => (List.getElem?_eq_some_iff.mp h).1
  cases c with
  | all => cases j <;> cases hp
  | no a =>
    match j, hp with
    | 0, hp => cases hp; exact .inl ⟨a, rfl, h, by show a.deep < 1 + a.deep; omega⟩
  | and a b =>
    match j, hp with
    | 0, hp => cases hp; exact .inl ⟨a, rfl, h.1, by show a.deep < 1 + max a.deep b.deep; omega⟩
    | 1, hp => cases hp; exact .inl ⟨b, rfl, h.2, by show b.deep < 1 + max a.deep b.deep; omega⟩
  | or a b =>
    match j, hp with
    | 0, hp => cases hp; exact .inl ⟨a, rfl, h.1, by show a.deep < 1 + max a.deep b.deep; omega⟩
    | 1, hp => cases hp; exact .inl ⟨b, rfl, h.2, by show b.deep < 1 + max a.deep b.deep; omega⟩
  | is k v =>
    obtain ⟨w, hk, hv⟩ := h
    match j, hp with
    | 0, hp => cases hp; exact .inr (lt hk)
    | 1, hp => cases hp; exact .inr ⟨k, w, rfl, hk, hv⟩
  | less k v =>
    obtain ⟨w, hk, hv⟩ := h
    match j, hp with
    | 0, hp => cases hp; exact .inr (lt hk)
    | 1, hp => cases hp; exact .inr ⟨k, w, rfl, hk, hv⟩
  | within k v u =>
    obtain ⟨w, hk, hv, hu⟩ := h
    match j, hp with
    | 0, hp => cases hp; exact .inr (lt hk)
    | 1, hp => cases hp; exact .inr ⟨k, w, rfl, hk, hv⟩
    | 2, hp => cases hp; exact .inr ⟨k, w, rfl, hk, hu⟩
  | begins k x =>
    obtain ⟨hk, hv⟩ := h
    match j, hp with
    | 0, hp => cases hp; exact .inr (lt hk)
    | 1, hp => cases hp; exact .inr ⟨k, rfl, hk, hv⟩
theorem Sh.up {n : Nat} {d : Dt} (h : Sh n d) : Sh (n + 1) d := by
  induction h with
  | non => exact .non
  | bl b => exact .bl b
  | int i => exact .int i
  | str h => exact .str h
  | lst _ ih => exact .lst ih
  | tup _ ih => exact .tup ih
theorem Sh.le {n m : Nat} {d : Dt} (h : Sh n d) (hm : n ≤ m) : Sh m d := by
  induction m with
  | zero =>
    have : n = 0 := by omega
    subst this
    exact h
  | succ m ih =>
    by_cases q : n = m + 1
    · subst q; exact h
    · exact (ih (by omega)).up
end
section
open PySem PySem.Spec PyProof.Rows L2
open C8 (Cal pe_c pe_gc)
local macro_rules | `(tactic| walk_at "box") => `(tactic| (repeat (first
  | with_reducible refine ev_callB (by assumption) rfl ?_
  | with_reducible refine EN.ev (en_lst ?_)
  | walk_at "ev")))
def S__law_kinds (ds : List Dt) (Q : Dt → Prop) : Prop := ds = [] ∧ ∀ ks, KindsOk ks → Q (kindsD ks)
abbrev sp__law_kinds (K : PySem.W.Frag) : Sp := spB K S__law_kinds
theorem ok__law_kinds {P : Program} {w : World} {K : PySem.W.Frag} {mg : Str → Option Value} {base : Heap} (T : Txt w K mg) (c__law_take : Cal P w K mg base 1 "_law_take" (sp__law_take K) []) : Cal P w K mg base 2 "_law_kinds" (sp__law_kinds K) [] := by
  refine cal_box T.f__law_kinds sc__law_kinds (fun z => nomatch z) ?len fun f cdv A outer s H E hr => ⟨_, (pss_one (ps_ret (pe_callTy cl_tuple (by rfl) T.b_tuple (by decide +kernel) (pa_cons (pe_lc (g := (gName 1)) (tt := tYes) (te := (tOp (rIx K) (tLst (tCons (tC (.str "number")) (tCons (tC (.str "word")) tNil))) (tCall (sp__law_take K) [] E0 (tCons (tVar 0) (tCons (tC (.int 2)) tNil))))) (own := [("_law_k", 1)]) rfl sc__law_kinds.nd (pi_range1 (by rfl) T.b_range (pa_cons (pe_op op_addU pe_int (pe_c c__law_take hr (by decide) (by rfl) (pa_cons (pv 0) (pa_cons pe_int pa_nil)))) pa_nil)) (blkOk_by (N := ["_law_box", "_law_k"]) (sc := defScope s__law_kinds) (by decide +kernel)) (fun _ _ _ _ _ => (pg_name (i := 1) sc__law_kinds.nd rfl (Or.inl rfl))) (fun _ _ _ _ _ => pts_nil) (fun _ _ _ _ _ => (pe_ix ix_seq (pe_lst (pa_cons pe_str (pa_cons pe_str pa_nil))) (pe_c c__law_take hr (by decide) (by rfl) (pa_cons (pv 0) (pa_cons pe_int pa_nil))) (fun _ _ => rfl)))) pa_nil)))), ?body⟩
  case' body => try dsimp only [cxD, cxOf]
  case len => rintro ds Q ⟨rfl, _⟩; rfl
  case body =>
    rintro ds Q ⟨rfl, hq⟩ b l hne hid H0 D dom hD
    show NJ _ _ _ _ [.rw (.ref b), .un]
    refine nj_ret ?_
    walk_at "box"
    refine EN.ev (en_lc (ij_rng1 ?_))
    walk_at "box"
    refine take_j (by omega) (by omega) fun r r0 r1 => ?_
    walk_at "box"
    refine ⟨_, rfl, by omega, by omega, by rw [rangeD_len]; omega, fun i ys => ∃ ks : List Bool, ys = ks.map (fun w => .str (kindS w)) ∧ ks.length = i, ⟨[], rfl, rfl⟩, ?_, ?_⟩
    · rintro i d acc hi ⟨ks, rfl, rfl⟩
      refine tge_name (by decide) (et_yes ⟨fun _ => ?_, fun z => nomatch z⟩)
      walk_at "nm"
      walk_at "box"
      refine take_j (by omega) (by omega) fun z z0 z1 => ?_
      have hz : ∃ w, atI [Dt.str "number", Dt.str "word"] z = some (.str (kindS w)) := by
        rcases (by omega : z = 0 ∨ z = 1) with rfl | rfl
        · exact ⟨false, rfl⟩
        · exact ⟨true, rfl⟩
      obtain ⟨w, hw⟩ := hz
      refine ix_l hw ?_
      exact ⟨ks ++ [w], by rw [List.map_append]; rfl, by rw [List.length_append]; rfl⟩
    · rintro acc ⟨ks, rfl, hk⟩
      rw [rangeD_len] at hk
      walk_at "box"
      exact hD.rt _ (hq ks ⟨by omega, by omega⟩)
abbrev Small (k : Nat) : Prop := 97 ≤ k ∧ k ≤ 122
theorem small_app {x y : Str} (hx : ∀ k ∈ x.cps.toList, Small k) (hy : ∀ k ∈ y.cps.toList, Small k) : ∀ k ∈ (x ++ y).cps.toList, Small k := fun k hk => by
  have e : (x ++ y).cps.toList = x.cps.toList ++ y.cps.toList := Array.toList_append
  rw [e, List.mem_append] at hk
  rcases hk with h | h
  · exact hx k h
  · exact hy k h
theorem small_join : ∀ (ys : List Str), (∀ y ∈ ys, ∀ k ∈ y.cps.toList, Small k) → ∀ k ∈ (Txt.join "" ys).cps.toList, Small k := fun ys h => by
  show ∀ k ∈ (Builtin.Str.glued "" ys).cps.toList, Small k
  rw [StrLaws.glued_eq_join]
  induction ys with
  | nil => intro k hk; cases hk
  | cons x r ih =>
    cases r with
    | nil => exact h x (.head _)
    | cons y r => exact small_app (small_app (h x (.head _)) fun k hk => by cases hk) (ih fun z hz => h z (.tail _ hz))
theorem len_join0 (ys : List Str) (h : ∀ y ∈ ys, y.length ≤ 1) : (Txt.join "" ys).length ≤ ys.length := by
  show (Builtin.Str.glued "" ys).length ≤ _
  rw [size_glued]
  have : ((ys.map (·.length)).sum) ≤ ys.length := by
    induction ys with
    | nil => exact Nat.le_refl _
    | cons y r ih =>
      rw [List.map_cons, List.sum_cons, List.length_cons]
      have := h y (.head _)
      have := ih fun z hz => h z (.tail _ hz)
      omega
  have e : (ys.length - 1) * ("" : Str).length = 0 := Nat.mul_zero _
  omega
theorem atI_mem {α : Type} {l : List α} {k : Int} {x : α} (h : atI l k = some x) : x ∈ l := by
  unfold atI at h
  cases q : ixN l.length k with
  | none => rw [q] at h; cases h
  | some j => rw [q] at h; exact List.mem_of_getElem? h
theorem sum_one : ∀ xs : List Str, (∀ x ∈ xs, x.length ≤ 1) → (xs.map (·.length)).sum ≤ xs.length
  | [], _ => Nat.le_refl _
  | x :: r, h => by
    have := h x (.head _)
    have := sum_one r fun z hz => h z (.tail _ hz)
    rw [List.map_cons, List.sum_cons, List.length_cons]
    omega
theorem small_cut {x : Str} {lo hi : Option Int} (h : ∀ k ∈ x.cps.toList, Small k) : ∀ k ∈ (cutS x lo hi).cps.toList, Small k := fun k hk => by
  unfold cutS at hk
  exact h k (List.mem_of_mem_drop (List.mem_of_mem_take hk))
theorem len_cut6 {x : Str} : (cutS x none (some 6)).length ≤ 6 := by
  show (((x.cps.toList.drop _).take _).toArray).size ≤ 6
  rw [List.size_toArray, List.length_take]
  have : HT.sIx x.length x.length (some 6) - HT.sIx x.length 0 none ≤ 6 := by
    rw [show (some (6 : Int)) = some ((6 : Nat) : Int) from rfl, HT.sIx_nat]
    show min 6 _ - 0 ≤ 6
    omega
  omega
theorem word_cut {x : Str} {lo hi : Option Int} (h : WordOk x) : WordOk (cutS x lo hi) := ⟨Nat.le_trans (cutS_length x lo hi) h.1, small_cut h.2⟩
def S__law_word (ds : List Dt) (Q : Dt → Prop) : Prop := ds = [] ∧ ∀ x, WordOk x → Q (.str x)
abbrev sp__law_word (K : PySem.W.Frag) : Sp := spB K S__law_word
theorem ok__law_word {P : Program} {w : World} {K : PySem.W.Frag} {mg : Str → Option Value} {base : Heap} (T : Txt w K mg) (c__law_take : Cal P w K mg base 1 "_law_take" (sp__law_take K) []) : Cal P w K mg base 2 "_law_word" (sp__law_word K) [] := by
  refine cal_box T.f__law_word sc__law_word (fun z => nomatch z) ?len fun f cdv A outer s H E hr => ⟨_, (pss_cons (ps_set (i := 1) sc__law_word.nd rfl (Or.inr rfl) (pe_ix ix_seq (pe_lst (pa_cons pe_str (pa_cons pe_str (pa_cons pe_str pa_nil)))) (pe_c c__law_take hr (by decide) (by rfl) (pa_cons (pv 0) (pa_cons pe_int pa_nil))) (fun _ _ => rfl)))
      (pss_cons (ps_set (i := 2) sc__law_word.nd rfl (Or.inl rfl) (pe_c c__law_take hr (by decide) (by rfl) (pa_cons (pv 0) (pa_cons (pe_ix ix_seq (pe_lst (pa_cons pe_int (pa_cons pe_int pa_nil))) (pe_c c__law_take hr (by decide) (by rfl) (pa_cons (pv 0) (pa_cons pe_int pa_nil))) (fun _ _ => rfl)) pa_nil))))
      (pss_cons (ps_set (i := 3) sc__law_word.nd rfl (Or.inl rfl) (pe_bm PySem.F.plainAttrs_str PySem.F.slot_str_join PySem.F.type_str_join mt_joinU pe_str (pa_cons (pe_lc (g := (gName 4)) (tt := tYes) (te := (tOp (rIx K) (tVar 1) (tCall (sp__law_take K) [] E0 (tCons (tVar 0) (tCons (tCB (rLenU K) (tCons (tVar 1) tNil)) tNil))))) (own := [("_law_k", 4)]) rfl sc__law_word.nd (pi_range1 (by rfl) T.b_range (pa_cons (pv 2) pa_nil)) (blkOk_by (N := ["_law_box", "_law_letters", "_law_many", "_law_found", "_law_k"]) (sc := defScope s__law_word) (by decide +kernel)) (fun _ _ _ _ _ => (pg_name (i := 4) sc__law_word.nd rfl (Or.inl rfl))) (fun _ _ _ _ _ => pts_nil) (fun _ _ _ _ _ => (pe_ix ix_seq (pv 1) (pe_c c__law_take hr (by decide) (by rfl) (pa_cons (pv 0) (pa_cons (pe_callB cl_len (by rfl) T.b_len PySem.boot_len (pa_cons (pv 1) pa_nil)) pa_nil))) (fun _ _ => rfl)))) pa_nil)))
      (pss_one (ps_ret (pe_slice sl_str (pe_op op_addU (pe_op op_mulS pe_str (pe_c c__law_take hr (by decide) (by rfl) (pa_cons (pv 0) (pa_cons pe_int pa_nil)))) (pv 3)) po_none (po_some pe_int))))))), ?body⟩
  case' body => try dsimp only [cxD, cxOf]
  case len => rintro ds Q ⟨rfl, _⟩; rfl
  case body =>
    rintro ds Q ⟨rfl, hq⟩ b l hne hid H0 D dom hD
    show NJ _ _ _ _ [.rw (.ref b), .un, .un, .un, .un]
    refine q_asg ?_
    walk_at "box"
    refine take_j (by omega) (by omega) fun z z0 z1 => ?_
    have hz : ∃ lt : Str, atI [Dt.str "ab", Dt.str "az", Dt.str "abcdefghijklmnopqrstuvwxyz"] z = some (.str lt) ∧ (∀ k ∈ lt.cps.toList, Small k) ∧ 1 ≤ lt.length ∧ lt.length ≤ 26 := by
      rcases (by omega : z = 0 ∨ z = 1 ∨ z = 2) with rfl | rfl | rfl
      · exact ⟨"ab", rfl, by decide, by decide, by decide⟩
      · exact ⟨"az", rfl, by decide, by decide, by decide⟩
      · exact ⟨"abcdefghijklmnopqrstuvwxyz", rfl, by decide, by decide, by decide⟩
    obtain ⟨lt, hw, hs, h1, h2⟩ := hz
    refine ix_l hw ?_
    walk_at "nm"
    refine q_asg ?_
    walk_at "box"
    refine take_j (by omega) (by omega) fun z z0 z1 => ?_
    have hz : ∃ m : Int, atI [Dt.int 3, Dt.int 7] z = some (.int m) ∧ 3 ≤ m ∧ m ≤ 7 := by
      rcases (by omega : z = 0 ∨ z = 1) with rfl | rfl
      · exact ⟨3, rfl, by omega, by omega⟩
      · exact ⟨7, rfl, by omega, by omega⟩
    obtain ⟨m, hm, m1, m2⟩ := hz
    refine ix_l hm ?_
    walk_at "box"
    refine take_j (by omega) (by omega) fun n n0 n1 => ?_
    walk_at "nm"
    refine q_asg (ev_join rfl ?_)
    walk_at "box"
    refine EN.ev (en_lc (ij_rng1 ?_))
    walk_at "box"
    refine ⟨_, rfl, by omega, by omega, by rw [rangeD_len]; omega, fun i ys => ∃ xs : List Str, ys = xs.map Dt.str ∧ xs.length = i ∧ ∀ x ∈ xs, x.length ≤ 1 ∧ ∀ k ∈ x.cps.toList, Small k, ⟨[], rfl, rfl, fun x hx => by cases hx⟩, ?_, ?_⟩
    · rintro i d acc hi ⟨xs, rfl, rfl, hx⟩
      refine tge_name (by decide) (et_yes ⟨fun _ => ?_, fun z => nomatch z⟩)
      walk_at "nm"
      walk_at "box"
      refine len_s (by omega) ?_
      walk_at "box"
      refine take_j (by omega) (by omega) fun z z0 z1 => ?_
      obtain ⟨k, hk⟩ : ∃ k, atI lt.cps.toList z = some k := by
        obtain ⟨j, rfl⟩ : ∃ j : Nat, z = (j : Nat) := ⟨z.toNat, by omega⟩
        have hj : j < lt.cps.toList.length := by rw [Array.length_toList]; show j < lt.length; omega
        exact ⟨_, atI_nat (List.getElem?_eq_getElem hj)⟩
      refine ix_s (by omega) hk ?_
      refine ⟨xs ++ [⟨#[k]⟩], by rw [List.map_append]; rfl, by rw [List.length_append]; rfl, fun x hx2 => ?_⟩
      rcases List.mem_append.mp hx2 with q | q
      · exact hx x q
      · cases List.mem_singleton.mp q
        exact ⟨Nat.le_refl _, fun k' hk' => by cases List.mem_singleton.mp hk'; exact hs k (atI_mem hk)⟩
    · rintro acc ⟨xs, rfl, hx, hy⟩
      rw [rangeD_len] at hx
      have hl := len_join0 xs fun x hx => (hy x hx).1
      have hsm := small_join xs fun x hx => (hy x hx).2
      refine ⟨xs, rfl, ?_, ?_⟩
      · have := sum_one xs fun x hx => (hy x hx).1
        have e : xs.length * ("" : Str).length = 0 := Nat.mul_zero _
        omega
      walk_at "nm"
      refine nj_ret ?_
      walk_at "box"
      refine take_j (by omega) (by omega) fun z z0 z1 => ?_
      refine mul_s (by omega) (by omega) (by decide) ?_
      have hr : (repS "abab" z).length ≤ 4 ∧ ∀ k ∈ (repS "abab" z).cps.toList, Small k := by
        rcases (by omega : z = 0 ∨ z = 1) with rfl | rfl
        · exact ⟨by decide, by decide⟩
        · exact ⟨by decide, by decide⟩
      walk_at "box"
      refine add_s (x := repS "abab" z) (y := Txt.join "" xs) (by omega) ?_
      have e : (repS "abab" z ++ Txt.join "" xs).length = (repS "abab" z).length + (Txt.join "" xs).length := Array.size_append
      walk_at "box"
      refine ⟨by omega, ?_⟩
      walk_at "box"
      exact hD.rt _ (hq _ ⟨len_cut6, small_cut (small_app hr.2 hsm)⟩)
def S__law_value (ds : List Dt) (Q : Dt → Prop) : Prop := ∃ w, ds = [.str (kindS w)] ∧ ∀ v, ValOk w v → Q v.dt
abbrev sp__law_value (K : PySem.W.Frag) : Sp := spB K S__law_value
theorem ok__law_value {P : Program} {w : World} {K : PySem.W.Frag} {mg : Str → Option Value} {base : Heap} (T : Txt w K mg) (c__law_word : Cal P w K mg base 2 "_law_word" (sp__law_word K) []) (c__law_take : Cal P w K mg base 1 "_law_take" (sp__law_take K) []) : Cal P w K mg base 3 "_law_value" (sp__law_value K) [] := by
  refine cal_box T.f__law_value sc__law_value (fun z => nomatch z) ?len fun f cdv A outer s H E hr => ⟨_, (pss_cons (ps_if (pt_cmpR (op_eqU hr.units) (pv 1) pe_str (nomark _)) (pss_one (ps_ret (pe_c c__law_word hr (by decide) (by rfl) (pa_cons (pv 0) pa_nil)))) pss_nil)
      (pss_one (ps_ret (pe_ix ix_seq (pe_lst (pa_cons (pe_c c__law_take hr (by decide) (by rfl) (pa_cons (pv 0) (pa_cons pe_int pa_nil))) (pa_cons (pe_op op_subU (pe_c c__law_take hr (by decide) (by rfl) (pa_cons (pv 0) (pa_cons pe_int pa_nil))) pe_int) (pa_cons (pe_op op_subU (pe_c c__law_take hr (by decide) (by rfl) (pa_cons (pv 0) (pa_cons pe_int pa_nil))) pe_int) pa_nil)))) (pe_c c__law_take hr (by decide) (by rfl) (pa_cons (pv 0) (pa_cons pe_int pa_nil))) (fun _ _ => rfl))))), ?body⟩
  case' body => try dsimp only [cxD, cxOf]
  case len => rintro ds Q ⟨w, rfl, _⟩; rfl
  case body =>
    rintro ds Q ⟨w, rfl, hq⟩ b l hne hid H0 D dom hD
    show NJ _ _ _ _ [.rw (.ref b), .im (.str (kindS w))]
    refine q_when ?_
    walk_at "box"
    cases w with
    | true =>
      refine bl_yes (by decide) ?_
      refine nj_ret ?_
      walk_at "box"
      exact ⟨rfl, fun x hx => hD.rt _ (hq (.s x) ⟨rfl, hx⟩)⟩
    | false =>
      refine bl_no (by decide) ?_
      refine nj_ret ?_
      walk_at "box"
      refine take_j (by omega) (by omega) fun r1 a1 b1 => ?_
      walk_at "box"
      refine take_j (by omega) (by omega) fun r2 a2 b2 => ?_
      walk_at "box"
      refine take_j (by omega) (by omega) fun r3 a3 b3 => ?_
      walk_at "box"
      refine take_j (by omega) (by omega) fun z z0 z1 => ?_
      have hz : ∃ m : Int, atI [Dt.int r1, Dt.int (r2 - 30), Dt.int (r3 - 9999)] z = some (.int m) ∧ -9999 ≤ m ∧ m ≤ 9999 := by
        rcases (by omega : z = 0 ∨ z = 1 ∨ z = 2) with rfl | rfl | rfl
        · exact ⟨_, rfl, by omega, by omega⟩
        · exact ⟨_, rfl, by omega, by omega⟩
        · exact ⟨_, rfl, by omega, by omega⟩
      obtain ⟨m, hm, m1, m2⟩ := hz
      refine ix_l hm ?_
      exact hD.rt _ (hq (.i m) ⟨rfl, m1, m2⟩)
theorem RowOk.put {ks : List Bool} {r : Row} (h : RowOk ks r) {k : Nat} {w : Bool} {v : Val} (hk : ks[k]? = some w) (hv : ValOk w v) : RowOk ks (r.set k v) := ⟨by rw [List.length_set]; exact h.len, fun j w' v' h1 h2 => by
  rcases set_get h2 with ⟨rfl, rfl⟩ | ⟨_, h2⟩
  · rw [hk] at h1; cases h1; exact hv
  · exact h.val j w' v' h1 h2⟩
theorem row_at {ks : List Bool} {r : Row} (h : RowOk ks r) {k : Nat} (hk : k < ks.length) : ∃ w v, ks[k]? = some w ∧ r[k]? = some v ∧ ValOk w v := by
  have h2 : k < r.length := by rw [h.len]; exact hk
  exact ⟨_, _, List.getElem?_eq_getElem hk, List.getElem?_eq_getElem h2, h.val k _ _ (List.getElem?_eq_getElem hk) (List.getElem?_eq_getElem h2)⟩
theorem rowD_at {r : Row} {k : Nat} {v : Val} (h : r[k]? = some v) : atI (r.map Val.dt) ((k : Nat) : Int) = some v.dt := atI_nat (by rw [List.getElem?_map, h]; rfl)
theorem last_at {rs : List Row} (h : rs ≠ []) : ∃ r, r ∈ rs ∧ atI (rs.map rowD) (-1) = some (rowD r) := by
  obtain ⟨a, r, rfl⟩ : ∃ a r, rs = a ++ [r] := ⟨_, _, (List.dropLast_concat_getLast h).symm⟩
  refine ⟨r, by simp, ?_⟩
  unfold atI ixN
  simp
  rw [if_pos (by omega)]
  show (List.map rowD a ++ [rowD r])[(-1 + ((a.length : Int) + 1)).toNat]? = _
  rw [show (-1 + ((a.length : Int) + 1)).toNat = (a.map rowD).length by rw [List.length_map]; omega, List.getElem?_append_right (Nat.le_refl _), Nat.sub_self]
  rfl
theorem rows_sh {ks : List Bool} {rs : List Row} (h : ∀ r ∈ rs, RowOk ks r) : ∀ d ∈ rs.map rowD, Sh 1 d := fun d hd => by
  obtain ⟨r, hr, rfl⟩ := List.mem_map.mp hd
  refine .tup fun e he => ?_
  obtain ⟨v, hv, rfl⟩ := List.mem_map.mp he
  obtain ⟨k, hk⟩ := List.getElem?_of_mem hv
  have hlt : k < ks.length := by rw [← (h r hr).len]; exact (List.getElem?_eq_some_iff.mp hk).1
  have := (h r hr).val k _ v (List.getElem?_eq_getElem hlt) hk
  cases v with
  | i n => exact .int n
  | s x => exact .str (word_str this.2)
theorem map_snoc {α β : Type} (f : α → β) (l : List α) (x : α) : l.map f ++ [f x] = (l ++ [x]).map f := by rw [List.map_append]; rfl
theorem set_map {α β : Type} (f : α → β) (l : List α) (k : Nat) (x : α) : (l.map f).set k (f x) = (l.set k x).map f := List.map_set.symm
def S__law_rows (ds : List Dt) (Q : List Dt → Prop) : Prop := ∃ (ks : List Bool) (m : Int), ds = [kindsD ks, .int m] ∧ KindsOk ks ∧ 1 ≤ m ∧ m ≤ 32 ∧ ∀ rs : List Row, 1 ≤ rs.length → (rs.length : Int) ≤ m → (∀ r ∈ rs, RowOk ks r) → Q (rs.map rowD)
abbrev sp__law_rows (K : PySem.W.Frag) : Sp := spBN K S__law_rows
theorem ok__law_rows {P : Program} {w : World} {K : PySem.W.Frag} {mg : Str → Option Value} {base : Heap} (T : Txt w K mg) (c__law_take : Cal P w K mg base 1 "_law_take" (sp__law_take K) []) (c__law_value : Cal P w K mg base 3 "_law_value" (sp__law_value K) []) : Cal P w K mg base 4 "_law_rows" (sp__law_rows K) [] := by
  refine cal_boxN T.f__law_rows sc__law_rows (fun z => nomatch z) ?len fun f cdv A outer s H E hr => ⟨_, (pss_cons (ps_set (i := 3) sc__law_rows.nd rfl (Or.inl rfl) (pe_lst pa_nil))
      (pss_cons (ps_set (i := 4) sc__law_rows.nd rfl (Or.inl rfl) (pe_op op_addU pe_int (pe_c c__law_take hr (by decide) (by rfl) (pa_cons (pv 0) (pa_cons pe_int pa_nil)))))
      (pss_cons (ps_for PassesOwn.never rfl (pi_range1 (by rfl) T.b_range (pa_cons (pe_op op_addU pe_int (pe_c c__law_take hr (by decide) (by rfl) (pa_cons (pv 0) (pa_cons (pv 2) pa_nil)))) pa_nil)) (pg_name (i := 5) sc__law_rows.nd rfl (Or.inl rfl)) (pss_cons (ps_setLc (i := 6) rfl sc__law_rows.nd rfl rfl (sw_true rfl rfl rfl (by decide +kernel)) (g := (gName 8)) (tt := tYes) (te := (tCall (sp__law_value K) [] E0 (tCons (tVar 0) (tCons (tVar 8) tNil)))) (own := [("_law_kind", 8)]) (pi_tup (pv 1)) (blkOk_by (N := ["_law_box", "_law_kinds_here", "_law_most", "_law_found", "_law_often", "_law_turn", "_law_row", "_law_k", "_law_kind"]) (sc := defScope s__law_rows) (by decide +kernel)) (fun _ _ _ _ _ => (pg_name (i := 8) sc__law_rows.nd rfl (Or.inl rfl))) (fun _ _ _ _ _ => pts_nil) (fun _ _ _ _ _ => (pe_c c__law_value hr (by decide) (by rfl) (pa_cons (pv 0) (pa_cons (pv 8) pa_nil)))))
      (pss_cons (ps_for PassesOwn.never rfl (pi_range1 (by rfl) T.b_range (pa_cons (pe_callB cl_len (by rfl) T.b_len PySem.boot_len (pa_cons (pv 1) pa_nil)) pa_nil)) (pg_name (i := 7) sc__law_rows.nd rfl (Or.inl rfl)) (Evl.pss_cut (ps_if ((pw_and (pt_cmpR (op_neU hr.units) (pv 3) (pe_lst pa_nil) (nomark _)) (pw_and1 (pt_cmpR op_gtU (pe_c c__law_take hr (by decide) (by rfl) (pa_cons (pv 0) (pa_cons (pe_op op_addU (pv 4) pe_int) pa_nil))) pe_int (nomark _))))).pt (pss_one (ps_asg (pe_ix ix_seq (pe_ix ix_seq (pv 3) (pe_un un_neg pe_int) (fun _ _ => rfl)) (pv 7) (fun _ _ => rfl)) (pg_sub (pv 6) (pv 7) set_list))) pss_nil)
      (pss_one (ps_if ((pw_and (pt_cmpR (op_eqU hr.units) (pe_ix ix_seq (pv 1) (pv 7) (fun _ _ => rfl)) pe_str (nomark _)) (pw_and (pt_cmpR (op_neU hr.units) (pv 3) (pe_lst pa_nil) (nomark _)) (pw_and1 (pt_cmpR (op_eqU hr.units) (pe_c c__law_take hr (by decide) (by rfl) (pa_cons (pv 0) (pa_cons pe_int pa_nil))) pe_int (nomark _)))))).pt (pss_one (ps_asg (pe_callB (cl_max2 rfl) (by rfl) T.b_max (by decide +kernel) (pa_cons (pe_un un_neg pe_int) (pa_cons (pe_callB (cl_min2 rfl) (by rfl) T.b_min (by decide +kernel) (pa_cons pe_int (pa_cons (pe_op op_addU (pe_op op_addU (pe_ix ix_seq (pe_ix ix_seq (pv 3) (pe_un un_neg pe_int) (fun _ _ => rfl)) (pv 7) (fun _ _ => rfl)) pe_int) (pe_c c__law_take hr (by decide) (by rfl) (pa_cons (pv 0) (pa_cons pe_int pa_nil)))) pa_nil))) pa_nil))) (pg_sub (pv 6) (pv 7) set_list))) pss_nil))))
      (pss_one (ps_expr (pe_bm PySem.F.plainAttrs_list PySem.F.slot_list_append PySem.F.type_list_append mt_append (pv 3) (pa_cons (pe_callTy cl_tuple (by rfl) T.b_tuple (by decide +kernel) (pa_cons (pv 6) pa_nil)) pa_nil)))))))
      (pss_one (ps_ret (pv 3)))))), ?body⟩
  case' body => try dsimp only [cxD, cxOf]
  case len => rintro ds Q ⟨ks, m, rfl, _⟩; rfl
  case body =>
    rintro ds Q ⟨ks, m, rfl, hk, m1, m2, hq⟩ b l hne hid H0 D dom hD
    show NJ _ _ _ _ [.rw (.ref b), .im (.tup (ks.map fun w => .str (kindS w))), .im (.int m), .un, .un, .un, .un, .un, .un]
    have hk1 := hk.pos
    have hk2 := hk.le
    refine q_asgN (en_lst ?_)
    walk_at "box"
    walk_at "nm"
    refine q_asg ?_
    walk_at "box"
    refine take_j (by omega) (by omega) fun o o0 o1 => ?_
    walk_at "box"
    walk_at "nm"
    refine nj_for (ij_rng1 ?_)
    walk_at "box"
    refine take_j (by omega) (by omega) fun n n0 n1 => ?_
    walk_at "box"
    let pre : List Sl := [.rw (.ref b), .im (.tup (ks.map fun w => .str (kindS w))), .im (.int m)]
    refine ⟨_, rfl, by omega, by omega, fun i ρ' => ∃ rs : List Row, rs.length = i ∧ (∀ r ∈ rs, RowOk ks r) ∧ ρ' = [.rw (.ref b), .im (.tup (ks.map fun w => .str (kindS w))), .im (.int m), .ac (rs.map rowD), .im (.int (1 + o)), .un, .un, .un, .un], ⟨[], rfl, fun r h => (by cases h), rfl⟩, ?_, ?_⟩
    · rintro H1 e1 i d ρ' hi ⟨rs, hl, hr, rfl⟩
      obtain ⟨hi2, rfl⟩ := rangeD_at hi
      refine tg_name ?_
      walk_at "nm"
      rw [Int.zero_add]
      refine q_asgN (en_lc (ij_tup ?_))
      walk_at "box"
      refine ⟨by rw [List.length_map]; omega, fun i ys => ∃ vs : Row, ys = vs.map Val.dt ∧ vs.length = i ∧ ∀ (k : Nat) (w : Bool) (v : Val), ks[k]? = some w → vs[k]? = some v → ValOk w v, ⟨[], rfl, rfl, fun k w v _ h => nomatch h⟩, ?_, ?_⟩
      · rintro j d acc hj ⟨vs, rfl, rfl, hv⟩
        rw [List.getElem?_map] at hj
        obtain ⟨w, hw, rfl⟩ := Option.map_eq_some_iff.mp hj
        refine tge_name (by decide) (et_yes ⟨fun _ => ?_, fun z => nomatch z⟩)
        walk_at "nm"
        walk_at "box"
        refine ⟨w, rfl, fun v hvo => ⟨vs ++ [v], map_snoc _ _ _, by rw [List.length_append]; rfl, fun k w' v' h1 h2 => ?_⟩⟩
        by_cases hk : k < vs.length
        · rw [List.getElem?_append_left hk] at h2
          exact hv k w' v' h1 h2
        · have : k = vs.length := by
            have := (List.getElem?_eq_some_iff.mp h2).1
            rw [List.length_append] at this
            simp at this
            omega
          subst this
          rw [hw] at h1; cases h1
          rw [List.getElem?_append_right (Nat.le_refl _), Nat.sub_self] at h2
          cases h2
          exact hvo
      rintro acc ⟨vs, rfl, hvl, hv⟩
      rw [List.length_map] at hvl
      have hvs : RowOk ks vs := ⟨hvl, hv⟩
      clear hvl hv
      walk_at "nm"
      refine q_for (ij_rng1 ?_)
      walk_at "box"
      refine ⟨_, rfl, by rw [List.length_map]; omega, by omega, fun j ρ' => ∃ vs : Row, RowOk ks vs ∧ ρ' = [.rw (.ref b), .im (.tup (ks.map fun w => .str (kindS w))), .im (.int m), .ac (rs.map rowD), .im (.int (1 + o)), .im (.int (i : Nat)), .ac (vs.map Val.dt), .un, .un], ⟨vs, hvs, rfl⟩, ?_, ?_⟩
      · rintro H2 e2 k d ρ' hk ⟨vs, hvs, rfl⟩
        obtain ⟨hk3, rfl⟩ := rangeD_at hk
        rw [List.length_map, Int.toNat_natCast] at hk3
        obtain ⟨w, _, hw, _, _⟩ := row_at hvs hk3
        refine tg_name ?_
        walk_at "nm"
        rw [Int.zero_add]
        have nk : atI (ks.map fun w => Dt.str (kindS w)) ((k : Nat) : Int) = some (.str (kindS w)) := kinds_at hw
        have ixk : ∀ vs : Row, RowOk ks vs → ixN (vs.map Val.dt).length ((k : Nat) : Int) = some k := fun vs h => by
          rw [List.length_map, h.len]
          unfold ixN
          simp
          omega
        refine q_cut (fun ρ' => ∃ vs : Row, RowOk ks vs ∧ ρ' = [.rw (.ref b), .im (.tup (ks.map fun w => .str (kindS w))), .im (.int m), .ac (rs.map rowD), .im (.int (1 + o)), .im (.int (i : Nat)), .ac (vs.map Val.dt), .im (.int (k : Nat)), .un]) ?_ ?_
        · refine nj_when (etj_peek (i := 3) rfl ?_)
          walk_at "nm"
          walk_at "box"
          refine ne_nil (n := 1) (rows_sh hr) (by decide) ?_
          by_cases hn : rs = []
          · refine bl_no (by rw [hn]; rfl) (bl_no rfl ?_)
            exact nj_nx ⟨vs, hvs, rfl⟩
          · refine bl_yes (by cases rs with | nil => exact absurd rfl hn | cons => rfl) ?_
            obtain ⟨r, hrm, hra⟩ := last_at hn
            obtain ⟨_, v, hw2, hv, hvo⟩ := row_at (hr r hrm) hk3
            rw [hw] at hw2; cases hw2
            walk_at "box"
            refine take_j (by omega) (by omega) fun z z0 z1 => ?_
            walk_at "box"
            refine bl_two (fun hc => ?_) (fun hc => ?_)
            · refine nj_setL (i := 6) rfl ?_
              walk_at "box"
              refine ⟨_, hra, ?_⟩
              walk_at "box"
              refine ix_t (rowD_at hv) ?_
              walk_at "box"
              refine ⟨k, ixk vs hvs, ?_⟩
              walk_at "nm"
              rw [set_map]
              exact nj_nx ⟨_, hvs.put hw hvo, rfl⟩
            · exact nj_nx ⟨vs, hvs, rfl⟩
        · rintro ρ' ⟨vs, hvs, rfl⟩
          refine nj_when (etj_peek (i := 3) rfl ?_)
          walk_at "nm"
          walk_at "box"
          refine ix_t nk ?_
          walk_at "box"
          cases w with
          | true =>
            refine bl_no (by decide) (bl_no rfl ?_)
            exact nj_nxw _ ⟨vs, hvs, rfl⟩ (by walk_at "le")
          | false =>
            refine bl_yes (by decide) ?_
            walk_at "box"
            refine ne_nil (n := 1) (rows_sh hr) (by decide) ?_
            by_cases hn : rs = []
            · refine bl_no (by rw [hn]; rfl) (bl_no rfl ?_)
              exact nj_nxw _ ⟨vs, hvs, rfl⟩ (by walk_at "le")
            · refine bl_yes (by cases rs with | nil => exact absurd rfl hn | cons => rfl) ?_
              obtain ⟨r, hrm, hra⟩ := last_at hn
              obtain ⟨_, v, hw2, hv, hvo⟩ := row_at (hr r hrm) hk3
              rw [hw] at hw2; cases hw2
              cases v with
              | s x => exact absurd hvo.1 (by decide)
              | i y =>
              walk_at "box"
              refine take_j (by omega) (by omega) fun z z0 z1 => ?_
              walk_at "box"
              refine bl_two (fun hc => ?_) (fun hc => ?_)
              · refine nj_setL (i := 6) rfl ?_
                walk_at "box"
                refine ⟨_, hra, ?_⟩
                walk_at "box"
                refine ix_t (d := .int y) (rowD_at hv) ?_
                walk_at "box"
                refine take_j (by omega) (by omega) fun z z0 z1 => ?_
                walk_at "box"
                refine ⟨k, ixk vs hvs, ?_⟩
                walk_at "nm"
                refine nj_nxw _ ⟨vs.set k (.i (if (if y + 1 + z < 9999 then y + 1 + z else 9999) > -9999 then (if y + 1 + z < 9999 then y + 1 + z else 9999) else -9999)), hvs.put hw ⟨rfl, by (repeat' split) <;> omega, by (repeat' split) <;> omega⟩, rfl⟩ ?_
                rw [← set_map]
                walk_at "le"
              · exact nj_nxw _ ⟨vs, hvs, rfl⟩ (by walk_at "le")
      · rintro ρ' ⟨vs, hvs, rfl⟩
        refine nj_share (i := 6) rfl ?_
        walk_at "nm"
        refine nj_app rfl (by rw [List.length_map]; omega) ?_
        walk_at "box"
        walk_at "nm"
        refine nj_nxw _ ⟨rs ++ [vs], by rw [List.length_append]; simp; omega, fun r hr2 => ?_, rfl⟩ ?_
        · rcases List.mem_append.mp hr2 with q | q
          · exact hr r q
          · cases List.mem_singleton.mp q; exact hvs
        · rw [← map_snoc]
          walk_at "le"
    · rintro ρ' ⟨rs, hl, hr, rfl⟩
      rw [rangeD_len] at hl
      exact nj_retAc (i := 3) rfl (hD.rt _ (hq rs (by omega) (by omega) hr))
def S__law_near (ds : List Dt) (Q : Dt → Prop) : Prop := ∃ (ks : List Bool) (rs : List Row) (k : Nat) (w : Bool), ds = [kindsD ks, .lst (rs.map rowD), .int (k : Nat)] ∧ (∀ r ∈ rs, RowOk ks r) ∧ rs.length ≤ 100000 ∧ ks[k]? = some w ∧ ∀ v, ValOk w v → Q v.dt
abbrev sp__law_near (K : PySem.W.Frag) : Sp := spB K S__law_near
theorem ok__law_near {P : Program} {w : World} {K : PySem.W.Frag} {mg : Str → Option Value} {base : Heap} (T : Txt w K mg) (c__law_take : Cal P w K mg base 1 "_law_take" (sp__law_take K) []) (c__law_value : Cal P w K mg base 3 "_law_value" (sp__law_value K) []) : Cal P w K mg base 4 "_law_near" (sp__law_near K) [] := by
  refine cal_box T.f__law_near sc__law_near (fun z => nomatch z) ?len fun f cdv A outer s H E hr => ⟨_, (pss_cons (ps_if ((pw_and (pt_cmpR (op_neU hr.units) (pv 2) (pe_lst pa_nil) (nomark _)) (pw_and1 (pt_cmpR op_gtU (pe_c c__law_take hr (by decide) (by rfl) (pa_cons (pv 0) (pa_cons pe_int pa_nil))) pe_int (nomark _))))).pt (pss_one (ps_ret (pe_ix ix_seq (pe_ix ix_seq (pv 2) (pe_c c__law_take hr (by decide) (by rfl) (pa_cons (pv 0) (pa_cons (pe_callB cl_len (by rfl) T.b_len PySem.boot_len (pa_cons (pv 2) pa_nil)) pa_nil))) (fun _ _ => rfl)) (pv 3) (fun _ _ => rfl)))) pss_nil)
      (pss_one (ps_ret (pe_c c__law_value hr (by decide) (by rfl) (pa_cons (pv 0) (pa_cons (pe_ix ix_seq (pv 1) (pv 3) (fun _ _ => rfl)) pa_nil)))))), ?body⟩
  case' body => try dsimp only [cxD, cxOf]
  case len => rintro ds Q ⟨ks, rs, k, w, rfl, _⟩; rfl
  case body =>
    rintro ds Q ⟨ks, rs, k, w, rfl, hr, hl, hk, hq⟩ b l hne hid H0 D dom hD
    show NJ _ _ _ _ [.rw (.ref b), .im (.tup (ks.map fun w => .str (kindS w))), .im (.lst (rs.map rowD)), .im (.int (k : Nat))]
    have rest : NJ (cnB K b l) hid H0 (tRet (tCall (sp__law_value K) [] E0 (tCons (tVar 0) (tCons (tOp (rIx K) (tVar 1) (tVar 3)) tNil))) D) [.rw (.ref b), .im (.tup (ks.map fun w => .str (kindS w))), .im (.lst (rs.map rowD)), .im (.int (k : Nat))] := by
      refine nj_ret ?_
      walk_at "box"
      refine ix_t (kinds_at hk) ?_
      walk_at "box"
      exact ⟨w, rfl, fun v hv => hD.rt _ (hq v hv)⟩
    refine q_when ?_
    walk_at "box"
    refine ne_nil (n := 1) (rows_sh hr) (by decide) ?_
    by_cases hn : rs = []
    · exact bl_no (by rw [hn]; rfl) (bl_no rfl rest)
    · refine bl_yes (by cases rs with | nil => exact absurd rfl hn | cons => rfl) ?_
      walk_at "box"
      refine take_j (by omega) (by omega) fun z z0 z1 => ?_
      walk_at "box"
      refine bl_two (fun hc => ?_) (fun hc => rest)
      refine nj_ret ?_
      walk_at "box"
      rw [List.length_map]
      have h0 : 0 < rs.length := List.length_pos_iff.mpr hn
      refine take_j (by omega) (by omega) fun j j0 j1 => ?_
      obtain ⟨j, rfl⟩ : ∃ n : Nat, j = (n : Nat) := ⟨j.toNat, by omega⟩
      have hj : j < rs.length := by omega
      have hrj := hr rs[j] (List.getElem_mem hj)
      have hkk : k < ks.length := (List.getElem?_eq_some_iff.mp hk).1
      obtain ⟨w2, v, hw2, hv, hvo⟩ := row_at hrj hkk
      rw [hk] at hw2; cases hw2
      refine ix_l (d := rowD rs[j]) (atI_nat (by rw [List.getElem?_map, List.getElem?_eq_getElem hj]; rfl)) ?_
      walk_at "box"
      refine ix_t (rowD_at hv) ?_
      exact hD.rt _ (hq v hvo)
def Leaf (c : Cd) : Prop := c.count = 1 ∧ c.deep = 0
def S__law_test (ds : List Dt) (Q : Dt → Prop) : Prop := ∃ (ks : List Bool) (rs : List Row), ds = [kindsD ks, .lst (rs.map rowD)] ∧ KindsOk ks ∧ (∀ r ∈ rs, RowOk ks r) ∧ rs.length ≤ 100000 ∧ ∀ c : Cd, c.Fits ks → Leaf c → Q c.dt
abbrev sp__law_test (K : PySem.W.Frag) : Sp := spB K S__law_test
theorem ok__law_test {P : Program} {w : World} {K : PySem.W.Frag} {mg : Str → Option Value} {base : Heap} (T : Txt w K mg) (c__law_take : Cal P w K mg base 1 "_law_take" (sp__law_take K) []) (c__law_near : Cal P w K mg base 4 "_law_near" (sp__law_near K) []) : Cal P w K mg base 5 "_law_test" (sp__law_test K) [] := by
  refine cal_box T.f__law_test sc__law_test (fun z => nomatch z) ?len fun f cdv A outer s H E hr => ⟨_, (pss_cons (ps_set (i := 3) sc__law_test.nd rfl (Or.inl rfl) (pe_c c__law_take hr (by decide) (by rfl) (pa_cons (pv 0) (pa_cons (pe_callB cl_len (by rfl) T.b_len PySem.boot_len (pa_cons (pv 1) pa_nil)) pa_nil))))
      (pss_cons (ps_set (i := 4) sc__law_test.nd rfl (Or.inl rfl) (pe_c c__law_near hr (by decide) (by rfl) (pa_cons (pv 0) (pa_cons (pv 1) (pa_cons (pv 2) (pa_cons (pv 3) pa_nil))))))
      (pss_cons (ps_set (i := 5) sc__law_test.nd rfl (Or.inl rfl) (pe_c c__law_take hr (by decide) (by rfl) (pa_cons (pv 0) (pa_cons pe_int pa_nil))))
      (pss_cons (ps_if (pt_cmpR (op_eqU hr.units) (pv 5) pe_int (nomark _)) (pss_one (ps_ret (pe_tup (pa_cons pe_str pa_nil)))) pss_nil)
      (pss_cons (ps_if ((pw_and (pt_cmpR (op_eqU hr.units) (pv 5) pe_int (nomark _)) (pw_and1 (pt_cmpR (op_eqU hr.units) (pe_ix ix_seq (pv 1) (pv 3) (fun _ _ => rfl)) pe_str (nomark _))))).pt (pss_one (ps_ret (pe_tup (pa_cons pe_str (pa_cons (pv 3) (pa_cons (pe_slice sl_str (pv 4) po_none (po_some (pe_c c__law_take hr (by decide) (by rfl) (pa_cons (pv 0) (pa_cons pe_int pa_nil))))) pa_nil)))))) pss_nil)
      (pss_cons (ps_if (pt_cmpR op_ltU (pv 5) pe_int (nomark _)) (pss_one (ps_ret (pe_tup (pa_cons pe_str (pa_cons (pv 3) (pa_cons (pv 4) pa_nil)))))) pss_nil)
      (pss_cons (ps_if (pt_cmpR op_ltU (pv 5) pe_int (nomark _)) (pss_one (ps_ret (pe_tup (pa_cons pe_str (pa_cons (pv 3) (pa_cons (pv 4) pa_nil)))))) pss_nil)
      (pss_one (ps_ret (pe_tup (pa_cons pe_str (pa_cons (pv 3) (pa_cons (pv 4) (pa_cons (pe_c c__law_near hr (by decide) (by rfl) (pa_cons (pv 0) (pa_cons (pv 1) (pa_cons (pv 2) (pa_cons (pv 3) pa_nil))))) pa_nil)))))))))))))), ?body⟩
  case' body => try dsimp only [cxD, cxOf]
  case len => rintro ds Q ⟨ks, rs, rfl, _⟩; rfl
  case body =>
    rintro ds Q ⟨ks, rs, rfl, hk, hr, hl, hq⟩ b l hne hid H0 D dom hD
    show NJ _ _ _ _ [.rw (.ref b), .im (.tup (ks.map fun w => .str (kindS w))), .im (.lst (rs.map rowD)), .un, .un, .un]
    have hk1 := hk.pos
    have hk2 := hk.le
    refine q_asg ?_
    walk_at "box"
    rw [List.length_map]
    refine take_j (by omega) (by omega) fun k k0 k1 => ?_
    obtain ⟨k, rfl⟩ : ∃ n : Nat, k = (n : Nat) := ⟨k.toNat, by omega⟩
    have hkk : k < ks.length := by omega
    have hw : ks[k]? = some ks[k] := List.getElem?_eq_getElem hkk
    generalize ks[k] = w at hw
    walk_at "nm"
    refine q_asg ?_
    walk_at "box"
    refine ⟨ks, rs, k, w, rfl, hr, hl, hw, fun v hv => ?_⟩
    walk_at "nm"
    refine q_asg ?_
    walk_at "box"
    refine take_j (by omega) (by omega) fun y y0 y1 => ?_
    walk_at "nm"
    refine q_when ?_
    walk_at "box"
    refine bl_two (fun hc => ?_) (fun h7 => ?_)
    · refine nj_ret ?_
      walk_at "box"
      exact hD.rt _ (hq .all trivial ⟨rfl, rfl⟩)
    have rest : NJ (cnB K b l) hid H0 (tSeq (tIfS (tTest (tOp rLtU (tVar 5) (tC (.int 3)))) (tRet (tTup (tCons (tC (.str "is")) (tCons (tVar 3) (tCons (tVar 4) tNil))))) tNext)
        (tSeq (tIfS (tTest (tOp rLtU (tVar 5) (tC (.int 5)))) (tRet (tTup (tCons (tC (.str "less")) (tCons (tVar 3) (tCons (tVar 4) tNil))))) tNext)
          (tRet (tTup (tCons (tC (.str "within")) (tCons (tVar 3) (tCons (tVar 4) (tCons (tCall (sp__law_near K) [] E0 (tCons (tVar 0) (tCons (tVar 1) (tCons (tVar 2) (tCons (tVar 3) tNil))))) tNil))))))) D)
        [.rw (.ref b), .im (.tup (ks.map fun w => .str (kindS w))), .im (.lst (rs.map rowD)), .im (.int (k : Nat)), .im v.dt, .im (.int y)] := by
      refine q_when ?_
      walk_at "box"
      refine bl_two (fun hc => ?_) (fun h3 => ?_)
      · refine nj_ret ?_
        walk_at "box"
        exact hD.rt _ (hq (.is k v) ⟨w, hw, hv⟩ ⟨rfl, rfl⟩)
      refine q_when ?_
      walk_at "box"
      refine bl_two (fun hc => ?_) (fun h3 => ?_)
      · refine nj_ret ?_
        walk_at "box"
        exact hD.rt _ (hq (.less k v) ⟨w, hw, hv⟩ ⟨rfl, rfl⟩)
      refine nj_ret ?_
      walk_at "box"
      refine ⟨ks, rs, k, w, rfl, hr, hl, hw, fun u hu => ?_⟩
      walk_at "box"
      exact hD.rt _ (hq (.within k v u) ⟨w, hw, hv, hu⟩ ⟨rfl, rfl⟩)
    refine q_when ?_
    walk_at "box"
    refine bl_two (fun hc => ?_) (fun hc => bl_no rfl rest)
    walk_at "box"
    refine ix_t (kinds_at hw) ?_
    walk_at "box"
    cases w with
    | false => exact bl_no (by decide) rest
    | true =>
      refine bl_yes (by decide) ?_
      cases v with
      | i n => exact absurd hv.1 (by decide)
      | s x =>
        refine nj_ret ?_
        walk_at "box"
        refine strJ (x := x) ?_
        refine ⟨by have := hv.2.1; omega, ?_⟩
        walk_at "box"
        refine take_j (by omega) (by omega) fun z z0 z1 => ?_
        walk_at "box"
        exact hD.rt _ (hq (.begins k _) ⟨hw, word_cut hv.2⟩ ⟨rfl, rfl⟩)
def S__law_narrow (ds : List Dt) (Q : Dt → Prop) : Prop := ∃ (ks : List Bool) (rs : List Row), ds = [kindsD ks, .lst (rs.map rowD)] ∧ KindsOk ks ∧ (∀ r ∈ rs, RowOk ks r) ∧ rs.length ≤ 100000 ∧ ∀ c : Cd, c.Fits ks → c.count ≤ 15 → c.deep ≤ 7 → Q c.dt
abbrev sp__law_narrow (K : PySem.W.Frag) : Sp := spB K S__law_narrow
theorem ok__law_narrow {P : Program} {w : World} {K : PySem.W.Frag} {mg : Str → Option Value} {base : Heap} (T : Txt w K mg) (c__law_test : Cal P w K mg base 5 "_law_test" (sp__law_test K) []) (c__law_take : Cal P w K mg base 1 "_law_take" (sp__law_take K) []) : Cal P w K mg base 6 "_law_narrow" (sp__law_narrow K) [] := by
  refine cal_box T.f__law_narrow sc__law_narrow (fun z => nomatch z) ?len fun f cdv A outer s H E hr => ⟨_, (pss_cons (ps_set (i := 3) sc__law_narrow.nd rfl (Or.inl rfl) (pe_c c__law_test hr (by decide) (by rfl) (pa_cons (pv 0) (pa_cons (pv 1) (pa_cons (pv 2) pa_nil)))))
      (pss_cons (ps_for PassesOwn.never rfl (pi_range1 (by rfl) T.b_range (pa_cons (pe_op op_addU pe_int (pe_c c__law_take hr (by decide) (by rfl) (pa_cons (pv 0) (pa_cons pe_int pa_nil)))) pa_nil)) (pg_name (i := 4) sc__law_narrow.nd rfl (Or.inl rfl)) (pss_cons (ps_set (i := 5) sc__law_narrow.nd rfl (Or.inl rfl) (pe_c c__law_test hr (by decide) (by rfl) (pa_cons (pv 0) (pa_cons (pv 1) (pa_cons (pv 2) pa_nil)))))
      (pss_cons (ps_set (i := 6) sc__law_narrow.nd rfl (Or.inl rfl) (pe_lst (pa_cons (pe_tup (pa_cons pe_str (pa_cons (pv 3) pa_nil))) (pa_cons (pe_tup (pa_cons pe_str (pa_cons (pv 3) (pa_cons (pv 5) pa_nil)))) (pa_cons (pe_tup (pa_cons pe_str (pa_cons (pv 5) (pa_cons (pv 3) pa_nil)))) (pa_cons (pe_tup (pa_cons pe_str (pa_cons (pe_tup (pa_cons pe_str pa_nil)) (pa_cons (pv 3) pa_nil)))) pa_nil))))))
      (pss_one (ps_set (i := 3) sc__law_narrow.nd rfl (Or.inl rfl) (pe_ix ix_seq (pv 6) (pe_c c__law_take hr (by decide) (by rfl) (pa_cons (pv 0) (pa_cons pe_int pa_nil))) (fun _ _ => rfl)))))))
      (pss_one (ps_ret (pv 3))))), ?body⟩
  case' body => try dsimp only [cxD, cxOf]
  case len => rintro ds Q ⟨ks, rs, rfl, _⟩; rfl
  case body =>
    rintro ds Q ⟨ks, rs, rfl, hk, hr, hl, hq⟩ b l hne hid H0 D dom hD
    show NJ _ _ _ _ [.rw (.ref b), .im (kindsD ks), .im (.lst (rs.map rowD)), .un, .un, .un, .un]
    refine q_asg ?_
    walk_at "box"
    refine ⟨ks, rs, rfl, hk, hr, hl, fun c hc1 hc2 => ?_⟩
    walk_at "nm"
    refine q_for (ij_rng1 ?_)
    walk_at "box"
    refine take_j (by omega) (by omega) fun n n0 n1 => ?_
    walk_at "box"
    refine ⟨_, rfl, by omega, by omega, fun i ρ' => ∃ c : Cd, c.Fits ks ∧ c.count ≤ 1 + 2 * i ∧ c.deep ≤ i ∧ ρ' = [.rw (.ref b), .im (kindsD ks), .im (.lst (rs.map rowD)), .im c.dt, .un, .un, .un], ⟨c, hc1, by rw [hc2.1]; exact Nat.le_refl _, by rw [hc2.2]; exact Nat.le_refl _, rfl⟩, ?_, ?_⟩
    · rintro H1 e1 i d ρ' hi ⟨c, h1, h2, h3, rfl⟩
      refine tg_name ?_
      walk_at "nm"
      refine q_asg ?_
      walk_at "box"
      refine ⟨ks, rs, rfl, hk, hr, hl, fun o o1 o2 => ?_⟩
      obtain ⟨o2, o3⟩ := o2
      walk_at "nm"
      refine q_asg ?_
      walk_at "box"
      walk_at "nm"
      refine nj_asg ?_
      walk_at "box"
      refine take_j (by omega) (by omega) fun z z0 z1 => ?_
      have hz : ∃ c' : Cd, atI [Dt.tup [.str "not", c.dt], .tup [.str "and", c.dt, o.dt], .tup [.str "or", o.dt, c.dt], .tup [.str "and", .tup [.str "all"], c.dt]] z = some c'.dt ∧ c'.Fits ks ∧ c'.count ≤ 1 + 2 * (i + 1) ∧ c'.deep ≤ i + 1 := by
        rcases (by omega : z = 0 ∨ z = 1 ∨ z = 2 ∨ z = 3) with rfl | rfl | rfl | rfl
        · exact ⟨.no c, rfl, h1, by show 1 + c.count ≤ _; omega, by show 1 + c.deep ≤ _; omega⟩
        · exact ⟨.and c o, rfl, ⟨h1, o1⟩, by show 1 + c.count + o.count ≤ _; omega, by show 1 + max c.deep o.deep ≤ _; omega⟩
        · exact ⟨.or o c, rfl, ⟨o1, h1⟩, by show 1 + o.count + c.count ≤ _; omega, by show 1 + max o.deep c.deep ≤ _; omega⟩
        · exact ⟨.and .all c, rfl, ⟨trivial, h1⟩, by show 1 + 1 + c.count ≤ _; omega, by show 1 + max 0 c.deep ≤ _; omega⟩
      obtain ⟨c', hz, g1, g2, g3⟩ := hz
      refine ix_l hz ?_
      walk_at "nm"
      exact nj_nxw _ ⟨c', g1, g2, g3, rfl⟩ (by walk_at "le")
    · rintro ρ' ⟨c, h1, h2, h3, rfl⟩
      rw [rangeD_len] at h2 h3
      refine nj_ret ?_
      walk_at "box"
      exact hD.rt _ (hq c h1 (by omega) (by omega))
def dpB (d : Nat) : Nat := if d = 3 then 7 else d
def S__law_condition (n : Nat) (ds : List Dt) (Q : Dt → Prop) : Prop := ∃ (ks : List Bool) (rs : List Row) (d : Nat), ds = [kindsD ks, .lst (rs.map rowD), .int (d : Nat)] ∧ KindsOk ks ∧ (∀ r ∈ rs, RowOk ks r) ∧ rs.length ≤ 100000 ∧ d < n ∧ d ≤ 3 ∧ ∀ c : Cd, c.Fits ks → c.count < 2 ^ (d + 1) → c.deep ≤ dpB d → Q c.dt
abbrev sp__law_condition (n : Nat) (K : PySem.W.Frag) : Sp := spB K (S__law_condition n)
theorem ok__law_condition {P : Program} {w : World} {K : PySem.W.Frag} {mg : Str → Option Value} {base : Heap} (T : Txt w K mg) (c__law_take : Cal P w K mg base 1 "_law_take" (sp__law_take K) []) (c__law_narrow : Cal P w K mg base 6 "_law_narrow" (sp__law_narrow K) []) (c__law_test : Cal P w K mg base 5 "_law_test" (sp__law_test K) []) (n : Nat) : Cal P w K mg base (n + 8) "_law_condition" (sp__law_condition n K) [] := by
  induction n with
  | zero =>
    refine cal_box T.f__law_condition sc__law_condition (fun z => nomatch z) ?len fun f cdv A outer s H E hr => ⟨_, pss_never, ?body⟩
    case' body => try dsimp only [cxD, cxOf]
    case len => rintro ds Q ⟨b, _, _, rfl, _⟩; rfl
    case body =>
      rintro ds Q ⟨ks, rs, d, rfl, hk, hr, hl, hd, _⟩
      omega
  | succ n ih =>
    have c__law_condition := ih
    refine cal_box T.f__law_condition sc__law_condition (fun z => nomatch z) ?len fun f cdv A outer s H E hr => ⟨_, (pss_cons (ps_set (i := 4) sc__law_condition.nd rfl (Or.inl rfl) (pe_c c__law_take hr (by omega) (by rfl) (pa_cons (pv 0) (pa_cons pe_int pa_nil))))
      (Evl.pss_cut (ps_if ((pw_and (pt_cmpR (op_eqU hr.units) (pv 3) pe_int (nomark _)) (pw_and1 (pt_cmpR (op_eqU hr.units) (pv 4) pe_int (nomark _))))).pt (pss_one (ps_ret (pe_c c__law_narrow hr (by omega) (by rfl) (pa_cons (pv 0) (pa_cons (pv 1) (pa_cons (pv 2) pa_nil)))))) pss_nil)
      (Evl.pss_cut (ps_if ((pw_or (pt_cmpR (op_eqU hr.units) (pv 3) pe_int (nomark _)) (pw_or1 (pt_cmpR op_ltU (pv 4) pe_int (nomark _))))).pt (pss_one (ps_ret (pe_c c__law_test hr (by omega) (by rfl) (pa_cons (pv 0) (pa_cons (pv 1) (pa_cons (pv 2) pa_nil)))))) pss_nil)
      (Evl.pss_cut (ps_if (pt_cmpR (op_eqU hr.units) (pv 4) pe_int (nomark _)) (pss_one (ps_ret (pe_tup (pa_cons pe_str (pa_cons (pe_c c__law_condition hr (Nat.le_refl _) (by rfl) (pa_cons (pv 0) (pa_cons (pv 1) (pa_cons (pv 2) (pa_cons (pe_op op_subU (pv 3) pe_int) pa_nil))))) pa_nil))))) pss_nil)
      (pss_cons (ps_set (i := 5) sc__law_condition.nd rfl (Or.inl rfl) (pe_c c__law_condition hr (Nat.le_refl _) (by rfl) (pa_cons (pv 0) (pa_cons (pv 1) (pa_cons (pv 2) (pa_cons (pe_op op_subU (pv 3) pe_int) pa_nil))))))
      (pss_one (ps_ret (pe_tup (pa_cons (pe_ix ix_seq (pe_lst (pa_cons pe_str (pa_cons pe_str pa_nil))) (pe_op op_subU (pv 4) pe_int) (fun _ _ => rfl)) (pa_cons (pv 5) (pa_cons (pe_c c__law_condition hr (Nat.le_refl _) (by rfl) (pa_cons (pv 0) (pa_cons (pv 1) (pa_cons (pv 2) (pa_cons (pe_op op_subU (pv 3) pe_int) pa_nil))))) pa_nil))))))))))), ?body⟩
    case' body => try dsimp only [cxD, cxOf]
    case len => rintro ds Q ⟨b, _, _, rfl, _⟩; rfl
    case body =>
      rintro ds Q ⟨ks, rs, d, rfl, hk, hr, hl, hd, hd3, hq⟩ b l hne hid H0 D dom hD
      show NJ _ _ _ _ [.rw (.ref b), .im (kindsD ks), .im (.lst (rs.map rowD)), .im (.int (d : Nat)), .un, .un]
      have hpow : ∀ a b : Nat, ∀ e, d = e + 1 → a < 2 ^ (e + 1) → b < 2 ^ (e + 1) → 1 + a + b < 2 ^ (d + 1) := fun a b e h1 h2 h3 => by
        subst h1
        rw [Nat.pow_succ 2 (e + 1)]; omega
      have hdp : ∀ e, d = e + 1 → dpB e = e ∧ 1 + e ≤ dpB d := fun e h => by
        unfold dpB
        rw [if_neg (by omega)]
        refine ⟨rfl, ?_⟩
        split <;> omega
      refine q_asg ?_
      walk_at "box"
      refine take_j (by omega) (by omega) fun y y0 y1 => ?_
      walk_at "nm"
      let ρ1 : List Sl := [.rw (.ref b), .im (kindsD ks), .im (.lst (rs.map rowD)), .im (.int (d : Nat)), .im (.int y), .un]
      refine q_cut1 ρ1 ?_ ?_
      · refine nj_when ?_
        walk_at "box"
        refine bl_two (fun h3 => ?_) (fun h3 => bl_no rfl (nj_nx rfl))
        walk_at "box"
        refine bl_two (fun h5 => ?_) (fun h3 => nj_nx rfl)
        have h3 : d = 3 := by omega
        subst h3
        refine nj_ret ?_
        walk_at "box"
        exact ⟨ks, rs, rfl, hk, hr, hl, fun c h1 h2 h3 => hD.rt _ (hq c h1 (by show c.count < 16; omega) h3)⟩
      refine q_cut (fun r => r = ρ1 ∧ d ≠ 0 ∧ 3 ≤ y) ?_ ?_
      · refine nj_when ?_
        walk_at "box"
        have hlf : ∀ D' : Ends, D'.rt = D.rt → NJ (cnB K b l) hid H0 (tRet (tCall (sp__law_test K) [] C8.E0 (tCons (tVar 0) (tCons (tVar 1) (tCons (tVar 2) tNil)))) D') ρ1 := fun D' hD' => by
          refine nj_ret ?_
          rw [hD']
          walk_at "box"
          refine ⟨ks, rs, rfl, hk, hr, hl, fun c h1 h2 => hD.rt _ (hq c h1 ?_ (by rw [h2.2]; exact Nat.zero_le _))⟩
          rw [h2.1, Nat.pow_succ]
          have : 0 < 2 ^ d := Nat.pow_pos (by decide)
          omega
        by_cases h0 : d = 0
        · refine or_yes (decide_eq_true (by omega)) (bl_yes rfl ?_)
          exact hlf _ rfl
        refine or_no (decide_eq_false (by omega)) ?_
        walk_at "box"
        refine bl_two (fun h3 => hlf _ rfl) (fun h3 => ?_)
        exact nj_nx ⟨rfl, h0, by omega⟩
      rintro _ ⟨rfl, h0, hy⟩
      obtain ⟨e, rfl⟩ : ∃ e, d = e + 1 := ⟨d - 1, by omega⟩
      obtain ⟨g1, g2⟩ := hdp e rfl
      have esub : (((e + 1 : Nat) : Int) - 1) = ((e : Nat) : Int) := by omega
      refine q_cut (fun r => r = ρ1 ∧ y ≠ 3) ?_ ?_
      · refine nj_when ?_
        walk_at "box"
        refine bl_two (fun h3 => ?_) (fun h3 => nj_nx ⟨rfl, h3⟩)
        refine nj_ret ?_
        walk_at "box"
        rw [esub]
        refine ⟨ks, rs, e, rfl, hk, hr, hl, by omega, by omega, fun c h1 h2 h3 => ?_⟩
        walk_at "box"
        rw [g1] at h3
        refine hD.rt _ (hq (.no c) h1 ?_ (by show 1 + c.deep ≤ _; omega))
        have := hpow c.count 0 e rfl h2 (Nat.pow_pos (by decide))
        show 1 + c.count < _
        omega
      rintro _ ⟨rfl, hy3⟩
      refine q_asg ?_
      walk_at "box"
      rw [esub]
      refine ⟨ks, rs, e, rfl, hk, hr, hl, by omega, by omega, fun c h1 h2 h3 => ?_⟩
      rw [g1] at h3
      walk_at "nm"
      refine nj_ret ?_
      walk_at "box"
      have hz : ∃ z : Bool, atI [Dt.str "and", Dt.str "or"] (y - 4) = some (.str (if z = true then "and" else "or")) := by
        rcases (by omega : y = 4 ∨ y = 5) with rfl | rfl
        · exact ⟨true, rfl⟩
        · exact ⟨false, rfl⟩
      obtain ⟨z, hz⟩ := hz
      refine ix_l hz ?_
      walk_at "box"
      rw [esub]
      refine ⟨ks, rs, e, rfl, hk, hr, hl, by omega, by omega, fun o o1 o2 o3 => ?_⟩
      rw [g1] at o3
      walk_at "box"
      have hp := hpow c.count o.count e rfl h2 o2
      cases z with
      | true => exact hD.rt _ (hq (.and c o) ⟨h1, o1⟩ hp (by show 1 + max c.deep o.deep ≤ _; omega))
      | false => exact hD.rt _ (hq (.or c o) ⟨h1, o1⟩ hp (by show 1 + max c.deep o.deep ≤ _; omega))
end
section
open PySem PySem.Spec PyProof.Rows L2
theorem take_at {α : Type} {l : List α} {i : Nat} {x : α} (h : l[i]? = some x) : l.take (i + 1) = l.take i ++ [x] := by
  rw [List.take_succ, h]; rfl
end
local macro_rules | `(tactic| walk_at "hp") => `(tactic| (first
  | with_reducible refine len_kinds ?_
  | with_reducible refine hpf_gone (by assumption) (ev_var rfl rfl) ?_
  | with_reducible refine hpf_many (by assumption) (ev_var rfl rfl) ?_
  | with_reducible refine hpf_kinds (by assumption) (ev_var rfl rfl) ?_
  | with_reducible refine hpf_forms (by assumption) (ev_var rfl rfl) ?_
  | with_reducible refine hpf_lists (by assumption) (ev_var rfl rfl) ?_
  | with_reducible refine hpf_numbers (by assumption) (ev_var rfl rfl) ?_))
local macro_rules | `(tactic| walk_at "gh") => `(tactic| (repeat (first
  | walk_at "hp"
  | walk_at "ev")))
section
open PySem.NumText (AllDigits digitsVal)
theorem str_cons_ofString (t : String) : (Str.ofString ("-" ++ t)).cps.toList = 45 :: (Str.ofString t).cps.toList := by
  rw [Str.ofString_eq_toList, Str.ofString_eq_toList]
  show ("-" ++ t).toList.map Char.toNat = 45 :: t.toList.map Char.toNat
  rw [String.toList_append]; rfl
theorem numS_nat (m : Nat) : (numS ((m : Nat) : Int)).cps.toList = TL.numL m := TL.tl_num m
theorem numS_neg (m : Nat) : (numS (Int.negSucc m)).cps.toList = 45 :: TL.numL (m + 1) := by
  have h := str_cons_ofString (Nat.repr (m + 1))
  have e : (Str.ofString (Nat.repr (m + 1))).cps.toList = TL.numL (m + 1) := TL.tl_num (m + 1)
  rw [e] at h
  exact h
theorem numS_cases {n : Int} (h0 : -9999 ≤ n) (h1 : n ≤ 9999) : (∃ m : Nat, n = (m : Nat) ∧ m < 10 ^ 4 ∧ (numS n).cps.toList = TL.numL m) ∨ ∃ m : Nat, n = -((m : Nat) : Int) ∧ 0 < m ∧ m < 10 ^ 4 ∧ (numS n).cps.toList = 45 :: TL.numL m := by
  cases n with
  | ofNat m => exact .inl ⟨m, rfl, by have : ((m : Nat) : Int) ≤ 9999 := h1; omega, numS_nat m⟩
  | negSucc m => exact .inr ⟨m + 1, by omega, by omega, by omega, numS_neg m⟩
def valS : Val → Str
  | .i n => numS n
  | .s x => "=" ++ x
def cdW : Cd → List Str
  | .all => ["all"]
  | .no c => "not" :: cdW c
  | .and a b => "and" :: (cdW a ++ cdW b)
  | .or a b => "or" :: (cdW a ++ cdW b)
  | .is k v => ["is", numS ((k : Nat) : Int), valS v]
  | .less k v => ["less", numS ((k : Nat) : Int), valS v]
  | .within k v u => ["within", numS ((k : Nat) : Int), valS v, valS u]
  | .begins k x => ["begins", numS ((k : Nat) : Int), "=" ++ x]
def ptW : Pt → List Str
  | .qq c => cdW c
  | .cc k => [numS ((k : Nat) : Int)]
  | .vv v => [valS v]
  | .tt x => ["=" ++ x]
theorem cdW_pts (c : Cd) : cdW c = c.word :: c.pts.flatMap ptW := by cases c <;> simp [cdW, Cd.word, Cd.pts, ptW]
theorem pt_isval {ks : List Bool} {ps : List Pt} {p : Pt} (hk : KindsOk ks) (h : PtOk ks ps p) : ∃ v w, ValOk w v ∧ p.dt = v.dt ∧ ptW p = [valS v] := by
  cases p with
  | qq c => exact h.elim
  | cc k =>
    have h : k < ks.length := h
    have := hk.le
    exact ⟨.i (k : Nat), false, ⟨rfl, by omega, by omega⟩, rfl, rfl⟩
  | vv v => obtain ⟨k, w, _, _, hv⟩ := h; exact ⟨v, w, hv, rfl, rfl⟩
  | tt x => obtain ⟨k, _, _, hv⟩ := h; exact ⟨.s x, true, ⟨rfl, hv⟩, rfl, rfl⟩
theorem eq_app (x : Str) : ("=" ++ x : Str).cps.toList = 61 :: x.cps.toList := by
  show (("=" : Str).cps ++ x.cps).toList = _
  rw [Array.toList_append]; rfl
theorem valS_free {w : Bool} {v : Val} (h : ValOk w v) : 32 ∉ (valS v).cps.toList := by
  cases v with
  | i n =>
    obtain ⟨_, h0, h1⟩ := h
    show 32 ∉ (numS n).cps.toList
    rcases numS_cases h0 h1 with ⟨m, _, _, e⟩ | ⟨m, _, _, _, e⟩
    · rw [e]; exact TL.numL_free (by omega)
    · rw [e]
      intro hm
      rcases List.mem_cons.mp hm with z | z
      · cases z
      · exact TL.numL_free (by omega) z
  | s x =>
    obtain ⟨_, _, hx⟩ := h
    show 32 ∉ ("=" ++ x : Str).cps.toList
    rw [eq_app]
    intro hm
    rcases List.mem_cons.mp hm with z | z
    · cases z
    · have := hx 32 z; omega
theorem word_mem (c : Cd) : c.word ∈ (["all", "not", "and", "or", "is", "less", "within", "begins"] : List Str) := by
  cases c <;> simp [Cd.word]
theorem words_all : ∀ w ∈ (["all", "not", "and", "or", "is", "less", "within", "begins"] : List Str), 32 ∉ w.cps.toList ∧ w.length ≤ 7 := by decide +kernel
theorem word_free (c : Cd) : 32 ∉ c.word.cps.toList := (words_all _ (word_mem c)).1
theorem cdW_free {ks : List Bool} (hk : KindsOk ks) : ∀ (n : Nat) (c : Cd), c.deep < n → c.Fits ks → ∀ w ∈ cdW c, 32 ∉ w.cps.toList
  | 0, _, h, _ => absurd h (Nat.not_lt_zero _)
  | n + 1, c, hd, hf => fun w hw => by
    rw [cdW_pts] at hw
    rcases List.mem_cons.mp hw with rfl | hw
    · exact word_free c
    · obtain ⟨p, hp, hw⟩ := List.mem_flatMap.mp hw
      obtain ⟨j, hj⟩ := List.getElem?_of_mem hp
      rcases pt_ok hf j p hj with ⟨a, rfl, ha, hda⟩ | hpo
      · exact cdW_free hk n a (by omega) ha w hw
      · obtain ⟨v, k, hv, _, e⟩ := pt_isval hk hpo
        rw [e] at hw
        rw [List.mem_singleton.mp hw]
        exact valS_free hv
theorem valS_len {w : Bool} {v : Val} (h : ValOk w v) : (valS v).length ≤ 7 := by
  cases v with
  | i n =>
    obtain ⟨_, h0, h1⟩ := h
    show (numS n).cps.size ≤ 7
    rw [← Array.length_toList]
    rcases numS_cases h0 h1 with ⟨m, _, hm, e⟩ | ⟨m, _, _, hm, e⟩
    · rw [e]; exact Nat.le_trans (TL.numL_len (by decide) hm) (by omega)
    · rw [e, List.length_cons]
      have := TL.numL_len (by decide) hm
      omega
  | s x =>
    obtain ⟨_, hx, _⟩ := h
    show ("=" ++ x : Str).cps.size ≤ 7
    rw [← Array.length_toList, eq_app, List.length_cons, Array.length_toList]
    have hx : x.cps.size ≤ 6 := hx
    omega
theorem word_len7 (c : Cd) : c.word.length ≤ 7 := (words_all _ (word_mem c)).2
theorem cdW_len {ks : List Bool} (hk : KindsOk ks) : ∀ (n : Nat) (c : Cd), c.deep < n → c.Fits ks → ∀ w ∈ cdW c, w.length ≤ 7
  | 0, _, h, _ => absurd h (Nat.not_lt_zero _)
  | n + 1, c, hd, hf => fun w hw => by
    rw [cdW_pts] at hw
    rcases List.mem_cons.mp hw with rfl | hw
    · exact word_len7 c
    · obtain ⟨p, hp, hw⟩ := List.mem_flatMap.mp hw
      obtain ⟨j, hj⟩ := List.getElem?_of_mem hp
      rcases pt_ok hf j p hj with ⟨a, rfl, ha, hda⟩ | hpo
      · exact cdW_len hk n a (by omega) ha w hw
      · obtain ⟨v, k, hv, _, e⟩ := pt_isval hk hpo
        rw [e] at hw
        rw [List.mem_singleton.mp hw]
        exact valS_len hv
theorem cdW_many : ∀ c : Cd, (cdW c).length ≤ 4 * c.count
  | .all => by decide
  | .no c => by
    have := cdW_many c
    show (cdW c).length + 1 ≤ 4 * (1 + c.count)
    omega
  | .and a b => by
    have := cdW_many a
    have := cdW_many b
    show ((cdW a ++ cdW b).length + 1) ≤ 4 * (1 + a.count + b.count)
    rw [List.length_append]; omega
  | .or a b => by
    have := cdW_many a
    have := cdW_many b
    show ((cdW a ++ cdW b).length + 1) ≤ 4 * (1 + a.count + b.count)
    rw [List.length_append]; omega
  | .is k v => by show 3 ≤ 4 * 1; omega
  | .less k v => by show 3 ≤ 4 * 1; omega
  | .within k v u => by show 4 ≤ 4 * 1; omega
  | .begins k x => by show 3 ≤ 4 * 1; omega
theorem sum_le (b : Nat) : ∀ l : List Nat, (∀ x ∈ l, x ≤ b) → l.sum ≤ b * l.length
  | [], _ => Nat.zero_le _
  | x :: r, h => by
    have h1 := h x List.mem_cons_self
    have h2 := sum_le b r fun y hy => h y (List.mem_cons_of_mem _ hy)
    rw [List.sum_cons, List.length_cons, Nat.mul_add]
    omega
theorem cdW_sum {ks : List Bool} {c : Cd} (hk : KindsOk ks) (h : CdOk ks c) : ((cdW c).map (·.length)).sum + (cdW c).length * 1 ≤ 480 := by
  have h1 := cdW_many c
  have h2 := sum_le 7 ((cdW c).map (·.length)) fun x hx => by
    obtain ⟨w, hw, rfl⟩ := List.mem_map.mp hx
    exact cdW_len hk (c.deep + 1) c (Nat.lt_succ_self _) h.fits w hw
  have h3 := h.few
  rw [List.length_map] at h2
  omega
theorem cutD_whole {ds : List Dt} {lo hi : Option Int} (h : HT.sIx ds.length 0 lo = 0 ∧ HT.sIx ds.length ds.length hi = ds.length) : cutD ds lo hi = ds := by
  unfold cutD
  rw [h.1, h.2, List.drop_zero, Nat.sub_zero, List.take_length]
theorem ev_slT {c : Cn} {ρ : List Sl} {te : TE} {tl th : TO} {Q : Dt → Prop} (h : EV c te ρ (TupJ fun ds => EVO c tl ρ fun lo => EVO c th ρ fun hi => Q (.tup (cutD ds lo hi)))) : EV c (tSl (rSlA c.K) te tl th) ρ Q := fun hd H σ v Qh q => h hd H σ v _ fun d x H1 h1 e1 b1 r1 => by
  cases d with
  | tup ds =>
    refine h1 hd H1 σ (v.go e1 b1) _ fun lo H2 h2 e2 b2 => h2 hd H2 σ ((v.go e1 b1).go e2 b2) _ fun hi H3 h3 e3 b3 => ?_
    have e13 := (e1.trans e2).trans e3
    cases (r1.mono ((e2.trans e3).sees v.muh)) with
    | tup ha ra =>
      refine ⟨_, _, rfl, sqt_hm ha, fun hw => ?_, fun hw o ho => ?_⟩
      · rw [ra.length] at hw
        have h3' : Q (.tup (cutD ds lo hi)) := h3
        rw [cutD_whole hw] at h3'
        exact q _ _ H3 h3' e13 b3 (.tup ha ra)
      · refine q _ (.ref o) _ h3 (e13.trans (.new ho)) (c.keep0 (.new ho) b3) (.tup (.inl (.inl ?_)) ((cut_rp ra lo hi).mono ((Ex.new ho (mu := none0)).sees (fun _ h => nomatch h))))
        rw [hm_of (fresh_hd (fun a h => e13.dom a (v.dom a h)) ho), upd_same]
  | _ => exact h1.elim
theorem cut_tail {d : Dt} {ds : List Dt} : cutD (d :: ds) (some 1) none = ds := by
  unfold cutD
  rw [show (1 : Int) = ((1 : Nat) : Int) from rfl, HT.sIx_nat, HT.sIx_none, List.length_cons, Nat.min_eq_left (by omega)]
  show ds.take (ds.length + 1 - 1) = ds
  rw [Nat.add_sub_cancel, List.take_length]
theorem pts_few {c a : Cd} {j : Nat} (h : c.pts[j]? = some (.qq a)) : a.count ≤ c.count := by
  have hm : Pt.qq a ∈ c.pts := List.mem_of_getElem? h
  cases c with
  | all => cases hm
  | no c =>
    have e : Pt.qq a = Pt.qq c := List.mem_singleton.mp hm
    cases e
    show a.count ≤ 1 + a.count
    omega
  | and x y =>
    rcases List.mem_cons.mp hm with e | hm
    · cases e
      show a.count ≤ 1 + a.count + y.count
      omega
    · have e := List.mem_singleton.mp hm
      cases e
      show a.count ≤ 1 + x.count + a.count
      omega
  | or x y =>
    rcases List.mem_cons.mp hm with e | hm
    · cases e
      show a.count ≤ 1 + a.count + y.count
      omega
    · have e := List.mem_singleton.mp hm
      cases e
      show a.count ≤ 1 + x.count + a.count
      omega
  | is k v => simp [Cd.pts] at hm
  | less k v => simp [Cd.pts] at hm
  | within k v u => simp [Cd.pts] at hm
  | begins k x => simp [Cd.pts] at hm
def S__law_text (n : Nat) (ds : List Dt) (Q : List Dt → Prop) : Prop := ∃ ks c, ds = [Cd.dt c] ∧ KindsOk ks ∧ c.Fits ks ∧ c.deep < n ∧ c.count ≤ 1000 ∧ Q ((cdW c).map Dt.str)
abbrev sp__law_text (n : Nat) (K : PySem.W.Frag) : Sp := spPN K (S__law_text n)
theorem ok__law_text {P : Program} {w : World} {K : PySem.W.Frag} {mg : Str → Option Value} {base : Heap} (T : Txt w K mg)  (n : Nat) : Cal P w K mg base (n + 1) "_law_text" (sp__law_text n K) [] := by
  induction n with
  | zero =>
    refine cal_pureN T.f__law_text sc__law_text ?len fun f cdv A outer s H E hr => ⟨_, pss_never, ?body⟩
    case' body => try dsimp only [cxD, cxOf]
    case len => rintro ds Q ⟨_, _, rfl, _⟩; rfl
    case body =>
      rintro ds Q ⟨_, _, rfl, _, _, hd, _⟩ hid H0 D dom hD
      omega
  | succ n ih =>
    have c__law_text := ih
    refine cal_pureN T.f__law_text sc__law_text ?len fun f cdv A outer s H E hr => ⟨_, (pss_cons (ps_set (i := 1) sc__law_text.nd rfl (Or.inl rfl) (pe_lst (pa_cons (pe_ix ix_seq (pv 0) pe_int (fun _ _ => rfl)) pa_nil)))
      (pss_cons (ps_for PassesOwn.never rfl (pi_tup (pe_slice sl_tupA (pv 0) (po_some pe_int) po_none)) (pg_name (i := 2) sc__law_text.nd rfl (Or.inl rfl)) (pss_one (ps_if (pt_val (pe_callB call_isi (by rfl) T.b_isinstance (by decide +kernel) (pa_cons (pv 2) (pa_cons (pe_bltn (v := .ty "tuple") (by rfl) T.b_tuple (by decide +kernel) rfl) pa_nil)))) (pss_one (ps_set (i := 1) sc__law_text.nd rfl (Or.inl rfl) (pe_op op_addU (pv 1) (pe_c c__law_text hr (Nat.le_refl _) (by rfl) (pa_cons (pv 2) pa_nil))))) (pss_one (ps_expr (pe_bm PySem.F.plainAttrs_list PySem.F.slot_list_append PySem.F.type_list_append mt_append (pv 1) (pa_cons (pe_ifExp (pt_val (pe_callB call_isi (by rfl) T.b_isinstance (by decide +kernel) (pa_cons (pv 2) (pa_cons (pe_bltn (v := .ty "str") (by rfl) T.b_str (by decide +kernel) rfl) pa_nil)))) (pe_op op_addU pe_str (pv 2)) (pe_callTy cl_strI (by rfl) T.b_str (by decide +kernel) (pa_cons (pv 2) pa_nil))) pa_nil)))))))
      (pss_one (ps_ret (pv 1))))), ?body⟩
    case' body => try dsimp only [cxD, cxOf]
    case len => rintro ds Q ⟨_, _, rfl, _⟩; rfl
    case body =>
      rintro ds Q ⟨ks, c, rfl, hk, hf, hd, hc, hq⟩ hid H0 D dom hD
      have hp3 := c.pts_len
      have hmany := cdW_many c
      show NJ _ _ _ _ [.im c.dt, .un, .un]
      rw [Cd.dt_pts]
      refine q_asgN (en_lst (ea_cons (ev_op (ev_var rfl (ev_int (ix_t0 (ea_nil ⟨by show 1 ≤ 100000; omega, ?_⟩)))))))
      walk_at "nm"
      refine q_for (ij_tup (ev_slT (ev_var rfl (tupJ (eo_some (ev_int (intJ (eo_none (tupJ ?_)))))))))
      rw [cut_tail]
      refine ⟨fun i ρ' => ρ' = [.im (.tup (.str c.word :: c.pts.map Pt.dt)), .ac ((c.word :: (c.pts.take i).flatMap ptW).map Dt.str), .un], rfl, ?_, ?_⟩
      · rintro H1 e1 i d ρ' hi rfl
        rw [List.getElem?_map] at hi
        obtain ⟨p, hp, rfl⟩ := Option.map_eq_some_iff.mp hi
        have hsub : (c.word :: (c.pts.take (i + 1)).flatMap ptW) = (c.word :: (c.pts.take i).flatMap ptW) ++ ptW p := by
          rw [take_at hp, List.flatMap_append]
          simp
        have hlen : (c.word :: (c.pts.take (i + 1)).flatMap ptW).length ≤ 4000 := by
          have h1 : (c.word :: c.pts.flatMap ptW).length ≤ 4000 := by rw [← cdW_pts]; omega
          have h2 : (c.pts.take (i + 1)).flatMap ptW ++ (c.pts.drop (i + 1)).flatMap ptW = c.pts.flatMap ptW := by rw [← List.flatMap_append, List.take_append_drop]
          rw [← h2, List.length_cons, List.length_append] at h1
          rw [List.length_cons]
          omega
        have hlen2 : ((c.word :: (c.pts.take i).flatMap ptW).map Dt.str).length + ((ptW p).map Dt.str).length ≤ 100000 := by
          rw [hsub, List.length_append] at hlen
          rw [List.length_map, List.length_map]
          omega
        rcases pt_ok hf i p hp with ⟨a, rfl, ha, hda⟩ | hpo
        · rw [show (Pt.qq a).dt = .tup (.str a.word :: a.pts.map Pt.dt) from Cd.dt_pts a]
          refine tg_name ?_
          walk_at "nm"
          refine nj_if ?_
          walk_at "go"
          refine ⟨rfl, _, k_tt, ?_⟩
          refine bl_yes rfl ?_
          refine nj_share (i := 1) rfl ?_
          walk_at "nm"
          refine nj_asgN (en_op (ev_var rfl (EN.ev (en_call (ea_cons (ev_var rfl (ea_nil (sp_n (S := S__law_text n) ⟨ks, a, by rw [Cd.dt_pts], hk, ha, by omega, by have := pts_few hp; omega, add_l hlen2 ?_⟩))))))))
          walk_at "nm"
          refine nj_nxw _ rfl ?_
          rw [hsub, List.map_append]
          walk_at "le"
        · obtain ⟨v, w, hv, ed, ew⟩ := pt_isval hk hpo
          rw [ew] at hlen2 hsub
          rw [ed]
          cases v with
          | i m =>
            obtain ⟨_, h0, h1⟩ := hv
            refine tg_name ?_
            walk_at "nm"
            refine nj_if ?_
            walk_at "go"
            refine ⟨rfl, _, k_it, ?_⟩
            refine bl_no rfl ?_
            refine nj_app rfl (by have := hlen2; simp only [List.length_map, List.length_cons, List.length_nil] at this ⊢; omega) (ev_if ?_)
            walk_at "go"
            refine ⟨rfl, _, k_is, ?_⟩
            refine bl_no rfl ?_
            walk_at "go"
            refine str_i (by omega) ?_
            refine nj_nxw _ rfl ?_
            rw [hsub, List.map_append]
            walk_at "le"
          | s x =>
            obtain ⟨_, hx, _⟩ := hv
            refine tg_name ?_
            walk_at "nm"
            refine nj_if ?_
            walk_at "go"
            refine ⟨rfl, _, k_st, ?_⟩
            refine bl_no rfl ?_
            refine nj_app rfl (by have := hlen2; simp only [List.length_map, List.length_cons, List.length_nil] at this ⊢; omega) (ev_if ?_)
            walk_at "go"
            refine ⟨rfl, _, k_ss, ?_⟩
            refine bl_yes rfl ?_
            walk_at "go"
            refine add_s (by show 1 + x.length ≤ _; omega) ?_
            refine nj_nxw _ rfl ?_
            rw [hsub, List.map_append]
            walk_at "le"
      · rintro ρ' rfl
        rw [List.length_map, List.take_length, ← cdW_pts]
        exact nj_retAc rfl (hD.rt _ hq)
end
section
open PySem PySem.Spec PyProof.Rows L2
open C8 (Cal pe_c pe_gc)
open PySem.NumText (AllDigits digitsVal)
theorem numL_head48 : ∀ n : Nat, 0 < n → (TL.numL n).head? ≠ some 48 := by
  intro n
  induction n using Nat.strongRecOn with
  | _ n ih =>
    intro hn
    by_cases hl : n < 10
    · rw [TL.numL_lt hl]
      intro z
      have := Option.some.inj z
      omega
    · rw [TL.numL_step (by omega)]
      have := ih (n / 10) (by omega) (by omega)
      cases e : TL.numL (n / 10) with
      | nil => exact absurd e (TL.numL_ne _)
      | cons a s =>
        rw [e] at this
        exact this
def isFig (c : Nat) : Bool := decide (48 ≤ c ∧ c ≤ 57)
def isLet (c : Nat) : Bool := decide (97 ≤ c ∧ c ≤ 122)
def bareL (l : List Nat) : List Nat := if l.head? = some 45 then l.tail else l
def figsOk (b : List Nat) : Bool := decide (1 ≤ b.length ∧ b.length ≤ 4) && b.all isFig
def canonL (l : List Nat) : Bool := !decide ((bareL l).head? = some 48) || decide (l = [48])
def numV (l : List Nat) : Int := if l.head? = some 45 then -((digitsVal l.tail : Nat) : Int) else ((digitsVal l : Nat) : Int)
def vword (w : Str) : Option Val :=
  if w.cps.toList.head? = some 61 then (if w.cps.toList.tail.length ≤ 6 ∧ w.cps.toList.tail.all isLet = true then some (.s ⟨w.cps.toList.tail.toArray⟩) else none)
  else if (figsOk (bareL w.cps.toList) && canonL w.cps.toList) = true then some (.i (numV w.cps.toList)) else none
theorem dv_snoc (l : List Nat) (d : Nat) : digitsVal (l ++ [d]) = digitsVal l * 10 + (d - 48) := by
  unfold digitsVal
  rw [List.foldl_append]; rfl
theorem figs_all {l : List Nat} (h : l.all isFig = true) : AllDigits l := fun c hc => of_decide_eq_true (List.all_eq_true.mp h c hc)
theorem numL_canon : ∀ (n : Nat) (l : List Nat), l.length = n → AllDigits l → l ≠ [] → l.head? ≠ some 48 → TL.numL (digitsVal l) = l ∧ 0 < digitsVal l
  | 0, l, hl, _, hn, _ => absurd (List.length_eq_zero_iff.mp hl) hn
  | n + 1, l, hl, hd, hn, h0 => by
    obtain ⟨r, d, rfl⟩ : ∃ r d, l = r ++ [d] := ⟨l.dropLast, l.getLast hn, (List.dropLast_concat_getLast hn).symm⟩
    have hdd := hd d (by simp)
    rw [dv_snoc]
    cases r with
    | nil =>
      have hd0 : d ≠ 48 := fun z => h0 (by rw [z]; rfl)
      have e : digitsVal [] = 0 := rfl
      rw [e, TL.numL_lt (by omega)]
      refine ⟨?_, by omega⟩
      show [48 + (0 * 10 + (d - 48))] = [d]
      rw [show 48 + (0 * 10 + (d - 48)) = d by omega]
    | cons a s =>
      have ih := numL_canon n (a :: s) (by rw [List.length_append] at hl; simp at hl ⊢; omega) (fun c hc => hd c (List.mem_append_left _ hc)) (by simp) h0
      obtain ⟨i1, i2⟩ := ih
      rw [TL.numL_step (by omega), show (digitsVal (a :: s) * 10 + (d - 48)) / 10 = digitsVal (a :: s) by omega, i1, show 48 + (digitsVal (a :: s) * 10 + (d - 48)) % 10 = d by omega]
      exact ⟨rfl, by omega⟩
theorem numS_pos (m : Nat) (h : 0 < m) : (numS (-((m : Nat) : Int))).cps.toList = 45 :: TL.numL m := by
  obtain ⟨k, rfl⟩ : ∃ k, m = k + 1 := ⟨m - 1, by omega⟩
  exact numS_neg k
theorem num_back {l : List Nat} (h : figsOk (bareL l) = true) : decide ((numS (numV l)).cps.toList = l) = canonL l := by
  unfold figsOk at h
  obtain ⟨h1, h2⟩ := Bool.and_eq_true_iff.mp h
  have h1 := of_decide_eq_true h1
  have hd := figs_all h2
  unfold canonL
  by_cases hm : l.head? = some 45
  · have eb : bareL l = l.tail := by unfold bareL; rw [if_pos hm]
    have ev : numV l = -((digitsVal l.tail : Nat) : Int) := by unfold numV; rw [if_pos hm]
    rw [eb] at h1 hd ⊢
    rw [ev]
    obtain ⟨r, rfl⟩ : ∃ r, l = 45 :: r := by
      cases l with
      | nil => cases hm
      | cons a r => cases hm; exact ⟨r, rfl⟩
    have hd : AllDigits r := hd
    have h1 : 1 ≤ r.length ∧ r.length ≤ 4 := h1
    have hne : r ≠ [] := fun z => by rw [z] at h1; simp at h1
    show decide ((numS (-((digitsVal r : Nat) : Int))).cps.toList = 45 :: r) = (!decide (r.head? = some 48) || decide (45 :: r = [48]))
    rw [decide_eq_false (show ¬ (45 :: r = [48]) from fun z => by cases z), Bool.or_false]
    by_cases h0 : r.head? = some 48
    · rw [decide_eq_true h0]
      refine decide_eq_false fun z => ?_
      rcases Nat.eq_zero_or_pos (digitsVal r) with q | q
      · rw [q] at z
        have e0 : (numS (-((0 : Nat) : Int))).cps.toList = [48] := by
          have := numS_nat 0
          rw [TL.numL_lt (by omega)] at this
          exact this
        rw [e0] at z
        cases z
      · rw [numS_pos _ q] at z
        have z := (List.cons.inj z).2
        have := numL_head48 _ q
        rw [z] at this
        exact this h0
    · rw [decide_eq_false h0]
      obtain ⟨q1, q2⟩ := numL_canon r.length r rfl hd hne h0
      rw [numS_pos _ q2, q1]
      exact decide_eq_true rfl
  · have eb : bareL l = l := by unfold bareL; rw [if_neg hm]
    have ev : numV l = ((digitsVal l : Nat) : Int) := by unfold numV; rw [if_neg hm]
    rw [eb] at h1 hd ⊢
    rw [ev, numS_nat]
    have hne : l ≠ [] := fun z => by rw [z] at h1; simp at h1
    by_cases h0 : l.head? = some 48
    · rw [decide_eq_true h0]
      rcases Nat.eq_zero_or_pos (digitsVal l) with q | q
      · rw [q, TL.numL_lt (by omega)]
        show decide ([48 + 0] = l) = decide (l = [48])
        exact decide_eq_decide.mpr ⟨fun z => z.symm, fun z => z.symm⟩
      · have : ¬ l = [48] := fun z => by rw [z] at q; exact absurd q (by decide)
        rw [decide_eq_false this]
        refine decide_eq_false fun z => ?_
        have := numL_head48 _ q
        rw [z] at this
        exact this h0
    · rw [decide_eq_false h0]
      obtain ⟨q1, q2⟩ := numL_canon l.length l rfl hd hne h0
      rw [q1]
      exact decide_eq_true rfl
theorem dv_lt : ∀ (l : List Nat), AllDigits l → digitsVal l < 10 ^ l.length := by
  intro l
  have : ∀ (n : Nat) (l : List Nat), l.length = n → AllDigits l → digitsVal l < 10 ^ n := by
    intro n
    induction n with
    | zero => intro l hl _; rw [List.length_eq_zero_iff.mp hl]; exact (by decide : digitsVal [] < 10 ^ 0)
    | succ n ih =>
      intro l hl hd
      have hn : l ≠ [] := fun z => by rw [z] at hl; cases hl
      obtain ⟨r, d, rfl⟩ : ∃ r d, l = r ++ [d] := ⟨l.dropLast, l.getLast hn, (List.dropLast_concat_getLast hn).symm⟩
      have hdd := hd d (by simp)
      have := ih r (by rw [List.length_append] at hl; simp at hl; omega) fun c hc => hd c (List.mem_append_left _ hc)
      rw [dv_snoc, Nat.pow_succ]
      omega
  exact this _ l rfl
theorem num_read {w : Str} (h : figsOk (bareL w.cps.toList) = true) : PySem.intText? w = some (numV w.cps.toList) ∧ -9999 ≤ numV w.cps.toList ∧ numV w.cps.toList ≤ 9999 ∧ w.length ≤ 5 := by
  unfold figsOk at h
  obtain ⟨h1, h2⟩ := Bool.and_eq_true_iff.mp h
  have h1 := of_decide_eq_true h1
  have hd := figs_all h2
  have hw : w.length = w.cps.toList.length := by show w.cps.size = _; rw [Array.length_toList]
  by_cases hm : w.cps.toList.head? = some 45
  · have eb : bareL w.cps.toList = w.cps.toList.tail := by unfold bareL; rw [if_pos hm]
    rw [eb] at h1 hd
    obtain ⟨r, hr⟩ : ∃ r, w.cps.toList = 45 :: r := by
      cases e : w.cps.toList with
      | nil => rw [e] at hm; cases hm
      | cons a r => rw [e] at hm; cases hm; exact ⟨r, rfl⟩
    have ev : numV w.cps.toList = -((digitsVal r : Nat) : Int) := by unfold numV; rw [if_pos hm, hr]; rfl
    rw [hr] at h1 hd hw
    have h1 : 1 ≤ r.length ∧ r.length ≤ 4 := h1
    have hd : AllDigits r := hd
    have hw : w.length = r.length + 1 := hw
    have hne : r ≠ [] := fun z => by rw [z] at h1; simp at h1
    have hlt := dv_lt r hd
    have : 10 ^ r.length ≤ 10 ^ 4 := Nat.pow_le_pow_right (by decide) h1.2
    rw [ev]
    exact ⟨PySem.intText_neg hr hd hne (by omega), by omega, by omega, by omega⟩
  · have eb : bareL w.cps.toList = w.cps.toList := by unfold bareL; rw [if_neg hm]
    have ev : numV w.cps.toList = ((digitsVal w.cps.toList : Nat) : Int) := by unfold numV; rw [if_neg hm]
    rw [eb] at h1 hd
    have hne : w.cps.toList ≠ [] := fun z => by rw [z] at h1; simp at h1
    have hlt := dv_lt _ hd
    have : 10 ^ w.cps.toList.length ≤ 10 ^ 4 := Nat.pow_le_pow_right (by decide) h1.2
    rw [ev]
    exact ⟨PySem.intText_digits hd hne (by omega), by omega, by omega, by omega⟩
inductive Ct where
  | v (w : Str) (xs : List Val) | q1 (c : Ct) | q2 (w : Str) (a b : Ct)
def Ct.dt : Ct → Dt
  | .v w xs => .tup (.str w :: xs.map Val.dt)
  | .q1 c => .tup [.str "not", c.dt]
  | .q2 w a b => .tup [.str w, a.dt, b.dt]
def nvF (w : Str) : Option Nat := if w = "all" then some 0 else if w = "is" ∨ w = "less" ∨ w = "begins" then some 2 else if w = "within" then some 3 else none
inductive Rs where
  | ok (c : Ct) (p : Nat) | bad (p : Nat)
inductive Rv where
  | ok (vs : List Val) (p : Nat) | bad (p : Nat)
def rdv (W : List Str) : Nat → Nat → Rv
  | 0, p => .ok [] p
  | k + 1, p => match (W[p]?).bind vword with
    | none => .bad p
    | some v => match rdv W k (p + 1) with
      | .ok vs q => .ok (v :: vs) q
      | .bad q => .bad q
def rd (W : List Str) : Nat → Nat → Rs
  | 0, p => .bad p
  | n + 1, p => match W[p]? with
    | none => .bad p
    | some w =>
      if w = "not" then (match rd W n (p + 1) with
        | .ok c q => .ok (.q1 c) q
        | .bad q => .bad q)
      else if w = "and" ∨ w = "or" then (match rd W n (p + 1) with
        | .ok a q => (match rd W n q with
          | .ok b q' => .ok (.q2 w a b) q'
          | .bad q' => .bad q')
        | .bad q => .bad q)
      else match nvF w with
        | none => .bad p
        | some k => match rdv W k (p + 1) with
          | .ok vs q => .ok (.v w vs) q
          | .bad q => .bad q
inductive CtOk : Nat → Ct → Prop
  | v {n : Nat} {w : Str} {xs : List Val} (h : nvF w = some xs.length) (hx : ∀ x ∈ xs, ∃ y, vword y = some x) : CtOk (n + 1) (.v w xs)
  | q1 {n : Nat} {c : Ct} (h : CtOk n c) : CtOk (n + 1) (.q1 c)
  | q2 {n : Nat} {w : Str} {a b : Ct} (h : w = "and" ∨ w = "or") (ha : CtOk n a) (hb : CtOk n b) : CtOk (n + 1) (.q2 w a b)
theorem rdv_ok {W : List Str} : ∀ {k p : Nat} {vs : List Val} {q : Nat}, rdv W k p = .ok vs q → vs.length = k ∧ q = p + k ∧ (∀ x ∈ vs, ∃ y, vword y = some x) ∧ (0 < k → q ≤ W.length) ∧ ∀ i, i < k → ∃ w, W[p + i]? = some w ∧ vword w = vs[i]?
  | 0, p, vs, q, h => by
    cases h
    exact ⟨rfl, rfl, (fun x hx => nomatch hx), (fun z => absurd z (Nat.lt_irrefl _)), fun i hi => absurd hi (Nat.not_lt_zero _)⟩
  | k + 1, p, vs, q, h => by
    unfold rdv at h
    cases e : (W[p]?).bind vword with
    | none => rw [e] at h; cases h
    | some v =>
      rw [e] at h
      dsimp only at h
      cases e2 : rdv W k (p + 1) with
      | bad q => rw [e2] at h; cases h
      | ok vs' q' =>
        rw [e2] at h
        cases h
        obtain ⟨h1, h2, h3, h4, h5⟩ := rdv_ok e2
        obtain ⟨w, hw, hv⟩ := Option.bind_eq_some_iff.mp e
        have hpl := (List.getElem?_eq_some_iff.mp hw).1
        refine ⟨by rw [List.length_cons, h1], by omega, fun x hx => ?_, fun _ => ?_, fun i hi => ?_⟩
        · rcases List.mem_cons.mp hx with rfl | hx
          · exact ⟨w, hv⟩
          · exact h3 x hx
        · by_cases z : 0 < k
          · exact h4 z
          · omega
        · cases i with
          | zero => exact ⟨w, hw, hv⟩
          | succ i =>
            obtain ⟨w', hw', hv'⟩ := h5 i (by omega)
            exact ⟨w', by rw [← hw']; congr 1; omega, hv'⟩
theorem rd_ok {W : List Str} : ∀ {n p : Nat} {c : Ct} {q : Nat}, rd W n p = .ok c q → CtOk n c ∧ p < q ∧ q ≤ W.length
  | 0, p, c, q, h => nomatch h
  | n + 1, p, c, q, h => by
    unfold rd at h
    cases e : W[p]? with
    | none => rw [e] at h; cases h
    | some w =>
      have hpl := (List.getElem?_eq_some_iff.mp e).1
      rw [e] at h
      dsimp only at h
      by_cases z1 : w = "not"
      · rw [if_pos z1] at h
        cases e1 : rd W n (p + 1) with
        | bad q => rw [e1] at h; cases h
        | ok c' q' =>
          rw [e1] at h
          cases h
          obtain ⟨h1, h2, h3⟩ := rd_ok e1
          exact ⟨.q1 h1, by omega, h3⟩
      · rw [if_neg z1] at h
        by_cases z2 : w = "and" ∨ w = "or"
        · rw [if_pos z2] at h
          cases e1 : rd W n (p + 1) with
          | bad q => rw [e1] at h; cases h
          | ok a q' =>
            rw [e1] at h
            dsimp only at h
            cases e2 : rd W n q' with
            | bad q => rw [e2] at h; cases h
            | ok b q2 =>
              rw [e2] at h
              cases h
              obtain ⟨h1, h2, h3⟩ := rd_ok e1
              obtain ⟨g1, g2, g3⟩ := rd_ok e2
              exact ⟨.q2 z2 h1 g1, by omega, g3⟩
        · rw [if_neg z2] at h
          cases e1 : nvF w with
          | none => rw [e1] at h; cases h
          | some k =>
            rw [e1] at h
            dsimp only at h
            cases e2 : rdv W k (p + 1) with
            | bad q => rw [e2] at h; cases h
            | ok vs q' =>
              rw [e2] at h
              cases h
              obtain ⟨h1, h2, h3, h4, _⟩ := rdv_ok e2
              refine ⟨.v (by rw [e1, h1]) h3, by omega, ?_⟩
              by_cases z : 0 < k
              · exact h4 z
              · omega
def szF (w : Str) : Option (List Bool) := if w = "not" then some [true] else if w = "and" ∨ w = "or" then some [true, true] else (nvF w).map fun k => List.replicate k false
def wlk (W : List Str) : Nat → List Bool → Nat → Option Nat
  | 0, ws, p => if ws = [] then none else some p
  | k + 1, ws, p => match ws with
    | [] => some p
    | true :: ws => (match (W[p]?).bind szF with
      | none => some p
      | some sh => wlk W k (sh ++ ws) (p + 1))
    | false :: ws => match (W[p]?).bind vword with
      | none => some p
      | some _ => wlk W k ws (p + 1)
abbrev wlF (W : List Str) (ws : List Bool) (p : Nat) : Option Nat := wlk W (W.length - p) ws p
theorem wlk_v {W : List Str} : ∀ {k p : Nat} {ws : List Bool}, p ≤ W.length → match rdv W k p with
    | .bad q => wlF W (List.replicate k false ++ ws) p = some q
    | .ok _ q => wlF W (List.replicate k false ++ ws) p = wlF W ws q
  | 0, p, ws, hp => rfl
  | k + 1, p, ws, hp => by
    have e0 : List.replicate (k + 1) false ++ ws = false :: (List.replicate k false ++ ws) := rfl
    unfold rdv
    by_cases z : p < W.length
    · have em : W.length - p = (W.length - (p + 1)) + 1 := by omega
      have e1 : wlF W (List.replicate (k + 1) false ++ ws) p = (match (W[p]?).bind vword with
        | none => some p
        | some _ => wlF W (List.replicate k false ++ ws) (p + 1)) := by
        unfold wlF
        rw [em, e0]; rfl
      rw [e1]
      cases e : (W[p]?).bind vword with
      | none => rfl
      | some v =>
        dsimp only
        have ih := wlk_v (W := W) (k := k) (p := p + 1) (ws := ws) z
        cases e2 : rdv W k (p + 1) with
        | bad q => rw [e2] at ih; exact ih
        | ok vs q => rw [e2] at ih; exact ih
    · have e1 : W[p]? = none := List.getElem?_eq_none (by omega)
      rw [e1]
      show wlF W (List.replicate (k + 1) false ++ ws) p = some p
      unfold wlF
      rw [show W.length - p = 0 by omega, e0]; rfl
theorem wlk_q {W : List Str} : ∀ {n p : Nat} {ws : List Bool}, p ≤ W.length → W.length - p < n → match rd W n p with
    | .bad q => wlF W (true :: ws) p = some q
    | .ok _ q => wlF W (true :: ws) p = wlF W ws q
  | 0, p, ws, _, h => absurd h (Nat.not_lt_zero _)
  | n + 1, p, ws, hp, hn => by
    unfold rd
    by_cases z : p < W.length
    · have em : W.length - p = (W.length - (p + 1)) + 1 := by omega
      have e1 : wlF W (true :: ws) p = (match (W[p]?).bind szF with
        | none => some p
        | some sh => wlF W (sh ++ ws) (p + 1)) := by
        unfold wlF
        rw [em]; rfl
      have ew : W[p]? = some W[p] := List.getElem?_eq_getElem z
      rw [e1, ew]
      generalize W[p] = w
      show match (if w = "not" then _ else _ : Rs) with
        | .bad q => (match szF w with
          | none => some p
          | some sh => wlF W (sh ++ ws) (p + 1)) = some q
        | .ok _ q => (match szF w with
          | none => some p
          | some sh => wlF W (sh ++ ws) (p + 1)) = wlF W ws q
      unfold szF
      by_cases z1 : w = "not"
      · rw [if_pos z1, if_pos z1]
        have ih := wlk_q (W := W) (n := n) (p := p + 1) (ws := ws) z (by omega)
        cases e2 : rd W n (p + 1) with
        | bad q => rw [e2] at ih; exact ih
        | ok c q => rw [e2] at ih; exact ih
      · rw [if_neg z1, if_neg z1]
        by_cases z2 : w = "and" ∨ w = "or"
        · rw [if_pos z2, if_pos z2]
          have ih := wlk_q (W := W) (n := n) (p := p + 1) (ws := true :: ws) z (by omega)
          cases e2 : rd W n (p + 1) with
          | bad q => rw [e2] at ih; exact ih
          | ok c q =>
            rw [e2] at ih
            obtain ⟨_, r2, r3⟩ := rd_ok e2
            have ih2 := wlk_q (W := W) (n := n) (p := q) (ws := ws) r3 (by omega)
            dsimp only at ih ⊢
            cases e3 : rd W n q with
            | bad q' => rw [e3] at ih2; exact ih.trans ih2
            | ok c' q' => rw [e3] at ih2; exact ih.trans ih2
        · rw [if_neg z2, if_neg z2]
          cases e2 : nvF w with
          | none => rfl
          | some k =>
            have ih := wlk_v (W := W) (k := k) (p := p + 1) (ws := ws) z
            dsimp only [Option.map]
            cases e3 : rdv W k (p + 1) with
            | bad q => rw [e3] at ih; exact ih
            | ok vs q => rw [e3] at ih; exact ih
    · have e1 : W[p]? = none := List.getElem?_eq_none (by omega)
      rw [e1]
      show wlF W (true :: ws) p = some p
      unfold wlF
      rw [show W.length - p = 0 by omega]; rfl
def placeF (W : List Str) : Option Nat := wlF W [true] 0
theorem place_of {W : List Str} {n : Nat} (hn : W.length < n) : match rd W n 0 with
    | .bad q => placeF W = some q
    | .ok _ q => placeF W = if q < W.length then some q else none := by
  have h := wlk_q (W := W) (n := n) (p := 0) (ws := []) (Nat.zero_le _) (by omega)
  cases e : rd W n 0 with
  | bad q => rw [e] at h; exact h
  | ok c q =>
    rw [e] at h
    have h : wlF W [true] 0 = wlF W [] q := h
    show wlF W [true] 0 = _
    rw [h]
    unfold wlF
    by_cases z : q < W.length
    · rw [if_pos z, show W.length - q = (W.length - q - 1) + 1 by omega]; rfl
    · rw [if_neg z, show W.length - q = 0 by omega]; rfl
def vkind : Val → Bool
  | .i _ => false
  | .s _ => true
def goodV (ks : List Bool) (w : Str) : List Val → Bool
  | [] => true
  | .s _ :: _ => false
  | .i k :: r => decide (0 ≤ k ∧ k < ks.length) && (r.all fun v => decide (vkind v = ks.getD k.toNat false)) && (!decide (w = "begins") || ks.getD k.toNat false)
def szC (ks : List Bool) : Nat → Ct → Nat
  | d, .v w xs => if 7 < d then 16 else if goodV ks w xs = true then 1 else 16
  | d, .q1 c => if 7 < d then 16 else 1 + szC ks (d + 1) c
  | d, .q2 _ a b => if 7 < d then 16 else 1 + szC ks (d + 1) a + szC ks (d + 1) b
def lcC (ks : List Bool) : Nat → Ct → Nat
  | d, .v w xs => if 7 < d then 99 else if goodV ks w xs = true then 1 else 99
  | d, .q1 c => if 7 < d then 99 else 1 + lcC ks (d + 1) c
  | d, .q2 _ a b => if 7 < d then 99 else 1 + (lcC ks (d + 1) a + lcC ks (d + 1) b)
theorem two_counts (ks : List Bool) : ∀ (c : Ct) (d : Nat), (szC ks d c = lcC ks d c) ∨ (15 < szC ks d c ∧ 15 < lcC ks d c)
  | .v w xs, d => by
    unfold szC lcC
    by_cases z : 7 < d
    · rw [if_pos z, if_pos z]; exact .inr ⟨by omega, by omega⟩
    · rw [if_neg z, if_neg z]
      by_cases y : goodV ks w xs = true
      · rw [if_pos y, if_pos y]; exact .inl rfl
      · rw [if_neg y, if_neg y]; exact .inr ⟨by omega, by omega⟩
  | .q1 c, d => by
    have := two_counts ks c (d + 1)
    unfold szC lcC
    by_cases z : 7 < d
    · rw [if_pos z, if_pos z]; exact .inr ⟨by omega, by omega⟩
    · rw [if_neg z, if_neg z]; omega
  | .q2 w a b, d => by
    have := two_counts ks a (d + 1)
    have := two_counts ks b (d + 1)
    unfold szC lcC
    by_cases z : 7 < d
    · rw [if_pos z, if_pos z]; exact .inr ⟨by omega, by omega⟩
    · rw [if_neg z, if_neg z]; omega
theorem count_iff (ks : List Bool) (c : Ct) : decide (szC ks 0 c ≤ 15) = decide (lcC ks 0 c ≤ 15) := decide_eq_decide.mpr (by have := two_counts ks c 0; omega)
def blanks (t : Str) : Nat := t.cps.toList.count 32
theorem blanks_join : ∀ ws : List Str, blanks (Str.join " " ws) + 1 = (ws.map blanks).sum + ws.length + (if ws = [] then 1 else 0)
  | [] => rfl
  | [x] => by
    show blanks x + 1 = _
    simp
  | x :: y :: r => by
    have ih := blanks_join (y :: r)
    have e : blanks (Str.join " " (x :: y :: r)) = blanks x + 1 + blanks (Str.join " " (y :: r)) := by
      show (TL.tl (x ++ " " ++ Str.join " " (y :: r))).count 32 = _
      rw [TL.tl_append, TL.tl_append, List.count_append, List.count_append]
      have : (TL.tl (" " : Str)).count 32 = 1 := by decide +kernel
      rw [this]; rfl
    rw [e, List.map_cons, List.sum_cons, List.length_cons, if_neg (by simp)]
    rw [if_neg (by simp)] at ih
    omega
theorem blank_is : (⟨#[32]⟩ : Str) = " " := by decide +kernel
theorem split_back (t : Str) : Str.join " " (Txt.split t " ") = t := by
  have := StrLaws.join_split t ⟨#[32]⟩
  rw [blank_is] at this
  exact this
theorem split_none {t : Str} {x : Str} (h : x ∈ Txt.split t " ") : blanks x = 0 := by
  have := StrLaws.split_free t 32 x (by rw [blank_is]; exact h)
  exact List.count_eq_zero.mpr this
theorem split_ne (t : Str) : Txt.split t " " ≠ [] := fun z => by
  have h1 := split_back t
  rw [z] at h1
  have h2 : Txt.split (Txt.join " " [("" : Str)]) " " = [("" : Str)] := TL.split_join (y := " ") (s := 32) (S := []) rfl (by decide +kernel) (fun z => nomatch z) fun p hp => by
    rw [List.mem_singleton.mp hp]; exact fun z => nomatch z
  have h3 : Txt.join " " [("" : Str)] = t := by rw [TL.join_eq, ← h1]; rfl
  rw [h3, z] at h2
  cases h2
theorem sum_zero : ∀ {l : List Nat}, (∀ x ∈ l, x = 0) → l.sum = 0
  | [], _ => rfl
  | x :: r, h => by
    rw [List.sum_cons, h x List.mem_cons_self, sum_zero fun y hy => h y (List.mem_cons_of_mem _ hy)]
theorem split_count (t : Str) : (Txt.split t " ").length = blanks t + 1 := by
  have h := blanks_join (Txt.split t " ")
  rw [split_back, if_neg (split_ne t), sum_zero fun x hx => by
    obtain ⟨w, hw, rfl⟩ := List.mem_map.mp hx
    exact split_none hw] at h
  omega
theorem sum_len : ∀ ws : List Str, (Str.join " " ws).length + 1 = (ws.map (·.length)).sum + ws.length + (if ws = [] then 1 else 0)
  | [] => rfl
  | [x] => by
    show x.length + 1 = _
    simp
  | x :: y :: r => by
    have ih := sum_len (y :: r)
    have e : (Str.join " " (x :: y :: r)).length = x.length + 1 + (Str.join " " (y :: r)).length := by
      show (x ++ " " ++ Str.join " " (y :: r)).length = _
      have h1 : (TL.tl (" " : Str)).length = 1 := by decide +kernel
      simp only [TL.len_tl, TL.tl_append, List.length_append]
      omega
    rw [e, List.map_cons, List.sum_cons, List.length_cons, if_neg (by simp)]
    rw [if_neg (by simp)] at ih
    omega
def wordsF (t : Str) : List Str := if t = "" then [] else Txt.split t " "
theorem words_len (t : Str) : (wordsF t).length ≤ blanks t + 1 := by
  unfold wordsF
  split
  · exact Nat.zero_le _
  · exact Nat.le_of_eq (split_count t)
theorem mem_sum {l : List Nat} {x : Nat} (h : x ∈ l) : x ≤ l.sum := by
  induction l with
  | nil => cases h
  | cons y r ih =>
    rw [List.sum_cons]
    rcases List.mem_cons.mp h with rfl | h
    · omega
    · have := ih h; omega
theorem split_each {t x : Str} (h : x ∈ Txt.split t " ") : x.length ≤ t.length := by
  have h1 := sum_len (Txt.split t " ")
  rw [split_back, if_neg (split_ne t)] at h1
  have h2 := mem_sum (List.mem_map.mpr ⟨x, h, rfl⟩ : x.length ∈ (Txt.split t " ").map (·.length))
  have h3 : 1 ≤ (Txt.split t " ").length := by rw [split_count]; omega
  omega
inductive Told where
  | text (p : Nat) | cond | ok (c : Ct)
def toldT (ks : List Bool) (t : Str) : Told := match rd (wordsF t) 64 0 with
  | .bad q => .text q
  | .ok c q => if q < (wordsF t).length then .text q else if szC ks 0 c ≤ 15 then .ok c else .cond
end
section
open PySem PySem.Spec PyProof.Rows L2
open C8 (Cal pe_c pe_gc)
open PySem.NumText (AllDigits digitsVal)
theorem strE {x y : Str} (h : x.cps.toList = y.cps.toList) : x = y := by
  cases x; cases y
  exact congrArg Str.mk (Array.toList_inj.mp h)
theorem str_len {x : Str} : x.length = x.cps.toList.length := (Array.length_toList).symm
theorem str_mk (l : List Nat) : (⟨l.toArray⟩ : Str).length = l.length := by rw [str_len]
theorem str_toL (x : Str) : (⟨x.cps.toList.toArray⟩ : Str) = x := strE rfl
theorem cut_one (x : Str) : cutS x none (some 1) = ⟨(x.cps.toList.take 1).toArray⟩ := by
  refine strE ?_
  unfold cutS
  rw [show (1 : Int) = ((1 : Nat) : Int) from rfl, HT.sIx_nat]
  show ((x.cps.toList.drop 0).take (min 1 x.length - 0)) = x.cps.toList.take 1
  rw [List.drop_zero, Nat.sub_zero, str_len]
  cases x.cps.toList with
  | nil => rfl
  | cons a r => rw [Nat.min_eq_left (by rw [List.length_cons]; omega)]
theorem cut_tl (x : Str) : cutS x (some 1) none = ⟨x.cps.toList.tail.toArray⟩ := by
  refine strE ?_
  unfold cutS
  rw [show (1 : Int) = ((1 : Nat) : Int) from rfl, HT.sIx_nat, HT.sIx_none]
  show ((x.cps.toList.drop (min 1 x.length)).take (x.length - min 1 x.length)) = x.cps.toList.tail
  rw [str_len]
  cases x.cps.toList with
  | nil => rfl
  | cons a r =>
    rw [Nat.min_eq_left (by rw [List.length_cons]; omega), List.length_cons]
    show r.take (r.length + 1 - 1) = r
    rw [Nat.add_sub_cancel, List.take_length]
theorem one_is (l : List Nat) (c : Nat) : decide ((⟨(l.take 1).toArray⟩ : Str) = ⟨#[c]⟩) = decide (l.head? = some c) := by
  refine decide_eq_decide.mpr ⟨fun h => ?_, fun h => ?_⟩
  · have := congrArg (fun s : Str => s.cps.toList) h
    have : l.take 1 = [c] := this
    cases l with
    | nil => cases this
    | cons a r => cases this; rfl
  · cases l with
    | nil => cases h
    | cons a r => cases h; rfl
theorem sgn_minus : ("-" : Str) = ⟨#[45]⟩ := by decide +kernel
theorem sgn_eq : ("=" : Str) = ⟨#[61]⟩ := by decide +kernel
theorem sgn_nul : ("0" : Str) = ⟨#[48]⟩ := by decide +kernel
theorem figures_is : ("0123456789" : Str).cps.toList = (List.range 10).map (48 + ·) := by decide
theorem in_figs (k : Nat) : decide (k ∈ ("0123456789" : Str).cps.toList) = isFig k := by
  unfold isFig
  rw [figures_is, decide_eq_decide, List.mem_map]
  constructor
  · rintro ⟨i, hi, rfl⟩
    have := List.mem_range.mp hi
    omega
  · intro h
    exact ⟨k - 48, List.mem_range.mpr (by omega), by omega⟩
theorem fil_not {α β : Type} (p : α → Bool) (f : α → β) (l : List α) : ((l.filter fun k => !p k).map f).isEmpty = l.all p := by
  rw [List.isEmpty_map]
  induction l with
  | nil => rfl
  | cons k r ih =>
    rw [List.all_cons, List.filter_cons]
    cases p k with
    | true => simpa using ih
    | false => simp
def okS (t : Str) : Prop := ∀ k ∈ t.cps.toList, k < 128
theorem okS_str {t : Str} (h : okS t) : PyData.strOk t = true := by
  unfold PyData.strOk
  rw [← Array.all_toList, List.all_eq_true]
  intro k hk
  have := h k hk
  simp
  omega
def nword (l : List Nat) : Option Int := if (figsOk (bareL l) && canonL l) = true then some (numV l) else none
def optN : Option Int → Dt
  | none => .non
  | some n => .int n
def S_number_of (ds : List Dt) (Q : Dt → Prop) : Prop := ∃ w : Str, ds = [.str w] ∧ w.length ≤ 90000 ∧ okS w ∧ Q (optN (nword w.cps.toList))
abbrev sp_number_of (K : PySem.W.Frag) : Sp := spP K S_number_of
theorem bare_len (l : List Nat) : (bareL l).length ≤ l.length := by
  unfold bareL
  split
  · rw [List.length_tail]; omega
  · exact Nat.le_refl _
theorem bare_mem {l : List Nat} {k : Nat} (h : k ∈ bareL l) : k ∈ l := by
  unfold bareL at h
  split at h
  · exact List.mem_of_mem_tail h
  · exact h
theorem ok_number_of {P : Program} {w : World} {K : PySem.W.Frag} {mg : Str → Option Value} {base : Heap} (T : Txt w K mg)  : Cal P w K mg base 1 "number_of" (sp_number_of K) [] := by
  refine cal_pure T.f_number_of sc_number_of ?len fun f cdv A outer s H E hr => ⟨_, (pss_cons (ps_set (i := 1) sc_number_of.nd rfl (Or.inl rfl) (pe_ifExp (pt_cmpR (op_eqU hr.units) (pe_slice sl_str (pv 0) po_none (po_some pe_int)) pe_str (nomark _)) (pe_slice sl_str (pv 0) (po_some pe_int) po_none) (pv 0)))
      (pss_cons (ps_if ((pw_or (pt_not (pt_chain op_leU op_leU pe_int (pe_callB cl_len (by rfl) T.b_len PySem.boot_len (pa_cons (pv 1) pa_nil)) (pe_gc (by rfl) T.k_MOST_FIGURES))) (pw_or1 (pt_cmpR (op_neU hr.units) (pe_lc (g := (gName 2)) (tt := (tTest (tOp (rNotInU K) (tVar 2) (tC (.str "0123456789"))))) (te := (tVar 2)) (own := [("sign", 2)]) rfl sc_number_of.nd (pi_str (pv 1)) (blkOk_by (N := ["word", "bare", "sign"]) (sc := defScope s_number_of) (by decide +kernel)) (fun _ _ _ _ _ => (pg_name (i := 2) sc_number_of.nd rfl (Or.inl rfl))) (fun _ _ _ _ _ => (pts_one (pt_cmpR op_notInU (pv 2) (pe_gc (by rfl) T.k_FIGURES) rfl))) (fun _ _ _ _ _ => (pv 2))) (pe_lst pa_nil) (nomark _))))).pt (pss_one (ps_ret pe_non)) pss_nil)
      (pss_cons (ps_if ((pw_and (pt_cmpR (op_eqU hr.units) (pe_ix ix_seq (pv 1) pe_int (fun _ _ => rfl)) pe_str (nomark _)) (pw_and1 (pt_cmpR (op_neU hr.units) (pv 0) pe_str (nomark _))))).pt (pss_one (ps_ret pe_non)) pss_nil)
      (pss_one (ps_ret (pe_callTy cl_intS (by rfl) T.b_int (by decide +kernel) (pa_cons (pv 0) pa_nil))))))), ?body⟩
  case' body => try dsimp only [cxD, cxOf]
  case len => rintro ds Q ⟨_, rfl, _⟩; rfl
  case body =>
    rintro ds Q ⟨w, rfl, hl, hok, hq⟩ hid H0 D dom hD
    obtain ⟨l, hll⟩ : ∃ l, l = w.cps.toList := ⟨_, rfl⟩
    have hwl : w.length = l.length := by rw [hll]; exact str_len
    show NJ _ _ _ _ [.im (.str w), .un, .un]
    refine q_asg (EV.imp (Q := fun d => d = .str ⟨(bareL l).toArray⟩) ?_ ?_)
    · refine ev_if (et_test (ev_op (ev_slS (ev_var rfl (strJ ⟨by omega, eo_none (eo_some (ev_int (intJ (ev_str (eq_s (blJ ⟨fun z => ?_, fun z => ?_⟩))))))⟩)))))
      · rw [cut_one, sgn_minus, one_is] at z
        refine ev_slS (ev_var rfl (strJ ⟨by omega, eo_some (ev_int (intJ (eo_none ?_)))⟩))
        rw [cut_tl, ← hll]
        unfold bareL
        rw [if_pos (by rw [hll]; exact of_decide_eq_true z)]
      · rw [cut_one, sgn_minus, one_is] at z
        refine ev_var rfl ?_
        unfold bareL
        rw [if_neg (by rw [hll]; exact of_decide_eq_false z), hll, str_toL]
    rintro _ rfl
    walk_at "nm"
    have hbl := str_mk (bareL l)
    have hbw := bare_len l
    obtain ⟨b, hb⟩ : ∃ b, b = bareL l := ⟨_, rfl⟩
    rw [← hb] at hbl hbw ⊢
    have hno : ∀ (D' : Ends) (ρ : List Sl), D'.rt = D.rt → figsOk b = false ∨ canonL l = false → NJ (Cn.pure K) hid H0 (tRet (tC .non) D') ρ := fun D' ρ e h => by
      refine nj_ret (ev_non ?_)
      rw [e]
      refine hD.rt _ (cast (congrArg Q ?_) hq)
      unfold nword
      rw [← hll, ← hb, if_neg (by rcases h with h | h <;> rw [h] <;> simp)]; rfl
    refine q_when ?_
    walk_at "go"
    refine len_s (by omega) ?_
    walk_at "go"
    rw [hbl]
    by_cases h1 : 1 ≤ b.length
    · refine bl_yes (decide_eq_true (by omega)) ?_
      walk_at "go"
      by_cases h4 : b.length ≤ 4
      · refine or_no (by rw [decide_eq_true (by omega)]; rfl) ?_
        walk_at "go"
        refine EN.ev (en_fmS (by decide) ?_)
        walk_at "go"
        refine ⟨by omega, fun k => !isFig k, fun k hk => ?_, ?_⟩
        · walk_at "nm"
          walk_at "go"
          rw [in_figs]
          exact ⟨rfl, fun _ => ev_var rfl rfl⟩
        refine EN.ev (en_lst ?_)
        walk_at "go"
        refine ne_nil (n := 0) (fun d hd => ?_) (by decide) ?_
        · obtain ⟨k, hk, rfl⟩ := List.mem_map.mp hd
          refine .str (okS_str fun j hj => ?_)
          have hj : j ∈ [k] := hj
          rw [List.mem_singleton.mp hj]
          have := (List.mem_filter.mp hk).1
          rw [hb] at this
          exact hok k (hll ▸ bare_mem this)
        have ea : ((((⟨b.toArray⟩ : Str).cps.toList.filter fun k => !isFig k).map fun k => Dt.str ⟨#[k]⟩)).isEmpty = b.all isFig := fil_not isFig _ b
        rw [ea]
        by_cases hfg : b.all isFig = true
        · refine bl_no (by rw [hfg]; rfl) ?_
          have hfo : figsOk b = true := by unfold figsOk; rw [hfg, decide_eq_true ⟨h1, h4⟩]; rfl
          obtain ⟨c, r, hcr⟩ : ∃ c r, b = c :: r := by
            cases q : b with
            | nil => rw [q] at h1; simp at h1
            | cons c r => exact ⟨c, r, rfl⟩
          refine q_when ?_
          walk_at "go"
          refine ix_s (by omega) (d := c) (by show atI b ((0 : Nat) : Int) = _; exact atI_nat (by rw [hcr]; rfl)) ?_
          walk_at "go"
          rw [sgn_nul]
          have e0 : decide ((⟨#[c]⟩ : Str) = ⟨#[48]⟩) = decide (b.head? = some 48) := by
            rw [hcr, ← one_is]; rfl
          rw [e0]
          have ew : decide (w = ⟨#[48]⟩) = decide (l = [48]) := decide_eq_decide.mpr ⟨fun z => by rw [hll, z], fun z => strE (hll ▸ z)⟩
          have hyes : ∀ (D' : Ends) (b' : Dt) , D'.rt = D.rt → canonL l = true → NJ (Cn.pure K) hid H0 (tRet (tCB rIntS (tCons (tVar 0) tNil)) D') [.im (.str w), .im b', .un] := fun D' b' e h => by
            have hr := num_read (w := w) (by rw [← hll, ← hb]; exact hfo)
            refine nj_ret (ev_cb (ea_cons (ev_var rfl (ea_nil (int_s hr.1 (by omega) ?_)))))
            rw [e]
            refine hD.rt _ (cast (congrArg Q ?_) hq)
            unfold nword
            rw [← hll, ← hb, hfo, h]; rfl
          by_cases h0 : b.head? = some 48
          · rw [decide_eq_true h0]
            refine bl_yes rfl ?_
            walk_at "go"
            by_cases hw : l = [48]
            · refine bl_no (by rw [ew, decide_eq_true hw]; rfl) ?_
              exact hyes _ _ rfl (by unfold canonL; rw [decide_eq_true hw, Bool.or_true])
            · refine bl_yes (by rw [ew, decide_eq_false hw]; rfl) ?_
              exact hno _ _ rfl (.inr (by unfold canonL; rw [decide_eq_false hw, ← hb, decide_eq_true h0]; rfl))
          · rw [decide_eq_false h0]
            refine bl_no rfl (bl_no rfl ?_)
            exact hyes _ _ rfl (by unfold canonL; rw [← hb, decide_eq_false h0]; rfl)
        · refine bl_yes (by rw [Bool.eq_false_iff.mpr hfg]; rfl) ?_
          exact hno _ _ rfl (.inl (by unfold figsOk; rw [Bool.eq_false_iff.mpr hfg, Bool.and_false]))
      · refine or_yes (by rw [decide_eq_false (by omega)]; rfl) (bl_yes rfl ?_)
        exact hno _ _ rfl (.inl (by unfold figsOk; rw [decide_eq_false (by omega), Bool.false_and]))
    · refine bl_no (decide_eq_false (by omega)) ?_
      refine or_yes rfl (bl_yes rfl ?_)
      exact hno _ _ rfl (.inl (by unfold figsOk; rw [decide_eq_false (by omega), Bool.false_and]))
def vsec (w : Str) : Dt := if w.cps.toList.head? = some 61 then .str ⟨w.cps.toList.tail.toArray⟩ else optN (nword w.cps.toList)
theorem vsec_some {w : Str} {v : Val} (h : vword w = some v) : vsec w = v.dt := by
  unfold vword at h
  unfold vsec
  by_cases z : w.cps.toList.head? = some 61
  · rw [if_pos z] at h ⊢
    split at h
    · cases h; rfl
    · cases h
  · rw [if_neg z] at h ⊢
    unfold nword
    split at h
    · rename_i hc
      cases h
      rw [if_pos hc]; rfl
    · cases h
def S_value_of_word (ds : List Dt) (Q : Dt → Prop) : Prop := ∃ w : Str, ds = [.str w] ∧ w.length ≤ 90000 ∧ okS w ∧ Q (.tup [.bl (vword w).isSome, vsec w])
abbrev sp_value_of_word (K : PySem.W.Frag) : Sp := spP K S_value_of_word
theorem ok_value_of_word {P : Program} {w : World} {K : PySem.W.Frag} {mg : Str → Option Value} {base : Heap} (T : Txt w K mg) (c_is_word : Cal P w K mg base 1 "is_word" (sp_is_word K) []) (c_number_of : Cal P w K mg base 1 "number_of" (sp_number_of K) []) : Cal P w K mg base 2 "value_of_word" (sp_value_of_word K) [] := by
  refine cal_pure T.f_value_of_word sc_value_of_word ?len fun f cdv A outer s H E hr => ⟨_, (pss_cons (ps_if (pt_cmpR (op_eqU hr.units) (pe_slice sl_str (pv 0) po_none (po_some pe_int)) (pe_gc (by rfl) T.k_SIGN) (nomark _)) (pss_one (ps_ret (pe_tup (pa_cons (pe_c c_is_word hr (by decide) (by rfl) (pa_cons (pe_slice sl_str (pv 0) (po_some pe_int) po_none) pa_nil)) (pa_cons (pe_slice sl_str (pv 0) (po_some pe_int) po_none) pa_nil))))) pss_nil)
      (pss_cons (ps_set (i := 1) sc_value_of_word.nd rfl (Or.inl rfl) (pe_c c_number_of hr (by decide) (by rfl) (pa_cons (pv 0) pa_nil)))
      (pss_one (ps_ret (pe_tup (pa_cons (pe_cmpR op_isNotU (pv 1) pe_non (nomark _)) (pa_cons (pv 1) pa_nil))))))), ?body⟩
  case' body => try dsimp only [cxD, cxOf]
  case len => rintro ds Q ⟨_, rfl, _⟩; rfl
  case body =>
    rintro ds Q ⟨w, rfl, hl, hok, hq⟩ hid H0 D dom hD
    show NJ _ _ _ _ [.im (.str w), .un]
    refine q_when (etj (et_test (ev_op (ev_slS (ev_var rfl (strJ ⟨by omega, eo_none (eo_some (ev_int (intJ ?_)))⟩))))))
    walk_at "go"
    rw [cut_one, sgn_eq, one_is]
    have hlt : (⟨w.cps.toList.tail.toArray⟩ : Str).length ≤ w.length := by
      rw [str_mk, str_len, List.length_tail]; omega
    refine ⟨fun z => ?_, fun z => ?_⟩
    · have z := of_decide_eq_true z
      refine nj_ret (ev_tup (ea_cons (ev_call (ea_cons (ev_slS (ev_var rfl (strJ ⟨by omega, eo_some (ev_int (intJ (eo_none ?_)))⟩)))))))
      rw [cut_tl]
      have hfl : flatD (.str ⟨w.cps.toList.tail.toArray⟩) = true := Bool.and_eq_true_iff.mpr ⟨decide_eq_true (by omega), okS_str fun k hk => hok k (List.mem_of_mem_tail hk)⟩
      refine ea_nil (sp_j (S := S_is_word) ⟨.str ⟨w.cps.toList.tail.toArray⟩, rfl, hfl, ?_⟩)
      refine ea_cons (ev_slS (ev_var rfl (strJ ⟨by omega, eo_some (ev_int (intJ (eo_none ?_)))⟩)))
      rw [cut_tl]
      refine ea_nil ⟨by show 2 ≤ 100000; omega, hD.rt _ (cast (congrArg Q ?_) hq)⟩
      unfold vsec vword
      rw [if_pos z, if_pos z]
      have e : isWordD (.str ⟨w.cps.toList.tail.toArray⟩) = (if w.cps.toList.tail.length ≤ 6 ∧ w.cps.toList.tail.all isLet = true then some (Val.s ⟨w.cps.toList.tail.toArray⟩) else none).isSome := by
        show (decide ((⟨w.cps.toList.tail.toArray⟩ : Str).length ≤ 6) && w.cps.toList.tail.all isLet) = _
        rw [str_mk]
        by_cases y : w.cps.toList.tail.length ≤ 6 ∧ w.cps.toList.tail.all isLet = true
        · rw [if_pos y, decide_eq_true y.1, y.2]; rfl
        · rw [if_neg y]
          exact Bool.eq_false_iff.mpr fun q => y ⟨of_decide_eq_true (Bool.and_eq_true_iff.mp q).1, (Bool.and_eq_true_iff.mp q).2⟩
      rw [e]
    · have z := of_decide_eq_false z
      refine q_asg (ev_call (ea_cons (ev_var rfl (ea_nil (sp_j (S := S_number_of) ⟨w, rfl, hl, hok, ?_⟩)))))
      walk_at "nm"
      have e1 : vsec w = optN (nword w.cps.toList) := by unfold vsec; rw [if_neg z]
      have e2 : (vword w).isSome = (nword w.cps.toList).isSome := by
        unfold vword nword
        rw [if_neg z]
        split <;> rfl
      rw [e1, e2] at hq
      refine nj_ret ?_
      generalize nword w.cps.toList = o at hq ⊢
      cases o with
      | none =>
        walk_at "go"
        exact hD.rt _ hq
      | some n =>
        walk_at "go"
        exact hD.rt _ hq
end
section
open PySem PySem.Spec PyProof.Rows L2
open C8 (Cal pe_c pe_gc)
def colB (ks : List Bool) : Val → Bool
  | .i k => decide (0 ≤ k ∧ k < ks.length)
  | .s _ => false
def VW (v : Val) : Prop := ∃ y, vword y = some v
theorem vw_flat {v : Val} (h : VW v) : flatD v.dt = true ∧ ∀ w, isValD w v.dt = decide (vkind v = w) := by
  obtain ⟨y, hy⟩ := h
  unfold vword at hy
  split at hy
  · split at hy
    · rename_i hz hc
      cases hy
      have hall := List.all_eq_true.mp hc.2
      have hw : WordOk ⟨y.cps.toList.tail.toArray⟩ := ⟨by rw [str_mk]; exact hc.1, fun k hk => of_decide_eq_true (hall k hk)⟩
      refine ⟨word_flat hw, fun w => ?_⟩
      cases w with
      | true => exact (wordB_iff.mpr hw).trans rfl
      | false => rfl
    · cases hy
  · split at hy
    · rename_i hz hc
      cases hy
      obtain ⟨h1, h2, h3, h4⟩ := num_read (w := y) (Bool.and_eq_true_iff.mp hc).1
      refine ⟨rfl, fun w => ?_⟩
      cases w with
      | true => rfl
      | false => exact (decide_eq_true ⟨h2, h3⟩).trans rfl
    · cases hy
def S_is_part (ds : List Dt) (Q : Dt → Prop) : Prop := ∃ (ks : List Bool) (wd : Str) (xs : List Val) (j : Nat) (v : Val) (s : Nat), ds = [kindsD ks, .tup (.str wd :: xs.map Val.dt), .int ((j + 1 : Nat) : Int), .str ⟨#[s]⟩] ∧ xs[j]? = some v ∧ VW v ∧
  (s = 99 → Q (.bl (colB ks v))) ∧ (s ≠ 99 → ∃ k : Nat, xs[0]? = some (.i (k : Nat)) ∧ ∃ w, ks[k]? = some w ∧ Q (.bl (decide (vkind v = w) && (decide (s = 118) || w))))
abbrev sp_is_part (K : PySem.W.Frag) : Sp := spP K S_is_part
theorem vals_at {wd : Str} {xs : List Val} {j : Nat} {v : Val} (h : xs[j]? = some v) : atI (Dt.str wd :: xs.map Val.dt) ((j + 1 : Nat) : Int) = some v.dt := atI_nat (by
  show (xs.map Val.dt)[j]? = _
  rw [List.getElem?_map, h]; rfl)
theorem chr_is {a b : Nat} : decide ((⟨#[a]⟩ : Str) = ⟨#[b]⟩) = decide (a = b) := decide_eq_decide.mpr ⟨fun z => by
  have := congrArg (fun s : Str => s.cps.toList) z
  exact (List.cons.inj this).1, fun z => by rw [z]⟩
theorem sgn_c : ("c" : Str) = ⟨#[99]⟩ := by decide +kernel
theorem sgn_v : ("v" : Str) = ⟨#[118]⟩ := by decide +kernel
theorem sgn_q : ("q" : Str) = ⟨#[113]⟩ := by decide +kernel
theorem ok_is_part {P : Program} {w : World} {K : PySem.W.Frag} {mg : Str → Option Value} {base : Heap} (T : Txt w K mg) (c_is_value : Cal P w K mg base 2 "is_value" (sp_is_value K) []) : Cal P w K mg base 3 "is_part" (sp_is_part K) [] := by
  refine cal_pure T.f_is_part sc_is_part ?len fun f cdv A outer s H E hr => ⟨_, (pss_cons (ps_if (pt_cmpR (op_eqU hr.units) (pv 3) pe_str (nomark _)) (pss_one (ps_ret (pe_and (pe_callB call_isi (by rfl) T.b_isinstance (by decide +kernel) (pa_cons (pe_ix ix_seq (pv 1) (pv 2) (fun _ _ => rfl)) (pa_cons (pe_bltn (v := .ty "int") (by rfl) T.b_int (by decide +kernel) rfl) pa_nil))) (pe_and (pe_not (pe_callB call_isi (by rfl) T.b_isinstance (by decide +kernel) (pa_cons (pe_ix ix_seq (pv 1) (pv 2) (fun _ _ => rfl)) (pa_cons (pe_bltn (v := .ty "bool") (by rfl) T.b_bool (by decide +kernel) rfl) pa_nil)))) (pe_one (pe_chain op_leU op_ltU pe_int (pe_ix ix_seq (pv 1) (pv 2) (fun _ _ => rfl)) (pe_callB cl_len (by rfl) T.b_len PySem.boot_len (pa_cons (pv 0) pa_nil)))))))) pss_nil)
      (pss_cons (ps_set (i := 4) sc_is_part.nd rfl (Or.inl rfl) (pe_ix ix_seq (pv 0) (pe_ix ix_seq (pv 1) pe_int (fun _ _ => rfl)) (fun _ _ => rfl)))
      (pss_one (ps_ret (pe_and (pe_c c_is_value hr (by decide) (by rfl) (pa_cons (pv 4) (pa_cons (pe_ix ix_seq (pv 1) (pv 2) (fun _ _ => rfl)) pa_nil))) (pe_one (pe_or (pe_cmpR (op_eqU hr.units) (pv 3) pe_str (nomark _)) (pe_one (pe_cmpR (op_eqU hr.units) (pv 4) (pe_gc (by rfl) T.k_WORD) (nomark _)))))))))), ?body⟩
  case' body => try dsimp only [cxD, cxOf]
  case len => rintro ds Q ⟨_, _, _, _, _, _, rfl, _⟩; rfl
  case body =>
    rintro ds Q ⟨ks, wd, xs, j, v, s, rfl, hj, hv, hq1, hq2⟩ hid H0 D dom hD
    show NJ _ _ _ _ [.im (.tup (ks.map fun w => .str (kindS w))), .im (.tup (.str wd :: xs.map Val.dt)), .im (.int ((j + 1 : Nat) : Int)), .im (.str ⟨#[s]⟩), .un]
    refine q_when ?_
    walk_at "go"
    rw [sgn_c, chr_is]
    have at1 := vals_at (wd := wd) hj
    by_cases hs : s = 99
    · refine bl_yes (decide_eq_true hs) ?_
      have hq := hq1 hs
      refine nj_ret ?_
      walk_at "go"
      refine ix_t at1 ?_
      cases v with
      | i n =>
        show _ ∧ _
        refine ⟨rfl, _, k_ii, ?_⟩
        refine ⟨fun _ => ?_, fun z => nomatch z⟩
        walk_at "go"
        refine ix_t at1 ?_
        refine ⟨rfl, _, k_ib, ?_⟩
        refine ⟨fun _ => ?_, fun z => nomatch z⟩
        walk_at "go"
        refine ix_t at1 ?_
        show R2J _ _ _ (.int n) _
        walk_at "go"
        have hq : Q (.bl (decide (0 ≤ n ∧ n < ks.length))) := hq
        by_cases h0 : 0 ≤ n
        · refine bl_yes (decide_eq_true h0) ?_
          walk_at "go"
          show R2J _ _ (.int n) _ _
          walk_at "go"
          refine hD.rt _ (cast (congrArg (fun b => Q (.bl b)) ?_) hq)
          rw [List.length_map]
          exact decide_eq_decide.mpr ⟨fun z => z.2, fun z => ⟨h0, z⟩⟩
        · refine bl_no (decide_eq_false h0) ?_
          refine hD.rt _ (cast (congrArg (fun b => Q (.bl b)) ?_) hq)
          exact decide_eq_false fun z => h0 z.1
      | s x =>
        show _ ∧ _
        refine ⟨rfl, _, k_si, ?_⟩
        exact ⟨(fun z => nomatch z), fun _ => hD.rt _ hq⟩
    · refine bl_no (decide_eq_false hs) ?_
      obtain ⟨k, h0, w, hk, hq⟩ := hq2 hs
      have at0 := vals_at (wd := wd) h0
      refine q_asg ?_
      walk_at "go"
      refine ix_t at0 ?_
      refine ix_t (kinds_at hk) ?_
      walk_at "nm"
      refine nj_ret ?_
      walk_at "go"
      refine ix_t at1 ?_
      walk_at "go"
      refine sp_j ⟨w, v.dt, rfl, (vw_flat hv).1, ?_⟩
      rw [(vw_flat hv).2]
      by_cases hvk : vkind v = w
      · rw [decide_eq_true hvk] at hq ⊢
        refine bl_yes rfl ?_
        walk_at "go"
        rw [sgn_v, chr_is]
        by_cases hs2 : s = 118
        · rw [decide_eq_true hs2] at hq ⊢
          exact or_yes rfl (hD.rt _ hq)
        · rw [decide_eq_false hs2] at hq ⊢
          refine or_no rfl ?_
          walk_at "go"
          refine hD.rt _ (cast (congrArg (fun b => Q (.bl b)) ?_) hq)
          cases w <;> decide
      · rw [decide_eq_false hvk] at hq ⊢
        exact bl_no rfl (hD.rt _ hq)
def svL (w : Str) : List Nat := if w = "all" then [] else if w = "within" then [99, 118, 118] else if w = "begins" then [99, 116] else [99, 118]
theorem nv_cases {w : Str} {k : Nat} (h : nvF w = some k) : (w = "all" ∧ k = 0) ∨ (w = "is" ∧ k = 2) ∨ (w = "less" ∧ k = 2) ∨ (w = "begins" ∧ k = 2) ∨ (w = "within" ∧ k = 3) := by
  unfold nvF at h
  split at h
  · rename_i hw; cases h; exact .inl ⟨hw, rfl⟩
  · split at h
    · rename_i hw
      cases h
      rcases hw with hw | hw | hw
      · exact .inr (.inl ⟨hw, rfl⟩)
      · exact .inr (.inr (.inl ⟨hw, rfl⟩))
      · exact .inr (.inr (.inr (.inl ⟨hw, rfl⟩)))
    · split at h
      · rename_i hw; cases h; exact .inr (.inr (.inr (.inr ⟨hw, rfl⟩)))
      · cases h
theorem nv_shape {w : Str} {k : Nat} (h : nvF w = some k) : (w, (⟨(svL w).toArray⟩ : Str)) ∈ shapesL ∧ (svL w).length = k ∧ PyData.strOk w = true ∧ ∀ j s, (svL w)[j]? = some s → (s = 99 ↔ j = 0) ∧ s ≠ 113 := by
  have key : ∀ w ∈ (["all", "is", "less", "begins", "within"] : List Str), (w, (⟨(svL w).toArray⟩ : Str)) ∈ shapesL ∧ nvF w = some (svL w).length ∧ PyData.strOk w = true ∧ ∀ j : Fin 3, (∀ s ∈ (svL w)[j.1]?, (s = 99 ↔ j.1 = 0) ∧ s ≠ 113) := by decide +kernel
  have hm : w ∈ (["all", "is", "less", "begins", "within"] : List Str) := by
    rcases nv_cases h with ⟨rfl, _⟩ | ⟨rfl, _⟩ | ⟨rfl, _⟩ | ⟨rfl, _⟩ | ⟨rfl, _⟩ <;> simp
  obtain ⟨h1, h2, h3, h4⟩ := key w hm
  have h5 : (svL w).length = k := by rw [h] at h2; exact (Option.some.inj h2).symm
  refine ⟨h1, h5, h3, fun j s hs => ?_⟩
  have hj : j < 3 := by
    have := (List.getElem?_eq_some_iff.mp hs).1
    rcases nv_cases h with ⟨_, rfl⟩ | ⟨_, rfl⟩ | ⟨_, rfl⟩ | ⟨_, rfl⟩ | ⟨_, rfl⟩ <;> omega
  exact h4 ⟨j, hj⟩ s hs
def okB (ks : List Bool) (w : Str) (xs : List Val) (j : Nat) : Bool := match (xs[j]? : Option Val), ((svL w)[j]? : Option Nat) with
  | some v, some s => if s = 99 then colB ks v else match (xs[0]? : Option Val) with
    | some (Val.i k) => decide (vkind v = ks.getD k.toNat false) && (decide (s = 118) || ks.getD k.toNat false)
    | _ => false
  | _, _ => true
theorem two_of {α : Type} {l : List α} (h : l.length = 2) : ∃ a b, l = [a, b] := by
  match l, h with
  | [a, b], _ => exact ⟨a, b, rfl⟩
theorem three_of {α : Type} {l : List α} (h : l.length = 3) : ∃ a b c, l = [a, b, c] := by
  match l, h with
  | [a, b, c], _ => exact ⟨a, b, c, rfl⟩
theorem good_all {ks : List Bool} {w : Str} {xs : List Val} (h : nvF w = some xs.length) : goodV ks w xs = (List.range xs.length).all (okB ks w xs) := by
  rcases nv_cases h with ⟨rfl, e⟩ | ⟨rfl, e⟩ | ⟨rfl, e⟩ | ⟨rfl, e⟩ | ⟨rfl, e⟩
  · rw [List.length_eq_zero_iff.mp e]; rfl
  · obtain ⟨a, b, rfl⟩ := two_of e
    cases a with
    | s x => rfl
    | i k =>
      show (colB ks (.i k) && (decide (vkind b = ks.getD k.toNat false) && true) && true) = (colB ks (.i k) && ((decide (vkind b = ks.getD k.toNat false) && true) && true))
      simp
  · obtain ⟨a, b, rfl⟩ := two_of e
    cases a with
    | s x => rfl
    | i k =>
      show (colB ks (.i k) && (decide (vkind b = ks.getD k.toNat false) && true) && true) = (colB ks (.i k) && ((decide (vkind b = ks.getD k.toNat false) && true) && true))
      simp
  · obtain ⟨a, b, rfl⟩ := two_of e
    cases a with
    | s x => rfl
    | i k =>
      show (colB ks (.i k) && (decide (vkind b = ks.getD k.toNat false) && true) && (false || ks.getD k.toNat false)) = (colB ks (.i k) && ((decide (vkind b = ks.getD k.toNat false) && (false || ks.getD k.toNat false)) && true))
      simp [Bool.and_assoc]
  · obtain ⟨a, b, c, rfl⟩ := three_of e
    cases a with
    | s x => rfl
    | i k =>
      show (colB ks (.i k) && (decide (vkind b = ks.getD k.toNat false) && (decide (vkind c = ks.getD k.toNat false) && true)) && true) = (colB ks (.i k) && ((decide (vkind b = ks.getD k.toNat false) && true) && ((decide (vkind c = ks.getD k.toNat false) && true) && true)))
      simp
theorem ct_q {n : Nat} {c : Ct} (h : CtOk n c) : (∃ (m : Nat) (w : Str) (xs : List Val), n = m + 1 ∧ c = .v w xs ∧ nvF w = some xs.length ∧ ∀ x ∈ xs, VW x) ∨ ∃ (m : Nat) (w : Str) (cs : List Ct), n = m + 1 ∧ (w, (⟨(List.replicate cs.length 113).toArray⟩ : Str)) ∈ shapesL ∧ PyData.strOk w = true ∧ c.dt = .tup (.str w :: cs.map Ct.dt) ∧ (∀ a ∈ cs, CtOk m a) ∧ 1 ≤ cs.length ∧ cs.length ≤ 2 ∧ w ∈ (["not", "and", "or"] : List Str) ∧
    (∀ ks d, szC ks d c = if 7 < d then 16 else 1 + (cs.map (szC ks (d + 1))).sum) ∧ ∀ ks d, lcC ks d c = if 7 < d then 99 else 1 + (cs.map (lcC ks (d + 1))).sum := by
  cases h with
  | v h hx => exact .inl ⟨_, _, _, rfl, rfl, h, hx⟩
  | @q1 m a ha =>
    refine .inr ⟨m, "not", [a], rfl, (by decide +kernel : (("not" : Str), (⟨([113] : List Nat).toArray⟩ : Str)) ∈ shapesL), by decide +kernel, rfl, fun x hx => by rw [List.mem_singleton.mp hx]; exact ha, Nat.le_refl 1, by show 1 ≤ 2; omega, by simp, fun ks d => ?_, fun ks d => ?_⟩
    · rw [szC]; rfl
    · rw [lcC]; rfl
  | @q2 m w a b hw ha hb =>
    refine .inr ⟨m, w, [a, b], rfl, ?_, ?_, rfl, fun x hx => ?_, by show 1 ≤ 2; omega, by show 2 ≤ 2; omega, ?_, fun ks d => ?_, fun ks d => ?_⟩
    · rcases hw with rfl | rfl
      · exact (by decide +kernel : (("and" : Str), (⟨([113, 113] : List Nat).toArray⟩ : Str)) ∈ shapesL)
      · exact (by decide +kernel : (("or" : Str), (⟨([113, 113] : List Nat).toArray⟩ : Str)) ∈ shapesL)
    · rcases hw with rfl | rfl <;> decide +kernel
    · simp only [List.mem_cons, List.not_mem_nil, or_false] at hx
      rcases hx with rfl | rfl <;> assumption
    · rcases hw with rfl | rfl <;> simp
    · rw [szC, Nat.add_assoc]; rfl
    · rw [lcC]; rfl
theorem sh_vw {v : Val} {n : Nat} (h : VW v) : Sh n v.dt := by
  have := (vw_flat h).1
  cases v with
  | i k => exact .int _
  | s x => exact .str (Bool.and_eq_true_iff.mp this).2
theorem sh_ct : ∀ (n : Nat) (c : Ct), CtOk n c → Sh n c.dt
  | n, c, h => by
    rcases ct_q h with ⟨m, w, xs, rfl, rfl, hw, hx⟩ | ⟨m, w, cs, rfl, _, hw, hd, hc, _⟩
    · refine .tup fun d hd => ?_
      rcases List.mem_cons.mp hd with rfl | hd
      · exact .str (nv_shape hw).2.2.1
      · obtain ⟨v, hv, rfl⟩ := List.mem_map.mp hd
        exact sh_vw (hx v hv)
    · rw [hd]
      refine .tup fun d hd => ?_
      rcases List.mem_cons.mp hd with rfl | hd
      · exact .str hw
      · obtain ⟨a, ha, rfl⟩ := List.mem_map.mp hd
        exact sh_ct m a (hc a ha)
  termination_by n => n
  decreasing_by omega
def S_size_of (n : Nat) (ds : List Dt) (Q : Dt → Prop) : Prop := ∃ (ks : List Bool) (c : Ct) (dp m : Nat), ds = [kindsD ks, c.dt, .int (dp : Nat)] ∧ KindsOk ks ∧ CtOk m c ∧ m ≤ 64 ∧ 8 < dp + n ∧ dp ≤ 8 ∧ Q (.int (szC ks dp c : Nat))
abbrev sp_size_of (n : Nat) (K : PySem.W.Frag) : Sp := spP K (S_size_of n)
theorem shp_x {w s : Str} (h : (w, s) ∈ shapesL) : decide (s = "x") = false := by
  have : ∀ q ∈ shapesL, decide (q.2 = ("x" : Str)) = false := by decide +kernel
  exact this _ h
theorem shp_len {w s : Str} (h : (w, s) ∈ shapesL) : s.length ≤ 3 := by
  have : ∀ q ∈ shapesL, q.2.length ≤ 3 := by decide +kernel
  exact this _ h
theorem ok_size_of {P : Program} {w : World} {K : PySem.W.Frag} {mg : Str → Option Value} {base : Heap} (T : Txt w K mg) (c_is_part : Cal P w K mg base 3 "is_part" (sp_is_part K) []) (n : Nat) : Cal P w K mg base (n + 4) "size_of" (sp_size_of n K) [] := by
  obtain ⟨_, _, D_SHAPES⟩ := T.d_SHAPES
  induction n with
  | zero =>
    refine cal_pure T.f_size_of sc_size_of ?len fun f cdv A outer s H E hr => ⟨_, pss_never, ?body⟩
    case' body => try dsimp only [cxD, cxOf]
    case len => rintro ds Q ⟨_, _, _, _, rfl, _⟩; rfl
    case body =>
      rintro ds Q ⟨ks, c, dp, m, rfl, hk, hc, hm, hd, hd2, hq⟩ hid H0 D dom hD
      omega
  | succ n ih =>
    have c_size_of := ih
    refine cal_pure T.f_size_of sc_size_of ?len fun f cdv A outer s H E hr => ⟨_, (pss_cons (ps_if ((pw_or (pt_cmpR op_gtU (pv 2) (pe_gc (by rfl) T.k_MOST_WITHIN) (nomark _)) (pw_or (pt_not (pt_val (pe_callB call_isi (by rfl) T.b_isinstance (by decide +kernel) (pa_cons (pv 1) (pa_cons (pe_bltn (v := .ty "tuple") (by rfl) T.b_tuple (by decide +kernel) rfl) pa_nil))))) (pw_or (pt_cmpR (op_eqU hr.units) (pv 1) (pe_tup pa_nil) (nomark _)) (pw_or1 (pt_not (pt_val (pe_callB call_isi (by rfl) T.b_isinstance (by decide +kernel) (pa_cons (pe_ix ix_seq (pv 1) pe_int (fun _ _ => rfl)) (pa_cons (pe_bltn (v := .ty "str") (by rfl) T.b_str (by decide +kernel) rfl) pa_nil)))))))))).pt (pss_one (ps_ret (pe_op op_addU (pe_gc (by rfl) T.k_MOST_CONDITIONS) pe_int))) pss_nil)
      (pss_cons (ps_set (i := 3) sc_size_of.nd rfl (Or.inl rfl) (pe_kget D_SHAPES (pe_gc (by rfl) T.k_SHAPES) (pe_ix ix_seq (pv 1) pe_int (fun _ _ => rfl)) pe_str ⟨rfl, rfl, rfl, rfl⟩))
      (pss_cons (ps_if ((pw_or (pt_cmpR (op_eqU hr.units) (pv 3) pe_str (nomark _)) (pw_or1 (pt_cmpR (op_neU hr.units) (pe_callB cl_len (by rfl) T.b_len PySem.boot_len (pa_cons (pv 1) pa_nil)) (pe_op op_addU (pe_callB cl_len (by rfl) T.b_len PySem.boot_len (pa_cons (pv 3) pa_nil)) pe_int) (nomark _))))).pt (pss_one (ps_ret (pe_op op_addU (pe_gc (by rfl) T.k_MOST_CONDITIONS) pe_int))) pss_nil)
      (pss_cons (ps_set (i := 4) sc_size_of.nd rfl (Or.inl rfl) pe_int)
      (pss_cons (ps_for PassesOwn.never rfl (pi_range1 (by rfl) T.b_range (pa_cons (pe_callB cl_len (by rfl) T.b_len PySem.boot_len (pa_cons (pv 3) pa_nil)) pa_nil)) (pg_name (i := 5) sc_size_of.nd rfl (Or.inl rfl)) (pss_one (ps_if (pt_cmpR (op_eqU hr.units) (pe_ix ix_seq (pv 3) (pv 5) (fun _ _ => rfl)) pe_str (nomark _)) (pss_one (ps_set (i := 4) sc_size_of.nd rfl (Or.inl rfl) (pe_op op_addU (pv 4) (pe_c c_size_of hr (Nat.le_refl _) (by rfl) (pa_cons (pv 0) (pa_cons (pe_ix ix_seq (pv 1) (pe_op op_addU (pv 5) pe_int) (fun _ _ => rfl)) (pa_cons (pe_op op_addU (pv 2) pe_int) pa_nil))))))) (pss_one (ps_if (pt_not (pt_val (pe_c c_is_part hr (by omega) (by rfl) (pa_cons (pv 0) (pa_cons (pv 1) (pa_cons (pe_op op_addU (pv 5) pe_int) (pa_cons (pe_ix ix_seq (pv 3) (pv 5) (fun _ _ => rfl)) pa_nil))))))) (pss_one (ps_ret (pe_op op_addU (pe_gc (by rfl) T.k_MOST_CONDITIONS) pe_int))) pss_nil)))))
      (pss_one (ps_ret (pv 4)))))))), ?body⟩
    case' body => try dsimp only [cxD, cxOf]
    case len => rintro ds Q ⟨_, _, _, _, rfl, _⟩; rfl
    case body =>
      rintro ds Q ⟨ks, c, dp, m, rfl, hk, hc, hm, hd, hd2, hq⟩ hid H0 D dom hD
      have hsh := sh_ct m c hc
      show NJ _ _ _ _ [.im (kindsD ks), .im c.dt, .im (.int (dp : Nat)), .un, .un, .un]
      obtain ⟨w, ps, hdt, hfw⟩ : ∃ w ps, c.dt = .tup (.str w :: ps) ∧ PyData.strOk w = true := by
        rcases ct_q hc with ⟨m, w, xs, rfl, rfl, hw, hx⟩ | ⟨m, w, cs, rfl, _, hw, hd, hc, _⟩
        · exact ⟨w, _, rfl, (nv_shape hw).2.2.1⟩
        · exact ⟨w, _, hd, hw⟩
      refine q_when ?_
      walk_at "go"
      by_cases hdp : 7 < dp
      · refine or_yes (decide_eq_true (by omega)) (bl_yes rfl ?_)
        refine nj_ret ?_
        walk_at "go"
        refine hD.rt _ (cast (congrArg Q ?_) hq)
        have : szC ks dp c = 16 := by
          rcases ct_q hc with ⟨m, w, xs, rfl, rfl, hw, hx⟩ | ⟨m, w, cs, rfl, _, hw, hd, hc, _, _, _, h1, _⟩
          · unfold szC
            rw [if_pos hdp]
          · rw [h1, if_pos hdp]
        rw [this]; rfl
      refine or_no (decide_eq_false (by omega)) ?_
      walk_at "go"
      rw [hdt] at hsh ⊢
      refine ⟨rfl, _, k_tt, ?_⟩
      refine or_no rfl ?_
      walk_at "go"
      refine eq_d hsh (m := 1) (.tup fun d hd => by cases hd) (by omega) (by decide) ?_
      refine or_no rfl ?_
      walk_at "go"
      refine ⟨rfl, _, k_ss, ?_⟩
      refine bl_no rfl ?_
      refine q_asg (ev_kget T.v_SHAPES ?_)
      walk_at "go"
      rcases ct_q hc with ⟨m, w', xs, rfl, rfl, hw, hx⟩ | ⟨m, w', cs, rfl, hsp, _, hdt', hcs, hcl, hcl2, _, hsz, _⟩
      · cases hdt
        obtain ⟨s1, s2, s3, s4⟩ := nv_shape hw
        have hl3 := shp_len s1
        have hl4 : xs.length ≤ 3 := by rw [← s2, ← str_mk]; exact hl3
        refine ⟨_, s1, ?_⟩
        walk_at "nm"
        refine q_when ?_
        walk_at "go"
        refine or_no (shp_x s1) ?_
        walk_at "go"
        refine len_s (by omega) ?_
        walk_at "go"
        rw [str_mk, s2]
        refine bl_no (by rw [List.length_cons, List.length_map, decide_eq_true (by omega)]; rfl) ?_
        refine q_asg ?_
        walk_at "go"
        walk_at "nm"
        refine q_for (ij_rng1 ?_)
        walk_at "go"
        refine len_s (by omega) ?_
        walk_at "go"
        rw [str_mk, s2]
        have hgood := good_all (ks := ks) hw
        have hsz : szC ks dp (.v w xs) = if goodV ks w xs = true then 1 else 16 := by
          rw [szC, if_neg hdp]
        refine ⟨_, rfl, by omega, by omega, fun i ρ' => (∀ j, j < i → okB ks w xs j = true) ∧ ρ' = [.im (kindsD ks), .im (.tup (.str w :: xs.map Val.dt)), .im (.int (dp : Nat)), .im (.str ⟨(svL w).toArray⟩), .im (.int 1), .un], ⟨fun j hj => absurd hj (Nat.not_lt_zero _), rfl⟩, ?_, ?_⟩
        · rintro H1 e1 i d ρ' hi ⟨hall, rfl⟩
          obtain ⟨hi, rfl⟩ := rangeD_at hi
          have hi2 : i < xs.length := by omega
          have hxi : xs[i]? = some xs[i] := List.getElem?_eq_getElem hi2
          have hsi : (svL w)[i]? = some ((svL w)[i]'(by omega)) := List.getElem?_eq_getElem _
          have hvx := hx _ (List.getElem_mem hi2)
          generalize xs[i] = v at hxi hvx
          generalize (svL w)[i]'(by omega) = s at hsi
          obtain ⟨s5, s6⟩ := s4 i s hsi
          refine tg_name ?_
          walk_at "nm"
          rw [Int.zero_add]
          refine nj_if ?_
          walk_at "go"
          have hat : atI (⟨(svL w).toArray⟩ : Str).cps.toList ((i : Nat) : Int) = some s := atI_nat hsi
          refine ix_s (by rw [str_mk]; omega) hat ?_
          walk_at "go"
          rw [sgn_q, chr_is]
          refine bl_no (decide_eq_false s6) ?_
          refine nj_when ?_
          walk_at "go"
          refine ix_s (by rw [str_mk]; omega) hat ?_
          walk_at "go"
          have hok : okB ks w xs i = if s = 99 then colB ks v else match (xs[0]? : Option Val) with
            | some (Val.i k) => decide (vkind v = ks.getD k.toNat false) && (decide (s = 118) || ks.getD k.toNat false)
            | _ => false := by unfold okB; rw [hxi, hsi]
          have hq16 : okB ks w xs i = false → Q (.int 16) := fun h => by
            rw [hsz, if_neg (by
              rw [hgood]
              intro z
              have := List.all_eq_true.mp z i (List.mem_range.mpr hi2)
              rw [h] at this; cases this)] at hq
            exact hq
          have hnext : okB ks w xs i = true → ∀ j, j < i + 1 → okB ks w xs j = true := fun h j hj => by
            by_cases z : j = i
            · rw [z]; exact h
            · exact hall j (by omega)
          refine sp_j (S := S_is_part) ⟨ks, w, xs, i, v, s, by rw [Int.natCast_add]; rfl, hxi, hvx, fun h99 => ?_, fun hn99 => ?_⟩
          · rw [if_pos h99] at hok
            rw [hok] at hq16 hnext
            refine ⟨fun z => ?_, fun z => ?_⟩
            · have z : colB ks v = false := by simpa using z
              refine nj_ret ?_
              walk_at "go"
              exact (hD.rt _ (hq16 z)).base e1
            · have z : colB ks v = true := by simpa using z
              refine nj_nxw _ ⟨hnext z, rfl⟩ ?_
              walk_at "le"
          · rw [if_neg hn99] at hok
            have hi0 : i ≠ 0 := fun z => hn99 (s5.mpr z)
            have h0 := hall 0 (by omega)
            have hx0 : xs[0]? = some (xs[0]'(by omega)) := List.getElem?_eq_getElem _
            have hs0 : (svL w)[0]? = some ((svL w)[0]'(by omega)) := List.getElem?_eq_getElem _
            have e99 := (s4 0 _ hs0).1.mpr rfl
            generalize (svL w)[0]'(by omega) = s0 at hs0 e99
            generalize xs[0]'(by omega) = x0 at hx0
            have hc0 : colB ks x0 = true := by
              unfold okB at h0
              rw [hx0, hs0] at h0
              dsimp only at h0
              rw [if_pos e99] at h0
              exact h0
            cases x0 with
            | s y => cases hc0
            | i k =>
              have hc0 := of_decide_eq_true hc0
              obtain ⟨k, rfl⟩ := Int.eq_ofNat_of_zero_le hc0.1
              have hkl : k < ks.length := by omega
              have hk2 : ks[k]? = some ks[k] := List.getElem?_eq_getElem hkl
              have hgd : ks.getD ((k : Nat) : Int).toNat false = ks[k] := by rw [Int.toNat_natCast, List.getD_eq_getElem?_getD, hk2]; rfl
              refine ⟨k, hx0, ks[k], hk2, ?_⟩
              rw [hx0] at hok
              dsimp only at hok
              rw [hgd] at hok
              generalize (decide (vkind v = ks[k]) && (decide (s = 118) || ks[k])) = bb at hok ⊢
              rw [hok] at hq16 hnext
              refine ⟨fun z => ?_, fun z => ?_⟩
              · have z : bb = false := by simpa using z
                refine nj_ret ?_
                walk_at "go"
                exact (hD.rt _ (hq16 z)).base e1
              · have z : bb = true := by simpa using z
                refine nj_nxw _ ⟨hnext z, rfl⟩ ?_
                walk_at "le"
        · rintro ρ' ⟨hall, rfl⟩
          rw [rangeD_len, Int.toNat_natCast] at hall
          refine nj_ret ?_
          walk_at "go"
          refine hD.rt _ (cast (congrArg Q ?_) hq)
          rw [hsz, if_pos (by rw [hgood]; exact List.all_eq_true.mpr fun j hj => hall j (List.mem_range.mp hj))]; rfl
      · rw [hdt] at hdt'
        cases hdt'
        have hl2 : (⟨(List.replicate cs.length 113).toArray⟩ : Str).length = cs.length := by rw [str_mk, List.length_replicate]
        refine ⟨_, hsp, ?_⟩
        walk_at "nm"
        refine q_when ?_
        walk_at "go"
        refine or_no (shp_x hsp) ?_
        walk_at "go"
        refine len_s (by omega) ?_
        walk_at "go"
        rw [hl2]
        refine bl_no (by rw [List.length_cons, List.length_map, decide_eq_true (by omega)]; rfl) ?_
        refine q_asg ?_
        walk_at "go"
        walk_at "nm"
        refine q_for (ij_rng1 ?_)
        walk_at "go"
        refine len_s (by omega) ?_
        walk_at "go"
        rw [hl2]
        have hszc := hsz ks dp
        rw [if_neg hdp] at hszc
        refine ⟨_, rfl, by omega, by omega, fun i ρ' => ρ' = [.im (kindsD ks), .im (.tup (.str w :: cs.map Ct.dt)), .im (.int (dp : Nat)), .im (.str ⟨(List.replicate cs.length 113).toArray⟩), .im (.int ((1 + ((cs.take i).map (szC ks (dp + 1))).sum : Nat) : Int)), .un], rfl, ?_, ?_⟩
        · rintro H1 e1 i d ρ' hi rfl
          obtain ⟨hi, rfl⟩ := rangeD_at hi
          have hi2 : i < cs.length := by omega
          have hci : cs[i]? = some cs[i] := List.getElem?_eq_getElem hi2
          have hca := hcs _ (List.getElem_mem hi2)
          generalize cs[i] = a at hci hca
          refine tg_name ?_
          walk_at "nm"
          rw [Int.zero_add]
          refine nj_if ?_
          walk_at "go"
          have hat : atI (⟨(List.replicate cs.length 113).toArray⟩ : Str).cps.toList ((i : Nat) : Int) = some 113 := atI_nat (by
            show (List.replicate cs.length 113)[i]? = _
            rw [List.getElem?_replicate, if_pos hi2])
          refine ix_s (by omega) hat ?_
          walk_at "go"
          rw [sgn_q, chr_is]
          refine bl_yes rfl ?_
          refine nj_asg ?_
          walk_at "go"
          refine ix_t (d := a.dt) (atI_nat (by
            show (cs.map Ct.dt)[i]? = _
            rw [List.getElem?_map, hci]; rfl)) ?_
          walk_at "go"
          refine sp_j (S := S_size_of n) ⟨ks, a, dp + 1, _, by rw [Int.natCast_add]; rfl, hk, hca, by omega, by omega, by omega, ?_⟩
          walk_at "go"
          refine nj_nxw _ rfl ?_
          have e : ((cs.take (i + 1)).map (szC ks (dp + 1))).sum = ((cs.take i).map (szC ks (dp + 1))).sum + szC ks (dp + 1) a := by rw [take_at hci, List.map_append, List.sum_append]; simp
          rw [e, show ((1 + (((cs.take i).map (szC ks (dp + 1))).sum + szC ks (dp + 1) a) : Nat) : Int) = ((1 + ((cs.take i).map (szC ks (dp + 1))).sum : Nat) : Int) + ((szC ks (dp + 1) a : Nat) : Int) by omega]
          walk_at "le"
        · rintro ρ' rfl
          rw [rangeD_len, Int.toNat_natCast, List.take_length, ← hszc]
          refine nj_ret ?_
          walk_at "go"
          exact hD.rt _ hq
def S_need_condition (ds : List Dt) (Q : Dt → Prop) (R : Str → Option Int → Prop) : Prop := ∃ (ks : List Bool) (c : Ct) (m : Nat), ds = [kindsD ks, c.dt] ∧ KindsOk ks ∧ CtOk m c ∧ m ≤ 64 ∧ (szC ks 0 c ≤ 15 → Q .non) ∧ (15 < szC ks 0 c → R "BadCondition" none)
abbrev sp_need_condition (K : PySem.W.Frag) : Sp := spY K S_need_condition
theorem ok_need_condition {P : Program} {w : World} {K : PySem.W.Frag} {mg : Str → Option Value} {base : Heap} (T : Txt w K mg) (c_size_of : Cal P w K mg base 13 "size_of" (sp_size_of 9 K) []) : CalX P w K mg base 14 "need_condition" (sp_need_condition K) := by
  refine cal_y T.f_need_condition sc_need_condition ?len fun f cdv A outer s H E hr => ⟨_, (pss_one (ps_if (pt_cmpR op_gtU (pe_c c_size_of hr (by decide) (by rfl) (pa_cons (pv 0) (pa_cons (pv 1) (pa_cons pe_int pa_nil)))) (pe_gc (by rfl) T.k_MOST_CONDITIONS) (nomark _)) (pss_one (ps_raise rfl (takes_of rfl rfl rfl rfl) (pmk_own PySem.F.excBase_ValueError T.x_BadCondition.q T.x_BadCondition.g T.x_BadCondition.k (raises_own T.x_BadCondition.b T.x_BadCondition.t) (by rfl)))) pss_nil)), ?body⟩
  case' body => try dsimp only [cxX, cxOf]
  case len => rintro ds Q R ⟨_, _, _, rfl, _⟩; rfl
  case body =>
    rintro ds Q R ⟨ks, c, m, rfl, hk, hc, hm, hq, hr⟩ hid H0 D dom hD hE
    have hz : RZ K E R H0 := hE
    show NJ _ _ _ _ [.im (kindsD ks), .im c.dt]
    refine nj_when ?_
    walk_at "go"
    refine sp_j (S := S_size_of 9) ⟨ks, c, 0, m, rfl, hk, hc, hm, by omega, by omega, ?_⟩
    walk_at "go"
    refine ⟨fun z => ?_, fun z => ?_⟩
    · exact nj_raiseN hz (hr (by have := of_decide_eq_true z; omega))
    · exact hD.nx (hq (by have := of_decide_eq_false z; omega)) _
end
section
open PySem PySem.Spec PyProof.Rows L2
open C8 (Cal pe_c pe_gc)
theorem q_asgTY {K : PySem.W.Frag} {E : XK} {R : Str → Option Int → Prop} {hid : Addr → Bool} {H0 : Hp} {ρ : List Sl} {D : Ends} {tz : TS} {S : List Dt → (Dt → Prop) → (Str → Option Int → Prop) → Prop} {ta : TA} {gt : TG} (hz : RZ K E R H0) (h : EVA (Cn.pure K) ta ρ fun ds => S ds (fun d => TGJ (Cn.pure K) hid H0 gt d ρ (tz D)) R) : NJ (Cn.pure K) hid H0 (tSeq (tAsg (tCallS (spY K S) (fun _ => E) ta) gt) tz D) ρ := fun hd H σ s =>
  h hd H σ s.toSV _ fun ds vs H1 h1 e1 b1 r1 => ⟨hd, ds, _, R, fun a ha => e1.dom a (s.dom a ha), r1, h1, fun d v H2 hq e2 r2 => hq hd H2 σ v (s.go (e1.trans e2) trivial) r2, fun nm pl hr d H2 e2 hf hp => hz nm pl hr d H2 ((s.ext.trans e1).trans e2) (fun dd e => (s.ext.trans e1).fresh (hf dd e)) hp⟩
def addV (vs : List Val) : Rv → Rv
  | .ok us q => .ok (vs ++ us) q
  | .bad q => .bad q
theorem addV_nil (r : Rv) : addV [] r = r := by cases r <;> rfl
theorem addV_snoc (vs : List Val) (v : Val) (r : Rv) : addV vs (addV [v] r) = addV (vs ++ [v]) r := by
  cases r with
  | ok us q => show Rv.ok (vs ++ (v :: us)) q = Rv.ok ((vs ++ [v]) ++ us) q; rw [List.append_assoc]; rfl
  | bad q => rfl
theorem rdv_some {W : List Str} {k p : Nat} {v : Val} (h : (W[p]?).bind vword = some v) : rdv W (k + 1) p = addV [v] (rdv W k (p + 1)) := by
  rw [rdv, h]
  cases rdv W k (p + 1) <;> rfl
theorem rdv_none {W : List Str} {k p : Nat} (h : (W[p]?).bind vword = none) : rdv W (k + 1) p = .bad p := by rw [rdv, h]
inductive Rq where
  | ok (cs : List Ct) (p : Nat) | bad (p : Nat)
def rdq (W : List Str) (n : Nat) : Nat → Nat → Rq
  | 0, p => .ok [] p
  | k + 1, p => match rd W n p with
    | .bad q => .bad q
    | .ok c q => match rdq W n k q with
      | .ok cs q' => .ok (c :: cs) q'
      | .bad q' => .bad q'
def addQ (vs : List Ct) : Rq → Rq
  | .ok us q => .ok (vs ++ us) q
  | .bad q => .bad q
theorem addQ_nil (r : Rq) : addQ [] r = r := by cases r <;> rfl
theorem addQ_snoc (vs : List Ct) (v : Ct) (r : Rq) : addQ vs (addQ [v] r) = addQ (vs ++ [v]) r := by
  cases r with
  | ok us q => show Rq.ok (vs ++ (v :: us)) q = Rq.ok ((vs ++ [v]) ++ us) q; rw [List.append_assoc]; rfl
  | bad q => rfl
theorem rdq_ok {W : List Str} {n k p q : Nat} {c : Ct} (h : rd W n p = .ok c q) : rdq W n (k + 1) p = addQ [c] (rdq W n k q) := by
  rw [rdq, h]
  dsimp only
  cases rdq W n k q <;> rfl
theorem rdq_bad {W : List Str} {n k p q : Nat} (h : rd W n p = .bad q) : rdq W n (k + 1) p = .bad q := by rw [rdq, h]
def nqF (w : Str) : Option Nat := if w = "not" then some 1 else if w = "and" ∨ w = "or" then some 2 else none
def mkQ (w : Str) : List Ct → Ct
  | [c] => .q1 c
  | [a, b] => .q2 w a b
  | _ => .v w []
theorem nq_shape {w : Str} {k : Nat} (h : nqF w = some k) : (w, (⟨(List.replicate k 113).toArray⟩ : Str)) ∈ shapesL ∧ k ≤ 2 ∧ 1 ≤ k := by
  unfold nqF at h
  split at h
  · rename_i hw; cases h; subst hw; exact ⟨by decide +kernel, by omega, by omega⟩
  · split at h
    · rename_i hw
      cases h
      rcases hw with rfl | rfl
      · exact ⟨by decide +kernel, by omega, by omega⟩
      · exact ⟨by decide +kernel, by omega, by omega⟩
    · cases h
theorem mkQ_dt {w : Str} {cs : List Ct} (h : nqF w = some cs.length) : (mkQ w cs).dt = .tup (.str w :: cs.map Ct.dt) := by
  unfold nqF at h
  split at h
  · rename_i hw
    subst hw
    match cs, h with
    | [c], _ => rfl
  · split at h
    · match cs, h with
      | [a, b], _ => rfl
    · cases h
theorem rd_q {W : List Str} {n p k : Nat} {w : Str} (h : W[p]? = some w) (hk : nqF w = some k) : rd W (n + 1) p = match rdq W n k (p + 1) with
    | .ok cs q => .ok (mkQ w cs) q
    | .bad q => .bad q := by
  unfold nqF at hk
  rw [rd, h]
  dsimp only
  split at hk
  · rename_i hw
    cases hk
    rw [if_pos hw, rdq]
    cases rd W n (p + 1) <;> rfl
  · rename_i hw1
    split at hk
    · rename_i hw
      cases hk
      rw [if_neg hw1, if_pos hw, rdq]
      cases rd W n (p + 1) with
      | bad q => rfl
      | ok a q =>
        dsimp only
        rw [rdq]
        cases rd W n q with
        | bad q => rfl
        | ok b q' => rfl
    · cases hk
theorem rd_v {W : List Str} {n p k : Nat} {w : Str} (h : W[p]? = some w) (hk : nvF w = some k) : rd W (n + 1) p = match rdv W k (p + 1) with
    | .ok vs q => .ok (.v w vs) q
    | .bad q => .bad q := by
  rw [rd, h]
  dsimp only
  have h1 : w ≠ "not" := by rcases nv_cases hk with ⟨rfl, _⟩ | ⟨rfl, _⟩ | ⟨rfl, _⟩ | ⟨rfl, _⟩ | ⟨rfl, _⟩ <;> decide
  have h2 : ¬ (w = "and" ∨ w = "or") := by rcases nv_cases hk with ⟨rfl, _⟩ | ⟨rfl, _⟩ | ⟨rfl, _⟩ | ⟨rfl, _⟩ | ⟨rfl, _⟩ <;> decide
  rw [if_neg h1, if_neg h2, hk] <;> rfl
theorem rd_x {W : List Str} {n p : Nat} {w : Str} (h : W[p]? = some w) (hq : nqF w = none) (hv : nvF w = none) : rd W (n + 1) p = .bad p := by
  rw [rd, h]
  dsimp only
  unfold nqF at hq
  split at hq
  · cases hq
  · rename_i h1
    split at hq
    · cases hq
    · rename_i h2
      rw [if_neg h1, if_neg h2, hv]
theorem no_shape {w : Str} (hq : nqF w = none) (hv : nvF w = none) : w ∉ shapesL.map (·.1) := fun hm => by
  have : ∀ w ∈ shapesL.map (·.1), nqF w ≠ none ∨ nvF w ≠ none := by decide +kernel
  rcases this w hm with h | h
  · exact h hq
  · exact h hv
def WsOk (W : List Str) : Prop := ∀ w ∈ W, okS w ∧ w.length ≤ 90000
def S_read_from (n : Nat) (ds : List Dt) (Q : Dt → Prop) (R : Str → Option Int → Prop) : Prop := ∃ (W : List Str) (p : Nat), ds = [.lst (W.map Dt.str), .int (p : Nat)] ∧ p ≤ W.length ∧ W.length - p < n ∧ W.length ≤ 1000 ∧ WsOk W ∧ (∀ c q, rd W n p = .ok c q → Q (.tup [c.dt, .int (q : Nat)])) ∧ ∀ q, rd W n p = .bad q → R "BadText" (some (q : Nat))
abbrev sp_read_from (n : Nat) (K : PySem.W.Frag) : Sp := spY K (S_read_from n)
theorem words_at {W : List Str} {p : Nat} {w : Str} (h : W[p]? = some w) : atI (W.map Dt.str) ((p : Nat) : Int) = some (.str w) := atI_nat (by rw [List.getElem?_map, h]; rfl)
theorem ok_read_from {P : Program} {w : World} {K : PySem.W.Frag} {mg : Str → Option Value} {base : Heap} (T : Txt w K mg) (c_value_of_word : Cal P w K mg base 2 "value_of_word" (sp_value_of_word K) []) (n : Nat) : CalX P w K mg base (n + 3) "read_from" (sp_read_from n K) := by
  obtain ⟨_, _, D_SHAPES⟩ := T.d_SHAPES
  induction n with
  | zero =>
    refine cal_y T.f_read_from sc_read_from ?len fun f cdv A outer s H E hr => ⟨_, pss_never, ?body⟩
    case' body => try dsimp only [cxX, cxOf]
    case len => rintro ds Q R ⟨_, _, rfl, _⟩; rfl
    case body =>
      rintro ds Q R ⟨W, p, rfl, hp, hn, _⟩ hid H0 D dom hD hE
      omega
  | succ n ih =>
    have c_read_from := ih
    refine cal_y T.f_read_from sc_read_from ?len fun f cdv A outer s H E hr => ⟨_, (pss_cons (ps_set (i := 2) sc_read_from.nd rfl (Or.inl rfl) (pe_ifExp (pt_cmpR op_ltU (pv 1) (pe_callB cl_len (by rfl) T.b_len PySem.boot_len (pa_cons (pv 0) pa_nil)) (nomark _)) (pe_kget D_SHAPES (pe_gc (by rfl) T.k_SHAPES) (pe_ix ix_seq (pv 0) (pv 1) (fun _ _ => rfl)) pe_str ⟨rfl, rfl, rfl, rfl⟩) pe_str))
      (pss_cons (ps_if (pt_cmpR (op_eqU hr.units) (pv 2) pe_str (nomark _)) (pss_one (ps_raise rfl (takes_of rfl rfl rfl rfl) (pmk_place T.p_BadText hr (by omega) (by rfl) (pv 1)))) pss_nil)
      (pss_cons (ps_set (i := 3) sc_read_from.nd rfl (Or.inl rfl) (pe_lst (pa_cons (pe_ix ix_seq (pv 0) (pv 1) (fun _ _ => rfl)) pa_nil)))
      (pss_cons (ps_set (i := 1) sc_read_from.nd rfl (Or.inl rfl) (pe_op op_addU (pv 1) pe_int))
      (pss_cons (ps_for PassesOwn.leaving rfl (pi_str (pv 2)) (pg_name (i := 4) sc_read_from.nd rfl (Or.inl rfl)) (pss_one (ps_if (pt_cmpR (op_eqU hr.units) (pv 4) pe_str (nomark _)) (pss_cons (ps_asg (pe_cX c_read_from hr (Nat.le_refl _) (takes_of rfl rfl rfl rfl) (by rfl) (pa_cons (pv 0) (pa_cons (pv 1) pa_nil))) (pg_tup rfl (pgs_cons (pg_name (i := 5) sc_read_from.nd rfl (Or.inl rfl)) (pgs_cons (pg_name (i := 1) sc_read_from.nd rfl (Or.inl rfl)) pgs_nil))))
      (pss_one (ps_expr (pe_bm PySem.F.plainAttrs_list PySem.F.slot_list_append PySem.F.type_list_append mt_append (pv 3) (pa_cons (pv 5) pa_nil))))) (pss_cons (ps_asg (pe_ifExp (pt_cmpR op_ltU (pv 1) (pe_callB cl_len (by rfl) T.b_len PySem.boot_len (pa_cons (pv 0) pa_nil)) (nomark _)) (pe_c c_value_of_word hr (by omega) (by rfl) (pa_cons (pe_ix ix_seq (pv 0) (pv 1) (fun _ _ => rfl)) pa_nil)) (pe_tup (pa_cons pe_bl (pa_cons pe_non pa_nil)))) (pg_tup rfl (pgs_cons (pg_name (i := 6) sc_read_from.nd rfl (Or.inl rfl)) (pgs_cons (pg_name (i := 7) sc_read_from.nd rfl (Or.inl rfl)) pgs_nil))))
      (pss_cons (ps_if (pt_not (pt_val (pv 6))) (pss_one (ps_raise rfl (takes_of rfl rfl rfl rfl) (pmk_place T.p_BadText hr (by omega) (by rfl) (pv 1)))) pss_nil)
      (pss_cons (ps_expr (pe_bm PySem.F.plainAttrs_list PySem.F.slot_list_append PySem.F.type_list_append mt_append (pv 3) (pa_cons (pv 7) pa_nil)))
      (pss_one (ps_set (i := 1) sc_read_from.nd rfl (Or.inl rfl) (pe_op op_addU (pv 1) pe_int)))))))))
      (pss_one (ps_ret (pe_tup (pa_cons (pe_callTy cl_tuple (by rfl) T.b_tuple (by decide +kernel) (pa_cons (pv 3) pa_nil)) (pa_cons (pv 1) pa_nil)))))))))), ?body⟩
    case' body => try dsimp only [cxX, cxOf]
    case len => rintro ds Q R ⟨_, _, rfl, _⟩; rfl
    case body =>
      rintro ds Q R ⟨W, p, rfl, hp, hn, hl, hW, hq, hr⟩ hid H0 D dom hD hE
      have hz : RZ K E R H0 := hE
      show NJ _ _ _ _ [.im (.lst (W.map Dt.str)), .im (.int (p : Nat)), .un, .un, .un, .un, .un, .un]
      cases hw : W[p]? with
      | none =>
        have hpl : W.length ≤ p := List.getElem?_eq_none_iff.mp hw
        refine q_asg (ev_if (et_test (ev_op (ev_var rfl (ev_cb (ea_cons (ev_var rfl (ea_nil (len_l (lt_i (blJ (bl_no (decide_eq_false (by rw [List.length_map]; omega)) (ev_str ?_)))))))))))))
        walk_at "nm"
        refine q_when ?_
        walk_at "go"
        refine bl_yes (by decide) ?_
        exact nj_raiseP hz rfl (hr p (by rw [rd, hw]))
      | some w =>
        have hpl := (List.getElem?_eq_some_iff.mp hw).1
        have hat := words_at hw
        refine q_asg (ev_if (et_test (ev_op (ev_var rfl (ev_cb (ea_cons (ev_var rfl (ea_nil (len_l (lt_i (blJ (bl_yes (decide_eq_true (by rw [List.length_map]; omega)) ?_))))))))))))
        cases hnq : nqF w with
        | none =>
          cases hnv : nvF w with
          | none =>
            refine ev_kgetN (T.n_SHAPES w (no_shape hnq hnv)) (ev_op (ev_var rfl (ev_var rfl (ix_l hat ⟨rfl, ev_str ?_⟩))))
            walk_at "nm"
            refine q_when ?_
            walk_at "go"
            refine bl_yes (by decide) ?_
            exact nj_raiseP hz rfl (hr p (rd_x hw hnq hnv))
          | some k =>
            obtain ⟨s1, s2, s3, s4⟩ := nv_shape hnv
            have hrd := rd_v (n := n) hw hnv
            refine ev_kget T.v_SHAPES (ev_op (ev_var rfl (ev_var rfl (ix_l hat (strJ (ev_str ⟨_, s1, ?_⟩))))))
            walk_at "nm"
            refine q_when ?_
            walk_at "go"
            refine bl_no (shp_x s1) ?_
            refine q_asgN (en_lst (ea_cons (ev_op (ev_var rfl (ev_var rfl (ix_l hat (ea_nil ⟨by show 1 ≤ 100000; omega, ?_⟩)))))))
            walk_at "nm"
            refine q_asg ?_
            walk_at "go"
            walk_at "nm"
            refine q_for (ij_str (ev_var rfl (strJ ?_)))
            have hk3 : k ≤ 3 := by rcases nv_cases hnv with ⟨_, rfl⟩ | ⟨_, rfl⟩ | ⟨_, rfl⟩ | ⟨_, rfl⟩ | ⟨_, rfl⟩ <;> omega
            refine ⟨fun i ρ' => i ≤ k ∧ (∃ vs, vs.length = i ∧ rdv W k (p + 1) = addV vs (rdv W (k - i) (p + 1 + i)) ∧ ρ' = [.im (.lst (W.map Dt.str)), .im (.int ((p + 1 + i : Nat) : Int)), .im (.str ⟨(svL w).toArray⟩), .ac (.str w :: vs.map Val.dt), .un, .un, .un, .un]), ⟨Nat.zero_le _, [], rfl, (addV_nil _).symm, by rw [show ((p + 1 + 0 : Nat) : Int) = ((p : Nat) : Int) + 1 by omega]; rfl⟩, ?_, ?_⟩
            · rintro H1 e1 i d ρ' hi ⟨hik, vs, hvl, hrv, rfl⟩
              unfold chrs at hi
              rw [List.getElem?_map] at hi
              obtain ⟨s, hs, rfl⟩ := Option.map_eq_some_iff.mp hi
              have hs : (svL w)[i]? = some s := hs
              have hil : i < k := by rw [← s2]; exact (List.getElem?_eq_some_iff.mp hs).1
              have hz1 : RZ K E R H1 := hz.go e1
              have hkk : k - i = (k - (i + 1)) + 1 := by omega
              rw [hkk] at hrv
              have hfl : (.str w :: vs.map Val.dt : List Dt).length < 100000 := by rw [List.length_cons, List.length_map]; omega
              refine tg_name ?_
              walk_at "nm"
              refine nj_if ?_
              walk_at "go"
              rw [sgn_q, chr_is]
              refine bl_no (decide_eq_false (s4 i s hs).2) ?_
              have hbad : (W[p + 1 + i]?).bind vword = none → R "BadText" (some ((p + 1 + i : Nat) : Int)) := fun h => hr _ (by
                rw [hrd, hrv, rdv_none h]; rfl)
              cases hw2 : W[p + 1 + i]? with
              | none =>
                have hpl2 : W.length ≤ p + 1 + i := List.getElem?_eq_none_iff.mp hw2
                rw [hw2] at hbad
                refine q_asgT (ev_if (et_test (ev_op (ev_var rfl (ev_cb (ea_cons (ev_var rfl (ea_nil (len_l (lt_i (blJ (bl_no (decide_eq_false (by rw [List.length_map]; omega)) ?_))))))))))))
                refine ev_tup (ea_cons (ev_bl (ea_cons (ev_non (ea_nil ⟨by show 2 ≤ 100000; omega, ?_⟩)))))
                refine tg_tup rfl (tgs_name (tgs_name (tgs_nil ?_)))
                walk_at "nm"
                refine q_when ?_
                walk_at "go"
                refine bl_yes rfl ?_
                exact nj_raiseP hz1 rfl (hbad rfl)
              | some w2 =>
                have hpl2 := (List.getElem?_eq_some_iff.mp hw2).1
                have hat2 := words_at hw2
                have hw2k := hW w2 (List.mem_of_getElem? hw2)
                refine q_asgT (ev_if (et_test (ev_op (ev_var rfl (ev_cb (ea_cons (ev_var rfl (ea_nil (len_l (lt_i (blJ (bl_yes (decide_eq_true (by rw [List.length_map]; omega)) ?_))))))))))))
                refine ev_call (ea_cons (ev_op (ev_var rfl (ev_var rfl (ix_l hat2 (ea_nil (sp_j (S := S_value_of_word) ⟨w2, rfl, hw2k.2, hw2k.1, ?_⟩)))))))
                refine tg_tup rfl (tgs_name (tgs_name (tgs_nil ?_)))
                walk_at "nm"
                refine q_when ?_
                walk_at "go"
                rw [hw2] at hbad
                cases hv2 : vword w2 with
                | none =>
                  refine bl_yes rfl ?_
                  exact nj_raiseP hz1 rfl (hbad (by show vword w2 = none; exact hv2))
                | some v =>
                  refine bl_no rfl ?_
                  rw [vsec_some hv2]
                  refine q_app rfl hfl (ev_var rfl ?_)
                  walk_at "nm"
                  refine nj_asg ?_
                  walk_at "go"
                  walk_at "nm"
                  refine nj_nxw _ ⟨by omega, vs ++ [v], by rw [List.length_append, hvl]; rfl, ?_, rfl⟩ ?_
                  · rw [hrv, rdv_some (v := v) (by rw [hw2]; exact hv2), addV_snoc]; rfl
                  · rw [show ((p + 1 + (i + 1) : Nat) : Int) = ((p + 1 + i : Nat) : Int) + 1 by omega, List.map_append]
                    walk_at "le"
            · rintro ρ' ⟨hik, vs, hvl, hrv, rfl⟩
              have el : (chrs (⟨(svL w).toArray⟩ : Str)).length = k := by
                unfold chrs
                rw [List.length_map]; exact s2
              rw [el, Nat.sub_self] at hrv
              refine nj_share (i := 3) rfl ?_
              walk_at "nm"
              refine nj_ret ?_
              walk_at "go"
              rw [el]
              refine hD.rt _ (hq (.v w vs) (p + 1 + k) ?_)
              rw [hrd, hrv]
              show Rs.ok (.v w (vs ++ [])) _ = _
              rw [List.append_nil]
        | some k =>
          obtain ⟨s1, hk2, hk1⟩ := nq_shape hnq
          have hrd := rd_q (n := n) hw hnq
          refine ev_kget T.v_SHAPES (ev_op (ev_var rfl (ev_var rfl (ix_l hat (strJ (ev_str ⟨_, s1, ?_⟩))))))
          walk_at "nm"
          refine q_when ?_
          walk_at "go"
          refine bl_no (shp_x s1) ?_
          refine q_asgN (en_lst (ea_cons (ev_op (ev_var rfl (ev_var rfl (ix_l hat (ea_nil ⟨by show 1 ≤ 100000; omega, ?_⟩)))))))
          walk_at "nm"
          refine q_asg ?_
          walk_at "go"
          walk_at "nm"
          refine q_for (ij_str (ev_var rfl (strJ ?_)))
          have el : (chrs (⟨(List.replicate k 113).toArray⟩ : Str)).length = k := by
            unfold chrs
            rw [List.length_map]; exact List.length_replicate
          refine ⟨fun i ρ' => i ≤ k ∧ (∃ cs q, cs.length = i ∧ p < q ∧ q ≤ W.length ∧ rdq W n k (p + 1) = addQ cs (rdq W n (k - i) q) ∧ ρ' = [.im (.lst (W.map Dt.str)), .im (.int (q : Nat)), .im (.str ⟨(List.replicate k 113).toArray⟩), .ac (.str w :: cs.map Ct.dt), .un, .un, .un, .un]), ⟨Nat.zero_le _, [], p + 1, rfl, by omega, by omega, (addQ_nil _).symm, by rw [show ((p + 1 : Nat) : Int) = ((p : Nat) : Int) + 1 by omega]; rfl⟩, ?_, ?_⟩
          · rintro H1 e1 i d ρ' hi ⟨hik, cs, q, hcl, hpq, hql, hrv, rfl⟩
            have hil : i < k := by rw [← el]; exact (List.getElem?_eq_some_iff.mp hi).1
            unfold chrs at hi
            rw [List.getElem?_map] at hi
            obtain ⟨s, hs, rfl⟩ := Option.map_eq_some_iff.mp hi
            have hs : (List.replicate k 113)[i]? = some s := hs
            rw [List.getElem?_replicate, if_pos hil] at hs
            cases hs
            have hz1 : RZ K E R H1 := hz.go e1
            have hkk : k - i = (k - (i + 1)) + 1 := by omega
            rw [hkk] at hrv
            have hfl : (.str w :: cs.map Ct.dt : List Dt).length < 100000 := by rw [List.length_cons, List.length_map]; omega
            refine tg_name ?_
            walk_at "nm"
            refine nj_if ?_
            walk_at "go"
            rw [sgn_q, chr_is]
            refine bl_yes rfl ?_
            refine q_asgTY hz1 (ea_cons (ev_var rfl (ea_cons (ev_var rfl (ea_nil ⟨W, q, rfl, hql, by omega, hl, hW, fun c q' hc => ?_, fun q' hb => ?_⟩)))))
            · obtain ⟨_, r2, r3⟩ := rd_ok hc
              refine tg_tup rfl (tgs_name (tgs_name (tgs_nil ?_)))
              walk_at "nm"
              refine nj_app rfl hfl (ev_var rfl ?_)
              refine nj_nxw _ ⟨by omega, cs ++ [c], q', by rw [List.length_append, hcl]; rfl, by omega, r3, ?_, rfl⟩ ?_
              · rw [hrv, rdq_ok hc, addQ_snoc]
              · rw [List.map_append]
                walk_at "le"
            · exact hr q' (by rw [hrd, hrv, rdq_bad hb]; rfl)
          · rintro ρ' ⟨hik, cs, q, hcl, hpq, hql, hrv, rfl⟩
            rw [el] at hcl
            rw [el, Nat.sub_self] at hrv
            refine nj_share (i := 3) rfl ?_
            walk_at "nm"
            refine nj_ret ?_
            walk_at "go"
            rw [← mkQ_dt (w := w) (cs := cs) (by rw [hnq, hcl])]
            refine hD.rt _ (hq (mkQ w cs) q ?_)
            rw [hrd, hrv]
            show Rs.ok (mkQ w (cs ++ [])) _ = _
            rw [List.append_nil]
theorem mem_join {ws : List Str} {w : Str} {k : Nat} (hw : w ∈ ws) (hk : k ∈ w.cps.toList) : k ∈ (Str.join " " ws).cps.toList := by
  induction ws with
  | nil => cases hw
  | cons x r ih =>
    cases r with
    | nil =>
      rw [List.mem_singleton.mp hw] at hk
      exact hk
    | cons y r =>
      show k ∈ TL.tl (x ++ " " ++ Str.join " " (y :: r))
      rw [TL.tl_append, TL.tl_append, List.mem_append, List.mem_append]
      rcases List.mem_cons.mp hw with rfl | hw
      · exact .inl (.inl hk)
      · exact .inr (ih hw)
theorem split_ok {t : Str} (h : okS t) {w : Str} (hw : w ∈ Txt.split t " ") : okS w := fun k hk => h k (by
  have := mem_join hw hk
  rw [split_back] at this
  exact this)
theorem words_ok {t : Str} (h : okS t) (hl : t.length ≤ 90000) : WsOk (wordsF t) := fun w hw => by
  unfold wordsF at hw
  split at hw
  · cases hw
  · exact ⟨split_ok h hw, Nat.le_trans (split_each hw) hl⟩
def S_read (ds : List Dt) (Q : Dt → Prop) (R : Str → Option Int → Prop) : Prop := ∃ (ks : List Bool) (t : Str), ds = [kindsD ks, .str t] ∧ KindsOk ks ∧ okS t ∧ t.length ≤ 90000 ∧ (wordsF t).length ≤ 63 ∧ (∀ c, toldT ks t = .ok c → Q c.dt) ∧ (∀ p, toldT ks t = .text p → R "BadText" (some (p : Nat))) ∧ (toldT ks t = .cond → R "BadCondition" none)
abbrev sp_read (K : PySem.W.Frag) : Sp := spY K S_read
theorem ok_read {P : Program} {w : World} {K : PySem.W.Frag} {mg : Str → Option Value} {base : Heap} (T : Txt w K mg) (c_need_kinds : Cal P w K mg base 1 "need_kinds" (sp_need_kinds K) []) (c_read_from : CalX P w K mg base 67 "read_from" (sp_read_from 64 K)) (c_need_condition : CalX P w K mg base 14 "need_condition" (sp_need_condition K)) : CalX P w K mg base 68 "read" (sp_read K) := by
  refine cal_y T.f_read sc_read ?len fun f cdv A outer s H E hr => ⟨_, (pss_cons (ps_expr (pe_c c_need_kinds hr (by decide) (by rfl) (pa_cons (pv 0) pa_nil)))
      (pss_cons (ps_set (i := 2) sc_read.nd rfl (Or.inl rfl) (pe_ifExp (pt_cmpR (op_neU hr.units) (pv 1) pe_str (nomark _)) (pe_bm PySem.F.plainAttrs_str PySem.F.slot_str_split PySem.F.type_str_split mt_splitU (pv 1) (pa_cons pe_str pa_nil)) (pe_lst pa_nil)))
      (pss_cons (ps_asg (pe_cX c_read_from hr (by decide) (takes_of rfl rfl rfl rfl) (by rfl) (pa_cons (pv 2) (pa_cons pe_int pa_nil))) (pg_tup rfl (pgs_cons (pg_name (i := 3) sc_read.nd rfl (Or.inl rfl)) (pgs_cons (pg_name (i := 4) sc_read.nd rfl (Or.inl rfl)) pgs_nil))))
      (pss_cons (ps_if (pt_cmpR op_ltU (pv 4) (pe_callB cl_len (by rfl) T.b_len PySem.boot_len (pa_cons (pv 2) pa_nil)) (nomark _)) (pss_one (ps_raise rfl (takes_of rfl rfl rfl rfl) (pmk_place T.p_BadText hr (by decide) (by rfl) (pv 4)))) pss_nil)
      (pss_cons (ps_expr (pe_cX c_need_condition hr (by decide) (takes_of rfl rfl rfl rfl) (by rfl) (pa_cons (pv 0) (pa_cons (pv 3) pa_nil))))
      (pss_one (ps_ret (pv 3)))))))), ?body⟩
  case' body => try dsimp only [cxX, cxOf]
  case len => rintro ds Q R ⟨_, _, rfl, _⟩; rfl
  case body =>
    rintro ds Q R ⟨ks, t, rfl, hk, hok, hl, hw, hq, hr1, hr2⟩ hid H0 D dom hD hE
    have hz : RZ K E R H0 := hE
    show NJ _ _ _ _ [.im (kindsD ks), .im (.str t), .un, .un, .un]
    refine q_drop (ev_call (ea_cons (ev_var rfl (ea_nil (sp_j (S := S_need_kinds) ⟨ks, rfl, hk, ?_⟩)))))
    refine q_asg (EV.imp (Q := fun d => d = .lst ((wordsF t).map Dt.str)) ?_ ?_)
    · refine ev_if (et_test (ev_op (ev_var rfl (ev_str (ne_s (blJ ⟨fun z => ?_, fun z => ?_⟩))))))
      · have z : ¬ t = "" := by simpa using z
        refine EN.ev (en_split (by decide +kernel) (ev_var rfl (strJ ⟨hl, ?_⟩)))
        unfold wordsF
        rw [if_neg z]
      · have z : t = "" := by simpa using z
        refine EN.ev (en_lst (ea_nil ⟨by decide, ?_⟩))
        unfold wordsF
        rw [if_pos z]; rfl
    rintro _ rfl
    walk_at "nm"
    obtain ⟨W, hWe⟩ : ∃ W, W = wordsF t := ⟨_, rfl⟩
    have hWs : WsOk W := by rw [hWe]; exact words_ok hok hl
    have htt : toldT ks t = match rd W 64 0 with
      | .bad q => .text q
      | .ok c q => if q < W.length then .text q else if szC ks 0 c ≤ 15 then .ok c else .cond := by rw [hWe]; rfl
    rw [← hWe] at hw ⊢
    rw [htt] at hq hr1 hr2
    refine q_asgTY hz (ea_cons (ev_var rfl (ea_cons (ev_int (ea_nil ⟨W, 0, rfl, Nat.zero_le _, by omega, by omega, hWs, fun c q hc => ?_, fun q hb => ?_⟩)))))
    · rw [hc] at hq hr1 hr2
      obtain ⟨r1, r2, r3⟩ := rd_ok hc
      dsimp only at hq hr1 hr2
      refine tg_tup rfl (tgs_name (tgs_name (tgs_nil ?_)))
      walk_at "nm"
      by_cases hql : q < W.length
      · rw [if_pos hql] at hr1
        refine q_when (etj (et_test (ev_op (ev_var rfl (ev_cb (ea_cons (ev_var rfl (ea_nil (len_l (lt_i (blJ (bl_yes (decide_eq_true (by rw [List.length_map]; omega)) ?_))))))))))))
        exact nj_raiseP hz rfl (hr1 q rfl)
      · rw [if_neg hql] at hq hr2
        refine q_when (etj (et_test (ev_op (ev_var rfl (ev_cb (ea_cons (ev_var rfl (ea_nil (len_l (lt_i (blJ (bl_no (decide_eq_false (by rw [List.length_map]; omega)) ?_))))))))))))
        refine q_dropY hz (ea_cons (ev_var rfl (ea_cons (ev_var rfl (ea_nil ⟨ks, c, 64, rfl, hk, r1, Nat.le_refl _, fun h => ?_, fun h => ?_⟩)))))
        · rw [if_pos h] at hq
          exact nj_ret (ev_var rfl (hD.rt _ (hq c rfl)))
        · rw [if_neg (by omega)] at hr2
          exact hr2 rfl
    · rw [hb] at hr1
      exact hr1 q rfl
end
section
open PySem PySem.Spec PyProof.Rows L2
open C8 (Cal pe_c pe_gc)
def S__law_value_of (ds : List Dt) (Q : List Dt → Prop) : Prop := ∃ w : Str, ds = [.str w] ∧ w.length ≤ 90000 ∧ okS w ∧ Q ((vword w).toList.map Val.dt)
abbrev sp__law_value_of (K : PySem.W.Frag) : Sp := spPN K S__law_value_of
theorem ok__law_value_of {P : Program} {w : World} {K : PySem.W.Frag} {mg : Str → Option Value} {base : Heap} (T : Txt w K mg)  : Cal P w K mg base 1 "_law_value_of" (sp__law_value_of K) [] := by
  refine cal_pureN T.f__law_value_of sc__law_value_of ?len fun f cdv A outer s H E hr => ⟨_, (pss_cons (ps_set (i := 1) sc__law_value_of.nd rfl (Or.inl rfl) (pe_slice sl_str (pv 0) (po_some pe_int) po_none))
      (pss_cons (ps_if (pt_cmpR (op_eqU hr.units) (pe_slice sl_str (pv 0) po_none (po_some pe_int)) pe_str (nomark _)) (pss_cons (ps_setLc (i := 2) rfl sc__law_value_of.nd rfl rfl (sw_true rfl rfl rfl (by decide +kernel)) (g := (gName 4)) (tt := (tTest (tOp (rInU K) (tVar 4) (tC (.str "abcdefghijklmnopqrstuvwxyz"))))) (te := (tVar 4)) (own := [("_law_sign", 4)]) (pi_str (pv 1)) (blkOk_by (N := ["_law_word_here", "_law_rest", "_law_letters", "_law_figures", "_law_sign"]) (sc := defScope s__law_value_of) (by decide +kernel)) (fun _ _ _ _ _ => (pg_name (i := 4) sc__law_value_of.nd rfl (Or.inl rfl))) (fun _ _ _ _ _ => (pts_one (pt_cmpR op_inU (pv 4) pe_str rfl))) (fun _ _ _ _ _ => (pv 4)))
      (pss_one (ps_ret (pe_ifExp ((pw_and (pt_cmpR op_leU (pe_callB cl_len (by rfl) T.b_len PySem.boot_len (pa_cons (pv 1) pa_nil)) pe_int (nomark _)) (pw_and1 (pt_cmpR (op_eqU hr.units) (pe_callB cl_len (by rfl) T.b_len PySem.boot_len (pa_cons (pv 2) pa_nil)) (pe_callB cl_len (by rfl) T.b_len PySem.boot_len (pa_cons (pv 1) pa_nil)) (nomark _))))).pt (pe_lst (pa_cons (pv 1) pa_nil)) (pe_lst pa_nil))))) pss_nil)
      (pss_cons (ps_set (i := 3) sc__law_value_of.nd rfl (Or.inl rfl) (pe_ifExp (pt_cmpR (op_eqU hr.units) (pe_slice sl_str (pv 0) po_none (po_some pe_int)) pe_str (nomark _)) (pv 1) (pv 0)))
      (pss_cons (ps_if ((pw_or (pt_cmpR (op_eqU hr.units) (pv 3) pe_str (nomark _)) (pw_or (pt_cmpR op_gtU (pe_callB cl_len (by rfl) T.b_len PySem.boot_len (pa_cons (pv 3) pa_nil)) pe_int (nomark _)) (pw_or1 (pt_cmpR (op_neU hr.units) (pe_lc (g := (gName 4)) (tt := (tTest (tOp (rNotInU K) (tVar 4) (tC (.str "0123456789"))))) (te := (tVar 4)) (own := [("_law_sign", 4)]) rfl sc__law_value_of.nd (pi_str (pv 3)) (blkOk_by (N := ["_law_word_here", "_law_rest", "_law_letters", "_law_figures", "_law_sign"]) (sc := defScope s__law_value_of) (by decide +kernel)) (fun _ _ _ _ _ => (pg_name (i := 4) sc__law_value_of.nd rfl (Or.inl rfl))) (fun _ _ _ _ _ => (pts_one (pt_cmpR op_notInU (pv 4) pe_str rfl))) (fun _ _ _ _ _ => (pv 4))) (pe_lst pa_nil) (nomark _)))))).pt (pss_one (ps_ret (pe_lst pa_nil))) pss_nil)
      (pss_one (ps_ret (pe_ifExp (pt_cmpR (op_eqU hr.units) (pe_callTy cl_strI (by rfl) T.b_str (by decide +kernel) (pa_cons (pe_callTy cl_intS (by rfl) T.b_int (by decide +kernel) (pa_cons (pv 0) pa_nil)) pa_nil)) (pv 0) (nomark _)) (pe_lst (pa_cons (pe_callTy cl_intS (by rfl) T.b_int (by decide +kernel) (pa_cons (pv 0) pa_nil)) pa_nil)) (pe_lst pa_nil)))))))), ?body⟩
  case' body => try dsimp only [cxD, cxOf]
  case len => rintro ds Q ⟨_, rfl, _⟩; rfl
  case body =>
    rintro ds Q ⟨w, rfl, hl, hok, hq⟩ hid H0 D dom hD
    have hlt : (⟨w.cps.toList.tail.toArray⟩ : Str).length ≤ w.length := by
      rw [str_mk, str_len, List.length_tail]; omega
    show NJ _ _ _ _ [.im (.str w), .un, .un, .un, .un]
    refine q_asg (ev_slS (ev_var rfl (strJ ⟨by omega, eo_some (ev_int (intJ (eo_none ?_)))⟩)))
    rw [cut_tl]
    walk_at "nm"
    refine q_when (etj (et_test (ev_op (ev_slS (ev_var rfl (strJ ⟨by omega, eo_none (eo_some (ev_int (intJ ?_)))⟩))))))
    walk_at "go"
    rw [cut_one, sgn_eq, one_is]
    refine ⟨fun z => ?_, fun z => ?_⟩
    · have z := of_decide_eq_true z
      have hqv : vword w = (if w.cps.toList.tail.length ≤ 6 ∧ w.cps.toList.tail.all isLet = true then some (Val.s ⟨w.cps.toList.tail.toArray⟩) else none) := by
        unfold vword
        rw [if_pos z]
      rw [hqv] at hq
      have htl := str_mk w.cps.toList.tail
      generalize w.cps.toList.tail = r at hq hlt htl ⊢
      refine q_asgN (en_fmS (by decide) (ev_var rfl (strJ ⟨by omega, isLet, fun k hk => ?_, ?_⟩)))
      · walk_at "nm"
        walk_at "go"
        rw [in_letters]
        exact ⟨rfl, fun _ => ev_var rfl rfl⟩
      walk_at "nm"
      refine nj_share (i := 2) rfl ?_
      walk_at "nm"
      refine nj_retN (en_if ?_)
      walk_at "go"
      refine len_s (by omega) ?_
      walk_at "go"
      rw [htl]
      have hfl : (((⟨r.toArray⟩ : Str).cps.toList.filter isLet).map fun k => Dt.str ⟨#[k]⟩).length = (r.filter isLet).length := List.length_map ..
      by_cases h6 : r.length ≤ 6
      · refine bl_yes (decide_eq_true (by omega)) ?_
        walk_at "go"
        refine len_s (by omega) ?_
        walk_at "go"
        rw [htl, hfl]
        by_cases ha : r.all isLet = true
        · rw [if_pos ⟨h6, ha⟩] at hq
          have e : (r.filter isLet).length = r.length := by rw [List.filter_eq_self.mpr (List.all_eq_true.mp ha)]
          refine bl_yes (decide_eq_true (by omega)) ?_
          refine en_lst (ea_cons (ev_var rfl (ea_nil ⟨by show 1 ≤ 100000; omega, hD.rt _ hq⟩)))
        · rw [if_neg (fun q => ha q.2)] at hq
          have e : (r.filter isLet).length ≠ r.length := fun q => ha (by
            have := List.filter_eq_self.mp (List.filter_sublist.eq_of_length q)
            exact List.all_eq_true.mpr this)
          refine bl_no (decide_eq_false (by omega)) ?_
          exact en_lst (ea_nil ⟨by decide, hD.rt _ hq⟩)
      · rw [if_neg (fun q => h6 q.1)] at hq
        refine bl_no (decide_eq_false (by omega)) (bl_no rfl ?_)
        exact en_lst (ea_nil ⟨by decide, hD.rt _ hq⟩)
    · have z := of_decide_eq_false z
      have hqv : vword w = if (figsOk (bareL w.cps.toList) && canonL w.cps.toList) = true then some (.i (numV w.cps.toList)) else none := by
        unfold vword
        rw [if_neg z]
      rw [hqv] at hq
      obtain ⟨l, hll⟩ : ∃ l, l = w.cps.toList := ⟨_, rfl⟩
      have hwl : w.length = l.length := by rw [hll]; exact str_len
      rw [← hll] at hq ⊢
      refine q_asg (EV.imp (Q := fun d => d = .str ⟨(bareL l).toArray⟩) ?_ ?_)
      · refine ev_if (et_test (ev_op (ev_slS (ev_var rfl (strJ ⟨by omega, eo_none (eo_some (ev_int (intJ (ev_str (eq_s (blJ ⟨fun z => ?_, fun z => ?_⟩))))))⟩)))))
        · rw [cut_one, sgn_minus, one_is] at z
          refine ev_var rfl ?_
          unfold bareL
          rw [if_pos (by rw [hll]; exact of_decide_eq_true z)]
        · rw [cut_one, sgn_minus, one_is] at z
          refine ev_var rfl ?_
          unfold bareL
          rw [if_neg (by rw [hll]; exact of_decide_eq_false z), hll, str_toL]
      rintro _ rfl
      walk_at "nm"
      have hbl := str_mk (bareL l)
      have hbw := bare_len l
      obtain ⟨b, hb⟩ : ∃ b, b = bareL l := ⟨_, rfl⟩
      rw [← hb] at hbl hbw hq ⊢
      have hno : figsOk b = false → RNJ (Cn.pure K) hid H0 D.rt [] := fun h => hD.rt _ (by
        rw [h, Bool.false_and, if_neg Bool.false_ne_true] at hq
        exact hq)
      refine q_when ?_
      walk_at "go"
      have e0 : decide ((⟨b.toArray⟩ : Str) = "") = decide (b.length = 0) := decide_eq_decide.mpr ⟨fun q => by
        have := congrArg Str.length q
        rw [hbl] at this
        exact this, fun q => by rw [List.length_eq_zero_iff.mp q]; rfl⟩
      rw [e0]
      by_cases h1 : b.length = 0
      · refine or_yes (decide_eq_true h1) (bl_yes rfl ?_)
        exact nj_retN (en_lst (ea_nil ⟨by decide, hno (by unfold figsOk; rw [decide_eq_false (by omega), Bool.false_and])⟩))
      refine or_no (decide_eq_false h1) ?_
      walk_at "go"
      refine len_s (by omega) ?_
      walk_at "go"
      rw [hbl]
      by_cases h4 : b.length ≤ 4
      · refine or_no (decide_eq_false (by omega)) ?_
        walk_at "go"
        refine EN.ev (en_fmS (by decide) ?_)
        walk_at "go"
        refine ⟨by omega, fun k => !isFig k, fun k hk => ?_, ?_⟩
        · walk_at "nm"
          walk_at "go"
          rw [in_figs]
          exact ⟨rfl, fun _ => ev_var rfl rfl⟩
        refine EN.ev (en_lst ?_)
        walk_at "go"
        refine ne_nil (n := 0) (fun d hd => ?_) (by decide) ?_
        · obtain ⟨k, hk, rfl⟩ := List.mem_map.mp hd
          refine .str (okS_str fun j hj => ?_)
          have hj : j ∈ [k] := hj
          rw [List.mem_singleton.mp hj]
          have := (List.mem_filter.mp hk).1
          rw [hb] at this
          exact hok k (hll ▸ bare_mem this)
        have ea : ((((⟨b.toArray⟩ : Str).cps.toList.filter fun k => !isFig k).map fun k => Dt.str ⟨#[k]⟩)).isEmpty = b.all isFig := fil_not isFig _ b
        rw [ea]
        by_cases hfg : b.all isFig = true
        · refine bl_no (by rw [hfg]; rfl) ?_
          have hfo : figsOk b = true := by unfold figsOk; rw [hfg, decide_eq_true ⟨by omega, h4⟩]; rfl
          rw [hfo, Bool.true_and] at hq
          have hr := num_read (w := w) (by rw [← hll, ← hb]; exact hfo)
          have hback := num_back (l := l) (by rw [← hb]; exact hfo)
          rw [← hll] at hr
          have ew : decide (numS (numV l) = w) = canonL l := by
            rw [← hback]
            exact decide_eq_decide.mpr ⟨fun q => by rw [q, hll], fun q => strE (q.trans hll)⟩
          refine nj_retN (en_if (et_test (ev_op (ev_cb (ea_cons (ev_cb (ea_cons (ev_var rfl (ea_nil (int_s hr.1 (by omega) (ea_nil (str_i (by omega) (ev_var rfl (eq_s (blJ ⟨fun q => ?_, fun q => ?_⟩)))))))))))))))
          · rw [ew] at q
            rw [if_pos q] at hq
            exact en_lst (ea_cons (ev_cb (ea_cons (ev_var rfl (ea_nil (int_s hr.1 (by omega) (ea_nil ⟨by show 1 ≤ 100000; omega, hD.rt _ hq⟩)))))))
          · rw [ew] at q
            rw [if_neg (by rw [q]; exact Bool.false_ne_true)] at hq
            exact en_lst (ea_nil ⟨by decide, hD.rt _ hq⟩)
        · refine bl_yes (by rw [Bool.eq_false_iff.mpr hfg]; rfl) ?_
          exact nj_retN (en_lst (ea_nil ⟨by decide, hno (by unfold figsOk; rw [Bool.eq_false_iff.mpr hfg, Bool.and_false])⟩))
      · refine or_yes (decide_eq_true (by omega)) (bl_yes rfl ?_)
        exact nj_retN (en_lst (ea_nil ⟨by decide, hno (by unfold figsOk; rw [decide_eq_false (by omega), Bool.false_and])⟩))
theorem q_pop0A {c : Cn} {hid : Addr → Bool} {H0 : Hp} {ρ : List Sl} {D : Ends} {tz : TS} {i j : Nat} {d : Dt} {ds : List Dt} {K' : PySem.W.Frag} (hi : ρ[i]? = some (.ac (d :: ds))) (h : NJ c hid H0 (tz D) ((ρ.set i (.ac ds)).set j (.im d))) : NJ c hid H0 (tSeq (tAsg (tBM K' "list" rPopAt (tVar i) (tCons (tC (.int 0)) tNil)) (gName j)) tz D) ρ := fun hd H σ s => by
  obtain ⟨o, vs, g1, a1, a2, a3, a4⟩ := own_get s.slots hi
  cases a4 with
  | @cons v vs0 _ _ rv ra =>
    refine ⟨.ref o, g1, .inl ⟨rfl, _, .inl (.inl a3)⟩, o, _, 0, 0, v, rfl, rfl, a3, by decide, by decide, ?_, rfl, ?_⟩
    · unfold seqIndex?
      simp
    · have s1 := s.mutOwn ⟨g1, _, hi, rfl⟩ (sl := .ac ds) rfl ⟨a1, a2, vs0, upd_same, by rw [hm_upd a1]; exact ra⟩
      exact h _ _ _ (s1.setIm (by rw [hm_upd a1]; exact rv))
def sizesK : List (Key × Dt) := [(.inr "all", .str ""), (.inr "is", .str "vv"), (.inr "less", .str "vv"), (.inr "within", .str "vvv"), (.inr "begins", .str "vv"), (.inr "not", .str "q"), (.inr "and", .str "qq"), (.inr "or", .str "qq")]
def wantS (b : Bool) : Str := if b = true then "q" else "v"
theorem sizes_some {w : Str} {sh : List Bool} (h : szF w = some sh) : ∃ z : Str, valD sizesK (.inr w) = some (.str z) ∧ sgnS z = sh.map wantS ∧ z.length ≤ 3 := by
  unfold szF at h
  split at h
  · rename_i hw; cases h; subst hw; exact ⟨"q", by rfl, by decide +kernel, by decide +kernel⟩
  · split at h
    · rename_i hw
      cases h
      rcases hw with rfl | rfl
      · exact ⟨"qq", by rfl, by decide +kernel, by decide +kernel⟩
      · exact ⟨"qq", by rfl, by decide +kernel, by decide +kernel⟩
    · obtain ⟨k, hk, rfl⟩ := Option.map_eq_some_iff.mp h
      rcases nv_cases hk with ⟨rfl, rfl⟩ | ⟨rfl, rfl⟩ | ⟨rfl, rfl⟩ | ⟨rfl, rfl⟩ | ⟨rfl, rfl⟩
      · exact ⟨"", by rfl, by decide +kernel, by decide +kernel⟩
      · exact ⟨"vv", by rfl, by decide +kernel, by decide +kernel⟩
      · exact ⟨"vv", by rfl, by decide +kernel, by decide +kernel⟩
      · exact ⟨"vv", by rfl, by decide +kernel, by decide +kernel⟩
      · exact ⟨"vvv", by rfl, by decide +kernel, by decide +kernel⟩
theorem sizes_none {w : Str} (h : szF w = none) : (valD sizesK (.inr w)).isSome = false := by
  have hn : ∀ x ∈ (["all", "is", "less", "within", "begins", "not", "and", "or"] : List Str), szF x ≠ none := by decide +kernel
  have hx : ∀ x ∈ (["all", "is", "less", "within", "begins", "not", "and", "or"] : List Str), w ≠ x := fun x hx e => hn x hx (e ▸ h)
  have key : (sizesK.find? fun kv => decide (kv.1 = (.inr w : Key))) = none := List.find?_eq_none.mpr fun kv hkv => by
    have : ∃ x ∈ (["all", "is", "less", "within", "begins", "not", "and", "or"] : List Str), kv.1 = .inr x := by
      unfold sizesK at hkv
      simp only [List.mem_cons, List.not_mem_nil, or_false] at hkv
      rcases hkv with rfl | rfl | rfl | rfl | rfl | rfl | rfl | rfl <;> exact ⟨_, by simp, rfl⟩
    obtain ⟨x, hm, e⟩ := this
    rw [e]
    exact fun z => hx x hm (Sum.inr.inj (of_decide_eq_true z)).symm
  unfold valD
  rw [key]; rfl
def S__law_read (ds : List Dt) (Q : Dt → Prop) : Prop := ∃ W : List Str, ds = [.lst (W.map Dt.str), .str "q"] ∧ W.length ≤ 1000 ∧ WsOk W ∧ Q (optN ((placeF W).map fun p => ((p : Nat) : Int)))
abbrev sp__law_read (K : PySem.W.Frag) : Sp := spP K S__law_read
abbrev wantD (ws : List Bool) : List Dt := ws.map fun b => .str (wantS b)
theorem want_sh (ws : List Bool) : ∀ d ∈ wantD ws, Sh 0 d := fun d hd => by
  obtain ⟨b, _, rfl⟩ := List.mem_map.mp hd
  cases b <;> exact .str (by decide +kernel)
theorem want_q (b : Bool) : decide ((wantS b : Str) = "q") = b := by cases b <;> decide +kernel
theorem val_sh (o : Option Val) {w : Str} (h : vword w = o) : ∀ d ∈ o.toList.map Val.dt, Sh 0 d := fun d hd => by
  cases o with
  | none => cases hd
  | some v =>
    have hd : d = v.dt := List.mem_singleton.mp hd
    subst hd
    exact sh_vw ⟨w, h⟩
theorem ok__law_read {P : Program} {w : World} {K : PySem.W.Frag} {mg : Str → Option Value} {base : Heap} (T : Txt w K mg) (c__law_value_of : Cal P w K mg base 1 "_law_value_of" (sp__law_value_of K) []) : Cal P w K mg base 2 "_law_read" (sp__law_read K) [] := by
  refine cal_pure T.f__law_read sc__law_read ?len fun f cdv A outer s H E hr => ⟨_, (pss_cons (ps_set (i := 2) sc__law_read.nd rfl (Or.inl rfl) (pe_disp (pps_cons pe_str pe_str (pps_cons pe_str pe_str (pps_cons pe_str pe_str (pps_cons pe_str pe_str (pps_cons pe_str pe_str (pps_cons pe_str pe_str (pps_cons pe_str pe_str (pps_cons pe_str pe_str pps_nil)))))))) (by rfl) (by rfl) (fun z => by cases z) (by decide)))
      (pss_cons (ps_set (i := 3) sc__law_read.nd rfl (Or.inl rfl) (pe_callTy (cl_listS hr.hd) (by rfl) T.b_list (by decide +kernel) (pa_cons (pv 1) pa_nil)))
      (pss_cons (ps_for PassesOwn.never rfl (pi_range1 (by rfl) T.b_range (pa_cons (pe_callB cl_len (by rfl) T.b_len PySem.boot_len (pa_cons (pv 0) pa_nil)) pa_nil)) (pg_name (i := 4) sc__law_read.nd rfl (Or.inl rfl)) (pss_cons (ps_if (pt_cmpR (op_eqU hr.units) (pv 3) (pe_lst pa_nil) (nomark _)) (pss_one (ps_ret (pv 4))) pss_nil)
      (pss_cons (ps_set (i := 5) sc__law_read.nd rfl (Or.inl rfl) (pe_bm PySem.F.plainAttrs_list PySem.F.slot_list_pop PySem.F.type_list_pop mt_popAt (pv 3) (pa_cons pe_int pa_nil)))
      (pss_one (ps_if (pt_cmpR (op_eqU hr.units) (pv 5) pe_str (nomark _)) (pss_cons (ps_if (pt_cmp (pc_dnotin (hu_of hr) (pe_ix ix_seq (pv 0) (pv 4) (fun _ _ => rfl)) (pv 2))) (pss_one (ps_ret (pv 4))) pss_nil)
      (pss_one (ps_set (i := 3) sc__law_read.nd rfl (Or.inl rfl) (pe_op op_addU (pe_callTy (cl_listS hr.hd) (by rfl) T.b_list (by decide +kernel) (pa_cons (pe_dget (hu_of hr) (pv 2) (pe_ix ix_seq (pv 0) (pv 4) (fun _ _ => rfl)) (fun _ _ => rfl)) pa_nil)) (pv 3))))) (pss_one (ps_if (pt_cmpR (op_eqU hr.units) (pe_c c__law_value_of hr (by decide) (by rfl) (pa_cons (pe_ix ix_seq (pv 0) (pv 4) (fun _ _ => rfl)) pa_nil)) (pe_lst pa_nil) (nomark _)) (pss_one (ps_ret (pv 4))) pss_nil)))))))
      (pss_one (ps_ret (pe_ifExp (pt_cmpR (op_neU hr.units) (pv 3) (pe_lst pa_nil) (nomark _)) (pe_callB cl_len (by rfl) T.b_len PySem.boot_len (pa_cons (pv 0) pa_nil)) pe_non)))))), ?body⟩
  case' body => try dsimp only [cxD, cxOf]
  case len => rintro ds Q ⟨_, rfl, _⟩; rfl
  case body =>
    rintro ds Q ⟨W, rfl, hl, hW, hq⟩ hid H0 D dom hD
    show NJ _ _ _ _ [.im (.lst (W.map Dt.str)), .im (.str "q"), .un, .un, .un, .un]
    refine q_asg (ev_disp ?_)
    iterate 8 refine evp_cons (ev_str (keyJs (ev_str ?_)))
    refine evp_nil ⟨by decide, by decide +kernel, ?_⟩
    walk_at "nm"
    show NJ _ _ _ _ [.im (.lst (W.map Dt.str)), .im (.str "q"), .im (.dk sizesK), .un, .un, .un]
    refine q_asgN (en_cb (ea_cons (ev_var rfl (ea_nil (list_s (by decide +kernel) ?_)))))
    walk_at "nm"
    refine q_for (ij_rng1 ?_)
    walk_at "go"
    rw [List.length_map]
    refine ⟨_, rfl, by omega, by omega, fun i ρ' => ∃ ws, ws.length ≤ 3 * i + 1 ∧ placeF W = wlF W ws i ∧ ρ' = [.im (.lst (W.map Dt.str)), .im (.str "q"), .im (.dk sizesK), .ac (wantD ws), .un, .un], ⟨[true], by decide, rfl, rfl⟩, ?_, ?_⟩
    · rintro H1 e1 i d ρ' hi ⟨ws, hwl, hpl, rfl⟩
      obtain ⟨hi, rfl⟩ := rangeD_at hi
      have hi2 : i < W.length := by omega
      have hwi : W[i]? = some W[i] := List.getElem?_eq_getElem hi2
      have hwk := hW _ (List.getElem_mem hi2)
      generalize W[i] = w at hwi hwk
      have hat := words_at hwi
      have em : W.length - i = (W.length - (i + 1)) + 1 := by omega
      refine tg_name ?_
      walk_at "nm"
      rw [Int.zero_add]
      have hret : ∀ (D' : Ends) (ρ : List Sl), D'.rt = D.rt → ρ[4]? = some (.im (.int ((i : Nat) : Int))) → wlF W ws i = some i → NJ (Cn.pure K) hid H1 (tRet (tVar 4) D') ρ := fun D' ρ e h4 hp => by
        refine nj_ret (ev_var h4 ?_)
        rw [e]
        rw [hpl, hp] at hq
        exact (hD.rt _ hq).base e1
      cases ws with
      | nil =>
        refine q_when (etj_peek (i := 3) rfl (etj (et_test (ev_op (ev_var rfl (EN.ev (en_lst (ea_nil ⟨by decide, eq_nil (n := 0) (want_sh _) (by decide) (blJ (bl_yes rfl ?_))⟩))))))))
        exact hret _ _ rfl rfl (by unfold wlF; rw [em]; rfl)
      | cons b ws =>
        refine q_when (etj_peek (i := 3) rfl (etj (et_test (ev_op (ev_var rfl (EN.ev (en_lst (ea_nil ⟨by decide, eq_nil (n := 0) (want_sh _) (by decide) (blJ (bl_no rfl ?_))⟩))))))))
        refine q_pop0A (i := 3) (j := 5) rfl ?_
        walk_at "nm"
        show NJ _ _ _ _ [.im (.lst (W.map Dt.str)), .im (.str "q"), .im (.dk sizesK), .ac (wantD ws), .im (.int ((i : Nat) : Int)), .im (.str (wantS b))]
        refine nj_if ?_
        walk_at "go"
        rw [want_q]
        cases b with
        | true =>
          refine bl_yes rfl ?_
          have e1 : wlF W (true :: ws) i = (match szF w with
            | none => some i
            | some sh => wlF W (sh ++ ws) (i + 1)) := by
            unfold wlF
            rw [em]
            show (match (W[i]?).bind szF with
              | none => some i
              | some sh => wlk W (W.length - (i + 1)) (sh ++ ws) (i + 1)) = _
            rw [hwi]; rfl
          cases hz : szF w with
          | none =>
            refine q_when (etj (et_test (ev_dnotin (ev_op (ev_var rfl (ev_var rfl (ix_l hat (keyJs (ev_var rfl ?_)))))))))
            show _ ∧ _
            rw [sizes_none hz]
            refine bl_yes rfl ?_
            exact hret _ _ rfl rfl (by rw [e1, hz])
          | some sh =>
            obtain ⟨z, z1, z2, z3⟩ := sizes_some hz
            have hs : (valD sizesK (.inr w)).isSome = true := by rw [z1]; rfl
            refine q_when (etj (et_test (ev_dnotin (ev_op (ev_var rfl (ev_var rfl (ix_l hat (keyJs (ev_var rfl ?_)))))))))
            show _ ∧ _
            rw [hs]
            refine bl_no rfl ?_
            refine nj_share (i := 3) rfl ?_
            walk_at "nm"
            refine nj_asgN (en_op (EN.ev (en_cb (ea_cons (ev_dget (ev_var rfl (dkJ (ev_op (ev_var rfl (ev_var rfl (ix_l hat (keyJs ⟨_, z1, ea_nil (list_s (by omega) ?_)⟩))))))))))))
            have hzl : sh.length ≤ 3 := by
              have := congrArg List.length z2
              unfold sgnS at this
              rw [List.length_map, List.length_map, Array.length_toList] at this
              have z3 : z.cps.size ≤ 3 := z3
              omega
            have hwl : ws.length + 1 ≤ 3 * i + 1 := hwl
            rw [z2]
            refine ev_var rfl (add_l (by rw [List.length_map, List.length_map, List.length_map]; omega) ?_)
            have ee : (sh.map wantS).map Dt.str ++ wantD ws = wantD (sh ++ ws) := by
              unfold wantD
              rw [List.map_append, List.map_map]; rfl
            rw [ee]
            refine nj_nxw _ ⟨sh ++ ws, by rw [List.length_append]; omega, by rw [hpl, e1, hz], rfl⟩ ?_
            walk_at "le"
        | false =>
          refine bl_no rfl ?_
          have e1 : wlF W (false :: ws) i = (match vword w with
            | none => some i
            | some _ => wlF W ws (i + 1)) := by
            unfold wlF
            rw [em]
            show (match (W[i]?).bind vword with
              | none => some i
              | some _ => wlk W (W.length - (i + 1)) ws (i + 1)) = _
            rw [hwi]; rfl
          refine nj_when (etj (et_test (ev_op (EN.ev (en_call (ea_cons (ev_op (ev_var rfl (ev_var rfl (ix_l hat (ea_nil (sp_n (S := S__law_value_of) ⟨w, rfl, hwk.2, hwk.1, ?_⟩))))))))))))
          refine EN.ev (en_lst (ea_nil ⟨by decide, eq_nil (n := 0) (val_sh _ rfl) (by decide) ?_⟩))
          cases hv : vword w with
          | none =>
            refine blJ (bl_yes rfl ?_)
            exact hret _ _ rfl rfl (by rw [e1, hv])
          | some v =>
            refine blJ (bl_no rfl ?_)
            have hwl : ws.length + 1 ≤ 3 * i + 1 := hwl
            refine nj_nxw _ ⟨ws, by omega, by rw [hpl, e1, hv], rfl⟩ ?_
            walk_at "le"
    · rintro ρ' ⟨ws, hwl, hpl, rfl⟩
      rw [rangeD_len, Int.toNat_natCast] at hpl
      have e1 : wlF W ws W.length = if ws = [] then none else some W.length := by
        unfold wlF
        rw [Nat.sub_self]; rfl
      rw [hpl, e1] at hq
      refine nj_share (i := 3) rfl ?_
      walk_at "nm"
      refine nj_ret (ev_if (et_test (ev_op (ev_var rfl (EN.ev (en_lst (ea_nil ⟨by decide, ne_nil (n := 0) (want_sh _) (by decide) ?_⟩)))))))
      cases ws with
      | nil =>
        refine blJ (bl_no rfl ?_)
        exact ev_non (hD.rt _ hq)
      | cons b ws =>
        refine blJ (bl_yes rfl ?_)
        walk_at "go"
        rw [List.length_map]
        exact hD.rt _ hq
end
section
open PySem PySem.Spec PyProof.Rows L2
open C8 (Cal pe_c pe_gc)
theorem cut_tail2 {d e : Dt} {ds : List Dt} : cutD (d :: e :: ds) (some 2) none = ds := by
  unfold cutD
  rw [show (2 : Int) = ((2 : Nat) : Int) from rfl, HT.sIx_nat, HT.sIx_none, List.length_cons, List.length_cons, Nat.min_eq_left (by omega)]
  show ds.take (ds.length + 1 + 1 - 2) = ds
  rw [show ds.length + 1 + 1 - 2 = ds.length by omega, List.take_length]
theorem range_mapL {α : Type} (l : List α) (f : Nat → Dt) (h : α → Dt) (e : ∀ i x, l[i]? = some x → f i = h x) : (List.range l.length).map f = l.map h := by
  refine List.ext_getElem? fun i => ?_
  rw [List.getElem?_map, List.getElem?_map]
  by_cases z : i < l.length
  · rw [List.getElem?_range z, List.getElem?_eq_getElem z]
    exact congrArg some (e i _ (List.getElem?_eq_getElem z))
  · rw [List.getElem?_eq_none (by rw [List.length_range]; omega), List.getElem?_eq_none (by omega)]; rfl
def S__law_count (n : Nat) (ds : List Dt) (Q : Dt → Prop) : Prop := ∃ (ks : List Bool) (c : Ct) (dp m : Nat), ds = [kindsD ks, c.dt, .int (dp : Nat)] ∧ KindsOk ks ∧ CtOk m c ∧ 8 < dp + n ∧ dp ≤ 8 ∧ Q (.int (lcC ks dp c : Nat))
abbrev sp__law_count (n : Nat) (K : PySem.W.Frag) : Sp := spP K (S__law_count n)
theorem ok__law_count {P : Program} {w : World} {K : PySem.W.Frag} {mg : Str → Option Value} {base : Heap} (T : Txt w K mg)  (n : Nat) : Cal P w K mg base (n + 1) "_law_count" (sp__law_count n K) [] := by
  induction n with
  | zero =>
    refine cal_pure T.f__law_count sc__law_count ?len fun f cdv A outer s H E hr => ⟨_, pss_never, ?body⟩
    case' body => try dsimp only [cxD, cxOf]
    case len => rintro ds Q ⟨_, _, _, _, rfl, _⟩; rfl
    case body =>
      rintro ds Q ⟨ks, c, dp, m, rfl, hk, hc, hd, hd2, hq⟩ hid H0 D dom hD
      omega
  | succ n ih =>
    have c__law_count := ih
    refine cal_pure T.f__law_count sc__law_count ?len fun f cdv A outer s H E hr => ⟨_, (pss_cons (ps_if (pt_cmpR op_gtU (pv 2) pe_int (nomark _)) (pss_one (ps_ret pe_int)) pss_nil)
      (pss_cons (ps_if (pt_cmpR op_inU (pe_ix ix_seq (pv 1) pe_int (fun _ _ => rfl)) (pe_tup (pa_cons pe_str (pa_cons pe_str (pa_cons pe_str pa_nil)))) rfl) (pss_one (ps_ret (pe_op op_addU pe_int (pe_callB (cr_sum rfl) (by rfl) T.b_sum (by decide +kernel) (pa_cons (pe_lc (g := (gName 6)) (tt := tYes) (te := (tCall (sp__law_count n K) [] E0 (tCons (tVar 0) (tCons (tVar 6) (tCons (tOp (rAddU K) (tVar 2) (tC (.int 1))) tNil))))) (own := [("_law_inner", 6)]) rfl sc__law_count.nd (pi_tup (pe_slice sl_tupA (pv 1) (po_some pe_int) po_none)) (blkOk_by (N := ["_law_kinds_here", "_law_condition_here", "_law_deep", "_law_column", "_law_words", "_law_good", "_law_inner", "_law_value_here"]) (sc := defScope s__law_count) (by decide +kernel)) (fun _ _ _ _ _ => (pg_name (i := 6) sc__law_count.nd rfl (Or.inl rfl))) (fun _ _ _ _ _ => pts_nil) (fun _ _ _ _ _ => (pe_c c__law_count hr (Nat.le_refl _) (by rfl) (pa_cons (pv 0) (pa_cons (pv 6) (pa_cons (pe_op op_addU (pv 2) pe_int) pa_nil)))))) pa_nil))))) pss_nil)
      (pss_cons (ps_if (pt_cmpR (op_eqU hr.units) (pe_ix ix_seq (pv 1) pe_int (fun _ _ => rfl)) pe_str (nomark _)) (pss_one (ps_ret pe_int)) pss_nil)
      (pss_cons (ps_set (i := 3) sc__law_count.nd rfl (Or.inl rfl) (pe_ix ix_seq (pv 1) pe_int (fun _ _ => rfl)))
      (pss_cons (ps_if ((pw_or (pt_val (pe_callB call_isi (by rfl) T.b_isinstance (by decide +kernel) (pa_cons (pv 3) (pa_cons (pe_bltn (v := .ty "str") (by rfl) T.b_str (by decide +kernel) rfl) pa_nil)))) (pw_or1 (pt_not (pt_chain op_leU op_ltU pe_int (pv 3) (pe_callB cl_len (by rfl) T.b_len PySem.boot_len (pa_cons (pv 0) pa_nil))))))).pt (pss_one (ps_ret pe_int)) pss_nil)
      (pss_cons (ps_setLc (i := 4) rfl sc__law_count.nd rfl rfl (sw_true rfl rfl rfl (by decide +kernel)) (g := (gName 7)) (tt := tYes) (te := (tCB (rIsi K) (tCons (tVar 7) (tCons (tC (.ty "str")) tNil)))) (own := [("_law_value_here", 7)]) (pi_tup (pe_slice sl_tupA (pv 1) (po_some pe_int) po_none)) (blkOk_by (N := ["_law_kinds_here", "_law_condition_here", "_law_deep", "_law_column", "_law_words", "_law_good", "_law_inner", "_law_value_here"]) (sc := defScope s__law_count) (by decide +kernel)) (fun _ _ _ _ _ => (pg_name (i := 7) sc__law_count.nd rfl (Or.inl rfl))) (fun _ _ _ _ _ => pts_nil) (fun _ _ _ _ _ => (pe_callB call_isi (by rfl) T.b_isinstance (by decide +kernel) (pa_cons (pv 7) (pa_cons (pe_bltn (v := .ty "str") (by rfl) T.b_str (by decide +kernel) rfl) pa_nil)))))
      (pss_cons (ps_set (i := 5) sc__law_count.nd rfl (Or.inl rfl) (pe_cmpR (op_eqU hr.units) (pv 4) (pe_op op_mulU (pe_lst (pa_cons (pe_cmpR (op_eqU hr.units) (pe_ix ix_seq (pv 0) (pv 3) (fun _ _ => rfl)) pe_str (nomark _)) pa_nil)) (pe_callB cl_len (by rfl) T.b_len PySem.boot_len (pa_cons (pv 4) pa_nil))) (nomark _)))
      (pss_one (ps_ret (pe_ifExp ((pw_and (pt_val (pv 5)) (pw_and1 ((pw_or (pt_cmpR (op_neU hr.units) (pe_ix ix_seq (pv 1) pe_int (fun _ _ => rfl)) pe_str (nomark _)) (pw_or1 (pt_cmpR (op_eqU hr.units) (pe_ix ix_seq (pv 0) (pv 3) (fun _ _ => rfl)) pe_str (nomark _))))).pt))).pt pe_int pe_int)))))))))), ?body⟩
    case' body => try dsimp only [cxD, cxOf]
    case len => rintro ds Q ⟨_, _, _, _, rfl, _⟩; rfl
    case body =>
      rintro ds Q ⟨ks, c, dp, m, rfl, hk, hc, hd, hd2, hq⟩ hid H0 D dom hD
      show NJ _ _ _ _ [.im (kindsD ks), .im c.dt, .im (.int (dp : Nat)), .un, .un, .un, .un, .un]
      refine q_when ?_
      walk_at "go"
      by_cases hdp : 7 < dp
      · refine bl_yes (decide_eq_true (by omega)) ?_
        have : lcC ks dp c = 99 := by
          rcases ct_q hc with ⟨m, w, xs, rfl, rfl, hw, hx⟩ | ⟨m, w, cs, rfl, _, hw, hd, hc, _, _, _, _, h1⟩
          · unfold lcC
            rw [if_pos hdp]
          · rw [h1, if_pos hdp]
        rw [this] at hq
        exact nj_ret (ev_int (hD.rt _ hq))
      refine bl_no (decide_eq_false (by omega)) ?_
      rcases ct_q hc with ⟨m, w, xs, rfl, rfl, hw, hx⟩ | ⟨m, w, cs, rfl, hsp, _, hdt, hcs, hcl, hcl2, hwm, _, hlc⟩
      · have hlcv : lcC ks dp (.v w xs) = if goodV ks w xs = true then 1 else 99 := by
          rw [lcC, if_neg hdp]
        rw [hlcv] at hq
        show NJ _ _ _ _ [.im (kindsD ks), .im (.tup (.str w :: xs.map Val.dt)), .im (.int (dp : Nat)), .un, .un, .un, .un, .un]
        have hw3 : inV (.str w) ((["not", "and", "or"] : List Str).map V.str) = false := by
          rcases nv_cases hw with ⟨rfl, _⟩ | ⟨rfl, _⟩ | ⟨rfl, _⟩ | ⟨rfl, _⟩ | ⟨rfl, _⟩ <;> decide +kernel
        refine q_when ?_
        walk_at "go"
        refine in_s (xs := ["not", "and", "or"]) ?_
        refine bl_no hw3 ?_
        refine q_when ?_
        walk_at "go"
        by_cases hall : w = "all"
        · refine bl_yes (decide_eq_true hall) ?_
          have e : xs = [] := by
            subst hall
            have : nvF "all" = some 0 := by decide +kernel
            rw [this] at hw
            exact List.length_eq_zero_iff.mp (Option.some.inj hw).symm
          rw [e] at hq
          exact nj_ret (ev_int (hD.rt _ hq))
        refine bl_no (decide_eq_false hall) ?_
        obtain ⟨a, r, rfl⟩ : ∃ a r, xs = a :: r := by
          cases xs with
          | nil =>
            rcases nv_cases hw with ⟨z, _⟩ | ⟨_, z⟩ | ⟨_, z⟩ | ⟨_, z⟩ | ⟨_, z⟩
            · exact absurd z hall
            all_goals cases z
          | cons a r => exact ⟨a, r, rfl⟩
        have hrl : r.length = 1 ∨ r.length = 2 := by
          rcases nv_cases hw with ⟨z, _⟩ | ⟨_, z⟩ | ⟨_, z⟩ | ⟨_, z⟩ | ⟨_, z⟩
          · exact absurd z hall
          all_goals
            rw [List.length_cons] at z
            omega
        show NJ _ _ _ _ [.im (kindsD ks), .im (.tup (.str w :: a.dt :: r.map Val.dt)), .im (.int (dp : Nat)), .un, .un, .un, .un, .un]
        refine q_asg ?_
        walk_at "go"
        walk_at "nm"
        refine q_when ?_
        walk_at "go"
        cases a with
        | s x =>
          show _ ∧ _
          refine ⟨rfl, _, k_ss, ?_⟩
          refine or_yes rfl (bl_yes rfl ?_)
          exact nj_ret (ev_int (hD.rt _ hq))
        | i k =>
          show _ ∧ _
          refine ⟨rfl, _, k_is, ?_⟩
          refine or_no rfl ?_
          walk_at "go"
          have hgv : goodV ks w (.i k :: r) = (decide (0 ≤ k ∧ k < ks.length) && (r.all fun v => decide (vkind v = ks.getD k.toNat false)) && (!decide (w = "begins") || ks.getD k.toNat false)) := rfl
          have hbadk : ¬ (0 ≤ k ∧ k < ks.length) → goodV ks w (.i k :: r) = false := fun h => by rw [hgv, decide_eq_false h]; rfl
          have h99 : ∀ (D' : Ends) (ρ : List Sl), D'.rt = D.rt → goodV ks w (.i k :: r) = false → NJ (Cn.pure K) hid H0 (tRet (tC (.int 99)) D') ρ := fun D' ρ e h => by
            rw [h, if_neg Bool.false_ne_true] at hq
            refine nj_ret (ev_int ?_)
            rw [e]
            exact hD.rt _ hq
          show R2J _ _ (.int 0) (.int k) _
          walk_at "go"
          by_cases h0 : 0 ≤ k
          · refine bl_yes (decide_eq_true h0) ?_
            walk_at "go"
            refine len_t (ds := ks.map fun w => .str (kindS w)) ?_
            show R2J _ _ (.int k) _ _
            walk_at "go"
            by_cases h1 : k < ks.length
            · refine bl_no (by rw [List.length_map, decide_eq_true h1]; rfl) ?_
              obtain ⟨k, rfl⟩ := Int.eq_ofNat_of_zero_le h0
              have hkl : k < ks.length := by omega
              have hk2 : ks[k]? = some ks[k] := List.getElem?_eq_getElem hkl
              have hgd : ks.getD ((k : Nat) : Int).toNat false = ks[k] := by rw [Int.toNat_natCast, List.getD_eq_getElem?_getD, hk2]; rfl
              rw [decide_eq_true ⟨h0, h1⟩, hgd, Bool.true_and] at hgv
              rw [hgv] at hq
              have hka := kinds_at hk2
              generalize ks[k] = kb at hgv hq hka
              have hxr : ∀ v ∈ r, VW v := fun v hv => hx v (List.mem_cons_of_mem _ hv)
              refine q_asgN (en_map (ij_tup (ev_slT (ev_var rfl (tupJ (eo_some (ev_int (intJ (eo_none (tupJ ?_))))))))))
              rw [show (Dt.str w :: (Val.i ((k : Nat) : Int)).dt :: r.map Val.dt) = Dt.str w :: (Val.i ((k : Nat) : Int)).dt :: r.map Val.dt from rfl, cut_tail2]
              refine ⟨by rw [List.length_map]; omega, fun i => match r[i]? with
                | some v => .bl (vkind v)
                | none => .non, fun i d hi => ?_, ?_⟩
              · rw [List.getElem?_map] at hi
                obtain ⟨v, hv, rfl⟩ := Option.map_eq_some_iff.mp hi
                refine tge_name (by decide) (et_yes ⟨rfl, ?_⟩)
                walk_at "nm"
                rw [hv]
                cases v with
                | i n => exact ev_isi (ev_var rfl ⟨rfl, _, k_is, rfl⟩)
                | s y => exact ev_isi (ev_var rfl ⟨rfl, _, k_ss, rfl⟩)
              rw [List.length_map, range_mapL r (fun i => match r[i]? with
                | some v => .bl (vkind v)
                | none => .non) (fun v => .bl (vkind v)) fun i x hi => by first | (dsimp only; rw [hi]) | rw [hi]]
              walk_at "nm"
              refine nj_share (i := 4) rfl ?_
              walk_at "nm"
              obtain ⟨X, hX⟩ : ∃ X, X = r.all fun v => decide (vkind v = kb) := ⟨_, rfl⟩
              refine q_asg (EV.imp (Q := fun d => d = .bl X) ?_ ?_)
              · refine ev_op (ev_var rfl (EN.ev (en_op (EN.ev (en_lst (ea_cons (ev_op (ev_op (ev_var rfl (ev_var rfl (ix_t hka (ev_str (eq_s (ea_nil ⟨by show 1 ≤ 100000; omega, ev_cb (ea_cons (ev_var rfl (ea_nil (len_l (mul_l ⟨by rw [List.length_map]; omega, by rw [List.length_map]; omega⟩ (by rw [List.length_map]; show 1 * _ ≤ _; omega) ?_)))))⟩))))))))))))))
                have hkb : decide ((kindS kb : Str) = "word") = kb := by cases kb <;> decide +kernel
                rw [hkb, List.length_map, Int.toNat_natCast]
                refine eq_d (n := 1) (m := 1) (.lst fun d hd => ?_) (.lst fun d hd => ?_) (by decide) (by decide) ?_
                · obtain ⟨v, _, rfl⟩ := List.mem_map.mp hd
                  exact .bl _
                · obtain ⟨l, hl, hd⟩ := List.mem_flatten.mp hd
                  rw [List.eq_of_mem_replicate hl] at hd
                  rw [List.mem_singleton.mp hd]
                  exact .bl _
                rw [hX]
                rcases hrl with h | h
                · match r, h with
                  | [v], _ =>
                    show Dt.bl (PyData.eqv (py (.lst [.bl (vkind v)])) (py (.lst [.bl kb]))) = .bl (decide (vkind v = kb) && true)
                    generalize vkind v = x
                    cases x <;> cases kb <;> rfl
                · match r, h with
                  | [v, u], _ =>
                    show Dt.bl (PyData.eqv (py (.lst [.bl (vkind v), .bl (vkind u)])) (py (.lst [.bl kb, .bl kb]))) = .bl (decide (vkind v = kb) && (decide (vkind u = kb) && true))
                    generalize vkind v = x
                    generalize vkind u = y
                    cases x <;> cases y <;> cases kb <;> rfl
              rintro _ rfl
              walk_at "nm"
              rw [← hX] at hq
              refine nj_ret (ev_if ?_)
              walk_at "go"
              cases X with
              | false =>
                refine bl_no rfl (bl_no rfl ?_)
                rw [Bool.false_and, if_neg Bool.false_ne_true] at hq
                exact ev_int (hD.rt _ hq)
              | true =>
                refine bl_yes rfl ?_
                walk_at "go"
                rw [Bool.true_and] at hq
                have hkb : decide ((kindS kb : Str) = "word") = kb := by cases kb <;> decide +kernel
                by_cases hb : w = "begins"
                · rw [decide_eq_true hb] at hq
                  refine or_no (by rw [decide_eq_true hb]; rfl) ?_
                  walk_at "go"
                  refine ix_t hka ?_
                  walk_at "go"
                  rw [hkb]
                  cases kb with
                  | true => exact bl_yes rfl (ev_int (hD.rt _ hq))
                  | false => exact bl_no rfl (ev_int (hD.rt _ hq))
                · rw [decide_eq_false hb] at hq
                  refine or_yes (by rw [decide_eq_false hb]; rfl) (bl_yes rfl ?_)
                  exact ev_int (hD.rt _ hq)
            · refine bl_yes (by rw [List.length_map, decide_eq_false h1]; rfl) ?_
              exact h99 _ _ rfl (hbadk fun z => h1 z.2)
          · refine bl_no (decide_eq_false h0) (bl_yes rfl ?_)
            exact h99 _ _ rfl (hbadk fun z => h0 z.1)
      · rw [hdt]
        refine q_when ?_
        walk_at "go"
        refine in_s (xs := ["not", "and", "or"]) ?_
        refine bl_yes (by
          simp only [List.mem_cons, List.not_mem_nil, or_false] at hwm
          rcases hwm with rfl | rfl | rfl <;> decide +kernel) ?_
        have hlc := hlc ks dp
        rw [if_neg hdp] at hlc
        rw [hlc] at hq
        refine nj_ret (ev_op (ev_int (ev_cb (ea_cons (EN.ev (en_map (ij_tup (ev_slT (ev_var rfl (tupJ (eo_some (ev_int (intJ (eo_none (tupJ ?_)))))))))))))))
        rw [cut_tail]
        refine ⟨by rw [List.length_map]; omega, fun i => match cs[i]? with
          | some a => .int (lcC ks (dp + 1) a : Nat)
          | none => .non, fun i d hi => ?_, ?_⟩
        · rw [List.getElem?_map] at hi
          obtain ⟨a, ha, rfl⟩ := Option.map_eq_some_iff.mp hi
          refine tge_name (by decide) (et_yes ⟨rfl, ?_⟩)
          walk_at "nm"
          refine ev_call (ea_cons (ev_var rfl (ea_cons (ev_var rfl (ea_cons (ev_op (ev_var rfl (ev_int (add_i (ea_nil (sp_j (S := S__law_count n) ⟨ks, a, dp + 1, _, by rw [Int.natCast_add]; rfl, hk, hcs a (List.mem_of_getElem? ha), by omega, by omega, ?_⟩)))))))))))
          rw [ha]
        rw [List.length_map, range_mapL cs (fun i => match cs[i]? with
          | some a => .int (lcC ks (dp + 1) a : Nat)
          | none => .non) (fun a => .int (lcC ks (dp + 1) a : Nat)) fun i x hi => by first | (dsimp only; rw [hi]) | rw [hi]]
        have e1 : (cs.map fun a => Dt.int (lcC ks (dp + 1) a : Nat)) = (cs.map fun a => ((lcC ks (dp + 1) a : Nat) : Int)).map Dt.int := by rw [List.map_map]; rfl
        have e2 : ∀ l : List Ct, (l.map fun a => ((lcC ks (dp + 1) a : Nat) : Int)).sum = (((l.map (lcC ks (dp + 1))).sum : Nat) : Int) := fun l => by
          induction l with
          | nil => rfl
          | cons a r ih => rw [List.map_cons, List.map_cons, List.sum_cons, List.sum_cons, ih]; omega
        rw [e1]
        refine ea_nil (sum_l (add_i (hD.rt _ (cast (congrArg Q ?_) hq))))
        rw [e2]
        exact congrArg Dt.int (by omega)
end
section
open PySem PySem.Spec PyProof.Rows L2
open C8 (Cal pe_c pe_gc)
theorem qr_asg1 {K : PySem.W.Frag} {X : Cl K} {g : GT} {hid : Addr → Bool} {H0 : Hp} {ρ : List Sl} {D : Ends} {tz : TS} {i : Nat} {te : TE} (h : EVR X g te ρ fun g1 r => ∃ d, r = .dat d ∧ (Fr (WT X) g g1 H0 → NJ (ct X g1) hid H0 (tz D) (ρ.set i (.ac [d])))) : NJ (ct X g) hid H0 (tSeq (tAsg (tLst (tCons te tNil)) (gName i)) tz D) ρ := fun hd H σ s =>
  h hd H σ s.toSV _ fun g1 r v H1 hq st rv => by
    obtain ⟨d, rfl, hq⟩ := hq
    obtain ⟨s', f⟩ := s.step st
    refine ⟨Evl.sz_of (by show 1 ≤ 100000; omega), fun p hp => ?_⟩
    have hmu : (ct X g1).mu p = false := by
      cases q : (ct X g1).mu p with
      | false => rfl
      | true => exact absurd hp (s'.dom p (s'.muh p q))
    exact hq f _ _ _ (s'.setNew (i := i) (sl := .ac [d]) (Ex.new (o := .lst [v]) hp) ((ct X g1).keepN (.new hp) hp s'.inv) hp (by rw [upd_same]; exact fun z => nomatch z) ⟨hide_self, hmu, [v], upd_same, RpAll.mono (sees_new (Ex.new hp (mu := none0)) (fun _ h => nomatch h) hp) (.cons rv .nil)⟩)
theorem evr_callNG {K : PySem.W.Frag} {X : Cl K} {g : GT} {ρ : List Sl} {tr : TA} {S : List Dt → (List Dt → Prop) → Prop} {E : XK} {Q : GT → RV → Prop} (h : EAG X g tr ρ fun g1 rs => ∃ ds, rs = dats ds ∧ S ds fun es => ∀ o, g1 o = none → Q (setG g1 o (.lst (dats es))) (.ref o)) : EVR X g (tCall (spPN K S) [] E tr) ρ Q := fun hd H σ v Qh q => h hd H σ v _ fun g1 rs vs H1 hq st1 r1 => by
  obtain ⟨ds, rfl, hS⟩ := hq
  have v1 := v.step st1
  show spPN K S (vs ++ []) H1 _ E
  rw [List.append_nil]
  refine ⟨_, ds, _, v1.dom, dats_rpW r1, hS, fun es o ws H' hq e ho hw rw' => ?_⟩
  have go2 := got_new (m' := .lst (dats es)) v1.inv v1.muh (e.up (c := ct X g1)) ((ct X g1).keepN e ho v1.inv) ho ⟨ws, hw, p2_dats rw'⟩
  exact q _ (.ref o) (.ref o) _ (hq o (g_none v1.inv ho)) (st1.trans go2) rfl
theorem drop_at {W : List Str} {p : Nat} {w : Str} (h : W[p]? = some w) : (W.drop p).map Dt.str = .str w :: (W.drop (p + 1)).map Dt.str := by
  obtain ⟨hp, e⟩ := List.getElem?_eq_some_iff.mp h
  rw [List.drop_eq_getElem_cons hp, e]; rfl
theorem sizes_char {w : Str} {sh : List Bool} (h : szF w = some sh) : ∃ z : Str, valD sizesK (.inr w) = some (.str z) ∧ chrs z = sh.map fun b => Dt.str (wantS b) := by
  obtain ⟨z, h1, h2, _⟩ := sizes_some h
  refine ⟨z, h1, ?_⟩
  have : chrs z = (sgnS z).map Dt.str := by unfold chrs sgnS; rw [List.map_map]; rfl
  rw [this, h2, List.map_map]; rfl
theorem sz_q {w : Str} {k : Nat} (h : nqF w = some k) : szF w = some (List.replicate k true) := by
  unfold nqF at h
  unfold szF
  split at h
  · rename_i hw; cases h; rw [if_pos hw]; rfl
  · rename_i h1
    rw [if_neg h1]
    split at h
    · rename_i hw; cases h; rw [if_pos hw]; rfl
    · cases h
theorem sz_v {w : Str} {k : Nat} (h : nvF w = some k) : szF w = some (List.replicate k false) := by
  have h1 : w ≠ "not" := by rcases nv_cases h with ⟨rfl, _⟩ | ⟨rfl, _⟩ | ⟨rfl, _⟩ | ⟨rfl, _⟩ | ⟨rfl, _⟩ <;> decide
  have h2 : ¬ (w = "and" ∨ w = "or") := by rcases nv_cases h with ⟨rfl, _⟩ | ⟨rfl, _⟩ | ⟨rfl, _⟩ | ⟨rfl, _⟩ | ⟨rfl, _⟩ <;> decide
  unfold szF
  rw [if_neg h1, if_neg h2, h]; rfl
def S__law_made (n : Nat) (g : GT) (rs : List RV) (Q : GT → RV → Prop) : Prop := ∃ (W : List Str) (p q : Nat) (b : Addr) (c : Ct), rs = [.ref b] ∧ g b = some (.lst (dats ((W.drop p).map Dt.str))) ∧ rd W n p = .ok c q ∧ W.length ≤ 1000 ∧ WsOk W ∧ ∀ g', (∀ y u, y ≠ b → g y = some u → g' y = some u) → g' b = some (.lst (dats ((W.drop q).map Dt.str))) → Q g' (.dat c.dt)
abbrev sp__law_made (n : Nat) (K : PySem.W.Frag) : Sp := spR K (S__law_made n)
theorem ok__law_made {P : Program} {w : World} {K : PySem.W.Frag} {mg : Str → Option Value} {base : Heap} (T : Txt w K mg) (c__law_value_of : Cal P w K mg base 1 "_law_value_of" (sp__law_value_of K) []) (n : Nat) : Cal P w K mg base (n + 3) "_law_made" (sp__law_made n K) [] := by
  induction n with
  | zero =>
    refine cal_r T.f__law_made sc__law_made ?len fun f cdv A outer s H E hr => ⟨_, pss_never, ?body⟩
    case' body => try dsimp only [cxD, cxOf]
    case len => rintro g rs Q ⟨_, _, _, _, _, rfl, _⟩; rfl
    case body =>
      rintro X g rs Q ⟨W, p, q, b, c, rfl, hb, hr, _⟩ hid H0 D dom hD
      cases hr
  | succ n ih =>
    have c__law_made := ih
    refine cal_r T.f__law_made sc__law_made ?len fun f cdv A outer s H E hr => ⟨_, (pss_cons (ps_set (i := 1) sc__law_made.nd rfl (Or.inl rfl) (pe_disp (pps_cons pe_str pe_str (pps_cons pe_str pe_str (pps_cons pe_str pe_str (pps_cons pe_str pe_str (pps_cons pe_str pe_str (pps_cons pe_str pe_str (pps_cons pe_str pe_str (pps_cons pe_str pe_str pps_nil)))))))) (by rfl) (by rfl) (fun z => by cases z) (by decide)))
      (pss_cons (ps_set (i := 2) sc__law_made.nd rfl (Or.inl rfl) (pe_lst (pa_cons (pe_bm PySem.F.plainAttrs_list PySem.F.slot_list_pop PySem.F.type_list_pop mt_popAt (pv 0) (pa_cons pe_int pa_nil)) pa_nil)))
      (pss_cons (ps_for PassesOwn.never rfl (pi_str (pe_dget (hu_of hr) (pv 1) (pe_ix ix_seq (pv 2) pe_int (fun _ _ => rfl)) (fun _ _ => rfl))) (pg_name (i := 3) sc__law_made.nd rfl (Or.inl rfl)) (pss_one (ps_expr (pe_bm PySem.F.plainAttrs_list PySem.F.slot_list_append PySem.F.type_list_append mt_append (pv 2) (pa_cons (pe_ifExp (pt_cmpR (op_eqU hr.units) (pv 3) pe_str (nomark _)) (pe_c c__law_made hr (Nat.le_refl _) (by rfl) (pa_cons (pv 0) pa_nil)) (pe_ix ix_seq (pe_c c__law_value_of hr (by omega) (by rfl) (pa_cons (pe_bm PySem.F.plainAttrs_list PySem.F.slot_list_pop PySem.F.type_list_pop mt_popAt (pv 0) (pa_cons pe_int pa_nil)) pa_nil)) pe_int (fun _ _ => rfl))) pa_nil)))))
      (pss_one (ps_ret (pe_callTy cl_tuple (by rfl) T.b_tuple (by decide +kernel) (pa_cons (pv 2) pa_nil))))))), ?body⟩
    case' body => try dsimp only [cxD, cxOf]
    case len => rintro g rs Q ⟨_, _, _, _, _, rfl, _⟩; rfl
    case body =>
      rintro X g rs Q ⟨W, p, q, b, c, rfl, hb, hr, hl, hW, hq⟩ hid H0 D dom hD
      obtain ⟨w, hw⟩ : ∃ w, W[p]? = some w := by
        cases h : W[p]? with
        | none => rw [rd, h] at hr; cases hr
        | some w => exact ⟨w, rfl⟩
      rw [drop_at hw] at hb
      show NJ _ _ _ _ [.rw (.ref b), .un, .un, .un]
      refine q_asg (ev_disp ?_)
      iterate 8 refine evp_cons (ev_str (keyJs (ev_str ?_)))
      refine evp_nil ⟨by decide, by decide +kernel, ?_⟩
      walk_at "nm"
      show NJ _ _ _ _ [.rw (.ref b), .im (.dk sizesK), .un, .un]
      refine qr_asg1 (evr_pop0 (erc_var rfl) hb ⟨_, rfl, fun fr0 => ?_⟩)
      walk_at "nm"
      obtain ⟨g0, hg0⟩ : ∃ g0, g0 = setG g b (.lst (dats ((W.drop (p + 1)).map Dt.str))) := ⟨_, rfl⟩
      have k0 : ∀ y u, y ≠ b → g y = some u → g0 y = some u := fun y u hy h => by rw [hg0, setG_ne hy]; exact h
      have hb0 : g0 b = some (.lst (dats ((W.drop (p + 1)).map Dt.str))) := by rw [hg0]; exact setG_same
      rw [show setG g b (.lst (((W.drop (p + 1)).map Dt.str).map RV.dat)) = g0 from hg0.symm] at fr0 ⊢
      cases hnq : nqF w with
      | none =>
        cases hnv : nvF w with
        | none => rw [rd_x hw hnq hnv] at hr; cases hr
        | some k =>
          obtain ⟨z, z1, z2⟩ := sizes_char (sz_v hnv)
          rw [rd_v hw hnv] at hr
          cases hrv : rdv W k (p + 1) with
          | bad q' => rw [hrv] at hr; cases hr
          | ok vs q' =>
            rw [hrv] at hr
            cases hr
            obtain ⟨v1, v2, v3, v4, v5⟩ := rdv_ok hrv
            refine qm_for (W := WT X) (ij_str (ev_dget (ev_var rfl (dkJ (ev_ixA rfl (ev_int (intJ ⟨.str w, rfl, keyJs ⟨_, z1, strJ ⟨fun i g' ρ' => (∀ y u, y ≠ b → g y = some u → g' y = some u) ∧ g' b = some (.lst (dats ((W.drop (p + 1 + i)).map Dt.str))) ∧ ρ' = [.rw (.ref b), .im (.dk sizesK), .ac (.str w :: (vs.take i).map Val.dt), .un], ⟨k0, hb0, rfl⟩, ?_, ?_⟩⟩⟩)))))))
            · rintro H1 e1 i d g' ρ' hi ⟨k1, hb1, rfl⟩ fr1
              have hi : (chrs z)[i]? = some d := hi
              rw [z2, List.getElem?_map, List.getElem?_replicate] at hi
              have hik : i < k := by
                by_cases y : i < k
                · exact y
                · rw [if_neg y] at hi; cases hi
              rw [if_pos hik] at hi
              cases hi
              obtain ⟨w2, hw2, hv2⟩ := v5 i hik
              have hvi : vs[i]? = some (vs[i]'(by omega)) := List.getElem?_eq_getElem _
              generalize vs[i]'(by omega) = v at hvi
              rw [hvi] at hv2
              have hok2 := hW w2 (List.mem_of_getElem? hw2)
              rw [drop_at hw2] at hb1
              have hfl : (.str w :: (vs.take i).map Val.dt : List Dt).length < 100000 := by
                have := List.length_take_le i vs
                rw [List.length_cons, List.length_map, List.length_take]
                omega
              refine tg_name ?_
              walk_at "nm"
              refine njr_appA (i := 2) rfl hfl (evr_if (et_test (ev_op (ev_var rfl (ev_str (eq_s (blJ (bl_no (by decide +kernel) ?_))))))))
              refine evr_opPG (fun _ => true) 1 (eag_cons (evr_callNG (eag_cons (evr_pop0 (erc_var rfl) hb1 (eag_nil ⟨[.str w2], rfl, w2, rfl, hok2.2, hok2.1, ?_⟩)))))
              intro o ho
              rw [hv2]
              have hob : o ≠ b := fun y => by subst y; rw [setG_same] at ho; cases ho
              refine eag_cons (evr (ev_int (eag_nil ⟨.lst [v.dt], .int 0, .cons (.inr ⟨o, _, _, rfl, rfl, setG_same, rfl, .cons rfl .nil⟩) (.cons (.inl rfl) .nil), ix_l0 ⟨by cases v <;> rfl, _, rfl, fun fr2 => ?_⟩⟩)))
              refine njm_nxw _ ⟨fun y u hy hu => ?_, ?_, rfl⟩ (fr1.trans fr2) ?_
              · have h1 := k1 y u hy hu
                have hyo : y ≠ o := fun e => by
                  subst e
                  rw [setG_ne hy, h1] at ho; cases ho
                rw [setG_ne hyo, setG_ne hy]
                exact h1
              · rw [setG_ne (Ne.symm hob), setG_same]; rfl
              · rw [take_at hvi, List.map_append]
                walk_at "le"
            · rintro g' ρ' ⟨k1, hb1, rfl⟩ fr1
              have el : (chrs z).length = k := by rw [z2, List.length_map, List.length_replicate]
              rw [el] at hb1
              rw [el, show vs.take k = vs from by rw [← v1, List.take_length]]
              rw [← v2] at hb1
              refine nj_share (i := 2) rfl ?_
              walk_at "nm"
              refine njr_retD ?_
              walk_at "go"
              exact hD.rt _ _ (hq g' k1 hb1) (fr0.trans fr1)
      | some k =>
        obtain ⟨z, z1, z2⟩ := sizes_char (sz_q hnq)
        obtain ⟨_, hk2, hk1⟩ := nq_shape hnq
        rw [rd_q hw hnq] at hr
        cases hrv : rdq W n k (p + 1) with
        | bad q' => rw [hrv] at hr; cases hr
        | ok cs q' =>
          rw [hrv] at hr
          cases hr
          refine qm_for (W := WT X) (ij_str (ev_dget (ev_var rfl (dkJ (ev_ixA rfl (ev_int (intJ ⟨.str w, rfl, keyJs ⟨_, z1, strJ ⟨fun i g' ρ' => i ≤ k ∧ ∃ cs1 q1, cs1.length = i ∧ rdq W n k (p + 1) = addQ cs1 (rdq W n (k - i) q1) ∧ (∀ y u, y ≠ b → g y = some u → g' y = some u) ∧ g' b = some (.lst (dats ((W.drop q1).map Dt.str))) ∧ ρ' = [.rw (.ref b), .im (.dk sizesK), .ac (.str w :: cs1.map Ct.dt), .un], ⟨Nat.zero_le _, [], p + 1, rfl, (addQ_nil _).symm, k0, hb0, rfl⟩, ?_, ?_⟩⟩⟩)))))))
          · rintro H1 e1 i d g' ρ' hi ⟨_, cs1, q1, hcl, hrq, k1, hb1, rfl⟩ fr1
            have hi : (chrs z)[i]? = some d := hi
            rw [z2, List.getElem?_map, List.getElem?_replicate] at hi
            have hik : i < k := by
              by_cases y : i < k
              · exact y
              · rw [if_neg y] at hi; cases hi
            rw [if_pos hik] at hi
            cases hi
            have hkk : k - i = (k - (i + 1)) + 1 := by omega
            rw [hkk] at hrq
            have hfl : (.str w :: cs1.map Ct.dt : List Dt).length < 100000 := by rw [List.length_cons, List.length_map]; omega
            cases hc1 : rd W n q1 with
            | bad q2 =>
              rw [rdq_bad hc1, hrv] at hrq
              cases hrq
            | ok c1 q2 =>
              rw [rdq_ok hc1, addQ_snoc] at hrq
              refine tg_name ?_
              walk_at "nm"
              refine njr_appA (i := 2) rfl hfl (evr_if (et_test (ev_op (ev_var rfl (ev_str (eq_s (blJ (bl_yes (by decide +kernel) ?_))))))))
              refine evr_call (ear_ref (erc_var rfl) (ear_nil ⟨W, q1, q2, b, c1, rfl, hb1, hc1, hl, hW, fun g2 k2 hb2 => ⟨_, rfl, fun fr2 => ?_⟩⟩))
              refine njm_nxw _ ⟨by omega, cs1 ++ [c1], q2, by rw [List.length_append, hcl]; rfl, hrq, fun y u hy hu => k2 y u hy (k1 y u hy hu), hb2, rfl⟩ (fr1.trans fr2) ?_
              rw [List.map_append]
              walk_at "le"
          · rintro g' ρ' ⟨_, cs1, q1, hcl, hrq, k1, hb1, rfl⟩ fr1
            have el : (chrs z).length = k := by rw [z2, List.length_map, List.length_replicate]
            rw [el] at hcl hrq
            rw [Nat.sub_self, hrv] at hrq
            have hrq : Rq.ok cs q = Rq.ok (cs1 ++ []) q1 := hrq
            rw [List.append_nil] at hrq
            cases hrq
            rw [mkQ_dt (w := w) (cs := cs) (by rw [hnq, hcl])] at hq
            refine nj_share (i := 2) rfl ?_
            walk_at "nm"
            refine njr_retD ?_
            walk_at "go"
            exact hD.rt _ _ (hq g' k1 hb1) (fr0.trans fr1)
def toldD : Told → Dt
  | .text p => .tup [.str "BadText", .int (p : Nat)]
  | .cond => .tup [.str "BadCondition", .int 0]
  | .ok c => c.dt
def S__law_due (g : GT) (rs : List RV) (Q : GT → RV → Prop) : Prop := ∃ (ks : List Bool) (t : Str), rs = [.dat (kindsD ks), .dat (.str t)] ∧ KindsOk ks ∧ okS t ∧ t.length ≤ 90000 ∧ (wordsF t).length ≤ 63 ∧ ∀ g', (∀ y u, g y = some u → g' y = some u) → Q g' (.dat (toldD (toldT ks t)))
abbrev sp__law_due (K : PySem.W.Frag) : Sp := spR K S__law_due
theorem ok__law_due {P : Program} {w : World} {K : PySem.W.Frag} {mg : Str → Option Value} {base : Heap} (T : Txt w K mg) (c__law_read : Cal P w K mg base 2 "_law_read" (sp__law_read K) []) (c__law_made : Cal P w K mg base 67 "_law_made" (sp__law_made 64 K) []) (c__law_count : Cal P w K mg base 10 "_law_count" (sp__law_count 9 K) []) : Cal P w K mg base 68 "_law_due" (sp__law_due K) [] := by
  refine cal_r T.f__law_due sc__law_due ?len fun f cdv A outer s H E hr => ⟨_, (pss_cons (ps_set (i := 2) sc__law_due.nd rfl (Or.inl rfl) (pe_ifExp (pt_cmpR (op_neU hr.units) (pv 1) pe_str (nomark _)) (pe_bm PySem.F.plainAttrs_str PySem.F.slot_str_split PySem.F.type_str_split mt_splitU (pv 1) (pa_cons pe_str pa_nil)) (pe_lst pa_nil)))
      (pss_cons (ps_set (i := 3) sc__law_due.nd rfl (Or.inl rfl) (pe_c c__law_read hr (by decide) (by rfl) (pa_cons (pv 2) (pa_cons pe_str pa_nil))))
      (pss_cons (ps_if (pt_cmpR op_isNotU (pv 3) pe_non (nomark _)) (pss_one (ps_ret (pe_tup (pa_cons pe_str (pa_cons (pv 3) pa_nil))))) pss_nil)
      (pss_cons (ps_set (i := 4) sc__law_due.nd rfl (Or.inl rfl) (pe_c c__law_made hr (by decide) (by rfl) (pa_cons (pe_callTy cl_list (by rfl) T.b_list (by decide +kernel) (pa_cons (pv 2) pa_nil)) pa_nil)))
      (pss_one (ps_ret (pe_ifExp (pt_cmpR op_leU (pe_c c__law_count hr (by decide) (by rfl) (pa_cons (pv 0) (pa_cons (pv 4) (pa_cons pe_int pa_nil)))) pe_int (nomark _)) (pv 4) (pe_tup (pa_cons pe_str (pa_cons pe_int pa_nil)))))))))), ?body⟩
  case' body => try dsimp only [cxD, cxOf]
  case len => rintro g rs Q ⟨_, _, rfl, _⟩; rfl
  case body =>
    rintro X g rs Q ⟨ks, t, rfl, hk, hok, hl, hw, hq⟩ hid H0 D dom hD
    show NJ _ _ _ _ [.im (kindsD ks), .im (.str t), .un, .un, .un]
    refine q_asg (EV.imp (Q := fun d => d = .lst ((wordsF t).map Dt.str)) ?_ ?_)
    · refine ev_if (et_test (ev_op (ev_var rfl (ev_str (ne_s (blJ ⟨fun z => ?_, fun z => ?_⟩))))))
      · have z : ¬ t = "" := by simpa using z
        refine EN.ev (en_split (by decide +kernel) (ev_var rfl (strJ ⟨hl, ?_⟩)))
        unfold wordsF
        rw [if_neg z]
      · have z : t = "" := by simpa using z
        refine EN.ev (en_lst (ea_nil ⟨by decide, ?_⟩))
        unfold wordsF
        rw [if_pos z]; rfl
    rintro _ rfl
    walk_at "nm"
    obtain ⟨W, hWe⟩ : ∃ W, W = wordsF t := ⟨_, rfl⟩
    have hWs : WsOk W := by rw [hWe]; exact words_ok hok hl
    have htt : toldT ks t = match rd W 64 0 with
      | .bad q => .text q
      | .ok c q => if q < W.length then .text q else if szC ks 0 c ≤ 15 then .ok c else .cond := by rw [hWe]; rfl
    rw [← hWe] at hw ⊢
    rw [htt] at hq
    have hpl := place_of (W := W) (n := 64) (by omega)
    refine q_asg (ev_call (ea_cons (ev_var rfl (ea_cons (ev_str (ea_nil (sp_j (S := S__law_read) ⟨W, rfl, by omega, hWs, ?_⟩)))))))
    walk_at "nm"
    cases hr : rd W 64 0 with
    | bad q =>
      rw [hr] at hpl hq
      have hpl : placeF W = some q := hpl
      rw [hpl]
      refine q_when (etj (et_test (ev_op (ev_var rfl (ev_non (isnot_n (blJ (bl_yes rfl ?_))))))))
      exact njr_retD (ev_tup (ea_cons (ev_str (ea_cons (ev_var rfl (ea_nil ⟨by show 2 ≤ 100000; omega, hD.rt _ _ (hq g fun _ _ h => h) .refl⟩))))))
    | ok c q =>
      rw [hr] at hpl hq
      have hpl : placeF W = if q < W.length then some q else none := hpl
      obtain ⟨r1, r2, r3⟩ := rd_ok hr
      dsimp only at hq
      by_cases hql : q < W.length
      · rw [if_pos hql] at hpl hq
        rw [hpl]
        refine q_when (etj (et_test (ev_op (ev_var rfl (ev_non (isnot_n (blJ (bl_yes rfl ?_))))))))
        exact njr_retD (ev_tup (ea_cons (ev_str (ea_cons (ev_var rfl (ea_nil ⟨by show 2 ≤ 100000; omega, hD.rt _ _ (hq g fun _ _ h => h) .refl⟩))))))
      · rw [if_neg hql] at hpl hq
        rw [hpl]
        refine q_when (etj (et_test (ev_op (ev_var rfl (ev_non (isnot_n (blJ (bl_no rfl ?_))))))))
        refine qr_asg (evr_callG (eag_cons (evr_new (en_cb (ea_cons (ev_var rfl (ea_nil (list_l fun o ho => ?_))))))))
        refine eag_nil ⟨W, 0, q, o, c, rfl, by rw [List.drop_zero]; exact setG_same, hr, by omega, hWs, fun g2 k2 hb2 fr => ?_⟩
        have k3 : ∀ y u, g y = some u → g2 y = some u := fun y u hy => by
          have hyo : y ≠ o := fun e => by subst e; rw [ho] at hy; cases hy
          exact k2 y u hyo (by rw [setG_ne hyo]; exact hy)
        walk_at "nm"
        have hci := count_iff ks c
        refine njr_retD (ev_if (et_test (ev_op (ev_call (ea_cons (ev_var rfl (ea_cons (ev_var rfl (ea_cons (ev_int (ea_nil (sp_j (S := S__law_count 9) ⟨ks, c, 0, 64, rfl, hk, r1, by omega, by omega, ev_int (le_i (blJ ⟨fun z => ?_, fun z => ?_⟩))⟩))))))))))))
        · have z : lcC ks 0 c ≤ 15 := by have := of_decide_eq_true z; omega
          rw [decide_eq_true z] at hci
          rw [if_pos (of_decide_eq_true hci)] at hq
          exact ev_var rfl (hD.rt _ _ (hq g2 k3) fr)
        · have z : ¬ lcC ks 0 c ≤ 15 := by have := of_decide_eq_false z; omega
          rw [decide_eq_false z] at hci
          rw [if_neg (of_decide_eq_false hci)] at hq
          exact ev_tup (ea_cons (ev_str (ea_cons (ev_int (ea_nil ⟨by show 2 ≤ 100000; omega, hD.rt _ _ (hq g2 k3) fr⟩)))))
end
section
open PySem PySem.Spec PyProof.Rows L2
open C8 (Cal pe_c pe_gc)
local macro_rules | `(tactic| walk_at "box") => `(tactic| (repeat (first
  | with_reducible refine ev_callB (by assumption) rfl ?_
  | with_reducible refine EN.ev (en_lst ?_)
  | walk_at "ev")))
theorem take_min {α : Type} (l : List α) (k : Nat) : l.take (min k l.length) = l.take k := by
  by_cases h : k ≤ l.length
  · rw [Nat.min_eq_left h]
  · rw [Nat.min_eq_right (by omega), List.take_length, List.take_of_length_le (by omega)]
theorem drop_min {α : Type} (l : List α) (k : Nat) : (l.drop (min k l.length)).take (l.length - min k l.length) = l.drop k := by
  by_cases h : k ≤ l.length
  · rw [Nat.min_eq_left h, List.take_of_length_le (by rw [List.length_drop]; omega)]
  · rw [Nat.min_eq_right (by omega), List.drop_length, List.take_nil, List.drop_of_length_le (by omega)]
theorem cutD_take (xs : List Dt) (k : Nat) : cutD xs none (some ((k : Nat) : Int)) = xs.take k := by
  unfold cutD
  rw [HT.sIx_nat, HT.sIx_none, List.drop_zero, Nat.sub_zero, take_min]
theorem cutD_drop (xs : List Dt) (k : Nat) : cutD xs (some ((k : Nat) : Int)) none = xs.drop k := by
  unfold cutD
  rw [HT.sIx_nat, HT.sIx_none, drop_min]
theorem cutS_take (x : Str) (k : Nat) : (cutS x none (some ((k : Nat) : Int))).cps.toList = x.cps.toList.take k := by
  unfold cutS
  rw [HT.sIx_nat, HT.sIx_none]
  show (x.cps.toList.drop 0).take (min k x.length - 0) = _
  rw [List.drop_zero, Nat.sub_zero, str_len, take_min]
theorem cutS_drop (x : Str) (k : Nat) : (cutS x (some ((k : Nat) : Int)) none).cps.toList = x.cps.toList.drop k := by
  unfold cutS
  rw [HT.sIx_nat, HT.sIx_none]
  show (x.cps.toList.drop (min k x.length)).take (x.length - min k x.length) = _
  rw [str_len, drop_min]
theorem okS_join : ∀ {ws : List Str}, (∀ w ∈ ws, okS w) → okS (Str.join " " ws)
  | [], _ => fun k hk => nomatch hk
  | [x], h => h x (by simp)
  | x :: y :: r, h => fun k hk => by
    have ih := okS_join (ws := y :: r) fun w hw => h w (List.mem_cons_of_mem _ hw)
    have hk : k ∈ TL.tl (x ++ " " ++ Str.join " " (y :: r)) := hk
    rw [TL.tl_append, TL.tl_append, List.mem_append, List.mem_append] at hk
    rcases hk with (hk | hk) | hk
    · exact h x (by simp) k hk
    · have : ∀ k ∈ TL.tl (" " : Str), k < 128 := by decide +kernel
      exact this k hk
    · exact ih k hk
def swapW (ws : List Str) (k : Nat) (mid : List Str) : List Str := ws.take k ++ mid ++ ws.drop (k + 1)
theorem swap_sum {ws : List Str} {k : Nat} {mid : List Str} (f : Str → Nat) : ((swapW ws k mid).map f).sum ≤ (ws.map f).sum + (mid.map f).sum := by
  unfold swapW
  rw [List.map_append, List.map_append, List.sum_append, List.sum_append]
  have h1 : (ws.map f).sum = ((ws.take k).map f).sum + ((ws.drop k).map f).sum := by rw [← List.sum_append, ← List.map_append, List.take_append_drop]
  have h2 : ((ws.drop (k + 1)).map f).sum ≤ ((ws.drop k).map f).sum := by
    rw [← List.drop_drop]
    generalize ws.drop k = l
    cases l with
    | nil => exact Nat.le_refl _
    | cons a r =>
      show (r.map f).sum ≤ ((a :: r).map f).sum
      rw [List.map_cons, List.sum_cons]; omega
  omega
theorem swap_len {ws : List Str} {k : Nat} {mid : List Str} (hk : k < ws.length) : (swapW ws k mid).length = ws.length - 1 + mid.length := by
  unfold swapW
  rw [List.length_append, List.length_append, List.length_take, List.length_drop]; omega
theorem swap_mem {ws : List Str} {k : Nat} {mid : List Str} {w : Str} (h : w ∈ swapW ws k mid) : w ∈ ws ∨ w ∈ mid := by
  unfold swapW at h
  rcases List.mem_append.mp h with h | h
  · rcases List.mem_append.mp h with h | h
    · exact .inl (List.mem_of_mem_take h)
    · exact .inr h
  · exact .inl (List.mem_of_mem_drop h)
theorem spoilt_words {t : Str} (hok : okS t) {k : Nat} {mid : List Str} (hk : k < (Txt.split t " ").length) (hm : mid.length ≤ 2) (hw : ∀ w ∈ mid, okS w ∧ blanks w = 0) (hs : (mid.map (·.length)).sum ≤ 2 * t.length + 20) :
    okS (Str.join " " (swapW (Txt.split t " ") k mid)) ∧ (Str.join " " (swapW (Txt.split t " ") k mid)).length ≤ 3 * t.length + 30 ∧ blanks (Str.join " " (swapW (Txt.split t " ") k mid)) ≤ blanks t + 1 := by
  obtain ⟨ws, hws⟩ : ∃ ws, ws = Txt.split t " " := ⟨_, rfl⟩
  have hn := split_count t
  have h0 := sum_len ws
  rw [hws, split_back, if_neg (split_ne t), ← hws] at h0
  rw [← hws] at hn hk ⊢
  have hl := swap_len (mid := mid) hk
  refine ⟨okS_join fun w h => ?_, ?_, ?_⟩
  · rcases swap_mem h with h | h
    · rw [hws] at h; exact split_ok hok h
    · exact (hw w h).1
  · have h1 := sum_len (swapW ws k mid)
    have h2 := swap_sum (ws := ws) (k := k) (mid := mid) (·.length)
    have h3 : (if swapW ws k mid = [] then 1 else 0) ≤ 1 := by split <;> omega
    omega
  · have h1 := blanks_join (swapW ws k mid)
    rw [sum_zero fun x hx => by
      obtain ⟨w, hw2, rfl⟩ := List.mem_map.mp hx
      rcases swap_mem hw2 with h | h
      · rw [hws] at h; exact split_none h
      · exact (hw w h).2] at h1
    by_cases z : swapW ws k mid = []
    · rw [if_pos z, z] at h1
      have h1 : blanks (Str.join " " (swapW ws k mid)) + 1 = 0 + 0 + 1 := by rw [z]; exact h1
      omega
    · rw [if_neg z] at h1; omega
theorem spoilt_signs {t y : Str} (hok : okS t) {k m : Nat} (hkm : k ≤ m) (hy : okS y) (hyl : y.length ≤ 1) :
    okS (cutS t none (some ((k : Nat) : Int)) ++ y ++ cutS t (some ((m : Nat) : Int)) none) ∧ (cutS t none (some ((k : Nat) : Int)) ++ y ++ cutS t (some ((m : Nat) : Int)) none).length ≤ 3 * t.length + 30 ∧ blanks (cutS t none (some ((k : Nat) : Int)) ++ y ++ cutS t (some ((m : Nat) : Int)) none) ≤ blanks t + 1 := by
  have e : (cutS t none (some ((k : Nat) : Int)) ++ y ++ cutS t (some ((m : Nat) : Int)) none).cps.toList = t.cps.toList.take k ++ y.cps.toList ++ t.cps.toList.drop m := by
    show TL.tl (cutS t none (some ((k : Nat) : Int)) ++ y ++ cutS t (some ((m : Nat) : Int)) none) = _
    rw [TL.tl_append, TL.tl_append]
    show (cutS t none (some ((k : Nat) : Int))).cps.toList ++ y.cps.toList ++ (cutS t (some ((m : Nat) : Int)) none).cps.toList = _
    rw [cutS_take, cutS_drop]
  have hyl' : y.cps.toList.length ≤ 1 := by rw [← str_len]; exact hyl
  refine ⟨fun j hj => ?_, ?_, ?_⟩
  · rw [e, List.mem_append, List.mem_append] at hj
    rcases hj with (hj | hj) | hj
    · exact hok j (List.mem_of_mem_take hj)
    · exact hy j hj
    · exact hok j (List.mem_of_mem_drop hj)
  · rw [str_len, e, List.length_append, List.length_append, List.length_take, List.length_drop, str_len (x := t)]; omega
  · unfold blanks
    rw [e, List.count_append, List.count_append]
    have h1 : y.cps.toList.count 32 ≤ 1 := Nat.le_trans (List.count_le_length) hyl'
    have h2 : (t.cps.toList.take k).count 32 + (t.cps.toList.drop k).count 32 = t.cps.toList.count 32 := by rw [← List.count_append, List.take_append_drop]
    have h3 : (t.cps.toList.drop m).count 32 ≤ (t.cps.toList.drop k).count 32 := by
      obtain ⟨d, rfl⟩ : ∃ d, m = k + d := ⟨m - k, by omega⟩
      rw [← List.drop_drop]
      exact (List.drop_sublist d _).count_le 32
    omega
def oddL : List Str := ["", "all", "is", "not", "and", "begins", "0", "-0", "07", "-5", "9999", "10000", "=", "=a", "=abcdefg", "=A", "a", "--1", "Is", "4"]
def signsS : Str := "0123456789 -=abcdefghijklmnopqrstuvwxyz!#$&'()*+,./:;<>?@ABCDEFGHIJKLMNOPQRSTUVWXYZ[]^_`{|}~"
theorem odd_ok : ∀ w ∈ oddL, okS w ∧ blanks w = 0 ∧ w.length ≤ 8 := by
  have : ∀ w ∈ oddL, (w.cps.toList.all fun k => decide (k < 128)) = true ∧ blanks w = 0 ∧ w.length ≤ 8 := by decide +kernel
  intro w hw
  obtain ⟨h1, h2, h3⟩ := this w hw
  exact ⟨fun k hk => of_decide_eq_true (List.all_eq_true.mp h1 k hk), h2, h3⟩
theorem signs_ok : signsS.length = 92 ∧ ∀ k ∈ signsS.cps.toList, k < 128 := by
  have : signsS.length = 92 ∧ (signsS.cps.toList.all fun k => decide (k < 128)) = true := by decide +kernel
  exact ⟨this.1, fun k hk => of_decide_eq_true (List.all_eq_true.mp this.2 k hk)⟩
def S__law_spoilt (ds : List Dt) (Q : Dt → Prop) : Prop := ∃ t : Str, ds = [.str t] ∧ t.length ≤ 20000 ∧ okS t ∧ ∀ t' : Str, okS t' → t'.length ≤ 3 * t.length + 30 → blanks t' ≤ blanks t + 1 → Q (.str t')
abbrev sp__law_spoilt (K : PySem.W.Frag) : Sp := spB K S__law_spoilt
theorem ok__law_spoilt {P : Program} {w : World} {K : PySem.W.Frag} {mg : Str → Option Value} {base : Heap} (T : Txt w K mg) (c__law_take : Cal P w K mg base 1 "_law_take" (sp__law_take K) []) : Cal P w K mg base 2 "_law_spoilt" (sp__law_spoilt K) [] := by
  refine cal_box T.f__law_spoilt sc__law_spoilt (fun z => nomatch z) ?len fun f cdv A outer s H E hr => ⟨_, (pss_cons (ps_set (i := 2) sc__law_spoilt.nd rfl (Or.inl rfl) (pe_c c__law_take hr (by decide) (by rfl) (pa_cons (pv 0) (pa_cons pe_int pa_nil))))
      (pss_cons (ps_set (i := 3) sc__law_spoilt.nd rfl (Or.inl rfl) (pe_bm PySem.F.plainAttrs_str PySem.F.slot_str_split PySem.F.type_str_split mt_splitU (pv 1) (pa_cons pe_str pa_nil)))
      (pss_cons (ps_set (i := 4) sc__law_spoilt.nd rfl (Or.inl rfl) (pe_c c__law_take hr (by decide) (by rfl) (pa_cons (pv 0) (pa_cons (pe_callB cl_len (by rfl) T.b_len PySem.boot_len (pa_cons (pv 3) pa_nil)) pa_nil))))
      (pss_cons (ps_set (i := 5) sc__law_spoilt.nd rfl (Or.inl rfl) (pe_lst (pa_cons pe_str (pa_cons pe_str (pa_cons pe_str (pa_cons pe_str (pa_cons pe_str (pa_cons pe_str (pa_cons pe_str (pa_cons pe_str (pa_cons pe_str (pa_cons pe_str (pa_cons pe_str (pa_cons pe_str (pa_cons pe_str (pa_cons pe_str (pa_cons pe_str (pa_cons pe_str pa_nil))))))))))))))))))
      (pss_cons (ps_set (i := 5) sc__law_spoilt.nd rfl (Or.inl rfl) (pe_op op_addU (pv 5) (pe_lst (pa_cons pe_str (pa_cons pe_str (pa_cons pe_str (pa_cons pe_str pa_nil)))))))
      (pss_cons (ps_if (pt_cmpR op_ltU (pv 2) pe_int (nomark _)) (pss_cons (ps_set (i := 6) sc__law_spoilt.nd rfl (Or.inl rfl) (pe_lst (pa_cons (pe_lst pa_nil) (pa_cons (pe_lst (pa_cons (pe_ix ix_seq (pv 3) (pv 4) (fun _ _ => rfl)) (pa_cons (pe_ix ix_seq (pv 3) (pv 4) (fun _ _ => rfl)) pa_nil))) (pa_cons (pe_lst (pa_cons (pe_ix ix_seq (pv 5) (pe_c c__law_take hr (by decide) (by rfl) (pa_cons (pv 0) (pa_cons pe_int pa_nil))) (fun _ _ => rfl)) pa_nil)) pa_nil)))))
      (pss_one (ps_ret (pe_bm PySem.F.plainAttrs_str PySem.F.slot_str_join PySem.F.type_str_join mt_joinU pe_str (pa_cons (pe_op op_addU (pe_op op_addU (pe_slice sl_list (pv 3) po_none (po_some (pv 4))) (pe_ix ix_seq (pv 6) (pv 2) (fun _ _ => rfl))) (pe_slice sl_list (pv 3) (po_some (pe_op op_addU (pv 4) pe_int)) po_none)) pa_nil))))) pss_nil)
      (pss_cons (ps_set (i := 7) sc__law_spoilt.nd rfl (Or.inl rfl) (pe_c c__law_take hr (by decide) (by rfl) (pa_cons (pv 0) (pa_cons (pe_op op_addU (pe_callB cl_len (by rfl) T.b_len PySem.boot_len (pa_cons (pv 1) pa_nil)) pe_int) pa_nil))))
      (pss_cons (ps_set (i := 8) sc__law_spoilt.nd rfl (Or.inl rfl) pe_str)
      (pss_cons (ps_set (i := 9) sc__law_spoilt.nd rfl (Or.inl rfl) (pe_ix ix_seq (pe_lst (pa_cons (pe_ix ix_seq (pv 8) (pe_c c__law_take hr (by decide) (by rfl) (pa_cons (pv 0) (pa_cons (pe_callB cl_len (by rfl) T.b_len PySem.boot_len (pa_cons (pv 8) pa_nil)) pa_nil))) (fun _ _ => rfl)) (pa_cons pe_str (pa_cons (pe_ix ix_seq (pv 8) (pe_c c__law_take hr (by decide) (by rfl) (pa_cons (pv 0) (pa_cons pe_int pa_nil))) (fun _ _ => rfl)) pa_nil)))) (pe_op op_subU (pv 2) pe_int) (fun _ _ => rfl)))
      (pss_one (ps_ret (pe_op op_addU (pe_op op_addU (pe_slice sl_str (pv 1) po_none (po_some (pv 7))) (pv 9)) (pe_slice sl_str (pv 1) (po_some (pe_op op_addU (pv 7) (pe_callTy cl_int1 (by rfl) T.b_int (by decide +kernel) (pa_cons (pe_cmpR op_gtU (pv 2) pe_int (nomark _)) pa_nil)))) po_none))))))))))))), ?body⟩
  case' body => try dsimp only [cxD, cxOf]
  case len => rintro ds Q ⟨_, rfl, _⟩; rfl
  case body =>
    rintro ds Q ⟨t, rfl, hl, hok, hq⟩ b l hne hid H0 D dom hD
    have hn := split_count t
    obtain ⟨ws, hws⟩ : ∃ ws, ws = Txt.split t " " := ⟨_, rfl⟩
    have hwl : ws.length ≤ t.length + 1 := by
      have h0 := sum_len ws
      rw [hws, split_back, if_neg (split_ne t), ← hws] at h0
      omega
    have hw1 : 1 ≤ ws.length := by rw [hws, hn]; omega
    show NJ _ _ _ _ [.rw (.ref b), .im (.str t), .un, .un, .un, .un, .un, .un, .un, .un]
    refine q_asg ?_
    walk_at "box"
    refine take_j (by omega) (by omega) fun dd d0 d1 => ?_
    walk_at "nm"
    refine q_asgN (en_split (by decide +kernel) (ev_var rfl (strJ ⟨by omega, ?_⟩)))
    rw [← hws]
    walk_at "nm"
    refine nj_share (i := 3) rfl ?_
    walk_at "nm"
    refine q_asg ?_
    walk_at "box"
    rw [List.length_map]
    refine take_j (by omega) (by omega) fun k k0 k1 => ?_
    obtain ⟨k, rfl⟩ := Int.eq_ofNat_of_zero_le k0
    walk_at "nm"
    refine q_asgN (en_lst ?_)
    iterate 16 refine ea_cons (ev_str ?_)
    refine ea_nil ⟨by decide, ?_⟩
    walk_at "nm"
    refine nj_share (i := 5) rfl ?_
    walk_at "nm"
    refine q_asgN (en_op (ev_var rfl (EN.ev (en_lst ?_))))
    iterate 4 refine ea_cons (ev_str ?_)
    refine ea_nil ⟨by decide, add_l (by decide) ?_⟩
    walk_at "nm"
    show NJ _ _ _ _ [.rw (.ref b), .im (.str t), .im (.int dd), .im (.lst (ws.map Dt.str)), .im (.int ((k : Nat) : Int)), .ac (oddL.map Dt.str), .un, .un, .un, .un]
    refine nj_share (i := 5) rfl ?_
    walk_at "nm"
    refine q_when ?_
    walk_at "box"
    have hwk : ws[k]? = some (ws[k]'(by omega)) := List.getElem?_eq_getElem _
    have hwm := List.mem_of_getElem? hwk
    generalize ws[k]'(by omega) = wk at hwk hwm
    have hkok : okS wk ∧ blanks wk = 0 ∧ wk.length ≤ t.length := by
      rw [hws] at hwm
      exact ⟨split_ok hok hwm, split_none hwm, split_each hwm⟩
    have hat := words_at hwk
    refine ⟨fun z => ?_, fun z => ?_⟩
    · have z := of_decide_eq_true z
      refine q_asg (EN.ev (en_lst (ea_cons (EN.ev (en_lst (ea_nil ⟨by decide, ea_cons (EN.ev (en_lst (ea_cons (ev_op (ev_var rfl (ev_var rfl (ix_l hat (ea_cons (ev_op (ev_var rfl (ev_var rfl (ix_l hat (ea_nil ⟨by show 2 ≤ 100000; omega, ea_cons (EN.ev (en_lst (ea_cons (ev_op (ev_var rfl (ev_callB hne rfl (ea_cons (ev_int (ea_nil (take_j (by omega) (by omega) fun o o0 o1 => ?_))))))))))⟩)))))))))))))⟩))))))
      obtain ⟨o, rfl⟩ := Int.eq_ofNat_of_zero_le o0
      have ho : oddL[o]? = some (oddL[o]'(by show o < 20; omega)) := List.getElem?_eq_getElem _
      have how := odd_ok _ (List.mem_of_getElem? ho)
      generalize oddL[o]'(by show o < 20; omega) = ow at ho how
      refine ix_l (words_at ho) (ea_nil ⟨by show 1 ≤ 100000; omega, ea_nil ⟨by show 3 ≤ 100000; omega, ?_⟩⟩)
      walk_at "nm"
      obtain ⟨mid, hmid, hm2, hmo, hms⟩ : ∃ mid : List Str, atI [Dt.lst [], .lst [.str wk, .str wk], .lst [.str ow]] dd = some (.lst (mid.map Dt.str)) ∧ mid.length ≤ 2 ∧ (∀ w ∈ mid, okS w ∧ blanks w = 0) ∧ (mid.map (·.length)).sum ≤ 2 * t.length + 20 := by
        rcases (by omega : dd = 0 ∨ dd = 1 ∨ dd = 2) with rfl | rfl | rfl
        · exact ⟨[], rfl, by decide, (fun w hw => nomatch hw), Nat.zero_le _⟩
        · refine ⟨[wk, wk], rfl, Nat.le_refl 2, fun w hw => ?_, ?_⟩
          · simp only [List.mem_cons, List.not_mem_nil, or_false, or_self] at hw
            rw [hw]; exact ⟨hkok.1, hkok.2.1⟩
          · show wk.length + (wk.length + 0) ≤ _
            omega
        · refine ⟨[ow], rfl, by show 1 ≤ 2; omega, fun w hw => ?_, ?_⟩
          · rw [List.mem_singleton.mp hw]; exact ⟨how.1, how.2.1⟩
          · show ow.length + 0 ≤ _
            have := how.2.2
            omega
      have hkw : k < (Txt.split t " ").length := by rw [← hws]; omega
      obtain ⟨q1, q2, q3⟩ := spoilt_words hok hkw hm2 hmo hms
      rw [← hws] at q1 q2 q3
      refine nj_ret (ev_join rfl (ev_str (strJ (EN.ev (en_op (EN.ev (en_op (EN.ev (en_sl (ev_var rfl (lstJ (eo_none (eo_some (ev_var rfl (intJ ?_)))))))))))))))
      rw [cutD_take]
      refine ev_op (ev_var rfl (ev_var rfl (ix_l hmid (add_l (by rw [List.length_take, List.length_map, List.length_map]; omega) ?_))))
      refine EN.ev (en_sl (ev_var rfl (lstJ (eo_some (ev_op (ev_var rfl (ev_int (add_i (intJ (eo_none ?_))))))))))
      rw [show ((k : Nat) : Int) + 1 = ((k + 1 : Nat) : Int) by omega, cutD_drop]
      refine add_l (by rw [List.length_append, List.length_take, List.length_drop, List.length_map, List.length_map]; omega) ?_
      refine ⟨swapW ws k mid, ?_, ?_, ?_⟩
      · unfold swapW
        rw [List.map_append, List.map_append, List.map_take, List.map_drop]
      · have h1 := swap_sum (ws := ws) (k := k) (mid := mid) (·.length)
        have h2 := swap_len (mid := mid) (show k < ws.length by omega)
        have h0 := sum_len ws
        rw [hws, split_back, if_neg (split_ne t), ← hws] at h0
        show _ + _ * 1 ≤ _
        omega
      · rw [TL.join_eq]
        exact hD.rt _ (hq _ q1 q2 q3)
    · have z := of_decide_eq_false z
      refine q_asg (ev_callB hne rfl (ea_cons (ev_op (ev_cb (ea_cons (ev_var rfl (ea_nil (len_s (by omega) (ev_int (add_i (ea_nil (take_j (by omega) (by omega) fun pl p0 p1 => ?_))))))))))))
      obtain ⟨pl, rfl⟩ := Int.eq_ofNat_of_zero_le p0
      walk_at "nm"
      refine q_asg (ev_str ?_)
      walk_at "nm"
      show NJ _ _ _ _ [.rw (.ref b), .im (.str t), .im (.int dd), .im (.lst (ws.map Dt.str)), .im (.int ((k : Nat) : Int)), .im (.lst (oddL.map Dt.str)), .un, .im (.int ((pl : Nat) : Int)), .im (.str signsS), .un]
      have hsl := signs_ok.1
      have sgn : ∀ o : Nat, o < 92 → ∃ c, atI signsS.cps.toList ((o : Nat) : Int) = some c ∧ c < 128 := fun o ho => by
        have e : signsS.cps.toList.length = 92 := by rw [← str_len]; exact hsl
        have h : signsS.cps.toList[o]? = some (signsS.cps.toList[o]'(by omega)) := List.getElem?_eq_getElem _
        exact ⟨_, atI_nat h, signs_ok.2 _ (List.mem_of_getElem? h)⟩
      refine q_asg (ev_op (EN.ev (en_lst (ea_cons (ev_op (ev_var rfl (ev_callB hne rfl (ea_cons (ev_cb (ea_cons (ev_var rfl (ea_nil (len_s (by omega) (ea_nil (take_j (by omega) (by omega) fun o o0 o1 => ?_)))))))))))))))
      obtain ⟨o, rfl⟩ := Int.eq_ofNat_of_zero_le o0
      obtain ⟨c1, hc1, hc1k⟩ := sgn o (by omega)
      refine ix_s (by omega) hc1 (ea_cons (ev_str (ea_cons (ev_op (ev_var rfl (ev_callB hne rfl (ea_cons (ev_int (ea_nil (take_j (by omega) (by omega) fun o2 p0 p1 => ?_))))))))))
      obtain ⟨o2, rfl⟩ := Int.eq_ofNat_of_zero_le p0
      obtain ⟨c2, hc2, hc2k⟩ := sgn o2 (by omega)
      refine ix_s (by omega) hc2 (ea_nil ⟨by show 3 ≤ 100000; omega, ev_op (ev_var rfl (ev_int (sub_i ?_)))⟩)
      obtain ⟨y, hy, hyo, hyl⟩ : ∃ y : Str, atI [Dt.str ⟨#[c1]⟩, .str "", .str ⟨#[c2]⟩] (dd - 3) = some (.str y) ∧ okS y ∧ y.length ≤ 1 := by
        rcases (by omega : dd = 3 ∨ dd = 4 ∨ dd = 5) with rfl | rfl | rfl
        · exact ⟨_, rfl, fun j hj => by rw [List.mem_singleton.mp (show j ∈ [c1] from hj)]; exact hc1k, Nat.le_refl 1⟩
        · exact ⟨_, rfl, (fun j hj => nomatch hj), Nat.zero_le _⟩
        · exact ⟨_, rfl, fun j hj => by rw [List.mem_singleton.mp (show j ∈ [c2] from hj)]; exact hc2k, Nat.le_refl 1⟩
      refine ix_l hy ?_
      walk_at "nm"
      refine nj_ret (ev_op (ev_op (ev_slS (ev_var rfl (strJ ⟨by omega, eo_none (eo_some (ev_var rfl (intJ ?_)))⟩)))))
      have hc1l := cutS_length t none (some ((pl : Nat) : Int))
      refine ev_var rfl (add_s (by omega) ?_)
      refine ev_slS (ev_var rfl (strJ ⟨by omega, eo_some (ev_op (ev_var rfl (ev_cb (ea_cons (ev_op (ev_var rfl (ev_int (gt_i (ea_nil (int_b (add_i (intJ (eo_none ?_)))))))))))))⟩))
      obtain ⟨m, hm, hkm⟩ : ∃ m : Nat, ((pl : Nat) : Int) + (if decide ((3 : Int) < dd) = true then 1 else 0) = ((m : Nat) : Int) ∧ pl ≤ m := by
        split
        · exact ⟨pl + 1, by omega, by omega⟩
        · exact ⟨pl, by omega, Nat.le_refl _⟩
      rw [hm]
      obtain ⟨q1, q2, q3⟩ := spoilt_signs (t := t) (y := y) hok hkm hyo hyl
      have hc2l := cutS_length t (some ((m : Nat) : Int)) none
      have hal : (cutS t none (some ((pl : Nat) : Int)) ++ y).length = (cutS t none (some ((pl : Nat) : Int))).length + y.length := Str.length_append ..
      exact add_s (by omega) (hD.rt _ (hq _ q1 q2 q3))
end
section
open PySem PySem.Spec PyProof.Rows L2
open C8 (Cal pe_c pe_gc)
open LamX (CodeO)
def sp__law_class (K : PySem.W.Frag) : SpC := fun a cls d vs H Q _ => vs = [.ref a] ∧ ∃ nm fs, nm ∈ rzN ∧ nm ∈ clsN ∧ cls = .ref (He.ga K nm) ∧ (∀ dd, d = some dd → H dd = some (.xd fs)) ∧ ∀ H', Ex none0 H H' → Q (.str nm) H'
theorem cls_ref {a : Addr} : ∀ u : Value, RelV (V.ref a) u → u = Value.ref a := fun u h => h
theorem cls_ty {x : String} : ∀ u : Value, RelV (V.ty x) u → u = Value.type x := fun u h => h
def kindsOf (nm : Str) : List Bool := clsN.map fun C => decide (nm = C)
theorem kinds_ok {nm : Str} (h : nm ∈ clsN) : ∃ j : Nat, (kindsOf nm)[j]? = some true ∧ (∀ m, m < j → (kindsOf nm)[m]? = some false) ∧ (kindsOf nm).countP id = 1 ∧ clsN[j]? = some nm := by
  have key : ∀ nm ∈ clsN, ∃ j : Fin 13, (kindsOf nm)[j.1]? = some true ∧ (∀ m : Fin 13, m.1 < j.1 → (kindsOf nm)[m.1]? = some false) ∧ (kindsOf nm).countP id = 1 ∧ clsN[j.1]? = some nm := by decide +kernel
  obtain ⟨j, h1, h2, h3, h4⟩ := key nm h
  exact ⟨j.1, h1, fun m hm => h2 ⟨m, by omega⟩ hm, h3, h4⟩
theorem ok__law_class {P : Program} {w : World} {K : PySem.W.Frag} {mg : Str → Option Value} {base : Heap} (T : Txt w K mg)  : CalE P w K mg base 1 "_law_class" (sp__law_class K) := by
  obtain ⟨f, fd, hm, F, bi⟩ := T.f__law_class
  refine ⟨⟨f, fd, _, fn_ofE (k := 0) F sc__law_class ?len (fun cdv A outer s H vs Q E p hr h => ?body), hm, F.kp, bi⟩⟩
  case len => rintro p vs H Q E ⟨cls, d, _, _, rfl, _⟩; rfl
  case body =>
    obtain ⟨cls, d, hz, hf, rfl, nm, fs, hD, hC, rfl, hdd, hq⟩ := h
    have exc := T.cls.exc nm hD
    have hp : (p.1, p.2) ∈ (cxE P w K mg base ["_law_e", "_law_kinds_here", "_law_words"] "_law_class" s__law_class f cdv A outer s H E p).pn := List.mem_singleton.mpr rfl
    refine ⟨_, (pss_cons (ps_set (i := 1) sc__law_class.nd rfl (Or.inl rfl) (pe_lst (pa_cons (pe_callB (call_isA exc hp hz hf) (by rfl) T.b_isinstance (by decide +kernel) (pa_cons (pv 0) (pa_cons (pe_gc (by rfl) (show ∃ u, mg "BadNumber" = some u ∧ RelV (.ref (He.ga K "BadNumber")) u from ⟨_, T.g_BadNumber, rfl⟩)) pa_nil))) (pa_cons (pe_callB (call_isA exc hp hz hf) (by rfl) T.b_isinstance (by decide +kernel) (pa_cons (pv 0) (pa_cons (pe_gc (by rfl) (show ∃ u, mg "BadValues" = some u ∧ RelV (.ref (He.ga K "BadValues")) u from ⟨_, T.g_BadValues, rfl⟩)) pa_nil))) (pa_cons (pe_callB (call_isA exc hp hz hf) (by rfl) T.b_isinstance (by decide +kernel) (pa_cons (pv 0) (pa_cons (pe_gc (by rfl) (show ∃ u, mg "NoForm" = some u ∧ RelV (.ref (He.ga K "NoForm")) u from ⟨_, T.g_NoForm, rfl⟩)) pa_nil))) (pa_cons (pe_callB (call_isA exc hp hz hf) (by rfl) T.b_isinstance (by decide +kernel) (pa_cons (pv 0) (pa_cons (pe_gc (by rfl) (show ∃ u, mg "BadPrices" = some u ∧ RelV (.ref (He.ga K "BadPrices")) u from ⟨_, T.g_BadPrices, rfl⟩)) pa_nil))) pa_nil))))))
      (pss_cons (ps_set (i := 1) sc__law_class.nd rfl (Or.inl rfl) (pe_op op_addU (pv 1) (pe_lst (pa_cons (pe_callB (call_isA exc hp hz hf) (by rfl) T.b_isinstance (by decide +kernel) (pa_cons (pv 0) (pa_cons (pe_gc (by rfl) (show ∃ u, mg "BadKinds" = some u ∧ RelV (.ref (He.ga K "BadKinds")) u from ⟨_, T.g_BadKinds, rfl⟩)) pa_nil))) (pa_cons (pe_callB (call_isA exc hp hz hf) (by rfl) T.b_isinstance (by decide +kernel) (pa_cons (pv 0) (pa_cons (pe_gc (by rfl) (show ∃ u, mg "BadRows" = some u ∧ RelV (.ref (He.ga K "BadRows")) u from ⟨_, T.g_BadRows, rfl⟩)) pa_nil))) (pa_cons (pe_callB (call_isA exc hp hz hf) (by rfl) T.b_isinstance (by decide +kernel) (pa_cons (pv 0) (pa_cons (pe_gc (by rfl) (show ∃ u, mg "BadCondition" = some u ∧ RelV (.ref (He.ga K "BadCondition")) u from ⟨_, T.g_BadCondition, rfl⟩)) pa_nil))) pa_nil))))))
      (pss_cons (ps_set (i := 1) sc__law_class.nd rfl (Or.inl rfl) (pe_op op_addU (pv 1) (pe_lst (pa_cons (pe_callB (call_isA exc hp hz hf) (by rfl) T.b_isinstance (by decide +kernel) (pa_cons (pv 0) (pa_cons (pe_gc (by rfl) (show ∃ u, mg "BadColumn" = some u ∧ RelV (.ref (He.ga K "BadColumn")) u from ⟨_, T.g_BadColumn, rfl⟩)) pa_nil))) (pa_cons (pe_callB (call_isA exc hp hz hf) (by rfl) T.b_isinstance (by decide +kernel) (pa_cons (pv 0) (pa_cons (pe_gc (by rfl) (show ∃ u, mg "BadHeap" = some u ∧ RelV (.ref (He.ga K "BadHeap")) u from ⟨_, T.g_BadHeap, rfl⟩)) pa_nil))) (pa_cons (pe_callB (call_isA exc hp hz hf) (by rfl) T.b_isinstance (by decide +kernel) (pa_cons (pv 0) (pa_cons (pe_gc (by rfl) (show ∃ u, mg "TooMany" = some u ∧ RelV (.ref (He.ga K "TooMany")) u from ⟨_, T.g_TooMany, rfl⟩)) pa_nil))) (pa_cons (pe_callB (call_isA exc hp hz hf) (by rfl) T.b_isinstance (by decide +kernel) (pa_cons (pv 0) (pa_cons (pe_gc (by rfl) (show ∃ u, mg "BadBlock" = some u ∧ RelV (.ref (He.ga K "BadBlock")) u from ⟨_, T.g_BadBlock, rfl⟩)) pa_nil))) pa_nil)))))))
      (pss_cons (ps_set (i := 1) sc__law_class.nd rfl (Or.inl rfl) (pe_op op_addU (pv 1) (pe_lst (pa_cons (pe_callB (call_isA exc hp hz hf) (by rfl) T.b_isinstance (by decide +kernel) (pa_cons (pv 0) (pa_cons (pe_gc (by rfl) (show ∃ u, mg "Stopped" = some u ∧ RelV (.ref (He.ga K "Stopped")) u from ⟨_, T.g_Stopped, rfl⟩)) pa_nil))) (pa_cons (pe_callB (call_isA exc hp hz hf) (by rfl) T.b_isinstance (by decide +kernel) (pa_cons (pv 0) (pa_cons (pe_gc (by rfl) (show ∃ u, mg "BadText" = some u ∧ RelV (.ref (He.ga K "BadText")) u from ⟨_, T.g_BadText, rfl⟩)) pa_nil))) pa_nil)))))
      (pss_cons (ps_set (i := 2) sc__law_class.nd rfl (Or.inl rfl) (pe_lst (pa_cons pe_str (pa_cons pe_str (pa_cons pe_str (pa_cons pe_str (pa_cons pe_str (pa_cons pe_str (pa_cons pe_str (pa_cons pe_str pa_nil))))))))))
      (pss_cons (ps_set (i := 2) sc__law_class.nd rfl (Or.inl rfl) (pe_op op_addU (pv 2) (pe_lst (pa_cons pe_str (pa_cons pe_str (pa_cons pe_str (pa_cons pe_str (pa_cons pe_str pa_nil))))))))
      (pss_one (ps_ret (pe_ifExp ((pw_and (pt_cmpR (op_eqU (unitsH hr)) (pe_bm PySem.F.plainAttrs_list PySem.F.slot_list_count PySem.F.type_list_count mt_countV (pv 1) (pa_cons pe_bl pa_nil)) pe_int (nomark _)) (pw_and1 (pt_val (pe_callB (call_isA exc hp hz hf) (by rfl) T.b_isinstance (by decide +kernel) (pa_cons (pv 0) (pa_cons (pe_bltn (v := .ty "ValueError") (by rfl) T.b_ValueError (by decide +kernel) rfl) pa_nil))))))).pt (pe_ix ix_seq (pv 2) (pe_bm PySem.F.plainAttrs_list PySem.F.slot_list_index PySem.F.type_list_index mt_index (pv 1) (pa_cons pe_bl pa_nil)) (fun _ _ => rfl)) pe_str))))))))), ?_⟩
    dsimp only [cxE, L2H.cxH, cxOf]
    refine nj_at (c := cnX K d fs) (hid := none0) (ρ := [.rw (.ref p.1), .un, .un]) (H0 := H) ?_ (sd_raw (c := cnX K d fs) (hid := none0) (fun _ h => nomatch h) (fun _ h => nomatch h) (fun dd e => by rw [hm_of rfl]; exact hdd dd e) [some (.ref p.1), none, none])
    have kt := fun C hC => T.cls.kit nm hD C hC
    obtain ⟨j, j1, j2, j3, j4⟩ := kinds_ok hC
    refine q_asg (EN.ev (en_lst ?_))
    iterate 4
      refine ea_cons (ev_isA rfl cls_ref (kt _ (by decide)) ?_)
    refine ea_nil (lenOk (by dsimp only [List.length_cons, List.length_nil]; decide) ?_)
    walk_at "nm"
    refine q_asg ?_
    walk_at "go"
    refine EN.ev (en_lst ?_)
    iterate 3
      refine ea_cons (ev_isA rfl cls_ref (kt _ (by decide)) ?_)
    refine ea_nil (lenOk (by dsimp only [List.length_cons, List.length_nil]; decide) ?_)
    refine R2N.j (add_l (by simp only [List.length_cons, List.length_nil]; omega) ?_)
    walk_at "nm"
    refine q_asg ?_
    walk_at "go"
    refine EN.ev (en_lst ?_)
    iterate 4
      refine ea_cons (ev_isA rfl cls_ref (kt _ (by decide)) ?_)
    refine ea_nil (lenOk (by dsimp only [List.length_cons, List.length_nil]; decide) ?_)
    refine R2N.j (add_l (by simp only [List.length_append, List.length_cons, List.length_nil]; omega) ?_)
    walk_at "nm"
    refine q_asg ?_
    walk_at "go"
    refine EN.ev (en_lst ?_)
    iterate 2
      refine ea_cons (ev_isA rfl cls_ref (kt _ (by decide)) ?_)
    refine ea_nil (lenOk (by dsimp only [List.length_cons, List.length_nil]; decide) ?_)
    refine R2N.j (add_l (by simp only [List.length_append, List.length_cons, List.length_nil]; omega) ?_)
    walk_at "nm"
    refine q_asg (EN.ev (en_lst ?_))
    walk_at "go"
    walk_at "nm"
    refine q_asg ?_
    walk_at "go"
    refine EN.ev (en_lst ?_)
    walk_at "go"
    refine R2N.j (add_l (by simp only [List.length_append, List.length_cons, List.length_nil]; omega) ?_)
    walk_at "nm"
    show NJ _ _ _ _ [_, .im (.lst ((kindsOf nm).map Dt.bl)), .im (.lst (clsN.map Dt.str))]
    refine nj_ret ?_
    refine ev_if ?_
    refine et_and ?_
    refine et_test ?_
    walk_at "go"
    refine ev_countB rfl ?_
    walk_at "go"
    refine ⟨kindsOf nm, rfl, ?_⟩
    rw [j3]
    walk_at "go"
    refine bl_yes rfl ?_
    refine et_B (ev_isA rfl cls_ty (T.cls.kitV nm hD) ?_)
    refine blJ (bl_yes rfl ?_)
    walk_at "go"
    refine ev_indexB rfl ?_
    walk_at "go"
    refine ⟨kindsOf nm, j, rfl, j1, j2, ?_⟩
    refine ix_l (d := .str nm) (atI_nat (by rw [List.getElem?_map, j4]; rfl)) ?_
    intro v H' e _ r
    cases r
    exact hq H' e
theorem ev_cls {K : PySem.W.Frag} {ρ : List Sl} {Q : Dt → Prop} {i : Nat} {a : Addr} {nm : Str} {d : Option Addr} {fs : List (Str × V)} (hi : ρ[i]? = some (.rw (.ref a))) (hD : nm ∈ rzN) (hC : nm ∈ clsN) (h : Q (.str nm)) : EV (cnX K d fs) (tCallC (sp__law_class K) a (.ref (He.ga K nm)) d (tCons (tVar i) tNil)) ρ Q := fun hd H σ s Qh q =>
  ⟨.ref a, rw_get s.slots hi, rfl, nm, fs, hD, hC, rfl, fun dd e => hm_le (s.inv dd e), fun H' e => q _ _ H' h (e.up (c := cnX K d fs)) ((cnX K d fs).keep0 e s.inv) (.str nm)⟩
abbrev sp__law_told (P : Program) (w : World) (K : PySem.W.Frag) (mg : Str → Option Value) (B : Heap) : Sp := spT P w K mg rzN 80 B
def plF : Option Int → List (Str × V)
  | none => []
  | some i => [("place", .int i)]
theorem ok__law_told {P : Program} {w : World} {K : PySem.W.Frag} {mg : Str → Option Value} {base : Heap} (T : Txt w K mg) (c__law_class : CalE P w K mg base 1 "_law_class" (sp__law_class K)) : Cal P w K mg base 81 "_law_told" (sp__law_told P w K mg base) [] := by
  obtain ⟨f, fd, hm, F, bi⟩ := T.f__law_told
  refine ⟨⟨f, fd, _, [], F.ok sc__law_told ?len (fun cdv A outer s H vs Q E hr h => ?body), hm, F.kp, bi, .nil⟩⟩
  case len => rintro vs H Q E ⟨f, sp, rfl, _⟩; rfl
  case body =>
    obtain ⟨fl, sp, rfl, ac, h⟩ := h
    refine ⟨_, pss_one (ps_try_as (X := (cxOf C8.CX0 P w K mg base ["_law_work", "_law_e", "_law_word_here"] "_law_told" (defScope s__law_told) f cdv A outer s H E).nox) (i := 1) (c := .ref (He.ga K "ColumnError")) (n := "_law_e")
      (tb := fun W => tRet (tAct P w K mg base 80 0 W))
      (ts := fun a cls d => tSeq (tAsg (tCallC (sp__law_class K) a cls d (tCons (tVar 1) tNil)) (gName 2)) (tRet (tTup (tCons (tVar 2) (tCons (tIf (tTest (tOp (rInU K) (tVar 2) (tTup (tCons (tC (.str "BadValues")) (tCons (tC (.str "BadRows")) (tCons (tC (.str "BadText")) tNil)))))) (tXfA K a cls d "place" (tVar 1)) (tC (.int 0))) tNil)))))
      (Wout := fun _ _ _ _ => False) rfl rfl sc__law_told.nd rfl rfl ⟨(by rfl), by decide, .inl T.g_ColumnError⟩ LamX.takes0 (fun W pn xe tk _ => pss_one (ps_ret (pe_actB (hr.mono (by decide)) tk rfl (Or.inl rfl))))
      (fun a oe cls d pn hz hf => (pss_cons (ps_set (i := 2) sc__law_told.nd rfl (Or.inl rfl) (pe_callC c__law_class ((roomH_mark (hr.mono (by decide)))) List.mem_cons_self hz hf (by rfl) (pa_cons (pv 1) pa_nil)))
        (pss_one (ps_ret (pe_tup (pa_cons (pv 2) (pa_cons (pe_ifExp (pt_cmpR op_inU (pv 2) (pe_tup (pa_cons pe_str (pa_cons pe_str (pa_cons pe_str pa_nil)))) rfl) (pe_xfA hz hf (pv 1)) pe_int) pa_nil)))))))), ?_⟩
    refine ⟨fl, sp, rfl, ac, h _ ?_⟩
    rintro cls d H' ⟨nm, pl, hid, hD, hpd, rfl, hpl, dom, hfr, hq⟩
    refine ⟨true, T.cls.exm nm hD, fun _ a ha => ?_, fun z => nomatch z⟩
    have hin : ∀ nm ∈ rzN, nm ∈ clsN ∧ inV (.str nm) (([("BadValues" : Str), "BadRows", "BadText"]).map V.str) = placed nm := by decide
    have bb : ∀ dd, d = some dd → Hm hid H' dd = some (.xd (plF pl)) := fun dd e => by
      subst e
      rw [hm_of (hfr dd rfl)]
      cases pl with
      | none => exact hpl.elim
      | some i => exact hpl
    refine nj_at (c := cnX K d (plF pl)) (hid := hid) (ρ := [.rw (.ref fl), .rw (.ref a), .un]) (H0 := H') ?_ (sd_raw (c := cnX K d (plF pl)) dom (fun _ h => nomatch h) bb [some (.ref fl), some (.ref a), none])
    refine q_asg (ev_cls rfl hD (hin nm hD).1 ?_)
    walk_at "nm"
    refine nj_ret ?_
    walk_at "go"
    refine in_s (xs := [("BadValues" : Str), "BadRows", "BadText"]) ?_
    rw [(hin nm hD).2, hpd]
    walk_at "go"
    match d, pl, hpl, hpd, bb, hq with
    | none, none, _, _, _, hq =>
      refine bl_no rfl ?_
      walk_at "go"
      intro v H'' e _ r
      exact hq H'' v e r
    | some dd, some i, _, hpd, _, hq =>
      refine bl_yes rfl ?_
      have exc := T.cls.exc nm hD
      refine ev_place rfl ⟨exc.hg, exc.hk, exc.hs, exc.hd⟩ (plno T nm hD hpd) rfl ?_
      walk_at "go"
      intro v H'' e _ r
      exact hq H'' v e r
end
section
open PySem PySem.Spec PyProof.Rows L2
open C8 (Cal pe_c pe_gc)
local macro_rules | `(tactic| walk_at "law") => `(tactic| (repeat (first
  | with_reducible refine ev_callBW (by assumption) rfl ?_
  | with_reducible refine EN.ev (en_lst ?_)
  | with_reducible refine take_j (by omega) (by omega) ?_
  | walk_at "ev")))
theorem okS_val {w : Bool} {v : Val} (h : ValOk w v) : okS (valS v) := by
  cases v with
  | i n =>
    obtain ⟨_, h0, h1⟩ := h
    show okS (numS n)
    intro k hk
    rcases numS_cases h0 h1 with ⟨m, _, _, e⟩ | ⟨m, _, _, _, e⟩
    · rw [e] at hk
      have := TL.numL_digits m k hk
      omega
    · rw [e] at hk
      rcases List.mem_cons.mp hk with z | z
      · omega
      · have := TL.numL_digits m k z
        omega
  | s x =>
    obtain ⟨_, _, hx⟩ := h
    show okS ("=" ++ x : Str)
    intro k hk
    rw [eq_app] at hk
    rcases List.mem_cons.mp hk with z | z
    · omega
    · have := hx k z; omega
theorem okS_word (c : Cd) : okS c.word := by
  have : ∀ w ∈ (["all", "not", "and", "or", "is", "less", "within", "begins"] : List Str), (w.cps.toList.all fun k => decide (k < 128)) = true := by decide +kernel
  exact fun k hk => of_decide_eq_true (List.all_eq_true.mp (this _ (word_mem c)) k hk)
theorem cdW_okS {ks : List Bool} (hk : KindsOk ks) : ∀ (n : Nat) (c : Cd), c.deep < n → c.Fits ks → ∀ w ∈ cdW c, okS w
  | 0, _, h, _ => absurd h (Nat.not_lt_zero _)
  | n + 1, c, hd, hf => fun w hw => by
    rw [cdW_pts] at hw
    rcases List.mem_cons.mp hw with rfl | hw
    · exact okS_word c
    · obtain ⟨p, hp, hw⟩ := List.mem_flatMap.mp hw
      obtain ⟨j, hj⟩ := List.getElem?_of_mem hp
      rcases pt_ok hf j p hj with ⟨a, rfl, ha, hda⟩ | hpo
      · exact cdW_okS hk n a (by omega) ha w hw
      · obtain ⟨v, k, hv, _, e⟩ := pt_isval hk hpo
        rw [e] at hw
        rw [List.mem_singleton.mp hw]
        exact okS_val hv
def TxOk (n : Nat) (m : Nat) (t : Str) : Prop := okS t ∧ t.length ≤ n ∧ blanks t ≤ m
theorem text_ok {ks : List Bool} {c : Cd} (hk : KindsOk ks) (h : CdOk ks c) : TxOk 480 59 (Txt.join " " (cdW c)) := by
  have h1 := cdW_sum hk h
  have h2 := sum_len (cdW c)
  have h3 := blanks_join (cdW c)
  have hne : cdW c ≠ [] := by rw [cdW_pts]; exact fun z => nomatch z
  have h4 := cdW_many c
  have h5 := h.few
  rw [if_neg hne] at h2 h3
  rw [sum_zero fun x hx => by
    obtain ⟨w, hw, rfl⟩ := List.mem_map.mp hx
    exact List.count_eq_zero.mpr (cdW_free hk (c.deep + 1) c (Nat.lt_succ_self _) h.fits w hw)] at h3
  rw [TL.join_eq]
  exact ⟨okS_join fun w hw => cdW_okS hk (c.deep + 1) c (Nat.lt_succ_self _) h.fits w hw, by omega, by omega⟩
def Lf : Nat → Nat
  | 0 => 480
  | n + 1 => 3 * Lf n + 30
theorem Lf3 : ∀ n, n ≤ 3 → Lf n ≤ 13350 := fun n h => by
  have : ∀ n : Fin 4, Lf n.1 ≤ 13350 := by decide
  exact this ⟨n, by omega⟩
theorem Lf2 : ∀ n, n < 3 → Lf n ≤ 20000 := fun n h => by have := Lf3 n (by omega); omega
theorem al_ct (ks : List Bool) : ∀ (c : Ct) (m d : Nat), CtOk m c → szC ks d c ≤ 15 → d ≤ 7 ∧ Al (9 - d) c.dt
  | .v w xs, m, d, hc, h => by
    have hd : d ≤ 7 := by
      by_cases z : 7 < d
      · rw [szC, if_pos z] at h; omega
      · omega
    cases hc with
    | v hw hx =>
      have hl : xs.length ≤ 3 := by rcases nv_cases hw with ⟨_, z⟩ | ⟨_, z⟩ | ⟨_, z⟩ | ⟨_, z⟩ | ⟨_, z⟩ <;> omega
      refine ⟨hd, ?_⟩
      rw [show 9 - d = (8 - d) + 1 by omega]
      refine .tup (fun e he => ?_) (by rw [List.length_cons, List.length_map]; omega)
      rcases List.mem_cons.mp he with rfl | he
      · exact .str _
      · obtain ⟨v, _, rfl⟩ := List.mem_map.mp he
        cases v with
        | i n => exact .int _
        | s x => exact .str _
  | .q1 c, m, d, hc, h => by
    have hd : d ≤ 7 := by
      by_cases z : 7 < d
      · rw [szC, if_pos z] at h; omega
      · omega
    rw [szC, if_neg (by omega)] at h
    cases hc with
    | q1 hc =>
      obtain ⟨_, h2⟩ := al_ct ks c _ (d + 1) hc (by omega)
      refine ⟨hd, ?_⟩
      rw [show 9 - d = (9 - (d + 1)) + 1 by omega]
      refine .tup (fun e he => ?_) (by show 2 ≤ 100000; omega)
      simp only [List.mem_cons, List.not_mem_nil, or_false] at he
      rcases he with rfl | rfl
      · exact .str _
      · exact h2
  | .q2 w a b, m, d, hc, h => by
    have hd : d ≤ 7 := by
      by_cases z : 7 < d
      · rw [szC, if_pos z] at h; omega
      · omega
    rw [szC, if_neg (by omega)] at h
    cases hc with
    | q2 _ ha hb =>
      obtain ⟨_, h2⟩ := al_ct ks a _ (d + 1) ha (by omega)
      obtain ⟨_, h3⟩ := al_ct ks b _ (d + 1) hb (by omega)
      refine ⟨hd, ?_⟩
      rw [show 9 - d = (9 - (d + 1)) + 1 by omega]
      refine .tup (fun e he => ?_) (by show 3 ≤ 100000; omega)
      simp only [List.mem_cons, List.not_mem_nil, or_false] at he
      rcases he with rfl | rfl | rfl
      · exact .str _
      · exact h2
      · exact h3
theorem told_al (ks : List Bool) (t : Str) : Al 10 (toldD (toldT ks t)) := by
  unfold toldT
  cases h : rd (wordsF t) 64 0 with
  | bad q => exact .tup (fun e he => by
      simp only [List.mem_cons, List.not_mem_nil, or_false] at he
      rcases he with rfl | rfl
      · exact .str _
      · exact .int _) (by show 2 ≤ 100000; omega)
  | ok c q =>
    dsimp only
    split
    · exact .tup (fun e he => by
        simp only [List.mem_cons, List.not_mem_nil, or_false] at he
        rcases he with rfl | rfl
        · exact .str _
        · exact .int _) (by show 2 ≤ 100000; omega)
    · split
      · rename_i h15
        exact (al_ct ks c 64 0 (rd_ok h).1 h15).2.up
      · exact .tup (fun e he => by
          simp only [List.mem_cons, List.not_mem_nil, or_false] at he
          rcases he with rfl | rfl
          · exact .str _
          · exact .int _) (by show 2 ≤ 100000; omega)
def manyT (k : Int) : Str := repS "not " k ++ "all"
def wideT : Str := repS "and all " 7 ++ "all"
def oddT (k : Int) : List Str := ["", " ", "all ", " all", "all all", "is 0", "and all", "not", manyT k, wideT, "or " ++ wideT ++ " all", "is 0 5", "is 0 =", "begins 0 =a", "within 0 1 2", "less 3 -9999"]
theorem odd_text {k : Int} (h : k = 7 ∨ k = 8) : ∀ t ∈ oddT k, TxOk 480 59 t := by
  have : ∀ k ∈ ([7, 8] : List Int), ∀ t ∈ oddT k, (t.cps.toList.all fun k => decide (k < 128)) = true ∧ t.length ≤ 480 ∧ blanks t ≤ 59 := by decide +kernel
  intro t ht
  obtain ⟨h1, h2, h3⟩ := this k (by rcases h with rfl | rfl <;> simp) t ht
  exact ⟨fun k hk => of_decide_eq_true (List.all_eq_true.mp h1 k hk), h2, h3⟩
def sp_law (K : PySem.W.Frag) : Sp := fun vs H Q _ => ∃ (a : Addr) (ns : List Int), vs = [.ref a] ∧ SqL K H a (ns.map V.int) ∧ ns.length ≤ 63 ∧ (∀ p ∈ [He.cT K ("law", none)], H p.2 = some (.tbl #[])) ∧ ∀ H', Q (.bl true) H'
theorem ok_law {P : Program} {w : World} {K : PySem.W.Frag} {mg : Str → Option Value} {base : Heap} (T : Txt w K mg) (b__law_begun : ∀ B, Cal P w K mg B 1 "_law_begun" (sp__law_begun K) []) (b__law_kinds : ∀ B, Cal P w K mg B 2 "_law_kinds" (sp__law_kinds K) []) (b__law_rows : ∀ B, Cal P w K mg B 4 "_law_rows" (sp__law_rows K) []) (b__law_take : ∀ B, Cal P w K mg B 1 "_law_take" (sp__law_take K) []) (b__law_text : ∀ B, Cal P w K mg B 9 "_law_text" (sp__law_text 8 K) []) (b__law_condition : ∀ B, Cal P w K mg B 12 "_law_condition" (sp__law_condition 4 K) []) (b__law_spoilt : ∀ B, Cal P w K mg B 2 "_law_spoilt" (sp__law_spoilt K) []) (b__law_due : ∀ B, Cal P w K mg B 68 "_law_due" (sp__law_due K) []) (b__law_alike : ∀ B, Cal P w K mg B 11 "_law_alike" (sp__law_alike 10 K) []) (b__law_told : ∀ B, Cal P w K mg B 81 "_law_told" (sp__law_told P w K mg B) []) (b_read : ∀ B, CalX P w K mg B 68 "read" (sp_read K)) {f : Addr} {fd : FuncData} (F : Fun K "law" "law" s_law f fd) (TB : LamX.TabB base mg (He.cT K ("law", none)).1 (He.cT K ("law", none)).2) (hcode : fd.code = .ref (He.cT K ("law", none)).1) : FnOk P w K mg base L2.CX0 82 f fd ["_law_script"] (sp_law K) := by
  have c__law_begun := b__law_begun base
  have c__law_kinds := b__law_kinds base
  have c__law_rows := b__law_rows base
  have c__law_take := b__law_take base
  have c__law_text := b__law_text base
  have c__law_condition := b__law_condition base
  have c__law_spoilt := b__law_spoilt base
  have c__law_due := b__law_due base
  have c__law_alike := b__law_alike base
  have c__law_told := b__law_told base
  have c_read := b_read base
  refine Fun.okC F sc_law ?len (fun A outer s H vs Q E hr h => ⟨_, (pss_cons (ps_set (i := 1) sc_law.nd rfl (Or.inl rfl) (pe_c c__law_begun hr (by decide) (by rfl) (pa_cons (pv 0) pa_nil)))
      (pss_cons (ps_set (i := 2) sc_law.nd rfl (Or.inr rfl) (pe_c c__law_kinds hr (by decide) (by rfl) (pa_cons (pv 1) pa_nil)))
      (pss_cons (ps_set (i := 3) sc_law.nd rfl (Or.inl rfl) (pe_c c__law_rows hr (by decide) (by rfl) (pa_cons (pv 1) (pa_cons (pv 2) (pa_cons pe_int pa_nil)))))
      (pss_cons (ps_set (i := 4) sc_law.nd rfl (Or.inl rfl) (pe_op op_addU (pe_op op_mulS pe_str (pe_ix ix_seq (pe_lst (pa_cons pe_int (pa_cons pe_int pa_nil))) (pe_c c__law_take hr (by decide) (by rfl) (pa_cons (pv 1) (pa_cons pe_int pa_nil))) (fun _ _ => rfl))) pe_str))
      (pss_cons (ps_set (i := 5) sc_law.nd rfl (Or.inl rfl) (pe_op op_addU (pe_op op_mulS pe_str pe_int) pe_str))
      (pss_cons (ps_set (i := 6) sc_law.nd rfl (Or.inl rfl) (pe_lst (pa_cons pe_str (pa_cons pe_str (pa_cons pe_str (pa_cons pe_str (pa_cons pe_str (pa_cons pe_str (pa_cons pe_str (pa_cons pe_str (pa_cons (pv 4) (pa_cons (pv 5) (pa_cons (pe_op op_addU (pe_op op_addU pe_str (pv 5)) pe_str) (pa_cons pe_str pa_nil))))))))))))))
      (pss_cons (ps_set (i := 6) sc_law.nd rfl (Or.inl rfl) (pe_op op_addU (pv 6) (pe_lst (pa_cons pe_str (pa_cons pe_str (pa_cons pe_str (pa_cons pe_str pa_nil)))))))
      (pss_cons (ps_for PassesOwn.never rfl (pi_range1 (by rfl) T.b_range (pa_cons pe_int pa_nil)) (pg_name (i := 7) sc_law.nd rfl (Or.inl rfl)) (pss_cons (ps_set (i := 8) sc_law.nd rfl (Or.inr rfl) (pe_bm PySem.F.plainAttrs_str PySem.F.slot_str_join PySem.F.type_str_join mt_joinU pe_str (pa_cons (pe_c c__law_text hr (by decide) (by rfl) (pa_cons (pe_c c__law_condition hr (by decide) (by rfl) (pa_cons (pv 1) (pa_cons (pv 2) (pa_cons (pv 3) (pa_cons pe_int pa_nil))))) pa_nil)) pa_nil)))
      (Evl.pss_cut (ps_if (pt_cmpR (op_eqU hr.units) (pe_c c__law_take hr (by decide) (by rfl) (pa_cons (pv 1) (pa_cons pe_int pa_nil))) pe_int (nomark _)) (pss_one (ps_set (i := 8) sc_law.nd rfl (Or.inr rfl) (pe_ix ix_seq (pv 6) (pe_c c__law_take hr (by decide) (by rfl) (pa_cons (pv 1) (pa_cons pe_int pa_nil))) (fun _ _ => rfl)))) pss_nil)
      (pss_cons (ps_for PassesOwn.never rfl (pi_range1 (by rfl) T.b_range (pa_cons (pe_c c__law_take hr (by decide) (by rfl) (pa_cons (pv 1) (pa_cons pe_int pa_nil))) pa_nil)) (pg_name (i := 9) sc_law.nd rfl (Or.inl rfl)) (pss_one (ps_set (i := 8) sc_law.nd rfl (Or.inr rfl) (pe_c c__law_spoilt hr (by decide) (by rfl) (pa_cons (pv 1) (pa_cons (pv 8) pa_nil))))))
      (pss_cons (ps_set (i := 10) sc_law.nd rfl (Or.inl rfl) (pe_c c__law_due hr (by decide) (by rfl) (pa_cons (pv 2) (pa_cons (pv 8) pa_nil))))
      (pss_cons (ps_if (pt_not (pt_val (pe_c c__law_alike hr (by decide) (by rfl) (pa_cons (pe_callBig b__law_told hr (by decide) (by rfl) (pa_cons (pe_lamM (k := 79) (ps := []) TB hcode rfl (fun _ => rfl) (lamS2_by (N := ["_law_script", "_law_box", "_law_kinds_here", "_law_rows_here", "_law_many", "_law_wide", "_law_odd", "_law_turn", "_law_text_here", "_law_deed", "_law_due_here"]) (sc := defScope s_law) (by decide +kernel)) rfl (by decide) rfl (fun _ _ _ _ _ _ => rfl) (fun z => absurd rfl z) (fun B A outer s H E f c' hr => (pe_cX (b_read _) hr (by decide) (takes_of rfl rfl rfl rfl) (by rfl) (pa_cons (pv 2) (pa_cons (pv 8) pa_nil))))) pa_nil)) (pa_cons (pv 10) pa_nil))))) (pss_one (ps_ret pe_bl)) pss_nil)
      (pss_one (ps_if (pt_not (pt_val (pe_c c__law_alike hr (by decide) (by rfl) (pa_cons (pe_callBig b__law_told hr (by decide) (by rfl) (pa_cons (pe_lamM (k := 79) (ps := ["_law_a"]) TB hcode rfl (fun _ => rfl) (lamS2_by (N := ["_law_script", "_law_box", "_law_kinds_here", "_law_rows_here", "_law_many", "_law_wide", "_law_odd", "_law_turn", "_law_text_here", "_law_deed", "_law_due_here"]) (sc := defScope s_law) (by decide +kernel)) rfl (by decide) rfl (fun z => nomatch z) (fun _ _ _ _ _ _ _ its hl => match its, hl with | [_], _ => ⟨_, rfl, rfl⟩) (fun B A outer s H E f c' hr => (pe_cX (b_read _) hr (by decide) (takes_of rfl rfl rfl rfl) (by rfl) (pa_cons (pv 2) (pa_cons (pv 8) pa_nil))))) pa_nil)) (pa_cons (pv 10) pa_nil))))) (pss_one (ps_ret pe_bl)) pss_nil))))))))
      (pss_one (ps_ret pe_bl)))))))))), ?body⟩)
  case' body => try dsimp only [cxD, cxOf]
  case len => rintro vs H Q E ⟨a, ns, rfl, _⟩; rfl
  case body =>
    obtain ⟨sc, ns, rfl, hS, hn, htb, hq⟩ := h
    refine ⟨.ref sc, rfl, sc, ns, rfl, hS, hn, fun b l H' hne hb hl e bx => ?_⟩
    refine nj_beginT (K := K) (a := sc) 9 (ts := [((He.cT K ("law", none)).2, "law.<locals>.<lambda>")]) bx (fun p hp => ?_) fun hid => ?_
    · rw [List.mem_singleton.mp hp]; exact e.keep _ _ rfl (htb _ (List.mem_singleton.mpr rfl))
    dsimp only
    show NJ _ _ _ _ [.rw (.ref sc), .rw (.ref b), .un, .un, .un, .un, .un, .un, .un, .un, .un]
    have hgT := gTabs_mem (ts := [((He.cT K ("law", none)).2, ("law.<locals>.<lambda>" : Str))]) (by simp) _ List.mem_cons_self
    generalize gTabs [((He.cT K ("law", none)).2, ("law.<locals>.<lambda>" : Str))] = g0 at hgT ⊢
    refine q_asg (ev_callBW hne rfl (ea_nil ⟨rfl, fun ks hk => ?_⟩))
    walk_at "nm"
    refine q_asgN (en_callBW hne rfl (ea_cons (ev_var rfl (ea_cons (ev_int (ea_nil ⟨ks, 6, rfl, hk, by omega, by omega, fun rs hr1 hr2 hrs => ?_⟩))))))
    walk_at "nm"
    refine nj_share (i := 3) rfl ?_
    walk_at "nm"
    refine q_asg (ev_op (ev_op (ev_str (ev_op (EN.ev (en_lst (ea_cons (ev_int (ea_cons (ev_int (ea_nil ⟨by decide, ev_callBW hne rfl (ea_cons (ev_int (ea_nil (take_j (by omega) (by omega) fun z z0 z1 => ?_))))⟩)))))))))))
    obtain ⟨k, hk1, hk7⟩ : ∃ k : Int, atI [Dt.int 7, Dt.int 8] z = some (.int k) ∧ (k = 7 ∨ k = 8) := by
      rcases (by omega : z = 0 ∨ z = 1) with rfl | rfl
      · exact ⟨7, rfl, .inl rfl⟩
      · exact ⟨8, rfl, .inr rfl⟩
    have hml : (repS "not " k).length + ("all" : Str).length ≤ 100000 := by rcases hk7 with rfl | rfl <;> decide +kernel
    refine ix_l hk1 (mul_s (by omega) (by omega) (by decide +kernel) (ev_str (add_s hml ?_)))
    walk_at "nm"
    refine q_asg (ev_op (ev_op (ev_str (ev_int (mul_s (by omega) (by omega) (by decide +kernel) (ev_str (add_s (by decide +kernel) ?_)))))))
    walk_at "nm"
    refine q_asgN (en_lst ?_)
    iterate 8 refine ea_cons (ev_str ?_)
    refine ea_cons (ev_var rfl (ea_cons (ev_var rfl (ea_cons (ev_op (ev_op (ev_str (ev_var rfl (add_s (by decide +kernel) (ev_str (add_s (by decide +kernel) (ea_cons (ev_str (ea_nil ⟨by show 12 ≤ 100000; omega, ?_⟩))))))))))))))
    walk_at "nm"
    refine nj_share (i := 6) rfl ?_
    walk_at "nm"
    refine q_asgN (en_op (ev_var rfl (EN.ev (en_lst ?_))))
    iterate 4 refine ea_cons (ev_str ?_)
    refine ea_nil ⟨by decide, add_l (by show 12 + 4 ≤ 100000; omega) ?_⟩
    walk_at "nm"
    show NJ _ _ _ _ [.rw (.ref sc), .rw (.ref b), .im (kindsD ks), .im (.lst (rs.map rowD)), .im (.str (manyT k)), .im (.str wideT), .ac ((oddT k).map Dt.str), .un, .un, .un, .un]
    refine nj_share (i := 6) rfl ?_
    walk_at "nm"
    refine qm_for (W := WT (XB K b l)) (ij_rng1 (ea_cons (ev_int (ea_nil ⟨8, rfl, by omega, by omega, fun i g' ρ' => g' (He.cT K ("law", none)).2 = some (.tab "law.<locals>.<lambda>") ∧ ∃ r7 r8 r9 r10, ρ' = [.rw (.ref sc), .rw (.ref b), .im (kindsD ks), .im (.lst (rs.map rowD)), .im (.str (manyT k)), .im (.str wideT), .im (.lst ((oddT k).map Dt.str)), r7, r8, r9, r10], ⟨hgT, _, _, _, _, rfl⟩, ?_, ?_⟩))))
    · rintro H1 e1 i x g1 ρ1 hi ⟨hT1, r7, r8, r9, r10, rfl⟩ fr1
      refine tg_name ?_
      walk_at "nm"
      refine q_asg (ev_join rfl (ev_str (strJ (EN.ev (en_call (ea_cons (ev_callBW hne rfl (ea_cons (ev_var rfl (ea_cons (ev_var rfl (ea_cons (ev_int (ea_nil ⟨ks, rs, 3, rfl, hk, hrs, by omega, by omega, by omega, fun c f1 n1 d1 => ?_⟩))))))))))))))
      have hc : CdOk ks c := ⟨f1, by have : c.count < 16 := n1; omega, Nat.le_trans d1 (by decide)⟩
      have hsum := cdW_sum hk hc
      refine ea_nil (sp_n (S := S__law_text 8) ⟨ks, c, rfl, hk, f1, by have := hc.flat; omega, by have := hc.few; omega, cdW c, rfl, by show _ + _ * 1 ≤ _; omega, ?_⟩)
      walk_at "nm"
      have ht0 := text_ok hk hc
      generalize Txt.join " " (cdW c) = t0 at ht0 ⊢
      refine qm_cut (W := WT (XB K b l)) (fun g' ρ' => g' (He.cT K ("law", none)).2 = some (.tab "law.<locals>.<lambda>") ∧ ∃ t, TxOk 480 59 t ∧ ρ' = [.rw (.ref sc), .rw (.ref b), .im (kindsD ks), .im (.lst (rs.map rowD)), .im (.str (manyT k)), .im (.str wideT), .im (.lst ((oddT k).map Dt.str)), .im x, .im (.str t), r9, r10]) ?_ ?_
      · refine nj_when (etj (et_test (ev_op (ev_callBW hne rfl (ea_cons (ev_int (ea_nil (take_j (by omega) (by omega) fun y y0 y1 => ev_int (eq_i (blJ ⟨fun _ => ?_, fun _ => ?_⟩))))))))))
        · refine nj_asg (ev_op (ev_var rfl (ev_callBW hne rfl (ea_cons (ev_int (ea_nil (take_j (by omega) (by omega) fun o o0 o1 => ?_)))))))
          obtain ⟨o, rfl⟩ := Int.eq_ofNat_of_zero_le o0
          have ho : (oddT k)[o]? = some ((oddT k)[o]'(by show o < 16; omega)) := List.getElem?_eq_getElem _
          have how := odd_text hk7 _ (List.mem_of_getElem? ho)
          generalize (oddT k)[o]'(by show o < 16; omega) = ow at ho how
          refine ix_l (words_at ho) ?_
          walk_at "nm"
          exact njm_nxw _ ⟨hT1, ow, how, rfl⟩ .refl (by walk_at "le")
        · exact njm_nxw _ ⟨hT1, t0, ht0, rfl⟩ .refl (by walk_at "le")
      · rintro g2 ρ2 ⟨hT2, t1, ht1, rfl⟩ fr2
        refine qm_for (W := WT (XB K b l)) (ij_rng1 (ea_cons (ev_callBW hne rfl (ea_cons (ev_int (ea_nil (take_j (by omega) (by omega) fun m m0 m1 => ea_nil ⟨m, rfl, by omega, by omega, fun i g' ρ' => g' (He.cT K ("law", none)).2 = some (.tab "law.<locals>.<lambda>") ∧ ∃ t r9, TxOk (Lf i) (59 + i) t ∧ ρ' = [.rw (.ref sc), .rw (.ref b), .im (kindsD ks), .im (.lst (rs.map rowD)), .im (.str (manyT k)), .im (.str wideT), .im (.lst ((oddT k).map Dt.str)), .im x, .im (.str t), r9, r10], ⟨hT2, t1, _, ht1, rfl⟩, ?_, ?_⟩)))))))
        · rintro H2 e2 j y g3 ρ3 hj ⟨hT3, t, r9', ht, rfl⟩ fr3
          obtain ⟨hj3, rfl⟩ := rangeD_at hj
          have hj3 : j < 3 := by omega
          refine tg_name ?_
          walk_at "nm"
          refine nj_asg (ev_callBW hne rfl (ea_cons (ev_var rfl (ea_nil ⟨t, rfl, Nat.le_trans ht.2.1 (Lf2 j hj3), ht.1, fun t' q1 q2 q3 => ?_⟩))))
          walk_at "nm"
          refine njm_nxw _ ⟨hT3, t', _, ⟨q1, ?_, ?_⟩, rfl⟩ fr3 (by walk_at "le")
          · have := ht.2.1
            show _ ≤ 3 * Lf j + 30
            omega
          · have := ht.2.2
            omega
        · rintro g3 ρ3 ⟨hT3, t, r9', ht, rfl⟩ fr3
          have hm3 : (rangeD 0 m.toNat).length ≤ 3 := by rw [rangeD_len]; omega
          have hok := ht.1
          have hlen : t.length ≤ 90000 := by have := ht.2.1; have := Lf3 _ hm3; omega
          have hwd : (wordsF t).length ≤ 63 := by have := words_len t; have := ht.2.2; omega
          clear ht
          refine qr_asg (evr_call (ear_dat (ev_var rfl (ear_dat (ev_var rfl (ear_nil ⟨ks, t, rfl, hk, hok, hlen, hwd, fun g4 k4 fr4 => ?_⟩))))))
          walk_at "nm"
          have hT4 := k4 _ _ hT3
          have hal := told_al ks t
          have key : ∀ (ρ : List Sl) (Q : GT → RV → Prop), ρ[2]? = some (.im (kindsD ks)) → ρ[8]? = some (.im (.str t)) → Q g4 (.dat (toldD (toldT ks t))) → TWd (XB K b l) g4 ρ rzN (fun E => tCallS (spY K S_read) (fun _ => E) (tCons (tVar 2) (tCons (tVar 8) tNil))) Q := fun ρ Q h2 h8 h => by
            refine twd_callY (ea_cons (ev_var h2 (ea_cons (ev_var h8 (ea_nil ?_)))))
            cases hT : toldT ks t with
            | ok c =>
              rw [hT] at h
              exact ⟨fun _ _ => False, ⟨ks, t, rfl, hk, hok, hlen, hwd, (fun c' h' => by rw [hT] at h'; cases h'; exact h), (fun p h' => by rw [hT] at h'; cases h'), (fun h' => by rw [hT] at h'; cases h')⟩, fun _ _ z => z.elim⟩
            | text p =>
              rw [hT] at h
              refine ⟨fun nm pl => nm = "BadText" ∧ pl = some ((p : Nat) : Int), ⟨ks, t, rfl, hk, hok, hlen, hwd, (fun c' h' => by rw [hT] at h'; cases h'), (fun p h' => by rw [hT] at h'; cases h'; exact ⟨rfl, rfl⟩), (fun h' => by rw [hT] at h'; cases h')⟩, ?_⟩
              rintro nm pl ⟨rfl, rfl⟩
              exact ⟨by decide, (by show placed "BadText" = true; decide), h⟩
            | cond =>
              rw [hT] at h
              refine ⟨fun nm pl => nm = "BadCondition" ∧ pl = none, ⟨ks, t, rfl, hk, hok, hlen, hwd, (fun c' h' => by rw [hT] at h'; cases h'), (fun p h' => by rw [hT] at h'; cases h'), (fun h' => ⟨rfl, rfl⟩)⟩, ?_⟩
              rintro nm pl ⟨rfl, rfl⟩
              exact ⟨by decide, by decide, h⟩
          generalize toldD (toldT ks t) = dd at hal key ⊢
          refine qg_when (etr_not (etr_B (evr_callPG (fun _ => true) 2 (eag_cons (evr_toldW rfl (ea_cons (ev_lamW hT4 fun fA LA hA => ea_nil ⟨_, fA, LA, rfl, hA, key _ _ rfl rfl ?_⟩)))))))
          refine eag_cons (evr (ev_var rfl (eag_nil ⟨[dd, dd], .cons (.inl rfl) (.cons (.inl rfl) .nil), _, rfl, hal, rfl, true, rfl, fun fr5 => ⟨(fun z => nomatch z), fun _ => ?_⟩⟩)))
          refine njg_when (etr_not (etr_B (evr_callPG (fun _ => true) 2 (eag_cons (evr_toldW rfl (ea_cons (ev_lamW hT4 fun fA LA hA => ea_nil ⟨_, fA, LA, rfl, hA, key _ _ rfl rfl ?_⟩)))))))
          refine eag_cons (evr (ev_var rfl (eag_nil ⟨[dd, dd], .cons (.inl rfl) (.cons (.inl rfl) .nil), _, rfl, hal, rfl, true, rfl, fun fr6 => ⟨(fun z => nomatch z), fun _ => ?_⟩⟩)))
          exact njm_nxw _ ⟨hT4, _, _, _, _, rfl⟩ (((((fr1.trans fr2).trans fr3).trans fr4).trans fr5).trans fr6) (by walk_at "le")
    · rintro g3 ρ3 ⟨hT3, r7, r8, r9, r10, rfl⟩ fr3
      refine nj_ret ?_
      walk_at "law"
      intro v H' e _ r
      cases r
      exact hq H'
end
section
open PySem PySem.Spec PyProof.Rows L2
open C8 (Cal pe_c pe_gc)
theorem law_fn {P : Program} {w : World} {K : PySem.W.Frag} {mg : Str → Option Value} {base : Heap} {f : Addr} {fd : FuncData} (T : Txt w K mg) (F : Fun K "law" "law" s_law f fd) (TB_law : LamX.TabB base mg (He.cT K ("law", none)).1 (He.cT K ("law", none)).2) (hcode : fd.code = .ref (He.cT K ("law", none)).1) : FnOk P w K mg base L2.CX0 82 f fd ["_law_script"] (sp_law K) := by
  have c_need_kinds := fun B : Heap => ok_need_kinds (P := P) (w := w) (base := B) T 
  have c_is_word := fun B : Heap => ok_is_word (P := P) (w := w) (base := B) T 
  have c_number_of := fun B : Heap => ok_number_of (P := P) (w := w) (base := B) T 
  have c__law_begun := fun B : Heap => ok__law_begun (P := P) (w := w) (base := B) T 
  have c__law_take := fun B : Heap => ok__law_take (P := P) (w := w) (base := B) T 
  have c__law_class := fun B : Heap => ok__law_class (P := P) (w := w) (base := B) T 
  have c__law_value_of := fun B : Heap => ok__law_value_of (P := P) (w := w) (base := B) T 
  have c_is_value := fun B : Heap => ok_is_value (P := P) (w := w) (base := B) T (c_is_word B)
  have c_value_of_word := fun B : Heap => ok_value_of_word (P := P) (w := w) (base := B) T (c_is_word B) (c_number_of B)
  have c__law_kinds := fun B : Heap => ok__law_kinds (P := P) (w := w) (base := B) T (c__law_take B)
  have c__law_word := fun B : Heap => ok__law_word (P := P) (w := w) (base := B) T (c__law_take B)
  have c__law_spoilt := fun B : Heap => ok__law_spoilt (P := P) (w := w) (base := B) T (c__law_take B)
  have c__law_read := fun B : Heap => ok__law_read (P := P) (w := w) (base := B) T (c__law_value_of B)
  have c_is_part := fun B : Heap => ok_is_part (P := P) (w := w) (base := B) T (c_is_value B)
  have c__law_value := fun B : Heap => ok__law_value (P := P) (w := w) (base := B) T (c__law_word B) (c__law_take B)
  have c__law_rows := fun B : Heap => ok__law_rows (P := P) (w := w) (base := B) T (c__law_take B) (c__law_value B)
  have c__law_near := fun B : Heap => ok__law_near (P := P) (w := w) (base := B) T (c__law_take B) (c__law_value B)
  have c__law_test := fun B : Heap => ok__law_test (P := P) (w := w) (base := B) T (c__law_take B) (c__law_near B)
  have c__law_narrow := fun B : Heap => ok__law_narrow (P := P) (w := w) (base := B) T (c__law_test B) (c__law_take B)
  have c__law_text := fun B : Heap => ok__law_text (P := P) (w := w) (base := B) T  8
  have c__law_count := fun B : Heap => ok__law_count (P := P) (w := w) (base := B) T  9
  have c__law_alike := fun B : Heap => ok__law_alike (P := P) (w := w) (base := B) T  10
  have c__law_condition := fun B : Heap => ok__law_condition (P := P) (w := w) (base := B) T (c__law_take B) (c__law_narrow B) (c__law_test B) 4
  have c_size_of := fun B : Heap => ok_size_of (P := P) (w := w) (base := B) T (c_is_part B) 9
  have c_need_condition := fun B : Heap => ok_need_condition (P := P) (w := w) (base := B) T (c_size_of B)
  have c_read_from := fun B : Heap => ok_read_from (P := P) (w := w) (base := B) T (c_value_of_word B) 64
  have c__law_made := fun B : Heap => ok__law_made (P := P) (w := w) (base := B) T (c__law_value_of B) 64
  have c_read := fun B : Heap => ok_read (P := P) (w := w) (base := B) T (c_need_kinds B) (c_read_from B) (c_need_condition B)
  have c__law_due := fun B : Heap => ok__law_due (P := P) (w := w) (base := B) T (c__law_read B) (c__law_made B) (c__law_count B)
  have c__law_told := fun B : Heap => ok__law_told (P := P) (w := w) (base := B) T (c__law_class B)
  exact ok_law T c__law_begun c__law_kinds c__law_rows c__law_take c__law_text c__law_condition c__law_spoilt c__law_due c__law_alike c__law_told c_read F TB_law hcode
theorem fun_ofD {K : PySem.W.Frag} {x : Str} {st : Stmt} {f : Addr} {fd : FuncData} (F : FunD K x x (defArgs st) (defBody st) (defScope st) [] [] f fd) : Fun K x x st f fd := by
  obtain ⟨⟨oc, od, dV, kV, doc, pm, an, cdv, ct, osl, e, lk, hcd, hD, hK⟩, kp⟩ := F
  rcases hD with ⟨_, rfl⟩ | ⟨z, _⟩
  · exact ⟨⟨oc, od, kV, doc, pm, an, cdv, ct, osl, e, lk, hcd⟩, kp⟩
  · exact absurd rfl z
theorem code_of {K : PySem.W.Frag} {p : He.Defn} {x q : Str} {st : Stmt} {fd : FuncData} (F : FunD K x q (defArgs st) (defBody st) (defScope st) [] [] (He.fAd K p) fd) : fd.code = .ref (He.cT K p).1 := by
  obtain ⟨⟨oc, od, dV, kV, doc, pm, an, cdv, ct, osl, e, lk, hcd, hD, hK⟩, kp⟩ := F
  obtain ⟨c, rfl⟩ := He.codeIn_ref hcd
  have e2 : fd.code = .ref c := by rw [e]
  rw [e2, show (He.cT K p).1 = c from He.codeOf_eq (p := p) lk e2]
theorem fun_ofM {K : PySem.W.Frag} {x q : Str} {st : Stmt} {f : Addr} {fd : FuncData} (F : FunD K x q (defArgs st) (defBody st) (defScope st) [] [] f fd) : Fun K x q st f fd := by
  obtain ⟨⟨oc, od, dV, kV, doc, pm, an, cdv, ct, osl, e, lk, hcd, hD, hK⟩, kp⟩ := F
  rcases hD with ⟨_, rfl⟩ | ⟨z, _⟩
  · exact ⟨⟨oc, od, kV, doc, pm, an, cdv, ct, osl, e, lk, hcd⟩, kp⟩
  · exact absurd rfl z
theorem txt {w : World} {K : PySem.W.Frag} {h : Heap} {mg : Str → Option Value} (X : K.In h) (G : h.Ns mainGlobals mg) (z : He.SaysX fas fns tabs tfs exB w h K) : Txt w K mg := by
  have c : He.SaysD fas fns K := congrArg (fun z : He.AlT => z.1) z.t
  have ez := z.more
  obtain ⟨ex2, ez⟩ := He.ba ez
  obtain ⟨exp, ez⟩ := He.ba ez
  have ed_SHAPES := ez
  obtain ⟨ex4, ex3⟩ := He.ba exp
  exact {
    b_len := He.free_ok X G (c.fact 0 (f := .free "len") rfl),
    b_list := He.free_ok X G (c.fact 1 (f := .free "list") rfl),
    b_tuple := He.free_ok X G (c.fact 2 (f := .free "tuple") rfl),
    b_int := He.free_ok X G (c.fact 3 (f := .free "int") rfl),
    b_sum := He.free_ok X G (c.fact 4 (f := .free "sum") rfl),
    b_isinstance := He.free_ok X G (c.fact 5 (f := .free "isinstance") rfl),
    b_min := He.free_ok X G (c.fact 6 (f := .free "min") rfl),
    b_max := He.free_ok X G (c.fact 7 (f := .free "max") rfl),
    b_range := He.free_ok X G (c.fact 8 (f := .free "range") rfl),
    b_str := He.free_ok X G (c.fact 9 (f := .free "str") rfl),
    b_bool := He.free_ok X G (c.fact 10 (f := .free "bool") rfl),
    b_ValueError := He.free_ok X G (c.fact 11 (f := .free "ValueError") rfl),
    k_MOST := by
      obtain ⟨t, ht⟩ := He.int_ok X G (c.fact 12 (f := .int "MOST" 9999) rfl)
      exact ⟨_, ht, t, rfl⟩,
    k_NUMBER := by
      obtain ⟨t, ht⟩ := He.str_ok X G (c.fact 13 (f := .str "NUMBER" "number") rfl)
      exact ⟨_, ht, t, rfl⟩,
    k_WORD := by
      obtain ⟨t, ht⟩ := He.str_ok X G (c.fact 14 (f := .str "WORD" "word") rfl)
      exact ⟨_, ht, t, rfl⟩,
    k_MOST_COLUMNS := by
      obtain ⟨t, ht⟩ := He.int_ok X G (c.fact 15 (f := .int "MOST_COLUMNS" 4) rfl)
      exact ⟨_, ht, t, rfl⟩,
    k_MOST_LETTERS := by
      obtain ⟨t, ht⟩ := He.int_ok X G (c.fact 16 (f := .int "MOST_LETTERS" 6) rfl)
      exact ⟨_, ht, t, rfl⟩,
    k_LETTERS := by
      obtain ⟨t, ht⟩ := He.str_ok X G (c.fact 17 (f := .str "LETTERS" "abcdefghijklmnopqrstuvwxyz") rfl)
      exact ⟨_, ht, t, rfl⟩,
    k_MOST_CONDITIONS := by
      obtain ⟨t, ht⟩ := He.int_ok X G (c.fact 18 (f := .int "MOST_CONDITIONS" 15) rfl)
      exact ⟨_, ht, t, rfl⟩,
    k_MOST_WITHIN := by
      obtain ⟨t, ht⟩ := He.int_ok X G (c.fact 19 (f := .int "MOST_WITHIN" 7) rfl)
      exact ⟨_, ht, t, rfl⟩,
    k_SHAPES := ⟨_, He.glo_ok X G (c.fact 20 (f := .glo "SHAPES") rfl), rfl⟩,
    d_SHAPES := z.t.tab 0 (t := (fun K => He.ga K "SHAPES", (([("is", "cv"), ("less", "cv"), ("within", "cvv"), ("begins", "ct"), ("not", "q"), ("and", "qq"), ("or", "qq"), ("all", "")] : List (Str × Str))).map (·.1))) rfl,
    n_SHAPES := fun k hk => tab_absent z.t 0 (t := (fun K => He.ga K "SHAPES", (([("is", "cv"), ("less", "cv"), ("within", "cvv"), ("begins", "ct"), ("not", "q"), ("and", "qq"), ("or", "qq"), ("all", "")] : List (Str × Str))).map (·.1))) rfl hk,
    v_SHAPES := fun q hq => He.valsB_ok ed_SHAPES (List.mem_map.mpr ⟨q, hq, rfl⟩),
    k_FIGURES := by
      obtain ⟨t, ht⟩ := He.str_ok X G (c.fact 21 (f := .str "FIGURES" "0123456789") rfl)
      exact ⟨_, ht, t, rfl⟩,
    k_MOST_FIGURES := by
      obtain ⟨t, ht⟩ := He.int_ok X G (c.fact 22 (f := .int "MOST_FIGURES" 4) rfl)
      exact ⟨_, ht, t, rfl⟩,
    k_SIGN := by
      obtain ⟨t, ht⟩ := He.str_ok X G (c.fact 23 (f := .str "SIGN" "=") rfl)
      exact ⟨_, ht, t, rfl⟩,
    g_ColumnError := He.glo_ok X G (c.fact 24 (f := .glo "ColumnError") rfl),
    g_BadNumber := He.glo_ok X G (c.fact 25 (f := .glo "BadNumber") rfl),
    g_BadValues := He.glo_ok X G (c.fact 26 (f := .glo "BadValues") rfl),
    g_NoForm := He.glo_ok X G (c.fact 27 (f := .glo "NoForm") rfl),
    g_BadPrices := He.glo_ok X G (c.fact 28 (f := .glo "BadPrices") rfl),
    g_BadKinds := He.glo_ok X G (c.fact 29 (f := .glo "BadKinds") rfl),
    g_BadRows := He.glo_ok X G (c.fact 30 (f := .glo "BadRows") rfl),
    g_BadCondition := He.glo_ok X G (c.fact 31 (f := .glo "BadCondition") rfl),
    g_BadColumn := He.glo_ok X G (c.fact 32 (f := .glo "BadColumn") rfl),
    g_BadHeap := He.glo_ok X G (c.fact 33 (f := .glo "BadHeap") rfl),
    g_TooMany := He.glo_ok X G (c.fact 34 (f := .glo "TooMany") rfl),
    g_BadBlock := He.glo_ok X G (c.fact 35 (f := .glo "BadBlock") rfl),
    g_Stopped := He.glo_ok X G (c.fact 36 (f := .glo "Stopped") rfl),
    g_BadText := He.glo_ok X G (c.fact 37 (f := .glo "BadText") rfl),
    cls := clsB_ok ex2,
    p_BadText := by
      obtain ⟨fd, F⟩ := c.def_ 33 (d := dfnM "BadText" "__init__" "BadText.__init__" s_BadText___init__) rfl
      have m := He.meth_ok (c.fact 38 (f := .meth "BadText" "__init__") rfl)
      exact ⟨He.glo_ok X G (c.fact 37 (f := .glo "BadText") rfl), oexB_ok (He.ba ex3).1, He.noat_ok (c.fact 39 (f := .noat "BadText" "place") rfl), ⟨_, ceB_ok (He.glo_ok X G (c.fact 24 (f := .glo "ColumnError") rfl)) ex4⟩, _, fd, s_BadText___init__, "BadText.__init__", fun_ofM F, iw_BadText, m.at_, beq_iff_eq.mp m.fn, F.bindsN fun _ _ _ _ _ _ us hl => match us, hl with | [_, _], _ => rfl⟩,
    x_BadCondition := by
      obtain ⟨e1, e2, e3, e4⟩ := He.exc_ok (c.fact 40 (f := .exc "BadCondition") rfl)
      exact ⟨He.glo_ok X G (c.fact 31 (f := .glo "BadCondition") rfl), e1, e2, e3, e4⟩,
    m_BadCondition := He.exm_ok (c.fact 41 (f := .exm "BadCondition" "BadCondition" true) rfl),
    f_need_kinds := by
      obtain ⟨fd, F⟩ := c.def_ 0 (d := dfn "need_kinds" s_need_kinds) rfl
      exact ⟨_, fd, He.glo_ok X G (c.fact 42 (f := .glo "need_kinds") rfl), fun_ofD F, F.bindsN fun _ _ _ _ _ _ us hl => match us, hl with | [_], _ => rfl⟩,
    f_is_word := by
      obtain ⟨fd, F⟩ := c.def_ 1 (d := dfn "is_word" s_is_word) rfl
      exact ⟨_, fd, He.glo_ok X G (c.fact 43 (f := .glo "is_word") rfl), fun_ofD F, F.bindsN fun _ _ _ _ _ _ us hl => match us, hl with | [_], _ => rfl⟩,
    f_is_value := by
      obtain ⟨fd, F⟩ := c.def_ 2 (d := dfn "is_value" s_is_value) rfl
      exact ⟨_, fd, He.glo_ok X G (c.fact 44 (f := .glo "is_value") rfl), fun_ofD F, F.bindsN fun _ _ _ _ _ _ us hl => match us, hl with | [_, _], _ => rfl⟩,
    f_is_part := by
      obtain ⟨fd, F⟩ := c.def_ 3 (d := dfn "is_part" s_is_part) rfl
      exact ⟨_, fd, He.glo_ok X G (c.fact 45 (f := .glo "is_part") rfl), fun_ofD F, F.bindsN fun _ _ _ _ _ _ us hl => match us, hl with | [_, _, _, _], _ => rfl⟩,
    f_size_of := by
      obtain ⟨fd, F⟩ := c.def_ 4 (d := dfn "size_of" s_size_of) rfl
      exact ⟨_, fd, He.glo_ok X G (c.fact 46 (f := .glo "size_of") rfl), fun_ofD F, F.bindsN fun _ _ _ _ _ _ us hl => match us, hl with | [_, _, _], _ => rfl⟩,
    f_need_condition := by
      obtain ⟨fd, F⟩ := c.def_ 5 (d := dfn "need_condition" s_need_condition) rfl
      exact ⟨_, fd, He.glo_ok X G (c.fact 47 (f := .glo "need_condition") rfl), fun_ofD F, F.bindsN fun _ _ _ _ _ _ us hl => match us, hl with | [_, _], _ => rfl⟩,
    f_number_of := by
      obtain ⟨fd, F⟩ := c.def_ 6 (d := dfn "number_of" s_number_of) rfl
      exact ⟨_, fd, He.glo_ok X G (c.fact 48 (f := .glo "number_of") rfl), fun_ofD F, F.bindsN fun _ _ _ _ _ _ us hl => match us, hl with | [_], _ => rfl⟩,
    f_value_of_word := by
      obtain ⟨fd, F⟩ := c.def_ 7 (d := dfn "value_of_word" s_value_of_word) rfl
      exact ⟨_, fd, He.glo_ok X G (c.fact 49 (f := .glo "value_of_word") rfl), fun_ofD F, F.bindsN fun _ _ _ _ _ _ us hl => match us, hl with | [_], _ => rfl⟩,
    f_read_from := by
      obtain ⟨fd, F⟩ := c.def_ 8 (d := dfn "read_from" s_read_from) rfl
      exact ⟨_, fd, He.glo_ok X G (c.fact 50 (f := .glo "read_from") rfl), fun_ofD F, F.bindsN fun _ _ _ _ _ _ us hl => match us, hl with | [_, _], _ => rfl⟩,
    f_read := by
      obtain ⟨fd, F⟩ := c.def_ 9 (d := dfn "read" s_read) rfl
      exact ⟨_, fd, He.glo_ok X G (c.fact 51 (f := .glo "read") rfl), fun_ofD F, F.bindsN fun _ _ _ _ _ _ us hl => match us, hl with | [_, _], _ => rfl⟩,
    f__law_begun := by
      obtain ⟨fd, F⟩ := c.def_ 10 (d := dfn "_law_begun" s__law_begun) rfl
      exact ⟨_, fd, He.glo_ok X G (c.fact 52 (f := .glo "_law_begun") rfl), fun_ofD F, F.bindsN fun _ _ _ _ _ _ us hl => match us, hl with | [_], _ => rfl⟩,
    f__law_take := by
      obtain ⟨fd, F⟩ := c.def_ 11 (d := dfn "_law_take" s__law_take) rfl
      exact ⟨_, fd, He.glo_ok X G (c.fact 53 (f := .glo "_law_take") rfl), fun_ofD F, F.bindsN fun _ _ _ _ _ _ us hl => match us, hl with | [_, _], _ => rfl⟩,
    f__law_alike := by
      obtain ⟨fd, F⟩ := c.def_ 12 (d := dfn "_law_alike" s__law_alike) rfl
      exact ⟨_, fd, He.glo_ok X G (c.fact 54 (f := .glo "_law_alike") rfl), fun_ofD F, F.bindsN fun _ _ _ _ _ _ us hl => match us, hl with | [_, _], _ => rfl⟩,
    f__law_class := by
      obtain ⟨fd, F⟩ := c.def_ 13 (d := dfn "_law_class" s__law_class) rfl
      exact ⟨_, fd, He.glo_ok X G (c.fact 55 (f := .glo "_law_class") rfl), fun_ofD F, F.bindsN fun _ _ _ _ _ _ us hl => match us, hl with | [_], _ => rfl⟩,
    f__law_told := by
      obtain ⟨fd, F⟩ := c.def_ 14 (d := dfn "_law_told" s__law_told) rfl
      exact ⟨_, fd, He.glo_ok X G (c.fact 56 (f := .glo "_law_told") rfl), fun_ofD F, F.bindsN fun _ _ _ _ _ _ us hl => match us, hl with | [_], _ => rfl⟩,
    f__law_all := by
      obtain ⟨fd, F⟩ := c.def_ 15 (d := dfn "_law_all" s__law_all) rfl
      exact ⟨_, fd, He.glo_ok X G (c.fact 57 (f := .glo "_law_all") rfl), fun_ofD F, F.bindsN fun _ _ _ _ _ _ us hl => match us, hl with | [_, _], _ => rfl⟩,
    f__law_kinds := by
      obtain ⟨fd, F⟩ := c.def_ 16 (d := dfn "_law_kinds" s__law_kinds) rfl
      exact ⟨_, fd, He.glo_ok X G (c.fact 58 (f := .glo "_law_kinds") rfl), fun_ofD F, F.bindsN fun _ _ _ _ _ _ us hl => match us, hl with | [_], _ => rfl⟩,
    f__law_word := by
      obtain ⟨fd, F⟩ := c.def_ 17 (d := dfn "_law_word" s__law_word) rfl
      exact ⟨_, fd, He.glo_ok X G (c.fact 59 (f := .glo "_law_word") rfl), fun_ofD F, F.bindsN fun _ _ _ _ _ _ us hl => match us, hl with | [_], _ => rfl⟩,
    f__law_value := by
      obtain ⟨fd, F⟩ := c.def_ 18 (d := dfn "_law_value" s__law_value) rfl
      exact ⟨_, fd, He.glo_ok X G (c.fact 60 (f := .glo "_law_value") rfl), fun_ofD F, F.bindsN fun _ _ _ _ _ _ us hl => match us, hl with | [_, _], _ => rfl⟩,
    f__law_rows := by
      obtain ⟨fd, F⟩ := c.def_ 19 (d := dfn "_law_rows" s__law_rows) rfl
      exact ⟨_, fd, He.glo_ok X G (c.fact 61 (f := .glo "_law_rows") rfl), fun_ofD F, F.bindsN fun _ _ _ _ _ _ us hl => match us, hl with | [_, _, _], _ => rfl⟩,
    f__law_near := by
      obtain ⟨fd, F⟩ := c.def_ 20 (d := dfn "_law_near" s__law_near) rfl
      exact ⟨_, fd, He.glo_ok X G (c.fact 62 (f := .glo "_law_near") rfl), fun_ofD F, F.bindsN fun _ _ _ _ _ _ us hl => match us, hl with | [_, _, _, _], _ => rfl⟩,
    f__law_test := by
      obtain ⟨fd, F⟩ := c.def_ 21 (d := dfn "_law_test" s__law_test) rfl
      exact ⟨_, fd, He.glo_ok X G (c.fact 63 (f := .glo "_law_test") rfl), fun_ofD F, F.bindsN fun _ _ _ _ _ _ us hl => match us, hl with | [_, _, _], _ => rfl⟩,
    f__law_narrow := by
      obtain ⟨fd, F⟩ := c.def_ 22 (d := dfn "_law_narrow" s__law_narrow) rfl
      exact ⟨_, fd, He.glo_ok X G (c.fact 64 (f := .glo "_law_narrow") rfl), fun_ofD F, F.bindsN fun _ _ _ _ _ _ us hl => match us, hl with | [_, _, _], _ => rfl⟩,
    f__law_condition := by
      obtain ⟨fd, F⟩ := c.def_ 23 (d := dfn "_law_condition" s__law_condition) rfl
      exact ⟨_, fd, He.glo_ok X G (c.fact 65 (f := .glo "_law_condition") rfl), fun_ofD F, F.bindsN fun _ _ _ _ _ _ us hl => match us, hl with | [_, _, _, _], _ => rfl⟩,
    f__law_holds := by
      obtain ⟨fd, F⟩ := c.def_ 24 (d := dfn "_law_holds" s__law_holds) rfl
      exact ⟨_, fd, He.glo_ok X G (c.fact 66 (f := .glo "_law_holds") rfl), fun_ofD F, F.bindsN fun _ _ _ _ _ _ us hl => match us, hl with | [_, _], _ => rfl⟩,
    f__law_text := by
      obtain ⟨fd, F⟩ := c.def_ 25 (d := dfn "_law_text" s__law_text) rfl
      exact ⟨_, fd, He.glo_ok X G (c.fact 67 (f := .glo "_law_text") rfl), fun_ofD F, F.bindsN fun _ _ _ _ _ _ us hl => match us, hl with | [_], _ => rfl⟩,
    f__law_spoilt := by
      obtain ⟨fd, F⟩ := c.def_ 26 (d := dfn "_law_spoilt" s__law_spoilt) rfl
      exact ⟨_, fd, He.glo_ok X G (c.fact 68 (f := .glo "_law_spoilt") rfl), fun_ofD F, F.bindsN fun _ _ _ _ _ _ us hl => match us, hl with | [_, _], _ => rfl⟩,
    f__law_value_of := by
      obtain ⟨fd, F⟩ := c.def_ 27 (d := dfn "_law_value_of" s__law_value_of) rfl
      exact ⟨_, fd, He.glo_ok X G (c.fact 69 (f := .glo "_law_value_of") rfl), fun_ofD F, F.bindsN fun _ _ _ _ _ _ us hl => match us, hl with | [_], _ => rfl⟩,
    f__law_read := by
      obtain ⟨fd, F⟩ := c.def_ 28 (d := dfn "_law_read" s__law_read) rfl
      exact ⟨_, fd, He.glo_ok X G (c.fact 70 (f := .glo "_law_read") rfl), fun_ofD F, F.bindsN fun _ _ _ _ _ _ us hl => match us, hl with | [_, _], _ => rfl⟩,
    f__law_made := by
      obtain ⟨fd, F⟩ := c.def_ 29 (d := dfn "_law_made" s__law_made) rfl
      exact ⟨_, fd, He.glo_ok X G (c.fact 71 (f := .glo "_law_made") rfl), fun_ofD F, F.bindsN fun _ _ _ _ _ _ us hl => match us, hl with | [_], _ => rfl⟩,
    f__law_count := by
      obtain ⟨fd, F⟩ := c.def_ 30 (d := dfn "_law_count" s__law_count) rfl
      exact ⟨_, fd, He.glo_ok X G (c.fact 72 (f := .glo "_law_count") rfl), fun_ofD F, F.bindsN fun _ _ _ _ _ _ us hl => match us, hl with | [_, _, _], _ => rfl⟩,
    f__law_due := by
      obtain ⟨fd, F⟩ := c.def_ 31 (d := dfn "_law_due" s__law_due) rfl
      exact ⟨_, fd, He.glo_ok X G (c.fact 73 (f := .glo "_law_due") rfl), fun_ofD F, F.bindsN fun _ _ _ _ _ _ us hl => match us, hl with | [_, _], _ => rfl⟩,
    f_law := by
      obtain ⟨fd, F⟩ := c.def_ 32 (d := dfn "law" s_law) rfl
      exact ⟨_, fd, He.glo_ok X G (c.fact 74 (f := .glo "law") rfl), fun_ofD F, F.bindsN fun _ _ _ _ _ _ us hl => match us, hl with | [_], _ => rfl, code_of (p := ("law", none)) (x := "law") (q := "law") (st := s_law) F⟩
  }
end
end CC
open PySem PySem.W PySem.Calls PyProof.Rows
theorem PySem.Challenge.cw_codecolumns_k20_texts_refused_holds : PySem.Challenge.rw_codecolumns_k20_texts_refused.Holds := by
  refine CC.hd ?_
  refine LamX.walk_ofTsE (l := PySem.Challenge.rw_codecolumns_k20_texts_refused) (n := 63) (k := 82) (x := "_law_script") (CX := fun _ => L2.CX0) rfl (by decide) (by kernel_rfl) ⟨rfl, by decide, by decide⟩ ?F (fun _ _ _ _ _ z => z)
  intro w mg fa h Y G hmg0
  obtain ⟨K, KX, c⟩ := Y
  have hmg : mg ("law" : PySem.Str) = some (.ref fa) := by
    have e : (HandSHeadRun.topDef (OpenLaw.row PySem.Challenge.rw_codecolumns_k20_texts_refused).prog 62).name = ("law" : PySem.Str) := by kernel_rfl
    rw [← e]
    exact hmg0
  have cd : He.SaysD CC.fas CC.fns K := congrArg (fun z : He.AlT => z.1) c.t
  obtain ⟨fd, F⟩ := cd.def_ 32 (d := CC.dfn "law" CC.s_law) rfl
  have e := hmg.symm.trans (He.glo_ok KX G (cd.fact 74 (f := .glo "law") rfl))
  cases e
  have b := L2.FunD.bindsA (ps := ["_law_script"]) F fun _ _ _ _ _ _ us hl => match us, hl with | [_], _ => rfl
  refine ⟨K, KX, fd, [He.cT K ("law", none)], CC.sp_law K, fun p hp => ?_, fun p hp => ?_, fun p hp => ?_, fun s v => b s [v] rfl, fun H a ns hl _ hH hS => ⟨a, ns, rfl, hS, hl, hH, fun _ => rfl⟩, fun base _ _ TB => CC.law_fn (CC.txt KX G c) (CC.fun_ofD F) (TB _ (List.mem_cons_self)) (CC.code_of (st := CC.s_law) F)⟩
  · simp only [List.mem_cons, List.not_mem_nil, or_false] at hp
    rcases hp with rfl
    · exact c.empty _ (List.mem_cons_self)
  · simp only [List.mem_cons, List.not_mem_nil, or_false] at hp
    rcases hp with rfl
    · exact c.out _ (List.mem_cons_self)
  · simp only [List.mem_cons, List.not_mem_nil, or_false] at hp
    rcases hp with rfl
    · exact PySem.W.codeHd_of_K KX (c.hd _ (List.mem_cons_self))
