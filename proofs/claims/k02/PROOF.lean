import PyProof.Rows.All
import Wide.All
import OpenK.AllK
import Wide.FinOn
import HandS.Words
import HandS.Head2
import HandS.HeadHook4
import KE.KExcIs
import HandS.ExcField
import HandS.ExcIs
import HandS.ExcInit
import HandS.HeadEnd
import HandS.HeadWalk
import HandS.ForMost
import HandS.ForExc
import HandS.Evl
import HandS.TupAny
import HandS.IsInst
import HandS.Strs
import HandS.Style
import HandS.Flow
import HandS.Wide
import HandS.SetFor
import HandS.Zip
import HandS.Codes
import HandS.Defaults
import KE.DataMinMax
import HandS.Lambda
import HandS.HotCalls
import HandS.EndTab
import HandS.SortInts
import HandS.Text
import KE.SortData
import PyProof.StrOps2
import HandS.Conv
import HandS.TryOnly
import HandS.DictComp
import KE.LtData
import HandS.SortKw
import KE.SortKeyHeap
import KE.DataMinKey
import KE.GoesMore
import PySem.Challenge.RW_codecolumns_k02_five_forms
set_option Elab.async false
set_option linter.all false
set_option maxRecDepth 100000
set_option maxHeartbeats 0
namespace CC
open PySem PySem.Spec PyProof.Rows L2
def topS (i : Nat) : Stmt := PySem.Challenge.pw_codecolumns_k02_five_forms.main.body.getD i (.Pass ⟨0, 0, 0, 0⟩)
abbrev s_powers_of : Stmt := topS 17
abbrev s_cells_for : Stmt := topS 18
abbrev s_packed_by : Stmt := topS 19
abbrev s_value_in : Stmt := topS 20
abbrev s_unpacked : Stmt := topS 21
abbrev s_need_values : Stmt := topS 32
abbrev s_codes_form : Stmt := topS 33
abbrev s_packed_above : Stmt := topS 34
abbrev s_steps_form : Stmt := topS 35
abbrev s_near_form : Stmt := topS 36
abbrev s_form_of : Stmt := topS 37
abbrev s_laid : Stmt := topS 38
abbrev s_weight_of : Stmt := topS 39
abbrev s_room : Stmt := topS 40
abbrev s_cells_above : Stmt := topS 41
abbrev s_cells_by : Stmt := topS 42
abbrev s_least_of : Stmt := topS 43
abbrev s_least_form : Stmt := topS 44
abbrev s_size : Stmt := topS 45
abbrev s_summed : Stmt := topS 46
abbrev s_values_of : Stmt := topS 47
abbrev s_value_of : Stmt := topS 48
abbrev s_value_at : Stmt := topS 49
abbrev s_rooms_of : Stmt := topS 52
abbrev s_best_ends : Stmt := topS 53
abbrev s_cut_of : Stmt := topS 54
abbrev s_cut : Stmt := topS 55
abbrev s_prices : Stmt := topS 56
abbrev s_bound : Stmt := topS 57
abbrev s__law_begun : Stmt := topS 59
abbrev s__law_take : Stmt := topS 60
abbrev s__law_alike : Stmt := topS 61
abbrev s__law_class : Stmt := topS 62
abbrev s__law_told : Stmt := topS 63
abbrev s__law_all : Stmt := topS 64
abbrev s__law_per : Stmt := topS 65
abbrev s__law_packed : Stmt := topS 66
abbrev s__law_above : Stmt := topS 67
abbrev s__law_form : Stmt := topS 68
abbrev s__law_room : Stmt := topS 69
abbrev s__law_least : Stmt := topS 70
abbrev s__law_values : Stmt := topS 71
abbrev s__law_is : Stmt := topS 72
abbrev s__law_refuses : Stmt := topS 73
abbrev s_law : Stmt := topS 74
abbrev s_BadValues___init__ : Stmt := inClass (topS 3) 0
end CC
namespace CC
open PySem PySem.Spec PyProof.Rows L2
def fnC (o : Obj) : List Addr := match o.data with
  | .func fd => He.refV fd.code
  | .cls cd => cd.ns :: cd.mro.flatMap He.refV
  | _ => []
def dicV (o : Obj) : List Addr := match o.data with
  | .dict es _ => es.toList.flatMap fun e => He.refV e.val
  | _ => []
def stepZ (g : Addr → Option Obj) (f : Obj → List Addr) (as : List Addr) : List Addr := as.flatMap fun a => match g a with
  | some o => f o
  | none => []
def asZ (g : Addr → Option Obj) : List Addr := (fun l1 => (fun l2 => (fun l3 => mainGlobals :: (l1 ++ (l2 ++ (l3 ++ stepZ g fnC l3)))) (stepZ g dicV l2)) (stepZ g fnC l1)) (stepZ g dicV [mainGlobals])
def frL {α : Type} : List Addr → (List Addr → α) → α
  | [], k => k []
  | a :: r, k => HandSHeadRun.frNat a fun a => frL r fun r => k (a :: r)
theorem frL_eq {α : Type} : ∀ (l : List Addr) (k : List Addr → α), frL l k = k l
  | [], _ => rfl
  | a :: r, k => by
    show (HandSHeadRun.frNat a fun a => frL r fun r => k (a :: r)) = _
    rw [HandSHeadRun.frNat_eq, frL_eq r]
def frF {α : Type} : PySem.W.Frag → (PySem.W.Frag → α) → α
  | [], k => k []
  | (a, o) :: r, k => HandSHeadRun.frNat a fun a => frF r fun r => k ((a, o) :: r)
theorem frF_eq {α : Type} : ∀ (l : PySem.W.Frag) (k : PySem.W.Frag → α), frF l k = k l
  | [], _ => rfl
  | (a, o) :: r, k => by
    show (HandSHeadRun.frNat a fun a => frF r fun r => k ((a, o) :: r)) = _
    rw [HandSHeadRun.frNat_eq, frF_eq r]
end CC
namespace CC
open PySem PySem.Spec PyProof.Rows L2
def excBh (K : PySem.W.Frag) (D : Addr) : Bool := decide (PySem.W.findIn K (.ref D) "__getattribute__" = some (some (.builtin "BaseException.__getattribute__"))) && (decide (PySem.W.findIn K (.ref D) "__getattr__" = some none) && (decide (PySem.W.subIn K (.ref D) (.type "BaseException") = some true) && (PySem.W.hasDictIn K D &&
  (decide (PySem.W.findIn K (.ref D) "__class__" = some (some (.builtin "object.__class__"))) && (decide (PySem.W.specialIn K (.builtin "object.__class__") "__get__" = some (some (.builtin "getset_descriptor.__get__"))) && (decide (PySem.W.takesIn K (.builtin "object.__class__") = some true) && decide (PySem.W.mroIn K D (.type "object") = some true)))))))
def clsBh (K : PySem.W.Frag) (rs cs : List Str) : Bool := rs.all fun D => (cs.all fun C => decide (PySem.W.kitOne K (.ref (He.ga K D)) (.ref (He.ga K C)) = some (decide (D = C)))) && (decide (PySem.W.kitOne K (.ref (He.ga K D)) (.type "ValueError") = some true) && (decide (PySem.W.exmOne K (.ref (He.ga K D)) (.ref (He.ga K "ColumnError")) = some true) && excBh K (He.ga K D)))
def isValh (r : Option PySem.W.CFound) (id : String) : Bool := match r with
  | some (.val (.builtin i)) => decide (i = id)
  | _ => false
def ceBh (K : PySem.W.Frag) (D : Addr) : Bool := decide (PySem.W.typeIn K (.ref D) = some (.type "type")) && (PySem.W.readsIn K D (.type "type") && (decide (PySem.W.specialIn K (.ref D) "__getattribute__" = some (some (.builtin "type.__getattribute__"))) && isValh (PySem.W.findCls K (.ref D) (.type "type") "__init__") "ValueError.__init__"))
def oexBh (K : PySem.W.Frag) (C : Addr) : Bool := (match K.lookup C with
    | some ⟨.type "type", _, .cls cd, sl⟩ => (match cd.mro, sl.toList with
      | .ref C' :: bm, [_, _, _, _, some (.builtin n), _] => decide (C' = C) && (decide (n = "ValueError.__new__") && (!cd.hasDel && (cd.hasDict && PySem.HandSPX.refsVE bm)))
      | _, _ => false)
    | _ => false) && (decide (PySem.W.findIn K (.ref C) "__setattr__" = some (some (.builtin "object.__setattr__"))) && (decide (PySem.W.subIn K (.ref C) (.type "BaseException") = some true) && (decide (PySem.W.typeIn K (.ref C) = some (.type "type")) && PySem.W.keepIn K (.ref C))))
def lookV (g : Addr → Option Obj) : PySem.W.Frag := He.frT g (cStatics :: asZ g)
def obV (fa : List He.Fa) (fn : List He.DefD) (ts : List He.Tab) (tf : List He.Defn) (ex : PySem.W.Frag → Bool) (g : Addr → Option Obj) : He.AlX := (He.obsT fa fn ts (lookV g), ex (lookV g) && He.tabsB g tf (lookV g))
def obVq (fa : List He.Fa) (fn : List He.DefD) (ts : List He.Tab) (tf : List He.Defn) (ex : PySem.W.Frag → Bool) (g : Addr → Option Obj) : He.AlX :=
  frL (stepZ g dicV [mainGlobals]) fun l1 => frL (stepZ g fnC l1) fun l2 => frL (stepZ g dicV l2) fun l3 => frL (stepZ g fnC l3) fun l4 => frF (He.frT g (cStatics :: mainGlobals :: (l1 ++ (l2 ++ (l3 ++ l4))))) fun K => (He.obsT fa fn ts K, ex K && He.tabsB g tf K)
theorem obVq_eq {fa : List He.Fa} {fn : List He.DefD} {ts : List He.Tab} {tf : List He.Defn} {ex : PySem.W.Frag → Bool} {g : Addr → Option Obj} : obVq fa fn ts tf ex g = obV fa fn ts tf ex g := by
  unfold obVq
  rw [frL_eq, frL_eq, frL_eq, frL_eq, frF_eq]
  rfl
theorem obV_says {fa : List He.Fa} {fn : List He.DefD} {ts : List He.Tab} {tf : List He.Defn} {ex : PySem.W.Frag → Bool} {w : World} {h : Heap} (e : obV fa fn ts tf ex h.get? = He.valX fn ts w) : He.SaysX fa fn ts tf ex w h (lookV h.get?) := by
  have e1 : He.obsT fa fn ts (lookV h.get?) = He.valT fn ts w := congrArg (fun z : He.AlX => z.1) e
  have e2 : (ex (lookV h.get?) && He.tabsB h.get? tf (lookV h.get?)) = true := congrArg (fun z : He.AlX => z.2) e
  obtain ⟨h1, h2⟩ := He.ba e2
  have key : ∀ p ∈ tf, PySem.W.codeHdIn (lookV h.get?) (He.cT (lookV h.get?) p).1 (He.cT (lookV h.get?) p).2 = true ∧ ∃ o, h.get? (He.cT (lookV h.get?) p).2 = some o ∧ He.emptyTab o = true := fun p hp => by
    obtain ⟨h3, h4⟩ := He.ba (List.all_eq_true.mp h2 p hp)
    refine ⟨h3, ?_⟩
    cases q : h.get? (He.cT (lookV h.get?) p).2 with
    | none => rw [q] at h4; cases h4
    | some o => rw [q] at h4; exact ⟨o, rfl, h4⟩
  exact ⟨e1, h1, fun p hp => (key p hp).1, fun p hp => by
    obtain ⟨_, o, q, z⟩ := key p hp
    exact He.frT_none q z, fun p hp => by
    obtain ⟨_, o, q, z⟩ := key p hp
    rw [q, He.emptyTab_eq z]⟩
def hookV (fa : List He.Fa) (fn : List He.DefD) (ts : List He.Tab) (tf : List He.Defn) (ex : PySem.W.Frag → Bool) : PySem.W.Hook where
  α := He.AlX
  obs := fun z => obV fa fn ts tf ex z.heap.get?
  val := fun z => He.valX fn ts z
  says := fun z h => ∃ Y : PySem.W.Frag, Y.In h ∧ He.SaysX fa fn ts tf ex z h Y
  of := fun _ _ z => ⟨_, He.frT_in, obV_says z⟩
  keeps := fun _ _ _ y k => by
    obtain ⟨Y, hY, c⟩ := y
    exact ⟨Y, hY.keeps k, c.t, c.more, c.hd, c.out, fun p hp => k _ _ (c.empty p hp)⟩
theorem obV_eq {fa : List He.Fa} {fn : List He.DefD} {ts : List He.Tab} {tf : List He.Defn} {ex : PySem.W.Frag → Bool} {g : Addr → Option Obj} {z : Shared} (h : ∀ a, g a = z.heap.get? a) : obVq fa fn ts tf ex g = (hookV fa fn ts tf ex).obs z := by
  cases (funext h : g = z.heap.get?)
  exact obVq_eq
end CC
namespace CC
open PySem PySem.Spec PyProof.Rows L2
def dfn (x : Str) (st : Stmt) : He.DefD := ⟨(x, none), x, x, defArgs st, defBody st, defScope st, [], []⟩
def dfnM (x m q : Str) (st : Stmt) : He.DefD := ⟨(x, some m), m, q, defArgs st, defBody st, defScope st, [], []⟩
def fns : List He.DefD := [dfn "powers_of" s_powers_of, dfn "cells_for" s_cells_for, dfn "packed_by" s_packed_by, dfn "value_in" s_value_in, dfn "unpacked" s_unpacked, dfn "need_values" s_need_values, dfn "codes_form" s_codes_form, dfn "packed_above" s_packed_above, dfn "steps_form" s_steps_form, dfn "near_form" s_near_form, dfn "form_of" s_form_of, dfn "laid" s_laid, dfn "weight_of" s_weight_of, dfn "room" s_room, dfn "cells_above" s_cells_above, dfn "cells_by" s_cells_by, dfn "least_of" s_least_of, dfn "least_form" s_least_form, dfn "size" s_size, dfn "summed" s_summed, dfn "values_of" s_values_of, dfn "value_of" s_value_of, dfn "value_at" s_value_at, dfn "rooms_of" s_rooms_of, dfn "best_ends" s_best_ends, dfn "cut_of" s_cut_of, dfn "cut" s_cut, dfn "prices" s_prices, dfn "bound" s_bound, dfn "_law_begun" s__law_begun, dfn "_law_take" s__law_take, dfn "_law_alike" s__law_alike, dfn "_law_class" s__law_class, dfn "_law_told" s__law_told, dfn "_law_all" s__law_all, dfn "_law_per" s__law_per, dfn "_law_packed" s__law_packed, dfn "_law_above" s__law_above, dfn "_law_form" s__law_form, dfn "_law_room" s__law_room, dfn "_law_least" s__law_least, dfn "_law_values" s__law_values, dfn "_law_is" s__law_is, dfn "_law_refuses" s__law_refuses, dfn "law" s_law, dfnM "BadValues" "__init__" "BadValues.__init__" s_BadValues___init__]
def fas : List He.Fa := [.free "len", .free "list", .free "tuple", .free "int", .free "sum", .free "isinstance", .free "set", .free "sorted", .free "min", .free "max", .free "range", .free "enumerate", .free "str", .free "bool", .free "ValueError", .int "CELL" 10000, .str "PLAIN" "plain", .str "ONE" "one", .str "CODES" "codes", .str "NEAR" "near", .str "STEPS" "steps", .glo "FORMS", .int "MOST" 9999, .int "MOST_VALUES" 32, .int "FAR" 99999, .int "FIVE" 5, .glo "ColumnError", .glo "BadNumber", .glo "BadValues", .glo "NoForm", .glo "BadPrices", .glo "BadKinds", .glo "BadRows", .glo "BadCondition", .glo "BadColumn", .glo "BadHeap", .glo "TooMany", .glo "BadBlock", .glo "Stopped", .glo "BadText", .meth "BadValues" "__init__", .noat "BadValues" "place", .exc "NoForm", .exm "NoForm" "NoForm" true, .exc "BadNumber", .exm "BadNumber" "BadNumber" true, .glo "powers_of", .glo "cells_for", .glo "packed_by", .glo "value_in", .glo "unpacked", .glo "need_values", .glo "codes_form", .glo "packed_above", .glo "steps_form", .glo "near_form", .glo "form_of", .glo "laid", .glo "weight_of", .glo "room", .glo "cells_above", .glo "cells_by", .glo "least_of", .glo "least_form", .glo "size", .glo "summed", .glo "values_of", .glo "value_of", .glo "value_at", .glo "rooms_of", .glo "best_ends", .glo "cut_of", .glo "cut", .glo "prices", .glo "bound", .glo "_law_begun", .glo "_law_take", .glo "_law_alike", .glo "_law_class", .glo "_law_told", .glo "_law_all", .glo "_law_per", .glo "_law_packed", .glo "_law_above", .glo "_law_form", .glo "_law_room", .glo "_law_least", .glo "_law_values", .glo "_law_is", .glo "_law_refuses", .glo "law"]
def tabs : List He.Tab := []
def tfs : List He.Defn := [("_law_is", none), ("_law_refuses", none), ("law", none)]
def plB (K : PySem.W.Frag) : Bool := ceBh K (He.ga K "ColumnError") && (oexBh K (He.ga K "BadValues") && true)
def exB (K : PySem.W.Frag) : Bool := He.tupB K "FORMS" [.str "plain", .str "one", .str "codes", .str "near", .str "steps"] && clsBh K ["BadValues", "NoForm", "BadNumber"] ["BadNumber", "BadValues", "NoForm", "BadPrices", "BadKinds", "BadRows", "BadCondition", "BadColumn", "BadHeap", "TooMany", "BadBlock", "Stopped", "BadText"] && plB K && decide ([(He.cT K ("_law_is", none)).2, (He.cT K ("_law_refuses", none)).2, (He.cT K ("law", none)).2].Nodup)
abbrev RW : PySem.W.OpenRow := PySem.W.OpenLaw.row PySem.Challenge.rw_codecolumns_k02_five_forms
abbrev hk : PySem.W.Hook := hookV fas fns tabs tfs exB
def ob (s : PySem.W.SharedT) : He.AlX := obVq fas fns tabs tfs exB (HandSHeadRun.getT s)
theorem ob_eq (s : PySem.W.SharedT) : ob s = hk.obs s.abs := obV_eq (HandSHeadRun.getT_eq s)
def lse : List Str := (["ColumnError", "BadNumber", "BadValues", "NoForm", "BadPrices", "BadKinds", "BadRows", "BadCondition", "BadColumn", "BadHeap", "TooMany", "BadBlock", "Stopped", "BadText", "CELL", "powers_of", "cells_for", "packed_by", "value_in", "unpacked"] : List Str) ++ (["PLAIN", "ONE", "CODES", "NEAR", "STEPS", "FORMS", "MOST", "MOST_VALUES", "FAR", "need_values", "codes_form", "packed_above", "steps_form", "near_form", "form_of", "laid", "weight_of", "room", "cells_above", "cells_by"] : List Str) ++ (["least_of", "least_form", "size", "summed", "values_of", "value_of", "value_at", "FIVE", "rooms_of", "best_ends", "cut_of", "cut", "prices", "bound", "_law_begun", "_law_take", "_law_alike", "_law_class", "_law_told", "_law_all"] : List Str) ++ (["_law_per", "_law_packed", "_law_above", "_law_form", "_law_room", "_law_least", "_law_values", "_law_is", "_law_refuses"] : List Str)
theorem run (w : World) : HandSHeadRun.RunEq RW (PySem.W.view RW.prog [74]) hk ob 9000 lse w := by
  intro os
  kernel_rfl
open PySem PySem.W PySem.Calls PyProof.Rows in
theorem hd (call : PySem.W.WalkO (PySem.W.view RW.prog [74]) lse (PySem.W.XL (PySem.W.view RW.prog [74]) []) hk.says RW.toRowW (HandSHeadRun.topDef RW.prog 74) [] fun f vs => PySem.call f vs) : PySem.Challenge.rw_codecolumns_k02_five_forms.Holds := by
  w_on; o_law
  refine HandSHeadRun.head_any (r := OpenLaw.row PySem.Challenge.rw_codecolumns_k02_five_forms) (q := view (OpenLaw.row PySem.Challenge.rw_codecolumns_k02_five_forms).prog [74]) (H := hk) (ob := ob) (M := 9000) (loose := lse) (d := HandSHeadRun.topDef (OpenLaw.row PySem.Challenge.rw_codecolumns_k02_five_forms).prog 74) (kwd := []) ob_eq
    (by kernel_rfl) (fun s => by kernel_rfl) run (by kernel_rfl) (by kernel_rfl) (by kernel_rfl) (by rfl) (by first | assumption | decide +kernel) (by decide +kernel) ⟨rfl, rfl, rfl, rfl, rfl, by decide +kernel⟩ ?hw call
  case hw => w_witness2
end CC
namespace CC
open PySem PySem.Spec PyProof.Rows L2
inductive Dt where
  | non | bl (b : Bool) | int (i : Int) | str (s : Str) | lst (xs : List Dt) | tup (xs : List Dt)
  | dk (kvs : List (Key × Dt)) | dt (kvs : List (List Key × Dt))
  /-- an instance of the class at C that no one changes -/
  | ob (C : Addr) (fs : List (Str × Dt))
  /-- the thing at f, by what is true of some objects (a lambda, its code, its defaults) -/
  | xo (f : Addr) (L : List (Addr × HO))
  /-- a tuple that tuple(..) made, known to bear no dict -/
  | ptup (xs : List Dt)
def thaw : HO → HO
  | .frz _ u => u
  | o => o
def dic : HO → Bool
  | .dK _ => true
  | .dT _ => true
  | _ => false
def Sm (o o' : HO) : Prop := o = o' ∨ (dic (thaw o) = true ∧ thaw o = thaw o')
theorem Sm.rfl {o : HO} : Sm o o := .inl _root_.rfl
theorem Sm.trans {a b c : HO} (h : Sm a b) (k : Sm b c) : Sm a c := by
  rcases h with rfl | ⟨h1, h2⟩
  · exact k
  · rcases k with rfl | ⟨k1, k2⟩
    · exact .inr ⟨h1, h2⟩
    · exact .inr ⟨h1, h2.trans k2⟩
theorem Sm.symm {a b : HO} (h : Sm a b) : Sm b a := by
  rcases h with rfl | ⟨h1, h2⟩
  · exact .inl _root_.rfl
  · exact .inr ⟨by rw [← h2]; exact h1, h2.symm⟩
theorem Sm.lst {xs : List V} {o : HO} (h : Sm (.lst xs) o) : o = .lst xs := by
  rcases h with h | ⟨h, _⟩
  · exact h.symm
  · cases h
theorem Sm.tup {xs : List V} {o : HO} (h : Sm (.tup xs) o) : o = .tup xs := by
  rcases h with h | ⟨h, _⟩
  · exact h.symm
  · cases h
theorem Sm.ftup {xs : List V} {o : HO} {b : Obj} (h : Sm (.frz b (.tup xs)) o) : o = .frz b (.tup xs) := by
  rcases h with h | ⟨h, _⟩
  · exact h.symm
  · cases h
theorem Sm.plain {o o' : HO} (h : Sm o o') (hd : dic (thaw o) = false) : o' = o := by
  rcases h with h | ⟨h, _⟩
  · exact h.symm
  · rw [hd] at h; cases h
structure Ex (mu : Addr → Bool) (H H' : Hp) : Prop where
  keep : ∀ a o, mu a = false → H a = some o → H' a = some o
  dom : ∀ a, H a ≠ none → H' a ≠ none
theorem Ex.refl {mu : Addr → Bool} {H : Hp} : Ex mu H H := ⟨fun _ o _ h => h, fun _ h => h⟩
theorem Ex.trans {mu : Addr → Bool} {H H1 H2 : Hp} (a : Ex mu H H1) (b : Ex mu H1 H2) : Ex mu H H2 := ⟨fun x o hx h => b.keep x o hx (a.keep x o hx h), fun x h => b.dom x (a.dom x h)⟩
theorem Ex.fresh {mu : Addr → Bool} {H H' : Hp} (e : Ex mu H H') {p : Addr} (h : H' p = none) : H p = none := by
  cases q : H p with
  | none => rfl
  | some o => exact absurd h (e.dom p (by rw [q]; exact fun z => nomatch z))
theorem Ex.new {mu : Addr → Bool} {H : Hp} {p : Addr} {o : HO} (h : H p = none) : Ex mu H (upd H p o) := ⟨fun a u _ e => by
  rw [upd_ne (ne_of_none e h)]
  exact e, fun a e => by
  by_cases q : a = p
  · subst q; exact absurd h e
  · rw [upd_ne q]; exact e⟩
theorem upd_dom {H : Hp} {p a : Addr} {o : HO} (h : H a ≠ none) : upd H p o a ≠ none := by
  by_cases q : a = p
  · subst q; rw [upd_same]; exact fun z => nomatch z
  · rw [upd_ne q]; exact h
theorem Ex.mut {mu : Addr → Bool} {H H' : Hp} {p : Addr} {o : HO} (e : Ex mu H H') (h : H p = none ∨ mu p = true) : Ex mu H (upd H' p o) := ⟨fun a u ha hu => by
  by_cases q : a = p
  · subst q
    rcases h with h | h
    · rw [h] at hu; cases hu
    · rw [h] at ha; cases ha
  · rw [upd_ne q]; exact e.keep a u ha hu, fun a ha => upd_dom (e.dom a ha)⟩
theorem Ex.weak {mu nu : Addr → Bool} {H H' : Hp} (e : Ex mu H H') (h : ∀ a, mu a = true → nu a = true) : Ex nu H H' := ⟨fun a o ha => e.keep a o (by
  cases q : mu a with
  | false => rfl
  | true => rw [h a q] at ha; cases ha), e.dom⟩
def Hm (hd : Addr → Bool) (H : Hp) : Hp := fun a => if hd a = true then none else H a
theorem hm_le {hd : Addr → Bool} {H : Hp} {a : Addr} {o : HO} (h : Hm hd H a = some o) : H a = some o := by
  unfold Hm at h
  split at h
  · cases h
  · exact h
theorem hm_not {hd : Addr → Bool} {H : Hp} {a : Addr} {o : HO} (h : Hm hd H a = some o) : hd a = false := by
  unfold Hm at h
  cases q : hd a with
  | false => rfl
  | true => rw [if_pos q] at h; cases h
theorem hm_of {hd : Addr → Bool} {H : Hp} {a : Addr} (h : hd a = false) : Hm hd H a = H a := by
  unfold Hm
  rw [if_neg (by rw [h]; exact Bool.false_ne_true)]
def Sees (G G' : Hp) : Prop := ∀ a o, G a = some o → ∃ o', G' a = some o' ∧ Sm o o'
theorem Sees.refl {G : Hp} : Sees G G := fun _ o h => ⟨o, h, .rfl⟩
theorem Sees.trans {G G1 G2 : Hp} (a : Sees G G1) (b : Sees G1 G2) : Sees G G2 := fun x o h => by
  obtain ⟨o1, h1, s1⟩ := a x o h
  obtain ⟨o2, h2, s2⟩ := b x o1 h1
  exact ⟨o2, h2, s1.trans s2⟩
theorem Ex.sees {mu hd : Addr → Bool} {H H' : Hp} (e : Ex mu H H') (hm : ∀ a, mu a = true → hd a = true) : Sees (Hm hd H) (Hm hd H') := fun a o h => by
  have h1 := hm_not h
  have h2 := e.keep a o (by
    cases q : mu a with
    | false => rfl
    | true => rw [hm a q] at h1; cases h1) (hm_le h)
  exact ⟨o, by rw [hm_of h1]; exact h2, .rfl⟩
theorem sees_hide {hd hd' : Addr → Bool} {H : Hp} (h : ∀ a, hd a = true → hd' a = true) : Sees (Hm hd' H) (Hm hd H) := fun a o e => by
  refine ⟨o, ?_, .rfl⟩
  have h1 := hm_not e
  rw [hm_of]
  · exact hm_le e
  · cases q : hd a with
    | false => rfl
    | true => rw [h a q] at h1; cases h1
theorem sees_le {hd : Addr → Bool} {H : Hp} : Sees (Hm hd H) H := fun _ o h => ⟨o, hm_le h, .rfl⟩
theorem hm_upd {hd : Addr → Bool} {H : Hp} {p : Addr} {o : HO} (h : hd p = true) : Hm hd (upd H p o) = Hm hd H := by
  funext a
  unfold Hm upd
  by_cases q : a = p
  · subst q; rw [if_pos h, if_pos h]
  · rw [if_neg q]
theorem sees_t {K : PySem.W.Frag} {G G' : Hp} {a : Addr} {xs : List V} (e : Sees G G') (h : SqT K G a xs) : SqT K G' a xs := by
  rcases h with (h | ⟨o, h⟩) | h
  · obtain ⟨o', h1, s⟩ := e a _ h
    rw [s.tup] at h1
    exact .inl (.inl h1)
  · obtain ⟨o', h1, s⟩ := e a _ h
    rw [s.ftup] at h1
    exact .inl (.inr ⟨o, h1⟩)
  · exact .inr h
theorem rd_sm {o o' : HO} (s : Sm o o') {u : HO} (hu : dic u = true) (h : o = u ∨ ∃ b, o = .frz b u) : o' = u ∨ ∃ b, o' = .frz b u := by
  rcases s with rfl | ⟨_, s2⟩
  · exact h
  · have e : thaw o' = u := by
      rw [← s2]
      rcases h with rfl | ⟨b, rfl⟩
      · cases o <;> first | rfl | cases hu
      · rfl
    cases o' with
    | frz b v => exact .inr ⟨b, by rw [show v = u from e]⟩
    | _ => exact .inl e
theorem sees_rd {G G' : Hp} {a : Addr} {u : HO} (e : Sees G G') (hu : dic u = true) (h : Rd G a u) : Rd G' a u := by
  rcases h with h | ⟨b, h⟩
  · obtain ⟨o', h1, s⟩ := e a _ h
    rcases rd_sm s hu (.inl rfl) with q | ⟨b, q⟩
    · subst q; exact .inl h1
    · subst q; exact .inr ⟨b, h1⟩
  · obtain ⟨o', h1, s⟩ := e a _ h
    rcases rd_sm s hu (.inr ⟨b, rfl⟩) with q | ⟨c, q⟩
    · subst q; exact .inl h1
    · subst q; exact .inr ⟨c, h1⟩
mutual
inductive Rp (K : PySem.W.Frag) (G : Hp) : V → Dt → Prop
  | non : Rp K G .non .non
  | bl (b : Bool) : Rp K G (.bl b) (.bl b)
  | int (i : Int) : Rp K G (.int i) (.int i)
  | str (x : Str) : Rp K G (.str x) (.str x)
  | lst {a : Addr} {xs : List V} {ds : List Dt} : G a = some (.lst xs) → RpAll K G xs ds → Rp K G (.ref a) (.lst ds)
  | tup {a : Addr} {xs : List V} {ds : List Dt} : SqT K G a xs → RpAll K G xs ds → Rp K G (.ref a) (.tup ds)
  | dk {a : Addr} {kvs : List (Key × V)} {ds : List (Key × Dt)} : Rd G a (.dK kvs) → RpK K G kvs ds → Rp K G (.ref a) (.dk ds)
  | dt {a : Addr} {kvs : List (List Key × V)} {ds : List (List Key × Dt)} : Rd G a (.dT kvs) → RpT K G kvs ds → Rp K G (.ref a) (.dt ds)
  | ob {a C dx : Addr} {vs : List (Str × V)} {ds : List (Str × Dt)} : G a = some (.ins C dx vs) → RpF K G vs ds → Rp K G (.ref a) (.ob C ds)
  | xo {f : Addr} {L : List (Addr × HO)} : (∀ p ∈ L, dic (thaw p.2) = false ∧ G p.1 = some p.2) → Rp K G (.ref f) (.xo f L)
  | ptup {a : Addr} {ob : Obj} {xs : List V} {ds : List Dt} : ob.cls = .type "tuple" → ob.dict = none → G a = some (.frz ob (.tup xs)) → RpAll K G xs ds → Rp K G (.ref a) (.ptup ds)
inductive RpAll (K : PySem.W.Frag) (G : Hp) : List V → List Dt → Prop
  | nil : RpAll K G [] []
  | cons {v : V} {vs : List V} {d : Dt} {ds : List Dt} : Rp K G v d → RpAll K G vs ds → RpAll K G (v :: vs) (d :: ds)
inductive RpK (K : PySem.W.Frag) (G : Hp) : List (Key × V) → List (Key × Dt) → Prop
  | nil : RpK K G [] []
  | cons {k : Key} {v : V} {vs : List (Key × V)} {d : Dt} {ds : List (Key × Dt)} : Rp K G v d → RpK K G vs ds → RpK K G ((k, v) :: vs) ((k, d) :: ds)
inductive RpF (K : PySem.W.Frag) (G : Hp) : List (Str × V) → List (Str × Dt) → Prop
  | nil : RpF K G [] []
  | cons {k : Str} {v : V} {vs : List (Str × V)} {d : Dt} {ds : List (Str × Dt)} : Rp K G v d → RpF K G vs ds → RpF K G ((k, v) :: vs) ((k, d) :: ds)
inductive RpT (K : PySem.W.Frag) (G : Hp) : List (List Key × V) → List (List Key × Dt) → Prop
  | nil : RpT K G [] []
  | cons {k : List Key} {v : V} {vs : List (List Key × V)} {d : Dt} {ds : List (List Key × Dt)} : Rp K G v d → RpT K G vs ds → RpT K G ((k, v) :: vs) ((k, d) :: ds)
end
mutual
theorem Rp.mono {K : PySem.W.Frag} {G G' : Hp} (e : Sees G G') : ∀ {v : V} {d : Dt}, Rp K G v d → Rp K G' v d
  | _, _, .non => .non
  | _, _, .bl b => .bl b
  | _, _, .int i => .int i
  | _, _, .str x => .str x
  | _, _, .lst (xs := xs) h t => .lst (xs := xs) (by
      obtain ⟨o, h1, s⟩ := e _ _ h
      rw [s.lst] at h1
      exact h1) (RpAll.mono e t)
  | _, _, .tup h t => .tup (sees_t e h) (RpAll.mono e t)
  | _, _, .dk h t => .dk (sees_rd e rfl h) (RpK.mono e t)
  | _, _, .dt h t => .dt (sees_rd e rfl h) (RpT.mono e t)
  | _, _, .ob (C := C) (dx := dx) (vs := vs) h t => .ob (C := C) (dx := dx) (vs := vs) (by
      obtain ⟨o, h1, s⟩ := e _ _ h
      rw [s.plain rfl] at h1
      exact h1) (RpF.mono e t)
  | _, _, .xo h => .xo fun p hp => by
      obtain ⟨h1, h2⟩ := h p hp
      obtain ⟨o, h3, s⟩ := e _ _ h2
      rw [s.plain h1] at h3
      exact ⟨h1, h3⟩
  | _, _, .ptup h1 h2 (ob := ob) (xs := xs) h t => .ptup (ob := ob) (xs := xs) h1 h2 (by
      obtain ⟨o, h3, s⟩ := e _ _ h
      rw [s.ftup] at h3
      exact h3) (RpAll.mono e t)
theorem RpAll.mono {K : PySem.W.Frag} {G G' : Hp} (e : Sees G G') : ∀ {vs : List V} {ds : List Dt}, RpAll K G vs ds → RpAll K G' vs ds
  | _, _, .nil => .nil
  | _, _, .cons h t => .cons (Rp.mono e h) (RpAll.mono e t)
theorem RpK.mono {K : PySem.W.Frag} {G G' : Hp} (e : Sees G G') : ∀ {vs : List (Key × V)} {ds : List (Key × Dt)}, RpK K G vs ds → RpK K G' vs ds
  | _, _, .nil => .nil
  | _, _, .cons h t => .cons (Rp.mono e h) (RpK.mono e t)
theorem RpF.mono {K : PySem.W.Frag} {G G' : Hp} (e : Sees G G') : ∀ {vs : List (Str × V)} {ds : List (Str × Dt)}, RpF K G vs ds → RpF K G' vs ds
  | _, _, .nil => .nil
  | _, _, .cons h t => .cons (Rp.mono e h) (RpF.mono e t)
theorem RpT.mono {K : PySem.W.Frag} {G G' : Hp} (e : Sees G G') : ∀ {vs : List (List Key × V)} {ds : List (List Key × Dt)}, RpT K G vs ds → RpT K G' vs ds
  | _, _, .nil => .nil
  | _, _, .cons h t => .cons (Rp.mono e h) (RpT.mono e t)
end
end CC
namespace CC
open PySem PySem.Spec PyProof.Rows L2
section
variable {K : PySem.W.Frag} {G G' : Hp}
theorem RpAll.length : ∀ {vs : List V} {ds : List Dt}, RpAll K G vs ds → vs.length = ds.length
  | _, _, .nil => rfl
  | _, _, .cons _ t => congrArg (· + 1) (RpAll.length t)
theorem RpAll.get : ∀ {vs : List V} {ds : List Dt} {i : Nat} {d : Dt}, RpAll K G vs ds → ds[i]? = some d → ∃ v, vs[i]? = some v ∧ Rp K G v d
  | _, _, 0, _, .cons h _, e => ⟨_, rfl, by rw [show _ = _ from Option.some.inj e] at h; exact h⟩
  | _, _, i + 1, _, .cons _ t, e => RpAll.get (i := i) t e
theorem RpAll.getV : ∀ {vs : List V} {ds : List Dt} {i : Nat} {v : V}, RpAll K G vs ds → vs[i]? = some v → ∃ d, ds[i]? = some d ∧ Rp K G v d
  | _, _, 0, _, .cons h _, e => ⟨_, rfl, by rw [show _ = _ from Option.some.inj e] at h; exact h⟩
  | _, _, i + 1, _, .cons _ t, e => RpAll.getV (i := i) t e
theorem RpAll.append : ∀ {vs ws : List V} {ds es : List Dt}, RpAll K G vs ds → RpAll K G ws es → RpAll K G (vs ++ ws) (ds ++ es)
  | _, _, _, _, .nil, s => s
  | _, _, _, _, .cons h t, s => .cons h (RpAll.append t s)
theorem RpAll.take : ∀ {vs : List V} {ds : List Dt} (n : Nat), RpAll K G vs ds → RpAll K G (vs.take n) (ds.take n)
  | _, _, 0, _ => .nil
  | _, _, _ + 1, .nil => .nil
  | _, _, n + 1, .cons h t => .cons h (RpAll.take n t)
theorem RpAll.drop : ∀ {vs : List V} {ds : List Dt} (n : Nat), RpAll K G vs ds → RpAll K G (vs.drop n) (ds.drop n)
  | _, _, 0, h => h
  | _, _, _ + 1, .nil => .nil
  | _, _, n + 1, .cons _ t => RpAll.drop n t
theorem RpAll.set {v : V} {d : Dt} (h : Rp K G v d) : ∀ {vs : List V} {ds : List Dt} (n : Nat), RpAll K G vs ds → RpAll K G (vs.set n v) (ds.set n d)
  | _, _, _, .nil => .nil
  | _, _, 0, .cons _ t => .cons h t
  | _, _, n + 1, .cons q t => .cons q (RpAll.set h n t)
theorem RpAll.rev : ∀ {vs : List V} {ds : List Dt}, RpAll K G vs ds → RpAll K G vs.reverse ds.reverse
  | _, _, .nil => .nil
  | _, _, .cons h t => by
    rw [List.reverse_cons, List.reverse_cons]
    exact (RpAll.rev t).append (.cons h .nil)
theorem RpAll.rep {vs : List V} {ds : List Dt} (h : RpAll K G vs ds) : ∀ n : Nat, RpAll K G (List.replicate n vs).flatten (List.replicate n ds).flatten
  | 0 => .nil
  | n + 1 => by
    rw [List.replicate_succ, List.replicate_succ, List.flatten_cons, List.flatten_cons]
    exact h.append (RpAll.rep h n)
theorem RpAll.ints : ∀ {vs : List V} {ns : List Int}, RpAll K G vs (ns.map Dt.int) → vs = ns.map V.int
  | _, [], .nil => rfl
  | _, n :: r, .cons h t => by
    cases h
    rw [RpAll.ints t]
    rfl
theorem RpAll.ofInts : ∀ (ns : List Int), RpAll K G (ns.map V.int) (ns.map Dt.int)
  | [] => .nil
  | n :: r => .cons (.int n) (RpAll.ofInts r)
theorem RpAll.bls : ∀ {vs : List V} {ns : List Bool}, RpAll K G vs (ns.map Dt.bl) → vs = ns.map V.bl
  | _, [], .nil => rfl
  | _, n :: r, .cons h t => by
    cases h
    rw [RpAll.bls t]
    rfl
theorem RpAll.strs : ∀ {vs : List V} {ns : List Str}, RpAll K G vs (ns.map Dt.str) → vs = ns.map V.str
  | _, [], .nil => rfl
  | _, n :: r, .cons h t => by
    cases h
    rw [RpAll.strs t]
    rfl
theorem RpAll.ofStrs : ∀ (ns : List Str), RpAll K G (ns.map V.str) (ns.map Dt.str)
  | [] => .nil
  | n :: r => .cons (.str n) (RpAll.ofStrs r)
end
def ext : HO → Bool
  | .ext _ => true
  | _ => false
structure Cn where
  K : PySem.W.Frag
  mu : Addr → Bool
  B : (Addr → Bool) → Hp → Prop
  stab : ∀ hd hd' H H', Sees (Hm hd H) (Hm hd' H') → (∀ a o, (mu a = true ∨ ext o = true) → H a = some o → H' a = some o) → B hd H → B hd' H'
def none0 : Addr → Bool := fun _ => false
theorem Cn.putS (c : Cn) {hd hd' : Addr → Bool} {H : Hp} {o : Addr} {u v : HO} (e : Sees (Hm hd H) (Hm hd' (upd H o u))) (hm : c.mu o = false) (hv : H o = some v) (hx : ext v = false) (b : c.B hd H) : c.B hd' (upd H o u) := c.stab hd hd' H _ e (fun a x h q => by
  rw [upd_ne (fun z => by
    subst z
    rcases h with h | h
    · rw [hm] at h; cases h
    · rw [hv] at q
      cases q
      rw [hx] at h; cases h)]
  exact q) b
theorem Cn.put (c : Cn) {hd : Addr → Bool} {H : Hp} {o : Addr} {u v : HO} (ho : hd o = true) (hm : c.mu o = false) (hv : H o = some v) (hx : ext v = false) (b : c.B hd H) : c.B hd (upd H o u) := c.putS (by rw [hm_upd ho]; exact Sees.refl) hm hv hx b
theorem Cn.unhide (c : Cn) {hd hd' : Addr → Bool} {H : Hp} (h : ∀ a, hd a = true → hd' a = true) (b : c.B hd' H) : c.B hd H := c.stab hd' hd H H (sees_hide h) (fun _ _ _ q => q) b
abbrev Cn.pure (K : PySem.W.Frag) : Cn := ⟨K, none0, fun _ _ => True, fun _ _ _ _ _ _ _ => trivial⟩
inductive Sl where
  | un | im (d : Dt) | ac (ds : List Dt) | ak (kvs : List (Key × Dt)) | aT (kvs : List (List Key × Dt)) | rw (v : V) | iK (kvs : List (Key × Dt)) | dl (o : Addr) (kvs : List (Key × Dt))
def SlOk (c : Cn) (hd : Addr → Bool) (H : Hp) : Option V → Sl → Prop
  | _, .un => True
  | some v, .im d => Rp c.K (Hm hd H) v d
  | some (.ref o), .ac ds => hd o = true ∧ c.mu o = false ∧ ∃ vs, H o = some (.lst vs) ∧ RpAll c.K (Hm hd H) vs ds
  | some (.ref o), .ak ds => hd o = true ∧ c.mu o = false ∧ ∃ vs, H o = some (.dK vs) ∧ RpK c.K (Hm hd H) vs ds
  | some (.ref o), .aT ds => hd o = true ∧ c.mu o = false ∧ ∃ vs, H o = some (.dT vs) ∧ RpT c.K (Hm hd H) vs ds
  | some v, .rw u => v = u
  | some (.ref o), .iK ds => hd o = false ∧ c.mu o = false ∧ ∃ vs, H o = some (.dK vs) ∧ RpK c.K (Hm hd H) vs ds
  | some v, .dl o ds => v = .ref o ∧ Rp c.K (Hm hd H) (.ref o) (.dk ds)
  | _, _ => False
def owns : Sl → Bool
  | .ac _ => true
  | .ak _ => true
  | .aT _ => true
  | _ => false
inductive SlAll (c : Cn) (hd : Addr → Bool) (H : Hp) : List (Option V) → List Sl → Prop
  | nil : SlAll c hd H [] []
  | cons {o : Option V} {os : List (Option V)} {s : Sl} {ss : List Sl} : SlOk c hd H o s → SlAll c hd H os ss → SlAll c hd H (o :: os) (s :: ss)
structure SV (c : Cn) (hd : Addr → Bool) (H : Hp) (σ : L2.St) (ρ : List Sl) : Prop where
  dom : ∀ a, hd a = true → H a ≠ none
  muh : ∀ a, c.mu a = true → hd a = true
  inv : c.B hd H
  slots : SlAll c hd H σ ρ
def ownAt (σ : L2.St) (ρ : List Sl) (i : Nat) (o : Addr) : Prop := σ[i]? = some (some (.ref o)) ∧ ∃ s, ρ[i]? = some s ∧ owns s = true
structure SD (c : Cn) (hid hd : Addr → Bool) (H0 H : Hp) (σ : L2.St) (ρ : List Sl) : Prop extends SV c hd H σ ρ where
  sub : ∀ a, hid a = true → hd a = true
  ext : Ex c.mu H0 H
  new : ∀ a, hd a = true → hid a = false → H0 a = none
  own : ∀ i j o, ownAt σ ρ i o → ownAt σ ρ j o → i = j
  ownh : ∀ i o, ownAt σ ρ i o → hid o = false
def hide (hd : Addr → Bool) (o : Addr) : Addr → Bool := fun a => hd a || decide (a = o)
theorem hide_self {hd : Addr → Bool} {o : Addr} : hide hd o o = true := by unfold hide; rw [decide_eq_true rfl, Bool.or_true]
theorem hide_of {hd : Addr → Bool} {o a : Addr} (h : hd a = true) : hide hd o a = true := by unfold hide; rw [h, Bool.true_or]
theorem hide_ne {hd : Addr → Bool} {o a : Addr} (h : a ≠ o) : hide hd o a = hd a := by unfold hide; rw [decide_eq_false h, Bool.or_false]
theorem hide_inv {hd : Addr → Bool} {o a : Addr} (h : hide hd o a = true) : hd a = true ∨ a = o := by
  by_cases q : a = o
  · exact .inr q
  · rw [hide_ne q] at h; exact .inl h
section
variable {c : Cn} {hid hd hd' : Addr → Bool} {H0 H H' : Hp} {σ : L2.St} {ρ : List Sl}
theorem SlAll.get : ∀ {σ : L2.St} {ρ : List Sl} {i : Nat} {s : Sl}, SlAll c hd H σ ρ → ρ[i]? = some s → ∃ o, σ[i]? = some o ∧ SlOk c hd H o s
  | _, _, 0, _, .cons h _, e => ⟨_, rfl, by rw [show _ = _ from Option.some.inj e] at h; exact h⟩
  | _, _, i + 1, _, .cons _ t, e => SlAll.get (i := i) t e
theorem SlAll.set {o : Option V} {s : Sl} (h : SlOk c hd H o s) : ∀ {σ : L2.St} {ρ : List Sl} (i : Nat), SlAll c hd H σ ρ → SlAll c hd H (σ.set i o) (ρ.set i s)
  | _, _, _, .nil => .nil
  | _, _, 0, .cons _ t => .cons h t
  | _, _, n + 1, .cons q t => .cons q (SlAll.set h n t)
theorem SlAll.imp (h : ∀ o s, SlOk c hd H o s → SlOk c hd' H' o s) : ∀ {σ : L2.St} {ρ : List Sl}, SlAll c hd H σ ρ → SlAll c hd' H' σ ρ
  | _, _, .nil => .nil
  | _, _, .cons q t => .cons (h _ _ q) (SlAll.imp h t)
theorem SlOk.mono (e : Sees (Hm hd H) (Hm hd' H')) (hs : ∀ a, hd a = true → hd' a = true) (hn : ∀ a, hd a = false → H a ≠ none → hd' a = false) (ho : ∀ a o, c.mu a = false → H a = some o → H' a = some o) (o : Option V) (s : Sl) (h : SlOk c hd H o s) : SlOk c hd' H' o s := by
  cases s with
  | un => unfold SlOk; split <;> trivial
  | im d =>
    cases o with
    | none => exact h.elim
    | some v => exact Rp.mono e h
  | rw u =>
    cases o with
    | none => exact h.elim
    | some v => exact h
  | dl q ds =>
    cases o with
    | none => exact h.elim
    | some v => exact ⟨h.1, Rp.mono e h.2⟩
  | ac ds =>
    cases o with
    | none => exact h.elim
    | some v =>
      cases v with
      | ref q =>
        obtain ⟨h1, h2, vs, h3, h4⟩ := h
        exact ⟨hs q h1, h2, vs, ho q _ h2 h3, RpAll.mono e h4⟩
      | _ => exact h.elim
  | ak ds =>
    cases o with
    | none => exact h.elim
    | some v =>
      cases v with
      | ref q =>
        obtain ⟨h1, h2, vs, h3, h4⟩ := h
        exact ⟨hs q h1, h2, vs, ho q _ h2 h3, RpK.mono e h4⟩
      | _ => exact h.elim
  | aT ds =>
    cases o with
    | none => exact h.elim
    | some v =>
      cases v with
      | ref q =>
        obtain ⟨h1, h2, vs, h3, h4⟩ := h
        exact ⟨hs q h1, h2, vs, ho q _ h2 h3, RpT.mono e h4⟩
      | _ => exact h.elim
  | iK ds =>
    cases o with
    | none => exact h.elim
    | some v =>
      cases v with
      | ref q =>
        obtain ⟨h1, h2, vs, h3, h4⟩ := h
        exact ⟨hn q h1 (by rw [h3]; exact fun z => nomatch z), h2, vs, ho q _ h2 h3, RpK.mono e h4⟩
      | _ => exact h.elim
end
end CC
namespace CC
open PySem PySem.Spec PyProof.Rows L2
section
variable {c : Cn} {hid hd hd' : Addr → Bool} {H0 H H' : Hp} {σ : L2.St} {ρ : List Sl}
theorem Ex.up (e : Ex none0 H H') : Ex c.mu H H' := e.weak (fun _ h => nomatch h)
theorem Cn.keep0 (e : Ex none0 H H') (b : c.B hd H) : c.B hd H' := c.stab hd hd H H' (e.sees fun _ h => nomatch h) (fun a o _ h => e.keep a o rfl h) b
theorem SV.go (v : SV c hd H σ ρ) (e : Ex c.mu H H') (b : c.B hd H') : SV c hd H' σ ρ :=
  ⟨fun a h => e.dom a (v.dom a h), v.muh, b, v.slots.imp (SlOk.mono (e.sees v.muh) (fun _ h => h) (fun _ h _ => h) (fun a o hm h => e.keep a o hm h))⟩
theorem SV.go0 (v : SV c hd H σ ρ) (e : Ex none0 H H') : SV c hd H' σ ρ := v.go e.up (c.keep0 e v.inv)
theorem sees_new {mu : Addr → Bool} {o : Addr} (e : Ex mu H H') (hm : ∀ a, mu a = true → hd a = true) (ho : H o = none) : Sees (Hm hd H) (Hm (hide hd o) H') := fun a u h => by
  have h1 := hm_not h
  have h2 := hm_le h
  have na : a ≠ o := ne_of_none h2 ho
  refine ⟨u, ?_, .rfl⟩
  rw [hm_of (by rw [hide_ne na]; exact h1)]
  exact e.keep a u (by
    cases q : mu a with
    | false => rfl
    | true => rw [hm a q] at h1; cases h1) h2
theorem Cn.keepN {o : Addr} (e : Ex none0 H H') (ho : H o = none) (b : c.B hd H) : c.B (hide hd o) H' := c.stab hd _ H H' (sees_new e (fun _ h => nomatch h) ho) (fun a x _ h => e.keep a x rfl h) b
theorem SV.hide (v : SV c hd H σ ρ) {o : Addr} (e : Ex c.mu H H') (b : c.B (hide hd o) H') (ho : H o = none) (h' : H' o ≠ none) : SV c (hide hd o) H' σ ρ :=
  ⟨fun a h => by
    rcases hide_inv h with h | h
    · exact e.dom a (v.dom a h)
    · subst h; exact h', fun a h => hide_of (v.muh a h), b, v.slots.imp (SlOk.mono (sees_new e v.muh ho) (fun _ h => hide_of h) (fun a h hn => by rw [hide_ne (fun z => by subst z; exact hn ho)]; exact h) (fun a o hm h => e.keep a o hm h))⟩
theorem SV.set (v : SV c hd H σ ρ) {o : Option V} {s : Sl} (i : Nat) (h : SlOk c hd H o s) : SV c hd H (σ.set i o) (ρ.set i s) := ⟨v.dom, v.muh, v.inv, v.slots.set h i⟩
theorem fresh_hd (dom : ∀ a, hd a = true → H a ≠ none) {p : Addr} (h : H p = none) : hd p = false := by
  cases q : hd p with
  | false => rfl
  | true => exact absurd h (dom p q)
end
def Kv (c : Cn) (hd : Addr → Bool) (H : Hp) (Q : Dt → Prop) (Qh : VK) : Prop := ∀ d v H', Q d → Ex c.mu H H' → c.B hd H' → Rp c.K (Hm hd H') v d → Qh v H'
def Kn (c : Cn) (hd : Addr → Bool) (H : Hp) (Q : List Dt → Prop) (Qh : VK) : Prop := ∀ ds o vs H', Q ds → Ex c.mu H H' → c.B (hide hd o) H' → H o = none → H' o = some (.lst vs) → RpAll c.K (Hm (hide hd o) H') vs ds → Qh (.ref o) H'
def EV (c : Cn) (te : TE) (ρ : List Sl) (Q : Dt → Prop) : Prop := ∀ hd H σ, SV c hd H σ ρ → ∀ Qh : VK, Kv c hd H Q Qh → te σ H Qh
def EN (c : Cn) (te : TE) (ρ : List Sl) (Q : List Dt → Prop) : Prop := ∀ hd H σ, SV c hd H σ ρ → ∀ Qh : VK, Kn c hd H Q Qh → te σ H Qh
def EVT (c : Cn) (tt : TT) (ρ : List Sl) (Q : Bool → Prop) : Prop := ∀ hd H σ, SV c hd H σ ρ → ∀ Qh : Bool → Hp → Prop, (∀ b H', Q b → Ex c.mu H H' → c.B hd H' → Qh b H') → tt σ H Qh
def EVA (c : Cn) (ta : TA) (ρ : List Sl) (Q : List Dt → Prop) : Prop := ∀ hd H σ, SV c hd H σ ρ → ∀ Qh : List V → Hp → Prop, (∀ ds vs H', Q ds → Ex c.mu H H' → c.B hd H' → RpAll c.K (Hm hd H') vs ds → Qh vs H') → ta σ H Qh
def EVO (c : Cn) (to : TO) (ρ : List Sl) (Q : Option Int → Prop) : Prop := ∀ hd H σ, SV c hd H σ ρ → ∀ Qh : Option Int → Hp → Prop, (∀ o H', Q o → Ex c.mu H H' → c.B hd H' → Qh o H') → to σ H Qh
def R2J (c : Cn) (r : R2) (d1 d2 : Dt) (Q : Dt → Prop) : Prop := ∀ hd H x y, (∀ a, hd a = true → H a ≠ none) → (∀ a, c.mu a = true → hd a = true) → c.B hd H → Rp c.K (Hm hd H) x d1 → Rp c.K (Hm hd H) y d2 → ∀ Qh : VK, Kv c hd H Q Qh → r x y H Qh
def R2N (c : Cn) (r : R2) (d1 d2 : Dt) (Q : List Dt → Prop) : Prop := ∀ hd H x y, (∀ a, hd a = true → H a ≠ none) → (∀ a, c.mu a = true → hd a = true) → c.B hd H → Rp c.K (Hm hd H) x d1 → Rp c.K (Hm hd H) y d2 → ∀ Qh : VK, Kn c hd H Q Qh → r x y H Qh
def RCJ (c : Cn) (r : List V → Hp → VK → Prop) (ds : List Dt) (Q : Dt → Prop) : Prop := ∀ hd H vs, (∀ a, hd a = true → H a ≠ none) → (∀ a, c.mu a = true → hd a = true) → c.B hd H → RpAll c.K (Hm hd H) vs ds → ∀ Qh : VK, Kv c hd H Q Qh → r vs H Qh
def RCN (c : Cn) (r : List V → Hp → VK → Prop) (ds : List Dt) (Q : List Dt → Prop) : Prop := ∀ hd H vs, (∀ a, hd a = true → H a ≠ none) → (∀ a, c.mu a = true → hd a = true) → c.B hd H → RpAll c.K (Hm hd H) vs ds → ∀ Qh : VK, Kn c hd H Q Qh → r vs H Qh
section
variable {c : Cn} {ρ : List Sl} {ta tb te tx : TE} {t u : TT} {Q : Dt → Prop}
theorem EV.imp {Q' : Dt → Prop} (h : EV c te ρ Q) (k : ∀ d, Q d → Q' d) : EV c te ρ Q' := fun hd H σ v Qh q => h hd H σ v Qh fun d x H' hq => q d x H' (k d hq)
theorem EN.imp {Q Q' : List Dt → Prop} (h : EN c te ρ Q) (k : ∀ d, Q d → Q' d) : EN c te ρ Q' := fun hd H σ v Qh q => h hd H σ v Qh fun d o vs H' hq => q d o vs H' (k d hq)
theorem EVT.imp {Q Q' : Bool → Prop} (h : EVT c t ρ Q) (k : ∀ d, Q d → Q' d) : EVT c t ρ Q' := fun hd H σ v Qh q => h hd H σ v Qh fun b H' hq => q b H' (k b hq)
theorem kn_kv {hd : Addr → Bool} {H : Hp} {Q : Dt → Prop} {Qh : VK} (dom : ∀ a, hd a = true → H a ≠ none) (q : Kv c hd H Q Qh) : Kn c hd H (fun ds => Q (.lst ds)) Qh := fun ds o vs H' hq e b ho h1 h2 =>
  q (.lst ds) (.ref o) H' hq e (c.unhide (fun _ h => hide_of h) b) (.lst (by rw [hm_of (fresh_hd dom ho)]; exact h1) (h2.mono (sees_hide fun _ h => hide_of h)))
theorem EN.ev (h : EN c te ρ fun ds => Q (.lst ds)) : EV c te ρ Q := fun hd H σ v Qh q => h hd H σ v Qh (kn_kv v.dom q)
theorem R2N.j {r : R2} {d1 d2 : Dt} (h : R2N c r d1 d2 fun ds => Q (.lst ds)) : R2J c r d1 d2 Q := fun hd H x y dom mh b hx hy Qh q => h hd H x y dom mh b hx hy Qh (kn_kv dom q)
theorem RCN.j {r : List V → Hp → VK → Prop} {ds : List Dt} (h : RCN c r ds fun ds => Q (.lst ds)) : RCJ c r ds Q := fun hd H vs dom mh b hv Qh q => h hd H vs dom mh b hv Qh (kn_kv dom q)
theorem ev_var {i : Nat} {d : Dt} (h : ρ[i]? = some (.im d)) (k : Q d) : EV c (tVar i) ρ Q := fun hd H σ v Qh q => by
  obtain ⟨o, h1, h2⟩ := v.slots.get h
  cases o with
  | none => exact h2.elim
  | some x => exact ⟨x, h1, q d x H k .refl v.inv h2⟩
theorem ev_int {i : Int} (k : Q (.int i)) : EV c (tC (.int i)) ρ Q := fun hd H σ v Qh q => q _ _ H k .refl v.inv (.int i)
theorem ev_str {i : Str} (k : Q (.str i)) : EV c (tC (.str i)) ρ Q := fun hd H σ v Qh q => q _ _ H k .refl v.inv (.str i)
theorem ev_bl {i : Bool} (k : Q (.bl i)) : EV c (tC (.bl i)) ρ Q := fun hd H σ v Qh q => q _ _ H k .refl v.inv (.bl i)
theorem ev_non (k : Q .non) : EV c (tC .non) ρ Q := fun hd H σ v Qh q => q _ _ H k .refl v.inv .non
theorem ev_con {x : V} {d : Dt} (h : ∀ G, Rp c.K G x d) (k : Q d) : EV c (tC x) ρ Q := fun hd H σ v Qh q => q _ _ H k .refl v.inv (h _)
theorem ev_op {r : R2} (h : EV c ta ρ fun d1 => EV c tb ρ fun d2 => R2J c r d1 d2 Q) : EV c (tOp r ta tb) ρ Q := fun hd H σ v Qh q =>
  h hd H σ v _ fun d1 x H1 h1 e1 b1 r1 => h1 hd H1 σ (v.go e1 b1) _ fun d2 y H2 h2 e2 b2 r2 =>
    h2 hd H2 x y (fun a h => e2.dom a (e1.dom a (v.dom a h))) v.muh b2 (r1.mono (e2.sees v.muh)) r2 Qh fun d z H3 hq e3 => q d z H3 hq ((e1.trans e2).trans e3)
theorem en_op {r : R2} {Q : List Dt → Prop} (h : EV c ta ρ fun d1 => EV c tb ρ fun d2 => R2N c r d1 d2 Q) : EN c (tOp r ta tb) ρ Q := fun hd H σ v Qh q =>
  h hd H σ v _ fun d1 x H1 h1 e1 b1 r1 => h1 hd H1 σ (v.go e1 b1) _ fun d2 y H2 h2 e2 b2 r2 =>
    h2 hd H2 x y (fun a h => e2.dom a (e1.dom a (v.dom a h))) v.muh b2 (r1.mono (e2.sees v.muh)) r2 Qh fun ds o vs H3 hq e3 b3 ho => q ds o vs H3 hq ((e1.trans e2).trans e3) b3 ((e1.trans e2).fresh ho)
theorem ev_if (h : EVT c t ρ fun b => (b = true → EV c ta ρ Q) ∧ (b = false → EV c tb ρ Q)) : EV c (tIf t ta tb) ρ Q := fun hd H σ v Qh q =>
  h hd H σ v _ fun b H1 h1 e1 b1 => by
    cases b with
    | true =>
      show ta σ H1 Qh
      exact h1.1 rfl hd H1 σ (v.go e1 b1) Qh fun d z H3 hq e3 => q d z H3 hq (e1.trans e3)
    | false =>
      show tb σ H1 Qh
      exact h1.2 rfl hd H1 σ (v.go e1 b1) Qh fun d z H3 hq e3 => q d z H3 hq (e1.trans e3)
def BlJ (Q : Bool → Prop) : Dt → Prop
  | .bl b => Q b
  | _ => False
theorem rp_bl {K : PySem.W.Frag} {G : Hp} {x : V} {b : Bool} (h : Rp K G x (.bl b)) : x = .bl b := by cases h; rfl
theorem rp_int {K : PySem.W.Frag} {G : Hp} {x : V} {b : Int} (h : Rp K G x (.int b)) : x = .int b := by cases h; rfl
theorem et_test {Q : Bool → Prop} (h : EV c te ρ (BlJ Q)) : EVT c (tTest te) ρ Q := fun hd H σ v Qh q => h hd H σ v _ fun d x H1 h1 e1 b1 r1 => by
  cases d with
  | bl b => exact ⟨b, rp_bl r1, q b H1 h1 e1 b1⟩
  | _ => exact h1.elim
theorem et_B {Q : Bool → Prop} (h : EV c te ρ (BlJ Q)) : EVT c (tB te) ρ Q := fun hd H σ v Qh q => h hd H σ v _ fun d x H1 h1 e1 b1 r1 => by
  cases d with
  | bl b => exact ⟨b, rp_bl r1, q b H1 h1 e1 b1⟩
  | _ => exact h1.elim
theorem et_and {Q : Bool → Prop} (h : EVT c t ρ fun a => (a = true → EVT c u ρ Q) ∧ (a = false → Q false)) : EVT c (tAnd t u) ρ Q := fun hd H σ v Qh q => h hd H σ v _ fun b H1 h1 e1 b1 => by
  cases b with
  | true =>
    show u σ H1 Qh
    exact h1.1 rfl hd H1 σ (v.go e1 b1) Qh fun b H2 hq e2 => q b H2 hq (e1.trans e2)
  | false => exact q false H1 (h1.2 rfl) e1 b1
theorem et_or {Q : Bool → Prop} (h : EVT c t ρ fun a => (a = false → EVT c u ρ Q) ∧ (a = true → Q true)) : EVT c (tOr t u) ρ Q := fun hd H σ v Qh q => h hd H σ v _ fun b H1 h1 e1 b1 => by
  cases b with
  | false =>
    show u σ H1 Qh
    exact h1.1 rfl hd H1 σ (v.go e1 b1) Qh fun b H2 hq e2 => q b H2 hq (e1.trans e2)
  | true => exact q true H1 (h1.2 rfl) e1 b1
theorem et_not {Q : Bool → Prop} (h : EVT c t ρ fun a => Q (!a)) : EVT c (tNot t) ρ Q := fun hd H σ v Qh q => h hd H σ v _ fun b H1 h1 e1 b1 => q _ H1 h1 e1 b1
theorem ev_andV (h : EV c ta ρ (BlJ fun a => (a = true → EV c tb ρ Q) ∧ (a = false → Q (.bl false)))) : EV c (tAndV ta tb) ρ Q := fun hd H σ v Qh q => h hd H σ v _ fun d x H1 h1 e1 b1 r1 => by
  cases d with
  | bl b =>
    refine ⟨b, rp_bl r1, ?_⟩
    cases b with
    | true =>
      show tb σ H1 Qh
      exact h1.1 rfl hd H1 σ (v.go e1 b1) Qh fun d z H2 hq e2 => q d z H2 hq (e1.trans e2)
    | false => exact q _ _ H1 (h1.2 rfl) e1 b1 (.bl false)
  | _ => exact h1.elim
theorem ev_orV (h : EV c ta ρ (BlJ fun a => (a = false → EV c tb ρ Q) ∧ (a = true → Q (.bl true)))) : EV c (tOrV ta tb) ρ Q := fun hd H σ v Qh q => h hd H σ v _ fun d x H1 h1 e1 b1 r1 => by
  cases d with
  | bl b =>
    refine ⟨b, rp_bl r1, ?_⟩
    cases b with
    | false =>
      show tb σ H1 Qh
      exact h1.1 rfl hd H1 σ (v.go e1 b1) Qh fun d z H2 hq e2 => q d z H2 hq (e1.trans e2)
    | true => exact q _ _ H1 (h1.2 rfl) e1 b1 (.bl true)
  | _ => exact h1.elim
theorem ev_notV (h : EV c ta ρ (BlJ fun a => Q (.bl (!a)))) : EV c (tNotV ta) ρ Q := fun hd H σ v Qh q => h hd H σ v _ fun d x H1 h1 e1 b1 r1 => by
  cases d with
  | bl b => exact ⟨b, rp_bl r1, q _ _ H1 h1 e1 b1 (.bl _)⟩
  | _ => exact h1.elim
theorem ev_chain {r r' : R2} (h : EV c ta ρ fun d1 => EV c tb ρ fun d2 => R2J c r d1 d2 (BlJ fun k => (k = true → EV c te ρ fun d3 => R2J c r' d2 d3 Q) ∧ (k = false → Q (.bl false)))) : EV c (tChain r r' ta tb te) ρ Q := fun hd H σ v Qh q =>
  h hd H σ v _ fun d1 x H1 h1 e1 b1 r1 => h1 hd H1 σ (v.go e1 b1) _ fun d2 y H2 h2 e2 b2 r2 => by
    refine h2 hd H2 x y (fun a h => e2.dom a (e1.dom a (v.dom a h))) v.muh b2 (r1.mono (e2.sees v.muh)) r2 _ fun d z H3 hq e3 b3 r3 => ?_
    cases d with
    | bl k =>
      refine ⟨k, rp_bl r3, ?_⟩
      have e13 := (e1.trans e2).trans e3
      cases k with
      | true =>
        show te σ H3 _
        exact hq.1 rfl hd H3 σ (v.go e13 b3) _ fun d3 w' H4 h4 e4 b4 r4 => h4 hd H4 y w' (fun a h => e4.dom a (e13.dom a (v.dom a h))) v.muh b4 ((r2.mono (e3.sees v.muh)).mono (e4.sees v.muh)) r4 Qh fun d z H5 hq e5 => q d z H5 hq ((e13.trans e4).trans e5)
      | false => exact q _ _ H3 (hq.2 rfl) e13 b3 (.bl false)
    | _ => exact hq.elim
theorem ea_nil {Q : List Dt → Prop} (k : Q []) : EVA c tNil ρ Q := fun hd H σ v Qh q => q [] [] H k .refl v.inv .nil
theorem ea_cons {Q : List Dt → Prop} {tr : TA} (h : EV c ta ρ fun d => EVA c tr ρ fun ds => Q (d :: ds)) : EVA c (tCons ta tr) ρ Q := fun hd H σ v Qh q =>
  h hd H σ v _ fun d x H1 h1 e1 b1 r1 => h1 hd H1 σ (v.go e1 b1) _ fun ds vs H2 h2 e2 b2 r2 => q (d :: ds) (x :: vs) H2 h2 (e1.trans e2) b2 (.cons (r1.mono (e2.sees v.muh)) r2)
theorem en_lst {Q : List Dt → Prop} {ta : TA} (h : EVA c ta ρ fun ds => ds.length ≤ 100000 ∧ Q ds) : EN c (tLst ta) ρ Q := fun hd H σ v Qh q =>
  h hd H σ v _ fun ds vs H1 h1 e1 b1 r1 => ⟨by rw [r1.length]; exact Evl.sz_of h1.1, fun p hp => q ds p vs (upd H1 p (.lst vs)) h1.2 (e1.trans (.new hp)) (c.keepN (.new hp) hp b1) (e1.fresh hp) upd_same
    (r1.mono (sees_new (.new hp (mu := none0)) (fun _ h => nomatch h) hp))⟩
theorem ev_tup {ta : TA} (h : EVA c ta ρ fun ds => ds.length ≤ 100000 ∧ Q (.tup ds)) : EV c (tTup ta) ρ Q := fun hd H σ v Qh q =>
  h hd H σ v _ fun ds vs H1 h1 e1 b1 r1 => ⟨by rw [r1.length]; exact Evl.sz_of h1.1, fun p hp => by
    have dom1 : ∀ a, hd a = true → H1 a ≠ none := fun a h => e1.dom a (v.dom a h)
    refine q (.tup ds) (.ref p) (upd H1 p (.tup vs)) h1.2 (e1.trans (.new hp)) (c.keep0 (.new hp) b1) (.tup (xs := vs) (.inl (.inl ?_)) (r1.mono ((Ex.new hp (mu := none0)).sees (fun _ h => nomatch h))))
    rw [hm_of (fresh_hd dom1 hp), upd_same]⟩
theorem ev_cb {r : List V → Hp → VK → Prop} {ta : TA} (h : EVA c ta ρ fun ds => RCJ c r ds Q) : EV c (tCB r ta) ρ Q := fun hd H σ v Qh q =>
  h hd H σ v _ fun ds vs H1 h1 e1 b1 r1 => h1 hd H1 vs (fun a h => e1.dom a (v.dom a h)) v.muh b1 r1 Qh fun d z H2 hq e2 => q d z H2 hq (e1.trans e2)
theorem en_cb {r : List V → Hp → VK → Prop} {ta : TA} {Q : List Dt → Prop} (h : EVA c ta ρ fun ds => RCN c r ds Q) : EN c (tCB r ta) ρ Q := fun hd H σ v Qh q =>
  h hd H σ v _ fun ds vs H1 h1 e1 b1 r1 => h1 hd H1 vs (fun a h => e1.dom a (v.dom a h)) v.muh b1 r1 Qh fun ds o vs H2 hq e2 b2 ho => q ds o vs H2 hq (e1.trans e2) b2 (e1.fresh ho)
def SpJ (c : Cn) (sp : Sp) (E : XK) (ds : List Dt) (Q : Dt → Prop) : Prop := RCJ c (fun vs H Qh => sp vs H Qh E) ds Q
def SpN (c : Cn) (sp : Sp) (E : XK) (ds : List Dt) (Q : List Dt → Prop) : Prop := RCN c (fun vs H Qh => sp vs H Qh E) ds Q
theorem ev_call {sp : Sp} {E : XK} {ta : TA} (h : EVA c ta ρ fun ds => SpJ c sp E ds Q) : EV c (tCall sp [] E ta) ρ Q := fun hd H σ v Qh q =>
  h hd H σ v _ fun ds vs H1 h1 e1 b1 r1 => by
    show sp (vs ++ []) H1 Qh E
    rw [List.append_nil]
    exact h1 hd H1 vs (fun a h => e1.dom a (v.dom a h)) v.muh b1 r1 Qh fun d z H2 hq e2 => q d z H2 hq (e1.trans e2)
theorem en_call {sp : Sp} {E : XK} {ta : TA} {Q : List Dt → Prop} (h : EVA c ta ρ fun ds => SpN c sp E ds Q) : EN c (tCall sp [] E ta) ρ Q := fun hd H σ v Qh q =>
  h hd H σ v _ fun ds vs H1 h1 e1 b1 r1 => by
    show sp (vs ++ []) H1 Qh E
    rw [List.append_nil]
    exact h1 hd H1 vs (fun a h => e1.dom a (v.dom a h)) v.muh b1 r1 Qh fun ds o vs H2 hq e2 b2 ho => q ds o vs H2 hq (e1.trans e2) b2 (e1.fresh ho)
theorem eo_none {Q : Option Int → Prop} (k : Q none) : EVO c tNoPart ρ Q := fun hd H σ v Qh q => q none H k .refl v.inv
def IntJ (Q : Int → Prop) : Dt → Prop
  | .int b => Q b
  | _ => False
theorem eo_some {Q : Option Int → Prop} (h : EV c te ρ (IntJ fun i => Q (some i))) : EVO c (tPart te) ρ Q := fun hd H σ v Qh q => h hd H σ v _ fun d x H1 h1 e1 b1 r1 => by
  cases d with
  | int i => exact ⟨i, rp_int r1, q _ H1 h1 e1 b1⟩
  | _ => exact h1.elim
end
end CC
namespace CC
open PySem PySem.Spec PyProof.Rows L2
section
variable {c : Cn} {hid hd hd' : Addr → Bool} {H0 H H' : Hp} {σ : L2.St} {ρ : List Sl}
theorem SlAll.len : ∀ {σ : L2.St} {ρ : List Sl}, SlAll c hd H σ ρ → σ.length = ρ.length
  | _, _, .nil => rfl
  | _, _, .cons _ t => congrArg (· + 1) (SlAll.len t)
theorem SlAll.of_get : ∀ {σ : L2.St} {ρ : List Sl}, σ.length = ρ.length → (∀ (i : Nat) (o : Option V) (s : Sl), σ[i]? = some o → ρ[i]? = some s → SlOk c hd H o s) → SlAll c hd H σ ρ
  | [], [], _, _ => .nil
  | o :: os, s :: ss, hl, h => .cons (h 0 o s rfl rfl) (SlAll.of_get (by simpa using hl) fun i o s h1 h2 => h (i + 1) o s h1 h2)
  | [], _ :: _, hl, _ => by simp at hl
  | _ :: _, [], hl, _ => by simp at hl
theorem set_get {α : Type} {l : List α} {i k : Nat} {x y : α} (h : (l.set i x)[k]? = some y) : (k = i ∧ y = x) ∨ (k ≠ i ∧ l[k]? = some y) := by
  by_cases q : k = i
  · subst q
    by_cases hl : k < l.length
    · rw [List.getElem?_set_self hl] at h
      exact .inl ⟨rfl, (Option.some.inj h).symm⟩
    · rw [List.getElem?_eq_none (by simpa using hl)] at h
      cases h
  · rw [List.getElem?_set_ne (Ne.symm q)] at h
    exact .inr ⟨q, h⟩
theorem ownAt_set {i k : Nat} {o : Addr} {x : Option V} {s : Sl} (h : ownAt (σ.set i x) (ρ.set i s) k o) : (k = i ∧ x = some (.ref o) ∧ owns s = true) ∨ (k ≠ i ∧ ownAt σ ρ k o) := by
  obtain ⟨h1, s', h2, h3⟩ := h
  rcases set_get h1 with ⟨q, e⟩ | ⟨q, e⟩
  · rcases set_get h2 with ⟨_, e2⟩ | ⟨q2, _⟩
    · exact .inl ⟨q, e.symm, by rw [← e2]; exact h3⟩
    · exact absurd q q2
  · rcases set_get h2 with ⟨q2, _⟩ | ⟨_, e2⟩
    · exact absurd q2 q
    · exact .inr ⟨q, e, s', e2, h3⟩
theorem SD.go (s : SD c hid hd H0 H σ ρ) (e : Ex c.mu H H') (b : c.B hd H') : SD c hid hd H0 H' σ ρ := ⟨s.toSV.go e b, s.sub, s.ext.trans e, s.new, s.own, s.ownh⟩
theorem SD.setIm (s : SD c hid hd H0 H σ ρ) {i : Nat} {v : V} {d : Dt} (h : Rp c.K (Hm hd H) v d) : SD c hid hd H0 H (σ.set i (some v)) (ρ.set i (.im d)) :=
  ⟨s.toSV.set i h, s.sub, s.ext, s.new, fun a b o h1 h2 => by
    rcases ownAt_set h1 with ⟨_, _, z⟩ | ⟨_, h1⟩
    · cases z
    · rcases ownAt_set h2 with ⟨_, _, z⟩ | ⟨_, h2⟩
      · cases z
      · exact s.own a b o h1 h2, fun a o h1 => by
    rcases ownAt_set h1 with ⟨_, _, z⟩ | ⟨_, h1⟩
    · cases z
    · exact s.ownh a o h1⟩
theorem ownAt_dom (s : SlAll c hd H σ ρ) {i : Nat} {o : Addr} (h : ownAt σ ρ i o) : hd o = true ∧ c.mu o = false ∧ H o ≠ none := by
  obtain ⟨h1, sl, h2, h3⟩ := h
  obtain ⟨o', h4, h5⟩ := s.get h2
  rw [h1] at h4
  cases h4
  cases sl with
  | ac ds => obtain ⟨a1, a2, vs, a3, _⟩ := h5; exact ⟨a1, a2, by rw [a3]; exact fun z => nomatch z⟩
  | ak ds => obtain ⟨a1, a2, vs, a3, _⟩ := h5; exact ⟨a1, a2, by rw [a3]; exact fun z => nomatch z⟩
  | aT ds => obtain ⟨a1, a2, vs, a3, _⟩ := h5; exact ⟨a1, a2, by rw [a3]; exact fun z => nomatch z⟩
  | _ => cases h3
theorem ownAt_ext (s : SlAll c hd H σ ρ) {i : Nat} {o : Addr} (h : ownAt σ ρ i o) : ∃ v, H o = some v ∧ ext v = false := by
  obtain ⟨h1, sl, h2, h3⟩ := h
  obtain ⟨x, h4, h5⟩ := s.get h2
  rw [h1] at h4
  cases h4
  cases sl with
  | ac ds => obtain ⟨_, _, vs, a3, _⟩ := h5; exact ⟨_, a3, rfl⟩
  | ak ds => obtain ⟨_, _, vs, a3, _⟩ := h5; exact ⟨_, a3, rfl⟩
  | aT ds => obtain ⟨_, _, vs, a3, _⟩ := h5; exact ⟨_, a3, rfl⟩
  | _ => cases h3
theorem SD.setNew (s : SD c hid hd H0 H σ ρ) {o : Addr} (e : Ex c.mu H H') (b : c.B (hide hd o) H') {i : Nat} {sl : Sl} (ho : H o = none) (h1 : H' o ≠ none) (h : SlOk c (hide hd o) H' (some (.ref o)) sl) :
    SD c hid (hide hd o) H0 H' (σ.set i (some (.ref o))) (ρ.set i sl) := by
  have no : ∀ k, ¬ ownAt σ ρ k o := fun k q => (ownAt_dom s.slots q).2.2 ho
  have nh : hid o = false := by
    cases q : hid o with
    | false => rfl
    | true => exact absurd ho (s.dom o (s.sub o q))
  refine ⟨(s.toSV.hide e b ho h1).set i h, fun a z => hide_of (s.sub a z), s.ext.trans e, fun a z hz => ?_, fun a b u z1 z2 => ?_, fun a u z1 => ?_⟩
  · rcases hide_inv z with z | z
    · exact s.new a z hz
    · subst z; exact s.ext.fresh ho
  · rcases ownAt_set z1 with ⟨q1, e1, _⟩ | ⟨q1, z1⟩
    · rcases ownAt_set z2 with ⟨q2, _, _⟩ | ⟨q2, z2⟩
      · rw [q1, q2]
      · cases e1; exact absurd z2 (no b)
    · rcases ownAt_set z2 with ⟨q2, e2, _⟩ | ⟨q2, z2⟩
      · cases e2; exact absurd z1 (no a)
      · exact s.own a b u z1 z2
  · rcases ownAt_set z1 with ⟨_, e1, _⟩ | ⟨_, z1⟩
    · cases e1; exact nh
    · exact s.ownh a u z1
theorem SlOk.ne {o : Option V} {sl : Sl} {p : Addr} {u : HO} (hp : hd p = true) (hn : ∀ q, o = some (.ref q) → owns sl = true → q ≠ p) : SlOk c hd H o sl → SlOk c hd (upd H p u) o sl := by
  intro h
  have eh : Hm hd (upd H p u) = Hm hd H := hm_upd hp
  cases sl with
  | un => unfold SlOk; split <;> trivial
  | im d =>
    cases o with
    | none => exact h.elim
    | some v => show Rp c.K (Hm hd (upd H p u)) v d; rw [eh]; exact h
  | rw v =>
    cases o with
    | none => exact h.elim
    | some v => exact h
  | dl q ds =>
    cases o with
    | none => exact h.elim
    | some v =>
      refine ⟨h.1, ?_⟩
      show Rp c.K (Hm hd (upd H p u)) (.ref q) (.dk ds)
      rw [eh]
      exact h.2
  | iK ds =>
    cases o with
    | none => exact h.elim
    | some v =>
      cases v with
      | ref q =>
        obtain ⟨a1, a2, vs, a3, a4⟩ := h
        exact ⟨a1, a2, vs, by rw [upd_ne (fun z => by subst z; rw [hp] at a1; cases a1)]; exact a3, by rw [eh]; exact a4⟩
      | _ => exact h.elim
  | ac ds =>
    cases o with
    | none => exact h.elim
    | some v =>
      cases v with
      | ref q =>
        obtain ⟨a1, a2, vs, a3, a4⟩ := h
        exact ⟨a1, a2, vs, by rw [upd_ne (hn q rfl rfl)]; exact a3, by rw [eh]; exact a4⟩
      | _ => exact h.elim
  | ak ds =>
    cases o with
    | none => exact h.elim
    | some v =>
      cases v with
      | ref q =>
        obtain ⟨a1, a2, vs, a3, a4⟩ := h
        exact ⟨a1, a2, vs, by rw [upd_ne (hn q rfl rfl)]; exact a3, by rw [eh]; exact a4⟩
      | _ => exact h.elim
  | aT ds =>
    cases o with
    | none => exact h.elim
    | some v =>
      cases v with
      | ref q =>
        obtain ⟨a1, a2, vs, a3, a4⟩ := h
        exact ⟨a1, a2, vs, by rw [upd_ne (hn q rfl rfl)]; exact a3, by rw [eh]; exact a4⟩
      | _ => exact h.elim
theorem SD.mutOwn (s : SD c hid hd H0 H σ ρ) {i : Nat} {o : Addr} {sl : Sl} {u : HO} (ho : ownAt σ ρ i o) (hs : owns sl = true) (h : SlOk c hd (upd H o u) (some (.ref o)) sl) : SD c hid hd H0 (upd H o u) σ (ρ.set i sl) := by
  obtain ⟨hh, hmu, hdom⟩ := ownAt_dom s.slots ho
  have nh := s.ownh i o ho
  have key : ∀ k p, ownAt σ (ρ.set i sl) k p → ownAt σ ρ k p := fun k p q => by
    obtain ⟨q1, s', q2, q3⟩ := q
    rcases set_get q2 with ⟨rfl, _⟩ | ⟨z, e⟩
    · obtain ⟨w1, s2, w2, w3⟩ := ho
      exact ⟨q1, s2, w2, w3⟩
    · exact ⟨q1, s', e, q3⟩
  refine ⟨⟨fun a q => upd_dom (s.dom a q), s.muh, c.put hh hmu (ownAt_ext s.slots ho).choose_spec.1 (ownAt_ext s.slots ho).choose_spec.2 s.inv, SlAll.of_get ?_ fun k x s' h1 h2 => ?_⟩, s.sub, s.ext.mut (.inl (s.new o hh nh)), s.new, fun a b p z1 z2 => s.own a b p (key _ _ z1) (key _ _ z2), fun a p z1 => s.ownh a p (key _ _ z1)⟩
  · rw [List.length_set]; exact s.slots.len
  · rcases set_get h2 with ⟨rfl, e⟩ | ⟨q, e⟩
    · rw [e]
      obtain ⟨w1, _⟩ := ho
      rw [w1] at h1
      cases h1
      exact h
    · obtain ⟨x', g1, g2⟩ := s.slots.get e
      rw [h1] at g1
      cases g1
      refine SlOk.ne hh (fun p ep ow z => ?_) g2
      subst z
      subst ep
      exact q (s.own k i p ⟨h1, s', e, ow⟩ ho)
theorem SD.share (s : SD c hid hd H0 H σ ρ) {i : Nat} {sl sl' : Sl} (hi : ρ[i]? = some sl) (hs : owns sl = true) (no : owns sl' = false)
    (h : ∀ (o : Addr) (hd' : Addr → Bool), (∀ a, hd' a = true → hd a = true) → hd' o = false → SlOk c hd H (some (.ref o)) sl → SlOk c hd' H (some (.ref o)) sl') : ∃ hd', SD c hid hd' H0 H σ (ρ.set i sl') := by
  obtain ⟨x, g1, g2⟩ := s.slots.get hi
  obtain ⟨o, rfl⟩ : ∃ o, x = some (.ref o) := by
    cases x with
    | none => cases sl <;> first | exact g2.elim | cases hs
    | some v => cases v <;> cases sl <;> first | exact ⟨_, rfl⟩ | exact g2.elim | cases hs
  have ho : ownAt σ ρ i o := ⟨g1, sl, hi, hs⟩
  obtain ⟨hh, hmu, hdom⟩ := ownAt_dom s.slots ho
  have nh := s.ownh i o ho
  let hd' : Addr → Bool := fun a => hd a && !decide (a = o)
  have le : ∀ a, hd' a = true → hd a = true := fun a q => (Bool.and_eq_true_iff.mp q).1
  have ho' : hd' o = false := by show (hd o && !decide (o = o)) = false; rw [decide_eq_true rfl]; simp
  have ne : ∀ a, a ≠ o → hd a = true → hd' a = true := fun a q z => by show (hd a && !decide (a = o)) = true; rw [z, decide_eq_false q]; rfl
  have key : ∀ k p, ownAt σ (ρ.set i sl') k p → k ≠ i ∧ ownAt σ ρ k p := fun k p q => by
    obtain ⟨q1, s', q2, q3⟩ := q
    rcases set_get q2 with ⟨rfl, e⟩ | ⟨z, e⟩
    · rw [e, no] at q3; cases q3
    · exact ⟨z, q1, s', e, q3⟩
  refine ⟨hd', ⟨fun a q => s.dom a (le a q), fun a q => ne a (fun z => by subst z; rw [q] at hmu; cases hmu) (s.muh a q), (c.unhide le s.inv), SlAll.of_get ?_ fun k x s' h1 h2 => ?_⟩, fun a q => ne a (fun z => by subst z; rw [q] at nh; cases nh) (s.sub a q), s.ext, fun a q z => s.new a (le a q) z, fun a b p z1 z2 => s.own a b p (key _ _ z1).2 (key _ _ z2).2, fun a p z1 => s.ownh a p (key _ _ z1).2⟩
  · rw [List.length_set]; exact s.slots.len
  · have sees : Sees (Hm hd H) (Hm hd' H) := sees_hide le
    rcases set_get h2 with ⟨rfl, e⟩ | ⟨q, e⟩
    · rw [e]
      rw [g1] at h1
      cases h1
      exact h o hd' le ho' g2
    · obtain ⟨x', g3, g4⟩ := s.slots.get e
      rw [h1] at g3
      cases g3
      cases s' with
      | un => unfold SlOk; split <;> trivial
      | im d =>
        cases x with
        | none => exact g4.elim
        | some v => exact Rp.mono sees g4
      | rw v =>
        cases x with
        | none => exact g4.elim
        | some v => exact g4
      | dl q ds =>
        cases x with
        | none => exact g4.elim
        | some v => exact ⟨g4.1, Rp.mono sees g4.2⟩
      | iK ds =>
        cases x with
        | none => exact g4.elim
        | some v =>
          cases v with
          | ref p =>
            obtain ⟨a1, a2, vs, a3, a4⟩ := g4
            refine ⟨?_, a2, vs, a3, RpK.mono sees a4⟩
            cases q2 : hd' p with
            | false => rfl
            | true => rw [le p q2] at a1; cases a1
          | _ => exact g4.elim
      | ac ds =>
        cases x with
        | none => exact g4.elim
        | some v =>
          cases v with
          | ref p =>
            obtain ⟨a1, a2, vs, a3, a4⟩ := g4
            exact ⟨ne p (fun z => by subst z; exact q (s.own k i p ⟨h1, _, e, rfl⟩ ho)) a1, a2, vs, a3, RpAll.mono sees a4⟩
          | _ => exact g4.elim
      | ak ds =>
        cases x with
        | none => exact g4.elim
        | some v =>
          cases v with
          | ref p =>
            obtain ⟨a1, a2, vs, a3, a4⟩ := g4
            exact ⟨ne p (fun z => by subst z; exact q (s.own k i p ⟨h1, _, e, rfl⟩ ho)) a1, a2, vs, a3, RpK.mono sees a4⟩
          | _ => exact g4.elim
      | aT ds =>
        cases x with
        | none => exact g4.elim
        | some v =>
          cases v with
          | ref p =>
            obtain ⟨a1, a2, vs, a3, a4⟩ := g4
            exact ⟨ne p (fun z => by subst z; exact q (s.own k i p ⟨h1, _, e, rfl⟩ ho)) a1, a2, vs, a3, RpT.mono sees a4⟩
          | _ => exact g4.elim
inductive Le : List Sl → List Sl → Prop
  | nil : Le [] []
  | un {s : Sl} {a b : List Sl} : Le a b → Le (.un :: a) (s :: b)
  | same {s : Sl} {a b : List Sl} : Le a b → Le (s :: a) (s :: b)
theorem Le.get : ∀ {a b : List Sl}, Le a b → ∀ {i : Nat} {s : Sl}, a[i]? = some s → s = .un ∨ b[i]? = some s
  | _, _, .nil, _, _, h => .inr h
  | _, _, .un _, 0, _, h => .inl (Option.some.inj h).symm
  | _, _, .same _, 0, _, h => .inr h
  | _, _, .un t, i + 1, _, h => Le.get t (i := i) h
  | _, _, .same t, i + 1, _, h => Le.get t (i := i) h
theorem Le.len : ∀ {a b : List Sl}, Le a b → a.length = b.length
  | _, _, .nil => rfl
  | _, _, .un t => congrArg (· + 1) (Le.len t)
  | _, _, .same t => congrArg (· + 1) (Le.len t)
theorem Le.refl : ∀ {a : List Sl}, Le a a
  | [] => .nil
  | _ :: _ => .same Le.refl
theorem SD.weak {ρ' : List Sl} (s : SD c hid hd H0 H σ ρ) (l : Le ρ' ρ) : SD c hid hd H0 H σ ρ' := by
  have key : ∀ k p, ownAt σ ρ' k p → ownAt σ ρ k p := fun k p q => by
    obtain ⟨q1, s', q2, q3⟩ := q
    rcases l.get q2 with rfl | e
    · cases q3
    · exact ⟨q1, s', e, q3⟩
  refine ⟨⟨s.dom, s.muh, s.inv, SlAll.of_get (by rw [l.len]; exact s.slots.len) fun k x s' h1 h2 => ?_⟩, s.sub, s.ext, s.new, fun a b p z1 z2 => s.own a b p (key _ _ z1) (key _ _ z2), fun a p z1 => s.ownh a p (key _ _ z1)⟩
  rcases l.get h2 with rfl | e
  · unfold SlOk; split <;> trivial
  · obtain ⟨x', g1, g2⟩ := s.slots.get e
    rw [h1] at g1
    cases g1
    exact g2
end
end CC
namespace CC
open PySem PySem.Spec PyProof.Rows L2
def NJ (c : Cn) (hid : Addr → Bool) (H0 : Hp) (N : L2.St → Hp → Prop) (ρ : List Sl) : Prop := ∀ hd H σ, SD c hid hd H0 H σ ρ → N σ H
def Nx (c : Cn) (hid : Addr → Bool) (H0 : Hp) (I : List Sl → Prop) : L2.St → Hp → Prop := fun σ H => ∃ ρ hd, I ρ ∧ SD c hid hd H0 H σ ρ
def RJ (c : Cn) (hid : Addr → Bool) (H0 : Hp) (R : VK) (d : Dt) : Prop := ∀ v H', Ex c.mu H0 H' → c.B hid H' → Rp c.K (Hm hid H') v d → R v H'
def RNJ (c : Cn) (hid : Addr → Bool) (H0 : Hp) (R : VK) (ds : List Dt) : Prop := ∀ o vs H', Ex c.mu H0 H' → c.B (hide hid o) H' → H0 o = none → H' o = some (.lst vs) → RpAll c.K (Hm (hide hid o) H') vs ds → R (.ref o) H'
section
variable {c : Cn} {hid : Addr → Bool} {H0 H1 : Hp} {ρ : List Sl} {ta tb te : TE} {t u : TT} {D : Ends} {ts tz : TS} {N : L2.St → Hp → Prop} {g : TG}
theorem SD.base {hd : Addr → Bool} {H : Hp} {σ : L2.St} (e : Ex c.mu H0 H1) (s : SD c hid hd H1 H σ ρ) : SD c hid hd H0 H σ ρ := ⟨s.toSV, s.sub, e.trans s.ext, fun a h1 h2 => e.fresh (s.new a h1 h2), s.own, s.ownh⟩
theorem NJ.base (e : Ex c.mu H0 H1) (h : NJ c hid H0 N ρ) : NJ c hid H1 N ρ := fun hd H σ s => h hd H σ (s.base e)
theorem RJ.base {R : VK} {d : Dt} (e : Ex c.mu H0 H1) (h : RJ c hid H0 R d) : RJ c hid H1 R d := fun v H' e1 => h v H' (e.trans e1)
theorem RNJ.base {R : VK} {d : List Dt} (e : Ex c.mu H0 H1) (h : RNJ c hid H0 R d) : RNJ c hid H1 R d := fun o vs H' e1 b ho => h o vs H' (e.trans e1) b (e.fresh ho)
theorem RJ.rn {R : VK} {ds : List Dt} (dom : ∀ a, hid a = true → H0 a ≠ none) (h : RJ c hid H0 R (.lst ds)) : RNJ c hid H0 R ds := fun o vs H' e b ho h1 h2 =>
  h (.ref o) H' e (c.unhide (fun _ h => hide_of h) b) (.lst (by rw [hm_of (fresh_hd dom ho)]; exact h1) (h2.mono (sees_hide fun _ h => hide_of h)))
theorem nj_asg {i : Nat} (h : EV c te ρ fun d => NJ c hid H0 D.nx (ρ.set i (.im d))) : NJ c hid H0 (tAsg te (gName i) D) ρ := fun hd H σ s =>
  h hd H σ s.toSV _ fun d v H' hq e b r => hq hd H' _ ((s.go e b).setIm r)
theorem nj_asgN {i : Nat} (h : EN c te ρ fun ds => NJ c hid H0 D.nx (ρ.set i (.ac ds))) : NJ c hid H0 (tAsg te (gName i) D) ρ := fun hd H σ s =>
  h hd H σ s.toSV _ fun ds o vs H' hq e b ho h1 r => hq (hide hd o) H' _ (s.setNew e b ho (by rw [h1]; exact fun z => nomatch z) ⟨hide_self, by
    cases q : c.mu o with
    | false => rfl
    | true => exact absurd ho (s.dom o (s.muh o q)), vs, h1, r⟩)
def ETJ (c : Cn) (hid : Addr → Bool) (H0 : Hp) (t : TT) (ρ : List Sl) (Q : Bool → Prop) : Prop := ∀ hd H σ, SD c hid hd H0 H σ ρ → ∀ Qh : Bool → Hp → Prop, (∀ b H', Q b → Ex c.mu H H' → c.B hd H' → Qh b H') → t σ H Qh
theorem etj {Q : Bool → Prop} (h : EVT c t ρ Q) : ETJ c hid H0 t ρ Q := fun hd H σ s => h hd H σ s.toSV
def Flat (c : Cn) : Prop := ∀ hd hd' H, c.B hd H → c.B hd' H
theorem etj_peek {Q : Bool → Prop} {i : Nat} {ds : List Dt} (hi : ρ[i]? = some (.ac ds)) (h : ETJ c hid H0 t (ρ.set i (.im (.lst ds))) Q) (fl : Flat c := by exact fun _ _ _ h => h) : ETJ c hid H0 t ρ Q := fun hd H σ s => by
  obtain ⟨hd', s'⟩ := s.share hi rfl (sl' := .im (.lst ds)) rfl fun o hd' le ho g => by
    obtain ⟨a1, a2, vs, a3, a4⟩ := g
    exact .lst (by rw [hm_of ho]; exact a3) (a4.mono (sees_hide le))
  exact fun Qh q => h hd' H σ s' Qh fun b H' hq e bb => q b H' hq e (fl hd' hd H' bb)
theorem nj_if (h : ETJ c hid H0 t ρ fun b => (b = true → NJ c hid H0 (ts D) ρ) ∧ (b = false → NJ c hid H0 (tz D) ρ)) : NJ c hid H0 (tIfS t ts tz D) ρ := fun hd H σ s =>
  h hd H σ s _ fun b H' hq e hb => by
    cases b with
    | true => show ts D σ H'; exact hq.1 rfl hd H' σ (s.go e hb)
    | false => show tz D σ H'; exact hq.2 rfl hd H' σ (s.go e hb)
theorem nj_ret (h : EV c te ρ fun d => RJ c hid H0 D.rt d) : NJ c hid H0 (tRet te D) ρ := fun hd H σ s =>
  h hd H σ s.toSV _ fun d v H' hq e b r => hq v H' (s.ext.trans e) (c.unhide s.sub b) (r.mono (sees_hide s.sub))
theorem nj_retN (h : EN c te ρ fun ds => RNJ c hid H0 D.rt ds) : NJ c hid H0 (tRet te D) ρ := fun hd H σ s =>
  h hd H σ s.toSV _ fun ds o vs H' hq e b ho h1 r => hq o vs H' (s.ext.trans e) (c.unhide (fun a h => by
    rcases hide_inv h with h | h
    · exact hide_of (s.sub a h)
    · subst h; exact hide_self) b) (s.ext.fresh ho) h1 (r.mono (sees_hide fun a h => by
    rcases hide_inv h with h | h
    · exact hide_of (s.sub a h)
    · subst h; exact hide_self))
theorem nj_retAc {i : Nat} {ds : List Dt} (hi : ρ[i]? = some (.ac ds)) (h : RNJ c hid H0 D.rt ds) : NJ c hid H0 (tRet (tVar i) D) ρ := fun hd H σ s => by
  obtain ⟨x, g1, g2⟩ := s.slots.get hi
  cases x with
  | none => exact g2.elim
  | some v =>
    cases v with
    | ref o =>
      obtain ⟨a1, a2, vs, a3, a4⟩ := g2
      have nh := s.ownh i o ⟨g1, _, hi, rfl⟩
      exact ⟨.ref o, g1, h o vs H s.ext (c.unhide (fun a h => by
        rcases hide_inv h with h | h
        · exact s.sub a h
        · subst h; exact a1) s.inv) (s.new o a1 nh) a3 (a4.mono (sees_hide fun a h => by
        rcases hide_inv h with h | h
        · exact s.sub a h
        · subst h; exact a1))⟩
    | _ => exact g2.elim
theorem nj_share {i : Nat} {ds : List Dt} (hi : ρ[i]? = some (.ac ds)) (h : NJ c hid H0 N (ρ.set i (.im (.lst ds)))) : NJ c hid H0 N ρ := fun hd H σ s => by
  obtain ⟨hd', s'⟩ := s.share hi rfl (sl' := .im (.lst ds)) rfl fun o hd' le ho g => by
    obtain ⟨a1, a2, vs, a3, a4⟩ := g
    exact .lst (by rw [hm_of ho]; exact a3) (a4.mono (sees_hide le))
  exact h hd' H σ s'
theorem nj_weak {ρ' : List Sl} (l : Le ρ' ρ) (h : NJ c hid H0 N ρ') : NJ c hid H0 N ρ := fun hd H σ s => h hd H σ (s.weak l)
theorem nj_nx {I : List Sl → Prop} (h : I ρ) : NJ c hid H0 (Nx c hid H0 I) ρ := fun hd H σ s => ⟨ρ, hd, h, s⟩
theorem nj_nxw {I : List Sl → Prop} (ρ' : List Sl) (h : I ρ') (l : Le ρ' ρ) : NJ c hid H0 (Nx c hid H0 I) ρ := nj_weak l (nj_nx h)
theorem own_get {hd : Addr → Bool} {H : Hp} {σ : L2.St} (s : SlAll c hd H σ ρ) {i : Nat} {ds : List Dt} (hi : ρ[i]? = some (.ac ds)) : ∃ o vs, σ[i]? = some (some (.ref o)) ∧ hd o = true ∧ c.mu o = false ∧ H o = some (.lst vs) ∧ RpAll c.K (Hm hd H) vs ds := by
  obtain ⟨x, g1, g2⟩ := s.get hi
  cases x with
  | none => exact g2.elim
  | some v =>
    cases v with
    | ref o =>
      obtain ⟨a1, a2, vs, a3, a4⟩ := g2
      exact ⟨o, vs, g1, a1, a2, a3, a4⟩
    | _ => exact g2.elim
theorem nj_app {i : Nat} {ds : List Dt} {K : PySem.W.Frag} (hi : ρ[i]? = some (.ac ds)) (hz : ds.length < 100000) (h : EV c te ρ fun d => NJ c hid H0 D.nx (ρ.set i (.ac (ds ++ [d])))) : NJ c hid H0 (tDrop (tBM K "list" rAppend (tVar i) (tCons te tNil)) D) ρ := fun hd H σ s => by
  obtain ⟨o, vs, g1, a1, a2, a3, a4⟩ := own_get s.slots hi
  refine ⟨.ref o, g1, .inl ⟨rfl, vs, .inl (.inl a3)⟩, h hd H σ s.toSV _ fun d v H' hq e b r => ?_⟩
  have s' := s.go e b
  have a3' : H' o = some (.lst vs) := e.keep o _ a2 a3
  refine ⟨o, vs, v, rfl, rfl, a3', Evl.sz_lt (by rw [a4.length]; exact hz), hq hd _ σ (s'.mutOwn ⟨g1, _, hi, rfl⟩ rfl ⟨a1, a2, vs ++ [v], upd_same, ?_⟩)⟩
  rw [hm_upd a1]
  exact (a4.mono (e.sees s.muh)).append (.cons r .nil)
theorem nj_setL {i : Nat} {ds : List Dt} (hi : ρ[i]? = some (.ac ds)) (h : EV c te ρ fun d => EV c tb ρ (IntJ fun k => ∃ j, ixN ds.length k = some j ∧ NJ c hid H0 D.nx (ρ.set i (.ac (ds.set j d))))) : NJ c hid H0 (tAsg te (gSub (tVar i) tb rSetL) D) ρ := fun hd H σ s => by
  obtain ⟨o, vs, g1, a1, a2, a3, a4⟩ := own_get s.slots hi
  refine h hd H σ s.toSV _ fun d v H' hq e b r => ⟨.ref o, g1, hq hd H' σ (s.go e b).toSV _ fun d2 k H2 hk e2 b2 r2 => ?_⟩
  cases d2 with
  | int k' =>
    obtain ⟨j, hj, hq⟩ := hk
    have e12 := e.trans e2
    have s' := s.go e12 b2
    have a3' : H2 o = some (.lst vs) := e12.keep o _ a2 a3
    refine ⟨o, vs, k', j, rfl, rp_int r2, a3', by rw [a4.length]; exact hj, hq hd _ σ (s'.mutOwn ⟨g1, _, hi, rfl⟩ rfl ⟨a1, a2, vs.set j v, upd_same, ?_⟩)⟩
    rw [hm_upd a1]
    exact (a4.mono (e12.sees s.muh)).set (r.mono (e2.sees s.muh)) j
  | _ => exact hk.elim
theorem ev_ixAc {i : Nat} {ds : List Dt} {r : R2} {Q : Dt → Prop} (hr : ∀ p xs k v H (Qh : VK), H p = some (.lst xs) → atI xs k = some v → Qh v H → r (.ref p) (.int k) H Qh) (hi : ρ[i]? = some (.ac ds)) (h : EV c tb ρ (IntJ fun k => ∃ d, atI ds k = some d ∧ Q d)) : EV c (tOp r (tVar i) tb) ρ Q := fun hd H σ s Qh q => by
  obtain ⟨o, vs, g1, a1, a2, a3, a4⟩ := own_get s.slots hi
  refine ⟨.ref o, g1, h hd H σ s _ fun d2 k H2 hk e2 b2 r2 => ?_⟩
  cases d2 with
  | int k' =>
    obtain ⟨d, hd1, hq⟩ := hk
    rw [rp_int r2]
    unfold atI at hd1
    cases hx : ixN ds.length k' with
    | none => rw [hx] at hd1; cases hd1
    | some j =>
      rw [hx] at hd1
      obtain ⟨v, hv, rv⟩ := (a4.mono (e2.sees s.muh)).get (show ds[j]? = some d from hd1)
      refine hr o vs k' v H2 Qh (e2.keep o _ a2 a3) ?_ (q d v H2 hq e2 b2 rv)
      unfold atI
      rw [a4.length, hx]
      exact hv
  | _ => exact hk.elim
def scalar : Dt → Bool
  | .non => true
  | .bl _ => true
  | .int _ => true
  | .str _ => true
  | _ => false
theorem rp_scalar {K : PySem.W.Frag} {G G' : Hp} {v : V} {d : Dt} (h : scalar d = true) (r : Rp K G v d) : Rp K G' v d := by
  cases r with
  | non => exact .non
  | bl b => exact .bl b
  | int b => exact .int b
  | str b => exact .str b
  | _ => cases h
def Sub (G H : Hp) : Prop := ∀ a o, G a = some o → H a = some o
structure ItOk (K : PySem.W.Frag) (G : Hp) (J : It) (its : List Dt) : Prop where
  go : ∀ i H, Sub G H → i < its.length → J.go i H
  yl : ∀ i H x H' d, Sub G H → its[i]? = some d → J.yld i H x H' → Ex none0 H H' ∧ ∀ hd, (∀ a, hd a = true → H a ≠ none) → Sub G (Hm hd H) → Rp K (Hm hd H') x d
  st : ∀ i H, Sub G H → i = its.length → J.stop i H
def IJ (c : Cn) (wi : TI) (ρ : List Sl) (Q : List Dt → Prop) : Prop := ∀ hd H σ, SV c hd H σ ρ → ∀ R : It → Hp → Prop, (∀ its J H', Q its → Ex c.mu H H' → c.B hd H' → ItOk c.K (Hm hd H') J its → R J H') → wi σ H R
def TGJ (c : Cn) (hid : Addr → Bool) (H0 : Hp) (g : TG) (d : Dt) (ρ : List Sl) (N : L2.St → Hp → Prop) : Prop := ∀ hd H σ v, SD c hid hd H0 H σ ρ → Rp c.K (Hm hd H) v d → g v σ H N
theorem tg_name {j : Nat} {d : Dt} (h : NJ c hid H0 N (ρ.set j (.im d))) : TGJ c hid H0 (gName j) d ρ N := fun hd H σ v s r => h hd H _ (s.setIm r)
def TGsJ (c : Cn) (hid : Addr → Bool) (H0 : Hp) (g : TGs) (ds : List Dt) (ρ : List Sl) (N : L2.St → Hp → Prop) : Prop := ∀ hd H σ vs, SD c hid hd H0 H σ ρ → RpAll c.K (Hm hd H) vs ds → g vs σ H N
theorem tgs_nil (h : NJ c hid H0 N ρ) : TGsJ c hid H0 gNil [] ρ N := fun hd H σ vs s r => by
  cases r
  exact ⟨rfl, h hd H σ s⟩
theorem tgs_name {j : Nat} {d : Dt} {ds : List Dt} {gs : TGs} (h : TGsJ c hid H0 gs ds (ρ.set j (.im d)) N) : TGsJ c hid H0 (gCons (gName j) gs) (d :: ds) ρ N := fun hd H σ vs s r => by
  cases r with
  | cons r1 r2 => exact ⟨_, _, rfl, h hd H _ _ (s.setIm r1) r2⟩
theorem sqt_hm {K : PySem.W.Frag} {hd : Addr → Bool} {H : Hp} {a : Addr} {xs : List V} (h : SqT K (Hm hd H) a xs) : SqT K H a xs := sees_t sees_le h
theorem tg_tup {n : Nat} {gs : TGs} {ds : List Dt} (hn : ds.length = n) (h : TGsJ c hid H0 gs ds ρ N) : TGJ c hid H0 (gTup c.K n gs) (.tup ds) ρ N := fun hd H σ v s r => by
  cases r with
  | tup r1 r2 => exact ⟨_, _, rfl, sqt_hm r1, by rw [r2.length]; exact hn, h hd H σ _ s r2⟩
def Hj (H0 : Hp) (hd : Addr → Bool) (H : Hp) : Hp := fun a => if hd a = true then H0 a else H a
theorem hj_ex {hd : Addr → Bool} {H : Hp} {σ : L2.St} (s : SD c hid hd H0 H σ ρ) : Ex c.mu H0 (Hj H0 hd H) := ⟨fun a o hm h => by
  unfold Hj
  split
  · exact h
  · exact s.ext.keep a o hm h, fun a h => by
  unfold Hj
  split
  · exact h
  · exact s.ext.dom a h⟩
theorem hj_sd {hd : Addr → Bool} {H : Hp} {σ : L2.St} (s : SD c hid hd H0 H σ ρ) : SD c hid hd (Hj H0 hd H) H σ ρ := ⟨s.toSV, s.sub, ⟨fun a o hm h => by
  unfold Hj at h
  split at h
  · exact s.ext.keep a o hm h
  · exact h, fun a h => by
  unfold Hj at h
  split at h
  · exact s.ext.dom a h
  · exact h⟩, fun a h1 h2 => by
  unfold Hj
  rw [if_pos h1]
  exact s.new a h1 h2, s.own, s.ownh⟩
theorem nj_for {wi : TI} (h : IJ c wi ρ fun its => ∃ I : Nat → List Sl → Prop, I 0 ρ ∧ (∀ H1, Ex c.mu H0 H1 → ∀ i d ρ', its[i]? = some d → I i ρ' → TGJ c hid H1 g d ρ' (ts { D with nx := Nx c hid H1 (I (i + 1)), ct := Nx c hid H1 (I (i + 1)), bk := D.nx })) ∧
    ∀ ρ', I its.length ρ' → NJ c hid H0 D.nx ρ') : NJ c hid H0 (tFor wi g ts D) ρ := fun hd H σ s => by
  refine h hd H σ s.toSV _ fun its J H' hq e b ok => ?_
  obtain ⟨I, i0, hstep, hend⟩ := hq
  have s' := s.go e b
  have eB := hj_ex s'
  have sB := hj_sd s'
  have vis : ∀ {hd2 H2 σ2 ρ2}, SD c hid hd2 (Hj H0 hd H') H2 σ2 ρ2 → Sub (Hm hd H') (Hm hd2 H2) := fun {hd2 H2 σ2 ρ2} s2 a o ha => by
    have h1 := hm_not ha
    have h2 := hm_le ha
    have hm : c.mu a = false := by
      cases q : c.mu a with
      | false => rfl
      | true => rw [s.muh a q] at h1; cases h1
    have hb : Hj H0 hd H' a = some o := by unfold Hj; rw [if_neg (by rw [h1]; exact Bool.false_ne_true)]; exact h2
    rw [hm_of]
    · exact s2.ext.keep a o hm hb
    · cases q : hd2 a with
      | false => rfl
      | true =>
        cases q2 : hid a with
        | true => rw [s.sub a q2] at h1; cases h1
        | false =>
          have := s2.new a q q2
          rw [hb] at this; cases this
  have vis' : ∀ {hd2 H2 σ2 ρ2}, SD c hid hd2 (Hj H0 hd H') H2 σ2 ρ2 → Sub (Hm hd H') H2 := fun s2 a o ha => hm_le (vis s2 a o ha)
  refine ⟨fun i m σ2 H2 => m = its.length - i ∧ i ≤ its.length ∧ ∃ ρ2 hd2, I i ρ2 ∧ SD c hid hd2 (Hj H0 hd H') H2 σ2 ρ2, ⟨its.length, rfl, Nat.zero_le _, ρ, hd, i0, sB⟩, ?_⟩
  rintro i m σ2 H2 ⟨rfl, hi, ρ2, hd2, hI, s2⟩
  by_cases hlt : i < its.length
  · refine .inr ⟨ok.go i H2 (vis' s2) hlt, Nx c hid (Hj H0 hd H') (I (i + 1)), fun σ' H3 hN => ?_, fun x H3 hy => ?_⟩
    · obtain ⟨ρ3, hd3, hI3, s3⟩ := hN
      exact ⟨its.length - (i + 1), by omega, rfl, hlt, ρ3, hd3, hI3, s3⟩
    · obtain ⟨e3, r3⟩ := ok.yl i H2 x H3 its[i] (vis' s2) (List.getElem?_eq_getElem hlt) hy
      exact hstep (Hj H0 hd H') eB i its[i] ρ2 (List.getElem?_eq_getElem hlt) hI hd2 H3 σ2 x (s2.go e3.up (c.keep0 e3 s2.inv)) (r3 hd2 s2.dom (vis s2))
  · have e : i = its.length := by omega
    exact .inl ⟨ok.st i H2 (vis' s2) e, hend ρ2 (by rw [← e]; exact hI) hd2 H2 σ2 (s2.base eB)⟩
theorem nj_while (I : Nat → List Sl → Prop) (m0 : Nat) (h0 : I m0 ρ)
    (hs : ∀ m ρ', I m ρ' → ETJ c hid H0 t ρ' fun b => (b = true → NJ c hid H0 (ts { D with nx := Nx c hid H0 (fun ρ'' => ∃ m', m' < m ∧ I m' ρ''), ct := Nx c hid H0 (fun ρ'' => ∃ m', m' < m ∧ I m' ρ''), bk := D.nx }) ρ') ∧ (b = false → NJ c hid H0 D.nx ρ')) : NJ c hid H0 (tWhile t ts D) ρ := fun hd H σ s => by
  refine ⟨fun m σ2 H2 => ∃ ρ2 hd2, I m ρ2 ∧ SD c hid hd2 H0 H2 σ2 ρ2, ⟨m0, ρ, hd, h0, s⟩, ?_⟩
  rintro m σ2 H2 ⟨ρ2, hd2, hI, s2⟩
  refine hs m ρ2 hI hd2 H2 σ2 s2 _ fun b H3 hq e hb => ?_
  cases b with
  | true =>
    rw [if_pos rfl]
    exact ⟨Nx c hid H0 (fun ρ'' => ∃ m', m' < m ∧ I m' ρ''), fun σ' H' hN => by
      obtain ⟨ρ3, hd3, ⟨m', hm, hI3⟩, s3⟩ := hN
      exact ⟨m', hm, ρ3, hd3, hI3, s3⟩, hq.1 rfl hd2 H3 σ2 (s2.go e hb)⟩
  | false =>
    rw [if_neg Bool.false_ne_true]
    exact hq.2 rfl hd2 H3 σ2 (s2.go e hb)
end
end CC
namespace CC
open PySem PySem.Spec PyProof.Rows L2
def LstJ (Q : List Dt → Prop) : Dt → Prop
  | .lst b => Q b
  | _ => False
def TupJ (Q : List Dt → Prop) : Dt → Prop
  | .tup b => Q b
  | _ => False
def rangeD (lo : Int) (n : Nat) : List Dt := (List.range n).map fun i => Dt.int (lo + (i : Nat))
def rangeC (lo c : Int) (n : Nat) : List Dt := (List.range n).map fun i => Dt.int (lo + (i : Nat) * c)
def enumD (es : List Dt) : List Dt := es.mapIdx fun i d => Dt.tup [.int (i : Nat), d]
section
variable {c : Cn} {ρ : List Sl} {ta tb te tl : TE} {t u : TT} {Q : List Dt → Prop}
theorem Sub.sees {G G' : Hp} (h : Sub G G') : Sees G G' := fun a o e => ⟨o, h a o e, .rfl⟩
theorem ij_list (h : EV c tl ρ (LstJ Q)) : IJ c (iList c.K tl) ρ Q := fun hd H σ v R q => h hd H σ v _ fun d x H1 h1 e1 b1 r1 => by
  cases d with
  | lst ds =>
    cases r1 with
    | lst ha r =>
      rename_i a xs
      have hl := r.length
      refine ⟨a, rfl, ⟨xs, .inl (.inl (hm_le ha))⟩, q ds (Itl c.K a) H1 h1 e1 b1 ⟨fun i H s hi => ?_, fun i H x H' d s hi y => ?_, fun i H s hi => ?_⟩⟩
      · exact ⟨xs, xs[i]'(by omega), .inl (.inl (s a _ ha)), List.getElem?_eq_getElem (by omega)⟩
      · obtain ⟨rfl, y⟩ := y
        have hx := y xs (.inl (.inl (s a _ ha)))
        obtain ⟨d', hd', rd⟩ := r.getV hx
        rw [hi] at hd'
        cases hd'
        exact ⟨.refl, fun hd2 dom sb => rd.mono sb.sees⟩
      · exact ⟨xs, .inl (.inl (s a _ ha)), by omega⟩
  | _ => exact h1.elim
theorem ij_tup (h : EV c tl ρ (TupJ Q)) : IJ c (iTup c.K tl) ρ Q := fun hd H σ v R q => h hd H σ v _ fun d x H1 h1 e1 b1 r1 => by
  cases d with
  | tup ds =>
    cases r1 with
    | tup ha r =>
      rename_i a xs
      have hl := r.length
      refine ⟨a, rfl, ⟨xs, sqt_hm ha⟩, q ds (Itt c.K a) H1 h1 e1 b1 ⟨fun i H s hi => ?_, fun i H x H' d s hi y => ?_, fun i H s hi => ?_⟩⟩
      · exact ⟨xs, xs[i]'(by omega), sees_t s.sees ha, List.getElem?_eq_getElem (by omega)⟩
      · obtain ⟨rfl, y⟩ := y
        have hx := y xs (sees_t s.sees ha)
        obtain ⟨d', hd', rd⟩ := r.getV hx
        rw [hi] at hd'
        cases hd'
        exact ⟨.refl, fun hd2 dom sb => rd.mono sb.sees⟩
      · exact ⟨xs, sees_t s.sees ha, by omega⟩
  | _ => exact h1.elim
theorem itr_ok {K : PySem.W.Frag} {G : Hp} (lo : Int) (n : Nat) : ItOk K G (Itr lo n) (rangeD lo n) := by
  have hl : (rangeD lo n).length = n := by unfold rangeD; rw [List.length_map, List.length_range]
  refine ⟨fun i H s hi => by rw [hl] at hi; exact hi, fun i H x H' d s hi y => ?_, fun i H s hi => by rw [hl] at hi; exact Nat.le_of_eq hi.symm⟩
  obtain ⟨rfl, rfl⟩ := y
  have hn : i < n := by
    have := (List.getElem?_eq_some_iff.mp hi).1
    rw [hl] at this; exact this
  have e : d = .int (lo + (i : Nat)) := by
    unfold rangeD at hi
    rw [List.getElem?_map, List.getElem?_range hn] at hi
    exact (Option.some.inj hi).symm
  subst e
  exact ⟨.refl, fun hd2 dom sb => .int _⟩
theorem itc_ok {K : PySem.W.Frag} {G : Hp} (lo cc : Int) (n : Nat) : ItOk K G (Itc lo cc n) (rangeC lo cc n) := by
  have hl : (rangeC lo cc n).length = n := by unfold rangeC; rw [List.length_map, List.length_range]
  refine ⟨fun i H s hi => by rw [hl] at hi; exact hi, fun i H x H' d s hi y => ?_, fun i H s hi => by rw [hl] at hi; exact Nat.le_of_eq hi.symm⟩
  obtain ⟨rfl, rfl⟩ := y
  have hn : i < n := by
    have := (List.getElem?_eq_some_iff.mp hi).1
    rw [hl] at this; exact this
  have e : d = .int (lo + (i : Nat) * cc) := by
    unfold rangeC at hi
    rw [List.getElem?_map, List.getElem?_range hn] at hi
    exact (Option.some.inj hi).symm
  subst e
  exact ⟨.refl, fun hd2 dom sb => .int _⟩
theorem rp_ints1 {K : PySem.W.Frag} {G : Hp} {vs : List V} {i : Int} (r : RpAll K G vs [.int i]) : vs = [.int i] := by
  cases r with
  | cons r1 r2 => cases r1; cases r2; rfl
theorem rp_ints2 {K : PySem.W.Frag} {G : Hp} {vs : List V} {i j : Int} (r : RpAll K G vs [.int i, .int j]) : vs = [.int i, .int j] := by
  cases r with
  | cons r1 r2 => cases r1; rw [rp_ints1 r2]
theorem rp_ints3 {K : PySem.W.Frag} {G : Hp} {vs : List V} {i j k : Int} (r : RpAll K G vs [.int i, .int j, .int k]) : vs = [.int i, .int j, .int k] := by
  cases r with
  | cons r1 r2 => cases r1; rw [rp_ints2 r2]
theorem ij_rng1 {ta : TA} (h : EVA c ta ρ fun ds => ∃ n : Int, ds = [.int n] ∧ n ≤ 1000000 ∧ -1000000 ≤ n ∧ Q (rangeD 0 n.toNat)) : IJ c (iRng1 ta) ρ Q := fun hd H σ v R q => h hd H σ v _ fun ds vs H1 h1 e1 b1 r1 => by
  obtain ⟨n, rfl, h2, h3, hq⟩ := h1
  rw [rp_ints1 r1]
  exact ⟨n, rfl, by omega, by omega, q _ _ H1 hq e1 b1 (itr_ok 0 n.toNat)⟩
theorem ij_rng2 {ta : TA} (h : EVA c ta ρ fun ds => ∃ m n : Int, ds = [.int m, .int n] ∧ (n ≤ 1000000 ∧ -1000000 ≤ n) ∧ (m ≤ 1000000 ∧ -1000000 ≤ m) ∧ Q (rangeD m (n - m).toNat)) : IJ c (iRng2 ta) ρ Q := fun hd H σ v R q => h hd H σ v _ fun ds vs H1 h1 e1 b1 r1 => by
  obtain ⟨m, n, rfl, h2, h3, hq⟩ := h1
  rw [rp_ints2 r1]
  exact ⟨m, n, rfl, ⟨by omega, by omega, by omega, by omega⟩, q _ _ H1 hq e1 b1 (itr_ok m _)⟩
theorem ij_rng3 {ta : TA} (h : EVA c ta ρ fun ds => ∃ (m n k : Int) (z : Nat), ds = [.int m, .int n, .int k] ∧ RgC m n k z ∧ Q (rangeC m k z)) : IJ c (iRng3 ta) ρ Q := fun hd H σ v R q => h hd H σ v _ fun ds vs H1 h1 e1 b1 r1 => by
  obtain ⟨m, n, k, z, rfl, h2, hq⟩ := h1
  rw [rp_ints3 r1]
  exact ⟨m, n, k, z, rfl, h2, q _ _ H1 hq e1 b1 (itc_ok m k z)⟩
theorem rp_new2 {K : PySem.W.Frag} {hd : Addr → Bool} {H : Hp} {T : Addr} {x y : V} {d1 d2 : Dt} (hT : H T = none) (dom : ∀ a, hd a = true → H a ≠ none) (r1 : Rp K (Hm hd H) x d1) (r2 : Rp K (Hm hd H) y d2) : Rp K (Hm hd (upd H T (.tup [x, y]))) (.ref T) (.tup [d1, d2]) := by
  have sees : Sees (Hm hd H) (Hm hd (upd H T (.tup [x, y]))) := (Ex.new hT (mu := none0)).sees (fun _ h => nomatch h)
  exact .tup (xs := [x, y]) (.inl (.inl (by rw [hm_of (fresh_hd dom hT), upd_same]))) (.cons (r1.mono sees) (.cons (r2.mono sees) .nil))
theorem ij_enum {ta : TA} (h : EVA c ta ρ fun ds => ∃ es, ds = [.lst es] ∧ Q (enumD es)) : IJ c (iEnum c.K ta) ρ Q := fun hd H σ v R q => h hd H σ v _ fun ds vs H1 h1 e1 b1 r1 => by
  obtain ⟨es, rfl, hq⟩ := h1
  cases r1 with
  | cons ra rb =>
    cases rb
    cases ra with
    | lst ha r =>
      rename_i a xs
      have hl := r.length
      have hn : (enumD es).length = es.length := by unfold enumD; rw [List.length_mapIdx]
      refine ⟨a, xs, rfl, .inl (.inl (hm_le ha)), q _ (Ite c.K a) H1 hq e1 b1 ⟨fun i H s hi => ?_, fun i H x H' d s hi y => ?_, fun i H s hi => ?_⟩⟩
      · exact ⟨xs, xs[i]'(by omega), .inl (.inl (s a _ ha)), List.getElem?_eq_getElem (by omega)⟩
      · obtain ⟨T, x', rfl, hT, rfl, y⟩ := y
        have hx := y xs (.inl (.inl (s a _ ha)))
        obtain ⟨d', hd', rd⟩ := r.getV hx
        have e : d = .tup [.int (i : Nat), d'] := by
          unfold enumD at hi
          rw [List.getElem?_mapIdx, hd'] at hi
          exact (Option.some.inj hi).symm
        subst e
        exact ⟨.new hT, fun hd2 dom sb => rp_new2 hT dom (.int _) (rd.mono sb.sees)⟩
      · exact ⟨xs, .inl (.inl (s a _ ha)), by omega⟩
def wipeS (ρ : List Sl) : List Nat → List Sl
  | [] => ρ
  | v :: vs => (wipeS ρ vs).set v .un
theorem slok_un {hd : Addr → Bool} {H : Hp} {o : Option V} : SlOk c hd H o .un := by unfold SlOk; split <;> trivial
theorem SV.wipe {hd : Addr → Bool} {H : Hp} {σ : L2.St} (s : SV c hd H σ ρ) : ∀ vs, SV c hd H (L2.wipe σ vs) (wipeS ρ vs)
  | [] => s
  | v :: vs => (SV.wipe s vs).set v slok_un
theorem wipe_at (σ : L2.St) : ∀ (vs : List Nat) (k : Nat), (L2.wipe σ vs)[k]? = if k ∈ vs then σ[k]?.map (fun _ => none) else σ[k]?
  | [], k => by simp [L2.wipe]
  | v :: vs, k => by
    unfold L2.wipe
    by_cases q : k = v
    · subst q
      rw [if_pos (List.mem_cons_self)]
      by_cases hl : k < σ.length
      · rw [List.getElem?_set_self (by rw [wipe_length]; exact hl), List.getElem?_eq_getElem hl]; rfl
      · rw [List.getElem?_eq_none (by rw [List.length_set, wipe_length]; omega), List.getElem?_eq_none (by omega)]; rfl
    · rw [List.getElem?_set_ne (Ne.symm q), wipe_at σ vs k]
      simp only [List.mem_cons, q, false_or]
theorem wipe_set {σ : L2.St} {vs : List Nat} {j : Nat} {x : Option V} (hj : j ∈ vs) : L2.wipe (σ.set j x) vs = L2.wipe σ vs := by
  apply List.ext_getElem?
  intro k
  rw [wipe_at, wipe_at]
  by_cases q : k = j
  · subst q
    rw [if_pos hj, if_pos hj]
    by_cases hl : k < σ.length
    · rw [List.getElem?_set_self hl, List.getElem?_eq_getElem hl]; rfl
    · rw [List.getElem?_eq_none (by rw [List.length_set]; omega), List.getElem?_eq_none (by omega)]
  · rw [List.getElem?_set_ne (Ne.symm q)]
theorem wipe_wipe {σ : L2.St} {vs : List Nat} : L2.wipe (L2.wipe σ vs) vs = L2.wipe σ vs := by
  apply List.ext_getElem?
  intro k
  rw [wipe_at, wipe_at]
  split
  · cases σ[k]? <;> rfl
  · rfl
def TGE (c : Cn) (g : TG) (d : Dt) (ρ : List Sl) (vs : List Nat) (k : List Sl → Prop) : Prop := ∀ hd H σ v (N : L2.St → Hp → Prop), SV c hd H σ ρ → Rp c.K (Hm hd H) v d → (∀ σ2 ρ2, k ρ2 → SV c hd H σ2 ρ2 → L2.wipe σ2 vs = L2.wipe σ vs → N σ2 H) → g v σ H N
theorem tge_name {j : Nat} {d : Dt} {vs : List Nat} {k : List Sl → Prop} (hj : j ∈ vs) (h : k (ρ.set j (.im d))) : TGE c (gName j) d ρ vs k := fun hd H σ v N s r q => q _ _ h (s.set j r) (wipe_set hj)
theorem lc_at {J : It} {its : List Dt} {g : TG} {vs : List Nat} {hd : Addr → Bool} {H1 : Hp} {σ : L2.St} {Qh : VK} (v1 : SV c hd H1 σ ρ) (ok : ItOk c.K (Hm hd H1) J its) (hlen : its.length ≤ 100000) (I : Nat → List Dt → Prop) (i0 : I 0 [])
    (hstep : ∀ i d acc, its[i]? = some d → I i acc → TGE c g d (wipeS ρ vs) vs fun ρ' => EVT c t ρ' fun b => (b = true → EV c te ρ' fun y => I (i + 1) (acc ++ [y])) ∧ (b = false → I (i + 1) acc))
    (hend : ∀ acc L ws H2, I its.length acc → Ex c.mu H1 H2 → c.B (hide hd L) H2 → H1 L = none → H2 L = some (.lst ws) → RpAll c.K (Hm (hide hd L) H2) ws acc → Qh (.ref L) H2) :
    ∀ L, H1 L = none → ∃ W : Nat → Nat → Hp → Prop, (∃ m, W 0 m (upd H1 L (.lst []))) ∧ ∀ i m H, W i m H → (J.stop i H ∧ Qh (.ref L) H) ∨ (J.go i H ∧ ∃ Nx : Hp → Prop, (∀ H', Nx H' → ∃ m', m' < m ∧ W (i + 1) m' H') ∧
      ∀ x H', J.yld i H x H' → g x (L2.wipe σ vs) H' fun σ2 H2 => L2.wipe σ2 vs = L2.wipe σ vs ∧ t σ2 H2 fun b H3 => if b = true then te σ2 H3 fun y H4 => ∃ acc, H4 L = some (.lst acc) ∧ acc.length < sizeLine ∧ Nx (upd H4 L (.lst (acc ++ [y]))) else Nx H3) := by
  intro L hL
  have b1 := v1.inv
  refine ⟨fun i m H2 => m = its.length - i ∧ i ≤ its.length ∧ ∃ ws acc, I i acc ∧ acc.length ≤ i ∧ H2 L = some (.lst ws) ∧ Ex c.mu H1 H2 ∧ c.B (hide hd L) H2 ∧ RpAll c.K (Hm (hide hd L) H2) ws acc, ⟨its.length, rfl, Nat.zero_le _, [], [], i0, Nat.le_refl _, upd_same, (.new hL), c.keepN (.new hL) hL b1, .nil⟩, ?_⟩
  rintro i m H2 ⟨rfl, hi, ws, acc, hI, hal, hw, e2, b2, r2⟩
  have v2 : SV c (hide hd L) H2 σ ρ := v1.hide e2 b2 hL (by rw [hw]; exact fun z => nomatch z)
  have sub2 : Sub (Hm hd H1) (Hm (hide hd L) H2) := fun a o ha => by
    have h1 := hm_not ha
    have h2 := hm_le ha
    rw [hm_of (by rw [hide_ne (ne_of_none h2 hL)]; exact h1)]
    exact e2.keep a o (by
      cases q : c.mu a with
      | false => rfl
      | true => rw [v1.muh a q] at h1; cases h1) h2
  have sub2' : Sub (Hm hd H1) H2 := fun a o ha => hm_le (sub2 a o ha)
  have nmu : c.mu L = false := by
    cases q : c.mu L with
    | false => rfl
    | true => exact absurd hL (v1.dom L (v1.muh L q))
  by_cases hlt : i < its.length
  · refine .inr ⟨ok.go i H2 sub2' hlt, fun H3 => ∃ ws acc, I (i + 1) acc ∧ acc.length ≤ i + 1 ∧ H3 L = some (.lst ws) ∧ Ex c.mu H1 H3 ∧ c.B (hide hd L) H3 ∧ RpAll c.K (Hm (hide hd L) H3) ws acc, fun H3 hN => ⟨its.length - (i + 1), by omega, rfl, hlt, hN⟩, fun x H3 hy => ?_⟩
    obtain ⟨e3, r3⟩ := ok.yl i H2 x H3 its[i] sub2' (List.getElem?_eq_getElem hlt) hy
    have rx := r3 (hide hd L) v2.dom sub2
    have v3 := v2.go0 e3
    have e13 := e2.trans e3.up
    refine hstep i its[i] acc (List.getElem?_eq_getElem hlt) hI (hide hd L) H3 (L2.wipe σ vs) x _ (v3.wipe vs) rx fun σ2 ρ2 hk s2 ew => ⟨ew.trans wipe_wipe, ?_⟩
    refine hk (hide hd L) H3 σ2 s2 _ fun b H4 hb e4 b4 => ?_
    have hL4 : H4 L = some (.lst ws) := e4.keep L _ nmu (e3.keep L _ rfl hw)
    cases b with
    | true =>
      rw [if_pos rfl]
      refine hb.1 rfl (hide hd L) H4 σ2 (s2.go e4 b4) _ fun y w H5 hy5 e5 b5 r5 => ?_
      have hL5 : H5 L = some (.lst ws) := e5.keep L _ nmu hL4
      have r25 : RpAll c.K (Hm (hide hd L) H5) ws acc := ((r2.mono (e3.sees (fun _ h => nomatch h))).mono (e4.sees v3.muh)).mono (e5.sees v3.muh)
      refine ⟨ws, hL5, Evl.sz_lt (by rw [r2.length]; omega), ws ++ [w], acc ++ [y], hy5, by rw [List.length_append]; simp; omega, upd_same, ((e13.trans e4).trans e5).mut (.inl hL), ?_, ?_⟩
      · exact c.put hide_self nmu hL5 rfl b5
      · rw [hm_upd hide_self]
        exact r25.append (.cons r5 .nil)
    | false =>
      rw [if_neg Bool.false_ne_true]
      exact ⟨ws, acc, hb.2 rfl, by omega, hL4, e13.trans e4, b4, (r2.mono (e3.sees (fun _ h => nomatch h))).mono (e4.sees v3.muh)⟩
  · have e : i = its.length := by omega
    exact .inl ⟨ok.st i H2 sub2' e, hend acc L ws H2 (by rw [← e]; exact hI) e2 b2 hL hw r2⟩
theorem en_lc {wi : TI} {g : TG} {vs : List Nat} (h : IJ c wi ρ fun its => its.length ≤ 100000 ∧ ∃ I : Nat → List Dt → Prop, I 0 [] ∧
    (∀ i d acc, its[i]? = some d → I i acc → TGE c g d (wipeS ρ vs) vs fun ρ' => EVT c t ρ' fun b => (b = true → EV c te ρ' fun y => I (i + 1) (acc ++ [y])) ∧ (b = false → I (i + 1) acc)) ∧ ∀ acc, I its.length acc → Q acc) :
    EN c (tLc wi g t te vs) ρ Q := fun hd H σ v Qh q => by
  refine h hd H σ v _ fun its J H1 hq e1 b1 ok => ?_
  obtain ⟨hlen, I, i0, hstep, hend⟩ := hq
  exact lc_at (v.go e1 b1) ok hlen I i0 hstep fun acc L ws H2 hI e2 b2 hL hw r2 => q acc L ws H2 (hend acc hI) (e1.trans e2) b2 (e1.fresh hL) hw r2
end
end CC
namespace CC
open PySem PySem.Spec PyProof.Rows L2
abbrev sob (w : World) : Obj := { cls := .type "set", dict := none, data := .set #[] 0 (.fresh 0 0 (!w.params.followText "set-order")) }
section
variable {P : Program} {w : World} {A : Around} {E : Value → Shared → Prop} {s : Shared}
theorem set_call {l : Addr} {items : Array Value} (Z : Heap → Prop) {Q : Value → Shared → Prop} (hh : A.handled = none) (hl : s.heap.IsList l items)
    (go : ∀ (A' : Around) (R : Result → Shared → Prop), A'.in1.handled = none → (∀ h3 tk3, Z h3 → (∀ b o, s.heap.get? b = some o → h3.get? b = some o) → R (.ok (.ret .none)) { s with heap := h3, toks := tk3 }) →
      codeAny (model P w) A' (.builtin "set.update.loop" ⟨[.ref s.heap.objs.size, .ref (s.heap.push (sob w)).objs.size], []⟩) R { s with heap := (s.heap.push (sob w)).push { cls := .type "list_iterator", data := .fields #[.ref l, .int 0 0] } })
    (h : ∀ (h' : Heap) (tk : Nat), Z h' → (∀ b o, s.heap.get? b = some o → h'.get? b = some o) → Q (.ref s.heap.objs.size) { s with heap := h', toks := tk }) :
    wpAny (model P w) A (call (.type "set") [.ref l]) Q E s := by
  obtain ⟨mc, mt, hmro⟩ := F.called_set.mro
  have k1 := F.called_set.made
  have k2 := F.called_set.sub
  refine wpAny_call (codeAny_of_tree ?_)
  show wpAny _ _ (callAny (.type "set") _) _ _ _
  refine wpAny_pure ⟨Code.quiet_builtin _ (by decide +kernel),
    codeAny_builtin F.entry_type_call ?_⟩
  rw [Around.under_plain (weight_type_call_type "set" [.ref l] [])
    rfl]
  have k3 := F.called_set.notType
  have k4 := F.called_set.canCreate
  have k5 := F.typeCall_set_1 (.ref l)
  repeat (any_goals (first
    | assumption
    | wp_step))
  refine codeAny_mono (code_set_led1 (.ref l) (E := E)
    (Q₁ := fun ob sN => ob = .ref s.heap.objs.size ∧ sN = { s with heap := s.heap.push (sob w) }) ⟨rfl, rfl⟩) fun r sN hr => ?_
  cases r with
  | error e => exact hr
  | ok fl =>
    cases fl with
    | ret ob =>
      obtain ⟨rfl, rfl⟩ := hr
      have hS : (s.heap.push (sob w)).get? s.heap.objs.size = some (sob w) := Heap.get?_push_size _ rfl
      have hT : Shared.TypeIs { s with heap := s.heap.push (sob w) } (.ref s.heap.objs.size) "set" := ⟨_, hS, rfl⟩
      have k6 := F.called_set.init.lookup
      have k7 := F.called_set.init.bind (.ref s.heap.objs.size)
      repeat (any_goals (first
        | assumption
        | wp_step))
      refine codeAny_mono (codeAny_call_builtin
        (R := wants (fun r s2 => r = .none ∧ ∃ h' tk, s2 = { s with heap := h', toks := tk } ∧
          Z h' ∧ (∀ b o, s.heap.get? b = some o → h'.get? b = some o)) E)
        F.called_set.init.plain F.entry_set_init (check_set_init_1 hT ?_)) fun r2 s2 hr2 => ?_
      · obtain ⟨ol, hol, hcl, nl, hdl⟩ := hl
        obtain ⟨oc, od, odt, osl⟩ := ol
        simp only at hcl hdl
        subst hcl
        subst hdl
        have hol' : (s.heap.push (sob w)).get? l = some { cls := .type "list", dict := od, data := .seq items nl, slots := osl } :=
          Heap.get?_push_of_some _ hol
        have f1 := F.sub_list_set
        have f2 := F.sub_list_frozenset
        have f3 : (Value.type "list" == Value.type "dict") = false := by decide
        have hl1 : (s.heap.push (sob w)).IsList l items := ⟨_, hol', rfl, nl, rfl⟩
        unfold Builtin.«set.__init__» noKeywords
        unfold Builtin.Frozenset.updateFrom
        generalize hPI : pyIter = PI
        wp_walk
        subst hPI
        refine wpAny_pyIter_list hl1 ?_
        refine wpAny_bind (wpAny_runValue ?_)
        have ah : A.in1.in1.in1.handled = none := by simp [hh]
        refine go _ _ ah fun h3 tk3 hS3 kp3 => ?_
        show wpAny _ _ _ _ _ _
        refine wpAny_pure ?_
        show wpAny _ _ (ret Value.none) _ _ _
        exact wpAny_pure ⟨rfl, h3, tk3, rfl, hS3, kp3⟩
      · cases r2 with
        | error e => exact hr2
        | ok fl2 =>
          cases fl2 with
          | ret r =>
            obtain ⟨rfl, h', tk, rfl, hS', hk'⟩ := hr2
            repeat (any_goals (first
              | assumption
              | wp_step))
            exact h _ _ hS' hk'
          | _ => exact hr2.elim
    | _ => exact hr.elim
theorem set_of_list {l : Addr} {items : Array Value} (ns : List Int) {Q : Value → Shared → Prop} (hh : A.handled = none)
    (hl : s.heap.IsList l items) (hit : IntsAre items.toList ns) (hb : ns.length + 1 < scanBound)
    (h : ∀ (h' : Heap) (tk c : Nat), SetR w h' s.heap.objs.size (fun j => decide (j ∈ ns)) c →
      (∀ b o, s.heap.get? b = some o → h'.get? b = some o) → Q (.ref s.heap.objs.size) { s with heap := h', toks := tk }) :
    wpAny (model P w) A (call (.type "set") [.ref l]) Q E s := by
  have hz : items.size = ns.length := by
    have q := IntsAre.length hit
    rw [Array.length_toList] at q
    exact q
  refine set_call (fun h' => ∃ c, SetR w h' s.heap.objs.size (fun j => decide (j ∈ ns)) c) hh hl (fun A' R ah hR => ?_) fun h' tk ⟨c, hS⟩ kp => h h' tk c hS kp
  have hl0 : s.heap.get? l ≠ none := fun z => by
    obtain ⟨ol, hol, _⟩ := hl
    rw [hol] at z; cases z
  have hS : (s.heap.push (sob w)).get? s.heap.objs.size = some (sob w) := Heap.get?_push_size _ rfl
  have hl1 : (s.heap.push (sob w)).IsList l items := hl.push _
  obtain ⟨ol, hol, hlr⟩ := id hl
  have lt0 : l < s.heap.objs.size := Heap.lt_size hol
  have nI : l ≠ (s.heap.push (sob w)).objs.size := by
    rw [Heap.size_push]
    exact Nat.ne_of_lt (Nat.lt_succ_of_lt lt0)
  have nS : s.heap.objs.size ∉ [(s.heap.push (sob w)).objs.size, l] := by
    rw [Heap.size_push]
    simp only [List.mem_cons, List.mem_singleton, List.not_mem_nil, or_false, not_or]
    exact ⟨Nat.ne_of_lt (Nat.lt_succ_self _), Nat.ne_of_gt lt0⟩
  have at_ : ∀ (i : Nat) (v : Value), items[i]? = some v → ∃ k t, ns[i]? = some k ∧ v = .int k t := fun i v hv => by
    have hi : i < ns.length := by
      rw [← hz]
      exact (Array.getElem?_eq_some_iff.mp hv).1
    obtain ⟨t, e⟩ := PyProof.Rows.IntsAre.int_at hit i v (by
      rw [Array.getElem?_toList]
      exact hv)
    refine ⟨ns[i], t, List.getElem?_eq_getElem hi, ?_⟩
    rw [e, List.getD_eq_getElem?_getD, List.getElem?_eq_getElem hi] <;> rfl
  refine set_update_ints ((Walks.list ah _ l nI items).toS) s.heap.objs.size nS ns hz hb at_
    (items.size - 0) 0 _ (by omega) (Nat.zero_le _) ⟨⟨_, Heap.get?_push_size _ rfl, rfl, rfl⟩, (hl1.push _)⟩ ?hS0 ?hR2
  case hS0 =>
    exact ⟨0, Nat.le_refl 0, setR_new_at (Heap.get?_push_of_some _ hS)⟩
  case hR2 =>
    intro s3 c3 hm hc3 hS3
    obtain ⟨h3, g3, d3, tk3, os3⟩ := s3
    have eg : g3 = s.gens := hm.gens
    have ed : d3 = s.drawn := hm.drawn
    have eo : os3 = s.os := hm.os
    subst eg
    subst ed
    subst eo
    refine hR _ _ ⟨c3, hS3⟩ fun b o e => ?_
    have b0 : b < s.heap.objs.size := Heap.lt_size e
    have b1 : b ≠ s.heap.objs.size := Nat.ne_of_lt b0
    have b2 : b ≠ (s.heap.push (sob w)).objs.size := by
      rw [Heap.size_push]
      exact Nat.ne_of_lt (Nat.lt_succ_of_lt b0)
    exact hm.heap b o (by
      simp only [List.mem_cons, List.mem_singleton, List.not_mem_nil, or_false, not_or]
      exact ⟨b1, b2⟩) (Heap.get?_push_of_some _ (Heap.get?_push_of_some _ e))
end
end CC
namespace CC
open PySem PySem.Spec PyProof.Rows L2
theorem setR_keys {w : World} {h : Heap} {a : Addr} {S : Int → Bool} {n : Nat} (R : SetR w h a S n) : ∃ ks : List Int, ks.Nodup ∧ (∀ k, k ∈ ks ↔ S k = true) ∧ ks.length = n := by
  obtain ⟨o, es, ep, t, ho, hex, hd, g, nd, hm, hb, hf, hn, hr, hl⟩ := R
  exact ⟨es.toList.map keyOf, nd, fun k => (hm k).symm, by rw [List.length_map, Array.length_toList]; exact hn⟩
section
variable {X : Cx}
def rSetI (K : PySem.W.Frag) (w : World) : List V → Hp → VK → Prop := fun vs H Q => ∃ (a : Addr) (ns : List Int), vs = [.ref a] ∧ SqL K H a (ns.map V.int) ∧ ns.length ≤ 4000 ∧
  ∀ (p : Addr) (ks : List Int), H p = none → ks.Nodup → (∀ k, k ∈ ks ↔ k ∈ ns) → Q (.ref p) (upd H p (SetO w p (fun j => decide (j ∈ ns)) ks.length))
theorem cr_setI (hc : X.calm = true) : CallR X (.type "set") (rSetI X.K X.w) := by
  intro pins s σ H vs us Q I r h
  obtain ⟨a, ns, rfl, ha, hn, q⟩ := h
  obtain ⟨its, rI, pl, hz⟩ := I.list ha
  rw [Vals.ref1 r]
  refine set_of_list ns (I.ok.hd hc) pl.isList (by simpa using rI.ints) (by unfold scanBound; omega) fun h' tk cc hS hk => ?_
  obtain ⟨ks, k1, k2, k3⟩ := setR_keys hS
  have hf : H s.heap.objs.size = none := I.hok.fresh (Nat.le_refl _)
  refine ⟨.ref s.heap.objs.size, _, I.laid (t' := tk) hk (Nat.le_refl _) ?_, rfl, q s.heap.objs.size ks hf k1 (fun k => by rw [k2 k, decide_eq_true_iff]) ⟩
  rw [k3]
  exact setO_new hS
def rLenSet (w : World) : List V → Hp → VK → Prop := fun vs H Q => ∃ (a : Addr) (S : Int → Bool) (n : Nat), vs = [.ref a] ∧ H a = some (SetO w a S n) ∧ Q (.int (n : Nat)) H
theorem cr_lenSet : CallR X (.builtin "len") (rLenSet X.w) := by
  intro pins s σ H vs us Q I r h
  obtain ⟨a, S, n, rfl, ha, q⟩ := h
  rw [Vals.ref1 r]
  obtain ⟨o, es, ep, t, ho, hex, hd, g, nd, hm, hb, hf, hn, hr, hl⟩ := setO_get I ha
  exact call_len_set ho hex hd hf (by unfold scanBound at hb; omega) ⟨.int (n : Nat), H, I.tok _, ⟨_, by rw [hn]⟩, q⟩
end
end CC
namespace CC
open PySem PySem.Spec PyProof.Rows L2
def rAddI : R2 := rI0 fun i j => .int (i + j)
def rSubI : R2 := rI0 fun i j => .int (i - j)
def rMulI : R2 := rI CMul fun i j => .int (i * j)
def rDivI : R2 := rI CDivW fun i j => .int (i / j)
def rModI : R2 := rI (fun _ j => 0 < j) fun i j => .int (i % j)
def rAddS : R2 := fun x y H Q => ∃ i j, x = .str i ∧ y = .str j ∧ i.length + j.length ≤ sizeLine ∧ Q (.str (i ++ j)) H
def rAddU (K : PySem.W.Frag) : R2 := fun x y H Q => rAddI x y H Q ∨ rAddS x y H Q ∨ rCat x y H Q ∨ rCatA K x y H Q
def rMulU : R2 := fun x y H Q => rMulI x y H Q ∨ rRep x y H Q
def rLtI : R2 := rI0 fun i j => .bl (decide (i < j))
def rLeI : R2 := rI0 fun i j => .bl (decide (i ≤ j))
def rGtI : R2 := rI0 fun i j => .bl (decide (j < i))
def rGeI : R2 := rI0 fun i j => .bl (decide (j ≤ i))
def rLtS : R2 := fun x y H Q => ∃ i j, x = .str i ∧ y = .str j ∧ Q (.bl (decide (i.cps.toList < j.cps.toList))) H
def rLeS : R2 := fun x y H Q => ∃ i j, x = .str i ∧ y = .str j ∧ Q (.bl (!decide (j.cps.toList < i.cps.toList))) H
def rGtS : R2 := fun x y H Q => ∃ i j, x = .str i ∧ y = .str j ∧ Q (.bl (decide (j.cps.toList < i.cps.toList))) H
def rGeS : R2 := fun x y H Q => ∃ i j, x = .str i ∧ y = .str j ∧ Q (.bl (!decide (i.cps.toList < j.cps.toList))) H
def rLtU : R2 := fun x y H Q => rLtI x y H Q ∨ rLtS x y H Q
def rLeU : R2 := fun x y H Q => rLeI x y H Q ∨ rLeS x y H Q
def rGtU : R2 := fun x y H Q => rGtI x y H Q ∨ rGtS x y H Q
def rGeU : R2 := fun x y H Q => rGeI x y H Q ∨ rGeS x y H Q
def rEqU (K : PySem.W.Frag) : R2 := fun x y H Q => rEq x y H Q ∨ rEqD K x y H Q
def rNeU (K : PySem.W.Frag) : R2 := fun x y H Q => rNe x y H Q ∨ rNeD K x y H Q
def rIsU : R2 := fun x y H Q => y = .non ∧ Q (.bl (decide (x = .non))) H
def rIsNotU : R2 := fun x y H Q => y = .non ∧ Q (.bl (!decide (x = .non))) H
def rSgIn : R2 := fun x y H Q => ∃ (k : Nat) (z : Str), x = .str ⟨#[k]⟩ ∧ y = .str z ∧ Q (.bl (decide (k ∈ z.cps.toList))) H
def rSgNot : R2 := fun x y H Q => ∃ (k : Nat) (z : Str), x = .str ⟨#[k]⟩ ∧ y = .str z ∧ Q (.bl (!decide (k ∈ z.cps.toList))) H
def rInU (K : PySem.W.Frag) : R2 := fun x y H Q => rIn K false x y H Q ∨ rSgIn x y H Q
def rNotInU (K : PySem.W.Frag) : R2 := fun x y H Q => rIn K true x y H Q ∨ rSgNot x y H Q
section
variable {X : Cx}
theorem op_addU : OpR X (binaryOp .Add) (rAddU X.K) := op_add.or (op_add_str.or (op_cat.or op_catA))
theorem op_subU : OpR X (binaryOp .Sub) rSubI := op_sub
theorem op_mulU : OpR X (binaryOp .Mult) rMulU := op_mul.or op_rep
theorem op_divU : OpR X (binaryOp .FloorDiv) rDivI := op_fdivW
theorem op_modU : OpR X (binaryOp .Mod) rModI := op_mod
theorem op_ltU : OpR X (compareOp .Lt) rLtU := op_lt.or op_lt_str
theorem op_leU : OpR X (compareOp .LtE) rLeU := op_le.or op_le_str
theorem op_gtU : OpR X (compareOp .Gt) rGtU := op_gt.or op_gt_str
theorem op_geU : OpR X (compareOp .GtE) rGeU := op_ge.or op_ge_str
theorem op_eqU (hu : X.A.units + 64 < cLine) : OpR X (compareOp .Eq) (rEqU X.K) := op_eq.or (op_eqD hu)
theorem op_neU (hu : X.A.units + 64 < cLine) : OpR X (compareOp .NotEq) (rNeU X.K) := op_ne.or (op_neD hu)
theorem op_isU : OpR X (compareOp .Is) rIsU := op_isN
theorem op_isNotU : OpR X (compareOp .IsNot) rIsNotU := op_notN
theorem op_inU : OpR X (compareOp .In) (rInU X.K) := op_in_seq.or op_in_sign
theorem op_notInU : OpR X (compareOp .NotIn) (rNotInU X.K) := op_notIn_seq.or op_notIn_sign
end
mutual
def py : Dt → PyData
  | .non => .none
  | .bl b => .bool b
  | .int i => .int i
  | .str x => .str x
  | .lst xs => .list (pyL xs)
  | .tup xs => .tuple (pyL xs)
  | .dk _ => .none
  | .dt _ => .none
  | .ob _ _ => .none
  | .xo _ _ => .none
  | .ptup _ => .none
def pyL : List Dt → List PyData
  | [] => []
  | x :: r => py x :: pyL r
end
inductive Sh : Nat → Dt → Prop
  | non {n : Nat} : Sh n .non
  | bl {n : Nat} (b : Bool) : Sh n (.bl b)
  | int {n : Nat} (i : Int) : Sh n (.int i)
  | str {n : Nat} {x : Str} (h : PyData.strOk x = true) : Sh n (.str x)
  | lst {n : Nat} {ds : List Dt} (h : ∀ d ∈ ds, Sh n d) : Sh (n + 1) (.lst ds)
  | tup {n : Nat} {ds : List Dt} (h : ∀ d ∈ ds, Sh n d) : Sh (n + 1) (.tup ds)
section
variable {K : PySem.W.Frag} {G : Hp}
theorem dp_all {n : Nat} (ih : ∀ v d, Sh n d → Rp K G v d → Dp K G v (py d)) : ∀ {vs : List V} {ds : List Dt}, (∀ d ∈ ds, Sh n d) → RpAll K G vs ds → DpAll K G vs (pyL ds)
  | _, _, _, .nil => .nil
  | _, _, h, .cons r t => .cons (ih _ _ (h _ List.mem_cons_self) r) (dp_all ih (fun d hd => h d (List.mem_cons_of_mem _ hd)) t)
theorem Rp.dp : ∀ (n : Nat) (v : V) (d : Dt), Sh n d → Rp K G v d → Dp K G v (py d)
  | _, _, _, .non, .non => .non
  | _, _, _, .bl b, .bl _ => .bl b
  | _, _, _, .int i, .int _ => .int i
  | _, _, _, .str _, .str x => .str x
  | n + 1, _, _, .lst h, .lst ha r => .lst (.inl (.inl ha)) (dp_all (Rp.dp n) h r)
  | n + 1, _, _, .tup h, .tup ha r => .tup ha (dp_all (Rp.dp n) h r)
theorem lay_all {n : Nat} (ih : ∀ d, Sh n d → PyData.canLay0 (py d) = true) : ∀ {ds : List Dt}, (∀ d ∈ ds, Sh n d) → PyData.canLayAll0 (pyL ds) = true
  | [], _ => rfl
  | d :: r, h => by
    show (PyData.canLay0 (py d) && PyData.canLayAll0 (pyL r)) = true
    rw [ih d (h d List.mem_cons_self), lay_all ih fun e he => h e (List.mem_cons_of_mem _ he)]; rfl
theorem Sh.lay : ∀ (n : Nat) (d : Dt), Sh n d → PyData.canLay0 (py d) = true
  | _, _, .non => rfl
  | _, _, .bl b => rfl
  | _, _, .int i => rfl
  | _, _, .str h => h
  | n + 1, _, .lst h => lay_all (Sh.lay n) h
  | n + 1, _, .tup h => lay_all (Sh.lay n) h
theorem depth_all {n : Nat} (ih : ∀ d, Sh n d → (py d).depth ≤ n) : ∀ {ds : List Dt}, (∀ d ∈ ds, Sh n d) → PyData.depthAll (pyL ds) ≤ n
  | [], _ => Nat.zero_le _
  | d :: r, h => by
    have h1 := ih d (h d List.mem_cons_self)
    have h2 := depth_all ih (ds := r) fun e he => h e (List.mem_cons_of_mem _ he)
    show max (py d).depth (PyData.depthAll (pyL r)) ≤ n
    omega
theorem Sh.deep : ∀ (n : Nat) (d : Dt), Sh n d → (py d).depth ≤ n
  | _, _, .non => Nat.zero_le _
  | _, _, .bl b => Nat.zero_le _
  | _, _, .int i => Nat.zero_le _
  | _, _, .str h => Nat.zero_le _
  | n + 1, _, .lst h => Nat.succ_le_succ (depth_all (Sh.deep n) h)
  | n + 1, _, .tup h => Nat.succ_le_succ (depth_all (Sh.deep n) h)
theorem Sh.shaped {n : Nat} {d : Dt} (h : Sh n d) (hn : n ≤ 64) : SeqAt.shaped (py d) = true := by
  unfold SeqAt.shaped
  rw [Sh.lay n d h, decide_eq_true (Nat.le_trans (Sh.deep n d h) hn)]
  rfl
theorem eqv_all {n : Nat} (ih : ∀ d, Sh n d → PyData.eqv (py d) (py d) = true) : ∀ {ds : List Dt}, (∀ d ∈ ds, Sh n d) → PyData.eqvAll (pyL ds) (pyL ds) = true
  | [], _ => rfl
  | d :: r, h => by
    show (PyData.eqv (py d) (py d) && PyData.eqvAll (pyL r) (pyL r)) = true
    rw [ih d (h d List.mem_cons_self), eqv_all ih fun e he => h e (List.mem_cons_of_mem _ he)]; rfl
theorem Sh.eqv : ∀ (n : Nat) (d : Dt), Sh n d → PyData.eqv (py d) (py d) = true
  | _, _, .non => rfl
  | _, _, .bl b => by show (b == b) = true; simp
  | _, _, .int i => by show (i == i) = true; simp
  | _, _, .str (x := x) h => by show (x == x) = true; simp
  | n + 1, _, .lst h => eqv_all (Sh.eqv n) h
  | n + 1, _, .tup h => eqv_all (Sh.eqv n) h
end
end CC
namespace CC
open PySem PySem.Spec PyProof.Rows L2
section
variable {c : Cn} {Q : Dt → Prop} {QL : List Dt → Prop} {i j : Int} {a b : Str} {ds es : List Dt}
theorem kv_here {hd : Addr → Bool} {H : Hp} {Qh : VK} (q : Kv c hd H Q Qh) (bb : c.B hd H) {d : Dt} {v : V} (h : Q d) (r : Rp c.K (Hm hd H) v d) : Qh v H := q d v H h .refl bb r
theorem rj_I0 {f : Int → Int → Int} (h : Q (.int (f i j))) : R2J c (rI0 fun i j => .int (f i j)) (.int i) (.int j) Q := fun hd H x y dom mh bb rx ry Qh q => by
  cases rx; cases ry
  exact ⟨i, j, rfl, rfl, kv_here q bb h (.int _)⟩
theorem rj_B0 {f : Int → Int → Bool} (h : Q (.bl (f i j))) : R2J c (rI0 fun i j => .bl (f i j)) (.int i) (.int j) Q := fun hd H x y dom mh bb rx ry Qh q => by
  cases rx; cases ry
  exact ⟨i, j, rfl, rfl, kv_here q bb h (.bl _)⟩
theorem rj_I {C : Int → Int → Prop} {f : Int → Int → Int} (hc : C i j) (h : Q (.int (f i j))) : R2J c (rI C fun i j => .int (f i j)) (.int i) (.int j) Q := fun hd H x y dom mh bb rx ry Qh q => by
  cases rx; cases ry
  exact ⟨i, j, rfl, rfl, hc, kv_here q bb h (.int _)⟩
theorem R2J.inl {r r' : R2} {d1 d2 : Dt} (h : R2J c r d1 d2 Q) : R2J c (fun x y H Q => r x y H Q ∨ r' x y H Q) d1 d2 Q := fun hd H x y dom mh bb rx ry Qh q => .inl (h hd H x y dom mh bb rx ry Qh q)
theorem R2J.inr {r r' : R2} {d1 d2 : Dt} (h : R2J c r' d1 d2 Q) : R2J c (fun x y H Q => r x y H Q ∨ r' x y H Q) d1 d2 Q := fun hd H x y dom mh bb rx ry Qh q => .inr (h hd H x y dom mh bb rx ry Qh q)
theorem R2N.inl {r r' : R2} {d1 d2 : Dt} (h : R2N c r d1 d2 QL) : R2N c (fun x y H Q => r x y H Q ∨ r' x y H Q) d1 d2 QL := fun hd H x y dom mh bb rx ry Qh q => .inl (h hd H x y dom mh bb rx ry Qh q)
theorem R2N.inr {r r' : R2} {d1 d2 : Dt} (h : R2N c r' d1 d2 QL) : R2N c (fun x y H Q => r x y H Q ∨ r' x y H Q) d1 d2 QL := fun hd H x y dom mh bb rx ry Qh q => .inr (h hd H x y dom mh bb rx ry Qh q)
theorem RCJ.inl {r r' : List V → Hp → VK → Prop} (h : RCJ c r ds Q) : RCJ c (fun x H Q => r x H Q ∨ r' x H Q) ds Q := fun hd H x dom mh bb rx Qh q => .inl (h hd H x dom mh bb rx Qh q)
theorem RCJ.inr {r r' : List V → Hp → VK → Prop} (h : RCJ c r' ds Q) : RCJ c (fun x H Q => r x H Q ∨ r' x H Q) ds Q := fun hd H x dom mh bb rx Qh q => .inr (h hd H x dom mh bb rx Qh q)
theorem sub_i (h : Q (.int (i - j))) : R2J c rSubI (.int i) (.int j) Q := rj_I0 h
theorem add_i (h : Q (.int (i + j))) : R2J c (rAddU c.K) (.int i) (.int j) Q := R2J.inl (rj_I0 h)
theorem mul_i (hc : CMul i j) (h : Q (.int (i * j))) : R2J c rMulU (.int i) (.int j) Q := R2J.inl (rj_I hc h)
theorem div_i (hc : CDivW i j) (h : Q (.int (i / j))) : R2J c rDivI (.int i) (.int j) Q := rj_I hc h
theorem mod_i (hc : 0 < j) (h : Q (.int (i % j))) : R2J c rModI (.int i) (.int j) Q := rj_I (C := fun _ j => 0 < j) hc h
theorem lt_i (h : Q (.bl (decide (i < j)))) : R2J c rLtU (.int i) (.int j) Q := R2J.inl (rj_B0 (f := fun i j => decide (i < j)) h)
theorem le_i (h : Q (.bl (decide (i ≤ j)))) : R2J c rLeU (.int i) (.int j) Q := R2J.inl (rj_B0 (f := fun i j => decide (i ≤ j)) h)
theorem gt_i (h : Q (.bl (decide (j < i)))) : R2J c rGtU (.int i) (.int j) Q := R2J.inl (rj_B0 (f := fun i j => decide (j < i)) h)
theorem ge_i (h : Q (.bl (decide (j ≤ i)))) : R2J c rGeU (.int i) (.int j) Q := R2J.inl (rj_B0 (f := fun i j => decide (j ≤ i)) h)
theorem eq_i (h : Q (.bl (decide (i = j)))) : R2J c (rEqU c.K) (.int i) (.int j) Q := fun hd H x y dom mh bb rx ry Qh q => by
  cases rx; cases ry
  refine .inl ⟨rfl, kv_here q bb h ?_⟩
  rw [show decide (V.int i = V.int j) = decide (i = j) from decide_eq_decide.mpr ⟨fun e => V.int.inj e, fun e => congrArg _ e⟩]
  exact .bl _
theorem ne_i (h : Q (.bl (!decide (i = j)))) : R2J c (rNeU c.K) (.int i) (.int j) Q := fun hd H x y dom mh bb rx ry Qh q => by
  cases rx; cases ry
  refine .inl ⟨rfl, kv_here q bb h ?_⟩
  rw [show decide (V.int i = V.int j) = decide (i = j) from decide_eq_decide.mpr ⟨fun e => V.int.inj e, fun e => congrArg _ e⟩]
  exact .bl _
theorem eq_s (h : Q (.bl (decide (a = b)))) : R2J c (rEqU c.K) (.str a) (.str b) Q := fun hd H x y dom mh bb rx ry Qh q => by
  cases rx; cases ry
  refine .inl ⟨rfl, kv_here q bb h ?_⟩
  rw [show decide (V.str a = V.str b) = decide (a = b) from decide_eq_decide.mpr ⟨fun e => V.str.inj e, fun e => congrArg _ e⟩]
  exact .bl _
theorem ne_s (h : Q (.bl (!decide (a = b)))) : R2J c (rNeU c.K) (.str a) (.str b) Q := fun hd H x y dom mh bb rx ry Qh q => by
  cases rx; cases ry
  refine .inl ⟨rfl, kv_here q bb h ?_⟩
  rw [show decide (V.str a = V.str b) = decide (a = b) from decide_eq_decide.mpr ⟨fun e => V.str.inj e, fun e => congrArg _ e⟩]
  exact .bl _
theorem eq_b {p q : Bool} (h : Q (.bl (decide (p = q)))) : R2J c (rEqU c.K) (.bl p) (.bl q) Q := fun hd H x y dom mh bb rx ry Qh z => by
  cases rx; cases ry
  refine .inl ⟨rfl, kv_here z bb h ?_⟩
  rw [show decide (V.bl p = V.bl q) = decide (p = q) from decide_eq_decide.mpr ⟨fun e => V.bl.inj e, fun e => congrArg _ e⟩]
  exact .bl _
theorem ne_b {p q : Bool} (h : Q (.bl (!decide (p = q)))) : R2J c (rNeU c.K) (.bl p) (.bl q) Q := fun hd H x y dom mh bb rx ry Qh z => by
  cases rx; cases ry
  refine .inl ⟨rfl, kv_here z bb h ?_⟩
  rw [show decide (V.bl p = V.bl q) = decide (p = q) from decide_eq_decide.mpr ⟨fun e => V.bl.inj e, fun e => congrArg _ e⟩]
  exact .bl _
theorem dp_mono {K : PySem.W.Frag} {hd : Addr → Bool} {H : Hp} {v : V} {d : Dt} {n : Nat} (s : Sh n d) (r : Rp K (Hm hd H) v d) : Dp K H v (py d) := Rp.dp n v d s (r.mono sees_le)
theorem eq_d {d e : Dt} {n m : Nat} (s1 : Sh n d) (s2 : Sh m e) (hn : n ≤ 64) (hm : m ≤ 64) (h : Q (.bl (PyData.eqv (py d) (py e)))) : R2J c (rEqU c.K) d e Q := fun hd H x y dom mh bb rx ry Qh q =>
  .inr ⟨py d, py e, dp_mono s1 rx, dp_mono s2 ry, s1.shaped hn, s2.shaped hm, kv_here q bb h (.bl _)⟩
theorem ne_d {d e : Dt} {n m : Nat} (s1 : Sh n d) (s2 : Sh m e) (hn : n ≤ 64) (hm : m ≤ 64) (h : Q (.bl (!PyData.eqv (py d) (py e)))) : R2J c (rNeU c.K) d e Q := fun hd H x y dom mh bb rx ry Qh q =>
  .inr ⟨py d, py e, dp_mono s1 rx, dp_mono s2 ry, s1.shaped hn, s2.shaped hm, kv_here q bb h (.bl _)⟩
def isNon : Dt → Bool
  | .non => true
  | _ => false
theorem rp_isNon {K : PySem.W.Frag} {G : Hp} {v : V} {d : Dt} (r : Rp K G v d) : decide (v = .non) = isNon d := by cases r <;> rfl
theorem is_n {d : Dt} (h : Q (.bl (isNon d))) : R2J c rIsU d .non Q := fun hd H x y dom mh bb rx ry Qh q => by
  cases ry
  exact ⟨rfl, by rw [rp_isNon rx]; exact kv_here q bb h (.bl _)⟩
theorem isnot_n {d : Dt} (h : Q (.bl (!isNon d))) : R2J c rIsNotU d .non Q := fun hd H x y dom mh bb rx ry Qh q => by
  cases ry
  exact ⟨rfl, by rw [rp_isNon rx]; exact kv_here q bb h (.bl _)⟩
theorem add_l (hz : ds.length + es.length ≤ 100000) (h : QL (ds ++ es)) : R2N c (rAddU c.K) (.lst ds) (.lst es) QL := fun hd H x y dom mh bb rx ry Qh q => by
  cases rx with
  | lst ha ra =>
    cases ry with
    | lst hb rb =>
      rename_i p xs p' ys
      refine .inr (.inr (.inl ⟨p, p', xs, ys, rfl, rfl, hm_le ha, hm_le hb, Evl.sz_of (by rw [ra.length, rb.length]; exact hz), fun o ho => ?_⟩))
      exact q (ds ++ es) o (xs ++ ys) _ h (.new ho) (c.keepN (.new ho) ho bb) ho upd_same ((ra.append rb).mono (sees_new (.new ho (mu := none0)) (fun _ h => nomatch h) ho))
theorem add_t (hz : ds.length + es.length ≤ 100000) (h : Q (.tup (ds ++ es))) : R2J c (rAddU c.K) (.tup ds) (.tup es) Q := fun hd H x y dom mh bb rx ry Qh q => by
  cases rx with
  | tup ha ra =>
    cases ry with
    | tup hb rb =>
      rename_i p xs p' ys
      refine .inr (.inr (.inr ⟨p, p', xs, ys, rfl, rfl, sqt_hm ha, sqt_hm hb, Evl.sz_of (by rw [ra.length, rb.length]; exact hz), fun e => ?_, fun _ e => ?_, fun _ _ o ho => ?_⟩))
      · subst e
        cases ra
        exact kv_here q bb h (.tup hb rb)
      · subst e
        cases rb
        rw [List.append_nil] at h
        exact kv_here q bb h (.tup ha ra)
      · refine q _ (.ref o) _ h (.new ho) (c.keep0 (.new ho) bb) (.tup (xs := xs ++ ys) (.inl (.inl ?_)) ((ra.append rb).mono ((Ex.new ho (mu := none0)).sees (fun _ h => nomatch h))))
        rw [hm_of (fresh_hd dom ho), upd_same]
theorem mul_l {k : Int} (hk : k ≤ 1000000 ∧ -1000000 ≤ k) (hz : ds.length * k.toNat ≤ 100000) (h : QL (List.replicate k.toNat ds).flatten) : R2N c rMulU (.lst ds) (.int k) QL := fun hd H x y dom mh bb rx ry Qh q => by
  cases ry
  cases rx with
  | lst ha ra =>
    rename_i p xs
    refine .inr ⟨p, k, xs, rfl, rfl, hm_le ha, by omega, by omega, Evl.sz_of (by rw [ra.length]; exact hz), fun o ho => ?_⟩
    exact q _ o _ _ h (.new ho) (c.keepN (.new ho) ho bb) ho upd_same ((ra.rep _).mono (sees_new (.new ho (mu := none0)) (fun _ h => nomatch h) ho))
theorem atI_rp {K : PySem.W.Frag} {G : Hp} {vs : List V} {ds : List Dt} {k : Int} {d : Dt} (r : RpAll K G vs ds) (h : atI ds k = some d) : ∃ v, atI vs k = some v ∧ Rp K G v d := by
  unfold atI at h
  cases hx : ixN ds.length k with
  | none => rw [hx] at h; cases h
  | some j =>
    rw [hx] at h
    obtain ⟨v, hv, rv⟩ := r.get (show ds[j]? = some d from h)
    refine ⟨v, ?_, rv⟩
    unfold atI
    rw [r.length, hx]
    exact hv
theorem ix_l {k : Int} {d : Dt} (hk : atI ds k = some d) (h : Q d) : R2J c (rIx c.K) (.lst ds) (.int k) Q := fun hd H x y dom mh bb rx ry Qh q => by
  cases ry
  cases rx with
  | lst ha ra =>
    obtain ⟨v, hv, rv⟩ := atI_rp ra hk
    exact .inl ⟨_, _, k, v, rfl, rfl, .inl (.inl (hm_le ha)), hv, kv_here q bb h rv⟩
theorem ix_t {k : Int} {d : Dt} (hk : atI ds k = some d) (h : Q d) : R2J c (rIx c.K) (.tup ds) (.int k) Q := fun hd H x y dom mh bb rx ry Qh q => by
  cases ry
  cases rx with
  | tup ha ra =>
    obtain ⟨v, hv, rv⟩ := atI_rp ra hk
    exact .inr (.inl ⟨_, _, k, v, rfl, rfl, sqt_hm ha, hv, kv_here q bb h rv⟩)
theorem rix_ac {K : PySem.W.Frag} (p : Addr) (xs : List V) (k : Int) (v : V) (H : Hp) (Qh : VK) (hp : H p = some (.lst xs)) (h : atI xs k = some v) (q : Qh v H) : rIx K (.ref p) (.int k) H Qh := .inl ⟨p, xs, k, v, rfl, rfl, .inl (.inl hp), h, q⟩
def cutD (xs : List Dt) (lo hi : Option Int) : List Dt := (xs.drop (HT.sIx xs.length 0 lo)).take (HT.sIx xs.length xs.length hi - HT.sIx xs.length 0 lo)
theorem cut_rp {K : PySem.W.Frag} {G : Hp} {vs : List V} {ds : List Dt} (r : RpAll K G vs ds) (lo hi : Option Int) : RpAll K G (cutV vs lo hi) (cutD ds lo hi) := by
  unfold cutV cutD
  rw [r.length]
  exact (r.drop _).take _
variable {ρ : List Sl} {te ta tb : TE} {tl th : TO}
theorem en_sl (h : EV c te ρ (LstJ fun ds => EVO c tl ρ fun lo => EVO c th ρ fun hi => QL (cutD ds lo hi))) : EN c (tSl (rSlL c.K) te tl th) ρ QL := fun hd H σ v Qh q => h hd H σ v _ fun d x H1 h1 e1 b1 r1 => by
  cases d with
  | lst ds =>
    refine h1 hd H1 σ (v.go e1 b1) _ fun lo H2 h2 e2 b2 => h2 hd H2 σ ((v.go e1 b1).go e2 b2) _ fun hi H3 h3 e3 b3 => ?_
    have e13 := (e1.trans e2).trans e3
    cases (r1.mono ((e2.trans e3).sees v.muh)) with
    | lst ha ra =>
      refine ⟨_, _, rfl, .inl (.inl (hm_le ha)), fun o ho => ?_⟩
      exact q _ o _ _ h3 (e13.trans (.new ho)) (c.keepN (.new ho) ho b3) (e13.fresh ho) upd_same ((cut_rp ra lo hi).mono (sees_new (.new ho (mu := none0)) (fun _ h => nomatch h) ho))
  | _ => exact h1.elim
theorem en_rev (h : EV c te ρ (LstJ fun ds => QL ds.reverse)) : EN c (tRevL c.K te) ρ QL := fun hd H σ v Qh q => h hd H σ v _ fun d x H1 h1 e1 b1 r1 => by
  cases d with
  | lst ds =>
    cases r1 with
    | lst ha ra =>
      refine ⟨_, _, rfl, .inl (.inl (hm_le ha)), fun o ho => ?_⟩
      exact q _ o _ _ h1 (e1.trans (.new ho)) (c.keepN (.new ho) ho b1) (e1.fresh ho) upd_same (ra.rev.mono (sees_new (.new ho (mu := none0)) (fun _ h => nomatch h) ho))
  | _ => exact h1.elim
end
end CC
namespace CC
open PySem PySem.Spec PyProof.Rows L2
def rLenU (K : PySem.W.Frag) : List V → Hp → VK → Prop := fun xs H Q => (∃ p ys, xs = [.ref p] ∧ (SqL K H p ys ∨ SqT K H p ys) ∧ Q (.int ys.length) H) ∨ (∃ z, xs = [.str z] ∧ z.length ≤ sizeLine ∧ Q (.int z.length) H) ∨ (∃ a kvs, xs = [V.ref a] ∧ H a = some (.dK kvs) ∧ Q (.int kvs.length) H)
def rListU (K : PySem.W.Frag) : List V → Hp → VK → Prop := fun xs H Q => ∃ p ys, xs = [.ref p] ∧ (SqL K H p ys ∨ SqT K H p ys) ∧ ∀ l, H l = none → Q (.ref l) (upd H l (.lst ys))
def rTupleU (K : PySem.W.Frag) : List V → Hp → VK → Prop := fun xs H Q => ∃ p ys, xs = [.ref p] ∧ ((SqL K H p ys ∧ ∀ l, H l = none → Q (.ref l) (upd H l (.tup ys))) ∨ (SqT K H p ys ∧ Q (.ref p) H))
def rMin2 : List V → Hp → VK → Prop := fun xs H Q => ∃ i j, xs = [.int i, .int j] ∧ Q (.int (if j < i then j else i)) H
def rMax2 : List V → Hp → VK → Prop := fun xs H Q => ∃ i j, xs = [.int i, .int j] ∧ Q (.int (if j > i then j else i)) H
def rInt1 : List V → Hp → VK → Prop := fun xs H Q => (∃ i, xs = [.int i] ∧ Q (.int i) H) ∨ ∃ k, xs = [.bl k] ∧ Q (.int (if k then 1 else 0)) H
section
variable {X : Cx}
theorem cl_len : CallR X (.builtin "len") (rLenU X.K) := call_len_seq.or (call_len_str.or call_lenD)
theorem cl_list : CallR X (.type "list") (rListU X.K) := call_list_of
theorem cl_tuple : CallR X (.type "tuple") (rTupleU X.K) := call_tuple_of
theorem cl_min2 (hc : X.calm = true) : CallR X (.builtin "min") rMin2 := call_min2 hc
theorem cl_max2 (hc : X.calm = true) : CallR X (.builtin "max") rMax2 := call_max2 hc
theorem cl_int1 : CallR X (.type "int") rInt1 := call_int1
end
section
variable {c : Cn} {Q : Dt → Prop} {QL : List Dt → Prop} {i j : Int} {ds es : List Dt} {ns : List Int}
theorem rp1 {K : PySem.W.Frag} {G : Hp} {vs : List V} {d : Dt} (r : RpAll K G vs [d]) : ∃ v, vs = [v] ∧ Rp K G v d := by
  cases r with
  | cons r1 r2 => cases r2; exact ⟨_, rfl, r1⟩
theorem len_l (h : Q (.int ds.length)) : RCJ c (rLenU c.K) [.lst ds] Q := fun hd H vs dom mh bb r Qh q => by
  obtain ⟨v, rfl, r1⟩ := rp1 r
  cases r1 with
  | lst ha ra => exact .inl ⟨_, _, rfl, .inl (.inl (.inl (hm_le ha))), by rw [ra.length]; exact kv_here q bb h (.int _)⟩
theorem len_t (h : Q (.int ds.length)) : RCJ c (rLenU c.K) [.tup ds] Q := fun hd H vs dom mh bb r Qh q => by
  obtain ⟨v, rfl, r1⟩ := rp1 r
  cases r1 with
  | tup ha ra => exact .inl ⟨_, _, rfl, .inr (sqt_hm ha), by rw [ra.length]; exact kv_here q bb h (.int _)⟩
theorem list_l (h : QL ds) : RCN c (rListU c.K) [.lst ds] QL := fun hd H vs dom mh bb r Qh q => by
  obtain ⟨v, rfl, r1⟩ := rp1 r
  cases r1 with
  | lst ha ra => exact ⟨_, _, rfl, .inl (.inl (.inl (hm_le ha))), fun o ho => q _ o _ _ h (.new ho) (c.keepN (.new ho) ho bb) ho upd_same (ra.mono (sees_new (.new ho (mu := none0)) (fun _ h => nomatch h) ho))⟩
theorem list_t (h : QL ds) : RCN c (rListU c.K) [.tup ds] QL := fun hd H vs dom mh bb r Qh q => by
  obtain ⟨v, rfl, r1⟩ := rp1 r
  cases r1 with
  | tup ha ra => exact ⟨_, _, rfl, .inr (sqt_hm ha), fun o ho => q _ o _ _ h (.new ho) (c.keepN (.new ho) ho bb) ho upd_same (ra.mono (sees_new (.new ho (mu := none0)) (fun _ h => nomatch h) ho))⟩
theorem tuple_l (h : Q (.tup ds)) : RCJ c (rTupleU c.K) [.lst ds] Q := fun hd H vs dom mh bb r Qh q => by
  obtain ⟨v, rfl, r1⟩ := rp1 r
  cases r1 with
  | lst ha ra =>
    refine ⟨_, _, rfl, .inl ⟨.inl (.inl (hm_le ha)), fun o ho => ?_⟩⟩
    refine q _ (.ref o) _ h (.new ho) (c.keep0 (.new ho) bb) (.tup (.inl (.inl ?_)) (ra.mono ((Ex.new ho (mu := none0)).sees (fun _ h => nomatch h))))
    rw [hm_of (fresh_hd dom ho), upd_same]
theorem tuple_t (h : Q (.tup ds)) : RCJ c (rTupleU c.K) [.tup ds] Q := fun hd H vs dom mh bb r Qh q => by
  obtain ⟨v, rfl, r1⟩ := rp1 r
  cases r1 with
  | tup ha ra => exact ⟨_, _, rfl, .inr ⟨sqt_hm ha, kv_here q bb h (.tup ha ra)⟩⟩
theorem lst_ints {K : PySem.W.Frag} {hd : Addr → Bool} {H : Hp} {v : V} (r : Rp K (Hm hd H) v (.lst (ns.map Dt.int))) : ∃ a, v = .ref a ∧ H a = some (.lst (ns.map V.int)) := by
  cases r with
  | lst ha ra => rw [ra.ints] at ha; exact ⟨_, rfl, hm_le ha⟩
theorem min_l (hn : ns ≠ []) (h : ∀ m, m ∈ ns → (∀ y ∈ ns, m ≤ y) → Q (.int m)) : RCJ c (rMin c.K) [.lst (ns.map Dt.int)] Q := fun hd H vs dom mh bb r Qh q => by
  obtain ⟨v, rfl, r1⟩ := rp1 r
  obtain ⟨a, rfl, ha⟩ := lst_ints r1
  exact ⟨a, ns, rfl, .inl (.inl ha), List.length_pos_iff.mpr hn, fun m h1 h2 => kv_here q bb (h m h1 h2) (.int _)⟩
theorem max_l (hn : ns ≠ []) (h : ∀ m, m ∈ ns → (∀ y ∈ ns, y ≤ m) → Q (.int m)) : RCJ c (rMax c.K) [.lst (ns.map Dt.int)] Q := fun hd H vs dom mh bb r Qh q => by
  obtain ⟨v, rfl, r1⟩ := rp1 r
  obtain ⟨a, rfl, ha⟩ := lst_ints r1
  exact ⟨a, ns, rfl, .inl (.inl ha), List.length_pos_iff.mpr hn, fun m h1 h2 => kv_here q bb (h m h1 h2) (.int _)⟩
theorem sum_l (h : Q (.int ns.sum)) : RCJ c (rSum c.K) [.lst (ns.map Dt.int)] Q := fun hd H vs dom mh bb r Qh q => by
  obtain ⟨v, rfl, r1⟩ := rp1 r
  obtain ⟨a, rfl, ha⟩ := lst_ints r1
  exact ⟨a, ns, rfl, .inl (.inl ha), kv_here q bb h (.int _)⟩
theorem min2_i (h : Q (.int (if j < i then j else i))) : RCJ c rMin2 [.int i, .int j] Q := fun hd H vs dom mh bb r Qh q => by
  rw [rp_ints2 r]
  exact ⟨i, j, rfl, kv_here q bb h (.int _)⟩
theorem max2_i (h : Q (.int (if j > i then j else i))) : RCJ c rMax2 [.int i, .int j] Q := fun hd H vs dom mh bb r Qh q => by
  rw [rp_ints2 r]
  exact ⟨i, j, rfl, kv_here q bb h (.int _)⟩
theorem nodup_le : ∀ (ks ns : List Int), ks.Nodup → (∀ k ∈ ks, k ∈ ns) → ks.length ≤ ns.length
  | [], _, _, _ => Nat.zero_le _
  | k :: r, ns, h, hs => by
    obtain ⟨h1, h2⟩ := List.nodup_cons.mp h
    have hk := hs k List.mem_cons_self
    have ih := nodup_le r (ns.erase k) h2 fun x hx => (List.mem_erase_of_ne fun e => h1 (by rw [← e]; exact hx)).mpr (hs x (List.mem_cons_of_mem _ hx))
    rw [List.length_erase_of_mem hk] at ih
    have := List.length_pos_of_mem hk
    rw [List.length_cons]
    omega
theorem en_sortedSet {w : World} {ta : TA} {ρ : List Sl} (h : EVA c ta ρ fun ds => ∃ ns : List Int, ds = [.lst (ns.map Dt.int)] ∧ ns.length < 64 ∧ ∀ us : List Int, us.Pairwise (· < ·) → (∀ k, k ∈ us ↔ k ∈ ns) → QL (us.map Dt.int)) :
    EN c (tCB (rSortedSet w) (tCons (tCB (rSetI c.K w) ta) tNil)) ρ QL := fun hd H σ v Qh q => h hd H σ v _ fun ds vs H1 h1 e1 b1 r1 => by
  obtain ⟨ns, rfl, hl, hq⟩ := h1
  obtain ⟨x, rfl, rx⟩ := rp1 r1
  obtain ⟨a, rfl, ha⟩ := lst_ints rx
  refine ⟨a, ns, rfl, .inl (.inl ha), by omega, fun p ks hp k1 k2 => ?_⟩
  have hks : ks.length ≤ ns.length := by
    exact nodup_le ks ns k1 fun k hk => (k2 k).mp hk
  refine ⟨p, _, _, rfl, upd_same, by omega, fun us o h1 h2 h3 ho => ?_⟩
  have hq2 := hq us h1 fun k => by rw [h2 k, decide_eq_true_iff]
  have e2 : Ex none0 H1 (upd H1 p (SetO w p (fun j => decide (j ∈ ns)) ks.length)) := .new hp
  exact q _ o _ _ hq2 ((e1.trans e2.up).trans (.new ho)) (c.keepN (.new ho) ho (c.keep0 e2 b1)) ((e1.trans e2.up).fresh ho) upd_same (.ofInts us)
theorem ev_lenSet {w : World} {ta : TA} {ρ : List Sl} (h : EVA c ta ρ fun ds => ∃ ns : List Int, ds = [.lst (ns.map Dt.int)] ∧ ns.length ≤ 4000 ∧ ∀ us : List Int, us.Nodup → (∀ k, k ∈ us ↔ k ∈ ns) → Q (.int us.length)) :
    EV c (tCB (rLenSet w) (tCons (tCB (rSetI c.K w) ta) tNil)) ρ Q := fun hd H σ v Qh q => h hd H σ v _ fun ds vs H1 h1 e1 b1 r1 => by
  obtain ⟨ns, rfl, hl, hq⟩ := h1
  obtain ⟨x, rfl, rx⟩ := rp1 r1
  obtain ⟨a, rfl, ha⟩ := lst_ints rx
  refine ⟨a, ns, rfl, .inl (.inl ha), hl, fun p ks hp k1 k2 => ⟨p, _, _, rfl, upd_same, ?_⟩⟩
  have e2 : Ex none0 H1 (upd H1 p (SetO w p (fun j => decide (j ∈ ns)) ks.length)) := .new hp
  exact q _ _ _ (hq ks k1 k2) (e1.trans e2.up) (c.keep0 e2 b1) (.int _)
def tyD : Dt → String
  | .non => "NoneType"
  | .bl _ => "bool"
  | .int _ => "int"
  | .str _ => "str"
  | .lst _ => "list"
  | .tup _ => "tuple"
  | .dk _ => "dict"
  | .dt _ => "dict"
  | .ob _ _ => "object"
  | .xo _ _ => "object"
  | .ptup _ => "object"
def noT : Dt → Bool
  | .dt _ => false
  | .ob _ _ => false
  | .xo _ _ => false
  | .ptup _ => false
  | _ => true
theorem rp_ty {K : PySem.W.Frag} {hd : Addr → Bool} {H : Hp} {v : V} {d : Dt} (hn : noT d = true) (r : Rp K (Hm hd H) v d) : TyX K H v (.type (tyD d)) := by
  cases r with
  | non => exact .base .non
  | bl b => exact .base (.bl b)
  | int b => exact .base (.int b)
  | str b => exact .base (.str b)
  | lst ha _ => exact .base (.lst (hm_le ha))
  | tup ha _ =>
    rcases ha with (ha | ⟨o, ha⟩) | ⟨o, its, n, h1, h2, h3⟩
    · exact .base (.tup (hm_le ha))
    · exact .fTuple (hm_le ha)
    · exact .kTuple h1 h2
  | dk ha _ =>
    rcases ha with ha | ⟨o, ha⟩
    · exact .base (.dK (hm_le ha))
    · exact .fDict (hm_le ha)
  | dt => cases hn
  | ob => cases hn
  | xo => cases hn
  | ptup => cases hn
theorem ev_isi {ta : TE} {T : String} {ρ : List Sl} (h : EV c ta ρ fun d => noT d = true ∧ ∃ b, kitB (tyD d) T = some b ∧ Q (.bl b)) : EV c (tCB (rIsi c.K) (tCons ta (tCons (tC (.ty T)) tNil))) ρ Q := fun hd H σ v Qh q => h hd H σ v _ fun d x H1 h1 e1 b1 r1 => by
  obtain ⟨hn, b, hb, hq⟩ := h1
  exact ⟨x, .ty T, _, _, b, rfl, .ty T, rp_ty hn r1, kit_ty hb, q _ _ H1 hq e1 b1 (.bl _)⟩
theorem ev_index {K : PySem.W.Frag} {to te : TE} {ρ : List Sl} (hK : K = c.K) (h : EV c to ρ fun d => ∃ ns : List Int, d = .lst (ns.map Dt.int) ∧ EV c te ρ fun e => ∃ (x : Int) (j : Nat), e = .int x ∧ ns[j]? = some x ∧ (∀ m, m < j → ns[m]? ≠ some x) ∧ Q (.int (j : Nat))) :
    EV c (tBM K "list" (rIndex K) to (tCons te tNil)) ρ Q := fun hd H σ v Qh q => h hd H σ v _ fun d x H1 h1 e1 b1 r1 => by
  subst hK
  obtain ⟨ns, rfl, h2⟩ := h1
  obtain ⟨a, rfl, ha⟩ := lst_ints r1
  refine ⟨.inl ⟨rfl, _, .inl (.inl ha)⟩, h2 hd H1 σ (v.go e1 b1) _ fun e y H2 h3 e2 b2 r2 => ?_⟩
  obtain ⟨x, j, rfl, hj, hno, hq⟩ := h3
  cases r2
  have ha2 : H2 a = some (.lst (ns.map V.int)) := by
    have r1' := r1.mono (e2.sees v.muh)
    obtain ⟨a', e, h⟩ := lst_ints r1'
    cases e
    exact h
  refine ⟨a, ns.map V.int, .int x, j, .int x, rfl, rfl, .inl (.inl ha2), rfl, ?_, by rw [List.getElem?_map, hj]; rfl, by show (x == x) = true; simp, fun m z' hm hz => ?_, q _ _ H2 hq (e1.trans e2) b2 (.int _)⟩
  · rw [List.all_eq_true]
    intro z hz
    obtain ⟨n, _, rfl⟩ := List.mem_map.mp hz
    rfl
  · rw [List.getElem?_map] at hz
    cases hm' : ns[m]? with
    | none => rw [hm'] at hz; cases hz
    | some n =>
      rw [hm'] at hz
      cases hz
      have : n ≠ x := fun e => hno m hm (by rw [hm', e])
      show (n == x) = false
      simpa using this
end
def spP (K : PySem.W.Frag) (S : List Dt → (Dt → Prop) → Prop) : Sp := fun vs H Qh _ => ∃ hid ds Q, (∀ a, hid a = true → H a ≠ none) ∧ RpAll K (Hm hid H) vs ds ∧ S ds Q ∧ ∀ d v H', Q d → Ex none0 H H' → Rp K (Hm hid H') v d → Qh v H'
def spPN (K : PySem.W.Frag) (S : List Dt → (List Dt → Prop) → Prop) : Sp := fun vs H Qh _ => ∃ hid ds Q, (∀ a, hid a = true → H a ≠ none) ∧ RpAll K (Hm hid H) vs ds ∧ S ds Q ∧
  ∀ es o ws H', Q es → Ex none0 H H' → H o = none → H' o = some (.lst ws) → RpAll K (Hm (hide hid o) H') ws es → Qh (.ref o) H'
structure RetOk (c : Cn) (hid : Addr → Bool) (H0 : Hp) (Q : Dt → Prop) (D : Ends) : Prop where
  rt : ∀ d, Q d → RJ c hid H0 D.rt d
  nx : Q .non → ∀ ρ, NJ c hid H0 D.nx ρ
structure RetN (c : Cn) (hid : Addr → Bool) (H0 : Hp) (Q : List Dt → Prop) (D : Ends) : Prop where
  rt : ∀ d, Q d → RNJ c hid H0 D.rt d
def startS (N : List Str) (ds : List Dt) : List Sl := ds.map Sl.im ++ List.replicate (N.length - ds.length) .un
section
variable {K : PySem.W.Frag} {c : Cn} {Q : Dt → Prop} {QL : List Dt → Prop} {ds : List Dt}
theorem sp_j {S : List Dt → (Dt → Prop) → Prop} {E : XK} (h : S ds Q) : SpJ c (spP c.K S) E ds Q := fun hd H vs dom mh bb r Qh q => ⟨hd, ds, Q, dom, r, h, fun d v H' hq e => q d v H' hq e.up (c.keep0 e bb)⟩
theorem sp_n {S : List Dt → (List Dt → Prop) → Prop} {E : XK} (h : S ds QL) : SpN c (spPN c.K S) E ds QL := fun hd H vs dom mh bb r Qh q => ⟨hd, ds, QL, dom, r, h, fun es o ws H' hq e ho => q es o ws H' hq e.up (c.keepN e ho bb) ho⟩
theorem slall_im {hd : Addr → Bool} {H : Hp} : ∀ {vs : List V} {ds : List Dt} {n : Nat}, RpAll c.K (Hm hd H) vs ds → SlAll c hd H (vs.map some ++ List.replicate n none) (ds.map Sl.im ++ List.replicate n .un)
  | _, _, n, .nil => by
    show SlAll c hd H (List.replicate n none) (List.replicate n .un)
    induction n with
    | zero => exact .nil
    | succ n ih =>
      rw [List.replicate_succ, List.replicate_succ]
      exact .cons trivial ih
  | _, _, n, .cons r t => .cons r (slall_im t)
theorem owns_im {ds : List Dt} {n i : Nat} {s : Sl} (h : (ds.map Sl.im ++ List.replicate n .un)[i]? = some s) : owns s = false := by
  rcases List.mem_append.mp (List.mem_of_getElem? h) with h | h
  · obtain ⟨d, _, rfl⟩ := List.mem_map.mp h
    rfl
  · rw [(List.mem_replicate.mp h).2]; rfl
theorem sd_start {hid : Addr → Bool} {H : Hp} {N : List Str} {vs : List V} (dom : ∀ a, hid a = true → H a ≠ none) (muh : ∀ a, c.mu a = true → hid a = true) (b : c.B hid H) (r : RpAll c.K (Hm hid H) vs ds) : SD c hid hid H H (L2.start N vs) (startS N ds) := by
  have hl := r.length
  refine ⟨⟨dom, muh, b, ?_⟩, fun _ h => h, .refl, fun a h1 h2 => (by rw [h1] at h2; cases h2), fun i j o h1 => ?_, fun i o h1 => ?_⟩
  · unfold L2.start startS
    rw [hl]
    exact slall_im r
  · obtain ⟨_, s, h2, h3⟩ := h1
    rw [owns_im h2] at h3; cases h3
  · obtain ⟨_, s, h2, h3⟩ := h1
    rw [owns_im h2] at h3; cases h3
end
section
variable {P : Program} {w : World} {K : PySem.W.Frag} {mg : Str → Option Value} {base : Heap}
abbrev cxD (P : Program) (w : World) (K : PySem.W.Frag) (mg : Str → Option Value) (base : Heap) (N : List Str) (qual : Str) (st : Stmt) (f : Addr) (cdv : Value) (A : Around) (outer : List Env) (s : Shared) (H : Hp) (E : XK) : Cx := (cxOf CX0 P w K mg base N qual (defScope st) f cdv A outer s H E).nox
theorem fn_pure {x qual : Str} {st : Stmt} {f : Addr} {fd : FuncData} {N ps : List Str} {k : Nat} {S : List Dt → (Dt → Prop) → Prop} (F : Fun K x qual st f fd) (Sc : FnScope N ps (defScope st)) (len : ∀ ds Q, S ds Q → ds.length = ps.length)
    (hb : ∀ (cdv : Value) (A : Around) (outer : List Env) (s : Shared) (H : Hp) (E : XK), Room k (A.deeper (envOfC qual (defScope st) s.heap.objs.size f cdv)) →
      ∃ t, PSs (cxD P w K mg base N qual st f cdv A outer s H E) (defBody st) t ∧ ∀ ds Q, S ds Q → ∀ hid H0 (D : Ends), (∀ a, hid a = true → H0 a ≠ none) → RetOk (Cn.pure K) hid H0 Q D → NJ (Cn.pure K) hid H0 (t D) (startS N ds)) :
    FnOk P w K mg base CX0 (k + 1) f fd ps (spP K S) := by
  refine F.ok Sc (fun vs H Q E h => ?_) (fun cdv A outer s H vs Q E hr h => ?_)
  · obtain ⟨hid, ds, Q', _, r, hS, _⟩ := h
    rw [r.length]
    exact len ds Q' hS
  · obtain ⟨hid, ds, Q', dom, r, hS, q⟩ := h
    obtain ⟨t, ht, hn⟩ := hb cdv A outer s H E hr
    refine ⟨t, ht, hn ds Q' hS hid H _ dom ⟨fun d hd v H' e _ r => q d v H' hd e r, fun hd ρ hd' H' σ sd => q .non .non H' hd sd.ext .non⟩ hid H _ (sd_start dom (fun _ h => nomatch h) trivial r)⟩
theorem fn_pureN {x qual : Str} {st : Stmt} {f : Addr} {fd : FuncData} {N ps : List Str} {k : Nat} {S : List Dt → (List Dt → Prop) → Prop} (F : Fun K x qual st f fd) (Sc : FnScope N ps (defScope st)) (len : ∀ ds Q, S ds Q → ds.length = ps.length)
    (hb : ∀ (cdv : Value) (A : Around) (outer : List Env) (s : Shared) (H : Hp) (E : XK), Room k (A.deeper (envOfC qual (defScope st) s.heap.objs.size f cdv)) →
      ∃ t, PSs (cxD P w K mg base N qual st f cdv A outer s H E) (defBody st) t ∧ ∀ ds Q, S ds Q → ∀ hid H0 (D : Ends), (∀ a, hid a = true → H0 a ≠ none) → RetN (Cn.pure K) hid H0 Q D → NJ (Cn.pure K) hid H0 (t D) (startS N ds)) :
    FnOk P w K mg base CX0 (k + 1) f fd ps (spPN K S) := by
  refine F.ok Sc (fun vs H Q E h => ?_) (fun cdv A outer s H vs Q E hr h => ?_)
  · obtain ⟨hid, ds, Q', _, r, hS, _⟩ := h
    rw [r.length]
    exact len ds Q' hS
  · obtain ⟨hid, ds, Q', dom, r, hS, q⟩ := h
    obtain ⟨t, ht, hn⟩ := hb cdv A outer s H E hr
    exact ⟨t, ht, hn ds Q' hS hid H { nx := fun _ H' => Q .non H', rt := Q } dom ⟨fun d hd o vs H' e _ => q d o vs H' hd e⟩ hid H _ (sd_start dom (fun _ h => nomatch h) trivial r)⟩
end
end CC
namespace CC
open PySem PySem.Spec PyProof.Rows L2
open C8 (Cal pe_c pe_gc)
def FnAt (K : PySem.W.Frag) (mg : Str → Option Value) (x : Str) (st : Stmt) (ps : List Str) : Prop := ∃ f fd, mg x = some (.ref f) ∧ Fun K x x st f fd ∧ Binds K fd ps []
section
variable {P : Program} {w : World} {K : PySem.W.Frag} {mg : Str → Option Value} {base : Heap}
theorem cal_pure {x : Str} {st : Stmt} {N ps : List Str} {k : Nat} {S : List Dt → (Dt → Prop) → Prop} (F : FnAt K mg x st ps) (Sc : FnScope N ps (defScope st)) (len : ∀ ds Q, S ds Q → ds.length = ps.length)
    (hb : ∀ (f : Addr) (cdv : Value) (A : Around) (outer : List Env) (s : Shared) (H : Hp) (E : XK), Room k (A.deeper (envOfC x (defScope st) s.heap.objs.size f cdv)) →
      ∃ t, PSs (cxD P w K mg base N x st f cdv A outer s H E) (defBody st) t ∧ ∀ ds Q, S ds Q → ∀ hid H0 (D : Ends), (∀ a, hid a = true → H0 a ≠ none) → RetOk (Cn.pure K) hid H0 Q D → NJ (Cn.pure K) hid H0 (t D) (startS N ds)) :
    Cal P w K mg base (k + 1) x (spP K S) [] := by
  obtain ⟨f, fd, hm, F, b⟩ := F
  exact ⟨⟨f, fd, ps, [], fn_pure F Sc len (hb f), hm, F.kp, b, .nil⟩⟩
theorem cal_pureN {x : Str} {st : Stmt} {N ps : List Str} {k : Nat} {S : List Dt → (List Dt → Prop) → Prop} (F : FnAt K mg x st ps) (Sc : FnScope N ps (defScope st)) (len : ∀ ds Q, S ds Q → ds.length = ps.length)
    (hb : ∀ (f : Addr) (cdv : Value) (A : Around) (outer : List Env) (s : Shared) (H : Hp) (E : XK), Room k (A.deeper (envOfC x (defScope st) s.heap.objs.size f cdv)) →
      ∃ t, PSs (cxD P w K mg base N x st f cdv A outer s H E) (defBody st) t ∧ ∀ ds Q, S ds Q → ∀ hid H0 (D : Ends), (∀ a, hid a = true → H0 a ≠ none) → RetN (Cn.pure K) hid H0 Q D → NJ (Cn.pure K) hid H0 (t D) (startS N ds)) :
    Cal P w K mg base (k + 1) x (spPN K S) [] := by
  obtain ⟨f, fd, hm, F, b⟩ := F
  exact ⟨⟨f, fd, ps, [], fn_pureN F Sc len (hb f), hm, F.kp, b, .nil⟩⟩
theorem Cal.up {k j : Nat} {x : Str} {sp : Sp} {dvs : List V} (c : Cal P w K mg base k x sp dvs) (h : k ≤ j) : Cal P w K mg base j x sp dvs := by
  obtain ⟨f, fd, ps, ds, F, a⟩ := c.ex
  exact ⟨⟨f, fd, ps, ds, F.mono h, a⟩⟩
theorem et_yes {c : Cn} {ρ : List Sl} {Q : Bool → Prop} (h : Q true) : EVT c tYes ρ Q := fun hd H σ v Qh q => q true H h .refl v.inv
end
end CC
namespace CC
open PySem PySem.Spec PyProof.Rows L2
section
variable {c : Cn} {ρ : List Sl} {ta : TE} {Q : Dt → Prop}
theorem ev_neg (h : EV c ta ρ (IntJ fun i => Q (.int (-i)))) : EV c (tUn (rU fun i => .int (-i)) ta) ρ Q := fun hd H σ v Qh q => h hd H σ v _ fun d x H1 h1 e1 b1 r1 => by
  cases d with
  | int i => exact ⟨i, rp_int r1, q _ _ H1 h1 e1 b1 (.int _)⟩
  | _ => exact h1.elim
theorem ev_ixA {tb : TE} {i : Nat} {ds : List Dt} (hi : ρ[i]? = some (.ac ds)) (h : EV c tb ρ (IntJ fun k => ∃ d, atI ds k = some d ∧ Q d)) : EV c (tOp (rIx c.K) (tVar i) tb) ρ Q := ev_ixAc rix_ac hi h
end
end CC
namespace CC
def powB (b : Int) : Nat → Int → List Int
  | 0, x => [x]
  | n + 1, x => if x * b * b ≤ 10000 then x :: powB b n (x * b) else [x]
def pows (b : Int) : List Int := powB b 14 1
def perB (b : Int) : Nat := (pows b).length
theorem powB_len (b : Int) : ∀ n x, 1 ≤ (powB b n x).length
  | 0, _ => Nat.le_refl _
  | n + 1, x => by
    unfold powB
    split
    · rw [List.length_cons]; omega
    · exact Nat.le_refl _
theorem perB_pos (b : Int) : 1 ≤ perB b := powB_len b 14 1
theorem powB_at (b : Int) : ∀ (n : Nat) (x : Int) (k : Nat), k < (powB b n x).length → (powB b n x)[k]? = some (x * b ^ k)
  | 0, x, k, h => by
    have : k = 0 := by
      have : k < 1 := h
      omega
    subst this
    show some x = some (x * b ^ 0)
    rw [Int.pow_zero, Int.mul_one]
  | n + 1, x, k, h => by
    unfold powB at h ⊢
    split at h
    · rename_i hc
      rw [if_pos hc]
      cases k with
      | zero => rw [Int.pow_zero, Int.mul_one]; rfl
      | succ k =>
        have hk : k < (powB b n (x * b)).length := by
          rw [List.length_cons] at h; omega
        rw [List.getElem?_cons_succ, powB_at b n (x * b) k hk, Int.pow_succ, Int.mul_assoc, Int.mul_comm b]
    · rename_i hc
      rw [if_neg hc]
      have : k = 0 := by
        have : k < 1 := h
        omega
      subst this
      show some x = some (x * b ^ 0)
      rw [Int.pow_zero, Int.mul_one]
theorem pows_at {b : Int} {k : Nat} (h : k < perB b) : (pows b)[k]? = some (b ^ k) := by
  have := powB_at b 14 1 k h
  rw [Int.one_mul] at this
  exact this
theorem powB_le {b : Int} (hb : 2 ≤ b) : ∀ (n : Nat) (x : Int), 1 ≤ x → x * b ≤ 10000 → ∀ p ∈ powB b n x, 1 ≤ p ∧ p * b ≤ 10000
  | 0, x, h1, h2, p, hp => by
    rw [List.mem_singleton.mp hp]; exact ⟨h1, h2⟩
  | n + 1, x, h1, h2, p, hp => by
    unfold powB at hp
    split at hp
    · rename_i hc
      rcases List.mem_cons.mp hp with rfl | hp
      · exact ⟨h1, h2⟩
      · refine powB_le hb n (x * b) ?_ hc p hp
        have : x * 1 ≤ x * b := Int.mul_le_mul_of_nonneg_left (by omega) (by omega)
        omega
    · rw [List.mem_singleton.mp hp]; exact ⟨h1, h2⟩
theorem pows_le {b p : Int} (hb : 2 ≤ b) (hb2 : b ≤ 10000) (hp : p ∈ pows b) : 1 ≤ p ∧ p ≤ 10000 := by
  obtain ⟨h1, h2⟩ := powB_le hb 14 1 (by omega) (by omega) p hp
  refine ⟨h1, ?_⟩
  have : p * 1 ≤ p * b := Int.mul_le_mul_of_nonneg_left (by omega) (by omega)
  omega
theorem pow_le {b : Int} (hb : 2 ≤ b) (hb2 : b ≤ 10000) {k : Nat} (h : k < perB b) : 1 ≤ b ^ k ∧ b ^ k ≤ 10000 := pows_le hb hb2 (List.mem_of_getElem? (pows_at h))
def dsum (b : Int) : List Int → Int
  | [] => 0
  | x :: r => x + b * dsum b r
theorem dsum_snoc (b x : Int) : ∀ l : List Int, dsum b (l ++ [x]) = dsum b l + x * b ^ l.length
  | [] => by
    show x + b * 0 = 0 + x * b ^ 0
    rw [Int.pow_zero]; omega
  | y :: r => by
    show y + b * dsum b (r ++ [x]) = y + b * dsum b r + x * b ^ (r.length + 1)
    rw [dsum_snoc b x r, Int.pow_succ, Int.mul_add, Int.add_assoc, ← Int.mul_assoc x, Int.mul_comm (x * b ^ r.length) b]
def chunks (n : Nat) (l : List Int) : List (List Int) :=
  if h : l = [] ∨ n = 0 then [] else l.take n :: chunks n (l.drop n)
termination_by l.length
decreasing_by
  simp only [not_or] at h
  have : 0 < l.length := List.length_pos_iff.mpr h.1
  rw [List.length_drop]; omega
theorem chunks_nil (n : Nat) : chunks n [] = [] := by rw [chunks, dif_pos (.inl rfl)]
theorem chunks_cons {n : Nat} {l : List Int} (hn : 0 < n) (h : l ≠ []) : chunks n l = l.take n :: chunks n (l.drop n) := by
  rw [chunks, dif_neg (by simp only [not_or]; exact ⟨h, by omega⟩)]
theorem chunks_small {n : Nat} {l : List Int} (hn : 0 < n) (h : l ≠ []) (hl : l.length ≤ n) : chunks n l = [l] := by
  rw [chunks_cons hn h, List.take_of_length_le hl, List.drop_of_length_le hl, chunks_nil]
theorem chunks_len {n : Nat} (hn : 0 < n) : ∀ (m : Nat) (l : List Int), l.length ≤ m → (chunks n l).length = (l.length + n - 1) / n
  | m, [], _ => by
    rw [chunks_nil]
    show 0 = (0 + n - 1) / n
    rw [Nat.div_eq_of_lt (by omega)]
  | 0, x :: r, h => by simp at h
  | m + 1, x :: r, h => by
    rw [chunks_cons hn (by simp), List.length_cons, chunks_len hn m _ (by rw [List.length_drop]; rw [List.length_cons] at h ⊢; omega), List.length_drop]
    by_cases hl : (x :: r).length ≤ n
    · rw [Nat.sub_eq_zero_of_le hl, Nat.div_eq_of_lt (by omega)]
      rw [List.length_cons] at hl ⊢
      rw [show r.length + 1 + n - 1 = r.length + n by omega]
      rw [Nat.add_div_right _ hn, Nat.div_eq_of_lt (by omega)]
    · rw [show (x :: r).length + n - 1 = ((x :: r).length - n + n - 1) + n by omega, Nat.add_div_right _ hn]
theorem chunks_snoc {n : Nat} (hn : 0 < n) (x : Int) : ∀ (m : Nat) (l : List Int), l.length ≤ m →
    (l.length % n = 0 → chunks n (l ++ [x]) = chunks n l ++ [[x]]) ∧
    (l.length % n ≠ 0 → ∃ cs ch, chunks n l = cs ++ [ch] ∧ ch.length = l.length % n ∧ chunks n (l ++ [x]) = cs ++ [ch ++ [x]])
  | m, [], _ => by
    refine ⟨fun _ => ?_, fun h => absurd (Nat.zero_mod n) h⟩
    rw [chunks_nil]
    exact chunks_small hn (by simp) (by simp; omega)
  | 0, y :: r, h => by simp at h
  | m + 1, y :: r, h => by
    by_cases hl : (y :: r).length < n
    · refine ⟨fun e => ?_, fun _ => ⟨[], y :: r, ?_, ?_, ?_⟩⟩
      · rw [Nat.mod_eq_of_lt hl] at e; simp at e
      · exact chunks_small hn (by simp) (by omega)
      · rw [Nat.mod_eq_of_lt hl]
      · exact chunks_small hn (by simp) (by rw [List.length_append]; simp at hl ⊢; omega)
    · have hle : n ≤ (y :: r).length := by omega
      have e1 : chunks n (y :: r) = (y :: r).take n :: chunks n ((y :: r).drop n) := chunks_cons hn (by simp)
      have e2 : chunks n (y :: r ++ [x]) = (y :: r).take n :: chunks n ((y :: r).drop n ++ [x]) := by
        rw [chunks_cons hn (by simp), List.take_append_of_le_length hle, List.drop_append_of_le_length hle]
      have hd : ((y :: r).drop n).length = (y :: r).length - n := List.length_drop
      have hmod : ((y :: r).drop n).length % n = (y :: r).length % n := by
        rw [hd, ← Nat.mod_eq_sub_mod hle]
      obtain ⟨i1, i2⟩ := chunks_snoc hn x m ((y :: r).drop n) (by rw [hd]; rw [List.length_cons] at h ⊢; omega)
      refine ⟨fun e => ?_, fun e => ?_⟩
      · rw [e1, e2, i1 (by rw [hmod]; exact e)]; rfl
      · obtain ⟨cs, ch, h1, h2, h3⟩ := i2 (by rw [hmod]; exact e)
        exact ⟨(y :: r).take n :: cs, ch, by rw [e1, h1]; rfl, by rw [h2, hmod], by rw [e2, h3]; rfl⟩
theorem chunks_at {n : Nat} (hn : 0 < n) : ∀ (m : Nat) (l : List Int) (k : Nat), l.length ≤ m → k < l.length → (chunks n l)[k / n]? = some ((l.drop (n * (k / n))).take n)
  | _, [], k, _, hk => by simp at hk
  | 0, x :: r, k, h, _ => by simp at h
  | m + 1, x :: r, k, h, hk => by
    rw [chunks_cons hn (by simp)]
    by_cases hkn : k < n
    · rw [Nat.div_eq_of_lt hkn, Nat.mul_zero]; rfl
    · have e : k / n = (k - n) / n + 1 := by rw [Nat.div_eq_sub_div hn (by omega)]
      rw [e, List.getElem?_cons_succ, chunks_at hn m _ (k - n) (by rw [List.length_drop]; rw [List.length_cons] at h ⊢; omega) (by rw [List.length_drop]; omega), List.drop_drop, Nat.mul_add, Nat.mul_one, Nat.add_comm n]
theorem dsum_digit {b : Int} (hb : 2 ≤ b) : ∀ (l : List Int) (k : Nat), (∀ x ∈ l, 0 ≤ x ∧ x < b) → dsum b l / b ^ k % b = l.getD k 0
  | [], k, _ => by
    show (0 : Int) / b ^ k % b = _
    rw [Int.zero_ediv]; simp
  | x :: r, 0, h => by
    obtain ⟨h1, h2⟩ := h x List.mem_cons_self
    show (x + b * dsum b r) / b ^ 0 % b = x
    rw [Int.pow_zero, Int.ediv_one, Int.add_mul_emod_self_left, Int.emod_eq_of_lt h1 h2]
  | x :: r, k + 1, h => by
    obtain ⟨h1, h2⟩ := h x List.mem_cons_self
    show (x + b * dsum b r) / b ^ (k + 1) % b = r.getD k 0
    have e : (x + b * dsum b r) / b = dsum b r := by
      rw [Int.add_mul_ediv_left _ _ (by omega), Int.ediv_eq_zero_of_lt h1 h2, Int.zero_add]
    rw [show b ^ (k + 1) = b * b ^ k by rw [Int.pow_succ, Int.mul_comm], ← Int.ediv_ediv_of_nonneg (by omega), e, dsum_digit hb r k fun y hy => h y (List.mem_cons_of_mem _ hy)]
def packI (b : Int) (vs : List Int) : List Int := (chunks (perB b) vs).map (dsum b)
theorem packI_len (b : Int) (vs : List Int) : (packI b vs).length = (vs.length + perB b - 1) / perB b := by
  unfold packI
  rw [List.length_map, chunks_len (perB_pos b) _ vs (Nat.le_refl _)]
theorem packI_get {b : Int} (hb : 2 ≤ b) {vs : List Int} (h : ∀ x ∈ vs, 0 ≤ x ∧ x < b) {k : Nat} (hk : k < vs.length) : ∃ cl, (packI b vs)[k / perB b]? = some cl ∧ cl / b ^ (k % perB b) % b = vs[k] := by
  have hn := perB_pos b
  refine ⟨dsum b ((vs.drop (perB b * (k / perB b))).take (perB b)), ?_, ?_⟩
  · unfold packI
    rw [List.getElem?_map, chunks_at hn _ vs k (Nat.le_refl _) hk]; rfl
  · rw [dsum_digit hb _ _ fun x hx => h x (List.mem_of_mem_drop (List.mem_of_mem_take hx))]
    have hm := Nat.mod_lt k (show perB b > 0 by omega)
    have hdm := Nat.div_add_mod k (perB b)
    rw [List.getD_eq_getElem?_getD, List.getElem?_take, if_pos hm, List.getElem?_drop, hdm, List.getElem?_eq_getElem hk]; rfl
end CC
namespace CC
def ins (x : Int) : List Int → List Int
  | [] => [x]
  | y :: r => if x < y then x :: y :: r else if x = y then y :: r else y :: ins x r
def uniq (vs : List Int) : List Int := vs.foldr ins []
theorem mem_ins {x k : Int} : ∀ {l : List Int}, k ∈ ins x l ↔ k = x ∨ k ∈ l
  | [] => by simp [ins]
  | y :: r => by
    unfold ins
    split
    · simp
    · split
      · rename_i e
        subst e
        simp
      · simp only [List.mem_cons, mem_ins (l := r)]
        constructor
        · rintro (h | h | h)
          · exact .inr (.inl h)
          · exact .inl h
          · exact .inr (.inr h)
        · rintro (h | h | h)
          · exact .inr (.inl h)
          · exact .inl h
          · exact .inr (.inr h)
theorem pw_ins {x : Int} : ∀ {l : List Int}, l.Pairwise (· < ·) → (ins x l).Pairwise (· < ·)
  | [], _ => by simp [ins]
  | y :: r, h => by
    obtain ⟨h1, h2⟩ := List.pairwise_cons.mp h
    unfold ins
    split
    · rename_i hx
      refine List.pairwise_cons.mpr ⟨fun z hz => ?_, h⟩
      rcases List.mem_cons.mp hz with rfl | hz
      · exact hx
      · have := h1 z hz; omega
    · split
      · exact h
      · rename_i h3 h4
        refine List.pairwise_cons.mpr ⟨fun z hz => ?_, pw_ins h2⟩
        rcases mem_ins.mp hz with rfl | hz
        · omega
        · exact h1 z hz
theorem mem_uniq {k : Int} : ∀ {vs : List Int}, k ∈ uniq vs ↔ k ∈ vs
  | [] => by simp [uniq]
  | x :: r => by
    show k ∈ ins x (uniq r) ↔ _
    rw [mem_ins, mem_uniq, List.mem_cons]
theorem pw_uniq : ∀ (vs : List Int), (uniq vs).Pairwise (· < ·)
  | [] => .nil
  | x :: r => pw_ins (pw_uniq r)
theorem pw_eq : ∀ {us ws : List Int}, us.Pairwise (· < ·) → ws.Pairwise (· < ·) → (∀ k, k ∈ us ↔ k ∈ ws) → us = ws
  | [], [], _, _, _ => rfl
  | [], w :: r, _, _, h => by simpa using (h w).mpr List.mem_cons_self
  | u :: r, [], _, _, h => by simpa using (h u).mp List.mem_cons_self
  | u :: r, w :: s, hu, hw, h => by
    obtain ⟨u1, u2⟩ := List.pairwise_cons.mp hu
    obtain ⟨w1, w2⟩ := List.pairwise_cons.mp hw
    have e : u = w := by
      rcases List.mem_cons.mp ((h u).mp List.mem_cons_self) with e | e
      · exact e
      · rcases List.mem_cons.mp ((h w).mpr List.mem_cons_self) with e2 | e2
        · exact e2.symm
        · have := w1 u e; have := u1 w e2; omega
    subst e
    rw [pw_eq u2 w2 fun k => ?_]
    constructor
    · intro hk
      rcases List.mem_cons.mp ((h k).mp (List.mem_cons_of_mem _ hk)) with e | e
      · have := u1 k hk; omega
      · exact e
    · intro hk
      rcases List.mem_cons.mp ((h k).mpr (List.mem_cons_of_mem _ hk)) with e | e
      · have := w1 k hk; omega
      · exact e
theorem uniq_is {us vs : List Int} (h1 : us.Pairwise (· < ·)) (h2 : ∀ k, k ∈ us ↔ k ∈ vs) : us = uniq vs := pw_eq h1 (pw_uniq vs) fun k => by rw [h2, mem_uniq]
theorem nodup_of_pw : ∀ {l : List Int}, l.Pairwise (· < ·) → l.Nodup
  | [], _ => .nil
  | x :: r, h => by
    obtain ⟨h1, h2⟩ := List.pairwise_cons.mp h
    exact List.nodup_cons.mpr ⟨fun hx => by have := h1 x hx; omega, nodup_of_pw h2⟩
theorem nodup_len_le : ∀ (ks ns : List Int), ks.Nodup → (∀ k ∈ ks, k ∈ ns) → ks.length ≤ ns.length
  | [], _, _, _ => Nat.zero_le _
  | k :: r, ns, h, hs => by
    obtain ⟨h1, h2⟩ := List.nodup_cons.mp h
    have hk := hs k List.mem_cons_self
    have ih := nodup_len_le r (ns.erase k) h2 fun x hx => (List.mem_erase_of_ne fun e => h1 (by rw [← e]; exact hx)).mpr (hs x (List.mem_cons_of_mem _ hx))
    rw [List.length_erase_of_mem hk] at ih
    have := List.length_pos_of_mem hk
    rw [List.length_cons]
    omega
theorem uniq_len {us vs : List Int} (h1 : us.Nodup) (h2 : ∀ k, k ∈ us ↔ k ∈ vs) : us.length = (uniq vs).length := by
  have a := nodup_len_le us (uniq vs) h1 fun k hk => mem_uniq.mpr ((h2 k).mp hk)
  have b := nodup_len_le (uniq vs) us (nodup_of_pw (pw_uniq vs)) fun k hk => (h2 k).mpr (mem_uniq.mp hk)
  omega
theorem uniq_le (vs : List Int) : (uniq vs).length ≤ vs.length := nodup_len_le _ _ (nodup_of_pw (pw_uniq vs)) fun k hk => mem_uniq.mp hk
theorem uniq_pos {vs : List Int} (h : vs ≠ []) : 1 ≤ (uniq vs).length := by
  cases vs with
  | nil => exact absurd rfl h
  | cons x r => exact List.length_pos_of_mem (mem_uniq.mpr List.mem_cons_self)
def posOf (x : Int) : List Int → Nat
  | [] => 0
  | y :: r => if y = x then 0 else posOf x r + 1
theorem posOf_at {x : Int} : ∀ {l : List Int}, x ∈ l → l[posOf x l]? = some x
  | y :: r, h => by
    unfold posOf
    split
    · rename_i e; rw [e]; rfl
    · rename_i e
      rw [List.getElem?_cons_succ]
      exact posOf_at ((List.mem_cons.mp h).resolve_left fun z => e z.symm)
theorem posOf_first {x : Int} : ∀ {l : List Int} {m : Nat}, m < posOf x l → l[m]? ≠ some x
  | [], m, h => by simp [posOf] at h
  | y :: r, m, h => by
    unfold posOf at h
    split at h
    · omega
    · rename_i e
      cases m with
      | zero => intro z; exact e (Option.some.inj z)
      | succ m =>
        show r[m]? ≠ some x
        exact posOf_first (l := r) (m := m) (by omega)
theorem posOf_lt {x : Int} {l : List Int} (h : x ∈ l) : posOf x l < l.length := (List.getElem?_eq_some_iff.mp (posOf_at h)).1
def minL : List Int → Int
  | [] => 0
  | x :: r => r.foldl min x
def maxL : List Int → Int
  | [] => 0
  | x :: r => r.foldl max x
theorem foldl_min : ∀ (r : List Int) (x : Int), (r.foldl min x = x ∨ r.foldl min x ∈ r) ∧ r.foldl min x ≤ x ∧ ∀ y ∈ r, r.foldl min x ≤ y
  | [], x => ⟨.inl rfl, Int.le_refl _, fun y h => by simp at h⟩
  | z :: r, x => by
    obtain ⟨h1, h2, h3⟩ := foldl_min r (min x z)
    show ((r.foldl min (min x z)) = x ∨ _) ∧ _
    refine ⟨?_, by rw [List.foldl_cons]; omega, fun y hy => ?_⟩
    · rcases h1 with h1 | h1
      · rw [List.foldl_cons, h1]
        by_cases hx : x ≤ z
        · left; omega
        · right; rw [show min x z = z by omega]; exact List.mem_cons_self
      · right; exact List.mem_cons_of_mem _ h1
    · rcases List.mem_cons.mp hy with rfl | hy
      · rw [List.foldl_cons]; omega
      · exact h3 y hy
theorem foldl_max : ∀ (r : List Int) (x : Int), (r.foldl max x = x ∨ r.foldl max x ∈ r) ∧ x ≤ r.foldl max x ∧ ∀ y ∈ r, y ≤ r.foldl max x
  | [], x => ⟨.inl rfl, Int.le_refl _, fun y h => by simp at h⟩
  | z :: r, x => by
    obtain ⟨h1, h2, h3⟩ := foldl_max r (max x z)
    show ((r.foldl max (max x z)) = x ∨ _) ∧ _
    refine ⟨?_, by rw [List.foldl_cons]; omega, fun y hy => ?_⟩
    · rcases h1 with h1 | h1
      · rw [List.foldl_cons, h1]
        by_cases hx : z ≤ x
        · left; omega
        · right; rw [show max x z = z by omega]; exact List.mem_cons_self
      · right; exact List.mem_cons_of_mem _ h1
    · rcases List.mem_cons.mp hy with rfl | hy
      · rw [List.foldl_cons]; omega
      · exact h3 y hy
theorem minL_mem {vs : List Int} (h : vs ≠ []) : minL vs ∈ vs := by
  cases vs with
  | nil => exact absurd rfl h
  | cons x r =>
    rcases (foldl_min r x).1 with e | e
    · show r.foldl min x ∈ _; rw [e]; exact List.mem_cons_self
    · exact List.mem_cons_of_mem _ e
theorem minL_le {vs : List Int} {y : Int} (h : y ∈ vs) : minL vs ≤ y := by
  cases vs with
  | nil => simp at h
  | cons x r =>
    rcases List.mem_cons.mp h with rfl | h
    · exact (foldl_min r _).2.1
    · exact (foldl_min r x).2.2 y h
theorem maxL_mem {vs : List Int} (h : vs ≠ []) : maxL vs ∈ vs := by
  cases vs with
  | nil => exact absurd rfl h
  | cons x r =>
    rcases (foldl_max r x).1 with e | e
    · show r.foldl max x ∈ _; rw [e]; exact List.mem_cons_self
    · exact List.mem_cons_of_mem _ e
theorem le_maxL {vs : List Int} {y : Int} (h : y ∈ vs) : y ≤ maxL vs := by
  cases vs with
  | nil => simp at h
  | cons x r =>
    rcases List.mem_cons.mp h with rfl | h
    · exact (foldl_max r _).2.1
    · exact (foldl_max r x).2.2 y h
theorem minL_is {vs : List Int} {m : Int} (h1 : m ∈ vs) (h2 : ∀ y ∈ vs, m ≤ y) : m = minL vs := by
  have a := h2 _ (minL_mem (fun e => by rw [e] at h1; simp at h1))
  have b := minL_le h1
  omega
theorem maxL_is {vs : List Int} {m : Int} (h1 : m ∈ vs) (h2 : ∀ y ∈ vs, y ≤ m) : m = maxL vs := by
  have a := h2 _ (maxL_mem (fun e => by rw [e] at h1; simp at h1))
  have b := le_maxL h1
  omega
def spanL (vs : List Int) : Int := maxL vs - minL vs
theorem spanL_nn {vs : List Int} (h : vs ≠ []) : 0 ≤ spanL vs := by
  have := minL_le (maxL_mem h)
  unfold spanL; omega
def dif : List Int → List Int
  | x :: y :: r => (y - x) :: dif (y :: r)
  | _ => []
theorem dif_len : ∀ vs : List Int, (dif vs).length = vs.length - 1
  | [] => rfl
  | [_] => rfl
  | x :: y :: r => by
    show (dif (y :: r)).length + 1 = _
    rw [dif_len (y :: r)]
    simp
theorem dif_at : ∀ {vs : List Int} {k : Nat} {x y : Int}, vs[k]? = some x → vs[k + 1]? = some y → (dif vs)[k]? = some (y - x)
  | [], _, _, _, h, _ => by simp at h
  | [_], _, _, _, _, h => by simp at h
  | a :: b :: r, 0, x, y, h1, h2 => by
    cases Option.some.inj h1
    cases Option.some.inj h2
    rfl
  | a :: b :: r, k + 1, x, y, h1, h2 => dif_at (vs := b :: r) (k := k) h1 h2
end CC
namespace CC
def unpI (b : Int) (cs : List Int) (k : Nat) : Int := cs.getD (k / perB b) 0 / b ^ (k % perB b) % b
theorem unp_at {b : Int} (hb : 2 ≤ b) {ws : List Int} (h : ∀ x ∈ ws, 0 ≤ x ∧ x < b) {k : Nat} (hk : k < ws.length) : k / perB b < (packI b ws).length ∧ unpI b (packI b ws) k = ws[k] := by
  obtain ⟨cl, h1, h2⟩ := packI_get hb h hk
  refine ⟨(List.getElem?_eq_some_iff.mp h1).1, ?_⟩
  unfold unpI
  rw [List.getD_eq_getElem?_getD, h1]
  exact h2
theorem unp_take {b : Int} (hb : 2 ≤ b) {ws : List Int} (h : ∀ x ∈ ws, 0 ≤ x ∧ x < b) {m : Nat} (hm : m ≤ ws.length) : (List.range m).map (unpI b (packI b ws)) = ws.take m := by
  apply List.ext_getElem?
  intro k
  rw [List.getElem?_map, List.getElem?_take]
  by_cases hk : k < m
  · rw [List.getElem?_range hk, if_pos hk, List.getElem?_eq_getElem (by omega)]
    show some (unpI b (packI b ws) k) = _
    rw [(unp_at hb h (by omega)).2]
  · rw [if_neg hk, List.getElem?_eq_none (by rw [List.length_range]; omega)]; rfl
inductive Fm where
  | plain (vs : List Int) | one (n : Nat) (v : Int) | codes (n : Nat) (us cs : List Int) | near (n : Nat) (lo sp : Int) (cs : List Int) | steps (n : Nat) (f lo sp : Int) (cs : List Int)
def abv (vs : List Int) : Option (Int × Int × List Int) := if spanL vs + 1 > 10000 then none else some (minL vs, spanL vs, if spanL vs > 0 then packI (spanL vs + 1) (vs.map (· - minL vs)) else [])
def layOne (vs : List Int) : Option Fm := if (uniq vs).length = 1 then some (.one vs.length (vs.headD 0)) else none
def layCodes (vs : List Int) : Option Fm := if (uniq vs).length < 2 then none else some (.codes vs.length (uniq vs) (packI (uniq vs).length (vs.map fun v => (posOf v (uniq vs) : Int))))
def layNear (vs : List Int) : Option Fm := match abv vs with
  | none => none
  | some (lo, sp, cs) => if sp = 0 then none else some (.near vs.length lo sp cs)
def laySteps (vs : List Int) : Option Fm := if vs.length < 2 then none else match abv (dif vs) with
  | none => none
  | some (lo, sp, cs) => some (.steps vs.length (vs.headD 0) lo sp cs)
def lay : Nat → List Int → Option Fm
  | 0, vs => some (.plain vs)
  | 1, vs => layOne vs
  | 2, vs => layCodes vs
  | 3, vs => layNear vs
  | _, vs => laySteps vs
def Fm.room : Fm → Nat
  | .plain vs => 1 + vs.length
  | .one _ _ => 3
  | .codes _ us cs => 2 + us.length + cs.length
  | .near _ _ _ cs => 4 + cs.length
  | .steps _ _ _ _ cs => 5 + cs.length
def Fm.size : Fm → Nat
  | .plain vs => vs.length
  | .one n _ => n
  | .codes n _ _ => n
  | .near n _ _ _ => n
  | .steps n _ _ _ _ => n
def ceilB (b : Int) (n : Nat) : Nat := (n + perB b - 1) / perB b
def cellsAbove (vs : List Int) (more : Nat) : Option Nat := if spanL vs + 1 > 10000 then none else some (if spanL vs = 0 then more else more + ceilB (spanL vs + 1) vs.length)
def cellsOf : Nat → List Int → Option Nat
  | 0, vs => some (1 + vs.length)
  | 1, vs => if (uniq vs).length = 1 then some 3 else none
  | 2, vs => if (uniq vs).length > 1 then some (2 + (uniq vs).length + ceilB (uniq vs).length vs.length) else none
  | 3, vs => if (uniq vs).length > 1 then cellsAbove vs 4 else none
  | _, vs => if dif vs ≠ [] then cellsAbove (dif vs) 5 else none
theorem span_zero {vs : List Int} (h : vs ≠ []) : spanL vs = 0 ↔ (uniq vs).length = 1 := by
  constructor
  · intro e
    have h1 : ∀ k, k ∈ [minL vs] ↔ k ∈ vs := fun k => by
      rw [List.mem_singleton]
      constructor
      · rintro rfl; exact minL_mem h
      · intro hk
        have a := minL_le hk
        have b := le_maxL hk
        unfold spanL at e
        omega
    rw [← uniq_is (us := [minL vs]) (by simp) h1]; rfl
  · intro e
    obtain ⟨x, hx⟩ : ∃ x, uniq vs = [x] := by
      match hu : uniq vs, e with
      | [x], _ => exact ⟨x, rfl⟩
    have h1 : maxL vs ∈ uniq vs := mem_uniq.mpr (maxL_mem h)
    have h2 : minL vs ∈ uniq vs := mem_uniq.mpr (minL_mem h)
    rw [hx, List.mem_singleton] at h1 h2
    unfold spanL
    omega
theorem dif_ne {vs : List Int} : dif vs ≠ [] ↔ ¬ vs.length < 2 := by
  have := dif_len vs
  constructor
  · intro h
    have := List.length_pos_iff.mpr h
    omega
  · intro h e
    rw [e] at this
    simp at this
    omega
theorem abv_no {vs : List Int} (h : spanL vs + 1 > 10000) : abv vs = none := if_pos h
theorem abv_yes {vs : List Int} (h : ¬ spanL vs + 1 > 10000) : abv vs = some (minL vs, spanL vs, if spanL vs > 0 then packI (spanL vs + 1) (vs.map (· - minL vs)) else []) := if_neg h
theorem abv_cells {vs : List Int} {more : Nat} : cellsAbove vs more = (abv vs).map fun z => more + (if spanL vs > 0 then z.2.2.length else 0) := by
  unfold cellsAbove abv
  split
  · rfl
  · simp only [Option.map_some]
    congr 1
    by_cases h0 : spanL vs = 0
    · rw [if_pos h0, if_neg (by omega)]; rfl
    · by_cases hp : spanL vs > 0
      · rw [if_neg h0, if_pos hp, if_pos hp, packI_len, List.length_map]; rfl
      · exfalso
        cases vs with
        | nil => exact h0 rfl
        | cons x r => have := spanL_nn (vs := x :: r) (by simp); omega
theorem cells_room {vs : List Int} (h : vs ≠ []) : ∀ k, cellsOf k vs = (lay k vs).map Fm.room
  | 0 => rfl
  | 1 => by
    show (if (uniq vs).length = 1 then some 3 else none) = (layOne vs).map Fm.room
    unfold layOne
    split <;> rfl
  | 2 => by
    show (if (uniq vs).length > 1 then some (2 + (uniq vs).length + ceilB (uniq vs).length vs.length) else none) = (layCodes vs).map Fm.room
    unfold layCodes
    by_cases hu : (uniq vs).length > 1
    · rw [if_pos hu, if_neg (by omega)]
      show _ = some (2 + (uniq vs).length + _)
      rw [packI_len, List.length_map]; rfl
    · rw [if_neg hu, if_pos (by omega)]; rfl
  | 3 => by
    show (if (uniq vs).length > 1 then cellsAbove vs 4 else none) = (layNear vs).map Fm.room
    have hz := span_zero h
    have hp := uniq_pos h
    have hn := spanL_nn h
    rw [abv_cells]
    unfold layNear
    by_cases hu : (uniq vs).length > 1
    · rw [if_pos hu]
      have n0 : ¬ spanL vs = 0 := fun e => by rw [hz] at e; omega
      by_cases hb : spanL vs + 1 > 10000
      · rw [abv_no hb]; rfl
      · rw [abv_yes hb]
        show some (4 + _) = Option.map Fm.room (if spanL vs = 0 then none else some _)
        rw [if_neg n0, if_pos (show spanL vs > 0 by omega)]; rfl
    · rw [if_neg hu]
      have e0 : spanL vs = 0 := hz.mpr (by omega)
      rw [abv_yes (by omega)]
      show none = Option.map Fm.room (if spanL vs = 0 then none else some _)
      rw [if_pos e0]; rfl
  | k + 4 => by
    show (if dif vs ≠ [] then cellsAbove (dif vs) 5 else none) = (laySteps vs).map Fm.room
    rw [abv_cells]
    unfold laySteps
    by_cases hd : dif vs ≠ []
    · rw [if_pos hd, if_neg (dif_ne.mp hd)]
      by_cases hb : spanL (dif vs) + 1 > 10000
      · rw [abv_no hb]; rfl
      · rw [abv_yes hb]
        show some (5 + _) = some (5 + _)
        by_cases hp : spanL (dif vs) > 0
        · rw [if_pos hp]
        · rw [if_neg hp, if_neg hp]; rfl
    · rw [if_neg hd, if_pos (by have := mt dif_ne.mpr hd; omega)]; rfl
theorem sum_dif (lo : Int) : ∀ (vs : List Int) (k : Nat) (x : Int), vs[k]? = some x → (((dif vs).map (· - lo)).take k).sum = x - vs.headD 0 - lo * k
  | [], k, x, h => by simp at h
  | a :: r, 0, x, h => by
    cases Option.some.inj h
    simp
  | [a], k + 1, x, h => by simp at h
  | a :: b :: r, k + 1, x, h => by
    have ih := sum_dif lo (b :: r) k x h
    show ((b - a - lo) :: ((dif (b :: r)).map (· - lo)).take k).sum = _
    rw [List.sum_cons, ih]
    show b - a - lo + (x - b - lo * k) = x - a - lo * ((k + 1 : Nat) : Int)
    rw [Int.natCast_add, Int.mul_add]
    omega
theorem layNear_eq {vs : List Int} {lo sp : Int} {cs : List Int} (h : abv vs = some (lo, sp, cs)) : layNear vs = if sp = 0 then none else some (.near vs.length lo sp cs) := by unfold layNear; rw [h]
theorem layNear_no {vs : List Int} (h : abv vs = none) : layNear vs = none := by unfold layNear; rw [h]
end CC
namespace CC
open PySem PySem.Spec PyProof.Rows L2
theorem intJ {Q : Int → Prop} {i : Int} (h : Q i) : IntJ Q (.int i) := h
theorem blJ {Q : Bool → Prop} {i : Bool} (h : Q i) : BlJ Q (.bl i) := h
theorem lstJ {Q : List Dt → Prop} {i : List Dt} (h : Q i) : LstJ Q (.lst i) := h
theorem tupJ {Q : List Dt → Prop} {i : List Dt} (h : Q i) : TupJ Q (.tup i) := h
abbrev dL (ns : List Int) : Dt := .lst (ns.map Dt.int)
abbrev dT (ns : List Int) : Dt := .tup (ns.map Dt.int)
theorem atI_int {ns : List Int} {k : Int} {x : Int} (h0 : 0 ≤ k) (h : ns[k.toNat]? = some x) : atI (ns.map Dt.int) k = some (.int x) := by
  have e : k = ((k.toNat : Nat) : Int) := by omega
  rw [e]
  refine atI_nat ?_
  rw [List.getElem?_map, h]; rfl
theorem ix_li {c : Cn} {Q : Dt → Prop} {ns : List Int} {k x : Int} (h0 : 0 ≤ k) (h : ns[k.toNat]? = some x) (q : Q (.int x)) : R2J c (rIx c.K) (.lst (ns.map Dt.int)) (.int k) Q := ix_l (atI_int h0 h) q
theorem ix_ti {c : Cn} {Q : Dt → Prop} {ns : List Int} {k x : Int} (h0 : 0 ≤ k) (h : ns[k.toNat]? = some x) (q : Q (.int x)) : R2J c (rIx c.K) (.tup (ns.map Dt.int)) (.int k) Q := ix_t (atI_int h0 h) q
theorem bl_two {A B p : Prop} {dp : Decidable p} (h1 : p → A) (h2 : ¬ p → B) : (@decide p dp = true → A) ∧ (@decide p dp = false → B) := ⟨fun h => h1 (of_decide_eq_true h), fun h => h2 (of_decide_eq_false h)⟩
theorem bl_or {A B p : Prop} {dp : Decidable p} (h1 : ¬ p → A) (h2 : p → B) : (@decide p dp = false → A) ∧ (@decide p dp = true → B) := ⟨fun h => h1 (of_decide_eq_false h), fun h => h2 (of_decide_eq_true h)⟩
theorem bl_yes {A B : Prop} {b : Bool} (e : b = true) (h : A) : (b = true → A) ∧ (b = false → B) := ⟨fun _ => h, fun z => by rw [e] at z; cases z⟩
theorem bl_no {A B : Prop} {b : Bool} (e : b = false) (h : B) : (b = true → A) ∧ (b = false → B) := ⟨fun z => (by rw [e] at z; cases z), fun _ => h⟩
theorem or_yes {A B : Prop} {b : Bool} (e : b = true) (h : B) : (b = false → A) ∧ (b = true → B) := ⟨fun z => (by rw [e] at z; cases z), fun _ => h⟩
theorem or_no {A B : Prop} {b : Bool} (e : b = false) (h : A) : (b = false → A) ∧ (b = true → B) := ⟨fun _ => h, fun z => by rw [e] at z; cases z⟩
section
variable {c : Cn} {hid : Addr → Bool} {H0 H1 : Hp} {ρ : List Sl} {ta tb te : TE} {t u : TT} {D : Ends} {ts tz tu : TS} {g : TG}
theorem q_asg {i : Nat} (h : EV c te ρ fun d => NJ c hid H0 (tz D) (ρ.set i (.im d))) : NJ c hid H0 (tSeq (tAsg te (gName i)) tz D) ρ := nj_asg (D := { D with nx := tz D }) h
theorem q_asgN {i : Nat} (h : EN c te ρ fun ds => NJ c hid H0 (tz D) (ρ.set i (.ac ds))) : NJ c hid H0 (tSeq (tAsg te (gName i)) tz D) ρ := nj_asgN (D := { D with nx := tz D }) h
theorem q_when (h : ETJ c hid H0 t ρ fun b => (b = true → NJ c hid H0 (ts { D with nx := tz D }) ρ) ∧ (b = false → NJ c hid H0 (tz D) ρ)) : NJ c hid H0 (tSeq (tIfS t ts tNext) tz D) ρ := nj_if (D := { D with nx := tz D }) h
theorem nj_when (h : ETJ c hid H0 t ρ fun b => (b = true → NJ c hid H0 (ts D) ρ) ∧ (b = false → NJ c hid H0 D.nx ρ)) : NJ c hid H0 (tIfS t ts tNext D) ρ := nj_if h
theorem q_setL {i : Nat} {ds : List Dt} (hi : ρ[i]? = some (.ac ds)) (h : EV c te ρ fun d => EV c tb ρ (IntJ fun k => ∃ j, ixN ds.length k = some j ∧ NJ c hid H0 (tz D) (ρ.set i (.ac (ds.set j d))))) : NJ c hid H0 (tSeq (tAsg te (gSub (tVar i) tb rSetL)) tz D) ρ := nj_setL (D := { D with nx := tz D }) hi h
theorem q_for {wi : TI} (h : IJ c wi ρ fun its => ∃ I : Nat → List Sl → Prop, I 0 ρ ∧ (∀ H1, Ex c.mu H0 H1 → ∀ i d ρ', its[i]? = some d → I i ρ' → TGJ c hid H1 g d ρ' (ts { D with nx := Nx c hid H1 (I (i + 1)), ct := Nx c hid H1 (I (i + 1)), bk := tz D })) ∧
    ∀ ρ', I its.length ρ' → NJ c hid H0 (tz D) ρ') : NJ c hid H0 (tSeq (tFor wi g ts) tz D) ρ := nj_for (D := { D with nx := tz D }) h
theorem q_while (I : Nat → List Sl → Prop) (m0 : Nat) (h0 : I m0 ρ)
    (hs : ∀ m ρ', I m ρ' → ETJ c hid H0 t ρ' fun b => (b = true → NJ c hid H0 (ts { D with nx := Nx c hid H0 (fun ρ'' => ∃ m', m' < m ∧ I m' ρ''), ct := Nx c hid H0 (fun ρ'' => ∃ m', m' < m ∧ I m' ρ''), bk := tz D }) ρ') ∧ (b = false → NJ c hid H0 (tz D) ρ')) : NJ c hid H0 (tSeq (tWhile t ts) tz D) ρ := nj_while (D := { D with nx := tz D }) I m0 h0 hs
theorem q_asgT (h : EV c te ρ fun d => TGJ c hid H0 g d ρ (tz D)) : NJ c hid H0 (tSeq (tAsg te g) tz D) ρ := fun hd H σ s =>
  h hd H σ s.toSV _ fun d v H' hq e b r => hq hd H' σ v (s.go e b) r
end
theorem mul_iL {c : Cn} {Q : Dt → Prop} {i j : Int} (h1 : -18446744073709551616 < i) (h2 : i < 18446744073709551616) (h : Q (.int (i * j))) : R2J c rMulU (.int i) (.int j) Q := mul_i (.inl ⟨h1, h2⟩) h
theorem mul_iR {c : Cn} {Q : Dt → Prop} {i j : Int} (h1 : -18446744073709551616 < j) (h2 : j < 18446744073709551616) (h : Q (.int (i * j))) : R2J c rMulU (.int i) (.int j) Q := mul_i (.inr ⟨h1, h2⟩) h
theorem div_iP {c : Cn} {Q : Dt → Prop} {i j : Int} (h1 : 0 < j) (h2 : j < 4611686018427387904) (h : Q (.int (i / j))) : R2J c rDivI (.int i) (.int j) Q := div_i (wide_div (b := 62) h1 (by omega) (by decide) (by decide)) h
theorem enum_at {vs : List Int} {i : Nat} {d : Dt} (h : (enumD (vs.map Dt.int))[i]? = some d) : ∃ x, vs[i]? = some x ∧ d = .tup [.int (i : Nat), .int x] := by
  unfold enumD at h
  rw [List.getElem?_mapIdx, List.getElem?_map] at h
  cases e : vs[i]? with
  | none => rw [e] at h; cases h
  | some x => rw [e] at h; exact ⟨x, rfl, (Option.some.inj h).symm⟩
theorem enum_len {ds : List Dt} : (enumD ds).length = ds.length := by unfold enumD; rw [List.length_mapIdx]
theorem ixN_last {α : Type} (xs : List α) (x : α) : ixN (xs ++ [x]).length (-1) = some xs.length := by
  unfold ixN
  rw [if_neg (by decide), if_pos (by rw [List.length_append]; simp; omega), List.length_append]
  congr 1
  simp; omega
theorem set_last {α : Type} (xs : List α) (x y : α) : (xs ++ [x]).set xs.length y = xs ++ [y] := by
  rw [List.set_append_right _ _ (Nat.le_refl _), Nat.sub_self]; rfl
theorem rangeD_at {lo : Int} {n i : Nat} {d : Dt} (h : (rangeD lo n)[i]? = some d) : i < n ∧ d = .int (lo + (i : Nat)) := by
  unfold rangeD at h
  rw [List.getElem?_map] at h
  by_cases hi : i < n
  · rw [List.getElem?_range hi] at h; exact ⟨hi, (Option.some.inj h).symm⟩
  · rw [List.getElem?_eq_none (by rw [List.length_range]; omega)] at h; cases h
theorem rangeD_len {lo : Int} {n : Nat} : (rangeD lo n).length = n := by unfold rangeD; rw [List.length_map, List.length_range]
theorem ints_at {ns : List Int} {i : Nat} {d : Dt} (h : (ns.map Dt.int)[i]? = some d) : ∃ x, ns[i]? = some x ∧ d = .int x := by
  rw [List.getElem?_map] at h
  cases e : ns[i]? with
  | none => rw [e] at h; cases h
  | some x => rw [e] at h; exact ⟨x, rfl, (Option.some.inj h).symm⟩
theorem en_map {c : Cn} {ρ : List Sl} {wi : TI} {g : TG} {t : TT} {te : TE} {vs : List Nat} {Q : List Dt → Prop} (h : IJ c wi ρ fun its => its.length ≤ 100000 ∧ ∃ f : Nat → Dt, (∀ i d, its[i]? = some d → TGE c g d (wipeS ρ vs) vs fun ρ' => EVT c t ρ' fun b => b = true ∧ EV c te ρ' fun y => y = f i) ∧ Q ((List.range its.length).map f)) :
    EN c (tLc wi g t te vs) ρ Q := en_lc (fun hd H σ v R q => h hd H σ v R fun its J H' ⟨hl, f, h1, h2⟩ => q its J H' ⟨hl, fun i acc => acc = (List.range i).map f, rfl, fun i d acc hi ha => (fun hd H σ v N s r k => h1 i d hi hd H σ v N s r fun σ2 ρ2 hk => k σ2 ρ2 (fun hd H σ v Qh q => hk hd H σ v Qh fun b H' hb => q b H' ⟨fun _ => hb.2.imp fun y hy => by (show acc ++ [y] = (List.range (i + 1)).map f); rw [hy, ha, List.range_succ, List.map_append]; rfl, fun z => by rw [hb.1] at z; cases z⟩)), fun acc ha => by rw [ha]; exact h2⟩)
theorem len_li {c : Cn} {Q : Dt → Prop} {ns : List Int} (h : Q (.int ns.length)) : RCJ c (rLenU c.K) [.lst (ns.map Dt.int)] Q := len_l (by rw [List.length_map]; exact h)
theorem len_ti {c : Cn} {Q : Dt → Prop} {ns : List Int} (h : Q (.int ns.length)) : RCJ c (rLenU c.K) [.tup (ns.map Dt.int)] Q := len_t (by rw [List.length_map]; exact h)
theorem lenOk {ds : List Dt} {P : Prop} (h : ds.length ≤ 100000) (q : P) : ds.length ≤ 100000 ∧ P := ⟨h, q⟩
theorem map_getD {α : Type} (vs : List Int) (f : Int → α) : (List.range vs.length).map (fun i => f (vs.getD i 0)) = vs.map f := by
  apply List.ext_getElem?
  intro k
  rw [List.getElem?_map, List.getElem?_map]
  by_cases hk : k < vs.length
  · rw [List.getElem?_range hk, List.getElem?_eq_getElem hk]
    show some (f (vs.getD k 0)) = some _
    rw [List.getD_eq_getElem?_getD, List.getElem?_eq_getElem hk]; rfl
  · rw [List.getElem?_eq_none (by rw [List.length_range]; omega), List.getElem?_eq_none (by omega)]; rfl
theorem en_mapI {c : Cn} {ρ : List Sl} {tl : TE} {j : Nat} {t : TT} {te : TE} {ws : List Nat} {Q : List Dt → Prop} (hj : j ∈ ws) (h : EV c tl ρ fun d => ∃ (vs : List Int) (f : Int → Dt), d = .lst (vs.map Dt.int) ∧ vs.length ≤ 100000 ∧ (∀ x ∈ vs, EVT c t ((wipeS ρ ws).set j (.im (.int x))) fun b => b = true ∧ EV c te ((wipeS ρ ws).set j (.im (.int x))) fun y => y = f x) ∧ Q (vs.map f)) :
    EN c (tLc (iList c.K tl) (gName j) t te ws) ρ Q := en_map (ij_list (h.imp fun d ⟨vs, f, e, h1, h2, h3⟩ => by
  subst e
  refine ⟨by rw [List.length_map]; exact h1, fun i => f (vs.getD i 0), fun i d hi => ?_, by rw [List.length_map, map_getD]; exact h3⟩
  obtain ⟨x, hx, rfl⟩ := ints_at hi
  have e : vs.getD i 0 = x := by rw [List.getD_eq_getElem?_getD, hx]; rfl
  show TGE c (gName j) (.int x) (wipeS ρ ws) ws fun ρ' => EVT c t ρ' fun b => b = true ∧ EV c te ρ' fun y => y = f (vs.getD i 0)
  rw [e]
  exact tge_name hj (h2 x (List.mem_of_getElem? hx))))
theorem en_mapR {c : Cn} {ρ : List Sl} {ta : TA} {j : Nat} {t : TT} {te : TE} {ws : List Nat} {Q : List Dt → Prop} (hj : j ∈ ws) (h : EVA c ta ρ fun ds => ∃ (n : Int) (f : Nat → Dt), ds = [.int n] ∧ n ≤ 100000 ∧ -1000000 ≤ n ∧ (∀ i : Nat, (i : Int) < n → EVT c t ((wipeS ρ ws).set j (.im (.int (i : Nat)))) fun b => b = true ∧ EV c te ((wipeS ρ ws).set j (.im (.int (i : Nat)))) fun y => y = f i) ∧ Q ((List.range n.toNat).map f)) :
    EN c (tLc (iRng1 ta) (gName j) t te ws) ρ Q := en_map (ij_rng1 (fun hd H σ v Qh q => h hd H σ v Qh fun ds vs H' ⟨n, f, e, h1, h2, h3, h4⟩ => q ds vs H' ⟨n, e, by omega, h2, by rw [rangeD_len]; omega, f, fun i d hi => by
  obtain ⟨hi2, rfl⟩ := rangeD_at hi
  rw [Int.zero_add]
  exact tge_name hj (h3 i (by omega)), by rw [rangeD_len]; exact h4⟩))
theorem min_li {c : Cn} {Q : Dt → Prop} {ns : List Int} (hn : ns ≠ []) (h : Q (.int (minL ns))) : RCJ c (rMin c.K) [.lst (ns.map Dt.int)] Q := min_l hn fun m h1 h2 => by rw [minL_is h1 h2]; exact h
theorem max_li {c : Cn} {Q : Dt → Prop} {ns : List Int} (hn : ns ≠ []) (h : Q (.int (maxL ns))) : RCJ c (rMax c.K) [.lst (ns.map Dt.int)] Q := max_l hn fun m h1 h2 => by rw [maxL_is h1 h2]; exact h
theorem lenSet_li {c : Cn} {ρ : List Sl} {w : World} {ta : TA} {Q : Dt → Prop} (h : EVA c ta ρ fun ds => ∃ ns : List Int, ds = [.lst (ns.map Dt.int)] ∧ ns.length ≤ 4000 ∧ Q (.int (uniq ns).length)) : EV c (tCB (rLenSet w) (tCons (tCB (rSetI c.K w) ta) tNil)) ρ Q :=
  ev_lenSet fun hd H σ v Qh q => h hd H σ v Qh fun ds vs H' ⟨ns, e, h1, h2⟩ => q ds vs H' ⟨ns, e, h1, fun us h3 h4 => by rw [uniq_len h3 h4]; exact h2⟩
theorem atI_lt {α : Type} {xs : List α} {j : Nat} {x : α} (h : xs[j]? = some x) : atI xs ((j : Nat) : Int) = some x := atI_nat h
theorem ix_t0 {c : Cn} {Q : Dt → Prop} {d0 : Dt} {r : List Dt} (h : Q d0) : R2J c (rIx c.K) (.tup (d0 :: r)) (.int 0) Q := ix_t (atI_lt (j := 0) rfl) h
theorem ix_l0 {c : Cn} {Q : Dt → Prop} {d0 : Dt} {r : List Dt} (h : Q d0) : R2J c (rIx c.K) (.lst (d0 :: r)) (.int 0) Q := ix_l (atI_lt (j := 0) rfl) h
theorem ix_t1 {c : Cn} {Q : Dt → Prop} {d0 d1 : Dt} {r : List Dt} (h : Q d1) : R2J c (rIx c.K) (.tup (d0 :: d1 :: r)) (.int 1) Q := ix_t (atI_lt (j := 1) rfl) h
theorem ix_l1 {c : Cn} {Q : Dt → Prop} {d0 d1 : Dt} {r : List Dt} (h : Q d1) : R2J c (rIx c.K) (.lst (d0 :: d1 :: r)) (.int 1) Q := ix_l (atI_lt (j := 1) rfl) h
theorem ix_t2 {c : Cn} {Q : Dt → Prop} {d0 d1 d2 : Dt} {r : List Dt} (h : Q d2) : R2J c (rIx c.K) (.tup (d0 :: d1 :: d2 :: r)) (.int 2) Q := ix_t (atI_lt (j := 2) rfl) h
theorem ix_l2 {c : Cn} {Q : Dt → Prop} {d0 d1 d2 : Dt} {r : List Dt} (h : Q d2) : R2J c (rIx c.K) (.lst (d0 :: d1 :: d2 :: r)) (.int 2) Q := ix_l (atI_lt (j := 2) rfl) h
theorem ix_t3 {c : Cn} {Q : Dt → Prop} {d0 d1 d2 d3 : Dt} {r : List Dt} (h : Q d3) : R2J c (rIx c.K) (.tup (d0 :: d1 :: d2 :: d3 :: r)) (.int 3) Q := ix_t (atI_lt (j := 3) rfl) h
theorem ix_l3 {c : Cn} {Q : Dt → Prop} {d0 d1 d2 d3 : Dt} {r : List Dt} (h : Q d3) : R2J c (rIx c.K) (.lst (d0 :: d1 :: d2 :: d3 :: r)) (.int 3) Q := ix_l (atI_lt (j := 3) rfl) h
theorem ix_t4 {c : Cn} {Q : Dt → Prop} {d0 d1 d2 d3 d4 : Dt} {r : List Dt} (h : Q d4) : R2J c (rIx c.K) (.tup (d0 :: d1 :: d2 :: d3 :: d4 :: r)) (.int 4) Q := ix_t (atI_lt (j := 4) rfl) h
theorem ix_l4 {c : Cn} {Q : Dt → Prop} {d0 d1 d2 d3 d4 : Dt} {r : List Dt} (h : Q d4) : R2J c (rIx c.K) (.lst (d0 :: d1 :: d2 :: d3 :: d4 :: r)) (.int 4) Q := ix_l (atI_lt (j := 4) rfl) h
theorem ix_t5 {c : Cn} {Q : Dt → Prop} {d0 d1 d2 d3 d4 d5 : Dt} {r : List Dt} (h : Q d5) : R2J c (rIx c.K) (.tup (d0 :: d1 :: d2 :: d3 :: d4 :: d5 :: r)) (.int 5) Q := ix_t (atI_lt (j := 5) rfl) h
theorem ix_l5 {c : Cn} {Q : Dt → Prop} {d0 d1 d2 d3 d4 d5 : Dt} {r : List Dt} (h : Q d5) : R2J c (rIx c.K) (.lst (d0 :: d1 :: d2 :: d3 :: d4 :: d5 :: r)) (.int 5) Q := ix_l (atI_lt (j := 5) rfl) h
theorem ix_h {c : Cn} {Q : Dt → Prop} {ns : List Int} (hn : ns ≠ []) (h : Q (.int (ns.headD 0))) : R2J c (rIx c.K) (.lst (ns.map Dt.int)) (.int 0) Q := ix_li (x := ns.headD 0) (by decide) (by cases ns with
  | nil => exact absurd rfl hn
  | cons x r => rfl) h
theorem en_mapT {c : Cn} {ρ : List Sl} {tl : TE} {j : Nat} {t : TT} {te : TE} {ws : List Nat} {Q : List Dt → Prop} (hj : j ∈ ws) (h : EV c tl ρ fun d => ∃ (ds : List Dt) (f : Dt → Dt), d = .tup ds ∧ ds.length ≤ 100000 ∧ (∀ x ∈ ds, EVT c t ((wipeS ρ ws).set j (.im x)) fun b => b = true ∧ EV c te ((wipeS ρ ws).set j (.im x)) fun y => y = f x) ∧ Q (ds.map f)) :
    EN c (tLc (iTup c.K tl) (gName j) t te ws) ρ Q := en_map (ij_tup (h.imp fun d ⟨ds, f, e, h1, h2, h3⟩ => by
  subst e
  refine ⟨h1, fun i => f (ds.getD i .non), fun i d hi => ?_, ?_⟩
  · have e : ds.getD i .non = d := by rw [List.getD_eq_getElem?_getD, hi]; rfl
    show TGE c (gName j) d (wipeS ρ ws) ws fun ρ' => EVT c t ρ' fun b => b = true ∧ EV c te ρ' fun y => y = f (ds.getD i .non)
    rw [e]
    exact tge_name hj (h2 d (List.mem_of_getElem? hi))
  · have e : (List.range ds.length).map (fun i => f (ds.getD i .non)) = ds.map f := by
      apply List.ext_getElem?
      intro k
      rw [List.getElem?_map, List.getElem?_map]
      by_cases hk : k < ds.length
      · rw [List.getElem?_range hk, List.getElem?_eq_getElem hk]
        show some (f (ds.getD k .non)) = some _
        rw [List.getD_eq_getElem?_getD, List.getElem?_eq_getElem hk]; rfl
      · rw [List.getElem?_eq_none (by rw [List.length_range]; omega), List.getElem?_eq_none (by omega)]; rfl
    show Q ((List.range ds.length).map fun i => f (ds.getD i .non))
    rw [e]
    exact h3))
theorem en_mapL {c : Cn} {ρ : List Sl} {tl : TE} {j : Nat} {t : TT} {te : TE} {ws : List Nat} {Q : List Dt → Prop} (hj : j ∈ ws) (h : EV c tl ρ fun d => ∃ (ds : List Dt) (f : Dt → Dt), d = .lst ds ∧ ds.length ≤ 100000 ∧ (∀ x ∈ ds, EVT c t ((wipeS ρ ws).set j (.im x)) fun b => b = true ∧ EV c te ((wipeS ρ ws).set j (.im x)) fun y => y = f x) ∧ Q (ds.map f)) :
    EN c (tLc (iList c.K tl) (gName j) t te ws) ρ Q := en_map (ij_list (h.imp fun d ⟨ds, f, e, h1, h2, h3⟩ => by
  subst e
  refine ⟨h1, fun i => f (ds.getD i .non), fun i d hi => ?_, ?_⟩
  · have e : ds.getD i .non = d := by rw [List.getD_eq_getElem?_getD, hi]; rfl
    show TGE c (gName j) d (wipeS ρ ws) ws fun ρ' => EVT c t ρ' fun b => b = true ∧ EV c te ρ' fun y => y = f (ds.getD i .non)
    rw [e]
    exact tge_name hj (h2 d (List.mem_of_getElem? hi))
  · have e : (List.range ds.length).map (fun i => f (ds.getD i .non)) = ds.map f := by
      apply List.ext_getElem?
      intro k
      rw [List.getElem?_map, List.getElem?_map]
      by_cases hk : k < ds.length
      · rw [List.getElem?_range hk, List.getElem?_eq_getElem hk]
        show some (f (ds.getD k .non)) = some _
        rw [List.getD_eq_getElem?_getD, List.getElem?_eq_getElem hk]; rfl
      · rw [List.getElem?_eq_none (by rw [List.length_range]; omega), List.getElem?_eq_none (by omega)]; rfl
    show Q ((List.range ds.length).map fun i => f (ds.getD i .non))
    rw [e]
    exact h3))
section
variable {c : Cn} {hid : Addr → Bool} {H0 H1 : Hp} {ρ : List Sl} {t : TT} {D : Ends} {ts tz : TS}
theorem q_cut (I : List Sl → Prop) (h : NJ c hid H0 (ts { D with nx := Nx c hid H0 I }) ρ) (hk : ∀ ρ', I ρ' → NJ c hid H0 (tz D) ρ') : NJ c hid H0 (Evl.tCut ts tz D) ρ := fun hd H σ s =>
  ⟨Nx c hid H0 I, h hd H σ s, fun σ' H' ⟨ρ', hd', hI, s'⟩ => hk ρ' hI hd' H' σ' s'⟩
theorem q_cut1 (ρ' : List Sl) (h : NJ c hid H0 (ts { D with nx := Nx c hid H0 fun r => r = ρ' }) ρ) (hk : NJ c hid H0 (tz D) ρ') : NJ c hid H0 (Evl.tCut ts tz D) ρ := q_cut (fun r => r = ρ') h fun _ e => by rw [e]; exact hk
end
end CC
namespace CC
open PySem PySem.Spec PyProof.Rows L2
open C8 (Cal pe_c pe_gc)
structure CalX (P : Program) (w : World) (K : PySem.W.Frag) (mg : Str → Option Value) (base : Heap) (k : Nat) (x : Str) (sp : Sp) : Prop where
  ex : ∃ (f : Addr) (fd : FuncData) (ps : List Str), FnOk P w K mg base (L2.CX P w) k f fd ps sp ∧ mg x = some (.ref f) ∧ PySem.W.keepIn K (.ref f) = true ∧ Binds K fd ps []
structure ExC (K : PySem.W.Frag) (mg : Str → Option Value) (x : Str) (C : Addr) : Prop where
  g : mg x = some (.ref C)
  q : PySem.W.excIn K C He.veBase "ValueError.__new__" = true
  k : PySem.W.keepIn K (.ref C) = true
  b : PySem.W.subIn K (.ref C) (.type "BaseException") = some true
  t : PySem.W.typeIn K (.ref C) = some (.type "type")
section
variable {P : Program} {w : World} {K : PySem.W.Frag} {mg : Str → Option Value} {base : Heap}
abbrev cxX (P : Program) (w : World) (K : PySem.W.Frag) (mg : Str → Option Value) (base : Heap) (N : List Str) (qual : Str) (st : Stmt) (f : Addr) (cdv : Value) (A : Around) (outer : List Env) (s : Shared) (H : Hp) (E : XK) : Cx := cxOf (L2.CX P w) P w K mg base N qual (defScope st) f cdv A outer s H E
end
section
variable {X : Cx} {k j : Nat} {x : Str} {sp : Sp} {e : Expr} {es : List Expr} {p pos : Pos} {t : TA} {W : WX}
theorem pe_cX (c : CalX X.prog X.w X.K X.mg X.base k x sp) (hr : Room j X.A) (hk : k ≤ j) (tk : Takes X W) (hg : Gl X x) (ha : PA X (e :: es) t)
    (hdb : (x == ("__debug__" : Str)) = false := by decide) (he : starEach (e :: es) X.env = (false, eval e X.env) :: starEach es X.env := by rfl) (hpl : (backTo pos (starEach es X.env)).any (·.1) = false := by rfl) :
    PE X (.Call (.Name x p) (e :: es) [] pos) (tCallS sp (WE W) t) := by
  obtain ⟨f, fd, ps, F, hm, kp, b⟩ := c.ex
  exact pe_callS F (hr.mono hk) hg hm kp b (fun σ => passAt tk σ) ha hdb he hpl
end
section
variable {c : Cn} {hid : Addr → Bool} {H0 H1 : Hp} {ρ : List Sl} {ta tb te : TE} {t : TT} {D : Ends} {ts tz : TS} {Q : Dt → Prop}
def valD {κ : Type} [DecidableEq κ] (kvs : List (κ × Dt)) (k : κ) : Option Dt := (kvs.find? fun kv => decide (kv.1 = k)).map (·.2)
def putD {κ : Type} [DecidableEq κ] (kvs : List (κ × Dt)) (k : κ) (d : Dt) : List (κ × Dt) :=
  if (kvs.any fun kv => decide (kv.1 = k)) = true then kvs.map (fun kv => if kv.1 = k then (kv.1, d) else kv) else kvs ++ [(k, d)]
theorem RpK.any {K : PySem.W.Frag} {G : Hp} {k : Key} : ∀ {vs : List (Key × V)} {ds : List (Key × Dt)}, RpK K G vs ds → (vs.any fun kv => decide (kv.1 = k)) = ds.any fun kv => decide (kv.1 = k)
  | _, _, .nil => rfl
  | _, _, .cons _ t => by simp only [List.any_cons, RpK.any t]
theorem RpK.map {K : PySem.W.Frag} {G : Hp} {k : Key} {v : V} {d : Dt} (r : Rp K G v d) : ∀ {vs : List (Key × V)} {ds : List (Key × Dt)}, RpK K G vs ds → RpK K G (vs.map fun kv => if kv.1 = k then (kv.1, v) else kv) (ds.map fun kv => if kv.1 = k then (kv.1, d) else kv)
  | _, _, .nil => .nil
  | _, _, .cons (k := k') h t => by
    rw [List.map_cons, List.map_cons]
    by_cases e : k' = k
    · simp only [e, if_pos]; exact .cons r (RpK.map r t)
    · simp only [e, if_false]; exact .cons h (RpK.map r t)
theorem RpK.append {K : PySem.W.Frag} {G : Hp} : ∀ {vs vs' : List (Key × V)} {ds ds' : List (Key × Dt)}, RpK K G vs ds → RpK K G vs' ds' → RpK K G (vs ++ vs') (ds ++ ds')
  | _, _, _, _, .nil, s => s
  | _, _, _, _, .cons h t, s => .cons h (RpK.append t s)
theorem RpK.len {K : PySem.W.Frag} {G : Hp} : ∀ {vs : List (Key × V)} {ds : List (Key × Dt)}, RpK K G vs ds → vs.length = ds.length
  | _, _, .nil => rfl
  | _, _, .cons _ t => congrArg (· + 1) (RpK.len t)
theorem RpK.put {K : PySem.W.Frag} {G : Hp} {k : Key} {v : V} {d : Dt} (r : Rp K G v d) {vs : List (Key × V)} {ds : List (Key × Dt)} (h : RpK K G vs ds) : RpK K G (putK vs k v) (putD ds k d) := by
  unfold putK putD
  rw [h.any]
  split
  · exact h.map r
  · exact h.append (.cons r .nil)
theorem RpK.val {K : PySem.W.Frag} {G : Hp} {k : Key} : ∀ {vs : List (Key × V)} {ds : List (Key × Dt)}, RpK K G vs ds → (∀ d, valD ds k = some d → ∃ v, valV vs k = some v ∧ Rp K G v d) ∧ (valD ds k = none → valV vs k = none)
  | _, _, .nil => ⟨fun d h => (nomatch h), fun _ => rfl⟩
  | _, _, .cons (k := k') (v := v) (d := d) (vs := vs) (ds := ds) h t => by
    obtain ⟨i1, i2⟩ := RpK.val (k := k) t
    by_cases e : k' = k
    · have e1 : valD ((k', d) :: ds) k = some d := by unfold valD; rw [List.find?_cons_of_pos (by simpa using e)]; rfl
      refine ⟨fun d' hd => ⟨v, valV_pos e, ?_⟩, fun hn => by rw [e1] at hn; cases hn⟩
      rw [e1] at hd
      cases hd
      exact h
    · have e1 : valD ((k', d) :: ds) k = valD ds k := by unfold valD; rw [List.find?_cons_of_neg (by simpa using e)]
      rw [e1, valV_neg (p := (k', v)) e]
      exact ⟨i1, i2⟩
end
end CC
namespace CC
open PySem PySem.Spec PyProof.Rows L2
end CC
namespace CC
open PySem PySem.Spec PyProof.Rows L2
open C8 (Cal pe_c pe_gc)
def Bx (b l : Addr) (H : Hp) : Prop := ∃ (s : Int) (ns : List Int), H b = some (.lst [.ref l, .int s]) ∧ H l = some (.lst (ns.map V.int))
def muB (b l : Addr) : Addr → Bool := fun a => decide (a = b) || decide (a = l)
theorem muB_b {b l : Addr} : muB b l b = true := by unfold muB; rw [decide_eq_true rfl, Bool.true_or]
theorem muB_l {b l : Addr} : muB b l l = true := by unfold muB; rw [decide_eq_true rfl, Bool.or_true]
theorem muB_of {b l a : Addr} (h : muB b l a = true) : a = b ∨ a = l := by
  unfold muB at h
  rcases Bool.or_eq_true_iff.mp h with h | h
  · exact .inl (of_decide_eq_true h)
  · exact .inr (of_decide_eq_true h)
abbrev cnB (K : PySem.W.Frag) (b l : Addr) : Cn := ⟨K, muB b l, fun _ H => Bx b l H, fun _ _ H H' _ h ⟨s, ns, h1, h2⟩ => ⟨s, ns, h b _ (.inl muB_b) h1, h l _ (.inl muB_l) h2⟩⟩
def spB (K : PySem.W.Frag) (S : List Dt → (Dt → Prop) → Prop) : Sp := fun vs H Qh _ => ∃ b l ws hid ds Q, vs = .ref b :: ws ∧ b ≠ l ∧ Bx b l H ∧ hid b = true ∧ hid l = true ∧ (∀ a, hid a = true → H a ≠ none) ∧ RpAll K (Hm hid H) ws ds ∧ S ds Q ∧
  ∀ d v H', Q d → Ex (muB b l) H H' → Bx b l H' → Rp K (Hm hid H') v d → Qh v H'
def spBN (K : PySem.W.Frag) (S : List Dt → (List Dt → Prop) → Prop) : Sp := fun vs H Qh _ => ∃ b l ws hid ds Q, vs = .ref b :: ws ∧ b ≠ l ∧ Bx b l H ∧ hid b = true ∧ hid l = true ∧ (∀ a, hid a = true → H a ≠ none) ∧ RpAll K (Hm hid H) ws ds ∧ S ds Q ∧
  ∀ es o zs H', Q es → Ex (muB b l) H H' → Bx b l H' → H o = none → H' o = some (.lst zs) → RpAll K (Hm (hide hid o) H') zs es → Qh (.ref o) H'
section
variable {K : PySem.W.Frag} {b l : Addr} {ρ : List Sl} {Q : Dt → Prop} {QL : List Dt → Prop}
theorem rw_get {c : Cn} {hd : Addr → Bool} {H : Hp} {σ : L2.St} (s : SlAll c hd H σ ρ) {i : Nat} {u : V} (hi : ρ[i]? = some (.rw u)) : σ[i]? = some (some u) := by
  obtain ⟨x, g1, g2⟩ := s.get hi
  cases x with
  | none => exact g2.elim
  | some v => rw [g1, show v = u from g2]
theorem ev_callB {S : List Dt → (Dt → Prop) → Prop} {E : XK} {i : Nat} {ta : TA} (hne : b ≠ l) (hi : ρ[i]? = some (.rw (.ref b))) (h : EVA (cnB K b l) ta ρ fun ds => S ds Q) : EV (cnB K b l) (tCall (spB K S) [] E (tCons (tVar i) ta)) ρ Q := fun hd H σ v Qh q =>
  ⟨.ref b, rw_get v.slots hi, h hd H σ v _ fun ds vs H1 h1 e1 b1 r1 => by
    show spB K S ((.ref b :: vs) ++ []) H1 Qh E
    rw [List.append_nil]
    exact ⟨b, l, vs, hd, ds, Q, rfl, hne, b1, v.muh b muB_b, v.muh l muB_l, fun a h => e1.dom a (v.dom a h), r1, h1, fun d z H2 hq e2 b2 r2 => q d z H2 hq (e1.trans e2) b2 r2⟩⟩
end
theorem sd_box {K : PySem.W.Frag} {b l : Addr} {hid : Addr → Bool} {H : Hp} {N : List Str} {ws : List V} {ds : List Dt} (hne : b ≠ l) (bx : Bx b l H) (hb : hid b = true) (hl : hid l = true) (dom : ∀ a, hid a = true → H a ≠ none) (r : RpAll K (Hm hid H) ws ds) (hN : N ≠ []) :
    SD (cnB K b l) hid hid H H (L2.start N (.ref b :: ws)) (.rw (.ref b) :: startS N.tail ds) := by
  have hlen := r.length
  have e : L2.start N (.ref b :: ws) = some (.ref b) :: L2.start N.tail ws := by
    unfold L2.start
    rw [List.map_cons, List.cons_append, List.length_cons, List.length_tail]
    congr 3
    have := List.length_pos_iff.mpr hN
    omega
  have sd := sd_start (c := cnB K b l) (N := N.tail) dom (fun a h => by
    rcases muB_of h with rfl | rfl
    · exact hb
    · exact hl) bx r
  rw [e]
  have key : ∀ i o, ¬ ownAt (some (.ref b) :: L2.start N.tail ws) (.rw (.ref b) :: startS N.tail ds) i o := fun i o h => by
    obtain ⟨h1, s, h2, h3⟩ := h
    cases i with
    | zero => cases h2; cases h3
    | succ i => rw [owns_im (show (startS N.tail ds)[i]? = some s from h2)] at h3; cases h3
  exact ⟨⟨sd.dom, sd.muh, bx, .cons rfl sd.slots⟩, sd.sub, sd.ext, sd.new, fun i j o h1 => (key i o h1).elim, fun i o h1 => (key i o h1).elim⟩
section
variable {P : Program} {w : World} {K : PySem.W.Frag} {mg : Str → Option Value} {base : Heap}
theorem cal_box {x : Str} {st : Stmt} {N ps : List Str} {k : Nat} {S : List Dt → (Dt → Prop) → Prop} (F : FnAt K mg x st ps) (Sc : FnScope N ps (defScope st)) (hN : N ≠ []) (len : ∀ ds Q, S ds Q → ds.length + 1 = ps.length)
    (hb : ∀ (f : Addr) (cdv : Value) (A : Around) (outer : List Env) (s : Shared) (H : Hp) (E : XK), Room k (A.deeper (envOfC x (defScope st) s.heap.objs.size f cdv)) →
      ∃ t, PSs (cxD P w K mg base N x st f cdv A outer s H E) (defBody st) t ∧ ∀ ds Q, S ds Q → ∀ b l, b ≠ l → ∀ hid H0 (D : Ends), (∀ a, hid a = true → H0 a ≠ none) → RetOk (cnB K b l) hid H0 Q D → NJ (cnB K b l) hid H0 (t D) (.rw (.ref b) :: startS N.tail ds)) :
    Cal P w K mg base (k + 1) x (spB K S) [] := by
  obtain ⟨f, fd, hm, F, bi⟩ := F
  refine ⟨⟨f, fd, ps, [], F.ok Sc (fun vs H Q E h => ?_) (fun cdv A outer s H vs Q E hr h => ?_), hm, F.kp, bi, .nil⟩⟩
  · obtain ⟨b, l, ws, hid, ds, Q', rfl, _, _, _, _, _, r, hS, _⟩ := h
    rw [List.length_cons, r.length]
    exact len ds Q' hS
  · obtain ⟨b, l, ws, hid, ds, Q', rfl, hne, bx, h1, h2, dom, r, hS, q⟩ := h
    obtain ⟨t, ht, hn⟩ := hb f cdv A outer s H E hr
    exact ⟨t, ht, hn ds Q' hS b l hne hid H { nx := fun _ H' => Q .non H', rt := Q } dom ⟨fun d hd v H' e bb r => q d v H' hd e bb r, fun hd ρ hd' H' σ sd => q .non .non H' hd sd.ext sd.inv .non⟩ hid H _ (sd_box hne bx h1 h2 dom r hN)⟩
theorem cal_boxN {x : Str} {st : Stmt} {N ps : List Str} {k : Nat} {S : List Dt → (List Dt → Prop) → Prop} (F : FnAt K mg x st ps) (Sc : FnScope N ps (defScope st)) (hN : N ≠ []) (len : ∀ ds Q, S ds Q → ds.length + 1 = ps.length)
    (hb : ∀ (f : Addr) (cdv : Value) (A : Around) (outer : List Env) (s : Shared) (H : Hp) (E : XK), Room k (A.deeper (envOfC x (defScope st) s.heap.objs.size f cdv)) →
      ∃ t, PSs (cxD P w K mg base N x st f cdv A outer s H E) (defBody st) t ∧ ∀ ds Q, S ds Q → ∀ b l, b ≠ l → ∀ hid H0 (D : Ends), (∀ a, hid a = true → H0 a ≠ none) → RetN (cnB K b l) hid H0 Q D → NJ (cnB K b l) hid H0 (t D) (.rw (.ref b) :: startS N.tail ds)) :
    Cal P w K mg base (k + 1) x (spBN K S) [] := by
  obtain ⟨f, fd, hm, F, bi⟩ := F
  refine ⟨⟨f, fd, ps, [], F.ok Sc (fun vs H Q E h => ?_) (fun cdv A outer s H vs Q E hr h => ?_), hm, F.kp, bi, .nil⟩⟩
  · obtain ⟨b, l, ws, hid, ds, Q', rfl, _, _, _, _, _, r, hS, _⟩ := h
    rw [List.length_cons, r.length]
    exact len ds Q' hS
  · obtain ⟨b, l, ws, hid, ds, Q', rfl, hne, bx, h1, h2, dom, r, hS, q⟩ := h
    obtain ⟨t, ht, hn⟩ := hb f cdv A outer s H E hr
    exact ⟨t, ht, hn ds Q' hS b l hne hid H { nx := fun _ H' => Q .non H', rt := Q } dom ⟨fun d hd o vs H' e bb => q d o vs H' hd e bb⟩ hid H _ (sd_box hne bx h1 h2 dom r hN)⟩
end
end CC
namespace CC
open PySem PySem.Spec PyProof.Rows L2
theorem notin_s {c : Cn} {Q : Dt → Prop} {x : Str} {xs : List Str} (h : Q (.bl (!inV (.str x) (xs.map V.str)))) : R2J c (rNotInU c.K) (.str x) (.tup (xs.map Dt.str)) Q := fun hd H u y dom mh bb rx ry Qh q => by
  cases rx
  cases ry with
  | tup ha ra =>
    have e := ra.strs
    subst e
    refine .inl ⟨_, _, rfl, .inr (sqt_hm ha), rfl, ?_, kv_here q bb h (.bl _)⟩
    rw [List.all_eq_true]
    intro z hz
    obtain ⟨n, _, rfl⟩ := List.mem_map.mp hz
    rfl
theorem in_s {c : Cn} {Q : Dt → Prop} {x : Str} {xs : List Str} (h : Q (.bl (inV (.str x) (xs.map V.str)))) : R2J c (rInU c.K) (.str x) (.tup (xs.map Dt.str)) Q := fun hd H u y dom mh bb rx ry Qh q => by
  cases rx
  cases ry with
  | tup ha ra =>
    have e := ra.strs
    subst e
    refine .inl ⟨_, _, rfl, .inr (sqt_hm ha), rfl, ?_, kv_here q bb h (.bl _)⟩
    rw [List.all_eq_true]
    intro z hz
    obtain ⟨n, _, rfl⟩ := List.mem_map.mp hz
    rfl
end CC
namespace CC
open PySem PySem.Spec PyProof.Rows L2
open C8 (Cal pe_c pe_gc)
end CC
namespace CC
open PySem PySem.Spec PyProof.Rows L2
open PySem.W (AlikeAll minD dataLt alike alikeAll alike_unique reads_keeps min_list_data dataLt_int dataLt_tuple dataLt_list dataLt_all_yes dataLt_all_no)
end CC
namespace CC
open PySem PySem.Spec PyProof.Rows L2
open C8 (Cal pe_c pe_gc)
open PySem.W (AlikeAll minD dataLt alike alikeAll dataLt_int dataLt_tuple dataLt_list dataLt_all_yes dataLt_all_no)
theorem RpT.any {K : PySem.W.Frag} {G : Hp} {k : List Key} : ∀ {vs : List (List Key × V)} {ds : List (List Key × Dt)}, RpT K G vs ds → (vs.any fun kv => decide (kv.1 = k)) = ds.any fun kv => decide (kv.1 = k)
  | _, _, .nil => rfl
  | _, _, .cons _ t => by simp only [List.any_cons, RpT.any t]
theorem RpT.map {K : PySem.W.Frag} {G : Hp} {k : List Key} {v : V} {d : Dt} (r : Rp K G v d) : ∀ {vs : List (List Key × V)} {ds : List (List Key × Dt)}, RpT K G vs ds → RpT K G (vs.map fun kv => if kv.1 = k then (kv.1, v) else kv) (ds.map fun kv => if kv.1 = k then (kv.1, d) else kv)
  | _, _, .nil => .nil
  | _, _, .cons (k := k') h t => by
    rw [List.map_cons, List.map_cons]
    by_cases e : k' = k
    · simp only [e, if_pos]; exact .cons r (RpT.map r t)
    · simp only [e, if_false]; exact .cons h (RpT.map r t)
theorem RpT.append {K : PySem.W.Frag} {G : Hp} : ∀ {vs vs' : List (List Key × V)} {ds ds' : List (List Key × Dt)}, RpT K G vs ds → RpT K G vs' ds' → RpT K G (vs ++ vs') (ds ++ ds')
  | _, _, _, _, .nil, s => s
  | _, _, _, _, .cons h t, s => .cons h (RpT.append t s)
theorem RpT.len {K : PySem.W.Frag} {G : Hp} : ∀ {vs : List (List Key × V)} {ds : List (List Key × Dt)}, RpT K G vs ds → vs.length = ds.length
  | _, _, .nil => rfl
  | _, _, .cons _ t => congrArg (· + 1) (RpT.len t)
theorem RpT.put {K : PySem.W.Frag} {G : Hp} {k : List Key} {v : V} {d : Dt} (r : Rp K G v d) {vs : List (List Key × V)} {ds : List (List Key × Dt)} (h : RpT K G vs ds) : RpT K G (putK vs k v) (putD ds k d) := by
  unfold putK putD
  rw [h.any]
  split
  · exact h.map r
  · exact h.append (.cons r .nil)
theorem RpT.val {K : PySem.W.Frag} {G : Hp} {k : List Key} : ∀ {vs : List (List Key × V)} {ds : List (List Key × Dt)}, RpT K G vs ds → ∀ d, valD ds k = some d → ∃ v, valV vs k = some v ∧ Rp K G v d
  | _, _, .nil, d, h => nomatch h
  | _, _, .cons (k := k') (v := v) (d := d) (vs := vs) (ds := ds) h t, d', hd => by
    by_cases e : k' = k
    · have e1 : valD ((k', d) :: ds) k = some d := by unfold valD; rw [List.find?_cons_of_pos (by simpa using e)]; rfl
      rw [e1] at hd
      cases hd
      exact ⟨v, valV_pos e, h⟩
    · have e1 : valD ((k', d) :: ds) k = valD ds k := by unfold valD; rw [List.find?_cons_of_neg (by simpa using e)]
      rw [e1] at hd
      rw [valV_neg (p := (k', v)) e]
      exact RpT.val t d' hd
end CC
namespace CC
open PySem PySem.Spec PyProof.Rows L2
open C8 (Cal pe_c pe_gc)
open PySem.W (AlikeAll minD dataLt alike alikeAll dataLt_int dataLt_tuple dataLt_list dataLt_all_yes dataLt_all_no)
abbrev Tri : Type := Int × Int × List Int
end CC
namespace CC
open PySem PySem.Spec PyProof.Rows L2
end CC
namespace CC
open PySem PySem.Spec PyProof.Rows L2
open C8 (Cal pe_c pe_gc)
theorem ne_same {c : Cn} {Q : Dt → Prop} {ns : List Int} (h : Q (.bl false)) : R2J c (rNeU c.K) (dL ns) (dL ns) Q := by
  have sh : Sh 1 (dL ns) := .lst fun d hd => by
    obtain ⟨x, _, rfl⟩ := List.mem_map.mp hd
    exact .int x
  refine ne_d sh sh (by decide) (by decide) ?_
  rw [Sh.eqv 1 _ sh]
  exact h
theorem nj_at {c : Cn} {hid hd : Addr → Bool} {H0 H : Hp} {σ : L2.St} {ρ : List Sl} {N : L2.St → Hp → Prop} (k : NJ c hid H0 N ρ) (s : SD c hid hd H0 H σ ρ) : N σ H := k hd H σ s
theorem sd_begun {K : PySem.W.Frag} {a b l : Addr} {H : Hp} (n : Nat) (bx : Bx b l H) : SD (cnB K b l) (muB b l) (muB b l) H H (some (.ref a) :: some (.ref b) :: List.replicate n none) (.rw (.ref a) :: .rw (.ref b) :: List.replicate n .un) := by
  have ho : ∀ i o, ¬ ownAt (some (.ref a) :: some (.ref b) :: List.replicate n none) (.rw (.ref a) :: .rw (.ref b) :: List.replicate n .un) i o := fun i o h => by
    obtain ⟨_, s, h2, h3⟩ := h
    match i, h2 with
    | 0, h2 => cases h2; cases h3
    | 1, h2 => cases h2; cases h3
    | i + 2, h2 =>
      have := List.mem_of_getElem? (l := List.replicate n Sl.un) (i := i) h2
      rw [List.eq_of_mem_replicate this] at h3
      cases h3
  refine ⟨⟨fun x h => ?_, fun x h => h, bx, .cons rfl (.cons rfl ?_)⟩, fun x h => h, .refl, fun x h1 h2 => ?_, fun i j o h => (ho i o h).elim, fun i o h => (ho i o h).elim⟩
  · obtain ⟨s, ns, h1, h2⟩ := bx
    rcases muB_of h with rfl | rfl
    · rw [h1]; exact fun z => nomatch z
    · rw [h2]; exact fun z => nomatch z
  · induction n with
    | zero => exact .nil
    | succ n ih => exact .cons slok_un (ih fun i o h => by
        obtain ⟨h1, s, h2, h3⟩ := h
        match i, h2 with
        | 0, h2 => cases h2; cases h3
        | 1, h2 => cases h2; cases h3
        | i + 2, h2 =>
          have := List.mem_of_getElem? (l := List.replicate n Sl.un) (i := i) h2
          rw [List.eq_of_mem_replicate this] at h3
          cases h3)
  · rw [h1] at h2; cases h2
def tNeverE : TE := fun _ _ _ => False
theorem pe_never {X : Cx} {e : Expr} : PE X e tNeverE := ⟨fun _ _ _ _ _ _ h => h.elim⟩
theorem k_bb : kitB "bool" "bool" = some true := by decide +kernel
theorem k_ib : kitB "int" "bool" = some false := by decide +kernel
theorem k_sb : kitB "str" "bool" = some false := by decide +kernel
theorem k_tb : kitB "tuple" "bool" = some false := by decide +kernel
theorem k_lb : kitB "list" "bool" = some false := by decide +kernel
theorem k_ii : kitB "int" "int" = some true := by decide +kernel
theorem k_si : kitB "str" "int" = some false := by decide +kernel
theorem k_ti : kitB "tuple" "int" = some false := by decide +kernel
theorem k_li : kitB "list" "int" = some false := by decide +kernel
theorem k_ss : kitB "str" "str" = some true := by decide +kernel
theorem k_ts : kitB "tuple" "str" = some false := by decide +kernel
theorem k_ls : kitB "list" "str" = some false := by decide +kernel
theorem k_tt : kitB "tuple" "tuple" = some true := by decide +kernel
theorem k_lt : kitB "list" "tuple" = some false := by decide +kernel
theorem k_tl : kitB "tuple" "list" = some false := by decide +kernel
theorem k_ll : kitB "list" "list" = some true := by decide +kernel
inductive Al : Nat → Dt → Prop
  | non {n : Nat} : Al n .non
  | bl {n : Nat} (b : Bool) : Al n (.bl b)
  | int {n : Nat} (i : Int) : Al n (.int i)
  | str {n : Nat} (x : Str) : Al n (.str x)
  | lst {n : Nat} {ds : List Dt} (h : ∀ d ∈ ds, Al n d) (hl : ds.length ≤ 100000) : Al (n + 1) (.lst ds)
  | tup {n : Nat} {ds : List Dt} (h : ∀ d ∈ ds, Al n d) (hl : ds.length ≤ 100000) : Al (n + 1) (.tup ds)
theorem Al.up {n : Nat} {d : Dt} (h : Al n d) : Al (n + 1) d := by
  induction h with
  | non => exact .non
  | bl b => exact .bl b
  | int i => exact .int i
  | str x => exact .str x
  | lst h hl ih => exact .lst ih hl
  | tup h hl ih => exact .tup ih hl
theorem al_ints {n : Nat} {ns : List Int} : ∀ d ∈ ns.map Dt.int, Al n d := fun d hd => by
  obtain ⟨x, _, rfl⟩ := List.mem_map.mp hd
  exact .int x
theorem al_dL {n : Nat} {ns : List Int} (h : ns.length ≤ 100000) : Al (n + 1) (dL ns) := .lst al_ints (by rw [List.length_map]; exact h)
theorem al_dT {n : Nat} {ns : List Int} (h : ns.length ≤ 100000) : Al (n + 1) (dT ns) := .tup al_ints (by rw [List.length_map]; exact h)
theorem RgC.up {n c : Int} (h0 : 0 ≤ n) (h1 : n < 1000000) (hc : 1 ≤ c) (hc2 : c < 1000000) : RgC 0 n c ((n + c - 1) / c).toNat := by
  have hq0 : 0 ≤ (n + c - 1) / c := Int.ediv_nonneg (by omega) (by omega)
  have hq1 : (n + c - 1) / c ≤ n := by
    rcases Int.lt_or_le 0 n with hn | hn
    · have h2 : n + c - 1 < (n + 1) * c := by
        have : n * 1 ≤ n * c := Int.mul_le_mul_of_nonneg_left hc h0
        have e : (n + 1) * c = n * c + c := by rw [Int.add_mul, Int.one_mul]
        omega
      have h3 : (n + c - 1) / c < n + 1 := Int.ediv_lt_of_lt_mul (by omega) h2
      omega
    · have : n = 0 := by omega
      subst this
      have : (0 + c - 1) / c = 0 := Int.ediv_eq_zero_of_lt (by omega) (by omega)
      omega
  have hs : Builtin.Range.rangeSize 0 n c = (n + c - 1) / c := PyProof.Rows.rangeSize_pos hc h0
  refine ⟨by omega, by omega, ?_, by rw [hs]; omega⟩
  unfold Builtin.Range.small
  rw [hs]
  have hm1 : (n + c - 1) / c * c ≤ n + c - 1 := Int.ediv_mul_le _ (by omega)
  simp only [Builtin.Range.rangeFitsLong, Bool.and_eq_true, Bool.or_eq_true, decide_eq_true_eq, beq_iff_eq, show c > 0 by omega, if_true]
  omega
theorem rangeC_at {lo c : Int} {n i : Nat} {d : Dt} (h : (rangeC lo c n)[i]? = some d) : i < n ∧ d = .int (lo + (i : Nat) * c) := by
  unfold rangeC at h
  rw [List.getElem?_map] at h
  by_cases hi : i < n
  · rw [List.getElem?_range hi] at h; exact ⟨hi, (Option.some.inj h).symm⟩
  · rw [List.getElem?_eq_none (by rw [List.length_range]; omega)] at h; cases h
theorem rangeC_len {lo c : Int} {n : Nat} : (rangeC lo c n).length = n := by unfold rangeC; rw [List.length_map, List.length_range]
end CC
namespace CC
open PySem PySem.Spec PyProof.Rows L2
theorem eq_nil {c : Cn} {Q : Dt → Prop} {ds : List Dt} {n : Nat} (s : ∀ d ∈ ds, Sh n d) (hn : n < 64) (h : Q (.bl ds.isEmpty)) : R2J c (rEqU c.K) (.lst ds) (.lst []) Q := by
  refine eq_d (.lst s) (.lst (n := 0) fun d hd => by cases hd) hn (by decide) ?_
  cases ds <;> exact h
theorem ne_nil {c : Cn} {Q : Dt → Prop} {ds : List Dt} {n : Nat} (s : ∀ d ∈ ds, Sh n d) (hn : n < 64) (h : Q (.bl (!ds.isEmpty))) : R2J c (rNeU c.K) (.lst ds) (.lst []) Q := by
  refine ne_d (.lst s) (.lst (n := 0) fun d hd => by cases hd) hn (by decide) ?_
  cases ds <;> exact h
theorem sh_ints {ns : List Int} : ∀ d ∈ ns.map Dt.int, Sh 0 d := fun d hd => by
  obtain ⟨x, _, rfl⟩ := List.mem_map.mp hd
  exact .int x
theorem en_fm {c : Cn} {ρ : List Sl} {wi : TI} {g : TG} {t : TT} {te : TE} {vs : List Nat} {Q : List Dt → Prop} (h : IJ c wi ρ fun its => its.length ≤ 100000 ∧ ∃ (p : Dt → Bool) (f : Dt → Dt), (∀ d ∈ its, TGE c g d (wipeS ρ vs) vs fun ρ' => EVT c t ρ' fun b => b = p d ∧ (p d = true → EV c te ρ' fun y => y = f d)) ∧ Q ((its.filter p).map f)) :
    EN c (tLc wi g t te vs) ρ Q := en_lc fun hd H σ v R hR => h hd H σ v R fun its J H' hq => hR its J H' (by
  obtain ⟨hl, p, f, hs, hQ⟩ := hq
  refine ⟨hl, fun i acc => acc = ((its.take i).filter p).map f, rfl, fun i d acc hi ha hd H σ w N sv r k => hs d (List.mem_of_getElem? hi) hd H σ w N sv r fun σ2 ρ2 hk => k σ2 ρ2 (hk.imp ?_), fun acc ha => ?_⟩
  · rintro b ⟨rfl, hb⟩
    subst ha
    have e : its.take (i + 1) = its.take i ++ [d] := by rw [List.take_add_one, hi]; rfl
    refine ⟨fun hp => (hb hp).imp ?_, fun hp => ?_⟩
    · rintro y rfl
      show _ = ((its.take (i + 1)).filter p).map f
      rw [e, List.filter_append, List.map_append, List.filter_cons_of_pos hp]; rfl
    · show _ = ((its.take (i + 1)).filter p).map f
      rw [e, List.filter_append, List.map_append, List.filter_cons_of_neg (by rw [hp]; exact Bool.false_ne_true)]
      exact (List.append_nil _).symm
  · subst ha
    rw [List.take_length]
    exact hQ)
theorem en_fmL {c : Cn} {ρ : List Sl} {tl : TE} {j : Nat} {t : TT} {te : TE} {ws : List Nat} {Q : List Dt → Prop} (hj : j ∈ ws) (h : EV c tl ρ fun d => ∃ (ds : List Dt) (p : Dt → Bool) (f : Dt → Dt), d = .lst ds ∧ ds.length ≤ 100000 ∧ (∀ x ∈ ds, EVT c t ((wipeS ρ ws).set j (.im x)) fun b => b = p x ∧ (p x = true → EV c te ((wipeS ρ ws).set j (.im x)) fun y => y = f x)) ∧ Q ((ds.filter p).map f)) :
    EN c (tLc (iList c.K tl) (gName j) t te ws) ρ Q := en_fm (ij_list (h.imp (by
  rintro _ ⟨ds, p, f, rfl, hl, hs, hq⟩
  exact ⟨hl, p, f, fun d hd => tge_name hj (hs d hd), hq⟩)))
theorem en_fmR {c : Cn} {ρ : List Sl} {ta : TA} {j : Nat} {t : TT} {te : TE} {ws : List Nat} {Q : List Dt → Prop} (hj : j ∈ ws) (h : EVA c ta ρ fun ds => ∃ (n : Int) (p : Dt → Bool) (f : Dt → Dt), ds = [.int n] ∧ n ≤ 100000 ∧ -1000000 ≤ n ∧ (∀ i : Nat, (i : Int) < n → EVT c t ((wipeS ρ ws).set j (.im (.int (i : Nat)))) fun b => b = p (.int (i : Nat)) ∧ (p (.int (i : Nat)) = true → EV c te ((wipeS ρ ws).set j (.im (.int (i : Nat)))) fun y => y = f (.int (i : Nat)))) ∧ Q (((rangeD 0 n.toNat).filter p).map f)) :
    EN c (tLc (iRng1 ta) (gName j) t te ws) ρ Q := en_fm (ij_rng1 (fun hd H σ v R hR => h hd H σ v R fun ds vs H' hq => hR ds vs H' (by
  obtain ⟨n, p, f, rfl, h1, h2, hs, hq⟩ := hq
  refine ⟨n, rfl, by omega, h2, by rw [rangeD_len]; omega, p, f, fun d hd => ?_, hq⟩
  obtain ⟨i, hi⟩ := List.getElem?_of_mem hd
  obtain ⟨hlt, rfl⟩ := rangeD_at hi
  rw [Int.zero_add]
  exact tge_name hj (hs i (by omega)))))
end CC
namespace CC
open PySem PySem.Spec PyProof.Rows L2
open PySem.W (AlikeAll minD dataLt alike alikeAll dataLt_int dataLt_tuple dataLt_list dataLt_all_yes dataLt_all_no keyToksAll keyToks)
def lexI : List Int → List Int → Bool
  | [], [] => false
  | [], _ :: _ => true
  | _ :: _, [] => false
  | x :: a, y :: b => if x = y then lexI a b else decide (x < y)
def tl (a b : Tri) : Prop := a.1 < b.1 ∨ (a.1 = b.1 ∧ (a.2.1 < b.2.1 ∨ (a.2.1 = b.2.1 ∧ lexI a.2.2 b.2.2 = true)))
end CC
namespace CC
open PySem PySem.Spec PyProof.Rows L2
section
variable {X : Cx}
def rCntV (K : PySem.W.Frag) : V → List V → Hp → VK → Prop := fun x xs H Q => ∃ (p : Addr) (ys : List V) (y : V), x = .ref p ∧ xs = [y] ∧ SqL K H p ys ∧ flatV y = true ∧ ys.all flatV = true ∧ Q (.int ((ys.countP fun z => eqV z y : Nat) : Int)) H
theorem cntV {y : V} : ∀ {ys : List V} {us : List Value}, Vals ys us → ys.all flatV = true → us.countP (eqU y) = ys.countP fun z => eqV z y
  | _, _, .nil, _ => rfl
  | z :: ys, u :: us, .cons r t, f => by
    rw [List.all_cons, Bool.and_eq_true] at f
    rw [List.countP_cons, List.countP_cons, cntV t f.2, eqU_of r f.1]
theorem mt_countV : MtR X "list.count" (rCntV X.K) := by
  intro pins s σ H x xs v us Q I rx rxs h
  obtain ⟨p, ys, y, rfl, rfl, hs, fy, fys, q⟩ := h
  cases rx
  obtain ⟨u, rfl, ru⟩ := rxs.one
  obtain ⟨its, rv, ⟨⟨cls, dd, data, sl⟩, n, ho, hc, hdn, hd⟩, hlen⟩ := I.list hs
  simp only at hc hd
  subst hc hd
  refine call_meets PySem.F.slot_list_count ⟨_, ho, rfl⟩ PySem.F.entry_list_count (PySem.F.args_list_count_2 _ _) (SeqAt.list_countAt p its.toArray n dd sl u (eqU y)) ⟨ho, fun u' hu' => mem_eqAt ru fy rv fys u' (by simpa using hu'), ?_⟩
  refine ⟨.int ((ys.countP fun z => eqV z y : Nat) : Int), H, I.tok _, ⟨s.toks, ?_⟩, q⟩
  have e : its.toArray.toList.countP (eqU y) = ys.countP fun z => eqV z y := cntV rv fys
  rw [e]
end
abbrev SpE : Type := Addr × Obj → Sp
structure FnE (P : Program) (w : World) (K : PySem.W.Frag) (mg : Str → Option Value) (base : Heap) (k : Nat) (f : Addr) (fd : FuncData) (ps : List Str) (sp : SpE) : Prop where
  len : ∀ p vs H Q E, sp p vs H Q E → vs.length = ps.length
  run : ∀ (A : Around) (outer : List Env) (s : Shared) (H : Hp) (args : Args) (us : List Value) (vs : List V) (Q : VK) (E : XK) (p : Addr × Obj), L2H.RoomH k A → L2H.PinOk outer H s p → Env0 P w K mg base A outer s H →
    BindsTo s fd args (ps.zip us) → Vals vs us → sp p vs H Q E → codeAny (model P w) A (.call (.ref f) args) (CR CX0 outer P w H s Q E) s
abbrev cxE (P : Program) (w : World) (K : PySem.W.Frag) (mg : Str → Option Value) (base : Heap) (N : List Str) (qual : Str) (st : Stmt) (f : Addr) (cdv : Value) (A : Around) (outer : List Env) (s : Shared) (H : Hp) (E : XK) (p : Addr × Obj) : Cx := L2H.cxH CX0 P w K mg base N qual (defScope st) f cdv A outer s H E p
theorem fn_ofE {P : Program} {w : World} {K : PySem.W.Frag} {mg : Str → Option Value} {base : Heap} {k : Nat} {x qual : Str} {st : Stmt} {f : Addr} {fd : FuncData} {N ps : List Str} {sp : SpE} (F : Fun K x qual st f fd) (S : FnScope N ps (defScope st))
    (len : ∀ p vs H Q E, sp p vs H Q E → vs.length = ps.length)
    (hbody : ∀ (cdv : Value) (A : Around) (outer : List Env) (s : Shared) (H : Hp) (vs : List V) (Q : VK) (E : XK) (p : Addr × Obj), L2H.RoomH k (A.deeper (envOfC qual (defScope st) s.heap.objs.size f cdv)) → sp p vs H Q E →
      ∃ t, PSs (cxE P w K mg base N qual st f cdv A outer s H E p) (defBody st) t ∧ t { nx := fun _ H' => Q .non H', rt := Q } (L2.start N vs) H) :
    FnE P w K mg base (k + 1) f fd ps sp := by
  obtain ⟨⟨oc, od, kV, doc, pm, an, cdv, ct, osl, rfl, lk, hcd⟩, kp⟩ := F
  refine ⟨len, fun A outer s H args us vs Q E p hr hpin e0 hb r hsp => ?_⟩
  have hl : vs.length = ps.length := len _ _ _ _ _ hsp
  have kin : K.In s.heap := e0.mod.kin.keeps fun b o e => (e0.bs b o e).1
  have nol : s.heap.NoLimit := e0.mod.nolimit.keeps fun b o e => (e0.bs b o e).1
  refine codeAny_call_function hr.depth (kin _ _ lk) rfl S.co S.gen rfl (PySem.W.codeRec_of kin hcd) (hb _ _ _ _ ?_)
  refine wpAny_newFunctionEnv_cells S.kind (fun y hy => ?_) fun env he s1 x => ?_
  · obtain ⟨n, v⟩ := y
    rcases S.par n (List.of_mem_zip hy).1 with q | q
    · exact .inl q
    · exact .inr ⟨q, PySem.W.cellsFrom_some _ _ _ (.inl q)⟩
  · subst he
    refine ⟨nol.keeps x.toInCall.keep, codeAny_func ?_⟩
    obtain ⟨t, ht, hq⟩ := hbody cdv A outer s H vs Q E p (hr.deeper _) hsp
    have inv := L2H.inv_startH (CX := CX0) (P := P) (w := w) (K := K) (mg := mg) (base := base) (E := E) S hpin e0 hl r x
    refine wpAny_mono (ht.run [] s1 (L2.start N vs) H _ inv hq) (fun fl s' hs => ?_) fun e s' hs => hs
    cases fl with
    | ret u =>
      obtain ⟨v, σ', H', J, rv, q⟩ := hs
      exact ⟨v, H', J.os, J.bare, J.base, J.hok, rv, q⟩
    | next =>
      obtain ⟨σ', H', J, q⟩ := hs
      exact ⟨.non, H', J.os, J.bare, J.base, J.hok, rfl, q⟩
    | brk =>
      obtain ⟨_, _, _, z⟩ := hs
      exact z.elim
    | cont =>
      obtain ⟨_, _, _, z⟩ := hs
      exact z.elim
def tCallE (sp : SpE) (p : Addr × Obj) (t : TA) : TE := fun σ H Q => t σ H fun vs H1 => sp p vs H1 Q fun _ _ _ => False
theorem pe_callE {X : Cx} {k : Nat} {f : Addr} {fd : FuncData} {ps : List Str} {sp : SpE} {x : Str} {q pos : Pos} {e : Expr} {es : List Expr} {t : TA} {p : Addr × Obj} (F : FnE X.prog X.w X.K X.mg X.base k f fd ps sp) (hr : L2H.RoomH k X.A) (hp : p ∈ X.pn) (hg : Gl X x) (hm : X.mg x = some (.ref f)) (hk : PySem.W.keepIn X.K (.ref f) = true) (hb : Binds X.K fd ps [])
    (ha : PA X (e :: es) t) (hdb : (x == ("__debug__" : Str)) = false := by decide) (he : starEach (e :: es) X.env = (false, eval e X.env) :: starEach es X.env := by rfl) (hpl : (backTo pos (starEach es X.env)).any (·.1) = false := by rfl) :
    PE X (.Call (.Name x q) (e :: es) [] pos) (tCallE sp p t) := by
  refine ⟨fun pins s σ H Q I h => ?_⟩
  refine wpAny_Call_Name_kw (ld_glob I hg hm ?_ hdb)
  refine PySem.W.callWith_K (h₀ := X.base) I.ok.mod.kin hk (thn (ha.run pos pins s σ H _ I h) fun us s1 hh => ?_) he hpl
  obtain ⟨vs, H1, I1, r, hsp⟩ := hh
  refine ⟨I1.kIn, ?_⟩
  have hl : us.length = ps.length := by rw [← r.length]; exact F.len _ _ _ _ _ hsp
  have b := hb s1 us I1.kIn (by rw [List.append_nil]; exact hl)
  rw [List.append_nil] at b
  obtain ⟨p1, p2, p3, p4, p5⟩ := I1.pin p (List.mem_append_left _ hp)
  have pin : L2H.PinOk X.stack H1 s1 p := ⟨p1, p2, fun hm => (List.mem_cons.mp (I1.stkSub p.1 hm)).elim p3 p4, p5⟩
  refine wpAny_call (codeAny_mono (F.run X.A X.stack s1 H1 ⟨us, []⟩ us vs Q _ p hr pin I1.env0 b r hsp) fun r s' hq => ?_)
  cases r with
  | error e => exact hq.elim
  | ok fl =>
    cases fl with
    | ret u => exact I1.after hq
    | next => exact hq.elim
    | brk => exact hq.elim
    | cont => exact hq.elim
end CC
namespace CC
open PySem PySem.Spec PyProof.Rows L2
open LamX (CodeO TabS TabB LamS lamEnv lamCx GivesTo inv_table among_app codeO_ne run_ofS pe_act)
abbrev SpC : Type := Addr → Value → Option Addr → Sp
def spOfC (sp : SpC) : SpE := fun p vs H Q E => ∃ cls d, Zc cls d p.2 ∧ (∃ vs, p.2.data = .fields vs) ∧ sp p.1 cls d vs H Q E
structure CalE (P : Program) (w : World) (K : PySem.W.Frag) (mg : Str → Option Value) (base : Heap) (k : Nat) (x : Str) (sp : SpC) : Prop where
  ex : ∃ (f : Addr) (fd : FuncData) (ps : List Str), FnE P w K mg base k f fd ps (spOfC sp) ∧ mg x = some (.ref f) ∧ PySem.W.keepIn K (.ref f) = true ∧ Binds K fd ps []
def tCallC (sp : SpC) (a : Addr) (cls : Value) (d : Option Addr) (t : TA) : TE := fun σ H Q => t σ H fun vs H1 => sp a cls d vs H1 Q fun _ _ _ => False
theorem pe_callC {X : Cx} {k : Nat} {sp : SpC} {x : Str} {q pos : Pos} {e : Expr} {es : List Expr} {i : Nat} {a : Addr} {oe : Obj} {cls : Value} {d : Option Addr} (F : CalE X.prog X.w X.K X.mg X.base k x sp) (hr : L2H.RoomH k X.A) (hp : (a, oe) ∈ X.pn) (hz : Zc cls d oe) (hf : ∃ vs, oe.data = .fields vs) (hg : Gl X x)
    (ha : PA X (e :: es) (tCons (tVar i) tNil)) (hdb : (x == ("__debug__" : Str)) = false := by decide) (he : starEach (e :: es) X.env = (false, eval e X.env) :: starEach es X.env := by rfl) (hpl : (backTo pos (starEach es X.env)).any (·.1) = false := by rfl) :
    PE X (.Call (.Name x q) (e :: es) [] pos) (tCallC sp a cls d (tCons (tVar i) tNil)) := by
  obtain ⟨f, fd, ps, F, hm, hk, hb⟩ := F.ex
  have hp := pe_callE (p := (a, oe)) (q := q) (pos := pos) F hr hp hg hm hk hb ha hdb he hpl
  refine ⟨fun pins s σ H Q I h => hp.run pins s σ H Q I ?_⟩
  obtain ⟨v, h1, h2⟩ := h
  exact ⟨v, h1, cls, d, hz, hf, h2⟩
theorem roomH_mark {k : Nat} {A : Around} {h : Option Value} (r : Room k A) : L2H.RoomH k (A.mark h) := ⟨r.dp, r.un⟩
def tXfA (K : PySem.W.Frag) (a : Addr) (cls : Value) (d : Option Addr) (f : Str) (te : TE) : TE := fun σ H Q => te σ H fun x H1 => x = .ref a ∧ ∃ (C dd : Addr) (fs : List (Str × V)) (v : V), cls = .ref C ∧ XfC K C ∧ PySem.W.findIn K (.ref C) f = some none ∧ d = some dd ∧ H1 dd = some (.xd fs) ∧ fs.lookup f = some v ∧ Q v H1
theorem pe_xfA {X : Cx} {a : Addr} {oe : Obj} {cls : Value} {d : Option Addr} {pn : List (Addr × Obj)} {e : Expr} {te : TE} {pos : Pos} {n : Str} (hz : Zc cls d oe) (hf : ∃ vs, oe.data = .fields vs) (he : PE (X.suite a ((a, oe) :: pn)) e te) (hb : attributeBase e n X.env (eval e X.env) = eval e X.env := by rfl) :
    PE (X.suite a ((a, oe) :: pn)) (.Attribute e n pos) (tXfA X.K a cls d n te) := by
  refine ⟨fun pins s σ H Q I h => attr_of hb (thn (he.run pins s σ H _ I h) fun u s1 hh => ?_)⟩
  obtain ⟨x, H1, I1, rx, ex, C, dd, fs, v, ec, T, hno, ed, ea, l, q⟩ := hh
  subst ex ec ed
  cases (show u = Value.ref a from rx)
  obtain ⟨vs, hd⟩ := hf
  have get := (I1.pin (a, oe) (List.mem_append_left _ List.mem_cons_self)).1
  obtain ⟨mA, hns, hr⟩ := show ObjOk X.prog X.w H1 s1.heap dd (.xd fs) from I1.hok dd _ ea
  obtain ⟨od, ho, hl⟩ := lookIn_ns hns
  obtain ⟨u, hu, ru⟩ := RelO.some_of (v := v) (o := mA n) (by rw [← l]; exact hr n)
  have inst : PySem.W.InstAt s1.heap a oe C (some od) := ⟨get, hz.1, by unfold PySem.W.notCls; rw [hd] <;> rfl, by rw [hz.2]; exact ho⟩
  exact HandSPX.exc_get I1.kIn inst T.ga T.gg T.exC (PySem.W.findObj_own T.hdC hno rfl (by rw [hl, hu])) (handed_of ru) ⟨v, H1, I1.tok _, ru, q⟩
end CC
namespace CC
open PySem PySem.Spec PyProof.Rows L2
open C8 (Cal pe_c pe_gc)
open LamX (CodeO TabS TabB LamS lamEnv lamCx codeO_ne)
def Pl (d : Option Addr) (pl : Option Int) (H : Hp) : Prop := match d, pl with
  | none, none => True
  | some dd, some i => H dd = some (.xd [("place", .int i)])
  | _, _ => False
def spY (K : PySem.W.Frag) (S : List Dt → (Dt → Prop) → (Str → Option Int → Prop) → Prop) : Sp := fun vs H Qh E => ∃ hid ds Q R, (∀ a, hid a = true → H a ≠ none) ∧ RpAll K (Hm hid H) vs ds ∧ S ds Q R ∧
  (∀ d v H', Q d → Ex none0 H H' → Rp K (Hm hid H') v d → Qh v H') ∧ ∀ nm pl, R nm pl → ∀ d H', Ex none0 H H' → (∀ dd, d = some dd → H dd = none) → Pl d pl H' → E (.ref (He.ga K nm)) d H'
def placed (nm : Str) : Bool := decide (nm = "BadValues") || (decide (nm = "BadRows") || decide (nm = "BadText"))
def Ew (K : PySem.W.Frag) (names : List Str) (Qh : VK) : XK := fun cls d H => ∃ (nm : Str) (pl : Option Int) (hid : Addr → Bool), nm ∈ names ∧ placed nm = pl.isSome ∧ cls = .ref (He.ga K nm) ∧ Pl d pl H ∧ (∀ a, hid a = true → H a ≠ none) ∧ (∀ dd, d = some dd → hid dd = false) ∧ ∀ H' v, Ex none0 H H' → Rp K (Hm hid H') v (.tup [.str nm, .int (pl.getD 0)]) → Qh v H'
section
variable {P : Program} {w : World} {K : PySem.W.Frag} {mg : Str → Option Value} {base : Heap}
theorem cal_y {x : Str} {st : Stmt} {N ps : List Str} {k : Nat} {S : List Dt → (Dt → Prop) → (Str → Option Int → Prop) → Prop} (F : FnAt K mg x st ps) (Sc : FnScope N ps (defScope st)) (len : ∀ ds Q R, S ds Q R → ds.length = ps.length)
    (hb : ∀ (f : Addr) (cdv : Value) (A : Around) (outer : List Env) (s : Shared) (H : Hp) (E : XK), Room k (A.deeper (envOfC x (defScope st) s.heap.objs.size f cdv)) →
      ∃ t, PSs (cxX P w K mg base N x st f cdv A outer s H E) (defBody st) t ∧ ∀ ds Q R, S ds Q R → ∀ hid H0 (D : Ends), (∀ a, hid a = true → H0 a ≠ none) → RetOk (Cn.pure K) hid H0 Q D →
        (∀ nm pl, R nm pl → ∀ d H', Ex none0 H0 H' → (∀ dd, d = some dd → H0 dd = none) → Pl d pl H' → E (.ref (He.ga K nm)) d H') → NJ (Cn.pure K) hid H0 (t D) (startS N ds)) :
    CalX P w K mg base (k + 1) x (spY K S) := by
  obtain ⟨f, fd, hm, F, b⟩ := F
  refine ⟨⟨f, fd, ps, F.okX Sc (fun vs H Q E h => ?_) (fun cdv A outer s H vs Q E hr h => ?_), hm, F.kp, b⟩⟩
  · obtain ⟨hid, ds, Q', R, _, r, hS, _⟩ := h
    rw [r.length]
    exact len ds Q' R hS
  · obtain ⟨hid, ds, Q', R, dom, r, hS, q, qx⟩ := h
    obtain ⟨t, ht, hn⟩ := hb f cdv A outer s H E hr
    exact ⟨t, ht, hn ds Q' R hS hid H { nx := fun _ H' => Q .non H', rt := Q } dom ⟨fun d hd v H' e _ r => q d v H' hd e r, fun hd ρ hd' H' σ sd => q .non .non H' hd sd.ext .non⟩ qx hid H _ (sd_start dom (fun _ h => nomatch h) trivial r)⟩
theorem Fun.okC {x qual : Str} {st : Stmt} {f : Addr} {fd : FuncData} {N ps : List Str} {k : Nat} {sp : Sp} (F : Fun K x qual st f fd) (S : FnScope N ps (defScope st)) (len : ∀ vs H Q E, sp vs H Q E → vs.length = ps.length)
    (hbody : ∀ (A : Around) (outer : List Env) (s : Shared) (H : Hp) (vs : List V) (Q : VK) (E : XK), Room k (A.deeper (envOfC qual (defScope st) s.heap.objs.size f fd.code)) → sp vs H Q E →
      ∃ t, PSs (cxD P w K mg base N qual st f fd.code A outer s H E) (defBody st) t ∧ t { nx := fun _ H' => Q .non H', rt := Q } (L2.start N vs) H) : FnOk P w K mg base CX0 (k + 1) f fd ps sp := by
  obtain ⟨oc, od, kV, doc, pm, an, cdv, ct, osl, rfl, lk, hcd⟩ := F.ex
  exact fn_of lk hcd S len fun A outer s H vs Q E hr hsp => by
    obtain ⟨t, h, q⟩ := hbody A outer s H vs Q E hr hsp
    exact ⟨t, h.nox, q⟩
end
section
variable {c : Cn} {ρ : List Sl} {Q : Dt → Prop}
theorem rp_bls {G : Hp} {K : PySem.W.Frag} {v : V} {bs : List Bool} (r : Rp K G v (.lst (bs.map Dt.bl))) : ∃ a, v = .ref a ∧ G a = some (.lst (bs.map V.bl)) := by
  cases r with
  | lst ha ra =>
    have e := ra.bls
    subst e
    exact ⟨_, rfl, ha⟩
theorem flat_bls (bs : List Bool) : (bs.map V.bl).all flatV = true := by
  rw [List.all_eq_true]
  intro z hz
  obtain ⟨b, _, rfl⟩ := List.mem_map.mp hz
  rfl
theorem ev_indexB {K : PySem.W.Frag} {to : TE} (hK : K = c.K) (h : EV c to ρ fun d => ∃ (bs : List Bool) (j : Nat), d = .lst (bs.map Dt.bl) ∧ bs[j]? = some true ∧ (∀ m, m < j → bs[m]? = some false) ∧ Q (.int (j : Nat))) :
    EV c (tBM K "list" (rIndex K) to (tCons (tC (.bl true)) tNil)) ρ Q := fun hd H σ v Qh q => h hd H σ v _ fun d x H1 h1 e1 b1 r1 => by
  subst hK
  obtain ⟨bs, j, rfl, hj, hno, hq⟩ := h1
  obtain ⟨a, rfl, ha⟩ := rp_bls r1
  have ha' := hm_le ha
  refine ⟨.inl ⟨rfl, _, .inl (.inl ha')⟩, a, bs.map V.bl, .bl true, j, .bl true, rfl, rfl, .inl (.inl ha'), rfl, flat_bls bs, by rw [List.getElem?_map, hj]; rfl, rfl, fun m z hm hz => ?_, q _ _ H1 hq e1 b1 (.int _)⟩
  rw [List.getElem?_map, hno m hm] at hz
  cases hz
  rfl
theorem cnt_bls : ∀ bs : List Bool, ((bs.map V.bl).countP fun z => eqV z (.bl true)) = bs.countP id
  | [] => rfl
  | b :: bs => by
    rw [List.map_cons, List.countP_cons, List.countP_cons, cnt_bls bs]
    cases b <;> rfl
theorem ev_countB {K : PySem.W.Frag} {to : TE} (hK : K = c.K) (h : EV c to ρ fun d => ∃ bs : List Bool, d = .lst (bs.map Dt.bl) ∧ Q (.int (bs.countP id : Nat))) :
    EV c (tBM K "list" (rCntV K) to (tCons (tC (.bl true)) tNil)) ρ Q := fun hd H σ v Qh q => h hd H σ v _ fun d x H1 h1 e1 b1 r1 => by
  subst hK
  obtain ⟨bs, rfl, hq⟩ := h1
  obtain ⟨a, rfl, ha⟩ := rp_bls r1
  have ha' := hm_le ha
  refine ⟨.inl ⟨rfl, _, .inl (.inl ha')⟩, a, bs.map V.bl, .bl true, rfl, rfl, .inl (.inl ha'), rfl, flat_bls bs, ?_⟩
  rw [cnt_bls]
  exact q _ _ H1 hq e1 b1 (.int _)
end
theorem unitsH {k : Nat} {A : Around} (r : L2H.RoomH k A) : A.units + 64 < cLine := by have := r.un; omega
theorem sd_raw {c : Cn} {hid : Addr → Bool} {H : Hp} (dom : ∀ a, hid a = true → H a ≠ none) (mh : ∀ a, c.mu a = true → hid a = true) (bb : c.B hid H) : ∀ (vs : List (Option V)), SD c hid hid H H vs (vs.map fun v => match v with | some v => Sl.rw v | none => Sl.un) := fun vs => by
  have ho : ∀ i o, ¬ ownAt vs (vs.map fun v => match v with | some v => Sl.rw v | none => Sl.un) i o := fun i o h => by
    obtain ⟨h1, s, h2, h3⟩ := h
    rw [List.getElem?_map, h1] at h2
    cases h2
    cases h3
  refine ⟨⟨dom, mh, bb, ?_⟩, fun x h => h, .refl, fun x h1 h2 => ?_, fun i j o h => (ho i o h).elim, fun i o h => (ho i o h).elim⟩
  · clear ho
    induction vs with
    | nil => exact .nil
    | cons v vs ih =>
      cases v with
      | none => exact .cons slok_un ih
      | some v => exact .cons rfl ih
  · rw [h1] at h2; cases h2
def excB (K : PySem.W.Frag) (D : Addr) : Bool := decide (PySem.W.findIn K (.ref D) "__getattribute__" = some (some (.builtin "BaseException.__getattribute__"))) && (decide (PySem.W.findIn K (.ref D) "__getattr__" = some none) && (decide (PySem.W.subIn K (.ref D) (.type "BaseException") = some true) && (PySem.W.hasDictIn K D &&
  (decide (PySem.W.findIn K (.ref D) "__class__" = some (some (.builtin "object.__class__"))) && (decide (PySem.W.specialIn K (.builtin "object.__class__") "__get__" = some (some (.builtin "getset_descriptor.__get__"))) && (decide (PySem.W.takesIn K (.builtin "object.__class__") = some true) && decide (PySem.W.mroIn K D (.type "object") = some true)))))))
theorem excB_ok {K : PySem.W.Frag} {D : Addr} (h : excB K D = true) : ExcC K D := by
  unfold excB at h
  simp only [Bool.and_eq_true, decide_eq_true_eq] at h
  obtain ⟨h1, h2, h3, h4, h5, h6, h7, h8⟩ := h
  exact ⟨h1, h2, h3, h4, h5, h6, h7, h8⟩
def clsB (K : PySem.W.Frag) (rs cs : List Str) : Bool := rs.all fun D => (cs.all fun C => decide (PySem.W.kitOne K (.ref (He.ga K D)) (.ref (He.ga K C)) = some (decide (D = C)))) && (decide (PySem.W.kitOne K (.ref (He.ga K D)) (.type "ValueError") = some true) && (decide (PySem.W.exmOne K (.ref (He.ga K D)) (.ref (He.ga K "ColumnError")) = some true) && excB K (He.ga K D)))
structure ClsF (K : PySem.W.Frag) (rs cs : List Str) : Prop where
  kit : ∀ D ∈ rs, ∀ C ∈ cs, PySem.W.kitOne K (.ref (He.ga K D)) (.ref (He.ga K C)) = some (decide (D = C))
  kitV : ∀ D ∈ rs, PySem.W.kitOne K (.ref (He.ga K D)) (.type "ValueError") = some true
  exm : ∀ D ∈ rs, PySem.W.exmOne K (.ref (He.ga K D)) (.ref (He.ga K "ColumnError")) = some true
  exc : ∀ D ∈ rs, ExcC K (He.ga K D)
theorem clsB_ok {K : PySem.W.Frag} {rs cs : List Str} (h : clsB K rs cs = true) : ClsF K rs cs := by
  have key : ∀ D ∈ rs, (∀ C ∈ cs, PySem.W.kitOne K (.ref (He.ga K D)) (.ref (He.ga K C)) = some (decide (D = C))) ∧ PySem.W.kitOne K (.ref (He.ga K D)) (.type "ValueError") = some true ∧ PySem.W.exmOne K (.ref (He.ga K D)) (.ref (He.ga K "ColumnError")) = some true ∧ excB K (He.ga K D) = true := fun D hD => by
    have h1 := List.all_eq_true.mp h D hD
    simp only [Bool.and_eq_true, decide_eq_true_eq, List.all_eq_true] at h1
    exact h1
  exact ⟨fun D hD => (key D hD).1, fun D hD => (key D hD).2.1, fun D hD => (key D hD).2.2.1, fun D hD => excB_ok (key D hD).2.2.2⟩
end CC
namespace CC
open PySem PySem.Spec PyProof.Rows L2
open C8 (Cal pe_c pe_gc)
structure Wd where
  K : PySem.W.Frag
  G : Type
  mu : G → Addr → Bool
  B : G → (Addr → Bool) → Hp → Prop
  stab : ∀ g hd hd' H H', Sees (Hm hd H) (Hm hd' H') → (∀ a o, (mu g a = true ∨ ext o = true) → H a = some o → H' a = some o) → B g hd H → B g hd' H'
  live : ∀ g hd H, B g hd H → ∀ a, mu g a = true → H a ≠ none
abbrev Wd.cn (W : Wd) (g : W.G) : Cn := ⟨W.K, W.mu g, W.B g, W.stab g⟩
def un (hd mu : Addr → Bool) : Addr → Bool := fun a => hd a || mu a
theorem un_l {hd mu : Addr → Bool} {a : Addr} (h : hd a = true) : un hd mu a = true := by unfold un; rw [h, Bool.true_or]
theorem un_r {hd mu : Addr → Bool} {a : Addr} (h : mu a = true) : un hd mu a = true := by unfold un; rw [h, Bool.or_true]
theorem un_of {hd mu : Addr → Bool} {a : Addr} (h : un hd mu a = true) : hd a = true ∨ mu a = true := Bool.or_eq_true_iff.mp h
theorem un_eq {hd mu : Addr → Bool} (h : ∀ a, mu a = true → hd a = true) : un hd mu = hd := by
  funext a
  unfold un
  cases q : mu a with
  | false => rw [Bool.or_false]
  | true => rw [h a q]; rfl
structure Fr (W : Wd) (g g' : W.G) (H : Hp) : Prop where
  up : ∀ a, W.mu g a = true → W.mu g' a = true
  new : ∀ a, W.mu g' a = true → W.mu g a = true ∨ H a = none
structure Go (W : Wd) (g g' : W.G) (hd : Addr → Bool) (H H' : Hp) : Prop where
  ex : Ex (W.mu g) H H'
  inv : W.B g' (un hd (W.mu g')) H'
  fr : Fr W g g' H
section
variable {W : Wd} {g g' g1 g2 : W.G} {hid hd : Addr → Bool} {H0 H H' H1 H2 : Hp} {σ : L2.St} {ρ : List Sl}
theorem Fr.refl : Fr W g g H := ⟨fun _ h => h, fun _ h => .inl h⟩
theorem Fr.old (f : Fr W g g' H) (e : Ex (W.mu g1) H0 H) : Fr W g g' H0 := ⟨f.up, fun a h => (f.new a h).imp id e.fresh⟩
theorem Fr.trans (f : Fr W g g1 H) (k : Fr W g1 g2 H) : Fr W g g2 H := ⟨fun a h => k.up a (f.up a h), fun a h => by
  rcases k.new a h with h | h
  · exact f.new a h
  · exact .inr h⟩
theorem Fr.ex (f : Fr W g g' H) (e : Ex (W.mu g') H H') : Ex (W.mu g) H H' := ⟨fun a o hm h => e.keep a o (by
  cases q : W.mu g' a with
  | false => rfl
  | true =>
    rcases f.new a q with z | z
    · rw [hm] at z; cases z
    · rw [h] at z; cases z) h, e.dom⟩
theorem Go.of (mh : ∀ a, W.mu g a = true → hd a = true) (e : Ex (W.mu g) H H') (b : W.B g hd H') : Go W g g hd H H' := ⟨e, by rw [un_eq mh]; exact b, .refl⟩
theorem Go.trans (a : Go W g g1 hd H H1) (b : Go W g1 g2 (un hd (W.mu g1)) H1 H2) : Go W g g2 hd H H2 := by
  have f2 : Fr W g1 g2 H := b.fr.old a.ex
  refine ⟨⟨fun x o hm h => ?_, fun x h => b.ex.dom x (a.ex.dom x h)⟩, (W.cn g2).unhide (fun x h => ?_) b.inv, a.fr.trans f2⟩
  · refine b.ex.keep x o ?_ (a.ex.keep x o hm h)
    cases q : W.mu g1 x with
    | false => rfl
    | true =>
      rcases a.fr.new x q with z | z
      · rw [hm] at z; cases z
      · rw [h] at z; cases z
  · rcases un_of h with h | h
    · exact un_l (un_l h)
    · exact un_r h
theorem Go.sees (mh : ∀ a, W.mu g a = true → hd a = true) (s : Go W g g' hd H H') : Sees (Hm hd H) (Hm (un hd (W.mu g')) H') := fun a o h => by
  have h1 := hm_not h
  have h2 := hm_le h
  have nm : W.mu g a = false := by
    cases q : W.mu g a with
    | false => rfl
    | true => rw [mh a q] at h1; cases h1
  refine ⟨o, ?_, .rfl⟩
  rw [hm_of]
  · exact s.ex.keep a o nm h2
  · cases q : un hd (W.mu g') a with
    | false => rfl
    | true =>
      rcases un_of q with z | z
      · rw [h1] at z; cases z
      · rcases s.fr.new a z with z | z
        · rw [nm] at z; cases z
        · rw [h2] at z; cases z
theorem Go.muF (s : Go W g g' hd H H') {a : Addr} (hm : W.mu g a = false) (h : H a ≠ none) : W.mu g' a = false := by
  cases q : W.mu g' a with
  | false => rfl
  | true =>
    rcases s.fr.new a q with z | z
    · rw [hm] at z; cases z
    · exact absurd z h
theorem Go.slot (mh : ∀ a, W.mu g a = true → hd a = true) (s : Go W g g' hd H H') (x : Option V) (sl : Sl) (h : SlOk (W.cn g) hd H x sl) : SlOk (W.cn g') (un hd (W.mu g')) H' x sl := by
  have e := s.sees mh
  have some_ne : ∀ {a : Addr} {o : HO}, H a = some o → H a ≠ none := fun h z => by rw [h] at z; cases z
  cases sl with
  | un => exact slok_un
  | im d =>
    cases x with
    | none => exact h.elim
    | some v => exact Rp.mono e h
  | rw u =>
    cases x with
    | none => exact h.elim
    | some v => exact h
  | dl q ds =>
    cases x with
    | none => exact h.elim
    | some v => exact ⟨h.1, Rp.mono e h.2⟩
  | ac ds =>
    cases x with
    | none => exact h.elim
    | some v =>
      cases v with
      | ref q =>
        obtain ⟨h1, h2, vs, h3, h4⟩ := h
        exact ⟨un_l h1, s.muF h2 (some_ne h3), vs, s.ex.keep q _ h2 h3, RpAll.mono e h4⟩
      | _ => exact h.elim
  | ak ds =>
    cases x with
    | none => exact h.elim
    | some v =>
      cases v with
      | ref q =>
        obtain ⟨h1, h2, vs, h3, h4⟩ := h
        exact ⟨un_l h1, s.muF h2 (some_ne h3), vs, s.ex.keep q _ h2 h3, RpK.mono e h4⟩
      | _ => exact h.elim
  | aT ds =>
    cases x with
    | none => exact h.elim
    | some v =>
      cases v with
      | ref q =>
        obtain ⟨h1, h2, vs, h3, h4⟩ := h
        exact ⟨un_l h1, s.muF h2 (some_ne h3), vs, s.ex.keep q _ h2 h3, RpT.mono e h4⟩
      | _ => exact h.elim
  | iK ds =>
    cases x with
    | none => exact h.elim
    | some v =>
      cases v with
      | ref q =>
        obtain ⟨h1, h2, vs, h3, h4⟩ := h
        refine ⟨?_, s.muF h2 (some_ne h3), vs, s.ex.keep q _ h2 h3, RpK.mono e h4⟩
        show (hd q || W.mu g' q) = false
        rw [h1, s.muF h2 (some_ne h3)]; rfl
      | _ => exact h.elim
theorem SV.step (v : SV (W.cn g) hd H σ ρ) (s : Go W g g' hd H H') : SV (W.cn g') (un hd (W.mu g')) H' σ ρ := by
  refine ⟨fun a h => ?_, fun a h => un_r h, s.inv, ?_⟩
  · rcases un_of h with h | h
    · exact s.ex.dom a (v.dom a h)
    · exact W.live g' _ H' s.inv a h
  · have key : ∀ {σ : L2.St} {ρ : List Sl}, SlAll (W.cn g) hd H σ ρ → SlAll (W.cn g') (un hd (W.mu g')) H' σ ρ := by
      intro σ ρ h
      induction h with
      | nil => exact .nil
      | cons h _ ih => exact .cons (s.slot v.muh _ _ h) ih
    exact key v.slots
theorem SD.step (d : SD (W.cn g) hid hd H0 H σ ρ) (s : Go W g g' hd H H') : SD (W.cn g') hid (un hd (W.mu g')) H0 H' σ ρ ∧ Fr W g g' H0 := by
  have f0 : Fr W g g' H0 := s.fr.old d.ext
  refine ⟨⟨d.toSV.step s, fun a h => un_l (d.sub a h), (d.ext.trans s.ex).weak f0.up, fun a h1 h2 => ?_, d.own, d.ownh⟩, f0⟩
  rcases un_of h1 with h1 | h1
  · exact d.new a h1 h2
  · rcases f0.new a h1 with z | z
    · exact d.new a (d.muh a z) h2
    · exact z
end
section
variable {W : Wd} {g : W.G} {hid : Addr → Bool} {H0 : Hp} {ρ : List Sl} {te ta tb : TE} {t u : TT} {D : Ends} {ts tz : TS}
def NxM (W : Wd) (g : W.G) (hid : Addr → Bool) (H0 : Hp) (I : W.G → List Sl → Prop) : L2.St → Hp → Prop := fun σ H => ∃ g' ρ hd, I g' ρ ∧ Fr W g g' H0 ∧ SD (W.cn g') hid hd H0 H σ ρ
theorem njm_nx {g1 : W.G} {I : W.G → List Sl → Prop} (h : I g ρ) (f : Fr W g1 g H0) : NJ (W.cn g) hid H0 (NxM W g1 hid H0 I) ρ := fun hd H σ s => ⟨g, ρ, hd, h, f, s⟩
theorem njm_nxw {g1 : W.G} {I : W.G → List Sl → Prop} (ρ' : List Sl) (h : I g ρ') (f : Fr W g1 g H0) (l : Le ρ' ρ) : NJ (W.cn g) hid H0 (NxM W g1 hid H0 I) ρ := fun hd H σ s => ⟨g, ρ', hd, h, f, s.weak l⟩
end
end CC
namespace CC
open PySem PySem.Spec PyProof.Rows L2
open C8 (Cal pe_c pe_gc)
section
variable {W : Wd} {g : W.G} {hid : Addr → Bool} {H0 H1 : Hp} {ρ : List Sl} {te ta tb : TE} {t u : TT} {D : Ends} {ts tz : TS} {gg : TG}
theorem njm_for {wi : TI} (h : IJ (W.cn g) wi ρ fun its => ∃ I : Nat → W.G → List Sl → Prop, I 0 g ρ ∧
      (∀ H1, Ex (W.mu g) H0 H1 → ∀ i d g' ρ', its[i]? = some d → I i g' ρ' → Fr W g g' H1 → TGJ (W.cn g') hid H1 gg d ρ' (ts { D with nx := NxM W g hid H1 (I (i + 1)), ct := NxM W g hid H1 (I (i + 1)), bk := D.nx })) ∧
      ∀ g' ρ', I its.length g' ρ' → Fr W g g' H0 → NJ (W.cn g') hid H0 D.nx ρ') : NJ (W.cn g) hid H0 (tFor wi gg ts D) ρ := fun hd H σ s => by
  refine h hd H σ s.toSV _ fun its J H' hq e b ok => ?_
  obtain ⟨I, i0, hstep, hend⟩ := hq
  have s' := s.go e b
  have eB := hj_ex s'
  have sB := hj_sd s'
  have vis : ∀ {g2 hd2 H2 σ2 ρ2}, Fr W g g2 (Hj H0 hd H') → SD (W.cn g2) hid hd2 (Hj H0 hd H') H2 σ2 ρ2 → Sub (Hm hd H') (Hm hd2 H2) := fun {g2 hd2 H2 σ2 ρ2} f2 s2 a o ha => by
    have h1 := hm_not ha
    have h2 := hm_le ha
    have hb : Hj H0 hd H' a = some o := by unfold Hj; rw [if_neg (by rw [h1]; exact Bool.false_ne_true)]; exact h2
    have hm : W.mu g2 a = false := by
      cases q : W.mu g2 a with
      | false => rfl
      | true =>
        rcases f2.new a q with z | z
        · rw [s.muh a z] at h1; cases h1
        · rw [hb] at z; cases z
    rw [hm_of]
    · exact s2.ext.keep a o hm hb
    · cases q : hd2 a with
      | false => rfl
      | true =>
        cases q2 : hid a with
        | true => rw [s.sub a q2] at h1; cases h1
        | false =>
          have := s2.new a q q2
          rw [hb] at this; cases this
  refine ⟨fun i m σ2 H2 => m = its.length - i ∧ i ≤ its.length ∧ ∃ g2 ρ2 hd2, I i g2 ρ2 ∧ Fr W g g2 (Hj H0 hd H') ∧ SD (W.cn g2) hid hd2 (Hj H0 hd H') H2 σ2 ρ2, ⟨its.length, rfl, Nat.zero_le _, g, ρ, hd, i0, .refl, sB⟩, ?_⟩
  rintro i m σ2 H2 ⟨rfl, hi, g2, ρ2, hd2, hI, f2, s2⟩
  have vs := vis f2 s2
  have vs' : Sub (Hm hd H') H2 := fun a o ha => hm_le (vs a o ha)
  by_cases hlt : i < its.length
  · refine .inr ⟨ok.go i H2 vs' hlt, NxM W g hid (Hj H0 hd H') (I (i + 1)), fun σ' H3 hN => ?_, fun x H3 hy => ?_⟩
    · obtain ⟨g3, ρ3, hd3, hI3, f3, s3⟩ := hN
      exact ⟨its.length - (i + 1), by omega, rfl, hlt, g3, ρ3, hd3, hI3, f3, s3⟩
    · obtain ⟨e3, r3⟩ := ok.yl i H2 x H3 its[i] vs' (List.getElem?_eq_getElem hlt) hy
      exact hstep (Hj H0 hd H') eB i its[i] g2 ρ2 (List.getElem?_eq_getElem hlt) hI f2 hd2 H3 σ2 x (s2.go e3.up ((W.cn g2).keep0 e3 s2.inv)) (r3 hd2 s2.dom vs)
  · have e : i = its.length := by omega
    exact .inl ⟨ok.st i H2 vs' e, hend g2 ρ2 (by rw [← e]; exact hI) (f2.old eB) hd2 H2 σ2 (s2.base (eB.weak f2.up))⟩
end
end CC
namespace CC
open PySem PySem.Spec PyProof.Rows L2
open C8 (Cal pe_c pe_gc)
inductive RV where
  | dat (d : Dt) | ref (a : Addr)
inductive MO where
  | lst (xs : List RV) | dk (kvs : List (Key × RV)) | ins (C dx : Addr) (fs : List (Str × RV)) | own (x : Addr)
inductive P2 {α β : Type} (R : α → β → Prop) : List α → List β → Prop
  | nil : P2 R [] []
  | cons {a : α} {b : β} {as : List α} {bs : List β} : R a b → P2 R as bs → P2 R (a :: as) (b :: bs)
section
variable {α β : Type} {R R' : α → β → Prop}
theorem P2.imp (h : ∀ a b, R a b → R' a b) : ∀ {as : List α} {bs : List β}, P2 R as bs → P2 R' as bs
  | _, _, .nil => .nil
  | _, _, .cons r t => .cons (h _ _ r) (P2.imp h t)
theorem P2.len : ∀ {as : List α} {bs : List β}, P2 R as bs → as.length = bs.length
  | _, _, .nil => rfl
  | _, _, .cons _ t => congrArg (· + 1) (P2.len t)
theorem P2.app : ∀ {as cs : List α} {bs ds : List β}, P2 R as bs → P2 R cs ds → P2 R (as ++ cs) (bs ++ ds)
  | _, _, _, _, .nil, s => s
  | _, _, _, _, .cons h t, s => .cons h (P2.app t s)
theorem P2.get : ∀ {as : List α} {bs : List β} {i : Nat} {b : β}, P2 R as bs → bs[i]? = some b → ∃ a, as[i]? = some a ∧ R a b
  | _, _, 0, _, .cons h _, e => ⟨_, rfl, by rw [show _ = _ from Option.some.inj e] at h; exact h⟩
  | _, _, i + 1, _, .cons _ t, e => P2.get (i := i) t e
theorem P2.set {a : α} {b : β} (h : R a b) : ∀ {as : List α} {bs : List β} (n : Nat), P2 R as bs → P2 R (as.set n a) (bs.set n b)
  | _, _, _, .nil => .nil
  | _, _, 0, .cons _ t => .cons h t
  | _, _, n + 1, .cons q t => .cons q (P2.set h n t)
end
def RvOk (K : PySem.W.Frag) (G : Hp) : V → RV → Prop
  | v, .dat d => Rp K G v d
  | v, .ref a => v = .ref a
theorem RvOk.mono {K : PySem.W.Frag} {G G' : Hp} (e : Sees G G') {v : V} {r : RV} (h : RvOk K G v r) : RvOk K G' v r := by
  cases r with
  | dat d => exact Rp.mono e h
  | ref a => exact h
abbrev RvF (K : PySem.W.Frag) (G : Hp) (κ : Type) : κ × V → κ × RV → Prop := fun p q => p.1 = q.1 ∧ RvOk K G p.2 q.2
def MOk (K : PySem.W.Frag) (hd : Addr → Bool) (H : Hp) (a : Addr) : MO → Prop
  | .lst rs => ∃ vs, H a = some (.lst vs) ∧ P2 (RvOk K (Hm hd H)) vs rs
  | .dk rs => ∃ vs, H a = some (.dK vs) ∧ P2 (RvF K (Hm hd H) Key) vs rs
  | .ins C dx rs => ∃ vs, H a = some (.ins C dx vs) ∧ P2 (RvF K (Hm hd H) Str) vs rs
  | .own x => H a = some (.own x)
abbrev GS : Type := Addr → Option MO
theorem MOk.mono {K : PySem.W.Frag} {hd hd' : Addr → Bool} {H H' : Hp} {a : Addr} {m : MO} (e : Sees (Hm hd H) (Hm hd' H')) (k : ∀ o, H a = some o → H' a = some o) (h : MOk K hd H a m) : MOk K hd' H' a m := by
  cases m with
  | lst rs => obtain ⟨vs, h1, h2⟩ := h; exact ⟨vs, k _ h1, h2.imp fun _ _ r => r.mono e⟩
  | dk rs => obtain ⟨vs, h1, h2⟩ := h; exact ⟨vs, k _ h1, h2.imp fun _ _ r => ⟨r.1, r.2.mono e⟩⟩
  | ins C dx rs => obtain ⟨vs, h1, h2⟩ := h; exact ⟨vs, k _ h1, h2.imp fun _ _ r => ⟨r.1, r.2.mono e⟩⟩
  | own x => exact k _ h
theorem MOk.at {K : PySem.W.Frag} {hd : Addr → Bool} {H : Hp} {a : Addr} {m : MO} (h : MOk K hd H a m) : ∃ o, H a = some o ∧ ext o = false := by
  cases m with
  | lst rs => obtain ⟨vs, h1, h2⟩ := h; exact ⟨_, h1, rfl⟩
  | dk rs => obtain ⟨vs, h1, h2⟩ := h; exact ⟨_, h1, rfl⟩
  | ins C dx rs => obtain ⟨vs, h1, h2⟩ := h; exact ⟨_, h1, rfl⟩
  | own x => exact ⟨_, h, rfl⟩
end CC
namespace CC
open PySem PySem.Spec PyProof.Rows L2
open C8 (Cal pe_c pe_gc)
theorem P2.look {K : PySem.W.Frag} {G : Hp} {f : Str} : ∀ {vs : List (Str × V)} {fs : List (Str × RV)} {r : RV}, P2 (RvF K G Str) vs fs → fs.lookup f = some r → ∃ v, vs.lookup f = some v ∧ RvOk K G v r
  | _, _, _, .nil, h => nomatch h
  | (k, v) :: vs, (k', r') :: fs, r, .cons h t, e => by
    obtain ⟨h1, h2⟩ := h
    have h1 : k = k' := h1
    subst h1
    rw [List.lookup_cons] at e ⊢
    cases q : f == k with
    | true =>
      rw [q] at e
      cases e
      exact ⟨v, rfl, h2⟩
    | false =>
      rw [q] at e
      exact P2.look t e
theorem RpF.look {K : PySem.W.Frag} {G : Hp} {f : Str} : ∀ {vs : List (Str × V)} {fs : List (Str × Dt)} {d : Dt}, RpF K G vs fs → fs.lookup f = some d → ∃ v, vs.lookup f = some v ∧ Rp K G v d
  | _, _, _, .nil, h => nomatch h
  | (k, v) :: vs, (_, d') :: fs, d, .cons h t, e => by
    rw [List.lookup_cons] at e ⊢
    cases q : f == k with
    | true =>
      rw [q] at e
      cases e
      exact ⟨v, rfl, h⟩
    | false =>
      rw [q] at e
      exact RpF.look t e
def ERC (c : Cn) (te : TE) (ρ : List Sl) (v : V) : Prop := ∀ hd H σ, SV c hd H σ ρ → ∀ Qh : VK, Qh v H → te σ H Qh
section
variable {K : PySem.W.Frag} {g : GS} {hid : Addr → Bool} {H0 : Hp} {ρ : List Sl} {to te ta tb : TE} {D : Ends} {ts tz : TS} {a b C dx : Addr} {fs : List (Str × RV)} {rs : List RV} {f : Str}
theorem erc_var {c : Cn} {i : Nat} {v : V} (hi : ρ[i]? = some (.rw v)) : ERC c (tVar i) ρ v := fun hd H σ s Qh q => ⟨v, rw_get s.slots hi, q⟩
end
end CC
namespace CC
open PySem PySem.Spec PyProof.Rows L2
open C8 (Cal pe_c pe_gc)
abbrev dats (ds : List Dt) : List RV := ds.map RV.dat
end CC
namespace CC
open PySem PySem.Spec PyProof.Rows L2
open C8 (Cal pe_c pe_gc)
end CC
namespace CC
open PySem PySem.Spec PyProof.Rows L2
open C8 (Cal pe_c pe_gc)
end CC
namespace CC
open PySem PySem.Spec PyProof.Rows L2
open C8 (Cal pe_c pe_gc)
open PySem.W (AllAlike Sortable dataLe sorted_data dataLt EachIs)
end CC
namespace CC
open PySem PySem.Spec PyProof.Rows L2
open C8 (Cal pe_c pe_gc)
def StrJ (Q : Str → Prop) : Dt → Prop
  | .str b => Q b
  | _ => False
theorem strJ {Q : Str → Prop} {x : Str} (h : Q x) : StrJ Q (.str x) := h
section
variable {c : Cn} {Q : Dt → Prop} {x y : Str} {i j : Int}
theorem lt_s (h : Q (.bl (decide (x.cps.toList < y.cps.toList)))) : R2J c rLtU (.str x) (.str y) Q := R2J.inr fun hd H v w dom mh bb r1 r2 Qh q => by
  cases r1
  cases r2
  exact ⟨x, y, rfl, rfl, kv_here q bb h (.bl _)⟩
theorem le_s (h : Q (.bl (!decide (y.cps.toList < x.cps.toList)))) : R2J c rLeU (.str x) (.str y) Q := R2J.inr fun hd H v w dom mh bb r1 r2 Qh q => by
  cases r1
  cases r2
  exact ⟨x, y, rfl, rfl, kv_here q bb h (.bl _)⟩
theorem gt_s (h : Q (.bl (decide (y.cps.toList < x.cps.toList)))) : R2J c rGtU (.str x) (.str y) Q := R2J.inr fun hd H v w dom mh bb r1 r2 Qh q => by
  cases r1
  cases r2
  exact ⟨x, y, rfl, rfl, kv_here q bb h (.bl _)⟩
theorem ge_s (h : Q (.bl (!decide (x.cps.toList < y.cps.toList)))) : R2J c rGeU (.str x) (.str y) Q := R2J.inr fun hd H v w dom mh bb r1 r2 Qh q => by
  cases r1
  cases r2
  exact ⟨x, y, rfl, rfl, kv_here q bb h (.bl _)⟩
theorem notin_c {k : Nat} (h : Q (.bl (!decide (k ∈ y.cps.toList)))) : R2J c (rNotInU c.K) (.str ⟨#[k]⟩) (.str y) Q := R2J.inr fun hd H v w dom mh bb r1 r2 Qh q => by
  cases r1
  cases r2
  exact ⟨k, y, rfl, rfl, kv_here q bb h (.bl _)⟩
theorem in_c {k : Nat} (h : Q (.bl (decide (k ∈ y.cps.toList)))) : R2J c (rInU c.K) (.str ⟨#[k]⟩) (.str y) Q := R2J.inr fun hd H v w dom mh bb r1 r2 Qh q => by
  cases r1
  cases r2
  exact ⟨k, y, rfl, rfl, kv_here q bb h (.bl _)⟩
variable {ρ : List Sl} {te ty tx : TE} {tl th : TO}
theorem ev_slS (h : EV c te ρ (StrJ fun x => x.length ≤ 100000 ∧ EVO c tl ρ fun lo => EVO c th ρ fun hi => Q (.str (cutS x lo hi)))) : EV c (tSl rSlS te tl th) ρ Q := fun hd H σ v Qh q => h hd H σ v _ fun d u H1 h1 e1 b1 r1 => by
  cases d with
  | str x =>
    cases r1
    exact h1.2 hd H1 σ (v.go e1 b1) _ fun lo H2 h2 e2 b2 => h2 hd H2 σ (v.go (e1.trans e2) b2) _ fun hi H3 h3 e3 b3 => ⟨x, rfl, Evl.sz_of h1.1, q _ _ H3 h3 ((e1.trans e2).trans e3) b3 (.str _)⟩
  | _ => exact h1.elim
end
end CC
namespace CC
open PySem PySem.Spec PyProof.Rows L2
open C8 (Cal pe_c pe_gc)
end CC
namespace CC
open PySem PySem.Spec PyProof.Rows L2
open C8 (Cal pe_c pe_gc)
end CC
namespace CC
open PySem PySem.Spec PyProof.Rows L2
open C8 (Cal pe_c pe_gc)
end CC
namespace CC
open PySem PySem.Spec PyProof.Rows L2
open C8 (Cal pe_c pe_gc)
def Wk (d d' : Dt) : Prop := ∀ K G v, Rp K G v d → Rp K G v d'
inductive WkA : List Dt → List Dt → Prop
  | nil : WkA [] []
  | cons {d d' : Dt} {ds ds' : List Dt} : Wk d d' → WkA ds ds' → WkA (d :: ds) (d' :: ds')
theorem Wk.rfl {d : Dt} : Wk d d := fun _ _ _ h => h
theorem WkA.rfl : ∀ {ds : List Dt}, WkA ds ds
  | [] => .nil
  | _ :: _ => .cons Wk.rfl WkA.rfl
theorem Wk.trans {a b d : Dt} (h : Wk a b) (k : Wk b d) : Wk a d := fun K G v r => k K G v (h K G v r)
theorem WkA.all {K : PySem.W.Frag} {G : Hp} : ∀ {ds ds' : List Dt} {vs : List V}, WkA ds ds' → RpAll K G vs ds → RpAll K G vs ds'
  | _, _, _, .nil, .nil => .nil
  | _, _, _, .cons h t, .cons r s => .cons (h _ _ _ r) (t.all s)
section
variable {c : Cn} {ρ : List Sl} {te to : TE} {Q : Dt → Prop} {QL : List Dt → Prop}
def rTupP (K : PySem.W.Frag) : List V → Hp → VK → Prop := fun xs H Q => ∃ p ys, xs = [.ref p] ∧ SqL K H p ys ∧ ∀ (l : Addr) (ob : Obj), H l = none → ob.cls = .type "tuple" → ob.dict = none → Q (.ref l) (upd H l (.frz ob (.tup ys)))
theorem tuple_lp {ds : List Dt} (h : Q (.ptup ds)) : RCJ c (rTupP c.K) [.lst ds] Q := fun hd H vs dom mh bb r Qh q => by
  obtain ⟨v, rfl, r1⟩ := rp1 r
  cases r1 with
  | @lst a xs _ ha ra =>
    refine ⟨_, _, rfl, .inl (.inl (hm_le ha)), fun l ob hl h1 h2 => ?_⟩
    have en : Ex none0 H (upd H l (.frz ob (.tup xs))) := .new hl
    refine q _ _ _ h en.up (c.keep0 en bb) (.ptup h1 h2 ?_ (ra.mono (en.sees (fun _ h => nomatch h))))
    rw [hm_of (fresh_hd dom hl), upd_same]
end
end CC
namespace CC
open PySem
abbrev Stt := List (Nat × Nat)
inductive Sep : Nat → Stt → Nat → Prop
  | nil {lo hi : Nat} : Sep lo [] hi
  | cons {lo hi b e : Nat} {l : Stt} : lo ≤ b → b < e → e ≤ hi → Sep (e + 1) l hi → Sep lo ((b, e) :: l) hi
inductive WSep : Nat → Stt → Nat → Prop
  | nil {lo hi : Nat} : WSep lo [] hi
  | cons {lo hi b e : Nat} {l : Stt} : lo ≤ b → b < e → e ≤ hi → WSep e l hi → WSep lo ((b, e) :: l) hi
def inl (p : Nat) (l : Stt) : Prop := ∃ q ∈ l, q.1 ≤ p ∧ p < q.2
structure Rn (l : Stt) (f : Nat → Bool) (n : Nat) : Prop where
  sep : Sep 0 l n
  mem : ∀ p, p < n → (f p = true ↔ inl p l)
theorem inl_nil {p : Nat} : ¬ inl p [] := fun ⟨_, h, _⟩ => nomatch h
theorem inl_cons {p b e : Nat} {l : Stt} : inl p ((b, e) :: l) ↔ (b ≤ p ∧ p < e) ∨ inl p l := by
  constructor
  · rintro ⟨q, hq, h1, h2⟩
    rcases List.mem_cons.mp hq with rfl | hq
    · exact .inl ⟨h1, h2⟩
    · exact .inr ⟨q, hq, h1, h2⟩
  · rintro (⟨h1, h2⟩ | ⟨q, hq, h1, h2⟩)
    · exact ⟨_, List.mem_cons_self, h1, h2⟩
    · exact ⟨q, List.mem_cons_of_mem _ hq, h1, h2⟩
theorem Sep.mono {lo lo' hi hi' : Nat} (h1 : lo' ≤ lo) (h2 : hi ≤ hi') : ∀ {l : Stt}, Sep lo l hi → Sep lo' l hi'
  | _, .nil => .nil
  | _, .cons a b c t => .cons (by omega) b (by omega) (t.mono (Nat.le_refl _) h2)
theorem WSep.mono {lo lo' hi hi' : Nat} (h1 : lo' ≤ lo) (h2 : hi ≤ hi') : ∀ {l : Stt}, WSep lo l hi → WSep lo' l hi'
  | _, .nil => .nil
  | _, .cons a b c t => .cons (by omega) b (by omega) (t.mono (Nat.le_refl _) h2)
theorem Sep.weak : ∀ {lo hi : Nat} {l : Stt}, Sep lo l hi → WSep lo l hi
  | _, _, _, .nil => .nil
  | _, _, _, .cons a b c t => .cons a b c (t.weak.mono (Nat.le_succ _) (Nat.le_refl _))
theorem WSep.bd : ∀ {lo hi : Nat} {l : Stt}, WSep lo l hi → ∀ q ∈ l, lo ≤ q.1 ∧ q.1 < q.2 ∧ q.2 ≤ hi
  | _, _, _, .nil, _, h => nomatch h
  | _, _, _, .cons a b c t, q, h => by
    rcases List.mem_cons.mp h with rfl | h
    · exact ⟨a, b, c⟩
    · have := t.bd q h
      omega
theorem Sep.bd {lo hi : Nat} {l : Stt} (h : Sep lo l hi) : ∀ q ∈ l, lo ≤ q.1 ∧ q.1 < q.2 ∧ q.2 ≤ hi := h.weak.bd
theorem WSep.lt {lo hi p : Nat} {l : Stt} (h : WSep lo l hi) (hp : inl p l) : lo ≤ p ∧ p < hi := by
  obtain ⟨q, hq, h1, h2⟩ := hp
  have := h.bd q hq
  omega
theorem Sep.lt {lo hi p : Nat} {l : Stt} (h : Sep lo l hi) (hp : inl p l) : lo ≤ p ∧ p < hi := h.weak.lt hp
theorem Rn.lt {l : Stt} {f : Nat → Bool} {n p : Nat} (h : Rn l f n) (hp : inl p l) : p < n := (h.sep.lt hp).2
theorem sep_uniq : ∀ {l m : Stt} {lo hi : Nat}, Sep lo l hi → Sep lo m hi → (∀ p, inl p l ↔ inl p m) → l = m
  | [], [], _, _, _, _, _ => rfl
  | [], (b, e) :: m, _, _, _, .cons a c d t, h => absurd ((h b).mpr (inl_cons.mpr (.inl ⟨Nat.le_refl _, c⟩))) inl_nil
  | (b, e) :: l, [], _, _, .cons a c d t, _, h => absurd ((h b).mp (inl_cons.mpr (.inl ⟨Nat.le_refl _, c⟩))) inl_nil
  | (b, e) :: l, (b', e') :: m, lo, hi, .cons a c d t, .cons a' c' d' t', h => by
    have key : ∀ {b e b' e' : Nat} {l m : Stt} {hi : Nat}, b < e → Sep (e' + 1) m hi → (inl b ((b', e') :: m)) → b' < e' → b' ≤ b := by
      intro b e b' e' l m hi h1 h2 h3 h4
      rcases inl_cons.mp h3 with h3 | h3
      · exact h3.1
      · have := h2.lt h3
        omega
    have hb : b = b' := Nat.le_antisymm (key (e := e') c' t ((h b').mpr (inl_cons.mpr (.inl ⟨Nat.le_refl _, c'⟩))) c (l := m)) (key (e := e) c t' ((h b).mp (inl_cons.mpr (.inl ⟨Nat.le_refl _, c⟩))) c' (l := l))
    subst hb
    have key2 : ∀ {e e' : Nat} {l m : Stt}, b < e → Sep (e + 1) l hi → Sep (e' + 1) m hi → (∀ p, inl p ((b, e) :: l) ↔ inl p ((b, e') :: m)) → e' ≤ e := by
      intro e e' l m h1 h2 h3 h4
      refine Nat.le_of_not_lt fun hlt => ?_
      rcases inl_cons.mp ((h4 e).mpr (inl_cons.mpr (.inl ⟨by omega, hlt⟩))) with h5 | h5
      · omega
      · have := h2.lt h5
        omega
    have he : e = e' := Nat.le_antisymm (key2 c' t' t fun p => (h p).symm) (key2 c t t' h)
    subst he
    rw [sep_uniq t t' fun p => ?_]
    constructor
    · intro hp
      have h1 := t.lt hp
      rcases inl_cons.mp ((h p).mp (inl_cons.mpr (.inr hp))) with h2 | h2
      · omega
      · exact h2
    · intro hp
      have h1 := t'.lt hp
      rcases inl_cons.mp ((h p).mpr (inl_cons.mpr (.inr hp))) with h2 | h2
      · omega
      · exact h2
theorem Rn.uniq {l m : Stt} {f : Nat → Bool} {n : Nat} (h : Rn l f n) (k : Rn m f n) : l = m := sep_uniq h.sep k.sep fun p => by
  constructor
  · intro hp; exact (k.mem p (h.lt hp)).mp ((h.mem p (h.lt hp)).mpr hp)
  · intro hp; exact (h.mem p (k.lt hp)).mp ((k.mem p (k.lt hp)).mpr hp)
theorem Rn.congr {l : Stt} {f g : Nat → Bool} {n : Nat} (h : Rn l f n) (e : ∀ p, p < n → f p = g p) : Rn l g n := ⟨h.sep, fun p hp => by rw [← e p hp]; exact h.mem p hp⟩
theorem Rn.all {n : Nat} (hn : 0 < n) : Rn [(0, n)] (fun _ => true) n := ⟨.cons (Nat.le_refl _) hn (Nat.le_refl _) .nil, fun p hp => ⟨fun _ => ⟨_, List.mem_cons_self, Nat.zero_le _, hp⟩, fun _ => rfl⟩⟩
theorem Rn.none {n : Nat} : Rn [] (fun _ => false) n := ⟨.nil, fun p hp => ⟨fun h => (by cases h), fun h => absurd h inl_nil⟩⟩
def placesL (l : Stt) : List Nat := l.flatMap fun q => (List.range (q.2 - q.1)).map (q.1 + ·)
def countL (l : Stt) : Nat := (l.map fun q => q.2 - q.1).sum
theorem places_len (l : Stt) : (placesL l).length = countL l := by
  unfold placesL countL
  induction l with
  | nil => rfl
  | cons q r ih => rw [List.flatMap_cons, List.length_append, ih, List.map_cons, List.sum_cons, List.length_map, List.length_range]
theorem mem_places {l : Stt} {p : Nat} : p ∈ placesL l ↔ inl p l := by
  unfold placesL inl
  rw [List.mem_flatMap]
  constructor
  · rintro ⟨q, hq, h⟩
    obtain ⟨i, hi, rfl⟩ := List.mem_map.mp h
    have := List.mem_range.mp hi
    exact ⟨q, hq, by omega, by omega⟩
  · rintro ⟨q, hq, h1, h2⟩
    exact ⟨q, hq, List.mem_map.mpr ⟨p - q.1, List.mem_range.mpr (by omega), by omega⟩⟩
theorem places_pw : ∀ {lo hi : Nat} {l : Stt}, WSep lo l hi → (placesL l).Pairwise (· < ·)
  | _, _, _, .nil => .nil
  | lo, hi, _, .cons (b := b) (e := e) (l := l) a c d t => by
    show ((List.range (e - b)).map (b + ·) ++ placesL l).Pairwise (· < ·)
    rw [List.pairwise_append]
    refine ⟨?_, places_pw t, fun x hx y hy => ?_⟩
    · rw [List.pairwise_map]
      exact List.pairwise_lt_range.imp fun h => by omega
    · obtain ⟨i, hi, rfl⟩ := List.mem_map.mp hx
      have := List.mem_range.mp hi
      have := t.lt (mem_places.mp hy)
      omega
theorem pwN_eq : ∀ {us ws : List Nat}, us.Pairwise (· < ·) → ws.Pairwise (· < ·) → (∀ k, k ∈ us ↔ k ∈ ws) → us = ws
  | [], [], _, _, _ => rfl
  | [], w :: ws, _, _, h => absurd ((h w).mpr List.mem_cons_self) (by simp)
  | u :: us, [], _, _, h => absurd ((h u).mp List.mem_cons_self) (by simp)
  | u :: us, w :: ws, hu, hw, h => by
    obtain ⟨h1, h2⟩ := List.pairwise_cons.mp hu
    obtain ⟨h3, h4⟩ := List.pairwise_cons.mp hw
    have e : u = w := by
      rcases List.mem_cons.mp ((h u).mp List.mem_cons_self) with q | q
      · exact q
      · rcases List.mem_cons.mp ((h w).mpr List.mem_cons_self) with q2 | q2
        · exact q2.symm
        · have := h3 u q
          have := h1 w q2
          omega
    subst e
    rw [pwN_eq h2 h4 fun k => ?_]
    constructor
    · intro hk
      rcases List.mem_cons.mp ((h k).mp (List.mem_cons_of_mem _ hk)) with q | q
      · have := h1 k hk; omega
      · exact q
    · intro hk
      rcases List.mem_cons.mp ((h k).mpr (List.mem_cons_of_mem _ hk)) with q | q
      · have := h3 k hk; omega
      · exact q
theorem Rn.places {l : Stt} {f : Nat → Bool} {n : Nat} (h : Rn l f n) : placesL l = (List.range n).filter f := by
  refine pwN_eq (places_pw h.sep.weak) (List.pairwise_lt_range.filter _) fun k => ?_
  rw [mem_places, List.mem_filter, List.mem_range]
  constructor
  · intro hk; exact ⟨h.lt hk, (h.mem k (h.lt hk)).mpr hk⟩
  · rintro ⟨h1, h2⟩; exact (h.mem k h1).mp h2
theorem Rn.count {l : Stt} {f : Nat → Bool} {n : Nat} (h : Rn l f n) : countL l = ((List.range n).filter f).length := by rw [← places_len, h.places]
end CC
namespace CC
open PySem PySem.Spec PyProof.Rows L2
open LamX (CodeO TabS TabB lamEnv lamCx inv_table among_app codeO_ne)
def big (s : Shared) (H : Hp) (l : List Env) : Heap := PySem.W.hideAll s.heap (trk s.heap H ++ frs l)
section
variable {X : Cx} {pins : List (Addr × Obj)} {σ : L2.St} {H : Hp} {s : Shared}
theorem big_get {b : Addr} {o : Obj} {l : List Env} (e : s.heap.get? b = some o) (n : H b = none) (hf : b ∉ frs l) : (big s H l).get? b = some o :=
  PySem.W.hideAll_get _ e fun hm => by
    rcases List.mem_append.mp hm with hm | hm
    · have := (List.mem_filter.mp hm).2
      rw [n] at this; cases this
    · exact hf hm
theorem big_of {b : Addr} {o : Obj} {l : List Env} (e : (big s H l).get? b = some o) : s.heap.get? b = some o ∧ H b = none := by
  have e' := PySem.W.of_hideAll _ e
  refine ⟨e', ?_⟩
  cases q : H b with
  | none => rfl
  | some x =>
    have hm : b ∈ trk s.heap H := List.mem_filter.mpr ⟨List.mem_range.mpr (Heap.lt_size e'), by simp [q]⟩
    have z : (big s H l).get? b = none := PySem.W.hideAll_none _ (List.mem_append_left _ hm)
    rw [z] at e; cases e
theorem env0_big (I : Inv X pins σ H s) : Env0 X.prog X.w X.K X.mg (big s H X.stack) X.A X.stack s H := by
  have kp : ∀ b o, X.base.get? b = some o → (big s H X.stack).get? b = some o := fun b o e => by
    refine big_get (I.bs b o e).1 (I.bs b o e).2 fun hb => ?_
    have := (I.stack.mem hb).1
    rw [e] at this; cases this
  obtain ⟨mb, h1, h2⟩ := I.mod.blt
  refine ⟨I.ok.frames, ⟨I.mod.kin.keeps kp, I.mod.glob.keeps kp, ⟨mb, h1.keeps kp, h2⟩, I.mod.nolimit.keeps kp⟩, fun b o e => big_of e, ?_, ?_, I.stkFree, I.hok, I.bare⟩
  · unfold big; rw [PySem.W.hideAll_size]; exact Nat.le_refl _
  · exact PySem.W.funFrames_hide I.stack fun env he a ha => List.mem_append_right _ (List.mem_filterMap.mpr ⟨env, he, ha⟩)
theorem big_cell (I : Inv X pins σ H s) (hfn : ∀ y, X.fn y = true) {y : Str} {c : Addr} {o : Obj} (hc : X.env.cells.lookup y = some c) (ho : s.heap.get? c = some o) : (big s H X.stack).get? c = some o := by
  refine big_get ho (I.freeC y c hc) fun hb => ?_
  rcases List.mem_cons.mp (I.stkSub c hb) with e | e
  · exact I.cne y c hc e
  · obtain ⟨_, u, hu, _⟩ := I.ok.funs.mem e
    exact absurd (Nat.lt_of_lt_of_le (Heap.lt_size hu) (I.ok.cab y c (hfn y) hc)) (Nat.lt_irrefl _)
end
structure LamS2 (N : List Str) (sc scope : Scope) (ps : List Str) : Prop where
  kind : scope.kind = .function
  co : scope.isCoroutine = false
  gen : scope.isGenerator = false
  cell : ∀ y ∈ scope.names, y.2 ≠ .cell
  loc : ∀ y ∈ scope.names, y.2 = .local → y.1 ∉ N
  par : ∀ p ∈ ps, scope.names.lookup p = some .local
  free : ∀ y ∈ scope.names, y.2 = .free → sc.names.lookup y.1 = some .cell ∨ sc.names.lookup y.1 = some .free
def lamB2 (N : List Str) (sc scope : Scope) (ps : List Str) : Bool :=
  decide (scope.kind = .function) && (!scope.isCoroutine && (!scope.isGenerator && ((scope.names.all fun y => !decide (y.2 = .cell)) && ((scope.names.all fun y => !decide (y.2 = .local) || !N.contains y.1) &&
    ((ps.all fun p => decide (scope.names.lookup p = some .local)) && scope.names.all fun y => !decide (y.2 = .free) || (decide (sc.names.lookup y.1 = some .cell) || decide (sc.names.lookup y.1 = some .free)))))))
theorem lamS2_by {N : List Str} {sc scope : Scope} {ps : List Str} (h : lamB2 N sc scope ps = true) : LamS2 N sc scope ps := by
  unfold lamB2 at h
  simp only [Bool.and_eq_true, Bool.or_eq_true, Bool.not_eq_true', decide_eq_true_eq, decide_eq_false_iff_not, List.all_eq_true] at h
  obtain ⟨h1, h2, h3, h4, h5, h6, h7⟩ := h
  refine ⟨h1, h2, h3, h4, fun y hy e hm => ?_, h6, fun y hy e => ?_⟩
  · rcases h5 y hy with z | z
    · exact z e
    · rw [List.contains_iff_mem.mpr hm] at z; cases z
  · rcases h7 y hy with z | z
    · exact absurd e z
    · exact z
theorem LamS2.has {X : Cx} {scope : Scope} {ps : List Str} (L : LamS2 X.N X.env.scope scope ps) (ok : X.Ok) : ∀ y ∈ scope.names, y.2 = .free → ∃ c, X.env.cells.lookup y.1 = some c := fun y hy e => by
  rcases L.free y hy e with k | k
  · exact ok.has _ (.inl k)
  · exact ok.has _ (.inr k)
abbrev lamCxB (X : Cx) (B : Heap) (A : Around) (outer : List Env) (s : Shared) (H : Hp) (E : XK) (scope : Scope) (f c' : Addr) : Cx := { lamCx X A outer s H E scope f c' with base := B }
section
variable {X : Cx} {pins : List (Addr × Obj)} {σ : L2.St} {H HZ : Hp} {s s1 : Shared}
theorem lam_start3 {B : Heap} {A : Around} {outer : List Env} {E : XK} {scope : Scope} {ps : List Str} {f c' : Addr} {h₁ : Heap} {tk : Nat} {m : Str → Option Value} (I : Inv X pins σ H s) (L : LamS2 X.N X.env.scope scope ps)
    (hB : ∀ y c o, X.env.cells.lookup y = some c → s.heap.get? c = some o → B.get? c = some o) (e0 : Env0 X.prog X.w X.K X.mg B A outer s1 HZ) (hd : A.handled = none)
    (hns : h₁.Ns s1.heap.objs.size m) (kp : ∀ b o, s1.heap.get? b = some o → h₁.get? b = some o) :
    Inv (lamCxB X B A outer s1 HZ E scope f c') [] σ HZ { s1 with heap := h₁, toks := tk } := by
  have hfree := L.has I.ok
  have cm : ∀ {y c}, (cloFrom X.env.cells scope.names []).lookup y = some c → X.env.cells.lookup y = some c := fun {y c} e => by
    rcases cloFrom_mem (PySem.mem_of_lookup e) with hm | ⟨h1, h2⟩
    · cases hm
    · obtain ⟨c1, hc⟩ := hfree _ h1 rfl
      have hc : X.env.cells.lookup y = some c1 := hc
      rw [h2, hc] <;> rfl
  have look : ∀ {y}, scope.names.lookup y = some .free → ∃ c, (cloFrom X.env.cells scope.names []).lookup y = some c := fun {y} hl =>
    mem_lookup (cloFrom_has (cells := X.env.cells) (acc := []) (PySem.mem_of_lookup hl))
  have cell1 : ∀ {y : Str} {c : Addr} {v : Option Value}, X.env.cells.lookup y = some c → s.heap.IsCell c v → h₁.IsCell c v ∧ HZ c = none := fun {y c v} hc ⟨o, ho, hd⟩ => by
    obtain ⟨q1, q2⟩ := e0.bs c o (hB y c o hc ho)
    exact ⟨⟨o, kp _ _ q1, hd⟩, q2⟩
  have noA : ∀ b : Addr, b ∉ (lamCxB X B A outer s1 HZ E scope f c').ex := fun b z => nomatch (show b ∈ ([] : List Addr) from z)
  refine ⟨⟨e0.mod, L.kind, rfl, rfl, Nat.le_refl _, fun y z c e1 e2 => I.ok.inj y z c (cm e1) (cm e2), fun y hy => ?_, fun y c z _ => (Bool.false_ne_true z).elim, fun _ => hd, Around.frames_deeper e0.frames, .inr ⟨rfl, rfl⟩, fun b z => absurd z (noA b), e0.bs, e0.bsz, fun b _ _ => noA b,
      fun b z => absurd z (noA b), e0.funs, e0.frf⟩,
    rfl, e0.bare, Un.kept kp, ⟨_, hns, fun i y v e1 e2 e3 => ?_⟩, fun y c e => ?_, e0.hok.fresh (Nat.le_refl _), fun y c e => ?_, fun q hq => (List.not_mem_nil (show q ∈ ([] : List (Addr × Obj)) from hq)).elim, e0.hok.kept kp, I.len⟩
  · rcases (show scope.names.lookup y = some .cell ∨ scope.names.lookup y = some .free from hy) with hy | hy
    · exact absurd rfl (L.cell _ (PySem.mem_of_lookup hy))
    · exact look hy
  · rcases (show Vis scope y from e3) with k | k | k
    · exact absurd (List.mem_of_getElem? e1) (L.loc _ (PySem.mem_of_lookup k) rfl)
    · exact absurd rfl (L.cell _ (PySem.mem_of_lookup k))
    · obtain ⟨m', hn, hl⟩ := I.loc
      have kk := L.free _ (PySem.mem_of_lookup k) rfl
      obtain ⟨w', r, q⟩ := hl i y v e1 e2 (kk.elim (fun k => .inr (.inl k)) (fun k => .inr (.inr k)))
      obtain ⟨c2, h2⟩ := look k
      refine ⟨w', r, .inr ⟨.inr k, c2, h2, ?_⟩⟩
      rcases q with ⟨k', _⟩ | ⟨_, c3, e', z⟩
      · have k' : X.env.scope.names.lookup y = some .local := k'
        rcases kk with k2 | k2 <;> rw [show X.env.scope.names.lookup y = _ from k2] at k' <;> cases k'
      · rw [cm h2] at e'
        cases e'
        exact (cell1 (cm h2) z).1
  · obtain ⟨w', z⟩ := I.cell y c (cm e)
    exact ⟨w', (cell1 (cm e) z).1⟩
  · obtain ⟨w', z⟩ := I.cell y c (cm e)
    exact (cell1 (cm e) z).2
end
abbrev lamFd (q : Str) (params : Arguments) (body : Expr) (scope : Scope) (cl : List (Str × Addr)) (dV pm cdv ct : Value) : FuncData :=
  { name := "<lambda>", qualname := q, params, body := .expr body, scope, globals := mainGlobals, closure := cl, defaults := dV, kwdefaults := .none, doc := .none, pyModule := pm, annotations := none, code := cdv, closureTuple := ct, builtins := builtinsNs }
abbrev lamOb (q : Str) (params : Arguments) (body : Expr) (scope : Scope) (cl : List (Str × Addr)) (dV pm cdv ct : Value) : Obj := { cls := .type "function", data := .func (lamFd q params body scope cl dV pm cdv ct) }
def LamO (f : Addr) (o : Obj) : HO := .ext fun h => h.get? f = some o
def DefO (T : Addr) (n : Nat) : HO := .ext fun h => ∃ (o : Obj) (its : Array Value) (m : Nat), h.get? T = some o ∧ o.data = .seq its m ∧ its.size = n
def Act (P : Program) (w : World) (K : PySem.W.Frag) (mg : Str → Option Value) (B : Heap) (k : Nat) (f : Addr) (sp : Hp → VK → XK → Prop) : Prop :=
  (∀ H Q E, sp H Q E → ∃ q params body scope cl dV pm cdv ct, H f = some (LamO f (lamOb q params body scope cl dV pm cdv ct))) ∧
  ∀ (A : Around) (outer : List Env) (s : Shared) (H : Hp) (Q : VK) (E : XK), Room k A → Env0 P w K mg B A outer s H → sp H Q E → codeAny (model P w) A (.call (.ref f) ⟨[], []⟩) (CR (L2.CX P w) outer P w H s Q E) s
def FillsD (params : Arguments) (body : Expr) (scope : Scope) (ps : List Str) : Prop := ∀ (q : Str) (cl : List (Str × Addr)) (T : Addr) (pm cdv ct : Value) (its : List Value), its.length = ps.length →
  ∃ k, bindArgs (lamFd q params body scope cl (.ref T) pm cdv ct) ⟨[], []⟩ = seqItems? (.ref T) >>= k ∧ k (some its.toArray) = pure (ps.zip its)
def FillsN (params : Arguments) (body : Expr) (scope : Scope) : Prop := ∀ (q : Str) (cl : List (Str × Addr)) (pm cdv ct : Value), bindArgs (lamFd q params body scope cl .none pm cdv ct) ⟨[], []⟩ = pure []
def LamAt (f c' : Addr) (q : Str) (o : Obj) (dT : Option (Addr × Nat)) : List (Addr × HO) := (f, LamO f o) :: (c', CodeO c' q) :: (match dT with | none => [] | some (T, n) => [(T, DefO T n)])
section
variable {X : Cx} {pins : List (Addr × Obj)} {σ : L2.St} {H : Hp} {s : Shared}
theorem lam_act {q : Str} {params : Arguments} {body : Expr} {scope : Scope} {ps : List Str} {dV pm ctv : Value} {f c' : Addr} {k : Nat} {t : XK → TE} {dT : Option (Addr × Nat)} (hq : X.env.qual ++ "<lambda>" = q) (I : Inv X pins σ H s) (hfn : ∀ y, X.fn y = true) (L : LamS2 X.N X.env.scope scope ps)
    (hD : (dT = none ∧ dV = .none ∧ FillsN params body scope) ∨ (∃ T, dT = some (T, ps.length) ∧ dV = .ref T ∧ FillsD params body scope ps))
    (hbody : ∀ (A : Around) (outer : List Env) (s' : Shared) (H' : Hp) (E : XK), Room k (A.deeper (lamEnv X scope s'.heap.objs.size f c')) → PE (lamCxB X (big s H X.stack) A outer s' H' E scope f c') body (t E)) :
    Act X.prog X.w X.K X.mg (big s H X.stack) (k + 1) f (fun H' Q E => (∀ p ∈ LamAt f c' q (lamOb q params body scope (cloFrom X.env.cells scope.names []) dV pm (.ref c') ctv) dT, H' p.1 = some p.2) ∧ t E σ H' Q) := by
  subst hq
  refine ⟨fun H' Q E h => ⟨_, _, _, _, _, _, _, _, _, h.1 _ List.mem_cons_self⟩, fun A outer s1 H1 Q E hr e0 h => ?_⟩
  obtain ⟨hL, ht⟩ := h
  obtain ⟨of1, _, _⟩ := e0.hok f _ (hL _ List.mem_cons_self)
  obtain ⟨⟨oc, vs, tt, hoc, hdc, hvc⟩, _, _⟩ := e0.hok c' _ (hL (c', CodeO c' (X.env.qual ++ "<lambda>")) (List.mem_cons_of_mem _ List.mem_cons_self))
  have lim : s1.heap.NoLimit := e0.mod.nolimit.keeps fun b o e => (e0.bs b o e).1
  have go : ∀ binds : List (Str × Value), (∀ y ∈ binds, scope.names.lookup y.1 = some .local) → wpAny (model X.prog X.w) A.in1 (newFunctionEnv scope mainGlobals (cloFrom X.env.cells scope.names []) binds (X.env.qual ++ "<lambda>" ++ ".<locals>.") (some f) (.ref c') none builtinsNs)
      (fun env s₂ => s₂.heap.NoLimit ∧ codeAny (model X.prog X.w) A (.expr body env) (CR (L2.CX X.prog X.w) outer X.prog X.w H1 s1 Q E) s₂) (fun e s' => CR (L2.CX X.prog X.w) outer X.prog X.w H1 s1 Q E (.error e) s') s1 := fun binds hbd => by
    refine wpAny_newFunctionEnv L.cell hbd (fun h₁ hns hsb => ⟨lim.fresh _ hsb, ?_⟩) L.kind
    have kp : ∀ b o, s1.heap.get? b = some o → h₁.get? b = some o := fun b o e => hsb.extBut b o (Nat.ne_of_lt (Heap.lt_size e)) (Heap.get?_push_of_some _ e)
    have J := lam_start3 (E := E) (c' := c') (f := f) (tk := s1.toks + binds.length) I L (fun y c o => big_cell I hfn) e0 hr.hd hns kp
    refine PySem.W.kla_codeExpr (wpAny_mono ((hbody A outer s1 H1 E (hr.deeper _)).run [] _ _ H1 Q J ht) (fun v s' hq => ?_) fun e s' hq => hq)
    obtain ⟨w', H', J', rv, q⟩ := hq
    exact ⟨w', H', J'.os, J'.bare, J'.base, J'.hok, rv, q⟩
  refine PySem.W.kla_callFunE hr.depth of1 rfl L.co L.gen rfl ⟨c', oc, vs, tt, rfl, hoc, hdc, hvc⟩ ?_
  rcases hD with ⟨_, rfl, hb⟩ | ⟨T, rfl, rfl, hb⟩
  · rw [hb]
    exact wpAny_pure (go [] (fun y hy => nomatch hy))
  · obtain ⟨⟨o, its, mm, h1, h2, h3⟩, _, _⟩ := e0.hok T _ (hL (T, DefO T ps.length) (by simp [LamAt]))
    obtain ⟨kk, e1, e2⟩ := hb (X.env.qual ++ "<lambda>") (cloFrom X.env.cells scope.names []) T pm (.ref c') ctv its.toList (by simpa using h3)
    rw [e1]
    refine wpAny_bind (wpAny_seqItems h1 h2 ?_)
    rw [show its = its.toList.toArray by simp, e2]
    exact wpAny_pure (go _ fun y hy => L.par y.1 (List.of_mem_zip hy).1)
end
end CC
namespace CC
open PySem PySem.Spec PyProof.Rows L2
open LamX (CodeO TabS TabB lamEnv lamCx inv_table among_app codeO_ne)
open PySem.W (tabObj CodeHd)
section
variable {M : Model} {A : Around} {E : Value → Shared → Prop} {s : Shared} {qual : Str} {params : Arguments} {body : Expr} {scope : Scope} {env : Env} {c P : Addr} {ps : Array Value} {pos : Pos} {firstLine : Nat} {mg : Str → Option Value} {clos : List (Str × Addr)} {Q : Value → Shared → Prop} {dV : Value}
theorem lam_tail (hcl : closureFor scope env = pure clos) (hge0 : env.globals = mainGlobals) (hg : s.heap.Ns mainGlobals mg) (hcode : env.code = .ref c) (C : CodeHd s.heap c P) (hP : s.heap.get? P = some (tabObj ps)) (ht : TriplesOk ps.toList) (hgP : mainGlobals ≠ P) (hb : s.heap.BuiltinsAt mg P)
    (hit : ∀ (cv ctv : Value) (h' : Heap) (tk : Tok), codeAmong pos ps.toList = some cv → (∀ b o, s.heap.get? b = some o → h'.get? b = some o) → s.heap.objs.size ≤ h'.objs.size → Q (.ref h'.objs.size) { s with heap := h'.push (lamOb qual params body scope clos dV ((mg "__name__").getD .none) cv ctv), toks := tk })
    (mis : ∀ c' ctv h' tk, codeAmong pos ps.toList = none → Heap.ExtBut P s.heap h' → s.heap.objs.size ≤ c' → c' < h'.objs.size → h'.CodeRec (.ref c') qual → h'.get? P = some (tabObj (ps ++ #[rawInt pos.line, rawInt pos.col, .ref c'])) →
      Q (.ref h'.objs.size) { s with heap := h'.push (lamOb qual params body scope clos dV ((mg "__name__").getD .none) (.ref c') ctv), toks := tk }) :
    wpAny M A (makeTail "<lambda>" qual params (.expr body) scope env dV .none none pos firstLine) Q E s := by
  obtain ⟨bm, ob, b1, b2, _, b4, b5, b6, b7, b8⟩ := hb
  have rest : ∀ (ctv : Value) (s1 : Shared), s1 = { s with heap := s1.heap } → (∀ b o, s.heap.get? b = some o → s1.heap.get? b = some o) → s.heap.objs.size ≤ s1.heap.objs.size →
      wpAny M A (functionCode env pos firstLine "<lambda>" qual params scope (.expr body) >>= fun cd => builtinsFor mainGlobals env.builtins >>= fun bt => nsGet mainGlobals "__name__" >>= fun pm => (pure Value.none : Sem Value) >>= fun dc =>
        newObj (.type "function") (.func { name := "<lambda>", qualname := qual, params, body := .expr body, scope, globals := mainGlobals, closure := clos, defaults := dV, kwdefaults := .none, doc := dc, pyModule := pm.getD .none, annotations := none, code := cd, closureTuple := ctv, builtins := bt })) Q E s1 := by
    intro ctv s1 e1 k1 z1
    obtain ⟨hh, g1, g2, g3, g4⟩ := s1
    cases e1
    have C1 := C.keeps k1
    have P1 := k1 _ _ hP
    have G1 := hg.keeps k1
    cases hc : codeAmong pos ps.toList with
    | some cv =>
      refine wpAny_bind (wpAny_functionCode_hit hcode (C1.code P1 ht) hc ?_)
      refine wpAny_bind (wpAny_builtinsFor G1 b1 b2 (k1 _ _ b5) b6 b7 b8 ?_)
      refine wpAny_bind (wpAny_nsGet G1 ?_)
      exact wpAny_bind (wpAny_pure (wpAny_newObj_type (hit cv ctv hh _ hc k1 z1) (by size_fits)))
    | none =>
      refine wpAny_bind (wpAny_functionCodeX hcode (C1.code P1 ht) (C1.tab P1) hc fun c' h' tk hx hge hlt _ hrec htb _ => ?_)
      have G2 := G1.extBut hx hgP
      refine wpAny_bind (wpAny_builtinsFor G2 b1 b2 (hx _ _ b4 (k1 _ _ b5)) b6 b7 b8 ?_)
      refine wpAny_bind (wpAny_nsGet G2 ?_)
      exact wpAny_bind (wpAny_pure (wpAny_newObj_type (mis c' ctv h' tk hc (fun b o hb e => hx b o hb (k1 b o e)) (Nat.le_trans z1 hge) hlt hrec htb.2) (by size_fits)))
  unfold makeTail
  rw [hcl, hge0]
  refine wpAny_bind (wpAny_pure ?_)
  cases clos with
  | nil =>
    simp only [List.isEmpty_nil, if_true]
    exact wpAny_bind (wpAny_pure (rest _ s rfl (fun _ _ e => e) (Nat.le_refl _)))
  | cons q r =>
    simp only [List.isEmpty_cons, Bool.false_eq_true, if_false]
    exact wpAny_bind (wpAny_newTextTuple (rest _ _ rfl (fun b o e => Heap.get?_push_of_some _ e) (by rw [Heap.size_push]; omega)))
end
def TabV (hd : Addr → Bool) (H : Hp) (P : Addr) (q : Str) : Prop := ∃ ps : Array Value, H P = some (.tbl ps) ∧ TriplesOk ps.toList ∧ ∀ (pos : Pos) (cv : Value), codeAmong pos ps.toList = some cv → ∃ c, cv = .ref c ∧ Hm hd H c = some (CodeO c q)
theorem TabV.nil {hd : Addr → Bool} {H : Hp} {P : Addr} {q : Str} (h : TabS H P q) (e : ∀ ps, H P = some (.tbl ps) → ps = #[]) : TabV hd H P q := by
  obtain ⟨ps, h1, _, _⟩ := h
  cases e ps h1
  refine ⟨_, h1, trivial, fun pos cv hc => ?_⟩
  have z : codeAmong pos [] = some cv := hc
  simp [codeAmong] at z
theorem TabV.stay {hd hd' : Addr → Bool} {H H' : Hp} {P : Addr} {q : Str} (hP : ∀ o, H P = some o → H' P = some o) (hx : Sees (Hm hd H) (Hm hd' H')) (t : TabV hd H P q) : TabV hd' H' P q := by
  obtain ⟨ps, h1, h2, h3⟩ := t
  refine ⟨ps, hP _ h1, h2, fun pos cv hc => ?_⟩
  obtain ⟨c, e1, e2⟩ := h3 pos cv hc
  obtain ⟨o, e3, e4⟩ := hx _ _ e2
  rw [e4.plain rfl] at e3
  exact ⟨c, e1, e3⟩
theorem TabV.up {hd : Addr → Bool} {H : Hp} {P f : Addr} {q : Str} {o : HO} (hf : H f = none) (t : TabV hd H P q) : TabV hd (upd H f o) P q := by
  refine t.stay (fun u hu => by rw [upd_ne (ne_of_none hu hf)]; exact hu) fun a u hu => ⟨u, ?_, .rfl⟩
  rw [hm_of (hm_not hu), upd_ne (ne_of_none (hm_le hu) hf)]
  exact hm_le hu
def at0 (P : Addr) : Addr → Bool := fun a => decide (a = P)
theorem at0_of {P a : Addr} (h : at0 P a = false) : a ≠ P := fun z => by subst z; unfold at0 at h; rw [decide_eq_true rfl] at h; cases h
section
variable {X : Cx} {pins : List (Addr × Obj)} {σ : L2.St} {H : Hp} {s : Shared} {hd : Addr → Bool} {c P : Addr} {q : Str} {params : Arguments} {body : Expr} {scope : Scope} {pos : Pos} {E : Value → Shared → Prop} {Q : Value → Shared → Prop} {dV : Value}
theorem lam_fin {firstLine : Nat} (I : Inv X pins σ H s) (TB : TabB X.base X.mg c P) (hcode : X.env.code = .ref c) (dom : ∀ a, hd a = true → H a ≠ none) (hT : TabV hd H P q)
    (hfree : ∀ y ∈ scope.names, y.2 = .free → ∃ c, X.env.cells.lookup y.1 = some c)
    (h : ∀ (f c' : Addr) (pm ctv : Value) (H3 : Hp) (s' : Shared), Inv X pins σ H3 s' → Ex (at0 P) H H3 → H f = none → TabV hd H3 P q → H3 f = some (LamO f (lamOb q params body scope (cloFrom X.env.cells scope.names []) dV pm (.ref c') ctv)) → Hm hd H3 c' = some (CodeO c' q) → Q (.ref f) s') :
    wpAny (model X.prog X.w) X.A (makeTail "<lambda>" q params (.expr body) scope X.env dV .none none pos firstLine) Q E s := by
  have hT' := hT
  obtain ⟨ps, hP, ht, ha⟩ := hT
  have getP : s.heap.get? P = some { cls := .none, data := .fields ps } := I.hok P _ hP
  have vis : ∀ a, H a = none → hd a = false := fun a n => by
    cases z : hd a with
    | false => rfl
    | true => exact absurd n (dom a z)
  refine lam_tail (closure_ok hfree) I.ok.glob (I.mod.glob.keeps I.bk) hcode (TB.code.keeps I.bk) getP ht TB.gP (TB.bm.keeps I.bk) (fun cv ctv h' tk hc kp sz => ?_) fun c' ctv h' tk hc hx hge hlt hrec htb => ?_
  · obtain ⟨c', rfl, hco⟩ := ha pos cv hc
    have nf : H h'.objs.size = none := I.hok.fresh sz
    have I1 : Inv X pins σ H { s with heap := h', toks := tk } := I.kept kp
    have I2 := I1.laid (t' := tk) (a := h'.objs.size) (o := LamO h'.objs.size (lamOb q params body scope (cloFrom X.env.cells scope.names []) dV ((X.mg "__name__").getD .none) (.ref c') ctv)) (h' := h'.push (lamOb q params body scope (cloFrom X.env.cells scope.names []) dV ((X.mg "__name__").getD .none) (.ref c') ctv)) (fun b u e => Heap.get?_push_of_some _ e) (Nat.le_refl _) ⟨Heap.get?_push_size _ rfl, ⟨_, Heap.get?_push_size _ rfl⟩, fun h1 h2 p st => st _ p⟩
    refine h _ c' _ ctv _ _ I2 (.new nf) nf (hT'.up nf) upd_same ?_
    rw [hm_of (hm_not hco), upd_ne (ne_of_none (hm_le hco) nf)]
    exact hm_le hco
  · obtain ⟨c2, oc, vs, t, e2, hoc, hdd, hv⟩ := hrec
    cases e2
    have nc : H c' = none := I.hok.fresh hge
    have sz : s.heap.objs.size ≤ h'.objs.size := by omega
    have nf : H h'.objs.size = none := I.hok.fresh sz
    have I1 := inv_table (t' := tk) (q := q) (more := #[rawInt pos.line, rawInt pos.col, .ref c']) I hP (fun b o hb e => hx b o hb e) htb hge ⟨oc, vs, t, hoc, hdd, hv⟩
    have nfc : h'.objs.size ≠ c' := Nat.ne_of_gt hlt
    have nfP : h'.objs.size ≠ P := fun z => by rw [z, hP] at nf; cases nf
    have nPc : P ≠ c' := fun z => by rw [z, nc] at hP; cases hP
    have nf1 : upd (upd H P (.tbl (ps ++ #[rawInt pos.line, rawInt pos.col, .ref c']))) c' (CodeO c' q) h'.objs.size = none := by rw [upd_ne nfc, upd_ne nfP]; exact nf
    have I2 := I1.laid (t' := tk) (a := h'.objs.size) (o := LamO h'.objs.size (lamOb q params body scope (cloFrom X.env.cells scope.names []) dV ((X.mg "__name__").getD .none) (.ref c') ctv)) (h' := h'.push (lamOb q params body scope (cloFrom X.env.cells scope.names []) dV ((X.mg "__name__").getD .none) (.ref c') ctv)) (fun b u e => Heap.get?_push_of_some _ e) (Nat.le_refl _) ⟨Heap.get?_push_size _ rfl, ⟨_, Heap.get?_push_size _ rfl⟩, fun h1 h2 p st => st _ p⟩
    have rows : (ps ++ #[rawInt pos.line, rawInt pos.col, .ref c']).toList = ps.toList ++ [rawInt pos.line, rawInt pos.col, .ref c'] := by simp
    have T1 : TabV hd (upd (upd H P (.tbl (ps ++ #[rawInt pos.line, rawInt pos.col, .ref c']))) c' (CodeO c' q)) P q := by
      refine ⟨_, by rw [upd_ne nPc, upd_same], by rw [rows]; exact PySem.TriplesOk_snoc _ _ _ _ ht, fun p' cv hcv => ?_⟩
      rw [rows] at hcv
      rcases among_app _ ht hcv with z | z
      · obtain ⟨c0, e1, e2⟩ := ha p' cv z
        have n0 : c0 ≠ P := fun z => by subst z; rw [hm_le e2] at hP; cases hP
        exact ⟨c0, e1, by rw [hm_of (hm_not e2), upd_ne (ne_of_none (hm_le e2) nc), upd_ne n0]; exact hm_le e2⟩
      · exact ⟨c', z, by rw [hm_of (vis _ nc)]; exact upd_same⟩
    refine h _ c' _ ctv _ _ I2 ⟨fun a o hm ho => ?_, fun a ho => upd_dom (upd_dom (upd_dom ho))⟩ nf (T1.up nf1) upd_same ?_
    · rw [upd_ne (ne_of_none ho nf), upd_ne (ne_of_none ho nc), upd_ne (at0_of hm)]
      exact ho
    · rw [hm_of (vis _ nc), upd_ne nfc.symm, upd_same]
def DD (es : List Expr) (dT : Option (Addr × Nat)) (dV : Value) : Prop := (es = [] ∧ dT = none ∧ dV = .none) ∨ ∃ T, es ≠ [] ∧ dT = some (T, es.length) ∧ dV = .ref T
def tLamO (P : Addr) (q : Str) (params : Arguments) (body : Expr) (scope : Scope) (cl : List (Str × Addr)) (es : List Expr) : TE := fun σ H Q => ∃ hd, (∀ a, hd a = true → H a ≠ none) ∧ TabV hd H P q ∧
  ∀ (f c' : Addr) (pm ctv dV : Value) (dT : Option (Addr × Nat)) (H3 : Hp), DD es dT dV → Ex (at0 P) H H3 → H f = none → TabV hd H3 P q → (∀ p ∈ LamAt f c' q (lamOb q params body scope cl dV pm (.ref c') ctv) dT, Hm hd H3 p.1 = some p.2) → Q (.ref f) H3
theorem constVals_len : ∀ {es : List Expr} {vs : List Value}, ConstVals es vs → vs.length = es.length
  | [], [], _ => rfl
  | _ :: _, _ :: _, h => congrArg Nat.succ (constVals_len h.2)
theorem pe_lamO {es : List Expr} (TB : TabB X.base X.mg c P) (hcode : X.env.code = .ref c) (hq : X.env.qual ++ "<lambda>" = q) (hdef : defaultsOf params X.env = (evalEach es X.env, [])) (hes : ∀ e ∈ es, e.isPlainConst = true)
    (hfree : X.Ok → ∀ y ∈ scope.names, y.2 = .free → ∃ c, X.env.cells.lookup y.1 = some c) :
    PE X (.Lambda params body scope pos) (tLamO P q params body scope (cloFrom X.env.cells scope.names []) es) := by
  refine ⟨fun pins s σ H Q I h => ?_⟩
  obtain ⟨hd, dom, hT, h⟩ := h
  have vis : ∀ {G : Hp} (a : Addr), (∀ a, hd a = true → G a ≠ none) → G a = none → hd a = false := fun a dm n => by
    cases z : hd a with
    | false => rfl
    | true => exact absurd n (dm a z)
  rw [arm_eval_Lambda, hdef]
  show wpAny _ _ (do let dv ← evalAll (evalEach es X.env); let kdv ← holding dv (evalAllOpt []); makeFunction "<lambda>" (X.env.qual ++ "<lambda>") params (.expr body) scope X.env dv kdv [] pos pos.line) _ _ _
  rw [hq]
  refine wpAny_bind (wpAny_evalAll_consts es s _ hes fun vs tk hv => wpAny_bind (wpAny_holding (wpAny_pure ?_)))
  have hl := constVals_len hv
  rw [makeFunction_eq]
  simp only [List.zip_nil_right, List.filterMap_nil, List.isEmpty_nil, if_true, pure_bind]
  have I0 : Inv X pins σ H { s with toks := tk } := I.tok _
  cases vs with
  | nil =>
    have e0 : es = [] := List.length_eq_zero_iff.mp hl.symm
    simp only [List.isEmpty_nil, if_true, pure_bind]
    refine lam_fin I0 TB hcode dom hT (hfree I.ok) fun f c' pm ctv H3 s' I3 e3 nf T3 hf hc => ?_
    refine ⟨.ref f, H3, I3, rfl, h f c' pm ctv .none none H3 (.inl ⟨e0, rfl, rfl⟩) e3 nf T3 fun p hp => ?_⟩
    rcases List.mem_cons.mp hp with rfl | hp
    · rw [hm_of (vis f dom nf)]; exact hf
    · rcases List.mem_cons.mp hp with rfl | hp
      · exact hc
      · cases hp
  | cons v vs =>
    simp only [List.isEmpty_cons, Bool.false_eq_true, if_false]
    refine wpAny_bind (wpAny_newTextTuple ?_)
    have nT : H s.heap.objs.size = none := I.hok.fresh (Nat.le_refl _)
    have I1 := I0.laid (t' := tk) (a := s.heap.objs.size) (o := DefO s.heap.objs.size es.length) (h' := s.heap.push { cls := .type "tuple", data := .seq (v :: vs).toArray }) (fun b u e => Heap.get?_push_of_some _ e) (Nat.le_refl _) ⟨⟨_, _, _, Heap.get?_push_size _ rfl, rfl, by simpa using hl⟩, ⟨_, Heap.get?_push_size _ rfl⟩, fun h1 h2 ⟨o, its, m, p1, p2, p3⟩ st => ⟨o, its, m, st _ p1, p2, p3⟩⟩
    have dom1 : ∀ a, hd a = true → upd H s.heap.objs.size (DefO s.heap.objs.size es.length) a ≠ none := fun a ha => upd_dom (dom a ha)
    refine lam_fin I1 TB hcode dom1 (hT.up nT) (hfree I.ok) fun f c' pm ctv H3 s' I3 e3 nf T3 hf hc => ?_
    have nf0 : H f = none := (Ex.new (mu := at0 P) nT).fresh nf
    refine ⟨.ref f, H3, I3, rfl, h f c' pm ctv _ (some (s.heap.objs.size, es.length)) H3 (.inr ⟨_, (fun z => by rw [z] at hl; cases hl), rfl, rfl⟩) ((Ex.new nT).trans e3) nf0 T3 fun p hp => ?_⟩
    rcases List.mem_cons.mp hp with rfl | hp
    · rw [hm_of (vis f dom1 nf)]; exact hf
    · rcases List.mem_cons.mp hp with rfl | hp
      · exact hc
      · cases List.mem_singleton.mp hp
        rw [hm_of (vis _ dom nT)]
        refine e3.keep _ _ ?_ upd_same
        obtain ⟨ps, hP, _⟩ := hT
        exact decide_eq_false fun z => by rw [← z, nT] at hP; cases hP
end
end CC
namespace CC
open PySem PySem.Spec PyProof.Rows L2
open C8 (Cal pe_c pe_gc)
structure Cl (K : PySem.W.Frag) where
  mu : Addr → Bool
  B : (Addr → Bool) → Hp → Prop
  stab : ∀ hd hd' H H', Sees (Hm hd H) (Hm hd' H') → (∀ a o, (mu a = true ∨ ext o = true) → H a = some o → H' a = some o) → B hd H → B hd' H'
  live : ∀ hd H, B hd H → ∀ a, mu a = true → H a ≠ none
def Cl.pure (K : PySem.W.Frag) : Cl K := ⟨none0, fun _ _ => True, fun _ _ _ _ _ _ _ => trivial, fun _ _ _ _ h => nomatch h⟩
def Cl.box (K : PySem.W.Frag) (b l : Addr) : Cl K := ⟨muB b l, fun _ H => Bx b l H, (cnB K b l).stab, fun _ H ⟨s, ns, h1, h2⟩ a h => by
  rcases muB_of h with rfl | rfl
  · rw [h1]; exact fun z => nomatch z
  · rw [h2]; exact fun z => nomatch z⟩
inductive MT where
  | lst (xs : List RV) | dk (kvs : List (Key × RV)) | dl (od : Obj) (vs : List (Key × V)) (kvs : List (Key × RV)) | ins (C dx : Addr) (fs : List (Str × RV)) | tp (xs : List RV) | tab (q : Str)
abbrev GT : Type := Addr → Option MT
def MTk (K : PySem.W.Frag) (hd : Addr → Bool) (H : Hp) (a : Addr) : MT → Prop
  | .lst rs => ∃ vs, H a = some (.lst vs) ∧ P2 (RvOk K (Hm hd H)) vs rs
  | .dk rs => ∃ vs, H a = some (.dK vs) ∧ P2 (RvF K (Hm hd H) Key) vs rs
  | .dl od vs rs => H a = some (.frz od (.dK vs)) ∧ P2 (RvF K (Hm hd H) Key) vs rs
  | .ins C dx rs => ∃ vs, H a = some (.ins C dx vs) ∧ P2 (RvF K (Hm hd H) Str) vs rs
  | .tp rs => ∃ vs, H a = some (.tup vs) ∧ P2 (RvOk K (Hm hd H)) vs rs
  | .tab q => TabV hd H a q
def setG (g : GT) (a : Addr) (m : MT) : GT := fun b => if b = a then some m else g b
theorem setG_same {g : GT} {a : Addr} {m : MT} : setG g a m a = some m := if_pos rfl
theorem setG_ne {g : GT} {a b : Addr} {m : MT} (h : b ≠ a) : setG g a m b = g b := if_neg h
theorem MTk.mono {K : PySem.W.Frag} {hd hd' : Addr → Bool} {H H' : Hp} {a : Addr} {m : MT} (e : Sees (Hm hd H) (Hm hd' H')) (k : ∀ o, H a = some o → H' a = some o) (h : MTk K hd H a m) : MTk K hd' H' a m := by
  cases m with
  | lst rs => obtain ⟨vs, h1, h2⟩ := h; exact ⟨vs, k _ h1, h2.imp fun _ _ r => r.mono e⟩
  | dk rs => obtain ⟨vs, h1, h2⟩ := h; exact ⟨vs, k _ h1, h2.imp fun _ _ r => ⟨r.1, r.2.mono e⟩⟩
  | dl od vs rs => obtain ⟨h1, h2⟩ := h; exact ⟨k _ h1, h2.imp fun _ _ r => ⟨r.1, r.2.mono e⟩⟩
  | ins C dx rs => obtain ⟨vs, h1, h2⟩ := h; exact ⟨vs, k _ h1, h2.imp fun _ _ r => ⟨r.1, r.2.mono e⟩⟩
  | tp rs => obtain ⟨vs, h1, h2⟩ := h; exact ⟨vs, k _ h1, h2.imp fun _ _ r => r.mono e⟩
  | tab q => exact TabV.stay k e h
theorem MTk.at {K : PySem.W.Frag} {hd : Addr → Bool} {H : Hp} {a : Addr} {m : MT} (h : MTk K hd H a m) : ∃ o, H a = some o ∧ ext o = false := by
  cases m with
  | lst rs => obtain ⟨vs, h1, h2⟩ := h; exact ⟨_, h1, rfl⟩
  | dk rs => obtain ⟨vs, h1, h2⟩ := h; exact ⟨_, h1, rfl⟩
  | dl od vs rs => obtain ⟨h1, h2⟩ := h; exact ⟨_, h1, rfl⟩
  | ins C dx rs => obtain ⟨vs, h1, h2⟩ := h; exact ⟨_, h1, rfl⟩
  | tp rs => obtain ⟨vs, h1, h2⟩ := h; exact ⟨_, h1, rfl⟩
  | tab q => obtain ⟨ps, h1, h2⟩ := h; exact ⟨_, h1, rfl⟩
@[reducible] def WT {K : PySem.W.Frag} (X : Cl K) : Wd where
  K := K
  G := GT
  mu := fun g a => X.mu a || (g a).isSome
  B := fun g hd H => X.B hd H ∧ ∀ a m, g a = some m → X.mu a = false ∧ MTk K hd H a m
  stab := fun g hd hd' H H' e k h => ⟨X.stab hd hd' H H' e (fun a o ha => k a o (ha.imp (fun h => by rw [h, Bool.true_or]) id)) h.1, fun a m hm => ⟨(h.2 a m hm).1, (h.2 a m hm).2.mono e fun o ho => k a o (.inl (by rw [hm]; exact Bool.or_true _)) ho⟩⟩
  live := fun g hd H h a ha => by
    rcases Bool.or_eq_true_iff.mp ha with ha | ha
    · exact X.live hd H h.1 a ha
    · obtain ⟨m, hm⟩ := Option.isSome_iff_exists.mp ha
      obtain ⟨o, ho, _⟩ := (h.2 a m hm).2.at
      rw [ho]; exact fun z => nomatch z
abbrev ct {K : PySem.W.Frag} (X : Cl K) (g : GT) : Cn := (WT X).cn g
section
variable {K : PySem.W.Frag} {X : Cl K} {g : GT} {hd : Addr → Bool} {H H' : Hp} {a : Addr} {m m' : MT} {o : HO}
theorem muT (h : g a = some m) : (WT X).mu g a = true := by show (X.mu a || (g a).isSome) = true; rw [h]; exact Bool.or_true _
theorem mu_setG (h : g a = some m) (x : Addr) : (WT X).mu (setG g a m') x = (WT X).mu g x := by
  show (X.mu x || (setG g a m' x).isSome) = (X.mu x || (g x).isSome)
  by_cases q : x = a
  · subst q; rw [setG_same, h]; rfl
  · rw [setG_ne q]
theorem got_set (mh : ∀ x, (WT X).mu g x = true → hd x = true) (b : (WT X).B g hd H) (ha : g a = some m) (hx : ext o = false) (h : MTk K hd (upd H a o) a m') : Go (WT X) g (setG g a m') hd H (upd H a o) := by
  have hda := mh a (muT ha)
  have eun : un hd ((WT X).mu (setG g a m')) = hd := un_eq fun x hx => mh x (by rw [← mu_setG (m' := m') ha x]; exact hx)
  refine ⟨(Ex.refl (H := H)).mut (.inr (muT ha)), ?_, ⟨fun x hx => by rw [mu_setG ha x]; exact hx, fun x hx => .inl (by rw [← mu_setG (m' := m') ha x]; exact hx)⟩⟩
  rw [eun]
  have na := (b.2 a m ha).1
  have sm : Sees (Hm hd H) (Hm hd (upd H a o)) := by rw [hm_upd hda]; exact Sees.refl
  refine ⟨X.stab hd hd H _ sm (fun x u hxu hu => ?_) b.1, fun x mx hx => ?_⟩
  · have : x ≠ a := fun z => by
      subst z
      rcases hxu with q | q
      · rw [na] at q; cases q
      · obtain ⟨u2, h3, h4⟩ := (b.2 x m ha).2.at
        rw [hu] at h3
        cases h3
        rw [h4] at q; cases q
    rw [upd_ne this]; exact hu
  · by_cases q : x = a
    · subst q
      rw [setG_same] at hx
      cases hx
      exact ⟨na, h⟩
    · rw [setG_ne q] at hx
      exact ⟨(b.2 x mx hx).1, (b.2 x mx hx).2.mono sm fun u hu => by rw [upd_ne q]; exact hu⟩
theorem got_new (b : (WT X).B g hd H) (mh : ∀ x, (WT X).mu g x = true → hd x = true) (e : Ex ((WT X).mu g) H H') (bb : (WT X).B g (hide hd a) H') (ha : H a = none) (h : MTk K (hide hd a) H' a m') : Go (WT X) g (setG g a m') hd H H' := by
  have na : g a = none := by
    cases q : g a with
    | none => rfl
    | some mm =>
      obtain ⟨u, hu, _⟩ := (b.2 a mm q).2.at
      rw [ha] at hu; cases hu
  have nx : X.mu a = false := by
    cases q : X.mu a with
    | false => rfl
    | true => exact absurd ha (X.live hd H b.1 a q)
  have sub : ∀ x, un hd ((WT X).mu (setG g a m')) x = true → hide hd a x = true := fun x hx => by
    rcases un_of hx with hx | hx
    · exact hide_of hx
    · by_cases q : x = a
      · subst q; exact hide_self
      · refine hide_of (mh x ?_)
        have : (X.mu x || (setG g a m' x).isSome) = true := hx
        rw [setG_ne q] at this
        exact this
  refine ⟨e, ?_, ⟨fun x hx => ?_, fun x hx => ?_⟩⟩
  · refine ((WT X).cn (setG g a m')).unhide sub ⟨bb.1, fun x mx hx => ?_⟩
    by_cases q : x = a
    · subst q
      rw [setG_same] at hx
      cases hx
      exact ⟨nx, h⟩
    · rw [setG_ne q] at hx
      exact bb.2 x mx hx
  · show (X.mu x || (setG g a m' x).isSome) = true
    by_cases q : x = a
    · subst q; rw [setG_same]; exact Bool.or_true _
    · rw [setG_ne q]; exact hx
  · by_cases q : x = a
    · subst q; exact .inr ha
    · refine .inl ?_
      have : (X.mu x || (setG g a m' x).isSome) = true := hx
      rw [setG_ne q] at this
      exact this
theorem g_none (b : (WT X).B g hd H) (ha : H a = none) : g a = none := by
  cases q : g a with
  | none => rfl
  | some mm =>
    obtain ⟨u, hu, _⟩ := (b.2 a mm q).2.at
    rw [ha] at hu; cases hu
end
def EAR (c : Cn) (ta : TA) (ρ : List Sl) (Q : List RV → Prop) : Prop := ∀ hd H σ, SV c hd H σ ρ → ∀ Qh : List V → Hp → Prop, (∀ rs vs H', Q rs → Ex c.mu H H' → c.B hd H' → P2 (RvOk c.K (Hm hd H')) vs rs → Qh vs H') → ta σ H Qh
section
variable {c : Cn} {ρ : List Sl} {te : TE} {tr : TA}
theorem ear_nil {Q : List RV → Prop} (h : Q []) : EAR c tNil ρ Q := fun hd H σ v Qh q => q [] [] H h .refl v.inv .nil
theorem ear_dat {Q : List RV → Prop} (h : EV c te ρ fun d => EAR c tr ρ fun rs => Q (.dat d :: rs)) : EAR c (tCons te tr) ρ Q := fun hd H σ v Qh q =>
  h hd H σ v _ fun d x H1 h1 e1 b1 r1 => h1 hd H1 σ (v.go e1 b1) _ fun rs vs H2 h2 e2 b2 r2 => q (.dat d :: rs) (x :: vs) H2 h2 (e1.trans e2) b2 (.cons (show RvOk _ _ x (.dat d) from r1.mono (e2.sees v.muh)) r2)
end
def slR : RV → Sl
  | .dat d => .im d
  | .ref a => .rw (.ref a)
def startR (N : List Str) (rs : List RV) : List Sl := rs.map slR ++ List.replicate (N.length - rs.length) .un
def RJR {K : PySem.W.Frag} (X : Cl K) (g : GT) (hid : Addr → Bool) (H0 : Hp) (R : VK) (r : RV) : Prop := ∀ v H', Ex ((WT X).mu g) H0 H' → (WT X).B g (un hid ((WT X).mu g)) H' → RvOk K (Hm (un hid ((WT X).mu g)) H') v r → R v H'
structure RetR {K : PySem.W.Frag} (X : Cl K) (g : GT) (hid : Addr → Bool) (H0 : Hp) (Q : GT → RV → Prop) (D : Ends) : Prop where
  rt : ∀ g' r, Q g' r → Fr (WT X) g g' H0 → RJR X g' hid H0 D.rt r
  nx : ∀ g', Q g' (.dat .non) → Fr (WT X) g g' H0 → ∀ ρ, NJ (ct X g') hid H0 D.nx ρ
theorem slall_R {K : PySem.W.Frag} {c : Cn} {hd : Addr → Bool} {H : Hp} (hK : c.K = K) : ∀ {vs : List V} {rs : List RV} {n : Nat}, P2 (RvOk K (Hm hd H)) vs rs → SlAll c hd H (vs.map some ++ List.replicate n none) (rs.map slR ++ List.replicate n .un)
  | _, _, n, .nil => by
    show SlAll c hd H (List.replicate n none) (List.replicate n .un)
    induction n with
    | zero => exact .nil
    | succ n ih =>
      rw [List.replicate_succ, List.replicate_succ]
      exact .cons trivial ih
  | _, r :: _, n, .cons h t => by
    subst hK
    refine .cons ?_ (slall_R rfl t)
    cases r with
    | dat d => exact h
    | ref a => exact h
theorem owns_R {rs : List RV} {n i : Nat} {s : Sl} (h : (rs.map slR ++ List.replicate n .un)[i]? = some s) : owns s = false := by
  rcases List.mem_append.mp (List.mem_of_getElem? h) with h | h
  · obtain ⟨r, _, rfl⟩ := List.mem_map.mp h
    cases r <;> rfl
  · rw [(List.mem_replicate.mp h).2]; rfl
theorem sd_startR {c : Cn} {hid : Addr → Bool} {H : Hp} {N : List Str} {vs : List V} {rs : List RV} (dom : ∀ a, hid a = true → H a ≠ none) (muh : ∀ a, c.mu a = true → hid a = true) (b : c.B hid H) (r : P2 (RvOk c.K (Hm hid H)) vs rs) : SD c hid hid H H (L2.start N vs) (startR N rs) := by
  have hl := r.len
  refine ⟨⟨dom, muh, b, ?_⟩, fun _ h => h, .refl, fun a h1 h2 => (by rw [h1] at h2; cases h2), fun i j o h1 => ?_, fun i o h1 => ?_⟩
  · unfold L2.start startR
    rw [hl]
    exact slall_R rfl r
  · obtain ⟨_, s, h2, h3⟩ := h1
    rw [owns_R h2] at h3; cases h3
  · obtain ⟨_, s, h2, h3⟩ := h1
    rw [owns_R h2] at h3; cases h3
end CC
namespace CC
open PySem PySem.Spec PyProof.Rows L2
open C8 (Cal pe_c pe_gc)
def EVR {K : PySem.W.Frag} (X : Cl K) (g : GT) (te : TE) (ρ : List Sl) (Q : GT → RV → Prop) : Prop := ∀ hd H σ, SV (ct X g) hd H σ ρ → ∀ Qh : VK, (∀ g' r v H', Q g' r → Go (WT X) g g' hd H H' → RvOk K (Hm (un hd ((WT X).mu g')) H') v r → Qh v H') → te σ H Qh
section
variable {K : PySem.W.Frag} {X : Cl K} {g : GT} {hid hd : Addr → Bool} {H0 H : Hp} {σ : L2.St} {ρ : List Sl} {te ta tb to td ty : TE} {t : TT} {D : Ends} {ts tz : TS}
theorem RvOk.hide {h1 h2 : Addr → Bool} (s : ∀ a, h1 a = true → h2 a = true) {v : V} {r : RV} (h : RvOk K (Hm h2 H) v r) : RvOk K (Hm h1 H) v r := h.mono (sees_hide s)
theorem evr {Q : GT → RV → Prop} (h : EV (ct X g) te ρ fun d => Q g (.dat d)) : EVR X g te ρ Q := fun hd H σ v Qh q => h hd H σ v Qh fun d x H' hq e b r => q g (.dat d) x H' hq (.of v.muh e b) (by rw [un_eq v.muh]; exact r)
theorem evr_ref {Q : GT → RV → Prop} {a : Addr} (h : ERC (ct X g) te ρ (.ref a)) (k : Q g (.ref a)) : EVR X g te ρ Q := fun hd H σ v Qh q => h hd H σ v Qh (q g (.ref a) (.ref a) H k (.of v.muh .refl v.inv) rfl)
theorem EVR.imp {Q Q' : GT → RV → Prop} (h : EVR X g te ρ Q) (k : ∀ g' r, Q g' r → Q' g' r) : EVR X g te ρ Q' := fun hd H σ v Qh q => h hd H σ v Qh fun g' r x H' hq => q g' r x H' (k g' r hq)
theorem p2_dats {G : Hp} : ∀ {vs : List V} {ds : List Dt}, RpAll K G vs ds → P2 (RvOk K G) vs (dats ds)
  | _, _, .nil => .nil
  | _, _, .cons r t => .cons r (p2_dats t)
theorem evr_new {Q : GT → RV → Prop} (h : EN (ct X g) te ρ fun ds => ∀ o, g o = none → Q (setG g o (.lst (dats ds))) (.ref o)) : EVR X g te ρ Q := fun hd H σ v Qh q => h hd H σ v _ fun ds o vs H' hq e b ho h1 r => by
  have go1 := got_new (m' := .lst (dats ds)) v.inv v.muh e b ho ⟨vs, h1, p2_dats r⟩
  exact q _ _ _ H' (hq o (g_none v.inv ho)) go1 rfl
theorem SD.setRw {c : Cn} (s : SD c hid hd H0 H σ ρ) {i : Nat} {v : V} : SD c hid hd H0 H (σ.set i (some v)) (ρ.set i (.rw v)) := by
  refine ⟨⟨s.dom, s.muh, s.inv, s.slots.set (by exact rfl) i⟩, s.sub, s.ext, s.new, fun a b o h1 h2 => ?_, fun a o h1 => ?_⟩
  · rcases ownAt_set h1 with ⟨_, _, z⟩ | ⟨_, h1⟩
    · cases z
    · rcases ownAt_set h2 with ⟨_, _, z⟩ | ⟨_, h2⟩
      · cases z
      · exact s.own a b o h1 h2
  · rcases ownAt_set h1 with ⟨_, _, z⟩ | ⟨_, h1⟩
    · cases z
    · exact s.ownh a o h1
theorem SD.setR {g : GT} (s : SD (ct X g) hid hd H0 H σ ρ) {i : Nat} {v : V} {r : RV} (h : RvOk K (Hm hd H) v r) : SD (ct X g) hid hd H0 H (σ.set i (some v)) (ρ.set i (slR r)) := by
  cases r with
  | dat d => exact s.setIm h
  | ref a => cases h; exact s.setRw
theorem njr_asg {i : Nat} (h : EVR X g te ρ fun g' r => Fr (WT X) g g' H0 → NJ (ct X g') hid H0 D.nx (ρ.set i (slR r))) : NJ (ct X g) hid H0 (tAsg te (gName i) D) ρ := fun hd H σ s => h hd H σ s.toSV _ fun g' r v H' hq st rv => by
  obtain ⟨s', f⟩ := s.step st
  exact hq f _ H' _ (s'.setR rv)
theorem qr_asg {i : Nat} (h : EVR X g te ρ fun g' r => Fr (WT X) g g' H0 → NJ (ct X g') hid H0 (tz D) (ρ.set i (slR r))) : NJ (ct X g) hid H0 (tSeq (tAsg te (gName i)) tz D) ρ := njr_asg (D := { D with nx := tz D }) h
theorem un_sub {g' : GT} (s : ∀ a, hid a = true → hd a = true) : ∀ a, un hid ((WT X).mu g') a = true → un hd ((WT X).mu g') a = true := fun a h => by
  rcases un_of h with h | h
  · exact un_l (s a h)
  · exact un_r h
theorem njr_ret (h : EVR X g te ρ fun g' r => Fr (WT X) g g' H0 → RJR X g' hid H0 D.rt r) : NJ (ct X g) hid H0 (tRet te D) ρ := fun hd H σ s => h hd H σ s.toSV _ fun g' r v H' hq st rv => by
  obtain ⟨s', f⟩ := s.step st
  exact hq f v H' s'.ext (((WT X).cn g').unhide (un_sub s.sub) s'.inv) (rv.hide (un_sub s.sub))
theorem RJR.dat {R : VK} {d : Dt} (h : RJR X g hid H0 R (.dat d)) (mh : True) : ∀ v H', Ex ((WT X).mu g) H0 H' → (WT X).B g (un hid ((WT X).mu g)) H' → Rp K (Hm (un hid ((WT X).mu g)) H') v d → R v H' := h
theorem njr_app {b : Addr} {K' : PySem.W.Frag} {rs : List RV} (hr : ERC (ct X g) to ρ (.ref b)) (hb : g b = some (.lst rs)) (h : EVR X g te ρ fun g1 r => ∃ rs1, g1 b = some (.lst rs1) ∧ rs1.length < 100000 ∧ (Fr (WT X) g (setG g1 b (.lst (rs1 ++ [r]))) H0 → NJ (ct X (setG g1 b (.lst (rs1 ++ [r])))) hid H0 D.nx ρ)) :
    NJ (ct X g) hid H0 (tDrop (tBM K' "list" rAppend to (tCons te tNil)) D) ρ := fun hd H σ s => hr hd H σ s.toSV _ (by
  obtain ⟨vs0, h0, _⟩ := (s.inv.2 b _ hb).2
  refine ⟨.inl ⟨rfl, vs0, .inl (.inl h0)⟩, h hd H σ s.toSV _ fun g1 r v H1 hq st rv => ?_⟩
  obtain ⟨rs1, hb1, hl, hnj⟩ := hq
  obtain ⟨s1, f1⟩ := s.step st
  obtain ⟨vs, h1, h2⟩ := (s1.inv.2 b _ hb1).2
  have sm : Sees (Hm (un hd ((WT X).mu g1)) H1) (Hm (un hd ((WT X).mu g1)) (upd H1 b (.lst (vs ++ [v])))) := by rw [hm_upd (s1.muh b (muT (X := X) hb1))]; exact Sees.refl
  have st2 := got_set (m' := .lst (rs1 ++ [r])) (o := .lst (vs ++ [v])) s1.muh s1.inv hb1 rfl ⟨_, upd_same, (h2.app (.cons rv .nil)).imp fun _ _ z => z.mono sm⟩
  obtain ⟨s2, f2⟩ := s1.step st2
  exact ⟨b, vs, v, rfl, rfl, h1, Evl.sz_lt (by rw [h2.len]; exact hl), hnj (f1.trans f2) _ _ σ s2⟩)
end
end CC
namespace CC
open PySem PySem.Spec PyProof.Rows L2
open C8 (Cal pe_c pe_gc)
section
variable {K : PySem.W.Frag} {X : Cl K} {g : GT} {hid hd : Addr → Bool} {H0 H : Hp} {σ : L2.St} {ρ : List Sl} {te ta tb to td ty : TE} {t : TT} {D : Ends} {ts tz : TS} {gg : TG}
def g0 : GT := fun _ => none
end
end CC
namespace CC
open PySem PySem.Spec PyProof.Rows L2
end CC
namespace CC
open PySem PySem.Spec PyProof.Rows L2
open PySem.Sem (wp)
end CC
namespace CC
open PySem PySem.Spec PyProof.Rows L2
end CC
namespace CC
open PySem PySem.Spec PyProof.Rows L2
end CC
namespace CC
open PySem PySem.Spec PyProof.Rows L2
open C8 (Cal pe_c pe_gc)
end CC
namespace CC
open PySem PySem.Spec PyProof.Rows L2
open C8 (Cal pe_c pe_gc)
section
variable {W : Wd} {g : W.G} {hid : Addr → Bool} {H0 H1 : Hp} {ρ : List Sl} {te ta tb : TE} {t u : TT} {D : Ends} {ts tz : TS} {gg : TG}
theorem qm_for {wi : TI} (h : IJ (W.cn g) wi ρ fun its => ∃ I : Nat → W.G → List Sl → Prop, I 0 g ρ ∧
      (∀ H1, Ex (W.mu g) H0 H1 → ∀ i d g' ρ', its[i]? = some d → I i g' ρ' → Fr W g g' H1 → TGJ (W.cn g') hid H1 gg d ρ' (ts { D with nx := NxM W g hid H1 (I (i + 1)), ct := NxM W g hid H1 (I (i + 1)), bk := tz D })) ∧
      ∀ g' ρ', I its.length g' ρ' → Fr W g g' H0 → NJ (W.cn g') hid H0 (tz D) ρ') : NJ (W.cn g) hid H0 (tSeq (tFor wi gg ts) tz D) ρ := njm_for (D := { D with nx := tz D }) h
end
end CC
namespace CC
open PySem PySem.Spec PyProof.Rows L2
open C8 (Cal pe_c pe_gc)
section
variable {K : PySem.W.Frag} {X : Cl K} {g : GT} {hid hd : Addr → Bool} {H0 H : Hp} {σ : L2.St} {ρ : List Sl} {te ta tb to td ty : TE} {t : TT} {D : Ends} {ts tz : TS} {gg : TG}
theorem setG_two {g : GT} {a : Addr} {m m' : MT} : setG (setG g a m) a m' = setG g a m' := by
  funext b
  by_cases h : b = a
  · subst h; rw [setG_same, setG_same]
  · rw [setG_ne h, setG_ne h, setG_ne h]
theorem SV.setR (s : SV (ct X g) hd H σ ρ) {v : V} {r : RV} (i : Nat) (h : RvOk K (Hm hd H) v r) : SV (ct X g) hd H (σ.set i (some v)) (ρ.set i (slR r)) := by
  cases r with
  | dat d => exact s.set i h
  | ref a => cases h; exact s.set i rfl
end
end CC
namespace CC
open PySem PySem.Spec PyProof.Rows L2
open C8 (Cal pe_c pe_gc)
section
variable {W : Wd} {g : W.G} {hid : Addr → Bool} {H0 : Hp} {ρ : List Sl} {D : Ends} {ts tz : TS}
theorem qm_cut (I : W.G → List Sl → Prop) (h : NJ (W.cn g) hid H0 (ts { D with nx := NxM W g hid H0 I }) ρ) (hk : ∀ g' ρ', I g' ρ' → Fr W g g' H0 → NJ (W.cn g') hid H0 (tz D) ρ') : NJ (W.cn g) hid H0 (Evl.tCut ts tz D) ρ := fun hd H σ s => ⟨NxM W g hid H0 I, h hd H σ s, fun σ' H' ⟨g', ρ', hd', hI, f, s'⟩ => hk g' ρ' hI f hd' H' σ' s'⟩
end
end CC
namespace CC
open PySem PySem.Spec PyProof.Rows L2
open C8 (Cal pe_c pe_gc)
end CC
namespace CC
open PySem PySem.Spec PyProof.Rows L2
end CC
namespace CC
open PySem PySem.Spec PyProof.Rows L2
end CC
namespace CC
open PySem PySem.Spec PyProof.Rows L2
open C8 (Cal pe_c pe_gc)
section
variable {K : PySem.W.Frag} {b l : Addr} {g : GT} {hd : Addr → Bool} {H H' : Hp} {ρ : List Sl}
abbrev XB (K : PySem.W.Frag) (b l : Addr) : Cl K := Cl.box K b l
theorem muX {a : Addr} (h : muB b l a = true) : (WT (XB K b l)).mu g a = true := by
  show (muB b l a || (g a).isSome) = true
  rw [h]; rfl
theorem box_keep {o : Addr} (v : (WT (XB K b l)).B g hd H) (mh : ∀ a, (WT (XB K b l)).mu g a = true → hd a = true) (e : Ex (muB b l) H H') (bx : Bx b l H') : (WT (XB K b l)).B g hd H' := ⟨bx, fun a m hm => ⟨(v.2 a m hm).1, (v.2 a m hm).2.mono (e.sees fun a h => mh a (muX h)) fun o ho => e.keep a o (v.2 a m hm).1 ho⟩⟩
theorem ev_callBW {S : List Dt → (Dt → Prop) → Prop} {E : XK} {i : Nat} {ta : TA} {Q : Dt → Prop} (hne : b ≠ l) (hi : ρ[i]? = some (.rw (.ref b))) (h : EVA (ct (XB K b l) g) ta ρ fun ds => S ds Q) : EV (ct (XB K b l) g) (tCall (spB K S) [] E (tCons (tVar i) ta)) ρ Q := fun hd H σ v Qh q =>
  ⟨.ref b, rw_get v.slots hi, h hd H σ v _ fun ds vs H1 h1 e1 b1 r1 => by
    show spB K S ((.ref b :: vs) ++ []) H1 Qh E
    rw [List.append_nil]
    exact ⟨b, l, vs, hd, ds, Q, rfl, hne, b1.1, v.muh b (muX muB_b), v.muh l (muX muB_l), fun a h => e1.dom a (v.dom a h), r1, h1, fun d z H2 hq e2 b2 r2 => q d z H2 hq (e1.trans (e2.weak fun a h => muX h)) (box_keep (o := b) b1 v.muh e2 b2) r2⟩⟩
theorem en_callBW {S : List Dt → (List Dt → Prop) → Prop} {E : XK} {i : Nat} {ta : TA} {Q : List Dt → Prop} (hne : b ≠ l) (hi : ρ[i]? = some (.rw (.ref b))) (h : EVA (ct (XB K b l) g) ta ρ fun ds => S ds Q) : EN (ct (XB K b l) g) (tCall (spBN K S) [] E (tCons (tVar i) ta)) ρ Q := fun hd H σ v Qh q =>
  ⟨.ref b, rw_get v.slots hi, h hd H σ v _ fun ds vs H1 h1 e1 b1 r1 => by
    show spBN K S ((.ref b :: vs) ++ []) H1 Qh E
    rw [List.append_nil]
    refine ⟨b, l, vs, hd, ds, Q, rfl, hne, b1.1, v.muh b (muX muB_b), v.muh l (muX muB_l), fun a h => e1.dom a (v.dom a h), r1, h1, fun es o zs H2 hq e2 b2 ho h3 r3 => q es o zs H2 hq (e1.trans (e2.weak fun a h => muX h)) ?_ (e1.fresh ho) h3 r3⟩
    exact ⟨b2, fun a m hm => ⟨(b1.2 a m hm).1, (b1.2 a m hm).2.mono (sees_new e2 (fun a h => v.muh a (muX h)) ho) fun o ho => e2.keep a o (b1.2 a m hm).1 ho⟩⟩⟩
def spRB (K : PySem.W.Frag) (S : GT → List RV → (GT → RV → Prop) → Prop) : Sp := fun vs H Qh _ => ∃ (b l : Addr) (g : GT) (rs : List RV) (hid : Addr → Bool) (Q : GT → RV → Prop), b ≠ l ∧ (WT (XB K b l)).B g hid H ∧ (∀ a, (WT (XB K b l)).mu g a = true → hid a = true) ∧ (∀ a, hid a = true → H a ≠ none) ∧ P2 (RvOk K (Hm hid H)) vs (.ref b :: rs) ∧ S g rs Q ∧
  ∀ g' r v H', Q g' r → Go (WT (XB K b l)) g g' hid H H' → RvOk K (Hm (un hid ((WT (XB K b l)).mu g')) H') v r → Qh v H'
theorem evr_callRB {S : GT → List RV → (GT → RV → Prop) → Prop} {E : XK} {i : Nat} {ta : TA} {Q : GT → RV → Prop} (hne : b ≠ l) (hi : ρ[i]? = some (.rw (.ref b))) (h : EAR (ct (XB K b l) g) ta ρ fun rs => S g rs Q) : EVR (XB K b l) g (tCall (spRB K S) [] E (tCons (tVar i) ta)) ρ Q := fun hd H σ v Qh q => ⟨.ref b, rw_get v.slots hi, h hd H σ v _ fun rs vs H1 hq e1 b1 r1 => by
  have v1 := v.go e1 b1
  show spRB K S ((.ref b :: vs) ++ []) H1 Qh E
  rw [List.append_nil]
  refine ⟨b, l, g, rs, hd, Q, hne, v1.inv, v1.muh, v1.dom, .cons rfl r1, hq, fun g' r z H2 hq2 s2 r2 => q g' r z H2 hq2 ((Go.of v.muh e1 b1).trans ?_) r2⟩
  rw [un_eq v.muh]; exact s2⟩
end
end CC
namespace CC
open PySem PySem.Spec PyProof.Rows L2
open C8 (Cal pe_c pe_gc)
open PySem.W (AlikeAll minD maxD dataLt alike alikeAll alike_unique reads_keeps max_list_data dataLt_int dataLt_str)
section
variable {K : PySem.W.Frag} {X : Cl K} {g : GT} {hid hd : Addr → Bool} {H0 H : Hp} {σ : L2.St} {ρ : List Sl} {te ta tb to td ty : TE} {t : TT} {D : Ends} {ts tz : TS} {gg : TG}
def SeenA (g : GT) (A : Addr → Bool) : Nat → RV → Dt → Prop
  | 0, r, d => r = .dat d
  | n + 1, r, d => r = .dat d ∨ ∃ a rs ds, r = .ref a ∧ A a = true ∧ g a = some (.lst rs) ∧ d = .lst ds ∧ P2 (SeenA g A n) rs ds
theorem p2_seen {hd' : Addr → Bool} {A : Addr → Bool} {n : Nat} (ih : ∀ v r d, RvOk K (Hm hd H) v r → SeenA g A n r d → Rp K (Hm hd' H) v d) : ∀ {vs : List V} {rs : List RV} {ds : List Dt}, P2 (RvOk K (Hm hd H)) vs rs → P2 (SeenA g A n) rs ds → RpAll K (Hm hd' H) vs ds
  | _, _, _, .nil, .nil => .nil
  | _, _, _, .cons h t, .cons s u => .cons (ih _ _ _ h s) (p2_seen ih t u)
theorem seenA_rp {hd' : Addr → Bool} {A : Addr → Bool} (b : (WT X).B g hd H) (hs : ∀ a, hd' a = true → hd a = true) (hA : ∀ a, A a = true → hd' a = false) : ∀ (n : Nat) (v : V) (r : RV) (d : Dt), RvOk K (Hm hd H) v r → SeenA g A n r d → Rp K (Hm hd' H) v d
  | 0, v, r, d, h, s => by
    have s : r = .dat d := s
    subst s
    exact Rp.mono (sees_hide hs) h
  | n + 1, v, r, d, h, s => by
    rcases s with s | ⟨a, rs, ds, rfl, ha, hg, rfl, hp⟩
    · subst s
      exact Rp.mono (sees_hide hs) h
    · have h : v = V.ref a := h
      subst h
      obtain ⟨vs, h1, h2⟩ := (b.2 a _ hg).2
      exact .lst (by rw [hm_of (hA a ha)]; exact h1) (p2_seen (seenA_rp b hs hA n) h2 hp)
def unA (hd A : Addr → Bool) : Addr → Bool := fun a => hd a && !A a
theorem unA_sub {A : Addr → Bool} {a : Addr} (h : unA hd A a = true) : hd a = true := (Bool.and_eq_true_iff.mp h).1
theorem unA_of {A : Addr → Bool} {a : Addr} (h : A a = true) : unA hd A a = false := by unfold unA; rw [h, Bool.not_true, Bool.and_false]
end
end CC
namespace CC
open PySem PySem.Spec PyProof.Rows L2
open C8 (Cal pe_c pe_gc)
section
variable {K : PySem.W.Frag} {X : Cl K} {g : GT} {hid hd : Addr → Bool} {H0 H : Hp} {σ : L2.St} {ρ : List Sl} {te ta tb to td ty : TE} {tr : TA} {t : TT} {D : Ends} {ts tz : TS} {gg : TG}
def EAG (X : Cl K) (g : GT) (ta : TA) (ρ : List Sl) (Q : GT → List RV → Prop) : Prop := ∀ hd H σ, SV (ct X g) hd H σ ρ → ∀ Qh : List V → Hp → Prop, (∀ g' rs vs H', Q g' rs → Go (WT X) g g' hd H H' → P2 (RvOk K (Hm (un hd ((WT X).mu g')) H')) vs rs → Qh vs H') → ta σ H Qh
theorem eag_nil {Q : GT → List RV → Prop} (h : Q g []) : EAG X g tNil ρ Q := fun hd H σ v Qh q => q g [] [] H h (Go.of v.muh .refl v.inv) .nil
theorem eag_cons {Q : GT → List RV → Prop} (h : EVR X g te ρ fun g1 r => EAG X g1 tr ρ fun g2 rs => Q g2 (r :: rs)) : EAG X g (tCons te tr) ρ Q := fun hd H σ v Qh q => h hd H σ v _ fun g1 r x H1 h1 st1 rv1 => h1 _ H1 σ (v.step st1) _ fun g2 rs vs H2 h2 st2 rv2 => by
  have e1 := rv1.mono (st2.sees fun a ha => un_r ha)
  have st := st1.trans st2
  have s0 : ∀ a, un hd ((WT X).mu g2) a = true → un (un hd ((WT X).mu g1)) ((WT X).mu g2) a = true := fun a ha => by
    rcases un_of ha with ha | ha
    · exact un_l (un_l ha)
    · exact un_r ha
  exact q g2 (r :: rs) (x :: vs) H2 h2 st (.cons (e1.hide s0) (rv2.imp fun _ _ z => z.hide s0))
end
end CC
namespace CC
open PySem PySem.Spec PyProof.Rows L2
open C8 (Cal pe_c pe_gc)
open LamX (CodeO TabS TabB lamEnv lamCx)
def tBig (X : Cx) (spf : Heap → Sp) (t : TA) : TE := fun σ H Q => t σ H fun vs H1 => ∀ pins s, Inv X pins σ H1 s → spf (big s H1 X.stack) vs H1 Q fun _ _ _ => False
theorem pe_callBig {X : Cx} {k j : Nat} {spf : Heap → Sp} {x : Str} {q pos : Pos} {e : Expr} {es : List Expr} {t : TA} (F : ∀ B, Cal X.prog X.w X.K X.mg B k x (spf B) []) (hr : Room j X.A) (hk : k ≤ j) (hg : Gl X x) (ha : PA X (e :: es) t)
    (hdb : (x == ("__debug__" : Str)) = false := by decide) (he : starEach (e :: es) X.env = (false, eval e X.env) :: starEach es X.env := by rfl) (hpl : (backTo pos (starEach es X.env)).any (·.1) = false := by rfl) :
    PE X (.Call (.Name x q) (e :: es) [] pos) (tBig X spf t) := by
  refine ⟨fun pins s σ H Q I h => ?_⟩
  obtain ⟨f0, _, _, _, _, hm0, kp0, _, _⟩ := (F X.base).ex
  refine wpAny_Call_Name_kw (ld_glob I hg hm0 ?_ hdb)
  refine PySem.W.callWith_K (h₀ := X.base) I.ok.mod.kin kp0 (thn (ha.run pos pins s σ H _ I h) fun us s1 hh => ?_) he hpl
  obtain ⟨vs, H1, I1, r, hsp⟩ := hh
  refine ⟨I1.kIn, ?_⟩
  obtain ⟨f, fd, ps, ds, F1, hm, kp, hb, hd⟩ := (F (big s1 H1 X.stack)).ex
  have ef : f = f0 := by rw [hm0] at hm; cases hm; rfl
  subst ef
  cases hd
  have hs := hsp pins s1 I1
  have hl : (us ++ []).length = ps.length := by rw [List.append_nil, ← r.length]; exact F1.len _ _ _ _ hs
  have b := hb s1 us I1.kIn hl
  rw [List.append_nil] at b
  refine wpAny_call (codeAny_mono (F1.run X.A X.stack s1 H1 ⟨us, []⟩ us vs Q _ (hr.mono hk) (env0_big I1) b r hs) fun r s' hq => ?_)
  cases r with
  | error e => exact hq.elim
  | ok fl =>
    cases fl with
    | ret u => exact I1.after hq
    | next => exact hq.elim
    | brk => exact hq.elim
    | cont => exact hq.elim
def IsLam (X : Cx) (k : Nat) (t : XK → TE) (f : Addr) (L : List (Addr × HO)) : Prop := ∀ pins σ H s, Inv X pins σ H s → Act X.prog X.w X.K X.mg (big s H X.stack) (k + 1) f fun H' Q E => (∀ p ∈ L, H' p.1 = some p.2) ∧ t E σ H' Q
def tLamM (X : Cx) (P : Addr) (q : Str) (k : Nat) (t : XK → TE) : TE := fun σ H Q => ∃ hd, (∀ a, hd a = true → H a ≠ none) ∧ TabV hd H P q ∧
  ∀ (f : Addr) (L : List (Addr × HO)) (H3 : Hp), IsLam X k t f L → Ex (at0 P) H H3 → TabV hd H3 P q → (∀ p ∈ L, dic (thaw p.2) = false ∧ Hm hd H3 p.1 = some p.2) → Q (.ref f) H3
theorem pe_lamM {X : Cx} {c P : Addr} {q : Str} {params : Arguments} {body : Expr} {scope : Scope} {pos : Pos} {es : List Expr} {ps : List Str} {k : Nat} {t : XK → TE} (TB : TabB X.base X.mg c P) (hcode : X.env.code = .ref c) (hq : X.env.qual ++ "<lambda>" = q) (hfn : ∀ y, X.fn y = true)
    (L : LamS2 X.N X.env.scope scope ps) (hdef : defaultsOf params X.env = (evalEach es X.env, [])) (hes : (es.all fun e => e.isPlainConst) = true) (hlen : es.length = ps.length) (hN : es = [] → FillsN params body scope) (hD : es ≠ [] → FillsD params body scope ps)
    (hbody : ∀ (B : Heap) (A : Around) (outer : List Env) (s' : Shared) (H' : Hp) (E : XK) (f c' : Addr), Room k (A.deeper (lamEnv X scope s'.heap.objs.size f c')) → PE (lamCxB X B A outer s' H' E scope f c') body (t E)) :
    PE X (.Lambda params body scope pos) (tLamM X P q k t) := by
  refine ⟨fun pins s σ H Q I h => ?_⟩
  obtain ⟨hd, dom, hT, h⟩ := h
  refine (pe_lamO TB hcode hq hdef (fun e he => List.all_eq_true.mp hes e he) (fun ok => L.has ok)).run pins s σ H Q I ⟨hd, dom, hT, fun f c' pm ctv dV dT H3 dd e3 nf T3 hL => ?_⟩
  refine h f _ H3 (fun pins' σ' H' s' I' => ?_) e3 T3 fun p hp => ⟨?_, hL p hp⟩
  · refine lam_act hq I' hfn L ?_ fun A outer s1 H1 E hr => hbody _ A outer s1 H1 E f c' hr
    rcases dd with ⟨e0, e1, e2⟩ | ⟨T, e0, e1, e2⟩
    · exact .inl ⟨e1, e2, hN e0⟩
    · exact .inr ⟨T, by rw [e1, hlen], e2, hD e0⟩
  · rcases dT with _ | ⟨T, n⟩
    · simp only [LamAt, List.mem_cons, List.not_mem_nil, or_false] at hp
      rcases hp with rfl | rfl <;> rfl
    · simp only [LamAt, List.mem_cons, List.not_mem_nil, or_false] at hp
      rcases hp with rfl | rfl | rfl <;> rfl
def tAct (P : Program) (w : World) (K : PySem.W.Frag) (mg : Str → Option Value) (B : Heap) (k i : Nat) (W : WX) : TE := fun σ H Q => ∃ f sp, σ[i]? = some (some (.ref f)) ∧ Act P w K mg B k f sp ∧ sp H Q (WE W σ)
theorem pe_actB {X : Cx} {k i : Nat} {a : Str} {W : WX} {p1 p2 : Pos} (hr : Room k X.A) (tk : Takes X W) (hN : X.N[i]? = some a) (hv : Vis X.env.scope a) (hd : (a == ("__debug__" : Str)) = false := by decide) (hcd : (a == ("__classdict__" : Str)) = false := by decide) :
    PE X (.Call (.Name a p1) [] [] p2) (tAct X.prog X.w X.K X.mg X.base k i W) := by
  refine ⟨fun pins s σ H Q I h => ?_⟩
  obtain ⟨f, sp, hs, ⟨isf, run⟩, hsp⟩ := h
  refine wpAny_Call_Name_kw (thn ((pe_var (pos := p1) (i := i) hN hv hd hcd).run pins s σ H (fun v H1 => v = .ref f ∧ H1 = H) I ⟨.ref f, hs, rfl, rfl⟩) fun u s1 hh => ?_)
  obtain ⟨v, H1, I1, r1, rfl, eH⟩ := hh
  rw [eH] at I1
  cases (show u = Value.ref f from r1)
  obtain ⟨q, params, body, scope, cl, dV, pm, cdv, ct, hf⟩ := isf _ _ _ hsp
  obtain ⟨of1, _, _⟩ := I1.hok f _ hf
  refine PySem.W.callWith_F0 ⟨_, _, _, _, of1⟩ ?_
  refine wpAny_call (codeAny_mono (run X.A X.stack s1 H Q (WE W σ) hr I1.env0 hsp) fun r s' hq => ?_)
  cases r with
  | error e => exact passAt tk σ pins H s1 e s' I1 hq
  | ok fl =>
    cases fl with
    | ret u => exact I1.after hq
    | next => exact hq.elim
    | brk => exact hq.elim
    | cont => exact hq.elim
def spT (P : Program) (w : World) (K : PySem.W.Frag) (mg : Str → Option Value) (names : List Str) (k : Nat) (B : Heap) : Sp := fun vs H Q _ => ∃ f sp, vs = [.ref f] ∧ Act P w K mg B k f sp ∧ ∀ W : XK, (∀ cls d H', Ew K names Q cls d H' → W cls d H') → sp H Q W
end CC
namespace CC
open PySem PySem.Spec PyProof.Rows L2
open LamX (CodeO TabS TabB lamEnv lamCx inv_table among_app codeO_ne)
structure LamS3 (N : List Str) (sc scope : Scope) (p : Str) (j : Nat) : Prop where
  kind : scope.kind = .function
  co : scope.isCoroutine = false
  gen : scope.isGenerator = false
  cell : ∀ y ∈ scope.names, y.2 ≠ .cell
  loc : ∀ y ∈ scope.names, y.2 = .local → y.1 ∈ N → y.1 = p
  par : scope.names.lookup p = some .local
  free : ∀ y ∈ scope.names, y.2 = .free → sc.names.lookup y.1 = some .cell ∨ sc.names.lookup y.1 = some .free
  at_ : N[j]? = some p
  one : ∀ i, N[i]? = some p → i = j
theorem LamS3.has {X : Cx} {scope : Scope} {p : Str} {j : Nat} (L : LamS3 X.N X.env.scope scope p j) (ok : X.Ok) : ∀ y ∈ scope.names, y.2 = .free → ∃ c, X.env.cells.lookup y.1 = some c := fun y hy e => by
  rcases L.free y hy e with k | k
  · exact ok.has _ (.inl k)
  · exact ok.has _ (.inr k)
end CC
namespace CC
open PySem PySem.Spec PyProof.Rows L2
open LamX (CodeO TabS TabB lamEnv lamCx inv_table among_app codeO_ne)
open PySem.W (AllAlike Sortable dataLe EachIs KeyPure)
def Kp (s s' : Shared) : Prop := ∃ h' tk, s' = { s with heap := h', toks := tk } ∧ ∀ b o, s.heap.get? b = some o → h'.get? b = some o
theorem Kp.rfl {s : Shared} : Kp s s := ⟨s.heap, s.toks, by cases s; exact Eq.refl _, fun _ _ e => e⟩
theorem Kp.trans {s s1 s2 : Shared} (a : Kp s s1) (b : Kp s1 s2) : Kp s s2 := by
  obtain ⟨h1, t1, rfl, k1⟩ := a
  obtain ⟨h2, t2, rfl, k2⟩ := b
  exact ⟨h2, t2, Eq.refl _, fun b o e => k2 b o (k1 b o e)⟩
theorem Kp.keep {s s1 : Shared} (a : Kp s s1) : ∀ b o, s.heap.get? b = some o → s1.heap.get? b = some o := by
  obtain ⟨h1, t1, rfl, k1⟩ := a
  exact k1
structure LamS4 (sc scope : Scope) (p : Str) : Prop where
  kind : scope.kind = .function
  co : scope.isCoroutine = false
  gen : scope.isGenerator = false
  cell : ∀ y ∈ scope.names, y.2 ≠ .cell
  par : scope.names.lookup p = some .local
  free : ∀ y ∈ scope.names, y.2 = .free → sc.names.lookup y.1 = some .cell ∨ sc.names.lookup y.1 = some .free
theorem LamS4.has {X : Cx} {scope : Scope} {p : Str} (L : LamS4 X.env.scope scope p) (ok : X.Ok) : ∀ y ∈ scope.names, y.2 = .free → ∃ c, X.env.cells.lookup y.1 = some c := fun y hy e => by
  rcases L.free y hy e with k | k
  · exact ok.has _ (.inl k)
  · exact ok.has _ (.inr k)
end CC
namespace CC
open PySem PySem.Spec PyProof.Rows L2
open PySem.W (AllAlike Sortable dataLe)
section
variable {K : PySem.W.Frag} {X : Cl K} {g : GT} {ρ : List Sl} {hd : Addr → Bool} {H H1 H3 : Hp} {P : Addr} {q : Str}
theorem at0_hd (h : hd P = true) : ∀ a, at0 P a = true → hd a = true := fun a z => by
  have : a = P := of_decide_eq_true z
  subst this; exact h
theorem wt_tab (mh : ∀ a, (WT X).mu g a = true → hd a = true) (b : (WT X).B g hd H1) (hP : g P = some (.tab q)) (e : Ex (at0 P) H1 H3) (t : TabV hd H3 P q) : Ex ((WT X).mu g) H1 H3 ∧ (WT X).B g hd H3 ∧ Sees (Hm hd H1) (Hm hd H3) := by
  have sm : Sees (Hm hd H1) (Hm hd H3) := e.sees (at0_hd (mh P (muT hP)))
  have kp : ∀ a o, a ≠ P → H1 a = some o → H3 a = some o := fun a o ha ho => e.keep a o (decide_eq_false ha) ho
  obtain ⟨nP, ps, hps, _⟩ := b.2 P _ hP
  refine ⟨⟨fun a o hm ho => kp a o (fun z => ?_) ho, e.dom⟩, ⟨X.stab hd hd H1 H3 sm (fun a o ha ho => kp a o (fun z => ?_) ho) b.1, fun a m hm => ⟨(b.2 a m hm).1, ?_⟩⟩, sm⟩
  · subst z; rw [muT hP] at hm; cases hm
  · subst z
    rcases ha with ha | ha
    · rw [nP] at ha; cases ha
    · rw [hps] at ho; cases ho; cases ha
  · by_cases z : a = P
    · subst z
      rw [hP] at hm
      cases hm
      exact t
    · exact (b.2 a m hm).2.mono sm fun o ho => kp a o z ho
end
end CC
namespace CC
open PySem PySem.Spec PyProof.Rows L2
open C8 (Cal pe_c pe_gc)
def FnAtC (K : PySem.W.Frag) (mg : Str → Option Value) (x : Str) (st : Stmt) (ps : List Str) (c : Addr) : Prop := ∃ f fd, mg x = some (.ref f) ∧ Fun K x x st f fd ∧ Binds K fd ps [] ∧ fd.code = .ref c
end CC
namespace CC
open PySem PySem.Spec PyProof.Rows L2
open PySem.W (AllAlike Sortable dataLe EachIs list_sort_data dataLe_int dataLe_str)
end CC
namespace CC
open PySem PySem.Spec PyProof.Rows L2
open C8 (Cal pe_c pe_gc)
def gTabs : List (Addr × Str) → GT
  | [] => g0
  | (P, q) :: r => fun a => if a = P then some (.tab q) else gTabs r a
theorem gTabs_mem : ∀ {ts : List (Addr × Str)}, (ts.map (·.1)).Nodup → ∀ p ∈ ts, gTabs ts p.1 = some (.tab p.2)
  | [], _, _, h => nomatch h
  | (P, q) :: r, nd, p, h => by
    rw [List.map_cons, List.nodup_cons] at nd
    rcases List.mem_cons.mp h with rfl | h
    · exact if_pos rfl
    · have := gTabs_mem nd.2 p h
      show (if p.1 = P then _ else _) = _
      rw [if_neg (fun z => nd.1 (List.mem_map.mpr ⟨p, h, z⟩))]; exact this
theorem gTabs_inv : ∀ {ts : List (Addr × Str)} {a : Addr} {m : MT}, gTabs ts a = some m → ∃ q, (a, q) ∈ ts ∧ m = .tab q
  | [], _, _, h => nomatch h
  | (P, q) :: r, a, m, h => by
    have h : (if a = P then some (.tab q) else gTabs r a) = some m := h
    by_cases z : a = P
    · subst z
      rw [if_pos rfl] at h
      cases h
      exact ⟨q, List.mem_cons_self, rfl⟩
    · rw [if_neg z] at h
      obtain ⟨q', h1, h2⟩ := gTabs_inv h
      exact ⟨q', List.mem_cons_of_mem _ h1, h2⟩
theorem tab_new {hd : Addr → Bool} {H : Hp} {P : Addr} {q : Str} (h : H P = some (.tbl #[])) : TabV hd H P q := ⟨#[], h, trivial, fun pos cv hc => by
  have z : PySem.codeAmong pos [] = some cv := hc
  simp [PySem.codeAmong] at z⟩
theorem nj_beginT {K : PySem.W.Frag} {a b l : Addr} {H : Hp} (n : Nat) {ts : List (Addr × Str)} (bx : Bx b l H) (ht : ∀ p ∈ ts, H p.1 = some (.tbl #[])) {N : L2.St → Hp → Prop} (h : ∀ hid, NJ (ct (XB K b l) (gTabs ts)) hid H N (.rw (.ref a) :: .rw (.ref b) :: List.replicate n .un)) : N (some (.ref a) :: some (.ref b) :: List.replicate n none) H := by
  have s := sd_begun (K := K) (a := a) n bx
  have tb : ∀ x, (gTabs ts x).isSome = true → H x = some (.tbl #[]) := fun x hx => by
    obtain ⟨m, hm⟩ := Option.isSome_iff_exists.mp hx
    obtain ⟨q, hq, _⟩ := gTabs_inv hm
    exact ht _ hq
  have nb : ∀ x, (gTabs ts x).isSome = true → muB b l x = false := fun x hx => by
    cases q : muB b l x with
    | false => rfl
    | true =>
      have h1 := tb x hx
      obtain ⟨s, ns, h2, h3⟩ := bx
      rcases muB_of q with rfl | rfl
      · rw [h2] at h1; cases h1
      · rw [h3] at h1; cases h1
  refine h (fun x => muB b l x || (gTabs ts x).isSome) (fun x => muB b l x || (gTabs ts x).isSome) H _ ⟨⟨fun x hx => ?_, fun x hx => hx, ⟨bx, fun x m hm => ⟨nb x (by rw [hm]; rfl), ?_⟩⟩, ?_⟩, fun x hx => hx, .refl, fun x h1 h2 => ?_, s.own, fun i o ho => ?_⟩
  · rcases Bool.or_eq_true_iff.mp hx with hx | hx
    · exact s.dom x hx
    · rw [tb x hx]; exact fun z => nomatch z
  · obtain ⟨q, hq, rfl⟩ := gTabs_inv hm
    exact tab_new (ht _ hq)
  · have sl := s.slots
    refine SlAll.of_get sl.len fun k x z h1 h2 => ?_
    obtain ⟨x', h3, h4⟩ := sl.get h2
    rw [h1] at h3
    cases h3
    match k, h2 with
    | 0, h2 =>
      cases h2
      cases x with
      | none => exact h4.elim
      | some v => exact h4
    | 1, h2 =>
      cases h2
      cases x with
      | none => exact h4.elim
      | some v => exact h4
    | k + 2, h2 =>
      have := List.mem_of_getElem? (l := List.replicate n Sl.un) (i := k) h2
      rw [List.eq_of_mem_replicate this]
      exact slok_un
  · rw [h1] at h2; cases h2
  · obtain ⟨_, z, h2, h3⟩ := ho
    match i, h2 with
    | 0, h2 => cases h2; cases h3
    | 1, h2 => cases h2; cases h3
    | i + 2, h2 =>
      have := List.mem_of_getElem? (l := List.replicate n Sl.un) (i := i) h2
      rw [List.eq_of_mem_replicate this] at h3
      cases h3
end CC
namespace CC
open PySem PySem.Spec PyProof.Rows L2
open LamX (CodeO TabS TabB lamEnv lamCx inv_table among_app codeO_ne)
open PySem.W (KeyPure)
end CC
namespace CC
open PySem PySem.Spec PyProof.Rows L2
open C8 (Cal pe_c pe_gc)
end CC
namespace CC
open PySem PySem.Spec PyProof.Rows L2
open C8 (Cal pe_c pe_gc)
end CC
namespace CC
open PySem PySem.Spec PyProof.Rows L2
open C8 (Cal pe_c pe_gc)
section
variable {K : PySem.W.Frag} {X : Cl K} {g : GT} {hid hd : Addr → Bool} {H0 H : Hp} {σ : L2.St} {ρ : List Sl} {te ta tb to td ty : TE} {tr : TA} {t u : TT} {D : Ends} {ts tz : TS} {gg : TG} {gs : TGs}
def ETR (X : Cl K) (g : GT) (t : TT) (ρ : List Sl) (Q : GT → Bool → Prop) : Prop := ∀ hd H σ, SV (ct X g) hd H σ ρ → ∀ Qh : Bool → Hp → Prop, (∀ g' b H', Q g' b → Go (WT X) g g' hd H H' → Qh b H') → t σ H Qh
theorem etr_B {Q : GT → Bool → Prop} (h : EVR X g te ρ fun g' r => ∃ b, r = .dat (.bl b) ∧ Q g' b) : ETR X g (tB te) ρ Q := fun hd H σ v Qh q => h hd H σ v _ fun g' r x H' hq st rv => by
  obtain ⟨b, rfl, hq⟩ := hq
  exact ⟨b, rp_bl rv, q g' b H' hq st⟩
theorem etr_not {Q : GT → Bool → Prop} (h : ETR X g t ρ fun g' b => Q g' (!b)) : ETR X g (tNot t) ρ Q := fun hd H σ v Qh q => h hd H σ v _ fun g' b H' hq st => q g' _ H' hq st
theorem etr_or {Q : GT → Bool → Prop} (h : ETR X g t ρ fun g1 a => (a = true → Q g1 true) ∧ (a = false → ETR X g1 u ρ Q)) : ETR X g (tOr t u) ρ Q := fun hd H σ v Qh q => h hd H σ v _ fun g1 b H1 hq st => by
  cases b with
  | true => exact q g1 true H1 (hq.1 rfl) st
  | false => exact hq.2 rfl _ H1 σ (v.step st) _ fun g2 b H2 hq2 st2 => q g2 b H2 hq2 (st.trans st2)
theorem njg_if {ts tu : TS} (h : ETR X g t ρ fun g1 b => Fr (WT X) g g1 H0 → (b = true → NJ (ct X g1) hid H0 (ts D) ρ) ∧ (b = false → NJ (ct X g1) hid H0 (tu D) ρ)) : NJ (ct X g) hid H0 (tIfS t ts tu D) ρ := fun hd H σ s => h hd H σ s.toSV _ fun g1 b H1 hq st => by
  obtain ⟨s1, f1⟩ := s.step st
  cases b with
  | true => exact (hq f1).1 rfl _ H1 σ s1
  | false => exact (hq f1).2 rfl _ H1 σ s1
theorem qg_when (h : ETR X g t ρ fun g1 b => Fr (WT X) g g1 H0 → (b = true → NJ (ct X g1) hid H0 (ts { D with nx := tz D }) ρ) ∧ (b = false → NJ (ct X g1) hid H0 (tz D) ρ)) : NJ (ct X g) hid H0 (tSeq (tIfS t ts tNext) tz D) ρ := njg_if (D := { D with nx := tz D }) h
theorem njg_when (h : ETR X g t ρ fun g1 b => Fr (WT X) g g1 H0 → (b = true → NJ (ct X g1) hid H0 (ts D) ρ) ∧ (b = false → NJ (ct X g1) hid H0 D.nx ρ)) : NJ (ct X g) hid H0 (tIfS t ts tNext D) ρ := njg_if h
theorem evr_callPG {S : List Dt → (Dt → Prop) → Prop} {E : XK} {Q : GT → RV → Prop} (A : Addr → Bool) (n : Nat) (h : EAG X g tr ρ fun g1 rs => ∃ ds, P2 (SeenA g1 A n) rs ds ∧ S ds fun d => scalar d = true ∧ Q g1 (.dat d)) : EVR X g (tCall (spP K S) [] E tr) ρ Q := fun hd H σ v Qh q => h hd H σ v _ fun g1 rs vs H1 hq st1 r1 => by
  obtain ⟨ds, hs, hS⟩ := hq
  have v1 := v.step st1
  rw [List.append_nil]
  refine ⟨unA (un hd ((WT X).mu g1)) A, ds, _, fun a ha => v1.dom a (unA_sub ha), p2_seen (seenA_rp v1.inv (fun a ha => unA_sub ha) (fun a ha => unA_of ha) n) r1 hs, hS, fun d x H2 hq e2 r2 => ?_⟩
  have go2 : Go (WT X) g1 g1 (un hd ((WT X).mu g1)) H1 H2 := Go.of v1.muh (e2.up (c := ct X g1)) ((ct X g1).keep0 e2 v1.inv)
  exact q g1 (.dat d) x H2 hq.2 (st1.trans go2) (rp_scalar hq.1 r2)
end
end CC
namespace CC
open PySem PySem.Spec PyProof.Rows L2
open C8 (Cal pe_c pe_gc)
end CC
namespace CC
open PySem PySem.Spec PyProof.Rows L2
open C8 (Cal pe_c pe_gc)
end CC
namespace CC
open PySem PySem.Spec PyProof.Rows L2
open C8 (Cal pe_c pe_gc)
open LamX (CodeO TabS TabB)
def sim : Sl → Sl
  | .im d => .im d
  | .rw v => .rw v
  | _ => .un
theorem sim_ok {c : Cn} {hd : Addr → Bool} {H : Hp} : ∀ {σ : L2.St} {ρ : List Sl}, SlAll c hd H σ ρ → SlAll (Cn.pure c.K) hd H σ (ρ.map sim)
  | _, _, .nil => .nil
  | _, _, .cons (o := o) (s := s) h t => .cons (by
      cases s with
      | im d =>
        cases o with
        | none => exact h.elim
        | some v => exact h
      | rw d =>
        cases o with
        | none => exact h.elim
        | some v => exact h
      | _ => exact slok_un) (sim_ok t)
theorem sim_stab {K : PySem.W.Frag} {hd hd' : Addr → Bool} {H H' : Hp} (e : Sees (Hm hd H) (Hm hd' H')) : ∀ {σ : L2.St} {ρ : List Sl}, SlAll (Cn.pure K) hd H σ (ρ.map sim) → SlAll (Cn.pure K) hd' H' σ (ρ.map sim)
  | _, [], .nil => .nil
  | _, s :: ρ, .cons (o := o) h t => .cons (by
      cases s with
      | im d =>
        cases o with
        | none => exact h.elim
        | some v => exact Rp.mono e h
      | rw d =>
        cases o with
        | none => exact h.elim
        | some v => exact h
      | _ => exact slok_un) (sim_stab e t)
end CC
namespace CC
open PySem PySem.Spec PyProof.Rows L2
open C8 (Cal pe_c pe_gc)
structure CeC (K : PySem.W.Frag) (mg : Str → Option Value) (x : Str) (D : Addr) : Prop where
  g : mg x = some (.ref D)
  ty : PySem.W.typeIn K (.ref D) = some (.type "type")
  rd : PySem.W.readsIn K D (.type "type") = true
  ga : PySem.W.specialIn K (.ref D) "__getattribute__" = some (some (.builtin "type.__getattribute__"))
  ini : PySem.W.findCls K (.ref D) (.type "type") "__init__" = some (.val (.builtin "ValueError.__init__"))
def isVal (r : Option PySem.W.CFound) (id : String) : Bool := match r with
  | some (.val (.builtin i)) => decide (i = id)
  | _ => false
theorem isVal_okE {r : Option PySem.W.CFound} {id : String} (h : isVal r id = true) : r = some (.val (.builtin id)) := by
  unfold isVal at h
  split at h
  · rw [of_decide_eq_true h]
  · cases h
def ceB (K : PySem.W.Frag) (D : Addr) : Bool := decide (PySem.W.typeIn K (.ref D) = some (.type "type")) && (PySem.W.readsIn K D (.type "type") && (decide (PySem.W.specialIn K (.ref D) "__getattribute__" = some (some (.builtin "type.__getattribute__"))) && isVal (PySem.W.findCls K (.ref D) (.type "type") "__init__") "ValueError.__init__"))
theorem ceB_ok {K : PySem.W.Frag} {mg : Str → Option Value} {x : Str} {D : Addr} (g : mg x = some (.ref D)) (h : ceB K D = true) : CeC K mg x D := by
  unfold ceB at h
  simp only [Bool.and_eq_true, decide_eq_true_eq] at h
  exact ⟨g, h.1, h.2.1, h.2.2.1, isVal_okE h.2.2.2⟩
section
variable {X : Cx} {e : Expr} {es : List Expr} {ta : TA} {p p1 p2 pos : Pos}
theorem pe_ceinit {pl : Sem Bool} {x : Str} {D : Addr} (hg : Gl X x) (c : CeC X.K X.mg x D) (ha : PA X (e :: es) ta) (hdb : (x == ("__debug__" : Str)) = false := by decide)
    (hc : eval (.Call (.Attribute (.Name x p1) "__init__" p2) (e :: es) [] pos) X.env = (do
      let ov ← eval (.Name x p1) X.env
      standAt p2.atName
      let (f, first) ← holding [ov] (getMethod ov "__init__" pl)
      callWith pos f first (backTo pos (starEach (e :: es) X.env)) (backToKw pos (keywordEach [] X.env))) := by rfl)
    (he : starEach (e :: es) X.env = (false, eval e X.env) :: starEach es X.env := by rfl) (hpl : (backTo pos (starEach es X.env)).any (·.1) = false := by rfl) :
    PE X (.Call (.Attribute (.Name x p1) "__init__" p2) (e :: es) [] pos) (tVeI X.K ta) := by
  refine ⟨fun pins s σ H Q I h => ?_⟩
  refine PySem.W.methodCall_KW (ld_glob I hg c.g ?_ hdb) hc
  obtain ⟨m, fr⟩ := I.fr
  refine PySem.W.method_of_cls fr I.ok.mod.kin c.ga (PySem.W.cls_val fr I.ok.mod.kin c.ty c.rd c.ini (by decide +kernel) ?_)
  show wpAny _ _ (callWith pos (Value.builtin "ValueError.__init__") [] (backTo pos (starEach (e :: es) X.env)) []) _ _ _
  refine PyProof.Rows.callWith_method1 (thn (ha.run pos pins _ σ H _ (I.tok _) h) fun us s1 hh => ?_) he hpl
  obtain ⟨vs, H1, I1, r1, a, C, ws, rfl, hl, T, ea, q⟩ := hh
  cases r1 with
  | @cons _ u0 _ ur ra rw' =>
    cases (show u0 = Value.ref a from ra)
    have hlen : ur.length ≤ sizeLine := by
      rw [← Paired.length rw', sizeLine_eq]
      omega
    exact oinit_ok T I1 ea hlen fun s' J => ⟨.non, H1, J, rfl, q⟩
end
def oexB (K : PySem.W.Frag) (C : Addr) : Bool := (match K.lookup C with
    | some ⟨.type "type", _, .cls cd, sl⟩ => (match cd.mro, sl.toList with
      | .ref C' :: bm, [_, _, _, _, some (.builtin n), _] => decide (C' = C) && (decide (n = "ValueError.__new__") && (!cd.hasDel && (cd.hasDict && PySem.HandSPX.refsVE bm)))
      | _, _ => false)
    | _ => false) && (decide (PySem.W.findIn K (.ref C) "__setattr__" = some (some (.builtin "object.__setattr__"))) && (decide (PySem.W.subIn K (.ref C) (.type "BaseException") = some true) && (decide (PySem.W.typeIn K (.ref C) = some (.type "type")) && PySem.W.keepIn K (.ref C))))
theorem oexB_ok {K : PySem.W.Frag} {C : Addr} (h : oexB K C = true) : OexC K C := by
  unfold oexB at h
  simp only [Bool.and_eq_true, decide_eq_true_eq] at h
  obtain ⟨h1, h2, h3, h4, h5⟩ := h
  refine ⟨?_, h2, h3, h4, h5⟩
  split at h1
  · rename_i dd cd sl ho
    split at h1
    · rename_i C' bm k0 k1 k2 k3 n k5 hm hs
      simp only [Bool.and_eq_true, decide_eq_true_eq, Bool.not_eq_true'] at h1
      obtain ⟨rfl, rfl, hd, hh, hr⟩ := h1
      obtain ⟨nm, bs, mro, N, q, hasD, sn, sub, ab, col, del⟩ := cd
      dsimp only at hm hd hh
      subst hm hd hh
      have e : sl = #[k0, k1, k2, k3, some (.builtin "ValueError.__new__"), k5] := by
        rw [← hs]
      subst e
      exact ⟨nm, q, N, bs, bm, sn, sub, ab, col, dd, k0, k1, k2, k3, k5, ho, hr⟩
    · cases h1
  · cases h1
structure InitW (st : Stmt) (qual : Str) : Prop where
  sc : FnScope ["self", "place"] ["self", "place"] (defScope st)
  run : ∀ {P : Program} {w : World} {K : PySem.W.Frag} {mg : Str → Option Value} {base : Heap} {f : Addr} {cdv : Value} {A : Around} {outer : List Env} {s : Shared} {H : Hp} {E : XK} {D : Addr}, CeC K mg "ColumnError" D →
    ∃ z : Str, PSs (cxD P w K mg base ["self", "place"] qual st f cdv A outer s H E) (defBody st) (tSeq (tDrop (tVeI K (tCons (tVar 0) (tCons (tC (.str z)) tNil)))) (tOst K "place" (tVar 0) (tVar 1)))
structure PlC (K : PySem.W.Frag) (mg : Str → Option Value) (x : Str) (C : Addr) : Prop where
  g : mg x = some (.ref C)
  o : OexC K C
  no : PySem.W.findIn K (.ref C) "place" = some none
  ce : ∃ D, CeC K mg "ColumnError" D
  ini : ∃ (f : Addr) (fd : FuncData) (st : Stmt) (qual : Str), Fun K "__init__" qual st f fd ∧ InitW st qual ∧ PySem.W.findIn K (.ref C) "__init__" = some (some (.ref f)) ∧ PySem.W.typeIn K (.ref f) = some (.type "function") ∧ Binds K fd ["self", "place"] []
def spI (C : Addr) : Sp := fun vs H Q _ => ∃ a pl, vs = [.ref a, .int pl] ∧ H a = some (exo a C none) ∧ ∀ dx, H dx = none → dx ≠ a → Q .non (upd (upd H dx (exd dx [("place", .int pl)])) a (exo a C (some dx)))
section
variable {P : Program} {w : World} {K : PySem.W.Frag} {mg : Str → Option Value} {base : Heap}
theorem init_ok {x : Str} {C : Addr} {k : Nat} (c : PlC K mg x C) {f : Addr} {fd : FuncData} {st : Stmt} {qual : Str} (F : Fun K "__init__" qual st f fd) (W : InitW st qual) : FnOk P w K mg base CX0 (k + 1) f fd ["self", "place"] (spI C) := by
  obtain ⟨D, ce⟩ := c.ce
  refine F.ok W.sc (fun vs H Q E h => ?_) (fun cdv A outer s H vs Q E hr h => ?_)
  · obtain ⟨a, pl, rfl, _⟩ := h; rfl
  · obtain ⟨a, pl, rfl, ha, hq⟩ := h
    obtain ⟨z, ht⟩ := W.run (P := P) (w := w) (base := base) (f := f) (cdv := cdv) (A := A) (outer := outer) (s := s) (H := H) (E := E) ce
    refine ⟨_, ht, ?_⟩
    refine ⟨.ref a, rfl, a, C, [.str z], rfl, (by show 1 ≤ 1000; decide), c.o, ha, ?_⟩
    refine ⟨.int pl, rfl, .ref a, rfl, a, C, rfl, c.o, c.no, .inl ⟨ha, fun dx n1 n2 => hq dx n1 n2⟩⟩
end
def tPl (C : Addr) (te : TE) : L2.St → Hp → XK → Prop := fun σ H Q => te σ H fun v H1 => ∃ i : Int, v = .int i ∧ ∀ d H2, H1 d = none → Ex none0 H1 H2 → H2 d = some (.xd [("place", .int i)]) → Q (.ref C) (some d) H2
def tMono (te : TE) : TE := fun σ H Q => ∃ K : VK, te σ H K ∧ ∀ v H1, K v H1 → Q v H1
theorem pe_mono {X : Cx} {e : Expr} {te : TE} (h : PE X e te) : PE X e (tMono te) := ⟨fun pins s σ H Q I q => by
  obtain ⟨K, h1, h2⟩ := q
  refine thn (h.run pins s σ H K I h1) fun u s1 hh => ?_
  obtain ⟨v, H1, I1, r, k⟩ := hh
  exact ⟨v, H1, I1, r, h2 v H1 k⟩⟩
theorem pmk_place {X : Cx} {x : Str} {C : Addr} {e : Expr} {te : TE} {p pos : Pos} {j : Nat} (c : PlC X.K X.mg x C) (hr : Room j X.A) (hj : 2 ≤ j) (hg : Gl X x) (he : PE X e te) (hx : Passes CX0 X (fun _ _ _ => False) := fun _ _ _ _ _ _ _ z => z.elim)
    (hdb : (x == ("__debug__" : Str)) = false := by decide) (hst : starEach [e] X.env = (false, eval e X.env) :: starEach [] X.env := by rfl) (hpl : (backTo pos (starEach [] X.env)).any (·.1) = false := by rfl) :
    PMk X (.Call (.Name x p) [e] [] pos) (tPl C te) := by
  obtain ⟨f, fd, st, qual, F, W, h1, h2, b⟩ := c.ini
  intro pins s σ H Q I h
  refine pmk_oex (k := 1) (sp := spI C) (dvs := []) c.o h1 h2 (init_ok (k := 0) c F W) (hr.mono hj) b .nil hx hg c.g (pa_cons (pe_mono he) pa_nil hst) hdb hst hpl pins s σ H Q I ?_
  refine ⟨_, h, fun v H1 hk => ?_⟩
  obtain ⟨i, rfl, hk⟩ := hk
  refine ⟨by show 1 ≤ 1000; decide, fun a na => ⟨a, i, rfl, upd_same, fun dx nd ne => ⟨rfl, dx, _, upd_same, by rw [upd_ne ne, upd_same], ?_, ?_⟩⟩⟩
  · rw [upd_ne ne] at nd; exact nd
  · rw [upd_ne ne] at nd
    refine hk dx _ nd ⟨fun b o _ ho => ?_, fun b ho => ?_⟩ upd_same
    · have n1 := ne_of_none ho nd
      have n2 := ne_of_none ho na
      rw [upd_ne n1, del_ne n2, upd_ne n2, upd_ne n1, upd_ne n2]
      exact ho
    · cases q : H1 b with
      | none => exact absurd q ho
      | some o =>
        have n1 := ne_of_none q nd
        have n2 := ne_of_none q na
        rw [upd_ne n1, del_ne n2, upd_ne n2, upd_ne n1, upd_ne n2, q]
        exact fun z => nomatch z
end CC
namespace CC
open PySem PySem.Spec PyProof.Rows L2
def rIsA (K : PySem.W.Frag) (D a : Addr) (d : Option Addr) : List V → Hp → VK → Prop := fun xs H Q => ∃ (c : V) (cv : Value) (b : Bool), xs = [.ref a, c] ∧ (∀ u, RelV c u → u = cv) ∧ PySem.W.kitOne K (.ref D) cv = some b ∧ (∀ dd, d = some dd → ∃ fs, H dd = some (.xd fs)) ∧ Q (.bl b) H
theorem call_isA {X : Cx} {a D : Addr} {d : Option Addr} {oe : Obj} (C : ExcC X.K D) (hp : (a, oe) ∈ X.pn) (hz : Zc (.ref D) d oe) (hf : ∃ vs, oe.data = .fields vs) : CallR X (.builtin "isinstance") (rIsA X.K D a d) := by
  intro pins s σ H xs us Q I r h
  obtain ⟨c, cv, b, rfl, hcv, e, hdd, q⟩ := h
  obtain ⟨vs, hv⟩ := hf
  have hget := (I.pin (a, oe) (List.mem_append_left _ hp)).1
  have inst : ∃ od, PySem.W.InstAt s.heap a oe D od := by
    cases d with
    | none => exact ⟨none, hget, hz.1, by unfold PySem.W.notCls; rw [hv] <;> rfl, by rw [hz.2]; trivial⟩
    | some dd =>
      obtain ⟨fs, hx⟩ := hdd dd rfl
      obtain ⟨mA, hns, hr⟩ := show ObjOk X.prog X.w H s.heap dd (.xd fs) from I.hok dd _ hx
      obtain ⟨od, ho, hl⟩ := lookIn_ns hns
      exact ⟨some od, hget, hz.1, by unfold PySem.W.notCls; rw [hv] <;> rfl, by rw [hz.2]; exact ho⟩
  obtain ⟨od, inst⟩ := inst
  have hcl : (PySem.W.clsIn X.K D).isSome = true := by
    obtain ⟨cd, hc, _⟩ := PySem.W.any_some C.hd
    rw [hc]; rfl
  cases r with
  | cons rx rr =>
    cases rr with
    | cons rt rr =>
      cases rr
      cases rx
      cases hcv _ rt
      exact PySem.W.kia_one (PySem.W.kitx_exc hcl C.hg C.hk C.hs C.ha C.hn C.ht C.hm) I.kIn inst e (fun z => nomatch z) fun tk => ⟨.bl b, H, I.kept (t' := tk) fun _ _ z => z, rfl, q⟩
abbrev cnX (K : PySem.W.Frag) (d : Option Addr) (fs : List (Str × V)) : Cn := ⟨K, none0, fun hd H => ∀ dd, d = some dd → Hm hd H dd = some (.xd fs), fun _ _ H H' e _ h dd hd => by
  obtain ⟨o, e1, e2⟩ := e dd _ (h dd hd)
  rw [e2.plain rfl] at e1
  exact e1⟩
theorem ev_isA {K : PySem.W.Frag} {fs : List (Str × V)} {ρ : List Sl} {Q : Dt → Prop} {i : Nat} {a D : Addr} {d : Option Addr} {v : V} {cv : Value} {b : Bool} (hi : ρ[i]? = some (.rw (.ref a))) (hcv : ∀ u, RelV v u → u = cv) (hk : PySem.W.kitOne K (.ref D) cv = some b) (h : Q (.bl b)) :
    EV (cnX K d fs) (tCB (rIsA K D a d) (tCons (tVar i) (tCons (tC v) tNil))) ρ Q := fun hd H σ s Qh q =>
  ⟨.ref a, rw_get s.slots hi, v, cv, b, rfl, hcv, hk, fun dd e => ⟨fs, hm_le (s.inv dd e)⟩, q _ _ H h .refl s.inv (.bl b)⟩
theorem ev_place {K : PySem.W.Frag} {fs : List (Str × V)} {ρ : List Sl} {Q : Dt → Prop} {i : Nat} {a C dd : Addr} {j : Int} {f : Str} (hi : ρ[i]? = some (.rw (.ref a))) (T : XfC K C) (hno : PySem.W.findIn K (.ref C) f = some none) (hl : fs.lookup f = some (.int j)) (h : Q (.int j)) :
    EV (cnX K (some dd) fs) (tXfA K a (.ref C) (some dd) f (tVar i)) ρ Q := fun hd H σ s Qh q =>
  ⟨.ref a, rw_get s.slots hi, rfl, C, dd, fs, .int j, rfl, T, hno, rfl, hm_le (s.inv dd rfl), hl, q _ _ H h .refl s.inv (.int j)⟩
end CC
namespace CC
open PySem PySem.Spec PyProof.Rows L2
open C8 (Cal pe_c pe_gc)
theorem pe_cC {X : Cx} {k j : Nat} {x : Str} {sp : Sp} {e : Expr} {es : List Expr} {t : TA} {p pos : Pos} (c : CalX X.prog X.w X.K X.mg X.base k x sp) (hr : Room j X.A) (hk : k ≤ j) (hg : Gl X x) (ha : PA X (e :: es) t)
    (hdb : (x == ("__debug__" : Str)) = false := by decide) (he : starEach (e :: es) X.env = (false, eval e X.env) :: starEach es X.env := by rfl) (hpl : (backTo pos (starEach es X.env)).any (·.1) = false := by rfl) :
    PE X (.Call (.Name x p) (e :: es) [] pos) (tCall sp [] E0 t) := by
  obtain ⟨f, fd, ps, F, hm, kp, b⟩ := c.ex
  refine pe_call F (hr.mono hk) hg hm kp b .nil (fun pins σ H s e s' I h => ?_) ha hdb he hpl
  obtain ⟨_, _, _, _, _, _, _, _, _, _, _, _, z⟩ := h
  exact (show False from z).elim
section
variable {c : Cn} {K : PySem.W.Frag} {ρ : List Sl} {Q : Dt → Prop} {ds : List Dt} {E : XK}
theorem sp_jY {S : List Dt → (Dt → Prop) → (Str → Option Int → Prop) → Prop} (h : S ds Q fun _ _ => False) : SpJ c (spY c.K S) E ds Q := fun hd H vs dom mh bb r Qh q => ⟨hd, ds, Q, _, dom, r, h, fun d v H' hq e => q d v H' hq e.up (c.keep0 e bb), fun _ _ z => z.elim⟩
def RZ (K : PySem.W.Frag) (E : XK) (R : Str → Option Int → Prop) (H0 : Hp) : Prop := ∀ nm pl, R nm pl → ∀ d H', Ex none0 H0 H' → (∀ dd, d = some dd → H0 dd = none) → Pl d pl H' → E (.ref (He.ga K nm)) d H'
variable {R : Str → Option Int → Prop} {H0 H1 : Hp} {hid : Addr → Bool} {D : Ends} {tz : TS}
theorem RZ.go (h : RZ K E R H0) (e : Ex none0 H0 H1) : RZ K E R H1 := fun nm pl hr d H' e' hf hp => h nm pl hr d H' (e.trans e') (fun dd hd => e.fresh (hf dd hd)) hp
theorem nj_dropY {S : List Dt → (Dt → Prop) → (Str → Option Int → Prop) → Prop} {ta : TA} (hz : RZ K E R H0) (h : EVA (Cn.pure K) ta ρ fun ds => S ds (fun _ => NJ (Cn.pure K) hid H0 D.nx ρ) R) : NJ (Cn.pure K) hid H0 (tDrop (tCallS (spY K S) (fun _ => E) ta) D) ρ := fun hd H σ s =>
  h hd H σ s.toSV _ fun ds vs H1 h1 e1 b1 r1 => ⟨hd, ds, _, R, fun a ha => e1.dom a (s.dom a ha), r1, h1, fun d v H2 hq e2 r2 => hq hd H2 _ (s.go (e1.trans e2) trivial), fun nm pl hr d H2 e2 hf hp => hz nm pl hr d H2 ((s.ext.trans e1).trans e2) (fun dd e => (s.ext.trans e1).fresh (hf dd e)) hp⟩
theorem q_dropY {S : List Dt → (Dt → Prop) → (Str → Option Int → Prop) → Prop} {ta : TA} (hz : RZ K E R H0) (h : EVA (Cn.pure K) ta ρ fun ds => S ds (fun _ => NJ (Cn.pure K) hid H0 (tz D) ρ) R) : NJ (Cn.pure K) hid H0 (tSeq (tDrop (tCallS (spY K S) (fun _ => E) ta)) tz D) ρ := nj_dropY (D := { D with nx := tz D }) hz h
theorem nj_raiseP {x : Str} {i : Nat} {j : Int} (hz : RZ K E R H0) (hi : ρ[i]? = some (.im (.int j))) (hR : R x (some j)) : NJ (Cn.pure K) hid H0 (fun σ H => tPl (He.ga K x) (tVar i) σ H fun cls d H' => E cls d H') ρ := fun hd H σ s => by
  obtain ⟨o, g1, g2⟩ := s.slots.get hi
  cases o with
  | none => exact g2.elim
  | some v =>
    cases (show Rp K (Hm hd H) v (.int j) from g2)
    exact ⟨.int j, g1, j, rfl, fun d H2 nd e hx => hz x (some j) hR _ H2 (s.ext.trans e) (fun dd e => by cases e; exact s.ext.fresh nd) hx⟩
theorem nj_raiseN {x : Str} (hz : RZ K E R H0) (hR : R x none) : NJ (Cn.pure K) hid H0 (fun _ H => E (.ref (He.ga K x)) none H) ρ := fun hd H σ s => hz x none hR none H s.ext (fun _ z => nomatch z) trivial
end
end CC
namespace PySem
open Builtin
end PySem
namespace CC
open PySem PySem.Spec PyProof.Rows L2
end CC
namespace CC
open PySem PySem.Spec PyProof.Rows L2
open C8 (Cal pe_c pe_gc)
def RXR {K : PySem.W.Frag} (X : Cl K) (g : GT) (hid : Addr → Bool) (H0 : Hp) (E : XK) (nm : Str) (pl : Option Int) : Prop := ∀ d H', Ex ((WT X).mu g) H0 H' → (WT X).B g (un hid ((WT X).mu g)) H' → (∀ dd, d = some dd → H0 dd = none ∧ un hid ((WT X).mu g) dd = false) → Pl d pl H' → E (.ref (He.ga K nm)) d H'
section
variable {K : PySem.W.Frag} {X : Cl K} {g g1 : GT} {hid hd : Addr → Bool} {H0 H H' : Hp} {σ : L2.St} {ρ : List Sl} {te ta tb to td ty : TE} {tr : TA} {t u : TT} {D : Ends} {ts tz : TS} {E : XK}
def EVZ (X : Cl K) (g : GT) (hid : Addr → Bool) (H0 : Hp) (te : TE) (ρ : List Sl) (Q : GT → RV → Prop) : Prop := ∀ hd H σ, SD (ct X g) hid hd H0 H σ ρ → ∀ Qh : VK, (∀ g' r v H', Q g' r → Go (WT X) g g' hd H H' → RvOk K (Hm (un hd ((WT X).mu g')) H') v r → Qh v H') → te σ H Qh
theorem EVZ.imp {Q Q' : GT → RV → Prop} (h : EVZ X g hid H0 te ρ Q) (k : ∀ g' r, Q g' r → Q' g' r) : EVZ X g hid H0 te ρ Q' := fun hd H σ s Qh q => h hd H σ s Qh fun g' r v H' hq => q g' r v H' (k g' r hq)
end
end CC
namespace CC
open PySem PySem.Spec PyProof.Rows L2
open C8 (Cal pe_c pe_gc)
end CC
namespace CC
open PySem PySem.Spec PyProof.Rows L2
open C8 (Cal pe_c pe_gc)
end CC
namespace CC
open PySem PySem.Spec PyProof.Rows L2
open C8 (Cal pe_c pe_gc)
section
variable {K : PySem.W.Frag} {X : Cl K} {g g1 : GT} {hid hd : Addr → Bool} {H0 H H' : Hp} {σ : L2.St} {ρ : List Sl} {te ta tb to td ty : TE} {tr : TA} {t u : TT} {D : Ends} {ts tz : TS} {E : XK} {W : WX}
theorem RXR.from {nm : Str} {pl : Option Int} {H1 : Hp} (h : RXR X g1 hid H0 E nm pl) (f : Fr (WT X) g g1 H1) (e : Ex ((WT X).mu g) H0 H1) : RXR X g1 hid H1 E nm pl := fun d H' e1 b hf hp => h d H' ((e.weak f.up).trans e1) b (fun dd z => ⟨e.fresh (hf dd z).1, (hf dd z).2⟩) hp
end
end CC
namespace CC
open PySem PySem.Spec PyProof.Rows L2
open C8 (Cal pe_c pe_gc)
end CC
namespace CC
open PySem PySem.Spec PyProof.Rows L2
open C8 (Cal pe_c pe_gc)
end CC
namespace CC
open PySem PySem.Spec PyProof.Rows L2
open C8 (Cal pe_c pe_gc)
end CC
namespace CC
open PySem PySem.Spec PyProof.Rows L2
open C8 (Cal pe_c pe_gc)
section
variable {K : PySem.W.Frag} {X : Cl K} {g g1 : GT} {hid hd : Addr → Bool} {H0 H H' : Hp} {σ : L2.St} {ρ : List Sl} {te ta tb to td ty : TE} {tr : TA} {t u : TT} {D : Ends} {ts tz : TS} {E : XK} {W : WX}
theorem etr_and {Q : GT → Bool → Prop} (h : ETR X g t ρ fun g1 a => (a = true → ETR X g1 u ρ Q) ∧ (a = false → Q g1 false)) : ETR X g (tAnd t u) ρ Q := fun hd H σ v Qh q => h hd H σ v _ fun g1 b H1 hq st => by
  cases b with
  | true => exact hq.1 rfl _ H1 σ (v.step st) _ fun g2 b H2 hq2 st2 => q g2 b H2 hq2 (st.trans st2)
  | false => exact q g1 false H1 (hq.2 rfl) st
end
end CC
namespace CC
open PySem PySem.Spec PyProof.Rows L2
open C8 (Cal pe_c pe_gc)
open LamX (CodeO TabS TabB)
section
variable {K : PySem.W.Frag} {X : Cl K} {g g1 : GT} {hd : Addr → Bool} {H H' : Hp} {σ : L2.St} {ρ : List Sl} {names : List Str}
theorem Go.back (mh : ∀ a, (WT X).mu g a = true → hd a = true) (k : ∀ y u, g y = some u → g1 y = some u) (go : Go (WT X) g g1 hd H H') : Go (WT X) g g hd H H' := by
  have b := ((WT X).cn g1).unhide (fun a ha => un_l ha) go.inv (hd := hd)
  refine ⟨go.ex, ?_, .refl⟩
  rw [un_eq mh]
  exact ⟨b.1, fun a m hm => b.2 a m (k a m hm)⟩
def TWd (X : Cl K) (g : GT) (ρ : List Sl) (names : List Str) (t : XK → TE) (Q : GT → RV → Prop) : Prop := ∀ hd H σ, SV (ct X g) hd H σ ρ → ∀ (Qh : VK) (W : XK),
  (∀ g' r v H', Q g' r → Go (WT X) g g' hd H H' → RvOk K (Hm (un hd ((WT X).mu g')) H') v r → Qh v H') → (∀ cls d H', Ew K names Qh cls d H' → W cls d H') → t W σ H Qh
abbrev refD (nm : Str) (pl : Option Int) : Dt := .tup [.str nm, .int (pl.getD 0)]
theorem ev_lamW {XC : Cx} {P : Addr} {q : Str} {k : Nat} {t : XK → TE} {Q : Dt → Prop} (hP : g P = some (.tab q)) (h : ∀ f L, IsLam XC k t f L → Q (.xo f L)) : EV (ct X g) (tLamM XC P q k t) ρ Q := fun hd H σ v Qh kk => ⟨hd, v.dom, (v.inv.2 P _ hP).2, fun f L H3 il e3 T3 hL => by
  obtain ⟨e4, b3, sm⟩ := wt_tab v.muh v.inv hP e3 T3
  exact kk _ _ H3 (h f L il) e4 b3 (.xo hL)⟩
theorem evr_toldW {XC : Cx} {k : Nat} {ta : TA} {Q : GT → RV → Prop} (hK : XC.K = K) (h : EVA (ct X g) ta ρ fun ds => ∃ t f L, ds = [.xo f L] ∧ IsLam XC k t f L ∧ TWd X g ρ names t Q) : EVR X g (tBig XC (spT XC.prog XC.w K XC.mg names (k + 1)) ta) ρ Q := fun hd H σ v Qh kq => h hd H σ v _ fun ds vs H1 h1 e1 b1 r1 pins s I => by
  obtain ⟨t, f, L, rfl, il, tw⟩ := h1
  subst hK
  have v1 := v.go e1 b1
  obtain ⟨x, rfl, rx⟩ := rp1 r1
  cases rx with
  | xo hL =>
    refine ⟨f, _, rfl, il pins σ H1 s I, fun W hW => ⟨fun p hp => hm_le (hL p hp).2, tw hd H1 σ v1 Qh W (fun g' r z H' hq go rv => kq g' r z H' hq ?_ rv) hW⟩⟩
    have := (Go.of (W := WT X) v.muh e1 b1).trans (by rw [un_eq v.muh]; exact go)
    exact this
def TellZ (P : Program) (w : World) (c : Cn) (mg : Str → Option Value) (names : List Str) (k : Nat) (B : Heap) (due d : Dt) : Prop := ∃ f L sp, d = .xo f L ∧ Act P w c.K mg B k f sp ∧
  ∀ hd H, (∀ a, hd a = true → H a ≠ none) → (∀ a, c.mu a = true → hd a = true) → c.B hd H → (∀ p ∈ L, Hm hd H p.1 = some p.2) → ∀ (Q : VK) (W : XK), (∀ v H', Ex c.mu H H' → c.B hd H' → Rp c.K (Hm hd H') v due → Q v H') → (∀ cls d H', Ew c.K names Q cls d H' → W cls d H') → sp H Q W
def spAllZ (P : Program) (w : World) (K : PySem.W.Frag) (mg : Str → Option Value) (names : List Str) (Al : Dt → Prop) (k : Nat) (B : Heap) : Sp := fun vs H Qh _ => ∃ (c : Cn) (hid : Addr → Bool) (ls : List Dt) (due : Dt), c.K = K ∧ (∀ a, c.mu a = true → hid a = true) ∧ (∀ a, hid a = true → H a ≠ none) ∧ c.B hid H ∧ RpAll K (Hm hid H) vs [.lst ls, due] ∧ Al due ∧ ls.length ≤ 100 ∧
  (∀ d ∈ ls, TellZ P w c mg names k B due d) ∧ ∀ H', Ex c.mu H H' → c.B hid H' → Qh (.bl true) H'
theorem sp_jZ {P : Program} {w : World} {c : Cn} {mg : Str → Option Value} {names : List Str} {k : Nat} {B : Heap} {due d : Dt} {E : XK} {Q : Dt → Prop} (h : TellZ P w c mg names k B due d) (hq : Q due) : SpJ c (spT P w c.K mg names k B) E [d] Q := fun hd H vs dom mh bb r Qh q => by
  obtain ⟨f, L, sp, rfl, ac, h⟩ := h
  obtain ⟨x, rfl, rx⟩ := rp1 r
  cases rx with
  | xo hL => exact ⟨f, sp, rfl, ac, fun W hW => h hd H dom mh bb (fun p hp => (hL p hp).2) Qh W (fun z H' e b r => q due z H' hq e b r) hW⟩
def cnW (X : Cl K) (g : GT) (σ : L2.St) (ρ : List Sl) : Cn := ⟨K, (WT X).mu g, fun hd H => (WT X).B g hd H ∧ SlAll (Cn.pure K) hd H σ (ρ.map sim), fun hd hd' H H' e k h => ⟨(WT X).stab g hd hd' H H' e k h.1, sim_stab e h.2⟩⟩
theorem sim_back {c : Cn} {hd : Addr → Bool} {H : Hp} : ∀ {σ : L2.St} {ρ : List Sl}, SlAll (Cn.pure c.K) hd H σ (ρ.map sim) → SlAll c hd H σ (ρ.map sim)
  | _, [], .nil => .nil
  | _, s :: ρ, .cons (o := o) h t => .cons (by
      cases s with
      | im d =>
        cases o with
        | none => exact h.elim
        | some v => exact h
      | rw d =>
        cases o with
        | none => exact h.elim
        | some v => exact h
      | _ => exact slok_un) (sim_back t)
theorem ev_allW {XC : Cx} {k : Nat} {Al : Dt → Prop} {ta : TA} {Q : Dt → Prop} (hK : XC.K = K) (h : EVA (ct X g) ta ρ fun ds => ∃ ls due, ds = [.lst ls, due] ∧ Al due ∧ ls.length ≤ 100 ∧ (∀ d ∈ ls, ∃ t f L, d = .xo f L ∧ IsLam XC k t f L ∧ TWd X g (ρ.map sim) names t fun g' r => (∀ y u, g y = some u → g' y = some u) ∧ r = .dat due) ∧ Q (.bl true)) :
    EV (ct X g) (tBig XC (spAllZ XC.prog XC.w K XC.mg names Al (k + 1)) ta) ρ Q := fun hd H σ v Qh kq => h hd H σ v _ fun ds vs H1 h1 e1 b1 r1 pins s I => by
  obtain ⟨ls, due, rfl, al, hl, hT, hq⟩ := h1
  subst hK
  have v1 := v.go e1 b1
  refine ⟨cnW X g σ ρ, hd, ls, due, rfl, v.muh, v1.dom, ⟨b1, sim_ok v1.slots⟩, r1, al, hl, fun d hd' => ?_, fun H' e b => kq (.bl true) (.bl true) H' hq (e1.trans e) b.1 (.bl true)⟩
  obtain ⟨t, f, L, rfl, il, tell⟩ := hT d hd'
  refine ⟨f, L, _, rfl, il pins σ H1 s I, fun hd2 H2 dom2 mh2 sl hL Q W hQ hW => ⟨fun p hp => hm_le (hL p hp), tell hd2 H2 σ ⟨dom2, mh2, sl.1, sim_back sl.2⟩ Q W (fun g' r z H' hq2 go rv => ?_) hW⟩⟩
  obtain ⟨k9, rfl⟩ := hq2
  have mh3 : ∀ a, (WT X).mu g a = true → hd2 a = true := mh2
  have go' := go.back mh3 k9
  have b9 := go'.inv
  rw [un_eq mh3] at b9
  exact hQ z H' go'.ex ⟨b9, sim_stab (go'.ex.sees mh3) sl.2⟩ (RvOk.hide (r := .dat due) (fun a ha => un_l ha) rv)
end
end CC
namespace CC
open PySem PySem.Spec PyProof.Rows L2
open C8 (Cal pe_c pe_gc)
end CC
namespace CC
open PySem PySem.Spec PyProof.Rows L2
open C8 (Cal pe_c pe_gc)
section
variable {P : Program} {w : World} {K : PySem.W.Frag} {mg : Str → Option Value} {base : Heap}
theorem cal_rBC {x : Str} {st : Stmt} {N ps : List Str} {k : Nat} {c : Addr} {S : GT → List RV → (GT → RV → Prop) → Prop} (F : FnAtC K mg x st ps c) (Sc : FnScope N ps (defScope st)) (len : ∀ g rs Q, S g rs Q → rs.length + 1 = ps.length)
    (hb : ∀ (f : Addr) (A : Around) (outer : List Env) (s : Shared) (H : Hp) (E : XK), Room k (A.deeper (envOfC x (defScope st) s.heap.objs.size f (.ref c))) →
      ∃ t, PSs (cxD P w K mg base N x st f (.ref c) A outer s H E) (defBody st) t ∧ ∀ b l g rs Q, b ≠ l → S g rs Q → ∀ hid H0 (D : Ends), (∀ a, hid a = true → H0 a ≠ none) → RetR (XB K b l) g hid H0 Q D → NJ (ct (XB K b l) g) hid H0 (t D) (startR N (.ref b :: rs))) :
    Cal P w K mg base (k + 1) x (spRB K S) [] := by
  obtain ⟨f, fd, hm, F, bi, hc⟩ := F
  refine ⟨⟨f, fd, ps, [], Fun.okC F Sc (fun vs H Q E h => ?_) (fun A outer s H vs Q E hr h => ?_), hm, F.kp, bi, .nil⟩⟩
  · obtain ⟨b, l, g, rs, hid, Q', _, _, _, _, r, hS, _⟩ := h
    rw [r.len, List.length_cons]
    exact len g rs Q' hS
  · rw [hc] at hr ⊢
    obtain ⟨b, l, g, rs, hid, Q', hne, bb, mh, dom, r, hS, q⟩ := h
    obtain ⟨t, ht, hn⟩ := hb f A outer s H E hr
    refine ⟨t, ht, hn b l g rs Q' hne hS hid H { nx := fun _ H' => Q .non H', rt := Q } dom ⟨fun g' d hd f v H' e b r => q g' d v H' hd ⟨f.ex e, b, f⟩ r, fun g' hd f ρ hd' H' σ sd => ?_⟩ hid H _ (sd_startR (c := ct (XB K b l) g) dom mh bb r)⟩
    have sub : ∀ a, un hid ((WT (XB K b l)).mu g') a = true → hd' a = true := fun a h => by
      rcases un_of h with h | h
      · exact sd.sub a h
      · exact sd.muh a h
    exact q g' (.dat .non) .non H' hd ⟨f.ex sd.ext, ((WT (XB K b l)).cn g').unhide sub sd.inv, f⟩ .non
end
section
variable {K : PySem.W.Frag} {X : Cl K} {g : GT} {ρ : List Sl} {names : List Str}
theorem twd_callY {S : List Dt → (Dt → Prop) → (Str → Option Int → Prop) → Prop} {Q : GT → RV → Prop} {ta : TA} (h : EVA (ct X g) ta ρ fun ds => ∃ R, S ds (fun d => Q g (.dat d)) R ∧ ∀ nm pl, R nm pl → nm ∈ names ∧ placed nm = pl.isSome ∧ Q g (.dat (refD nm pl))) : TWd X g ρ names (fun E => tCallS (spY K S) (fun _ => E) ta) Q := fun hd H σ v Qh W q hW => h hd H σ v _ fun ds vs H2 h2 e2 b2 r2 => by
  obtain ⟨R, hS, hR⟩ := h2
  have v2 := v.go e2 b2
  refine ⟨hd, ds, _, R, v2.dom, r2, hS, fun d z H3 hd3 e3 r3 => ?_, fun nm pl hr d H3 e3 hf hp => hW _ _ _ ⟨nm, pl, hd, (hR nm pl hr).1, (hR nm pl hr).2.1, rfl, hp, fun a ha => e3.dom a (v2.dom a ha), fun dd e => fresh_hd v2.dom (hf dd e), fun H4 z e4 r4 => ?_⟩⟩
  · exact q g (.dat d) z H3 hd3 (Go.of v.muh (e2.trans (e3.up (c := ct X g))) ((ct X g).keep0 e3 b2)) (by rw [un_eq v.muh]; exact r3)
  · have e5 := e3.trans e4
    exact q g (.dat (refD nm pl)) z H4 (hR nm pl hr).2.2 (Go.of v.muh (e2.trans (e5.up (c := ct X g))) ((ct X g).keep0 e5 b2)) (by rw [un_eq v.muh]; exact r4)
end
section
variable {X : Cx} {K : PySem.W.Frag}
theorem cl_lenK (h : X.K = K) : CallR X (.builtin "len") (rLenU K) := by subst h; exact cl_len
theorem op_addUK (h : X.K = K) : OpR X (binaryOp .Add) (rAddU K) := by subst h; exact op_addU
end
end CC
namespace CC
open PySem PySem.Spec PyProof.Rows L2
open C8 (Cal pe_c pe_gc)
theorem sc_powers_of : FnScope ["base", "found"] ["base"] (defScope s_powers_of) := ⟨rfl, rfl, rfl, by decide +kernel, rfl, by decide +kernel, by decide +kernel⟩
theorem sc_cells_for : FnScope ["base", "many", "each"] ["base", "many"] (defScope s_cells_for) := ⟨rfl, rfl, rfl, by decide +kernel, rfl, by decide +kernel, by decide +kernel⟩
theorem sc_packed_by : FnScope ["base", "values", "powers", "found", "place", "value"] ["base", "values"] (defScope s_packed_by) := ⟨rfl, rfl, rfl, by decide +kernel, rfl, by decide +kernel, by decide +kernel⟩
theorem sc_value_in : FnScope ["base", "cells", "place", "powers"] ["base", "cells", "place"] (defScope s_value_in) := ⟨rfl, rfl, rfl, by decide +kernel, rfl, by decide +kernel, by decide +kernel⟩
theorem sc_unpacked : FnScope ["base", "cells", "many", "powers", "place"] ["base", "cells", "many"] (defScope s_unpacked) := ⟨rfl, rfl, rfl, by decide +kernel, rfl, by decide +kernel, by decide +kernel⟩
theorem sc_need_values : FnScope ["values", "place", "value"] ["values"] (defScope s_need_values) := ⟨rfl, rfl, rfl, by decide +kernel, rfl, by decide +kernel, by decide +kernel⟩
theorem sc_codes_form : FnScope ["values", "unlike", "value"] ["values"] (defScope s_codes_form) := ⟨rfl, rfl, rfl, by decide +kernel, rfl, by decide +kernel, by decide +kernel⟩
theorem sc_packed_above : FnScope ["values", "low", "span", "value"] ["values"] (defScope s_packed_above) := ⟨rfl, rfl, rfl, by decide +kernel, rfl, by decide +kernel, by decide +kernel⟩
theorem sc_steps_form : FnScope ["values", "above", "k"] ["values"] (defScope s_steps_form) := ⟨rfl, rfl, rfl, by decide +kernel, rfl, by decide +kernel, by decide +kernel⟩
theorem sc_near_form : FnScope ["values", "above"] ["values"] (defScope s_near_form) := ⟨rfl, rfl, rfl, by decide +kernel, rfl, by decide +kernel, by decide +kernel⟩
theorem sc_form_of : FnScope ["name", "values"] ["name", "values"] (defScope s_form_of) := ⟨rfl, rfl, rfl, by decide +kernel, rfl, by decide +kernel, by decide +kernel⟩
theorem sc_laid : FnScope ["name", "values", "found"] ["name", "values"] (defScope s_laid) := ⟨rfl, rfl, rfl, by decide +kernel, rfl, by decide +kernel, by decide +kernel⟩
theorem sc_weight_of : FnScope ["part", "one"] ["part"] (defScope s_weight_of) := ⟨rfl, rfl, rfl, by decide +kernel, rfl, by decide +kernel, by decide +kernel⟩
theorem sc_room : FnScope ["form"] ["form"] (defScope s_room) := ⟨rfl, rfl, rfl, by decide +kernel, rfl, by decide +kernel, by decide +kernel⟩
theorem sc_cells_above : FnScope ["values", "more", "span"] ["values", "more"] (defScope s_cells_above) := ⟨rfl, rfl, rfl, by decide +kernel, rfl, by decide +kernel, by decide +kernel⟩
theorem sc_cells_by : FnScope ["values", "unlike", "steps", "some", "k", "cells"] ["values"] (defScope s_cells_by) := ⟨rfl, rfl, rfl, by decide +kernel, rfl, by decide +kernel, by decide +kernel⟩
theorem sc_least_of : FnScope ["values", "cells"] ["values"] (defScope s_least_of) := ⟨rfl, rfl, rfl, by decide +kernel, rfl, by decide +kernel, by decide +kernel⟩
theorem sc_least_form : FnScope ["values"] ["values"] (defScope s_least_form) := ⟨rfl, rfl, rfl, by decide +kernel, rfl, by decide +kernel, by decide +kernel⟩
theorem sc_size : FnScope ["form"] ["form"] (defScope s_size) := ⟨rfl, rfl, rfl, by decide +kernel, rfl, by decide +kernel, by decide +kernel⟩
theorem sc_summed : FnScope ["first", "low", "steps", "found", "step"] ["first", "low", "steps"] (defScope s_summed) := ⟨rfl, rfl, rfl, by decide +kernel, rfl, by decide +kernel, by decide +kernel⟩
theorem sc_values_of : FnScope ["form", "steps", "code", "above"] ["form"] (defScope s_values_of) := ⟨rfl, rfl, rfl, by decide +kernel, rfl, by decide +kernel, by decide +kernel⟩
theorem sc_value_of : FnScope ["form", "place", "steps"] ["form", "place"] (defScope s_value_of) := ⟨rfl, rfl, rfl, by decide +kernel, rfl, by decide +kernel, by decide +kernel⟩
theorem sc_value_at : FnScope ["form", "place"] ["form", "place"] (defScope s_value_at) := ⟨rfl, rfl, rfl, by decide +kernel, rfl, by decide +kernel, by decide +kernel⟩
theorem sc_cut : FnScope ["values"] ["values"] (defScope s_cut) := ⟨rfl, rfl, rfl, by decide +kernel, rfl, by decide +kernel, by decide +kernel⟩
theorem sc_prices : FnScope ["values", "row"] ["values"] (defScope s_prices) := ⟨rfl, rfl, rfl, by decide +kernel, rfl, by decide +kernel, by decide +kernel⟩
theorem sc_bound : FnScope ["values", "told", "rooms", "begin", "end"] ["values", "told"] (defScope s_bound) := ⟨rfl, rfl, rfl, by decide +kernel, rfl, by decide +kernel, by decide +kernel⟩
theorem sc__law_begun : FnScope ["_law_script", "_law_stirred", "_law_cell"] ["_law_script"] (defScope s__law_begun) := ⟨rfl, rfl, rfl, by decide +kernel, rfl, by decide +kernel, by decide +kernel⟩
theorem sc__law_take : FnScope ["_law_box", "_law_many", "_law_number"] ["_law_box", "_law_many"] (defScope s__law_take) := ⟨rfl, rfl, rfl, by decide +kernel, rfl, by decide +kernel, by decide +kernel⟩
theorem sc__law_alike : FnScope ["_law_found", "_law_due", "_law_k"] ["_law_found", "_law_due"] (defScope s__law_alike) := ⟨rfl, rfl, rfl, by decide +kernel, rfl, by decide +kernel, by decide +kernel⟩
theorem sc__law_class : FnScope ["_law_e", "_law_kinds", "_law_words"] ["_law_e"] (defScope s__law_class) := ⟨rfl, rfl, rfl, by decide +kernel, rfl, by decide +kernel, by decide +kernel⟩
theorem sc__law_told : FnScope ["_law_work", "_law_e", "_law_word"] ["_law_work"] (defScope s__law_told) := ⟨rfl, rfl, rfl, by decide +kernel, rfl, by decide +kernel, by decide +kernel⟩
theorem sc__law_all : FnScope ["_law_works", "_law_due", "_law_work"] ["_law_works", "_law_due"] (defScope s__law_all) := ⟨rfl, rfl, rfl, by decide +kernel, rfl, by decide +kernel, by decide +kernel⟩
theorem sc__law_per : FnScope ["_law_base", "_law_many", "_law_worth"] ["_law_base"] (defScope s__law_per) := ⟨rfl, rfl, rfl, by decide +kernel, rfl, by decide +kernel, by decide +kernel⟩
theorem sc__law_packed : FnScope ["_law_base", "_law_values_here", "_law_per_here", "_law_found", "_law_begin", "_law_cell", "_law_value"] ["_law_base", "_law_values_here"] (defScope s__law_packed) := ⟨rfl, rfl, rfl, by decide +kernel, rfl, by decide +kernel, by decide +kernel⟩
theorem sc__law_above : FnScope ["_law_values_here", "_law_low", "_law_span", "_law_value"] ["_law_values_here"] (defScope s__law_above) := ⟨rfl, rfl, rfl, by decide +kernel, rfl, by decide +kernel, by decide +kernel⟩
theorem sc__law_form : FnScope ["_law_name", "_law_values_here", "_law_many", "_law_alike_here", "_law_unlike", "_law_places", "_law_above_here", "_law_value", "_law_k"] ["_law_name", "_law_values_here"] (defScope s__law_form) := ⟨rfl, rfl, rfl, by decide +kernel, rfl, by decide +kernel, by decide +kernel⟩
theorem sc__law_room : FnScope ["_law_form_here", "_law_part"] ["_law_form_here"] (defScope s__law_room) := ⟨rfl, rfl, rfl, by decide +kernel, rfl, by decide +kernel, by decide +kernel⟩
theorem sc__law_least : FnScope ["_law_values_here", "_law_some", "_law_rooms", "_law_name", "_law_form_here"] ["_law_values_here"] (defScope s__law_least) := ⟨rfl, rfl, rfl, by decide +kernel, rfl, by decide +kernel, by decide +kernel⟩
theorem sc__law_values : FnScope ["_law_box", "_law_most", "_law_found", "_law_many", "_law_way", "_law_begin", "_law_step", "_law_k", "_law_some"] ["_law_box", "_law_most"] (defScope s__law_values) := ⟨rfl, rfl, rfl, by decide +kernel, rfl, by decide +kernel, by decide +kernel⟩
theorem sc__law_is : FnScope ["_law_box", "_law_form_here", "_law_values_here", "_law_again", "_law_found", "_law_far", "_law_more", "_law_works", "_law_k"] ["_law_box", "_law_form_here", "_law_values_here"] (defScope s__law_is) := ⟨rfl, rfl, rfl, by decide +kernel, rfl, by decide +kernel, by decide +kernel⟩
theorem sc__law_refuses : FnScope ["_law_box", "_law_values_here", "_law_far", "_law_at", "_law_odd", "_law_cases", "_law_bad", "_law_place", "_law_kind", "_law_works", "_law_name"] ["_law_box", "_law_values_here"] (defScope s__law_refuses) := ⟨rfl, rfl, rfl, by decide +kernel, rfl, by decide +kernel, by decide +kernel⟩
theorem sc_law : FnScope ["_law_script", "_law_box", "_law_turn", "_law_values_here", "_law_handed", "_law_name", "_law_low", "_law_far", "_law_due", "_law_k"] ["_law_script"] (defScope s_law) := ⟨rfl, rfl, rfl, by decide +kernel, rfl, by decide +kernel, by decide +kernel⟩
theorem iw_BadValues : InitW s_BadValues___init__ "BadValues.__init__" where
  sc := ⟨rfl, rfl, rfl, by decide +kernel, rfl, by decide +kernel, by decide +kernel⟩
  run := fun c => ⟨_, pss_cons (ps_expr (pe_ceinit (by rfl) c (pa_cons (pv 0) (pa_cons pe_str pa_nil)))) (pss_one (ps_ost (pv 0) (pv 1)))⟩
def clsN : List Str := ["BadNumber", "BadValues", "NoForm", "BadPrices", "BadKinds", "BadRows", "BadCondition", "BadColumn", "BadHeap", "TooMany", "BadBlock", "Stopped", "BadText"]
def rzN : List Str := ["BadValues", "NoForm", "BadNumber"]
structure Txt (K : PySem.W.Frag) (mg : Str → Option Value) : Prop where
  b_len : mg "len" = none
  b_list : mg "list" = none
  b_tuple : mg "tuple" = none
  b_int : mg "int" = none
  b_sum : mg "sum" = none
  b_isinstance : mg "isinstance" = none
  b_set : mg "set" = none
  b_sorted : mg "sorted" = none
  b_min : mg "min" = none
  b_max : mg "max" = none
  b_range : mg "range" = none
  b_enumerate : mg "enumerate" = none
  b_str : mg "str" = none
  b_bool : mg "bool" = none
  b_ValueError : mg "ValueError" = none
  k_CELL : ∃ u, mg "CELL" = some u ∧ RelV (.int 10000) u
  k_PLAIN : ∃ u, mg "PLAIN" = some u ∧ RelV (.str "plain") u
  k_ONE : ∃ u, mg "ONE" = some u ∧ RelV (.str "one") u
  k_CODES : ∃ u, mg "CODES" = some u ∧ RelV (.str "codes") u
  k_NEAR : ∃ u, mg "NEAR" = some u ∧ RelV (.str "near") u
  k_STEPS : ∃ u, mg "STEPS" = some u ∧ RelV (.str "steps") u
  k_FORMS : ∃ u, mg "FORMS" = some u ∧ RelV (.ref (He.ga K "FORMS")) u
  t_FORMS : ∀ G : Hp, SqT K G (He.ga K "FORMS") [.str "plain", .str "one", .str "codes", .str "near", .str "steps"]
  k_MOST : ∃ u, mg "MOST" = some u ∧ RelV (.int 9999) u
  k_MOST_VALUES : ∃ u, mg "MOST_VALUES" = some u ∧ RelV (.int 32) u
  k_FAR : ∃ u, mg "FAR" = some u ∧ RelV (.int 99999) u
  k_FIVE : ∃ u, mg "FIVE" = some u ∧ RelV (.int 5) u
  x_NoForm : ExC K mg "NoForm" (He.ga K "NoForm")
  m_NoForm : PySem.W.exmOne K (.ref (He.ga K "NoForm")) (.ref (He.ga K "NoForm")) = some true
  x_BadNumber : ExC K mg "BadNumber" (He.ga K "BadNumber")
  m_BadNumber : PySem.W.exmOne K (.ref (He.ga K "BadNumber")) (.ref (He.ga K "BadNumber")) = some true
  g_ColumnError : mg "ColumnError" = some (.ref (He.ga K "ColumnError"))
  g_BadNumber : mg "BadNumber" = some (.ref (He.ga K "BadNumber"))
  g_BadValues : mg "BadValues" = some (.ref (He.ga K "BadValues"))
  g_NoForm : mg "NoForm" = some (.ref (He.ga K "NoForm"))
  g_BadPrices : mg "BadPrices" = some (.ref (He.ga K "BadPrices"))
  g_BadKinds : mg "BadKinds" = some (.ref (He.ga K "BadKinds"))
  g_BadRows : mg "BadRows" = some (.ref (He.ga K "BadRows"))
  g_BadCondition : mg "BadCondition" = some (.ref (He.ga K "BadCondition"))
  g_BadColumn : mg "BadColumn" = some (.ref (He.ga K "BadColumn"))
  g_BadHeap : mg "BadHeap" = some (.ref (He.ga K "BadHeap"))
  g_TooMany : mg "TooMany" = some (.ref (He.ga K "TooMany"))
  g_BadBlock : mg "BadBlock" = some (.ref (He.ga K "BadBlock"))
  g_Stopped : mg "Stopped" = some (.ref (He.ga K "Stopped"))
  g_BadText : mg "BadText" = some (.ref (He.ga K "BadText"))
  cls : ClsF K rzN clsN
  p_BadValues : PlC K mg "BadValues" (He.ga K "BadValues")
  f_powers_of : FnAt K mg "powers_of" s_powers_of ["base"]
  f_cells_for : FnAt K mg "cells_for" s_cells_for ["base", "many"]
  f_packed_by : FnAt K mg "packed_by" s_packed_by ["base", "values"]
  f_value_in : FnAt K mg "value_in" s_value_in ["base", "cells", "place"]
  f_unpacked : FnAt K mg "unpacked" s_unpacked ["base", "cells", "many"]
  f_need_values : FnAt K mg "need_values" s_need_values ["values"]
  f_codes_form : FnAt K mg "codes_form" s_codes_form ["values"]
  f_packed_above : FnAt K mg "packed_above" s_packed_above ["values"]
  f_steps_form : FnAt K mg "steps_form" s_steps_form ["values"]
  f_near_form : FnAt K mg "near_form" s_near_form ["values"]
  f_form_of : FnAt K mg "form_of" s_form_of ["name", "values"]
  f_laid : FnAt K mg "laid" s_laid ["name", "values"]
  f_weight_of : FnAt K mg "weight_of" s_weight_of ["part"]
  f_room : FnAt K mg "room" s_room ["form"]
  f_cells_above : FnAt K mg "cells_above" s_cells_above ["values", "more"]
  f_cells_by : FnAt K mg "cells_by" s_cells_by ["values"]
  f_least_of : FnAt K mg "least_of" s_least_of ["values"]
  f_least_form : FnAt K mg "least_form" s_least_form ["values"]
  f_size : FnAt K mg "size" s_size ["form"]
  f_summed : FnAt K mg "summed" s_summed ["first", "low", "steps"]
  f_values_of : FnAt K mg "values_of" s_values_of ["form"]
  f_value_of : FnAt K mg "value_of" s_value_of ["form", "place"]
  f_value_at : FnAt K mg "value_at" s_value_at ["form", "place"]
  f_rooms_of : FnAt K mg "rooms_of" s_rooms_of ["values"]
  f_best_ends : FnAt K mg "best_ends" s_best_ends ["values"]
  f_cut_of : FnAt K mg "cut_of" s_cut_of ["values"]
  f_cut : FnAt K mg "cut" s_cut ["values"]
  f_prices : FnAt K mg "prices" s_prices ["values"]
  f_bound : FnAt K mg "bound" s_bound ["values", "told"]
  f__law_begun : FnAt K mg "_law_begun" s__law_begun ["_law_script"]
  f__law_take : FnAt K mg "_law_take" s__law_take ["_law_box", "_law_many"]
  f__law_alike : FnAt K mg "_law_alike" s__law_alike ["_law_found", "_law_due"]
  f__law_class : FnAt K mg "_law_class" s__law_class ["_law_e"]
  f__law_told : FnAt K mg "_law_told" s__law_told ["_law_work"]
  f__law_all : FnAt K mg "_law_all" s__law_all ["_law_works", "_law_due"]
  f__law_per : FnAt K mg "_law_per" s__law_per ["_law_base"]
  f__law_packed : FnAt K mg "_law_packed" s__law_packed ["_law_base", "_law_values_here"]
  f__law_above : FnAt K mg "_law_above" s__law_above ["_law_values_here"]
  f__law_form : FnAt K mg "_law_form" s__law_form ["_law_name", "_law_values_here"]
  f__law_room : FnAt K mg "_law_room" s__law_room ["_law_form_here"]
  f__law_least : FnAt K mg "_law_least" s__law_least ["_law_values_here"]
  f__law_values : FnAt K mg "_law_values" s__law_values ["_law_box", "_law_most"]
  f__law_is : FnAtC K mg "_law_is" s__law_is ["_law_box", "_law_form_here", "_law_values_here"] (He.cT K ("_law_is", none)).1
  f__law_refuses : FnAtC K mg "_law_refuses" s__law_refuses ["_law_box", "_law_values_here"] (He.cT K ("_law_refuses", none)).1
  f_law : FnAtC K mg "law" s_law ["_law_script"] (He.cT K ("law", none)).1
theorem plno {K : PySem.W.Frag} {mg : Str → Option Value} (T : Txt K mg) (nm : Str) (h : nm ∈ rzN) (hp : placed nm = true) : PySem.W.findIn K (.ref (He.ga K nm)) "place" = some none := by
  simp only [rzN, List.mem_cons, List.not_mem_nil, or_false] at h
  rcases h with rfl | rfl | rfl
  · exact T.p_BadValues.no
  · exact absurd hp (by decide)
  · exact absurd hp (by decide)
end CC
namespace CC
open PySem PySem.Spec PyProof.Rows L2
open C8 (Cal pe_c pe_gc)
local macro_rules | `(tactic| walk_at "ev0") => `(tactic| (first
  | with_reducible refine ev_ixA rfl ?_
  | with_reducible refine ev_op ?_
  | with_reducible refine ev_var rfl ?_
  | with_reducible refine ev_int ?_
  | with_reducible refine ev_str ?_
  | with_reducible refine ev_bl ?_
  | with_reducible refine ev_non ?_
  | with_reducible refine ev_neg ?_
  | with_reducible refine ev_call ?_
  | with_reducible refine ev_tup ?_
  | with_reducible refine ev_chain ?_
  | with_reducible refine ev_andV ?_
  | with_reducible refine ev_orV ?_
  | with_reducible refine ev_notV ?_
  | with_reducible refine ev_isi ?_
  | with_reducible refine lenSet_li ?_
  | with_reducible refine ev_cb ?_
  | with_reducible refine ea_nil ?_
  | with_reducible refine ea_cons ?_
  | with_reducible refine et_test ?_
  | with_reducible refine et_B ?_
  | with_reducible refine et_and ?_
  | with_reducible refine et_or ?_
  | with_reducible refine et_not ?_
  | with_reducible refine et_yes ?_
  | with_reducible refine eo_none ?_
  | with_reducible refine eo_some ?_
  | with_reducible refine add_i ?_
  | with_reducible refine sub_i ?_
  | with_reducible refine lt_i ?_
  | with_reducible refine le_i ?_
  | with_reducible refine gt_i ?_
  | with_reducible refine ge_i ?_
  | with_reducible refine eq_i ?_
  | with_reducible refine ne_i ?_
  | with_reducible refine eq_s ?_
  | with_reducible refine ne_s ?_
  | with_reducible refine lenOk (by (dsimp only [List.length_cons, List.length_nil]; decide)) ?_
  | with_reducible refine len_li ?_
  | with_reducible refine len_ti ?_
  | with_reducible refine len_l ?_
  | with_reducible refine len_t ?_
  | with_reducible refine tuple_l ?_
  | with_reducible refine tuple_lp ?_
  | with_reducible refine tuple_t ?_
  | with_reducible refine is_n ?_
  | with_reducible refine isnot_n ?_
  | with_reducible refine min_li (by assumption) ?_
  | with_reducible refine max_li (by assumption) ?_
  | with_reducible refine ix_h (by assumption) ?_
  | with_reducible refine add_t (by (dsimp only [List.length_cons, List.length_nil]; decide)) ?_
  | with_reducible refine ix_t0 ?_
  | with_reducible refine ix_t1 ?_
  | with_reducible refine ix_t2 ?_
  | with_reducible refine ix_t3 ?_
  | with_reducible refine ix_t4 ?_
  | with_reducible refine ix_t5 ?_
  | with_reducible refine ix_l0 ?_
  | with_reducible refine ix_l1 ?_
  | with_reducible refine ix_l2 ?_
  | with_reducible refine ix_l3 ?_
  | with_reducible refine ix_l4 ?_
  | with_reducible refine ix_l5 ?_
  | with_reducible refine intJ ?_
  | with_reducible refine blJ ?_
  | with_reducible refine lstJ ?_
  | with_reducible refine tupJ ?_
  | with_reducible refine mul_iR (by omega) (by omega) ?_
  | with_reducible refine mul_iL (by omega) (by omega) ?_
  | with_reducible refine div_iP (by omega) (by omega) ?_
  | with_reducible refine mod_i (by omega) ?_
  | with_reducible refine lt_s ?_
  | with_reducible refine le_s ?_
  | with_reducible refine gt_s ?_
  | with_reducible refine ge_s ?_
  | with_reducible refine strJ ?_
  | with_reducible refine ev_slS ?_
  | with_reducible refine notin_c ?_
  | with_reducible refine in_c ?_
  | with_reducible refine max2_i ?_
  | with_reducible refine min2_i ?_
  | with_reducible refine etj ?_))
local macro_rules | `(tactic| walk_at "le") => `(tactic| ((try dsimp only [List.set_cons_zero, List.set_cons_succ]); repeat (first
  | with_reducible exact Le.nil
  | with_reducible refine Le.un ?_
  | with_reducible refine Le.same ?_
  | refine Le.same ?_)))
local macro_rules | `(tactic| walk_at "ev") => `(tactic| (first
  | walk_at "ev0"
  | with_reducible refine ev_if ?_))
local macro_rules | `(tactic| walk_at "go0") => `(tactic| (repeat walk_at "ev0"))
local macro_rules | `(tactic| walk_at "nm") => `(tactic| try dsimp only [wipeS, List.set_cons_zero, List.set_cons_succ])
local macro_rules | `(tactic| walk_at "go") => `(tactic| (repeat walk_at "ev"))
section
def S_powers_of (ds : List Dt) (Q : Dt → Prop) : Prop := ∃ b : Int, ds = [.int b] ∧ 2 ≤ b ∧ b ≤ 10000 ∧ Q (dL (pows b))
abbrev sp_powers_of (K : PySem.W.Frag) : Sp := spP K S_powers_of
theorem ok_powers_of {P : Program} {w : World} {K : PySem.W.Frag} {mg : Str → Option Value} {base : Heap} (T : Txt K mg)  : Cal P w K mg base 1 "powers_of" (sp_powers_of K) [] := by
  refine cal_pure T.f_powers_of sc_powers_of ?len fun f cdv A outer s H E hr => ⟨_, (pss_cons (ps_set (i := 1) sc_powers_of.nd rfl (Or.inl rfl) (pe_lst (pa_cons pe_int pa_nil)))
      (pss_cons (ps_while PassesOwn.never (pt_cmpR op_leU (pe_op op_mulU (pe_op op_mulU (pe_ix ix_seq (pv 1) (pe_un un_neg pe_int) (fun _ _ => rfl)) (pv 0)) (pv 0)) (pe_gc (by rfl) T.k_CELL) (nomark _)) (pss_one (ps_expr (pe_bm PySem.F.plainAttrs_list PySem.F.slot_list_append PySem.F.type_list_append mt_append (pv 1) (pa_cons (pe_op op_mulU (pe_ix ix_seq (pv 1) (pe_un un_neg pe_int) (fun _ _ => rfl)) (pv 0)) pa_nil)))))
      (pss_one (ps_ret (pv 1))))), ?body⟩
  case' body => try dsimp only [cxD, cxOf]
  case len => rintro ds Q ⟨b, rfl, _⟩; rfl
  case body =>
    rintro ds Q ⟨b, rfl, h2, h3, hq⟩ hid H0 D dom hD
    show NJ _ _ _ _ [.im (.int b), .un]
    refine (q_asgN (en_lst (ea_cons (ev_int (ea_nil ⟨by decide, ?_⟩)))))
    refine (q_while (fun m ρ' => ∃ xs x, ρ' = [.im (.int b), .ac (xs.map Dt.int ++ [.int x])] ∧ pows b = xs ++ powB b m x ∧ 2 ^ (14 - m) ≤ x ∧ x * b ≤ 10000 ∧ m ≤ 14 ∧ xs.length ≤ 14 - m) 14 ?_ ?_)
    · exact ⟨[], 1, rfl, rfl, by decide, by omega, by decide, by decide⟩
    · rintro m ρ' ⟨xs, x, rfl, e, hx, hxb, hm, hl⟩
      have hx1 : (1 : Int) ≤ x := Int.le_trans (Int.pow_pos (by decide)) hx
      have hx2 : x ≤ 10000 := by
        have : x * 1 ≤ x * b := Int.mul_le_mul_of_nonneg_left (by omega) (by omega)
        omega
      walk_at "go"
      refine ⟨.int x, atI_last _ _, ?_⟩
      walk_at "go"
      refine bl_two (fun hc => ?_) (fun hc => ?_)
      · refine nj_app rfl (by simp; omega) ?_
        walk_at "go"
        refine ⟨.int x, atI_last _ _, ?_⟩
        walk_at "go"
        cases m with
        | zero =>
          exfalso
          have : (2 : Int) ^ (14 - 0) = 16384 := by decide
          omega
        | succ m =>
          refine nj_nx ⟨m, by omega, xs ++ [x], x * b, by simp, ?_, ?_, hc, by omega, by simp; omega⟩
          · rw [e]
            show _ = _ ++ _
            rw [powB, if_pos hc, List.append_assoc]; rfl
          · have e1 : 14 - m = (14 - (m + 1)) + 1 := by omega
            rw [e1, Int.pow_succ]
            exact Int.mul_le_mul hx h2 (by decide) (by omega)
      · refine nj_retAc rfl (RJ.rn dom (hD.rt _ ?_))
        have : pows b = xs ++ [x] := by
          rw [e]
          cases m with
          | zero => rfl
          | succ m => rw [powB, if_neg hc]
        rw [this, dL, List.map_append] at hq
        exact hq
def S_cells_for (ds : List Dt) (Q : Dt → Prop) : Prop := ∃ b n : Int, ds = [.int b, .int n] ∧ 2 ≤ b ∧ b ≤ 10000 ∧ Q (.int ((n + perB b - 1) / perB b))
abbrev sp_cells_for (K : PySem.W.Frag) : Sp := spP K S_cells_for
theorem powB_len2 (b : Int) : ∀ n x, (powB b n x).length ≤ n + 1
  | 0, _ => Nat.le_refl _
  | n + 1, x => by
    unfold powB
    split
    · rw [List.length_cons]; have := powB_len2 b n (x * b); omega
    · show 1 ≤ _; omega
theorem perB_le (b : Int) : perB b ≤ 15 := powB_len2 b 14 1
theorem ok_cells_for {P : Program} {w : World} {K : PySem.W.Frag} {mg : Str → Option Value} {base : Heap} (T : Txt K mg) (c_powers_of : Cal P w K mg base 1 "powers_of" (sp_powers_of K) []) : Cal P w K mg base 2 "cells_for" (sp_cells_for K) [] := by
  refine cal_pure T.f_cells_for sc_cells_for ?len fun f cdv A outer s H E hr => ⟨_, (pss_cons (ps_set (i := 2) sc_cells_for.nd rfl (Or.inl rfl) (pe_callB cl_len (by rfl) T.b_len PySem.boot_len (pa_cons (pe_c c_powers_of hr (by decide) (by rfl) (pa_cons (pv 0) pa_nil)) pa_nil)))
      (pss_one (ps_ret (pe_op op_divU (pe_op op_subU (pe_op op_addU (pv 1) (pv 2)) pe_int) (pv 2))))), ?body⟩
  case' body => try dsimp only [cxD, cxOf]
  case len => rintro ds Q ⟨b, n, rfl, _⟩; rfl
  case body =>
    rintro ds Q ⟨b, n, rfl, h2, h3, hq⟩ hid H0 D dom hD
    show NJ _ _ _ _ [.im (.int b), .im (.int n), .un]
    have hp := perB_pos b
    have hp2 := perB_le b
    have hpl : (pows b).length = perB b := rfl
    refine q_asg ?_
    walk_at "go"
    refine sp_j ⟨b, rfl, h2, h3, ?_⟩
    walk_at "go"
    rw [hpl]
    refine nj_ret ?_
    walk_at "go"
    exact hD.rt _ hq
def S_packed_by (ds : List Dt) (Q : Dt → Prop) : Prop := ∃ (b : Int) (vs : List Int), ds = [.int b, dL vs] ∧ 2 ≤ b ∧ b ≤ 10000 ∧ vs.length ≤ 1000 ∧ Q (dT (packI b vs))
abbrev sp_packed_by (K : PySem.W.Frag) : Sp := spP K S_packed_by
theorem ok_packed_by {P : Program} {w : World} {K : PySem.W.Frag} {mg : Str → Option Value} {base : Heap} (T : Txt K mg) (c_powers_of : Cal P w K mg base 1 "powers_of" (sp_powers_of K) []) : Cal P w K mg base 2 "packed_by" (sp_packed_by K) [] := by
  refine cal_pure T.f_packed_by sc_packed_by ?len fun f cdv A outer s H E hr => ⟨_, (pss_cons (ps_set (i := 2) sc_packed_by.nd rfl (Or.inl rfl) (pe_c c_powers_of hr (by decide) (by rfl) (pa_cons (pv 0) pa_nil)))
      (pss_cons (ps_set (i := 3) sc_packed_by.nd rfl (Or.inl rfl) (pe_lst pa_nil))
      (pss_cons (ps_for PassesOwn.never rfl (pi_enum (by rfl) T.b_enumerate (pa_cons (pv 1) pa_nil)) (pg_tup rfl (pgs_cons (pg_name (i := 4) sc_packed_by.nd rfl (Or.inl rfl)) (pgs_cons (pg_name (i := 5) sc_packed_by.nd rfl (Or.inl rfl)) pgs_nil))) (pss_cons (ps_if (pt_cmpR (op_eqU hr.units) (pe_op op_modU (pv 4) (pe_callB cl_len (by rfl) T.b_len PySem.boot_len (pa_cons (pv 2) pa_nil))) pe_int (nomark _)) (pss_one (ps_expr (pe_bm PySem.F.plainAttrs_list PySem.F.slot_list_append PySem.F.type_list_append mt_append (pv 3) (pa_cons pe_int pa_nil)))) pss_nil)
      (pss_one (ps_asg (pe_op op_addU (pe_ix ix_seq (pv 3) (pe_un un_neg pe_int) (fun _ _ => rfl)) (pe_op op_mulU (pv 5) (pe_ix ix_seq (pv 2) (pe_op op_modU (pv 4) (pe_callB cl_len (by rfl) T.b_len PySem.boot_len (pa_cons (pv 2) pa_nil))) (fun _ _ => rfl)))) (pg_sub (pv 3) (pe_un un_neg pe_int) set_list)))))
      (pss_one (ps_ret (pe_callTy cl_tuple (by rfl) T.b_tuple (by decide +kernel) (pa_cons (pv 3) pa_nil))))))), ?body⟩
  case' body => try dsimp only [cxD, cxOf]
  case len => rintro ds Q ⟨b, n, rfl, _⟩; rfl
  case body =>
    rintro ds Q ⟨b, vs, rfl, h2, h3, hl, hq⟩ hid H0 D dom hD
    show NJ _ _ _ _ [.im (.int b), .im (dL vs), .un, .un, .un, .un]
    have hp := perB_pos b
    have hp2 := perB_le b
    have hpl : (pows b).length = perB b := rfl
    refine q_asg ?_
    walk_at "go"
    refine sp_j ⟨b, rfl, h2, h3, ?_⟩
    refine (q_asgN (en_lst (ea_nil ⟨by decide, ?_⟩)))
    refine q_for (ij_enum ?_)
    walk_at "go"
    refine ⟨vs.map Dt.int, rfl, fun i ρ' => ρ' = [.im (.int b), .im (dL vs), .im (dL (pows b)), .ac ((packI b (vs.take i)).map Dt.int), .un, .un], ?_, ?_, ?_⟩
    · show _ = _
      rw [List.take_zero, packI, chunks_nil]; rfl
    · rintro H1 e1 i d ρ' hi rfl
      obtain ⟨x, hx, rfl⟩ := enum_at hi
      have hlt : i < vs.length := (List.getElem?_eq_some_iff.mp hx).1
      have ht : vs.take (i + 1) = vs.take i ++ [x] := by rw [List.take_add_one, hx]; rfl
      have hli : (vs.take i).length = i := by rw [List.length_take]; omega
      have hmod := Nat.mod_lt i (show perB b > 0 by omega)
      have hpk := pows_at hmod
      obtain ⟨p1, p2⟩ := pow_le h2 h3 hmod
      have hs := chunks_snoc hp x _ (vs.take i) (Nat.le_refl _)
      rw [hli] at hs
      refine tg_tup rfl (tgs_name (tgs_name (tgs_nil ?_)))
      walk_at "nm"
      refine q_when ?_
      walk_at "go"
      rw [hpl]
      walk_at "go"
      by_cases hm : i % perB b = 0
      · refine bl_yes (decide_eq_true (by rw [← Int.natCast_emod, hm]; rfl)) ?_
        refine nj_app rfl ?_ ?_
        · rw [List.length_map, packI_len, hli]
          have := Nat.div_le_self (i + perB b - 1) (perB b)
          omega
        walk_at "go"
        walk_at "nm"
        refine nj_setL rfl ?_
        walk_at "go"
        refine ⟨.int 0, atI_last _ _, ?_⟩
        walk_at "go"
        rw [hpl]
        walk_at "go"
        rw [← Int.natCast_emod]
        refine ix_li (x := b ^ (i % perB b)) (Int.natCast_nonneg _) (by rw [Int.toNat_natCast]; exact hpk) ?_
        walk_at "go"
        refine ⟨_, ixN_last _ _, ?_⟩
        rw [set_last]
        walk_at "nm"
        refine nj_nxw _ rfl ?_
        rw [ht, packI, hs.1 hm, hm, Int.pow_zero, List.map_append, List.map_append]
        have e : dsum b [x] = 0 + x * 1 := by
          show x + b * 0 = _
          omega
        show Le [_, _, _, .ac (_ ++ [.int (dsum b [x])]), _, _] _
        rw [e]
        exact .same (.same (.same (.same (.un (.un .nil)))))
      · refine bl_no (decide_eq_false (by rw [← Int.natCast_emod]; omega)) ?_
        obtain ⟨cs, ch, g1, g2, g3⟩ := hs.2 hm
        have g4 : (packI b (vs.take i)).map Dt.int = (cs.map (dsum b)).map Dt.int ++ [.int (dsum b ch)] := by
          rw [packI, g1, List.map_append, List.map_append]; rfl
        rw [g4]
        refine nj_setL rfl ?_
        walk_at "go"
        refine ⟨.int (dsum b ch), atI_last _ _, ?_⟩
        walk_at "go"
        rw [hpl]
        walk_at "go"
        rw [← Int.natCast_emod]
        refine ix_li (x := b ^ (i % perB b)) (Int.natCast_nonneg _) (by rw [Int.toNat_natCast]; exact hpk) ?_
        walk_at "go"
        refine ⟨_, ixN_last _ _, ?_⟩
        rw [set_last]
        walk_at "nm"
        refine nj_nxw _ rfl ?_
        rw [ht, packI, g3, List.map_append, List.map_append]
        show Le [_, _, _, .ac (_ ++ [.int (dsum b (ch ++ [x]))]), _, _] _
        rw [dsum_snoc, g2]
        exact .same (.same (.same (.same (.un (.un .nil)))))
    · rintro ρ' rfl
      refine nj_share (i := 3) rfl ?_
      walk_at "nm"
      refine nj_ret ?_
      walk_at "go"
      rw [enum_len, List.length_map, List.take_length]
      exact hD.rt _ hq
def S_value_in (ds : List Dt) (Q : Dt → Prop) : Prop := ∃ (b : Int) (cs : List Int) (k : Nat), ds = [.int b, dT cs, .int (k : Nat)] ∧ 2 ≤ b ∧ b ≤ 10000 ∧ k / perB b < cs.length ∧ Q (.int (unpI b cs k))
abbrev sp_value_in (K : PySem.W.Frag) : Sp := spP K S_value_in
theorem getD_at {cs : List Int} {k : Nat} (h : k < cs.length) : cs[k]? = some (cs.getD k 0) := by
  rw [List.getD_eq_getElem?_getD, List.getElem?_eq_getElem h]; rfl
theorem ok_value_in {P : Program} {w : World} {K : PySem.W.Frag} {mg : Str → Option Value} {base : Heap} (T : Txt K mg) (c_powers_of : Cal P w K mg base 1 "powers_of" (sp_powers_of K) []) : Cal P w K mg base 2 "value_in" (sp_value_in K) [] := by
  refine cal_pure T.f_value_in sc_value_in ?len fun f cdv A outer s H E hr => ⟨_, (pss_cons (ps_set (i := 3) sc_value_in.nd rfl (Or.inl rfl) (pe_c c_powers_of hr (by decide) (by rfl) (pa_cons (pv 0) pa_nil)))
      (pss_one (ps_ret (pe_op op_modU (pe_op op_divU (pe_ix ix_seq (pv 1) (pe_op op_divU (pv 2) (pe_callB cl_len (by rfl) T.b_len PySem.boot_len (pa_cons (pv 3) pa_nil))) (fun _ _ => rfl)) (pe_ix ix_seq (pv 3) (pe_op op_modU (pv 2) (pe_callB cl_len (by rfl) T.b_len PySem.boot_len (pa_cons (pv 3) pa_nil))) (fun _ _ => rfl))) (pv 0))))), ?body⟩
  case' body => try dsimp only [cxD, cxOf]
  case len => rintro ds Q ⟨b, n, k, rfl, _⟩; rfl
  case body =>
    rintro ds Q ⟨b, cs, k, rfl, h2, h3, hk, hq⟩ hid H0 D dom hD
    show NJ _ _ _ _ [.im (.int b), .im (dT cs), .im (.int (k : Nat)), .un]
    have hp := perB_pos b
    have hp2 := perB_le b
    have hpl : (pows b).length = perB b := rfl
    have hmod := Nat.mod_lt k (show perB b > 0 by omega)
    obtain ⟨p1, p2⟩ := pow_le h2 h3 hmod
    refine q_asg ?_
    walk_at "go"
    refine sp_j ⟨b, rfl, h2, h3, ?_⟩
    refine nj_ret ?_
    walk_at "go"
    rw [hpl]
    walk_at "go"
    rw [← Int.natCast_ediv]
    refine ix_ti (x := cs.getD (k / perB b) 0) (Int.natCast_nonneg _) (by rw [Int.toNat_natCast]; exact getD_at hk) ?_
    walk_at "go"
    rw [hpl]
    walk_at "go"
    rw [← Int.natCast_emod]
    refine ix_li (x := b ^ (k % perB b)) (Int.natCast_nonneg _) (by rw [Int.toNat_natCast]; exact pows_at hmod) ?_
    walk_at "go"
    exact hD.rt _ hq
def S_unpacked (ds : List Dt) (Q : Dt → Prop) : Prop := ∃ (b : Int) (cs : List Int) (m : Nat), ds = [.int b, dT cs, .int (m : Nat)] ∧ 2 ≤ b ∧ b ≤ 10000 ∧ m ≤ 1000 ∧ (∀ k, k < m → k / perB b < cs.length) ∧ Q (dL ((List.range m).map (unpI b cs)))
abbrev sp_unpacked (K : PySem.W.Frag) : Sp := spP K S_unpacked
theorem ok_unpacked {P : Program} {w : World} {K : PySem.W.Frag} {mg : Str → Option Value} {base : Heap} (T : Txt K mg) (c_powers_of : Cal P w K mg base 1 "powers_of" (sp_powers_of K) []) : Cal P w K mg base 2 "unpacked" (sp_unpacked K) [] := by
  refine cal_pure T.f_unpacked sc_unpacked ?len fun f cdv A outer s H E hr => ⟨_, (pss_cons (ps_set (i := 3) sc_unpacked.nd rfl (Or.inr rfl) (pe_c c_powers_of hr (by decide) (by rfl) (pa_cons (pv 0) pa_nil)))
      (pss_one (ps_ret (pe_lc (g := (gName 4)) (tt := tYes) (te := (tOp rModI (tOp rDivI (tOp (rIx K) (tVar 1) (tOp rDivI (tVar 4) (tCB (rLenU K) (tCons (tVar 3) tNil)))) (tOp (rIx K) (tVar 3) (tOp rModI (tVar 4) (tCB (rLenU K) (tCons (tVar 3) tNil))))) (tVar 0))) (own := [("place", 4)]) rfl sc_unpacked.nd (pi_range1 (by rfl) T.b_range (pa_cons (pv 2) pa_nil)) (blkOk_by (N := ["base", "cells", "many", "powers", "place"]) (sc := defScope s_unpacked) (by decide +kernel)) (fun _ _ _ _ _ => (pg_name (i := 4) sc_unpacked.nd rfl (Or.inl rfl))) (fun _ _ _ _ _ => pts_nil) (fun _ _ _ _ _ => (pe_op op_modU (pe_op op_divU (pe_ix ix_seq (pv 1) (pe_op op_divU (pv 4) (pe_callB cl_len (by rfl) T.b_len PySem.boot_len (pa_cons (pv 3) pa_nil))) (fun _ _ => rfl)) (pe_ix ix_seq (pv 3) (pe_op op_modU (pv 4) (pe_callB cl_len (by rfl) T.b_len PySem.boot_len (pa_cons (pv 3) pa_nil))) (fun _ _ => rfl))) (pv 0))))))), ?body⟩
  case' body => try dsimp only [cxD, cxOf]
  case len => rintro ds Q ⟨b, n, k, rfl, _⟩; rfl
  case body =>
    rintro ds Q ⟨b, cs, m, rfl, h2, h3, hm, hk, hq⟩ hid H0 D dom hD
    show NJ _ _ _ _ [.im (.int b), .im (dT cs), .im (.int (m : Nat)), .un, .un]
    have hp := perB_pos b
    have hp2 := perB_le b
    have hpl : (pows b).length = perB b := rfl
    refine q_asg ?_
    walk_at "go"
    refine sp_j ⟨b, rfl, h2, h3, ?_⟩
    walk_at "nm"
    refine nj_retN (en_mapR (by decide) ?_)
    walk_at "go"
    refine ⟨m, fun i => .int (unpI b cs i), rfl, by omega, by omega, fun i hi => ?_, ?_⟩
    · have hmod := Nat.mod_lt i (show perB b > 0 by omega)
      obtain ⟨p1, p2⟩ := pow_le h2 h3 hmod
      refine et_yes ⟨rfl, ?_⟩
      walk_at "nm"
      walk_at "go"
      rw [hpl]
      walk_at "go"
      rw [← Int.natCast_ediv]
      refine ix_ti (x := cs.getD (i / perB b) 0) (Int.natCast_nonneg _) (by rw [Int.toNat_natCast]; exact getD_at (hk i (by omega))) ?_
      walk_at "go"
      rw [hpl]
      walk_at "go"
      rw [← Int.natCast_emod]
      refine ix_li (x := b ^ (i % perB b)) (Int.natCast_nonneg _) (by rw [Int.toNat_natCast]; exact pows_at hmod) ?_
      walk_at "go"
      rfl
    · refine RJ.rn dom (hD.rt _ ?_)
      rw [Int.toNat_natCast]
      rw [dL, List.map_map] at hq
      exact hq
end
section
open PySem PySem.Spec PyProof.Rows L2
open C8 (Cal pe_c pe_gc)
def Fm.dt : Fm → Dt
  | .plain vs => .tup [.str "plain", dT vs]
  | .one n v => .tup [.str "one", .int (n : Nat), .int v]
  | .codes n us cs => .tup [.str "codes", .int (n : Nat), dT us, dT cs]
  | .near n lo sp cs => .tup [.str "near", .int (n : Nat), .int lo, .int sp, dT cs]
  | .steps n f lo sp cs => .tup [.str "steps", .int (n : Nat), .int f, .int lo, .int sp, dT cs]
abbrev Fm.dtP (f : Fm) : Dt := f.dt
def optD : Option Fm → Dt
  | none => .non
  | some f => f.dtP
def nameK : Nat → Str
  | 0 => "plain"
  | 1 => "one"
  | 2 => "codes"
  | 3 => "near"
  | _ => "steps"
def abvD : Option (Int × Int × List Int) → Dt
  | none => .non
  | some (lo, sp, cs) => .tup [.int lo, .int sp, dT cs]
structure Vals (vs : List Int) : Prop where
  ne : vs ≠ []
  le : vs.length ≤ 32
structure InB (vs : List Int) : Prop extends Vals vs where
  bd : ∀ x ∈ vs, -9999 ≤ x ∧ x ≤ 9999
theorem nj_raiseC {K : PySem.W.Frag} {E : XK} {R : Str → Option Int → Prop} {H0 : Hp} {hid : Addr → Bool} {ρ : List Sl} {x : Str} {j : Int} (hz : RZ K E R H0) (hR : R x (some j)) : NJ (Cn.pure K) hid H0 (fun σ H => tPl (He.ga K x) (tC (.int j)) σ H fun cls d H' => E cls d H') ρ := fun hd H σ s => ⟨j, rfl, fun d H2 nd e hx => hz x (some j) hR _ H2 (s.ext.trans e) (fun dd e => by cases e; exact s.ext.fresh nd) hx⟩
def BadV (vs : List Int) (k : Nat) : Prop := (vs = [] ∧ k = 0) ∨ ((∃ x, vs[k]? = some x ∧ (32 ≤ k ∨ ¬ (-9999 ≤ x ∧ x ≤ 9999))) ∧ ∀ m y, m < k → vs[m]? = some y → m < 32 ∧ -9999 ≤ y ∧ y ≤ 9999)
def S_need_values (ds : List Dt) (Q : Dt → Prop) (R : Str → Option Int → Prop) : Prop := ∃ vs, ds = [dL vs] ∧ vs.length ≤ 1000 ∧ (InB vs → Q .non) ∧ (∀ k, BadV vs k → R "BadValues" (some (k : Nat)))
abbrev sp_need_values (K : PySem.W.Frag) : Sp := spY K S_need_values
theorem ok_need_values {P : Program} {w : World} {K : PySem.W.Frag} {mg : Str → Option Value} {base : Heap} (T : Txt K mg)  : CalX P w K mg base 3 "need_values" (sp_need_values K) := by
  refine cal_y T.f_need_values sc_need_values ?len fun f cdv A outer s H E hr => ⟨_, (pss_cons (ps_for PassesOwn.leaving rfl (pi_enum (by rfl) T.b_enumerate (pa_cons (pv 0) pa_nil)) (pg_tup rfl (pgs_cons (pg_name (i := 1) sc_need_values.nd rfl (Or.inl rfl)) (pgs_cons (pg_name (i := 2) sc_need_values.nd rfl (Or.inl rfl)) pgs_nil))) (pss_one (ps_if ((pw_or (pt_cmpR op_geU (pv 1) (pe_gc (by rfl) T.k_MOST_VALUES) (nomark _)) (pw_or1 (pt_not (pt_chain op_leU op_leU (pe_op op_subU pe_int (pe_gc (by rfl) T.k_MOST)) (pv 2) (pe_gc (by rfl) T.k_MOST)))))).pt (pss_one (ps_raise rfl (takes_of rfl rfl rfl rfl) (pmk_place T.p_BadValues hr (by decide) (by rfl) (pv 1)))) pss_nil)))
      (pss_one (ps_if (pt_cmpR (op_eqU hr.units) (pe_callB cl_len (by rfl) T.b_len PySem.boot_len (pa_cons (pv 0) pa_nil)) pe_int (nomark _)) (pss_one (ps_raise rfl (takes_of rfl rfl rfl rfl) (pmk_place T.p_BadValues hr (by decide) (by rfl) pe_int))) pss_nil))), ?body⟩
  case' body => try dsimp only [cxX, cxOf]
  case len => rintro ds Q R ⟨b, rfl, _⟩; rfl
  case body =>
    rintro ds Q R ⟨vs, rfl, hl, hq, hx⟩ hid H0 D dom hD hE
    have hz : RZ K E R H0 := hE
    show NJ _ _ _ _ [.im (dL vs), .un, .un]
    refine q_for (ij_enum ?_)
    walk_at "go"
    refine ⟨vs.map Dt.int, rfl, fun i ρ' => (∀ m y, m < i → vs[m]? = some y → m < 32 ∧ -9999 ≤ y ∧ y ≤ 9999) ∧ ρ' = [.im (dL vs), .un, .un], ⟨fun m y hm => absurd hm (Nat.not_lt_zero _), rfl⟩, ?_, ?_⟩
    · rintro H1 e1 i d ρ' hi ⟨hall, rfl⟩
      obtain ⟨x, hxi, rfl⟩ := enum_at hi
      have hz1 : RZ K E R H1 := hz.go e1
      refine tg_tup rfl (tgs_name (tgs_name (tgs_nil ?_)))
      walk_at "nm"
      refine nj_when ?_
      walk_at "go"
      have bad : 32 ≤ i ∨ ¬ (-9999 ≤ x ∧ x ≤ 9999) → R "BadValues" (some (i : Nat)) := fun h => hx i (.inr ⟨⟨x, hxi, h⟩, hall⟩)
      by_cases h0 : 32 ≤ i
      · refine or_yes (decide_eq_true (by omega)) ?_
        refine bl_yes rfl ?_
        exact nj_raiseP hz1 rfl (bad (.inl h0))
      refine or_no (decide_eq_false (by omega)) ?_
      walk_at "go"
      by_cases h1 : -9999 ≤ x
      · refine bl_yes (decide_eq_true (by omega)) ?_
        walk_at "go"
        by_cases h2 : x ≤ 9999
        · refine bl_no (by rw [decide_eq_true (by omega)]; rfl) ?_
          refine nj_nxw _ ⟨fun m y hm hy => ?_, rfl⟩ (.same (.un (.un .nil)))
          by_cases z : m = i
          · subst z
            rw [hxi] at hy
            cases hy
            exact ⟨by omega, h1, h2⟩
          · exact hall m y (by omega) hy
        · refine bl_yes (by rw [decide_eq_false (by omega)]; rfl) ?_
          exact nj_raiseP hz1 rfl (bad (.inr fun h => h2 h.2))
      · refine bl_no (decide_eq_false (by omega)) ?_
        refine bl_yes rfl ?_
        exact nj_raiseP hz1 rfl (bad (.inr fun h => h1 h.1))
    · rintro ρ' ⟨hall, rfl⟩
      have hlen : (enumD (vs.map Dt.int)).length = vs.length := by unfold enumD; rw [List.length_mapIdx, List.length_map]
      refine nj_when ?_
      walk_at "go"
      by_cases hv : vs = []
      · refine bl_yes (decide_eq_true (by rw [hv]; rfl)) ?_
        exact nj_raiseC hz (hx 0 (.inl ⟨hv, rfl⟩))
      · have hp := List.length_pos_iff.mpr hv
        refine bl_no (decide_eq_false (by omega)) ?_
        rw [hlen] at hall
        have h32 : vs.length ≤ 32 := by
          by_cases z : vs.length ≤ 32
          · exact z
          · have := (hall 32 _ (by omega) (List.getElem?_eq_getElem (by omega))).1
            omega
        refine hD.nx (hq ⟨⟨hv, h32⟩, fun y hy => ?_⟩) _
        obtain ⟨m, hm⟩ := List.getElem?_of_mem hy
        exact (hall m y (List.getElem?_eq_some_iff.mp hm).1 hm).2
def S_codes_form (ds : List Dt) (Q : Dt → Prop) : Prop := ∃ vs, ds = [dL vs] ∧ Vals vs ∧ Q (optD (layCodes vs))
abbrev sp_codes_form (K : PySem.W.Frag) : Sp := spP K S_codes_form
theorem ok_codes_form {P : Program} {w : World} {K : PySem.W.Frag} {mg : Str → Option Value} {base : Heap} (T : Txt K mg) (c_packed_by : Cal P w K mg base 2 "packed_by" (sp_packed_by K) []) : Cal P w K mg base 3 "codes_form" (sp_codes_form K) [] := by
  refine cal_pure T.f_codes_form sc_codes_form ?len fun f cdv A outer s H E hr => ⟨_, (pss_cons (ps_set (i := 1) sc_codes_form.nd rfl (Or.inr rfl) (pe_callB (cr_sortedSet rfl) (by rfl) T.b_sorted (by decide +kernel) (pa_cons (pe_callTy (cr_setI rfl) (by rfl) T.b_set PyProof.Rows.boot_set (pa_cons (pv 0) pa_nil)) pa_nil)))
      (pss_cons (ps_if (pt_cmpR op_ltU (pe_callB cl_len (by rfl) T.b_len PySem.boot_len (pa_cons (pv 1) pa_nil)) pe_int (nomark _)) (pss_one (ps_ret pe_non)) pss_nil)
      (pss_one (ps_ret (pe_tup (pa_cons (pe_gc (by rfl) T.k_CODES) (pa_cons (pe_callB cl_len (by rfl) T.b_len PySem.boot_len (pa_cons (pv 0) pa_nil)) (pa_cons (pe_callTy cl_tuple (by rfl) T.b_tuple (by decide +kernel) (pa_cons (pv 1) pa_nil)) (pa_cons (pe_c c_packed_by hr (by decide) (by rfl) (pa_cons (pe_callB cl_len (by rfl) T.b_len PySem.boot_len (pa_cons (pv 1) pa_nil)) (pa_cons (pe_lc (g := (gName 2)) (tt := tYes) (te := (tBM K "list" (rIndex K) (tVar 1) (tCons (tVar 2) tNil))) (own := [("value", 2)]) rfl sc_codes_form.nd (pi_list (pv 0)) (blkOk_by (N := ["values", "unlike", "value"]) (sc := defScope s_codes_form) (by decide +kernel)) (fun _ _ _ _ _ => (pg_name (i := 2) sc_codes_form.nd rfl (Or.inl rfl))) (fun _ _ _ _ _ => pts_nil) (fun _ _ _ _ _ => (pe_bm PySem.F.plainAttrs_list PySem.F.slot_list_index PySem.F.type_list_index mt_index (pv 1) (pa_cons (pv 2) pa_nil)))) pa_nil))) pa_nil))))))))), ?body⟩
  case' body => try dsimp only [cxD, cxOf]
  case len => rintro ds Q ⟨b, rfl, _⟩; rfl
  case body =>
    rintro ds Q ⟨vs, rfl, h, hq⟩ hid H0 D dom hD
    show NJ _ _ _ _ [.im (dL vs), .un, .un]
    have hl := h.le
    have hu := uniq_le vs
    refine q_asg (EN.ev (en_sortedSet ?_))
    walk_at "go"
    refine ⟨vs, rfl, by omega, fun us h1 h2 => ?_⟩
    rw [uniq_is h1 h2]
    walk_at "nm"
    refine q_when ?_
    walk_at "go"
    refine bl_two (fun hc => ?_) (fun hc => ?_)
    · refine nj_ret ?_
      walk_at "go"
      rw [layCodes, if_pos (by omega)] at hq
      exact hD.rt _ hq
    · refine nj_ret ?_
      walk_at "go"
      refine EN.ev (en_mapI (by decide) ?_)
      walk_at "go"
      refine ⟨vs, fun v => .int (posOf v (uniq vs) : Nat), rfl, by omega, fun x hx => et_yes ⟨rfl, ?_⟩, ?_⟩
      · walk_at "nm"
        refine ev_index rfl ?_
        walk_at "go"
        refine ⟨uniq vs, rfl, ?_⟩
        walk_at "go"
        exact ⟨x, posOf x (uniq vs), rfl, posOf_at (mem_uniq.mpr hx), fun m hm => posOf_first hm, rfl⟩
      · have e : vs.map (fun v => Dt.int (posOf v (uniq vs) : Nat)) = (vs.map fun v => (posOf v (uniq vs) : Int)).map Dt.int := by rw [List.map_map]; rfl
        rw [e]
        walk_at "go"
        refine sp_j ⟨_, _, rfl, by omega, by omega, by rw [List.length_map]; omega, ?_⟩
        walk_at "go"
        refine hD.rt _ ?_
        rw [layCodes, if_neg (by omega)] at hq
        exact hq
end
section
open PySem PySem.Spec PyProof.Rows L2
open C8 (Cal pe_c pe_gc)
def S_packed_above (ds : List Dt) (Q : Dt → Prop) : Prop := ∃ vs, ds = [dL vs] ∧ Vals vs ∧ Q (abvD (abv vs))
abbrev sp_packed_above (K : PySem.W.Frag) : Sp := spP K S_packed_above
theorem ok_packed_above {P : Program} {w : World} {K : PySem.W.Frag} {mg : Str → Option Value} {base : Heap} (T : Txt K mg) (c_packed_by : Cal P w K mg base 2 "packed_by" (sp_packed_by K) []) : Cal P w K mg base 3 "packed_above" (sp_packed_above K) [] := by
  refine cal_pure T.f_packed_above sc_packed_above ?len fun f cdv A outer s H E hr => ⟨_, (pss_cons (ps_asg (pe_tup (pa_cons (pe_callB (cr_min rfl) (by rfl) T.b_min (by decide +kernel) (pa_cons (pv 0) pa_nil)) (pa_cons (pe_op op_subU (pe_callB (cr_max rfl) (by rfl) T.b_max (by decide +kernel) (pa_cons (pv 0) pa_nil)) (pe_callB (cr_min rfl) (by rfl) T.b_min (by decide +kernel) (pa_cons (pv 0) pa_nil))) pa_nil))) (pg_tup rfl (pgs_cons (pg_name (i := 1) sc_packed_above.nd rfl (Or.inr rfl)) (pgs_cons (pg_name (i := 2) sc_packed_above.nd rfl (Or.inl rfl)) pgs_nil))))
      (pss_cons (ps_if (pt_cmpR op_gtU (pe_op op_addU (pv 2) pe_int) (pe_gc (by rfl) T.k_CELL) (nomark _)) (pss_one (ps_ret pe_non)) pss_nil)
      (pss_one (ps_ret (pe_tup (pa_cons (pv 1) (pa_cons (pv 2) (pa_cons (pe_ifExp (pt_cmpR op_gtU (pv 2) pe_int (nomark _)) (pe_c c_packed_by hr (by decide) (by rfl) (pa_cons (pe_op op_addU (pv 2) pe_int) (pa_cons (pe_lc (g := (gName 3)) (tt := tYes) (te := (tOp rSubI (tVar 3) (tVar 1))) (own := [("value", 3)]) rfl sc_packed_above.nd (pi_list (pv 0)) (blkOk_by (N := ["values", "low", "span", "value"]) (sc := defScope s_packed_above) (by decide +kernel)) (fun _ _ _ _ _ => (pg_name (i := 3) sc_packed_above.nd rfl (Or.inl rfl))) (fun _ _ _ _ _ => pts_nil) (fun _ _ _ _ _ => (pe_op op_subU (pv 3) (pv 1)))) pa_nil))) (pe_tup pa_nil)) pa_nil)))))))), ?body⟩
  case' body => try dsimp only [cxD, cxOf]
  case len => rintro ds Q ⟨b, rfl, _⟩; rfl
  case body =>
    rintro ds Q ⟨vs, rfl, h, hq⟩ hid H0 D dom hD
    show NJ _ _ _ _ [.im (dL vs), .un, .un, .un]
    have hl := h.le
    have hne := h.ne
    have hsp := spanL_nn h.ne
    refine q_asgT ?_
    walk_at "go"
    refine tg_tup rfl (tgs_name (tgs_name (tgs_nil ?_)))
    walk_at "nm"
    show NJ _ _ _ _ [.im (dL vs), .im (.int (minL vs)), .im (.int (spanL vs)), .un]
    refine q_when ?_
    walk_at "go"
    refine bl_two (fun hc => ?_) (fun hc => ?_)
    · refine nj_ret ?_
      walk_at "go"
      rw [abv_no (by omega)] at hq
      exact hD.rt _ hq
    · rw [abv_yes (by omega)] at hq
      refine nj_ret ?_
      walk_at "go"
      refine bl_two (fun hp => ?_) (fun hp => ?_)
      · rw [if_pos hp] at hq
        walk_at "go"
        refine EN.ev (en_mapI (by decide) ?_)
        walk_at "go"
        refine ⟨vs, fun v => .int (v - minL vs), rfl, by omega, fun x hx => et_yes ⟨rfl, ?_⟩, ?_⟩
        · walk_at "nm"
          walk_at "go"
          rfl
        · have e : vs.map (fun v => Dt.int (v - minL vs)) = (vs.map fun v => v - minL vs).map Dt.int := by rw [List.map_map]; rfl
          rw [e]
          walk_at "go"
          refine sp_j ⟨_, _, rfl, by omega, by omega, by rw [List.length_map]; omega, ?_⟩
          walk_at "go"
          exact hD.rt _ hq
      · rw [if_neg hp] at hq
        walk_at "go"
        exact hD.rt _ hq
def S_near_form (ds : List Dt) (Q : Dt → Prop) : Prop := ∃ vs, ds = [dL vs] ∧ Vals vs ∧ Q (optD (layNear vs))
abbrev sp_near_form (K : PySem.W.Frag) : Sp := spP K S_near_form
theorem ok_near_form {P : Program} {w : World} {K : PySem.W.Frag} {mg : Str → Option Value} {base : Heap} (T : Txt K mg) (c_packed_above : Cal P w K mg base 3 "packed_above" (sp_packed_above K) []) : Cal P w K mg base 4 "near_form" (sp_near_form K) [] := by
  refine cal_pure T.f_near_form sc_near_form ?len fun f cdv A outer s H E hr => ⟨_, (pss_cons (ps_set (i := 1) sc_near_form.nd rfl (Or.inl rfl) (pe_c c_packed_above hr (by decide) (by rfl) (pa_cons (pv 0) pa_nil)))
      (pss_one (ps_ret (pe_ifExp ((pw_or (pt_cmpR op_isU (pv 1) pe_non (nomark _)) (pw_or1 (pt_cmpR (op_eqU hr.units) (pe_ix ix_seq (pv 1) pe_int (fun _ _ => rfl)) pe_int (nomark _))))).pt pe_non (pe_op op_addU (pe_tup (pa_cons (pe_gc (by rfl) T.k_NEAR) (pa_cons (pe_callB cl_len (by rfl) T.b_len PySem.boot_len (pa_cons (pv 0) pa_nil)) pa_nil))) (pv 1)))))), ?body⟩
  case' body => try dsimp only [cxD, cxOf]
  case len => rintro ds Q ⟨b, rfl, _⟩; rfl
  case body =>
    rintro ds Q ⟨vs, rfl, h, hq⟩ hid H0 D dom hD
    show NJ _ _ _ _ [.im (dL vs), .un]
    refine q_asg ?_
    walk_at "go"
    refine sp_j ⟨vs, rfl, h, ?_⟩
    walk_at "nm"
    refine nj_ret ?_
    cases ha : abv vs with
    | none =>
      rw [layNear_no ha] at hq
      show EV _ _ [.im (dL vs), .im .non] _
      walk_at "go"
      refine or_yes rfl (bl_yes rfl ?_)
      walk_at "go"
      exact hD.rt _ hq
    | some z =>
      obtain ⟨lo, sp, cs⟩ := z
      rw [layNear_eq ha] at hq
      show EV _ _ [.im (dL vs), .im (.tup [.int lo, .int sp, dT cs])] _
      walk_at "go"
      refine or_no rfl ?_
      walk_at "go"
      refine bl_two (fun hc => ?_) (fun hc => ?_)
      · walk_at "go"
        rw [if_pos hc] at hq
        exact hD.rt _ hq
      · walk_at "go"
        rw [if_neg hc] at hq
        exact hD.rt _ hq
theorem dif_map (vs : List Int) : (List.range ((vs.length : Int) - 1).toNat).map (fun k => Dt.int (vs.getD (k + 1) 0 - vs.getD k 0)) = (dif vs).map Dt.int := by
  have hl := dif_len vs
  apply List.ext_getElem?
  intro k
  rw [List.getElem?_map, List.getElem?_map]
  by_cases hk : k < vs.length - 1
  · have h1 : vs[k]? = some (vs.getD k 0) := by rw [List.getD_eq_getElem?_getD, List.getElem?_eq_getElem (by omega)]; rfl
    have h2 : vs[k + 1]? = some (vs.getD (k + 1) 0) := by rw [List.getD_eq_getElem?_getD, List.getElem?_eq_getElem (by omega)]; rfl
    rw [List.getElem?_range (by omega), dif_at h1 h2]; rfl
  · rw [List.getElem?_eq_none (by rw [List.length_range]; omega), List.getElem?_eq_none (by omega)]; rfl
def S_steps_form (ds : List Dt) (Q : Dt → Prop) : Prop := ∃ vs, ds = [dL vs] ∧ Vals vs ∧ Q (optD (laySteps vs))
abbrev sp_steps_form (K : PySem.W.Frag) : Sp := spP K S_steps_form
theorem ok_steps_form {P : Program} {w : World} {K : PySem.W.Frag} {mg : Str → Option Value} {base : Heap} (T : Txt K mg) (c_packed_above : Cal P w K mg base 3 "packed_above" (sp_packed_above K) []) : Cal P w K mg base 4 "steps_form" (sp_steps_form K) [] := by
  refine cal_pure T.f_steps_form sc_steps_form ?len fun f cdv A outer s H E hr => ⟨_, (pss_cons (ps_if (pt_cmpR op_ltU (pe_callB cl_len (by rfl) T.b_len PySem.boot_len (pa_cons (pv 0) pa_nil)) pe_int (nomark _)) (pss_one (ps_ret pe_non)) pss_nil)
      (pss_cons (ps_set (i := 1) sc_steps_form.nd rfl (Or.inl rfl) (pe_c c_packed_above hr (by decide) (by rfl) (pa_cons (pe_lc (g := (gName 2)) (tt := tYes) (te := (tOp rSubI (tOp (rIx K) (tVar 0) (tOp (rAddU K) (tVar 2) (tC (.int 1)))) (tOp (rIx K) (tVar 0) (tVar 2)))) (own := [("k", 2)]) rfl sc_steps_form.nd (pi_range1 (by rfl) T.b_range (pa_cons (pe_op op_subU (pe_callB cl_len (by rfl) T.b_len PySem.boot_len (pa_cons (pv 0) pa_nil)) pe_int) pa_nil)) (blkOk_by (N := ["values", "above", "k"]) (sc := defScope s_steps_form) (by decide +kernel)) (fun _ _ _ _ _ => (pg_name (i := 2) sc_steps_form.nd rfl (Or.inl rfl))) (fun _ _ _ _ _ => pts_nil) (fun _ _ _ _ _ => (pe_op op_subU (pe_ix ix_seq (pv 0) (pe_op op_addU (pv 2) pe_int) (fun _ _ => rfl)) (pe_ix ix_seq (pv 0) (pv 2) (fun _ _ => rfl))))) pa_nil)))
      (pss_one (ps_ret (pe_ifExp (pt_cmpR op_isU (pv 1) pe_non (nomark _)) pe_non (pe_op op_addU (pe_tup (pa_cons (pe_gc (by rfl) T.k_STEPS) (pa_cons (pe_callB cl_len (by rfl) T.b_len PySem.boot_len (pa_cons (pv 0) pa_nil)) (pa_cons (pe_ix ix_seq (pv 0) pe_int (fun _ _ => rfl)) pa_nil)))) (pv 1))))))), ?body⟩
  case' body => try dsimp only [cxD, cxOf]
  case len => rintro ds Q ⟨b, rfl, _⟩; rfl
  case body =>
    rintro ds Q ⟨vs, rfl, h, hq⟩ hid H0 D dom hD
    show NJ _ _ _ _ [.im (dL vs), .un, .un]
    have hl := h.le
    have hne := h.ne
    refine q_when ?_
    walk_at "go"
    refine bl_two (fun hc => ?_) (fun hc => ?_)
    · refine nj_ret ?_
      walk_at "go"
      rw [laySteps, if_pos (by omega)] at hq
      exact hD.rt _ hq
    · rw [laySteps, if_neg (by omega)] at hq
      refine q_asg ?_
      walk_at "go"
      refine EN.ev (en_mapR (by decide) ?_)
      walk_at "go"
      refine ⟨_, fun k => .int (vs.getD (k + 1) 0 - vs.getD k 0), rfl, by omega, by omega, fun i hi => et_yes ⟨rfl, ?_⟩, ?_⟩
      · walk_at "nm"
        walk_at "go"
        refine ix_li (x := vs.getD (i + 1) 0) (by omega) ?_ ?_
        · rw [show ((i : Int) + 1).toNat = i + 1 by omega]; exact getD_at (by omega)
        walk_at "go"
        refine ix_li (x := vs.getD i 0) (by omega) ?_ ?_
        · rw [Int.toNat_natCast]; exact getD_at (by omega)
        walk_at "go"
        rfl
      · rw [dif_map]
        walk_at "go"
        have hd : dif vs ≠ [] := dif_ne.mpr (by omega)
        have hdl := dif_len vs
        refine sp_j ⟨dif vs, rfl, ⟨hd, by omega⟩, ?_⟩
        walk_at "nm"
        refine nj_ret ?_
        cases ha : abv (dif vs) with
        | none =>
          rw [ha] at hq
          show EV _ _ [.im (dL vs), .im .non, .un] _
          walk_at "go"
          refine bl_yes rfl ?_
          walk_at "go"
          exact hD.rt _ hq
        | some z =>
          obtain ⟨lo, sp, cs⟩ := z
          rw [ha] at hq
          show EV _ _ [.im (dL vs), .im (.tup [.int lo, .int sp, dT cs]), .un] _
          walk_at "go"
          refine bl_no rfl ?_
          walk_at "go"
          exact hD.rt _ hq
def S_form_of (ds : List Dt) (Q : Dt → Prop) : Prop := ∃ vs k, ds = [.str (nameK k), dL vs] ∧ k < 5 ∧ Vals vs ∧ Q (optD (lay k vs))
abbrev sp_form_of (K : PySem.W.Frag) : Sp := spP K S_form_of
theorem ok_form_of {P : Program} {w : World} {K : PySem.W.Frag} {mg : Str → Option Value} {base : Heap} (T : Txt K mg) (c_codes_form : Cal P w K mg base 3 "codes_form" (sp_codes_form K) []) (c_near_form : Cal P w K mg base 4 "near_form" (sp_near_form K) []) (c_steps_form : Cal P w K mg base 4 "steps_form" (sp_steps_form K) []) : Cal P w K mg base 5 "form_of" (sp_form_of K) [] := by
  refine cal_pure T.f_form_of sc_form_of ?len fun f cdv A outer s H E hr => ⟨_, (pss_cons (ps_if (pt_cmpR (op_eqU hr.units) (pv 0) (pe_gc (by rfl) T.k_PLAIN) (nomark _)) (pss_one (ps_ret (pe_tup (pa_cons (pe_gc (by rfl) T.k_PLAIN) (pa_cons (pe_callTy cl_tuple (by rfl) T.b_tuple (by decide +kernel) (pa_cons (pv 1) pa_nil)) pa_nil))))) pss_nil)
      (pss_cons (ps_if (pt_cmpR (op_eqU hr.units) (pv 0) (pe_gc (by rfl) T.k_ONE) (nomark _)) (pss_one (ps_ret (pe_ifExp (pt_cmpR (op_eqU hr.units) (pe_callB cr_lenSet (by rfl) T.b_len PySem.boot_len (pa_cons (pe_callTy (cr_setI rfl) (by rfl) T.b_set PyProof.Rows.boot_set (pa_cons (pv 1) pa_nil)) pa_nil)) pe_int (nomark _)) (pe_tup (pa_cons (pe_gc (by rfl) T.k_ONE) (pa_cons (pe_callB cl_len (by rfl) T.b_len PySem.boot_len (pa_cons (pv 1) pa_nil)) (pa_cons (pe_ix ix_seq (pv 1) pe_int (fun _ _ => rfl)) pa_nil)))) pe_non))) pss_nil)
      (pss_cons (ps_if (pt_cmpR (op_eqU hr.units) (pv 0) (pe_gc (by rfl) T.k_CODES) (nomark _)) (pss_one (ps_ret (pe_c c_codes_form hr (by decide) (by rfl) (pa_cons (pv 1) pa_nil)))) pss_nil)
      (pss_one (ps_ret (pe_ifExp (pt_cmpR (op_eqU hr.units) (pv 0) (pe_gc (by rfl) T.k_NEAR) (nomark _)) (pe_c c_near_form hr (by decide) (by rfl) (pa_cons (pv 1) pa_nil)) (pe_c c_steps_form hr (by decide) (by rfl) (pa_cons (pv 1) pa_nil)))))))), ?body⟩
  case' body => try dsimp only [cxD, cxOf]
  case len => rintro ds Q ⟨b, k, rfl, _⟩; rfl
  case body =>
    rintro ds Q ⟨vs, k, rfl, hk, h, hq⟩ hid H0 D dom hD
    have hl := h.le
    have hne := h.ne
    match k, hk with
    | 0, _ =>
      show NJ _ _ _ _ [.im (.str "plain"), .im (dL vs)]
      refine q_when ?_
      walk_at "go"
      refine bl_yes (by decide) ?_
      refine nj_ret ?_
      walk_at "go"
      exact hD.rt _ hq
    | 1, _ =>
      show NJ _ _ _ _ [.im (.str "one"), .im (dL vs)]
      refine q_when ?_
      walk_at "go"
      refine bl_no (by decide) ?_
      refine q_when ?_
      walk_at "go"
      refine bl_yes (by decide) ?_
      refine nj_ret ?_
      walk_at "go"
      refine ⟨vs, rfl, by omega, ?_⟩
      walk_at "go"
      refine bl_two (fun hc => ?_) (fun hc => ?_)
      · walk_at "go"
        rw [lay, layOne, if_pos (by omega)] at hq
        exact hD.rt _ hq
      · walk_at "go"
        rw [lay, layOne, if_neg (by omega)] at hq
        exact hD.rt _ hq
    | 2, _ =>
      show NJ _ _ _ _ [.im (.str "codes"), .im (dL vs)]
      refine q_when ?_
      walk_at "go"
      refine bl_no (by decide) ?_
      refine q_when ?_
      walk_at "go"
      refine bl_no (by decide) ?_
      refine q_when ?_
      walk_at "go"
      refine bl_yes (by decide) ?_
      refine nj_ret ?_
      walk_at "go"
      exact sp_j ⟨vs, rfl, h, hD.rt _ hq⟩
    | 3, _ =>
      show NJ _ _ _ _ [.im (.str "near"), .im (dL vs)]
      refine q_when ?_
      walk_at "go"
      refine bl_no (by decide) ?_
      refine q_when ?_
      walk_at "go"
      refine bl_no (by decide) ?_
      refine q_when ?_
      walk_at "go"
      refine bl_no (by decide) ?_
      refine nj_ret ?_
      walk_at "go"
      refine bl_yes (by decide) ?_
      walk_at "go"
      exact sp_j ⟨vs, rfl, h, hD.rt _ hq⟩
    | 4, _ =>
      show NJ _ _ _ _ [.im (.str "steps"), .im (dL vs)]
      refine q_when ?_
      walk_at "go"
      refine bl_no (by decide) ?_
      refine q_when ?_
      walk_at "go"
      refine bl_no (by decide) ?_
      refine q_when ?_
      walk_at "go"
      refine bl_no (by decide) ?_
      refine nj_ret ?_
      walk_at "go"
      refine bl_no (by decide) ?_
      walk_at "go"
      exact sp_j ⟨vs, rfl, h, hD.rt _ hq⟩
end
section
open PySem PySem.Spec PyProof.Rows L2
open C8 (Cal pe_c pe_gc)
mutual
def wt : Dt → Nat
  | .tup xs => wtL xs
  | .non => 1
  | .bl _ => 1
  | .int _ => 1
  | .str _ => 1
  | .lst _ => 1
  | .dk _ => 1
  | .dt _ => 1
  | .ob _ _ => 1
  | .xo _ _ => 1
  | .ptup _ => 1
def wtL : List Dt → Nat
  | [] => 0
  | x :: r => wt x + wtL r
end
inductive TD : Nat → Dt → Prop
  | leaf {n : Nat} {d : Dt} (h : scalar d = true) : TD n d
  | tup {n : Nat} {ds : List Dt} (h : ∀ d ∈ ds, TD n d) (hl : ds.length ≤ 100000) : TD (n + 1) (.tup ds)
theorem wtL_sum : ∀ ds : List Dt, (ds.map fun d => (wt d : Int)).sum = (wtL ds : Nat)
  | [] => rfl
  | d :: r => by
    show (wt d : Int) + (r.map fun d => (wt d : Int)).sum = ((wt d + wtL r : Nat) : Int)
    rw [wtL_sum r]; omega
theorem wt_scalar {d : Dt} (h : scalar d = true) : wt d = 1 := by cases d <;> first | rfl | cases h
def S_weight_of (n : Nat) (ds : List Dt) (Q : Dt → Prop) : Prop := ∃ d, ds = [d] ∧ TD n d ∧ Q (.int (wt d : Nat))
abbrev sp_weight_of (n : Nat) (K : PySem.W.Frag) : Sp := spP K (S_weight_of n)
theorem kit_no {d : Dt} (h : scalar d = true) : noT d = true ∧ kitB (tyD d) "tuple" = some false := by
  cases d with
  | non => exact ⟨rfl, by decide +kernel⟩
  | bl => exact ⟨rfl, show kitB "bool" "tuple" = some false by decide +kernel⟩
  | int => exact ⟨rfl, show kitB "int" "tuple" = some false by decide +kernel⟩
  | str => exact ⟨rfl, show kitB "str" "tuple" = some false by decide +kernel⟩
  | _ => cases h
theorem kit_tup : kitB "tuple" "tuple" = some true := by decide +kernel
theorem ok_weight_of {P : Program} {w : World} {K : PySem.W.Frag} {mg : Str → Option Value} {base : Heap} (T : Txt K mg)  (n : Nat) : Cal P w K mg base (n + 1) "weight_of" (sp_weight_of n K) [] := by
  induction n with
  | zero =>
    refine cal_pure T.f_weight_of sc_weight_of ?len fun f cdv A outer s H E hr => ⟨_, (pss_cons (ps_if (pt_val (pe_callB call_isi (by rfl) T.b_isinstance (by decide +kernel) (pa_cons (pv 0) (pa_cons (pe_bltn (v := .ty "tuple") (by rfl) T.b_tuple (by decide +kernel) rfl) pa_nil)))) pss_never pss_nil) (pss_one (ps_ret pe_int))), ?body⟩
    case' body => try dsimp only [cxD, cxOf]
    case len => rintro ds Q ⟨b, rfl, _⟩; rfl
    case body =>
      rintro ds Q ⟨d, rfl, h, hq⟩ hid H0 D dom hD
      show NJ _ _ _ _ [.im d, .un]
      cases h with
      | leaf hs =>
        refine q_when ?_
        walk_at "go"
        refine ⟨(kit_no hs).1, false, (kit_no hs).2, ?_⟩
        refine bl_no rfl ?_
        refine nj_ret ?_
        walk_at "go"
        rw [wt_scalar hs] at hq
        exact hD.rt _ hq
  | succ n ih =>
    have c_weight_of := ih
    refine cal_pure T.f_weight_of sc_weight_of ?len fun f cdv A outer s H E hr => ⟨_, (pss_cons (ps_if (pt_val (pe_callB call_isi (by rfl) T.b_isinstance (by decide +kernel) (pa_cons (pv 0) (pa_cons (pe_bltn (v := .ty "tuple") (by rfl) T.b_tuple (by decide +kernel) rfl) pa_nil)))) (pss_one (ps_ret (pe_callB (cr_sum rfl) (by rfl) T.b_sum (by decide +kernel) (pa_cons (pe_lc (g := (gName 1)) (tt := tYes) (te := (tCall (sp_weight_of n K) [] E0 (tCons (tVar 1) tNil))) (own := [("one", 1)]) rfl sc_weight_of.nd (pi_tup (pv 0)) (blkOk_by (N := ["part", "one"]) (sc := defScope s_weight_of) (by decide +kernel)) (fun _ _ _ _ _ => (pg_name (i := 1) sc_weight_of.nd rfl (Or.inl rfl))) (fun _ _ _ _ _ => pts_nil) (fun _ _ _ _ _ => (pe_c c_weight_of hr (Nat.le_refl _) (by rfl) (pa_cons (pv 1) pa_nil)))) pa_nil)))) pss_nil)
      (pss_one (ps_ret pe_int))), ?body⟩
    case' body => try dsimp only [cxD, cxOf]
    case len => rintro ds Q ⟨b, rfl, _⟩; rfl
    case body =>
      rintro ds Q ⟨d, rfl, h, hq⟩ hid H0 D dom hD
      show NJ _ _ _ _ [.im d, .un]
      cases h with
      | leaf hs =>
        refine q_when ?_
        walk_at "go"
        refine ⟨(kit_no hs).1, false, (kit_no hs).2, ?_⟩
        refine bl_no rfl ?_
        refine nj_ret ?_
        walk_at "go"
        rw [wt_scalar hs] at hq
        exact hD.rt _ hq
      | tup ht hl =>
        refine q_when ?_
        walk_at "go"
        refine ⟨rfl, true, kit_tup, ?_⟩
        refine bl_yes rfl ?_
        refine nj_ret ?_
        walk_at "go"
        refine EN.ev (en_mapT (by decide) ?_)
        walk_at "go"
        refine ⟨_, fun d => .int (wt d : Nat), rfl, hl, fun x hx => et_yes ⟨rfl, ?_⟩, ?_⟩
        · walk_at "nm"
          walk_at "go"
          exact sp_j ⟨x, rfl, ht x hx, rfl⟩
        · rename_i es
          have e : es.map (fun d => Dt.int (wt d : Nat)) = (es.map fun d => (wt d : Int)).map Dt.int := by rw [List.map_map]; rfl
          rw [e]
          walk_at "go"
          refine sum_l ?_
          rw [wtL_sum]
          exact hD.rt _ hq
theorem td_ints {n : Nat} {ns : List Int} (h : ns.length ≤ 1000) : TD (n + 1) (dT ns) := .tup (fun d hd => by
  obtain ⟨x, _, rfl⟩ := List.mem_map.mp hd
  exact .leaf rfl) (by rw [List.length_map]; omega)
theorem wtL_ints : ∀ ns : List Int, wtL (ns.map Dt.int) = ns.length
  | [] => rfl
  | x :: r => by
    show 1 + wtL (r.map Dt.int) = r.length + 1
    rw [wtL_ints r]; omega
def Fm.small : Fm → Prop
  | .plain vs => vs.length ≤ 100
  | .one _ _ => True
  | .codes _ us cs => us.length ≤ 100 ∧ cs.length ≤ 100
  | .near _ _ _ cs => cs.length ≤ 100
  | .steps _ _ _ _ cs => cs.length ≤ 100
theorem Fm.td : ∀ (f : Fm), f.small → TD 3 f.dt
  | .plain vs, h => .tup (fun d hd => by
      rcases List.mem_cons.mp hd with rfl | hd
      · exact .leaf rfl
      · rw [List.mem_singleton.mp hd]; exact td_ints (by have : vs.length ≤ 100 := h; omega)) (by dsimp only [List.length_cons, List.length_nil]; decide)
  | .one n v, h => .tup (fun d hd => by
      simp only [List.mem_cons, List.not_mem_nil, or_false] at hd
      rcases hd with rfl | rfl | rfl <;> exact .leaf rfl) (by dsimp only [List.length_cons, List.length_nil]; decide)
  | .codes n us cs, h => .tup (fun d hd => by
      obtain ⟨h1, h2⟩ : us.length ≤ 100 ∧ cs.length ≤ 100 := h
      simp only [List.mem_cons, List.not_mem_nil, or_false] at hd
      rcases hd with rfl | rfl | rfl | rfl
      · exact .leaf rfl
      · exact .leaf rfl
      · exact td_ints (by omega)
      · exact td_ints (by omega)) (by dsimp only [List.length_cons, List.length_nil]; decide)
  | .near n lo sp cs, h => .tup (fun d hd => by
      have h1 : cs.length ≤ 100 := h
      simp only [List.mem_cons, List.not_mem_nil, or_false] at hd
      rcases hd with rfl | rfl | rfl | rfl | rfl
      · exact .leaf rfl
      · exact .leaf rfl
      · exact .leaf rfl
      · exact .leaf rfl
      · exact td_ints (by omega)) (by dsimp only [List.length_cons, List.length_nil]; decide)
  | .steps n f lo sp cs, h => .tup (fun d hd => by
      have h1 : cs.length ≤ 100 := h
      simp only [List.mem_cons, List.not_mem_nil, or_false] at hd
      rcases hd with rfl | rfl | rfl | rfl | rfl | rfl
      · exact .leaf rfl
      · exact .leaf rfl
      · exact .leaf rfl
      · exact .leaf rfl
      · exact .leaf rfl
      · exact td_ints (by omega)) (by dsimp only [List.length_cons, List.length_nil]; decide)
theorem Fm.wt_room : ∀ f : Fm, wt f.dt = f.room
  | .plain vs => by
    show 1 + (wtL (vs.map Dt.int) + 0) = 1 + vs.length
    rw [wtL_ints]; omega
  | .one n v => rfl
  | .codes n us cs => by
    show 1 + (1 + (wtL (us.map Dt.int) + (wtL (cs.map Dt.int) + 0))) = 2 + us.length + cs.length
    rw [wtL_ints, wtL_ints]; omega
  | .near n lo sp cs => by
    show 1 + (1 + (1 + (1 + (wtL (cs.map Dt.int) + 0)))) = 4 + cs.length
    rw [wtL_ints]; omega
  | .steps n f lo sp cs => by
    show 1 + (1 + (1 + (1 + (1 + (wtL (cs.map Dt.int) + 0))))) = 5 + cs.length
    rw [wtL_ints]; omega
theorem packI_small {b : Int} {vs : List Int} (h : vs.length ≤ 32) : (packI b vs).length ≤ 100 := by
  rw [packI_len]
  have := Nat.div_le_self (vs.length + perB b - 1) (perB b)
  have := perB_le b
  omega
theorem lay_small {vs : List Int} (h : Vals vs) : ∀ {k : Nat} {f : Fm}, lay k vs = some f → f.small
  | 0, f, e => by
    cases e
    show vs.length ≤ 100
    have := h.le
    omega
  | 1, f, e => by
    rw [lay, layOne] at e
    split at e
    · cases e; trivial
    · cases e
  | 2, f, e => by
    have := h.le
    have := uniq_le vs
    rw [lay, layCodes] at e
    split at e
    · cases e
    · cases e
      exact ⟨by omega, packI_small (by rw [List.length_map]; omega)⟩
  | 3, f, e => by
    have := h.le
    rw [lay] at e
    by_cases hb : spanL vs + 1 > 10000
    · rw [layNear_no (abv_no hb)] at e; cases e
    · rw [layNear_eq (abv_yes hb)] at e
      split at e
      · cases e
      · cases e
        show (if spanL vs > 0 then packI (spanL vs + 1) (vs.map (· - minL vs)) else []).length ≤ 100
        split
        · exact packI_small (by rw [List.length_map]; omega)
        · exact Nat.zero_le _
  | k + 4, f, e => by
    have := h.le
    have := dif_len vs
    have e : laySteps vs = some f := e
    unfold laySteps at e
    split at e
    · cases e
    · by_cases hb : spanL (dif vs) + 1 > 10000
      · rw [abv_no hb] at e; cases e
      · rw [abv_yes hb] at e
        cases e
        show (if spanL (dif vs) > 0 then packI (spanL (dif vs) + 1) ((dif vs).map (· - minL (dif vs))) else []).length ≤ 100
        split
        · exact packI_small (by rw [List.length_map]; omega)
        · exact Nat.zero_le _
def Laid (k : Nat) (vs : List Int) (f : Fm) : Prop := k < 5 ∧ Vals vs ∧ lay k vs = some f
def S_room (ds : List Dt) (Q : Dt → Prop) : Prop := ∃ f : Fm, ds = [f.dt] ∧ f.small ∧ Q (.int (f.room : Nat))
abbrev sp_room (K : PySem.W.Frag) : Sp := spP K S_room
theorem ok_room {P : Program} {w : World} {K : PySem.W.Frag} {mg : Str → Option Value} {base : Heap} (T : Txt K mg) (c_weight_of : Cal P w K mg base 4 "weight_of" (sp_weight_of 3 K) []) : Cal P w K mg base 5 "room" (sp_room K) [] := by
  refine cal_pure T.f_room sc_room ?len fun f cdv A outer s H E hr => ⟨_, (pss_one (ps_ret (pe_c c_weight_of hr (by decide) (by rfl) (pa_cons (pv 0) pa_nil)))), ?body⟩
  case' body => try dsimp only [cxD, cxOf]
  case len => rintro ds Q ⟨b, rfl, _⟩; rfl
  case body =>
    rintro ds Q ⟨f, rfl, h, hq⟩ hid H0 D dom hD
    show NJ _ _ _ _ [.im f.dt]
    refine nj_ret ?_
    walk_at "go"
    refine sp_j ⟨f.dt, rfl, f.td h, ?_⟩
    rw [f.wt_room]
    exact hD.rt _ hq
def cellD : Option Nat → Dt
  | none => .non
  | some n => .int (n : Nat)
def S_cells_above (ds : List Dt) (Q : Dt → Prop) : Prop := ∃ (vs : List Int) (m : Nat), ds = [dL vs, .int (m : Nat)] ∧ Vals vs ∧ Q (cellD (cellsAbove vs m))
abbrev sp_cells_above (K : PySem.W.Frag) : Sp := spP K S_cells_above
theorem ok_cells_above {P : Program} {w : World} {K : PySem.W.Frag} {mg : Str → Option Value} {base : Heap} (T : Txt K mg) (c_cells_for : Cal P w K mg base 2 "cells_for" (sp_cells_for K) []) : Cal P w K mg base 3 "cells_above" (sp_cells_above K) [] := by
  refine cal_pure T.f_cells_above sc_cells_above ?len fun f cdv A outer s H E hr => ⟨_, (pss_cons (ps_set (i := 2) sc_cells_above.nd rfl (Or.inl rfl) (pe_op op_subU (pe_callB (cr_max rfl) (by rfl) T.b_max (by decide +kernel) (pa_cons (pv 0) pa_nil)) (pe_callB (cr_min rfl) (by rfl) T.b_min (by decide +kernel) (pa_cons (pv 0) pa_nil))))
      (pss_cons (ps_if (pt_cmpR op_gtU (pe_op op_addU (pv 2) pe_int) (pe_gc (by rfl) T.k_CELL) (nomark _)) (pss_one (ps_ret pe_non)) pss_nil)
      (pss_one (ps_ret (pe_ifExp (pt_cmpR (op_eqU hr.units) (pv 2) pe_int (nomark _)) (pv 1) (pe_op op_addU (pv 1) (pe_c c_cells_for hr (by decide) (by rfl) (pa_cons (pe_op op_addU (pv 2) pe_int) (pa_cons (pe_callB cl_len (by rfl) T.b_len PySem.boot_len (pa_cons (pv 0) pa_nil)) pa_nil))))))))), ?body⟩
  case' body => try dsimp only [cxD, cxOf]
  case len => rintro ds Q ⟨b, m, rfl, _⟩; rfl
  case body =>
    rintro ds Q ⟨vs, m, rfl, h, hq⟩ hid H0 D dom hD
    show NJ _ _ _ _ [.im (dL vs), .im (.int (m : Nat)), .un]
    have hne := h.ne
    have hl := h.le
    have hsp := spanL_nn h.ne
    refine q_asg ?_
    walk_at "go"
    show NJ _ _ _ _ [.im (dL vs), .im (.int (m : Nat)), .im (.int (spanL vs))]
    refine q_when ?_
    walk_at "go"
    refine bl_two (fun hc => ?_) (fun hc => ?_)
    · refine nj_ret ?_
      walk_at "go"
      rw [cellsAbove, if_pos (by omega)] at hq
      exact hD.rt _ hq
    · rw [cellsAbove, if_neg (by omega)] at hq
      refine nj_ret ?_
      walk_at "go"
      refine bl_two (fun h0 => ?_) (fun h0 => ?_)
      · walk_at "go"
        rw [if_pos h0] at hq
        exact hD.rt _ hq
      · walk_at "go"
        refine sp_j ⟨_, _, rfl, by omega, by omega, ?_⟩
        walk_at "go"
        rw [if_neg h0] at hq
        have e : ((m + ceilB (spanL vs + 1) vs.length : Nat) : Int) = (m : Int) + ((vs.length : Int) + perB (spanL vs + 1) - 1) / perB (spanL vs + 1) := by
          have hp := perB_pos (spanL vs + 1)
          unfold ceilB
          rw [Int.natCast_add, Int.natCast_ediv, Int.natCast_sub (by omega), Int.natCast_add]; rfl
        refine hD.rt _ ?_
        rw [← e]
        exact hq
end
section
open PySem PySem.Spec PyProof.Rows L2
open C8 (Cal pe_c pe_gc)
def cellsBy (vs : List Int) : List Int := [0, 1, 2, 3, 4].map fun k => match cellsOf k vs with
  | none => 99999
  | some n => (n : Int)
def farD : Dt → Dt
  | .non => .int 99999
  | d => d
def S_cells_by (ds : List Dt) (Q : Dt → Prop) : Prop := ∃ vs, ds = [dL vs] ∧ Vals vs ∧ Q (dL (cellsBy vs))
abbrev sp_cells_by (K : PySem.W.Frag) : Sp := spP K S_cells_by
theorem ceil_int (b : Int) (n : Nat) : ((ceilB b n : Nat) : Int) = ((n : Int) + perB b - 1) / perB b := by
  have hp := perB_pos b
  unfold ceilB
  rw [Int.natCast_ediv, Int.natCast_sub (by omega), Int.natCast_add]; rfl
theorem ok_cells_by {P : Program} {w : World} {K : PySem.W.Frag} {mg : Str → Option Value} {base : Heap} (T : Txt K mg) (c_cells_for : Cal P w K mg base 2 "cells_for" (sp_cells_for K) []) (c_cells_above : Cal P w K mg base 3 "cells_above" (sp_cells_above K) []) : Cal P w K mg base 4 "cells_by" (sp_cells_by K) [] := by
  refine cal_pure T.f_cells_by sc_cells_by ?len fun f cdv A outer s H E hr => ⟨_, (pss_cons (ps_set (i := 1) sc_cells_by.nd rfl (Or.inl rfl) (pe_callB cr_lenSet (by rfl) T.b_len PySem.boot_len (pa_cons (pe_callTy (cr_setI rfl) (by rfl) T.b_set PyProof.Rows.boot_set (pa_cons (pv 0) pa_nil)) pa_nil)))
      (pss_cons (ps_setLc (i := 2) rfl sc_cells_by.nd rfl rfl (sw_true rfl rfl rfl (by decide +kernel)) (g := (gName 4)) (tt := tYes) (te := (tOp rSubI (tOp (rIx K) (tVar 0) (tOp (rAddU K) (tVar 4) (tC (.int 1)))) (tOp (rIx K) (tVar 0) (tVar 4)))) (own := [("k", 4)]) (pi_range1 (by rfl) T.b_range (pa_cons (pe_op op_subU (pe_callB cl_len (by rfl) T.b_len PySem.boot_len (pa_cons (pv 0) pa_nil)) pe_int) pa_nil)) (blkOk_by (N := ["values", "unlike", "steps", "some", "k", "cells"]) (sc := defScope s_cells_by) (by decide +kernel)) (fun _ _ _ _ _ => (pg_name (i := 4) sc_cells_by.nd rfl (Or.inl rfl))) (fun _ _ _ _ _ => pts_nil) (fun _ _ _ _ _ => (pe_op op_subU (pe_ix ix_seq (pv 0) (pe_op op_addU (pv 4) pe_int) (fun _ _ => rfl)) (pe_ix ix_seq (pv 0) (pv 4) (fun _ _ => rfl)))))
      (pss_cons (ps_set (i := 3) sc_cells_by.nd rfl (Or.inl rfl) (pe_lst (pa_cons (pe_op op_addU pe_int (pe_callB cl_len (by rfl) T.b_len PySem.boot_len (pa_cons (pv 0) pa_nil))) (pa_cons (pe_ifExp (pt_cmpR (op_eqU hr.units) (pv 1) pe_int (nomark _)) pe_int pe_non) (pa_cons pe_non (pa_cons pe_non (pa_cons pe_non pa_nil)))))))
      (Evl.pss_cut (ps_if (pt_cmpR op_gtU (pv 1) pe_int (nomark _)) (pss_cons (ps_asg (pe_op op_addU (pe_op op_addU pe_int (pv 1)) (pe_c c_cells_for hr (by decide) (by rfl) (pa_cons (pv 1) (pa_cons (pe_callB cl_len (by rfl) T.b_len PySem.boot_len (pa_cons (pv 0) pa_nil)) pa_nil)))) (pg_sub (pv 3) pe_int set_list))
      (pss_one (ps_asg (pe_c c_cells_above hr (by decide) (by rfl) (pa_cons (pv 0) (pa_cons pe_int pa_nil))) (pg_sub (pv 3) pe_int set_list)))) pss_nil)
      (Evl.pss_cut (ps_if (pt_cmpR (op_neU hr.units) (pv 2) (pe_lst pa_nil) (nomark _)) (pss_one (ps_asg (pe_c c_cells_above hr (by decide) (by rfl) (pa_cons (pv 2) (pa_cons pe_int pa_nil))) (pg_sub (pv 3) pe_int set_list))) pss_nil)
      (pss_one (ps_ret (pe_lc (g := (gName 5)) (tt := tYes) (te := (tIf (tTest (tOp rIsU (tVar 5) (tC .non))) (tC (.int 99999)) (tVar 5))) (own := [("cells", 5)]) rfl sc_cells_by.nd (pi_list (pv 3)) (blkOk_by (N := ["values", "unlike", "steps", "some", "k", "cells"]) (sc := defScope s_cells_by) (by decide +kernel)) (fun _ _ _ _ _ => (pg_name (i := 5) sc_cells_by.nd rfl (Or.inl rfl))) (fun _ _ _ _ _ => pts_nil) (fun _ _ _ _ _ => (pe_ifExp (pt_cmpR op_isU (pv 5) pe_non (nomark _)) (pe_gc (by rfl) T.k_FAR) (pv 5))))))))))), ?body⟩
  case' body => try dsimp only [cxD, cxOf]
  case len => rintro ds Q ⟨b, rfl, _⟩; rfl
  case body =>
    rintro ds Q ⟨vs, rfl, h, hq⟩ hid H0 D dom hD
    show NJ _ _ _ _ [.im (dL vs), .un, .un, .un, .un, .un]
    have hne := h.ne
    have hl := h.le
    have hu := uniq_le vs
    have hup := uniq_pos h.ne
    refine q_asg ?_
    walk_at "go"
    refine ⟨vs, rfl, by omega, ?_⟩
    walk_at "nm"
    refine q_asg (EN.ev (en_mapR (by decide) ?_))
    walk_at "go"
    refine ⟨_, fun k => .int (vs.getD (k + 1) 0 - vs.getD k 0), rfl, by omega, by omega, fun i hi => et_yes ⟨rfl, ?_⟩, ?_⟩
    · walk_at "nm"
      walk_at "go"
      refine ix_li (x := vs.getD (i + 1) 0) (by omega) ?_ ?_
      · rw [show ((i : Int) + 1).toNat = i + 1 by omega]; exact getD_at (by omega)
      walk_at "go"
      refine ix_li (x := vs.getD i 0) (by omega) ?_ ?_
      · rw [Int.toNat_natCast]; exact getD_at (by omega)
      walk_at "go"
      rfl
    rw [dif_map]
    walk_at "nm"
    refine q_asgN (en_lst ?_)
    walk_at "go0"
    refine EV.imp (Q := fun d => d = cellD (cellsOf 1 vs)) ?_ ?_
    · walk_at "go"
      refine bl_two (fun hc => ?_) (fun hc => ?_)
      · walk_at "go"
        show _ = cellD (if (uniq vs).length = 1 then some 3 else none)
        rw [if_pos (by omega)]; rfl
      · walk_at "go"
        show _ = cellD (if (uniq vs).length = 1 then some 3 else none)
        rw [if_neg (by omega)]; rfl
    rintro d rfl
    walk_at "go"
    walk_at "nm"
    have e0 : Dt.int (1 + (vs.length : Int)) = cellD (cellsOf 0 vs) := by
      show _ = Dt.int ((1 + vs.length : Nat) : Int)
      rw [Int.natCast_add]; rfl
    rw [e0]
    refine q_cut1 [.im (dL vs), .im (.int ((uniq vs).length : Nat)), .im (dL (dif vs)), .ac [cellD (cellsOf 0 vs), cellD (cellsOf 1 vs), cellD (cellsOf 2 vs), cellD (cellsOf 3 vs), .non], .un, .un] ?_ ?_
    · refine nj_when ?_
      walk_at "go"
      refine bl_two (fun hc => ?_) (fun hc => ?_)
      · refine q_setL rfl ?_
        walk_at "go"
        refine sp_j ⟨_, _, rfl, by omega, by omega, ?_⟩
        walk_at "go"
        refine ⟨2, rfl, ?_⟩
        walk_at "nm"
        refine nj_setL rfl ?_
        walk_at "go"
        refine sp_j ⟨vs, 4, rfl, h, ?_⟩
        walk_at "go"
        refine ⟨3, rfl, ?_⟩
        walk_at "nm"
        have e2 : cellD (cellsOf 2 vs) = Dt.int (2 + ((uniq vs).length : Int) + ((vs.length : Int) + perB ((uniq vs).length : Nat) - 1) / perB ((uniq vs).length : Nat)) := by
          show cellD (if (uniq vs).length > 1 then _ else _) = _
          rw [if_pos (by omega)]
          show Dt.int ((2 + (uniq vs).length + ceilB _ _ : Nat) : Int) = _
          rw [Int.natCast_add, ceil_int, Int.natCast_add]; rfl
        have e3 : cellD (cellsOf 3 vs) = cellD (cellsAbove vs 4) := by
          show cellD (if (uniq vs).length > 1 then _ else _) = _
          rw [if_pos (by omega)]
        rw [e2, e3]
        exact nj_nx rfl
      · have e2 : cellD (cellsOf 2 vs) = .non := by
          show cellD (if (uniq vs).length > 1 then _ else _) = _
          rw [if_neg (by omega)]; rfl
        have e3 : cellD (cellsOf 3 vs) = .non := by
          show cellD (if (uniq vs).length > 1 then _ else _) = _
          rw [if_neg (by omega)]; rfl
        rw [e2, e3]
        exact nj_nx rfl
    have hdl := dif_len vs
    refine q_cut1 [.im (dL vs), .im (.int ((uniq vs).length : Nat)), .im (dL (dif vs)), .ac [cellD (cellsOf 0 vs), cellD (cellsOf 1 vs), cellD (cellsOf 2 vs), cellD (cellsOf 3 vs), cellD (cellsOf 4 vs)], .un, .un] ?_ ?_
    · refine nj_when ?_
      walk_at "go"
      refine EN.ev (en_lst (ea_nil ⟨by decide, ?_⟩))
      refine ne_d (n := 1) (m := 1) (.lst fun d hd => ?_) (.lst fun d hd => by simp at hd) (by decide) (by decide) ?_
      · obtain ⟨x, _, rfl⟩ := List.mem_map.mp hd
        exact .int x
      cases hd : dif vs with
      | nil =>
        refine bl_no rfl ?_
        have e4 : cellD (cellsOf 4 vs) = .non := by
          show cellD (if dif vs ≠ [] then _ else _) = _
          rw [if_neg (by rw [hd]; exact fun z => z rfl)]; rfl
        rw [e4]
        exact nj_nx rfl
      | cons x r =>
        refine bl_yes rfl ?_
        rw [← hd]
        have hdn : dif vs ≠ [] := by rw [hd]; exact fun z => nomatch z
        refine nj_setL rfl ?_
        walk_at "go"
        refine sp_j ⟨dif vs, 5, rfl, ⟨hdn, by omega⟩, ?_⟩
        walk_at "go"
        refine ⟨4, rfl, ?_⟩
        walk_at "nm"
        have e4 : cellD (cellsOf 4 vs) = cellD (cellsAbove (dif vs) 5) := by
          show cellD (if dif vs ≠ [] then _ else _) = _
          rw [if_pos hdn]
        rw [e4]
        exact nj_nx rfl
    refine nj_share (i := 3) rfl ?_
    walk_at "nm"
    refine nj_retN (en_mapL (by decide) ?_)
    walk_at "go"
    refine ⟨_, farD, rfl, by dsimp only [List.length_cons, List.length_nil]; decide, fun x hx => et_yes ⟨rfl, ?_⟩, ?_⟩
    · walk_at "nm"
      walk_at "go"
      cases x with
      | non =>
        refine bl_yes rfl ?_
        walk_at "go"
        rfl
      | _ =>
        refine bl_no rfl ?_
        walk_at "go"
        rfl
    · refine RJ.rn dom (hD.rt _ ?_)
      have e : [cellD (cellsOf 0 vs), cellD (cellsOf 1 vs), cellD (cellsOf 2 vs), cellD (cellsOf 3 vs), cellD (cellsOf 4 vs)].map farD = (cellsBy vs).map Dt.int := by
        have key : ∀ o : Option Nat, farD (cellD o) = Dt.int (match o with | none => 99999 | some n => (n : Int)) := fun o => by cases o <;> rfl
        simp only [cellsBy, List.map_cons, List.map_nil, key]
      rw [e]
      exact hq
def leastK (vs : List Int) : Nat := posOf (minL (cellsBy vs)) (cellsBy vs)
theorem cellsBy_ne (vs : List Int) : cellsBy vs ≠ [] := fun z => nomatch z
theorem leastK_lt (vs : List Int) : leastK vs < 5 := posOf_lt (minL_mem (cellsBy_ne vs))
def S_least_of (ds : List Dt) (Q : Dt → Prop) : Prop := ∃ vs, ds = [dL vs] ∧ Vals vs ∧ Q (optD (lay (leastK vs) vs))
abbrev sp_least_of (K : PySem.W.Frag) : Sp := spP K S_least_of
theorem rp_FORMS {K : PySem.W.Frag} {mg : Str → Option Value} (T : Txt K mg) (G : Hp) : Rp K G (.ref (He.ga K "FORMS")) (.tup (([("plain" : Str), "one", "codes", "near", "steps"]).map Dt.str)) := .tup (T.t_FORMS G) (.ofStrs [("plain" : Str), "one", "codes", "near", "steps"])
theorem ok_least_of {P : Program} {w : World} {K : PySem.W.Frag} {mg : Str → Option Value} {base : Heap} (T : Txt K mg) (c_cells_by : Cal P w K mg base 4 "cells_by" (sp_cells_by K) []) (c_form_of : Cal P w K mg base 5 "form_of" (sp_form_of K) []) : Cal P w K mg base 6 "least_of" (sp_least_of K) [] := by
  refine cal_pure T.f_least_of sc_least_of ?len fun f cdv A outer s H E hr => ⟨_, (pss_cons (ps_set (i := 1) sc_least_of.nd rfl (Or.inl rfl) (pe_c c_cells_by hr (by decide) (by rfl) (pa_cons (pv 0) pa_nil)))
      (pss_one (ps_ret (pe_c c_form_of hr (by decide) (by rfl) (pa_cons (pe_ix ix_seq (pe_gc (by rfl) T.k_FORMS) (pe_bm PySem.F.plainAttrs_list PySem.F.slot_list_index PySem.F.type_list_index mt_index (pv 1) (pa_cons (pe_callB (cr_min rfl) (by rfl) T.b_min (by decide +kernel) (pa_cons (pv 1) pa_nil)) pa_nil)) (fun _ _ => rfl)) (pa_cons (pv 0) pa_nil)))))), ?body⟩
  case' body => try dsimp only [cxD, cxOf]
  case len => rintro ds Q ⟨b, rfl, _⟩; rfl
  case body =>
    rintro ds Q ⟨vs, rfl, h, hq⟩ hid H0 D dom hD
    show NJ _ _ _ _ [.im (dL vs), .un]
    have hcn := cellsBy_ne vs
    refine q_asg ?_
    walk_at "go"
    refine sp_j ⟨vs, rfl, h, ?_⟩
    walk_at "nm"
    refine nj_ret ?_
    walk_at "go"
    refine ev_con (rp_FORMS T) ?_
    refine ev_index rfl ?_
    walk_at "go"
    refine ⟨cellsBy vs, rfl, ?_⟩
    walk_at "go"
    refine ⟨_, leastK vs, rfl, posOf_at (minL_mem hcn), fun m hm => posOf_first hm, ?_⟩
    refine ix_t (d := .str (nameK (leastK vs))) (atI_nat ?_) ?_
    · have := leastK_lt vs
      match leastK vs, this with
      | 0, _ => rfl
      | 1, _ => rfl
      | 2, _ => rfl
      | 3, _ => rfl
      | 4, _ => rfl
    walk_at "go"
    exact sp_j ⟨vs, leastK vs, rfl, leastK_lt vs, h, hD.rt _ hq⟩
def S_least_form (ds : List Dt) (Q : Dt → Prop) (R : Str → Option Int → Prop) : Prop := ∃ vs, ds = [dL vs] ∧ vs.length ≤ 1000 ∧ (∀ k, BadV vs k → R "BadValues" (some (k : Nat))) ∧ (InB vs → Q (optD (lay (leastK vs) vs)))
abbrev sp_least_form (K : PySem.W.Frag) : Sp := spY K S_least_form
theorem ok_least_form {P : Program} {w : World} {K : PySem.W.Frag} {mg : Str → Option Value} {base : Heap} (T : Txt K mg) (c_need_values : CalX P w K mg base 3 "need_values" (sp_need_values K)) (c_least_of : Cal P w K mg base 6 "least_of" (sp_least_of K) []) : CalX P w K mg base 7 "least_form" (sp_least_form K) := by
  refine cal_y T.f_least_form sc_least_form ?len fun f cdv A outer s H E hr => ⟨_, (pss_cons (ps_expr (pe_cX c_need_values hr (by decide) (takes_of rfl rfl rfl rfl) (by rfl) (pa_cons (pv 0) pa_nil)))
      (pss_one (ps_ret (pe_c c_least_of hr (by decide) (by rfl) (pa_cons (pe_callTy cl_list (by rfl) T.b_list (by decide +kernel) (pa_cons (pv 0) pa_nil)) pa_nil))))), ?body⟩
  case' body => try dsimp only [cxX, cxOf]
  case len => rintro ds Q R ⟨b, rfl, _⟩; rfl
  case body =>
    rintro ds Q R ⟨vs, rfl, hl, hx, hq⟩ hid H0 D dom hD hE
    have hz : RZ K E R H0 := hE
    show NJ _ _ _ _ [.im (dL vs)]
    refine q_dropY (R := R) hz ?_
    walk_at "go"
    refine ⟨vs, rfl, hl, fun h => ?_, hx⟩
    refine nj_ret ?_
    walk_at "go"
    refine RCN.j (list_l ?_)
    walk_at "go"
    exact sp_j ⟨vs, rfl, h.toVals, hD.rt _ (hq h)⟩
end
section
open PySem PySem.Spec PyProof.Rows L2
open C8 (Cal pe_c pe_gc)
theorem laid_one {vs : List Int} {f : Fm} (e : layOne vs = some f) : f = .one vs.length (vs.headD 0) ∧ ∀ x ∈ vs, x = vs.headD 0 := by
  unfold layOne at e
  split at e
  · rename_i h1
    cases e
    refine ⟨rfl, fun x hx => ?_⟩
    cases vs with
    | nil => simp at hx
    | cons y r =>
      obtain ⟨z, hz⟩ : ∃ z, uniq (y :: r) = [z] := by
        match hu : uniq (y :: r), h1 with
        | [z], _ => exact ⟨z, rfl⟩
      have a : x ∈ uniq (y :: r) := mem_uniq.mpr hx
      have b : y ∈ uniq (y :: r) := mem_uniq.mpr List.mem_cons_self
      rw [hz, List.mem_singleton] at a b
      rw [a, ← b]; rfl
  · cases e
theorem all_same {vs : List Int} {z : Int} (h : ∀ x ∈ vs, x = z) : vs = List.replicate vs.length z := by
  rw [List.eq_replicate_iff]; exact ⟨rfl, h⟩
theorem laid_codes {vs : List Int} {f : Fm} (e : layCodes vs = some f) : 2 ≤ (uniq vs).length ∧ f = .codes vs.length (uniq vs) (packI (uniq vs).length (vs.map fun v => (posOf v (uniq vs) : Int))) := by
  unfold layCodes at e
  split at e
  · cases e
  · cases e; exact ⟨by omega, rfl⟩
theorem laid_near {vs : List Int} {f : Fm} (hv : vs ≠ []) (e : layNear vs = some f) : 1 ≤ spanL vs ∧ spanL vs ≤ 9999 ∧ f = .near vs.length (minL vs) (spanL vs) (packI (spanL vs + 1) (vs.map (· - minL vs))) := by
  have hn := spanL_nn hv
  by_cases hb : spanL vs + 1 > 10000
  · rw [layNear_no (abv_no hb)] at e; cases e
  · rw [layNear_eq (abv_yes hb)] at e
    split at e
    · cases e
    · cases e
      refine ⟨by omega, by omega, ?_⟩
      rw [if_pos (show spanL vs > 0 by omega)]
theorem laid_steps {vs : List Int} {f : Fm} (e : laySteps vs = some f) : 2 ≤ vs.length ∧ 0 ≤ spanL (dif vs) ∧ spanL (dif vs) ≤ 9999 ∧ f = .steps vs.length (vs.headD 0) (minL (dif vs)) (spanL (dif vs)) (if spanL (dif vs) > 0 then packI (spanL (dif vs) + 1) ((dif vs).map (· - minL (dif vs))) else []) := by
  unfold laySteps at e
  split at e
  · cases e
  · rename_i h2
    have hd : dif vs ≠ [] := dif_ne.mpr h2
    have hn := spanL_nn hd
    by_cases hb : spanL (dif vs) + 1 > 10000
    · rw [abv_no hb] at e; cases e
    · rw [abv_yes hb] at e
      cases e
      exact ⟨by omega, hn, by omega, rfl⟩
theorem codes_dig (vs : List Int) : ∀ x ∈ vs.map (fun v => (posOf v (uniq vs) : Int)), 0 ≤ x ∧ x < ((uniq vs).length : Nat) := fun x hx => by
  obtain ⟨v, hv, rfl⟩ := List.mem_map.mp hx
  have := posOf_lt (mem_uniq.mpr hv)
  omega
theorem near_dig (vs : List Int) : ∀ x ∈ vs.map (· - minL vs), 0 ≤ x ∧ x < spanL vs + 1 := fun x hx => by
  obtain ⟨v, hv, rfl⟩ := List.mem_map.mp hx
  have := minL_le hv
  have := le_maxL hv
  unfold spanL
  omega
theorem flat_dif {vs : List Int} (h : spanL (dif vs) = 0) (hd : dif vs ≠ []) : dif vs = List.replicate (vs.length - 1) (minL (dif vs)) := by
  rw [← dif_len]
  refine all_same fun x hx => ?_
  have := minL_le hx
  have := le_maxL hx
  unfold spanL at h
  omega
def above (vs : List Int) : List Int := (dif vs).map (· - minL (dif vs))
theorem above_flat {vs : List Int} (h : spanL (dif vs) = 0) (hd : dif vs ≠ []) : above vs = List.replicate (vs.length - 1) 0 := by
  unfold above
  rw [flat_dif h hd, List.map_replicate]
  have e : minL (List.replicate (vs.length - 1) (minL (dif vs))) = minL (dif vs) := by rw [← flat_dif h hd]
  rw [e]
  congr 1
  omega
def S_size (ds : List Dt) (Q : Dt → Prop) : Prop := ∃ f : Fm, ds = [f.dt] ∧ Q (.int (f.size : Nat))
abbrev sp_size (K : PySem.W.Frag) : Sp := spP K S_size
theorem ok_size {P : Program} {w : World} {K : PySem.W.Frag} {mg : Str → Option Value} {base : Heap} (T : Txt K mg)  : Cal P w K mg base 1 "size" (sp_size K) [] := by
  refine cal_pure T.f_size sc_size ?len fun f cdv A outer s H E hr => ⟨_, (pss_one (ps_ret (pe_ifExp (pt_cmpR (op_eqU hr.units) (pe_ix ix_seq (pv 0) pe_int (fun _ _ => rfl)) (pe_gc (by rfl) T.k_PLAIN) (nomark _)) (pe_callB cl_len (by rfl) T.b_len PySem.boot_len (pa_cons (pe_ix ix_seq (pv 0) pe_int (fun _ _ => rfl)) pa_nil)) (pe_ix ix_seq (pv 0) pe_int (fun _ _ => rfl))))), ?body⟩
  case' body => try dsimp only [cxD, cxOf]
  case len => rintro ds Q ⟨b, rfl, _⟩; rfl
  case body =>
    rintro ds Q ⟨f, rfl, hq⟩ hid H0 D dom hD
    show NJ _ _ _ _ [.im f.dt]
    cases f with
    | plain vs =>
      unfold Fm.dt
      refine nj_ret ?_
      walk_at "go"
      refine bl_yes (by decide) ?_
      walk_at "go"
      exact hD.rt _ hq
    | _ =>
      unfold Fm.dt
      refine nj_ret ?_
      walk_at "go"
      refine bl_no (by decide) ?_
      walk_at "go"
      exact hD.rt _ hq
def S_summed (ds : List Dt) (Q : List Dt → Prop) : Prop := ∃ vs lo, ds = [.int (vs.headD 0), .int lo, dL ((dif vs).map (· - lo))] ∧ Vals vs ∧ Q (vs.map Dt.int)
abbrev sp_summed (K : PySem.W.Frag) : Sp := spPN K S_summed
theorem take_last {vs : List Int} {i : Nat} {x : Int} (h : vs[i]? = some x) : (vs.take (i + 1)).map Dt.int = (vs.take i).map Dt.int ++ [.int x] := by
  rw [List.take_add_one, h, List.map_append]; rfl
theorem ok_summed {P : Program} {w : World} {K : PySem.W.Frag} {mg : Str → Option Value} {base : Heap} (T : Txt K mg)  : Cal P w K mg base 1 "summed" (sp_summed K) [] := by
  refine cal_pureN T.f_summed sc_summed ?len fun f cdv A outer s H E hr => ⟨_, (pss_cons (ps_set (i := 3) sc_summed.nd rfl (Or.inl rfl) (pe_lst (pa_cons (pv 0) pa_nil)))
      (pss_cons (ps_for PassesOwn.never rfl (pi_list (pv 2)) (pg_name (i := 4) sc_summed.nd rfl (Or.inl rfl)) (pss_one (ps_expr (pe_bm PySem.F.plainAttrs_list PySem.F.slot_list_append PySem.F.type_list_append mt_append (pv 3) (pa_cons (pe_op op_addU (pe_op op_addU (pe_ix ix_seq (pv 3) (pe_un un_neg pe_int) (fun _ _ => rfl)) (pv 1)) (pv 4)) pa_nil)))))
      (pss_one (ps_ret (pv 3))))), ?body⟩
  case' body => try dsimp only [cxD, cxOf]
  case len => rintro ds Q ⟨b, m, rfl, _⟩; rfl
  case body =>
    rintro ds Q ⟨vs, lo, rfl, h, hq⟩ hid H0 D dom hD
    show NJ _ _ _ _ [.im (.int (vs.headD 0)), .im (.int lo), .im (dL ((dif vs).map (· - lo))), .un, .un]
    have hl := h.le
    have hdl := dif_len vs
    have hp := List.length_pos_iff.mpr h.ne
    refine q_asgN (en_lst ?_)
    walk_at "go"
    walk_at "nm"
    refine q_for (ij_list ?_)
    walk_at "go"
    refine ⟨fun i ρ' => ρ' = [.im (.int (vs.headD 0)), .im (.int lo), .im (dL ((dif vs).map (· - lo))), .ac ((vs.take (i + 1)).map Dt.int), .un], ?_, ?_, ?_⟩
    · cases vs with
      | nil => simp at hp
      | cons x r => rfl
    · rintro H1 e1 i d ρ' hi rfl
      obtain ⟨y, hy, rfl⟩ := ints_at hi
      rw [List.getElem?_map] at hy
      have hi2 : i < (dif vs).length := by
        cases hz : (dif vs)[i]? with
        | none => rw [hz] at hy; cases hy
        | some z => exact (List.getElem?_eq_some_iff.mp hz).1
      have h1 : vs[i]? = some (vs.getD i 0) := getD_at (by omega)
      have h2 : vs[i + 1]? = some (vs.getD (i + 1) 0) := getD_at (by omega)
      have ey : y = vs.getD (i + 1) 0 - vs.getD i 0 - lo := by
        rw [dif_at h1 h2] at hy
        exact (Option.some.inj hy).symm
      refine tg_name ?_
      walk_at "nm"
      refine nj_app rfl (by rw [List.length_map, List.length_take]; omega) ?_
      walk_at "go"
      refine ⟨.int (vs.getD i 0), ?_, ?_⟩
      · rw [take_last h1]; exact atI_last _ _
      walk_at "go"
      walk_at "nm"
      refine nj_nxw _ rfl ?_
      rw [take_last h2]
      have e : vs.getD i 0 + lo + y = vs.getD (i + 1) 0 := by omega
      rw [e]
      exact .same (.same (.same (.same (.un .nil))))
    · rintro ρ' rfl
      refine nj_retAc rfl (hD.rt _ ?_)
      rw [List.length_map, List.length_map, hdl, List.take_of_length_le (by omega)]
      exact hq
def S_values_of (ds : List Dt) (Q : List Dt → Prop) : Prop := ∃ k vs f, ds = [f.dt] ∧ Laid k vs f ∧ Q (vs.map Dt.int)
abbrev sp_values_of (K : PySem.W.Frag) : Sp := spPN K S_values_of
theorem rep_int (n : Nat) (x : Int) : (List.replicate n [Dt.int x]).flatten = (List.replicate n x).map Dt.int := by
  induction n with
  | zero => rfl
  | succ n ih => rw [List.replicate_succ, List.replicate_succ, List.flatten_cons, ih]; rfl
theorem pow_div {k : Nat} (b : Int) {vs : List Int} {ws : List Int} (hb : 2 ≤ b) (h : ∀ x ∈ ws, 0 ≤ x ∧ x < b) (hl : ws.length = vs.length) (hk : k < vs.length) : k / perB b < (packI b ws).length := (unp_at hb h (by omega)).1
theorem ok_values_of {P : Program} {w : World} {K : PySem.W.Frag} {mg : Str → Option Value} {base : Heap} (T : Txt K mg) (c_unpacked : Cal P w K mg base 2 "unpacked" (sp_unpacked K) []) (c_summed : Cal P w K mg base 1 "summed" (sp_summed K) []) : Cal P w K mg base 3 "values_of" (sp_values_of K) [] := by
  refine cal_pureN T.f_values_of sc_values_of ?len fun f cdv A outer s H E hr => ⟨_, (pss_cons (ps_if (pt_cmpR (op_eqU hr.units) (pe_ix ix_seq (pv 0) pe_int (fun _ _ => rfl)) (pe_gc (by rfl) T.k_PLAIN) (nomark _)) (pss_one (ps_ret (pe_callTy cl_list (by rfl) T.b_list (by decide +kernel) (pa_cons (pe_ix ix_seq (pv 0) pe_int (fun _ _ => rfl)) pa_nil)))) pss_nil)
      (pss_cons (ps_if (pt_cmpR (op_eqU hr.units) (pe_ix ix_seq (pv 0) pe_int (fun _ _ => rfl)) (pe_gc (by rfl) T.k_ONE) (nomark _)) (pss_one (ps_ret (pe_op op_mulU (pe_lst (pa_cons (pe_ix ix_seq (pv 0) pe_int (fun _ _ => rfl)) pa_nil)) (pe_ix ix_seq (pv 0) pe_int (fun _ _ => rfl))))) pss_nil)
      (pss_cons (ps_if (pt_cmpR (op_eqU hr.units) (pe_ix ix_seq (pv 0) pe_int (fun _ _ => rfl)) (pe_gc (by rfl) T.k_CODES) (nomark _)) (pss_one (ps_ret (pe_lc (g := (gName 2)) (tt := tYes) (te := (tOp (rIx K) (tOp (rIx K) (tVar 0) (tC (.int 2))) (tVar 2))) (own := [("code", 2)]) rfl sc_values_of.nd (pi_list (pe_c c_unpacked hr (by decide) (by rfl) (pa_cons (pe_callB cl_len (by rfl) T.b_len PySem.boot_len (pa_cons (pe_ix ix_seq (pv 0) pe_int (fun _ _ => rfl)) pa_nil)) (pa_cons (pe_ix ix_seq (pv 0) pe_int (fun _ _ => rfl)) (pa_cons (pe_ix ix_seq (pv 0) pe_int (fun _ _ => rfl)) pa_nil))))) (blkOk_by (N := ["form", "steps", "code", "above"]) (sc := defScope s_values_of) (by decide +kernel)) (fun _ _ _ _ _ => (pg_name (i := 2) sc_values_of.nd rfl (Or.inl rfl))) (fun _ _ _ _ _ => pts_nil) (fun _ _ _ _ _ => (pe_ix ix_seq (pe_ix ix_seq (pv 0) pe_int (fun _ _ => rfl)) (pv 2) (fun _ _ => rfl)))))) pss_nil)
      (pss_cons (ps_if (pt_cmpR (op_eqU hr.units) (pe_ix ix_seq (pv 0) pe_int (fun _ _ => rfl)) (pe_gc (by rfl) T.k_NEAR) (nomark _)) (pss_one (ps_ret (pe_lc (g := (gName 3)) (tt := tYes) (te := (tOp (rAddU K) (tOp (rIx K) (tVar 0) (tC (.int 2))) (tVar 3))) (own := [("above", 3)]) rfl sc_values_of.nd (pi_list (pe_c c_unpacked hr (by decide) (by rfl) (pa_cons (pe_op op_addU (pe_ix ix_seq (pv 0) pe_int (fun _ _ => rfl)) pe_int) (pa_cons (pe_ix ix_seq (pv 0) pe_int (fun _ _ => rfl)) (pa_cons (pe_ix ix_seq (pv 0) pe_int (fun _ _ => rfl)) pa_nil))))) (blkOk_by (N := ["form", "steps", "code", "above"]) (sc := defScope s_values_of) (by decide +kernel)) (fun _ _ _ _ _ => (pg_name (i := 3) sc_values_of.nd rfl (Or.inl rfl))) (fun _ _ _ _ _ => pts_nil) (fun _ _ _ _ _ => (pe_op op_addU (pe_ix ix_seq (pv 0) pe_int (fun _ _ => rfl)) (pv 3)))))) pss_nil)
      (pss_cons (ps_set (i := 1) sc_values_of.nd rfl (Or.inl rfl) (pe_ifExp (pt_cmpR (op_eqU hr.units) (pe_ix ix_seq (pv 0) pe_int (fun _ _ => rfl)) pe_int (nomark _)) (pe_op op_mulU (pe_lst (pa_cons pe_int pa_nil)) (pe_op op_subU (pe_ix ix_seq (pv 0) pe_int (fun _ _ => rfl)) pe_int)) (pe_c c_unpacked hr (by decide) (by rfl) (pa_cons (pe_op op_addU (pe_ix ix_seq (pv 0) pe_int (fun _ _ => rfl)) pe_int) (pa_cons (pe_ix ix_seq (pv 0) pe_int (fun _ _ => rfl)) (pa_cons (pe_op op_subU (pe_ix ix_seq (pv 0) pe_int (fun _ _ => rfl)) pe_int) pa_nil))))))
      (pss_one (ps_ret (pe_c c_summed hr (by decide) (by rfl) (pa_cons (pe_ix ix_seq (pv 0) pe_int (fun _ _ => rfl)) (pa_cons (pe_ix ix_seq (pv 0) pe_int (fun _ _ => rfl)) (pa_cons (pv 1) pa_nil))))))))))), ?body⟩
  case' body => try dsimp only [cxD, cxOf]
  case len => rintro ds Q ⟨b, m, f, rfl, _⟩; rfl
  case body =>
    rintro ds Q ⟨k, vs, f, rfl, ⟨hk, h, hf⟩, hq⟩ hid H0 D dom hD
    have hl := h.le
    have hne := h.ne
    match k, hk with
    | 0, _ =>
      cases hf
      show NJ _ _ _ _ [.im (.tup [.str "plain", dT vs]), .un, .un, .un]
      refine q_when ?_
      walk_at "go"
      refine bl_yes (by decide) ?_
      refine nj_retN (en_cb ?_)
      walk_at "go"
      exact list_t (hD.rt _ hq)
    | 1, _ =>
      obtain ⟨rfl, hs⟩ := laid_one hf
      show NJ _ _ _ _ [.im (.tup [.str "one", .int (vs.length : Nat), .int (vs.headD 0)]), .un, .un, .un]
      refine q_when ?_
      walk_at "go"
      refine bl_no (by decide) ?_
      refine q_when ?_
      walk_at "go"
      refine bl_yes (by decide) ?_
      refine nj_retN (en_op ?_)
      refine EN.ev (en_lst ?_)
      walk_at "go"
      refine mul_l (by omega) (by dsimp only [List.length_cons, List.length_nil]; omega) (hD.rt _ ?_)
      rw [Int.toNat_natCast, rep_int, ← all_same hs]
      exact hq
    | 2, _ =>
      obtain ⟨h2, rfl⟩ := laid_codes hf
      have hu := uniq_le vs
      show NJ _ _ _ _ [.im (.tup [.str "codes", .int (vs.length : Nat), dT (uniq vs), dT _]), .un, .un, .un]
      refine q_when ?_
      walk_at "go"
      refine bl_no (by decide) ?_
      refine q_when ?_
      walk_at "go"
      refine bl_no (by decide) ?_
      refine q_when ?_
      walk_at "go"
      refine bl_yes (by decide) ?_
      refine nj_retN (en_mapI (by decide) ?_)
      walk_at "go"
      refine sp_j ⟨_, _, vs.length, rfl, by omega, by omega, by omega, fun k hk => pow_div _ (by omega) (codes_dig vs) (List.length_map ..) hk, ?_⟩
      rw [unp_take (by omega) (codes_dig vs) (by rw [List.length_map]; exact Nat.le_refl _), List.take_of_length_le (by rw [List.length_map]; exact Nat.le_refl _)]
      refine ⟨_, fun x => .int ((uniq vs).getD x.toNat 0), rfl, by rw [List.length_map]; omega, fun x hx => et_yes ⟨rfl, ?_⟩, ?_⟩
      · obtain ⟨d1, d2⟩ := codes_dig vs x hx
        walk_at "nm"
        walk_at "go"
        refine ix_ti (x := (uniq vs).getD x.toNat 0) d1 (getD_at (by omega)) ?_
        rfl
      · refine hD.rt _ ?_
        have e : (vs.map fun v => (posOf v (uniq vs) : Int)).map (fun x => Dt.int ((uniq vs).getD x.toNat 0)) = vs.map Dt.int := by
          rw [List.map_map]
          refine List.map_congr_left fun v hv => ?_
          show Dt.int ((uniq vs).getD ((posOf v (uniq vs) : Int)).toNat 0) = Dt.int v
          rw [Int.toNat_natCast, List.getD_eq_getElem?_getD, posOf_at (mem_uniq.mpr hv)]; rfl
        rw [e]
        exact hq
    | 3, _ =>
      obtain ⟨h1, h2, rfl⟩ := laid_near hne hf
      show NJ _ _ _ _ [.im (.tup [.str "near", .int (vs.length : Nat), .int (minL vs), .int (spanL vs), dT _]), .un, .un, .un]
      refine q_when ?_
      walk_at "go"
      refine bl_no (by decide) ?_
      refine q_when ?_
      walk_at "go"
      refine bl_no (by decide) ?_
      refine q_when ?_
      walk_at "go"
      refine bl_no (by decide) ?_
      refine q_when ?_
      walk_at "go"
      refine bl_yes (by decide) ?_
      refine nj_retN (en_mapI (by decide) ?_)
      walk_at "go"
      refine sp_j ⟨_, _, vs.length, rfl, by omega, by omega, by omega, fun k hk => pow_div _ (by omega) (near_dig vs) (List.length_map ..) hk, ?_⟩
      rw [unp_take (by omega) (near_dig vs) (by rw [List.length_map]; exact Nat.le_refl _), List.take_of_length_le (by rw [List.length_map]; exact Nat.le_refl _)]
      refine ⟨_, fun x => .int (minL vs + x), rfl, by rw [List.length_map]; omega, fun x hx => et_yes ⟨rfl, ?_⟩, ?_⟩
      · walk_at "nm"
        walk_at "go"
        rfl
      · refine hD.rt _ ?_
        have e : (vs.map (· - minL vs)).map (fun x => Dt.int (minL vs + x)) = vs.map Dt.int := by
          rw [List.map_map]
          refine List.map_congr_left fun v hv => ?_
          show Dt.int (minL vs + (v - minL vs)) = Dt.int v
          rw [show minL vs + (v - minL vs) = v by omega]
        rw [e]
        exact hq
    | 4, _ =>
      obtain ⟨h2, h0, h3, rfl⟩ := laid_steps hf
      have hd : dif vs ≠ [] := dif_ne.mpr (by omega)
      have hdl := dif_len vs
      show NJ _ _ _ _ [.im (.tup [.str "steps", .int (vs.length : Nat), .int (vs.headD 0), .int (minL (dif vs)), .int (spanL (dif vs)), dT _]), .un, .un, .un]
      refine q_when ?_
      walk_at "go"
      refine bl_no (by decide) ?_
      refine q_when ?_
      walk_at "go"
      refine bl_no (by decide) ?_
      refine q_when ?_
      walk_at "go"
      refine bl_no (by decide) ?_
      refine q_when ?_
      walk_at "go"
      refine bl_no (by decide) ?_
      refine q_asg (EV.imp (Q := fun d => d = dL (above vs)) ?_ ?_)
      · walk_at "go"
        refine bl_two (fun hz => ?_) (fun hz => ?_)
        · refine EN.ev (en_op ?_)
          refine EN.ev (en_lst ?_)
          walk_at "go"
          refine mul_l (by omega) (by dsimp only [List.length_cons, List.length_nil]; omega) ?_
          rw [above_flat hz hd, rep_int, show ((vs.length : Int) - 1).toNat = vs.length - 1 by omega]
        · rw [if_pos (show spanL (dif vs) > 0 by omega)]
          walk_at "go"
          refine sp_j ⟨_, _, vs.length - 1, by rw [show ((vs.length - 1 : Nat) : Int) = (vs.length : Int) - 1 by omega], by omega, by omega, by omega, fun k hk => pow_div (vs := dif vs) _ (by omega) (near_dig (dif vs)) (List.length_map ..) (by omega), ?_⟩
          rw [unp_take (by omega) (near_dig (dif vs)) (by rw [List.length_map]; omega), List.take_of_length_le (by rw [List.length_map]; omega)]
          rfl
      · rintro d rfl
        walk_at "nm"
        refine nj_retN (en_call ?_)
        walk_at "go"
        exact sp_n ⟨vs, _, rfl, h, hD.rt _ hq⟩
def S_value_of (ds : List Dt) (Q : Dt → Prop) : Prop := ∃ (k : Nat) (vs : List Int) (f : Fm) (p : Nat), ds = [f.dt, .int (p : Nat)] ∧ Laid k vs f ∧ p < vs.length ∧ Q (.int (vs.getD p 0))
abbrev sp_value_of (K : PySem.W.Frag) : Sp := spP K S_value_of
theorem getD_map {vs : List Int} {g : Int → Int} {p : Nat} (h : p < vs.length) : (vs.map g)[p]'(by rw [List.length_map]; exact h) = g (vs.getD p 0) := by
  rw [List.getElem_map, List.getD_eq_getElem?_getD, List.getElem?_eq_getElem h]; rfl
theorem ok_value_of {P : Program} {w : World} {K : PySem.W.Frag} {mg : Str → Option Value} {base : Heap} (T : Txt K mg) (c_value_in : Cal P w K mg base 2 "value_in" (sp_value_in K) []) (c_unpacked : Cal P w K mg base 2 "unpacked" (sp_unpacked K) []) : Cal P w K mg base 3 "value_of" (sp_value_of K) [] := by
  refine cal_pure T.f_value_of sc_value_of ?len fun f cdv A outer s H E hr => ⟨_, (pss_cons (ps_if (pt_cmpR (op_eqU hr.units) (pe_ix ix_seq (pv 0) pe_int (fun _ _ => rfl)) (pe_gc (by rfl) T.k_PLAIN) (nomark _)) (pss_one (ps_ret (pe_ix ix_seq (pe_ix ix_seq (pv 0) pe_int (fun _ _ => rfl)) (pv 1) (fun _ _ => rfl)))) pss_nil)
      (pss_cons (ps_if (pt_cmpR (op_eqU hr.units) (pe_ix ix_seq (pv 0) pe_int (fun _ _ => rfl)) (pe_gc (by rfl) T.k_ONE) (nomark _)) (pss_one (ps_ret (pe_ix ix_seq (pv 0) pe_int (fun _ _ => rfl)))) pss_nil)
      (pss_cons (ps_if (pt_cmpR (op_eqU hr.units) (pe_ix ix_seq (pv 0) pe_int (fun _ _ => rfl)) (pe_gc (by rfl) T.k_CODES) (nomark _)) (pss_one (ps_ret (pe_ix ix_seq (pe_ix ix_seq (pv 0) pe_int (fun _ _ => rfl)) (pe_c c_value_in hr (by decide) (by rfl) (pa_cons (pe_callB cl_len (by rfl) T.b_len PySem.boot_len (pa_cons (pe_ix ix_seq (pv 0) pe_int (fun _ _ => rfl)) pa_nil)) (pa_cons (pe_ix ix_seq (pv 0) pe_int (fun _ _ => rfl)) (pa_cons (pv 1) pa_nil)))) (fun _ _ => rfl)))) pss_nil)
      (pss_cons (ps_if (pt_cmpR (op_eqU hr.units) (pe_ix ix_seq (pv 0) pe_int (fun _ _ => rfl)) (pe_gc (by rfl) T.k_NEAR) (nomark _)) (pss_one (ps_ret (pe_op op_addU (pe_ix ix_seq (pv 0) pe_int (fun _ _ => rfl)) (pe_c c_value_in hr (by decide) (by rfl) (pa_cons (pe_op op_addU (pe_ix ix_seq (pv 0) pe_int (fun _ _ => rfl)) pe_int) (pa_cons (pe_ix ix_seq (pv 0) pe_int (fun _ _ => rfl)) (pa_cons (pv 1) pa_nil))))))) pss_nil)
      (pss_cons (ps_set (i := 2) sc_value_of.nd rfl (Or.inl rfl) (pe_ifExp (pt_cmpR (op_eqU hr.units) (pe_ix ix_seq (pv 0) pe_int (fun _ _ => rfl)) pe_int (nomark _)) (pe_lst pa_nil) (pe_c c_unpacked hr (by decide) (by rfl) (pa_cons (pe_op op_addU (pe_ix ix_seq (pv 0) pe_int (fun _ _ => rfl)) pe_int) (pa_cons (pe_ix ix_seq (pv 0) pe_int (fun _ _ => rfl)) (pa_cons (pv 1) pa_nil))))))
      (pss_one (ps_ret (pe_op op_addU (pe_op op_addU (pe_ix ix_seq (pv 0) pe_int (fun _ _ => rfl)) (pe_op op_mulU (pe_ix ix_seq (pv 0) pe_int (fun _ _ => rfl)) (pv 1))) (pe_callB (cr_sum rfl) (by rfl) T.b_sum (by decide +kernel) (pa_cons (pv 2) pa_nil)))))))))), ?body⟩
  case' body => try dsimp only [cxD, cxOf]
  case len => rintro ds Q ⟨b, m, f, p, rfl, _⟩; rfl
  case body =>
    rintro ds Q ⟨k, vs, f, p, rfl, ⟨hk, h, hf⟩, hp, hq⟩ hid H0 D dom hD
    have hl := h.le
    have hne := h.ne
    match k, hk with
    | 0, _ =>
      cases hf
      show NJ _ _ _ _ [.im (.tup [.str "plain", dT vs]), .im (.int (p : Nat)), .un]
      refine q_when ?_
      walk_at "go"
      refine bl_yes (by decide) ?_
      refine nj_ret ?_
      walk_at "go"
      refine ix_ti (x := vs.getD p 0) (by omega) (by rw [Int.toNat_natCast]; exact getD_at hp) ?_
      exact hD.rt _ hq
    | 1, _ =>
      obtain ⟨rfl, hs⟩ := laid_one hf
      show NJ _ _ _ _ [.im (.tup [.str "one", .int (vs.length : Nat), .int (vs.headD 0)]), .im (.int (p : Nat)), .un]
      refine q_when ?_
      walk_at "go"
      refine bl_no (by decide) ?_
      refine q_when ?_
      walk_at "go"
      refine bl_yes (by decide) ?_
      refine nj_ret ?_
      walk_at "go"
      rw [hs _ (List.mem_of_getElem? (getD_at hp))] at hq
      exact hD.rt _ hq
    | 2, _ =>
      obtain ⟨h2, rfl⟩ := laid_codes hf
      have hu := uniq_le vs
      show NJ _ _ _ _ [.im (.tup [.str "codes", .int (vs.length : Nat), dT (uniq vs), dT _]), .im (.int (p : Nat)), .un]
      refine q_when ?_
      walk_at "go"
      refine bl_no (by decide) ?_
      refine q_when ?_
      walk_at "go"
      refine bl_no (by decide) ?_
      refine q_when ?_
      walk_at "go"
      refine bl_yes (by decide) ?_
      refine nj_ret ?_
      walk_at "go"
      have hpl : p < (vs.map fun v => (posOf v (uniq vs) : Int)).length := by rw [List.length_map]; exact hp
      obtain ⟨u1, u2⟩ := unp_at (b := ((uniq vs).length : Nat)) (by omega) (codes_dig vs) hpl
      refine sp_j ⟨_, _, p, rfl, by omega, by omega, u1, ?_⟩
      rw [u2, getD_map hp]
      have hm : vs.getD p 0 ∈ uniq vs := mem_uniq.mpr (List.mem_of_getElem? (getD_at hp))
      refine ix_ti (x := vs.getD p 0) (by omega) (by rw [Int.toNat_natCast]; exact posOf_at hm) ?_
      exact hD.rt _ hq
    | 3, _ =>
      obtain ⟨h1, h2, rfl⟩ := laid_near hne hf
      show NJ _ _ _ _ [.im (.tup [.str "near", .int (vs.length : Nat), .int (minL vs), .int (spanL vs), dT _]), .im (.int (p : Nat)), .un]
      refine q_when ?_
      walk_at "go"
      refine bl_no (by decide) ?_
      refine q_when ?_
      walk_at "go"
      refine bl_no (by decide) ?_
      refine q_when ?_
      walk_at "go"
      refine bl_no (by decide) ?_
      refine q_when ?_
      walk_at "go"
      refine bl_yes (by decide) ?_
      refine nj_ret ?_
      walk_at "go"
      have hpl : p < (vs.map (· - minL vs)).length := by rw [List.length_map]; exact hp
      obtain ⟨u1, u2⟩ := unp_at (b := spanL vs + 1) (by omega) (near_dig vs) hpl
      refine sp_j ⟨_, _, p, rfl, by omega, by omega, u1, ?_⟩
      rw [u2, getD_map (g := fun x => x - minL vs) hp]
      walk_at "go"
      rw [show minL vs + (vs.getD p 0 - minL vs) = vs.getD p 0 by omega]
      exact hD.rt _ hq
    | 4, _ =>
      obtain ⟨h2, h0, h3, rfl⟩ := laid_steps hf
      have hd : dif vs ≠ [] := dif_ne.mpr (by omega)
      have hdl := dif_len vs
      show NJ _ _ _ _ [.im (.tup [.str "steps", .int (vs.length : Nat), .int (vs.headD 0), .int (minL (dif vs)), .int (spanL (dif vs)), dT _]), .im (.int (p : Nat)), .un]
      refine q_when ?_
      walk_at "go"
      refine bl_no (by decide) ?_
      refine q_when ?_
      walk_at "go"
      refine bl_no (by decide) ?_
      refine q_when ?_
      walk_at "go"
      refine bl_no (by decide) ?_
      refine q_when ?_
      walk_at "go"
      refine bl_no (by decide) ?_
      refine q_asg (EV.imp (Q := fun d => ∃ ns : List Int, d = dL ns ∧ ns.sum = ((above vs).take p).sum) ?_ ?_)
      · walk_at "go"
        refine bl_two (fun hz => ?_) (fun hz => ?_)
        · refine EN.ev (en_lst (ea_nil ⟨by decide, [], rfl, ?_⟩))
          rw [above_flat hz hd, List.take_replicate]
          have : ∀ n : Nat, (List.replicate n (0 : Int)).sum = 0 := fun n => by
            induction n with
            | zero => rfl
            | succ n ih => rw [List.replicate_succ, List.sum_cons, ih]; rfl
          rw [this]; rfl
        · rw [if_pos (show spanL (dif vs) > 0 by omega)]
          walk_at "go"
          refine sp_j ⟨_, _, p, rfl, by omega, by omega, by omega, fun k hk => pow_div (vs := dif vs) _ (by omega) (near_dig (dif vs)) (List.length_map ..) (by omega), _, rfl, ?_⟩
          rw [unp_take (by omega) (near_dig (dif vs)) (by rw [List.length_map]; omega)]
          rfl
      · rintro d ⟨ns, rfl, hns⟩
        walk_at "nm"
        refine nj_ret ?_
        walk_at "go"
        refine sum_l ?_
        walk_at "go"
        have := sum_dif (minL (dif vs)) vs p _ (getD_at hp)
        rw [hns, above, this]
        rw [show vs.headD 0 + minL (dif vs) * (p : Int) + (vs.getD p 0 - vs.headD 0 - minL (dif vs) * (p : Int)) = vs.getD p 0 by omega]
        exact hD.rt _ hq
theorem laid_size {k : Nat} {vs : List Int} {f : Fm} (h : Laid k vs f) : f.size = vs.length := by
  obtain ⟨hk, hv, hf⟩ := h
  match k, hk with
  | 0, _ => cases hf; rfl
  | 1, _ => rw [(laid_one hf).1]; rfl
  | 2, _ => rw [(laid_codes hf).2]; rfl
  | 3, _ => rw [(laid_near hv.ne hf).2.2]; rfl
  | 4, _ => rw [(laid_steps hf).2.2.2]; rfl
def S_value_at (ds : List Dt) (Q : Dt → Prop) (R : Str → Option Int → Prop) : Prop := ∃ (k : Nat) (vs : List Int) (f : Fm) (p : Int), ds = [f.dt, .int p] ∧ Laid k vs f ∧ (¬ (0 ≤ p ∧ p < (vs.length : Nat)) → R "BadNumber" none) ∧ ∀ q : Nat, p = (q : Nat) → q < vs.length → Q (.int (vs.getD q 0))
abbrev sp_value_at (K : PySem.W.Frag) : Sp := spY K S_value_at
theorem ok_value_at {P : Program} {w : World} {K : PySem.W.Frag} {mg : Str → Option Value} {base : Heap} (T : Txt K mg) (c_size : Cal P w K mg base 1 "size" (sp_size K) []) (c_value_of : Cal P w K mg base 3 "value_of" (sp_value_of K) []) : CalX P w K mg base 5 "value_at" (sp_value_at K) := by
  refine cal_y T.f_value_at sc_value_at ?len fun f cdv A outer s H E hr => ⟨_, (pss_cons (ps_if (pt_not (pt_chain op_leU op_ltU pe_int (pv 1) (pe_c c_size hr (by decide) (by rfl) (pa_cons (pv 0) pa_nil)))) (pss_one (ps_raise rfl (takes_of rfl rfl rfl rfl) (pmk_own PySem.F.excBase_ValueError T.x_BadNumber.q T.x_BadNumber.g T.x_BadNumber.k (raises_own T.x_BadNumber.b T.x_BadNumber.t) (by rfl)))) pss_nil)
      (pss_one (ps_ret (pe_c c_value_of hr (by decide) (by rfl) (pa_cons (pv 0) (pa_cons (pv 1) pa_nil)))))), ?body⟩
  case' body => try dsimp only [cxX, cxOf]
  case len => rintro ds Q R ⟨b, m, f, p, rfl, _⟩; rfl
  case body =>
    rintro ds Q R ⟨k, vs, f, p, rfl, h, hx, hq⟩ hid H0 D dom hD hE
    have hz : RZ K E R H0 := hE
    show NJ _ _ _ _ [.im f.dt, .im (.int p)]
    refine q_when ?_
    walk_at "go"
    by_cases h1 : 0 ≤ p
    · refine bl_yes (decide_eq_true h1) ?_
      walk_at "go"
      refine sp_j ⟨f, rfl, ?_⟩
      rw [laid_size h]
      walk_at "go"
      by_cases h2 : p < (vs.length : Nat)
      · refine bl_no (by rw [decide_eq_true h2]; rfl) ?_
        obtain ⟨q, rfl⟩ := Int.eq_ofNat_of_zero_le h1
        refine nj_ret ?_
        walk_at "go"
        exact sp_j ⟨k, vs, f, q, rfl, h, by omega, hD.rt _ (hq q rfl (by omega))⟩
      · refine bl_yes (by rw [decide_eq_false h2]; rfl) ?_
        exact nj_raiseN hz (hx fun h => h2 h.2)
    · refine bl_no (decide_eq_false h1) ?_
      refine bl_yes rfl ?_
      exact nj_raiseN hz (hx fun h => h1 h.1)
end
section
open PySem PySem.Spec PyProof.Rows L2
open C8 (Cal pe_c pe_gc)
def S_laid (ds : List Dt) (Q : Dt → Prop) (R : Str → Option Int → Prop) : Prop := ∃ vs x, ds = [.str x, dL vs] ∧ vs.length ≤ 1000 ∧ (inV (.str x) (([("plain" : Str), "one", "codes", "near", "steps"]).map V.str) = false → R "NoForm" none) ∧
  (∀ k, x = nameK k → k < 5 → (∀ p, BadV vs p → R "BadValues" (some (p : Nat))) ∧ (InB vs → (∀ f, lay k vs = some f → Q f.dt) ∧ (lay k vs = none → R "NoForm" none))) ∧ (inV (.str x) (([("plain" : Str), "one", "codes", "near", "steps"]).map V.str) = true → ∃ k, x = nameK k ∧ k < 5)
abbrev sp_laid (K : PySem.W.Frag) : Sp := spY K S_laid
theorem name_in {k : Nat} (h : k < 5) : inV (.str (nameK k)) (([("plain" : Str), "one", "codes", "near", "steps"]).map V.str) = true := by
  match k, h with
  | 0, _ => decide
  | 1, _ => decide
  | 2, _ => decide
  | 3, _ => decide
  | 4, _ => decide
theorem dt_isNon (f : Fm) : isNon f.dt = false := by cases f <;> rfl
theorem ok_laid {P : Program} {w : World} {K : PySem.W.Frag} {mg : Str → Option Value} {base : Heap} (T : Txt K mg) (c_need_values : CalX P w K mg base 3 "need_values" (sp_need_values K)) (c_form_of : Cal P w K mg base 5 "form_of" (sp_form_of K) []) : CalX P w K mg base 7 "laid" (sp_laid K) := by
  refine cal_y T.f_laid sc_laid ?len fun f cdv A outer s H E hr => ⟨_, (pss_cons (ps_if (pt_cmpR op_notInU (pv 0) (pe_gc (by rfl) T.k_FORMS) rfl) (pss_one (ps_raise rfl (takes_of rfl rfl rfl rfl) (pmk_own PySem.F.excBase_ValueError T.x_NoForm.q T.x_NoForm.g T.x_NoForm.k (raises_own T.x_NoForm.b T.x_NoForm.t) (by rfl)))) pss_nil)
      (pss_cons (ps_expr (pe_cX c_need_values hr (by decide) (takes_of rfl rfl rfl rfl) (by rfl) (pa_cons (pv 1) pa_nil)))
      (pss_cons (ps_set (i := 2) sc_laid.nd rfl (Or.inl rfl) (pe_c c_form_of hr (by decide) (by rfl) (pa_cons (pv 0) (pa_cons (pe_callTy cl_list (by rfl) T.b_list (by decide +kernel) (pa_cons (pv 1) pa_nil)) pa_nil))))
      (pss_cons (ps_if (pt_cmpR op_isU (pv 2) pe_non (nomark _)) (pss_one (ps_raise rfl (takes_of rfl rfl rfl rfl) (pmk_own PySem.F.excBase_ValueError T.x_NoForm.q T.x_NoForm.g T.x_NoForm.k (raises_own T.x_NoForm.b T.x_NoForm.t) (by rfl)))) pss_nil)
      (pss_one (ps_ret (pv 2))))))), ?body⟩
  case' body => try dsimp only [cxX, cxOf]
  case len => rintro ds Q R ⟨vs, k, rfl, _⟩; rfl
  case body =>
    rintro ds Q R ⟨vs, x, rfl, hl, hn, hk, hin⟩ hid H0 D dom hD hE
    have hz : RZ K E R H0 := hE
    show NJ _ _ _ _ [.im (.str x), .im (dL vs), .un]
    refine q_when ?_
    walk_at "go"
    refine ev_con (rp_FORMS T) ?_
    refine notin_s ?_
    cases hb : inV (.str x) (([("plain" : Str), "one", "codes", "near", "steps"]).map V.str) with
    | false =>
      refine bl_yes rfl ?_
      exact nj_raiseN hz (hn hb)
    | true =>
      refine bl_no rfl ?_
      obtain ⟨k, rfl, hk5⟩ := hin hb
      obtain ⟨hx, hg⟩ := hk k rfl hk5
      refine q_dropY (R := R) hz ?_
      walk_at "go"
      refine ⟨vs, rfl, hl, fun h => ?_, hx⟩
      obtain ⟨hq, hno⟩ := hg h
      refine q_asg ?_
      walk_at "go"
      refine RCN.j (list_l ?_)
      walk_at "go"
      refine sp_j ⟨vs, k, rfl, hk5, h.toVals, ?_⟩
      walk_at "nm"
      cases hf : lay k vs with
      | none =>
        refine q_when ?_
        show ETJ _ _ _ _ [_, _, .im .non] _
        walk_at "go"
        refine bl_yes rfl ?_
        exact nj_raiseN hz (hno hf)
      | some f =>
        refine q_when ?_
        show ETJ _ _ _ _ [_, _, .im f.dt] _
        walk_at "go"
        rw [dt_isNon]
        refine bl_no rfl ?_
        refine nj_ret ?_
        show EV _ _ [_, _, .im f.dt] _
        walk_at "go"
        exact hD.rt _ (hq f hf)
end
section
open PySem PySem.Spec PyProof.Rows L2
open C8 (Cal pe_c pe_gc)
theorem cells_at5 {vs : List Int} {k : Nat} (hk : k < 5) : (cellsBy vs)[k]? = some (match cellsOf k vs with
    | none => 99999
    | some n => (n : Int)) := by
  match k, hk with
  | 0, _ => rfl
  | 1, _ => rfl
  | 2, _ => rfl
  | 3, _ => rfl
  | 4, _ => rfl
theorem least_fm {vs : List Int} (h : Vals vs) : ∃ f, lay (leastK vs) vs = some f ∧ (f.room : Int) = minL (cellsBy vs) := by
  have h5 := leastK_lt vs
  have hm := posOf_at (minL_mem (cellsBy_ne vs))
  have hle : minL (cellsBy vs) ≤ 33 := by
    have : ((1 + vs.length : Nat) : Int) ∈ cellsBy vs := List.mem_of_getElem? (i := 0) (cells_at5 (by omega))
    have := minL_le this
    have := h.le
    omega
  rw [show posOf (minL (cellsBy vs)) (cellsBy vs) = leastK vs from rfl, cells_at5 h5] at hm
  have hc := cells_room h.ne (leastK vs)
  cases e : lay (leastK vs) vs with
  | none =>
    rw [e] at hc
    rw [hc] at hm
    have := Option.some.inj hm
    dsimp only [Option.map] at this
    omega
  | some f =>
    rw [e] at hc
    rw [hc] at hm
    exact ⟨f, rfl, Option.some.inj hm⟩
def leastF (vs : List Int) : Fm := (lay (leastK vs) vs).getD (.plain [])
theorem leastF_lay {vs : List Int} (h : Vals vs) : lay (leastK vs) vs = some (leastF vs) := by
  obtain ⟨f, hf, _⟩ := least_fm h
  unfold leastF
  rw [hf]; rfl
theorem leastF_room {vs : List Int} (h : Vals vs) : ((leastF vs).room : Int) = minL (cellsBy vs) := by
  obtain ⟨f, hf, hr⟩ := least_fm h
  unfold leastF
  rw [hf]; exact hr
def S_cut (ds : List Dt) (Q : Dt → Prop) (R : Str → Option Int → Prop) : Prop := ∃ vs, ds = [dL vs] ∧ vs.length ≤ 1000 ∧ (∀ k, BadV vs k → R "BadValues" (some (k : Nat))) ∧ ¬ InB vs
abbrev sp_cut (K : PySem.W.Frag) : Sp := spY K S_cut
theorem ok_cut {P : Program} {w : World} {K : PySem.W.Frag} {mg : Str → Option Value} {base : Heap} (T : Txt K mg) (c_need_values : CalX P w K mg base 3 "need_values" (sp_need_values K)) : CalX P w K mg base 4 "cut" (sp_cut K) := by
  refine cal_y T.f_cut sc_cut ?len fun f cdv A outer s H E hr => ⟨_, (pss_cons (ps_expr (pe_cX c_need_values hr (by decide) (takes_of rfl rfl rfl rfl) (by rfl) (pa_cons (pv 0) pa_nil))) pss_never), ?body⟩
  case' body => try dsimp only [cxX, cxOf]
  case len => rintro ds Q R ⟨b, rfl, _⟩; rfl
  case body =>
    rintro ds Q R ⟨vs, rfl, hl, hx, hn⟩ hid H0 D dom hD hE
    have hz : RZ K E R H0 := hE
    show NJ _ _ _ _ [.im (dL vs)]
    refine q_dropY (R := R) hz ?_
    walk_at "go"
    exact ⟨vs, rfl, hl, fun h => (hn h).elim, hx⟩
def S_prices (ds : List Dt) (Q : Dt → Prop) (R : Str → Option Int → Prop) : Prop := ∃ vs, ds = [dL vs] ∧ vs.length ≤ 1000 ∧ (∀ k, BadV vs k → R "BadValues" (some (k : Nat))) ∧ ¬ InB vs
abbrev sp_prices (K : PySem.W.Frag) : Sp := spY K S_prices
theorem ok_prices {P : Program} {w : World} {K : PySem.W.Frag} {mg : Str → Option Value} {base : Heap} (T : Txt K mg) (c_need_values : CalX P w K mg base 3 "need_values" (sp_need_values K)) : CalX P w K mg base 4 "prices" (sp_prices K) := by
  refine cal_y T.f_prices sc_prices ?len fun f cdv A outer s H E hr => ⟨_, (pss_cons (ps_expr (pe_cX c_need_values hr (by decide) (takes_of rfl rfl rfl rfl) (by rfl) (pa_cons (pv 0) pa_nil))) pss_never), ?body⟩
  case' body => try dsimp only [cxX, cxOf]
  case len => rintro ds Q R ⟨b, rfl, _⟩; rfl
  case body =>
    rintro ds Q R ⟨vs, rfl, hl, hx, hn⟩ hid H0 D dom hD hE
    have hz : RZ K E R H0 := hE
    show NJ _ _ _ _ [.im (dL vs), .un]
    refine q_dropY (R := R) hz ?_
    walk_at "go"
    exact ⟨vs, rfl, hl, fun h => (hn h).elim, hx⟩
def S_bound (ds : List Dt) (Q : Dt → Prop) (R : Str → Option Int → Prop) : Prop := ∃ vs d, ds = [dL vs, d] ∧ vs.length ≤ 1000 ∧ (∀ k, BadV vs k → R "BadValues" (some (k : Nat))) ∧ ¬ InB vs
abbrev sp_bound (K : PySem.W.Frag) : Sp := spY K S_bound
theorem ok_bound {P : Program} {w : World} {K : PySem.W.Frag} {mg : Str → Option Value} {base : Heap} (T : Txt K mg) (c_need_values : CalX P w K mg base 3 "need_values" (sp_need_values K)) : CalX P w K mg base 4 "bound" (sp_bound K) := by
  refine cal_y T.f_bound sc_bound ?len fun f cdv A outer s H E hr => ⟨_, (pss_cons (ps_expr (pe_cX c_need_values hr (by decide) (takes_of rfl rfl rfl rfl) (by rfl) (pa_cons (pv 0) pa_nil))) pss_never), ?body⟩
  case' body => try dsimp only [cxX, cxOf]
  case len => rintro ds Q R ⟨b, d, rfl, _⟩; rfl
  case body =>
    rintro ds Q R ⟨vs, d, rfl, hl, hx, hn⟩ hid H0 D dom hD hE
    have hz : RZ K E R H0 := hE
    show NJ _ _ _ _ [.im (dL vs), .im d, .un, .un, .un]
    refine q_dropY (R := R) hz ?_
    walk_at "go"
    exact ⟨vs, rfl, hl, fun h => (hn h).elim, hx⟩
end
section
open PySem PySem.Spec PyProof.Rows L2
open C8 (Cal pe_c pe_gc)
theorem rp_ints {K : PySem.W.Frag} {G : Hp} : ∀ ns : List Int, RpAll K G (ns.map V.int) (ns.map Dt.int)
  | [] => .nil
  | n :: ns => .cons (.int n) (rp_ints ns)
theorem ite_y {c : Bool} {a b : Prop} (e : c = true) (h : a) : if c = true then a else b := by rw [if_pos e]; exact h
theorem ite_n {c : Bool} {a b : Prop} (e : c = false) (h : b) : if c = true then a else b := by rw [if_neg (by rw [e]; exact Bool.false_ne_true)]; exact h
theorem ix_0 {n : Nat} : ixN (n + 1) 0 = some 0 := by
  unfold ixN
  simp
theorem at_0 {α : Type} {x : α} {r : List α} : atI (x :: r) 0 = some x := by
  unfold atI
  rw [List.length_cons, ix_0]; rfl
theorem si_0 {n : Nat} : seqIndex? 0 (n + 1) = some 0 := by
  unfold seqIndex?
  simp
def S__law_take (ds : List Dt) (Q : Dt → Prop) : Prop := ∃ m : Int, ds = [.int m] ∧ 0 < m ∧ m < 4611686018427387904 ∧ ∀ r, 0 ≤ r → r < m → Q (.int r)
abbrev sp__law_take (K : PySem.W.Frag) : Sp := spB K S__law_take
theorem ok__law_take {P : Program} {w : World} {K : PySem.W.Frag} {mg : Str → Option Value} {base : Heap} (T : Txt K mg)  : Cal P w K mg base 1 "_law_take" (sp__law_take K) [] := by
  refine cal_box T.f__law_take sc__law_take (fun z => nomatch z) ?len fun f cdv A outer s H E hr => ⟨_, (pss_cons (ps_if (pt_cmpR (op_eqU hr.units) (pe_ix ix_seq (pv 0) pe_int (fun _ _ => rfl)) (pe_lst pa_nil) (nomark _)) (pss_cons (ps_asg (pe_op op_modU (pe_op op_mulU (pe_ix ix_seq (pv 0) pe_int (fun _ _ => rfl)) pe_int) pe_int) (pg_sub (pv 0) pe_int set_list))
      (pss_one (ps_ret (pe_op op_modU (pe_op op_divU (pe_ix ix_seq (pv 0) pe_int (fun _ _ => rfl)) pe_int) (pv 1))))) pss_nil)
      (pss_cons (ps_set (i := 2) sc__law_take.nd rfl (Or.inl rfl) (pe_ix ix_seq (pe_ix ix_seq (pv 0) pe_int (fun _ _ => rfl)) pe_int (fun _ _ => rfl)))
      (pss_cons (ps_asg (pe_op op_divU (pv 2) (pv 1)) (pg_sub (pe_ix ix_seq (pv 0) pe_int (fun _ _ => rfl)) pe_int set_list))
      (pss_cons (ps_if ((pw_or (pt_cmpR (op_eqU hr.units) (pe_ix ix_seq (pe_ix ix_seq (pv 0) pe_int (fun _ _ => rfl)) pe_int (fun _ _ => rfl)) pe_int (nomark _)) (pw_or1 (pt_cmpR (op_eqU hr.units) (pe_ix ix_seq (pe_ix ix_seq (pv 0) pe_int (fun _ _ => rfl)) pe_int (fun _ _ => rfl)) (pe_un un_neg pe_int) (nomark _))))).pt (pss_one (ps_expr (pe_bm PySem.F.plainAttrs_list PySem.F.slot_list_pop PySem.F.type_list_pop mt_popAt (pe_ix ix_seq (pv 0) pe_int (fun _ _ => rfl)) (pa_cons pe_int pa_nil)))) pss_nil)
      (pss_one (ps_ret (pe_op op_modU (pv 2) (pv 1)))))))), ?body⟩
  case' body => try dsimp only [cxD, cxOf]
  case len => rintro ds Q ⟨b, rfl, _⟩; rfl
  case body =>
    rintro ds Q ⟨m, rfl, h0, h1, hq⟩ b l hne hid H0 D dom hD
    show NJ _ _ _ _ [.rw (.ref b), .im (.int m), .un]
    intro hd H σ sd
    obtain ⟨s, ns, hb, hl⟩ := sd.inv
    obtain ⟨x2, rfl⟩ : ∃ x, σ = [some (.ref b), some (.int m), x] := by
      match σ, sd.slots with
      | [some _, some _, x], .cons h1 (.cons h2 (.cons _ .nil)) =>
        have e1 : _ = V.ref b := h1
        have e2 : Rp _ _ _ (.int m) := h2
        cases e2
        subst e1
        exact ⟨x, rfl⟩
    have fin : ∀ (H' : Hp) (r : Int), Ex (muB b l) H H' → Bx b l H' → D.rt (.int (r % m)) H' := fun H' r e bx =>
      hD.rt _ (hq _ (Int.emod_nonneg _ (by omega)) (Int.emod_lt_of_pos _ h0)) _ _ (sd.ext.trans e) bx (.int _)
    refine ⟨.ref b, rfl, .inl ⟨b, _, 0, .ref l, rfl, rfl, .inl (.inl hb), rfl, by decide, fun p hp => .inr ⟨.list (pyL (ns.map Dt.int)), .list [], ?_, ?_, ?_, rfl, _, rfl, ?_⟩⟩⟩
    · have e : upd H p (.lst []) l = some (.lst (ns.map V.int)) := by
        rw [upd_ne (fun z => by subst z; rw [hl] at hp; cases hp)]; exact hl
      exact Rp.dp 1 _ (.lst (ns.map Dt.int)) (.lst fun d hd => by
        obtain ⟨x, _, rfl⟩ := List.mem_map.mp hd
        exact .int x) (.lst e (rp_ints ns))
    · exact .lst (.inl (.inl upd_same)) .nil
    · exact Sh.shaped (n := 1) (d := .lst (ns.map Dt.int)) (.lst fun d hd => by
        obtain ⟨x, _, rfl⟩ := List.mem_map.mp hd
        exact .int x) (by decide)
    have ne : ∀ a o, H a = some o → upd H p (.lst []) a = some o := fun a o h => by
      rw [upd_ne (fun z => by subst z; rw [h] at hp; cases hp)]; exact h
    have eB := ne _ _ hb
    have eL := ne _ _ hl
    have ex1 : Ex (muB b l) H (upd H p (.lst [])) := .new hp
    cases ns with
    | nil =>
      refine ite_y rfl ?_
      refine ⟨.ref b, rfl, .inl ⟨b, _, 1, .int s, rfl, rfl, .inl (.inl eB), rfl, .inl ⟨s, 48271, rfl, rfl, .inr ⟨by decide, by decide⟩, _, _, rfl, rfl, (show (0 : Int) < 2147483647 by decide), .ref b, rfl, b, _, 1, 1, rfl, rfl, eB, rfl, ?_⟩⟩⟩
      refine ⟨.ref b, rfl, .inl ⟨b, _, 1, .int (s * 48271 % 2147483647), rfl, rfl, .inl (.inl upd_same), rfl, _, 7, rfl, rfl, ⟨by decide, by decide⟩, .int m, rfl, _, m, rfl, rfl, h0, ?_⟩⟩
      exact fin _ _ (ex1.mut (.inr muB_b)) ⟨_, [], upd_same, by rw [upd_ne (Ne.symm hne)]; exact eL⟩
    | cons n ns =>
      refine ite_n rfl ?_
      refine ⟨.ref b, rfl, .inl ⟨b, _, 0, .ref l, rfl, rfl, .inl (.inl eB), rfl, .inl ⟨l, _, 0, .int n, rfl, rfl, .inl (.inl eL), at_0, ?_⟩⟩⟩
      refine ⟨.int n, rfl, .int m, rfl, n, m, rfl, rfl, wide_div (b := 62) h0 (by omega) (by decide) (by decide), .ref b, rfl, .inl ⟨b, _, 0, .ref l, rfl, rfl, .inl (.inl eB), rfl, l, _, 0, 0, rfl, rfl, eL, ix_0, ?_⟩⟩
      have ex2 : Ex (muB b l) H (upd (upd H p (.lst [])) l (.lst (((n :: ns).map V.int).set 0 (.int (n / m))))) := ex1.mut (.inr muB_l)
      have eB2 : upd (upd H p (.lst [])) l (.lst (((n :: ns).map V.int).set 0 (.int (n / m)))) b = some (.lst [.ref l, .int s]) := by rw [upd_ne hne]; exact eB
      have eL2 : upd (upd H p (.lst [])) l (.lst (((n :: ns).map V.int).set 0 (.int (n / m)))) l = some (.lst (.int (n / m) :: ns.map V.int)) := upd_same
      generalize upd (upd H p (.lst [])) l (.lst (((n :: ns).map V.int).set 0 (.int (n / m)))) = H3 at ex2 eB2 eL2
      have stay : D.rt (.int (n % m)) H3 := fin _ _ ex2 ⟨_, (n / m) :: ns, eB2, eL2⟩
      have ret : ∀ H4, D.rt (.int (n % m)) H4 → tRet (tOp rModI (tVar 2) (tVar 1)) D [some (.ref b), some (.int m), some (.int n)] H4 := fun H4 q => ⟨.int n, rfl, .int m, rfl, n, m, rfl, rfl, h0, q⟩
      have pop : tDrop (tBM K "list" rPopAt (tOp (rIx K) (tVar 0) (tC (V.int 0))) (tCons (tC (V.int 0)) tNil)) { D with nx := tRet (tOp rModI (tVar 2) (tVar 1)) D } [some (.ref b), some (.int m), some (.int n)] H3 := by
        refine ⟨.ref b, rfl, .inl ⟨b, _, 0, .ref l, rfl, rfl, .inl (.inl eB2), rfl, .inl ⟨rfl, _, .inl (.inl eL2)⟩, l, _, 0, 0, .int (n / m), rfl, rfl, eL2, by decide, by decide, ?_, rfl, ?_⟩⟩
        · exact si_0
        · refine ret _ ?_
          exact fin _ _ (ex2.mut (.inr muB_l)) ⟨_, ns, by rw [upd_ne hne]; exact eB2, upd_same⟩
      have fst : ∀ Q : VK, Q (.int (n / m)) H3 → tOp (rIx K) (tOp (rIx K) (tVar 0) (tC (V.int 0))) (tC (V.int 0)) [some (.ref b), some (.int m), some (.int n)] H3 Q := fun Q q =>
        ⟨.ref b, rfl, .inl ⟨b, _, 0, .ref l, rfl, rfl, .inl (.inl eB2), rfl, .inl ⟨l, _, 0, .int (n / m), rfl, rfl, .inl (.inl eL2), at_0, q⟩⟩⟩
      refine fst _ (.inl ⟨rfl, _, rfl, ?_⟩)
      by_cases z0 : n / m = 0
      · refine ite_y (decide_eq_true (by rw [z0])) (ite_y rfl ?_)
        exact pop
      · refine ite_n (decide_eq_false fun z => z0 (V.int.inj z)) ?_
        refine fst _ ⟨1, rfl, .inl ⟨rfl, _, rfl, ?_⟩⟩
        by_cases z1 : n / m = -1
        · exact ite_y (decide_eq_true (by rw [z1])) pop
        · exact ite_n (decide_eq_false fun z => z1 (V.int.inj z)) (ret _ stay)
theorem take_j {m : Int} {Q : Dt → Prop} (h0 : 0 < m) (h1 : m < 4611686018427387904) (h : ∀ r, 0 ≤ r → r < m → Q (.int r)) : S__law_take [.int m] Q := ⟨m, rfl, h0, h1, h⟩
end
section
open PySem PySem.Spec PyProof.Rows L2
open C8 (Cal pe_c pe_gc)
def sp__law_begun (K : PySem.W.Frag) : Sp := fun vs H Qh _ => ∃ (a : Addr) (ns : List Int), vs = [.ref a] ∧ SqL K H a (ns.map V.int) ∧ ns.length ≤ 63 ∧ ∀ b l H', b ≠ l → H b = none → H l = none → Ex none0 H H' → Bx b l H' → Qh (.ref b) H'
theorem ok__law_begun {P : Program} {w : World} {K : PySem.W.Frag} {mg : Str → Option Value} {base : Heap} (T : Txt K mg)  : Cal P w K mg base 1 "_law_begun" (sp__law_begun K) [] := by
  obtain ⟨f, fd, hm, F, bi⟩ := T.f__law_begun
  refine ⟨⟨f, fd, _, [], F.ok sc__law_begun ?len (fun cdv A outer s H vs Q E hr h => ⟨_, (pss_cons (ps_set (i := 1) sc__law_begun.nd rfl (Or.inl rfl) pe_int)
      (pss_cons (ps_for PassesOwn.never rfl (pi_list (pv 0)) (pg_name (i := 2) sc__law_begun.nd rfl (Or.inl rfl)) (pss_one (ps_set (i := 1) sc__law_begun.nd rfl (Or.inl rfl) (pe_op op_modU (pe_op op_addU (pe_op op_addU (pe_op op_mulU (pv 1) pe_int) (pe_op op_mulU (pv 2) pe_int)) pe_int) pe_int))))
      (pss_one (ps_ret (pe_lst (pa_cons (pe_callTy cl_list (by rfl) T.b_list (by decide +kernel) (pa_cons (pv 0) pa_nil)) (pa_cons (pe_op op_mulU (pv 1) (pe_callTy cl_int1 (by rfl) T.b_int (by decide +kernel) (pa_cons (pe_cmpR op_gtU (pe_callB cl_len (by rfl) T.b_len PySem.boot_len (pa_cons (pv 0) pa_nil)) pe_int (nomark _)) pa_nil))) pa_nil))))))), ?body⟩), hm, F.kp, bi, .nil⟩⟩
  case' body => try dsimp only [cxD, cxOf]
  case len => rintro vs H Q E ⟨a, ns, rfl, _⟩; rfl
  case body =>
    obtain ⟨a, ns, rfl, hS, hn, hq⟩ := h
    refine ⟨.ref a, rfl, a, rfl, ⟨_, hS⟩, for_list (xs := ns.map V.int) (fun _ σ H1 => H1 = H ∧ ∃ s x, σ = [some (.ref a), some (.int s), x]) ⟨rfl, 0, none, rfl⟩ (fun i σ H1 _ h => h.1 ▸ hS) ?_ ?_⟩
    · rintro i x σ H1 hx ⟨rfl, s, y, rfl⟩
      obtain ⟨n, _, rfl⟩ := List.mem_map.mp (List.mem_of_getElem? hx)
      refine ⟨.int s, rfl, .inl ⟨s, 48271, rfl, rfl, .inr ⟨by decide, by decide⟩, .int n, rfl, .inl ⟨n, 69621, rfl, rfl, .inr ⟨by decide, by decide⟩, .inl ⟨_, _, rfl, rfl, .inl ⟨_, _, rfl, rfl, _, _, rfl, rfl, (show (0 : Int) < 2147483647 by decide), rfl, _, some (.int n), rfl⟩⟩⟩⟩⟩
    · rintro σ H1 ⟨rfl, s, y, rfl⟩
      refine ⟨.ref a, rfl, _, _, rfl, .inl hS, fun l hl => ?_⟩
      have hS' : SqL K (upd H1 l (.lst (ns.map V.int))) a (ns.map V.int) := by
        rcases hS with (h | ⟨o, h⟩) | h
        · exact .inl (.inl (by rw [upd_ne (fun z => by subst z; rw [h] at hl; cases hl)]; exact h))
        · exact .inl (.inr ⟨o, by rw [upd_ne (fun z => by subst z; rw [h] at hl; cases hl)]; exact h⟩)
        · exact .inr h
      refine ⟨.int s, rfl, .ref a, rfl, .inl ⟨_, _, rfl, .inl hS', .inl ⟨_, _, rfl, rfl, .inr ⟨_, rfl, .inl ⟨s, _, rfl, rfl, .inr ⟨?_, ?_⟩, by show 2 ≤ sizeLine; decide, fun b hb => ?_⟩⟩⟩⟩⟩
      · split <;> decide
      · split <;> decide
      have nbl : b ≠ l := fun z => by subst z; rw [upd_same] at hb; cases hb
      have hb0 : H1 b = none := by rw [upd_ne nbl] at hb; exact hb
      exact hq b l _ nbl hb0 hl ((Ex.new hl).trans (.new hb)) ⟨_, ns, upd_same, by rw [upd_ne (Ne.symm nbl)]; exact upd_same⟩
end
section
open PySem PySem.Spec PyProof.Rows L2
open C8 (Cal pe_c pe_gc)
local macro_rules | `(tactic| walk_at "box") => `(tactic| (repeat (first
  | with_reducible refine ev_callB (by assumption) rfl ?_
  | with_reducible refine EN.ev (en_lst ?_)
  | walk_at "ev")))
def S__law_values (ds : List Dt) (Q : List Dt → Prop) : Prop := ∃ m : Int, ds = [.int m] ∧ 0 < m ∧ m ≤ 64 ∧ ∀ vs : List Int, 1 ≤ vs.length → (vs.length : Int) ≤ m → (∀ x ∈ vs, -9999 ≤ x ∧ x ≤ 9999) → Q (vs.map Dt.int)
abbrev sp__law_values (K : PySem.W.Frag) : Sp := spBN K S__law_values
theorem ok__law_values {P : Program} {w : World} {K : PySem.W.Frag} {mg : Str → Option Value} {base : Heap} (T : Txt K mg) (c__law_take : Cal P w K mg base 1 "_law_take" (sp__law_take K) []) : Cal P w K mg base 2 "_law_values" (sp__law_values K) [] := by
  refine cal_boxN T.f__law_values sc__law_values (fun z => nomatch z) ?len fun f cdv A outer s H E hr => ⟨_, (pss_cons (ps_set (i := 2) sc__law_values.nd rfl (Or.inl rfl) (pe_lst pa_nil))
      (pss_cons (ps_set (i := 3) sc__law_values.nd rfl (Or.inl rfl) (pe_op op_addU pe_int (pe_c c__law_take hr (by decide) (by rfl) (pa_cons (pv 0) (pa_cons (pv 1) pa_nil)))))
      (pss_cons (ps_while PassesOwn.never (pt_cmpR op_ltU (pe_callB cl_len (by rfl) T.b_len PySem.boot_len (pa_cons (pv 2) pa_nil)) (pv 3) (nomark _)) (pss_cons (ps_set (i := 4) sc__law_values.nd rfl (Or.inl rfl) (pe_c c__law_take hr (by decide) (by rfl) (pa_cons (pv 0) (pa_cons pe_int pa_nil))))
      (pss_cons (ps_set (i := 5) sc__law_values.nd rfl (Or.inl rfl) (pe_ix ix_seq (pe_lst (pa_cons (pe_c c__law_take hr (by decide) (by rfl) (pa_cons (pv 0) (pa_cons pe_int pa_nil))) (pa_cons (pe_op op_subU (pe_c c__law_take hr (by decide) (by rfl) (pa_cons (pv 0) (pa_cons pe_int pa_nil))) pe_int) pa_nil))) (pe_c c__law_take hr (by decide) (by rfl) (pa_cons (pv 0) (pa_cons pe_int pa_nil))) (fun _ _ => rfl)))
      (pss_cons (ps_set (i := 6) sc__law_values.nd rfl (Or.inl rfl) (pe_ix ix_seq (pe_lst (pa_cons pe_int (pa_cons pe_int (pa_cons (pe_op op_addU pe_int (pe_c c__law_take hr (by decide) (by rfl) (pa_cons (pv 0) (pa_cons pe_int pa_nil)))) (pa_cons (pe_op op_subU (pe_c c__law_take hr (by decide) (by rfl) (pa_cons (pv 0) (pa_cons pe_int pa_nil))) pe_int) pa_nil))))) (pe_c c__law_take hr (by decide) (by rfl) (pa_cons (pv 0) (pa_cons pe_int pa_nil))) (fun _ _ => rfl)))
      (pss_one (ps_for PassesOwn.never rfl (pi_range1 (by rfl) T.b_range (pa_cons (pe_op op_addU pe_int (pe_c c__law_take hr (by decide) (by rfl) (pa_cons (pv 0) (pa_cons (pe_ix ix_seq (pe_lst (pa_cons pe_int (pa_cons pe_int (pa_cons pe_int pa_nil)))) (pe_c c__law_take hr (by decide) (by rfl) (pa_cons (pv 0) (pa_cons pe_int pa_nil))) (fun _ _ => rfl)) pa_nil)))) pa_nil)) (pg_name (i := 7) sc__law_values.nd rfl (Or.inl rfl)) (pss_cons (ps_set (i := 8) sc__law_values.nd rfl (Or.inl rfl) (pe_lst (pa_cons (pv 5) (pa_cons (pe_op op_addU (pv 5) (pe_c c__law_take hr (by decide) (by rfl) (pa_cons (pv 0) (pa_cons pe_int pa_nil)))) (pa_cons (pe_op op_addU (pv 5) (pe_c c__law_take hr (by decide) (by rfl) (pa_cons (pv 0) (pa_cons pe_int pa_nil)))) (pa_cons (pe_op op_addU (pv 5) (pe_op op_mulU (pv 6) (pv 7))) pa_nil))))))
      (pss_cons (ps_set (i := 8) sc__law_values.nd rfl (Or.inl rfl) (pe_op op_addU (pv 8) (pe_lst (pa_cons (pe_ix ix_seq (pe_lst (pa_cons (pv 5) (pa_cons (pe_op op_subU pe_int (pv 5)) (pa_cons pe_int (pa_cons pe_int (pa_cons (pe_un un_neg pe_int) pa_nil)))))) (pe_c c__law_take hr (by decide) (by rfl) (pa_cons (pv 0) (pa_cons pe_int pa_nil))) (fun _ _ => rfl)) (pa_cons (pe_op op_subU (pe_c c__law_take hr (by decide) (by rfl) (pa_cons (pv 0) (pa_cons pe_int pa_nil))) pe_int) pa_nil)))))
      (pss_one (ps_expr (pe_bm PySem.F.plainAttrs_list PySem.F.slot_list_append PySem.F.type_list_append mt_append (pv 2) (pa_cons (pe_callB (cl_max2 rfl) (by rfl) T.b_max (by decide +kernel) (pa_cons (pe_un un_neg pe_int) (pa_cons (pe_callB (cl_min2 rfl) (by rfl) T.b_min (by decide +kernel) (pa_cons pe_int (pa_cons (pe_ix ix_seq (pv 8) (pv 4) (fun _ _ => rfl)) pa_nil))) pa_nil))) pa_nil))))))))))))
      (pss_one (ps_ret (pe_slice sl_list (pv 2) po_none (po_some (pv 3)))))))), ?body⟩
  case' body => try dsimp only [cxD, cxOf]
  case len => rintro ds Q ⟨b, rfl, _⟩; rfl
  case body =>
    rintro ds Q ⟨m, rfl, h0, h1, hq⟩ b l hne hid H0 D dom hD
    show NJ _ _ _ _ [.rw (.ref b), .im (.int m), .un, .un, .un, .un, .un, .un, .un]
    refine q_asgN (en_lst ?_)
    walk_at "box"
    walk_at "nm"
    refine q_asg ?_
    walk_at "box"
    refine take_j h0 (by omega) fun c c0 c1 => ?_
    walk_at "box"
    walk_at "nm"
    refine q_while (fun k ρ' => ∃ vs : List Int, k = 64 - vs.length ∧ (∀ x ∈ vs, -9999 ≤ x ∧ x ≤ 9999) ∧ vs.length ≤ 128 ∧ ρ' = [.rw (.ref b), .im (.int m), .ac (vs.map Dt.int), .im (.int (1 + c)), .un, .un, .un, .un, .un]) 64 ⟨[], rfl, fun x h => (by cases h), by decide, rfl⟩ ?_
    rintro k ρ' ⟨vs, rfl, hv, hl, rfl⟩
    refine etj_peek (i := 2) rfl ?_
    walk_at "nm"
    walk_at "box"
    refine bl_two (fun hlt => ?_) (fun hge => ?_)
    · refine q_asg ?_
      walk_at "box"
      refine take_j (by omega) (by omega) fun wy w0 w1 => ?_
      walk_at "nm"
      refine q_asg ?_
      walk_at "box"
      refine take_j (by omega) (by omega) fun r1 a1 b1 => ?_
      walk_at "box"
      refine take_j (by omega) (by omega) fun r2 a2 b2 => ?_
      walk_at "box"
      refine take_j (by omega) (by omega) fun r3 a3 b3 => ?_
      have hbg : ∃ bg, atI [Dt.int r1, Dt.int (r2 - 9999)] r3 = some (.int bg) ∧ -9999 ≤ bg ∧ bg ≤ 9999 := by
        rcases (by omega : r3 = 0 ∨ r3 = 1) with rfl | rfl
        · exact ⟨r1, rfl, by omega, by omega⟩
        · exact ⟨_, rfl, by omega, by omega⟩
      obtain ⟨bg, hbg, g0, g1⟩ := hbg
      refine ix_l hbg ?_
      walk_at "nm"
      refine q_asg ?_
      walk_at "box"
      refine take_j (by omega) (by omega) fun r4 a4 b4 => ?_
      walk_at "box"
      refine take_j (by omega) (by omega) fun r5 a5 b5 => ?_
      walk_at "box"
      refine take_j (by omega) (by omega) fun r6 a6 b6 => ?_
      have hst : ∃ st, atI [Dt.int 0, Dt.int 1, Dt.int (1 + r4), Dt.int (r5 - 200)] r6 = some (.int st) ∧ -200 ≤ st ∧ st ≤ 200 := by
        rcases (by omega : r6 = 0 ∨ r6 = 1 ∨ r6 = 2 ∨ r6 = 3) with rfl | rfl | rfl | rfl
        · exact ⟨0, rfl, by omega, by omega⟩
        · exact ⟨1, rfl, by omega, by omega⟩
        · exact ⟨_, rfl, by omega, by omega⟩
        · exact ⟨_, rfl, by omega, by omega⟩
      obtain ⟨st, hst, g2, g3⟩ := hst
      refine ix_l hst ?_
      walk_at "nm"
      refine nj_for (ij_rng1 ?_)
      walk_at "box"
      refine take_j (by omega) (by omega) fun r7 a7 b7 => ?_
      have htm : ∃ tm, atI [Dt.int 9, Dt.int 9, Dt.int 32] r7 = some (.int tm) ∧ 9 ≤ tm ∧ tm ≤ 32 := by
        rcases (by omega : r7 = 0 ∨ r7 = 1 ∨ r7 = 2) with rfl | rfl | rfl
        · exact ⟨9, rfl, by omega, by omega⟩
        · exact ⟨9, rfl, by omega, by omega⟩
        · exact ⟨32, rfl, by omega, by omega⟩
      obtain ⟨tm, htm, g4, g5⟩ := htm
      refine ix_l htm ?_
      walk_at "box"
      refine take_j (by omega) (by omega) fun r8 a8 b8 => ?_
      walk_at "box"
      refine ⟨1 + r8, rfl, by omega, by omega, fun i ρ' => ∃ ws : List Int, ws.length = vs.length + i ∧ (∀ x ∈ ws, -9999 ≤ x ∧ x ≤ 9999) ∧ ρ' = [.rw (.ref b), .im (.int m), .ac (ws.map Dt.int), .im (.int (1 + c)), .im (.int wy), .im (.int bg), .im (.int st), .un, .un], ⟨vs, rfl, hv, rfl⟩, ?_, ?_⟩
      · rintro H1 e1 i d ρ' hi ⟨ws, hw, hwb, rfl⟩
        obtain ⟨hi2, rfl⟩ := rangeD_at hi
        have hi3 : i ≤ 40 := by omega
        refine tg_name ?_
        walk_at "nm"
        refine q_asg ?_
        walk_at "box"
        refine take_j (by omega) (by omega) fun r9 a9 b9 => ?_
        walk_at "box"
        refine take_j (by omega) (by omega) fun r10 a10 b10 => ?_
        walk_at "box"
        walk_at "nm"
        refine q_asg ?_
        walk_at "box"
        refine take_j (by omega) (by omega) fun r11 a11 b11 => ?_
        have hsm : ∃ sm, atI [Dt.int bg, Dt.int (0 - bg), Dt.int 7, Dt.int 9999, Dt.int (-9999)] r11 = some (.int sm) := by
          rcases (by omega : r11 = 0 ∨ r11 = 1 ∨ r11 = 2 ∨ r11 = 3 ∨ r11 = 4) with rfl | rfl | rfl | rfl | rfl
          · exact ⟨_, rfl⟩
          · exact ⟨_, rfl⟩
          · exact ⟨_, rfl⟩
          · exact ⟨_, rfl⟩
          · exact ⟨_, rfl⟩
        obtain ⟨sm, hsm⟩ := hsm
        refine ix_l hsm ?_
        walk_at "box"
        refine take_j (by omega) (by omega) fun r12 a12 b12 => ?_
        walk_at "box"
        refine R2N.j (add_l (by dsimp only [List.length_cons, List.length_nil]; decide) ?_)
        walk_at "nm"
        dsimp only [List.cons_append, List.nil_append]
        refine nj_app rfl (by rw [List.length_map]; omega) ?_
        walk_at "box"
        have hsw : ∃ x, atI [Dt.int bg, Dt.int (bg + r9), Dt.int (bg + r10), Dt.int (bg + st * (0 + (i : Int))), Dt.int sm, Dt.int (r12 - 9999)] wy = some (.int x) := by
          rcases (by omega : wy = 0 ∨ wy = 1 ∨ wy = 2 ∨ wy = 3 ∨ wy = 4 ∨ wy = 5) with rfl | rfl | rfl | rfl | rfl | rfl <;> exact ⟨_, rfl⟩
        obtain ⟨x, hsw⟩ := hsw
        refine ix_l hsw ?_
        walk_at "box"
        try refine min2_i ?_
        try walk_at "box"
        try refine max2_i ?_
        walk_at "nm"
        refine nj_nxw _ ⟨ws ++ [if (if x < 9999 then x else 9999) > -9999 then (if x < 9999 then x else 9999) else -9999], ?_, ?_, rfl⟩ ?_
        rotate_left 2
        · rw [List.map_append]
          exact (.same (.same (.same (.same (.same (.same (.same (.un (.un .nil)))))))))
        · rw [List.length_append, hw]; rfl
        · intro y hy
          rcases List.mem_append.mp hy with hy | hy
          · exact hwb y hy
          · rw [List.mem_singleton] at hy
            subst hy
            split <;> split <;> omega
      · rintro ρ' ⟨ws, hw, hwb, rfl⟩
        rw [rangeD_len] at hw
        refine nj_nxw _ ⟨_, ?_, ws, rfl, hwb, ?_, rfl⟩ (.same (.same (.same (.same (.un (.un (.un (.un (.un .nil)))))))))
        · omega
        · omega
    · refine nj_share (i := 2) rfl ?_
      walk_at "nm"
      refine nj_retN (en_sl ?_)
      walk_at "box"
      refine hD.rt _ ?_
      have e : cutD (vs.map Dt.int) none (some (1 + c)) = (vs.take (1 + c).toNat).map Dt.int := by
        unfold cutD
        have e1 : HT.sIx (vs.map Dt.int).length (vs.map Dt.int).length (some (1 + c)) = (1 + c).toNat := by
          show (if 1 + c < 0 then _ else min (1 + c).toNat _) = _
          rw [if_neg (by omega), List.length_map]
          omega
        rw [e1, HT.sIx_none, List.drop_zero, Nat.sub_zero, List.map_take]
      rw [e]
      refine hq _ ?_ ?_ fun x hx => hv x (List.mem_of_mem_take hx)
      · rw [List.length_take]; omega
      · rw [List.length_take]; omega
end
section
open PySem PySem.Spec PyProof.Rows L2
open C8 (Cal pe_c pe_gc)
def S__law_alike (n : Nat) (ds : List Dt) (Q : Dt → Prop) : Prop := ∃ d, ds = [d, d] ∧ Al n d ∧ Q (.bl true)
abbrev sp__law_alike (n : Nat) (K : PySem.W.Frag) : Sp := spP K (S__law_alike n)
theorem ok__law_alike {P : Program} {w : World} {K : PySem.W.Frag} {mg : Str → Option Value} {base : Heap} (T : Txt K mg)  (n : Nat) : Cal P w K mg base (n + 1) "_law_alike" (sp__law_alike n K) [] := by
  induction n with
  | zero =>
    refine cal_pure T.f__law_alike sc__law_alike ?len fun f cdv A outer s H E hr => ⟨_, (pss_cons (ps_if (pt_cmpR op_isU (pv 1) pe_non (nomark _)) (pss_one (ps_ret (pe_cmpR op_isU (pv 0) pe_non (nomark _)))) pss_nil)
      (pss_cons (ps_if (pt_val (pe_callB call_isi (by rfl) T.b_isinstance (by decide +kernel) (pa_cons (pv 1) (pa_cons (pe_bltn (v := .ty "bool") (by rfl) T.b_bool (by decide +kernel) rfl) pa_nil)))) (pss_one (ps_ret (pe_and (pe_callB call_isi (by rfl) T.b_isinstance (by decide +kernel) (pa_cons (pv 0) (pa_cons (pe_bltn (v := .ty "bool") (by rfl) T.b_bool (by decide +kernel) rfl) pa_nil))) (pe_one (pe_cmpR (op_eqU hr.units) (pv 0) (pv 1) (nomark _)))))) pss_nil)
      (pss_cons (ps_if (pt_val (pe_callB call_isi (by rfl) T.b_isinstance (by decide +kernel) (pa_cons (pv 1) (pa_cons (pe_bltn (v := .ty "int") (by rfl) T.b_int (by decide +kernel) rfl) pa_nil)))) (pss_one (ps_ret (pe_and (pe_callB call_isi (by rfl) T.b_isinstance (by decide +kernel) (pa_cons (pv 0) (pa_cons (pe_bltn (v := .ty "int") (by rfl) T.b_int (by decide +kernel) rfl) pa_nil))) (pe_and (pe_not (pe_callB call_isi (by rfl) T.b_isinstance (by decide +kernel) (pa_cons (pv 0) (pa_cons (pe_bltn (v := .ty "bool") (by rfl) T.b_bool (by decide +kernel) rfl) pa_nil)))) (pe_one (pe_cmpR (op_eqU hr.units) (pv 0) (pv 1) (nomark _))))))) pss_nil)
      (pss_cons (ps_if (pt_val (pe_callB call_isi (by rfl) T.b_isinstance (by decide +kernel) (pa_cons (pv 1) (pa_cons (pe_bltn (v := .ty "str") (by rfl) T.b_str (by decide +kernel) rfl) pa_nil)))) (pss_one (ps_ret (pe_and (pe_callB call_isi (by rfl) T.b_isinstance (by decide +kernel) (pa_cons (pv 0) (pa_cons (pe_bltn (v := .ty "str") (by rfl) T.b_str (by decide +kernel) rfl) pa_nil))) (pe_one (pe_cmpR (op_eqU hr.units) (pv 0) (pv 1) (nomark _)))))) pss_nil)
      pss_never)))), ?body⟩
    case' body => try dsimp only [cxD, cxOf]
    case len => rintro ds Q ⟨b, rfl, _⟩; rfl
    case body =>
      rintro ds Q ⟨d, rfl, h, hq⟩ hid H0 D dom hD
      show NJ _ _ _ _ [.im d, .im d, .un]
      cases h with
      | non =>
        refine q_when ?_
        walk_at "go"
        refine bl_yes rfl (nj_ret ?_)
        walk_at "go"
        exact hD.rt _ hq
      | bl b =>
        refine q_when ?_
        walk_at "go"
        refine bl_no rfl (q_when ?_)
        walk_at "go"
        refine ⟨rfl, _, k_bb, bl_yes rfl (nj_ret ?_)⟩
        walk_at "go"
        refine ⟨rfl, _, k_bb, bl_yes rfl ?_⟩
        walk_at "go"
        refine eq_b ?_
        rw [decide_eq_true rfl]
        exact hD.rt _ hq
      | int i =>
        refine q_when ?_
        walk_at "go"
        refine bl_no rfl (q_when ?_)
        walk_at "go"
        refine ⟨rfl, _, k_ib, bl_no rfl (q_when ?_)⟩
        walk_at "go"
        refine ⟨rfl, _, k_ii, bl_yes rfl (nj_ret ?_)⟩
        walk_at "go"
        refine ⟨rfl, _, k_ii, bl_yes rfl ?_⟩
        walk_at "go"
        refine ⟨rfl, _, k_ib, ?_⟩
        walk_at "go"
        refine bl_yes rfl ?_
        walk_at "go"
        rw [decide_eq_true rfl]
        exact hD.rt _ hq
      | str x =>
        refine q_when ?_
        walk_at "go"
        refine bl_no rfl (q_when ?_)
        walk_at "go"
        refine ⟨rfl, _, k_sb, bl_no rfl (q_when ?_)⟩
        walk_at "go"
        refine ⟨rfl, _, k_si, bl_no rfl (q_when ?_)⟩
        walk_at "go"
        refine ⟨rfl, _, k_ss, bl_yes rfl (nj_ret ?_)⟩
        walk_at "go"
        refine ⟨rfl, _, k_ss, bl_yes rfl ?_⟩
        walk_at "go"
        rw [decide_eq_true rfl]
        exact hD.rt _ hq
  | succ n ih =>
    have c__law_alike := ih
    refine cal_pure T.f__law_alike sc__law_alike ?len fun f cdv A outer s H E hr => ⟨_, (pss_cons (ps_if (pt_cmpR op_isU (pv 1) pe_non (nomark _)) (pss_one (ps_ret (pe_cmpR op_isU (pv 0) pe_non (nomark _)))) pss_nil)
      (pss_cons (ps_if (pt_val (pe_callB call_isi (by rfl) T.b_isinstance (by decide +kernel) (pa_cons (pv 1) (pa_cons (pe_bltn (v := .ty "bool") (by rfl) T.b_bool (by decide +kernel) rfl) pa_nil)))) (pss_one (ps_ret (pe_and (pe_callB call_isi (by rfl) T.b_isinstance (by decide +kernel) (pa_cons (pv 0) (pa_cons (pe_bltn (v := .ty "bool") (by rfl) T.b_bool (by decide +kernel) rfl) pa_nil))) (pe_one (pe_cmpR (op_eqU hr.units) (pv 0) (pv 1) (nomark _)))))) pss_nil)
      (pss_cons (ps_if (pt_val (pe_callB call_isi (by rfl) T.b_isinstance (by decide +kernel) (pa_cons (pv 1) (pa_cons (pe_bltn (v := .ty "int") (by rfl) T.b_int (by decide +kernel) rfl) pa_nil)))) (pss_one (ps_ret (pe_and (pe_callB call_isi (by rfl) T.b_isinstance (by decide +kernel) (pa_cons (pv 0) (pa_cons (pe_bltn (v := .ty "int") (by rfl) T.b_int (by decide +kernel) rfl) pa_nil))) (pe_and (pe_not (pe_callB call_isi (by rfl) T.b_isinstance (by decide +kernel) (pa_cons (pv 0) (pa_cons (pe_bltn (v := .ty "bool") (by rfl) T.b_bool (by decide +kernel) rfl) pa_nil)))) (pe_one (pe_cmpR (op_eqU hr.units) (pv 0) (pv 1) (nomark _))))))) pss_nil)
      (pss_cons (ps_if (pt_val (pe_callB call_isi (by rfl) T.b_isinstance (by decide +kernel) (pa_cons (pv 1) (pa_cons (pe_bltn (v := .ty "str") (by rfl) T.b_str (by decide +kernel) rfl) pa_nil)))) (pss_one (ps_ret (pe_and (pe_callB call_isi (by rfl) T.b_isinstance (by decide +kernel) (pa_cons (pv 0) (pa_cons (pe_bltn (v := .ty "str") (by rfl) T.b_str (by decide +kernel) rfl) pa_nil))) (pe_one (pe_cmpR (op_eqU hr.units) (pv 0) (pv 1) (nomark _)))))) pss_nil)
      (pss_cons (ps_if ((pw_or (pt_cmpR (op_neU hr.units) (pe_callB call_isi (by rfl) T.b_isinstance (by decide +kernel) (pa_cons (pv 1) (pa_cons (pe_bltn (v := .ty "tuple") (by rfl) T.b_tuple (by decide +kernel) rfl) pa_nil))) (pe_callB call_isi (by rfl) T.b_isinstance (by decide +kernel) (pa_cons (pv 0) (pa_cons (pe_bltn (v := .ty "tuple") (by rfl) T.b_tuple (by decide +kernel) rfl) pa_nil))) (nomark _)) (pw_or1 (pt_cmpR (op_neU hr.units) (pe_callB call_isi (by rfl) T.b_isinstance (by decide +kernel) (pa_cons (pv 1) (pa_cons (pe_bltn (v := .ty "list") (by rfl) T.b_list (by decide +kernel) rfl) pa_nil))) (pe_callB call_isi (by rfl) T.b_isinstance (by decide +kernel) (pa_cons (pv 0) (pa_cons (pe_bltn (v := .ty "list") (by rfl) T.b_list (by decide +kernel) rfl) pa_nil))) (nomark _))))).pt (pss_one (ps_ret pe_bl)) pss_nil)
      (pss_cons (ps_if (pt_cmpR (op_neU hr.units) (pe_callB cl_len (by rfl) T.b_len PySem.boot_len (pa_cons (pv 0) pa_nil)) (pe_callB cl_len (by rfl) T.b_len PySem.boot_len (pa_cons (pv 1) pa_nil)) (nomark _)) (pss_one (ps_ret pe_bl)) pss_nil)
      (pss_cons (ps_for PassesOwn.never rfl (pi_range1 (by rfl) T.b_range (pa_cons (pe_callB cl_len (by rfl) T.b_len PySem.boot_len (pa_cons (pv 1) pa_nil)) pa_nil)) (pg_name (i := 2) sc__law_alike.nd rfl (Or.inl rfl)) (pss_one (ps_if (pt_not (pt_val (pe_c c__law_alike hr (Nat.le_refl _) (by rfl) (pa_cons (pe_ix ix_seq (pv 0) (pv 2) (fun _ _ => rfl)) (pa_cons (pe_ix ix_seq (pv 1) (pv 2) (fun _ _ => rfl)) pa_nil))))) (pss_one (ps_ret pe_bl)) pss_nil)))
      (pss_one (ps_ret pe_bl))))))))), ?body⟩
    case' body => try dsimp only [cxD, cxOf]
    case len => rintro ds Q ⟨b, rfl, _⟩; rfl
    case body =>
      rintro ds Q ⟨d, rfl, h, hq⟩ hid H0 D dom hD
      show NJ _ _ _ _ [.im d, .im d, .un]
      cases h with
      | non =>
        refine q_when ?_
        walk_at "go"
        refine bl_yes rfl (nj_ret ?_)
        walk_at "go"
        exact hD.rt _ hq
      | bl b =>
        refine q_when ?_
        walk_at "go"
        refine bl_no rfl (q_when ?_)
        walk_at "go"
        refine ⟨rfl, _, k_bb, bl_yes rfl (nj_ret ?_)⟩
        walk_at "go"
        refine ⟨rfl, _, k_bb, bl_yes rfl ?_⟩
        walk_at "go"
        refine eq_b ?_
        rw [decide_eq_true rfl]
        exact hD.rt _ hq
      | int i =>
        refine q_when ?_
        walk_at "go"
        refine bl_no rfl (q_when ?_)
        walk_at "go"
        refine ⟨rfl, _, k_ib, bl_no rfl (q_when ?_)⟩
        walk_at "go"
        refine ⟨rfl, _, k_ii, bl_yes rfl (nj_ret ?_)⟩
        walk_at "go"
        refine ⟨rfl, _, k_ii, bl_yes rfl ?_⟩
        walk_at "go"
        refine ⟨rfl, _, k_ib, ?_⟩
        walk_at "go"
        refine bl_yes rfl ?_
        walk_at "go"
        rw [decide_eq_true rfl]
        exact hD.rt _ hq
      | str x =>
        refine q_when ?_
        walk_at "go"
        refine bl_no rfl (q_when ?_)
        walk_at "go"
        refine ⟨rfl, _, k_sb, bl_no rfl (q_when ?_)⟩
        walk_at "go"
        refine ⟨rfl, _, k_si, bl_no rfl (q_when ?_)⟩
        walk_at "go"
        refine ⟨rfl, _, k_ss, bl_yes rfl (nj_ret ?_)⟩
        walk_at "go"
        refine ⟨rfl, _, k_ss, bl_yes rfl ?_⟩
        walk_at "go"
        rw [decide_eq_true rfl]
        exact hD.rt _ hq
      | lst hds hl =>
        rename_i es
        refine q_when ?_
        walk_at "go"
        refine bl_no rfl (q_when ?_)
        walk_at "go"
        refine ⟨rfl, _, k_lb, bl_no rfl (q_when ?_)⟩
        walk_at "go"
        refine ⟨rfl, _, k_li, bl_no rfl (q_when ?_)⟩
        walk_at "go"
        refine ⟨rfl, _, k_ls, bl_no rfl (q_when ?_)⟩
        walk_at "go"
        refine ⟨rfl, _, k_lt, ?_⟩
        walk_at "go"
        refine ⟨rfl, _, k_lt, ?_⟩
        refine ne_b (or_no rfl ?_)
        walk_at "go"
        refine ⟨rfl, _, k_ll, ?_⟩
        walk_at "go"
        refine ⟨rfl, _, k_ll, ?_⟩
        refine ne_b (bl_no rfl (q_when ?_))
        walk_at "go"
        refine bl_no (by rw [decide_eq_true rfl]; rfl) ?_
        refine q_for (ij_rng1 ?_)
        walk_at "go"
        refine ⟨es.length, rfl, by omega, by omega, fun i ρ' => ρ' = [.im (.lst es), .im (.lst es), .un], rfl, ?_, ?_⟩
        · rintro H1 e1 i d ρ' hi rfl
          obtain ⟨hil, rfl⟩ := rangeD_at hi
          rw [Int.zero_add]
          have hil' : i < es.length := by omega
          refine tg_name ?_
          walk_at "nm"
          refine nj_when ?_
          walk_at "go"
          refine ix_l (atI_nat (List.getElem?_eq_getElem hil')) ?_
          walk_at "go"
          refine ix_l (atI_nat (List.getElem?_eq_getElem hil')) ?_
          walk_at "go"
          refine sp_j ⟨_, rfl, hds _ (List.getElem_mem hil'), ?_⟩
          refine bl_no rfl ?_
          exact nj_nxw _ rfl (.same (.same (.un .nil)))
        · rintro ρ' rfl
          refine nj_ret ?_
          walk_at "go"
          exact hD.rt _ hq
      | tup hds hl =>
        rename_i es
        refine q_when ?_
        walk_at "go"
        refine bl_no rfl (q_when ?_)
        walk_at "go"
        refine ⟨rfl, _, k_tb, bl_no rfl (q_when ?_)⟩
        walk_at "go"
        refine ⟨rfl, _, k_ti, bl_no rfl (q_when ?_)⟩
        walk_at "go"
        refine ⟨rfl, _, k_ts, bl_no rfl (q_when ?_)⟩
        walk_at "go"
        refine ⟨rfl, _, k_tt, ?_⟩
        walk_at "go"
        refine ⟨rfl, _, k_tt, ?_⟩
        refine ne_b (or_no rfl ?_)
        walk_at "go"
        refine ⟨rfl, _, k_tl, ?_⟩
        walk_at "go"
        refine ⟨rfl, _, k_tl, ?_⟩
        refine ne_b (bl_no rfl (q_when ?_))
        walk_at "go"
        refine bl_no (by rw [decide_eq_true rfl]; rfl) ?_
        refine q_for (ij_rng1 ?_)
        walk_at "go"
        refine ⟨es.length, rfl, by omega, by omega, fun i ρ' => ρ' = [.im (.tup es), .im (.tup es), .un], rfl, ?_, ?_⟩
        · rintro H1 e1 i d ρ' hi rfl
          obtain ⟨hil, rfl⟩ := rangeD_at hi
          rw [Int.zero_add]
          have hil' : i < es.length := by omega
          refine tg_name ?_
          walk_at "nm"
          refine nj_when ?_
          walk_at "go"
          refine ix_t (atI_nat (List.getElem?_eq_getElem hil')) ?_
          walk_at "go"
          refine ix_t (atI_nat (List.getElem?_eq_getElem hil')) ?_
          walk_at "go"
          refine sp_j ⟨_, rfl, hds _ (List.getElem_mem hil'), ?_⟩
          refine bl_no rfl ?_
          exact nj_nxw _ rfl (.same (.same (.un .nil)))
        · rintro ρ' rfl
          refine nj_ret ?_
          walk_at "go"
          exact hD.rt _ hq
end
section
open PySem PySem.Spec PyProof.Rows L2
open C8 (Cal pe_c pe_gc)
def S__law_per (ds : List Dt) (Q : Dt → Prop) : Prop := ∃ b : Int, ds = [.int b] ∧ 2 ≤ b ∧ b ≤ 10000 ∧ Q (.int (perB b : Nat))
abbrev sp__law_per (K : PySem.W.Frag) : Sp := spP K S__law_per
theorem ok__law_per {P : Program} {w : World} {K : PySem.W.Frag} {mg : Str → Option Value} {base : Heap} (T : Txt K mg)  : Cal P w K mg base 1 "_law_per" (sp__law_per K) [] := by
  refine cal_pure T.f__law_per sc__law_per ?len fun f cdv A outer s H E hr => ⟨_, (pss_cons (ps_set (i := 1) sc__law_per.nd rfl (Or.inl rfl) pe_int)
      (pss_cons (ps_set (i := 2) sc__law_per.nd rfl (Or.inl rfl) pe_int)
      (pss_cons (ps_while PassesOwn.never (pt_cmpR op_leU (pe_op op_mulU (pv 2) (pv 0)) pe_int (nomark _)) (pss_cons (ps_set (i := 2) sc__law_per.nd rfl (Or.inl rfl) (pe_op op_mulU (pv 2) (pv 0)))
      (pss_one (ps_set (i := 1) sc__law_per.nd rfl (Or.inl rfl) (pe_op op_addU (pv 1) pe_int)))))
      (pss_one (ps_ret (pv 1)))))), ?body⟩
  case' body => try dsimp only [cxD, cxOf]
  case len => rintro ds Q ⟨b, rfl, _⟩; rfl
  case body =>
    rintro ds Q ⟨b, rfl, h2, h3, hq⟩ hid H0 D dom hD
    show NJ _ _ _ _ [.im (.int b), .un, .un]
    refine q_asg ?_
    walk_at "go"
    walk_at "nm"
    refine q_asg ?_
    walk_at "go"
    walk_at "nm"
    refine (q_while (fun mm ρ' => ∃ (x : Int) (j : Nat), ρ' = [.im (.int b), .im (.int (j : Nat)), .im (.int x)] ∧ 1 ≤ x ∧ x ≤ 10000 ∧ (x * b ≤ 10000 → ∃ m, mm = m + 1 ∧ perB b = j + (powB b m x).length ∧ 2 ^ (14 - m) ≤ x ∧ m ≤ 14) ∧ (10000 < x * b → perB b = j)) 15 ?_ ?_)
    · exact ⟨1, 0, rfl, by decide, by decide, fun _ => ⟨14, rfl, by rw [Nat.zero_add]; rfl, by decide, by decide⟩, fun h => by omega⟩
    · rintro mm ρ' ⟨x, j, rfl, x1, x2, i1, i2⟩
      refine etj (et_test ?_)
      walk_at "go"
      refine bl_two (fun hc => ?_) (fun hc => ?_)
      · obtain ⟨m, rfl, e, hp, hm⟩ := i1 hc
        refine q_asg ?_
        walk_at "go"
        walk_at "nm"
        refine nj_asg ?_
        walk_at "go"
        walk_at "nm"
        have hxx : x ≤ x * b := by
          have : x * 1 ≤ x * b := Int.mul_le_mul_of_nonneg_left (by omega) (by omega)
          omega
        cases m with
        | zero =>
          exfalso
          have : (2 : Int) ^ (14 - 0) = 16384 := by decide
          omega
        | succ m =>
          by_cases h4 : x * b * b ≤ 10000
          · refine nj_nx ⟨m + 1, by omega, x * b, j + 1, by rw [Int.natCast_add]; rfl, by omega, hc, fun _ => ⟨m, rfl, ?_, ?_, by omega⟩, fun z => by omega⟩
            · rw [e, powB, if_pos h4, List.length_cons]; omega
            · have e1 : 14 - m = (14 - (m + 1)) + 1 := by omega
              rw [e1, Int.pow_succ]
              exact Int.mul_le_mul hp h2 (by decide) (by omega)
          · refine nj_nx ⟨0, by omega, x * b, j + 1, by rw [Int.natCast_add]; rfl, by omega, hc, fun z => absurd z h4, fun _ => ?_⟩
            rw [e, powB, if_neg h4]; rfl
      · refine nj_ret ?_
        walk_at "go"
        have e := i2 (by omega)
        rw [e] at hq
        exact hD.rt _ hq
theorem cut_step {vs : List Int} {b p : Nat} : cutD (vs.map Dt.int) (some (b : Int)) (some ((b : Int) + (p : Int))) = ((vs.drop b).take p).map Dt.int := by
  unfold cutD
  rw [show ((b : Int) + (p : Int)) = ((b + p : Nat) : Int) by omega, HT.sIx_nat, HT.sIx_nat, List.length_map, ← List.map_drop, ← List.map_take]
  by_cases h : b ≤ vs.length
  · rw [Nat.min_eq_left h]
    congr 1
    by_cases h2 : b + p ≤ vs.length
    · rw [Nat.min_eq_left h2, show b + p - b = p by omega]
    · rw [Nat.min_eq_right (by omega), List.take_of_length_le (by rw [List.length_drop]; omega), List.take_of_length_le (by rw [List.length_drop]; omega)]
  · have e1 : min b vs.length = vs.length := by omega
    rw [e1, List.drop_of_length_le (Nat.le_refl _), List.drop_of_length_le (l := vs) (i := b) (by omega), List.take_nil, List.take_nil]
def S__law_packed (ds : List Dt) (Q : Dt → Prop) : Prop := ∃ (b : Int) (vs : List Int), ds = [.int b, dL vs] ∧ 2 ≤ b ∧ b ≤ 10000 ∧ vs.length ≤ 1000 ∧ Q (dT (packI b vs))
abbrev sp__law_packed (K : PySem.W.Frag) : Sp := spP K S__law_packed
theorem ok__law_packed {P : Program} {w : World} {K : PySem.W.Frag} {mg : Str → Option Value} {base : Heap} (T : Txt K mg) (c__law_per : Cal P w K mg base 1 "_law_per" (sp__law_per K) []) : Cal P w K mg base 2 "_law_packed" (sp__law_packed K) [] := by
  refine cal_pure T.f__law_packed sc__law_packed ?len fun f cdv A outer s H E hr => ⟨_, (pss_cons (ps_set (i := 2) sc__law_packed.nd rfl (Or.inl rfl) (pe_c c__law_per hr (by decide) (by rfl) (pa_cons (pv 0) pa_nil)))
      (pss_cons (ps_set (i := 3) sc__law_packed.nd rfl (Or.inl rfl) (pe_lst pa_nil))
      (pss_cons (ps_for PassesOwn.never rfl (pi_range3 (by rfl) T.b_range (pa_cons pe_int (pa_cons (pe_callB cl_len (by rfl) T.b_len PySem.boot_len (pa_cons (pv 1) pa_nil)) (pa_cons (pv 2) pa_nil)))) (pg_name (i := 4) sc__law_packed.nd rfl (Or.inl rfl)) (pss_cons (ps_set (i := 5) sc__law_packed.nd rfl (Or.inl rfl) pe_int)
      (pss_cons (ps_for PassesOwn.never rfl (pi_list (pe_revL (pe_slice sl_list (pv 1) (po_some (pv 4)) (po_some (pe_op op_addU (pv 4) (pv 2)))))) (pg_name (i := 6) sc__law_packed.nd rfl (Or.inl rfl)) (pss_one (ps_set (i := 5) sc__law_packed.nd rfl (Or.inl rfl) (pe_op op_addU (pe_op op_mulU (pv 5) (pv 0)) (pv 6)))))
      (pss_one (ps_expr (pe_bm PySem.F.plainAttrs_list PySem.F.slot_list_append PySem.F.type_list_append mt_append (pv 3) (pa_cons (pv 5) pa_nil)))))))
      (pss_one (ps_ret (pe_callTy cl_tuple (by rfl) T.b_tuple (by decide +kernel) (pa_cons (pv 3) pa_nil))))))), ?body⟩
  case' body => try dsimp only [cxD, cxOf]
  case len => rintro ds Q ⟨b, n, rfl, _⟩; rfl
  case body =>
    rintro ds Q ⟨b, vs, rfl, h2, h3, hl, hq⟩ hid H0 D dom hD
    show NJ _ _ _ _ [.im (.int b), .im (dL vs), .un, .un, .un, .un, .un]
    have hp := perB_pos b
    have hp2 := perB_le b
    have hpk := packI_len b vs
    have hcl : (chunks (perB b) vs).length = (packI b vs).length := by unfold packI; rw [List.length_map]
    refine q_asg ?_
    walk_at "go"
    refine sp_j ⟨b, rfl, h2, h3, ?_⟩
    walk_at "nm"
    refine (q_asgN (en_lst (ea_nil ⟨by decide, ?_⟩)))
    walk_at "nm"
    refine q_for (ij_rng3 ?_)
    walk_at "go"
    have ez : (((vs.length : Int) + (perB b : Int) - 1) / (perB b : Int)).toNat = (packI b vs).length := by
      rw [hpk, show ((vs.length : Int) + (perB b : Int) - 1) = ((vs.length + perB b - 1 : Nat) : Int) by omega, ← Int.natCast_ediv, Int.toNat_natCast]
    refine ⟨0, vs.length, perB b, (packI b vs).length, rfl, by rw [← ez]; exact RgC.up (by omega) (by omega) (by omega) (by omega), fun i ρ' => ρ' = [.im (.int b), .im (dL vs), .im (.int (perB b : Nat)), .ac (((packI b vs).take i).map Dt.int), .un, .un, .un], ?_, ?_, ?_⟩
    · show _ = _
      rw [List.take_zero]; rfl
    · rintro H1 e1 i d ρ' hi rfl
      obtain ⟨hil, rfl⟩ := rangeC_at hi
      have hk : i * perB b < vs.length := by
        have h5 : i * perB b ≤ ((packI b vs).length - 1) * perB b := Nat.mul_le_mul_right _ (by omega)
        have h6 : (packI b vs).length * perB b ≤ vs.length + perB b - 1 := by rw [hpk]; exact Nat.div_mul_le_self _ _
        have h7 : ((packI b vs).length - 1) * perB b = (packI b vs).length * perB b - perB b := by rw [Nat.sub_mul, Nat.one_mul]
        have h8 : perB b ≤ (packI b vs).length * perB b := Nat.le_mul_of_pos_left _ (by omega)
        omega
      have hch := chunks_at hp _ vs (i * perB b) (Nat.le_refl _) hk
      rw [Nat.mul_div_cancel _ (by omega), Nat.mul_comm (perB b) i] at hch
      have hpi : (packI b vs)[i]? = some (dsum b ((vs.drop (i * perB b)).take (perB b))) := by
        unfold packI
        rw [List.getElem?_map, hch]; rfl
      rw [show (0 : Int) + ((i : Nat) : Int) * ((perB b : Nat) : Int) = ((i * perB b : Nat) : Int) by rw [Int.natCast_mul, Int.zero_add]]
      generalize hbg : i * perB b = bg at hch hpi hk
      generalize hcs : (vs.drop bg).take (perB b) = ch at hch hpi
      have hchl : ch.length ≤ 15 := by rw [← hcs, List.length_take]; omega
      refine tg_name ?_
      walk_at "nm"
      refine q_asg ?_
      walk_at "go"
      walk_at "nm"
      refine q_for (ij_list (EN.ev (en_rev ?_)))
      walk_at "go"
      refine EN.ev (en_sl ?_)
      walk_at "go"
      rw [cut_step, hcs]
      walk_at "go"
      rw [← List.map_reverse]
      refine ⟨fun j ρ' => ρ' = [.im (.int b), .im (dL vs), .im (.int (perB b : Nat)), .ac (((packI b vs).take i).map Dt.int), .im (.int (bg : Nat)), .im (.int (dsum b (ch.reverse.take j).reverse)), .un], ?_, ?_, ?_⟩
      · rfl
      · rintro H2 e2 j d ρ' hj rfl
        obtain ⟨x, hx, rfl⟩ := ints_at hj
        refine tg_name ?_
        walk_at "nm"
        refine nj_asg ?_
        walk_at "go"
        walk_at "nm"
        refine nj_nxw _ rfl ?_
        have e : (ch.reverse.take (j + 1)).reverse = x :: (ch.reverse.take j).reverse := by rw [List.take_add_one, hx, List.reverse_append]; rfl
        have e2 : dsum b (x :: (ch.reverse.take j).reverse) = dsum b (ch.reverse.take j).reverse * b + x := by
          show x + b * _ = _
          rw [Int.mul_comm]; omega
        rw [e, e2]
        exact .same (.same (.same (.same (.same (.same (.un .nil))))))
      · rintro ρ' rfl
        rw [List.length_map, List.take_length, List.reverse_reverse]
        refine nj_app rfl ?_ ?_
        · rw [List.length_map, List.length_take, hpk]
          have := Nat.div_le_self (vs.length + perB b - 1) (perB b)
          omega
        walk_at "go"
        walk_at "nm"
        refine nj_nxw _ rfl ?_
        rw [List.take_add_one, hpi, List.map_append]
        exact .same (.same (.same (.same (.un (.un (.un .nil))))))
    · rintro ρ' rfl
      refine nj_share (i := 3) rfl ?_
      walk_at "nm"
      refine nj_ret ?_
      walk_at "go"
      rw [rangeC_len, List.take_length]
      exact hD.rt _ hq
end
section
open PySem PySem.Spec PyProof.Rows L2
open C8 (Cal pe_c pe_gc)
def S__law_above (ds : List Dt) (Q : Dt → Prop) : Prop := ∃ vs, ds = [dL vs] ∧ Vals vs ∧ Q (abvD (abv vs))
abbrev sp__law_above (K : PySem.W.Frag) : Sp := spP K S__law_above
theorem ok__law_above {P : Program} {w : World} {K : PySem.W.Frag} {mg : Str → Option Value} {base : Heap} (T : Txt K mg) (c__law_packed : Cal P w K mg base 2 "_law_packed" (sp__law_packed K) []) : Cal P w K mg base 3 "_law_above" (sp__law_above K) [] := by
  refine cal_pure T.f__law_above sc__law_above ?len fun f cdv A outer s H E hr => ⟨_, (pss_cons (ps_asg (pe_tup (pa_cons (pe_callB (cr_min rfl) (by rfl) T.b_min (by decide +kernel) (pa_cons (pv 0) pa_nil)) (pa_cons (pe_op op_subU (pe_callB (cr_max rfl) (by rfl) T.b_max (by decide +kernel) (pa_cons (pv 0) pa_nil)) (pe_callB (cr_min rfl) (by rfl) T.b_min (by decide +kernel) (pa_cons (pv 0) pa_nil))) pa_nil))) (pg_tup rfl (pgs_cons (pg_name (i := 1) sc__law_above.nd rfl (Or.inr rfl)) (pgs_cons (pg_name (i := 2) sc__law_above.nd rfl (Or.inl rfl)) pgs_nil))))
      (pss_cons (ps_if (pt_cmpR op_gtU (pv 2) pe_int (nomark _)) (pss_one (ps_ret pe_non)) pss_nil)
      (pss_one (ps_ret (pe_tup (pa_cons (pv 1) (pa_cons (pv 2) (pa_cons (pe_ifExp (pt_cmpR (op_eqU hr.units) (pv 2) pe_int (nomark _)) (pe_tup pa_nil) (pe_c c__law_packed hr (by decide) (by rfl) (pa_cons (pe_op op_addU (pv 2) pe_int) (pa_cons (pe_lc (g := (gName 3)) (tt := tYes) (te := (tOp rSubI (tVar 3) (tVar 1))) (own := [("_law_value", 3)]) rfl sc__law_above.nd (pi_list (pv 0)) (blkOk_by (N := ["_law_values_here", "_law_low", "_law_span", "_law_value"]) (sc := defScope s__law_above) (by decide +kernel)) (fun _ _ _ _ _ => (pg_name (i := 3) sc__law_above.nd rfl (Or.inl rfl))) (fun _ _ _ _ _ => pts_nil) (fun _ _ _ _ _ => (pe_op op_subU (pv 3) (pv 1)))) pa_nil)))) pa_nil)))))))), ?body⟩
  case' body => try dsimp only [cxD, cxOf]
  case len => rintro ds Q ⟨b, rfl, _⟩; rfl
  case body =>
    rintro ds Q ⟨vs, rfl, h, hq⟩ hid H0 D dom hD
    show NJ _ _ _ _ [.im (dL vs), .un, .un, .un]
    have hl := h.le
    have hne := h.ne
    have hsp := spanL_nn h.ne
    refine q_asgT ?_
    walk_at "go"
    refine tg_tup rfl (tgs_name (tgs_name (tgs_nil ?_)))
    walk_at "nm"
    show NJ _ _ _ _ [.im (dL vs), .im (.int (minL vs)), .im (.int (spanL vs)), .un]
    refine q_when ?_
    walk_at "go"
    refine bl_two (fun hc => ?_) (fun hc => ?_)
    · refine nj_ret ?_
      walk_at "go"
      rw [abv_no (by omega)] at hq
      exact hD.rt _ hq
    · rw [abv_yes (by omega)] at hq
      refine nj_ret ?_
      walk_at "go"
      refine bl_two (fun hp => ?_) (fun hp => ?_)
      · rw [if_neg (by omega)] at hq
        walk_at "go"
        exact hD.rt _ hq
      · rw [if_pos (by omega)] at hq
        walk_at "go"
        refine EN.ev (en_mapI (by decide) ?_)
        walk_at "go"
        refine ⟨vs, fun v => .int (v - minL vs), rfl, by omega, fun x hx => et_yes ⟨rfl, ?_⟩, ?_⟩
        · walk_at "nm"
          walk_at "go"
          rfl
        · have e : vs.map (fun v => Dt.int (v - minL vs)) = (vs.map fun v => v - minL vs).map Dt.int := by rw [List.map_map]; rfl
          rw [e]
          walk_at "go"
          refine sp_j ⟨_, _, rfl, by omega, by omega, by rw [List.length_map]; omega, ?_⟩
          walk_at "go"
          exact hD.rt _ hq
theorem same_uniq {vs : List Int} (hne : vs ≠ []) : (((vs.map Dt.int).filter fun d => match d with | .int x => !decide (x = vs.headD 0) | _ => false).map id).isEmpty = decide ((uniq vs).length = 1) := by
  have hp := uniq_pos hne
  rw [List.map_id]
  by_cases h : ∀ x ∈ vs, x = vs.headD 0
  · have e : (uniq vs).length ≤ 1 := nodup_len_le (uniq vs) [vs.headD 0] (nodup_of_pw (pw_uniq vs)) fun k hk => List.mem_singleton.mpr (h k (mem_uniq.mp hk))
    rw [decide_eq_true (by omega), List.isEmpty_iff, List.filter_eq_nil_iff]
    intro d hd
    obtain ⟨x, hx, rfl⟩ := List.mem_map.mp hd
    simp [h x hx]
  · have e : (uniq vs).length ≠ 1 := fun z => h (laid_one (by unfold layOne; rw [if_pos z])).2
    rw [decide_eq_false e, List.isEmpty_eq_false_iff]
    intro z
    rw [List.filter_eq_nil_iff] at z
    refine h fun x hx => ?_
    have := z (.int x) (List.mem_map.mpr ⟨x, hx, rfl⟩)
    simpa using this
def S__law_form (ds : List Dt) (Q : Dt → Prop) : Prop := ∃ vs k, ds = [.str (nameK k), dL vs] ∧ k < 5 ∧ Vals vs ∧ Q (optD (lay k vs))
abbrev sp__law_form (K : PySem.W.Frag) : Sp := spP K S__law_form
theorem ok__law_form {P : Program} {w : World} {K : PySem.W.Frag} {mg : Str → Option Value} {base : Heap} (T : Txt K mg) (c__law_packed : Cal P w K mg base 2 "_law_packed" (sp__law_packed K) []) (c__law_above : Cal P w K mg base 3 "_law_above" (sp__law_above K) []) : Cal P w K mg base 4 "_law_form" (sp__law_form K) [] := by
  refine cal_pure T.f__law_form sc__law_form ?len fun f cdv A outer s H E hr => ⟨_, (pss_cons (ps_set (i := 2) sc__law_form.nd rfl (Or.inl rfl) (pe_callB cl_len (by rfl) T.b_len PySem.boot_len (pa_cons (pv 1) pa_nil)))
      (pss_cons (ps_set (i := 3) sc__law_form.nd rfl (Or.inl rfl) (pe_cmpR (op_eqU hr.units) (pe_lc (g := (gName 7)) (tt := (tTest (tOp (rNeU K) (tVar 7) (tOp (rIx K) (tVar 1) (tC (.int 0)))))) (te := (tVar 7)) (own := [("_law_value", 7)]) rfl sc__law_form.nd (pi_list (pv 1)) (blkOk_by (N := ["_law_name", "_law_values_here", "_law_many", "_law_alike_here", "_law_unlike", "_law_places", "_law_above_here", "_law_value", "_law_k"]) (sc := defScope s__law_form) (by decide +kernel)) (fun _ _ _ _ _ => (pg_name (i := 7) sc__law_form.nd rfl (Or.inl rfl))) (fun _ _ _ _ _ => (pts_one (pt_cmpR (op_neU hr.units) (pv 7) (pe_ix ix_seq (pv 1) pe_int (fun _ _ => rfl)) (nomark _)))) (fun _ _ _ _ _ => (pv 7))) (pe_lst pa_nil) (nomark _)))
      (pss_cons (ps_if (pt_cmpR (op_eqU hr.units) (pv 0) pe_str (nomark _)) (pss_one (ps_ret (pe_tup (pa_cons pe_str (pa_cons (pe_callTy cl_tuple (by rfl) T.b_tuple (by decide +kernel) (pa_cons (pv 1) pa_nil)) pa_nil))))) pss_nil)
      (pss_cons (ps_if (pt_cmpR (op_eqU hr.units) (pv 0) pe_str (nomark _)) (pss_one (ps_ret (pe_ifExp (pt_val (pv 3)) (pe_tup (pa_cons pe_str (pa_cons (pv 2) (pa_cons (pe_ix ix_seq (pv 1) pe_int (fun _ _ => rfl)) pa_nil)))) pe_non))) pss_nil)
      (pss_cons (ps_if (pt_cmpR (op_eqU hr.units) (pv 0) pe_str (nomark _)) (pss_cons (ps_if (pt_val (pv 3)) (pss_one (ps_ret pe_non)) pss_nil)
      (pss_cons (ps_set (i := 4) sc__law_form.nd rfl (Or.inr rfl) (pe_callB (cr_sortedSet rfl) (by rfl) T.b_sorted (by decide +kernel) (pa_cons (pe_callTy (cr_setI rfl) (by rfl) T.b_set PyProof.Rows.boot_set (pa_cons (pv 1) pa_nil)) pa_nil)))
      (pss_cons (ps_setLc (i := 5) rfl sc__law_form.nd rfl rfl (sw_true rfl rfl rfl (by decide +kernel)) (g := (gName 7)) (tt := tYes) (te := (tBM K "list" (rIndex K) (tVar 4) (tCons (tVar 7) tNil))) (own := [("_law_value", 7)]) (pi_list (pv 1)) (blkOk_by (N := ["_law_name", "_law_values_here", "_law_many", "_law_alike_here", "_law_unlike", "_law_places", "_law_above_here", "_law_value", "_law_k"]) (sc := defScope s__law_form) (by decide +kernel)) (fun _ _ _ _ _ => (pg_name (i := 7) sc__law_form.nd rfl (Or.inl rfl))) (fun _ _ _ _ _ => pts_nil) (fun _ _ _ _ _ => (pe_bm PySem.F.plainAttrs_list PySem.F.slot_list_index PySem.F.type_list_index mt_index (pv 4) (pa_cons (pv 7) pa_nil))))
      (pss_one (ps_ret (pe_tup (pa_cons pe_str (pa_cons (pv 2) (pa_cons (pe_callTy cl_tuple (by rfl) T.b_tuple (by decide +kernel) (pa_cons (pv 4) pa_nil)) (pa_cons (pe_c c__law_packed hr (by decide) (by rfl) (pa_cons (pe_callB cl_len (by rfl) T.b_len PySem.boot_len (pa_cons (pv 4) pa_nil)) (pa_cons (pv 5) pa_nil))) pa_nil)))))))))) pss_nil)
      (pss_cons (ps_if (pt_cmpR (op_eqU hr.units) (pv 0) pe_str (nomark _)) (pss_cons (ps_set (i := 6) sc__law_form.nd rfl (Or.inl rfl) (pe_c c__law_above hr (by decide) (by rfl) (pa_cons (pv 1) pa_nil)))
      (pss_one (ps_ret (pe_ifExp ((pw_or (pt_val (pv 3)) (pw_or1 (pt_cmpR op_isU (pv 6) pe_non (nomark _))))).pt pe_non (pe_op op_addU (pe_tup (pa_cons pe_str (pa_cons (pv 2) pa_nil))) (pv 6)))))) pss_nil)
      (pss_cons (ps_if (pt_cmpR op_ltU (pv 2) pe_int (nomark _)) (pss_one (ps_ret pe_non)) pss_nil)
      (pss_cons (ps_set (i := 6) sc__law_form.nd rfl (Or.inl rfl) (pe_c c__law_above hr (by decide) (by rfl) (pa_cons (pe_lc (g := (gName 8)) (tt := tYes) (te := (tOp rSubI (tOp (rIx K) (tVar 1) (tVar 8)) (tOp (rIx K) (tVar 1) (tOp rSubI (tVar 8) (tC (.int 1)))))) (own := [("_law_k", 8)]) rfl sc__law_form.nd (pi_range2 (by rfl) T.b_range (pa_cons pe_int (pa_cons (pv 2) pa_nil))) (blkOk_by (N := ["_law_name", "_law_values_here", "_law_many", "_law_alike_here", "_law_unlike", "_law_places", "_law_above_here", "_law_value", "_law_k"]) (sc := defScope s__law_form) (by decide +kernel)) (fun _ _ _ _ _ => (pg_name (i := 8) sc__law_form.nd rfl (Or.inl rfl))) (fun _ _ _ _ _ => pts_nil) (fun _ _ _ _ _ => (pe_op op_subU (pe_ix ix_seq (pv 1) (pv 8) (fun _ _ => rfl)) (pe_ix ix_seq (pv 1) (pe_op op_subU (pv 8) pe_int) (fun _ _ => rfl))))) pa_nil)))
      (pss_one (ps_ret (pe_ifExp (pt_cmpR op_isU (pv 6) pe_non (nomark _)) pe_non (pe_op op_addU (pe_tup (pa_cons pe_str (pa_cons (pv 2) (pa_cons (pe_ix ix_seq (pv 1) pe_int (fun _ _ => rfl)) pa_nil)))) (pv 6))))))))))))), ?body⟩
  case' body => try dsimp only [cxD, cxOf]
  case len => rintro ds Q ⟨b, k, rfl, _⟩; rfl
  case body =>
    rintro ds Q ⟨vs, k, rfl, hk, h, hq⟩ hid H0 D dom hD
    have hl := h.le
    have hne := h.ne
    have hup := uniq_pos hne
    have hul := uniq_le vs
    show NJ _ _ _ _ [.im (.str (nameK k)), .im (dL vs), .un, .un, .un, .un, .un, .un, .un]
    refine q_asg ?_
    walk_at "go"
    walk_at "nm"
    refine q_asg ?_
    walk_at "go"
    refine EN.ev (en_fmL (by decide) ?_)
    walk_at "go"
    refine ⟨_, fun d => match d with | .int x => !decide (x = vs.headD 0) | _ => false, id, rfl, by rw [List.length_map]; omega, fun d hd => ?_, ?_⟩
    · obtain ⟨x, hx, rfl⟩ := List.mem_map.mp hd
      walk_at "nm"
      walk_at "go"
      refine ⟨rfl, fun _ => ?_⟩
      walk_at "go"
      rfl
    have hsh : ∀ d ∈ (((vs.map Dt.int).filter fun d => match d with | .int x => !decide (x = vs.headD 0) | _ => false).map id), Sh 0 d := fun d hd => by
      rw [List.map_id] at hd
      exact sh_ints d (List.mem_filter.mp hd).1
    refine EN.ev (en_lst (ea_nil ⟨by decide, ?_⟩))
    refine eq_nil hsh (by decide) ?_
    rw [same_uniq hne]
    walk_at "nm"
    match k, hk with
    | 0, _ =>
      show NJ _ _ _ _ (.im (.str "plain") :: _)
      refine q_when ?_
      walk_at "go"
      refine bl_yes (by decide) ?_
      refine nj_ret ?_
      walk_at "go"
      exact hD.rt _ hq
    | 1, _ =>
      show NJ _ _ _ _ (.im (.str "one") :: _)
      refine q_when ?_
      walk_at "go"
      refine bl_no (by decide) ?_
      refine q_when ?_
      walk_at "go"
      refine bl_yes (by decide) ?_
      refine nj_ret ?_
      walk_at "go"
      refine bl_two (fun hc => ?_) (fun hc => ?_)
      · walk_at "go"
        rw [lay, layOne, if_pos (by omega)] at hq
        exact hD.rt _ hq
      · walk_at "go"
        rw [lay, layOne, if_neg (by omega)] at hq
        exact hD.rt _ hq
    | 2, _ =>
      show NJ _ _ _ _ (.im (.str "codes") :: _)
      refine q_when ?_
      walk_at "go"
      refine bl_no (by decide) ?_
      refine q_when ?_
      walk_at "go"
      refine bl_no (by decide) ?_
      refine q_when ?_
      walk_at "go"
      refine bl_yes (by decide) ?_
      refine q_when ?_
      walk_at "go"
      refine bl_two (fun hc => ?_) (fun hc => ?_)
      · refine nj_ret ?_
        walk_at "go"
        rw [lay, layCodes, if_pos (by omega)] at hq
        exact hD.rt _ hq
      · rw [lay, layCodes, if_neg (by omega)] at hq
        refine q_asg (EN.ev (en_sortedSet ?_))
        walk_at "go"
        refine ⟨vs, rfl, by omega, fun us h1 h2 => ?_⟩
        rw [uniq_is h1 h2]
        walk_at "nm"
        refine q_asg (EN.ev (en_mapI (by decide) ?_))
        walk_at "go"
        refine ⟨vs, fun v => .int (posOf v (uniq vs) : Nat), rfl, by omega, fun x hx => et_yes ⟨rfl, ?_⟩, ?_⟩
        · walk_at "nm"
          refine ev_index rfl ?_
          walk_at "go"
          refine ⟨uniq vs, rfl, ?_⟩
          walk_at "go"
          exact ⟨x, posOf x (uniq vs), rfl, posOf_at (mem_uniq.mpr hx), fun m hm => posOf_first hm, rfl⟩
        · have e : vs.map (fun v => Dt.int (posOf v (uniq vs) : Nat)) = (vs.map fun v => (posOf v (uniq vs) : Int)).map Dt.int := by rw [List.map_map]; rfl
          rw [e]
          walk_at "nm"
          refine nj_ret ?_
          walk_at "go"
          refine sp_j ⟨_, _, rfl, by omega, by omega, by rw [List.length_map]; omega, ?_⟩
          walk_at "go"
          exact hD.rt _ hq
    | 3, _ =>
      show NJ _ _ _ _ (.im (.str "near") :: _)
      refine q_when ?_
      walk_at "go"
      refine bl_no (by decide) ?_
      refine q_when ?_
      walk_at "go"
      refine bl_no (by decide) ?_
      refine q_when ?_
      walk_at "go"
      refine bl_no (by decide) ?_
      refine q_when ?_
      walk_at "go"
      refine bl_yes (by decide) ?_
      refine q_asg ?_
      walk_at "go"
      refine sp_j ⟨vs, rfl, h, ?_⟩
      walk_at "nm"
      have hz := span_zero hne
      have hq' : Q (optD (layNear vs)) := hq
      refine nj_ret ?_
      cases ha : abv vs with
      | none =>
        show EV _ _ [_, _, _, _, _, _, .im .non, _, _] _
        walk_at "go"
        rw [layNear_no ha] at hq'
        refine bl_or (fun hc => ?_) (fun hc => ?_)
        · walk_at "go"
          refine bl_yes rfl ?_
          walk_at "go"
          exact hD.rt _ hq'
        · refine bl_yes rfl ?_
          walk_at "go"
          exact hD.rt _ hq'
      | some z =>
        obtain ⟨lo, sp, cs⟩ := z
        show EV _ _ [_, _, _, _, _, _, .im (.tup [.int lo, .int sp, dT cs]), _, _] _
        walk_at "go"
        rw [layNear_eq ha] at hq'
        have hsp : sp = spanL vs := by
          by_cases hf : spanL vs + 1 > 10000
          · rw [abv_no hf] at ha; cases ha
          · rw [abv_yes hf] at ha
            exact (congrArg (fun z : Int × Int × List Int => z.2.1) (Option.some.inj ha)).symm
        refine bl_or (fun hc => ?_) (fun hc => ?_)
        · walk_at "go"
          refine bl_no rfl ?_
          walk_at "go"
          rw [if_neg (fun z => hc (hz.mp (by omega)))] at hq'
          exact hD.rt _ hq'
        · refine bl_yes rfl ?_
          walk_at "go"
          rw [if_pos (by rw [hsp]; exact hz.mpr hc)] at hq'
          exact hD.rt _ hq'
    | 4, _ =>
      show NJ _ _ _ _ (.im (.str "steps") :: _)
      refine q_when ?_
      walk_at "go"
      refine bl_no (by decide) ?_
      refine q_when ?_
      walk_at "go"
      refine bl_no (by decide) ?_
      refine q_when ?_
      walk_at "go"
      refine bl_no (by decide) ?_
      refine q_when ?_
      walk_at "go"
      refine bl_no (by decide) ?_
      refine q_when ?_
      walk_at "go"
      refine bl_two (fun hc => ?_) (fun hc => ?_)
      · refine nj_ret ?_
        walk_at "go"
        replace hq : Q (optD (laySteps vs)) := hq
        rw [laySteps, if_pos (by omega)] at hq
        exact hD.rt _ hq
      · replace hq : Q (optD (laySteps vs)) := hq
        rw [laySteps, if_neg (by omega)] at hq
        refine q_asg ?_
        walk_at "go"
        refine EN.ev (en_map (ij_rng2 ?_))
        walk_at "go"
        refine ⟨_, _, rfl, ⟨by omega, by omega⟩, ⟨by omega, by omega⟩, by rw [rangeD_len]; omega, fun k => .int (vs.getD (k + 1) 0 - vs.getD k 0), fun i d hi => ?_, ?_⟩
        · obtain ⟨hlt, rfl⟩ := rangeD_at hi
          refine tge_name (by decide) (et_yes ⟨rfl, ?_⟩)
          walk_at "nm"
          walk_at "go"
          refine ix_li (x := vs.getD (i + 1) 0) (by omega) ?_ ?_
          · rw [show (1 + (i : Int)).toNat = i + 1 by omega]; exact getD_at (by omega)
          walk_at "go"
          refine ix_li (x := vs.getD i 0) (by omega) ?_ ?_
          · rw [show (1 + (i : Int) - 1).toNat = i by omega]; exact getD_at (by omega)
          walk_at "go"
          rfl
        · rw [rangeD_len, dif_map]
          walk_at "go"
          have hd : dif vs ≠ [] := dif_ne.mpr (by omega)
          have hdl := dif_len vs
          refine sp_j ⟨dif vs, rfl, ⟨hd, by omega⟩, ?_⟩
          walk_at "nm"
          refine nj_ret ?_
          cases ha : abv (dif vs) with
          | none =>
            rw [ha] at hq
            show EV _ _ [_, _, _, _, _, _, .im .non, _, _] _
            walk_at "go"
            refine bl_yes rfl ?_
            walk_at "go"
            exact hD.rt _ hq
          | some z =>
            obtain ⟨lo, sp, cs⟩ := z
            rw [ha] at hq
            show EV _ _ [_, _, _, _, _, _, .im (.tup [.int lo, .int sp, dT cs]), _, _] _
            walk_at "go"
            refine bl_no rfl ?_
            walk_at "go"
            exact hD.rt _ hq
def S__law_room (n : Nat) (ds : List Dt) (Q : Dt → Prop) : Prop := ∃ d, ds = [d] ∧ TD n d ∧ Q (.int (wt d : Nat))
abbrev sp__law_room (n : Nat) (K : PySem.W.Frag) : Sp := spP K (S__law_room n)
theorem ok__law_room {P : Program} {w : World} {K : PySem.W.Frag} {mg : Str → Option Value} {base : Heap} (T : Txt K mg)  (n : Nat) : Cal P w K mg base (n + 1) "_law_room" (sp__law_room n K) [] := by
  induction n with
  | zero =>
    refine cal_pure T.f__law_room sc__law_room ?len fun f cdv A outer s H E hr => ⟨_, (pss_one (ps_ret (pe_ifExp (pt_val (pe_callB call_isi (by rfl) T.b_isinstance (by decide +kernel) (pa_cons (pv 0) (pa_cons (pe_bltn (v := .ty "tuple") (by rfl) T.b_tuple (by decide +kernel) rfl) pa_nil)))) pe_never pe_int))), ?body⟩
    case' body => try dsimp only [cxD, cxOf]
    case len => rintro ds Q ⟨b, rfl, _⟩; rfl
    case body =>
      rintro ds Q ⟨d, rfl, h, hq⟩ hid H0 D dom hD
      show NJ _ _ _ _ [.im d, .un]
      cases h with
      | leaf hs =>
        refine nj_ret ?_
        walk_at "go"
        refine ⟨(kit_no hs).1, false, (kit_no hs).2, ?_⟩
        refine bl_no rfl ?_
        walk_at "go"
        rw [wt_scalar hs] at hq
        exact hD.rt _ hq
  | succ n ih =>
    have c__law_room := ih
    refine cal_pure T.f__law_room sc__law_room ?len fun f cdv A outer s H E hr => ⟨_, (pss_one (ps_ret (pe_ifExp (pt_val (pe_callB call_isi (by rfl) T.b_isinstance (by decide +kernel) (pa_cons (pv 0) (pa_cons (pe_bltn (v := .ty "tuple") (by rfl) T.b_tuple (by decide +kernel) rfl) pa_nil)))) (pe_callB (cr_sum rfl) (by rfl) T.b_sum (by decide +kernel) (pa_cons (pe_lc (g := (gName 1)) (tt := tYes) (te := (tCall (sp__law_room n K) [] E0 (tCons (tVar 1) tNil))) (own := [("_law_part", 1)]) rfl sc__law_room.nd (pi_tup (pv 0)) (blkOk_by (N := ["_law_form_here", "_law_part"]) (sc := defScope s__law_room) (by decide +kernel)) (fun _ _ _ _ _ => (pg_name (i := 1) sc__law_room.nd rfl (Or.inl rfl))) (fun _ _ _ _ _ => pts_nil) (fun _ _ _ _ _ => (pe_c c__law_room hr (Nat.le_refl _) (by rfl) (pa_cons (pv 1) pa_nil)))) pa_nil)) pe_int))), ?body⟩
    case' body => try dsimp only [cxD, cxOf]
    case len => rintro ds Q ⟨b, rfl, _⟩; rfl
    case body =>
      rintro ds Q ⟨d, rfl, h, hq⟩ hid H0 D dom hD
      show NJ _ _ _ _ [.im d, .un]
      cases h with
      | leaf hs =>
        refine nj_ret ?_
        walk_at "go"
        refine ⟨(kit_no hs).1, false, (kit_no hs).2, ?_⟩
        refine bl_no rfl ?_
        walk_at "go"
        rw [wt_scalar hs] at hq
        exact hD.rt _ hq
      | tup ht hl =>
        refine nj_ret ?_
        walk_at "go"
        refine ⟨rfl, true, kit_tup, ?_⟩
        refine bl_yes rfl ?_
        walk_at "go"
        refine EN.ev (en_mapT (by decide) ?_)
        walk_at "go"
        refine ⟨_, fun d => .int (wt d : Nat), rfl, hl, fun x hx => et_yes ⟨rfl, ?_⟩, ?_⟩
        · walk_at "nm"
          walk_at "go"
          exact sp_j ⟨x, rfl, ht x hx, rfl⟩
        · rename_i es
          have e : es.map (fun d => Dt.int (wt d : Nat)) = (es.map fun d => (wt d : Int)).map Dt.int := by rw [List.map_map]; rfl
          rw [e]
          walk_at "go"
          refine sum_l ?_
          rw [wtL_sum]
          exact hD.rt _ hq
def roomO : Option Fm → Int
  | none => 99999
  | some f => f.room
theorem pos_fm {m : Int} (hm : m < 99999) : ∀ os : List (Option Fm), (os.filterMap id)[posOf m ((os.filterMap id).map fun f => (f.room : Int))]? = (os[posOf m (os.map roomO)]?).join
  | [] => rfl
  | none :: os => by
    show (os.filterMap id)[_]? = ((none :: os)[posOf m ((99999 : Int) :: os.map roomO)]?).join
    rw [posOf, if_neg (by omega), List.getElem?_cons_succ]
    exact pos_fm hm os
  | some f :: os => by
    show (f :: os.filterMap id)[posOf m ((f.room : Int) :: (os.filterMap id).map fun f => (f.room : Int))]? = ((some f :: os)[posOf m ((f.room : Int) :: os.map roomO)]?).join
    rw [posOf, posOf]
    by_cases e : (f.room : Int) = m
    · rw [if_pos e, if_pos e]; rfl
    · rw [if_neg e, if_neg e, List.getElem?_cons_succ, List.getElem?_cons_succ]
      exact pos_fm hm os
def lays (vs : List Int) : List (Option Fm) := [0, 1, 2, 3, 4].map fun k => lay k vs
theorem cells_lays {vs : List Int} (h : vs ≠ []) : cellsBy vs = (lays vs).map roomO := by
  unfold cellsBy lays
  rw [List.map_map]
  refine List.map_congr_left fun k _ => ?_
  rw [cells_room h k]
  show _ = roomO (lay k vs)
  cases lay k vs <;> rfl
theorem least_at {vs : List Int} (h : Vals vs) : ((lays vs).filterMap id).map (fun f => (f.room : Int)) ≠ [] ∧ ((lays vs).filterMap id)[posOf (minL (((lays vs).filterMap id).map fun f => (f.room : Int))) (((lays vs).filterMap id).map fun f => (f.room : Int))]? = some (leastF vs) := by
  have hne : ((lays vs).filterMap id).map (fun f => (f.room : Int)) ≠ [] := fun z => by cases z
  have hroom := leastF_room h
  have hlay := leastF_lay h
  have hk := leastK_lt vs
  have h0 : minL (cellsBy vs) ≤ ((1 + vs.length : Nat) : Int) := minL_le (vs := cellsBy vs) (y := ((1 + vs.length : Nat) : Int)) List.mem_cons_self
  have hlt : minL (cellsBy vs) < 99999 := by have := h.le; omega
  have hmin : minL (((lays vs).filterMap id).map fun f => (f.room : Int)) = minL (cellsBy vs) := by
    refine (minL_is ?_ ?_).symm
    · refine List.mem_map.mpr ⟨leastF vs, List.mem_filterMap.mpr ⟨some (leastF vs), ?_, rfl⟩, hroom⟩
      rw [← hlay]
      unfold lays
      refine List.mem_map.mpr ⟨leastK vs, ?_, rfl⟩
      match leastK vs, hk with
      | 0, _ => decide
      | 1, _ => decide
      | 2, _ => decide
      | 3, _ => decide
      | 4, _ => decide
    · intro y hy
      obtain ⟨f, hf, rfl⟩ := List.mem_map.mp hy
      obtain ⟨o, ho, he⟩ := List.mem_filterMap.mp hf
      rw [show o = some f from he] at ho
      refine minL_le ?_
      rw [cells_lays h.ne]
      exact List.mem_map.mpr ⟨some f, ho, rfl⟩
  refine ⟨hne, ?_⟩
  rw [hmin, pos_fm hlt, ← cells_lays h.ne]
  show ((lays vs)[leastK vs]?).join = _
  have : (lays vs)[leastK vs]? = some (lay (leastK vs) vs) := by
    unfold lays
    match leastK vs, hk with
    | 0, _ => rfl
    | 1, _ => rfl
    | 2, _ => rfl
    | 3, _ => rfl
    | 4, _ => rfl
  rw [this, hlay]; rfl
theorem lays_dt (vs : List Int) : (((lays vs).map optD).filter fun d => !isNon d).map id = ((lays vs).filterMap id).map Fm.dt := by
  rw [List.map_id]
  have : ∀ os : List (Option Fm), ((os.map optD).filter fun d => !isNon d) = (os.filterMap id).map Fm.dt := by
    intro os
    induction os with
    | nil => rfl
    | cons o os ih =>
      cases o with
      | none => exact ih
      | some f =>
        show (f.dt :: os.map optD).filter _ = f.dt :: _
        rw [List.filter_cons_of_pos (by rw [dt_isNon]; rfl), ih]
  exact this _
def S__law_least (ds : List Dt) (Q : Dt → Prop) : Prop := ∃ vs, ds = [dL vs] ∧ Vals vs ∧ Q (leastF vs).dt
abbrev sp__law_least (K : PySem.W.Frag) : Sp := spP K S__law_least
theorem ok__law_least {P : Program} {w : World} {K : PySem.W.Frag} {mg : Str → Option Value} {base : Heap} (T : Txt K mg) (c__law_form : Cal P w K mg base 4 "_law_form" (sp__law_form K) []) (c__law_room : Cal P w K mg base 4 "_law_room" (sp__law_room 3 K) []) : Cal P w K mg base 5 "_law_least" (sp__law_least K) [] := by
  refine cal_pure T.f__law_least sc__law_least ?len fun f cdv A outer s H E hr => ⟨_, (pss_cons (ps_setLc (i := 1) rfl sc__law_least.nd rfl rfl (sw_true rfl rfl rfl (by decide +kernel)) (g := (gName 3)) (tt := tYes) (te := (tCall (sp__law_form K) [] E0 (tCons (tVar 3) (tCons (tVar 0) tNil)))) (own := [("_law_name", 3)]) (pi_list (pe_lst (pa_cons pe_str (pa_cons pe_str (pa_cons pe_str (pa_cons pe_str (pa_cons pe_str pa_nil))))))) (blkOk_by (N := ["_law_values_here", "_law_some", "_law_rooms", "_law_name", "_law_form_here"]) (sc := defScope s__law_least) (by decide +kernel)) (fun _ _ _ _ _ => (pg_name (i := 3) sc__law_least.nd rfl (Or.inl rfl))) (fun _ _ _ _ _ => pts_nil) (fun _ _ _ _ _ => (pe_c c__law_form hr (by decide) (by rfl) (pa_cons (pv 3) (pa_cons (pv 0) pa_nil)))))
      (pss_cons (ps_setLc (i := 1) rfl sc__law_least.nd rfl rfl (sw_true rfl rfl rfl (by decide +kernel)) (g := (gName 4)) (tt := (tTest (tOp rIsNotU (tVar 4) (tC .non)))) (te := (tVar 4)) (own := [("_law_form_here", 4)]) (pi_list (pv 1)) (blkOk_by (N := ["_law_values_here", "_law_some", "_law_rooms", "_law_name", "_law_form_here"]) (sc := defScope s__law_least) (by decide +kernel)) (fun _ _ _ _ _ => (pg_name (i := 4) sc__law_least.nd rfl (Or.inl rfl))) (fun _ _ _ _ _ => (pts_one (pt_cmpR op_isNotU (pv 4) pe_non (nomark _)))) (fun _ _ _ _ _ => (pv 4)))
      (pss_cons (ps_setLc (i := 2) rfl sc__law_least.nd rfl rfl (sw_true rfl rfl rfl (by decide +kernel)) (g := (gName 4)) (tt := tYes) (te := (tCall (sp__law_room 3 K) [] E0 (tCons (tVar 4) tNil))) (own := [("_law_form_here", 4)]) (pi_list (pv 1)) (blkOk_by (N := ["_law_values_here", "_law_some", "_law_rooms", "_law_name", "_law_form_here"]) (sc := defScope s__law_least) (by decide +kernel)) (fun _ _ _ _ _ => (pg_name (i := 4) sc__law_least.nd rfl (Or.inl rfl))) (fun _ _ _ _ _ => pts_nil) (fun _ _ _ _ _ => (pe_c c__law_room hr (by decide) (by rfl) (pa_cons (pv 4) pa_nil))))
      (pss_one (ps_ret (pe_ix ix_seq (pv 1) (pe_bm PySem.F.plainAttrs_list PySem.F.slot_list_index PySem.F.type_list_index mt_index (pv 2) (pa_cons (pe_callB (cr_min rfl) (by rfl) T.b_min (by decide +kernel) (pa_cons (pv 2) pa_nil)) pa_nil)) (fun _ _ => rfl))))))), ?body⟩
  case' body => try dsimp only [cxD, cxOf]
  case len => rintro ds Q ⟨b, rfl, _⟩; rfl
  case body =>
    rintro ds Q ⟨vs, rfl, h, hq⟩ hid H0 D dom hD
    show NJ _ _ _ _ [.im (dL vs), .un, .un, .un, .un]
    obtain ⟨hne, hat⟩ := least_at h
    refine q_asg (EN.ev (en_mapL (by decide) ?_))
    refine EN.ev (en_lst ?_)
    walk_at "go"
    refine ⟨[.str "plain", .str "one", .str "codes", .str "near", .str "steps"], fun d => match d with
      | .str x => if x = "plain" then optD (lay 0 vs) else if x = "one" then optD (lay 1 vs) else if x = "codes" then optD (lay 2 vs) else if x = "near" then optD (lay 3 vs) else optD (lay 4 vs)
      | _ => .non, rfl, by decide, fun x hx => et_yes ⟨rfl, ?_⟩, ?_⟩
    · walk_at "nm"
      walk_at "go"
      simp only [List.mem_cons, List.not_mem_nil, or_false] at hx
      rcases hx with rfl | rfl | rfl | rfl | rfl
      · exact sp_j ⟨vs, 0, rfl, by decide, h, rfl⟩
      · exact sp_j ⟨vs, 1, rfl, by decide, h, rfl⟩
      · exact sp_j ⟨vs, 2, rfl, by decide, h, rfl⟩
      · exact sp_j ⟨vs, 3, rfl, by decide, h, rfl⟩
      · exact sp_j ⟨vs, 4, rfl, by decide, h, rfl⟩
    show NJ _ _ _ _ [.im (dL vs), .im (.lst ((lays vs).map optD)), .un, .un, .un]
    refine q_asg (EN.ev (en_fmL (by decide) ?_))
    walk_at "go"
    refine ⟨_, fun d => !isNon d, id, rfl, by show 5 ≤ 100000; decide, fun d hd => ?_, ?_⟩
    · walk_at "nm"
      walk_at "go"
      refine ⟨rfl, fun _ => ?_⟩
      walk_at "go"
      rfl
    rw [lays_dt]
    walk_at "nm"
    have hsm : ∀ f ∈ (lays vs).filterMap id, f.small := fun f hf => by
      obtain ⟨o, ho, he⟩ := List.mem_filterMap.mp hf
      rw [show o = some f from he] at ho
      obtain ⟨k, _, hk⟩ := List.mem_map.mp ho
      exact lay_small h hk
    have hl5 : ((lays vs).filterMap id).length ≤ 5 := List.length_filterMap_le id (lays vs)
    generalize hfs : (lays vs).filterMap id = fs at hne hat hsm hl5
    refine q_asg (EN.ev (en_mapL (by decide) ?_))
    walk_at "go"
    refine ⟨_, fun d => .int (wt d : Nat), rfl, by rw [List.length_map]; omega, fun x hx => et_yes ⟨rfl, ?_⟩, ?_⟩
    · obtain ⟨f, hf, rfl⟩ := List.mem_map.mp hx
      walk_at "nm"
      walk_at "go"
      exact sp_j ⟨_, rfl, Fm.td f (hsm f hf), rfl⟩
    have e : (fs.map Fm.dt).map (fun d => Dt.int (wt d : Nat)) = (fs.map fun f => (f.room : Int)).map Dt.int := by
      rw [List.map_map, List.map_map]
      refine List.map_congr_left fun f _ => ?_
      show Dt.int (wt f.dt : Nat) = Dt.int (f.room : Int)
      rw [Fm.wt_room]
    rw [e]
    walk_at "nm"
    refine nj_ret ?_
    walk_at "go"
    refine ev_index rfl ?_
    walk_at "go"
    refine ⟨_, rfl, ?_⟩
    walk_at "go"
    refine ⟨_, _, rfl, posOf_at (minL_mem hne), fun m hm => posOf_first hm, ?_⟩
    refine ix_l (d := (leastF vs).dt) (atI_nat ?_) ?_
    · rw [List.getElem?_map, hat]; rfl
    exact hD.rt _ hq
end
section
open PySem PySem.Spec PyProof.Rows L2
open C8 (Cal pe_c pe_gc)
open LamX (CodeO)
def sp__law_class (K : PySem.W.Frag) : SpC := fun a cls d vs H Q _ => vs = [.ref a] ∧ ∃ nm fs, nm ∈ rzN ∧ nm ∈ clsN ∧ cls = .ref (He.ga K nm) ∧ (∀ dd, d = some dd → H dd = some (.xd fs)) ∧ ∀ H', Ex none0 H H' → Q (.str nm) H'
theorem cls_ref {a : Addr} : ∀ u : Value, RelV (V.ref a) u → u = Value.ref a := fun u h => h
theorem cls_ty {x : String} : ∀ u : Value, RelV (V.ty x) u → u = Value.type x := fun u h => h
def kindsOf (nm : Str) : List Bool := clsN.map fun C => decide (nm = C)
theorem kinds_ok {nm : Str} (h : nm ∈ clsN) : ∃ j : Nat, (kindsOf nm)[j]? = some true ∧ (∀ m, m < j → (kindsOf nm)[m]? = some false) ∧ (kindsOf nm).countP id = 1 ∧ clsN[j]? = some nm := by
  have key : ∀ nm ∈ clsN, ∃ j : Fin 13, (kindsOf nm)[j.1]? = some true ∧ (∀ m : Fin 13, m.1 < j.1 → (kindsOf nm)[m.1]? = some false) ∧ (kindsOf nm).countP id = 1 ∧ clsN[j.1]? = some nm := by decide +kernel
  obtain ⟨j, h1, h2, h3, h4⟩ := key nm h
  exact ⟨j.1, h1, fun m hm => h2 ⟨m, by omega⟩ hm, h3, h4⟩
theorem ok__law_class {P : Program} {w : World} {K : PySem.W.Frag} {mg : Str → Option Value} {base : Heap} (T : Txt K mg)  : CalE P w K mg base 1 "_law_class" (sp__law_class K) := by
  obtain ⟨f, fd, hm, F, bi⟩ := T.f__law_class
  refine ⟨⟨f, fd, _, fn_ofE (k := 0) F sc__law_class ?len (fun cdv A outer s H vs Q E p hr h => ?body), hm, F.kp, bi⟩⟩
  case len => rintro p vs H Q E ⟨cls, d, _, _, rfl, _⟩; rfl
  case body =>
    obtain ⟨cls, d, hz, hf, rfl, nm, fs, hD, hC, rfl, hdd, hq⟩ := h
    have exc := T.cls.exc nm hD
    have hp : (p.1, p.2) ∈ (cxE P w K mg base ["_law_e", "_law_kinds", "_law_words"] "_law_class" s__law_class f cdv A outer s H E p).pn := List.mem_singleton.mpr rfl
    refine ⟨_, (pss_cons (ps_set (i := 1) sc__law_class.nd rfl (Or.inl rfl) (pe_lst (pa_cons (pe_callB (call_isA exc hp hz hf) (by rfl) T.b_isinstance (by decide +kernel) (pa_cons (pv 0) (pa_cons (pe_gc (by rfl) (show ∃ u, mg "BadNumber" = some u ∧ RelV (.ref (He.ga K "BadNumber")) u from ⟨_, T.g_BadNumber, rfl⟩)) pa_nil))) (pa_cons (pe_callB (call_isA exc hp hz hf) (by rfl) T.b_isinstance (by decide +kernel) (pa_cons (pv 0) (pa_cons (pe_gc (by rfl) (show ∃ u, mg "BadValues" = some u ∧ RelV (.ref (He.ga K "BadValues")) u from ⟨_, T.g_BadValues, rfl⟩)) pa_nil))) (pa_cons (pe_callB (call_isA exc hp hz hf) (by rfl) T.b_isinstance (by decide +kernel) (pa_cons (pv 0) (pa_cons (pe_gc (by rfl) (show ∃ u, mg "NoForm" = some u ∧ RelV (.ref (He.ga K "NoForm")) u from ⟨_, T.g_NoForm, rfl⟩)) pa_nil))) (pa_cons (pe_callB (call_isA exc hp hz hf) (by rfl) T.b_isinstance (by decide +kernel) (pa_cons (pv 0) (pa_cons (pe_gc (by rfl) (show ∃ u, mg "BadPrices" = some u ∧ RelV (.ref (He.ga K "BadPrices")) u from ⟨_, T.g_BadPrices, rfl⟩)) pa_nil))) pa_nil))))))
      (pss_cons (ps_set (i := 1) sc__law_class.nd rfl (Or.inl rfl) (pe_op op_addU (pv 1) (pe_lst (pa_cons (pe_callB (call_isA exc hp hz hf) (by rfl) T.b_isinstance (by decide +kernel) (pa_cons (pv 0) (pa_cons (pe_gc (by rfl) (show ∃ u, mg "BadKinds" = some u ∧ RelV (.ref (He.ga K "BadKinds")) u from ⟨_, T.g_BadKinds, rfl⟩)) pa_nil))) (pa_cons (pe_callB (call_isA exc hp hz hf) (by rfl) T.b_isinstance (by decide +kernel) (pa_cons (pv 0) (pa_cons (pe_gc (by rfl) (show ∃ u, mg "BadRows" = some u ∧ RelV (.ref (He.ga K "BadRows")) u from ⟨_, T.g_BadRows, rfl⟩)) pa_nil))) (pa_cons (pe_callB (call_isA exc hp hz hf) (by rfl) T.b_isinstance (by decide +kernel) (pa_cons (pv 0) (pa_cons (pe_gc (by rfl) (show ∃ u, mg "BadCondition" = some u ∧ RelV (.ref (He.ga K "BadCondition")) u from ⟨_, T.g_BadCondition, rfl⟩)) pa_nil))) pa_nil))))))
      (pss_cons (ps_set (i := 1) sc__law_class.nd rfl (Or.inl rfl) (pe_op op_addU (pv 1) (pe_lst (pa_cons (pe_callB (call_isA exc hp hz hf) (by rfl) T.b_isinstance (by decide +kernel) (pa_cons (pv 0) (pa_cons (pe_gc (by rfl) (show ∃ u, mg "BadColumn" = some u ∧ RelV (.ref (He.ga K "BadColumn")) u from ⟨_, T.g_BadColumn, rfl⟩)) pa_nil))) (pa_cons (pe_callB (call_isA exc hp hz hf) (by rfl) T.b_isinstance (by decide +kernel) (pa_cons (pv 0) (pa_cons (pe_gc (by rfl) (show ∃ u, mg "BadHeap" = some u ∧ RelV (.ref (He.ga K "BadHeap")) u from ⟨_, T.g_BadHeap, rfl⟩)) pa_nil))) (pa_cons (pe_callB (call_isA exc hp hz hf) (by rfl) T.b_isinstance (by decide +kernel) (pa_cons (pv 0) (pa_cons (pe_gc (by rfl) (show ∃ u, mg "TooMany" = some u ∧ RelV (.ref (He.ga K "TooMany")) u from ⟨_, T.g_TooMany, rfl⟩)) pa_nil))) (pa_cons (pe_callB (call_isA exc hp hz hf) (by rfl) T.b_isinstance (by decide +kernel) (pa_cons (pv 0) (pa_cons (pe_gc (by rfl) (show ∃ u, mg "BadBlock" = some u ∧ RelV (.ref (He.ga K "BadBlock")) u from ⟨_, T.g_BadBlock, rfl⟩)) pa_nil))) pa_nil)))))))
      (pss_cons (ps_set (i := 1) sc__law_class.nd rfl (Or.inl rfl) (pe_op op_addU (pv 1) (pe_lst (pa_cons (pe_callB (call_isA exc hp hz hf) (by rfl) T.b_isinstance (by decide +kernel) (pa_cons (pv 0) (pa_cons (pe_gc (by rfl) (show ∃ u, mg "Stopped" = some u ∧ RelV (.ref (He.ga K "Stopped")) u from ⟨_, T.g_Stopped, rfl⟩)) pa_nil))) (pa_cons (pe_callB (call_isA exc hp hz hf) (by rfl) T.b_isinstance (by decide +kernel) (pa_cons (pv 0) (pa_cons (pe_gc (by rfl) (show ∃ u, mg "BadText" = some u ∧ RelV (.ref (He.ga K "BadText")) u from ⟨_, T.g_BadText, rfl⟩)) pa_nil))) pa_nil)))))
      (pss_cons (ps_set (i := 2) sc__law_class.nd rfl (Or.inl rfl) (pe_lst (pa_cons pe_str (pa_cons pe_str (pa_cons pe_str (pa_cons pe_str (pa_cons pe_str (pa_cons pe_str (pa_cons pe_str (pa_cons pe_str pa_nil))))))))))
      (pss_cons (ps_set (i := 2) sc__law_class.nd rfl (Or.inl rfl) (pe_op op_addU (pv 2) (pe_lst (pa_cons pe_str (pa_cons pe_str (pa_cons pe_str (pa_cons pe_str (pa_cons pe_str pa_nil))))))))
      (pss_one (ps_ret (pe_ifExp ((pw_and (pt_cmpR (op_eqU (unitsH hr)) (pe_bm PySem.F.plainAttrs_list PySem.F.slot_list_count PySem.F.type_list_count mt_countV (pv 1) (pa_cons pe_bl pa_nil)) pe_int (nomark _)) (pw_and1 (pt_val (pe_callB (call_isA exc hp hz hf) (by rfl) T.b_isinstance (by decide +kernel) (pa_cons (pv 0) (pa_cons (pe_bltn (v := .ty "ValueError") (by rfl) T.b_ValueError (by decide +kernel) rfl) pa_nil))))))).pt (pe_ix ix_seq (pv 2) (pe_bm PySem.F.plainAttrs_list PySem.F.slot_list_index PySem.F.type_list_index mt_index (pv 1) (pa_cons pe_bl pa_nil)) (fun _ _ => rfl)) pe_str))))))))), ?_⟩
    dsimp only [cxE, L2H.cxH, cxOf]
    refine nj_at (c := cnX K d fs) (hid := none0) (ρ := [.rw (.ref p.1), .un, .un]) (H0 := H) ?_ (sd_raw (c := cnX K d fs) (hid := none0) (fun _ h => nomatch h) (fun _ h => nomatch h) (fun dd e => by rw [hm_of rfl]; exact hdd dd e) [some (.ref p.1), none, none])
    have kt := fun C hC => T.cls.kit nm hD C hC
    obtain ⟨j, j1, j2, j3, j4⟩ := kinds_ok hC
    refine q_asg (EN.ev (en_lst ?_))
    iterate 4
      refine ea_cons (ev_isA rfl cls_ref (kt _ (by decide)) ?_)
    refine ea_nil (lenOk (by dsimp only [List.length_cons, List.length_nil]; decide) ?_)
    walk_at "nm"
    refine q_asg ?_
    walk_at "go"
    refine EN.ev (en_lst ?_)
    iterate 3
      refine ea_cons (ev_isA rfl cls_ref (kt _ (by decide)) ?_)
    refine ea_nil (lenOk (by dsimp only [List.length_cons, List.length_nil]; decide) ?_)
    refine R2N.j (add_l (by simp only [List.length_cons, List.length_nil]; omega) ?_)
    walk_at "nm"
    refine q_asg ?_
    walk_at "go"
    refine EN.ev (en_lst ?_)
    iterate 4
      refine ea_cons (ev_isA rfl cls_ref (kt _ (by decide)) ?_)
    refine ea_nil (lenOk (by dsimp only [List.length_cons, List.length_nil]; decide) ?_)
    refine R2N.j (add_l (by simp only [List.length_append, List.length_cons, List.length_nil]; omega) ?_)
    walk_at "nm"
    refine q_asg ?_
    walk_at "go"
    refine EN.ev (en_lst ?_)
    iterate 2
      refine ea_cons (ev_isA rfl cls_ref (kt _ (by decide)) ?_)
    refine ea_nil (lenOk (by dsimp only [List.length_cons, List.length_nil]; decide) ?_)
    refine R2N.j (add_l (by simp only [List.length_append, List.length_cons, List.length_nil]; omega) ?_)
    walk_at "nm"
    refine q_asg (EN.ev (en_lst ?_))
    walk_at "go"
    walk_at "nm"
    refine q_asg ?_
    walk_at "go"
    refine EN.ev (en_lst ?_)
    walk_at "go"
    refine R2N.j (add_l (by simp only [List.length_append, List.length_cons, List.length_nil]; omega) ?_)
    walk_at "nm"
    show NJ _ _ _ _ [_, .im (.lst ((kindsOf nm).map Dt.bl)), .im (.lst (clsN.map Dt.str))]
    refine nj_ret ?_
    refine ev_if ?_
    refine et_and ?_
    refine et_test ?_
    walk_at "go"
    refine ev_countB rfl ?_
    walk_at "go"
    refine ⟨kindsOf nm, rfl, ?_⟩
    rw [j3]
    walk_at "go"
    refine bl_yes rfl ?_
    refine et_B (ev_isA rfl cls_ty (T.cls.kitV nm hD) ?_)
    refine blJ (bl_yes rfl ?_)
    walk_at "go"
    refine ev_indexB rfl ?_
    walk_at "go"
    refine ⟨kindsOf nm, j, rfl, j1, j2, ?_⟩
    refine ix_l (d := .str nm) (atI_nat (by rw [List.getElem?_map, j4]; rfl)) ?_
    intro v H' e _ r
    cases r
    exact hq H' e
theorem ev_cls {K : PySem.W.Frag} {ρ : List Sl} {Q : Dt → Prop} {i : Nat} {a : Addr} {nm : Str} {d : Option Addr} {fs : List (Str × V)} (hi : ρ[i]? = some (.rw (.ref a))) (hD : nm ∈ rzN) (hC : nm ∈ clsN) (h : Q (.str nm)) : EV (cnX K d fs) (tCallC (sp__law_class K) a (.ref (He.ga K nm)) d (tCons (tVar i) tNil)) ρ Q := fun hd H σ s Qh q =>
  ⟨.ref a, rw_get s.slots hi, rfl, nm, fs, hD, hC, rfl, fun dd e => hm_le (s.inv dd e), fun H' e => q _ _ H' h (e.up (c := cnX K d fs)) ((cnX K d fs).keep0 e s.inv) (.str nm)⟩
abbrev sp__law_told (P : Program) (w : World) (K : PySem.W.Frag) (mg : Str → Option Value) (B : Heap) : Sp := spT P w K mg rzN 14 B
def plF : Option Int → List (Str × V)
  | none => []
  | some i => [("place", .int i)]
theorem ok__law_told {P : Program} {w : World} {K : PySem.W.Frag} {mg : Str → Option Value} {base : Heap} (T : Txt K mg) (c__law_class : CalE P w K mg base 1 "_law_class" (sp__law_class K)) : Cal P w K mg base 15 "_law_told" (sp__law_told P w K mg base) [] := by
  obtain ⟨f, fd, hm, F, bi⟩ := T.f__law_told
  refine ⟨⟨f, fd, _, [], F.ok sc__law_told ?len (fun cdv A outer s H vs Q E hr h => ?body), hm, F.kp, bi, .nil⟩⟩
  case len => rintro vs H Q E ⟨f, sp, rfl, _⟩; rfl
  case body =>
    obtain ⟨fl, sp, rfl, ac, h⟩ := h
    refine ⟨_, pss_one (ps_try_as (X := (cxOf C8.CX0 P w K mg base ["_law_work", "_law_e", "_law_word"] "_law_told" (defScope s__law_told) f cdv A outer s H E).nox) (i := 1) (c := .ref (He.ga K "ColumnError")) (n := "_law_e")
      (tb := fun W => tRet (tAct P w K mg base 14 0 W))
      (ts := fun a cls d => tSeq (tAsg (tCallC (sp__law_class K) a cls d (tCons (tVar 1) tNil)) (gName 2)) (tRet (tTup (tCons (tVar 2) (tCons (tIf (tTest (tOp (rInU K) (tVar 2) (tTup (tCons (tC (.str "BadValues")) (tCons (tC (.str "BadRows")) (tCons (tC (.str "BadText")) tNil)))))) (tXfA K a cls d "place" (tVar 1)) (tC (.int 0))) tNil)))))
      (Wout := fun _ _ _ _ => False) rfl rfl sc__law_told.nd rfl rfl ⟨(by rfl), by decide, .inl T.g_ColumnError⟩ LamX.takes0 (fun W pn xe tk _ => pss_one (ps_ret (pe_actB (hr.mono (by decide)) tk rfl (Or.inl rfl))))
      (fun a oe cls d pn hz hf => (pss_cons (ps_set (i := 2) sc__law_told.nd rfl (Or.inl rfl) (pe_callC c__law_class ((roomH_mark (hr.mono (by decide)))) List.mem_cons_self hz hf (by rfl) (pa_cons (pv 1) pa_nil)))
        (pss_one (ps_ret (pe_tup (pa_cons (pv 2) (pa_cons (pe_ifExp (pt_cmpR op_inU (pv 2) (pe_tup (pa_cons pe_str (pa_cons pe_str (pa_cons pe_str pa_nil)))) rfl) (pe_xfA hz hf (pv 1)) pe_int) pa_nil)))))))), ?_⟩
    refine ⟨fl, sp, rfl, ac, h _ ?_⟩
    rintro cls d H' ⟨nm, pl, hid, hD, hpd, rfl, hpl, dom, hfr, hq⟩
    refine ⟨true, T.cls.exm nm hD, fun _ a ha => ?_, fun z => nomatch z⟩
    have hin : ∀ nm ∈ rzN, nm ∈ clsN ∧ inV (.str nm) (([("BadValues" : Str), "BadRows", "BadText"]).map V.str) = placed nm := by decide
    have bb : ∀ dd, d = some dd → Hm hid H' dd = some (.xd (plF pl)) := fun dd e => by
      subst e
      rw [hm_of (hfr dd rfl)]
      cases pl with
      | none => exact hpl.elim
      | some i => exact hpl
    refine nj_at (c := cnX K d (plF pl)) (hid := hid) (ρ := [.rw (.ref fl), .rw (.ref a), .un]) (H0 := H') ?_ (sd_raw (c := cnX K d (plF pl)) dom (fun _ h => nomatch h) bb [some (.ref fl), some (.ref a), none])
    refine q_asg (ev_cls rfl hD (hin nm hD).1 ?_)
    walk_at "nm"
    refine nj_ret ?_
    walk_at "go"
    refine in_s (xs := [("BadValues" : Str), "BadRows", "BadText"]) ?_
    rw [(hin nm hD).2, hpd]
    walk_at "go"
    match d, pl, hpl, hpd, bb, hq with
    | none, none, _, _, _, hq =>
      refine bl_no rfl ?_
      walk_at "go"
      intro v H'' e _ r
      exact hq H'' v e r
    | some dd, some i, _, hpd, _, hq =>
      refine bl_yes rfl ?_
      have exc := T.cls.exc nm hD
      refine ev_place rfl ⟨exc.hg, exc.hk, exc.hs, exc.hd⟩ (plno T nm hD hpd) rfl ?_
      walk_at "go"
      intro v H'' e _ r
      exact hq H'' v e r
abbrev sp__law_all (P : Program) (w : World) (K : PySem.W.Frag) (mg : Str → Option Value) (B : Heap) : Sp := spAllZ P w K mg rzN (Al 4) 14 B
theorem ok__law_all {P : Program} {w : World} {K : PySem.W.Frag} {mg : Str → Option Value} {base : Heap} (T : Txt K mg) (c__law_alike : Cal P w K mg base 5 "_law_alike" (sp__law_alike 4 K) []) (c__law_told : Cal P w K mg base 15 "_law_told" (sp__law_told P w K mg base) []) : Cal P w K mg base 16 "_law_all" (sp__law_all P w K mg base) [] := by
  obtain ⟨f, fd, hm, F, bi⟩ := T.f__law_all
  refine ⟨⟨f, fd, _, [], F.ok sc__law_all ?len (fun cdv A outer s H vs Q E hr h => ⟨_, (pss_one (ps_ret (pe_cmpR (op_eqU hr.units) (pe_lc (g := (gName 2)) (tt := (tNot (tB (tCall (sp__law_alike 4 K) [] E0 (tCons (tCall (sp__law_told P w K mg base) [] E0 (tCons (tVar 2) tNil)) (tCons (tVar 1) tNil)))))) (te := (tVar 2)) (own := [("_law_work", 2)]) rfl sc__law_all.nd (pi_list (pv 0)) (blkOk_by (N := ["_law_works", "_law_due", "_law_work"]) (sc := defScope s__law_all) (by decide +kernel)) (fun _ _ _ _ _ => (pg_name (i := 2) sc__law_all.nd rfl (Or.inl rfl))) (fun _ _ _ _ _ => (pts_one (pt_not (pt_val (pe_c c__law_alike hr (by decide) (by rfl) (pa_cons (pe_c c__law_told hr (by decide) (by rfl) (pa_cons (pv 2) pa_nil)) (pa_cons (pv 1) pa_nil))))))) (fun _ _ _ _ _ => (pv 2))) (pe_lst pa_nil) (nomark _)))), ?body⟩), hm, F.kp, bi, .nil⟩⟩
  case len =>
    rintro vs H Q E ⟨c, hid, ls, due, _, _, _, _, r, _⟩
    rw [r.length]; rfl
  case body =>
    obtain ⟨⟨K', mu, B, st⟩, hid, ls, due, hK, hmu, dom, cb, r, al, hl, hT, hq⟩ := h
    have hK' : K = K' := hK.symm
    subst hK'
    dsimp only [cxD, cxOf]
    refine nj_at (c := ⟨K, mu, B, st⟩) (hid := hid) (ρ := startS ["_law_works", "_law_due", "_law_work"] [.lst ls, due]) (H0 := H) ?_ (sd_start (c := ⟨K, mu, B, st⟩) dom hmu cb r)
    show NJ _ _ _ _ [.im (.lst ls), .im due, .un]
    refine nj_ret ?_
    walk_at "go"
    refine EN.ev (en_fmL (c := ⟨K, mu, B, st⟩) (by decide) ?_)
    walk_at "go"
    refine ⟨ls, fun _ => false, fun d => d, rfl, by omega, fun x hx => ?_, ?_⟩
    · walk_at "nm"
      walk_at "go"
      refine sp_jZ (c := ⟨K, mu, B, st⟩) (hT x hx) ?_
      walk_at "go"
      refine sp_j ⟨due, rfl, al, ?_⟩
      exact ⟨rfl, fun z => nomatch z⟩
    · rw [show ls.filter (fun _ => false) = [] from List.filter_eq_nil_iff.mpr fun _ _ => Bool.false_ne_true, List.map_nil]
      refine EN.ev (en_lst ?_)
      walk_at "go"
      refine eq_nil (n := 0) (fun d hd => by cases hd) (by decide) ?_
      intro v H' e b r
      cases r
      exact hq H' e b
end
local macro_rules | `(tactic| walk_at "hp") => `(tactic| (first
  | with_reducible refine len_kinds ?_
  | with_reducible refine hpf_gone (by assumption) (ev_var rfl rfl) ?_
  | with_reducible refine hpf_many (by assumption) (ev_var rfl rfl) ?_
  | with_reducible refine hpf_kinds (by assumption) (ev_var rfl rfl) ?_
  | with_reducible refine hpf_forms (by assumption) (ev_var rfl rfl) ?_
  | with_reducible refine hpf_lists (by assumption) (ev_var rfl rfl) ?_
  | with_reducible refine hpf_numbers (by assumption) (ev_var rfl rfl) ?_))
local macro_rules | `(tactic| walk_at "gh") => `(tactic| (repeat (first
  | walk_at "hp"
  | walk_at "ev")))
section
local macro_rules | `(tactic| walk_at "law") => `(tactic| (repeat (first
  | with_reducible refine ev_callBW (by assumption) rfl ?_
  | with_reducible refine EN.ev (en_lst ?_)
  | with_reducible refine take_j (by omega) (by omega) ?_
  | walk_at "ev")))
theorem pow_i {c : Cn} {Q : Dt → Prop} {i j : Int} (hc : CPow i j) (h : Q (.int (i ^ j.toNat))) : R2J c (rI CPow fun i j => .int (i ^ j.toNat)) (.int i) (.int j) Q := rj_I hc h
theorem al_two (nm : Str) (i : Int) : Al 4 (.tup [.str nm, .int i]) := .tup (n := 3) (fun d hd => by
  simp only [List.mem_cons, List.not_mem_nil, or_false] at hd
  rcases hd with rfl | rfl
  · exact .str _
  · exact .int _) (by show 2 ≤ 100000; decide)
theorem al_fm (f : Fm) (h : f.small) : Al 2 f.dt := by
  have ai : ∀ {n : Nat} (i : Int), Al n (.int i) := fun i => .int i
  cases f with
  | plain vs =>
    refine .tup (fun d hd => ?_) (by show 2 ≤ 100000; decide)
    simp only [List.mem_cons, List.not_mem_nil, or_false] at hd
    rcases hd with rfl | rfl
    · exact .str _
    · exact al_dT (by have : vs.length ≤ 100 := h; omega)
  | one n v =>
    refine .tup (fun d hd => ?_) (by show 3 ≤ 100000; decide)
    simp only [List.mem_cons, List.not_mem_nil, or_false] at hd
    rcases hd with rfl | rfl | rfl
    · exact .str _
    · exact ai _
    · exact ai _
  | codes n us cs =>
    refine .tup (fun d hd => ?_) (by show 4 ≤ 100000; decide)
    simp only [List.mem_cons, List.not_mem_nil, or_false] at hd
    have h' : us.length ≤ 100 ∧ cs.length ≤ 100 := h
    rcases hd with rfl | rfl | rfl | rfl
    · exact .str _
    · exact ai _
    · exact al_dT (by omega)
    · exact al_dT (by omega)
  | near n lo sp cs =>
    refine .tup (fun d hd => ?_) (by show 5 ≤ 100000; decide)
    simp only [List.mem_cons, List.not_mem_nil, or_false] at hd
    have h' : cs.length ≤ 100 := h
    rcases hd with rfl | rfl | rfl | rfl | rfl
    · exact .str _
    · exact ai _
    · exact ai _
    · exact ai _
    · exact al_dT (by omega)
  | steps n f lo sp cs =>
    refine .tup (fun d hd => ?_) (by show 6 ≤ 100000; decide)
    simp only [List.mem_cons, List.not_mem_nil, or_false] at hd
    have h' : cs.length ≤ 100 := h
    rcases hd with rfl | rfl | rfl | rfl | rfl | rfl
    · exact .str _
    · exact ai _
    · exact ai _
    · exact ai _
    · exact ai _
    · exact al_dT (by omega)
theorem seenA_datsW {g : GT} {A : Addr → Bool} {n : Nat} : ∀ ds : List Dt, P2 (SeenA g A n) (dats ds) ds
  | [] => .nil
  | d :: r => .cons (by cases n with
    | zero => rfl
    | succ n => exact .inl rfl) (seenA_datsW r)
abbrev lawP (K : PySem.W.Frag) : Addr := (He.cT K ("law", none)).2
abbrev isP (K : PySem.W.Frag) : Addr := (He.cT K ("_law_is", none)).2
abbrev rfP (K : PySem.W.Frag) : Addr := (He.cT K ("_law_refuses", none)).2
abbrev lawQ : Str := "law.<locals>.<lambda>"
abbrev isQ : Str := "_law_is.<locals>.<lambda>"
abbrev rfQ : Str := "_law_refuses.<locals>.<lambda>"
def S__law_is (K : PySem.W.Frag) (g : GT) (rs : List RV) (Q : GT → RV → Prop) : Prop := ∃ k vs f, rs = [.dat f.dt, .dat (dL vs)] ∧ Laid k vs f ∧ f.small ∧ g (isP K) = some (.tab isQ) ∧ ∀ g', (∀ y u, g y = some u → g' y = some u) → Q g' (.dat (.bl true))
abbrev sp__law_is (K : PySem.W.Frag) : Sp := spRB K (S__law_is K)
theorem ok__law_is {P : Program} {w : World} {K : PySem.W.Frag} {mg : Str → Option Value} {base : Heap} (T : Txt K mg) (b_values_of : ∀ B, Cal P w K mg B 3 "values_of" (sp_values_of K) []) (b__law_alike : ∀ B, Cal P w K mg B 5 "_law_alike" (sp__law_alike 4 K) []) (b__law_room : ∀ B, Cal P w K mg B 4 "_law_room" (sp__law_room 3 K) []) (b_room : ∀ B, Cal P w K mg B 5 "room" (sp_room K) []) (b_value_at : ∀ B, CalX P w K mg B 5 "value_at" (sp_value_at K)) (b__law_take : ∀ B, Cal P w K mg B 1 "_law_take" (sp__law_take K) []) (b__law_all : ∀ B, Cal P w K mg B 16 "_law_all" (sp__law_all P w K mg B) []) (TB : LamX.TabB base mg (He.cT K ("_law_is", none)).1 (He.cT K ("_law_is", none)).2) : Cal P w K mg base 17 "_law_is" (sp__law_is K) [] := by
  have c_values_of := b_values_of base
  have c__law_alike := b__law_alike base
  have c__law_room := b__law_room base
  have c_room := b_room base
  have c_value_at := b_value_at base
  have c__law_take := b__law_take base
  have c__law_all := b__law_all base
  refine cal_rBC T.f__law_is sc__law_is ?len fun f A outer s H E hr => ⟨_, (pss_cons (ps_for PassesOwn.never rfl (pi_range1 (by rfl) T.b_range (pa_cons pe_int pa_nil)) (pg_name (i := 3) sc__law_is.nd rfl (Or.inl rfl)) (pss_cons (ps_set (i := 4) sc__law_is.nd rfl (Or.inl rfl) (pe_c c_values_of hr (by decide) (by rfl) (pa_cons (pv 1) pa_nil)))
      (pss_cons (ps_if ((pw_or (pt_not (pt_val (pe_c c__law_alike hr (by decide) (by rfl) (pa_cons (pv 4) (pa_cons (pv 2) pa_nil))))) (pw_or1 (pt_not (pt_val (pe_c c__law_alike hr (by decide) (by rfl) (pa_cons (pe_c c_room hr (by decide) (by rfl) (pa_cons (pv 1) pa_nil)) (pa_cons (pe_c c__law_room hr (by decide) (by rfl) (pa_cons (pv 1) pa_nil)) pa_nil)))))))).pt (pss_one (ps_ret pe_bl)) pss_nil)
      (pss_one (ps_expr (pe_bm PySem.F.plainAttrs_list PySem.F.slot_list_append PySem.F.type_list_append mt_append (pv 4) (pa_cons pe_int pa_nil)))))))
      (pss_cons (ps_if (pt_cmpR (op_neU hr.units) (pe_lc (g := (gName 8)) (tt := (tNot (tB (tCall (sp__law_alike 4 K) [] E0 (tCons (tCall (sp_value_at K) [] E0 (tCons (tVar 1) (tCons (tVar 8) tNil))) (tCons (tOp (rIx K) (tVar 2) (tVar 8)) tNil)))))) (te := (tVar 8)) (own := [("_law_k", 8)]) rfl sc__law_is.nd (pi_range1 (by rfl) T.b_range (pa_cons (pe_callB cl_len (by rfl) T.b_len PySem.boot_len (pa_cons (pv 2) pa_nil)) pa_nil)) (blkOk_by (N := ["_law_box", "_law_form_here", "_law_values_here", "_law_again", "_law_found", "_law_far", "_law_more", "_law_works", "_law_k"]) (sc := defScope s__law_is) (by decide +kernel)) (fun _ _ _ _ _ => (pg_name (i := 8) sc__law_is.nd rfl (Or.inl rfl))) (fun _ _ _ _ _ => (pts_one (pt_not (pt_val (pe_c c__law_alike hr (by decide) (by rfl) (pa_cons (pe_cC c_value_at hr (by decide) (by rfl) (pa_cons (pv 1) (pa_cons (pv 8) pa_nil))) (pa_cons (pe_ix ix_seq (pv 2) (pv 8) (fun _ _ => rfl)) pa_nil))))))) (fun _ _ _ _ _ => (pv 8))) (pe_lst pa_nil) (nomark _)) (pss_one (ps_ret pe_bl)) pss_nil)
      (pss_cons (ps_asg (pe_tup (pa_cons (pe_c c__law_take hr (by decide) (by rfl) (pa_cons (pv 0) (pa_cons (pe_op op_pow pe_int pe_int) pa_nil))) (pa_cons (pe_c c__law_take hr (by decide) (by rfl) (pa_cons (pv 0) (pa_cons pe_int pa_nil))) pa_nil))) (pg_tup rfl (pgs_cons (pg_name (i := 5) sc__law_is.nd rfl (Or.inr rfl)) (pgs_cons (pg_name (i := 6) sc__law_is.nd rfl (Or.inr rfl)) pgs_nil))))
      (pss_cons (ps_set (i := 7) sc__law_is.nd rfl (Or.inl rfl) (pe_lst (pa_cons (pe_lamM (k := 13) (ps := []) TB rfl rfl (fun _ => rfl) (lamS2_by (N := ["_law_box", "_law_form_here", "_law_values_here", "_law_again", "_law_found", "_law_far", "_law_more", "_law_works", "_law_k"]) (sc := defScope s__law_is) (by decide +kernel)) rfl (by decide) rfl (fun _ _ _ _ _ _ => rfl) (fun z => absurd rfl z) (fun B A outer s H E f c' hr => (pe_cX (b_value_at _) hr (by decide) (takes_of rfl rfl rfl rfl) (by rfl) (pa_cons (pv 1) (pa_cons (pe_op op_subU (pe_un un_neg pe_int) (pv 6)) pa_nil))))) (pa_cons (pe_lamM (k := 13) (ps := ["_law_a"]) TB rfl rfl (fun _ => rfl) (lamS2_by (N := ["_law_box", "_law_form_here", "_law_values_here", "_law_again", "_law_found", "_law_far", "_law_more", "_law_works", "_law_k"]) (sc := defScope s__law_is) (by decide +kernel)) rfl (by decide) rfl (fun z => nomatch z) (fun _ _ _ _ _ _ _ its hl => match its, hl with | [_], _ => ⟨_, rfl, rfl⟩) (fun B A outer s H E f c' hr => (pe_cX (b_value_at _) hr (by decide) (takes_of rfl rfl rfl rfl) (by rfl) (pa_cons (pv 1) (pa_cons (pe_op (op_addUK (K := K) rfl) (pe_callB (cl_lenK (K := K) rfl) (by rfl) T.b_len PySem.boot_len (pa_cons (pv 2) pa_nil)) (pv 6)) pa_nil))))) pa_nil))))
      (pss_cons (ps_set (i := 7) sc__law_is.nd rfl (Or.inl rfl) (pe_op op_addU (pv 7) (pe_lst (pa_cons (pe_lamM (k := 13) (ps := ["_law_b"]) TB rfl rfl (fun _ => rfl) (lamS2_by (N := ["_law_box", "_law_form_here", "_law_values_here", "_law_again", "_law_found", "_law_far", "_law_more", "_law_works", "_law_k"]) (sc := defScope s__law_is) (by decide +kernel)) rfl (by decide) rfl (fun z => nomatch z) (fun _ _ _ _ _ _ _ its hl => match its, hl with | [_], _ => ⟨_, rfl, rfl⟩) (fun B A outer s H E f c' hr => (pe_cX (b_value_at _) hr (by decide) (takes_of rfl rfl rfl rfl) (by rfl) (pa_cons (pv 1) (pa_cons (pe_op op_subU (pe_un un_neg pe_int) (pv 5)) pa_nil))))) (pa_cons (pe_lamM (k := 13) (ps := ["_law_c"]) TB rfl rfl (fun _ => rfl) (lamS2_by (N := ["_law_box", "_law_form_here", "_law_values_here", "_law_again", "_law_found", "_law_far", "_law_more", "_law_works", "_law_k"]) (sc := defScope s__law_is) (by decide +kernel)) rfl (by decide) rfl (fun z => nomatch z) (fun _ _ _ _ _ _ _ its hl => match its, hl with | [_], _ => ⟨_, rfl, rfl⟩) (fun B A outer s H E f c' hr => (pe_cX (b_value_at _) hr (by decide) (takes_of rfl rfl rfl rfl) (by rfl) (pa_cons (pv 1) (pa_cons (pe_op (op_addUK (K := K) rfl) (pe_callB (cl_lenK (K := K) rfl) (by rfl) T.b_len PySem.boot_len (pa_cons (pv 2) pa_nil)) (pv 5)) pa_nil))))) pa_nil)))))
      (pss_one (ps_ret (pe_callBig b__law_all hr (by decide) (by rfl) (pa_cons (pv 7) (pa_cons (pe_tup (pa_cons pe_str (pa_cons pe_int pa_nil))) pa_nil)))))))))), ?body⟩
  case' body => try dsimp only [cxD, cxOf]
  case len => rintro g rs Q ⟨_, _, _, rfl, _⟩; rfl
  case body =>
    rintro b l g rs Q hne ⟨k, vs, f, rfl, hL, hsm, hT, hq⟩ hid H0 D dom hD
    show NJ _ _ _ _ [.rw (.ref b), .im f.dt, .im (dL vs), .un, .un, .un, .un, .un, .un]
    have hvl := hL.2.1.le
    refine qm_for (W := WT (XB K b l)) (ij_rng1 ?_)
    walk_at "law"
    refine ⟨2, rfl, by omega, by omega, fun i g' ρ' => (∀ y u, g y = some u → g' y = some u) ∧ ∃ r3 r4, ρ' = [.rw (.ref b), .im f.dt, .im (dL vs), r3, r4, .un, .un, .un, .un], ⟨(fun _ _ h => h), _, _, rfl⟩, ?_, ?_⟩
    · rintro H1 e1 i d g' ρ' hi ⟨k1, r3, r4, rfl⟩ fr1
      refine tg_name ?_
      walk_at "nm"
      refine qr_asg (evr_new (en_call ?_))
      walk_at "law"
      refine sp_n ⟨k, vs, f, rfl, hL, fun o ho fr2 => ?_⟩
      walk_at "nm"
      refine qg_when (etr_or (etr_not (etr_B (evr_callPG (fun _ => true) 2 (eag_cons (evr_ref (erc_var rfl) (eag_cons (evr (ev_var rfl (eag_nil ⟨[dL vs, dL vs], .cons (.inr ⟨o, _, _, rfl, rfl, setG_same, rfl, seenA_datsW _⟩) (.cons (.inl rfl) .nil), _, rfl, (al_dL (n := 0) (by omega)).up.up.up, rfl, true, rfl, (fun z => nomatch z), fun _ => ?_⟩))))))))))
      refine etr_not (etr_B (evr ?_))
      walk_at "law"
      refine sp_j ⟨f, rfl, hsm, ?_⟩
      walk_at "law"
      refine sp_j ⟨f.dt, rfl, f.td hsm, ?_⟩
      rw [f.wt_room]
      walk_at "law"
      refine sp_j ⟨_, rfl, .int _, true, rfl, fun fr3 => ⟨(fun z => nomatch z), fun _ => ?_⟩⟩
      refine njr_app (erc_var rfl) setG_same (evr (ev_int ⟨_, setG_same, by unfold dats; rw [List.length_map, List.length_map]; omega, fun fr4 => ?_⟩))
      rw [setG_two] at fr4 ⊢
      refine njm_nx ⟨fun y u hy => ?_, _, _, rfl⟩ (((fr1.trans fr2).trans fr3).trans fr4)
      have h1 := k1 y u hy
      rw [setG_ne (fun z => by subst z; rw [ho] at h1; cases h1)]
      exact h1
    · rintro g' ρ' ⟨k1, r3, r4, rfl⟩ fr1
      have hT' := k1 _ _ hT
      refine q_when ?_
      walk_at "law"
      refine EN.ev (en_fmR (c := ct (XB K b l) g') (by decide) ?_)
      walk_at "law"
      refine ⟨(vs.length : Nat), fun _ => false, fun d => d, rfl, by omega, by omega, fun j hj => ?_, ?_⟩
      · walk_at "nm"
        walk_at "law"
        have hj' : j < vs.length := by omega
        refine sp_jY ⟨k, vs, f, (j : Nat), rfl, hL, fun z => z ⟨by omega, by omega⟩, fun q hq hql => ?_⟩
        have : q = j := by omega
        subst this
        walk_at "law"
        refine ix_l (d := .int (vs.getD q 0)) (atI_int (by omega) (by rw [Int.toNat_natCast]; exact getD_at hj')) ?_
        walk_at "law"
        refine sp_j ⟨_, rfl, .int _, ?_⟩
        exact ⟨rfl, fun z => nomatch z⟩
      rw [show (rangeD 0 ((vs.length : Nat) : Int).toNat).filter (fun _ => false) = [] from List.filter_eq_nil_iff.mpr fun _ _ => Bool.false_ne_true, List.map_nil]
      walk_at "law"
      refine ne_nil (n := 0) (fun d hd => by cases hd) (by decide) ?_
      walk_at "law"
      refine bl_no rfl ?_
      refine q_asgT ?_
      walk_at "law"
      refine pow_i ⟨by decide, by decide, by decide⟩ ?_
      walk_at "law"
      refine take_j (by decide) (by decide) fun far f0 f1 => ?_
      walk_at "law"
      intro more m0 m1
      walk_at "law"
      refine tg_tup rfl (tgs_name (tgs_name (tgs_nil ?_)))
      walk_at "nm"
      have bad : ∀ {g1 : GT} {p : Int}, ¬ (0 ≤ p ∧ p < (vs.length : Nat)) → ∃ R, S_value_at [f.dt, .int p] (fun d => (∀ y u, g1 y = some u → g1 y = some u) ∧ RV.dat d = .dat (.tup [.str "BadNumber", .int 0])) R ∧ ∀ nm pl, R nm pl → nm ∈ rzN ∧ placed nm = pl.isSome ∧ (∀ y u, g1 y = some u → g1 y = some u) ∧ RV.dat (refD nm pl) = .dat (.tup [.str "BadNumber", .int 0]) := fun {g1 p} hp => ⟨fun nm pl => nm = "BadNumber" ∧ pl = none, ⟨k, vs, f, p, rfl, hL, fun _ => ⟨rfl, rfl⟩, fun q hq hl => (hp ⟨by omega, by omega⟩).elim⟩, by rintro nm pl ⟨rfl, rfl⟩; exact ⟨by decide, by decide, (fun _ _ h => h), rfl⟩⟩
      refine q_asg (EN.ev (en_lst (ea_cons (ev_lamW hT' fun fA LA hA => ea_cons (ev_lamW hT' fun fB LB hB => ea_nil ⟨by show 2 ≤ 100000; omega, ?_⟩)))))
      walk_at "nm"
      refine q_asg (ev_op (ev_var rfl (EN.ev (en_lst (ea_cons (ev_lamW hT' fun fC LC hC => ea_cons (ev_lamW hT' fun fD LD hD' => ea_nil ⟨by show 2 ≤ 100000; omega, R2N.j (add_l (by show 2 + 2 ≤ 100000; omega) ?_)⟩)))))))
      walk_at "nm"
      refine njr_ret (evr (ev_allW rfl (ea_cons (ev_var rfl (ea_cons (ev_tup (ea_cons (ev_str (ea_cons (ev_int (ea_nil ⟨by show 2 ≤ 100000; omega, ea_nil ⟨_, _, rfl, al_two _ _, by show 4 ≤ 100; omega, fun d hd => ?_, fun fr5 => hD.rt _ _ (hq _ k1) (fr1.trans fr5)⟩⟩)))))))))))
      simp only [List.mem_append, List.mem_cons, List.not_mem_nil, or_false] at hd
      rcases hd with (rfl | rfl) | (rfl | rfl)
      · refine ⟨_, _, _, rfl, hA, twd_callY ?_⟩
        walk_at "go"
        exact bad (by omega)
      · refine ⟨_, _, _, rfl, hB, twd_callY ?_⟩
        walk_at "go"
        exact bad (by omega)
      · refine ⟨_, _, _, rfl, hC, twd_callY ?_⟩
        walk_at "go"
        exact bad (by omega)
      · refine ⟨_, _, _, rfl, hD', twd_callY ?_⟩
        walk_at "go"
        exact bad (by omega)
theorem badV_not {vs : List Int} {k : Nat} (h : BadV vs k) : ¬ InB vs := fun b => by
  rcases h with ⟨rfl, _⟩ | ⟨⟨x, hx, h⟩, _⟩
  · exact b.ne rfl
  · have := b.bd x (List.mem_of_getElem? hx)
    have := (List.getElem?_eq_some_iff.mp hx).1
    have := b.le
    omega
theorem badV_one {vs : List Int} {k m : Nat} (h : BadV vs k) (h' : BadV vs m) : k = m := by
  rcases h with ⟨e, rfl⟩ | ⟨⟨x, hx, h⟩, h2⟩
  · rcases h' with ⟨_, rfl⟩ | ⟨⟨y, hy, _⟩, _⟩
    · rfl
    · rw [e] at hy; simp at hy
  · rcases h' with ⟨e, rfl⟩ | ⟨⟨y, hy, h'⟩, h2'⟩
    · rw [e] at hx; simp at hx
    · rcases Nat.lt_trichotomy k m with z | z | z
      · have := h2' k x z hx; omega
      · exact z
      · have := h2 m y z hy; omega
theorem badV_mid {vs : List Int} {n : Nat} {x : Int} {r : List Int} (hb : InB vs) (hn : n ≤ 31) (hnl : n ≤ vs.length) (hx : ¬ (-9999 ≤ x ∧ x ≤ 9999)) : BadV (vs.take n ++ x :: r) n := by
  have hl : (vs.take n).length = n := by rw [List.length_take]; omega
  refine .inr ⟨⟨x, by rw [List.getElem?_append_right (by omega), hl, Nat.sub_self]; rfl, .inr hx⟩, fun m y hm hy => ?_⟩
  rw [List.getElem?_append_left (by omega)] at hy
  have := hb.bd y (List.mem_of_mem_take (List.mem_of_getElem? hy))
  omega
theorem badV_long {n : Nat} (hn : 33 ≤ n) : BadV (List.replicate n 7) 32 := by
  refine .inr ⟨⟨7, by rw [List.getElem?_replicate_of_lt (by omega)], .inl (Nat.le_refl _)⟩, fun m y hm hy => ?_⟩
  have := List.eq_of_mem_replicate (List.mem_of_getElem? hy)
  omega
def S__law_refuses (K : PySem.W.Frag) (g : GT) (rs : List RV) (Q : GT → RV → Prop) : Prop := ∃ vs, rs = [.dat (dL vs)] ∧ InB vs ∧ g (rfP K) = some (.tab rfQ) ∧ Q g (.dat (.bl true))
abbrev sp__law_refuses (K : PySem.W.Frag) : Sp := spRB K (S__law_refuses K)
theorem ok__law_refuses {P : Program} {w : World} {K : PySem.W.Frag} {mg : Str → Option Value} {base : Heap} (T : Txt K mg) (b__law_take : ∀ B, Cal P w K mg B 1 "_law_take" (sp__law_take K) []) (b_prices : ∀ B, CalX P w K mg B 4 "prices" (sp_prices K)) (b_cut : ∀ B, CalX P w K mg B 4 "cut" (sp_cut K)) (b_least_form : ∀ B, CalX P w K mg B 7 "least_form" (sp_least_form K)) (b_laid : ∀ B, CalX P w K mg B 7 "laid" (sp_laid K)) (b__law_all : ∀ B, Cal P w K mg B 16 "_law_all" (sp__law_all P w K mg B) []) (b_bound : ∀ B, CalX P w K mg B 4 "bound" (sp_bound K)) (TB : LamX.TabB base mg (He.cT K ("_law_refuses", none)).1 (He.cT K ("_law_refuses", none)).2) : Cal P w K mg base 17 "_law_refuses" (sp__law_refuses K) [] := by
  have c__law_take := b__law_take base
  have c_prices := b_prices base
  have c_cut := b_cut base
  have c_least_form := b_least_form base
  have c_laid := b_laid base
  have c__law_all := b__law_all base
  have c_bound := b_bound base
  refine cal_rBC T.f__law_refuses sc__law_refuses ?len fun f A outer s H E hr => ⟨_, (pss_cons (ps_set (i := 2) sc__law_refuses.nd rfl (Or.inl rfl) (pe_c c__law_take hr (by decide) (by rfl) (pa_cons (pv 0) (pa_cons (pe_op op_pow pe_int pe_int) pa_nil))))
      (pss_cons (ps_set (i := 3) sc__law_refuses.nd rfl (Or.inl rfl) (pe_c c__law_take hr (by decide) (by rfl) (pa_cons (pv 0) (pa_cons (pe_op op_addU (pe_callB (cl_min2 rfl) (by rfl) T.b_min (by decide +kernel) (pa_cons pe_int (pa_cons (pe_callB cl_len (by rfl) T.b_len PySem.boot_len (pa_cons (pv 1) pa_nil)) pa_nil))) pe_int) pa_nil))))
      (pss_cons (ps_set (i := 4) sc__law_refuses.nd rfl (Or.inl rfl) (pe_ix ix_seq (pe_lst (pa_cons pe_int (pa_cons (pe_un un_neg pe_int) (pa_cons (pe_op op_addU pe_int (pv 2)) (pa_cons (pe_op op_subU (pe_un un_neg pe_int) (pv 2)) pa_nil))))) (pe_c c__law_take hr (by decide) (by rfl) (pa_cons (pv 0) (pa_cons pe_int pa_nil))) (fun _ _ => rfl)))
      (pss_cons (ps_set (i := 5) sc__law_refuses.nd rfl (Or.inl rfl) (pe_lst (pa_cons (pe_tup (pa_cons (pe_op op_addU (pe_op op_addU (pe_op op_addU (pe_slice sl_list (pv 1) po_none (po_some (pv 3))) (pe_lst (pa_cons (pv 4) pa_nil))) (pe_slice sl_list (pv 1) (po_some (pv 3)) (po_some pe_int))) (pe_lst (pa_cons (pv 4) pa_nil))) (pa_cons (pv 3) pa_nil))) (pa_cons (pe_tup (pa_cons (pe_lst pa_nil) (pa_cons pe_int pa_nil))) (pa_cons (pe_tup (pa_cons (pe_op op_mulU (pe_lst (pa_cons pe_int pa_nil)) (pe_op op_addU pe_int (pe_c c__law_take hr (by decide) (by rfl) (pa_cons (pv 0) (pa_cons pe_int pa_nil))))) (pa_cons pe_int pa_nil))) pa_nil)))))
      (pss_cons (ps_asg (pe_ix ix_seq (pv 5) (pe_c c__law_take hr (by decide) (by rfl) (pa_cons (pv 0) (pa_cons pe_int pa_nil))) (fun _ _ => rfl)) (pg_tup rfl (pgs_cons (pg_name (i := 6) sc__law_refuses.nd rfl (Or.inr rfl)) (pgs_cons (pg_name (i := 7) sc__law_refuses.nd rfl (Or.inl rfl)) pgs_nil))))
      (pss_cons (ps_set (i := 8) sc__law_refuses.nd rfl (Or.inr rfl) (pe_ix ix_seq (pe_lst (pa_cons pe_str (pa_cons pe_str (pa_cons pe_str (pa_cons pe_str (pa_cons pe_str pa_nil)))))) (pe_c c__law_take hr (by decide) (by rfl) (pa_cons (pv 0) (pa_cons pe_int pa_nil))) (fun _ _ => rfl)))
      (pss_cons (ps_set (i := 9) sc__law_refuses.nd rfl (Or.inl rfl) (pe_lst (pa_cons (pe_lamM (k := 13) (ps := []) TB rfl rfl (fun _ => rfl) (lamS2_by (N := ["_law_box", "_law_values_here", "_law_far", "_law_at", "_law_odd", "_law_cases", "_law_bad", "_law_place", "_law_kind", "_law_works", "_law_name"]) (sc := defScope s__law_refuses) (by decide +kernel)) rfl (by decide) rfl (fun _ _ _ _ _ _ => rfl) (fun z => absurd rfl z) (fun B A outer s H E f c' hr => (pe_cX (b_laid _) hr (by decide) (takes_of rfl rfl rfl rfl) (by rfl) (pa_cons (pv 8) (pa_cons (pv 6) pa_nil))))) (pa_cons (pe_lamM (k := 13) (ps := ["_law_a"]) TB rfl rfl (fun _ => rfl) (lamS2_by (N := ["_law_box", "_law_values_here", "_law_far", "_law_at", "_law_odd", "_law_cases", "_law_bad", "_law_place", "_law_kind", "_law_works", "_law_name"]) (sc := defScope s__law_refuses) (by decide +kernel)) rfl (by decide) rfl (fun z => nomatch z) (fun _ _ _ _ _ _ _ its hl => match its, hl with | [_], _ => ⟨_, rfl, rfl⟩) (fun B A outer s H E f c' hr => (pe_cX (b_least_form _) hr (by decide) (takes_of rfl rfl rfl rfl) (by rfl) (pa_cons (pv 6) pa_nil)))) (pa_cons (pe_lamM (k := 13) (ps := ["_law_b"]) TB rfl rfl (fun _ => rfl) (lamS2_by (N := ["_law_box", "_law_values_here", "_law_far", "_law_at", "_law_odd", "_law_cases", "_law_bad", "_law_place", "_law_kind", "_law_works", "_law_name"]) (sc := defScope s__law_refuses) (by decide +kernel)) rfl (by decide) rfl (fun z => nomatch z) (fun _ _ _ _ _ _ _ its hl => match its, hl with | [_], _ => ⟨_, rfl, rfl⟩) (fun B A outer s H E f c' hr => (pe_cX (b_cut _) hr (by decide) (takes_of rfl rfl rfl rfl) (by rfl) (pa_cons (pv 6) pa_nil)))) (pa_cons (pe_lamM (k := 13) (ps := ["_law_c"]) TB rfl rfl (fun _ => rfl) (lamS2_by (N := ["_law_box", "_law_values_here", "_law_far", "_law_at", "_law_odd", "_law_cases", "_law_bad", "_law_place", "_law_kind", "_law_works", "_law_name"]) (sc := defScope s__law_refuses) (by decide +kernel)) rfl (by decide) rfl (fun z => nomatch z) (fun _ _ _ _ _ _ _ its hl => match its, hl with | [_], _ => ⟨_, rfl, rfl⟩) (fun B A outer s H E f c' hr => (pe_cX (b_prices _) hr (by decide) (takes_of rfl rfl rfl rfl) (by rfl) (pa_cons (pv 6) pa_nil)))) pa_nil))))))
      (pss_cons (ps_if (pt_not (pt_val (pe_callBig b__law_all hr (by decide) (by rfl) (pa_cons (pe_op op_addU (pv 9) (pe_lst (pa_cons (pe_lamM (k := 13) (ps := ["_law_d"]) TB rfl rfl (fun _ => rfl) (lamS2_by (N := ["_law_box", "_law_values_here", "_law_far", "_law_at", "_law_odd", "_law_cases", "_law_bad", "_law_place", "_law_kind", "_law_works", "_law_name"]) (sc := defScope s__law_refuses) (by decide +kernel)) rfl (by decide) rfl (fun z => nomatch z) (fun _ _ _ _ _ _ _ its hl => match its, hl with | [_], _ => ⟨_, rfl, rfl⟩) (fun B A outer s H E f c' hr => (pe_cX (b_bound _) hr (by decide) (takes_of rfl rfl rfl rfl) (by rfl) (pa_cons (pv 6) (pa_cons (pe_lst pa_nil) pa_nil))))) pa_nil))) (pa_cons (pe_tup (pa_cons pe_str (pa_cons (pv 7) pa_nil))) pa_nil))))) (pss_one (ps_ret pe_bl)) pss_nil)
      (pss_cons (ps_set (i := 10) sc__law_refuses.nd rfl (Or.inr rfl) (pe_ix ix_seq (pe_lst (pa_cons pe_str (pa_cons pe_str (pa_cons pe_str (pa_cons pe_str pa_nil))))) (pe_c c__law_take hr (by decide) (by rfl) (pa_cons (pv 0) (pa_cons pe_int pa_nil))) (fun _ _ => rfl)))
      (pss_one (ps_ret (pe_callBig b__law_all hr (by decide) (by rfl) (pa_cons (pe_lst (pa_cons (pe_lamM (k := 13) (ps := []) TB rfl rfl (fun _ => rfl) (lamS2_by (N := ["_law_box", "_law_values_here", "_law_far", "_law_at", "_law_odd", "_law_cases", "_law_bad", "_law_place", "_law_kind", "_law_works", "_law_name"]) (sc := defScope s__law_refuses) (by decide +kernel)) rfl (by decide) rfl (fun _ _ _ _ _ _ => rfl) (fun z => absurd rfl z) (fun B A outer s H E f c' hr => (pe_cX (b_laid _) hr (by decide) (takes_of rfl rfl rfl rfl) (by rfl) (pa_cons (pv 10) (pa_cons (pv 6) pa_nil))))) pa_nil)) (pa_cons (pe_tup (pa_cons pe_str (pa_cons pe_int pa_nil))) pa_nil)))))))))))))), ?body⟩
  case' body => try dsimp only [cxD, cxOf]
  case len => rintro g rs Q ⟨_, rfl, _⟩; rfl
  case body =>
    rintro b l g rs Q hne ⟨vs, rfl, hB, hT, hq⟩ hid H0 D dom hD
    have hvl := hB.le
    have hpos := List.length_pos_iff.mpr hB.ne
    show NJ _ _ _ _ [.rw (.ref b), .im (dL vs), .un, .un, .un, .un, .un, .un, .un, .un, .un]
    refine q_asg ?_
    walk_at "law"
    refine pow_i ⟨by decide, by decide, by decide⟩ ?_
    walk_at "law"
    refine take_j (by decide) (by decide) fun far f0 f1 => ?_
    walk_at "nm"
    refine q_asg ?_
    walk_at "law"
    intro at_ a0 a1
    obtain ⟨n, rfl⟩ := Int.eq_ofNat_of_zero_le a0
    have hn31 : n ≤ 31 := by split at a1 <;> omega
    have hnl : n ≤ vs.length := by split at a1 <;> omega
    clear a0 a1
    walk_at "nm"
    refine q_asg ?_
    walk_at "law"
    intro r r0 r1
    obtain ⟨odd, hodd, hbad⟩ : ∃ odd, atI [Dt.int 10000, Dt.int (-10000), Dt.int (10000 + far), Dt.int (-10000 - far)] r = some (.int odd) ∧ ¬ (-9999 ≤ odd ∧ odd ≤ 9999) := by
      rcases (by omega : r = 0 ∨ r = 1 ∨ r = 2 ∨ r = 3) with rfl | rfl | rfl | rfl
      · exact ⟨_, rfl, by omega⟩
      · exact ⟨_, rfl, by omega⟩
      · exact ⟨_, rfl, by omega⟩
      · exact ⟨_, rfl, by omega⟩
    refine ix_l hodd ?_
    walk_at "nm"
    refine q_asg ?_
    walk_at "law"
    have hc1 : cutD (vs.map Dt.int) none (some ((n : Nat) : Int)) = (vs.take n).map Dt.int := by
      unfold cutD
      rw [HT.sIx_nat, HT.sIx_none, List.length_map, List.drop_zero, Nat.sub_zero, ← List.map_take, Nat.min_eq_left hnl]
    obtain ⟨r', hc2, hr'⟩ : ∃ r' : List Int, cutD (vs.map Dt.int) (some ((n : Nat) : Int)) (some 31) = r'.map Dt.int ∧ r'.length ≤ 32 := by
      unfold cutD
      rw [← List.map_drop, ← List.map_take]
      exact ⟨_, rfl, by rw [List.length_take, List.length_drop]; omega⟩
    have htl : (vs.take n).length ≤ 32 := by rw [List.length_take]; omega
    refine EN.ev (en_sl (ev_var rfl (lstJ (eo_none (eo_some (ev_var rfl (intJ ?_)))))))
    rw [hc1]
    walk_at "law"
    refine R2N.j (add_l (by rw [List.length_map]; show _ + 1 ≤ _; omega) ?_)
    refine EN.ev (en_sl (ev_var rfl (lstJ (eo_some (ev_var rfl (intJ (eo_some (ev_int (intJ ?_)))))))))
    rw [hc2]
    refine R2N.j (add_l (by rw [List.length_append, List.length_map, List.length_map]; show _ + 1 + _ ≤ _; omega) ?_)
    walk_at "law"
    refine R2N.j (add_l (by rw [List.length_append, List.length_append, List.length_map, List.length_map]; show _ + 1 + _ + 1 ≤ _; omega) ?_)
    walk_at "law"
    intro q q0 q1
    refine add_i ?_
    refine R2N.j (mul_l ⟨by omega, by omega⟩ (by show 1 * _ ≤ 100000; omega) ?_)
    rw [rep_int]
    walk_at "law"
    walk_at "nm"
    have ebad : (vs.take n).map Dt.int ++ [Dt.int odd] ++ r'.map Dt.int ++ [Dt.int odd] = (vs.take n ++ odd :: (r' ++ [odd])).map Dt.int := by
      rw [List.map_append, List.map_cons, List.map_append, List.append_assoc, List.append_assoc]; rfl
    rw [ebad]
    refine q_asgT ?_
    walk_at "law"
    intro z z0 z1
    obtain ⟨bad, place, hat, hbv, hbl⟩ : ∃ (bad : List Int) (place : Nat), atI [Dt.tup [.lst ((vs.take n ++ odd :: (r' ++ [odd])).map Dt.int), .int ((n : Nat) : Int)], .tup [.lst [], .int 0], .tup [.lst ((List.replicate (33 + q).toNat 7).map Dt.int), .int 32]] z = some (.tup [dL bad, .int ((place : Nat) : Int)]) ∧ BadV bad place ∧ bad.length ≤ 1000 := by
      rcases (by omega : z = 0 ∨ z = 1 ∨ z = 2) with rfl | rfl | rfl
      · exact ⟨_, n, rfl, badV_mid hB hn31 hnl hbad, by rw [List.length_append, List.length_cons, List.length_append]; show _ + (_ + 1 + 1) ≤ _; omega⟩
      · exact ⟨[], 0, rfl, .inl ⟨rfl, rfl⟩, by show 0 ≤ 1000; omega⟩
      · exact ⟨_, 32, rfl, badV_long (by omega), by rw [List.length_replicate]; omega⟩
    refine ix_l hat ?_
    refine tg_tup rfl (tgs_name (tgs_name (tgs_nil ?_)))
    walk_at "nm"
    clear hat z0 z1 ebad hc1 hc2 q0 q1
    have hni := badV_not hbv
    refine q_asg ?_
    walk_at "law"
    intro kk k0 k1
    obtain ⟨k, hk, hk5⟩ : ∃ k, atI [Dt.str "plain", .str "one", .str "codes", .str "near", .str "steps"] kk = some (.str (nameK k)) ∧ k < 5 := by
      rcases (by omega : kk = 0 ∨ kk = 1 ∨ kk = 2 ∨ kk = 3 ∨ kk = 4) with rfl | rfl | rfl | rfl | rfl
      · exact ⟨0, rfl, by omega⟩
      · exact ⟨1, rfl, by omega⟩
      · exact ⟨2, rfl, by omega⟩
      · exact ⟨3, rfl, by omega⟩
      · exact ⟨4, rfl, by omega⟩
    refine ix_l hk ?_
    walk_at "nm"
    refine q_asg (EN.ev (en_lst (ea_cons (ev_lamW hT fun fA LA hA => ea_cons (ev_lamW hT fun fB LB hB2 => ea_cons (ev_lamW hT fun fC LC hC => ea_cons (ev_lamW hT fun fD LD hD2 => ea_nil ⟨by show 4 ≤ 100000; omega, ?_⟩)))))))
    walk_at "nm"
    refine q_when ?_
    walk_at "law"
    refine ev_allW rfl (ea_cons (ev_op (ev_var rfl (EN.ev (en_lst (ea_cons (ev_lamW hT fun fE LE hE2 => ea_nil ⟨by show 1 ≤ 100000; omega, R2N.j (add_l (by show 4 + 1 ≤ 100000; omega) (ea_cons (ev_tup (ea_cons (ev_str (ea_cons (ev_var rfl (ea_nil ⟨by show 2 ≤ 100000; omega, ea_nil ⟨_, _, rfl, al_two _ _, by show 5 ≤ 100; omega, fun d hd => ?_, ?_⟩⟩))))))))⟩)))))))
    · have rr : ∀ (nm : Str) (pl : Option Int), nm = "BadValues" ∧ pl = some ((place : Nat) : Int) → nm ∈ rzN ∧ placed nm = pl.isSome ∧ (∀ y u, g y = some u → g y = some u) ∧ RV.dat (refD nm pl) = .dat (.tup [.str "BadValues", .int ((place : Nat) : Int)]) := by
        rintro nm pl ⟨rfl, rfl⟩
        exact ⟨by decide, (by show placed "BadValues" = true; decide), (fun _ _ h => h), rfl⟩
      have ru : ∀ k', BadV bad k' → "BadValues" = ("BadValues" : Str) ∧ some ((k' : Nat) : Int) = some ((place : Nat) : Int) := fun k' h => ⟨rfl, by rw [badV_one h hbv]⟩
      simp only [List.mem_append, List.mem_cons, List.not_mem_nil, or_false] at hd
      rcases hd with (rfl | rfl | rfl | rfl) | rfl
      · refine ⟨_, _, _, rfl, hA, twd_callY (ea_cons (ev_var rfl (ea_cons (ev_var rfl (ea_nil ⟨fun nm pl => nm = "BadValues" ∧ pl = some ((place : Nat) : Int), ⟨bad, nameK k, rfl, hbl, fun z => ?_, fun k' e5 h5 => ⟨fun p hp => ru p hp, fun h => (hni h).elim⟩, fun _ => ⟨k, rfl, hk5⟩⟩, rr⟩)))))⟩
        rw [name_in hk5] at z; cases z
      · exact ⟨_, _, _, rfl, hB2, twd_callY (ea_cons (ev_var rfl (ea_nil ⟨fun nm pl => nm = "BadValues" ∧ pl = some ((place : Nat) : Int), ⟨bad, rfl, hbl, fun p hp => ru p hp, fun h => (hni h).elim⟩, rr⟩)))⟩
      · exact ⟨_, _, _, rfl, hC, twd_callY (ea_cons (ev_var rfl (ea_nil ⟨fun nm pl => nm = "BadValues" ∧ pl = some ((place : Nat) : Int), ⟨bad, rfl, hbl, fun p hp => ru p hp, hni⟩, rr⟩)))⟩
      · exact ⟨_, _, _, rfl, hD2, twd_callY (ea_cons (ev_var rfl (ea_nil ⟨fun nm pl => nm = "BadValues" ∧ pl = some ((place : Nat) : Int), ⟨bad, rfl, hbl, fun p hp => ru p hp, hni⟩, rr⟩)))⟩
      · exact ⟨_, _, _, rfl, hE2, twd_callY (ea_cons (ev_var rfl (ea_cons (EN.ev (en_lst (ea_nil ⟨by show 0 ≤ 100000; omega, ea_nil ⟨fun nm pl => nm = "BadValues" ∧ pl = some ((place : Nat) : Int), ⟨bad, _, rfl, hbl, fun p hp => ru p hp, hni⟩, rr⟩⟩))))))⟩
    walk_at "law"
    refine bl_no rfl ?_
    refine q_asg ?_
    walk_at "law"
    intro w w0 w1
    obtain ⟨x, hx, hxn⟩ : ∃ x, atI [Dt.str "", .str "Plain", .str "runs", .str "codes "] w = some (.str x) ∧ inV (.str x) (([("plain" : Str), "one", "codes", "near", "steps"]).map V.str) = false := by
      rcases (by omega : w = 0 ∨ w = 1 ∨ w = 2 ∨ w = 3) with rfl | rfl | rfl | rfl
      · exact ⟨"", rfl, by decide⟩
      · exact ⟨"Plain", rfl, by decide⟩
      · exact ⟨"runs", rfl, by decide⟩
      · exact ⟨"codes ", rfl, by decide⟩
    refine ix_l hx ?_
    walk_at "nm"
    refine njr_ret (evr (ev_allW rfl (ea_cons (EN.ev (en_lst (ea_cons (ev_lamW hT fun fF LF hF => ea_nil ⟨by show 1 ≤ 100000; omega, ea_cons (ev_tup (ea_cons (ev_str (ea_cons (ev_int (ea_nil ⟨by show 2 ≤ 100000; omega, ea_nil ⟨_, _, rfl, al_two _ _, by show 1 ≤ 100; omega, fun d hd => ?_, fun fr5 => hD.rt _ _ hq fr5⟩⟩))))))⟩)))))))
    rw [List.mem_singleton.mp hd]
    refine ⟨_, _, _, rfl, hF, twd_callY (ea_cons (ev_var rfl (ea_cons (ev_var rfl (ea_nil ⟨fun nm pl => nm = "NoForm" ∧ pl = none, ⟨bad, x, rfl, hbl, fun _ => ⟨rfl, rfl⟩, fun k' e5 h5 => ?_, fun z => ?_⟩, ?_⟩)))))⟩
    · rw [e5, name_in h5] at hxn; cases hxn
    · rw [hxn] at z; cases z
    · rintro nm pl ⟨rfl, rfl⟩
      exact ⟨by decide, by decide, (fun _ _ h => h), rfl⟩
end
section
open PySem PySem.Spec PyProof.Rows L2
open C8 (Cal pe_c pe_gc)
local macro_rules | `(tactic| walk_at "law") => `(tactic| (repeat (first
  | with_reducible refine ev_callBW (by assumption) rfl ?_
  | with_reducible refine EN.ev (en_lst ?_)
  | with_reducible refine take_j (by omega) (by omega) ?_
  | walk_at "ev")))
theorem etr_testW {K : PySem.W.Frag} {X : Cl K} {g : GT} {ρ : List Sl} {te : TE} {Q : GT → Bool → Prop} (h : EVR X g te ρ fun g' r => ∃ b, r = .dat (.bl b) ∧ Q g' b) : ETR X g (tTest te) ρ Q := fun hd H σ v Qh q => h hd H σ v _ fun g' r x H' hq st rv => by
  obtain ⟨b, rfl, hq⟩ := hq
  exact ⟨b, rp_bl rv, q g' b H' hq st⟩
theorem nameK_inj {k m : Nat} (h : k < 5) (h' : m < 5) (e : nameK k = nameK m) : k = m := by
  have key : ∀ a b : Fin 5, nameK a.1 = nameK b.1 → a = b := by decide
  exact congrArg Fin.val (key ⟨k, h⟩ ⟨m, h'⟩ e)
structure Tb (K : PySem.W.Frag) (g : GT) : Prop where
  is : g (isP K) = some (.tab isQ)
  rf : g (rfP K) = some (.tab rfQ)
  law : g (lawP K) = some (.tab lawQ)
theorem Tb.sup {K : PySem.W.Frag} {g g' : GT} (h : Tb K g) (k : ∀ y u, g y = some u → g' y = some u) : Tb K g' := ⟨k _ _ h.is, k _ _ h.rf, k _ _ h.law⟩
abbrev tabs02 (K : PySem.W.Frag) : List (Addr × Str) := [(isP K, isQ), (rfP K, rfQ), (lawP K, lawQ)]
def sp_law (K : PySem.W.Frag) : Sp := fun vs H Q _ => ∃ (a : Addr) (ns : List Int), vs = [.ref a] ∧ SqL K H a (ns.map V.int) ∧ ns.length ≤ 63 ∧ (∀ p ∈ [He.cT K ("_law_is", none), He.cT K ("_law_refuses", none), He.cT K ("law", none)], H p.2 = some (.tbl #[])) ∧ ∀ H', Q (.bl true) H'
theorem ok_law {P : Program} {w : World} {K : PySem.W.Frag} {mg : Str → Option Value} {base : Heap} (T : Txt K mg) (b__law_begun : ∀ B, Cal P w K mg B 1 "_law_begun" (sp__law_begun K) []) (b__law_values : ∀ B, Cal P w K mg B 2 "_law_values" (sp__law_values K) []) (b__law_take : ∀ B, Cal P w K mg B 1 "_law_take" (sp__law_take K) []) (b__law_form : ∀ B, Cal P w K mg B 4 "_law_form" (sp__law_form K) []) (b__law_alike : ∀ B, Cal P w K mg B 5 "_law_alike" (sp__law_alike 4 K) []) (b__law_told : ∀ B, Cal P w K mg B 15 "_law_told" (sp__law_told P w K mg B) []) (b_laid : ∀ B, CalX P w K mg B 7 "laid" (sp_laid K)) (c__law_is : Cal P w K mg base 17 "_law_is" (sp__law_is K) []) (b__law_least : ∀ B, Cal P w K mg B 5 "_law_least" (sp__law_least K) []) (b_least_form : ∀ B, CalX P w K mg B 7 "least_form" (sp_least_form K)) (c__law_refuses : Cal P w K mg base 17 "_law_refuses" (sp__law_refuses K) []) {f : Addr} {fd : FuncData} (F : Fun K "law" "law" s_law f fd) (tne : [(He.cT K ("_law_is", none)).2, (He.cT K ("_law_refuses", none)).2, (He.cT K ("law", none)).2].Nodup) (TB : LamX.TabB base mg (He.cT K ("law", none)).1 (He.cT K ("law", none)).2) (hcode : fd.code = .ref (He.cT K ("law", none)).1) : FnOk P w K mg base L2.CX0 18 f fd ["_law_script"] (sp_law K) := by
  have c__law_begun := b__law_begun base
  have c__law_values := b__law_values base
  have c__law_take := b__law_take base
  have c__law_form := b__law_form base
  have c__law_alike := b__law_alike base
  have c__law_told := b__law_told base
  have c_laid := b_laid base
  have c__law_least := b__law_least base
  have c_least_form := b_least_form base
  refine Fun.okC F sc_law ?len (fun A outer s H vs Q E hr h => ⟨_, (pss_cons (ps_set (i := 1) sc_law.nd rfl (Or.inr rfl) (pe_c c__law_begun hr (by decide) (by rfl) (pa_cons (pv 0) pa_nil)))
      (pss_cons (ps_for PassesOwn.never rfl (pi_range1 (by rfl) T.b_range (pa_cons pe_int pa_nil)) (pg_name (i := 2) sc_law.nd rfl (Or.inl rfl)) (pss_cons (ps_set (i := 3) sc_law.nd rfl (Or.inl rfl) (pe_c c__law_values hr (by decide) (by rfl) (pa_cons (pv 1) (pa_cons pe_int pa_nil))))
      (Evl.pss_cut (ps_if (pt_cmpR (op_eqU hr.units) (pe_c c__law_take hr (by decide) (by rfl) (pa_cons (pv 1) (pa_cons pe_int pa_nil))) pe_int (nomark _)) (pss_cons (ps_set (i := 6) sc_law.nd rfl (Or.inr rfl) (pe_op op_subU pe_int (pe_c c__law_take hr (by decide) (by rfl) (pa_cons (pv 1) (pa_cons pe_int pa_nil)))))
      (pss_cons (ps_setLc (i := 7) rfl sc_law.nd rfl rfl (sw_true rfl rfl rfl (by decide +kernel)) (g := (gName 9)) (tt := tYes) (te := (tOp (rAddU K) (tVar 6) (tCall (sp__law_take K) [] E0 (tCons (tVar 1) (tCons (tC (.int 10000)) tNil))))) (own := [("_law_k", 9)]) (pi_range1 (by rfl) T.b_range (pa_cons (pe_c c__law_take hr (by decide) (by rfl) (pa_cons (pv 1) (pa_cons pe_int pa_nil))) pa_nil)) (blkOk_by (N := ["_law_script", "_law_box", "_law_turn", "_law_values_here", "_law_handed", "_law_name", "_law_low", "_law_far", "_law_due", "_law_k"]) (sc := defScope s_law) (by decide +kernel)) (fun _ _ _ _ _ => (pg_name (i := 9) sc_law.nd rfl (Or.inl rfl))) (fun _ _ _ _ _ => pts_nil) (fun _ _ _ _ _ => (pe_op op_addU (pv 6) (pe_c c__law_take hr (by decide) (by rfl) (pa_cons (pv 1) (pa_cons pe_int pa_nil))))))
      (pss_one (ps_set (i := 3) sc_law.nd rfl (Or.inl rfl) (pe_op op_addU (pe_ix ix_seq (pe_lst (pa_cons (pe_lst (pa_cons (pv 6) (pa_cons (pe_op op_addU (pv 6) pe_int) pa_nil))) (pa_cons (pe_lst (pa_cons (pv 6) (pa_cons (pv 6) (pa_cons (pe_op op_addU (pv 6) pe_int) pa_nil)))) pa_nil))) (pe_c c__law_take hr (by decide) (by rfl) (pa_cons (pv 1) (pa_cons pe_int pa_nil))) (fun _ _ => rfl)) (pv 7)))))) pss_nil)
      (pss_cons (ps_set (i := 4) sc_law.nd rfl (Or.inr rfl) (pe_callTy cl_list (by rfl) T.b_list (by decide +kernel) (pa_cons (pv 3) pa_nil)))
      (pss_cons (ps_for PassesOwn.never rfl (pi_list (pe_lst (pa_cons pe_str (pa_cons pe_str (pa_cons pe_str (pa_cons pe_str (pa_cons pe_str pa_nil))))))) (pg_name (i := 5) sc_law.nd rfl (Or.inr rfl)) (pss_cons (ps_set (i := 8) sc_law.nd rfl (Or.inl rfl) (pe_c c__law_form hr (by decide) (by rfl) (pa_cons (pv 5) (pa_cons (pv 3) pa_nil))))
      (pss_cons (ps_if (pt_not (pt_val (pe_c c__law_alike hr (by decide) (by rfl) (pa_cons (pe_callBig b__law_told hr (by decide) (by rfl) (pa_cons (pe_lamM (k := 13) (ps := []) TB hcode rfl (fun _ => rfl) (lamS2_by (N := ["_law_script", "_law_box", "_law_turn", "_law_values_here", "_law_handed", "_law_name", "_law_low", "_law_far", "_law_due", "_law_k"]) (sc := defScope s_law) (by decide +kernel)) rfl (by decide) rfl (fun _ _ _ _ _ _ => rfl) (fun z => absurd rfl z) (fun B A outer s H E f c' hr => (pe_cX (b_laid _) hr (by decide) (takes_of rfl rfl rfl rfl) (by rfl) (pa_cons (pv 5) (pa_cons (pv 4) pa_nil))))) pa_nil)) (pa_cons (pe_ifExp (pt_cmpR op_isU (pv 8) pe_non (nomark _)) (pe_tup (pa_cons pe_str (pa_cons pe_int pa_nil))) (pv 8)) pa_nil))))) (pss_one (ps_ret pe_bl)) pss_nil)
      (pss_one (ps_if ((pw_and (pt_cmpR op_isNotU (pv 8) pe_non (nomark _)) (pw_and1 (pt_not (pt_val (pe_c c__law_is hr (by decide) (by rfl) (pa_cons (pv 1) (pa_cons (pv 8) (pa_cons (pv 3) pa_nil))))))))).pt (pss_one (ps_ret pe_bl)) pss_nil)))))
      (pss_cons (ps_if ((pw_or (pt_not (pt_val (pe_c c__law_alike hr (by decide) (by rfl) (pa_cons (pe_cC c_least_form hr (by decide) (by rfl) (pa_cons (pv 4) pa_nil)) (pa_cons (pe_c c__law_least hr (by decide) (by rfl) (pa_cons (pv 3) pa_nil)) pa_nil))))) (pw_or1 (pt_cmpR (op_neU hr.units) (pv 4) (pv 3) (nomark _))))).pt (pss_one (ps_ret pe_bl)) pss_nil)
      (pss_one (ps_if (pt_not (pt_val (pe_c c__law_refuses hr (by decide) (by rfl) (pa_cons (pv 1) (pa_cons (pv 3) pa_nil))))) (pss_one (ps_ret pe_bl)) pss_nil))))))))
      (pss_one (ps_ret pe_bl)))), ?body⟩)
  case' body => try dsimp only [cxD, cxOf]
  case len => rintro vs H Q E ⟨a, ns, rfl, _⟩; rfl
  case body =>
    obtain ⟨sc, ns, rfl, hS, hn, hTb, hq⟩ := h
    refine ⟨.ref sc, rfl, sc, ns, rfl, hS, hn, fun b l H' hne hb hl e bx => ?_⟩
    refine nj_beginT (K := K) (a := sc) 8 (ts := tabs02 K) bx (fun p hp => ?_) fun hid => ?_
    · simp only [List.mem_cons, List.not_mem_nil, or_false] at hp
      rcases hp with rfl | rfl | rfl
      · exact e.keep _ _ rfl (hTb _ (by simp))
      · exact e.keep _ _ rfl (hTb _ (by simp))
      · exact e.keep _ _ rfl (hTb _ (by simp))
    dsimp only
    show NJ _ _ _ _ [.rw (.ref sc), .rw (.ref b), .un, .un, .un, .un, .un, .un, .un, .un]
    have hgT := gTabs_mem (ts := tabs02 K) tne
    have hT0 : Tb K (gTabs (tabs02 K)) := ⟨hgT (isP K, isQ) (by simp), hgT (rfP K, rfQ) (by simp), hgT (lawP K, lawQ) (by simp)⟩
    generalize gTabs (tabs02 K) = g0 at hT0 ⊢
    refine qm_for (W := WT (XB K b l)) (ij_rng1 ?_)
    walk_at "law"
    refine ⟨4, rfl, by omega, by omega, fun i g' ρ' => Tb K g' ∧ ∃ r2 r3 r4 r5 r6 r7 r8 r9, ρ' = [.rw (.ref sc), .rw (.ref b), r2, r3, r4, r5, r6, r7, r8, r9], ⟨hT0, _, _, _, _, _, _, _, _, rfl⟩, ?_, ?_⟩
    · rintro H1 e1 i x g1 ρ1 hi ⟨hT1, r2, r3, r4, r5, r6, r7, r8, r9, rfl⟩ fr1
      refine tg_name ?_
      walk_at "nm"
      refine q_asgN (en_callBW hne rfl (ea_cons (ev_int (ea_nil ⟨32, rfl, by omega, by omega, fun vs0 v1 v2 v3 => ?_⟩))))
      walk_at "nm"
      have hB0 : InB vs0 := ⟨⟨List.length_pos_iff.mp (by omega), by omega⟩, v3⟩
      refine nj_share (i := 3) rfl ?_
      walk_at "nm"
      refine qm_cut (W := WT (XB K b l)) (fun g' ρ' => Tb K g' ∧ ∃ vs r6 r7 r9, InB vs ∧ ρ' = [.rw (.ref sc), .rw (.ref b), .im x, .im (dL vs), r4, r5, r6, r7, r8, r9]) ?_ ?_
      · refine nj_when ?_
        walk_at "law"
        intro w w0 w1
        walk_at "law"
        refine ⟨fun _ => ?_, fun _ => njm_nxw _ ⟨hT1, vs0, _, _, _, hB0, rfl⟩ .refl (by walk_at "le")⟩
        refine q_asg ?_
        walk_at "law"
        intro t t0 t1
        refine sub_i ?_
        walk_at "nm"
        refine q_asgN (en_lc (ij_rng1 ?_))
        walk_at "law"
        intro m m0 m1
        obtain ⟨m, rfl⟩ := Int.eq_ofNat_of_zero_le m0
        refine ea_nil ⟨m, rfl, by omega, by omega, by rw [rangeD_len]; omega, fun j ys => ∃ xs : List Int, ys = xs.map Dt.int ∧ xs.length = j ∧ ∀ y ∈ xs, 0 - t ≤ y ∧ y ≤ 0 - t + 9999, ⟨[], rfl, rfl, fun y hy => nomatch hy⟩, ?_, ?_⟩
        · rintro j d acc hj ⟨xs, rfl, hxl, hxs⟩
          refine tge_name (by decide) (et_yes ⟨fun _ => ?_, fun z => nomatch z⟩)
          walk_at "nm"
          walk_at "law"
          intro z z0 z1
          refine add_i ⟨xs ++ [0 - t + z], by rw [List.map_append]; rfl, by rw [List.length_append, hxl]; rfl, fun y hy => ?_⟩
          rcases List.mem_append.mp hy with hy | hy
          · exact hxs y hy
          · rw [List.mem_singleton.mp hy]; omega
        rintro acc ⟨xs, rfl, hxl, hxs⟩
        rw [rangeD_len] at hxl
        have hx9 : xs.length ≤ 9 := by omega
        walk_at "nm"
        refine nj_share (i := 7) rfl ?_
        walk_at "nm"
        refine nj_asg ?_
        walk_at "law"
        intro q q0 q1
        obtain ⟨ys, hat, hyl, hys⟩ : ∃ ys : List Int, atI [Dt.lst [.int (0 - t), .int (0 - t + 9999)], .lst [.int (0 - t), .int (0 - t), .int (0 - t + 9999)]] q = some (.lst (ys.map Dt.int)) ∧ (1 ≤ ys.length ∧ ys.length ≤ 3) ∧ ∀ y ∈ ys, 0 - t ≤ y ∧ y ≤ 0 - t + 9999 := by
          rcases (by omega : q = 0 ∨ q = 1) with rfl | rfl
          · refine ⟨[0 - t, 0 - t + 9999], rfl, ⟨by show 1 ≤ 2; omega, by show 2 ≤ 3; omega⟩, fun y hy => ?_⟩
            simp only [List.mem_cons, List.not_mem_nil, or_false] at hy
            omega
          · refine ⟨[0 - t, 0 - t, 0 - t + 9999], rfl, ⟨by show 1 ≤ 3; omega, by show 3 ≤ 3; omega⟩, fun y hy => ?_⟩
            simp only [List.mem_cons, List.not_mem_nil, or_false] at hy
            omega
        refine ix_l hat ?_
        walk_at "law"
        refine R2N.j (add_l (by rw [List.length_map, List.length_map]; omega) ?_)
        rw [← List.map_append]
        refine njm_nxw _ ⟨hT1, ys ++ xs, _, _, _, ⟨⟨fun z => ?_, by rw [List.length_append]; omega⟩, fun y hy => ?_⟩, rfl⟩ .refl (by walk_at "le")
        · have := congrArg List.length z
          rw [List.length_append] at this
          have : ys.length + xs.length = 0 := this
          omega
        · have : 0 - t ≤ y ∧ y ≤ 0 - t + 9999 := by
            rcases List.mem_append.mp hy with hy | hy
            · exact hys y hy
            · exact hxs y hy
          omega
      · rintro g2 ρ2 ⟨hT2, vs, r6, r7, r9, hB, rfl⟩ fr2
        have hvl := hB.le
        clear hB0 v1 v2 v3 hT1 vs0
        refine q_asg ?_
        walk_at "law"
        refine RCN.j (list_l ?_)
        walk_at "nm"
        refine qm_for (W := WT (XB K b l)) (ij_list ?_)
        walk_at "law"
        refine ⟨fun i g' ρ' => Tb K g' ∧ ∃ r5 r8, ρ' = [.rw (.ref sc), .rw (.ref b), .im x, .im (dL vs), .im (dL vs), r5, r6, r7, r8, r9], ⟨hT2, _, _, rfl⟩, ?_, ?_⟩
        · rintro H2 e2 i d g3 ρ3 hi ⟨hT3, r5, r8, rfl⟩ fr3
          obtain ⟨k, rfl, hk5⟩ : ∃ k, d = .str (nameK k) ∧ k < 5 := by
            have hd := List.mem_of_getElem? hi
            simp only [List.mem_cons, List.not_mem_nil, or_false] at hd
            rcases hd with rfl | rfl | rfl | rfl | rfl
            · exact ⟨0, rfl, by omega⟩
            · exact ⟨1, rfl, by omega⟩
            · exact ⟨2, rfl, by omega⟩
            · exact ⟨3, rfl, by omega⟩
            · exact ⟨4, rfl, by omega⟩
          refine tg_name ?_
          walk_at "nm"
          refine q_asg ?_
          walk_at "law"
          refine sp_j ⟨vs, k, rfl, hk5, hB.toVals, ?_⟩
          walk_at "nm"
          have hsm := fun f hf => lay_small hB.toVals (k := k) (f := f) hf
          cases hl : lay k vs with
          | none =>
            show NJ _ _ _ _ [_, _, _, _, _, .im (.str (nameK k)), _, _, .im .non, _]
            refine qg_when (etr_not (etr_B (evr_callPG (fun _ => true) 2 (eag_cons (evr_toldW rfl (ea_cons (ev_lamW hT3.law fun fA LA hA => ea_nil ⟨_, fA, LA, rfl, hA, twd_callY (ea_cons (ev_var rfl (ea_cons (ev_var rfl (ea_nil ⟨fun nm pl => nm = "NoForm" ∧ pl = none, ⟨vs, nameK k, rfl, by omega, fun z => ?_, fun k' e5 h5 => ⟨fun p hp => (badV_not hp hB).elim, fun _ => ⟨fun f hf => ?_, fun _ => ⟨rfl, rfl⟩⟩⟩, fun _ => ⟨k, rfl, hk5⟩⟩, ?_⟩)))))⟩)))))))
            · rw [name_in hk5] at z; cases z
            · have := nameK_inj hk5 h5 e5
              subst this
              rw [hl] at hf; cases hf
            · rintro nm pl ⟨rfl, rfl⟩
              refine ⟨by decide, by decide, eag_cons (evr ?_)⟩
              walk_at "law"
              refine bl_yes rfl ?_
              walk_at "law"
              refine eag_nil ⟨[refD "NoForm" none, refD "NoForm" none], .cons (.inl rfl) (.cons (.inl rfl) .nil), _, rfl, al_two _ _, rfl, true, rfl, fun fr4 => ⟨(fun z => nomatch z), fun _ => ?_⟩⟩
              refine njg_when (etr_and (etr_testW (evr (ev_op (ev_var rfl (ev_non (isnot_n ⟨_, rfl, (fun z => nomatch z), fun _ fr5 => ⟨(fun z => nomatch z), fun _ => ?_⟩⟩)))))))
              exact njm_nxw _ ⟨hT3, _, _, rfl⟩ ((fr3.trans fr4).trans fr5) (by walk_at "le")
          | some f =>
            show NJ _ _ _ _ [_, _, _, _, _, .im (.str (nameK k)), _, _, .im f.dt, _]
            refine qg_when (etr_not (etr_B (evr_callPG (fun _ => true) 2 (eag_cons (evr_toldW rfl (ea_cons (ev_lamW hT3.law fun fA LA hA => ea_nil ⟨_, fA, LA, rfl, hA, twd_callY (ea_cons (ev_var rfl (ea_cons (ev_var rfl (ea_nil ⟨fun _ _ => False, ⟨vs, nameK k, rfl, by omega, fun z => ?_, fun k' e5 h5 => ⟨fun p hp => (badV_not hp hB).elim, fun _ => ⟨fun f' hf => ?_, fun hn => ?_⟩⟩, fun _ => ⟨k, rfl, hk5⟩⟩, fun _ _ z => z.elim⟩)))))⟩)))))))
            · rw [name_in hk5] at z; cases z
            · have := nameK_inj hk5 h5 e5
              subst this
              rw [hl] at hf
              cases hf
              refine eag_cons (evr ?_)
              walk_at "law"
              rw [dt_isNon]
              refine bl_no rfl ?_
              walk_at "law"
              refine eag_nil ⟨[f.dt, f.dt], .cons (.inl rfl) (.cons (.inl rfl) .nil), _, rfl, (al_fm f (hsm f hl)).up.up, rfl, true, rfl, fun fr4 => ⟨(fun z => nomatch z), fun _ => ?_⟩⟩
              refine njg_when (etr_and (etr_testW (evr (ev_op (ev_var rfl (ev_non (isnot_n ⟨_, rfl, fun _ => ?_, fun z => ?_⟩)))))))
              · refine etr_not (etr_B (evr_callRB hne rfl (ear_dat (ev_var rfl (ear_dat (ev_var rfl (ear_nil ⟨k, vs, f, rfl, ⟨hk5, hB.toVals, hl⟩, hsm f hl, hT3.is, fun g4 k4 => ⟨true, rfl, fun fr5 => ⟨(fun z => nomatch z), fun _ => ?_⟩⟩⟩)))))))
                exact njm_nxw _ ⟨hT3.sup k4, _, _, rfl⟩ ((fr3.trans fr4).trans fr5) (by walk_at "le")
              · rw [dt_isNon] at z; cases z
            · have := nameK_inj hk5 h5 e5
              subst this
              rw [hl] at hn; cases hn
        · rintro g3 ρ3 ⟨hT3, r5, r8, rfl⟩ fr3
          refine q_when ?_
          walk_at "law"
          refine sp_jY ⟨vs, rfl, by omega, fun p hp => (badV_not hp hB).elim, fun _ => ?_⟩
          walk_at "law"
          refine sp_j ⟨vs, rfl, hB.toVals, ?_⟩
          rw [leastF_lay hB.toVals]
          walk_at "law"
          refine sp_j ⟨_, rfl, (al_fm (leastF vs) (lay_small hB.toVals (leastF_lay hB.toVals))).up.up, ?_⟩
          walk_at "law"
          refine ⟨fun _ => ?_, fun z => nomatch z⟩
          walk_at "law"
          refine ne_same ?_
          walk_at "law"
          refine bl_no rfl ?_
          refine njg_when (etr_not (etr_B (evr_callRB hne rfl (ear_dat (ev_var rfl (ear_nil ⟨vs, rfl, hB, hT3.rf, true, rfl, fun fr4 => ⟨(fun z => nomatch z), fun _ => ?_⟩⟩))))))
          exact njm_nxw _ ⟨hT3, _, _, _, _, _, _, _, _, rfl⟩ (((fr1.trans fr2).trans fr3).trans fr4) (by walk_at "le")
    · rintro g3 ρ3 ⟨hT3, r2, r3, r4, r5, r6, r7, r8, r9, rfl⟩ fr3
      refine nj_ret ?_
      walk_at "law"
      intro v H' e _ r
      cases r
      exact hq H'
end
section
open PySem PySem.Spec PyProof.Rows L2
open C8 (Cal pe_c pe_gc)
theorem law_fn {P : Program} {w : World} {K : PySem.W.Frag} {mg : Str → Option Value} {base : Heap} {f : Addr} {fd : FuncData} (T : Txt K mg) (F : Fun K "law" "law" s_law f fd) (tne : [(He.cT K ("_law_is", none)).2, (He.cT K ("_law_refuses", none)).2, (He.cT K ("law", none)).2].Nodup) (TB__law_is : LamX.TabB base mg (He.cT K ("_law_is", none)).1 (He.cT K ("_law_is", none)).2) (TB__law_refuses : LamX.TabB base mg (He.cT K ("_law_refuses", none)).1 (He.cT K ("_law_refuses", none)).2) (TB_law : LamX.TabB base mg (He.cT K ("law", none)).1 (He.cT K ("law", none)).2) (hcode : fd.code = .ref (He.cT K ("law", none)).1) : FnOk P w K mg base L2.CX0 18 f fd ["_law_script"] (sp_law K) := by
  have c_powers_of := fun B : Heap => ok_powers_of (P := P) (w := w) (base := B) T 
  have c_size := fun B : Heap => ok_size (P := P) (w := w) (base := B) T 
  have c_summed := fun B : Heap => ok_summed (P := P) (w := w) (base := B) T 
  have c__law_begun := fun B : Heap => ok__law_begun (P := P) (w := w) (base := B) T 
  have c__law_take := fun B : Heap => ok__law_take (P := P) (w := w) (base := B) T 
  have c__law_class := fun B : Heap => ok__law_class (P := P) (w := w) (base := B) T 
  have c__law_per := fun B : Heap => ok__law_per (P := P) (w := w) (base := B) T 
  have c_cells_for := fun B : Heap => ok_cells_for (P := P) (w := w) (base := B) T (c_powers_of B)
  have c_packed_by := fun B : Heap => ok_packed_by (P := P) (w := w) (base := B) T (c_powers_of B)
  have c_value_in := fun B : Heap => ok_value_in (P := P) (w := w) (base := B) T (c_powers_of B)
  have c_unpacked := fun B : Heap => ok_unpacked (P := P) (w := w) (base := B) T (c_powers_of B)
  have c__law_packed := fun B : Heap => ok__law_packed (P := P) (w := w) (base := B) T (c__law_per B)
  have c__law_values := fun B : Heap => ok__law_values (P := P) (w := w) (base := B) T (c__law_take B)
  have c_need_values := fun B : Heap => ok_need_values (P := P) (w := w) (base := B) T 
  have c_codes_form := fun B : Heap => ok_codes_form (P := P) (w := w) (base := B) T (c_packed_by B)
  have c_packed_above := fun B : Heap => ok_packed_above (P := P) (w := w) (base := B) T (c_packed_by B)
  have c_cells_above := fun B : Heap => ok_cells_above (P := P) (w := w) (base := B) T (c_cells_for B)
  have c_values_of := fun B : Heap => ok_values_of (P := P) (w := w) (base := B) T (c_unpacked B) (c_summed B)
  have c_value_of := fun B : Heap => ok_value_of (P := P) (w := w) (base := B) T (c_value_in B) (c_unpacked B)
  have c__law_above := fun B : Heap => ok__law_above (P := P) (w := w) (base := B) T (c__law_packed B)
  have c_steps_form := fun B : Heap => ok_steps_form (P := P) (w := w) (base := B) T (c_packed_above B)
  have c_near_form := fun B : Heap => ok_near_form (P := P) (w := w) (base := B) T (c_packed_above B)
  have c_weight_of := fun B : Heap => ok_weight_of (P := P) (w := w) (base := B) T  3
  have c_cells_by := fun B : Heap => ok_cells_by (P := P) (w := w) (base := B) T (c_cells_for B) (c_cells_above B)
  have c_cut := fun B : Heap => ok_cut (P := P) (w := w) (base := B) T (c_need_values B)
  have c_prices := fun B : Heap => ok_prices (P := P) (w := w) (base := B) T (c_need_values B)
  have c_bound := fun B : Heap => ok_bound (P := P) (w := w) (base := B) T (c_need_values B)
  have c__law_form := fun B : Heap => ok__law_form (P := P) (w := w) (base := B) T (c__law_packed B) (c__law_above B)
  have c__law_room := fun B : Heap => ok__law_room (P := P) (w := w) (base := B) T  3
  have c_form_of := fun B : Heap => ok_form_of (P := P) (w := w) (base := B) T (c_codes_form B) (c_near_form B) (c_steps_form B)
  have c_room := fun B : Heap => ok_room (P := P) (w := w) (base := B) T (c_weight_of B)
  have c_value_at := fun B : Heap => ok_value_at (P := P) (w := w) (base := B) T (c_size B) (c_value_of B)
  have c__law_alike := fun B : Heap => ok__law_alike (P := P) (w := w) (base := B) T  4
  have c__law_least := fun B : Heap => ok__law_least (P := P) (w := w) (base := B) T (c__law_form B) (c__law_room B)
  have c_least_of := fun B : Heap => ok_least_of (P := P) (w := w) (base := B) T (c_cells_by B) (c_form_of B)
  have c_laid := fun B : Heap => ok_laid (P := P) (w := w) (base := B) T (c_need_values B) (c_form_of B)
  have c_least_form := fun B : Heap => ok_least_form (P := P) (w := w) (base := B) T (c_need_values B) (c_least_of B)
  have c__law_told := fun B : Heap => ok__law_told (P := P) (w := w) (base := B) T (c__law_class B)
  have c__law_all := fun B : Heap => ok__law_all (P := P) (w := w) (base := B) T (c__law_alike B) (c__law_told B)
  have c__law_is := ok__law_is (P := P) (w := w) (base := base) T c_values_of c__law_alike c__law_room c_room c_value_at c__law_take c__law_all TB__law_is
  have c__law_refuses := ok__law_refuses (P := P) (w := w) (base := base) T c__law_take c_prices c_cut c_least_form c_laid c__law_all c_bound TB__law_refuses
  exact ok_law T c__law_begun c__law_values c__law_take c__law_form c__law_alike c__law_told c_laid c__law_is c__law_least c_least_form c__law_refuses F tne TB_law hcode
theorem fun_ofD {K : PySem.W.Frag} {x : Str} {st : Stmt} {f : Addr} {fd : FuncData} (F : FunD K x x (defArgs st) (defBody st) (defScope st) [] [] f fd) : Fun K x x st f fd := by
  obtain ⟨⟨oc, od, dV, kV, doc, pm, an, cdv, ct, osl, e, lk, hcd, hD, hK⟩, kp⟩ := F
  rcases hD with ⟨_, rfl⟩ | ⟨z, _⟩
  · exact ⟨⟨oc, od, kV, doc, pm, an, cdv, ct, osl, e, lk, hcd⟩, kp⟩
  · exact absurd rfl z
theorem code_of {K : PySem.W.Frag} {p : He.Defn} {x q : Str} {st : Stmt} {fd : FuncData} (F : FunD K x q (defArgs st) (defBody st) (defScope st) [] [] (He.fAd K p) fd) : fd.code = .ref (He.cT K p).1 := by
  obtain ⟨⟨oc, od, dV, kV, doc, pm, an, cdv, ct, osl, e, lk, hcd, hD, hK⟩, kp⟩ := F
  obtain ⟨c, rfl⟩ := He.codeIn_ref hcd
  have e2 : fd.code = .ref c := by rw [e]
  rw [e2, show (He.cT K p).1 = c from He.codeOf_eq (p := p) lk e2]
theorem fun_ofM {K : PySem.W.Frag} {x q : Str} {st : Stmt} {f : Addr} {fd : FuncData} (F : FunD K x q (defArgs st) (defBody st) (defScope st) [] [] f fd) : Fun K x q st f fd := by
  obtain ⟨⟨oc, od, dV, kV, doc, pm, an, cdv, ct, osl, e, lk, hcd, hD, hK⟩, kp⟩ := F
  rcases hD with ⟨_, rfl⟩ | ⟨z, _⟩
  · exact ⟨⟨oc, od, kV, doc, pm, an, cdv, ct, osl, e, lk, hcd⟩, kp⟩
  · exact absurd rfl z
theorem txt {w : World} {K : PySem.W.Frag} {h : Heap} {mg : Str → Option Value} (X : K.In h) (G : h.Ns mainGlobals mg) (z : He.SaysX fas fns [] tfs exB w h K) : Txt K mg := by
  have c : He.SaysD fas fns K := congrArg (fun z : He.AlT => z.1) z.t
  obtain ⟨e0, exp⟩ := He.ba ((He.ba z.more).1)
  obtain ⟨ex, ex2⟩ := He.ba e0
  obtain ⟨ex4, ex3⟩ := He.ba exp
  exact {
    b_len := He.free_ok X G (c.fact 0 (f := .free "len") rfl),
    b_list := He.free_ok X G (c.fact 1 (f := .free "list") rfl),
    b_tuple := He.free_ok X G (c.fact 2 (f := .free "tuple") rfl),
    b_int := He.free_ok X G (c.fact 3 (f := .free "int") rfl),
    b_sum := He.free_ok X G (c.fact 4 (f := .free "sum") rfl),
    b_isinstance := He.free_ok X G (c.fact 5 (f := .free "isinstance") rfl),
    b_set := He.free_ok X G (c.fact 6 (f := .free "set") rfl),
    b_sorted := He.free_ok X G (c.fact 7 (f := .free "sorted") rfl),
    b_min := He.free_ok X G (c.fact 8 (f := .free "min") rfl),
    b_max := He.free_ok X G (c.fact 9 (f := .free "max") rfl),
    b_range := He.free_ok X G (c.fact 10 (f := .free "range") rfl),
    b_enumerate := He.free_ok X G (c.fact 11 (f := .free "enumerate") rfl),
    b_str := He.free_ok X G (c.fact 12 (f := .free "str") rfl),
    b_bool := He.free_ok X G (c.fact 13 (f := .free "bool") rfl),
    b_ValueError := He.free_ok X G (c.fact 14 (f := .free "ValueError") rfl),
    k_CELL := by
      obtain ⟨t, ht⟩ := He.int_ok X G (c.fact 15 (f := .int "CELL" 10000) rfl)
      exact ⟨_, ht, t, rfl⟩,
    k_PLAIN := by
      obtain ⟨t, ht⟩ := He.str_ok X G (c.fact 16 (f := .str "PLAIN" "plain") rfl)
      exact ⟨_, ht, t, rfl⟩,
    k_ONE := by
      obtain ⟨t, ht⟩ := He.str_ok X G (c.fact 17 (f := .str "ONE" "one") rfl)
      exact ⟨_, ht, t, rfl⟩,
    k_CODES := by
      obtain ⟨t, ht⟩ := He.str_ok X G (c.fact 18 (f := .str "CODES" "codes") rfl)
      exact ⟨_, ht, t, rfl⟩,
    k_NEAR := by
      obtain ⟨t, ht⟩ := He.str_ok X G (c.fact 19 (f := .str "NEAR" "near") rfl)
      exact ⟨_, ht, t, rfl⟩,
    k_STEPS := by
      obtain ⟨t, ht⟩ := He.str_ok X G (c.fact 20 (f := .str "STEPS" "steps") rfl)
      exact ⟨_, ht, t, rfl⟩,
    k_FORMS := ⟨_, He.glo_ok X G (c.fact 21 (f := .glo "FORMS") rfl), rfl⟩,
    t_FORMS := fun G' => He.tupB_ok (x := "FORMS") (vs := [.str "plain", .str "one", .str "codes", .str "near", .str "steps"]) ex G',
    k_MOST := by
      obtain ⟨t, ht⟩ := He.int_ok X G (c.fact 22 (f := .int "MOST" 9999) rfl)
      exact ⟨_, ht, t, rfl⟩,
    k_MOST_VALUES := by
      obtain ⟨t, ht⟩ := He.int_ok X G (c.fact 23 (f := .int "MOST_VALUES" 32) rfl)
      exact ⟨_, ht, t, rfl⟩,
    k_FAR := by
      obtain ⟨t, ht⟩ := He.int_ok X G (c.fact 24 (f := .int "FAR" 99999) rfl)
      exact ⟨_, ht, t, rfl⟩,
    k_FIVE := by
      obtain ⟨t, ht⟩ := He.int_ok X G (c.fact 25 (f := .int "FIVE" 5) rfl)
      exact ⟨_, ht, t, rfl⟩,
    g_ColumnError := He.glo_ok X G (c.fact 26 (f := .glo "ColumnError") rfl),
    g_BadNumber := He.glo_ok X G (c.fact 27 (f := .glo "BadNumber") rfl),
    g_BadValues := He.glo_ok X G (c.fact 28 (f := .glo "BadValues") rfl),
    g_NoForm := He.glo_ok X G (c.fact 29 (f := .glo "NoForm") rfl),
    g_BadPrices := He.glo_ok X G (c.fact 30 (f := .glo "BadPrices") rfl),
    g_BadKinds := He.glo_ok X G (c.fact 31 (f := .glo "BadKinds") rfl),
    g_BadRows := He.glo_ok X G (c.fact 32 (f := .glo "BadRows") rfl),
    g_BadCondition := He.glo_ok X G (c.fact 33 (f := .glo "BadCondition") rfl),
    g_BadColumn := He.glo_ok X G (c.fact 34 (f := .glo "BadColumn") rfl),
    g_BadHeap := He.glo_ok X G (c.fact 35 (f := .glo "BadHeap") rfl),
    g_TooMany := He.glo_ok X G (c.fact 36 (f := .glo "TooMany") rfl),
    g_BadBlock := He.glo_ok X G (c.fact 37 (f := .glo "BadBlock") rfl),
    g_Stopped := He.glo_ok X G (c.fact 38 (f := .glo "Stopped") rfl),
    g_BadText := He.glo_ok X G (c.fact 39 (f := .glo "BadText") rfl),
    cls := clsB_ok ex2,
    p_BadValues := by
      obtain ⟨fd, F⟩ := c.def_ 45 (d := dfnM "BadValues" "__init__" "BadValues.__init__" s_BadValues___init__) rfl
      have m := He.meth_ok (c.fact 40 (f := .meth "BadValues" "__init__") rfl)
      exact ⟨He.glo_ok X G (c.fact 28 (f := .glo "BadValues") rfl), oexB_ok (He.ba ex3).1, He.noat_ok (c.fact 41 (f := .noat "BadValues" "place") rfl), ⟨_, ceB_ok (He.glo_ok X G (c.fact 26 (f := .glo "ColumnError") rfl)) ex4⟩, _, fd, s_BadValues___init__, "BadValues.__init__", fun_ofM F, iw_BadValues, m.at_, beq_iff_eq.mp m.fn, F.bindsN fun _ _ _ _ _ _ us hl => match us, hl with | [_, _], _ => rfl⟩,
    x_NoForm := by
      obtain ⟨e1, e2, e3, e4⟩ := He.exc_ok (c.fact 42 (f := .exc "NoForm") rfl)
      exact ⟨He.glo_ok X G (c.fact 29 (f := .glo "NoForm") rfl), e1, e2, e3, e4⟩,
    m_NoForm := He.exm_ok (c.fact 43 (f := .exm "NoForm" "NoForm" true) rfl),
    x_BadNumber := by
      obtain ⟨e1, e2, e3, e4⟩ := He.exc_ok (c.fact 44 (f := .exc "BadNumber") rfl)
      exact ⟨He.glo_ok X G (c.fact 27 (f := .glo "BadNumber") rfl), e1, e2, e3, e4⟩,
    m_BadNumber := He.exm_ok (c.fact 45 (f := .exm "BadNumber" "BadNumber" true) rfl),
    f_powers_of := by
      obtain ⟨fd, F⟩ := c.def_ 0 (d := dfn "powers_of" s_powers_of) rfl
      exact ⟨_, fd, He.glo_ok X G (c.fact 46 (f := .glo "powers_of") rfl), fun_ofD F, F.bindsN fun _ _ _ _ _ _ us hl => match us, hl with | [_], _ => rfl⟩,
    f_cells_for := by
      obtain ⟨fd, F⟩ := c.def_ 1 (d := dfn "cells_for" s_cells_for) rfl
      exact ⟨_, fd, He.glo_ok X G (c.fact 47 (f := .glo "cells_for") rfl), fun_ofD F, F.bindsN fun _ _ _ _ _ _ us hl => match us, hl with | [_, _], _ => rfl⟩,
    f_packed_by := by
      obtain ⟨fd, F⟩ := c.def_ 2 (d := dfn "packed_by" s_packed_by) rfl
      exact ⟨_, fd, He.glo_ok X G (c.fact 48 (f := .glo "packed_by") rfl), fun_ofD F, F.bindsN fun _ _ _ _ _ _ us hl => match us, hl with | [_, _], _ => rfl⟩,
    f_value_in := by
      obtain ⟨fd, F⟩ := c.def_ 3 (d := dfn "value_in" s_value_in) rfl
      exact ⟨_, fd, He.glo_ok X G (c.fact 49 (f := .glo "value_in") rfl), fun_ofD F, F.bindsN fun _ _ _ _ _ _ us hl => match us, hl with | [_, _, _], _ => rfl⟩,
    f_unpacked := by
      obtain ⟨fd, F⟩ := c.def_ 4 (d := dfn "unpacked" s_unpacked) rfl
      exact ⟨_, fd, He.glo_ok X G (c.fact 50 (f := .glo "unpacked") rfl), fun_ofD F, F.bindsN fun _ _ _ _ _ _ us hl => match us, hl with | [_, _, _], _ => rfl⟩,
    f_need_values := by
      obtain ⟨fd, F⟩ := c.def_ 5 (d := dfn "need_values" s_need_values) rfl
      exact ⟨_, fd, He.glo_ok X G (c.fact 51 (f := .glo "need_values") rfl), fun_ofD F, F.bindsN fun _ _ _ _ _ _ us hl => match us, hl with | [_], _ => rfl⟩,
    f_codes_form := by
      obtain ⟨fd, F⟩ := c.def_ 6 (d := dfn "codes_form" s_codes_form) rfl
      exact ⟨_, fd, He.glo_ok X G (c.fact 52 (f := .glo "codes_form") rfl), fun_ofD F, F.bindsN fun _ _ _ _ _ _ us hl => match us, hl with | [_], _ => rfl⟩,
    f_packed_above := by
      obtain ⟨fd, F⟩ := c.def_ 7 (d := dfn "packed_above" s_packed_above) rfl
      exact ⟨_, fd, He.glo_ok X G (c.fact 53 (f := .glo "packed_above") rfl), fun_ofD F, F.bindsN fun _ _ _ _ _ _ us hl => match us, hl with | [_], _ => rfl⟩,
    f_steps_form := by
      obtain ⟨fd, F⟩ := c.def_ 8 (d := dfn "steps_form" s_steps_form) rfl
      exact ⟨_, fd, He.glo_ok X G (c.fact 54 (f := .glo "steps_form") rfl), fun_ofD F, F.bindsN fun _ _ _ _ _ _ us hl => match us, hl with | [_], _ => rfl⟩,
    f_near_form := by
      obtain ⟨fd, F⟩ := c.def_ 9 (d := dfn "near_form" s_near_form) rfl
      exact ⟨_, fd, He.glo_ok X G (c.fact 55 (f := .glo "near_form") rfl), fun_ofD F, F.bindsN fun _ _ _ _ _ _ us hl => match us, hl with | [_], _ => rfl⟩,
    f_form_of := by
      obtain ⟨fd, F⟩ := c.def_ 10 (d := dfn "form_of" s_form_of) rfl
      exact ⟨_, fd, He.glo_ok X G (c.fact 56 (f := .glo "form_of") rfl), fun_ofD F, F.bindsN fun _ _ _ _ _ _ us hl => match us, hl with | [_, _], _ => rfl⟩,
    f_laid := by
      obtain ⟨fd, F⟩ := c.def_ 11 (d := dfn "laid" s_laid) rfl
      exact ⟨_, fd, He.glo_ok X G (c.fact 57 (f := .glo "laid") rfl), fun_ofD F, F.bindsN fun _ _ _ _ _ _ us hl => match us, hl with | [_, _], _ => rfl⟩,
    f_weight_of := by
      obtain ⟨fd, F⟩ := c.def_ 12 (d := dfn "weight_of" s_weight_of) rfl
      exact ⟨_, fd, He.glo_ok X G (c.fact 58 (f := .glo "weight_of") rfl), fun_ofD F, F.bindsN fun _ _ _ _ _ _ us hl => match us, hl with | [_], _ => rfl⟩,
    f_room := by
      obtain ⟨fd, F⟩ := c.def_ 13 (d := dfn "room" s_room) rfl
      exact ⟨_, fd, He.glo_ok X G (c.fact 59 (f := .glo "room") rfl), fun_ofD F, F.bindsN fun _ _ _ _ _ _ us hl => match us, hl with | [_], _ => rfl⟩,
    f_cells_above := by
      obtain ⟨fd, F⟩ := c.def_ 14 (d := dfn "cells_above" s_cells_above) rfl
      exact ⟨_, fd, He.glo_ok X G (c.fact 60 (f := .glo "cells_above") rfl), fun_ofD F, F.bindsN fun _ _ _ _ _ _ us hl => match us, hl with | [_, _], _ => rfl⟩,
    f_cells_by := by
      obtain ⟨fd, F⟩ := c.def_ 15 (d := dfn "cells_by" s_cells_by) rfl
      exact ⟨_, fd, He.glo_ok X G (c.fact 61 (f := .glo "cells_by") rfl), fun_ofD F, F.bindsN fun _ _ _ _ _ _ us hl => match us, hl with | [_], _ => rfl⟩,
    f_least_of := by
      obtain ⟨fd, F⟩ := c.def_ 16 (d := dfn "least_of" s_least_of) rfl
      exact ⟨_, fd, He.glo_ok X G (c.fact 62 (f := .glo "least_of") rfl), fun_ofD F, F.bindsN fun _ _ _ _ _ _ us hl => match us, hl with | [_], _ => rfl⟩,
    f_least_form := by
      obtain ⟨fd, F⟩ := c.def_ 17 (d := dfn "least_form" s_least_form) rfl
      exact ⟨_, fd, He.glo_ok X G (c.fact 63 (f := .glo "least_form") rfl), fun_ofD F, F.bindsN fun _ _ _ _ _ _ us hl => match us, hl with | [_], _ => rfl⟩,
    f_size := by
      obtain ⟨fd, F⟩ := c.def_ 18 (d := dfn "size" s_size) rfl
      exact ⟨_, fd, He.glo_ok X G (c.fact 64 (f := .glo "size") rfl), fun_ofD F, F.bindsN fun _ _ _ _ _ _ us hl => match us, hl with | [_], _ => rfl⟩,
    f_summed := by
      obtain ⟨fd, F⟩ := c.def_ 19 (d := dfn "summed" s_summed) rfl
      exact ⟨_, fd, He.glo_ok X G (c.fact 65 (f := .glo "summed") rfl), fun_ofD F, F.bindsN fun _ _ _ _ _ _ us hl => match us, hl with | [_, _, _], _ => rfl⟩,
    f_values_of := by
      obtain ⟨fd, F⟩ := c.def_ 20 (d := dfn "values_of" s_values_of) rfl
      exact ⟨_, fd, He.glo_ok X G (c.fact 66 (f := .glo "values_of") rfl), fun_ofD F, F.bindsN fun _ _ _ _ _ _ us hl => match us, hl with | [_], _ => rfl⟩,
    f_value_of := by
      obtain ⟨fd, F⟩ := c.def_ 21 (d := dfn "value_of" s_value_of) rfl
      exact ⟨_, fd, He.glo_ok X G (c.fact 67 (f := .glo "value_of") rfl), fun_ofD F, F.bindsN fun _ _ _ _ _ _ us hl => match us, hl with | [_, _], _ => rfl⟩,
    f_value_at := by
      obtain ⟨fd, F⟩ := c.def_ 22 (d := dfn "value_at" s_value_at) rfl
      exact ⟨_, fd, He.glo_ok X G (c.fact 68 (f := .glo "value_at") rfl), fun_ofD F, F.bindsN fun _ _ _ _ _ _ us hl => match us, hl with | [_, _], _ => rfl⟩,
    f_rooms_of := by
      obtain ⟨fd, F⟩ := c.def_ 23 (d := dfn "rooms_of" s_rooms_of) rfl
      exact ⟨_, fd, He.glo_ok X G (c.fact 69 (f := .glo "rooms_of") rfl), fun_ofD F, F.bindsN fun _ _ _ _ _ _ us hl => match us, hl with | [_], _ => rfl⟩,
    f_best_ends := by
      obtain ⟨fd, F⟩ := c.def_ 24 (d := dfn "best_ends" s_best_ends) rfl
      exact ⟨_, fd, He.glo_ok X G (c.fact 70 (f := .glo "best_ends") rfl), fun_ofD F, F.bindsN fun _ _ _ _ _ _ us hl => match us, hl with | [_], _ => rfl⟩,
    f_cut_of := by
      obtain ⟨fd, F⟩ := c.def_ 25 (d := dfn "cut_of" s_cut_of) rfl
      exact ⟨_, fd, He.glo_ok X G (c.fact 71 (f := .glo "cut_of") rfl), fun_ofD F, F.bindsN fun _ _ _ _ _ _ us hl => match us, hl with | [_], _ => rfl⟩,
    f_cut := by
      obtain ⟨fd, F⟩ := c.def_ 26 (d := dfn "cut" s_cut) rfl
      exact ⟨_, fd, He.glo_ok X G (c.fact 72 (f := .glo "cut") rfl), fun_ofD F, F.bindsN fun _ _ _ _ _ _ us hl => match us, hl with | [_], _ => rfl⟩,
    f_prices := by
      obtain ⟨fd, F⟩ := c.def_ 27 (d := dfn "prices" s_prices) rfl
      exact ⟨_, fd, He.glo_ok X G (c.fact 73 (f := .glo "prices") rfl), fun_ofD F, F.bindsN fun _ _ _ _ _ _ us hl => match us, hl with | [_], _ => rfl⟩,
    f_bound := by
      obtain ⟨fd, F⟩ := c.def_ 28 (d := dfn "bound" s_bound) rfl
      exact ⟨_, fd, He.glo_ok X G (c.fact 74 (f := .glo "bound") rfl), fun_ofD F, F.bindsN fun _ _ _ _ _ _ us hl => match us, hl with | [_, _], _ => rfl⟩,
    f__law_begun := by
      obtain ⟨fd, F⟩ := c.def_ 29 (d := dfn "_law_begun" s__law_begun) rfl
      exact ⟨_, fd, He.glo_ok X G (c.fact 75 (f := .glo "_law_begun") rfl), fun_ofD F, F.bindsN fun _ _ _ _ _ _ us hl => match us, hl with | [_], _ => rfl⟩,
    f__law_take := by
      obtain ⟨fd, F⟩ := c.def_ 30 (d := dfn "_law_take" s__law_take) rfl
      exact ⟨_, fd, He.glo_ok X G (c.fact 76 (f := .glo "_law_take") rfl), fun_ofD F, F.bindsN fun _ _ _ _ _ _ us hl => match us, hl with | [_, _], _ => rfl⟩,
    f__law_alike := by
      obtain ⟨fd, F⟩ := c.def_ 31 (d := dfn "_law_alike" s__law_alike) rfl
      exact ⟨_, fd, He.glo_ok X G (c.fact 77 (f := .glo "_law_alike") rfl), fun_ofD F, F.bindsN fun _ _ _ _ _ _ us hl => match us, hl with | [_, _], _ => rfl⟩,
    f__law_class := by
      obtain ⟨fd, F⟩ := c.def_ 32 (d := dfn "_law_class" s__law_class) rfl
      exact ⟨_, fd, He.glo_ok X G (c.fact 78 (f := .glo "_law_class") rfl), fun_ofD F, F.bindsN fun _ _ _ _ _ _ us hl => match us, hl with | [_], _ => rfl⟩,
    f__law_told := by
      obtain ⟨fd, F⟩ := c.def_ 33 (d := dfn "_law_told" s__law_told) rfl
      exact ⟨_, fd, He.glo_ok X G (c.fact 79 (f := .glo "_law_told") rfl), fun_ofD F, F.bindsN fun _ _ _ _ _ _ us hl => match us, hl with | [_], _ => rfl⟩,
    f__law_all := by
      obtain ⟨fd, F⟩ := c.def_ 34 (d := dfn "_law_all" s__law_all) rfl
      exact ⟨_, fd, He.glo_ok X G (c.fact 80 (f := .glo "_law_all") rfl), fun_ofD F, F.bindsN fun _ _ _ _ _ _ us hl => match us, hl with | [_, _], _ => rfl⟩,
    f__law_per := by
      obtain ⟨fd, F⟩ := c.def_ 35 (d := dfn "_law_per" s__law_per) rfl
      exact ⟨_, fd, He.glo_ok X G (c.fact 81 (f := .glo "_law_per") rfl), fun_ofD F, F.bindsN fun _ _ _ _ _ _ us hl => match us, hl with | [_], _ => rfl⟩,
    f__law_packed := by
      obtain ⟨fd, F⟩ := c.def_ 36 (d := dfn "_law_packed" s__law_packed) rfl
      exact ⟨_, fd, He.glo_ok X G (c.fact 82 (f := .glo "_law_packed") rfl), fun_ofD F, F.bindsN fun _ _ _ _ _ _ us hl => match us, hl with | [_, _], _ => rfl⟩,
    f__law_above := by
      obtain ⟨fd, F⟩ := c.def_ 37 (d := dfn "_law_above" s__law_above) rfl
      exact ⟨_, fd, He.glo_ok X G (c.fact 83 (f := .glo "_law_above") rfl), fun_ofD F, F.bindsN fun _ _ _ _ _ _ us hl => match us, hl with | [_], _ => rfl⟩,
    f__law_form := by
      obtain ⟨fd, F⟩ := c.def_ 38 (d := dfn "_law_form" s__law_form) rfl
      exact ⟨_, fd, He.glo_ok X G (c.fact 84 (f := .glo "_law_form") rfl), fun_ofD F, F.bindsN fun _ _ _ _ _ _ us hl => match us, hl with | [_, _], _ => rfl⟩,
    f__law_room := by
      obtain ⟨fd, F⟩ := c.def_ 39 (d := dfn "_law_room" s__law_room) rfl
      exact ⟨_, fd, He.glo_ok X G (c.fact 85 (f := .glo "_law_room") rfl), fun_ofD F, F.bindsN fun _ _ _ _ _ _ us hl => match us, hl with | [_], _ => rfl⟩,
    f__law_least := by
      obtain ⟨fd, F⟩ := c.def_ 40 (d := dfn "_law_least" s__law_least) rfl
      exact ⟨_, fd, He.glo_ok X G (c.fact 86 (f := .glo "_law_least") rfl), fun_ofD F, F.bindsN fun _ _ _ _ _ _ us hl => match us, hl with | [_], _ => rfl⟩,
    f__law_values := by
      obtain ⟨fd, F⟩ := c.def_ 41 (d := dfn "_law_values" s__law_values) rfl
      exact ⟨_, fd, He.glo_ok X G (c.fact 87 (f := .glo "_law_values") rfl), fun_ofD F, F.bindsN fun _ _ _ _ _ _ us hl => match us, hl with | [_, _], _ => rfl⟩,
    f__law_is := by
      obtain ⟨fd, F⟩ := c.def_ 42 (d := dfn "_law_is" s__law_is) rfl
      exact ⟨_, fd, He.glo_ok X G (c.fact 88 (f := .glo "_law_is") rfl), fun_ofD F, F.bindsN fun _ _ _ _ _ _ us hl => match us, hl with | [_, _, _], _ => rfl, code_of (p := ("_law_is", none)) (x := "_law_is") (q := "_law_is") (st := s__law_is) F⟩,
    f__law_refuses := by
      obtain ⟨fd, F⟩ := c.def_ 43 (d := dfn "_law_refuses" s__law_refuses) rfl
      exact ⟨_, fd, He.glo_ok X G (c.fact 89 (f := .glo "_law_refuses") rfl), fun_ofD F, F.bindsN fun _ _ _ _ _ _ us hl => match us, hl with | [_, _], _ => rfl, code_of (p := ("_law_refuses", none)) (x := "_law_refuses") (q := "_law_refuses") (st := s__law_refuses) F⟩,
    f_law := by
      obtain ⟨fd, F⟩ := c.def_ 44 (d := dfn "law" s_law) rfl
      exact ⟨_, fd, He.glo_ok X G (c.fact 90 (f := .glo "law") rfl), fun_ofD F, F.bindsN fun _ _ _ _ _ _ us hl => match us, hl with | [_], _ => rfl, code_of (p := ("law", none)) (x := "law") (q := "law") (st := s_law) F⟩
  }
theorem tne_of {w : World} {K : PySem.W.Frag} {h : Heap} (z : He.SaysX fas fns tabs tfs exB w h K) : [(He.cT K ("_law_is", none)).2, (He.cT K ("_law_refuses", none)).2, (He.cT K ("law", none)).2].Nodup := by
  have ez := (He.ba z.more).2
  exact of_decide_eq_true ez
end
end CC
open PySem PySem.W PySem.Calls PyProof.Rows
theorem PySem.Challenge.cw_codecolumns_k02_five_forms_holds : PySem.Challenge.rw_codecolumns_k02_five_forms.Holds := by
  refine CC.hd ?_
  refine LamX.walk_ofTsE (l := PySem.Challenge.rw_codecolumns_k02_five_forms) (n := 63) (k := 18) (x := "_law_script") (CX := fun _ => L2.CX0) rfl (by decide) (by kernel_rfl) ⟨rfl, by decide, by decide⟩ ?F (fun _ _ _ _ _ z => z)
  intro w mg fa h Y G hmg0
  obtain ⟨K, KX, c⟩ := Y
  have hmg : mg ("law" : PySem.Str) = some (.ref fa) := by
    have e : (HandSHeadRun.topDef (OpenLaw.row PySem.Challenge.rw_codecolumns_k02_five_forms).prog 74).name = ("law" : PySem.Str) := by kernel_rfl
    rw [← e]
    exact hmg0
  have cd : He.SaysD CC.fas CC.fns K := congrArg (fun z : He.AlT => z.1) c.t
  obtain ⟨fd, F⟩ := cd.def_ 44 (d := CC.dfn "law" CC.s_law) rfl
  have e := hmg.symm.trans (He.glo_ok KX G (cd.fact 90 (f := .glo "law") rfl))
  cases e
  have b := L2.FunD.bindsA (ps := ["_law_script"]) F fun _ _ _ _ _ _ us hl => match us, hl with | [_], _ => rfl
  refine ⟨K, KX, fd, [He.cT K ("_law_is", none), He.cT K ("_law_refuses", none), He.cT K ("law", none)], CC.sp_law K, fun p hp => ?_, fun p hp => ?_, fun p hp => ?_, fun s v => b s [v] rfl, fun H a ns hl _ hH hS => ⟨a, ns, rfl, hS, hl, hH, fun _ => rfl⟩, fun base _ _ TB => CC.law_fn (CC.txt KX G c) (CC.fun_ofD F) (CC.tne_of c) (TB _ (List.mem_cons_self)) (TB _ (List.mem_cons_of_mem _ (List.mem_cons_self))) (TB _ (List.mem_cons_of_mem _ (List.mem_cons_of_mem _ (List.mem_cons_self)))) (CC.code_of (st := CC.s_law) F)⟩
  · simp only [List.mem_cons, List.not_mem_nil, or_false] at hp
    rcases hp with rfl | rfl | rfl
    · exact c.empty _ (List.mem_cons_self)
    · exact c.empty _ (List.mem_cons_of_mem _ (List.mem_cons_self))
    · exact c.empty _ (List.mem_cons_of_mem _ (List.mem_cons_of_mem _ (List.mem_cons_self)))
  · simp only [List.mem_cons, List.not_mem_nil, or_false] at hp
    rcases hp with rfl | rfl | rfl
    · exact c.out _ (List.mem_cons_self)
    · exact c.out _ (List.mem_cons_of_mem _ (List.mem_cons_self))
    · exact c.out _ (List.mem_cons_of_mem _ (List.mem_cons_of_mem _ (List.mem_cons_self)))
  · simp only [List.mem_cons, List.not_mem_nil, or_false] at hp
    rcases hp with rfl | rfl | rfl
    · exact PySem.W.codeHd_of_K KX (c.hd _ (List.mem_cons_self))
    · exact PySem.W.codeHd_of_K KX (c.hd _ (List.mem_cons_of_mem _ (List.mem_cons_self)))
    · exact PySem.W.codeHd_of_K KX (c.hd _ (List.mem_cons_of_mem _ (List.mem_cons_of_mem _ (List.mem_cons_self))))
