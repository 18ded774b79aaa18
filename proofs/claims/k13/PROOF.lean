import PyProof.Rows.All
import Wide.All
import OpenK.AllK
import Wide.FinOn
import HandS.Words
import HandS.Head2
import HandS.HeadHook4
import KE.KExcIs
import HandS.ExcField
import HandS.ExcIs
import HandS.ExcInit
import HandS.HeadEnd
import HandS.HeadWalk
import HandS.ForMost
import HandS.ForExc
import HandS.Evl
import HandS.TupAny
import HandS.IsInst
import HandS.Strs
import HandS.Style
import HandS.Flow
import HandS.Wide
import HandS.SetFor
import HandS.Zip
import HandS.Codes
import HandS.Defaults
import KE.DataMinMax
import HandS.Lambda
import HandS.HotCalls
import HandS.EndTab
import HandS.SortInts
import HandS.Text
import KE.SortData
import PyProof.StrOps2
import HandS.Conv
import HandS.TryOnly
import HandS.DictComp
import KE.LtData
import HandS.SortKw
import KE.SortKeyHeap
import KE.DataMinKey
import KE.GoesMore
import PyProof.EqAt
import KE.KItemsList
import HandS.ExcValue
import KE.KDictPairs
import PySem.Challenge.RW_codecolumns_k13_disks
set_option Elab.async false
set_option linter.all false
set_option maxRecDepth 100000
set_option maxHeartbeats 0
namespace CC
open PySem PySem.Spec PyProof.Rows L2
def topS (i : Nat) : Stmt := PySem.Challenge.pw_codecolumns_k13_disks.main.body.getD i (.Pass ⟨0, 0, 0, 0⟩)
abbrev s_weight_of : Stmt := topS 18
abbrev s__law_begun : Stmt := topS 21
abbrev s__law_take : Stmt := topS 22
abbrev s__law_alike : Stmt := topS 23
abbrev s__law_class : Stmt := topS 24
abbrev s__law_told : Stmt := topS 25
abbrev s__law_all : Stmt := topS 26
abbrev s__law_nest : Stmt := topS 27
abbrev s__law_what : Stmt := topS 28
abbrev s__law_weight : Stmt := topS 29
abbrev s__law_made : Stmt := topS 30
abbrev s__law_fall : Stmt := topS 31
abbrev s__law_count : Stmt := topS 32
abbrev s__law_write : Stmt := topS 33
abbrev s__law_arms : Stmt := topS 34
abbrev s__law_is : Stmt := topS 35
abbrev s_law : Stmt := topS 36
abbrev s_Disk___init__ : Stmt := inClass (topS 19) 0
abbrev s_Disk_need_block : Stmt := inClass (topS 19) 1
abbrev s_Disk_deed : Stmt := inClass (topS 19) 2
abbrev s_Disk_write : Stmt := inClass (topS 19) 3
abbrev s_Disk_settle : Stmt := inClass (topS 19) 4
abbrev s_Disk_read : Stmt := inClass (topS 19) 5
abbrev s_Disk_arm : Stmt := inClass (topS 19) 6
abbrev s_Disk_stop : Stmt := inClass (topS 19) 7
abbrev s_Disk_again : Stmt := inClass (topS 19) 8
abbrev s_Disk_blocks : Stmt := inClass (topS 19) 9
end CC
namespace CC
open PySem PySem.Spec PyProof.Rows L2
def fnC (o : Obj) : List Addr := match o.data with
  | .func fd => He.refV fd.code
  | .cls cd => cd.ns :: cd.mro.flatMap He.refV
  | _ => []
def dicV (o : Obj) : List Addr := match o.data with
  | .dict es _ => es.toList.flatMap fun e => He.refV e.val
  | _ => []
def stepZ (g : Addr → Option Obj) (f : Obj → List Addr) (as : List Addr) : List Addr := as.flatMap fun a => match g a with
  | some o => f o
  | none => []
def asZ (g : Addr → Option Obj) : List Addr := (fun l1 => (fun l2 => (fun l3 => mainGlobals :: (l1 ++ (l2 ++ (l3 ++ stepZ g fnC l3)))) (stepZ g dicV l2)) (stepZ g fnC l1)) (stepZ g dicV [mainGlobals])
def frL {α : Type} : List Addr → (List Addr → α) → α
  | [], k => k []
  | a :: r, k => HandSHeadRun.frNat a fun a => frL r fun r => k (a :: r)
theorem frL_eq {α : Type} : ∀ (l : List Addr) (k : List Addr → α), frL l k = k l
  | [], _ => rfl
  | a :: r, k => by
    show (HandSHeadRun.frNat a fun a => frL r fun r => k (a :: r)) = _
    rw [HandSHeadRun.frNat_eq, frL_eq r]
def frF {α : Type} : PySem.W.Frag → (PySem.W.Frag → α) → α
  | [], k => k []
  | (a, o) :: r, k => HandSHeadRun.frNat a fun a => frF r fun r => k ((a, o) :: r)
theorem frF_eq {α : Type} : ∀ (l : PySem.W.Frag) (k : PySem.W.Frag → α), frF l k = k l
  | [], _ => rfl
  | (a, o) :: r, k => by
    show (HandSHeadRun.frNat a fun a => frF r fun r => k ((a, o) :: r)) = _
    rw [HandSHeadRun.frNat_eq, frF_eq r]
end CC
namespace CC
open PySem PySem.Spec PyProof.Rows L2
def excBh (K : PySem.W.Frag) (D : Addr) : Bool := decide (PySem.W.findIn K (.ref D) "__getattribute__" = some (some (.builtin "BaseException.__getattribute__"))) && (decide (PySem.W.findIn K (.ref D) "__getattr__" = some none) && (decide (PySem.W.subIn K (.ref D) (.type "BaseException") = some true) && (PySem.W.hasDictIn K D &&
  (decide (PySem.W.findIn K (.ref D) "__class__" = some (some (.builtin "object.__class__"))) && (decide (PySem.W.specialIn K (.builtin "object.__class__") "__get__" = some (some (.builtin "getset_descriptor.__get__"))) && (decide (PySem.W.takesIn K (.builtin "object.__class__") = some true) && decide (PySem.W.mroIn K D (.type "object") = some true)))))))
def clsBh (K : PySem.W.Frag) (rs cs : List Str) : Bool := rs.all fun D => (cs.all fun C => decide (PySem.W.kitOne K (.ref (He.ga K D)) (.ref (He.ga K C)) = some (decide (D = C)))) && (decide (PySem.W.kitOne K (.ref (He.ga K D)) (.type "ValueError") = some true) && (decide (PySem.W.exmOne K (.ref (He.ga K D)) (.ref (He.ga K "ColumnError")) = some true) && excBh K (He.ga K D)))
def lookV (g : Addr → Option Obj) : PySem.W.Frag := He.frT g (cStatics :: asZ g)
def obV (fa : List He.Fa) (fn : List He.DefD) (ts : List He.Tab) (tf : List He.Defn) (ex : PySem.W.Frag → Bool) (g : Addr → Option Obj) : He.AlX := (He.obsT fa fn ts (lookV g), ex (lookV g) && He.tabsB g tf (lookV g))
def obVq (fa : List He.Fa) (fn : List He.DefD) (ts : List He.Tab) (tf : List He.Defn) (ex : PySem.W.Frag → Bool) (g : Addr → Option Obj) : He.AlX :=
  frL (stepZ g dicV [mainGlobals]) fun l1 => frL (stepZ g fnC l1) fun l2 => frL (stepZ g dicV l2) fun l3 => frL (stepZ g fnC l3) fun l4 => frF (He.frT g (cStatics :: mainGlobals :: (l1 ++ (l2 ++ (l3 ++ l4))))) fun K => (He.obsT fa fn ts K, ex K && He.tabsB g tf K)
theorem obVq_eq {fa : List He.Fa} {fn : List He.DefD} {ts : List He.Tab} {tf : List He.Defn} {ex : PySem.W.Frag → Bool} {g : Addr → Option Obj} : obVq fa fn ts tf ex g = obV fa fn ts tf ex g := by
  unfold obVq
  rw [frL_eq, frL_eq, frL_eq, frL_eq, frF_eq]
  rfl
theorem obV_says {fa : List He.Fa} {fn : List He.DefD} {ts : List He.Tab} {tf : List He.Defn} {ex : PySem.W.Frag → Bool} {w : World} {h : Heap} (e : obV fa fn ts tf ex h.get? = He.valX fn ts w) : He.SaysX fa fn ts tf ex w h (lookV h.get?) := by
  have e1 : He.obsT fa fn ts (lookV h.get?) = He.valT fn ts w := congrArg (fun z : He.AlX => z.1) e
  have e2 : (ex (lookV h.get?) && He.tabsB h.get? tf (lookV h.get?)) = true := congrArg (fun z : He.AlX => z.2) e
  obtain ⟨h1, h2⟩ := He.ba e2
  have key : ∀ p ∈ tf, PySem.W.codeHdIn (lookV h.get?) (He.cT (lookV h.get?) p).1 (He.cT (lookV h.get?) p).2 = true ∧ ∃ o, h.get? (He.cT (lookV h.get?) p).2 = some o ∧ He.emptyTab o = true := fun p hp => by
    obtain ⟨h3, h4⟩ := He.ba (List.all_eq_true.mp h2 p hp)
    refine ⟨h3, ?_⟩
    cases q : h.get? (He.cT (lookV h.get?) p).2 with
    | none => rw [q] at h4; cases h4
    | some o => rw [q] at h4; exact ⟨o, rfl, h4⟩
  exact ⟨e1, h1, fun p hp => (key p hp).1, fun p hp => by
    obtain ⟨_, o, q, z⟩ := key p hp
    exact He.frT_none q z, fun p hp => by
    obtain ⟨_, o, q, z⟩ := key p hp
    rw [q, He.emptyTab_eq z]⟩
def hookV (fa : List He.Fa) (fn : List He.DefD) (ts : List He.Tab) (tf : List He.Defn) (ex : PySem.W.Frag → Bool) : PySem.W.Hook where
  α := He.AlX
  obs := fun z => obV fa fn ts tf ex z.heap.get?
  val := fun z => He.valX fn ts z
  says := fun z h => ∃ Y : PySem.W.Frag, Y.In h ∧ He.SaysX fa fn ts tf ex z h Y
  of := fun _ _ z => ⟨_, He.frT_in, obV_says z⟩
  keeps := fun _ _ _ y k => by
    obtain ⟨Y, hY, c⟩ := y
    exact ⟨Y, hY.keeps k, c.t, c.more, c.hd, c.out, fun p hp => k _ _ (c.empty p hp)⟩
theorem obV_eq {fa : List He.Fa} {fn : List He.DefD} {ts : List He.Tab} {tf : List He.Defn} {ex : PySem.W.Frag → Bool} {g : Addr → Option Obj} {z : Shared} (h : ∀ a, g a = z.heap.get? a) : obVq fa fn ts tf ex g = (hookV fa fn ts tf ex).obs z := by
  cases (funext h : g = z.heap.get?)
  exact obVq_eq
end CC
namespace CC
open PySem PySem.Spec PyProof.Rows L2
def dfn (x : Str) (st : Stmt) : He.DefD := ⟨(x, none), x, x, defArgs st, defBody st, defScope st, [], []⟩
def dfnM (x m q : Str) (st : Stmt) : He.DefD := ⟨(x, some m), m, q, defArgs st, defBody st, defScope st, [], []⟩
def fns : List He.DefD := ([dfn "weight_of" s_weight_of, dfn "_law_begun" s__law_begun, dfn "_law_take" s__law_take, dfn "_law_alike" s__law_alike, dfn "_law_class" s__law_class, dfn "_law_told" s__law_told, dfn "_law_all" s__law_all, dfn "_law_nest" s__law_nest, dfn "_law_what" s__law_what, dfn "_law_weight" s__law_weight, dfn "_law_made" s__law_made, dfn "_law_fall" s__law_fall, dfn "_law_count" s__law_count, dfn "_law_write" s__law_write, dfn "_law_arms" s__law_arms, dfn "_law_is" s__law_is, dfn "law" s_law, dfnM "Disk" "__init__" "Disk.__init__" s_Disk___init__, dfnM "Disk" "need_block" "Disk.need_block" s_Disk_need_block, dfnM "Disk" "deed" "Disk.deed" s_Disk_deed, dfnM "Disk" "write" "Disk.write" s_Disk_write, dfnM "Disk" "settle" "Disk.settle" s_Disk_settle, dfnM "Disk" "read" "Disk.read" s_Disk_read, dfnM "Disk" "arm" "Disk.arm" s_Disk_arm] : List He.DefD) ++ ([dfnM "Disk" "stop" "Disk.stop" s_Disk_stop, dfnM "Disk" "again" "Disk.again" s_Disk_again, dfnM "Disk" "blocks" "Disk.blocks" s_Disk_blocks] : List He.DefD)
def fas : List He.Fa := ([.free "len", .free "list", .free "tuple", .free "int", .free "sum", .free "isinstance", .free "max", .free "range", .free "zip", .free "reversed", .free "str", .free "bool", .free "ValueError", .int "BLOCKS" 600, .int "MOST_WEIGHT" 40, .glo "ColumnError", .glo "BadNumber", .glo "BadValues", .glo "NoForm", .glo "BadPrices", .glo "BadKinds", .glo "BadRows", .glo "BadCondition", .glo "BadColumn"] : List He.Fa) ++ ([.glo "BadHeap", .glo "TooMany", .glo "BadBlock", .glo "Stopped", .glo "BadText", .glo "Disk", .exc "BadBlock", .exm "BadBlock" "BadBlock" true, .exc "Stopped", .exm "Stopped" "Stopped" true, .glo "weight_of", .glo "_law_begun", .glo "_law_take", .glo "_law_alike", .glo "_law_class", .glo "_law_told", .glo "_law_all", .glo "_law_nest", .glo "_law_what", .glo "_law_weight", .glo "_law_made", .glo "_law_fall", .glo "_law_count", .glo "_law_write"] : List He.Fa) ++ ([.glo "_law_arms", .glo "_law_is", .glo "law", .cls "Disk", .noat "Disk" "is_down", .noat "Disk" "left", .noat "Disk" "picks", .noat "Disk" "settled", .noat "Disk" "waiting", .mkr "Disk", .meth "Disk" "need_block", .meth "Disk" "deed", .meth "Disk" "write", .meth "Disk" "settle", .meth "Disk" "read", .meth "Disk" "arm", .meth "Disk" "stop", .meth "Disk" "again", .meth "Disk" "blocks"] : List He.Fa)
def tabs : List He.Tab := []
def tfs : List He.Defn := [("_law_write", none), ("_law_is", none), ("law", none)]
def exB (K : PySem.W.Frag) : Bool := clsBh K ["BadBlock", "Stopped"] ["BadNumber", "BadValues", "NoForm", "BadPrices", "BadKinds", "BadRows", "BadCondition", "BadColumn", "BadHeap", "TooMany", "BadBlock", "Stopped", "BadText"] && decide ([(He.cT K ("_law_write", none)).2, (He.cT K ("_law_is", none)).2, (He.cT K ("law", none)).2].Nodup)
abbrev RW : PySem.W.OpenRow := PySem.W.OpenLaw.row PySem.Challenge.rw_codecolumns_k13_disks
abbrev hk : PySem.W.Hook := hookV fas fns tabs tfs exB
def ob (s : PySem.W.SharedT) : He.AlX := obVq fas fns tabs tfs exB (HandSHeadRun.getT s)
theorem ob_eq (s : PySem.W.SharedT) : ob s = hk.obs s.abs := obV_eq (HandSHeadRun.getT_eq s)
def lse : List Str := (["ColumnError", "BadNumber", "BadValues", "NoForm", "BadPrices", "BadKinds", "BadRows", "BadCondition", "BadColumn", "BadHeap", "TooMany", "BadBlock", "Stopped", "BadText", "BLOCKS", "MOST_WEIGHT", "weight_of", "Disk", "_law_begun", "_law_take"] : List Str) ++ (["_law_alike", "_law_class", "_law_told", "_law_all", "_law_nest", "_law_what", "_law_weight", "_law_made", "_law_fall", "_law_count", "_law_write", "_law_arms", "_law_is"] : List Str)
theorem run (w : World) : HandSHeadRun.RunEq RW (PySem.W.view RW.prog [36]) hk ob 20000 lse w := by
  intro os
  kernel_rfl
open PySem PySem.W PySem.Calls PyProof.Rows in
theorem hd (call : PySem.W.WalkO (PySem.W.view RW.prog [36]) lse (PySem.W.XL (PySem.W.view RW.prog [36]) []) hk.says RW.toRowW (HandSHeadRun.topDef RW.prog 36) [] fun f vs => PySem.call f vs) : PySem.Challenge.rw_codecolumns_k13_disks.Holds := by
  w_on; o_law
  refine HandSHeadRun.head_any (r := OpenLaw.row PySem.Challenge.rw_codecolumns_k13_disks) (q := view (OpenLaw.row PySem.Challenge.rw_codecolumns_k13_disks).prog [36]) (H := hk) (ob := ob) (M := 20000) (loose := lse) (d := HandSHeadRun.topDef (OpenLaw.row PySem.Challenge.rw_codecolumns_k13_disks).prog 36) (kwd := []) ob_eq
    (by kernel_rfl) (fun s => by kernel_rfl) run (by kernel_rfl) (by kernel_rfl) (by kernel_rfl) (by rfl) (by first | assumption | decide +kernel) (by decide +kernel) ⟨rfl, rfl, rfl, rfl, rfl, by decide +kernel⟩ ?hw call
  case hw => w_witness2
end CC
namespace CC
open PySem PySem.Spec PyProof.Rows L2
inductive Dt where
  | non | bl (b : Bool) | int (i : Int) | str (s : Str) | lst (xs : List Dt) | tup (xs : List Dt)
  | dk (kvs : List (Key × Dt)) | dt (kvs : List (List Key × Dt))
  /-- an instance of the class at C that no one changes -/
  | ob (C : Addr) (fs : List (Str × Dt))
  /-- the thing at f, by what is true of some objects (a lambda, its code, its defaults) -/
  | xo (f : Addr) (L : List (Addr × HO))
  /-- a tuple that tuple(..) made, known to bear no dict -/
  | ptup (xs : List Dt)
def thaw : HO → HO
  | .frz _ u => u
  | o => o
def dic : HO → Bool
  | .dK _ => true
  | .dT _ => true
  | _ => false
def Sm (o o' : HO) : Prop := o = o' ∨ (dic (thaw o) = true ∧ thaw o = thaw o')
theorem Sm.rfl {o : HO} : Sm o o := .inl _root_.rfl
theorem Sm.trans {a b c : HO} (h : Sm a b) (k : Sm b c) : Sm a c := by
  rcases h with rfl | ⟨h1, h2⟩
  · exact k
  · rcases k with rfl | ⟨k1, k2⟩
    · exact .inr ⟨h1, h2⟩
    · exact .inr ⟨h1, h2.trans k2⟩
theorem Sm.symm {a b : HO} (h : Sm a b) : Sm b a := by
  rcases h with rfl | ⟨h1, h2⟩
  · exact .inl _root_.rfl
  · exact .inr ⟨by rw [← h2]; exact h1, h2.symm⟩
theorem Sm.lst {xs : List V} {o : HO} (h : Sm (.lst xs) o) : o = .lst xs := by
  rcases h with h | ⟨h, _⟩
  · exact h.symm
  · cases h
theorem Sm.tup {xs : List V} {o : HO} (h : Sm (.tup xs) o) : o = .tup xs := by
  rcases h with h | ⟨h, _⟩
  · exact h.symm
  · cases h
theorem Sm.ftup {xs : List V} {o : HO} {b : Obj} (h : Sm (.frz b (.tup xs)) o) : o = .frz b (.tup xs) := by
  rcases h with h | ⟨h, _⟩
  · exact h.symm
  · cases h
theorem Sm.plain {o o' : HO} (h : Sm o o') (hd : dic (thaw o) = false) : o' = o := by
  rcases h with h | ⟨h, _⟩
  · exact h.symm
  · rw [hd] at h; cases h
structure Ex (mu : Addr → Bool) (H H' : Hp) : Prop where
  keep : ∀ a o, mu a = false → H a = some o → H' a = some o
  dom : ∀ a, H a ≠ none → H' a ≠ none
theorem Ex.refl {mu : Addr → Bool} {H : Hp} : Ex mu H H := ⟨fun _ o _ h => h, fun _ h => h⟩
theorem Ex.trans {mu : Addr → Bool} {H H1 H2 : Hp} (a : Ex mu H H1) (b : Ex mu H1 H2) : Ex mu H H2 := ⟨fun x o hx h => b.keep x o hx (a.keep x o hx h), fun x h => b.dom x (a.dom x h)⟩
theorem Ex.fresh {mu : Addr → Bool} {H H' : Hp} (e : Ex mu H H') {p : Addr} (h : H' p = none) : H p = none := by
  cases q : H p with
  | none => rfl
  | some o => exact absurd h (e.dom p (by rw [q]; exact fun z => nomatch z))
theorem Ex.new {mu : Addr → Bool} {H : Hp} {p : Addr} {o : HO} (h : H p = none) : Ex mu H (upd H p o) := ⟨fun a u _ e => by
  rw [upd_ne (ne_of_none e h)]
  exact e, fun a e => by
  by_cases q : a = p
  · subst q; exact absurd h e
  · rw [upd_ne q]; exact e⟩
theorem upd_dom {H : Hp} {p a : Addr} {o : HO} (h : H a ≠ none) : upd H p o a ≠ none := by
  by_cases q : a = p
  · subst q; rw [upd_same]; exact fun z => nomatch z
  · rw [upd_ne q]; exact h
theorem Ex.mut {mu : Addr → Bool} {H H' : Hp} {p : Addr} {o : HO} (e : Ex mu H H') (h : H p = none ∨ mu p = true) : Ex mu H (upd H' p o) := ⟨fun a u ha hu => by
  by_cases q : a = p
  · subst q
    rcases h with h | h
    · rw [h] at hu; cases hu
    · rw [h] at ha; cases ha
  · rw [upd_ne q]; exact e.keep a u ha hu, fun a ha => upd_dom (e.dom a ha)⟩
theorem Ex.weak {mu nu : Addr → Bool} {H H' : Hp} (e : Ex mu H H') (h : ∀ a, mu a = true → nu a = true) : Ex nu H H' := ⟨fun a o ha => e.keep a o (by
  cases q : mu a with
  | false => rfl
  | true => rw [h a q] at ha; cases ha), e.dom⟩
def Hm (hd : Addr → Bool) (H : Hp) : Hp := fun a => if hd a = true then none else H a
theorem hm_le {hd : Addr → Bool} {H : Hp} {a : Addr} {o : HO} (h : Hm hd H a = some o) : H a = some o := by
  unfold Hm at h
  split at h
  · cases h
  · exact h
theorem hm_not {hd : Addr → Bool} {H : Hp} {a : Addr} {o : HO} (h : Hm hd H a = some o) : hd a = false := by
  unfold Hm at h
  cases q : hd a with
  | false => rfl
  | true => rw [if_pos q] at h; cases h
theorem hm_of {hd : Addr → Bool} {H : Hp} {a : Addr} (h : hd a = false) : Hm hd H a = H a := by
  unfold Hm
  rw [if_neg (by rw [h]; exact Bool.false_ne_true)]
def Sees (G G' : Hp) : Prop := ∀ a o, G a = some o → ∃ o', G' a = some o' ∧ Sm o o'
theorem Sees.refl {G : Hp} : Sees G G := fun _ o h => ⟨o, h, .rfl⟩
theorem Sees.trans {G G1 G2 : Hp} (a : Sees G G1) (b : Sees G1 G2) : Sees G G2 := fun x o h => by
  obtain ⟨o1, h1, s1⟩ := a x o h
  obtain ⟨o2, h2, s2⟩ := b x o1 h1
  exact ⟨o2, h2, s1.trans s2⟩
theorem Ex.sees {mu hd : Addr → Bool} {H H' : Hp} (e : Ex mu H H') (hm : ∀ a, mu a = true → hd a = true) : Sees (Hm hd H) (Hm hd H') := fun a o h => by
  have h1 := hm_not h
  have h2 := e.keep a o (by
    cases q : mu a with
    | false => rfl
    | true => rw [hm a q] at h1; cases h1) (hm_le h)
  exact ⟨o, by rw [hm_of h1]; exact h2, .rfl⟩
theorem sees_hide {hd hd' : Addr → Bool} {H : Hp} (h : ∀ a, hd a = true → hd' a = true) : Sees (Hm hd' H) (Hm hd H) := fun a o e => by
  refine ⟨o, ?_, .rfl⟩
  have h1 := hm_not e
  rw [hm_of]
  · exact hm_le e
  · cases q : hd a with
    | false => rfl
    | true => rw [h a q] at h1; cases h1
theorem sees_le {hd : Addr → Bool} {H : Hp} : Sees (Hm hd H) H := fun _ o h => ⟨o, hm_le h, .rfl⟩
theorem hm_upd {hd : Addr → Bool} {H : Hp} {p : Addr} {o : HO} (h : hd p = true) : Hm hd (upd H p o) = Hm hd H := by
  funext a
  unfold Hm upd
  by_cases q : a = p
  · subst q; rw [if_pos h, if_pos h]
  · rw [if_neg q]
theorem sees_t {K : PySem.W.Frag} {G G' : Hp} {a : Addr} {xs : List V} (e : Sees G G') (h : SqT K G a xs) : SqT K G' a xs := by
  rcases h with (h | ⟨o, h⟩) | h
  · obtain ⟨o', h1, s⟩ := e a _ h
    rw [s.tup] at h1
    exact .inl (.inl h1)
  · obtain ⟨o', h1, s⟩ := e a _ h
    rw [s.ftup] at h1
    exact .inl (.inr ⟨o, h1⟩)
  · exact .inr h
theorem rd_sm {o o' : HO} (s : Sm o o') {u : HO} (hu : dic u = true) (h : o = u ∨ ∃ b, o = .frz b u) : o' = u ∨ ∃ b, o' = .frz b u := by
  rcases s with rfl | ⟨_, s2⟩
  · exact h
  · have e : thaw o' = u := by
      rw [← s2]
      rcases h with rfl | ⟨b, rfl⟩
      · cases o <;> first | rfl | cases hu
      · rfl
    cases o' with
    | frz b v => exact .inr ⟨b, by rw [show v = u from e]⟩
    | _ => exact .inl e
theorem sees_rd {G G' : Hp} {a : Addr} {u : HO} (e : Sees G G') (hu : dic u = true) (h : Rd G a u) : Rd G' a u := by
  rcases h with h | ⟨b, h⟩
  · obtain ⟨o', h1, s⟩ := e a _ h
    rcases rd_sm s hu (.inl rfl) with q | ⟨b, q⟩
    · subst q; exact .inl h1
    · subst q; exact .inr ⟨b, h1⟩
  · obtain ⟨o', h1, s⟩ := e a _ h
    rcases rd_sm s hu (.inr ⟨b, rfl⟩) with q | ⟨c, q⟩
    · subst q; exact .inl h1
    · subst q; exact .inr ⟨c, h1⟩
mutual
inductive Rp (K : PySem.W.Frag) (G : Hp) : V → Dt → Prop
  | non : Rp K G .non .non
  | bl (b : Bool) : Rp K G (.bl b) (.bl b)
  | int (i : Int) : Rp K G (.int i) (.int i)
  | str (x : Str) : Rp K G (.str x) (.str x)
  | lst {a : Addr} {xs : List V} {ds : List Dt} : G a = some (.lst xs) → RpAll K G xs ds → Rp K G (.ref a) (.lst ds)
  | tup {a : Addr} {xs : List V} {ds : List Dt} : SqT K G a xs → RpAll K G xs ds → Rp K G (.ref a) (.tup ds)
  | dk {a : Addr} {kvs : List (Key × V)} {ds : List (Key × Dt)} : Rd G a (.dK kvs) → RpK K G kvs ds → Rp K G (.ref a) (.dk ds)
  | dt {a : Addr} {kvs : List (List Key × V)} {ds : List (List Key × Dt)} : Rd G a (.dT kvs) → RpT K G kvs ds → Rp K G (.ref a) (.dt ds)
  | ob {a C dx : Addr} {vs : List (Str × V)} {ds : List (Str × Dt)} : G a = some (.ins C dx vs) → RpF K G vs ds → Rp K G (.ref a) (.ob C ds)
  | xo {f : Addr} {L : List (Addr × HO)} : (∀ p ∈ L, dic (thaw p.2) = false ∧ G p.1 = some p.2) → Rp K G (.ref f) (.xo f L)
  | ptup {a : Addr} {ob : Obj} {xs : List V} {ds : List Dt} : ob.cls = .type "tuple" → ob.dict = none → G a = some (.frz ob (.tup xs)) → RpAll K G xs ds → Rp K G (.ref a) (.ptup ds)
inductive RpAll (K : PySem.W.Frag) (G : Hp) : List V → List Dt → Prop
  | nil : RpAll K G [] []
  | cons {v : V} {vs : List V} {d : Dt} {ds : List Dt} : Rp K G v d → RpAll K G vs ds → RpAll K G (v :: vs) (d :: ds)
inductive RpK (K : PySem.W.Frag) (G : Hp) : List (Key × V) → List (Key × Dt) → Prop
  | nil : RpK K G [] []
  | cons {k : Key} {v : V} {vs : List (Key × V)} {d : Dt} {ds : List (Key × Dt)} : Rp K G v d → RpK K G vs ds → RpK K G ((k, v) :: vs) ((k, d) :: ds)
inductive RpF (K : PySem.W.Frag) (G : Hp) : List (Str × V) → List (Str × Dt) → Prop
  | nil : RpF K G [] []
  | cons {k : Str} {v : V} {vs : List (Str × V)} {d : Dt} {ds : List (Str × Dt)} : Rp K G v d → RpF K G vs ds → RpF K G ((k, v) :: vs) ((k, d) :: ds)
inductive RpT (K : PySem.W.Frag) (G : Hp) : List (List Key × V) → List (List Key × Dt) → Prop
  | nil : RpT K G [] []
  | cons {k : List Key} {v : V} {vs : List (List Key × V)} {d : Dt} {ds : List (List Key × Dt)} : Rp K G v d → RpT K G vs ds → RpT K G ((k, v) :: vs) ((k, d) :: ds)
end
mutual
theorem Rp.mono {K : PySem.W.Frag} {G G' : Hp} (e : Sees G G') : ∀ {v : V} {d : Dt}, Rp K G v d → Rp K G' v d
  | _, _, .non => .non
  | _, _, .bl b => .bl b
  | _, _, .int i => .int i
  | _, _, .str x => .str x
  | _, _, .lst (xs := xs) h t => .lst (xs := xs) (by
      obtain ⟨o, h1, s⟩ := e _ _ h
      rw [s.lst] at h1
      exact h1) (RpAll.mono e t)
  | _, _, .tup h t => .tup (sees_t e h) (RpAll.mono e t)
  | _, _, .dk h t => .dk (sees_rd e rfl h) (RpK.mono e t)
  | _, _, .dt h t => .dt (sees_rd e rfl h) (RpT.mono e t)
  | _, _, .ob (C := C) (dx := dx) (vs := vs) h t => .ob (C := C) (dx := dx) (vs := vs) (by
      obtain ⟨o, h1, s⟩ := e _ _ h
      rw [s.plain rfl] at h1
      exact h1) (RpF.mono e t)
  | _, _, .xo h => .xo fun p hp => by
      obtain ⟨h1, h2⟩ := h p hp
      obtain ⟨o, h3, s⟩ := e _ _ h2
      rw [s.plain h1] at h3
      exact ⟨h1, h3⟩
  | _, _, .ptup h1 h2 (ob := ob) (xs := xs) h t => .ptup (ob := ob) (xs := xs) h1 h2 (by
      obtain ⟨o, h3, s⟩ := e _ _ h
      rw [s.ftup] at h3
      exact h3) (RpAll.mono e t)
theorem RpAll.mono {K : PySem.W.Frag} {G G' : Hp} (e : Sees G G') : ∀ {vs : List V} {ds : List Dt}, RpAll K G vs ds → RpAll K G' vs ds
  | _, _, .nil => .nil
  | _, _, .cons h t => .cons (Rp.mono e h) (RpAll.mono e t)
theorem RpK.mono {K : PySem.W.Frag} {G G' : Hp} (e : Sees G G') : ∀ {vs : List (Key × V)} {ds : List (Key × Dt)}, RpK K G vs ds → RpK K G' vs ds
  | _, _, .nil => .nil
  | _, _, .cons h t => .cons (Rp.mono e h) (RpK.mono e t)
theorem RpF.mono {K : PySem.W.Frag} {G G' : Hp} (e : Sees G G') : ∀ {vs : List (Str × V)} {ds : List (Str × Dt)}, RpF K G vs ds → RpF K G' vs ds
  | _, _, .nil => .nil
  | _, _, .cons h t => .cons (Rp.mono e h) (RpF.mono e t)
theorem RpT.mono {K : PySem.W.Frag} {G G' : Hp} (e : Sees G G') : ∀ {vs : List (List Key × V)} {ds : List (List Key × Dt)}, RpT K G vs ds → RpT K G' vs ds
  | _, _, .nil => .nil
  | _, _, .cons h t => .cons (Rp.mono e h) (RpT.mono e t)
end
end CC
namespace CC
open PySem PySem.Spec PyProof.Rows L2
section
variable {K : PySem.W.Frag} {G G' : Hp}
theorem RpAll.length : ∀ {vs : List V} {ds : List Dt}, RpAll K G vs ds → vs.length = ds.length
  | _, _, .nil => rfl
  | _, _, .cons _ t => congrArg (· + 1) (RpAll.length t)
theorem RpAll.get : ∀ {vs : List V} {ds : List Dt} {i : Nat} {d : Dt}, RpAll K G vs ds → ds[i]? = some d → ∃ v, vs[i]? = some v ∧ Rp K G v d
  | _, _, 0, _, .cons h _, e => ⟨_, rfl, by rw [show _ = _ from Option.some.inj e] at h; exact h⟩
  | _, _, i + 1, _, .cons _ t, e => RpAll.get (i := i) t e
theorem RpAll.getV : ∀ {vs : List V} {ds : List Dt} {i : Nat} {v : V}, RpAll K G vs ds → vs[i]? = some v → ∃ d, ds[i]? = some d ∧ Rp K G v d
  | _, _, 0, _, .cons h _, e => ⟨_, rfl, by rw [show _ = _ from Option.some.inj e] at h; exact h⟩
  | _, _, i + 1, _, .cons _ t, e => RpAll.getV (i := i) t e
theorem RpAll.append : ∀ {vs ws : List V} {ds es : List Dt}, RpAll K G vs ds → RpAll K G ws es → RpAll K G (vs ++ ws) (ds ++ es)
  | _, _, _, _, .nil, s => s
  | _, _, _, _, .cons h t, s => .cons h (RpAll.append t s)
theorem RpAll.take : ∀ {vs : List V} {ds : List Dt} (n : Nat), RpAll K G vs ds → RpAll K G (vs.take n) (ds.take n)
  | _, _, 0, _ => .nil
  | _, _, _ + 1, .nil => .nil
  | _, _, n + 1, .cons h t => .cons h (RpAll.take n t)
theorem RpAll.drop : ∀ {vs : List V} {ds : List Dt} (n : Nat), RpAll K G vs ds → RpAll K G (vs.drop n) (ds.drop n)
  | _, _, 0, h => h
  | _, _, _ + 1, .nil => .nil
  | _, _, n + 1, .cons _ t => RpAll.drop n t
theorem RpAll.set {v : V} {d : Dt} (h : Rp K G v d) : ∀ {vs : List V} {ds : List Dt} (n : Nat), RpAll K G vs ds → RpAll K G (vs.set n v) (ds.set n d)
  | _, _, _, .nil => .nil
  | _, _, 0, .cons _ t => .cons h t
  | _, _, n + 1, .cons q t => .cons q (RpAll.set h n t)
theorem RpAll.rep {vs : List V} {ds : List Dt} (h : RpAll K G vs ds) : ∀ n : Nat, RpAll K G (List.replicate n vs).flatten (List.replicate n ds).flatten
  | 0 => .nil
  | n + 1 => by
    rw [List.replicate_succ, List.replicate_succ, List.flatten_cons, List.flatten_cons]
    exact h.append (RpAll.rep h n)
theorem RpAll.ints : ∀ {vs : List V} {ns : List Int}, RpAll K G vs (ns.map Dt.int) → vs = ns.map V.int
  | _, [], .nil => rfl
  | _, n :: r, .cons h t => by
    cases h
    rw [RpAll.ints t]
    rfl
theorem RpAll.bls : ∀ {vs : List V} {ns : List Bool}, RpAll K G vs (ns.map Dt.bl) → vs = ns.map V.bl
  | _, [], .nil => rfl
  | _, n :: r, .cons h t => by
    cases h
    rw [RpAll.bls t]
    rfl
theorem RpAll.strs : ∀ {vs : List V} {ns : List Str}, RpAll K G vs (ns.map Dt.str) → vs = ns.map V.str
  | _, [], .nil => rfl
  | _, n :: r, .cons h t => by
    cases h
    rw [RpAll.strs t]
    rfl
end
def ext : HO → Bool
  | .ext _ => true
  | _ => false
structure Cn where
  K : PySem.W.Frag
  mu : Addr → Bool
  B : (Addr → Bool) → Hp → Prop
  stab : ∀ hd hd' H H', Sees (Hm hd H) (Hm hd' H') → (∀ a o, (mu a = true ∨ ext o = true) → H a = some o → H' a = some o) → B hd H → B hd' H'
def none0 : Addr → Bool := fun _ => false
theorem Cn.putS (c : Cn) {hd hd' : Addr → Bool} {H : Hp} {o : Addr} {u v : HO} (e : Sees (Hm hd H) (Hm hd' (upd H o u))) (hm : c.mu o = false) (hv : H o = some v) (hx : ext v = false) (b : c.B hd H) : c.B hd' (upd H o u) := c.stab hd hd' H _ e (fun a x h q => by
  rw [upd_ne (fun z => by
    subst z
    rcases h with h | h
    · rw [hm] at h; cases h
    · rw [hv] at q
      cases q
      rw [hx] at h; cases h)]
  exact q) b
theorem Cn.put (c : Cn) {hd : Addr → Bool} {H : Hp} {o : Addr} {u v : HO} (ho : hd o = true) (hm : c.mu o = false) (hv : H o = some v) (hx : ext v = false) (b : c.B hd H) : c.B hd (upd H o u) := c.putS (by rw [hm_upd ho]; exact Sees.refl) hm hv hx b
theorem Cn.unhide (c : Cn) {hd hd' : Addr → Bool} {H : Hp} (h : ∀ a, hd a = true → hd' a = true) (b : c.B hd' H) : c.B hd H := c.stab hd' hd H H (sees_hide h) (fun _ _ _ q => q) b
abbrev Cn.pure (K : PySem.W.Frag) : Cn := ⟨K, none0, fun _ _ => True, fun _ _ _ _ _ _ _ => trivial⟩
inductive Sl where
  | un | im (d : Dt) | ac (ds : List Dt) | ak (kvs : List (Key × Dt)) | aT (kvs : List (List Key × Dt)) | rw (v : V) | iK (kvs : List (Key × Dt)) | dl (o : Addr) (kvs : List (Key × Dt))
def SlOk (c : Cn) (hd : Addr → Bool) (H : Hp) : Option V → Sl → Prop
  | _, .un => True
  | some v, .im d => Rp c.K (Hm hd H) v d
  | some (.ref o), .ac ds => hd o = true ∧ c.mu o = false ∧ ∃ vs, H o = some (.lst vs) ∧ RpAll c.K (Hm hd H) vs ds
  | some (.ref o), .ak ds => hd o = true ∧ c.mu o = false ∧ ∃ vs, H o = some (.dK vs) ∧ RpK c.K (Hm hd H) vs ds
  | some (.ref o), .aT ds => hd o = true ∧ c.mu o = false ∧ ∃ vs, H o = some (.dT vs) ∧ RpT c.K (Hm hd H) vs ds
  | some v, .rw u => v = u
  | some (.ref o), .iK ds => hd o = false ∧ c.mu o = false ∧ ∃ vs, H o = some (.dK vs) ∧ RpK c.K (Hm hd H) vs ds
  | some v, .dl o ds => v = .ref o ∧ Rp c.K (Hm hd H) (.ref o) (.dk ds)
  | _, _ => False
def owns : Sl → Bool
  | .ac _ => true
  | .ak _ => true
  | .aT _ => true
  | _ => false
inductive SlAll (c : Cn) (hd : Addr → Bool) (H : Hp) : List (Option V) → List Sl → Prop
  | nil : SlAll c hd H [] []
  | cons {o : Option V} {os : List (Option V)} {s : Sl} {ss : List Sl} : SlOk c hd H o s → SlAll c hd H os ss → SlAll c hd H (o :: os) (s :: ss)
structure SV (c : Cn) (hd : Addr → Bool) (H : Hp) (σ : L2.St) (ρ : List Sl) : Prop where
  dom : ∀ a, hd a = true → H a ≠ none
  muh : ∀ a, c.mu a = true → hd a = true
  inv : c.B hd H
  slots : SlAll c hd H σ ρ
def ownAt (σ : L2.St) (ρ : List Sl) (i : Nat) (o : Addr) : Prop := σ[i]? = some (some (.ref o)) ∧ ∃ s, ρ[i]? = some s ∧ owns s = true
structure SD (c : Cn) (hid hd : Addr → Bool) (H0 H : Hp) (σ : L2.St) (ρ : List Sl) : Prop extends SV c hd H σ ρ where
  sub : ∀ a, hid a = true → hd a = true
  ext : Ex c.mu H0 H
  new : ∀ a, hd a = true → hid a = false → H0 a = none
  own : ∀ i j o, ownAt σ ρ i o → ownAt σ ρ j o → i = j
  ownh : ∀ i o, ownAt σ ρ i o → hid o = false
def hide (hd : Addr → Bool) (o : Addr) : Addr → Bool := fun a => hd a || decide (a = o)
theorem hide_self {hd : Addr → Bool} {o : Addr} : hide hd o o = true := by unfold hide; rw [decide_eq_true rfl, Bool.or_true]
theorem hide_of {hd : Addr → Bool} {o a : Addr} (h : hd a = true) : hide hd o a = true := by unfold hide; rw [h, Bool.true_or]
theorem hide_ne {hd : Addr → Bool} {o a : Addr} (h : a ≠ o) : hide hd o a = hd a := by unfold hide; rw [decide_eq_false h, Bool.or_false]
theorem hide_inv {hd : Addr → Bool} {o a : Addr} (h : hide hd o a = true) : hd a = true ∨ a = o := by
  by_cases q : a = o
  · exact .inr q
  · rw [hide_ne q] at h; exact .inl h
section
variable {c : Cn} {hid hd hd' : Addr → Bool} {H0 H H' : Hp} {σ : L2.St} {ρ : List Sl}
theorem SlAll.get : ∀ {σ : L2.St} {ρ : List Sl} {i : Nat} {s : Sl}, SlAll c hd H σ ρ → ρ[i]? = some s → ∃ o, σ[i]? = some o ∧ SlOk c hd H o s
  | _, _, 0, _, .cons h _, e => ⟨_, rfl, by rw [show _ = _ from Option.some.inj e] at h; exact h⟩
  | _, _, i + 1, _, .cons _ t, e => SlAll.get (i := i) t e
theorem SlAll.set {o : Option V} {s : Sl} (h : SlOk c hd H o s) : ∀ {σ : L2.St} {ρ : List Sl} (i : Nat), SlAll c hd H σ ρ → SlAll c hd H (σ.set i o) (ρ.set i s)
  | _, _, _, .nil => .nil
  | _, _, 0, .cons _ t => .cons h t
  | _, _, n + 1, .cons q t => .cons q (SlAll.set h n t)
theorem SlAll.imp (h : ∀ o s, SlOk c hd H o s → SlOk c hd' H' o s) : ∀ {σ : L2.St} {ρ : List Sl}, SlAll c hd H σ ρ → SlAll c hd' H' σ ρ
  | _, _, .nil => .nil
  | _, _, .cons q t => .cons (h _ _ q) (SlAll.imp h t)
theorem SlOk.mono (e : Sees (Hm hd H) (Hm hd' H')) (hs : ∀ a, hd a = true → hd' a = true) (hn : ∀ a, hd a = false → H a ≠ none → hd' a = false) (ho : ∀ a o, c.mu a = false → H a = some o → H' a = some o) (o : Option V) (s : Sl) (h : SlOk c hd H o s) : SlOk c hd' H' o s := by
  cases s with
  | un => unfold SlOk; split <;> trivial
  | im d =>
    cases o with
    | none => exact h.elim
    | some v => exact Rp.mono e h
  | rw u =>
    cases o with
    | none => exact h.elim
    | some v => exact h
  | dl q ds =>
    cases o with
    | none => exact h.elim
    | some v => exact ⟨h.1, Rp.mono e h.2⟩
  | ac ds =>
    cases o with
    | none => exact h.elim
    | some v =>
      cases v with
      | ref q =>
        obtain ⟨h1, h2, vs, h3, h4⟩ := h
        exact ⟨hs q h1, h2, vs, ho q _ h2 h3, RpAll.mono e h4⟩
      | _ => exact h.elim
  | ak ds =>
    cases o with
    | none => exact h.elim
    | some v =>
      cases v with
      | ref q =>
        obtain ⟨h1, h2, vs, h3, h4⟩ := h
        exact ⟨hs q h1, h2, vs, ho q _ h2 h3, RpK.mono e h4⟩
      | _ => exact h.elim
  | aT ds =>
    cases o with
    | none => exact h.elim
    | some v =>
      cases v with
      | ref q =>
        obtain ⟨h1, h2, vs, h3, h4⟩ := h
        exact ⟨hs q h1, h2, vs, ho q _ h2 h3, RpT.mono e h4⟩
      | _ => exact h.elim
  | iK ds =>
    cases o with
    | none => exact h.elim
    | some v =>
      cases v with
      | ref q =>
        obtain ⟨h1, h2, vs, h3, h4⟩ := h
        exact ⟨hn q h1 (by rw [h3]; exact fun z => nomatch z), h2, vs, ho q _ h2 h3, RpK.mono e h4⟩
      | _ => exact h.elim
end
end CC
namespace CC
open PySem PySem.Spec PyProof.Rows L2
section
variable {c : Cn} {hid hd hd' : Addr → Bool} {H0 H H' : Hp} {σ : L2.St} {ρ : List Sl}
theorem Ex.up (e : Ex none0 H H') : Ex c.mu H H' := e.weak (fun _ h => nomatch h)
theorem Cn.keep0 (e : Ex none0 H H') (b : c.B hd H) : c.B hd H' := c.stab hd hd H H' (e.sees fun _ h => nomatch h) (fun a o _ h => e.keep a o rfl h) b
theorem SV.go (v : SV c hd H σ ρ) (e : Ex c.mu H H') (b : c.B hd H') : SV c hd H' σ ρ :=
  ⟨fun a h => e.dom a (v.dom a h), v.muh, b, v.slots.imp (SlOk.mono (e.sees v.muh) (fun _ h => h) (fun _ h _ => h) (fun a o hm h => e.keep a o hm h))⟩
theorem SV.go0 (v : SV c hd H σ ρ) (e : Ex none0 H H') : SV c hd H' σ ρ := v.go e.up (c.keep0 e v.inv)
theorem sees_new {mu : Addr → Bool} {o : Addr} (e : Ex mu H H') (hm : ∀ a, mu a = true → hd a = true) (ho : H o = none) : Sees (Hm hd H) (Hm (hide hd o) H') := fun a u h => by
  have h1 := hm_not h
  have h2 := hm_le h
  have na : a ≠ o := ne_of_none h2 ho
  refine ⟨u, ?_, .rfl⟩
  rw [hm_of (by rw [hide_ne na]; exact h1)]
  exact e.keep a u (by
    cases q : mu a with
    | false => rfl
    | true => rw [hm a q] at h1; cases h1) h2
theorem Cn.keepN {o : Addr} (e : Ex none0 H H') (ho : H o = none) (b : c.B hd H) : c.B (hide hd o) H' := c.stab hd _ H H' (sees_new e (fun _ h => nomatch h) ho) (fun a x _ h => e.keep a x rfl h) b
theorem SV.hide (v : SV c hd H σ ρ) {o : Addr} (e : Ex c.mu H H') (b : c.B (hide hd o) H') (ho : H o = none) (h' : H' o ≠ none) : SV c (hide hd o) H' σ ρ :=
  ⟨fun a h => by
    rcases hide_inv h with h | h
    · exact e.dom a (v.dom a h)
    · subst h; exact h', fun a h => hide_of (v.muh a h), b, v.slots.imp (SlOk.mono (sees_new e v.muh ho) (fun _ h => hide_of h) (fun a h hn => by rw [hide_ne (fun z => by subst z; exact hn ho)]; exact h) (fun a o hm h => e.keep a o hm h))⟩
theorem SV.set (v : SV c hd H σ ρ) {o : Option V} {s : Sl} (i : Nat) (h : SlOk c hd H o s) : SV c hd H (σ.set i o) (ρ.set i s) := ⟨v.dom, v.muh, v.inv, v.slots.set h i⟩
theorem fresh_hd (dom : ∀ a, hd a = true → H a ≠ none) {p : Addr} (h : H p = none) : hd p = false := by
  cases q : hd p with
  | false => rfl
  | true => exact absurd h (dom p q)
end
def Kv (c : Cn) (hd : Addr → Bool) (H : Hp) (Q : Dt → Prop) (Qh : VK) : Prop := ∀ d v H', Q d → Ex c.mu H H' → c.B hd H' → Rp c.K (Hm hd H') v d → Qh v H'
def Kn (c : Cn) (hd : Addr → Bool) (H : Hp) (Q : List Dt → Prop) (Qh : VK) : Prop := ∀ ds o vs H', Q ds → Ex c.mu H H' → c.B (hide hd o) H' → H o = none → H' o = some (.lst vs) → RpAll c.K (Hm (hide hd o) H') vs ds → Qh (.ref o) H'
def EV (c : Cn) (te : TE) (ρ : List Sl) (Q : Dt → Prop) : Prop := ∀ hd H σ, SV c hd H σ ρ → ∀ Qh : VK, Kv c hd H Q Qh → te σ H Qh
def EN (c : Cn) (te : TE) (ρ : List Sl) (Q : List Dt → Prop) : Prop := ∀ hd H σ, SV c hd H σ ρ → ∀ Qh : VK, Kn c hd H Q Qh → te σ H Qh
def EVT (c : Cn) (tt : TT) (ρ : List Sl) (Q : Bool → Prop) : Prop := ∀ hd H σ, SV c hd H σ ρ → ∀ Qh : Bool → Hp → Prop, (∀ b H', Q b → Ex c.mu H H' → c.B hd H' → Qh b H') → tt σ H Qh
def EVA (c : Cn) (ta : TA) (ρ : List Sl) (Q : List Dt → Prop) : Prop := ∀ hd H σ, SV c hd H σ ρ → ∀ Qh : List V → Hp → Prop, (∀ ds vs H', Q ds → Ex c.mu H H' → c.B hd H' → RpAll c.K (Hm hd H') vs ds → Qh vs H') → ta σ H Qh
def EVO (c : Cn) (to : TO) (ρ : List Sl) (Q : Option Int → Prop) : Prop := ∀ hd H σ, SV c hd H σ ρ → ∀ Qh : Option Int → Hp → Prop, (∀ o H', Q o → Ex c.mu H H' → c.B hd H' → Qh o H') → to σ H Qh
def R2J (c : Cn) (r : R2) (d1 d2 : Dt) (Q : Dt → Prop) : Prop := ∀ hd H x y, (∀ a, hd a = true → H a ≠ none) → (∀ a, c.mu a = true → hd a = true) → c.B hd H → Rp c.K (Hm hd H) x d1 → Rp c.K (Hm hd H) y d2 → ∀ Qh : VK, Kv c hd H Q Qh → r x y H Qh
def R2N (c : Cn) (r : R2) (d1 d2 : Dt) (Q : List Dt → Prop) : Prop := ∀ hd H x y, (∀ a, hd a = true → H a ≠ none) → (∀ a, c.mu a = true → hd a = true) → c.B hd H → Rp c.K (Hm hd H) x d1 → Rp c.K (Hm hd H) y d2 → ∀ Qh : VK, Kn c hd H Q Qh → r x y H Qh
def RCJ (c : Cn) (r : List V → Hp → VK → Prop) (ds : List Dt) (Q : Dt → Prop) : Prop := ∀ hd H vs, (∀ a, hd a = true → H a ≠ none) → (∀ a, c.mu a = true → hd a = true) → c.B hd H → RpAll c.K (Hm hd H) vs ds → ∀ Qh : VK, Kv c hd H Q Qh → r vs H Qh
def RCN (c : Cn) (r : List V → Hp → VK → Prop) (ds : List Dt) (Q : List Dt → Prop) : Prop := ∀ hd H vs, (∀ a, hd a = true → H a ≠ none) → (∀ a, c.mu a = true → hd a = true) → c.B hd H → RpAll c.K (Hm hd H) vs ds → ∀ Qh : VK, Kn c hd H Q Qh → r vs H Qh
section
variable {c : Cn} {ρ : List Sl} {ta tb te tx : TE} {t u : TT} {Q : Dt → Prop}
theorem EV.imp {Q' : Dt → Prop} (h : EV c te ρ Q) (k : ∀ d, Q d → Q' d) : EV c te ρ Q' := fun hd H σ v Qh q => h hd H σ v Qh fun d x H' hq => q d x H' (k d hq)
theorem EN.imp {Q Q' : List Dt → Prop} (h : EN c te ρ Q) (k : ∀ d, Q d → Q' d) : EN c te ρ Q' := fun hd H σ v Qh q => h hd H σ v Qh fun d o vs H' hq => q d o vs H' (k d hq)
theorem EVT.imp {Q Q' : Bool → Prop} (h : EVT c t ρ Q) (k : ∀ d, Q d → Q' d) : EVT c t ρ Q' := fun hd H σ v Qh q => h hd H σ v Qh fun b H' hq => q b H' (k b hq)
theorem kn_kv {hd : Addr → Bool} {H : Hp} {Q : Dt → Prop} {Qh : VK} (dom : ∀ a, hd a = true → H a ≠ none) (q : Kv c hd H Q Qh) : Kn c hd H (fun ds => Q (.lst ds)) Qh := fun ds o vs H' hq e b ho h1 h2 =>
  q (.lst ds) (.ref o) H' hq e (c.unhide (fun _ h => hide_of h) b) (.lst (by rw [hm_of (fresh_hd dom ho)]; exact h1) (h2.mono (sees_hide fun _ h => hide_of h)))
theorem EN.ev (h : EN c te ρ fun ds => Q (.lst ds)) : EV c te ρ Q := fun hd H σ v Qh q => h hd H σ v Qh (kn_kv v.dom q)
theorem R2N.j {r : R2} {d1 d2 : Dt} (h : R2N c r d1 d2 fun ds => Q (.lst ds)) : R2J c r d1 d2 Q := fun hd H x y dom mh b hx hy Qh q => h hd H x y dom mh b hx hy Qh (kn_kv dom q)
theorem RCN.j {r : List V → Hp → VK → Prop} {ds : List Dt} (h : RCN c r ds fun ds => Q (.lst ds)) : RCJ c r ds Q := fun hd H vs dom mh b hv Qh q => h hd H vs dom mh b hv Qh (kn_kv dom q)
theorem ev_var {i : Nat} {d : Dt} (h : ρ[i]? = some (.im d)) (k : Q d) : EV c (tVar i) ρ Q := fun hd H σ v Qh q => by
  obtain ⟨o, h1, h2⟩ := v.slots.get h
  cases o with
  | none => exact h2.elim
  | some x => exact ⟨x, h1, q d x H k .refl v.inv h2⟩
theorem ev_int {i : Int} (k : Q (.int i)) : EV c (tC (.int i)) ρ Q := fun hd H σ v Qh q => q _ _ H k .refl v.inv (.int i)
theorem ev_str {i : Str} (k : Q (.str i)) : EV c (tC (.str i)) ρ Q := fun hd H σ v Qh q => q _ _ H k .refl v.inv (.str i)
theorem ev_bl {i : Bool} (k : Q (.bl i)) : EV c (tC (.bl i)) ρ Q := fun hd H σ v Qh q => q _ _ H k .refl v.inv (.bl i)
theorem ev_non (k : Q .non) : EV c (tC .non) ρ Q := fun hd H σ v Qh q => q _ _ H k .refl v.inv .non
theorem ev_op {r : R2} (h : EV c ta ρ fun d1 => EV c tb ρ fun d2 => R2J c r d1 d2 Q) : EV c (tOp r ta tb) ρ Q := fun hd H σ v Qh q =>
  h hd H σ v _ fun d1 x H1 h1 e1 b1 r1 => h1 hd H1 σ (v.go e1 b1) _ fun d2 y H2 h2 e2 b2 r2 =>
    h2 hd H2 x y (fun a h => e2.dom a (e1.dom a (v.dom a h))) v.muh b2 (r1.mono (e2.sees v.muh)) r2 Qh fun d z H3 hq e3 => q d z H3 hq ((e1.trans e2).trans e3)
theorem en_op {r : R2} {Q : List Dt → Prop} (h : EV c ta ρ fun d1 => EV c tb ρ fun d2 => R2N c r d1 d2 Q) : EN c (tOp r ta tb) ρ Q := fun hd H σ v Qh q =>
  h hd H σ v _ fun d1 x H1 h1 e1 b1 r1 => h1 hd H1 σ (v.go e1 b1) _ fun d2 y H2 h2 e2 b2 r2 =>
    h2 hd H2 x y (fun a h => e2.dom a (e1.dom a (v.dom a h))) v.muh b2 (r1.mono (e2.sees v.muh)) r2 Qh fun ds o vs H3 hq e3 b3 ho => q ds o vs H3 hq ((e1.trans e2).trans e3) b3 ((e1.trans e2).fresh ho)
theorem ev_if (h : EVT c t ρ fun b => (b = true → EV c ta ρ Q) ∧ (b = false → EV c tb ρ Q)) : EV c (tIf t ta tb) ρ Q := fun hd H σ v Qh q =>
  h hd H σ v _ fun b H1 h1 e1 b1 => by
    cases b with
    | true =>
      show ta σ H1 Qh
      exact h1.1 rfl hd H1 σ (v.go e1 b1) Qh fun d z H3 hq e3 => q d z H3 hq (e1.trans e3)
    | false =>
      show tb σ H1 Qh
      exact h1.2 rfl hd H1 σ (v.go e1 b1) Qh fun d z H3 hq e3 => q d z H3 hq (e1.trans e3)
def BlJ (Q : Bool → Prop) : Dt → Prop
  | .bl b => Q b
  | _ => False
theorem rp_bl {K : PySem.W.Frag} {G : Hp} {x : V} {b : Bool} (h : Rp K G x (.bl b)) : x = .bl b := by cases h; rfl
theorem rp_int {K : PySem.W.Frag} {G : Hp} {x : V} {b : Int} (h : Rp K G x (.int b)) : x = .int b := by cases h; rfl
theorem et_test {Q : Bool → Prop} (h : EV c te ρ (BlJ Q)) : EVT c (tTest te) ρ Q := fun hd H σ v Qh q => h hd H σ v _ fun d x H1 h1 e1 b1 r1 => by
  cases d with
  | bl b => exact ⟨b, rp_bl r1, q b H1 h1 e1 b1⟩
  | _ => exact h1.elim
theorem et_B {Q : Bool → Prop} (h : EV c te ρ (BlJ Q)) : EVT c (tB te) ρ Q := fun hd H σ v Qh q => h hd H σ v _ fun d x H1 h1 e1 b1 r1 => by
  cases d with
  | bl b => exact ⟨b, rp_bl r1, q b H1 h1 e1 b1⟩
  | _ => exact h1.elim
theorem et_and {Q : Bool → Prop} (h : EVT c t ρ fun a => (a = true → EVT c u ρ Q) ∧ (a = false → Q false)) : EVT c (tAnd t u) ρ Q := fun hd H σ v Qh q => h hd H σ v _ fun b H1 h1 e1 b1 => by
  cases b with
  | true =>
    show u σ H1 Qh
    exact h1.1 rfl hd H1 σ (v.go e1 b1) Qh fun b H2 hq e2 => q b H2 hq (e1.trans e2)
  | false => exact q false H1 (h1.2 rfl) e1 b1
theorem et_or {Q : Bool → Prop} (h : EVT c t ρ fun a => (a = false → EVT c u ρ Q) ∧ (a = true → Q true)) : EVT c (tOr t u) ρ Q := fun hd H σ v Qh q => h hd H σ v _ fun b H1 h1 e1 b1 => by
  cases b with
  | false =>
    show u σ H1 Qh
    exact h1.1 rfl hd H1 σ (v.go e1 b1) Qh fun b H2 hq e2 => q b H2 hq (e1.trans e2)
  | true => exact q true H1 (h1.2 rfl) e1 b1
theorem et_not {Q : Bool → Prop} (h : EVT c t ρ fun a => Q (!a)) : EVT c (tNot t) ρ Q := fun hd H σ v Qh q => h hd H σ v _ fun b H1 h1 e1 b1 => q _ H1 h1 e1 b1
theorem ev_andV (h : EV c ta ρ (BlJ fun a => (a = true → EV c tb ρ Q) ∧ (a = false → Q (.bl false)))) : EV c (tAndV ta tb) ρ Q := fun hd H σ v Qh q => h hd H σ v _ fun d x H1 h1 e1 b1 r1 => by
  cases d with
  | bl b =>
    refine ⟨b, rp_bl r1, ?_⟩
    cases b with
    | true =>
      show tb σ H1 Qh
      exact h1.1 rfl hd H1 σ (v.go e1 b1) Qh fun d z H2 hq e2 => q d z H2 hq (e1.trans e2)
    | false => exact q _ _ H1 (h1.2 rfl) e1 b1 (.bl false)
  | _ => exact h1.elim
theorem ev_orV (h : EV c ta ρ (BlJ fun a => (a = false → EV c tb ρ Q) ∧ (a = true → Q (.bl true)))) : EV c (tOrV ta tb) ρ Q := fun hd H σ v Qh q => h hd H σ v _ fun d x H1 h1 e1 b1 r1 => by
  cases d with
  | bl b =>
    refine ⟨b, rp_bl r1, ?_⟩
    cases b with
    | false =>
      show tb σ H1 Qh
      exact h1.1 rfl hd H1 σ (v.go e1 b1) Qh fun d z H2 hq e2 => q d z H2 hq (e1.trans e2)
    | true => exact q _ _ H1 (h1.2 rfl) e1 b1 (.bl true)
  | _ => exact h1.elim
theorem ev_notV (h : EV c ta ρ (BlJ fun a => Q (.bl (!a)))) : EV c (tNotV ta) ρ Q := fun hd H σ v Qh q => h hd H σ v _ fun d x H1 h1 e1 b1 r1 => by
  cases d with
  | bl b => exact ⟨b, rp_bl r1, q _ _ H1 h1 e1 b1 (.bl _)⟩
  | _ => exact h1.elim
theorem ev_chain {r r' : R2} (h : EV c ta ρ fun d1 => EV c tb ρ fun d2 => R2J c r d1 d2 (BlJ fun k => (k = true → EV c te ρ fun d3 => R2J c r' d2 d3 Q) ∧ (k = false → Q (.bl false)))) : EV c (tChain r r' ta tb te) ρ Q := fun hd H σ v Qh q =>
  h hd H σ v _ fun d1 x H1 h1 e1 b1 r1 => h1 hd H1 σ (v.go e1 b1) _ fun d2 y H2 h2 e2 b2 r2 => by
    refine h2 hd H2 x y (fun a h => e2.dom a (e1.dom a (v.dom a h))) v.muh b2 (r1.mono (e2.sees v.muh)) r2 _ fun d z H3 hq e3 b3 r3 => ?_
    cases d with
    | bl k =>
      refine ⟨k, rp_bl r3, ?_⟩
      have e13 := (e1.trans e2).trans e3
      cases k with
      | true =>
        show te σ H3 _
        exact hq.1 rfl hd H3 σ (v.go e13 b3) _ fun d3 w' H4 h4 e4 b4 r4 => h4 hd H4 y w' (fun a h => e4.dom a (e13.dom a (v.dom a h))) v.muh b4 ((r2.mono (e3.sees v.muh)).mono (e4.sees v.muh)) r4 Qh fun d z H5 hq e5 => q d z H5 hq ((e13.trans e4).trans e5)
      | false => exact q _ _ H3 (hq.2 rfl) e13 b3 (.bl false)
    | _ => exact hq.elim
theorem ea_nil {Q : List Dt → Prop} (k : Q []) : EVA c tNil ρ Q := fun hd H σ v Qh q => q [] [] H k .refl v.inv .nil
theorem ea_cons {Q : List Dt → Prop} {tr : TA} (h : EV c ta ρ fun d => EVA c tr ρ fun ds => Q (d :: ds)) : EVA c (tCons ta tr) ρ Q := fun hd H σ v Qh q =>
  h hd H σ v _ fun d x H1 h1 e1 b1 r1 => h1 hd H1 σ (v.go e1 b1) _ fun ds vs H2 h2 e2 b2 r2 => q (d :: ds) (x :: vs) H2 h2 (e1.trans e2) b2 (.cons (r1.mono (e2.sees v.muh)) r2)
theorem en_lst {Q : List Dt → Prop} {ta : TA} (h : EVA c ta ρ fun ds => ds.length ≤ 100000 ∧ Q ds) : EN c (tLst ta) ρ Q := fun hd H σ v Qh q =>
  h hd H σ v _ fun ds vs H1 h1 e1 b1 r1 => ⟨by rw [r1.length]; exact Evl.sz_of h1.1, fun p hp => q ds p vs (upd H1 p (.lst vs)) h1.2 (e1.trans (.new hp)) (c.keepN (.new hp) hp b1) (e1.fresh hp) upd_same
    (r1.mono (sees_new (.new hp (mu := none0)) (fun _ h => nomatch h) hp))⟩
theorem ev_tup {ta : TA} (h : EVA c ta ρ fun ds => ds.length ≤ 100000 ∧ Q (.tup ds)) : EV c (tTup ta) ρ Q := fun hd H σ v Qh q =>
  h hd H σ v _ fun ds vs H1 h1 e1 b1 r1 => ⟨by rw [r1.length]; exact Evl.sz_of h1.1, fun p hp => by
    have dom1 : ∀ a, hd a = true → H1 a ≠ none := fun a h => e1.dom a (v.dom a h)
    refine q (.tup ds) (.ref p) (upd H1 p (.tup vs)) h1.2 (e1.trans (.new hp)) (c.keep0 (.new hp) b1) (.tup (xs := vs) (.inl (.inl ?_)) (r1.mono ((Ex.new hp (mu := none0)).sees (fun _ h => nomatch h))))
    rw [hm_of (fresh_hd dom1 hp), upd_same]⟩
theorem ev_cb {r : List V → Hp → VK → Prop} {ta : TA} (h : EVA c ta ρ fun ds => RCJ c r ds Q) : EV c (tCB r ta) ρ Q := fun hd H σ v Qh q =>
  h hd H σ v _ fun ds vs H1 h1 e1 b1 r1 => h1 hd H1 vs (fun a h => e1.dom a (v.dom a h)) v.muh b1 r1 Qh fun d z H2 hq e2 => q d z H2 hq (e1.trans e2)
theorem en_cb {r : List V → Hp → VK → Prop} {ta : TA} {Q : List Dt → Prop} (h : EVA c ta ρ fun ds => RCN c r ds Q) : EN c (tCB r ta) ρ Q := fun hd H σ v Qh q =>
  h hd H σ v _ fun ds vs H1 h1 e1 b1 r1 => h1 hd H1 vs (fun a h => e1.dom a (v.dom a h)) v.muh b1 r1 Qh fun ds o vs H2 hq e2 b2 ho => q ds o vs H2 hq (e1.trans e2) b2 (e1.fresh ho)
def SpJ (c : Cn) (sp : Sp) (E : XK) (ds : List Dt) (Q : Dt → Prop) : Prop := RCJ c (fun vs H Qh => sp vs H Qh E) ds Q
theorem ev_call {sp : Sp} {E : XK} {ta : TA} (h : EVA c ta ρ fun ds => SpJ c sp E ds Q) : EV c (tCall sp [] E ta) ρ Q := fun hd H σ v Qh q =>
  h hd H σ v _ fun ds vs H1 h1 e1 b1 r1 => by
    show sp (vs ++ []) H1 Qh E
    rw [List.append_nil]
    exact h1 hd H1 vs (fun a h => e1.dom a (v.dom a h)) v.muh b1 r1 Qh fun d z H2 hq e2 => q d z H2 hq (e1.trans e2)
theorem eo_none {Q : Option Int → Prop} (k : Q none) : EVO c tNoPart ρ Q := fun hd H σ v Qh q => q none H k .refl v.inv
def IntJ (Q : Int → Prop) : Dt → Prop
  | .int b => Q b
  | _ => False
theorem eo_some {Q : Option Int → Prop} (h : EV c te ρ (IntJ fun i => Q (some i))) : EVO c (tPart te) ρ Q := fun hd H σ v Qh q => h hd H σ v _ fun d x H1 h1 e1 b1 r1 => by
  cases d with
  | int i => exact ⟨i, rp_int r1, q _ H1 h1 e1 b1⟩
  | _ => exact h1.elim
end
end CC
namespace CC
open PySem PySem.Spec PyProof.Rows L2
section
variable {c : Cn} {hid hd hd' : Addr → Bool} {H0 H H' : Hp} {σ : L2.St} {ρ : List Sl}
theorem SlAll.len : ∀ {σ : L2.St} {ρ : List Sl}, SlAll c hd H σ ρ → σ.length = ρ.length
  | _, _, .nil => rfl
  | _, _, .cons _ t => congrArg (· + 1) (SlAll.len t)
theorem SlAll.of_get : ∀ {σ : L2.St} {ρ : List Sl}, σ.length = ρ.length → (∀ (i : Nat) (o : Option V) (s : Sl), σ[i]? = some o → ρ[i]? = some s → SlOk c hd H o s) → SlAll c hd H σ ρ
  | [], [], _, _ => .nil
  | o :: os, s :: ss, hl, h => .cons (h 0 o s rfl rfl) (SlAll.of_get (by simpa using hl) fun i o s h1 h2 => h (i + 1) o s h1 h2)
  | [], _ :: _, hl, _ => by simp at hl
  | _ :: _, [], hl, _ => by simp at hl
theorem set_get {α : Type} {l : List α} {i k : Nat} {x y : α} (h : (l.set i x)[k]? = some y) : (k = i ∧ y = x) ∨ (k ≠ i ∧ l[k]? = some y) := by
  by_cases q : k = i
  · subst q
    by_cases hl : k < l.length
    · rw [List.getElem?_set_self hl] at h
      exact .inl ⟨rfl, (Option.some.inj h).symm⟩
    · rw [List.getElem?_eq_none (by simpa using hl)] at h
      cases h
  · rw [List.getElem?_set_ne (Ne.symm q)] at h
    exact .inr ⟨q, h⟩
theorem ownAt_set {i k : Nat} {o : Addr} {x : Option V} {s : Sl} (h : ownAt (σ.set i x) (ρ.set i s) k o) : (k = i ∧ x = some (.ref o) ∧ owns s = true) ∨ (k ≠ i ∧ ownAt σ ρ k o) := by
  obtain ⟨h1, s', h2, h3⟩ := h
  rcases set_get h1 with ⟨q, e⟩ | ⟨q, e⟩
  · rcases set_get h2 with ⟨_, e2⟩ | ⟨q2, _⟩
    · exact .inl ⟨q, e.symm, by rw [← e2]; exact h3⟩
    · exact absurd q q2
  · rcases set_get h2 with ⟨q2, _⟩ | ⟨_, e2⟩
    · exact absurd q2 q
    · exact .inr ⟨q, e, s', e2, h3⟩
theorem SD.go (s : SD c hid hd H0 H σ ρ) (e : Ex c.mu H H') (b : c.B hd H') : SD c hid hd H0 H' σ ρ := ⟨s.toSV.go e b, s.sub, s.ext.trans e, s.new, s.own, s.ownh⟩
theorem SD.setIm (s : SD c hid hd H0 H σ ρ) {i : Nat} {v : V} {d : Dt} (h : Rp c.K (Hm hd H) v d) : SD c hid hd H0 H (σ.set i (some v)) (ρ.set i (.im d)) :=
  ⟨s.toSV.set i h, s.sub, s.ext, s.new, fun a b o h1 h2 => by
    rcases ownAt_set h1 with ⟨_, _, z⟩ | ⟨_, h1⟩
    · cases z
    · rcases ownAt_set h2 with ⟨_, _, z⟩ | ⟨_, h2⟩
      · cases z
      · exact s.own a b o h1 h2, fun a o h1 => by
    rcases ownAt_set h1 with ⟨_, _, z⟩ | ⟨_, h1⟩
    · cases z
    · exact s.ownh a o h1⟩
theorem ownAt_dom (s : SlAll c hd H σ ρ) {i : Nat} {o : Addr} (h : ownAt σ ρ i o) : hd o = true ∧ c.mu o = false ∧ H o ≠ none := by
  obtain ⟨h1, sl, h2, h3⟩ := h
  obtain ⟨o', h4, h5⟩ := s.get h2
  rw [h1] at h4
  cases h4
  cases sl with
  | ac ds => obtain ⟨a1, a2, vs, a3, _⟩ := h5; exact ⟨a1, a2, by rw [a3]; exact fun z => nomatch z⟩
  | ak ds => obtain ⟨a1, a2, vs, a3, _⟩ := h5; exact ⟨a1, a2, by rw [a3]; exact fun z => nomatch z⟩
  | aT ds => obtain ⟨a1, a2, vs, a3, _⟩ := h5; exact ⟨a1, a2, by rw [a3]; exact fun z => nomatch z⟩
  | _ => cases h3
theorem SD.setNew (s : SD c hid hd H0 H σ ρ) {o : Addr} (e : Ex c.mu H H') (b : c.B (hide hd o) H') {i : Nat} {sl : Sl} (ho : H o = none) (h1 : H' o ≠ none) (h : SlOk c (hide hd o) H' (some (.ref o)) sl) :
    SD c hid (hide hd o) H0 H' (σ.set i (some (.ref o))) (ρ.set i sl) := by
  have no : ∀ k, ¬ ownAt σ ρ k o := fun k q => (ownAt_dom s.slots q).2.2 ho
  have nh : hid o = false := by
    cases q : hid o with
    | false => rfl
    | true => exact absurd ho (s.dom o (s.sub o q))
  refine ⟨(s.toSV.hide e b ho h1).set i h, fun a z => hide_of (s.sub a z), s.ext.trans e, fun a z hz => ?_, fun a b u z1 z2 => ?_, fun a u z1 => ?_⟩
  · rcases hide_inv z with z | z
    · exact s.new a z hz
    · subst z; exact s.ext.fresh ho
  · rcases ownAt_set z1 with ⟨q1, e1, _⟩ | ⟨q1, z1⟩
    · rcases ownAt_set z2 with ⟨q2, _, _⟩ | ⟨q2, z2⟩
      · rw [q1, q2]
      · cases e1; exact absurd z2 (no b)
    · rcases ownAt_set z2 with ⟨q2, e2, _⟩ | ⟨q2, z2⟩
      · cases e2; exact absurd z1 (no a)
      · exact s.own a b u z1 z2
  · rcases ownAt_set z1 with ⟨_, e1, _⟩ | ⟨_, z1⟩
    · cases e1; exact nh
    · exact s.ownh a u z1
theorem SlOk.ne {o : Option V} {sl : Sl} {p : Addr} {u : HO} (hp : hd p = true) (hn : ∀ q, o = some (.ref q) → owns sl = true → q ≠ p) : SlOk c hd H o sl → SlOk c hd (upd H p u) o sl := by
  intro h
  have eh : Hm hd (upd H p u) = Hm hd H := hm_upd hp
  cases sl with
  | un => unfold SlOk; split <;> trivial
  | im d =>
    cases o with
    | none => exact h.elim
    | some v => show Rp c.K (Hm hd (upd H p u)) v d; rw [eh]; exact h
  | rw v =>
    cases o with
    | none => exact h.elim
    | some v => exact h
  | dl q ds =>
    cases o with
    | none => exact h.elim
    | some v =>
      refine ⟨h.1, ?_⟩
      show Rp c.K (Hm hd (upd H p u)) (.ref q) (.dk ds)
      rw [eh]
      exact h.2
  | iK ds =>
    cases o with
    | none => exact h.elim
    | some v =>
      cases v with
      | ref q =>
        obtain ⟨a1, a2, vs, a3, a4⟩ := h
        exact ⟨a1, a2, vs, by rw [upd_ne (fun z => by subst z; rw [hp] at a1; cases a1)]; exact a3, by rw [eh]; exact a4⟩
      | _ => exact h.elim
  | ac ds =>
    cases o with
    | none => exact h.elim
    | some v =>
      cases v with
      | ref q =>
        obtain ⟨a1, a2, vs, a3, a4⟩ := h
        exact ⟨a1, a2, vs, by rw [upd_ne (hn q rfl rfl)]; exact a3, by rw [eh]; exact a4⟩
      | _ => exact h.elim
  | ak ds =>
    cases o with
    | none => exact h.elim
    | some v =>
      cases v with
      | ref q =>
        obtain ⟨a1, a2, vs, a3, a4⟩ := h
        exact ⟨a1, a2, vs, by rw [upd_ne (hn q rfl rfl)]; exact a3, by rw [eh]; exact a4⟩
      | _ => exact h.elim
  | aT ds =>
    cases o with
    | none => exact h.elim
    | some v =>
      cases v with
      | ref q =>
        obtain ⟨a1, a2, vs, a3, a4⟩ := h
        exact ⟨a1, a2, vs, by rw [upd_ne (hn q rfl rfl)]; exact a3, by rw [eh]; exact a4⟩
      | _ => exact h.elim
theorem SD.share (s : SD c hid hd H0 H σ ρ) {i : Nat} {sl sl' : Sl} (hi : ρ[i]? = some sl) (hs : owns sl = true) (no : owns sl' = false)
    (h : ∀ (o : Addr) (hd' : Addr → Bool), (∀ a, hd' a = true → hd a = true) → hd' o = false → SlOk c hd H (some (.ref o)) sl → SlOk c hd' H (some (.ref o)) sl') : ∃ hd', SD c hid hd' H0 H σ (ρ.set i sl') := by
  obtain ⟨x, g1, g2⟩ := s.slots.get hi
  obtain ⟨o, rfl⟩ : ∃ o, x = some (.ref o) := by
    cases x with
    | none => cases sl <;> first | exact g2.elim | cases hs
    | some v => cases v <;> cases sl <;> first | exact ⟨_, rfl⟩ | exact g2.elim | cases hs
  have ho : ownAt σ ρ i o := ⟨g1, sl, hi, hs⟩
  obtain ⟨hh, hmu, hdom⟩ := ownAt_dom s.slots ho
  have nh := s.ownh i o ho
  let hd' : Addr → Bool := fun a => hd a && !decide (a = o)
  have le : ∀ a, hd' a = true → hd a = true := fun a q => (Bool.and_eq_true_iff.mp q).1
  have ho' : hd' o = false := by show (hd o && !decide (o = o)) = false; rw [decide_eq_true rfl]; simp
  have ne : ∀ a, a ≠ o → hd a = true → hd' a = true := fun a q z => by show (hd a && !decide (a = o)) = true; rw [z, decide_eq_false q]; rfl
  have key : ∀ k p, ownAt σ (ρ.set i sl') k p → k ≠ i ∧ ownAt σ ρ k p := fun k p q => by
    obtain ⟨q1, s', q2, q3⟩ := q
    rcases set_get q2 with ⟨rfl, e⟩ | ⟨z, e⟩
    · rw [e, no] at q3; cases q3
    · exact ⟨z, q1, s', e, q3⟩
  refine ⟨hd', ⟨fun a q => s.dom a (le a q), fun a q => ne a (fun z => by subst z; rw [q] at hmu; cases hmu) (s.muh a q), (c.unhide le s.inv), SlAll.of_get ?_ fun k x s' h1 h2 => ?_⟩, fun a q => ne a (fun z => by subst z; rw [q] at nh; cases nh) (s.sub a q), s.ext, fun a q z => s.new a (le a q) z, fun a b p z1 z2 => s.own a b p (key _ _ z1).2 (key _ _ z2).2, fun a p z1 => s.ownh a p (key _ _ z1).2⟩
  · rw [List.length_set]; exact s.slots.len
  · have sees : Sees (Hm hd H) (Hm hd' H) := sees_hide le
    rcases set_get h2 with ⟨rfl, e⟩ | ⟨q, e⟩
    · rw [e]
      rw [g1] at h1
      cases h1
      exact h o hd' le ho' g2
    · obtain ⟨x', g3, g4⟩ := s.slots.get e
      rw [h1] at g3
      cases g3
      cases s' with
      | un => unfold SlOk; split <;> trivial
      | im d =>
        cases x with
        | none => exact g4.elim
        | some v => exact Rp.mono sees g4
      | rw v =>
        cases x with
        | none => exact g4.elim
        | some v => exact g4
      | dl q ds =>
        cases x with
        | none => exact g4.elim
        | some v => exact ⟨g4.1, Rp.mono sees g4.2⟩
      | iK ds =>
        cases x with
        | none => exact g4.elim
        | some v =>
          cases v with
          | ref p =>
            obtain ⟨a1, a2, vs, a3, a4⟩ := g4
            refine ⟨?_, a2, vs, a3, RpK.mono sees a4⟩
            cases q2 : hd' p with
            | false => rfl
            | true => rw [le p q2] at a1; cases a1
          | _ => exact g4.elim
      | ac ds =>
        cases x with
        | none => exact g4.elim
        | some v =>
          cases v with
          | ref p =>
            obtain ⟨a1, a2, vs, a3, a4⟩ := g4
            exact ⟨ne p (fun z => by subst z; exact q (s.own k i p ⟨h1, _, e, rfl⟩ ho)) a1, a2, vs, a3, RpAll.mono sees a4⟩
          | _ => exact g4.elim
      | ak ds =>
        cases x with
        | none => exact g4.elim
        | some v =>
          cases v with
          | ref p =>
            obtain ⟨a1, a2, vs, a3, a4⟩ := g4
            exact ⟨ne p (fun z => by subst z; exact q (s.own k i p ⟨h1, _, e, rfl⟩ ho)) a1, a2, vs, a3, RpK.mono sees a4⟩
          | _ => exact g4.elim
      | aT ds =>
        cases x with
        | none => exact g4.elim
        | some v =>
          cases v with
          | ref p =>
            obtain ⟨a1, a2, vs, a3, a4⟩ := g4
            exact ⟨ne p (fun z => by subst z; exact q (s.own k i p ⟨h1, _, e, rfl⟩ ho)) a1, a2, vs, a3, RpT.mono sees a4⟩
          | _ => exact g4.elim
inductive Le : List Sl → List Sl → Prop
  | nil : Le [] []
  | un {s : Sl} {a b : List Sl} : Le a b → Le (.un :: a) (s :: b)
  | same {s : Sl} {a b : List Sl} : Le a b → Le (s :: a) (s :: b)
theorem Le.get : ∀ {a b : List Sl}, Le a b → ∀ {i : Nat} {s : Sl}, a[i]? = some s → s = .un ∨ b[i]? = some s
  | _, _, .nil, _, _, h => .inr h
  | _, _, .un _, 0, _, h => .inl (Option.some.inj h).symm
  | _, _, .same _, 0, _, h => .inr h
  | _, _, .un t, i + 1, _, h => Le.get t (i := i) h
  | _, _, .same t, i + 1, _, h => Le.get t (i := i) h
theorem Le.len : ∀ {a b : List Sl}, Le a b → a.length = b.length
  | _, _, .nil => rfl
  | _, _, .un t => congrArg (· + 1) (Le.len t)
  | _, _, .same t => congrArg (· + 1) (Le.len t)
theorem Le.refl : ∀ {a : List Sl}, Le a a
  | [] => .nil
  | _ :: _ => .same Le.refl
theorem SD.weak {ρ' : List Sl} (s : SD c hid hd H0 H σ ρ) (l : Le ρ' ρ) : SD c hid hd H0 H σ ρ' := by
  have key : ∀ k p, ownAt σ ρ' k p → ownAt σ ρ k p := fun k p q => by
    obtain ⟨q1, s', q2, q3⟩ := q
    rcases l.get q2 with rfl | e
    · cases q3
    · exact ⟨q1, s', e, q3⟩
  refine ⟨⟨s.dom, s.muh, s.inv, SlAll.of_get (by rw [l.len]; exact s.slots.len) fun k x s' h1 h2 => ?_⟩, s.sub, s.ext, s.new, fun a b p z1 z2 => s.own a b p (key _ _ z1) (key _ _ z2), fun a p z1 => s.ownh a p (key _ _ z1)⟩
  rcases l.get h2 with rfl | e
  · unfold SlOk; split <;> trivial
  · obtain ⟨x', g1, g2⟩ := s.slots.get e
    rw [h1] at g1
    cases g1
    exact g2
end
end CC
namespace CC
open PySem PySem.Spec PyProof.Rows L2
def NJ (c : Cn) (hid : Addr → Bool) (H0 : Hp) (N : L2.St → Hp → Prop) (ρ : List Sl) : Prop := ∀ hd H σ, SD c hid hd H0 H σ ρ → N σ H
def Nx (c : Cn) (hid : Addr → Bool) (H0 : Hp) (I : List Sl → Prop) : L2.St → Hp → Prop := fun σ H => ∃ ρ hd, I ρ ∧ SD c hid hd H0 H σ ρ
def RJ (c : Cn) (hid : Addr → Bool) (H0 : Hp) (R : VK) (d : Dt) : Prop := ∀ v H', Ex c.mu H0 H' → c.B hid H' → Rp c.K (Hm hid H') v d → R v H'
def RNJ (c : Cn) (hid : Addr → Bool) (H0 : Hp) (R : VK) (ds : List Dt) : Prop := ∀ o vs H', Ex c.mu H0 H' → c.B (hide hid o) H' → H0 o = none → H' o = some (.lst vs) → RpAll c.K (Hm (hide hid o) H') vs ds → R (.ref o) H'
section
variable {c : Cn} {hid : Addr → Bool} {H0 H1 : Hp} {ρ : List Sl} {ta tb te : TE} {t u : TT} {D : Ends} {ts tz : TS} {N : L2.St → Hp → Prop} {g : TG}
theorem SD.base {hd : Addr → Bool} {H : Hp} {σ : L2.St} (e : Ex c.mu H0 H1) (s : SD c hid hd H1 H σ ρ) : SD c hid hd H0 H σ ρ := ⟨s.toSV, s.sub, e.trans s.ext, fun a h1 h2 => e.fresh (s.new a h1 h2), s.own, s.ownh⟩
theorem NJ.base (e : Ex c.mu H0 H1) (h : NJ c hid H0 N ρ) : NJ c hid H1 N ρ := fun hd H σ s => h hd H σ (s.base e)
theorem RJ.base {R : VK} {d : Dt} (e : Ex c.mu H0 H1) (h : RJ c hid H0 R d) : RJ c hid H1 R d := fun v H' e1 => h v H' (e.trans e1)
theorem RNJ.base {R : VK} {d : List Dt} (e : Ex c.mu H0 H1) (h : RNJ c hid H0 R d) : RNJ c hid H1 R d := fun o vs H' e1 b ho => h o vs H' (e.trans e1) b (e.fresh ho)
theorem nj_asg {i : Nat} (h : EV c te ρ fun d => NJ c hid H0 D.nx (ρ.set i (.im d))) : NJ c hid H0 (tAsg te (gName i) D) ρ := fun hd H σ s =>
  h hd H σ s.toSV _ fun d v H' hq e b r => hq hd H' _ ((s.go e b).setIm r)
theorem nj_asgN {i : Nat} (h : EN c te ρ fun ds => NJ c hid H0 D.nx (ρ.set i (.ac ds))) : NJ c hid H0 (tAsg te (gName i) D) ρ := fun hd H σ s =>
  h hd H σ s.toSV _ fun ds o vs H' hq e b ho h1 r => hq (hide hd o) H' _ (s.setNew e b ho (by rw [h1]; exact fun z => nomatch z) ⟨hide_self, by
    cases q : c.mu o with
    | false => rfl
    | true => exact absurd ho (s.dom o (s.muh o q)), vs, h1, r⟩)
def ETJ (c : Cn) (hid : Addr → Bool) (H0 : Hp) (t : TT) (ρ : List Sl) (Q : Bool → Prop) : Prop := ∀ hd H σ, SD c hid hd H0 H σ ρ → ∀ Qh : Bool → Hp → Prop, (∀ b H', Q b → Ex c.mu H H' → c.B hd H' → Qh b H') → t σ H Qh
theorem etj {Q : Bool → Prop} (h : EVT c t ρ Q) : ETJ c hid H0 t ρ Q := fun hd H σ s => h hd H σ s.toSV
theorem nj_if (h : ETJ c hid H0 t ρ fun b => (b = true → NJ c hid H0 (ts D) ρ) ∧ (b = false → NJ c hid H0 (tz D) ρ)) : NJ c hid H0 (tIfS t ts tz D) ρ := fun hd H σ s =>
  h hd H σ s _ fun b H' hq e hb => by
    cases b with
    | true => show ts D σ H'; exact hq.1 rfl hd H' σ (s.go e hb)
    | false => show tz D σ H'; exact hq.2 rfl hd H' σ (s.go e hb)
theorem nj_ret (h : EV c te ρ fun d => RJ c hid H0 D.rt d) : NJ c hid H0 (tRet te D) ρ := fun hd H σ s =>
  h hd H σ s.toSV _ fun d v H' hq e b r => hq v H' (s.ext.trans e) (c.unhide s.sub b) (r.mono (sees_hide s.sub))
theorem nj_share {i : Nat} {ds : List Dt} (hi : ρ[i]? = some (.ac ds)) (h : NJ c hid H0 N (ρ.set i (.im (.lst ds)))) : NJ c hid H0 N ρ := fun hd H σ s => by
  obtain ⟨hd', s'⟩ := s.share hi rfl (sl' := .im (.lst ds)) rfl fun o hd' le ho g => by
    obtain ⟨a1, a2, vs, a3, a4⟩ := g
    exact .lst (by rw [hm_of ho]; exact a3) (a4.mono (sees_hide le))
  exact h hd' H σ s'
theorem nj_weak {ρ' : List Sl} (l : Le ρ' ρ) (h : NJ c hid H0 N ρ') : NJ c hid H0 N ρ := fun hd H σ s => h hd H σ (s.weak l)
theorem nj_nx {I : List Sl → Prop} (h : I ρ) : NJ c hid H0 (Nx c hid H0 I) ρ := fun hd H σ s => ⟨ρ, hd, h, s⟩
theorem nj_nxw {I : List Sl → Prop} (ρ' : List Sl) (h : I ρ') (l : Le ρ' ρ) : NJ c hid H0 (Nx c hid H0 I) ρ := nj_weak l (nj_nx h)
theorem own_get {hd : Addr → Bool} {H : Hp} {σ : L2.St} (s : SlAll c hd H σ ρ) {i : Nat} {ds : List Dt} (hi : ρ[i]? = some (.ac ds)) : ∃ o vs, σ[i]? = some (some (.ref o)) ∧ hd o = true ∧ c.mu o = false ∧ H o = some (.lst vs) ∧ RpAll c.K (Hm hd H) vs ds := by
  obtain ⟨x, g1, g2⟩ := s.get hi
  cases x with
  | none => exact g2.elim
  | some v =>
    cases v with
    | ref o =>
      obtain ⟨a1, a2, vs, a3, a4⟩ := g2
      exact ⟨o, vs, g1, a1, a2, a3, a4⟩
    | _ => exact g2.elim
theorem ev_ixAc {i : Nat} {ds : List Dt} {r : R2} {Q : Dt → Prop} (hr : ∀ p xs k v H (Qh : VK), H p = some (.lst xs) → atI xs k = some v → Qh v H → r (.ref p) (.int k) H Qh) (hi : ρ[i]? = some (.ac ds)) (h : EV c tb ρ (IntJ fun k => ∃ d, atI ds k = some d ∧ Q d)) : EV c (tOp r (tVar i) tb) ρ Q := fun hd H σ s Qh q => by
  obtain ⟨o, vs, g1, a1, a2, a3, a4⟩ := own_get s.slots hi
  refine ⟨.ref o, g1, h hd H σ s _ fun d2 k H2 hk e2 b2 r2 => ?_⟩
  cases d2 with
  | int k' =>
    obtain ⟨d, hd1, hq⟩ := hk
    rw [rp_int r2]
    unfold atI at hd1
    cases hx : ixN ds.length k' with
    | none => rw [hx] at hd1; cases hd1
    | some j =>
      rw [hx] at hd1
      obtain ⟨v, hv, rv⟩ := (a4.mono (e2.sees s.muh)).get (show ds[j]? = some d from hd1)
      refine hr o vs k' v H2 Qh (e2.keep o _ a2 a3) ?_ (q d v H2 hq e2 b2 rv)
      unfold atI
      rw [a4.length, hx]
      exact hv
  | _ => exact hk.elim
def scalar : Dt → Bool
  | .non => true
  | .bl _ => true
  | .int _ => true
  | .str _ => true
  | _ => false
theorem rp_scalar {K : PySem.W.Frag} {G G' : Hp} {v : V} {d : Dt} (h : scalar d = true) (r : Rp K G v d) : Rp K G' v d := by
  cases r with
  | non => exact .non
  | bl b => exact .bl b
  | int b => exact .int b
  | str b => exact .str b
  | _ => cases h
def Sub (G H : Hp) : Prop := ∀ a o, G a = some o → H a = some o
structure ItOk (K : PySem.W.Frag) (G : Hp) (J : It) (its : List Dt) : Prop where
  go : ∀ i H, Sub G H → i < its.length → J.go i H
  yl : ∀ i H x H' d, Sub G H → its[i]? = some d → J.yld i H x H' → Ex none0 H H' ∧ ∀ hd, (∀ a, hd a = true → H a ≠ none) → Sub G (Hm hd H) → Rp K (Hm hd H') x d
  st : ∀ i H, Sub G H → i = its.length → J.stop i H
def IJ (c : Cn) (wi : TI) (ρ : List Sl) (Q : List Dt → Prop) : Prop := ∀ hd H σ, SV c hd H σ ρ → ∀ R : It → Hp → Prop, (∀ its J H', Q its → Ex c.mu H H' → c.B hd H' → ItOk c.K (Hm hd H') J its → R J H') → wi σ H R
def TGJ (c : Cn) (hid : Addr → Bool) (H0 : Hp) (g : TG) (d : Dt) (ρ : List Sl) (N : L2.St → Hp → Prop) : Prop := ∀ hd H σ v, SD c hid hd H0 H σ ρ → Rp c.K (Hm hd H) v d → g v σ H N
theorem tg_name {j : Nat} {d : Dt} (h : NJ c hid H0 N (ρ.set j (.im d))) : TGJ c hid H0 (gName j) d ρ N := fun hd H σ v s r => h hd H _ (s.setIm r)
def TGsJ (c : Cn) (hid : Addr → Bool) (H0 : Hp) (g : TGs) (ds : List Dt) (ρ : List Sl) (N : L2.St → Hp → Prop) : Prop := ∀ hd H σ vs, SD c hid hd H0 H σ ρ → RpAll c.K (Hm hd H) vs ds → g vs σ H N
theorem tgs_nil (h : NJ c hid H0 N ρ) : TGsJ c hid H0 gNil [] ρ N := fun hd H σ vs s r => by
  cases r
  exact ⟨rfl, h hd H σ s⟩
theorem tgs_name {j : Nat} {d : Dt} {ds : List Dt} {gs : TGs} (h : TGsJ c hid H0 gs ds (ρ.set j (.im d)) N) : TGsJ c hid H0 (gCons (gName j) gs) (d :: ds) ρ N := fun hd H σ vs s r => by
  cases r with
  | cons r1 r2 => exact ⟨_, _, rfl, h hd H _ _ (s.setIm r1) r2⟩
theorem sqt_hm {K : PySem.W.Frag} {hd : Addr → Bool} {H : Hp} {a : Addr} {xs : List V} (h : SqT K (Hm hd H) a xs) : SqT K H a xs := sees_t sees_le h
theorem tg_tup {n : Nat} {gs : TGs} {ds : List Dt} (hn : ds.length = n) (h : TGsJ c hid H0 gs ds ρ N) : TGJ c hid H0 (gTup c.K n gs) (.tup ds) ρ N := fun hd H σ v s r => by
  cases r with
  | tup r1 r2 => exact ⟨_, _, rfl, sqt_hm r1, by rw [r2.length]; exact hn, h hd H σ _ s r2⟩
def Hj (H0 : Hp) (hd : Addr → Bool) (H : Hp) : Hp := fun a => if hd a = true then H0 a else H a
theorem hj_ex {hd : Addr → Bool} {H : Hp} {σ : L2.St} (s : SD c hid hd H0 H σ ρ) : Ex c.mu H0 (Hj H0 hd H) := ⟨fun a o hm h => by
  unfold Hj
  split
  · exact h
  · exact s.ext.keep a o hm h, fun a h => by
  unfold Hj
  split
  · exact h
  · exact s.ext.dom a h⟩
theorem hj_sd {hd : Addr → Bool} {H : Hp} {σ : L2.St} (s : SD c hid hd H0 H σ ρ) : SD c hid hd (Hj H0 hd H) H σ ρ := ⟨s.toSV, s.sub, ⟨fun a o hm h => by
  unfold Hj at h
  split at h
  · exact s.ext.keep a o hm h
  · exact h, fun a h => by
  unfold Hj at h
  split at h
  · exact s.ext.dom a h
  · exact h⟩, fun a h1 h2 => by
  unfold Hj
  rw [if_pos h1]
  exact s.new a h1 h2, s.own, s.ownh⟩
theorem nj_for {wi : TI} (h : IJ c wi ρ fun its => ∃ I : Nat → List Sl → Prop, I 0 ρ ∧ (∀ H1, Ex c.mu H0 H1 → ∀ i d ρ', its[i]? = some d → I i ρ' → TGJ c hid H1 g d ρ' (ts { D with nx := Nx c hid H1 (I (i + 1)), ct := Nx c hid H1 (I (i + 1)), bk := D.nx })) ∧
    ∀ ρ', I its.length ρ' → NJ c hid H0 D.nx ρ') : NJ c hid H0 (tFor wi g ts D) ρ := fun hd H σ s => by
  refine h hd H σ s.toSV _ fun its J H' hq e b ok => ?_
  obtain ⟨I, i0, hstep, hend⟩ := hq
  have s' := s.go e b
  have eB := hj_ex s'
  have sB := hj_sd s'
  have vis : ∀ {hd2 H2 σ2 ρ2}, SD c hid hd2 (Hj H0 hd H') H2 σ2 ρ2 → Sub (Hm hd H') (Hm hd2 H2) := fun {hd2 H2 σ2 ρ2} s2 a o ha => by
    have h1 := hm_not ha
    have h2 := hm_le ha
    have hm : c.mu a = false := by
      cases q : c.mu a with
      | false => rfl
      | true => rw [s.muh a q] at h1; cases h1
    have hb : Hj H0 hd H' a = some o := by unfold Hj; rw [if_neg (by rw [h1]; exact Bool.false_ne_true)]; exact h2
    rw [hm_of]
    · exact s2.ext.keep a o hm hb
    · cases q : hd2 a with
      | false => rfl
      | true =>
        cases q2 : hid a with
        | true => rw [s.sub a q2] at h1; cases h1
        | false =>
          have := s2.new a q q2
          rw [hb] at this; cases this
  have vis' : ∀ {hd2 H2 σ2 ρ2}, SD c hid hd2 (Hj H0 hd H') H2 σ2 ρ2 → Sub (Hm hd H') H2 := fun s2 a o ha => hm_le (vis s2 a o ha)
  refine ⟨fun i m σ2 H2 => m = its.length - i ∧ i ≤ its.length ∧ ∃ ρ2 hd2, I i ρ2 ∧ SD c hid hd2 (Hj H0 hd H') H2 σ2 ρ2, ⟨its.length, rfl, Nat.zero_le _, ρ, hd, i0, sB⟩, ?_⟩
  rintro i m σ2 H2 ⟨rfl, hi, ρ2, hd2, hI, s2⟩
  by_cases hlt : i < its.length
  · refine .inr ⟨ok.go i H2 (vis' s2) hlt, Nx c hid (Hj H0 hd H') (I (i + 1)), fun σ' H3 hN => ?_, fun x H3 hy => ?_⟩
    · obtain ⟨ρ3, hd3, hI3, s3⟩ := hN
      exact ⟨its.length - (i + 1), by omega, rfl, hlt, ρ3, hd3, hI3, s3⟩
    · obtain ⟨e3, r3⟩ := ok.yl i H2 x H3 its[i] (vis' s2) (List.getElem?_eq_getElem hlt) hy
      exact hstep (Hj H0 hd H') eB i its[i] ρ2 (List.getElem?_eq_getElem hlt) hI hd2 H3 σ2 x (s2.go e3.up (c.keep0 e3 s2.inv)) (r3 hd2 s2.dom (vis s2))
  · have e : i = its.length := by omega
    exact .inl ⟨ok.st i H2 (vis' s2) e, hend ρ2 (by rw [← e]; exact hI) hd2 H2 σ2 (s2.base eB)⟩
end
end CC
namespace CC
open PySem PySem.Spec PyProof.Rows L2
def LstJ (Q : List Dt → Prop) : Dt → Prop
  | .lst b => Q b
  | _ => False
def TupJ (Q : List Dt → Prop) : Dt → Prop
  | .tup b => Q b
  | _ => False
def rangeD (lo : Int) (n : Nat) : List Dt := (List.range n).map fun i => Dt.int (lo + (i : Nat))
section
variable {c : Cn} {ρ : List Sl} {ta tb te tl : TE} {t u : TT} {Q : List Dt → Prop}
theorem Sub.sees {G G' : Hp} (h : Sub G G') : Sees G G' := fun a o e => ⟨o, h a o e, .rfl⟩
theorem ij_tup (h : EV c tl ρ (TupJ Q)) : IJ c (iTup c.K tl) ρ Q := fun hd H σ v R q => h hd H σ v _ fun d x H1 h1 e1 b1 r1 => by
  cases d with
  | tup ds =>
    cases r1 with
    | tup ha r =>
      rename_i a xs
      have hl := r.length
      refine ⟨a, rfl, ⟨xs, sqt_hm ha⟩, q ds (Itt c.K a) H1 h1 e1 b1 ⟨fun i H s hi => ?_, fun i H x H' d s hi y => ?_, fun i H s hi => ?_⟩⟩
      · exact ⟨xs, xs[i]'(by omega), sees_t s.sees ha, List.getElem?_eq_getElem (by omega)⟩
      · obtain ⟨rfl, y⟩ := y
        have hx := y xs (sees_t s.sees ha)
        obtain ⟨d', hd', rd⟩ := r.getV hx
        rw [hi] at hd'
        cases hd'
        exact ⟨.refl, fun hd2 dom sb => rd.mono sb.sees⟩
      · exact ⟨xs, sees_t s.sees ha, by omega⟩
  | _ => exact h1.elim
theorem itr_ok {K : PySem.W.Frag} {G : Hp} (lo : Int) (n : Nat) : ItOk K G (Itr lo n) (rangeD lo n) := by
  have hl : (rangeD lo n).length = n := by unfold rangeD; rw [List.length_map, List.length_range]
  refine ⟨fun i H s hi => by rw [hl] at hi; exact hi, fun i H x H' d s hi y => ?_, fun i H s hi => by rw [hl] at hi; exact Nat.le_of_eq hi.symm⟩
  obtain ⟨rfl, rfl⟩ := y
  have hn : i < n := by
    have := (List.getElem?_eq_some_iff.mp hi).1
    rw [hl] at this; exact this
  have e : d = .int (lo + (i : Nat)) := by
    unfold rangeD at hi
    rw [List.getElem?_map, List.getElem?_range hn] at hi
    exact (Option.some.inj hi).symm
  subst e
  exact ⟨.refl, fun hd2 dom sb => .int _⟩
theorem rp_ints1 {K : PySem.W.Frag} {G : Hp} {vs : List V} {i : Int} (r : RpAll K G vs [.int i]) : vs = [.int i] := by
  cases r with
  | cons r1 r2 => cases r1; cases r2; rfl
theorem rp_ints2 {K : PySem.W.Frag} {G : Hp} {vs : List V} {i j : Int} (r : RpAll K G vs [.int i, .int j]) : vs = [.int i, .int j] := by
  cases r with
  | cons r1 r2 => cases r1; rw [rp_ints1 r2]
theorem ij_rng1 {ta : TA} (h : EVA c ta ρ fun ds => ∃ n : Int, ds = [.int n] ∧ n ≤ 1000000 ∧ -1000000 ≤ n ∧ Q (rangeD 0 n.toNat)) : IJ c (iRng1 ta) ρ Q := fun hd H σ v R q => h hd H σ v _ fun ds vs H1 h1 e1 b1 r1 => by
  obtain ⟨n, rfl, h2, h3, hq⟩ := h1
  rw [rp_ints1 r1]
  exact ⟨n, rfl, by omega, by omega, q _ _ H1 hq e1 b1 (itr_ok 0 n.toNat)⟩
def wipeS (ρ : List Sl) : List Nat → List Sl
  | [] => ρ
  | v :: vs => (wipeS ρ vs).set v .un
theorem slok_un {hd : Addr → Bool} {H : Hp} {o : Option V} : SlOk c hd H o .un := by unfold SlOk; split <;> trivial
theorem SV.wipe {hd : Addr → Bool} {H : Hp} {σ : L2.St} (s : SV c hd H σ ρ) : ∀ vs, SV c hd H (L2.wipe σ vs) (wipeS ρ vs)
  | [] => s
  | v :: vs => (SV.wipe s vs).set v slok_un
theorem wipe_at (σ : L2.St) : ∀ (vs : List Nat) (k : Nat), (L2.wipe σ vs)[k]? = if k ∈ vs then σ[k]?.map (fun _ => none) else σ[k]?
  | [], k => by simp [L2.wipe]
  | v :: vs, k => by
    unfold L2.wipe
    by_cases q : k = v
    · subst q
      rw [if_pos (List.mem_cons_self)]
      by_cases hl : k < σ.length
      · rw [List.getElem?_set_self (by rw [wipe_length]; exact hl), List.getElem?_eq_getElem hl]; rfl
      · rw [List.getElem?_eq_none (by rw [List.length_set, wipe_length]; omega), List.getElem?_eq_none (by omega)]; rfl
    · rw [List.getElem?_set_ne (Ne.symm q), wipe_at σ vs k]
      simp only [List.mem_cons, q, false_or]
theorem wipe_set {σ : L2.St} {vs : List Nat} {j : Nat} {x : Option V} (hj : j ∈ vs) : L2.wipe (σ.set j x) vs = L2.wipe σ vs := by
  apply List.ext_getElem?
  intro k
  rw [wipe_at, wipe_at]
  by_cases q : k = j
  · subst q
    rw [if_pos hj, if_pos hj]
    by_cases hl : k < σ.length
    · rw [List.getElem?_set_self hl, List.getElem?_eq_getElem hl]; rfl
    · rw [List.getElem?_eq_none (by rw [List.length_set]; omega), List.getElem?_eq_none (by omega)]
  · rw [List.getElem?_set_ne (Ne.symm q)]
theorem wipe_wipe {σ : L2.St} {vs : List Nat} : L2.wipe (L2.wipe σ vs) vs = L2.wipe σ vs := by
  apply List.ext_getElem?
  intro k
  rw [wipe_at, wipe_at]
  split
  · cases σ[k]? <;> rfl
  · rfl
def TGE (c : Cn) (g : TG) (d : Dt) (ρ : List Sl) (vs : List Nat) (k : List Sl → Prop) : Prop := ∀ hd H σ v (N : L2.St → Hp → Prop), SV c hd H σ ρ → Rp c.K (Hm hd H) v d → (∀ σ2 ρ2, k ρ2 → SV c hd H σ2 ρ2 → L2.wipe σ2 vs = L2.wipe σ vs → N σ2 H) → g v σ H N
theorem tge_name {j : Nat} {d : Dt} {vs : List Nat} {k : List Sl → Prop} (hj : j ∈ vs) (h : k (ρ.set j (.im d))) : TGE c (gName j) d ρ vs k := fun hd H σ v N s r q => q _ _ h (s.set j r) (wipe_set hj)
def TGsE (c : Cn) (g : TGs) (ds : List Dt) (ρ : List Sl) (vs : List Nat) (k : List Sl → Prop) : Prop := ∀ hd H σ ws (N : L2.St → Hp → Prop), SV c hd H σ ρ → RpAll c.K (Hm hd H) ws ds → (∀ σ2 ρ2, k ρ2 → SV c hd H σ2 ρ2 → L2.wipe σ2 vs = L2.wipe σ vs → N σ2 H) → g ws σ H N
theorem tgse_nil {vs : List Nat} {k : List Sl → Prop} (h : k ρ) : TGsE c gNil [] ρ vs k := fun hd H σ ws N s r q => by
  cases r
  exact ⟨rfl, q _ _ h s rfl⟩
theorem tgse_name {j : Nat} {d : Dt} {ds : List Dt} {gs : TGs} {vs : List Nat} {k : List Sl → Prop} (hj : j ∈ vs) (h : TGsE c gs ds (ρ.set j (.im d)) vs k) : TGsE c (gCons (gName j) gs) (d :: ds) ρ vs k := fun hd H σ ws N s r q => by
  cases r with
  | cons r1 r2 => exact ⟨_, _, rfl, h hd H _ _ N (s.set j r1) r2 fun σ2 ρ2 a b e => q σ2 ρ2 a b (e.trans (wipe_set hj))⟩
theorem tge_tup {n : Nat} {gs : TGs} {ds : List Dt} {vs : List Nat} {k : List Sl → Prop} (hn : ds.length = n) (h : TGsE c gs ds ρ vs k) : TGE c (gTup c.K n gs) (.tup ds) ρ vs k := fun hd H σ v N s r q => by
  cases r with
  | tup r1 r2 => exact ⟨_, _, rfl, sqt_hm r1, by rw [r2.length]; exact hn, h hd H σ _ N s r2 q⟩
theorem lc_at {J : It} {its : List Dt} {g : TG} {vs : List Nat} {hd : Addr → Bool} {H1 : Hp} {σ : L2.St} {Qh : VK} (v1 : SV c hd H1 σ ρ) (ok : ItOk c.K (Hm hd H1) J its) (hlen : its.length ≤ 100000) (I : Nat → List Dt → Prop) (i0 : I 0 [])
    (hstep : ∀ i d acc, its[i]? = some d → I i acc → TGE c g d (wipeS ρ vs) vs fun ρ' => EVT c t ρ' fun b => (b = true → EV c te ρ' fun y => I (i + 1) (acc ++ [y])) ∧ (b = false → I (i + 1) acc))
    (hend : ∀ acc L ws H2, I its.length acc → Ex c.mu H1 H2 → c.B (hide hd L) H2 → H1 L = none → H2 L = some (.lst ws) → RpAll c.K (Hm (hide hd L) H2) ws acc → Qh (.ref L) H2) :
    ∀ L, H1 L = none → ∃ W : Nat → Nat → Hp → Prop, (∃ m, W 0 m (upd H1 L (.lst []))) ∧ ∀ i m H, W i m H → (J.stop i H ∧ Qh (.ref L) H) ∨ (J.go i H ∧ ∃ Nx : Hp → Prop, (∀ H', Nx H' → ∃ m', m' < m ∧ W (i + 1) m' H') ∧
      ∀ x H', J.yld i H x H' → g x (L2.wipe σ vs) H' fun σ2 H2 => L2.wipe σ2 vs = L2.wipe σ vs ∧ t σ2 H2 fun b H3 => if b = true then te σ2 H3 fun y H4 => ∃ acc, H4 L = some (.lst acc) ∧ acc.length < sizeLine ∧ Nx (upd H4 L (.lst (acc ++ [y]))) else Nx H3) := by
  intro L hL
  have b1 := v1.inv
  refine ⟨fun i m H2 => m = its.length - i ∧ i ≤ its.length ∧ ∃ ws acc, I i acc ∧ acc.length ≤ i ∧ H2 L = some (.lst ws) ∧ Ex c.mu H1 H2 ∧ c.B (hide hd L) H2 ∧ RpAll c.K (Hm (hide hd L) H2) ws acc, ⟨its.length, rfl, Nat.zero_le _, [], [], i0, Nat.le_refl _, upd_same, (.new hL), c.keepN (.new hL) hL b1, .nil⟩, ?_⟩
  rintro i m H2 ⟨rfl, hi, ws, acc, hI, hal, hw, e2, b2, r2⟩
  have v2 : SV c (hide hd L) H2 σ ρ := v1.hide e2 b2 hL (by rw [hw]; exact fun z => nomatch z)
  have sub2 : Sub (Hm hd H1) (Hm (hide hd L) H2) := fun a o ha => by
    have h1 := hm_not ha
    have h2 := hm_le ha
    rw [hm_of (by rw [hide_ne (ne_of_none h2 hL)]; exact h1)]
    exact e2.keep a o (by
      cases q : c.mu a with
      | false => rfl
      | true => rw [v1.muh a q] at h1; cases h1) h2
  have sub2' : Sub (Hm hd H1) H2 := fun a o ha => hm_le (sub2 a o ha)
  have nmu : c.mu L = false := by
    cases q : c.mu L with
    | false => rfl
    | true => exact absurd hL (v1.dom L (v1.muh L q))
  by_cases hlt : i < its.length
  · refine .inr ⟨ok.go i H2 sub2' hlt, fun H3 => ∃ ws acc, I (i + 1) acc ∧ acc.length ≤ i + 1 ∧ H3 L = some (.lst ws) ∧ Ex c.mu H1 H3 ∧ c.B (hide hd L) H3 ∧ RpAll c.K (Hm (hide hd L) H3) ws acc, fun H3 hN => ⟨its.length - (i + 1), by omega, rfl, hlt, hN⟩, fun x H3 hy => ?_⟩
    obtain ⟨e3, r3⟩ := ok.yl i H2 x H3 its[i] sub2' (List.getElem?_eq_getElem hlt) hy
    have rx := r3 (hide hd L) v2.dom sub2
    have v3 := v2.go0 e3
    have e13 := e2.trans e3.up
    refine hstep i its[i] acc (List.getElem?_eq_getElem hlt) hI (hide hd L) H3 (L2.wipe σ vs) x _ (v3.wipe vs) rx fun σ2 ρ2 hk s2 ew => ⟨ew.trans wipe_wipe, ?_⟩
    refine hk (hide hd L) H3 σ2 s2 _ fun b H4 hb e4 b4 => ?_
    have hL4 : H4 L = some (.lst ws) := e4.keep L _ nmu (e3.keep L _ rfl hw)
    cases b with
    | true =>
      rw [if_pos rfl]
      refine hb.1 rfl (hide hd L) H4 σ2 (s2.go e4 b4) _ fun y w H5 hy5 e5 b5 r5 => ?_
      have hL5 : H5 L = some (.lst ws) := e5.keep L _ nmu hL4
      have r25 : RpAll c.K (Hm (hide hd L) H5) ws acc := ((r2.mono (e3.sees (fun _ h => nomatch h))).mono (e4.sees v3.muh)).mono (e5.sees v3.muh)
      refine ⟨ws, hL5, Evl.sz_lt (by rw [r2.length]; omega), ws ++ [w], acc ++ [y], hy5, by rw [List.length_append]; simp; omega, upd_same, ((e13.trans e4).trans e5).mut (.inl hL), ?_, ?_⟩
      · exact c.put hide_self nmu hL5 rfl b5
      · rw [hm_upd hide_self]
        exact r25.append (.cons r5 .nil)
    | false =>
      rw [if_neg Bool.false_ne_true]
      exact ⟨ws, acc, hb.2 rfl, by omega, hL4, e13.trans e4, b4, (r2.mono (e3.sees (fun _ h => nomatch h))).mono (e4.sees v3.muh)⟩
  · have e : i = its.length := by omega
    exact .inl ⟨ok.st i H2 sub2' e, hend acc L ws H2 (by rw [← e]; exact hI) e2 b2 hL hw r2⟩
theorem en_lc {wi : TI} {g : TG} {vs : List Nat} (h : IJ c wi ρ fun its => its.length ≤ 100000 ∧ ∃ I : Nat → List Dt → Prop, I 0 [] ∧
    (∀ i d acc, its[i]? = some d → I i acc → TGE c g d (wipeS ρ vs) vs fun ρ' => EVT c t ρ' fun b => (b = true → EV c te ρ' fun y => I (i + 1) (acc ++ [y])) ∧ (b = false → I (i + 1) acc)) ∧ ∀ acc, I its.length acc → Q acc) :
    EN c (tLc wi g t te vs) ρ Q := fun hd H σ v Qh q => by
  refine h hd H σ v _ fun its J H1 hq e1 b1 ok => ?_
  obtain ⟨hlen, I, i0, hstep, hend⟩ := hq
  exact lc_at (v.go e1 b1) ok hlen I i0 hstep fun acc L ws H2 hI e2 b2 hL hw r2 => q acc L ws H2 (hend acc hI) (e1.trans e2) b2 (e1.fresh hL) hw r2
end
end CC
namespace CC
open PySem PySem.Spec PyProof.Rows L2
end CC
namespace CC
open PySem PySem.Spec PyProof.Rows L2
section
variable {X : Cx}
def rSetI (K : PySem.W.Frag) (w : World) : List V → Hp → VK → Prop := fun vs H Q => ∃ (a : Addr) (ns : List Int), vs = [.ref a] ∧ SqL K H a (ns.map V.int) ∧ ns.length ≤ 4000 ∧
  ∀ (p : Addr) (ks : List Int), H p = none → ks.Nodup → (∀ k, k ∈ ks ↔ k ∈ ns) → Q (.ref p) (upd H p (SetO w p (fun j => decide (j ∈ ns)) ks.length))
def rLenSet (w : World) : List V → Hp → VK → Prop := fun vs H Q => ∃ (a : Addr) (S : Int → Bool) (n : Nat), vs = [.ref a] ∧ H a = some (SetO w a S n) ∧ Q (.int (n : Nat)) H
end
end CC
namespace CC
open PySem PySem.Spec PyProof.Rows L2
def rAddI : R2 := rI0 fun i j => .int (i + j)
def rSubI : R2 := rI0 fun i j => .int (i - j)
def rMulI : R2 := rI CMul fun i j => .int (i * j)
def rDivI : R2 := rI CDivW fun i j => .int (i / j)
def rModI : R2 := rI (fun _ j => 0 < j) fun i j => .int (i % j)
def rAddS : R2 := fun x y H Q => ∃ i j, x = .str i ∧ y = .str j ∧ i.length + j.length ≤ sizeLine ∧ Q (.str (i ++ j)) H
def rAddU (K : PySem.W.Frag) : R2 := fun x y H Q => rAddI x y H Q ∨ rAddS x y H Q ∨ rCat x y H Q ∨ rCatA K x y H Q
def rMulU : R2 := fun x y H Q => rMulI x y H Q ∨ rRep x y H Q
def rLtI : R2 := rI0 fun i j => .bl (decide (i < j))
def rLeI : R2 := rI0 fun i j => .bl (decide (i ≤ j))
def rGtI : R2 := rI0 fun i j => .bl (decide (j < i))
def rGeI : R2 := rI0 fun i j => .bl (decide (j ≤ i))
def rLtS : R2 := fun x y H Q => ∃ i j, x = .str i ∧ y = .str j ∧ Q (.bl (decide (i.cps.toList < j.cps.toList))) H
def rLeS : R2 := fun x y H Q => ∃ i j, x = .str i ∧ y = .str j ∧ Q (.bl (!decide (j.cps.toList < i.cps.toList))) H
def rGtS : R2 := fun x y H Q => ∃ i j, x = .str i ∧ y = .str j ∧ Q (.bl (decide (j.cps.toList < i.cps.toList))) H
def rGeS : R2 := fun x y H Q => ∃ i j, x = .str i ∧ y = .str j ∧ Q (.bl (!decide (i.cps.toList < j.cps.toList))) H
def rLtU : R2 := fun x y H Q => rLtI x y H Q ∨ rLtS x y H Q
def rLeU : R2 := fun x y H Q => rLeI x y H Q ∨ rLeS x y H Q
def rGtU : R2 := fun x y H Q => rGtI x y H Q ∨ rGtS x y H Q
def rGeU : R2 := fun x y H Q => rGeI x y H Q ∨ rGeS x y H Q
def rEqU (K : PySem.W.Frag) : R2 := fun x y H Q => rEq x y H Q ∨ rEqD K x y H Q
def rNeU (K : PySem.W.Frag) : R2 := fun x y H Q => rNe x y H Q ∨ rNeD K x y H Q
def rIsU : R2 := fun x y H Q => y = .non ∧ Q (.bl (decide (x = .non))) H
def rIsNotU : R2 := fun x y H Q => y = .non ∧ Q (.bl (!decide (x = .non))) H
def rSgIn : R2 := fun x y H Q => ∃ (k : Nat) (z : Str), x = .str ⟨#[k]⟩ ∧ y = .str z ∧ Q (.bl (decide (k ∈ z.cps.toList))) H
def rSgNot : R2 := fun x y H Q => ∃ (k : Nat) (z : Str), x = .str ⟨#[k]⟩ ∧ y = .str z ∧ Q (.bl (!decide (k ∈ z.cps.toList))) H
def rInU (K : PySem.W.Frag) : R2 := fun x y H Q => rIn K false x y H Q ∨ rSgIn x y H Q
def rNotInU (K : PySem.W.Frag) : R2 := fun x y H Q => rIn K true x y H Q ∨ rSgNot x y H Q
section
variable {X : Cx}
theorem op_addU : OpR X (binaryOp .Add) (rAddU X.K) := op_add.or (op_add_str.or (op_cat.or op_catA))
theorem op_subU : OpR X (binaryOp .Sub) rSubI := op_sub
theorem op_mulU : OpR X (binaryOp .Mult) rMulU := op_mul.or op_rep
theorem op_divU : OpR X (binaryOp .FloorDiv) rDivI := op_fdivW
theorem op_modU : OpR X (binaryOp .Mod) rModI := op_mod
theorem op_ltU : OpR X (compareOp .Lt) rLtU := op_lt.or op_lt_str
theorem op_leU : OpR X (compareOp .LtE) rLeU := op_le.or op_le_str
theorem op_gtU : OpR X (compareOp .Gt) rGtU := op_gt.or op_gt_str
theorem op_eqU (hu : X.A.units + 64 < cLine) : OpR X (compareOp .Eq) (rEqU X.K) := op_eq.or (op_eqD hu)
theorem op_neU (hu : X.A.units + 64 < cLine) : OpR X (compareOp .NotEq) (rNeU X.K) := op_ne.or (op_neD hu)
theorem op_isU : OpR X (compareOp .Is) rIsU := op_isN
theorem op_isNotU : OpR X (compareOp .IsNot) rIsNotU := op_notN
theorem op_inU : OpR X (compareOp .In) (rInU X.K) := op_in_seq.or op_in_sign
end
mutual
def py : Dt → PyData
  | .non => .none
  | .bl b => .bool b
  | .int i => .int i
  | .str x => .str x
  | .lst xs => .list (pyL xs)
  | .tup xs => .tuple (pyL xs)
  | .dk _ => .none
  | .dt _ => .none
  | .ob _ _ => .none
  | .xo _ _ => .none
  | .ptup _ => .none
def pyL : List Dt → List PyData
  | [] => []
  | x :: r => py x :: pyL r
end
inductive Sh : Nat → Dt → Prop
  | non {n : Nat} : Sh n .non
  | bl {n : Nat} (b : Bool) : Sh n (.bl b)
  | int {n : Nat} (i : Int) : Sh n (.int i)
  | str {n : Nat} {x : Str} (h : PyData.strOk x = true) : Sh n (.str x)
  | lst {n : Nat} {ds : List Dt} (h : ∀ d ∈ ds, Sh n d) : Sh (n + 1) (.lst ds)
  | tup {n : Nat} {ds : List Dt} (h : ∀ d ∈ ds, Sh n d) : Sh (n + 1) (.tup ds)
section
variable {K : PySem.W.Frag} {G : Hp}
theorem dp_all {n : Nat} (ih : ∀ v d, Sh n d → Rp K G v d → Dp K G v (py d)) : ∀ {vs : List V} {ds : List Dt}, (∀ d ∈ ds, Sh n d) → RpAll K G vs ds → DpAll K G vs (pyL ds)
  | _, _, _, .nil => .nil
  | _, _, h, .cons r t => .cons (ih _ _ (h _ List.mem_cons_self) r) (dp_all ih (fun d hd => h d (List.mem_cons_of_mem _ hd)) t)
theorem Rp.dp : ∀ (n : Nat) (v : V) (d : Dt), Sh n d → Rp K G v d → Dp K G v (py d)
  | _, _, _, .non, .non => .non
  | _, _, _, .bl b, .bl _ => .bl b
  | _, _, _, .int i, .int _ => .int i
  | _, _, _, .str _, .str x => .str x
  | n + 1, _, _, .lst h, .lst ha r => .lst (.inl (.inl ha)) (dp_all (Rp.dp n) h r)
  | n + 1, _, _, .tup h, .tup ha r => .tup ha (dp_all (Rp.dp n) h r)
theorem lay_all {n : Nat} (ih : ∀ d, Sh n d → PyData.canLay0 (py d) = true) : ∀ {ds : List Dt}, (∀ d ∈ ds, Sh n d) → PyData.canLayAll0 (pyL ds) = true
  | [], _ => rfl
  | d :: r, h => by
    show (PyData.canLay0 (py d) && PyData.canLayAll0 (pyL r)) = true
    rw [ih d (h d List.mem_cons_self), lay_all ih fun e he => h e (List.mem_cons_of_mem _ he)]; rfl
theorem Sh.lay : ∀ (n : Nat) (d : Dt), Sh n d → PyData.canLay0 (py d) = true
  | _, _, .non => rfl
  | _, _, .bl b => rfl
  | _, _, .int i => rfl
  | _, _, .str h => h
  | n + 1, _, .lst h => lay_all (Sh.lay n) h
  | n + 1, _, .tup h => lay_all (Sh.lay n) h
theorem depth_all {n : Nat} (ih : ∀ d, Sh n d → (py d).depth ≤ n) : ∀ {ds : List Dt}, (∀ d ∈ ds, Sh n d) → PyData.depthAll (pyL ds) ≤ n
  | [], _ => Nat.zero_le _
  | d :: r, h => by
    have h1 := ih d (h d List.mem_cons_self)
    have h2 := depth_all ih (ds := r) fun e he => h e (List.mem_cons_of_mem _ he)
    show max (py d).depth (PyData.depthAll (pyL r)) ≤ n
    omega
theorem Sh.deep : ∀ (n : Nat) (d : Dt), Sh n d → (py d).depth ≤ n
  | _, _, .non => Nat.zero_le _
  | _, _, .bl b => Nat.zero_le _
  | _, _, .int i => Nat.zero_le _
  | _, _, .str h => Nat.zero_le _
  | n + 1, _, .lst h => Nat.succ_le_succ (depth_all (Sh.deep n) h)
  | n + 1, _, .tup h => Nat.succ_le_succ (depth_all (Sh.deep n) h)
theorem Sh.shaped {n : Nat} {d : Dt} (h : Sh n d) (hn : n ≤ 64) : SeqAt.shaped (py d) = true := by
  unfold SeqAt.shaped
  rw [Sh.lay n d h, decide_eq_true (Nat.le_trans (Sh.deep n d h) hn)]
  rfl
theorem eqv_all {n : Nat} (ih : ∀ d, Sh n d → PyData.eqv (py d) (py d) = true) : ∀ {ds : List Dt}, (∀ d ∈ ds, Sh n d) → PyData.eqvAll (pyL ds) (pyL ds) = true
  | [], _ => rfl
  | d :: r, h => by
    show (PyData.eqv (py d) (py d) && PyData.eqvAll (pyL r) (pyL r)) = true
    rw [ih d (h d List.mem_cons_self), eqv_all ih fun e he => h e (List.mem_cons_of_mem _ he)]; rfl
theorem Sh.eqv : ∀ (n : Nat) (d : Dt), Sh n d → PyData.eqv (py d) (py d) = true
  | _, _, .non => rfl
  | _, _, .bl b => by show (b == b) = true; simp
  | _, _, .int i => by show (i == i) = true; simp
  | _, _, .str (x := x) h => by show (x == x) = true; simp
  | n + 1, _, .lst h => eqv_all (Sh.eqv n) h
  | n + 1, _, .tup h => eqv_all (Sh.eqv n) h
end
end CC
namespace CC
open PySem PySem.Spec PyProof.Rows L2
section
variable {c : Cn} {Q : Dt → Prop} {QL : List Dt → Prop} {i j : Int} {a b : Str} {ds es : List Dt}
theorem kv_here {hd : Addr → Bool} {H : Hp} {Qh : VK} (q : Kv c hd H Q Qh) (bb : c.B hd H) {d : Dt} {v : V} (h : Q d) (r : Rp c.K (Hm hd H) v d) : Qh v H := q d v H h .refl bb r
theorem rj_I0 {f : Int → Int → Int} (h : Q (.int (f i j))) : R2J c (rI0 fun i j => .int (f i j)) (.int i) (.int j) Q := fun hd H x y dom mh bb rx ry Qh q => by
  cases rx; cases ry
  exact ⟨i, j, rfl, rfl, kv_here q bb h (.int _)⟩
theorem rj_B0 {f : Int → Int → Bool} (h : Q (.bl (f i j))) : R2J c (rI0 fun i j => .bl (f i j)) (.int i) (.int j) Q := fun hd H x y dom mh bb rx ry Qh q => by
  cases rx; cases ry
  exact ⟨i, j, rfl, rfl, kv_here q bb h (.bl _)⟩
theorem rj_I {C : Int → Int → Prop} {f : Int → Int → Int} (hc : C i j) (h : Q (.int (f i j))) : R2J c (rI C fun i j => .int (f i j)) (.int i) (.int j) Q := fun hd H x y dom mh bb rx ry Qh q => by
  cases rx; cases ry
  exact ⟨i, j, rfl, rfl, hc, kv_here q bb h (.int _)⟩
theorem R2J.inl {r r' : R2} {d1 d2 : Dt} (h : R2J c r d1 d2 Q) : R2J c (fun x y H Q => r x y H Q ∨ r' x y H Q) d1 d2 Q := fun hd H x y dom mh bb rx ry Qh q => .inl (h hd H x y dom mh bb rx ry Qh q)
theorem R2J.inr {r r' : R2} {d1 d2 : Dt} (h : R2J c r' d1 d2 Q) : R2J c (fun x y H Q => r x y H Q ∨ r' x y H Q) d1 d2 Q := fun hd H x y dom mh bb rx ry Qh q => .inr (h hd H x y dom mh bb rx ry Qh q)
theorem R2N.inl {r r' : R2} {d1 d2 : Dt} (h : R2N c r d1 d2 QL) : R2N c (fun x y H Q => r x y H Q ∨ r' x y H Q) d1 d2 QL := fun hd H x y dom mh bb rx ry Qh q => .inl (h hd H x y dom mh bb rx ry Qh q)
theorem R2N.inr {r r' : R2} {d1 d2 : Dt} (h : R2N c r' d1 d2 QL) : R2N c (fun x y H Q => r x y H Q ∨ r' x y H Q) d1 d2 QL := fun hd H x y dom mh bb rx ry Qh q => .inr (h hd H x y dom mh bb rx ry Qh q)
theorem RCJ.inl {r r' : List V → Hp → VK → Prop} (h : RCJ c r ds Q) : RCJ c (fun x H Q => r x H Q ∨ r' x H Q) ds Q := fun hd H x dom mh bb rx Qh q => .inl (h hd H x dom mh bb rx Qh q)
theorem RCJ.inr {r r' : List V → Hp → VK → Prop} (h : RCJ c r' ds Q) : RCJ c (fun x H Q => r x H Q ∨ r' x H Q) ds Q := fun hd H x dom mh bb rx Qh q => .inr (h hd H x dom mh bb rx Qh q)
theorem sub_i (h : Q (.int (i - j))) : R2J c rSubI (.int i) (.int j) Q := rj_I0 h
theorem add_i (h : Q (.int (i + j))) : R2J c (rAddU c.K) (.int i) (.int j) Q := R2J.inl (rj_I0 h)
theorem mul_i (hc : CMul i j) (h : Q (.int (i * j))) : R2J c rMulU (.int i) (.int j) Q := R2J.inl (rj_I hc h)
theorem div_i (hc : CDivW i j) (h : Q (.int (i / j))) : R2J c rDivI (.int i) (.int j) Q := rj_I hc h
theorem mod_i (hc : 0 < j) (h : Q (.int (i % j))) : R2J c rModI (.int i) (.int j) Q := rj_I (C := fun _ j => 0 < j) hc h
theorem lt_i (h : Q (.bl (decide (i < j)))) : R2J c rLtU (.int i) (.int j) Q := R2J.inl (rj_B0 (f := fun i j => decide (i < j)) h)
theorem le_i (h : Q (.bl (decide (i ≤ j)))) : R2J c rLeU (.int i) (.int j) Q := R2J.inl (rj_B0 (f := fun i j => decide (i ≤ j)) h)
theorem gt_i (h : Q (.bl (decide (j < i)))) : R2J c rGtU (.int i) (.int j) Q := R2J.inl (rj_B0 (f := fun i j => decide (j < i)) h)
theorem ge_i (h : Q (.bl (decide (j ≤ i)))) : R2J c rGeU (.int i) (.int j) Q := R2J.inl (rj_B0 (f := fun i j => decide (j ≤ i)) h)
theorem eq_i (h : Q (.bl (decide (i = j)))) : R2J c (rEqU c.K) (.int i) (.int j) Q := fun hd H x y dom mh bb rx ry Qh q => by
  cases rx; cases ry
  refine .inl ⟨rfl, kv_here q bb h ?_⟩
  rw [show decide (V.int i = V.int j) = decide (i = j) from decide_eq_decide.mpr ⟨fun e => V.int.inj e, fun e => congrArg _ e⟩]
  exact .bl _
theorem ne_i (h : Q (.bl (!decide (i = j)))) : R2J c (rNeU c.K) (.int i) (.int j) Q := fun hd H x y dom mh bb rx ry Qh q => by
  cases rx; cases ry
  refine .inl ⟨rfl, kv_here q bb h ?_⟩
  rw [show decide (V.int i = V.int j) = decide (i = j) from decide_eq_decide.mpr ⟨fun e => V.int.inj e, fun e => congrArg _ e⟩]
  exact .bl _
theorem eq_s (h : Q (.bl (decide (a = b)))) : R2J c (rEqU c.K) (.str a) (.str b) Q := fun hd H x y dom mh bb rx ry Qh q => by
  cases rx; cases ry
  refine .inl ⟨rfl, kv_here q bb h ?_⟩
  rw [show decide (V.str a = V.str b) = decide (a = b) from decide_eq_decide.mpr ⟨fun e => V.str.inj e, fun e => congrArg _ e⟩]
  exact .bl _
theorem ne_s (h : Q (.bl (!decide (a = b)))) : R2J c (rNeU c.K) (.str a) (.str b) Q := fun hd H x y dom mh bb rx ry Qh q => by
  cases rx; cases ry
  refine .inl ⟨rfl, kv_here q bb h ?_⟩
  rw [show decide (V.str a = V.str b) = decide (a = b) from decide_eq_decide.mpr ⟨fun e => V.str.inj e, fun e => congrArg _ e⟩]
  exact .bl _
theorem eq_b {p q : Bool} (h : Q (.bl (decide (p = q)))) : R2J c (rEqU c.K) (.bl p) (.bl q) Q := fun hd H x y dom mh bb rx ry Qh z => by
  cases rx; cases ry
  refine .inl ⟨rfl, kv_here z bb h ?_⟩
  rw [show decide (V.bl p = V.bl q) = decide (p = q) from decide_eq_decide.mpr ⟨fun e => V.bl.inj e, fun e => congrArg _ e⟩]
  exact .bl _
theorem ne_b {p q : Bool} (h : Q (.bl (!decide (p = q)))) : R2J c (rNeU c.K) (.bl p) (.bl q) Q := fun hd H x y dom mh bb rx ry Qh z => by
  cases rx; cases ry
  refine .inl ⟨rfl, kv_here z bb h ?_⟩
  rw [show decide (V.bl p = V.bl q) = decide (p = q) from decide_eq_decide.mpr ⟨fun e => V.bl.inj e, fun e => congrArg _ e⟩]
  exact .bl _
theorem dp_mono {K : PySem.W.Frag} {hd : Addr → Bool} {H : Hp} {v : V} {d : Dt} {n : Nat} (s : Sh n d) (r : Rp K (Hm hd H) v d) : Dp K H v (py d) := Rp.dp n v d s (r.mono sees_le)
theorem eq_d {d e : Dt} {n m : Nat} (s1 : Sh n d) (s2 : Sh m e) (hn : n ≤ 64) (hm : m ≤ 64) (h : Q (.bl (PyData.eqv (py d) (py e)))) : R2J c (rEqU c.K) d e Q := fun hd H x y dom mh bb rx ry Qh q =>
  .inr ⟨py d, py e, dp_mono s1 rx, dp_mono s2 ry, s1.shaped hn, s2.shaped hm, kv_here q bb h (.bl _)⟩
def isNon : Dt → Bool
  | .non => true
  | _ => false
theorem rp_isNon {K : PySem.W.Frag} {G : Hp} {v : V} {d : Dt} (r : Rp K G v d) : decide (v = .non) = isNon d := by cases r <;> rfl
theorem is_n {d : Dt} (h : Q (.bl (isNon d))) : R2J c rIsU d .non Q := fun hd H x y dom mh bb rx ry Qh q => by
  cases ry
  exact ⟨rfl, by rw [rp_isNon rx]; exact kv_here q bb h (.bl _)⟩
theorem isnot_n {d : Dt} (h : Q (.bl (!isNon d))) : R2J c rIsNotU d .non Q := fun hd H x y dom mh bb rx ry Qh q => by
  cases ry
  exact ⟨rfl, by rw [rp_isNon rx]; exact kv_here q bb h (.bl _)⟩
theorem add_l (hz : ds.length + es.length ≤ 100000) (h : QL (ds ++ es)) : R2N c (rAddU c.K) (.lst ds) (.lst es) QL := fun hd H x y dom mh bb rx ry Qh q => by
  cases rx with
  | lst ha ra =>
    cases ry with
    | lst hb rb =>
      rename_i p xs p' ys
      refine .inr (.inr (.inl ⟨p, p', xs, ys, rfl, rfl, hm_le ha, hm_le hb, Evl.sz_of (by rw [ra.length, rb.length]; exact hz), fun o ho => ?_⟩))
      exact q (ds ++ es) o (xs ++ ys) _ h (.new ho) (c.keepN (.new ho) ho bb) ho upd_same ((ra.append rb).mono (sees_new (.new ho (mu := none0)) (fun _ h => nomatch h) ho))
theorem add_t (hz : ds.length + es.length ≤ 100000) (h : Q (.tup (ds ++ es))) : R2J c (rAddU c.K) (.tup ds) (.tup es) Q := fun hd H x y dom mh bb rx ry Qh q => by
  cases rx with
  | tup ha ra =>
    cases ry with
    | tup hb rb =>
      rename_i p xs p' ys
      refine .inr (.inr (.inr ⟨p, p', xs, ys, rfl, rfl, sqt_hm ha, sqt_hm hb, Evl.sz_of (by rw [ra.length, rb.length]; exact hz), fun e => ?_, fun _ e => ?_, fun _ _ o ho => ?_⟩))
      · subst e
        cases ra
        exact kv_here q bb h (.tup hb rb)
      · subst e
        cases rb
        rw [List.append_nil] at h
        exact kv_here q bb h (.tup ha ra)
      · refine q _ (.ref o) _ h (.new ho) (c.keep0 (.new ho) bb) (.tup (xs := xs ++ ys) (.inl (.inl ?_)) ((ra.append rb).mono ((Ex.new ho (mu := none0)).sees (fun _ h => nomatch h))))
        rw [hm_of (fresh_hd dom ho), upd_same]
theorem mul_l {k : Int} (hk : k ≤ 1000000 ∧ -1000000 ≤ k) (hz : ds.length * k.toNat ≤ 100000) (h : QL (List.replicate k.toNat ds).flatten) : R2N c rMulU (.lst ds) (.int k) QL := fun hd H x y dom mh bb rx ry Qh q => by
  cases ry
  cases rx with
  | lst ha ra =>
    rename_i p xs
    refine .inr ⟨p, k, xs, rfl, rfl, hm_le ha, by omega, by omega, Evl.sz_of (by rw [ra.length]; exact hz), fun o ho => ?_⟩
    exact q _ o _ _ h (.new ho) (c.keepN (.new ho) ho bb) ho upd_same ((ra.rep _).mono (sees_new (.new ho (mu := none0)) (fun _ h => nomatch h) ho))
theorem atI_rp {K : PySem.W.Frag} {G : Hp} {vs : List V} {ds : List Dt} {k : Int} {d : Dt} (r : RpAll K G vs ds) (h : atI ds k = some d) : ∃ v, atI vs k = some v ∧ Rp K G v d := by
  unfold atI at h
  cases hx : ixN ds.length k with
  | none => rw [hx] at h; cases h
  | some j =>
    rw [hx] at h
    obtain ⟨v, hv, rv⟩ := r.get (show ds[j]? = some d from h)
    refine ⟨v, ?_, rv⟩
    unfold atI
    rw [r.length, hx]
    exact hv
theorem ix_l {k : Int} {d : Dt} (hk : atI ds k = some d) (h : Q d) : R2J c (rIx c.K) (.lst ds) (.int k) Q := fun hd H x y dom mh bb rx ry Qh q => by
  cases ry
  cases rx with
  | lst ha ra =>
    obtain ⟨v, hv, rv⟩ := atI_rp ra hk
    exact .inl ⟨_, _, k, v, rfl, rfl, .inl (.inl (hm_le ha)), hv, kv_here q bb h rv⟩
theorem ix_t {k : Int} {d : Dt} (hk : atI ds k = some d) (h : Q d) : R2J c (rIx c.K) (.tup ds) (.int k) Q := fun hd H x y dom mh bb rx ry Qh q => by
  cases ry
  cases rx with
  | tup ha ra =>
    obtain ⟨v, hv, rv⟩ := atI_rp ra hk
    exact .inr (.inl ⟨_, _, k, v, rfl, rfl, sqt_hm ha, hv, kv_here q bb h rv⟩)
theorem rix_ac {K : PySem.W.Frag} (p : Addr) (xs : List V) (k : Int) (v : V) (H : Hp) (Qh : VK) (hp : H p = some (.lst xs)) (h : atI xs k = some v) (q : Qh v H) : rIx K (.ref p) (.int k) H Qh := .inl ⟨p, xs, k, v, rfl, rfl, .inl (.inl hp), h, q⟩
def cutD (xs : List Dt) (lo hi : Option Int) : List Dt := (xs.drop (HT.sIx xs.length 0 lo)).take (HT.sIx xs.length xs.length hi - HT.sIx xs.length 0 lo)
theorem cut_rp {K : PySem.W.Frag} {G : Hp} {vs : List V} {ds : List Dt} (r : RpAll K G vs ds) (lo hi : Option Int) : RpAll K G (cutV vs lo hi) (cutD ds lo hi) := by
  unfold cutV cutD
  rw [r.length]
  exact (r.drop _).take _
variable {ρ : List Sl} {te ta tb : TE} {tl th : TO}
theorem en_sl (h : EV c te ρ (LstJ fun ds => EVO c tl ρ fun lo => EVO c th ρ fun hi => QL (cutD ds lo hi))) : EN c (tSl (rSlL c.K) te tl th) ρ QL := fun hd H σ v Qh q => h hd H σ v _ fun d x H1 h1 e1 b1 r1 => by
  cases d with
  | lst ds =>
    refine h1 hd H1 σ (v.go e1 b1) _ fun lo H2 h2 e2 b2 => h2 hd H2 σ ((v.go e1 b1).go e2 b2) _ fun hi H3 h3 e3 b3 => ?_
    have e13 := (e1.trans e2).trans e3
    cases (r1.mono ((e2.trans e3).sees v.muh)) with
    | lst ha ra =>
      refine ⟨_, _, rfl, .inl (.inl (hm_le ha)), fun o ho => ?_⟩
      exact q _ o _ _ h3 (e13.trans (.new ho)) (c.keepN (.new ho) ho b3) (e13.fresh ho) upd_same ((cut_rp ra lo hi).mono (sees_new (.new ho (mu := none0)) (fun _ h => nomatch h) ho))
  | _ => exact h1.elim
end
end CC
namespace CC
open PySem PySem.Spec PyProof.Rows L2
def rLenU (K : PySem.W.Frag) : List V → Hp → VK → Prop := fun xs H Q => (∃ p ys, xs = [.ref p] ∧ (SqL K H p ys ∨ SqT K H p ys) ∧ Q (.int ys.length) H) ∨ (∃ z, xs = [.str z] ∧ z.length ≤ sizeLine ∧ Q (.int z.length) H) ∨ (∃ a kvs, xs = [V.ref a] ∧ H a = some (.dK kvs) ∧ Q (.int kvs.length) H)
def rListU (K : PySem.W.Frag) : List V → Hp → VK → Prop := fun xs H Q => ∃ p ys, xs = [.ref p] ∧ (SqL K H p ys ∨ SqT K H p ys) ∧ ∀ l, H l = none → Q (.ref l) (upd H l (.lst ys))
def rTupleU (K : PySem.W.Frag) : List V → Hp → VK → Prop := fun xs H Q => ∃ p ys, xs = [.ref p] ∧ ((SqL K H p ys ∧ ∀ l, H l = none → Q (.ref l) (upd H l (.tup ys))) ∨ (SqT K H p ys ∧ Q (.ref p) H))
def rMin2 : List V → Hp → VK → Prop := fun xs H Q => ∃ i j, xs = [.int i, .int j] ∧ Q (.int (if j < i then j else i)) H
def rMax2 : List V → Hp → VK → Prop := fun xs H Q => ∃ i j, xs = [.int i, .int j] ∧ Q (.int (if j > i then j else i)) H
def rInt1 : List V → Hp → VK → Prop := fun xs H Q => (∃ i, xs = [.int i] ∧ Q (.int i) H) ∨ ∃ k, xs = [.bl k] ∧ Q (.int (if k then 1 else 0)) H
section
variable {X : Cx}
theorem cl_len : CallR X (.builtin "len") (rLenU X.K) := call_len_seq.or (call_len_str.or call_lenD)
theorem cl_list : CallR X (.type "list") (rListU X.K) := call_list_of
theorem cl_tuple : CallR X (.type "tuple") (rTupleU X.K) := call_tuple_of
theorem cl_max2 (hc : X.calm = true) : CallR X (.builtin "max") rMax2 := call_max2 hc
theorem cl_int1 : CallR X (.type "int") rInt1 := call_int1
end
section
variable {c : Cn} {Q : Dt → Prop} {QL : List Dt → Prop} {i j : Int} {ds es : List Dt} {ns : List Int}
theorem rp1 {K : PySem.W.Frag} {G : Hp} {vs : List V} {d : Dt} (r : RpAll K G vs [d]) : ∃ v, vs = [v] ∧ Rp K G v d := by
  cases r with
  | cons r1 r2 => cases r2; exact ⟨_, rfl, r1⟩
theorem len_l (h : Q (.int ds.length)) : RCJ c (rLenU c.K) [.lst ds] Q := fun hd H vs dom mh bb r Qh q => by
  obtain ⟨v, rfl, r1⟩ := rp1 r
  cases r1 with
  | lst ha ra => exact .inl ⟨_, _, rfl, .inl (.inl (.inl (hm_le ha))), by rw [ra.length]; exact kv_here q bb h (.int _)⟩
theorem len_t (h : Q (.int ds.length)) : RCJ c (rLenU c.K) [.tup ds] Q := fun hd H vs dom mh bb r Qh q => by
  obtain ⟨v, rfl, r1⟩ := rp1 r
  cases r1 with
  | tup ha ra => exact .inl ⟨_, _, rfl, .inr (sqt_hm ha), by rw [ra.length]; exact kv_here q bb h (.int _)⟩
theorem list_l (h : QL ds) : RCN c (rListU c.K) [.lst ds] QL := fun hd H vs dom mh bb r Qh q => by
  obtain ⟨v, rfl, r1⟩ := rp1 r
  cases r1 with
  | lst ha ra => exact ⟨_, _, rfl, .inl (.inl (.inl (hm_le ha))), fun o ho => q _ o _ _ h (.new ho) (c.keepN (.new ho) ho bb) ho upd_same (ra.mono (sees_new (.new ho (mu := none0)) (fun _ h => nomatch h) ho))⟩
theorem tuple_l (h : Q (.tup ds)) : RCJ c (rTupleU c.K) [.lst ds] Q := fun hd H vs dom mh bb r Qh q => by
  obtain ⟨v, rfl, r1⟩ := rp1 r
  cases r1 with
  | lst ha ra =>
    refine ⟨_, _, rfl, .inl ⟨.inl (.inl (hm_le ha)), fun o ho => ?_⟩⟩
    refine q _ (.ref o) _ h (.new ho) (c.keep0 (.new ho) bb) (.tup (.inl (.inl ?_)) (ra.mono ((Ex.new ho (mu := none0)).sees (fun _ h => nomatch h))))
    rw [hm_of (fresh_hd dom ho), upd_same]
theorem tuple_t (h : Q (.tup ds)) : RCJ c (rTupleU c.K) [.tup ds] Q := fun hd H vs dom mh bb r Qh q => by
  obtain ⟨v, rfl, r1⟩ := rp1 r
  cases r1 with
  | tup ha ra => exact ⟨_, _, rfl, .inr ⟨sqt_hm ha, kv_here q bb h (.tup ha ra)⟩⟩
theorem lst_ints {K : PySem.W.Frag} {hd : Addr → Bool} {H : Hp} {v : V} (r : Rp K (Hm hd H) v (.lst (ns.map Dt.int))) : ∃ a, v = .ref a ∧ H a = some (.lst (ns.map V.int)) := by
  cases r with
  | lst ha ra => rw [ra.ints] at ha; exact ⟨_, rfl, hm_le ha⟩
theorem min_l (hn : ns ≠ []) (h : ∀ m, m ∈ ns → (∀ y ∈ ns, m ≤ y) → Q (.int m)) : RCJ c (rMin c.K) [.lst (ns.map Dt.int)] Q := fun hd H vs dom mh bb r Qh q => by
  obtain ⟨v, rfl, r1⟩ := rp1 r
  obtain ⟨a, rfl, ha⟩ := lst_ints r1
  exact ⟨a, ns, rfl, .inl (.inl ha), List.length_pos_iff.mpr hn, fun m h1 h2 => kv_here q bb (h m h1 h2) (.int _)⟩
theorem max_l (hn : ns ≠ []) (h : ∀ m, m ∈ ns → (∀ y ∈ ns, y ≤ m) → Q (.int m)) : RCJ c (rMax c.K) [.lst (ns.map Dt.int)] Q := fun hd H vs dom mh bb r Qh q => by
  obtain ⟨v, rfl, r1⟩ := rp1 r
  obtain ⟨a, rfl, ha⟩ := lst_ints r1
  exact ⟨a, ns, rfl, .inl (.inl ha), List.length_pos_iff.mpr hn, fun m h1 h2 => kv_here q bb (h m h1 h2) (.int _)⟩
theorem sum_l (h : Q (.int ns.sum)) : RCJ c (rSum c.K) [.lst (ns.map Dt.int)] Q := fun hd H vs dom mh bb r Qh q => by
  obtain ⟨v, rfl, r1⟩ := rp1 r
  obtain ⟨a, rfl, ha⟩ := lst_ints r1
  exact ⟨a, ns, rfl, .inl (.inl ha), kv_here q bb h (.int _)⟩
theorem min2_i (h : Q (.int (if j < i then j else i))) : RCJ c rMin2 [.int i, .int j] Q := fun hd H vs dom mh bb r Qh q => by
  rw [rp_ints2 r]
  exact ⟨i, j, rfl, kv_here q bb h (.int _)⟩
theorem max2_i (h : Q (.int (if j > i then j else i))) : RCJ c rMax2 [.int i, .int j] Q := fun hd H vs dom mh bb r Qh q => by
  rw [rp_ints2 r]
  exact ⟨i, j, rfl, kv_here q bb h (.int _)⟩
theorem ev_lenSet {w : World} {ta : TA} {ρ : List Sl} (h : EVA c ta ρ fun ds => ∃ ns : List Int, ds = [.lst (ns.map Dt.int)] ∧ ns.length ≤ 4000 ∧ ∀ us : List Int, us.Nodup → (∀ k, k ∈ us ↔ k ∈ ns) → Q (.int us.length)) :
    EV c (tCB (rLenSet w) (tCons (tCB (rSetI c.K w) ta) tNil)) ρ Q := fun hd H σ v Qh q => h hd H σ v _ fun ds vs H1 h1 e1 b1 r1 => by
  obtain ⟨ns, rfl, hl, hq⟩ := h1
  obtain ⟨x, rfl, rx⟩ := rp1 r1
  obtain ⟨a, rfl, ha⟩ := lst_ints rx
  refine ⟨a, ns, rfl, .inl (.inl ha), hl, fun p ks hp k1 k2 => ⟨p, _, _, rfl, upd_same, ?_⟩⟩
  have e2 : Ex none0 H1 (upd H1 p (SetO w p (fun j => decide (j ∈ ns)) ks.length)) := .new hp
  exact q _ _ _ (hq ks k1 k2) (e1.trans e2.up) (c.keep0 e2 b1) (.int _)
def tyD : Dt → String
  | .non => "NoneType"
  | .bl _ => "bool"
  | .int _ => "int"
  | .str _ => "str"
  | .lst _ => "list"
  | .tup _ => "tuple"
  | .dk _ => "dict"
  | .dt _ => "dict"
  | .ob _ _ => "object"
  | .xo _ _ => "object"
  | .ptup _ => "object"
def noT : Dt → Bool
  | .dt _ => false
  | .ob _ _ => false
  | .xo _ _ => false
  | .ptup _ => false
  | _ => true
theorem rp_ty {K : PySem.W.Frag} {hd : Addr → Bool} {H : Hp} {v : V} {d : Dt} (hn : noT d = true) (r : Rp K (Hm hd H) v d) : TyX K H v (.type (tyD d)) := by
  cases r with
  | non => exact .base .non
  | bl b => exact .base (.bl b)
  | int b => exact .base (.int b)
  | str b => exact .base (.str b)
  | lst ha _ => exact .base (.lst (hm_le ha))
  | tup ha _ =>
    rcases ha with (ha | ⟨o, ha⟩) | ⟨o, its, n, h1, h2, h3⟩
    · exact .base (.tup (hm_le ha))
    · exact .fTuple (hm_le ha)
    · exact .kTuple h1 h2
  | dk ha _ =>
    rcases ha with ha | ⟨o, ha⟩
    · exact .base (.dK (hm_le ha))
    · exact .fDict (hm_le ha)
  | dt => cases hn
  | ob => cases hn
  | xo => cases hn
  | ptup => cases hn
theorem ev_isi {ta : TE} {T : String} {ρ : List Sl} (h : EV c ta ρ fun d => noT d = true ∧ ∃ b, kitB (tyD d) T = some b ∧ Q (.bl b)) : EV c (tCB (rIsi c.K) (tCons ta (tCons (tC (.ty T)) tNil))) ρ Q := fun hd H σ v Qh q => h hd H σ v _ fun d x H1 h1 e1 b1 r1 => by
  obtain ⟨hn, b, hb, hq⟩ := h1
  exact ⟨x, .ty T, _, _, b, rfl, .ty T, rp_ty hn r1, kit_ty hb, q _ _ H1 hq e1 b1 (.bl _)⟩
end
def spP (K : PySem.W.Frag) (S : List Dt → (Dt → Prop) → Prop) : Sp := fun vs H Qh _ => ∃ hid ds Q, (∀ a, hid a = true → H a ≠ none) ∧ RpAll K (Hm hid H) vs ds ∧ S ds Q ∧ ∀ d v H', Q d → Ex none0 H H' → Rp K (Hm hid H') v d → Qh v H'
structure RetOk (c : Cn) (hid : Addr → Bool) (H0 : Hp) (Q : Dt → Prop) (D : Ends) : Prop where
  rt : ∀ d, Q d → RJ c hid H0 D.rt d
  nx : Q .non → ∀ ρ, NJ c hid H0 D.nx ρ
def startS (N : List Str) (ds : List Dt) : List Sl := ds.map Sl.im ++ List.replicate (N.length - ds.length) .un
section
variable {K : PySem.W.Frag} {c : Cn} {Q : Dt → Prop} {QL : List Dt → Prop} {ds : List Dt}
theorem sp_j {S : List Dt → (Dt → Prop) → Prop} {E : XK} (h : S ds Q) : SpJ c (spP c.K S) E ds Q := fun hd H vs dom mh bb r Qh q => ⟨hd, ds, Q, dom, r, h, fun d v H' hq e => q d v H' hq e.up (c.keep0 e bb)⟩
theorem slall_im {hd : Addr → Bool} {H : Hp} : ∀ {vs : List V} {ds : List Dt} {n : Nat}, RpAll c.K (Hm hd H) vs ds → SlAll c hd H (vs.map some ++ List.replicate n none) (ds.map Sl.im ++ List.replicate n .un)
  | _, _, n, .nil => by
    show SlAll c hd H (List.replicate n none) (List.replicate n .un)
    induction n with
    | zero => exact .nil
    | succ n ih =>
      rw [List.replicate_succ, List.replicate_succ]
      exact .cons trivial ih
  | _, _, n, .cons r t => .cons r (slall_im t)
theorem owns_im {ds : List Dt} {n i : Nat} {s : Sl} (h : (ds.map Sl.im ++ List.replicate n .un)[i]? = some s) : owns s = false := by
  rcases List.mem_append.mp (List.mem_of_getElem? h) with h | h
  · obtain ⟨d, _, rfl⟩ := List.mem_map.mp h
    rfl
  · rw [(List.mem_replicate.mp h).2]; rfl
theorem sd_start {hid : Addr → Bool} {H : Hp} {N : List Str} {vs : List V} (dom : ∀ a, hid a = true → H a ≠ none) (muh : ∀ a, c.mu a = true → hid a = true) (b : c.B hid H) (r : RpAll c.K (Hm hid H) vs ds) : SD c hid hid H H (L2.start N vs) (startS N ds) := by
  have hl := r.length
  refine ⟨⟨dom, muh, b, ?_⟩, fun _ h => h, .refl, fun a h1 h2 => (by rw [h1] at h2; cases h2), fun i j o h1 => ?_, fun i o h1 => ?_⟩
  · unfold L2.start startS
    rw [hl]
    exact slall_im r
  · obtain ⟨_, s, h2, h3⟩ := h1
    rw [owns_im h2] at h3; cases h3
  · obtain ⟨_, s, h2, h3⟩ := h1
    rw [owns_im h2] at h3; cases h3
end
section
variable {P : Program} {w : World} {K : PySem.W.Frag} {mg : Str → Option Value} {base : Heap}
abbrev cxD (P : Program) (w : World) (K : PySem.W.Frag) (mg : Str → Option Value) (base : Heap) (N : List Str) (qual : Str) (st : Stmt) (f : Addr) (cdv : Value) (A : Around) (outer : List Env) (s : Shared) (H : Hp) (E : XK) : Cx := (cxOf CX0 P w K mg base N qual (defScope st) f cdv A outer s H E).nox
theorem fn_pure {x qual : Str} {st : Stmt} {f : Addr} {fd : FuncData} {N ps : List Str} {k : Nat} {S : List Dt → (Dt → Prop) → Prop} (F : Fun K x qual st f fd) (Sc : FnScope N ps (defScope st)) (len : ∀ ds Q, S ds Q → ds.length = ps.length)
    (hb : ∀ (cdv : Value) (A : Around) (outer : List Env) (s : Shared) (H : Hp) (E : XK), Room k (A.deeper (envOfC qual (defScope st) s.heap.objs.size f cdv)) →
      ∃ t, PSs (cxD P w K mg base N qual st f cdv A outer s H E) (defBody st) t ∧ ∀ ds Q, S ds Q → ∀ hid H0 (D : Ends), (∀ a, hid a = true → H0 a ≠ none) → RetOk (Cn.pure K) hid H0 Q D → NJ (Cn.pure K) hid H0 (t D) (startS N ds)) :
    FnOk P w K mg base CX0 (k + 1) f fd ps (spP K S) := by
  refine F.ok Sc (fun vs H Q E h => ?_) (fun cdv A outer s H vs Q E hr h => ?_)
  · obtain ⟨hid, ds, Q', _, r, hS, _⟩ := h
    rw [r.length]
    exact len ds Q' hS
  · obtain ⟨hid, ds, Q', dom, r, hS, q⟩ := h
    obtain ⟨t, ht, hn⟩ := hb cdv A outer s H E hr
    refine ⟨t, ht, hn ds Q' hS hid H _ dom ⟨fun d hd v H' e _ r => q d v H' hd e r, fun hd ρ hd' H' σ sd => q .non .non H' hd sd.ext .non⟩ hid H _ (sd_start dom (fun _ h => nomatch h) trivial r)⟩
end
end CC
namespace CC
open PySem PySem.Spec PyProof.Rows L2
open C8 (Cal pe_c pe_gc)
def FnAt (K : PySem.W.Frag) (mg : Str → Option Value) (x : Str) (st : Stmt) (ps : List Str) : Prop := ∃ f fd, mg x = some (.ref f) ∧ Fun K x x st f fd ∧ Binds K fd ps []
section
variable {P : Program} {w : World} {K : PySem.W.Frag} {mg : Str → Option Value} {base : Heap}
theorem cal_pure {x : Str} {st : Stmt} {N ps : List Str} {k : Nat} {S : List Dt → (Dt → Prop) → Prop} (F : FnAt K mg x st ps) (Sc : FnScope N ps (defScope st)) (len : ∀ ds Q, S ds Q → ds.length = ps.length)
    (hb : ∀ (f : Addr) (cdv : Value) (A : Around) (outer : List Env) (s : Shared) (H : Hp) (E : XK), Room k (A.deeper (envOfC x (defScope st) s.heap.objs.size f cdv)) →
      ∃ t, PSs (cxD P w K mg base N x st f cdv A outer s H E) (defBody st) t ∧ ∀ ds Q, S ds Q → ∀ hid H0 (D : Ends), (∀ a, hid a = true → H0 a ≠ none) → RetOk (Cn.pure K) hid H0 Q D → NJ (Cn.pure K) hid H0 (t D) (startS N ds)) :
    Cal P w K mg base (k + 1) x (spP K S) [] := by
  obtain ⟨f, fd, hm, F, b⟩ := F
  exact ⟨⟨f, fd, ps, [], fn_pure F Sc len (hb f), hm, F.kp, b, .nil⟩⟩
theorem Cal.up {k j : Nat} {x : Str} {sp : Sp} {dvs : List V} (c : Cal P w K mg base k x sp dvs) (h : k ≤ j) : Cal P w K mg base j x sp dvs := by
  obtain ⟨f, fd, ps, ds, F, a⟩ := c.ex
  exact ⟨⟨f, fd, ps, ds, F.mono h, a⟩⟩
theorem et_yes {c : Cn} {ρ : List Sl} {Q : Bool → Prop} (h : Q true) : EVT c tYes ρ Q := fun hd H σ v Qh q => q true H h .refl v.inv
end
end CC
namespace CC
open PySem PySem.Spec PyProof.Rows L2
section
variable {c : Cn} {ρ : List Sl} {ta : TE} {Q : Dt → Prop}
theorem ev_neg (h : EV c ta ρ (IntJ fun i => Q (.int (-i)))) : EV c (tUn (rU fun i => .int (-i)) ta) ρ Q := fun hd H σ v Qh q => h hd H σ v _ fun d x H1 h1 e1 b1 r1 => by
  cases d with
  | int i => exact ⟨i, rp_int r1, q _ _ H1 h1 e1 b1 (.int _)⟩
  | _ => exact h1.elim
theorem ev_ixA {tb : TE} {i : Nat} {ds : List Dt} (hi : ρ[i]? = some (.ac ds)) (h : EV c tb ρ (IntJ fun k => ∃ d, atI ds k = some d ∧ Q d)) : EV c (tOp (rIx c.K) (tVar i) tb) ρ Q := ev_ixAc rix_ac hi h
end
end CC
namespace CC
def powB (b : Int) : Nat → Int → List Int
  | 0, x => [x]
  | n + 1, x => if x * b * b ≤ 10000 then x :: powB b n (x * b) else [x]
def pows (b : Int) : List Int := powB b 14 1
def perB (b : Int) : Nat := (pows b).length
def dsum (b : Int) : List Int → Int
  | [] => 0
  | x :: r => x + b * dsum b r
def chunks (n : Nat) (l : List Int) : List (List Int) :=
  if h : l = [] ∨ n = 0 then [] else l.take n :: chunks n (l.drop n)
termination_by l.length
decreasing_by
  simp only [not_or] at h
  have : 0 < l.length := List.length_pos_iff.mpr h.1
  rw [List.length_drop]; omega
def packI (b : Int) (vs : List Int) : List Int := (chunks (perB b) vs).map (dsum b)
end CC
namespace CC
def ins (x : Int) : List Int → List Int
  | [] => [x]
  | y :: r => if x < y then x :: y :: r else if x = y then y :: r else y :: ins x r
def uniq (vs : List Int) : List Int := vs.foldr ins []
theorem mem_ins {x k : Int} : ∀ {l : List Int}, k ∈ ins x l ↔ k = x ∨ k ∈ l
  | [] => by simp [ins]
  | y :: r => by
    unfold ins
    split
    · simp
    · split
      · rename_i e
        subst e
        simp
      · simp only [List.mem_cons, mem_ins (l := r)]
        constructor
        · rintro (h | h | h)
          · exact .inr (.inl h)
          · exact .inl h
          · exact .inr (.inr h)
        · rintro (h | h | h)
          · exact .inr (.inl h)
          · exact .inl h
          · exact .inr (.inr h)
theorem pw_ins {x : Int} : ∀ {l : List Int}, l.Pairwise (· < ·) → (ins x l).Pairwise (· < ·)
  | [], _ => by simp [ins]
  | y :: r, h => by
    obtain ⟨h1, h2⟩ := List.pairwise_cons.mp h
    unfold ins
    split
    · rename_i hx
      refine List.pairwise_cons.mpr ⟨fun z hz => ?_, h⟩
      rcases List.mem_cons.mp hz with rfl | hz
      · exact hx
      · have := h1 z hz; omega
    · split
      · exact h
      · rename_i h3 h4
        refine List.pairwise_cons.mpr ⟨fun z hz => ?_, pw_ins h2⟩
        rcases mem_ins.mp hz with rfl | hz
        · omega
        · exact h1 z hz
theorem mem_uniq {k : Int} : ∀ {vs : List Int}, k ∈ uniq vs ↔ k ∈ vs
  | [] => by simp [uniq]
  | x :: r => by
    show k ∈ ins x (uniq r) ↔ _
    rw [mem_ins, mem_uniq, List.mem_cons]
theorem pw_uniq : ∀ (vs : List Int), (uniq vs).Pairwise (· < ·)
  | [] => .nil
  | x :: r => pw_ins (pw_uniq r)
theorem nodup_of_pw : ∀ {l : List Int}, l.Pairwise (· < ·) → l.Nodup
  | [], _ => .nil
  | x :: r, h => by
    obtain ⟨h1, h2⟩ := List.pairwise_cons.mp h
    exact List.nodup_cons.mpr ⟨fun hx => by have := h1 x hx; omega, nodup_of_pw h2⟩
theorem nodup_len_le : ∀ (ks ns : List Int), ks.Nodup → (∀ k ∈ ks, k ∈ ns) → ks.length ≤ ns.length
  | [], _, _, _ => Nat.zero_le _
  | k :: r, ns, h, hs => by
    obtain ⟨h1, h2⟩ := List.nodup_cons.mp h
    have hk := hs k List.mem_cons_self
    have ih := nodup_len_le r (ns.erase k) h2 fun x hx => (List.mem_erase_of_ne fun e => h1 (by rw [← e]; exact hx)).mpr (hs x (List.mem_cons_of_mem _ hx))
    rw [List.length_erase_of_mem hk] at ih
    have := List.length_pos_of_mem hk
    rw [List.length_cons]
    omega
theorem uniq_len {us vs : List Int} (h1 : us.Nodup) (h2 : ∀ k, k ∈ us ↔ k ∈ vs) : us.length = (uniq vs).length := by
  have a := nodup_len_le us (uniq vs) h1 fun k hk => mem_uniq.mpr ((h2 k).mp hk)
  have b := nodup_len_le (uniq vs) us (nodup_of_pw (pw_uniq vs)) fun k hk => (h2 k).mpr (mem_uniq.mp hk)
  omega
def posOf (x : Int) : List Int → Nat
  | [] => 0
  | y :: r => if y = x then 0 else posOf x r + 1
def minL : List Int → Int
  | [] => 0
  | x :: r => r.foldl min x
def maxL : List Int → Int
  | [] => 0
  | x :: r => r.foldl max x
theorem foldl_min : ∀ (r : List Int) (x : Int), (r.foldl min x = x ∨ r.foldl min x ∈ r) ∧ r.foldl min x ≤ x ∧ ∀ y ∈ r, r.foldl min x ≤ y
  | [], x => ⟨.inl rfl, Int.le_refl _, fun y h => by simp at h⟩
  | z :: r, x => by
    obtain ⟨h1, h2, h3⟩ := foldl_min r (min x z)
    show ((r.foldl min (min x z)) = x ∨ _) ∧ _
    refine ⟨?_, by rw [List.foldl_cons]; omega, fun y hy => ?_⟩
    · rcases h1 with h1 | h1
      · rw [List.foldl_cons, h1]
        by_cases hx : x ≤ z
        · left; omega
        · right; rw [show min x z = z by omega]; exact List.mem_cons_self
      · right; exact List.mem_cons_of_mem _ h1
    · rcases List.mem_cons.mp hy with rfl | hy
      · rw [List.foldl_cons]; omega
      · exact h3 y hy
theorem foldl_max : ∀ (r : List Int) (x : Int), (r.foldl max x = x ∨ r.foldl max x ∈ r) ∧ x ≤ r.foldl max x ∧ ∀ y ∈ r, y ≤ r.foldl max x
  | [], x => ⟨.inl rfl, Int.le_refl _, fun y h => by simp at h⟩
  | z :: r, x => by
    obtain ⟨h1, h2, h3⟩ := foldl_max r (max x z)
    show ((r.foldl max (max x z)) = x ∨ _) ∧ _
    refine ⟨?_, by rw [List.foldl_cons]; omega, fun y hy => ?_⟩
    · rcases h1 with h1 | h1
      · rw [List.foldl_cons, h1]
        by_cases hx : z ≤ x
        · left; omega
        · right; rw [show max x z = z by omega]; exact List.mem_cons_self
      · right; exact List.mem_cons_of_mem _ h1
    · rcases List.mem_cons.mp hy with rfl | hy
      · rw [List.foldl_cons]; omega
      · exact h3 y hy
theorem minL_mem {vs : List Int} (h : vs ≠ []) : minL vs ∈ vs := by
  cases vs with
  | nil => exact absurd rfl h
  | cons x r =>
    rcases (foldl_min r x).1 with e | e
    · show r.foldl min x ∈ _; rw [e]; exact List.mem_cons_self
    · exact List.mem_cons_of_mem _ e
theorem minL_le {vs : List Int} {y : Int} (h : y ∈ vs) : minL vs ≤ y := by
  cases vs with
  | nil => simp at h
  | cons x r =>
    rcases List.mem_cons.mp h with rfl | h
    · exact (foldl_min r _).2.1
    · exact (foldl_min r x).2.2 y h
theorem maxL_mem {vs : List Int} (h : vs ≠ []) : maxL vs ∈ vs := by
  cases vs with
  | nil => exact absurd rfl h
  | cons x r =>
    rcases (foldl_max r x).1 with e | e
    · show r.foldl max x ∈ _; rw [e]; exact List.mem_cons_self
    · exact List.mem_cons_of_mem _ e
theorem le_maxL {vs : List Int} {y : Int} (h : y ∈ vs) : y ≤ maxL vs := by
  cases vs with
  | nil => simp at h
  | cons x r =>
    rcases List.mem_cons.mp h with rfl | h
    · exact (foldl_max r _).2.1
    · exact (foldl_max r x).2.2 y h
theorem minL_is {vs : List Int} {m : Int} (h1 : m ∈ vs) (h2 : ∀ y ∈ vs, m ≤ y) : m = minL vs := by
  have a := h2 _ (minL_mem (fun e => by rw [e] at h1; simp at h1))
  have b := minL_le h1
  omega
theorem maxL_is {vs : List Int} {m : Int} (h1 : m ∈ vs) (h2 : ∀ y ∈ vs, y ≤ m) : m = maxL vs := by
  have a := h2 _ (maxL_mem (fun e => by rw [e] at h1; simp at h1))
  have b := le_maxL h1
  omega
def spanL (vs : List Int) : Int := maxL vs - minL vs
def dif : List Int → List Int
  | x :: y :: r => (y - x) :: dif (y :: r)
  | _ => []
end CC
namespace CC
inductive Fm where
  | plain (vs : List Int) | one (n : Nat) (v : Int) | codes (n : Nat) (us cs : List Int) | near (n : Nat) (lo sp : Int) (cs : List Int) | steps (n : Nat) (f lo sp : Int) (cs : List Int)
def abv (vs : List Int) : Option (Int × Int × List Int) := if spanL vs + 1 > 10000 then none else some (minL vs, spanL vs, if spanL vs > 0 then packI (spanL vs + 1) (vs.map (· - minL vs)) else [])
def layOne (vs : List Int) : Option Fm := if (uniq vs).length = 1 then some (.one vs.length (vs.headD 0)) else none
def layCodes (vs : List Int) : Option Fm := if (uniq vs).length < 2 then none else some (.codes vs.length (uniq vs) (packI (uniq vs).length (vs.map fun v => (posOf v (uniq vs) : Int))))
def layNear (vs : List Int) : Option Fm := match abv vs with
  | none => none
  | some (lo, sp, cs) => if sp = 0 then none else some (.near vs.length lo sp cs)
def laySteps (vs : List Int) : Option Fm := if vs.length < 2 then none else match abv (dif vs) with
  | none => none
  | some (lo, sp, cs) => some (.steps vs.length (vs.headD 0) lo sp cs)
def lay : Nat → List Int → Option Fm
  | 0, vs => some (.plain vs)
  | 1, vs => layOne vs
  | 2, vs => layCodes vs
  | 3, vs => layNear vs
  | _, vs => laySteps vs
def Fm.size : Fm → Nat
  | .plain vs => vs.length
  | .one n _ => n
  | .codes n _ _ => n
  | .near n _ _ _ => n
  | .steps n _ _ _ _ => n
end CC
namespace CC
open PySem PySem.Spec PyProof.Rows L2
theorem intJ {Q : Int → Prop} {i : Int} (h : Q i) : IntJ Q (.int i) := h
theorem blJ {Q : Bool → Prop} {i : Bool} (h : Q i) : BlJ Q (.bl i) := h
theorem lstJ {Q : List Dt → Prop} {i : List Dt} (h : Q i) : LstJ Q (.lst i) := h
theorem tupJ {Q : List Dt → Prop} {i : List Dt} (h : Q i) : TupJ Q (.tup i) := h
abbrev dT (ns : List Int) : Dt := .tup (ns.map Dt.int)
theorem atI_int {ns : List Int} {k : Int} {x : Int} (h0 : 0 ≤ k) (h : ns[k.toNat]? = some x) : atI (ns.map Dt.int) k = some (.int x) := by
  have e : k = ((k.toNat : Nat) : Int) := by omega
  rw [e]
  refine atI_nat ?_
  rw [List.getElem?_map, h]; rfl
theorem ix_li {c : Cn} {Q : Dt → Prop} {ns : List Int} {k x : Int} (h0 : 0 ≤ k) (h : ns[k.toNat]? = some x) (q : Q (.int x)) : R2J c (rIx c.K) (.lst (ns.map Dt.int)) (.int k) Q := ix_l (atI_int h0 h) q
theorem bl_two {A B p : Prop} {dp : Decidable p} (h1 : p → A) (h2 : ¬ p → B) : (@decide p dp = true → A) ∧ (@decide p dp = false → B) := ⟨fun h => h1 (of_decide_eq_true h), fun h => h2 (of_decide_eq_false h)⟩
theorem bl_twoN {A B p : Prop} {dp : Decidable p} (h1 : ¬ p → A) (h2 : p → B) : ((!@decide p dp) = true → A) ∧ ((!@decide p dp) = false → B) := ⟨fun h => h1 (fun hp => by rw [decide_eq_true hp] at h; cases h), fun h => h2 (Decidable.byContradiction fun hp => by rw [decide_eq_false hp] at h; cases h)⟩
theorem bl_yes {A B : Prop} {b : Bool} (e : b = true) (h : A) : (b = true → A) ∧ (b = false → B) := ⟨fun _ => h, fun z => by rw [e] at z; cases z⟩
theorem bl_no {A B : Prop} {b : Bool} (e : b = false) (h : B) : (b = true → A) ∧ (b = false → B) := ⟨fun z => (by rw [e] at z; cases z), fun _ => h⟩
theorem or_no {A B : Prop} {b : Bool} (e : b = false) (h : A) : (b = false → A) ∧ (b = true → B) := ⟨fun _ => h, fun z => by rw [e] at z; cases z⟩
section
variable {c : Cn} {hid : Addr → Bool} {H0 H1 : Hp} {ρ : List Sl} {ta tb te : TE} {t u : TT} {D : Ends} {ts tz tu : TS} {g : TG}
theorem q_asg {i : Nat} (h : EV c te ρ fun d => NJ c hid H0 (tz D) (ρ.set i (.im d))) : NJ c hid H0 (tSeq (tAsg te (gName i)) tz D) ρ := nj_asg (D := { D with nx := tz D }) h
theorem q_asgN {i : Nat} (h : EN c te ρ fun ds => NJ c hid H0 (tz D) (ρ.set i (.ac ds))) : NJ c hid H0 (tSeq (tAsg te (gName i)) tz D) ρ := nj_asgN (D := { D with nx := tz D }) h
theorem q_when (h : ETJ c hid H0 t ρ fun b => (b = true → NJ c hid H0 (ts { D with nx := tz D }) ρ) ∧ (b = false → NJ c hid H0 (tz D) ρ)) : NJ c hid H0 (tSeq (tIfS t ts tNext) tz D) ρ := nj_if (D := { D with nx := tz D }) h
theorem nj_when (h : ETJ c hid H0 t ρ fun b => (b = true → NJ c hid H0 (ts D) ρ) ∧ (b = false → NJ c hid H0 D.nx ρ)) : NJ c hid H0 (tIfS t ts tNext D) ρ := nj_if h
theorem q_for {wi : TI} (h : IJ c wi ρ fun its => ∃ I : Nat → List Sl → Prop, I 0 ρ ∧ (∀ H1, Ex c.mu H0 H1 → ∀ i d ρ', its[i]? = some d → I i ρ' → TGJ c hid H1 g d ρ' (ts { D with nx := Nx c hid H1 (I (i + 1)), ct := Nx c hid H1 (I (i + 1)), bk := tz D })) ∧
    ∀ ρ', I its.length ρ' → NJ c hid H0 (tz D) ρ') : NJ c hid H0 (tSeq (tFor wi g ts) tz D) ρ := nj_for (D := { D with nx := tz D }) h
theorem q_asgT (h : EV c te ρ fun d => TGJ c hid H0 g d ρ (tz D)) : NJ c hid H0 (tSeq (tAsg te g) tz D) ρ := fun hd H σ s =>
  h hd H σ s.toSV _ fun d v H' hq e b r => hq hd H' σ v (s.go e b) r
end
theorem mul_iL {c : Cn} {Q : Dt → Prop} {i j : Int} (h1 : -18446744073709551616 < i) (h2 : i < 18446744073709551616) (h : Q (.int (i * j))) : R2J c rMulU (.int i) (.int j) Q := mul_i (.inl ⟨h1, h2⟩) h
theorem mul_iR {c : Cn} {Q : Dt → Prop} {i j : Int} (h1 : -18446744073709551616 < j) (h2 : j < 18446744073709551616) (h : Q (.int (i * j))) : R2J c rMulU (.int i) (.int j) Q := mul_i (.inr ⟨h1, h2⟩) h
theorem div_iP {c : Cn} {Q : Dt → Prop} {i j : Int} (h1 : 0 < j) (h2 : j < 4611686018427387904) (h : Q (.int (i / j))) : R2J c rDivI (.int i) (.int j) Q := div_i (wide_div (b := 62) h1 (by omega) (by decide) (by decide)) h
theorem rangeD_at {lo : Int} {n i : Nat} {d : Dt} (h : (rangeD lo n)[i]? = some d) : i < n ∧ d = .int (lo + (i : Nat)) := by
  unfold rangeD at h
  rw [List.getElem?_map] at h
  by_cases hi : i < n
  · rw [List.getElem?_range hi] at h; exact ⟨hi, (Option.some.inj h).symm⟩
  · rw [List.getElem?_eq_none (by rw [List.length_range]; omega)] at h; cases h
theorem rangeD_len {lo : Int} {n : Nat} : (rangeD lo n).length = n := by unfold rangeD; rw [List.length_map, List.length_range]
theorem en_map {c : Cn} {ρ : List Sl} {wi : TI} {g : TG} {t : TT} {te : TE} {vs : List Nat} {Q : List Dt → Prop} (h : IJ c wi ρ fun its => its.length ≤ 100000 ∧ ∃ f : Nat → Dt, (∀ i d, its[i]? = some d → TGE c g d (wipeS ρ vs) vs fun ρ' => EVT c t ρ' fun b => b = true ∧ EV c te ρ' fun y => y = f i) ∧ Q ((List.range its.length).map f)) :
    EN c (tLc wi g t te vs) ρ Q := en_lc (fun hd H σ v R q => h hd H σ v R fun its J H' ⟨hl, f, h1, h2⟩ => q its J H' ⟨hl, fun i acc => acc = (List.range i).map f, rfl, fun i d acc hi ha => (fun hd H σ v N s r k => h1 i d hi hd H σ v N s r fun σ2 ρ2 hk => k σ2 ρ2 (fun hd H σ v Qh q => hk hd H σ v Qh fun b H' hb => q b H' ⟨fun _ => hb.2.imp fun y hy => by (show acc ++ [y] = (List.range (i + 1)).map f); rw [hy, ha, List.range_succ, List.map_append]; rfl, fun z => by rw [hb.1] at z; cases z⟩)), fun acc ha => by rw [ha]; exact h2⟩)
theorem len_li {c : Cn} {Q : Dt → Prop} {ns : List Int} (h : Q (.int ns.length)) : RCJ c (rLenU c.K) [.lst (ns.map Dt.int)] Q := len_l (by rw [List.length_map]; exact h)
theorem len_ti {c : Cn} {Q : Dt → Prop} {ns : List Int} (h : Q (.int ns.length)) : RCJ c (rLenU c.K) [.tup (ns.map Dt.int)] Q := len_t (by rw [List.length_map]; exact h)
theorem lenOk {ds : List Dt} {P : Prop} (h : ds.length ≤ 100000) (q : P) : ds.length ≤ 100000 ∧ P := ⟨h, q⟩
theorem min_li {c : Cn} {Q : Dt → Prop} {ns : List Int} (hn : ns ≠ []) (h : Q (.int (minL ns))) : RCJ c (rMin c.K) [.lst (ns.map Dt.int)] Q := min_l hn fun m h1 h2 => by rw [minL_is h1 h2]; exact h
theorem max_li {c : Cn} {Q : Dt → Prop} {ns : List Int} (hn : ns ≠ []) (h : Q (.int (maxL ns))) : RCJ c (rMax c.K) [.lst (ns.map Dt.int)] Q := max_l hn fun m h1 h2 => by rw [maxL_is h1 h2]; exact h
theorem lenSet_li {c : Cn} {ρ : List Sl} {w : World} {ta : TA} {Q : Dt → Prop} (h : EVA c ta ρ fun ds => ∃ ns : List Int, ds = [.lst (ns.map Dt.int)] ∧ ns.length ≤ 4000 ∧ Q (.int (uniq ns).length)) : EV c (tCB (rLenSet w) (tCons (tCB (rSetI c.K w) ta) tNil)) ρ Q :=
  ev_lenSet fun hd H σ v Qh q => h hd H σ v Qh fun ds vs H' ⟨ns, e, h1, h2⟩ => q ds vs H' ⟨ns, e, h1, fun us h3 h4 => by rw [uniq_len h3 h4]; exact h2⟩
theorem atI_lt {α : Type} {xs : List α} {j : Nat} {x : α} (h : xs[j]? = some x) : atI xs ((j : Nat) : Int) = some x := atI_nat h
theorem ix_t0 {c : Cn} {Q : Dt → Prop} {d0 : Dt} {r : List Dt} (h : Q d0) : R2J c (rIx c.K) (.tup (d0 :: r)) (.int 0) Q := ix_t (atI_lt (j := 0) rfl) h
theorem ix_l0 {c : Cn} {Q : Dt → Prop} {d0 : Dt} {r : List Dt} (h : Q d0) : R2J c (rIx c.K) (.lst (d0 :: r)) (.int 0) Q := ix_l (atI_lt (j := 0) rfl) h
theorem ix_t1 {c : Cn} {Q : Dt → Prop} {d0 d1 : Dt} {r : List Dt} (h : Q d1) : R2J c (rIx c.K) (.tup (d0 :: d1 :: r)) (.int 1) Q := ix_t (atI_lt (j := 1) rfl) h
theorem ix_l1 {c : Cn} {Q : Dt → Prop} {d0 d1 : Dt} {r : List Dt} (h : Q d1) : R2J c (rIx c.K) (.lst (d0 :: d1 :: r)) (.int 1) Q := ix_l (atI_lt (j := 1) rfl) h
theorem ix_t2 {c : Cn} {Q : Dt → Prop} {d0 d1 d2 : Dt} {r : List Dt} (h : Q d2) : R2J c (rIx c.K) (.tup (d0 :: d1 :: d2 :: r)) (.int 2) Q := ix_t (atI_lt (j := 2) rfl) h
theorem ix_l2 {c : Cn} {Q : Dt → Prop} {d0 d1 d2 : Dt} {r : List Dt} (h : Q d2) : R2J c (rIx c.K) (.lst (d0 :: d1 :: d2 :: r)) (.int 2) Q := ix_l (atI_lt (j := 2) rfl) h
theorem ix_t3 {c : Cn} {Q : Dt → Prop} {d0 d1 d2 d3 : Dt} {r : List Dt} (h : Q d3) : R2J c (rIx c.K) (.tup (d0 :: d1 :: d2 :: d3 :: r)) (.int 3) Q := ix_t (atI_lt (j := 3) rfl) h
theorem ix_l3 {c : Cn} {Q : Dt → Prop} {d0 d1 d2 d3 : Dt} {r : List Dt} (h : Q d3) : R2J c (rIx c.K) (.lst (d0 :: d1 :: d2 :: d3 :: r)) (.int 3) Q := ix_l (atI_lt (j := 3) rfl) h
theorem ix_t4 {c : Cn} {Q : Dt → Prop} {d0 d1 d2 d3 d4 : Dt} {r : List Dt} (h : Q d4) : R2J c (rIx c.K) (.tup (d0 :: d1 :: d2 :: d3 :: d4 :: r)) (.int 4) Q := ix_t (atI_lt (j := 4) rfl) h
theorem ix_l4 {c : Cn} {Q : Dt → Prop} {d0 d1 d2 d3 d4 : Dt} {r : List Dt} (h : Q d4) : R2J c (rIx c.K) (.lst (d0 :: d1 :: d2 :: d3 :: d4 :: r)) (.int 4) Q := ix_l (atI_lt (j := 4) rfl) h
theorem ix_t5 {c : Cn} {Q : Dt → Prop} {d0 d1 d2 d3 d4 d5 : Dt} {r : List Dt} (h : Q d5) : R2J c (rIx c.K) (.tup (d0 :: d1 :: d2 :: d3 :: d4 :: d5 :: r)) (.int 5) Q := ix_t (atI_lt (j := 5) rfl) h
theorem ix_l5 {c : Cn} {Q : Dt → Prop} {d0 d1 d2 d3 d4 d5 : Dt} {r : List Dt} (h : Q d5) : R2J c (rIx c.K) (.lst (d0 :: d1 :: d2 :: d3 :: d4 :: d5 :: r)) (.int 5) Q := ix_l (atI_lt (j := 5) rfl) h
theorem ix_h {c : Cn} {Q : Dt → Prop} {ns : List Int} (hn : ns ≠ []) (h : Q (.int (ns.headD 0))) : R2J c (rIx c.K) (.lst (ns.map Dt.int)) (.int 0) Q := ix_li (x := ns.headD 0) (by decide) (by cases ns with
  | nil => exact absurd rfl hn
  | cons x r => rfl) h
theorem en_mapT {c : Cn} {ρ : List Sl} {tl : TE} {j : Nat} {t : TT} {te : TE} {ws : List Nat} {Q : List Dt → Prop} (hj : j ∈ ws) (h : EV c tl ρ fun d => ∃ (ds : List Dt) (f : Dt → Dt), d = .tup ds ∧ ds.length ≤ 100000 ∧ (∀ x ∈ ds, EVT c t ((wipeS ρ ws).set j (.im x)) fun b => b = true ∧ EV c te ((wipeS ρ ws).set j (.im x)) fun y => y = f x) ∧ Q (ds.map f)) :
    EN c (tLc (iTup c.K tl) (gName j) t te ws) ρ Q := en_map (ij_tup (h.imp fun d ⟨ds, f, e, h1, h2, h3⟩ => by
  subst e
  refine ⟨h1, fun i => f (ds.getD i .non), fun i d hi => ?_, ?_⟩
  · have e : ds.getD i .non = d := by rw [List.getD_eq_getElem?_getD, hi]; rfl
    show TGE c (gName j) d (wipeS ρ ws) ws fun ρ' => EVT c t ρ' fun b => b = true ∧ EV c te ρ' fun y => y = f (ds.getD i .non)
    rw [e]
    exact tge_name hj (h2 d (List.mem_of_getElem? hi))
  · have e : (List.range ds.length).map (fun i => f (ds.getD i .non)) = ds.map f := by
      apply List.ext_getElem?
      intro k
      rw [List.getElem?_map, List.getElem?_map]
      by_cases hk : k < ds.length
      · rw [List.getElem?_range hk, List.getElem?_eq_getElem hk]
        show some (f (ds.getD k .non)) = some _
        rw [List.getD_eq_getElem?_getD, List.getElem?_eq_getElem hk]; rfl
      · rw [List.getElem?_eq_none (by rw [List.length_range]; omega), List.getElem?_eq_none (by omega)]; rfl
    show Q ((List.range ds.length).map fun i => f (ds.getD i .non))
    rw [e]
    exact h3))
end CC
namespace CC
open PySem PySem.Spec PyProof.Rows L2
open C8 (Cal pe_c pe_gc)
structure ExC (K : PySem.W.Frag) (mg : Str → Option Value) (x : Str) (C : Addr) : Prop where
  g : mg x = some (.ref C)
  q : PySem.W.excIn K C He.veBase "ValueError.__new__" = true
  k : PySem.W.keepIn K (.ref C) = true
  b : PySem.W.subIn K (.ref C) (.type "BaseException") = some true
  t : PySem.W.typeIn K (.ref C) = some (.type "type")
section
variable {P : Program} {w : World} {K : PySem.W.Frag} {mg : Str → Option Value} {base : Heap}
abbrev cxX (P : Program) (w : World) (K : PySem.W.Frag) (mg : Str → Option Value) (base : Heap) (N : List Str) (qual : Str) (st : Stmt) (f : Addr) (cdv : Value) (A : Around) (outer : List Env) (s : Shared) (H : Hp) (E : XK) : Cx := cxOf (L2.CX P w) P w K mg base N qual (defScope st) f cdv A outer s H E
end
section
variable {c : Cn} {hid : Addr → Bool} {H0 H1 : Hp} {ρ : List Sl} {ta tb te : TE} {t : TT} {D : Ends} {ts tz : TS} {Q : Dt → Prop}
def EVAD (c : Cn) (hid : Addr → Bool) (H0 : Hp) (ta : TA) (ρ : List Sl) (Q : List Dt → Prop) : Prop := ∀ hd H σ, SD c hid hd H0 H σ ρ → ∀ Qh : List V → Hp → Prop, (∀ ds vs H', Q ds → Ex c.mu H H' → c.B hd H' → RpAll c.K (Hm hd H') vs ds → Qh vs H') → ta σ H Qh
theorem ead {ta : TA} {Q : List Dt → Prop} (h : EVA c ta ρ Q) : EVAD c hid H0 ta ρ Q := fun hd H σ s => h hd H σ s.toSV
def KeyJ (Q : Key → Prop) : Dt → Prop
  | .int i => Q (.inl i)
  | .str x => Q (.inr x)
  | _ => False
theorem rp_key {K : PySem.W.Frag} {G : Hp} {v : V} {d : Dt} {Q : Key → Prop} (h : KeyJ Q d) (r : Rp K G v d) : ∃ k, v = kV k ∧ Q k := by
  cases r with
  | int i => exact ⟨.inl i, rfl, h⟩
  | str x => exact ⟨.inr x, rfl, h⟩
  | _ => exact h.elim
def valD {κ : Type} [DecidableEq κ] (kvs : List (κ × Dt)) (k : κ) : Option Dt := (kvs.find? fun kv => decide (kv.1 = k)).map (·.2)
def putD {κ : Type} [DecidableEq κ] (kvs : List (κ × Dt)) (k : κ) (d : Dt) : List (κ × Dt) :=
  if (kvs.any fun kv => decide (kv.1 = k)) = true then kvs.map (fun kv => if kv.1 = k then (kv.1, d) else kv) else kvs ++ [(k, d)]
theorem RpK.any {K : PySem.W.Frag} {G : Hp} {k : Key} : ∀ {vs : List (Key × V)} {ds : List (Key × Dt)}, RpK K G vs ds → (vs.any fun kv => decide (kv.1 = k)) = ds.any fun kv => decide (kv.1 = k)
  | _, _, .nil => rfl
  | _, _, .cons _ t => by simp only [List.any_cons, RpK.any t]
theorem RpK.map {K : PySem.W.Frag} {G : Hp} {k : Key} {v : V} {d : Dt} (r : Rp K G v d) : ∀ {vs : List (Key × V)} {ds : List (Key × Dt)}, RpK K G vs ds → RpK K G (vs.map fun kv => if kv.1 = k then (kv.1, v) else kv) (ds.map fun kv => if kv.1 = k then (kv.1, d) else kv)
  | _, _, .nil => .nil
  | _, _, .cons (k := k') h t => by
    rw [List.map_cons, List.map_cons]
    by_cases e : k' = k
    · simp only [e, if_pos]; exact .cons r (RpK.map r t)
    · simp only [e, if_false]; exact .cons h (RpK.map r t)
theorem RpK.append {K : PySem.W.Frag} {G : Hp} : ∀ {vs vs' : List (Key × V)} {ds ds' : List (Key × Dt)}, RpK K G vs ds → RpK K G vs' ds' → RpK K G (vs ++ vs') (ds ++ ds')
  | _, _, _, _, .nil, s => s
  | _, _, _, _, .cons h t, s => .cons h (RpK.append t s)
theorem RpK.len {K : PySem.W.Frag} {G : Hp} : ∀ {vs : List (Key × V)} {ds : List (Key × Dt)}, RpK K G vs ds → vs.length = ds.length
  | _, _, .nil => rfl
  | _, _, .cons _ t => congrArg (· + 1) (RpK.len t)
theorem RpK.put {K : PySem.W.Frag} {G : Hp} {k : Key} {v : V} {d : Dt} (r : Rp K G v d) {vs : List (Key × V)} {ds : List (Key × Dt)} (h : RpK K G vs ds) : RpK K G (putK vs k v) (putD ds k d) := by
  unfold putK putD
  rw [h.any]
  split
  · exact h.map r
  · exact h.append (.cons r .nil)
theorem RpK.val {K : PySem.W.Frag} {G : Hp} {k : Key} : ∀ {vs : List (Key × V)} {ds : List (Key × Dt)}, RpK K G vs ds → (∀ d, valD ds k = some d → ∃ v, valV vs k = some v ∧ Rp K G v d) ∧ (valD ds k = none → valV vs k = none)
  | _, _, .nil => ⟨fun d h => (nomatch h), fun _ => rfl⟩
  | _, _, .cons (k := k') (v := v) (d := d) (vs := vs) (ds := ds) h t => by
    obtain ⟨i1, i2⟩ := RpK.val (k := k) t
    by_cases e : k' = k
    · have e1 : valD ((k', d) :: ds) k = some d := by unfold valD; rw [List.find?_cons_of_pos (by simpa using e)]; rfl
      refine ⟨fun d' hd => ⟨v, valV_pos e, ?_⟩, fun hn => by rw [e1] at hn; cases hn⟩
      rw [e1] at hd
      cases hd
      exact h
    · have e1 : valD ((k', d) :: ds) k = valD ds k := by unfold valD; rw [List.find?_cons_of_neg (by simpa using e)]
      rw [e1, valV_neg (p := (k', v)) e]
      exact ⟨i1, i2⟩
theorem keyJs {Q : Key → Prop} {x : Str} (h : Q (.inr x)) : KeyJ Q (.str x) := h
end
end CC
namespace CC
open PySem PySem.Spec PyProof.Rows L2
def dKey : Key → Dt
  | .inl i => .int i
  | .inr x => .str x
end CC
namespace CC
open PySem PySem.Spec PyProof.Rows L2
open C8 (Cal pe_c pe_gc)
def Bx (b l : Addr) (H : Hp) : Prop := ∃ (s : Int) (ns : List Int), H b = some (.lst [.ref l, .int s]) ∧ H l = some (.lst (ns.map V.int))
def muB (b l : Addr) : Addr → Bool := fun a => decide (a = b) || decide (a = l)
theorem muB_b {b l : Addr} : muB b l b = true := by unfold muB; rw [decide_eq_true rfl, Bool.true_or]
theorem muB_l {b l : Addr} : muB b l l = true := by unfold muB; rw [decide_eq_true rfl, Bool.or_true]
theorem muB_of {b l a : Addr} (h : muB b l a = true) : a = b ∨ a = l := by
  unfold muB at h
  rcases Bool.or_eq_true_iff.mp h with h | h
  · exact .inl (of_decide_eq_true h)
  · exact .inr (of_decide_eq_true h)
abbrev cnB (K : PySem.W.Frag) (b l : Addr) : Cn := ⟨K, muB b l, fun _ H => Bx b l H, fun _ _ H H' _ h ⟨s, ns, h1, h2⟩ => ⟨s, ns, h b _ (.inl muB_b) h1, h l _ (.inl muB_l) h2⟩⟩
def spB (K : PySem.W.Frag) (S : List Dt → (Dt → Prop) → Prop) : Sp := fun vs H Qh _ => ∃ b l ws hid ds Q, vs = .ref b :: ws ∧ b ≠ l ∧ Bx b l H ∧ hid b = true ∧ hid l = true ∧ (∀ a, hid a = true → H a ≠ none) ∧ RpAll K (Hm hid H) ws ds ∧ S ds Q ∧
  ∀ d v H', Q d → Ex (muB b l) H H' → Bx b l H' → Rp K (Hm hid H') v d → Qh v H'
section
variable {K : PySem.W.Frag} {b l : Addr} {ρ : List Sl} {Q : Dt → Prop} {QL : List Dt → Prop}
theorem rw_get {c : Cn} {hd : Addr → Bool} {H : Hp} {σ : L2.St} (s : SlAll c hd H σ ρ) {i : Nat} {u : V} (hi : ρ[i]? = some (.rw u)) : σ[i]? = some (some u) := by
  obtain ⟨x, g1, g2⟩ := s.get hi
  cases x with
  | none => exact g2.elim
  | some v => rw [g1, show v = u from g2]
theorem ev_callB {S : List Dt → (Dt → Prop) → Prop} {E : XK} {i : Nat} {ta : TA} (hne : b ≠ l) (hi : ρ[i]? = some (.rw (.ref b))) (h : EVA (cnB K b l) ta ρ fun ds => S ds Q) : EV (cnB K b l) (tCall (spB K S) [] E (tCons (tVar i) ta)) ρ Q := fun hd H σ v Qh q =>
  ⟨.ref b, rw_get v.slots hi, h hd H σ v _ fun ds vs H1 h1 e1 b1 r1 => by
    show spB K S ((.ref b :: vs) ++ []) H1 Qh E
    rw [List.append_nil]
    exact ⟨b, l, vs, hd, ds, Q, rfl, hne, b1, v.muh b muB_b, v.muh l muB_l, fun a h => e1.dom a (v.dom a h), r1, h1, fun d z H2 hq e2 b2 r2 => q d z H2 hq (e1.trans e2) b2 r2⟩⟩
end
theorem sd_box {K : PySem.W.Frag} {b l : Addr} {hid : Addr → Bool} {H : Hp} {N : List Str} {ws : List V} {ds : List Dt} (hne : b ≠ l) (bx : Bx b l H) (hb : hid b = true) (hl : hid l = true) (dom : ∀ a, hid a = true → H a ≠ none) (r : RpAll K (Hm hid H) ws ds) (hN : N ≠ []) :
    SD (cnB K b l) hid hid H H (L2.start N (.ref b :: ws)) (.rw (.ref b) :: startS N.tail ds) := by
  have hlen := r.length
  have e : L2.start N (.ref b :: ws) = some (.ref b) :: L2.start N.tail ws := by
    unfold L2.start
    rw [List.map_cons, List.cons_append, List.length_cons, List.length_tail]
    congr 3
    have := List.length_pos_iff.mpr hN
    omega
  have sd := sd_start (c := cnB K b l) (N := N.tail) dom (fun a h => by
    rcases muB_of h with rfl | rfl
    · exact hb
    · exact hl) bx r
  rw [e]
  have key : ∀ i o, ¬ ownAt (some (.ref b) :: L2.start N.tail ws) (.rw (.ref b) :: startS N.tail ds) i o := fun i o h => by
    obtain ⟨h1, s, h2, h3⟩ := h
    cases i with
    | zero => cases h2; cases h3
    | succ i => rw [owns_im (show (startS N.tail ds)[i]? = some s from h2)] at h3; cases h3
  exact ⟨⟨sd.dom, sd.muh, bx, .cons rfl sd.slots⟩, sd.sub, sd.ext, sd.new, fun i j o h1 => (key i o h1).elim, fun i o h1 => (key i o h1).elim⟩
section
variable {P : Program} {w : World} {K : PySem.W.Frag} {mg : Str → Option Value} {base : Heap}
theorem cal_box {x : Str} {st : Stmt} {N ps : List Str} {k : Nat} {S : List Dt → (Dt → Prop) → Prop} (F : FnAt K mg x st ps) (Sc : FnScope N ps (defScope st)) (hN : N ≠ []) (len : ∀ ds Q, S ds Q → ds.length + 1 = ps.length)
    (hb : ∀ (f : Addr) (cdv : Value) (A : Around) (outer : List Env) (s : Shared) (H : Hp) (E : XK), Room k (A.deeper (envOfC x (defScope st) s.heap.objs.size f cdv)) →
      ∃ t, PSs (cxD P w K mg base N x st f cdv A outer s H E) (defBody st) t ∧ ∀ ds Q, S ds Q → ∀ b l, b ≠ l → ∀ hid H0 (D : Ends), (∀ a, hid a = true → H0 a ≠ none) → RetOk (cnB K b l) hid H0 Q D → NJ (cnB K b l) hid H0 (t D) (.rw (.ref b) :: startS N.tail ds)) :
    Cal P w K mg base (k + 1) x (spB K S) [] := by
  obtain ⟨f, fd, hm, F, bi⟩ := F
  refine ⟨⟨f, fd, ps, [], F.ok Sc (fun vs H Q E h => ?_) (fun cdv A outer s H vs Q E hr h => ?_), hm, F.kp, bi, .nil⟩⟩
  · obtain ⟨b, l, ws, hid, ds, Q', rfl, _, _, _, _, _, r, hS, _⟩ := h
    rw [List.length_cons, r.length]
    exact len ds Q' hS
  · obtain ⟨b, l, ws, hid, ds, Q', rfl, hne, bx, h1, h2, dom, r, hS, q⟩ := h
    obtain ⟨t, ht, hn⟩ := hb f cdv A outer s H E hr
    exact ⟨t, ht, hn ds Q' hS b l hne hid H { nx := fun _ H' => Q .non H', rt := Q } dom ⟨fun d hd v H' e bb r => q d v H' hd e bb r, fun hd ρ hd' H' σ sd => q .non .non H' hd sd.ext sd.inv .non⟩ hid H _ (sd_box hne bx h1 h2 dom r hN)⟩
end
end CC
namespace CC
open PySem PySem.Spec PyProof.Rows L2
theorem in_s {c : Cn} {Q : Dt → Prop} {x : Str} {xs : List Str} (h : Q (.bl (inV (.str x) (xs.map V.str)))) : R2J c (rInU c.K) (.str x) (.tup (xs.map Dt.str)) Q := fun hd H u y dom mh bb rx ry Qh q => by
  cases rx
  cases ry with
  | tup ha ra =>
    have e := ra.strs
    subst e
    refine .inl ⟨_, _, rfl, .inr (sqt_hm ha), rfl, ?_, kv_here q bb h (.bl _)⟩
    rw [List.all_eq_true]
    intro z hz
    obtain ⟨n, _, rfl⟩ := List.mem_map.mp hz
    rfl
end CC
namespace CC
open PySem PySem.Spec PyProof.Rows L2
open C8 (Cal pe_c pe_gc)
end CC
namespace CC
open PySem PySem.Spec PyProof.Rows L2
open PySem.W (AlikeAll minD dataLt alike alikeAll alike_unique reads_keeps min_list_data dataLt_int dataLt_tuple dataLt_list dataLt_all_yes dataLt_all_no)
end CC
namespace CC
open PySem PySem.Spec PyProof.Rows L2
open C8 (Cal pe_c pe_gc)
open PySem.W (AlikeAll minD dataLt alike alikeAll dataLt_int dataLt_tuple dataLt_list dataLt_all_yes dataLt_all_no)
theorem RpT.any {K : PySem.W.Frag} {G : Hp} {k : List Key} : ∀ {vs : List (List Key × V)} {ds : List (List Key × Dt)}, RpT K G vs ds → (vs.any fun kv => decide (kv.1 = k)) = ds.any fun kv => decide (kv.1 = k)
  | _, _, .nil => rfl
  | _, _, .cons _ t => by simp only [List.any_cons, RpT.any t]
theorem RpT.map {K : PySem.W.Frag} {G : Hp} {k : List Key} {v : V} {d : Dt} (r : Rp K G v d) : ∀ {vs : List (List Key × V)} {ds : List (List Key × Dt)}, RpT K G vs ds → RpT K G (vs.map fun kv => if kv.1 = k then (kv.1, v) else kv) (ds.map fun kv => if kv.1 = k then (kv.1, d) else kv)
  | _, _, .nil => .nil
  | _, _, .cons (k := k') h t => by
    rw [List.map_cons, List.map_cons]
    by_cases e : k' = k
    · simp only [e, if_pos]; exact .cons r (RpT.map r t)
    · simp only [e, if_false]; exact .cons h (RpT.map r t)
theorem RpT.append {K : PySem.W.Frag} {G : Hp} : ∀ {vs vs' : List (List Key × V)} {ds ds' : List (List Key × Dt)}, RpT K G vs ds → RpT K G vs' ds' → RpT K G (vs ++ vs') (ds ++ ds')
  | _, _, _, _, .nil, s => s
  | _, _, _, _, .cons h t, s => .cons h (RpT.append t s)
theorem RpT.len {K : PySem.W.Frag} {G : Hp} : ∀ {vs : List (List Key × V)} {ds : List (List Key × Dt)}, RpT K G vs ds → vs.length = ds.length
  | _, _, .nil => rfl
  | _, _, .cons _ t => congrArg (· + 1) (RpT.len t)
theorem RpT.put {K : PySem.W.Frag} {G : Hp} {k : List Key} {v : V} {d : Dt} (r : Rp K G v d) {vs : List (List Key × V)} {ds : List (List Key × Dt)} (h : RpT K G vs ds) : RpT K G (putK vs k v) (putD ds k d) := by
  unfold putK putD
  rw [h.any]
  split
  · exact h.map r
  · exact h.append (.cons r .nil)
theorem RpT.val {K : PySem.W.Frag} {G : Hp} {k : List Key} : ∀ {vs : List (List Key × V)} {ds : List (List Key × Dt)}, RpT K G vs ds → ∀ d, valD ds k = some d → ∃ v, valV vs k = some v ∧ Rp K G v d
  | _, _, .nil, d, h => nomatch h
  | _, _, .cons (k := k') (v := v) (d := d) (vs := vs) (ds := ds) h t, d', hd => by
    by_cases e : k' = k
    · have e1 : valD ((k', d) :: ds) k = some d := by unfold valD; rw [List.find?_cons_of_pos (by simpa using e)]; rfl
      rw [e1] at hd
      cases hd
      exact ⟨v, valV_pos e, h⟩
    · have e1 : valD ((k', d) :: ds) k = valD ds k := by unfold valD; rw [List.find?_cons_of_neg (by simpa using e)]
      rw [e1] at hd
      rw [valV_neg (p := (k', v)) e]
      exact RpT.val t d' hd
end CC
namespace CC
open PySem PySem.Spec PyProof.Rows L2
open C8 (Cal pe_c pe_gc)
open PySem.W (AlikeAll minD dataLt alike alikeAll dataLt_int dataLt_tuple dataLt_list dataLt_all_yes dataLt_all_no)
abbrev Tri : Type := Int × Int × List Int
end CC
namespace CC
open PySem PySem.Spec PyProof.Rows L2
end CC
namespace CC
open PySem PySem.Spec PyProof.Rows L2
open C8 (Cal pe_c pe_gc)
theorem nj_at {c : Cn} {hid hd : Addr → Bool} {H0 H : Hp} {σ : L2.St} {ρ : List Sl} {N : L2.St → Hp → Prop} (k : NJ c hid H0 N ρ) (s : SD c hid hd H0 H σ ρ) : N σ H := k hd H σ s
theorem sd_begun {K : PySem.W.Frag} {a b l : Addr} {H : Hp} (n : Nat) (bx : Bx b l H) : SD (cnB K b l) (muB b l) (muB b l) H H (some (.ref a) :: some (.ref b) :: List.replicate n none) (.rw (.ref a) :: .rw (.ref b) :: List.replicate n .un) := by
  have ho : ∀ i o, ¬ ownAt (some (.ref a) :: some (.ref b) :: List.replicate n none) (.rw (.ref a) :: .rw (.ref b) :: List.replicate n .un) i o := fun i o h => by
    obtain ⟨_, s, h2, h3⟩ := h
    match i, h2 with
    | 0, h2 => cases h2; cases h3
    | 1, h2 => cases h2; cases h3
    | i + 2, h2 =>
      have := List.mem_of_getElem? (l := List.replicate n Sl.un) (i := i) h2
      rw [List.eq_of_mem_replicate this] at h3
      cases h3
  refine ⟨⟨fun x h => ?_, fun x h => h, bx, .cons rfl (.cons rfl ?_)⟩, fun x h => h, .refl, fun x h1 h2 => ?_, fun i j o h => (ho i o h).elim, fun i o h => (ho i o h).elim⟩
  · obtain ⟨s, ns, h1, h2⟩ := bx
    rcases muB_of h with rfl | rfl
    · rw [h1]; exact fun z => nomatch z
    · rw [h2]; exact fun z => nomatch z
  · induction n with
    | zero => exact .nil
    | succ n ih => exact .cons slok_un (ih fun i o h => by
        obtain ⟨h1, s, h2, h3⟩ := h
        match i, h2 with
        | 0, h2 => cases h2; cases h3
        | 1, h2 => cases h2; cases h3
        | i + 2, h2 =>
          have := List.mem_of_getElem? (l := List.replicate n Sl.un) (i := i) h2
          rw [List.eq_of_mem_replicate this] at h3
          cases h3)
  · rw [h1] at h2; cases h2
theorem k_bb : kitB "bool" "bool" = some true := by decide +kernel
theorem k_ib : kitB "int" "bool" = some false := by decide +kernel
theorem k_sb : kitB "str" "bool" = some false := by decide +kernel
theorem k_tb : kitB "tuple" "bool" = some false := by decide +kernel
theorem k_lb : kitB "list" "bool" = some false := by decide +kernel
theorem k_ii : kitB "int" "int" = some true := by decide +kernel
theorem k_si : kitB "str" "int" = some false := by decide +kernel
theorem k_ti : kitB "tuple" "int" = some false := by decide +kernel
theorem k_li : kitB "list" "int" = some false := by decide +kernel
theorem k_ss : kitB "str" "str" = some true := by decide +kernel
theorem k_ts : kitB "tuple" "str" = some false := by decide +kernel
theorem k_ls : kitB "list" "str" = some false := by decide +kernel
theorem k_tt : kitB "tuple" "tuple" = some true := by decide +kernel
theorem k_lt : kitB "list" "tuple" = some false := by decide +kernel
theorem k_tl : kitB "tuple" "list" = some false := by decide +kernel
theorem k_ll : kitB "list" "list" = some true := by decide +kernel
inductive Al : Nat → Dt → Prop
  | non {n : Nat} : Al n .non
  | bl {n : Nat} (b : Bool) : Al n (.bl b)
  | int {n : Nat} (i : Int) : Al n (.int i)
  | str {n : Nat} (x : Str) : Al n (.str x)
  | lst {n : Nat} {ds : List Dt} (h : ∀ d ∈ ds, Al n d) (hl : ds.length ≤ 100000) : Al (n + 1) (.lst ds)
  | tup {n : Nat} {ds : List Dt} (h : ∀ d ∈ ds, Al n d) (hl : ds.length ≤ 100000) : Al (n + 1) (.tup ds)
theorem Al.up {n : Nat} {d : Dt} (h : Al n d) : Al (n + 1) d := by
  induction h with
  | non => exact .non
  | bl b => exact .bl b
  | int i => exact .int i
  | str x => exact .str x
  | lst h hl ih => exact .lst ih hl
  | tup h hl ih => exact .tup ih hl
theorem RgC.up {n c : Int} (h0 : 0 ≤ n) (h1 : n < 1000000) (hc : 1 ≤ c) (hc2 : c < 1000000) : RgC 0 n c ((n + c - 1) / c).toNat := by
  have hq0 : 0 ≤ (n + c - 1) / c := Int.ediv_nonneg (by omega) (by omega)
  have hq1 : (n + c - 1) / c ≤ n := by
    rcases Int.lt_or_le 0 n with hn | hn
    · have h2 : n + c - 1 < (n + 1) * c := by
        have : n * 1 ≤ n * c := Int.mul_le_mul_of_nonneg_left hc h0
        have e : (n + 1) * c = n * c + c := by rw [Int.add_mul, Int.one_mul]
        omega
      have h3 : (n + c - 1) / c < n + 1 := Int.ediv_lt_of_lt_mul (by omega) h2
      omega
    · have : n = 0 := by omega
      subst this
      have : (0 + c - 1) / c = 0 := Int.ediv_eq_zero_of_lt (by omega) (by omega)
      omega
  have hs : Builtin.Range.rangeSize 0 n c = (n + c - 1) / c := PyProof.Rows.rangeSize_pos hc h0
  refine ⟨by omega, by omega, ?_, by rw [hs]; omega⟩
  unfold Builtin.Range.small
  rw [hs]
  have hm1 : (n + c - 1) / c * c ≤ n + c - 1 := Int.ediv_mul_le _ (by omega)
  simp only [Builtin.Range.rangeFitsLong, Bool.and_eq_true, Bool.or_eq_true, decide_eq_true_eq, beq_iff_eq, show c > 0 by omega, if_true]
  omega
end CC
namespace CC
open PySem PySem.Spec PyProof.Rows L2
theorem eq_nil {c : Cn} {Q : Dt → Prop} {ds : List Dt} {n : Nat} (s : ∀ d ∈ ds, Sh n d) (hn : n < 64) (h : Q (.bl ds.isEmpty)) : R2J c (rEqU c.K) (.lst ds) (.lst []) Q := by
  refine eq_d (.lst s) (.lst (n := 0) fun d hd => by cases hd) hn (by decide) ?_
  cases ds <;> exact h
end CC
namespace CC
open PySem PySem.Spec PyProof.Rows L2
open PySem.W (AlikeAll minD dataLt alike alikeAll dataLt_int dataLt_tuple dataLt_list dataLt_all_yes dataLt_all_no keyToksAll keyToks)
def lexI : List Int → List Int → Bool
  | [], [] => false
  | [], _ :: _ => true
  | _ :: _, [] => false
  | x :: a, y :: b => if x = y then lexI a b else decide (x < y)
def tl (a b : Tri) : Prop := a.1 < b.1 ∨ (a.1 = b.1 ∧ (a.2.1 < b.2.1 ∨ (a.2.1 = b.2.1 ∧ lexI a.2.2 b.2.2 = true)))
end CC
namespace CC
open PySem PySem.Spec PyProof.Rows L2
section
variable {X : Cx}
def rCntV (K : PySem.W.Frag) : V → List V → Hp → VK → Prop := fun x xs H Q => ∃ (p : Addr) (ys : List V) (y : V), x = .ref p ∧ xs = [y] ∧ SqL K H p ys ∧ flatV y = true ∧ ys.all flatV = true ∧ Q (.int ((ys.countP fun z => eqV z y : Nat) : Int)) H
theorem cntV {y : V} : ∀ {ys : List V} {us : List Value}, Vals ys us → ys.all flatV = true → us.countP (eqU y) = ys.countP fun z => eqV z y
  | _, _, .nil, _ => rfl
  | z :: ys, u :: us, .cons r t, f => by
    rw [List.all_cons, Bool.and_eq_true] at f
    rw [List.countP_cons, List.countP_cons, cntV t f.2, eqU_of r f.1]
theorem mt_countV : MtR X "list.count" (rCntV X.K) := by
  intro pins s σ H x xs v us Q I rx rxs h
  obtain ⟨p, ys, y, rfl, rfl, hs, fy, fys, q⟩ := h
  cases rx
  obtain ⟨u, rfl, ru⟩ := rxs.one
  obtain ⟨its, rv, ⟨⟨cls, dd, data, sl⟩, n, ho, hc, hdn, hd⟩, hlen⟩ := I.list hs
  simp only at hc hd
  subst hc hd
  refine call_meets PySem.F.slot_list_count ⟨_, ho, rfl⟩ PySem.F.entry_list_count (PySem.F.args_list_count_2 _ _) (SeqAt.list_countAt p its.toArray n dd sl u (eqU y)) ⟨ho, fun u' hu' => mem_eqAt ru fy rv fys u' (by simpa using hu'), ?_⟩
  refine ⟨.int ((ys.countP fun z => eqV z y : Nat) : Int), H, I.tok _, ⟨s.toks, ?_⟩, q⟩
  have e : its.toArray.toList.countP (eqU y) = ys.countP fun z => eqV z y := cntV rv fys
  rw [e]
end
abbrev SpE : Type := Addr × Obj → Sp
structure FnE (P : Program) (w : World) (K : PySem.W.Frag) (mg : Str → Option Value) (base : Heap) (k : Nat) (f : Addr) (fd : FuncData) (ps : List Str) (sp : SpE) : Prop where
  len : ∀ p vs H Q E, sp p vs H Q E → vs.length = ps.length
  run : ∀ (A : Around) (outer : List Env) (s : Shared) (H : Hp) (args : Args) (us : List Value) (vs : List V) (Q : VK) (E : XK) (p : Addr × Obj), L2H.RoomH k A → L2H.PinOk outer H s p → Env0 P w K mg base A outer s H →
    BindsTo s fd args (ps.zip us) → Vals vs us → sp p vs H Q E → codeAny (model P w) A (.call (.ref f) args) (CR CX0 outer P w H s Q E) s
abbrev cxE (P : Program) (w : World) (K : PySem.W.Frag) (mg : Str → Option Value) (base : Heap) (N : List Str) (qual : Str) (st : Stmt) (f : Addr) (cdv : Value) (A : Around) (outer : List Env) (s : Shared) (H : Hp) (E : XK) (p : Addr × Obj) : Cx := L2H.cxH CX0 P w K mg base N qual (defScope st) f cdv A outer s H E p
theorem fn_ofE {P : Program} {w : World} {K : PySem.W.Frag} {mg : Str → Option Value} {base : Heap} {k : Nat} {x qual : Str} {st : Stmt} {f : Addr} {fd : FuncData} {N ps : List Str} {sp : SpE} (F : Fun K x qual st f fd) (S : FnScope N ps (defScope st))
    (len : ∀ p vs H Q E, sp p vs H Q E → vs.length = ps.length)
    (hbody : ∀ (cdv : Value) (A : Around) (outer : List Env) (s : Shared) (H : Hp) (vs : List V) (Q : VK) (E : XK) (p : Addr × Obj), L2H.RoomH k (A.deeper (envOfC qual (defScope st) s.heap.objs.size f cdv)) → sp p vs H Q E →
      ∃ t, PSs (cxE P w K mg base N qual st f cdv A outer s H E p) (defBody st) t ∧ t { nx := fun _ H' => Q .non H', rt := Q } (L2.start N vs) H) :
    FnE P w K mg base (k + 1) f fd ps sp := by
  obtain ⟨⟨oc, od, kV, doc, pm, an, cdv, ct, osl, rfl, lk, hcd⟩, kp⟩ := F
  refine ⟨len, fun A outer s H args us vs Q E p hr hpin e0 hb r hsp => ?_⟩
  have hl : vs.length = ps.length := len _ _ _ _ _ hsp
  have kin : K.In s.heap := e0.mod.kin.keeps fun b o e => (e0.bs b o e).1
  have nol : s.heap.NoLimit := e0.mod.nolimit.keeps fun b o e => (e0.bs b o e).1
  refine codeAny_call_function hr.depth (kin _ _ lk) rfl S.co S.gen rfl (PySem.W.codeRec_of kin hcd) (hb _ _ _ _ ?_)
  refine wpAny_newFunctionEnv_cells S.kind (fun y hy => ?_) fun env he s1 x => ?_
  · obtain ⟨n, v⟩ := y
    rcases S.par n (List.of_mem_zip hy).1 with q | q
    · exact .inl q
    · exact .inr ⟨q, PySem.W.cellsFrom_some _ _ _ (.inl q)⟩
  · subst he
    refine ⟨nol.keeps x.toInCall.keep, codeAny_func ?_⟩
    obtain ⟨t, ht, hq⟩ := hbody cdv A outer s H vs Q E p (hr.deeper _) hsp
    have inv := L2H.inv_startH (CX := CX0) (P := P) (w := w) (K := K) (mg := mg) (base := base) (E := E) S hpin e0 hl r x
    refine wpAny_mono (ht.run [] s1 (L2.start N vs) H _ inv hq) (fun fl s' hs => ?_) fun e s' hs => hs
    cases fl with
    | ret u =>
      obtain ⟨v, σ', H', J, rv, q⟩ := hs
      exact ⟨v, H', J.os, J.bare, J.base, J.hok, rv, q⟩
    | next =>
      obtain ⟨σ', H', J, q⟩ := hs
      exact ⟨.non, H', J.os, J.bare, J.base, J.hok, rfl, q⟩
    | brk =>
      obtain ⟨_, _, _, z⟩ := hs
      exact z.elim
    | cont =>
      obtain ⟨_, _, _, z⟩ := hs
      exact z.elim
def tCallE (sp : SpE) (p : Addr × Obj) (t : TA) : TE := fun σ H Q => t σ H fun vs H1 => sp p vs H1 Q fun _ _ _ => False
theorem pe_callE {X : Cx} {k : Nat} {f : Addr} {fd : FuncData} {ps : List Str} {sp : SpE} {x : Str} {q pos : Pos} {e : Expr} {es : List Expr} {t : TA} {p : Addr × Obj} (F : FnE X.prog X.w X.K X.mg X.base k f fd ps sp) (hr : L2H.RoomH k X.A) (hp : p ∈ X.pn) (hg : Gl X x) (hm : X.mg x = some (.ref f)) (hk : PySem.W.keepIn X.K (.ref f) = true) (hb : Binds X.K fd ps [])
    (ha : PA X (e :: es) t) (hdb : (x == ("__debug__" : Str)) = false := by decide) (he : starEach (e :: es) X.env = (false, eval e X.env) :: starEach es X.env := by rfl) (hpl : (backTo pos (starEach es X.env)).any (·.1) = false := by rfl) :
    PE X (.Call (.Name x q) (e :: es) [] pos) (tCallE sp p t) := by
  refine ⟨fun pins s σ H Q I h => ?_⟩
  refine wpAny_Call_Name_kw (ld_glob I hg hm ?_ hdb)
  refine PySem.W.callWith_K (h₀ := X.base) I.ok.mod.kin hk (thn (ha.run pos pins s σ H _ I h) fun us s1 hh => ?_) he hpl
  obtain ⟨vs, H1, I1, r, hsp⟩ := hh
  refine ⟨I1.kIn, ?_⟩
  have hl : us.length = ps.length := by rw [← r.length]; exact F.len _ _ _ _ _ hsp
  have b := hb s1 us I1.kIn (by rw [List.append_nil]; exact hl)
  rw [List.append_nil] at b
  obtain ⟨p1, p2, p3, p4, p5⟩ := I1.pin p (List.mem_append_left _ hp)
  have pin : L2H.PinOk X.stack H1 s1 p := ⟨p1, p2, fun hm => (List.mem_cons.mp (I1.stkSub p.1 hm)).elim p3 p4, p5⟩
  refine wpAny_call (codeAny_mono (F.run X.A X.stack s1 H1 ⟨us, []⟩ us vs Q _ p hr pin I1.env0 b r hsp) fun r s' hq => ?_)
  cases r with
  | error e => exact hq.elim
  | ok fl =>
    cases fl with
    | ret u => exact I1.after hq
    | next => exact hq.elim
    | brk => exact hq.elim
    | cont => exact hq.elim
end CC
namespace CC
open PySem PySem.Spec PyProof.Rows L2
open LamX (CodeO TabS TabB LamS lamEnv lamCx GivesTo inv_table among_app codeO_ne run_ofS pe_act)
abbrev SpC : Type := Addr → Value → Option Addr → Sp
def spOfC (sp : SpC) : SpE := fun p vs H Q E => ∃ cls d, Zc cls d p.2 ∧ (∃ vs, p.2.data = .fields vs) ∧ sp p.1 cls d vs H Q E
structure CalE (P : Program) (w : World) (K : PySem.W.Frag) (mg : Str → Option Value) (base : Heap) (k : Nat) (x : Str) (sp : SpC) : Prop where
  ex : ∃ (f : Addr) (fd : FuncData) (ps : List Str), FnE P w K mg base k f fd ps (spOfC sp) ∧ mg x = some (.ref f) ∧ PySem.W.keepIn K (.ref f) = true ∧ Binds K fd ps []
def tCallC (sp : SpC) (a : Addr) (cls : Value) (d : Option Addr) (t : TA) : TE := fun σ H Q => t σ H fun vs H1 => sp a cls d vs H1 Q fun _ _ _ => False
theorem pe_callC {X : Cx} {k : Nat} {sp : SpC} {x : Str} {q pos : Pos} {e : Expr} {es : List Expr} {i : Nat} {a : Addr} {oe : Obj} {cls : Value} {d : Option Addr} (F : CalE X.prog X.w X.K X.mg X.base k x sp) (hr : L2H.RoomH k X.A) (hp : (a, oe) ∈ X.pn) (hz : Zc cls d oe) (hf : ∃ vs, oe.data = .fields vs) (hg : Gl X x)
    (ha : PA X (e :: es) (tCons (tVar i) tNil)) (hdb : (x == ("__debug__" : Str)) = false := by decide) (he : starEach (e :: es) X.env = (false, eval e X.env) :: starEach es X.env := by rfl) (hpl : (backTo pos (starEach es X.env)).any (·.1) = false := by rfl) :
    PE X (.Call (.Name x q) (e :: es) [] pos) (tCallC sp a cls d (tCons (tVar i) tNil)) := by
  obtain ⟨f, fd, ps, F, hm, hk, hb⟩ := F.ex
  have hp := pe_callE (p := (a, oe)) (q := q) (pos := pos) F hr hp hg hm hk hb ha hdb he hpl
  refine ⟨fun pins s σ H Q I h => hp.run pins s σ H Q I ?_⟩
  obtain ⟨v, h1, h2⟩ := h
  exact ⟨v, h1, cls, d, hz, hf, h2⟩
theorem roomH_mark {k : Nat} {A : Around} {h : Option Value} (r : Room k A) : L2H.RoomH k (A.mark h) := ⟨r.dp, r.un⟩
def tXfA (K : PySem.W.Frag) (a : Addr) (cls : Value) (d : Option Addr) (f : Str) (te : TE) : TE := fun σ H Q => te σ H fun x H1 => x = .ref a ∧ ∃ (C dd : Addr) (fs : List (Str × V)) (v : V), cls = .ref C ∧ XfC K C ∧ PySem.W.findIn K (.ref C) f = some none ∧ d = some dd ∧ H1 dd = some (.xd fs) ∧ fs.lookup f = some v ∧ Q v H1
theorem pe_xfA {X : Cx} {a : Addr} {oe : Obj} {cls : Value} {d : Option Addr} {pn : List (Addr × Obj)} {e : Expr} {te : TE} {pos : Pos} {n : Str} (hz : Zc cls d oe) (hf : ∃ vs, oe.data = .fields vs) (he : PE (X.suite a ((a, oe) :: pn)) e te) (hb : attributeBase e n X.env (eval e X.env) = eval e X.env := by rfl) :
    PE (X.suite a ((a, oe) :: pn)) (.Attribute e n pos) (tXfA X.K a cls d n te) := by
  refine ⟨fun pins s σ H Q I h => attr_of hb (thn (he.run pins s σ H _ I h) fun u s1 hh => ?_)⟩
  obtain ⟨x, H1, I1, rx, ex, C, dd, fs, v, ec, T, hno, ed, ea, l, q⟩ := hh
  subst ex ec ed
  cases (show u = Value.ref a from rx)
  obtain ⟨vs, hd⟩ := hf
  have get := (I1.pin (a, oe) (List.mem_append_left _ List.mem_cons_self)).1
  obtain ⟨mA, hns, hr⟩ := show ObjOk X.prog X.w H1 s1.heap dd (.xd fs) from I1.hok dd _ ea
  obtain ⟨od, ho, hl⟩ := lookIn_ns hns
  obtain ⟨u, hu, ru⟩ := RelO.some_of (v := v) (o := mA n) (by rw [← l]; exact hr n)
  have inst : PySem.W.InstAt s1.heap a oe C (some od) := ⟨get, hz.1, by unfold PySem.W.notCls; rw [hd] <;> rfl, by rw [hz.2]; exact ho⟩
  exact HandSPX.exc_get I1.kIn inst T.ga T.gg T.exC (PySem.W.findObj_own T.hdC hno rfl (by rw [hl, hu])) (handed_of ru) ⟨v, H1, I1.tok _, ru, q⟩
end CC
namespace CC
open PySem PySem.Spec PyProof.Rows L2
open C8 (Cal pe_c pe_gc)
open LamX (CodeO TabS TabB LamS lamEnv lamCx codeO_ne)
def Pl (d : Option Addr) (pl : Option Int) (H : Hp) : Prop := match d, pl with
  | none, none => True
  | some dd, some i => H dd = some (.xd [("place", .int i)])
  | _, _ => False
def placed (nm : Str) : Bool := decide (nm = "BadValues") || (decide (nm = "BadRows") || decide (nm = "BadText"))
def Ew (K : PySem.W.Frag) (names : List Str) (Qh : VK) : XK := fun cls d H => ∃ (nm : Str) (pl : Option Int) (hid : Addr → Bool), nm ∈ names ∧ placed nm = pl.isSome ∧ cls = .ref (He.ga K nm) ∧ Pl d pl H ∧ (∀ a, hid a = true → H a ≠ none) ∧ (∀ dd, d = some dd → hid dd = false) ∧ ∀ H' v, Ex none0 H H' → Rp K (Hm hid H') v (.tup [.str nm, .int (pl.getD 0)]) → Qh v H'
section
variable {P : Program} {w : World} {K : PySem.W.Frag} {mg : Str → Option Value} {base : Heap}
theorem Fun.okC {x qual : Str} {st : Stmt} {f : Addr} {fd : FuncData} {N ps : List Str} {k : Nat} {sp : Sp} (F : Fun K x qual st f fd) (S : FnScope N ps (defScope st)) (len : ∀ vs H Q E, sp vs H Q E → vs.length = ps.length)
    (hbody : ∀ (A : Around) (outer : List Env) (s : Shared) (H : Hp) (vs : List V) (Q : VK) (E : XK), Room k (A.deeper (envOfC qual (defScope st) s.heap.objs.size f fd.code)) → sp vs H Q E →
      ∃ t, PSs (cxD P w K mg base N qual st f fd.code A outer s H E) (defBody st) t ∧ t { nx := fun _ H' => Q .non H', rt := Q } (L2.start N vs) H) : FnOk P w K mg base CX0 (k + 1) f fd ps sp := by
  obtain ⟨oc, od, kV, doc, pm, an, cdv, ct, osl, rfl, lk, hcd⟩ := F.ex
  exact fn_of lk hcd S len fun A outer s H vs Q E hr hsp => by
    obtain ⟨t, h, q⟩ := hbody A outer s H vs Q E hr hsp
    exact ⟨t, h.nox, q⟩
end
section
variable {c : Cn} {ρ : List Sl} {Q : Dt → Prop}
theorem rp_bls {G : Hp} {K : PySem.W.Frag} {v : V} {bs : List Bool} (r : Rp K G v (.lst (bs.map Dt.bl))) : ∃ a, v = .ref a ∧ G a = some (.lst (bs.map V.bl)) := by
  cases r with
  | lst ha ra =>
    have e := ra.bls
    subst e
    exact ⟨_, rfl, ha⟩
theorem flat_bls (bs : List Bool) : (bs.map V.bl).all flatV = true := by
  rw [List.all_eq_true]
  intro z hz
  obtain ⟨b, _, rfl⟩ := List.mem_map.mp hz
  rfl
theorem ev_indexB {K : PySem.W.Frag} {to : TE} (hK : K = c.K) (h : EV c to ρ fun d => ∃ (bs : List Bool) (j : Nat), d = .lst (bs.map Dt.bl) ∧ bs[j]? = some true ∧ (∀ m, m < j → bs[m]? = some false) ∧ Q (.int (j : Nat))) :
    EV c (tBM K "list" (rIndex K) to (tCons (tC (.bl true)) tNil)) ρ Q := fun hd H σ v Qh q => h hd H σ v _ fun d x H1 h1 e1 b1 r1 => by
  subst hK
  obtain ⟨bs, j, rfl, hj, hno, hq⟩ := h1
  obtain ⟨a, rfl, ha⟩ := rp_bls r1
  have ha' := hm_le ha
  refine ⟨.inl ⟨rfl, _, .inl (.inl ha')⟩, a, bs.map V.bl, .bl true, j, .bl true, rfl, rfl, .inl (.inl ha'), rfl, flat_bls bs, by rw [List.getElem?_map, hj]; rfl, rfl, fun m z hm hz => ?_, q _ _ H1 hq e1 b1 (.int _)⟩
  rw [List.getElem?_map, hno m hm] at hz
  cases hz
  rfl
theorem cnt_bls : ∀ bs : List Bool, ((bs.map V.bl).countP fun z => eqV z (.bl true)) = bs.countP id
  | [] => rfl
  | b :: bs => by
    rw [List.map_cons, List.countP_cons, List.countP_cons, cnt_bls bs]
    cases b <;> rfl
theorem ev_countB {K : PySem.W.Frag} {to : TE} (hK : K = c.K) (h : EV c to ρ fun d => ∃ bs : List Bool, d = .lst (bs.map Dt.bl) ∧ Q (.int (bs.countP id : Nat))) :
    EV c (tBM K "list" (rCntV K) to (tCons (tC (.bl true)) tNil)) ρ Q := fun hd H σ v Qh q => h hd H σ v _ fun d x H1 h1 e1 b1 r1 => by
  subst hK
  obtain ⟨bs, rfl, hq⟩ := h1
  obtain ⟨a, rfl, ha⟩ := rp_bls r1
  have ha' := hm_le ha
  refine ⟨.inl ⟨rfl, _, .inl (.inl ha')⟩, a, bs.map V.bl, .bl true, rfl, rfl, .inl (.inl ha'), rfl, flat_bls bs, ?_⟩
  rw [cnt_bls]
  exact q _ _ H1 hq e1 b1 (.int _)
end
theorem unitsH {k : Nat} {A : Around} (r : L2H.RoomH k A) : A.units + 64 < cLine := by have := r.un; omega
theorem sd_raw {c : Cn} {hid : Addr → Bool} {H : Hp} (dom : ∀ a, hid a = true → H a ≠ none) (mh : ∀ a, c.mu a = true → hid a = true) (bb : c.B hid H) : ∀ (vs : List (Option V)), SD c hid hid H H vs (vs.map fun v => match v with | some v => Sl.rw v | none => Sl.un) := fun vs => by
  have ho : ∀ i o, ¬ ownAt vs (vs.map fun v => match v with | some v => Sl.rw v | none => Sl.un) i o := fun i o h => by
    obtain ⟨h1, s, h2, h3⟩ := h
    rw [List.getElem?_map, h1] at h2
    cases h2
    cases h3
  refine ⟨⟨dom, mh, bb, ?_⟩, fun x h => h, .refl, fun x h1 h2 => ?_, fun i j o h => (ho i o h).elim, fun i o h => (ho i o h).elim⟩
  · clear ho
    induction vs with
    | nil => exact .nil
    | cons v vs ih =>
      cases v with
      | none => exact .cons slok_un ih
      | some v => exact .cons rfl ih
  · rw [h1] at h2; cases h2
def excB (K : PySem.W.Frag) (D : Addr) : Bool := decide (PySem.W.findIn K (.ref D) "__getattribute__" = some (some (.builtin "BaseException.__getattribute__"))) && (decide (PySem.W.findIn K (.ref D) "__getattr__" = some none) && (decide (PySem.W.subIn K (.ref D) (.type "BaseException") = some true) && (PySem.W.hasDictIn K D &&
  (decide (PySem.W.findIn K (.ref D) "__class__" = some (some (.builtin "object.__class__"))) && (decide (PySem.W.specialIn K (.builtin "object.__class__") "__get__" = some (some (.builtin "getset_descriptor.__get__"))) && (decide (PySem.W.takesIn K (.builtin "object.__class__") = some true) && decide (PySem.W.mroIn K D (.type "object") = some true)))))))
theorem excB_ok {K : PySem.W.Frag} {D : Addr} (h : excB K D = true) : ExcC K D := by
  unfold excB at h
  simp only [Bool.and_eq_true, decide_eq_true_eq] at h
  obtain ⟨h1, h2, h3, h4, h5, h6, h7, h8⟩ := h
  exact ⟨h1, h2, h3, h4, h5, h6, h7, h8⟩
def clsB (K : PySem.W.Frag) (rs cs : List Str) : Bool := rs.all fun D => (cs.all fun C => decide (PySem.W.kitOne K (.ref (He.ga K D)) (.ref (He.ga K C)) = some (decide (D = C)))) && (decide (PySem.W.kitOne K (.ref (He.ga K D)) (.type "ValueError") = some true) && (decide (PySem.W.exmOne K (.ref (He.ga K D)) (.ref (He.ga K "ColumnError")) = some true) && excB K (He.ga K D)))
structure ClsF (K : PySem.W.Frag) (rs cs : List Str) : Prop where
  kit : ∀ D ∈ rs, ∀ C ∈ cs, PySem.W.kitOne K (.ref (He.ga K D)) (.ref (He.ga K C)) = some (decide (D = C))
  kitV : ∀ D ∈ rs, PySem.W.kitOne K (.ref (He.ga K D)) (.type "ValueError") = some true
  exm : ∀ D ∈ rs, PySem.W.exmOne K (.ref (He.ga K D)) (.ref (He.ga K "ColumnError")) = some true
  exc : ∀ D ∈ rs, ExcC K (He.ga K D)
theorem clsB_ok {K : PySem.W.Frag} {rs cs : List Str} (h : clsB K rs cs = true) : ClsF K rs cs := by
  have key : ∀ D ∈ rs, (∀ C ∈ cs, PySem.W.kitOne K (.ref (He.ga K D)) (.ref (He.ga K C)) = some (decide (D = C))) ∧ PySem.W.kitOne K (.ref (He.ga K D)) (.type "ValueError") = some true ∧ PySem.W.exmOne K (.ref (He.ga K D)) (.ref (He.ga K "ColumnError")) = some true ∧ excB K (He.ga K D) = true := fun D hD => by
    have h1 := List.all_eq_true.mp h D hD
    simp only [Bool.and_eq_true, decide_eq_true_eq, List.all_eq_true] at h1
    exact h1
  exact ⟨fun D hD => (key D hD).1, fun D hD => (key D hD).2.1, fun D hD => (key D hD).2.2.1, fun D hD => excB_ok (key D hD).2.2.2⟩
end CC
namespace CC
open PySem PySem.Spec PyProof.Rows L2
open C8 (Cal pe_c pe_gc)
structure Wd where
  K : PySem.W.Frag
  G : Type
  mu : G → Addr → Bool
  B : G → (Addr → Bool) → Hp → Prop
  stab : ∀ g hd hd' H H', Sees (Hm hd H) (Hm hd' H') → (∀ a o, (mu g a = true ∨ ext o = true) → H a = some o → H' a = some o) → B g hd H → B g hd' H'
  live : ∀ g hd H, B g hd H → ∀ a, mu g a = true → H a ≠ none
abbrev Wd.cn (W : Wd) (g : W.G) : Cn := ⟨W.K, W.mu g, W.B g, W.stab g⟩
def un (hd mu : Addr → Bool) : Addr → Bool := fun a => hd a || mu a
theorem un_l {hd mu : Addr → Bool} {a : Addr} (h : hd a = true) : un hd mu a = true := by unfold un; rw [h, Bool.true_or]
theorem un_r {hd mu : Addr → Bool} {a : Addr} (h : mu a = true) : un hd mu a = true := by unfold un; rw [h, Bool.or_true]
theorem un_of {hd mu : Addr → Bool} {a : Addr} (h : un hd mu a = true) : hd a = true ∨ mu a = true := Bool.or_eq_true_iff.mp h
theorem un_eq {hd mu : Addr → Bool} (h : ∀ a, mu a = true → hd a = true) : un hd mu = hd := by
  funext a
  unfold un
  cases q : mu a with
  | false => rw [Bool.or_false]
  | true => rw [h a q]; rfl
structure Fr (W : Wd) (g g' : W.G) (H : Hp) : Prop where
  up : ∀ a, W.mu g a = true → W.mu g' a = true
  new : ∀ a, W.mu g' a = true → W.mu g a = true ∨ H a = none
structure Go (W : Wd) (g g' : W.G) (hd : Addr → Bool) (H H' : Hp) : Prop where
  ex : Ex (W.mu g) H H'
  inv : W.B g' (un hd (W.mu g')) H'
  fr : Fr W g g' H
section
variable {W : Wd} {g g' g1 g2 : W.G} {hid hd : Addr → Bool} {H0 H H' H1 H2 : Hp} {σ : L2.St} {ρ : List Sl}
theorem Fr.refl : Fr W g g H := ⟨fun _ h => h, fun _ h => .inl h⟩
theorem Fr.old (f : Fr W g g' H) (e : Ex (W.mu g1) H0 H) : Fr W g g' H0 := ⟨f.up, fun a h => (f.new a h).imp id e.fresh⟩
theorem Fr.trans (f : Fr W g g1 H) (k : Fr W g1 g2 H) : Fr W g g2 H := ⟨fun a h => k.up a (f.up a h), fun a h => by
  rcases k.new a h with h | h
  · exact f.new a h
  · exact .inr h⟩
theorem Fr.ex (f : Fr W g g' H) (e : Ex (W.mu g') H H') : Ex (W.mu g) H H' := ⟨fun a o hm h => e.keep a o (by
  cases q : W.mu g' a with
  | false => rfl
  | true =>
    rcases f.new a q with z | z
    · rw [hm] at z; cases z
    · rw [h] at z; cases z) h, e.dom⟩
theorem Go.of (mh : ∀ a, W.mu g a = true → hd a = true) (e : Ex (W.mu g) H H') (b : W.B g hd H') : Go W g g hd H H' := ⟨e, by rw [un_eq mh]; exact b, .refl⟩
theorem Go.trans (a : Go W g g1 hd H H1) (b : Go W g1 g2 (un hd (W.mu g1)) H1 H2) : Go W g g2 hd H H2 := by
  have f2 : Fr W g1 g2 H := b.fr.old a.ex
  refine ⟨⟨fun x o hm h => ?_, fun x h => b.ex.dom x (a.ex.dom x h)⟩, (W.cn g2).unhide (fun x h => ?_) b.inv, a.fr.trans f2⟩
  · refine b.ex.keep x o ?_ (a.ex.keep x o hm h)
    cases q : W.mu g1 x with
    | false => rfl
    | true =>
      rcases a.fr.new x q with z | z
      · rw [hm] at z; cases z
      · rw [h] at z; cases z
  · rcases un_of h with h | h
    · exact un_l (un_l h)
    · exact un_r h
theorem Go.sees (mh : ∀ a, W.mu g a = true → hd a = true) (s : Go W g g' hd H H') : Sees (Hm hd H) (Hm (un hd (W.mu g')) H') := fun a o h => by
  have h1 := hm_not h
  have h2 := hm_le h
  have nm : W.mu g a = false := by
    cases q : W.mu g a with
    | false => rfl
    | true => rw [mh a q] at h1; cases h1
  refine ⟨o, ?_, .rfl⟩
  rw [hm_of]
  · exact s.ex.keep a o nm h2
  · cases q : un hd (W.mu g') a with
    | false => rfl
    | true =>
      rcases un_of q with z | z
      · rw [h1] at z; cases z
      · rcases s.fr.new a z with z | z
        · rw [nm] at z; cases z
        · rw [h2] at z; cases z
theorem Go.muF (s : Go W g g' hd H H') {a : Addr} (hm : W.mu g a = false) (h : H a ≠ none) : W.mu g' a = false := by
  cases q : W.mu g' a with
  | false => rfl
  | true =>
    rcases s.fr.new a q with z | z
    · rw [hm] at z; cases z
    · exact absurd z h
theorem Go.slot (mh : ∀ a, W.mu g a = true → hd a = true) (s : Go W g g' hd H H') (x : Option V) (sl : Sl) (h : SlOk (W.cn g) hd H x sl) : SlOk (W.cn g') (un hd (W.mu g')) H' x sl := by
  have e := s.sees mh
  have some_ne : ∀ {a : Addr} {o : HO}, H a = some o → H a ≠ none := fun h z => by rw [h] at z; cases z
  cases sl with
  | un => exact slok_un
  | im d =>
    cases x with
    | none => exact h.elim
    | some v => exact Rp.mono e h
  | rw u =>
    cases x with
    | none => exact h.elim
    | some v => exact h
  | dl q ds =>
    cases x with
    | none => exact h.elim
    | some v => exact ⟨h.1, Rp.mono e h.2⟩
  | ac ds =>
    cases x with
    | none => exact h.elim
    | some v =>
      cases v with
      | ref q =>
        obtain ⟨h1, h2, vs, h3, h4⟩ := h
        exact ⟨un_l h1, s.muF h2 (some_ne h3), vs, s.ex.keep q _ h2 h3, RpAll.mono e h4⟩
      | _ => exact h.elim
  | ak ds =>
    cases x with
    | none => exact h.elim
    | some v =>
      cases v with
      | ref q =>
        obtain ⟨h1, h2, vs, h3, h4⟩ := h
        exact ⟨un_l h1, s.muF h2 (some_ne h3), vs, s.ex.keep q _ h2 h3, RpK.mono e h4⟩
      | _ => exact h.elim
  | aT ds =>
    cases x with
    | none => exact h.elim
    | some v =>
      cases v with
      | ref q =>
        obtain ⟨h1, h2, vs, h3, h4⟩ := h
        exact ⟨un_l h1, s.muF h2 (some_ne h3), vs, s.ex.keep q _ h2 h3, RpT.mono e h4⟩
      | _ => exact h.elim
  | iK ds =>
    cases x with
    | none => exact h.elim
    | some v =>
      cases v with
      | ref q =>
        obtain ⟨h1, h2, vs, h3, h4⟩ := h
        refine ⟨?_, s.muF h2 (some_ne h3), vs, s.ex.keep q _ h2 h3, RpK.mono e h4⟩
        show (hd q || W.mu g' q) = false
        rw [h1, s.muF h2 (some_ne h3)]; rfl
      | _ => exact h.elim
theorem SV.step (v : SV (W.cn g) hd H σ ρ) (s : Go W g g' hd H H') : SV (W.cn g') (un hd (W.mu g')) H' σ ρ := by
  refine ⟨fun a h => ?_, fun a h => un_r h, s.inv, ?_⟩
  · rcases un_of h with h | h
    · exact s.ex.dom a (v.dom a h)
    · exact W.live g' _ H' s.inv a h
  · have key : ∀ {σ : L2.St} {ρ : List Sl}, SlAll (W.cn g) hd H σ ρ → SlAll (W.cn g') (un hd (W.mu g')) H' σ ρ := by
      intro σ ρ h
      induction h with
      | nil => exact .nil
      | cons h _ ih => exact .cons (s.slot v.muh _ _ h) ih
    exact key v.slots
theorem SD.step (d : SD (W.cn g) hid hd H0 H σ ρ) (s : Go W g g' hd H H') : SD (W.cn g') hid (un hd (W.mu g')) H0 H' σ ρ ∧ Fr W g g' H0 := by
  have f0 : Fr W g g' H0 := s.fr.old d.ext
  refine ⟨⟨d.toSV.step s, fun a h => un_l (d.sub a h), (d.ext.trans s.ex).weak f0.up, fun a h1 h2 => ?_, d.own, d.ownh⟩, f0⟩
  rcases un_of h1 with h1 | h1
  · exact d.new a h1 h2
  · rcases f0.new a h1 with z | z
    · exact d.new a (d.muh a z) h2
    · exact z
end
section
variable {W : Wd} {g : W.G} {hid : Addr → Bool} {H0 : Hp} {ρ : List Sl} {te ta tb : TE} {t u : TT} {D : Ends} {ts tz : TS}
def NxM (W : Wd) (g : W.G) (hid : Addr → Bool) (H0 : Hp) (I : W.G → List Sl → Prop) : L2.St → Hp → Prop := fun σ H => ∃ g' ρ hd, I g' ρ ∧ Fr W g g' H0 ∧ SD (W.cn g') hid hd H0 H σ ρ
theorem njm_nxw {g1 : W.G} {I : W.G → List Sl → Prop} (ρ' : List Sl) (h : I g ρ') (f : Fr W g1 g H0) (l : Le ρ' ρ) : NJ (W.cn g) hid H0 (NxM W g1 hid H0 I) ρ := fun hd H σ s => ⟨g, ρ', hd, h, f, s.weak l⟩
end
end CC
namespace CC
open PySem PySem.Spec PyProof.Rows L2
open C8 (Cal pe_c pe_gc)
section
variable {W : Wd} {g : W.G} {hid : Addr → Bool} {H0 H1 : Hp} {ρ : List Sl} {te ta tb : TE} {t u : TT} {D : Ends} {ts tz : TS} {gg : TG}
theorem njm_for {wi : TI} (h : IJ (W.cn g) wi ρ fun its => ∃ I : Nat → W.G → List Sl → Prop, I 0 g ρ ∧
      (∀ H1, Ex (W.mu g) H0 H1 → ∀ i d g' ρ', its[i]? = some d → I i g' ρ' → Fr W g g' H1 → TGJ (W.cn g') hid H1 gg d ρ' (ts { D with nx := NxM W g hid H1 (I (i + 1)), ct := NxM W g hid H1 (I (i + 1)), bk := D.nx })) ∧
      ∀ g' ρ', I its.length g' ρ' → Fr W g g' H0 → NJ (W.cn g') hid H0 D.nx ρ') : NJ (W.cn g) hid H0 (tFor wi gg ts D) ρ := fun hd H σ s => by
  refine h hd H σ s.toSV _ fun its J H' hq e b ok => ?_
  obtain ⟨I, i0, hstep, hend⟩ := hq
  have s' := s.go e b
  have eB := hj_ex s'
  have sB := hj_sd s'
  have vis : ∀ {g2 hd2 H2 σ2 ρ2}, Fr W g g2 (Hj H0 hd H') → SD (W.cn g2) hid hd2 (Hj H0 hd H') H2 σ2 ρ2 → Sub (Hm hd H') (Hm hd2 H2) := fun {g2 hd2 H2 σ2 ρ2} f2 s2 a o ha => by
    have h1 := hm_not ha
    have h2 := hm_le ha
    have hb : Hj H0 hd H' a = some o := by unfold Hj; rw [if_neg (by rw [h1]; exact Bool.false_ne_true)]; exact h2
    have hm : W.mu g2 a = false := by
      cases q : W.mu g2 a with
      | false => rfl
      | true =>
        rcases f2.new a q with z | z
        · rw [s.muh a z] at h1; cases h1
        · rw [hb] at z; cases z
    rw [hm_of]
    · exact s2.ext.keep a o hm hb
    · cases q : hd2 a with
      | false => rfl
      | true =>
        cases q2 : hid a with
        | true => rw [s.sub a q2] at h1; cases h1
        | false =>
          have := s2.new a q q2
          rw [hb] at this; cases this
  refine ⟨fun i m σ2 H2 => m = its.length - i ∧ i ≤ its.length ∧ ∃ g2 ρ2 hd2, I i g2 ρ2 ∧ Fr W g g2 (Hj H0 hd H') ∧ SD (W.cn g2) hid hd2 (Hj H0 hd H') H2 σ2 ρ2, ⟨its.length, rfl, Nat.zero_le _, g, ρ, hd, i0, .refl, sB⟩, ?_⟩
  rintro i m σ2 H2 ⟨rfl, hi, g2, ρ2, hd2, hI, f2, s2⟩
  have vs := vis f2 s2
  have vs' : Sub (Hm hd H') H2 := fun a o ha => hm_le (vs a o ha)
  by_cases hlt : i < its.length
  · refine .inr ⟨ok.go i H2 vs' hlt, NxM W g hid (Hj H0 hd H') (I (i + 1)), fun σ' H3 hN => ?_, fun x H3 hy => ?_⟩
    · obtain ⟨g3, ρ3, hd3, hI3, f3, s3⟩ := hN
      exact ⟨its.length - (i + 1), by omega, rfl, hlt, g3, ρ3, hd3, hI3, f3, s3⟩
    · obtain ⟨e3, r3⟩ := ok.yl i H2 x H3 its[i] vs' (List.getElem?_eq_getElem hlt) hy
      exact hstep (Hj H0 hd H') eB i its[i] g2 ρ2 (List.getElem?_eq_getElem hlt) hI f2 hd2 H3 σ2 x (s2.go e3.up ((W.cn g2).keep0 e3 s2.inv)) (r3 hd2 s2.dom vs)
  · have e : i = its.length := by omega
    exact .inl ⟨ok.st i H2 vs' e, hend g2 ρ2 (by rw [← e]; exact hI) (f2.old eB) hd2 H2 σ2 (s2.base (eB.weak f2.up))⟩
end
end CC
namespace CC
open PySem PySem.Spec PyProof.Rows L2
open C8 (Cal pe_c pe_gc)
inductive RV where
  | dat (d : Dt) | ref (a : Addr)
inductive MO where
  | lst (xs : List RV) | dk (kvs : List (Key × RV)) | ins (C dx : Addr) (fs : List (Str × RV)) | own (x : Addr)
inductive P2 {α β : Type} (R : α → β → Prop) : List α → List β → Prop
  | nil : P2 R [] []
  | cons {a : α} {b : β} {as : List α} {bs : List β} : R a b → P2 R as bs → P2 R (a :: as) (b :: bs)
section
variable {α β : Type} {R R' : α → β → Prop}
theorem P2.imp (h : ∀ a b, R a b → R' a b) : ∀ {as : List α} {bs : List β}, P2 R as bs → P2 R' as bs
  | _, _, .nil => .nil
  | _, _, .cons r t => .cons (h _ _ r) (P2.imp h t)
theorem P2.len : ∀ {as : List α} {bs : List β}, P2 R as bs → as.length = bs.length
  | _, _, .nil => rfl
  | _, _, .cons _ t => congrArg (· + 1) (P2.len t)
theorem P2.app : ∀ {as cs : List α} {bs ds : List β}, P2 R as bs → P2 R cs ds → P2 R (as ++ cs) (bs ++ ds)
  | _, _, _, _, .nil, s => s
  | _, _, _, _, .cons h t, s => .cons h (P2.app t s)
theorem P2.get : ∀ {as : List α} {bs : List β} {i : Nat} {b : β}, P2 R as bs → bs[i]? = some b → ∃ a, as[i]? = some a ∧ R a b
  | _, _, 0, _, .cons h _, e => ⟨_, rfl, by rw [show _ = _ from Option.some.inj e] at h; exact h⟩
  | _, _, i + 1, _, .cons _ t, e => P2.get (i := i) t e
theorem P2.set {a : α} {b : β} (h : R a b) : ∀ {as : List α} {bs : List β} (n : Nat), P2 R as bs → P2 R (as.set n a) (bs.set n b)
  | _, _, _, .nil => .nil
  | _, _, 0, .cons _ t => .cons h t
  | _, _, n + 1, .cons q t => .cons q (P2.set h n t)
end
def RvOk (K : PySem.W.Frag) (G : Hp) : V → RV → Prop
  | v, .dat d => Rp K G v d
  | v, .ref a => v = .ref a
theorem RvOk.mono {K : PySem.W.Frag} {G G' : Hp} (e : Sees G G') {v : V} {r : RV} (h : RvOk K G v r) : RvOk K G' v r := by
  cases r with
  | dat d => exact Rp.mono e h
  | ref a => exact h
abbrev RvF (K : PySem.W.Frag) (G : Hp) (κ : Type) : κ × V → κ × RV → Prop := fun p q => p.1 = q.1 ∧ RvOk K G p.2 q.2
def MOk (K : PySem.W.Frag) (hd : Addr → Bool) (H : Hp) (a : Addr) : MO → Prop
  | .lst rs => ∃ vs, H a = some (.lst vs) ∧ P2 (RvOk K (Hm hd H)) vs rs
  | .dk rs => ∃ vs, H a = some (.dK vs) ∧ P2 (RvF K (Hm hd H) Key) vs rs
  | .ins C dx rs => ∃ vs, H a = some (.ins C dx vs) ∧ P2 (RvF K (Hm hd H) Str) vs rs
  | .own x => H a = some (.own x)
abbrev GS : Type := Addr → Option MO
theorem MOk.mono {K : PySem.W.Frag} {hd hd' : Addr → Bool} {H H' : Hp} {a : Addr} {m : MO} (e : Sees (Hm hd H) (Hm hd' H')) (k : ∀ o, H a = some o → H' a = some o) (h : MOk K hd H a m) : MOk K hd' H' a m := by
  cases m with
  | lst rs => obtain ⟨vs, h1, h2⟩ := h; exact ⟨vs, k _ h1, h2.imp fun _ _ r => r.mono e⟩
  | dk rs => obtain ⟨vs, h1, h2⟩ := h; exact ⟨vs, k _ h1, h2.imp fun _ _ r => ⟨r.1, r.2.mono e⟩⟩
  | ins C dx rs => obtain ⟨vs, h1, h2⟩ := h; exact ⟨vs, k _ h1, h2.imp fun _ _ r => ⟨r.1, r.2.mono e⟩⟩
  | own x => exact k _ h
theorem MOk.at {K : PySem.W.Frag} {hd : Addr → Bool} {H : Hp} {a : Addr} {m : MO} (h : MOk K hd H a m) : ∃ o, H a = some o ∧ ext o = false := by
  cases m with
  | lst rs => obtain ⟨vs, h1, h2⟩ := h; exact ⟨_, h1, rfl⟩
  | dk rs => obtain ⟨vs, h1, h2⟩ := h; exact ⟨_, h1, rfl⟩
  | ins C dx rs => obtain ⟨vs, h1, h2⟩ := h; exact ⟨_, h1, rfl⟩
  | own x => exact ⟨_, h, rfl⟩
end CC
namespace CC
open PySem PySem.Spec PyProof.Rows L2
open C8 (Cal pe_c pe_gc)
theorem P2.look {K : PySem.W.Frag} {G : Hp} {f : Str} : ∀ {vs : List (Str × V)} {fs : List (Str × RV)} {r : RV}, P2 (RvF K G Str) vs fs → fs.lookup f = some r → ∃ v, vs.lookup f = some v ∧ RvOk K G v r
  | _, _, _, .nil, h => nomatch h
  | (k, v) :: vs, (k', r') :: fs, r, .cons h t, e => by
    obtain ⟨h1, h2⟩ := h
    have h1 : k = k' := h1
    subst h1
    rw [List.lookup_cons] at e ⊢
    cases q : f == k with
    | true =>
      rw [q] at e
      cases e
      exact ⟨v, rfl, h2⟩
    | false =>
      rw [q] at e
      exact P2.look t e
theorem P2.lookN {K : PySem.W.Frag} {G : Hp} {f : Str} : ∀ {vs : List (Str × V)} {fs : List (Str × RV)}, P2 (RvF K G Str) vs fs → fs.lookup f = none → vs.lookup f = none
  | _, _, .nil, _ => rfl
  | (k, v) :: vs, (k', r') :: fs, .cons h t, e => by
    obtain ⟨h1, h2⟩ := h
    have h1 : k = k' := h1
    subst h1
    rw [List.lookup_cons] at e ⊢
    cases q : f == k with
    | true => rw [q] at e; cases e
    | false =>
      rw [q] at e
      exact P2.lookN t e
def putR (f : Str) (v : RV) : List (Str × RV) → List (Str × RV)
  | [] => [(f, v)]
  | (k, x) :: r => if k = f then (k, v) :: r else (k, x) :: putR f v r
theorem P2.putF {K : PySem.W.Frag} {G : Hp} {f : Str} {v : V} {r : RV} (hr : RvOk K G v r) : ∀ {vs : List (Str × V)} {fs : List (Str × RV)}, P2 (RvF K G Str) vs fs → P2 (RvF K G Str) (L2.putF f v vs) (putR f r fs)
  | _, _, .nil => .cons ⟨rfl, hr⟩ .nil
  | (k, x) :: vs, (k', r') :: fs, .cons h t => by
    obtain ⟨h1, h2⟩ := h
    have h1 : k = k' := h1
    subst h1
    unfold L2.putF putR
    split
    · exact .cons ⟨rfl, hr⟩ t
    · exact .cons ⟨rfl, h2⟩ (P2.putF hr t)
theorem RpF.look {K : PySem.W.Frag} {G : Hp} {f : Str} : ∀ {vs : List (Str × V)} {fs : List (Str × Dt)} {d : Dt}, RpF K G vs fs → fs.lookup f = some d → ∃ v, vs.lookup f = some v ∧ Rp K G v d
  | _, _, _, .nil, h => nomatch h
  | (k, v) :: vs, (_, d') :: fs, d, .cons h t, e => by
    rw [List.lookup_cons] at e ⊢
    cases q : f == k with
    | true =>
      rw [q] at e
      cases e
      exact ⟨v, rfl, h⟩
    | false =>
      rw [q] at e
      exact RpF.look t e
theorem RpF.lookN {K : PySem.W.Frag} {G : Hp} {f : Str} : ∀ {vs : List (Str × V)} {fs : List (Str × Dt)}, RpF K G vs fs → fs.lookup f = none → vs.lookup f = none
  | _, _, .nil, _ => rfl
  | (k, v) :: vs, (_, d') :: fs, .cons h t, e => by
    rw [List.lookup_cons] at e ⊢
    cases q : f == k with
    | true => rw [q] at e; cases e
    | false =>
      rw [q] at e
      exact RpF.lookN t e
def ERC (c : Cn) (te : TE) (ρ : List Sl) (v : V) : Prop := ∀ hd H σ, SV c hd H σ ρ → ∀ Qh : VK, Qh v H → te σ H Qh
section
variable {K : PySem.W.Frag} {g : GS} {hid : Addr → Bool} {H0 : Hp} {ρ : List Sl} {to te ta tb : TE} {D : Ends} {ts tz : TS} {a b C dx : Addr} {fs : List (Str × RV)} {rs : List RV} {f : Str}
theorem erc_var {c : Cn} {i : Nat} {v : V} (hi : ρ[i]? = some (.rw v)) : ERC c (tVar i) ρ v := fun hd H σ s Qh q => ⟨v, rw_get s.slots hi, q⟩
theorem atI_P2 {K : PySem.W.Frag} {G : Hp} {vs : List V} {rs : List RV} {k : Int} {r : RV} (p : P2 (RvOk K G) vs rs) (h : atI rs k = some r) : ∃ v, atI vs k = some v ∧ RvOk K G v r := by
  unfold atI at h ⊢
  rw [p.len]
  cases hx : ixN rs.length k with
  | none => rw [hx] at h; cases h
  | some j =>
    rw [hx] at h
    exact p.get h
end
end CC
namespace CC
open PySem PySem.Spec PyProof.Rows L2
open C8 (Cal pe_c pe_gc)
abbrev dats (ds : List Dt) : List RV := ds.map RV.dat
end CC
namespace CC
open PySem PySem.Spec PyProof.Rows L2
open C8 (Cal pe_c pe_gc)
structure CalM (P : Program) (w : World) (K : PySem.W.Frag) (mg : Str → Option Value) (base : Heap) (CX : CXT) (k : Nat) (C : Addr) (m : Str) (sp : Sp) : Prop where
  ex : ∃ (f : Addr) (fd : FuncData) (ps : List Str), FnOk P w K mg base CX k f fd ps sp ∧ Meth K C m f ∧ Binds K fd ps []
structure CalI (P : Program) (w : World) (K : PySem.W.Frag) (mg : Str → Option Value) (base : Heap) (CX : CXT) (k : Nat) (C : Addr) (sp : Sp) : Prop where
  ex : ∃ (f : Addr) (fd : FuncData) (ps : List Str), FnOk P w K mg base CX k f fd ps sp ∧ Mk K C f ∧ Binds K fd ps []
def MtAt (K : PySem.W.Frag) (C : Addr) (m qual : Str) (st : Stmt) (ps : List Str) : Prop := ∃ f fd, Meth K C m f ∧ Fun K m qual st f fd ∧ Binds K fd ps []
def InAt (K : PySem.W.Frag) (C : Addr) (qual : Str) (st : Stmt) (ps : List Str) : Prop := ∃ f fd, Mk K C f ∧ Fun K "__init__" qual st f fd ∧ Binds K fd ps []
section
variable {X : Cx} {k j : Nat} {C : Addr} {m x : Str} {sp : Sp} {o e : Expr} {es : List Expr} {apos pos p : Pos} {ta : TE} {t : TA} {W : WX} {pl : Sem Bool}
theorem pe_mt (c : CalM X.prog X.w X.K X.mg X.base CX0 k C m sp) (hr : Room j X.A) (hk : k ≤ j) (cl : Cls X.K C) (he : PE X o ta) (ha : PA X (e :: es) t)
    (hst : starEach (e :: es) X.env = (false, eval e X.env) :: starEach es X.env := by rfl) (hpl : (backTo pos (starEach es X.env)).any (·.1) = false := by rfl)
    (ht : eval (.Call (.Attribute o m apos) (e :: es) [] pos) X.env = (do
      let ov ← eval o X.env
      standAt apos.atName
      let (f, first) ← holding [ov] (getMethod ov m pl)
      callWith pos f first (backTo pos (starEach (e :: es) X.env)) (backToKw pos (keywordEach [] X.env))) := by rfl) :
    PE X (.Call (.Attribute o m apos) (e :: es) [] pos) (tMeth C m sp [] E0 ta t) := by
  obtain ⟨f, fd, ps, F, hm, hb⟩ := c.ex
  exact pe_meth he cl hm F (hr.mono hk) hb .nil pass0 ha hst hpl ht
theorem pe_mt0 (c : CalM X.prog X.w X.K X.mg X.base CX0 k C m sp) (hr : Room j X.A) (hk : k ≤ j) (cl : Cls X.K C) (he : PE X o ta)
    (ht : eval (.Call (.Attribute o m apos) [] [] pos) X.env = (do
      let ov ← eval o X.env
      standAt apos.atName
      let (f, first) ← holding [ov] (getMethod ov m pl)
      callWith pos f first (backTo pos (starEach [] X.env)) (backToKw pos (keywordEach [] X.env))) := by rfl) :
    PE X (.Call (.Attribute o m apos) [] [] pos) (tMeth C m sp [] E0 ta tNil) := by
  obtain ⟨f, fd, ps, F, hm, hb⟩ := c.ex
  exact pe_meth0 he cl hm F (hr.mono hk) hb .nil pass0 ht
theorem pe_mtX {E : XK} (c : CalM X.prog X.w X.K X.mg X.base (L2.CX X.prog X.w) k C m sp) (hr : Room j X.A) (hk : k ≤ j) (cl : Cls X.K C) (tk : Takes X fun cls d _ H => E cls d H) (he : PE X o ta) (ha : PA X (e :: es) t)
    (hst : starEach (e :: es) X.env = (false, eval e X.env) :: starEach es X.env := by rfl) (hpl : (backTo pos (starEach es X.env)).any (·.1) = false := by rfl)
    (ht : eval (.Call (.Attribute o m apos) (e :: es) [] pos) X.env = (do
      let ov ← eval o X.env
      standAt apos.atName
      let (f, first) ← holding [ov] (getMethod ov m pl)
      callWith pos f first (backTo pos (starEach (e :: es) X.env)) (backToKw pos (keywordEach [] X.env))) := by rfl) :
    PE X (.Call (.Attribute o m apos) (e :: es) [] pos) (tMeth C m sp [] E ta t) := by
  obtain ⟨f, fd, ps, F, hm, hb⟩ := c.ex
  exact pe_meth he cl hm F (hr.mono hk) hb .nil (passes_call tk fun _ _ _ _ h => h) ha hst hpl ht
theorem pe_mtX0 {E : XK} (c : CalM X.prog X.w X.K X.mg X.base (L2.CX X.prog X.w) k C m sp) (hr : Room j X.A) (hk : k ≤ j) (cl : Cls X.K C) (tk : Takes X fun cls d _ H => E cls d H) (he : PE X o ta)
    (ht : eval (.Call (.Attribute o m apos) [] [] pos) X.env = (do
      let ov ← eval o X.env
      standAt apos.atName
      let (f, first) ← holding [ov] (getMethod ov m pl)
      callWith pos f first (backTo pos (starEach [] X.env)) (backToKw pos (keywordEach [] X.env))) := by rfl) :
    PE X (.Call (.Attribute o m apos) [] [] pos) (tMeth C m sp [] E ta tNil) := by
  obtain ⟨f, fd, ps, F, hm, hb⟩ := c.ex
  exact pe_meth0 he cl hm F (hr.mono hk) hb .nil (passes_call tk fun _ _ _ _ h => h) ht
theorem pe_mk0 (c : CalI X.prog X.w X.K X.mg X.base CX0 k C sp) (hr : Room j X.A) (hk : k + 1 ≤ j) (hm : X.mg x = some (.ref C)) (hg : Gl X x) (hdb : (x == ("__debug__" : Str)) = false := by decide) : PE X (.Call (.Name x p) [] [] pos) (tMake C sp [] E0 tNil) := by
  obtain ⟨f, fd, ps, F, M, hb⟩ := c.ex
  exact pe_make0 M F (hr.mono hk) hg hm hb .nil pass0 hdb
end
end CC
namespace CC
open PySem PySem.Spec PyProof.Rows L2
open C8 (Cal pe_c pe_gc)
end CC
namespace CC
open PySem PySem.Spec PyProof.Rows L2
open C8 (Cal pe_c pe_gc)
open PySem.W (AllAlike Sortable dataLe sorted_data dataLt EachIs)
end CC
namespace CC
open PySem PySem.Spec PyProof.Rows L2
open C8 (Cal pe_c pe_gc)
def StrJ (Q : Str → Prop) : Dt → Prop
  | .str b => Q b
  | _ => False
theorem strJ {Q : Str → Prop} {x : Str} (h : Q x) : StrJ Q (.str x) := h
section
variable {c : Cn} {Q : Dt → Prop} {x y : Str} {i j : Int}
theorem lt_s (h : Q (.bl (decide (x.cps.toList < y.cps.toList)))) : R2J c rLtU (.str x) (.str y) Q := R2J.inr fun hd H v w dom mh bb r1 r2 Qh q => by
  cases r1
  cases r2
  exact ⟨x, y, rfl, rfl, kv_here q bb h (.bl _)⟩
theorem le_s (h : Q (.bl (!decide (y.cps.toList < x.cps.toList)))) : R2J c rLeU (.str x) (.str y) Q := R2J.inr fun hd H v w dom mh bb r1 r2 Qh q => by
  cases r1
  cases r2
  exact ⟨x, y, rfl, rfl, kv_here q bb h (.bl _)⟩
theorem gt_s (h : Q (.bl (decide (y.cps.toList < x.cps.toList)))) : R2J c rGtU (.str x) (.str y) Q := R2J.inr fun hd H v w dom mh bb r1 r2 Qh q => by
  cases r1
  cases r2
  exact ⟨x, y, rfl, rfl, kv_here q bb h (.bl _)⟩
theorem ge_s (h : Q (.bl (!decide (x.cps.toList < y.cps.toList)))) : R2J c rGeU (.str x) (.str y) Q := R2J.inr fun hd H v w dom mh bb r1 r2 Qh q => by
  cases r1
  cases r2
  exact ⟨x, y, rfl, rfl, kv_here q bb h (.bl _)⟩
theorem notin_c {k : Nat} (h : Q (.bl (!decide (k ∈ y.cps.toList)))) : R2J c (rNotInU c.K) (.str ⟨#[k]⟩) (.str y) Q := R2J.inr fun hd H v w dom mh bb r1 r2 Qh q => by
  cases r1
  cases r2
  exact ⟨k, y, rfl, rfl, kv_here q bb h (.bl _)⟩
theorem in_c {k : Nat} (h : Q (.bl (decide (k ∈ y.cps.toList)))) : R2J c (rInU c.K) (.str ⟨#[k]⟩) (.str y) Q := R2J.inr fun hd H v w dom mh bb r1 r2 Qh q => by
  cases r1
  cases r2
  exact ⟨k, y, rfl, rfl, kv_here q bb h (.bl _)⟩
variable {ρ : List Sl} {te ty tx : TE} {tl th : TO}
theorem ev_slS (h : EV c te ρ (StrJ fun x => x.length ≤ 100000 ∧ EVO c tl ρ fun lo => EVO c th ρ fun hi => Q (.str (cutS x lo hi)))) : EV c (tSl rSlS te tl th) ρ Q := fun hd H σ v Qh q => h hd H σ v _ fun d u H1 h1 e1 b1 r1 => by
  cases d with
  | str x =>
    cases r1
    exact h1.2 hd H1 σ (v.go e1 b1) _ fun lo H2 h2 e2 b2 => h2 hd H2 σ (v.go (e1.trans e2) b2) _ fun hi H3 h3 e3 b3 => ⟨x, rfl, Evl.sz_of h1.1, q _ _ H3 h3 ((e1.trans e2).trans e3) b3 (.str _)⟩
  | _ => exact h1.elim
end
end CC
namespace CC
open PySem PySem.Spec PyProof.Rows L2
open C8 (Cal pe_c pe_gc)
end CC
namespace CC
open PySem PySem.Spec PyProof.Rows L2
open C8 (Cal pe_c pe_gc)
end CC
namespace CC
open PySem PySem.Spec PyProof.Rows L2
open C8 (Cal pe_c pe_gc)
end CC
namespace CC
open PySem PySem.Spec PyProof.Rows L2
open C8 (Cal pe_c pe_gc)
def Wk (d d' : Dt) : Prop := ∀ K G v, Rp K G v d → Rp K G v d'
inductive WkA : List Dt → List Dt → Prop
  | nil : WkA [] []
  | cons {d d' : Dt} {ds ds' : List Dt} : Wk d d' → WkA ds ds' → WkA (d :: ds) (d' :: ds')
theorem Wk.rfl {d : Dt} : Wk d d := fun _ _ _ h => h
theorem WkA.rfl : ∀ {ds : List Dt}, WkA ds ds
  | [] => .nil
  | _ :: _ => .cons Wk.rfl WkA.rfl
theorem Wk.trans {a b d : Dt} (h : Wk a b) (k : Wk b d) : Wk a d := fun K G v r => k K G v (h K G v r)
theorem WkA.all {K : PySem.W.Frag} {G : Hp} : ∀ {ds ds' : List Dt} {vs : List V}, WkA ds ds' → RpAll K G vs ds → RpAll K G vs ds'
  | _, _, _, .nil, .nil => .nil
  | _, _, _, .cons h t, .cons r s => .cons (h _ _ _ r) (t.all s)
section
variable {c : Cn} {ρ : List Sl} {te to : TE} {Q : Dt → Prop} {QL : List Dt → Prop}
def rTupP (K : PySem.W.Frag) : List V → Hp → VK → Prop := fun xs H Q => ∃ p ys, xs = [.ref p] ∧ SqL K H p ys ∧ ∀ (l : Addr) (ob : Obj), H l = none → ob.cls = .type "tuple" → ob.dict = none → Q (.ref l) (upd H l (.frz ob (.tup ys)))
theorem tuple_lp {ds : List Dt} (h : Q (.ptup ds)) : RCJ c (rTupP c.K) [.lst ds] Q := fun hd H vs dom mh bb r Qh q => by
  obtain ⟨v, rfl, r1⟩ := rp1 r
  cases r1 with
  | @lst a xs _ ha ra =>
    refine ⟨_, _, rfl, .inl (.inl (hm_le ha)), fun l ob hl h1 h2 => ?_⟩
    have en : Ex none0 H (upd H l (.frz ob (.tup xs))) := .new hl
    refine q _ _ _ h en.up (c.keep0 en bb) (.ptup h1 h2 ?_ (ra.mono (en.sees (fun _ h => nomatch h))))
    rw [hm_of (fresh_hd dom hl), upd_same]
end
end CC
namespace CC
open PySem
abbrev Stt := List (Nat × Nat)
inductive Sep : Nat → Stt → Nat → Prop
  | nil {lo hi : Nat} : Sep lo [] hi
  | cons {lo hi b e : Nat} {l : Stt} : lo ≤ b → b < e → e ≤ hi → Sep (e + 1) l hi → Sep lo ((b, e) :: l) hi
inductive WSep : Nat → Stt → Nat → Prop
  | nil {lo hi : Nat} : WSep lo [] hi
  | cons {lo hi b e : Nat} {l : Stt} : lo ≤ b → b < e → e ≤ hi → WSep e l hi → WSep lo ((b, e) :: l) hi
def inl (p : Nat) (l : Stt) : Prop := ∃ q ∈ l, q.1 ≤ p ∧ p < q.2
structure Rn (l : Stt) (f : Nat → Bool) (n : Nat) : Prop where
  sep : Sep 0 l n
  mem : ∀ p, p < n → (f p = true ↔ inl p l)
theorem inl_nil {p : Nat} : ¬ inl p [] := fun ⟨_, h, _⟩ => nomatch h
theorem inl_cons {p b e : Nat} {l : Stt} : inl p ((b, e) :: l) ↔ (b ≤ p ∧ p < e) ∨ inl p l := by
  constructor
  · rintro ⟨q, hq, h1, h2⟩
    rcases List.mem_cons.mp hq with rfl | hq
    · exact .inl ⟨h1, h2⟩
    · exact .inr ⟨q, hq, h1, h2⟩
  · rintro (⟨h1, h2⟩ | ⟨q, hq, h1, h2⟩)
    · exact ⟨_, List.mem_cons_self, h1, h2⟩
    · exact ⟨q, List.mem_cons_of_mem _ hq, h1, h2⟩
theorem Sep.mono {lo lo' hi hi' : Nat} (h1 : lo' ≤ lo) (h2 : hi ≤ hi') : ∀ {l : Stt}, Sep lo l hi → Sep lo' l hi'
  | _, .nil => .nil
  | _, .cons a b c t => .cons (by omega) b (by omega) (t.mono (Nat.le_refl _) h2)
theorem WSep.mono {lo lo' hi hi' : Nat} (h1 : lo' ≤ lo) (h2 : hi ≤ hi') : ∀ {l : Stt}, WSep lo l hi → WSep lo' l hi'
  | _, .nil => .nil
  | _, .cons a b c t => .cons (by omega) b (by omega) (t.mono (Nat.le_refl _) h2)
theorem Sep.weak : ∀ {lo hi : Nat} {l : Stt}, Sep lo l hi → WSep lo l hi
  | _, _, _, .nil => .nil
  | _, _, _, .cons a b c t => .cons a b c (t.weak.mono (Nat.le_succ _) (Nat.le_refl _))
theorem WSep.bd : ∀ {lo hi : Nat} {l : Stt}, WSep lo l hi → ∀ q ∈ l, lo ≤ q.1 ∧ q.1 < q.2 ∧ q.2 ≤ hi
  | _, _, _, .nil, _, h => nomatch h
  | _, _, _, .cons a b c t, q, h => by
    rcases List.mem_cons.mp h with rfl | h
    · exact ⟨a, b, c⟩
    · have := t.bd q h
      omega
theorem Sep.bd {lo hi : Nat} {l : Stt} (h : Sep lo l hi) : ∀ q ∈ l, lo ≤ q.1 ∧ q.1 < q.2 ∧ q.2 ≤ hi := h.weak.bd
theorem WSep.lt {lo hi p : Nat} {l : Stt} (h : WSep lo l hi) (hp : inl p l) : lo ≤ p ∧ p < hi := by
  obtain ⟨q, hq, h1, h2⟩ := hp
  have := h.bd q hq
  omega
theorem Sep.lt {lo hi p : Nat} {l : Stt} (h : Sep lo l hi) (hp : inl p l) : lo ≤ p ∧ p < hi := h.weak.lt hp
theorem Rn.lt {l : Stt} {f : Nat → Bool} {n p : Nat} (h : Rn l f n) (hp : inl p l) : p < n := (h.sep.lt hp).2
theorem sep_uniq : ∀ {l m : Stt} {lo hi : Nat}, Sep lo l hi → Sep lo m hi → (∀ p, inl p l ↔ inl p m) → l = m
  | [], [], _, _, _, _, _ => rfl
  | [], (b, e) :: m, _, _, _, .cons a c d t, h => absurd ((h b).mpr (inl_cons.mpr (.inl ⟨Nat.le_refl _, c⟩))) inl_nil
  | (b, e) :: l, [], _, _, .cons a c d t, _, h => absurd ((h b).mp (inl_cons.mpr (.inl ⟨Nat.le_refl _, c⟩))) inl_nil
  | (b, e) :: l, (b', e') :: m, lo, hi, .cons a c d t, .cons a' c' d' t', h => by
    have key : ∀ {b e b' e' : Nat} {l m : Stt} {hi : Nat}, b < e → Sep (e' + 1) m hi → (inl b ((b', e') :: m)) → b' < e' → b' ≤ b := by
      intro b e b' e' l m hi h1 h2 h3 h4
      rcases inl_cons.mp h3 with h3 | h3
      · exact h3.1
      · have := h2.lt h3
        omega
    have hb : b = b' := Nat.le_antisymm (key (e := e') c' t ((h b').mpr (inl_cons.mpr (.inl ⟨Nat.le_refl _, c'⟩))) c (l := m)) (key (e := e) c t' ((h b).mp (inl_cons.mpr (.inl ⟨Nat.le_refl _, c⟩))) c' (l := l))
    subst hb
    have key2 : ∀ {e e' : Nat} {l m : Stt}, b < e → Sep (e + 1) l hi → Sep (e' + 1) m hi → (∀ p, inl p ((b, e) :: l) ↔ inl p ((b, e') :: m)) → e' ≤ e := by
      intro e e' l m h1 h2 h3 h4
      refine Nat.le_of_not_lt fun hlt => ?_
      rcases inl_cons.mp ((h4 e).mpr (inl_cons.mpr (.inl ⟨by omega, hlt⟩))) with h5 | h5
      · omega
      · have := h2.lt h5
        omega
    have he : e = e' := Nat.le_antisymm (key2 c' t' t fun p => (h p).symm) (key2 c t t' h)
    subst he
    rw [sep_uniq t t' fun p => ?_]
    constructor
    · intro hp
      have h1 := t.lt hp
      rcases inl_cons.mp ((h p).mp (inl_cons.mpr (.inr hp))) with h2 | h2
      · omega
      · exact h2
    · intro hp
      have h1 := t'.lt hp
      rcases inl_cons.mp ((h p).mpr (inl_cons.mpr (.inr hp))) with h2 | h2
      · omega
      · exact h2
theorem Rn.uniq {l m : Stt} {f : Nat → Bool} {n : Nat} (h : Rn l f n) (k : Rn m f n) : l = m := sep_uniq h.sep k.sep fun p => by
  constructor
  · intro hp; exact (k.mem p (h.lt hp)).mp ((h.mem p (h.lt hp)).mpr hp)
  · intro hp; exact (h.mem p (k.lt hp)).mp ((k.mem p (k.lt hp)).mpr hp)
theorem Rn.congr {l : Stt} {f g : Nat → Bool} {n : Nat} (h : Rn l f n) (e : ∀ p, p < n → f p = g p) : Rn l g n := ⟨h.sep, fun p hp => by rw [← e p hp]; exact h.mem p hp⟩
theorem Rn.all {n : Nat} (hn : 0 < n) : Rn [(0, n)] (fun _ => true) n := ⟨.cons (Nat.le_refl _) hn (Nat.le_refl _) .nil, fun p hp => ⟨fun _ => ⟨_, List.mem_cons_self, Nat.zero_le _, hp⟩, fun _ => rfl⟩⟩
theorem Rn.none {n : Nat} : Rn [] (fun _ => false) n := ⟨.nil, fun p hp => ⟨fun h => (by cases h), fun h => absurd h inl_nil⟩⟩
def placesL (l : Stt) : List Nat := l.flatMap fun q => (List.range (q.2 - q.1)).map (q.1 + ·)
def countL (l : Stt) : Nat := (l.map fun q => q.2 - q.1).sum
theorem places_len (l : Stt) : (placesL l).length = countL l := by
  unfold placesL countL
  induction l with
  | nil => rfl
  | cons q r ih => rw [List.flatMap_cons, List.length_append, ih, List.map_cons, List.sum_cons, List.length_map, List.length_range]
theorem mem_places {l : Stt} {p : Nat} : p ∈ placesL l ↔ inl p l := by
  unfold placesL inl
  rw [List.mem_flatMap]
  constructor
  · rintro ⟨q, hq, h⟩
    obtain ⟨i, hi, rfl⟩ := List.mem_map.mp h
    have := List.mem_range.mp hi
    exact ⟨q, hq, by omega, by omega⟩
  · rintro ⟨q, hq, h1, h2⟩
    exact ⟨q, hq, List.mem_map.mpr ⟨p - q.1, List.mem_range.mpr (by omega), by omega⟩⟩
theorem places_pw : ∀ {lo hi : Nat} {l : Stt}, WSep lo l hi → (placesL l).Pairwise (· < ·)
  | _, _, _, .nil => .nil
  | lo, hi, _, .cons (b := b) (e := e) (l := l) a c d t => by
    show ((List.range (e - b)).map (b + ·) ++ placesL l).Pairwise (· < ·)
    rw [List.pairwise_append]
    refine ⟨?_, places_pw t, fun x hx y hy => ?_⟩
    · rw [List.pairwise_map]
      exact List.pairwise_lt_range.imp fun h => by omega
    · obtain ⟨i, hi, rfl⟩ := List.mem_map.mp hx
      have := List.mem_range.mp hi
      have := t.lt (mem_places.mp hy)
      omega
theorem pwN_eq : ∀ {us ws : List Nat}, us.Pairwise (· < ·) → ws.Pairwise (· < ·) → (∀ k, k ∈ us ↔ k ∈ ws) → us = ws
  | [], [], _, _, _ => rfl
  | [], w :: ws, _, _, h => absurd ((h w).mpr List.mem_cons_self) (by simp)
  | u :: us, [], _, _, h => absurd ((h u).mp List.mem_cons_self) (by simp)
  | u :: us, w :: ws, hu, hw, h => by
    obtain ⟨h1, h2⟩ := List.pairwise_cons.mp hu
    obtain ⟨h3, h4⟩ := List.pairwise_cons.mp hw
    have e : u = w := by
      rcases List.mem_cons.mp ((h u).mp List.mem_cons_self) with q | q
      · exact q
      · rcases List.mem_cons.mp ((h w).mpr List.mem_cons_self) with q2 | q2
        · exact q2.symm
        · have := h3 u q
          have := h1 w q2
          omega
    subst e
    rw [pwN_eq h2 h4 fun k => ?_]
    constructor
    · intro hk
      rcases List.mem_cons.mp ((h k).mp (List.mem_cons_of_mem _ hk)) with q | q
      · have := h1 k hk; omega
      · exact q
    · intro hk
      rcases List.mem_cons.mp ((h k).mpr (List.mem_cons_of_mem _ hk)) with q | q
      · have := h3 k hk; omega
      · exact q
theorem Rn.places {l : Stt} {f : Nat → Bool} {n : Nat} (h : Rn l f n) : placesL l = (List.range n).filter f := by
  refine pwN_eq (places_pw h.sep.weak) (List.pairwise_lt_range.filter _) fun k => ?_
  rw [mem_places, List.mem_filter, List.mem_range]
  constructor
  · intro hk; exact ⟨h.lt hk, (h.mem k (h.lt hk)).mpr hk⟩
  · rintro ⟨h1, h2⟩; exact (h.mem k h1).mp h2
theorem Rn.count {l : Stt} {f : Nat → Bool} {n : Nat} (h : Rn l f n) : countL l = ((List.range n).filter f).length := by rw [← places_len, h.places]
end CC
namespace CC
open PySem PySem.Spec PyProof.Rows L2
open LamX (CodeO TabS TabB lamEnv lamCx inv_table among_app codeO_ne)
def big (s : Shared) (H : Hp) (l : List Env) : Heap := PySem.W.hideAll s.heap (trk s.heap H ++ frs l)
section
variable {X : Cx} {pins : List (Addr × Obj)} {σ : L2.St} {H : Hp} {s : Shared}
theorem big_get {b : Addr} {o : Obj} {l : List Env} (e : s.heap.get? b = some o) (n : H b = none) (hf : b ∉ frs l) : (big s H l).get? b = some o :=
  PySem.W.hideAll_get _ e fun hm => by
    rcases List.mem_append.mp hm with hm | hm
    · have := (List.mem_filter.mp hm).2
      rw [n] at this; cases this
    · exact hf hm
theorem big_of {b : Addr} {o : Obj} {l : List Env} (e : (big s H l).get? b = some o) : s.heap.get? b = some o ∧ H b = none := by
  have e' := PySem.W.of_hideAll _ e
  refine ⟨e', ?_⟩
  cases q : H b with
  | none => rfl
  | some x =>
    have hm : b ∈ trk s.heap H := List.mem_filter.mpr ⟨List.mem_range.mpr (Heap.lt_size e'), by simp [q]⟩
    have z : (big s H l).get? b = none := PySem.W.hideAll_none _ (List.mem_append_left _ hm)
    rw [z] at e; cases e
theorem env0_big (I : Inv X pins σ H s) : Env0 X.prog X.w X.K X.mg (big s H X.stack) X.A X.stack s H := by
  have kp : ∀ b o, X.base.get? b = some o → (big s H X.stack).get? b = some o := fun b o e => by
    refine big_get (I.bs b o e).1 (I.bs b o e).2 fun hb => ?_
    have := (I.stack.mem hb).1
    rw [e] at this; cases this
  obtain ⟨mb, h1, h2⟩ := I.mod.blt
  refine ⟨I.ok.frames, ⟨I.mod.kin.keeps kp, I.mod.glob.keeps kp, ⟨mb, h1.keeps kp, h2⟩, I.mod.nolimit.keeps kp⟩, fun b o e => big_of e, ?_, ?_, I.stkFree, I.hok, I.bare⟩
  · unfold big; rw [PySem.W.hideAll_size]; exact Nat.le_refl _
  · exact PySem.W.funFrames_hide I.stack fun env he a ha => List.mem_append_right _ (List.mem_filterMap.mpr ⟨env, he, ha⟩)
theorem big_cell (I : Inv X pins σ H s) (hfn : ∀ y, X.fn y = true) {y : Str} {c : Addr} {o : Obj} (hc : X.env.cells.lookup y = some c) (ho : s.heap.get? c = some o) : (big s H X.stack).get? c = some o := by
  refine big_get ho (I.freeC y c hc) fun hb => ?_
  rcases List.mem_cons.mp (I.stkSub c hb) with e | e
  · exact I.cne y c hc e
  · obtain ⟨_, u, hu, _⟩ := I.ok.funs.mem e
    exact absurd (Nat.lt_of_lt_of_le (Heap.lt_size hu) (I.ok.cab y c (hfn y) hc)) (Nat.lt_irrefl _)
end
structure LamS2 (N : List Str) (sc scope : Scope) (ps : List Str) : Prop where
  kind : scope.kind = .function
  co : scope.isCoroutine = false
  gen : scope.isGenerator = false
  cell : ∀ y ∈ scope.names, y.2 ≠ .cell
  loc : ∀ y ∈ scope.names, y.2 = .local → y.1 ∉ N
  par : ∀ p ∈ ps, scope.names.lookup p = some .local
  free : ∀ y ∈ scope.names, y.2 = .free → sc.names.lookup y.1 = some .cell ∨ sc.names.lookup y.1 = some .free
def lamB2 (N : List Str) (sc scope : Scope) (ps : List Str) : Bool :=
  decide (scope.kind = .function) && (!scope.isCoroutine && (!scope.isGenerator && ((scope.names.all fun y => !decide (y.2 = .cell)) && ((scope.names.all fun y => !decide (y.2 = .local) || !N.contains y.1) &&
    ((ps.all fun p => decide (scope.names.lookup p = some .local)) && scope.names.all fun y => !decide (y.2 = .free) || (decide (sc.names.lookup y.1 = some .cell) || decide (sc.names.lookup y.1 = some .free)))))))
theorem lamS2_by {N : List Str} {sc scope : Scope} {ps : List Str} (h : lamB2 N sc scope ps = true) : LamS2 N sc scope ps := by
  unfold lamB2 at h
  simp only [Bool.and_eq_true, Bool.or_eq_true, Bool.not_eq_true', decide_eq_true_eq, decide_eq_false_iff_not, List.all_eq_true] at h
  obtain ⟨h1, h2, h3, h4, h5, h6, h7⟩ := h
  refine ⟨h1, h2, h3, h4, fun y hy e hm => ?_, h6, fun y hy e => ?_⟩
  · rcases h5 y hy with z | z
    · exact z e
    · rw [List.contains_iff_mem.mpr hm] at z; cases z
  · rcases h7 y hy with z | z
    · exact absurd e z
    · exact z
theorem LamS2.has {X : Cx} {scope : Scope} {ps : List Str} (L : LamS2 X.N X.env.scope scope ps) (ok : X.Ok) : ∀ y ∈ scope.names, y.2 = .free → ∃ c, X.env.cells.lookup y.1 = some c := fun y hy e => by
  rcases L.free y hy e with k | k
  · exact ok.has _ (.inl k)
  · exact ok.has _ (.inr k)
abbrev lamCxB (X : Cx) (B : Heap) (A : Around) (outer : List Env) (s : Shared) (H : Hp) (E : XK) (scope : Scope) (f c' : Addr) : Cx := { lamCx X A outer s H E scope f c' with base := B }
section
variable {X : Cx} {pins : List (Addr × Obj)} {σ : L2.St} {H HZ : Hp} {s s1 : Shared}
theorem lam_start3 {B : Heap} {A : Around} {outer : List Env} {E : XK} {scope : Scope} {ps : List Str} {f c' : Addr} {h₁ : Heap} {tk : Nat} {m : Str → Option Value} (I : Inv X pins σ H s) (L : LamS2 X.N X.env.scope scope ps)
    (hB : ∀ y c o, X.env.cells.lookup y = some c → s.heap.get? c = some o → B.get? c = some o) (e0 : Env0 X.prog X.w X.K X.mg B A outer s1 HZ) (hd : A.handled = none)
    (hns : h₁.Ns s1.heap.objs.size m) (kp : ∀ b o, s1.heap.get? b = some o → h₁.get? b = some o) :
    Inv (lamCxB X B A outer s1 HZ E scope f c') [] σ HZ { s1 with heap := h₁, toks := tk } := by
  have hfree := L.has I.ok
  have cm : ∀ {y c}, (cloFrom X.env.cells scope.names []).lookup y = some c → X.env.cells.lookup y = some c := fun {y c} e => by
    rcases cloFrom_mem (PySem.mem_of_lookup e) with hm | ⟨h1, h2⟩
    · cases hm
    · obtain ⟨c1, hc⟩ := hfree _ h1 rfl
      have hc : X.env.cells.lookup y = some c1 := hc
      rw [h2, hc] <;> rfl
  have look : ∀ {y}, scope.names.lookup y = some .free → ∃ c, (cloFrom X.env.cells scope.names []).lookup y = some c := fun {y} hl =>
    mem_lookup (cloFrom_has (cells := X.env.cells) (acc := []) (PySem.mem_of_lookup hl))
  have cell1 : ∀ {y : Str} {c : Addr} {v : Option Value}, X.env.cells.lookup y = some c → s.heap.IsCell c v → h₁.IsCell c v ∧ HZ c = none := fun {y c v} hc ⟨o, ho, hd⟩ => by
    obtain ⟨q1, q2⟩ := e0.bs c o (hB y c o hc ho)
    exact ⟨⟨o, kp _ _ q1, hd⟩, q2⟩
  have noA : ∀ b : Addr, b ∉ (lamCxB X B A outer s1 HZ E scope f c').ex := fun b z => nomatch (show b ∈ ([] : List Addr) from z)
  refine ⟨⟨e0.mod, L.kind, rfl, rfl, Nat.le_refl _, fun y z c e1 e2 => I.ok.inj y z c (cm e1) (cm e2), fun y hy => ?_, fun y c z _ => (Bool.false_ne_true z).elim, fun _ => hd, Around.frames_deeper e0.frames, .inr ⟨rfl, rfl⟩, fun b z => absurd z (noA b), e0.bs, e0.bsz, fun b _ _ => noA b,
      fun b z => absurd z (noA b), e0.funs, e0.frf⟩,
    rfl, e0.bare, Un.kept kp, ⟨_, hns, fun i y v e1 e2 e3 => ?_⟩, fun y c e => ?_, e0.hok.fresh (Nat.le_refl _), fun y c e => ?_, fun q hq => (List.not_mem_nil (show q ∈ ([] : List (Addr × Obj)) from hq)).elim, e0.hok.kept kp, I.len⟩
  · rcases (show scope.names.lookup y = some .cell ∨ scope.names.lookup y = some .free from hy) with hy | hy
    · exact absurd rfl (L.cell _ (PySem.mem_of_lookup hy))
    · exact look hy
  · rcases (show Vis scope y from e3) with k | k | k
    · exact absurd (List.mem_of_getElem? e1) (L.loc _ (PySem.mem_of_lookup k) rfl)
    · exact absurd rfl (L.cell _ (PySem.mem_of_lookup k))
    · obtain ⟨m', hn, hl⟩ := I.loc
      have kk := L.free _ (PySem.mem_of_lookup k) rfl
      obtain ⟨w', r, q⟩ := hl i y v e1 e2 (kk.elim (fun k => .inr (.inl k)) (fun k => .inr (.inr k)))
      obtain ⟨c2, h2⟩ := look k
      refine ⟨w', r, .inr ⟨.inr k, c2, h2, ?_⟩⟩
      rcases q with ⟨k', _⟩ | ⟨_, c3, e', z⟩
      · have k' : X.env.scope.names.lookup y = some .local := k'
        rcases kk with k2 | k2 <;> rw [show X.env.scope.names.lookup y = _ from k2] at k' <;> cases k'
      · rw [cm h2] at e'
        cases e'
        exact (cell1 (cm h2) z).1
  · obtain ⟨w', z⟩ := I.cell y c (cm e)
    exact ⟨w', (cell1 (cm e) z).1⟩
  · obtain ⟨w', z⟩ := I.cell y c (cm e)
    exact (cell1 (cm e) z).2
end
abbrev lamFd (q : Str) (params : Arguments) (body : Expr) (scope : Scope) (cl : List (Str × Addr)) (dV pm cdv ct : Value) : FuncData :=
  { name := "<lambda>", qualname := q, params, body := .expr body, scope, globals := mainGlobals, closure := cl, defaults := dV, kwdefaults := .none, doc := .none, pyModule := pm, annotations := none, code := cdv, closureTuple := ct, builtins := builtinsNs }
abbrev lamOb (q : Str) (params : Arguments) (body : Expr) (scope : Scope) (cl : List (Str × Addr)) (dV pm cdv ct : Value) : Obj := { cls := .type "function", data := .func (lamFd q params body scope cl dV pm cdv ct) }
def LamO (f : Addr) (o : Obj) : HO := .ext fun h => h.get? f = some o
def DefO (T : Addr) (n : Nat) : HO := .ext fun h => ∃ (o : Obj) (its : Array Value) (m : Nat), h.get? T = some o ∧ o.data = .seq its m ∧ its.size = n
def Act (P : Program) (w : World) (K : PySem.W.Frag) (mg : Str → Option Value) (B : Heap) (k : Nat) (f : Addr) (sp : Hp → VK → XK → Prop) : Prop :=
  (∀ H Q E, sp H Q E → ∃ q params body scope cl dV pm cdv ct, H f = some (LamO f (lamOb q params body scope cl dV pm cdv ct))) ∧
  ∀ (A : Around) (outer : List Env) (s : Shared) (H : Hp) (Q : VK) (E : XK), Room k A → Env0 P w K mg B A outer s H → sp H Q E → codeAny (model P w) A (.call (.ref f) ⟨[], []⟩) (CR (L2.CX P w) outer P w H s Q E) s
def FillsD (params : Arguments) (body : Expr) (scope : Scope) (ps : List Str) : Prop := ∀ (q : Str) (cl : List (Str × Addr)) (T : Addr) (pm cdv ct : Value) (its : List Value), its.length = ps.length →
  ∃ k, bindArgs (lamFd q params body scope cl (.ref T) pm cdv ct) ⟨[], []⟩ = seqItems? (.ref T) >>= k ∧ k (some its.toArray) = pure (ps.zip its)
def FillsN (params : Arguments) (body : Expr) (scope : Scope) : Prop := ∀ (q : Str) (cl : List (Str × Addr)) (pm cdv ct : Value), bindArgs (lamFd q params body scope cl .none pm cdv ct) ⟨[], []⟩ = pure []
def LamAt (f c' : Addr) (q : Str) (o : Obj) (dT : Option (Addr × Nat)) : List (Addr × HO) := (f, LamO f o) :: (c', CodeO c' q) :: (match dT with | none => [] | some (T, n) => [(T, DefO T n)])
section
variable {X : Cx} {pins : List (Addr × Obj)} {σ : L2.St} {H : Hp} {s : Shared}
theorem lam_act {q : Str} {params : Arguments} {body : Expr} {scope : Scope} {ps : List Str} {dV pm ctv : Value} {f c' : Addr} {k : Nat} {t : XK → TE} {dT : Option (Addr × Nat)} (hq : X.env.qual ++ "<lambda>" = q) (I : Inv X pins σ H s) (hfn : ∀ y, X.fn y = true) (L : LamS2 X.N X.env.scope scope ps)
    (hD : (dT = none ∧ dV = .none ∧ FillsN params body scope) ∨ (∃ T, dT = some (T, ps.length) ∧ dV = .ref T ∧ FillsD params body scope ps))
    (hbody : ∀ (A : Around) (outer : List Env) (s' : Shared) (H' : Hp) (E : XK), Room k (A.deeper (lamEnv X scope s'.heap.objs.size f c')) → PE (lamCxB X (big s H X.stack) A outer s' H' E scope f c') body (t E)) :
    Act X.prog X.w X.K X.mg (big s H X.stack) (k + 1) f (fun H' Q E => (∀ p ∈ LamAt f c' q (lamOb q params body scope (cloFrom X.env.cells scope.names []) dV pm (.ref c') ctv) dT, H' p.1 = some p.2) ∧ t E σ H' Q) := by
  subst hq
  refine ⟨fun H' Q E h => ⟨_, _, _, _, _, _, _, _, _, h.1 _ List.mem_cons_self⟩, fun A outer s1 H1 Q E hr e0 h => ?_⟩
  obtain ⟨hL, ht⟩ := h
  obtain ⟨of1, _, _⟩ := e0.hok f _ (hL _ List.mem_cons_self)
  obtain ⟨⟨oc, vs, tt, hoc, hdc, hvc⟩, _, _⟩ := e0.hok c' _ (hL (c', CodeO c' (X.env.qual ++ "<lambda>")) (List.mem_cons_of_mem _ List.mem_cons_self))
  have lim : s1.heap.NoLimit := e0.mod.nolimit.keeps fun b o e => (e0.bs b o e).1
  have go : ∀ binds : List (Str × Value), (∀ y ∈ binds, scope.names.lookup y.1 = some .local) → wpAny (model X.prog X.w) A.in1 (newFunctionEnv scope mainGlobals (cloFrom X.env.cells scope.names []) binds (X.env.qual ++ "<lambda>" ++ ".<locals>.") (some f) (.ref c') none builtinsNs)
      (fun env s₂ => s₂.heap.NoLimit ∧ codeAny (model X.prog X.w) A (.expr body env) (CR (L2.CX X.prog X.w) outer X.prog X.w H1 s1 Q E) s₂) (fun e s' => CR (L2.CX X.prog X.w) outer X.prog X.w H1 s1 Q E (.error e) s') s1 := fun binds hbd => by
    refine wpAny_newFunctionEnv L.cell hbd (fun h₁ hns hsb => ⟨lim.fresh _ hsb, ?_⟩) L.kind
    have kp : ∀ b o, s1.heap.get? b = some o → h₁.get? b = some o := fun b o e => hsb.extBut b o (Nat.ne_of_lt (Heap.lt_size e)) (Heap.get?_push_of_some _ e)
    have J := lam_start3 (E := E) (c' := c') (f := f) (tk := s1.toks + binds.length) I L (fun y c o => big_cell I hfn) e0 hr.hd hns kp
    refine PySem.W.kla_codeExpr (wpAny_mono ((hbody A outer s1 H1 E (hr.deeper _)).run [] _ _ H1 Q J ht) (fun v s' hq => ?_) fun e s' hq => hq)
    obtain ⟨w', H', J', rv, q⟩ := hq
    exact ⟨w', H', J'.os, J'.bare, J'.base, J'.hok, rv, q⟩
  refine PySem.W.kla_callFunE hr.depth of1 rfl L.co L.gen rfl ⟨c', oc, vs, tt, rfl, hoc, hdc, hvc⟩ ?_
  rcases hD with ⟨_, rfl, hb⟩ | ⟨T, rfl, rfl, hb⟩
  · rw [hb]
    exact wpAny_pure (go [] (fun y hy => nomatch hy))
  · obtain ⟨⟨o, its, mm, h1, h2, h3⟩, _, _⟩ := e0.hok T _ (hL (T, DefO T ps.length) (by simp [LamAt]))
    obtain ⟨kk, e1, e2⟩ := hb (X.env.qual ++ "<lambda>") (cloFrom X.env.cells scope.names []) T pm (.ref c') ctv its.toList (by simpa using h3)
    rw [e1]
    refine wpAny_bind (wpAny_seqItems h1 h2 ?_)
    rw [show its = its.toList.toArray by simp, e2]
    exact wpAny_pure (go _ fun y hy => L.par y.1 (List.of_mem_zip hy).1)
end
end CC
namespace CC
open PySem PySem.Spec PyProof.Rows L2
open LamX (CodeO TabS TabB lamEnv lamCx inv_table among_app codeO_ne)
open PySem.W (tabObj CodeHd)
section
variable {M : Model} {A : Around} {E : Value → Shared → Prop} {s : Shared} {qual : Str} {params : Arguments} {body : Expr} {scope : Scope} {env : Env} {c P : Addr} {ps : Array Value} {pos : Pos} {firstLine : Nat} {mg : Str → Option Value} {clos : List (Str × Addr)} {Q : Value → Shared → Prop} {dV : Value}
theorem lam_tail (hcl : closureFor scope env = pure clos) (hge0 : env.globals = mainGlobals) (hg : s.heap.Ns mainGlobals mg) (hcode : env.code = .ref c) (C : CodeHd s.heap c P) (hP : s.heap.get? P = some (tabObj ps)) (ht : TriplesOk ps.toList) (hgP : mainGlobals ≠ P) (hb : s.heap.BuiltinsAt mg P)
    (hit : ∀ (cv ctv : Value) (h' : Heap) (tk : Tok), codeAmong pos ps.toList = some cv → (∀ b o, s.heap.get? b = some o → h'.get? b = some o) → s.heap.objs.size ≤ h'.objs.size → Q (.ref h'.objs.size) { s with heap := h'.push (lamOb qual params body scope clos dV ((mg "__name__").getD .none) cv ctv), toks := tk })
    (mis : ∀ c' ctv h' tk, codeAmong pos ps.toList = none → Heap.ExtBut P s.heap h' → s.heap.objs.size ≤ c' → c' < h'.objs.size → h'.CodeRec (.ref c') qual → h'.get? P = some (tabObj (ps ++ #[rawInt pos.line, rawInt pos.col, .ref c'])) →
      Q (.ref h'.objs.size) { s with heap := h'.push (lamOb qual params body scope clos dV ((mg "__name__").getD .none) (.ref c') ctv), toks := tk }) :
    wpAny M A (makeTail "<lambda>" qual params (.expr body) scope env dV .none none pos firstLine) Q E s := by
  obtain ⟨bm, ob, b1, b2, _, b4, b5, b6, b7, b8⟩ := hb
  have rest : ∀ (ctv : Value) (s1 : Shared), s1 = { s with heap := s1.heap } → (∀ b o, s.heap.get? b = some o → s1.heap.get? b = some o) → s.heap.objs.size ≤ s1.heap.objs.size →
      wpAny M A (functionCode env pos firstLine "<lambda>" qual params scope (.expr body) >>= fun cd => builtinsFor mainGlobals env.builtins >>= fun bt => nsGet mainGlobals "__name__" >>= fun pm => (pure Value.none : Sem Value) >>= fun dc =>
        newObj (.type "function") (.func { name := "<lambda>", qualname := qual, params, body := .expr body, scope, globals := mainGlobals, closure := clos, defaults := dV, kwdefaults := .none, doc := dc, pyModule := pm.getD .none, annotations := none, code := cd, closureTuple := ctv, builtins := bt })) Q E s1 := by
    intro ctv s1 e1 k1 z1
    obtain ⟨hh, g1, g2, g3, g4⟩ := s1
    cases e1
    have C1 := C.keeps k1
    have P1 := k1 _ _ hP
    have G1 := hg.keeps k1
    cases hc : codeAmong pos ps.toList with
    | some cv =>
      refine wpAny_bind (wpAny_functionCode_hit hcode (C1.code P1 ht) hc ?_)
      refine wpAny_bind (wpAny_builtinsFor G1 b1 b2 (k1 _ _ b5) b6 b7 b8 ?_)
      refine wpAny_bind (wpAny_nsGet G1 ?_)
      exact wpAny_bind (wpAny_pure (wpAny_newObj_type (hit cv ctv hh _ hc k1 z1) (by size_fits)))
    | none =>
      refine wpAny_bind (wpAny_functionCodeX hcode (C1.code P1 ht) (C1.tab P1) hc fun c' h' tk hx hge hlt _ hrec htb _ => ?_)
      have G2 := G1.extBut hx hgP
      refine wpAny_bind (wpAny_builtinsFor G2 b1 b2 (hx _ _ b4 (k1 _ _ b5)) b6 b7 b8 ?_)
      refine wpAny_bind (wpAny_nsGet G2 ?_)
      exact wpAny_bind (wpAny_pure (wpAny_newObj_type (mis c' ctv h' tk hc (fun b o hb e => hx b o hb (k1 b o e)) (Nat.le_trans z1 hge) hlt hrec htb.2) (by size_fits)))
  unfold makeTail
  rw [hcl, hge0]
  refine wpAny_bind (wpAny_pure ?_)
  cases clos with
  | nil =>
    simp only [List.isEmpty_nil, if_true]
    exact wpAny_bind (wpAny_pure (rest _ s rfl (fun _ _ e => e) (Nat.le_refl _)))
  | cons q r =>
    simp only [List.isEmpty_cons, Bool.false_eq_true, if_false]
    exact wpAny_bind (wpAny_newTextTuple (rest _ _ rfl (fun b o e => Heap.get?_push_of_some _ e) (by rw [Heap.size_push]; omega)))
end
def TabV (hd : Addr → Bool) (H : Hp) (P : Addr) (q : Str) : Prop := ∃ ps : Array Value, H P = some (.tbl ps) ∧ TriplesOk ps.toList ∧ ∀ (pos : Pos) (cv : Value), codeAmong pos ps.toList = some cv → ∃ c, cv = .ref c ∧ Hm hd H c = some (CodeO c q)
theorem TabV.nil {hd : Addr → Bool} {H : Hp} {P : Addr} {q : Str} (h : TabS H P q) (e : ∀ ps, H P = some (.tbl ps) → ps = #[]) : TabV hd H P q := by
  obtain ⟨ps, h1, _, _⟩ := h
  cases e ps h1
  refine ⟨_, h1, trivial, fun pos cv hc => ?_⟩
  have z : codeAmong pos [] = some cv := hc
  simp [codeAmong] at z
theorem TabV.stay {hd hd' : Addr → Bool} {H H' : Hp} {P : Addr} {q : Str} (hP : ∀ o, H P = some o → H' P = some o) (hx : Sees (Hm hd H) (Hm hd' H')) (t : TabV hd H P q) : TabV hd' H' P q := by
  obtain ⟨ps, h1, h2, h3⟩ := t
  refine ⟨ps, hP _ h1, h2, fun pos cv hc => ?_⟩
  obtain ⟨c, e1, e2⟩ := h3 pos cv hc
  obtain ⟨o, e3, e4⟩ := hx _ _ e2
  rw [e4.plain rfl] at e3
  exact ⟨c, e1, e3⟩
theorem TabV.up {hd : Addr → Bool} {H : Hp} {P f : Addr} {q : Str} {o : HO} (hf : H f = none) (t : TabV hd H P q) : TabV hd (upd H f o) P q := by
  refine t.stay (fun u hu => by rw [upd_ne (ne_of_none hu hf)]; exact hu) fun a u hu => ⟨u, ?_, .rfl⟩
  rw [hm_of (hm_not hu), upd_ne (ne_of_none (hm_le hu) hf)]
  exact hm_le hu
def at0 (P : Addr) : Addr → Bool := fun a => decide (a = P)
theorem at0_of {P a : Addr} (h : at0 P a = false) : a ≠ P := fun z => by subst z; unfold at0 at h; rw [decide_eq_true rfl] at h; cases h
section
variable {X : Cx} {pins : List (Addr × Obj)} {σ : L2.St} {H : Hp} {s : Shared} {hd : Addr → Bool} {c P : Addr} {q : Str} {params : Arguments} {body : Expr} {scope : Scope} {pos : Pos} {E : Value → Shared → Prop} {Q : Value → Shared → Prop} {dV : Value}
theorem lam_fin {firstLine : Nat} (I : Inv X pins σ H s) (TB : TabB X.base X.mg c P) (hcode : X.env.code = .ref c) (dom : ∀ a, hd a = true → H a ≠ none) (hT : TabV hd H P q)
    (hfree : ∀ y ∈ scope.names, y.2 = .free → ∃ c, X.env.cells.lookup y.1 = some c)
    (h : ∀ (f c' : Addr) (pm ctv : Value) (H3 : Hp) (s' : Shared), Inv X pins σ H3 s' → Ex (at0 P) H H3 → H f = none → TabV hd H3 P q → H3 f = some (LamO f (lamOb q params body scope (cloFrom X.env.cells scope.names []) dV pm (.ref c') ctv)) → Hm hd H3 c' = some (CodeO c' q) → Q (.ref f) s') :
    wpAny (model X.prog X.w) X.A (makeTail "<lambda>" q params (.expr body) scope X.env dV .none none pos firstLine) Q E s := by
  have hT' := hT
  obtain ⟨ps, hP, ht, ha⟩ := hT
  have getP : s.heap.get? P = some { cls := .none, data := .fields ps } := I.hok P _ hP
  have vis : ∀ a, H a = none → hd a = false := fun a n => by
    cases z : hd a with
    | false => rfl
    | true => exact absurd n (dom a z)
  refine lam_tail (closure_ok hfree) I.ok.glob (I.mod.glob.keeps I.bk) hcode (TB.code.keeps I.bk) getP ht TB.gP (TB.bm.keeps I.bk) (fun cv ctv h' tk hc kp sz => ?_) fun c' ctv h' tk hc hx hge hlt hrec htb => ?_
  · obtain ⟨c', rfl, hco⟩ := ha pos cv hc
    have nf : H h'.objs.size = none := I.hok.fresh sz
    have I1 : Inv X pins σ H { s with heap := h', toks := tk } := I.kept kp
    have I2 := I1.laid (t' := tk) (a := h'.objs.size) (o := LamO h'.objs.size (lamOb q params body scope (cloFrom X.env.cells scope.names []) dV ((X.mg "__name__").getD .none) (.ref c') ctv)) (h' := h'.push (lamOb q params body scope (cloFrom X.env.cells scope.names []) dV ((X.mg "__name__").getD .none) (.ref c') ctv)) (fun b u e => Heap.get?_push_of_some _ e) (Nat.le_refl _) ⟨Heap.get?_push_size _ rfl, ⟨_, Heap.get?_push_size _ rfl⟩, fun h1 h2 p st => st _ p⟩
    refine h _ c' _ ctv _ _ I2 (.new nf) nf (hT'.up nf) upd_same ?_
    rw [hm_of (hm_not hco), upd_ne (ne_of_none (hm_le hco) nf)]
    exact hm_le hco
  · obtain ⟨c2, oc, vs, t, e2, hoc, hdd, hv⟩ := hrec
    cases e2
    have nc : H c' = none := I.hok.fresh hge
    have sz : s.heap.objs.size ≤ h'.objs.size := by omega
    have nf : H h'.objs.size = none := I.hok.fresh sz
    have I1 := inv_table (t' := tk) (q := q) (more := #[rawInt pos.line, rawInt pos.col, .ref c']) I hP (fun b o hb e => hx b o hb e) htb hge ⟨oc, vs, t, hoc, hdd, hv⟩
    have nfc : h'.objs.size ≠ c' := Nat.ne_of_gt hlt
    have nfP : h'.objs.size ≠ P := fun z => by rw [z, hP] at nf; cases nf
    have nPc : P ≠ c' := fun z => by rw [z, nc] at hP; cases hP
    have nf1 : upd (upd H P (.tbl (ps ++ #[rawInt pos.line, rawInt pos.col, .ref c']))) c' (CodeO c' q) h'.objs.size = none := by rw [upd_ne nfc, upd_ne nfP]; exact nf
    have I2 := I1.laid (t' := tk) (a := h'.objs.size) (o := LamO h'.objs.size (lamOb q params body scope (cloFrom X.env.cells scope.names []) dV ((X.mg "__name__").getD .none) (.ref c') ctv)) (h' := h'.push (lamOb q params body scope (cloFrom X.env.cells scope.names []) dV ((X.mg "__name__").getD .none) (.ref c') ctv)) (fun b u e => Heap.get?_push_of_some _ e) (Nat.le_refl _) ⟨Heap.get?_push_size _ rfl, ⟨_, Heap.get?_push_size _ rfl⟩, fun h1 h2 p st => st _ p⟩
    have rows : (ps ++ #[rawInt pos.line, rawInt pos.col, .ref c']).toList = ps.toList ++ [rawInt pos.line, rawInt pos.col, .ref c'] := by simp
    have T1 : TabV hd (upd (upd H P (.tbl (ps ++ #[rawInt pos.line, rawInt pos.col, .ref c']))) c' (CodeO c' q)) P q := by
      refine ⟨_, by rw [upd_ne nPc, upd_same], by rw [rows]; exact PySem.TriplesOk_snoc _ _ _ _ ht, fun p' cv hcv => ?_⟩
      rw [rows] at hcv
      rcases among_app _ ht hcv with z | z
      · obtain ⟨c0, e1, e2⟩ := ha p' cv z
        have n0 : c0 ≠ P := fun z => by subst z; rw [hm_le e2] at hP; cases hP
        exact ⟨c0, e1, by rw [hm_of (hm_not e2), upd_ne (ne_of_none (hm_le e2) nc), upd_ne n0]; exact hm_le e2⟩
      · exact ⟨c', z, by rw [hm_of (vis _ nc)]; exact upd_same⟩
    refine h _ c' _ ctv _ _ I2 ⟨fun a o hm ho => ?_, fun a ho => upd_dom (upd_dom (upd_dom ho))⟩ nf (T1.up nf1) upd_same ?_
    · rw [upd_ne (ne_of_none ho nf), upd_ne (ne_of_none ho nc), upd_ne (at0_of hm)]
      exact ho
    · rw [hm_of (vis _ nc), upd_ne nfc.symm, upd_same]
def DD (es : List Expr) (dT : Option (Addr × Nat)) (dV : Value) : Prop := (es = [] ∧ dT = none ∧ dV = .none) ∨ ∃ T, es ≠ [] ∧ dT = some (T, es.length) ∧ dV = .ref T
def tLamO (P : Addr) (q : Str) (params : Arguments) (body : Expr) (scope : Scope) (cl : List (Str × Addr)) (es : List Expr) : TE := fun σ H Q => ∃ hd, (∀ a, hd a = true → H a ≠ none) ∧ TabV hd H P q ∧
  ∀ (f c' : Addr) (pm ctv dV : Value) (dT : Option (Addr × Nat)) (H3 : Hp), DD es dT dV → Ex (at0 P) H H3 → H f = none → TabV hd H3 P q → (∀ p ∈ LamAt f c' q (lamOb q params body scope cl dV pm (.ref c') ctv) dT, Hm hd H3 p.1 = some p.2) → Q (.ref f) H3
theorem constVals_len : ∀ {es : List Expr} {vs : List Value}, ConstVals es vs → vs.length = es.length
  | [], [], _ => rfl
  | _ :: _, _ :: _, h => congrArg Nat.succ (constVals_len h.2)
theorem pe_lamO {es : List Expr} (TB : TabB X.base X.mg c P) (hcode : X.env.code = .ref c) (hq : X.env.qual ++ "<lambda>" = q) (hdef : defaultsOf params X.env = (evalEach es X.env, [])) (hes : ∀ e ∈ es, e.isPlainConst = true)
    (hfree : X.Ok → ∀ y ∈ scope.names, y.2 = .free → ∃ c, X.env.cells.lookup y.1 = some c) :
    PE X (.Lambda params body scope pos) (tLamO P q params body scope (cloFrom X.env.cells scope.names []) es) := by
  refine ⟨fun pins s σ H Q I h => ?_⟩
  obtain ⟨hd, dom, hT, h⟩ := h
  have vis : ∀ {G : Hp} (a : Addr), (∀ a, hd a = true → G a ≠ none) → G a = none → hd a = false := fun a dm n => by
    cases z : hd a with
    | false => rfl
    | true => exact absurd n (dm a z)
  rw [arm_eval_Lambda, hdef]
  show wpAny _ _ (do let dv ← evalAll (evalEach es X.env); let kdv ← holding dv (evalAllOpt []); makeFunction "<lambda>" (X.env.qual ++ "<lambda>") params (.expr body) scope X.env dv kdv [] pos pos.line) _ _ _
  rw [hq]
  refine wpAny_bind (wpAny_evalAll_consts es s _ hes fun vs tk hv => wpAny_bind (wpAny_holding (wpAny_pure ?_)))
  have hl := constVals_len hv
  rw [makeFunction_eq]
  simp only [List.zip_nil_right, List.filterMap_nil, List.isEmpty_nil, if_true, pure_bind]
  have I0 : Inv X pins σ H { s with toks := tk } := I.tok _
  cases vs with
  | nil =>
    have e0 : es = [] := List.length_eq_zero_iff.mp hl.symm
    simp only [List.isEmpty_nil, if_true, pure_bind]
    refine lam_fin I0 TB hcode dom hT (hfree I.ok) fun f c' pm ctv H3 s' I3 e3 nf T3 hf hc => ?_
    refine ⟨.ref f, H3, I3, rfl, h f c' pm ctv .none none H3 (.inl ⟨e0, rfl, rfl⟩) e3 nf T3 fun p hp => ?_⟩
    rcases List.mem_cons.mp hp with rfl | hp
    · rw [hm_of (vis f dom nf)]; exact hf
    · rcases List.mem_cons.mp hp with rfl | hp
      · exact hc
      · cases hp
  | cons v vs =>
    simp only [List.isEmpty_cons, Bool.false_eq_true, if_false]
    refine wpAny_bind (wpAny_newTextTuple ?_)
    have nT : H s.heap.objs.size = none := I.hok.fresh (Nat.le_refl _)
    have I1 := I0.laid (t' := tk) (a := s.heap.objs.size) (o := DefO s.heap.objs.size es.length) (h' := s.heap.push { cls := .type "tuple", data := .seq (v :: vs).toArray }) (fun b u e => Heap.get?_push_of_some _ e) (Nat.le_refl _) ⟨⟨_, _, _, Heap.get?_push_size _ rfl, rfl, by simpa using hl⟩, ⟨_, Heap.get?_push_size _ rfl⟩, fun h1 h2 ⟨o, its, m, p1, p2, p3⟩ st => ⟨o, its, m, st _ p1, p2, p3⟩⟩
    have dom1 : ∀ a, hd a = true → upd H s.heap.objs.size (DefO s.heap.objs.size es.length) a ≠ none := fun a ha => upd_dom (dom a ha)
    refine lam_fin I1 TB hcode dom1 (hT.up nT) (hfree I.ok) fun f c' pm ctv H3 s' I3 e3 nf T3 hf hc => ?_
    have nf0 : H f = none := (Ex.new (mu := at0 P) nT).fresh nf
    refine ⟨.ref f, H3, I3, rfl, h f c' pm ctv _ (some (s.heap.objs.size, es.length)) H3 (.inr ⟨_, (fun z => by rw [z] at hl; cases hl), rfl, rfl⟩) ((Ex.new nT).trans e3) nf0 T3 fun p hp => ?_⟩
    rcases List.mem_cons.mp hp with rfl | hp
    · rw [hm_of (vis f dom1 nf)]; exact hf
    · rcases List.mem_cons.mp hp with rfl | hp
      · exact hc
      · cases List.mem_singleton.mp hp
        rw [hm_of (vis _ dom nT)]
        refine e3.keep _ _ ?_ upd_same
        obtain ⟨ps, hP, _⟩ := hT
        exact decide_eq_false fun z => by rw [← z, nT] at hP; cases hP
end
end CC
namespace CC
open PySem PySem.Spec PyProof.Rows L2
open C8 (Cal pe_c pe_gc)
structure Cl (K : PySem.W.Frag) where
  mu : Addr → Bool
  B : (Addr → Bool) → Hp → Prop
  stab : ∀ hd hd' H H', Sees (Hm hd H) (Hm hd' H') → (∀ a o, (mu a = true ∨ ext o = true) → H a = some o → H' a = some o) → B hd H → B hd' H'
  live : ∀ hd H, B hd H → ∀ a, mu a = true → H a ≠ none
def Cl.pure (K : PySem.W.Frag) : Cl K := ⟨none0, fun _ _ => True, fun _ _ _ _ _ _ _ => trivial, fun _ _ _ _ h => nomatch h⟩
def Cl.box (K : PySem.W.Frag) (b l : Addr) : Cl K := ⟨muB b l, fun _ H => Bx b l H, (cnB K b l).stab, fun _ H ⟨s, ns, h1, h2⟩ a h => by
  rcases muB_of h with rfl | rfl
  · rw [h1]; exact fun z => nomatch z
  · rw [h2]; exact fun z => nomatch z⟩
inductive MT where
  | lst (xs : List RV) | dk (kvs : List (Key × RV)) | dl (od : Obj) (vs : List (Key × V)) (kvs : List (Key × RV)) | ins (C dx : Addr) (fs : List (Str × RV)) | tp (xs : List RV) | tab (q : Str)
abbrev GT : Type := Addr → Option MT
def MTk (K : PySem.W.Frag) (hd : Addr → Bool) (H : Hp) (a : Addr) : MT → Prop
  | .lst rs => ∃ vs, H a = some (.lst vs) ∧ P2 (RvOk K (Hm hd H)) vs rs
  | .dk rs => ∃ vs, H a = some (.dK vs) ∧ P2 (RvF K (Hm hd H) Key) vs rs
  | .dl od vs rs => H a = some (.frz od (.dK vs)) ∧ P2 (RvF K (Hm hd H) Key) vs rs
  | .ins C dx rs => ∃ vs, H a = some (.ins C dx vs) ∧ P2 (RvF K (Hm hd H) Str) vs rs
  | .tp rs => ∃ vs, H a = some (.tup vs) ∧ P2 (RvOk K (Hm hd H)) vs rs
  | .tab q => TabV hd H a q
def setG (g : GT) (a : Addr) (m : MT) : GT := fun b => if b = a then some m else g b
theorem setG_same {g : GT} {a : Addr} {m : MT} : setG g a m a = some m := if_pos rfl
theorem setG_ne {g : GT} {a b : Addr} {m : MT} (h : b ≠ a) : setG g a m b = g b := if_neg h
theorem MTk.mono {K : PySem.W.Frag} {hd hd' : Addr → Bool} {H H' : Hp} {a : Addr} {m : MT} (e : Sees (Hm hd H) (Hm hd' H')) (k : ∀ o, H a = some o → H' a = some o) (h : MTk K hd H a m) : MTk K hd' H' a m := by
  cases m with
  | lst rs => obtain ⟨vs, h1, h2⟩ := h; exact ⟨vs, k _ h1, h2.imp fun _ _ r => r.mono e⟩
  | dk rs => obtain ⟨vs, h1, h2⟩ := h; exact ⟨vs, k _ h1, h2.imp fun _ _ r => ⟨r.1, r.2.mono e⟩⟩
  | dl od vs rs => obtain ⟨h1, h2⟩ := h; exact ⟨k _ h1, h2.imp fun _ _ r => ⟨r.1, r.2.mono e⟩⟩
  | ins C dx rs => obtain ⟨vs, h1, h2⟩ := h; exact ⟨vs, k _ h1, h2.imp fun _ _ r => ⟨r.1, r.2.mono e⟩⟩
  | tp rs => obtain ⟨vs, h1, h2⟩ := h; exact ⟨vs, k _ h1, h2.imp fun _ _ r => r.mono e⟩
  | tab q => exact TabV.stay k e h
theorem MTk.at {K : PySem.W.Frag} {hd : Addr → Bool} {H : Hp} {a : Addr} {m : MT} (h : MTk K hd H a m) : ∃ o, H a = some o ∧ ext o = false := by
  cases m with
  | lst rs => obtain ⟨vs, h1, h2⟩ := h; exact ⟨_, h1, rfl⟩
  | dk rs => obtain ⟨vs, h1, h2⟩ := h; exact ⟨_, h1, rfl⟩
  | dl od vs rs => obtain ⟨h1, h2⟩ := h; exact ⟨_, h1, rfl⟩
  | ins C dx rs => obtain ⟨vs, h1, h2⟩ := h; exact ⟨_, h1, rfl⟩
  | tp rs => obtain ⟨vs, h1, h2⟩ := h; exact ⟨_, h1, rfl⟩
  | tab q => obtain ⟨ps, h1, h2⟩ := h; exact ⟨_, h1, rfl⟩
@[reducible] def WT {K : PySem.W.Frag} (X : Cl K) : Wd where
  K := K
  G := GT
  mu := fun g a => X.mu a || (g a).isSome
  B := fun g hd H => X.B hd H ∧ ∀ a m, g a = some m → X.mu a = false ∧ MTk K hd H a m
  stab := fun g hd hd' H H' e k h => ⟨X.stab hd hd' H H' e (fun a o ha => k a o (ha.imp (fun h => by rw [h, Bool.true_or]) id)) h.1, fun a m hm => ⟨(h.2 a m hm).1, (h.2 a m hm).2.mono e fun o ho => k a o (.inl (by rw [hm]; exact Bool.or_true _)) ho⟩⟩
  live := fun g hd H h a ha => by
    rcases Bool.or_eq_true_iff.mp ha with ha | ha
    · exact X.live hd H h.1 a ha
    · obtain ⟨m, hm⟩ := Option.isSome_iff_exists.mp ha
      obtain ⟨o, ho, _⟩ := (h.2 a m hm).2.at
      rw [ho]; exact fun z => nomatch z
abbrev ct {K : PySem.W.Frag} (X : Cl K) (g : GT) : Cn := (WT X).cn g
section
variable {K : PySem.W.Frag} {X : Cl K} {g : GT} {hd : Addr → Bool} {H H' : Hp} {a : Addr} {m m' : MT} {o : HO}
theorem muT (h : g a = some m) : (WT X).mu g a = true := by show (X.mu a || (g a).isSome) = true; rw [h]; exact Bool.or_true _
theorem mu_setG (h : g a = some m) (x : Addr) : (WT X).mu (setG g a m') x = (WT X).mu g x := by
  show (X.mu x || (setG g a m' x).isSome) = (X.mu x || (g x).isSome)
  by_cases q : x = a
  · subst q; rw [setG_same, h]; rfl
  · rw [setG_ne q]
theorem got_set (mh : ∀ x, (WT X).mu g x = true → hd x = true) (b : (WT X).B g hd H) (ha : g a = some m) (hx : ext o = false) (h : MTk K hd (upd H a o) a m') : Go (WT X) g (setG g a m') hd H (upd H a o) := by
  have hda := mh a (muT ha)
  have eun : un hd ((WT X).mu (setG g a m')) = hd := un_eq fun x hx => mh x (by rw [← mu_setG (m' := m') ha x]; exact hx)
  refine ⟨(Ex.refl (H := H)).mut (.inr (muT ha)), ?_, ⟨fun x hx => by rw [mu_setG ha x]; exact hx, fun x hx => .inl (by rw [← mu_setG (m' := m') ha x]; exact hx)⟩⟩
  rw [eun]
  have na := (b.2 a m ha).1
  have sm : Sees (Hm hd H) (Hm hd (upd H a o)) := by rw [hm_upd hda]; exact Sees.refl
  refine ⟨X.stab hd hd H _ sm (fun x u hxu hu => ?_) b.1, fun x mx hx => ?_⟩
  · have : x ≠ a := fun z => by
      subst z
      rcases hxu with q | q
      · rw [na] at q; cases q
      · obtain ⟨u2, h3, h4⟩ := (b.2 x m ha).2.at
        rw [hu] at h3
        cases h3
        rw [h4] at q; cases q
    rw [upd_ne this]; exact hu
  · by_cases q : x = a
    · subst q
      rw [setG_same] at hx
      cases hx
      exact ⟨na, h⟩
    · rw [setG_ne q] at hx
      exact ⟨(b.2 x mx hx).1, (b.2 x mx hx).2.mono sm fun u hu => by rw [upd_ne q]; exact hu⟩
theorem got_new (b : (WT X).B g hd H) (mh : ∀ x, (WT X).mu g x = true → hd x = true) (e : Ex ((WT X).mu g) H H') (bb : (WT X).B g (hide hd a) H') (ha : H a = none) (h : MTk K (hide hd a) H' a m') : Go (WT X) g (setG g a m') hd H H' := by
  have na : g a = none := by
    cases q : g a with
    | none => rfl
    | some mm =>
      obtain ⟨u, hu, _⟩ := (b.2 a mm q).2.at
      rw [ha] at hu; cases hu
  have nx : X.mu a = false := by
    cases q : X.mu a with
    | false => rfl
    | true => exact absurd ha (X.live hd H b.1 a q)
  have sub : ∀ x, un hd ((WT X).mu (setG g a m')) x = true → hide hd a x = true := fun x hx => by
    rcases un_of hx with hx | hx
    · exact hide_of hx
    · by_cases q : x = a
      · subst q; exact hide_self
      · refine hide_of (mh x ?_)
        have : (X.mu x || (setG g a m' x).isSome) = true := hx
        rw [setG_ne q] at this
        exact this
  refine ⟨e, ?_, ⟨fun x hx => ?_, fun x hx => ?_⟩⟩
  · refine ((WT X).cn (setG g a m')).unhide sub ⟨bb.1, fun x mx hx => ?_⟩
    by_cases q : x = a
    · subst q
      rw [setG_same] at hx
      cases hx
      exact ⟨nx, h⟩
    · rw [setG_ne q] at hx
      exact bb.2 x mx hx
  · show (X.mu x || (setG g a m' x).isSome) = true
    by_cases q : x = a
    · subst q; rw [setG_same]; exact Bool.or_true _
    · rw [setG_ne q]; exact hx
  · by_cases q : x = a
    · subst q; exact .inr ha
    · refine .inl ?_
      have : (X.mu x || (setG g a m' x).isSome) = true := hx
      rw [setG_ne q] at this
      exact this
theorem g_none (b : (WT X).B g hd H) (ha : H a = none) : g a = none := by
  cases q : g a with
  | none => rfl
  | some mm =>
    obtain ⟨u, hu, _⟩ := (b.2 a mm q).2.at
    rw [ha] at hu; cases hu
end
def EAR (c : Cn) (ta : TA) (ρ : List Sl) (Q : List RV → Prop) : Prop := ∀ hd H σ, SV c hd H σ ρ → ∀ Qh : List V → Hp → Prop, (∀ rs vs H', Q rs → Ex c.mu H H' → c.B hd H' → P2 (RvOk c.K (Hm hd H')) vs rs → Qh vs H') → ta σ H Qh
section
variable {c : Cn} {ρ : List Sl} {te : TE} {tr : TA}
theorem ear_nil {Q : List RV → Prop} (h : Q []) : EAR c tNil ρ Q := fun hd H σ v Qh q => q [] [] H h .refl v.inv .nil
theorem ear_dat {Q : List RV → Prop} (h : EV c te ρ fun d => EAR c tr ρ fun rs => Q (.dat d :: rs)) : EAR c (tCons te tr) ρ Q := fun hd H σ v Qh q =>
  h hd H σ v _ fun d x H1 h1 e1 b1 r1 => h1 hd H1 σ (v.go e1 b1) _ fun rs vs H2 h2 e2 b2 r2 => q (.dat d :: rs) (x :: vs) H2 h2 (e1.trans e2) b2 (.cons (show RvOk _ _ x (.dat d) from r1.mono (e2.sees v.muh)) r2)
theorem ear_ref {Q : List RV → Prop} {a : Addr} (h : ERC c te ρ (.ref a)) (k : EAR c tr ρ fun rs => Q (.ref a :: rs)) : EAR c (tCons te tr) ρ Q := fun hd H σ v Qh q =>
  h hd H σ v _ (k hd H σ v _ fun rs vs H2 h2 e2 b2 r2 => q (.ref a :: rs) (.ref a :: vs) H2 h2 e2 b2 (.cons (show RvOk _ _ (.ref a) (.ref a) from rfl) r2))
end
def spR (K : PySem.W.Frag) (S : GT → List RV → (GT → RV → Prop) → Prop) : Sp := fun vs H Qh _ => ∃ (X : Cl K) (g : GT) (rs : List RV) (hid : Addr → Bool) (Q : GT → RV → Prop), (WT X).B g hid H ∧ (∀ a, (WT X).mu g a = true → hid a = true) ∧ (∀ a, hid a = true → H a ≠ none) ∧ P2 (RvOk K (Hm hid H)) vs rs ∧ S g rs Q ∧
  ∀ g' r v H', Q g' r → Go (WT X) g g' hid H H' → RvOk K (Hm (un hid ((WT X).mu g')) H') v r → Qh v H'
def slR : RV → Sl
  | .dat d => .im d
  | .ref a => .rw (.ref a)
def startR (N : List Str) (rs : List RV) : List Sl := rs.map slR ++ List.replicate (N.length - rs.length) .un
def RJR {K : PySem.W.Frag} (X : Cl K) (g : GT) (hid : Addr → Bool) (H0 : Hp) (R : VK) (r : RV) : Prop := ∀ v H', Ex ((WT X).mu g) H0 H' → (WT X).B g (un hid ((WT X).mu g)) H' → RvOk K (Hm (un hid ((WT X).mu g)) H') v r → R v H'
structure RetR {K : PySem.W.Frag} (X : Cl K) (g : GT) (hid : Addr → Bool) (H0 : Hp) (Q : GT → RV → Prop) (D : Ends) : Prop where
  rt : ∀ g' r, Q g' r → Fr (WT X) g g' H0 → RJR X g' hid H0 D.rt r
  nx : ∀ g', Q g' (.dat .non) → Fr (WT X) g g' H0 → ∀ ρ, NJ (ct X g') hid H0 D.nx ρ
theorem slall_R {K : PySem.W.Frag} {c : Cn} {hd : Addr → Bool} {H : Hp} (hK : c.K = K) : ∀ {vs : List V} {rs : List RV} {n : Nat}, P2 (RvOk K (Hm hd H)) vs rs → SlAll c hd H (vs.map some ++ List.replicate n none) (rs.map slR ++ List.replicate n .un)
  | _, _, n, .nil => by
    show SlAll c hd H (List.replicate n none) (List.replicate n .un)
    induction n with
    | zero => exact .nil
    | succ n ih =>
      rw [List.replicate_succ, List.replicate_succ]
      exact .cons trivial ih
  | _, r :: _, n, .cons h t => by
    subst hK
    refine .cons ?_ (slall_R rfl t)
    cases r with
    | dat d => exact h
    | ref a => exact h
theorem owns_R {rs : List RV} {n i : Nat} {s : Sl} (h : (rs.map slR ++ List.replicate n .un)[i]? = some s) : owns s = false := by
  rcases List.mem_append.mp (List.mem_of_getElem? h) with h | h
  · obtain ⟨r, _, rfl⟩ := List.mem_map.mp h
    cases r <;> rfl
  · rw [(List.mem_replicate.mp h).2]; rfl
theorem sd_startR {c : Cn} {hid : Addr → Bool} {H : Hp} {N : List Str} {vs : List V} {rs : List RV} (dom : ∀ a, hid a = true → H a ≠ none) (muh : ∀ a, c.mu a = true → hid a = true) (b : c.B hid H) (r : P2 (RvOk c.K (Hm hid H)) vs rs) : SD c hid hid H H (L2.start N vs) (startR N rs) := by
  have hl := r.len
  refine ⟨⟨dom, muh, b, ?_⟩, fun _ h => h, .refl, fun a h1 h2 => (by rw [h1] at h2; cases h2), fun i j o h1 => ?_, fun i o h1 => ?_⟩
  · unfold L2.start startR
    rw [hl]
    exact slall_R rfl r
  · obtain ⟨_, s, h2, h3⟩ := h1
    rw [owns_R h2] at h3; cases h3
  · obtain ⟨_, s, h2, h3⟩ := h1
    rw [owns_R h2] at h3; cases h3
section
variable {P : Program} {w : World} {K : PySem.W.Frag} {mg : Str → Option Value} {base : Heap}
theorem fn_r {x qual : Str} {st : Stmt} {f : Addr} {fd : FuncData} {N ps : List Str} {k : Nat} {S : GT → List RV → (GT → RV → Prop) → Prop} (F : Fun K x qual st f fd) (Sc : FnScope N ps (defScope st)) (len : ∀ g rs Q, S g rs Q → rs.length = ps.length)
    (hb : ∀ (cdv : Value) (A : Around) (outer : List Env) (s : Shared) (H : Hp) (E : XK), Room k (A.deeper (envOfC qual (defScope st) s.heap.objs.size f cdv)) →
      ∃ t, PSs (cxD P w K mg base N qual st f cdv A outer s H E) (defBody st) t ∧ ∀ (X : Cl K) g rs Q, S g rs Q → ∀ hid H0 (D : Ends), (∀ a, hid a = true → H0 a ≠ none) → RetR X g hid H0 Q D → NJ (ct X g) hid H0 (t D) (startR N rs)) :
    FnOk P w K mg base CX0 (k + 1) f fd ps (spR K S) := by
  refine F.ok Sc (fun vs H Q E h => ?_) (fun cdv A outer s H vs Q E hr h => ?_)
  · obtain ⟨X, g, rs, hid, Q', _, _, _, r, hS, _⟩ := h
    rw [r.len]
    exact len g rs Q' hS
  · obtain ⟨X, g, rs, hid, Q', bb, mh, dom, r, hS, q⟩ := h
    obtain ⟨t, ht, hn⟩ := hb cdv A outer s H E hr
    refine ⟨t, ht, hn X g rs Q' hS hid H { nx := fun _ H' => Q .non H', rt := Q } dom ⟨fun g' d hd f v H' e b r => q g' d v H' hd ⟨f.ex e, b, f⟩ r, fun g' hd f ρ hd' H' σ sd => ?_⟩ hid H _ (sd_startR (c := ct X g) dom mh bb r)⟩
    have sub : ∀ a, un hid ((WT X).mu g') a = true → hd' a = true := fun a h => by
      rcases un_of h with h | h
      · exact sd.sub a h
      · exact sd.muh a h
    exact q g' (.dat .non) .non H' hd ⟨f.ex sd.ext, ((WT X).cn g').unhide sub sd.inv, f⟩ .non
theorem cal_r {x : Str} {st : Stmt} {N ps : List Str} {k : Nat} {S : GT → List RV → (GT → RV → Prop) → Prop} (F : FnAt K mg x st ps) (Sc : FnScope N ps (defScope st)) (len : ∀ g rs Q, S g rs Q → rs.length = ps.length)
    (hb : ∀ (f : Addr) (cdv : Value) (A : Around) (outer : List Env) (s : Shared) (H : Hp) (E : XK), Room k (A.deeper (envOfC x (defScope st) s.heap.objs.size f cdv)) →
      ∃ t, PSs (cxD P w K mg base N x st f cdv A outer s H E) (defBody st) t ∧ ∀ (X : Cl K) g rs Q, S g rs Q → ∀ hid H0 (D : Ends), (∀ a, hid a = true → H0 a ≠ none) → RetR X g hid H0 Q D → NJ (ct X g) hid H0 (t D) (startR N rs)) :
    Cal P w K mg base (k + 1) x (spR K S) [] := by
  obtain ⟨f, fd, hm, F, b⟩ := F
  exact ⟨⟨f, fd, ps, [], fn_r F Sc len (hb f), hm, F.kp, b, .nil⟩⟩
theorem cal_mr {C : Addr} {m qual : Str} {st : Stmt} {N ps : List Str} {k : Nat} {S : GT → List RV → (GT → RV → Prop) → Prop} (A : MtAt K C m qual st ps) (Sc : FnScope N ps (defScope st)) (len : ∀ g rs Q, S g rs Q → rs.length = ps.length)
    (hb : ∀ (f : Addr) (cdv : Value) (A : Around) (outer : List Env) (s : Shared) (H : Hp) (E : XK), Room k (A.deeper (envOfC qual (defScope st) s.heap.objs.size f cdv)) →
      ∃ t, PSs (cxD P w K mg base N qual st f cdv A outer s H E) (defBody st) t ∧ ∀ (X : Cl K) g rs Q, S g rs Q → ∀ hid H0 (D : Ends), (∀ a, hid a = true → H0 a ≠ none) → RetR X g hid H0 Q D → NJ (ct X g) hid H0 (t D) (startR N rs)) :
    CalM P w K mg base CX0 (k + 1) C m (spR K S) := by
  obtain ⟨f, fd, hm, F, bi⟩ := A
  exact ⟨⟨f, fd, ps, fn_r F Sc len (hb f), hm, bi⟩⟩
theorem cal_ir {C : Addr} {qual : Str} {st : Stmt} {N ps : List Str} {k : Nat} {S : GT → List RV → (GT → RV → Prop) → Prop} (A : InAt K C qual st ps) (Sc : FnScope N ps (defScope st)) (len : ∀ g rs Q, S g rs Q → rs.length = ps.length)
    (hb : ∀ (f : Addr) (cdv : Value) (A : Around) (outer : List Env) (s : Shared) (H : Hp) (E : XK), Room k (A.deeper (envOfC qual (defScope st) s.heap.objs.size f cdv)) →
      ∃ t, PSs (cxD P w K mg base N qual st f cdv A outer s H E) (defBody st) t ∧ ∀ (X : Cl K) g rs Q, S g rs Q → ∀ hid H0 (D : Ends), (∀ a, hid a = true → H0 a ≠ none) → RetR X g hid H0 Q D → NJ (ct X g) hid H0 (t D) (startR N rs)) :
    CalI P w K mg base CX0 (k + 1) C (spR K S) := by
  obtain ⟨f, fd, hm, F, bi⟩ := A
  exact ⟨⟨f, fd, ps, fn_r F Sc len (hb f), hm, bi⟩⟩
end
end CC
namespace CC
open PySem PySem.Spec PyProof.Rows L2
open C8 (Cal pe_c pe_gc)
def EVR {K : PySem.W.Frag} (X : Cl K) (g : GT) (te : TE) (ρ : List Sl) (Q : GT → RV → Prop) : Prop := ∀ hd H σ, SV (ct X g) hd H σ ρ → ∀ Qh : VK, (∀ g' r v H', Q g' r → Go (WT X) g g' hd H H' → RvOk K (Hm (un hd ((WT X).mu g')) H') v r → Qh v H') → te σ H Qh
section
variable {K : PySem.W.Frag} {X : Cl K} {g : GT} {hid hd : Addr → Bool} {H0 H : Hp} {σ : L2.St} {ρ : List Sl} {te ta tb to td ty : TE} {t : TT} {D : Ends} {ts tz : TS}
theorem RvOk.hide {h1 h2 : Addr → Bool} (s : ∀ a, h1 a = true → h2 a = true) {v : V} {r : RV} (h : RvOk K (Hm h2 H) v r) : RvOk K (Hm h1 H) v r := h.mono (sees_hide s)
theorem evr {Q : GT → RV → Prop} (h : EV (ct X g) te ρ fun d => Q g (.dat d)) : EVR X g te ρ Q := fun hd H σ v Qh q => h hd H σ v Qh fun d x H' hq e b r => q g (.dat d) x H' hq (.of v.muh e b) (by rw [un_eq v.muh]; exact r)
theorem evr_ref {Q : GT → RV → Prop} {a : Addr} (h : ERC (ct X g) te ρ (.ref a)) (k : Q g (.ref a)) : EVR X g te ρ Q := fun hd H σ v Qh q => h hd H σ v Qh (q g (.ref a) (.ref a) H k (.of v.muh .refl v.inv) rfl)
theorem EVR.imp {Q Q' : GT → RV → Prop} (h : EVR X g te ρ Q) (k : ∀ g' r, Q g' r → Q' g' r) : EVR X g te ρ Q' := fun hd H σ v Qh q => h hd H σ v Qh fun g' r x H' hq => q g' r x H' (k g' r hq)
theorem evr_call {S : GT → List RV → (GT → RV → Prop) → Prop} {E : XK} {ta : TA} {Q : GT → RV → Prop} (h : EAR (ct X g) ta ρ fun rs => S g rs Q) : EVR X g (tCall (spR K S) [] E ta) ρ Q := fun hd H σ v Qh q => h hd H σ v _ fun rs vs H1 hq e1 b1 r1 => by
  have v1 := v.go e1 b1
  rw [List.append_nil]
  refine ⟨X, g, rs, hd, Q, v1.inv, v1.muh, v1.dom, r1, hq, fun g' r z H2 hq2 s2 r2 => q g' r z H2 hq2 ((Go.of v.muh e1 b1).trans ?_) r2⟩
  rw [un_eq v.muh]; exact s2
theorem evr_meth {C a dx : Addr} {m : Str} {fs : List (Str × RV)} {S : GT → List RV → (GT → RV → Prop) → Prop} {E : XK} {ta : TA} {Q : GT → RV → Prop} (hr : ERC (ct X g) to ρ (.ref a)) (ha : g a = some (.ins C dx fs)) (hm : fs.lookup m = none)
    (h : EAR (ct X g) ta ρ fun rs => S g (.ref a :: rs) Q) : EVR X g (tMeth C m (spR K S) [] E to ta) ρ Q := fun hd H σ v Qh q => hr hd H σ v _ (by
  obtain ⟨vs0, h1, h2⟩ := (v.inv.2 a _ ha).2
  refine ⟨a, dx, vs0, rfl, h1, h2.lookN hm, h hd H σ v _ fun rs vs H1 hq e1 b1 r1 => ?_⟩
  have v1 := v.go e1 b1
  rw [List.append_nil]
  refine ⟨X, g, .ref a :: rs, hd, Q, v1.inv, v1.muh, v1.dom, .cons rfl r1, hq, fun g' r z H2 hq2 s2 r2 => q g' r z H2 hq2 ((Go.of v.muh e1 b1).trans ?_) r2⟩
  rw [un_eq v.muh]; exact s2)
theorem p2_dats {G : Hp} : ∀ {vs : List V} {ds : List Dt}, RpAll K G vs ds → P2 (RvOk K G) vs (dats ds)
  | _, _, .nil => .nil
  | _, _, .cons r t => .cons r (p2_dats t)
theorem p2_rp {G : Hp} : ∀ {vs : List V} {ds : List Dt}, P2 (RvOk K G) vs (dats ds) → RpAll K G vs ds
  | _, [], .nil => .nil
  | _, _ :: _, .cons r t => .cons r (p2_rp t)
theorem evr_new {Q : GT → RV → Prop} (h : EN (ct X g) te ρ fun ds => ∀ o, g o = none → Q (setG g o (.lst (dats ds))) (.ref o)) : EVR X g te ρ Q := fun hd H σ v Qh q => h hd H σ v _ fun ds o vs H' hq e b ho h1 r => by
  have go1 := got_new (m' := .lst (dats ds)) v.inv v.muh e b ho ⟨vs, h1, p2_dats r⟩
  exact q _ _ _ H' (hq o (g_none v.inv ho)) go1 rfl
theorem SD.setRw {c : Cn} (s : SD c hid hd H0 H σ ρ) {i : Nat} {v : V} : SD c hid hd H0 H (σ.set i (some v)) (ρ.set i (.rw v)) := by
  refine ⟨⟨s.dom, s.muh, s.inv, s.slots.set (by exact rfl) i⟩, s.sub, s.ext, s.new, fun a b o h1 h2 => ?_, fun a o h1 => ?_⟩
  · rcases ownAt_set h1 with ⟨_, _, z⟩ | ⟨_, h1⟩
    · cases z
    · rcases ownAt_set h2 with ⟨_, _, z⟩ | ⟨_, h2⟩
      · cases z
      · exact s.own a b o h1 h2
  · rcases ownAt_set h1 with ⟨_, _, z⟩ | ⟨_, h1⟩
    · cases z
    · exact s.ownh a o h1
theorem SD.setR {g : GT} (s : SD (ct X g) hid hd H0 H σ ρ) {i : Nat} {v : V} {r : RV} (h : RvOk K (Hm hd H) v r) : SD (ct X g) hid hd H0 H (σ.set i (some v)) (ρ.set i (slR r)) := by
  cases r with
  | dat d => exact s.setIm h
  | ref a => cases h; exact s.setRw
theorem njr_asg {i : Nat} (h : EVR X g te ρ fun g' r => Fr (WT X) g g' H0 → NJ (ct X g') hid H0 D.nx (ρ.set i (slR r))) : NJ (ct X g) hid H0 (tAsg te (gName i) D) ρ := fun hd H σ s => h hd H σ s.toSV _ fun g' r v H' hq st rv => by
  obtain ⟨s', f⟩ := s.step st
  exact hq f _ H' _ (s'.setR rv)
theorem qr_asg {i : Nat} (h : EVR X g te ρ fun g' r => Fr (WT X) g g' H0 → NJ (ct X g') hid H0 (tz D) (ρ.set i (slR r))) : NJ (ct X g) hid H0 (tSeq (tAsg te (gName i)) tz D) ρ := njr_asg (D := { D with nx := tz D }) h
theorem njr_drop (h : EVR X g te ρ fun g' _ => Fr (WT X) g g' H0 → NJ (ct X g') hid H0 D.nx ρ) : NJ (ct X g) hid H0 (tDrop te D) ρ := fun hd H σ s => h hd H σ s.toSV _ fun g' r v H' hq st rv => by
  obtain ⟨s', f⟩ := s.step st
  exact hq f _ H' _ s'
theorem qr_drop (h : EVR X g te ρ fun g' _ => Fr (WT X) g g' H0 → NJ (ct X g') hid H0 (tz D) ρ) : NJ (ct X g) hid H0 (tSeq (tDrop te) tz D) ρ := njr_drop (D := { D with nx := tz D }) h
theorem un_sub {g' : GT} (s : ∀ a, hid a = true → hd a = true) : ∀ a, un hid ((WT X).mu g') a = true → un hd ((WT X).mu g') a = true := fun a h => by
  rcases un_of h with h | h
  · exact un_l (s a h)
  · exact un_r h
theorem njr_ret (h : EVR X g te ρ fun g' r => Fr (WT X) g g' H0 → RJR X g' hid H0 D.rt r) : NJ (ct X g) hid H0 (tRet te D) ρ := fun hd H σ s => h hd H σ s.toSV _ fun g' r v H' hq st rv => by
  obtain ⟨s', f⟩ := s.step st
  exact hq f v H' s'.ext (((WT X).cn g').unhide (un_sub s.sub) s'.inv) (rv.hide (un_sub s.sub))
theorem RJR.dat {R : VK} {d : Dt} (h : RJR X g hid H0 R (.dat d)) (mh : True) : ∀ v H', Ex ((WT X).mu g) H0 H' → (WT X).B g (un hid ((WT X).mu g)) H' → Rp K (Hm (un hid ((WT X).mu g)) H') v d → R v H' := h
theorem njr_retD (h : EV (ct X g) te ρ fun d => RJR X g hid H0 D.rt (.dat d)) : NJ (ct X g) hid H0 (tRet te D) ρ := njr_ret (evr (h.imp fun d hd _ => hd))
theorem erc_fldT {a b C dx : Addr} {fs : List (Str × RV)} {f : Str} (h : ERC (ct X g) to ρ (.ref a)) (ha : g a = some (.ins C dx fs)) (hc : Cls K C) (hn : NoAttr K C f) (hl : fs.lookup f = some (.ref b)) : ERC (ct X g) (tFld K to f) ρ (.ref b) := fun hd H σ s Qh q => h hd H σ s _ (by
  obtain ⟨vs, h1, h2⟩ := (s.inv.2 a _ ha).2
  obtain ⟨y, hy, ry⟩ := h2.look hl
  cases ry
  exact ⟨a, C, dx, vs, .ref b, rfl, h1, hc, hn, hy, q⟩)
theorem ev_fldT {a C dx : Addr} {fs : List (Str × RV)} {f : Str} {d : Dt} {Q : Dt → Prop} (h : ERC (ct X g) to ρ (.ref a)) (ha : g a = some (.ins C dx fs)) (hc : Cls K C) (hn : NoAttr K C f) (hl : fs.lookup f = some (.dat d)) (hq : Q d) : EV (ct X g) (tFld K to f) ρ Q := fun hd H σ s Qh q => h hd H σ s _ (by
  obtain ⟨vs, h1, h2⟩ := (s.inv.2 a _ ha).2
  obtain ⟨y, hy, ry⟩ := h2.look hl
  exact ⟨a, C, dx, vs, y, rfl, h1, hc, hn, hy, q d y H hq .refl s.inv ry⟩)
theorem njr_fld {a C dx : Addr} {f : Str} (h : EVR X g te ρ fun g1 r => ERC (ct X g1) to ρ (.ref a) ∧ ∃ fs, g1 a = some (.ins C dx fs) ∧ Cls K C ∧ NoAttr K C f ∧ fs.length < 1000 ∧ (Fr (WT X) g (setG g1 a (.ins C dx (putR f r fs))) H0 → NJ (ct X (setG g1 a (.ins C dx (putR f r fs)))) hid H0 D.nx ρ)) :
    NJ (ct X g) hid H0 (sFld K to te f D) ρ := fun hd H σ s => h hd H σ s.toSV _ fun g1 r v H1 hq st rv => by
  obtain ⟨hr, fs, ha, hc, hn, hl, hnj⟩ := hq
  obtain ⟨s1, f1⟩ := s.step st
  refine hr _ H1 σ s1.toSV _ ?_
  obtain ⟨vs, h1, h2⟩ := (s1.inv.2 a _ ha).2
  have sm : Sees (Hm (un hd ((WT X).mu g1)) H1) (Hm (un hd ((WT X).mu g1)) (upd H1 a (.ins C dx (L2.putF f v vs)))) := by rw [hm_upd (s1.muh a (muT (X := X) ha))]; exact Sees.refl
  have st2 := got_set (m' := .ins C dx (putR f r fs)) (o := .ins C dx (L2.putF f v vs)) s1.muh s1.inv ha rfl ⟨_, upd_same, (P2.putF (r := r) rv h2).imp fun _ _ z => ⟨z.1, z.2.mono sm⟩⟩
  obtain ⟨s2, f2⟩ := s1.step st2
  exact ⟨a, C, dx, vs, rfl, h1, hc, hn, by rw [h2.len]; exact hl, hnj (f1.trans f2) _ _ σ s2⟩
theorem qr_fld {a C dx : Addr} {f : Str} (h : EVR X g te ρ fun g1 r => ERC (ct X g1) to ρ (.ref a) ∧ ∃ fs, g1 a = some (.ins C dx fs) ∧ Cls K C ∧ NoAttr K C f ∧ fs.length < 1000 ∧ (Fr (WT X) g (setG g1 a (.ins C dx (putR f r fs))) H0 → NJ (ct X (setG g1 a (.ins C dx (putR f r fs)))) hid H0 (tz D) ρ)) :
    NJ (ct X g) hid H0 (tSeq (sFld K to te f) tz D) ρ := njr_fld (D := { D with nx := tz D }) h
theorem ev_ixT {b : Addr} {rs : List RV} {Q : Dt → Prop} (h : ERC (ct X g) to ρ (.ref b)) (hb : g b = some (.lst rs)) (hk : EV (ct X g) tb ρ (IntJ fun k => ∃ d, atI rs k = some (.dat d) ∧ Q d)) : EV (ct X g) (tOp (rIx K) to tb) ρ Q := fun hd H σ s Qh q => h hd H σ s _ (hk hd H σ s _ fun d2 y H2 h2 e2 b2 r2 => by
  cases d2 with
  | int k =>
    cases r2
    obtain ⟨d, hd1, hq⟩ := h2
    obtain ⟨vs, h1, h3⟩ := (b2.2 b _ hb).2
    obtain ⟨v, hv, rv⟩ := atI_P2 h3 hd1
    exact rix_ac b vs k v H2 Qh h1 hv (q d v H2 hq e2 b2 rv)
  | _ => exact h2.elim)
theorem ev_lenT {b : Addr} {rs : List RV} {Q : Dt → Prop} (h : ERC (ct X g) to ρ (.ref b)) (hb : g b = some (.lst rs)) (hq : Q (.int (rs.length : Nat))) : EV (ct X g) (tCB (rLenU K) (tCons to tNil)) ρ Q := fun hd H σ s Qh q => h hd H σ s _ (by
  obtain ⟨vs, h1, h2⟩ := (s.inv.2 b _ hb).2
  refine .inl ⟨b, vs, rfl, .inl (.inl (.inl h1)), ?_⟩
  rw [h2.len]
  exact q _ _ H hq .refl s.inv (.int _))
theorem njr_app {b : Addr} {K' : PySem.W.Frag} {rs : List RV} (hr : ERC (ct X g) to ρ (.ref b)) (hb : g b = some (.lst rs)) (h : EVR X g te ρ fun g1 r => ∃ rs1, g1 b = some (.lst rs1) ∧ rs1.length < 100000 ∧ (Fr (WT X) g (setG g1 b (.lst (rs1 ++ [r]))) H0 → NJ (ct X (setG g1 b (.lst (rs1 ++ [r])))) hid H0 D.nx ρ)) :
    NJ (ct X g) hid H0 (tDrop (tBM K' "list" rAppend to (tCons te tNil)) D) ρ := fun hd H σ s => hr hd H σ s.toSV _ (by
  obtain ⟨vs0, h0, _⟩ := (s.inv.2 b _ hb).2
  refine ⟨.inl ⟨rfl, vs0, .inl (.inl h0)⟩, h hd H σ s.toSV _ fun g1 r v H1 hq st rv => ?_⟩
  obtain ⟨rs1, hb1, hl, hnj⟩ := hq
  obtain ⟨s1, f1⟩ := s.step st
  obtain ⟨vs, h1, h2⟩ := (s1.inv.2 b _ hb1).2
  have sm : Sees (Hm (un hd ((WT X).mu g1)) H1) (Hm (un hd ((WT X).mu g1)) (upd H1 b (.lst (vs ++ [v])))) := by rw [hm_upd (s1.muh b (muT (X := X) hb1))]; exact Sees.refl
  have st2 := got_set (m' := .lst (rs1 ++ [r])) (o := .lst (vs ++ [v])) s1.muh s1.inv hb1 rfl ⟨_, upd_same, (h2.app (.cons rv .nil)).imp fun _ _ z => z.mono sm⟩
  obtain ⟨s2, f2⟩ := s1.step st2
  exact ⟨b, vs, v, rfl, rfl, h1, Evl.sz_lt (by rw [h2.len]; exact hl), hnj (f1.trans f2) _ _ σ s2⟩)
theorem njr_setL {b : Addr} (h : EVR X g te ρ fun g1 r => ERC (ct X g1) to ρ (.ref b) ∧ ∃ rs1, g1 b = some (.lst rs1) ∧ EV (ct X g1) tb ρ (IntJ fun k => ∃ j, ixN rs1.length k = some j ∧ (Fr (WT X) g (setG g1 b (.lst (rs1.set j r))) H0 → NJ (ct X (setG g1 b (.lst (rs1.set j r)))) hid H0 D.nx ρ))) :
    NJ (ct X g) hid H0 (tAsg te (gSub to tb rSetL) D) ρ := fun hd H σ s => h hd H σ s.toSV _ fun g1 r v H1 hq st rv => by
  obtain ⟨hr, rs1, hb1, hk⟩ := hq
  obtain ⟨s1, f1⟩ := s.step st
  refine hr _ H1 σ s1.toSV _ (hk _ H1 σ s1.toSV _ fun d2 y H2 h2 e2 b2 r2 => ?_)
  cases d2 with
  | int k =>
    cases r2
    obtain ⟨j, hj, hnj⟩ := h2
    have s1' := s1.go e2 b2
    obtain ⟨vs, h1, h3⟩ := (b2.2 b _ hb1).2
    have hdb := s1.muh b (muT (X := X) hb1)
    have sm : Sees (Hm (un hd ((WT X).mu g1)) H1) (Hm (un hd ((WT X).mu g1)) (upd H2 b (.lst (vs.set j v)))) := by rw [hm_upd hdb]; exact e2.sees s1.muh
    have sm2 : Sees (Hm (un hd ((WT X).mu g1)) H2) (Hm (un hd ((WT X).mu g1)) (upd H2 b (.lst (vs.set j v)))) := by rw [hm_upd hdb]; exact Sees.refl
    have st2 := got_set (m' := .lst (rs1.set j r)) (o := .lst (vs.set j v)) s1'.muh s1'.inv hb1 rfl ⟨_, upd_same, P2.set (rv.mono sm) j (h3.imp fun _ _ z => z.mono sm2)⟩
    obtain ⟨s2, f2⟩ := s1'.step st2
    exact ⟨b, vs, k, j, rfl, rfl, h1, by rw [h3.len]; exact hj, hnj (f1.trans f2) _ _ σ s2⟩
  | _ => exact h2.elim
def valR (kvs : List (Key × RV)) (k : Key) : Option RV := (kvs.find? fun kv => decide (kv.1 = k)).map (·.2)
def putRK (kvs : List (Key × RV)) (k : Key) (r : RV) : List (Key × RV) := if (kvs.any fun kv => decide (kv.1 = k)) = true then kvs.map (fun kv => if kv.1 = k then (kv.1, r) else kv) else kvs ++ [(k, r)]
theorem valR_P2 {G : Hp} {k : Key} : ∀ {vs : List (Key × V)} {rs : List (Key × RV)}, P2 (RvF K G Key) vs rs → (∀ r, valR rs k = some r → ∃ v, valV vs k = some v ∧ RvOk K G v r) ∧ (valV vs k).isSome = (valR rs k).isSome
  | _, _, .nil => ⟨(fun r h => nomatch h), rfl⟩
  | (kv, v) :: vs, (kr, r) :: rs, .cons h t => by
    obtain ⟨h1, h2⟩ := h
    have h1 : kv = kr := h1
    subst h1
    obtain ⟨i1, i2⟩ := valR_P2 (k := k) t
    unfold valR valV at *
    rw [List.find?_cons, List.find?_cons]
    dsimp only
    by_cases q : kv = k
    · rw [decide_eq_true q]
      exact ⟨fun r' hr => ⟨v, rfl, by cases hr; exact h2⟩, rfl⟩
    · rw [decide_eq_false q]
      exact ⟨i1, i2⟩
theorem put_P2 {G : Hp} {k : Key} {v : V} {r : RV} (hv : RvOk K G v r) {vs : List (Key × V)} {rs : List (Key × RV)} (p : P2 (RvF K G Key) vs rs) : P2 (RvF K G Key) (putK vs k v) (putRK rs k r) := by
  have an : ∀ {vs : List (Key × V)} {rs : List (Key × RV)}, P2 (RvF K G Key) vs rs → (vs.any fun kv => decide (kv.1 = k)) = rs.any fun kv => decide (kv.1 = k) := by
    intro vs rs p
    induction p with
    | nil => rfl
    | cons h _ ih => rw [List.any_cons, List.any_cons, ih, h.1]
  have mp : ∀ {vs : List (Key × V)} {rs : List (Key × RV)}, P2 (RvF K G Key) vs rs → P2 (RvF K G Key) (vs.map fun kv => if kv.1 = k then (kv.1, v) else kv) (rs.map fun kv => if kv.1 = k then (kv.1, r) else kv) := by
    intro vs rs p
    induction p with
    | nil => exact .nil
    | @cons a b _ _ h _ ih =>
      refine .cons ?_ ih
      obtain ⟨h1, h2⟩ := h
      show RvF K G Key (if a.1 = k then (a.1, v) else a) (if b.1 = k then (b.1, r) else b)
      by_cases q : b.1 = k
      · rw [if_pos (h1.trans q), if_pos q]; exact ⟨h1, hv⟩
      · rw [if_neg (fun z => q (h1.symm.trans z)), if_neg q]; exact ⟨h1, h2⟩
  unfold putK putRK
  rw [an p]
  split
  · exact mp p
  · exact p.app (.cons ⟨rfl, hv⟩ .nil)
def DkAt (g : GT) (a : Addr) (kvs : List (Key × RV)) : Prop := g a = some (.dk kvs) ∨ ∃ od ws, g a = some (.dl od ws kvs)
theorem dk_at {a : Addr} {kvs : List (Key × RV)} (b : (WT X).B g hd H) (h : DkAt g a kvs) : ∃ vs, Rd H a (.dK vs) ∧ P2 (RvF K (Hm hd H) Key) vs kvs := by
  rcases h with h | ⟨od, vs, h⟩
  · obtain ⟨vs, h1, h2⟩ := (b.2 a _ h).2
    exact ⟨vs, .inl h1, h2⟩
  · obtain ⟨h1, h2⟩ := (b.2 a _ h).2
    exact ⟨vs, .inr ⟨od, h1⟩, h2⟩
theorem ev_dgetW {a : Addr} {kvs : List (Key × RV)} {Q : Dt → Prop} (h : ERC (ct X g) td ρ (.ref a)) (ha : DkAt g a kvs) (hk : EV (ct X g) ty ρ (KeyJ fun k => ∃ d, valR kvs k = some (.dat d) ∧ Q d)) : EV (ct X g) (tDGet td ty) ρ Q := fun hd H σ s Qh q => h hd H σ s _ (hk hd H σ s _ fun d2 y H2 h2 e2 b2 r2 => by
  obtain ⟨k, rfl, d, h3, hq⟩ := rp_key h2 r2
  obtain ⟨vs, h4, h5⟩ := dk_at b2 ha
  obtain ⟨v, hv, rv⟩ := (valR_P2 (k := k) h5).1 _ h3
  exact ⟨a, v, rfl, .inl ⟨vs, k, h4, rfl, hv.symm⟩, q d v H2 hq e2 b2 rv⟩)
theorem evr_dgetW {a b : Addr} {kvs : List (Key × RV)} {k : Key} {d : Dt} (h : ERC (ct X g) td ρ (.ref a)) (ha : DkAt g a kvs) (hk : ERC (ct X g) ty ρ (kV k)) (hv : valR kvs k = some (.ref b)) : ERC (ct X g) (tDGet td ty) ρ (.ref b) := fun hd H σ s Qh q => h hd H σ s _ (hk hd H σ s _ (by
  obtain ⟨vs, h4, h5⟩ := dk_at s.inv ha
  obtain ⟨v, hv, rv⟩ := (valR_P2 (k := k) h5).1 _ hv
  cases rv
  exact ⟨a, .ref b, rfl, .inl ⟨vs, k, h4, rfl, hv.symm⟩, q⟩))
theorem njr_dput {a : Addr} {tv : TE} (h : EVR X g tv ρ fun g1 r => ERC (ct X g1) td ρ (.ref a) ∧ ∃ kvs, g1 a = some (.dk kvs) ∧ kvs.length < 100000 ∧ EV (ct X g1) ty ρ (KeyJ fun k => Fr (WT X) g (setG g1 a (.dk (putRK kvs k r))) H0 → NJ (ct X (setG g1 a (.dk (putRK kvs k r)))) hid H0 D.nx ρ)) :
    NJ (ct X g) hid H0 (sDPut td ty tv D) ρ := fun hd H σ s => h hd H σ s.toSV _ fun g1 r v H1 hq st rv => by
  obtain ⟨hr, kvs, ha, hl, hk⟩ := hq
  obtain ⟨s1, f1⟩ := s.step st
  refine hr _ H1 σ s1.toSV _ (hk _ H1 σ s1.toSV _ fun d2 y H2 h2 e2 b2 r2 => ?_)
  obtain ⟨k, rfl, hnj⟩ := rp_key h2 r2
  have s1' := s1.go e2 b2
  obtain ⟨vs, h1, h3⟩ := (b2.2 a _ ha).2
  have hda := s1.muh a (muT (X := X) ha)
  have sm : Sees (Hm (un hd ((WT X).mu g1)) H1) (Hm (un hd ((WT X).mu g1)) (upd H2 a (.dK (putK vs k v)))) := by rw [hm_upd hda]; exact e2.sees s1.muh
  have sm2 : Sees (Hm (un hd ((WT X).mu g1)) H2) (Hm (un hd ((WT X).mu g1)) (upd H2 a (.dK (putK vs k v)))) := by rw [hm_upd hda]; exact Sees.refl
  have st2 := got_set (m' := .dk (putRK kvs k r)) (o := .dK (putK vs k v)) s1'.muh s1'.inv ha rfl ⟨_, upd_same, put_P2 (rv.mono sm) (h3.imp fun _ _ z => ⟨z.1, z.2.mono sm2⟩)⟩
  obtain ⟨s2, f2⟩ := s1'.step st2
  exact ⟨a, _, rfl, .inl ⟨vs, k, h1, rfl, Evl.sz_lt (by rw [h3.len]; exact hl), rfl⟩, hnj (f1.trans f2) _ _ σ s2⟩
end
end CC
namespace CC
open PySem PySem.Spec PyProof.Rows L2
open C8 (Cal pe_c pe_gc)
section
variable {K : PySem.W.Frag} {X : Cl K} {g : GT} {hid hd : Addr → Bool} {H0 H : Hp} {σ : L2.St} {ρ : List Sl} {te ta tb to td ty : TE} {t : TT} {D : Ends} {ts tz : TS} {gg : TG}
theorem evr_make {C : Addr} {S : GT → List RV → (GT → RV → Prop) → Prop} {E : XK} {ta : TA} {Q : GT → RV → Prop} (h : EAR (ct X g) ta ρ fun rs => ∀ x dx, g x = none → S (setG g x (.ins C dx [])) (.ref x :: rs) fun g' r => r = .dat .non ∧ Q g' (.ref x)) : EVR X g (tMake C (spR K S) [] E ta) ρ Q := fun hd H σ v Qh q => h hd H σ v _ fun rs vs H1 hq e1 b1 r1 x dx hx hdx hne => by
  rw [List.append_nil]
  have v1 := v.go e1 b1
  have hx2 : upd H1 dx (.own x) x = none := by rw [upd_ne (Ne.symm hne)]; exact hx
  have en : Ex none0 H1 (upd (upd H1 dx (.own x)) x (.ins C dx [])) := (Ex.new hdx (o := .own x)).trans (.new hx2)
  have go1 := got_new (m' := .ins C dx []) v1.inv v1.muh (en.up (c := ct X g)) ((ct X g).keepN en hx v1.inv) hx ⟨[], upd_same, .nil⟩
  have v2 := v1.step go1
  have sm := go1.sees v1.muh
  refine ⟨X, setG g x (.ins C dx []), .ref x :: rs, un hd ((WT X).mu (setG g x (.ins C dx []))), _, v2.inv, v2.muh, v2.dom, .cons rfl (r1.imp fun _ _ z => z.mono sm), hq x dx (g_none v1.inv hx), fun g' r z H2 hq2 s2 r2 => ?_⟩
  obtain ⟨rfl, hq3⟩ := hq2
  cases r2
  exact ⟨rfl, q g' (.ref x) (.ref x) H2 hq3 (((Go.of v.muh e1 b1).trans (by rw [un_eq v.muh]; exact go1)).trans (by exact s2)) rfl⟩
def g0 : GT := fun _ => none
end
end CC
namespace CC
open PySem PySem.Spec PyProof.Rows L2
section
variable {c : Cn} {ρ : List Sl} {Q : Dt → Prop}
theorem merge_new : ∀ (more kvs : List (Key × V)), ((kvs ++ more).map (·.1)).Nodup → mergeK kvs more = kvs ++ more
  | [], kvs, _ => (List.append_nil kvs).symm
  | (k, x) :: r, kvs, h => by
    show mergeK (putK kvs k x) r = _
    have hp : putK kvs k x = kvs ++ [(k, x)] := by
      unfold putK
      rw [if_neg]
      intro hz
      obtain ⟨⟨k', y⟩, hm, he⟩ := List.any_eq_true.mp hz
      have he : k' = k := of_decide_eq_true he
      subst he
      rw [List.map_append, List.map_cons, List.nodup_append] at h
      exact h.2.2 k' (List.mem_map.mpr ⟨_, hm, rfl⟩) k' (.head _) rfl
    rw [hp, merge_new r (kvs ++ [(k, x)]) (by rw [List.append_assoc]; exact h), List.append_assoc]
    rfl
end
end CC
namespace CC
open PySem PySem.Spec PyProof.Rows L2
open PySem.Sem (wp)
end CC
namespace CC
open PySem PySem.Spec PyProof.Rows L2
end CC
namespace CC
open PySem PySem.Spec PyProof.Rows L2
section
variable {K : PySem.W.Frag} {X : Cl K} {g : GT} {hid hd : Addr → Bool} {H0 H : Hp} {σ : L2.St} {ρ : List Sl} {te ta tb to td ty tx : TE} {t : TT} {D : Ends} {ts tz : TS}
theorem evr_clear {b : Addr} {K' : PySem.W.Frag} {rs : List RV} {Q : GT → RV → Prop} (hr : ERC (ct X g) to ρ (.ref b)) (hb : g b = some (.lst rs)) (h : Q (setG g b (.lst [])) (.dat .non)) : EVR X g (tBM K' "list" rClear to tNil) ρ Q := fun hd H σ s Qh q => hr hd H σ s _ (by
  obtain ⟨vs, h1, h2⟩ := (s.inv.2 b _ hb).2
  have st := got_set (m' := .lst []) (o := .lst []) s.muh s.inv hb rfl ⟨[], upd_same, .nil⟩
  exact ⟨.inl ⟨rfl, _, .inl (.inl h1)⟩, b, _, rfl, rfl, h1, q _ (.dat .non) .non _ h st .non⟩)
theorem erc_ixTp {b a : Addr} {rs : List RV} {k : Int} (h : ERC (ct X g) to ρ (.ref b)) (hb : g b = some (.tp rs)) (hk : atI rs k = some (.ref a)) : ERC (ct X g) (tOp (rIx K) to (tC (.int k))) ρ (.ref a) := fun hd H σ s Qh q => h hd H σ s _ (by
  obtain ⟨vs, h1, h3⟩ := (s.inv.2 b _ hb).2
  obtain ⟨v, hv, rv⟩ := atI_P2 h3 hk
  have rv : v = .ref a := rv
  subst rv
  exact .inr (.inl ⟨b, vs, k, _, rfl, rfl, .inl (.inl h1), hv, q⟩))
end
end CC
namespace CC
open PySem PySem.Spec PyProof.Rows L2
open C8 (Cal pe_c pe_gc)
end CC
namespace CC
open PySem PySem.Spec PyProof.Rows L2
open C8 (Cal pe_c pe_gc)
section
variable {W : Wd} {g : W.G} {hid : Addr → Bool} {H0 H1 : Hp} {ρ : List Sl} {te ta tb : TE} {t u : TT} {D : Ends} {ts tz : TS} {gg : TG}
theorem qm_for {wi : TI} (h : IJ (W.cn g) wi ρ fun its => ∃ I : Nat → W.G → List Sl → Prop, I 0 g ρ ∧
      (∀ H1, Ex (W.mu g) H0 H1 → ∀ i d g' ρ', its[i]? = some d → I i g' ρ' → Fr W g g' H1 → TGJ (W.cn g') hid H1 gg d ρ' (ts { D with nx := NxM W g hid H1 (I (i + 1)), ct := NxM W g hid H1 (I (i + 1)), bk := tz D })) ∧
      ∀ g' ρ', I its.length g' ρ' → Fr W g g' H0 → NJ (W.cn g') hid H0 (tz D) ρ') : NJ (W.cn g) hid H0 (tSeq (tFor wi gg ts) tz D) ρ := njm_for (D := { D with nx := tz D }) h
end
end CC
namespace CC
open PySem PySem.Spec PyProof.Rows L2
open C8 (Cal pe_c pe_gc)
section
variable {K : PySem.W.Frag} {X : Cl K} {g : GT} {hid hd : Addr → Bool} {H0 H : Hp} {σ : L2.St} {ρ : List Sl} {te ta tb to td ty : TE} {t : TT} {D : Ends} {ts tz : TS} {gg : TG}
theorem setG_two {g : GT} {a : Addr} {m m' : MT} : setG (setG g a m) a m' = setG g a m' := by
  funext b
  by_cases h : b = a
  · subst h; rw [setG_same, setG_same]
  · rw [setG_ne h, setG_ne h, setG_ne h]
structure ItR (X : Cl K) (g : GT) (J : It) (rs : List RV) : Prop where
  go : ∀ i hd H, (WT X).B g hd H → i < rs.length → J.go i H
  st : ∀ i hd H, (WT X).B g hd H → i = rs.length → J.stop i H
  yl : ∀ i hd H x H' r, (WT X).B g hd H → rs[i]? = some r → J.yld i H x H' → H' = H ∧ RvOk K (Hm hd H) x r
theorem itr_list {b : Addr} {rs : List RV} (hb : g b = some (.lst rs)) : ItR X g (Itl K b) rs where
  go := fun i hd H h hi => by
    obtain ⟨vs, h1, h2⟩ := (h.2 b _ hb).2
    obtain ⟨v, hv, _⟩ := h2.get (List.getElem?_eq_getElem hi)
    exact ⟨vs, v, .inl (.inl h1), hv⟩
  st := fun i hd H h hi => by
    obtain ⟨vs, h1, h2⟩ := (h.2 b _ hb).2
    exact ⟨vs, .inl (.inl h1), by rw [h2.len]; omega⟩
  yl := fun i hd H x H' r h hr hy => by
    obtain ⟨vs, h1, h2⟩ := (h.2 b _ hb).2
    obtain ⟨v, hv, rv⟩ := h2.get hr
    obtain ⟨rfl, y⟩ := hy
    have := y vs (.inl (.inl h1))
    rw [hv] at this
    cases this
    exact ⟨rfl, rv⟩
def TGER (X : Cl K) (g : GT) (gg : TG) (r : RV) (ρ : List Sl) (vs : List Nat) (k : List Sl → Prop) : Prop := ∀ hd H σ v (N : L2.St → Hp → Prop), SV (ct X g) hd H σ ρ → RvOk K (Hm hd H) v r → (∀ σ2 ρ2, k ρ2 → SV (ct X g) hd H σ2 ρ2 → L2.wipe σ2 vs = L2.wipe σ vs → N σ2 H) → gg v σ H N
theorem SV.setR (s : SV (ct X g) hd H σ ρ) {v : V} {r : RV} (i : Nat) (h : RvOk K (Hm hd H) v r) : SV (ct X g) hd H (σ.set i (some v)) (ρ.set i (slR r)) := by
  cases r with
  | dat d => exact s.set i h
  | ref a => cases h; exact s.set i rfl
theorem lc_atR {J : It} {rs : List RV} {vs : List Nat} {H1 : Hp} {Qh : VK} (v1 : SV (ct X g) hd H1 σ ρ) (ok : ItR X g J rs) (hlen : rs.length ≤ 100000) (I : Nat → List Dt → Prop) (i0 : I 0 [])
    (hstep : ∀ i r acc, rs[i]? = some r → I i acc → TGER X g gg r (wipeS ρ vs) vs fun ρ' => EVT (ct X g) t ρ' fun b => (b = true → EV (ct X g) te ρ' fun y => I (i + 1) (acc ++ [y])) ∧ (b = false → I (i + 1) acc))
    (hend : ∀ acc L ws H2, I rs.length acc → Ex ((WT X).mu g) H1 H2 → (WT X).B g (hide hd L) H2 → H1 L = none → H2 L = some (.lst ws) → RpAll K (Hm (hide hd L) H2) ws acc → Qh (.ref L) H2) :
    ∀ L, H1 L = none → ∃ W : Nat → Nat → Hp → Prop, (∃ m, W 0 m (upd H1 L (.lst []))) ∧ ∀ i m H, W i m H → (J.stop i H ∧ Qh (.ref L) H) ∨ (J.go i H ∧ ∃ Nx : Hp → Prop, (∀ H', Nx H' → ∃ m', m' < m ∧ W (i + 1) m' H') ∧
      ∀ x H', J.yld i H x H' → gg x (L2.wipe σ vs) H' fun σ2 H2 => L2.wipe σ2 vs = L2.wipe σ vs ∧ t σ2 H2 fun b H3 => if b = true then te σ2 H3 fun y H4 => ∃ acc, H4 L = some (.lst acc) ∧ acc.length < sizeLine ∧ Nx (upd H4 L (.lst (acc ++ [y]))) else Nx H3) := by
  intro L hL
  have b1 := v1.inv
  refine ⟨fun i m H2 => m = rs.length - i ∧ i ≤ rs.length ∧ ∃ ws acc, I i acc ∧ acc.length ≤ i ∧ H2 L = some (.lst ws) ∧ Ex ((WT X).mu g) H1 H2 ∧ (WT X).B g (hide hd L) H2 ∧ RpAll K (Hm (hide hd L) H2) ws acc, ⟨rs.length, rfl, Nat.zero_le _, [], [], i0, Nat.le_refl _, upd_same, (.new hL), (ct X g).keepN (.new hL) hL b1, .nil⟩, ?_⟩
  rintro i m H2 ⟨rfl, hi, ws, acc, hI, hal, hw, e2, b2, r2⟩
  have v2 : SV (ct X g) (hide hd L) H2 σ ρ := v1.hide e2 b2 hL (by rw [hw]; exact fun z => nomatch z)
  have nmu : (ct X g).mu L = false := by
    cases q : (ct X g).mu L with
    | false => rfl
    | true => exact absurd hL (v1.dom L (v1.muh L q))
  by_cases hlt : i < rs.length
  · refine .inr ⟨ok.go i _ H2 b2 hlt, fun H3 => ∃ ws acc, I (i + 1) acc ∧ acc.length ≤ i + 1 ∧ H3 L = some (.lst ws) ∧ Ex ((WT X).mu g) H1 H3 ∧ (WT X).B g (hide hd L) H3 ∧ RpAll K (Hm (hide hd L) H3) ws acc, fun H3 hN => ⟨rs.length - (i + 1), by omega, rfl, hlt, hN⟩, fun x H3 hy => ?_⟩
    obtain ⟨rfl, rx⟩ := ok.yl i (hide hd L) H2 x H3 rs[i] b2 (List.getElem?_eq_getElem hlt) hy
    refine hstep i rs[i] acc (List.getElem?_eq_getElem hlt) hI (hide hd L) H3 (L2.wipe σ vs) x _ (v2.wipe vs) rx fun σ2 ρ2 hk s2 ew => ⟨ew.trans wipe_wipe, ?_⟩
    refine hk (hide hd L) H3 σ2 s2 _ fun b H4 hb e4 b4 => ?_
    have hL4 : H4 L = some (.lst ws) := e4.keep L _ nmu hw
    cases b with
    | true =>
      rw [if_pos rfl]
      refine hb.1 rfl (hide hd L) H4 σ2 (s2.go e4 b4) _ fun y w H5 hy5 e5 b5 r5 => ?_
      have hL5 : H5 L = some (.lst ws) := e5.keep L _ nmu hL4
      have r25 : RpAll K (Hm (hide hd L) H5) ws acc := (r2.mono (e4.sees v2.muh)).mono (e5.sees v2.muh)
      refine ⟨ws, hL5, Evl.sz_lt (by rw [r2.length]; omega), ws ++ [w], acc ++ [y], hy5, by rw [List.length_append]; simp; omega, upd_same, ((e2.trans e4).trans e5).mut (.inl hL), ?_, ?_⟩
      · exact (ct X g).put hide_self nmu hL5 rfl b5
      · rw [hm_upd hide_self]
        exact r25.append (.cons r5 .nil)
    | false =>
      rw [if_neg Bool.false_ne_true]
      exact ⟨ws, acc, hb.2 rfl, by omega, hL4, e2.trans e4, b4, r2.mono (e4.sees v2.muh)⟩
  · have e : i = rs.length := by omega
    exact .inl ⟨ok.st i _ H2 b2 e, hend acc L ws H2 (by rw [← e]; exact hI) e2 b2 hL hw r2⟩
theorem en_lcT {b : Addr} {rs : List RV} {vs : List Nat} {Q : List Dt → Prop} (hr : ERC (ct X g) to ρ (.ref b)) (hb : g b = some (.lst rs)) (hlen : rs.length ≤ 100000) (I : Nat → List Dt → Prop) (i0 : I 0 [])
    (hstep : ∀ i r acc, rs[i]? = some r → I i acc → TGER X g gg r (wipeS ρ vs) vs fun ρ' => EVT (ct X g) t ρ' fun b => (b = true → EV (ct X g) te ρ' fun y => I (i + 1) (acc ++ [y])) ∧ (b = false → I (i + 1) acc))
    (hend : ∀ acc, I rs.length acc → Q acc) : EN (ct X g) (tLc (iList K to) gg t te vs) ρ Q := fun hd H σ v Qh q => hr hd H σ v _ (by
  obtain ⟨ws, h1, h2⟩ := (v.inv.2 b _ hb).2
  exact ⟨b, rfl, ⟨ws, .inl (.inl h1)⟩, lc_atR v (itr_list hb) hlen I i0 hstep fun acc L ws H2 hI e2 b2 hL hw r2 => q acc L ws H2 (hend acc hI) e2 b2 hL hw r2⟩)
end
end CC
namespace CC
open PySem PySem.Spec PyProof.Rows L2
open C8 (Cal pe_c pe_gc)
section
variable {K : PySem.W.Frag} {X : Cl K} {g : GT} {hid hd : Addr → Bool} {H0 H : Hp} {σ : L2.St} {ρ : List Sl} {te ta tb to td ty : TE} {t : TT} {D : Ends} {ts tz : TS} {gg : TG}
theorem erc_ixT {b a : Addr} {rs : List RV} (h : ERC (ct X g) to ρ (.ref b)) (hb : g b = some (.lst rs)) {k : Int} (hk : ERC (ct X g) tb ρ (.int k)) (ha : atI rs k = some (.ref a)) : ERC (ct X g) (tOp (rIx K) to tb) ρ (.ref a) := fun hd H σ s Qh q => h hd H σ s _ (hk hd H σ s _ (by
  obtain ⟨vs, h1, h3⟩ := (s.inv.2 b _ hb).2
  obtain ⟨v, hv, rv⟩ := atI_P2 h3 ha
  have rv : v = .ref a := rv
  subst rv
  exact rix_ac b vs k _ H Qh h1 hv q))
theorem erc_int {c : Cn} {i : Int} : ERC c (tC (.int i)) ρ (.int i) := fun hd H σ s Qh q => q
theorem erc_str {c : Cn} {i : Str} : ERC c (tC (.str i)) ρ (.str i) := fun hd H σ s Qh q => q
theorem rp_key1 {G : Hp} {k : Key} {v : V} (r : Rp K G v (dKey k)) : v = kV k := by
  cases k with
  | inl n => cases r; rfl
  | inr y => cases r; rfl
theorem en_listT {b : Addr} {ds : List Dt} {Q : List Dt → Prop} (hr : ERC (ct X g) to ρ (.ref b)) (hb : g b = some (.lst (dats ds))) (h : Q ds) : EN (ct X g) (tCB (rListU K) (tCons to tNil)) ρ Q := fun hd H σ v Qh q => hr hd H σ v _ (by
  obtain ⟨vs, h1, h2⟩ := (v.inv.2 b _ hb).2
  exact ⟨b, vs, rfl, .inl (.inl (.inl h1)), fun p hp => q ds p vs _ h (.new hp) ((ct X g).keepN (.new hp) hp v.inv) hp upd_same ((p2_rp h2).mono (sees_new (Ex.new hp (mu := none0)) (fun _ h => nomatch h) hp))⟩)
end
section
variable {W : Wd} {g : W.G} {hid : Addr → Bool} {H0 : Hp} {ρ : List Sl} {D : Ends} {ts tz : TS}
theorem qm_cut (I : W.G → List Sl → Prop) (h : NJ (W.cn g) hid H0 (ts { D with nx := NxM W g hid H0 I }) ρ) (hk : ∀ g' ρ', I g' ρ' → Fr W g g' H0 → NJ (W.cn g') hid H0 (tz D) ρ') : NJ (W.cn g) hid H0 (Evl.tCut ts tz D) ρ := fun hd H σ s => ⟨NxM W g hid H0 I, h hd H σ s, fun σ' H' ⟨g', ρ', hd', hI, f, s'⟩ => hk g' ρ' hI f hd' H' σ' s'⟩
end
section
variable {K : PySem.W.Frag} {X : Cl K} {g : GT} {hid hd : Addr → Bool} {H0 H : Hp} {ρ : List Sl} {te to : TE} {D : Ends} {tz : TS}
theorem qr_app {b : Addr} {K' : PySem.W.Frag} {rs : List RV} (hr : ERC (ct X g) to ρ (.ref b)) (hb : g b = some (.lst rs)) (h : EVR X g te ρ fun g1 r => ∃ rs1, g1 b = some (.lst rs1) ∧ rs1.length < 100000 ∧ (Fr (WT X) g (setG g1 b (.lst (rs1 ++ [r]))) H0 → NJ (ct X (setG g1 b (.lst (rs1 ++ [r])))) hid H0 (tz D) ρ)) :
    NJ (ct X g) hid H0 (tSeq (tDrop (tBM K' "list" rAppend to (tCons te tNil))) tz D) ρ := njr_app (D := { D with nx := tz D }) hr hb h
end
end CC
namespace CC
open PySem PySem.Spec PyProof.Rows L2
open C8 (Cal pe_c pe_gc)
section
variable {K : PySem.W.Frag} {X : Cl K} {g : GT} {hid hd : Addr → Bool} {H0 H : Hp} {σ : L2.St} {ρ : List Sl} {te ta tb to td ty : TE} {t : TT} {D : Ends} {ts tz : TS} {gg : TG} {wi : TI}
theorem itr_rev {b : Addr} {rs : List RV} (hb : g b = some (.lst rs)) : ItR X g (Itv K b rs.length) rs.reverse where
  go := fun i hd H h hi => by
    obtain ⟨vs, h1, h2⟩ := (h.2 b _ hb).2
    rw [List.length_reverse] at hi
    obtain ⟨v, hv, _⟩ := h2.get (List.getElem?_eq_getElem (show rs.length - 1 - i < rs.length by omega))
    exact ⟨hi, vs, v, .inl (.inl h1), hv⟩
  st := fun i hd H h hi => by
    rw [List.length_reverse] at hi
    show rs.length ≤ i
    omega
  yl := fun i hd H x H' r h hr hy => by
    obtain ⟨vs, h1, h2⟩ := (h.2 b _ hb).2
    have hil : i < rs.length := by
      have := (List.getElem?_eq_some_iff.mp hr).1
      rw [List.length_reverse] at this; exact this
    rw [List.getElem?_reverse hil] at hr
    obtain ⟨v, hv, rv⟩ := h2.get hr
    obtain ⟨rfl, y⟩ := hy
    have := y vs (.inl (.inl h1))
    rw [hv] at this
    cases this
    exact ⟨rfl, rv⟩
def TGR (X : Cl K) (g : GT) (hid : Addr → Bool) (H0 : Hp) (gg : TG) (r : RV) (ρ : List Sl) (N : L2.St → Hp → Prop) : Prop := ∀ hd H σ v, SD (ct X g) hid hd H0 H σ ρ → RvOk K (Hm hd H) v r → gg v σ H N
theorem tgr_dat {d : Dt} {N : L2.St → Hp → Prop} (h : TGJ (ct X g) hid H0 gg d ρ N) : TGR X g hid H0 gg (.dat d) ρ N := fun hd H σ v s rv => h hd H σ v s rv
theorem njr_forR {J : It} {rs : List RV} (hw : ∀ hd H σ, SV (ct X g) hd H σ ρ → ∀ R : It → Hp → Prop, R J H → wi σ H R) (I : Nat → GT → List Sl → Prop) (h0 : I 0 g ρ) (ok : ∀ i g' ρ', I i g' ρ' → ItR X g' J rs)
    (hs : ∀ i r g' ρ', rs[i]? = some r → I i g' ρ' → Fr (WT X) g g' H0 → TGR X g' hid H0 gg r ρ' (ts { D with nx := NxM (WT X) g hid H0 (I (i + 1)), ct := NxM (WT X) g hid H0 (I (i + 1)), bk := D.nx }))
    (he : ∀ g' ρ', I rs.length g' ρ' → Fr (WT X) g g' H0 → NJ (ct X g') hid H0 D.nx ρ') : NJ (ct X g) hid H0 (tFor wi gg ts D) ρ := fun hd H σ s => hw hd H σ s.toSV _ (by
  refine ⟨fun i m σ2 H2 => m = rs.length - i ∧ i ≤ rs.length ∧ ∃ g2 ρ2 hd2, I i g2 ρ2 ∧ Fr (WT X) g g2 H0 ∧ SD (ct X g2) hid hd2 H0 H2 σ2 ρ2, ⟨rs.length, rfl, Nat.zero_le _, g, ρ, hd, h0, .refl, s⟩, ?_⟩
  rintro i m σ2 H2 ⟨rfl, hi, g2, ρ2, hd2, hI, f2, s2⟩
  have o := ok i g2 ρ2 hI
  by_cases hlt : i < rs.length
  · refine .inr ⟨o.go i hd2 H2 s2.inv hlt, NxM (WT X) g hid H0 (I (i + 1)), fun σ' H3 hN => ?_, fun x H3 hy => ?_⟩
    · obtain ⟨g3, ρ3, hd3, hI3, f3, s3⟩ := hN
      exact ⟨rs.length - (i + 1), by omega, rfl, hlt, g3, ρ3, hd3, hI3, f3, s3⟩
    · obtain ⟨rfl, rx⟩ := o.yl i hd2 H2 x H3 rs[i] s2.inv (List.getElem?_eq_getElem hlt) hy
      exact hs i rs[i] g2 ρ2 (List.getElem?_eq_getElem hlt) hI f2 hd2 H3 σ2 x s2 rx
  · have e : i = rs.length := by omega
    exact .inl ⟨o.st i hd2 H2 s2.inv e, he g2 ρ2 (by rw [← e]; exact hI) f2 hd2 H2 σ2 s2⟩)
theorem qr_forR {J : It} {rs : List RV} (hw : ∀ hd H σ, SV (ct X g) hd H σ ρ → ∀ R : It → Hp → Prop, R J H → wi σ H R) (I : Nat → GT → List Sl → Prop) (h0 : I 0 g ρ) (ok : ∀ i g' ρ', I i g' ρ' → ItR X g' J rs)
    (hs : ∀ i r g' ρ', rs[i]? = some r → I i g' ρ' → Fr (WT X) g g' H0 → TGR X g' hid H0 gg r ρ' (ts { D with nx := NxM (WT X) g hid H0 (I (i + 1)), ct := NxM (WT X) g hid H0 (I (i + 1)), bk := tz D }))
    (he : ∀ g' ρ', I rs.length g' ρ' → Fr (WT X) g g' H0 → NJ (ct X g') hid H0 (tz D) ρ') : NJ (ct X g) hid H0 (tSeq (tFor wi gg ts) tz D) ρ := njr_forR (D := { D with nx := tz D }) hw I h0 ok hs he
theorem w_list {b : Addr} {rs : List RV} (hr : ERC (ct X g) to ρ (.ref b)) (hb : g b = some (.lst rs)) : ∀ hd H σ, SV (ct X g) hd H σ ρ → ∀ R : It → Hp → Prop, R (Itl K b) H → iList K to σ H R := fun hd H σ s R h => hr hd H σ s _ (by
  obtain ⟨vs, h1, h2⟩ := (s.inv.2 b _ hb).2
  exact ⟨b, rfl, ⟨vs, .inl (.inl h1)⟩, h⟩)
theorem w_rev {b : Addr} {rs : List RV} (hr : ERC (ct X g) to ρ (.ref b)) (hb : g b = some (.lst rs)) : ∀ hd H σ, SV (ct X g) hd H σ ρ → ∀ R : It → Hp → Prop, R (Itv K b rs.length) H → iRev K (tCons to tNil) σ H R := fun hd H σ s R h => hr hd H σ s _ (by
  obtain ⟨vs, h1, h2⟩ := (s.inv.2 b _ hb).2
  exact ⟨b, vs, rfl, .inl (.inl h1), by rw [h2.len]; exact h⟩)
theorem qr_dput {a : Addr} {tv : TE} (h : EVR X g tv ρ fun g1 r => ERC (ct X g1) td ρ (.ref a) ∧ ∃ kvs, g1 a = some (.dk kvs) ∧ kvs.length < 100000 ∧ EV (ct X g1) ty ρ (KeyJ fun k => Fr (WT X) g (setG g1 a (.dk (putRK kvs k r))) H0 → NJ (ct X (setG g1 a (.dk (putRK kvs k r)))) hid H0 (tz D) ρ)) :
    NJ (ct X g) hid H0 (tSeq (sDPut td ty tv) tz D) ρ := njr_dput (D := { D with nx := tz D }) h
end
end CC
namespace CC
open PySem PySem.Spec PyProof.Rows L2
end CC
namespace CC
open PySem PySem.Spec PyProof.Rows L2
end CC
namespace CC
open PySem PySem.Spec PyProof.Rows L2
open C8 (Cal pe_c pe_gc)
section
variable {K : PySem.W.Frag} {b l : Addr} {g : GT} {hd : Addr → Bool} {H H' : Hp} {ρ : List Sl}
abbrev XB (K : PySem.W.Frag) (b l : Addr) : Cl K := Cl.box K b l
theorem muX {a : Addr} (h : muB b l a = true) : (WT (XB K b l)).mu g a = true := by
  show (muB b l a || (g a).isSome) = true
  rw [h]; rfl
theorem box_keep {o : Addr} (v : (WT (XB K b l)).B g hd H) (mh : ∀ a, (WT (XB K b l)).mu g a = true → hd a = true) (e : Ex (muB b l) H H') (bx : Bx b l H') : (WT (XB K b l)).B g hd H' := ⟨bx, fun a m hm => ⟨(v.2 a m hm).1, (v.2 a m hm).2.mono (e.sees fun a h => mh a (muX h)) fun o ho => e.keep a o (v.2 a m hm).1 ho⟩⟩
theorem ev_callBW {S : List Dt → (Dt → Prop) → Prop} {E : XK} {i : Nat} {ta : TA} {Q : Dt → Prop} (hne : b ≠ l) (hi : ρ[i]? = some (.rw (.ref b))) (h : EVA (ct (XB K b l) g) ta ρ fun ds => S ds Q) : EV (ct (XB K b l) g) (tCall (spB K S) [] E (tCons (tVar i) ta)) ρ Q := fun hd H σ v Qh q =>
  ⟨.ref b, rw_get v.slots hi, h hd H σ v _ fun ds vs H1 h1 e1 b1 r1 => by
    show spB K S ((.ref b :: vs) ++ []) H1 Qh E
    rw [List.append_nil]
    exact ⟨b, l, vs, hd, ds, Q, rfl, hne, b1.1, v.muh b (muX muB_b), v.muh l (muX muB_l), fun a h => e1.dom a (v.dom a h), r1, h1, fun d z H2 hq e2 b2 r2 => q d z H2 hq (e1.trans (e2.weak fun a h => muX h)) (box_keep (o := b) b1 v.muh e2 b2) r2⟩⟩
def spRB (K : PySem.W.Frag) (S : GT → List RV → (GT → RV → Prop) → Prop) : Sp := fun vs H Qh _ => ∃ (b l : Addr) (g : GT) (rs : List RV) (hid : Addr → Bool) (Q : GT → RV → Prop), b ≠ l ∧ (WT (XB K b l)).B g hid H ∧ (∀ a, (WT (XB K b l)).mu g a = true → hid a = true) ∧ (∀ a, hid a = true → H a ≠ none) ∧ P2 (RvOk K (Hm hid H)) vs (.ref b :: rs) ∧ S g rs Q ∧
  ∀ g' r v H', Q g' r → Go (WT (XB K b l)) g g' hid H H' → RvOk K (Hm (un hid ((WT (XB K b l)).mu g')) H') v r → Qh v H'
theorem evr_callRB {S : GT → List RV → (GT → RV → Prop) → Prop} {E : XK} {i : Nat} {ta : TA} {Q : GT → RV → Prop} (hne : b ≠ l) (hi : ρ[i]? = some (.rw (.ref b))) (h : EAR (ct (XB K b l) g) ta ρ fun rs => S g rs Q) : EVR (XB K b l) g (tCall (spRB K S) [] E (tCons (tVar i) ta)) ρ Q := fun hd H σ v Qh q => ⟨.ref b, rw_get v.slots hi, h hd H σ v _ fun rs vs H1 hq e1 b1 r1 => by
  have v1 := v.go e1 b1
  show spRB K S ((.ref b :: vs) ++ []) H1 Qh E
  rw [List.append_nil]
  refine ⟨b, l, g, rs, hd, Q, hne, v1.inv, v1.muh, v1.dom, .cons rfl r1, hq, fun g' r z H2 hq2 s2 r2 => q g' r z H2 hq2 ((Go.of v.muh e1 b1).trans ?_) r2⟩
  rw [un_eq v.muh]; exact s2⟩
end
section
variable {P : Program} {w : World} {K : PySem.W.Frag} {mg : Str → Option Value} {base : Heap}
theorem cal_rB {x : Str} {st : Stmt} {N ps : List Str} {k : Nat} {S : GT → List RV → (GT → RV → Prop) → Prop} (F : FnAt K mg x st ps) (Sc : FnScope N ps (defScope st)) (len : ∀ g rs Q, S g rs Q → rs.length + 1 = ps.length)
    (hb : ∀ (f : Addr) (cdv : Value) (A : Around) (outer : List Env) (s : Shared) (H : Hp) (E : XK), Room k (A.deeper (envOfC x (defScope st) s.heap.objs.size f cdv)) →
      ∃ t, PSs (cxD P w K mg base N x st f cdv A outer s H E) (defBody st) t ∧ ∀ b l g rs Q, b ≠ l → S g rs Q → ∀ hid H0 (D : Ends), (∀ a, hid a = true → H0 a ≠ none) → RetR (XB K b l) g hid H0 Q D → NJ (ct (XB K b l) g) hid H0 (t D) (startR N (.ref b :: rs))) :
    Cal P w K mg base (k + 1) x (spRB K S) [] := by
  obtain ⟨f, fd, hm, F, bi⟩ := F
  refine ⟨⟨f, fd, ps, [], F.ok Sc (fun vs H Q E h => ?_) (fun cdv A outer s H vs Q E hr h => ?_), hm, F.kp, bi, .nil⟩⟩
  · obtain ⟨b, l, g, rs, hid, Q', _, _, _, _, r, hS, _⟩ := h
    rw [r.len, List.length_cons]
    exact len g rs Q' hS
  · obtain ⟨b, l, g, rs, hid, Q', hne, bb, mh, dom, r, hS, q⟩ := h
    obtain ⟨t, ht, hn⟩ := hb f cdv A outer s H E hr
    refine ⟨t, ht, hn b l g rs Q' hne hS hid H { nx := fun _ H' => Q .non H', rt := Q } dom ⟨fun g' d hd f v H' e b r => q g' d v H' hd ⟨f.ex e, b, f⟩ r, fun g' hd f ρ hd' H' σ sd => ?_⟩ hid H _ (sd_startR (c := ct (XB K b l) g) dom mh bb r)⟩
    have sub : ∀ a, un hid ((WT (XB K b l)).mu g') a = true → hd' a = true := fun a h => by
      rcases un_of h with h | h
      · exact sd.sub a h
      · exact sd.muh a h
    exact q g' (.dat .non) .non H' hd ⟨f.ex sd.ext, ((WT (XB K b l)).cn g').unhide sub sd.inv, f⟩ .non
end
section
variable {K : PySem.W.Frag} {X : Cl K} {b l : Addr} {g : GT} {hid hd : Addr → Bool} {H0 H : Hp} {σ : L2.St} {ρ : List Sl} {te ta tb to td ty : TE} {t : TT} {D : Ends} {ts tz : TS} {gg : TG} {wi : TI}
theorem go_upd {g' : GT} {hL : Addr → Bool} {Ha Hb : Hp} {L : Addr} {o o1 : HO} (s : Go (WT X) g g' hL Ha Hb) (hh : hL L = true) (nm : (WT X).mu g' L = false) (hb : Hb L = some o1) (hx : ext o1 = false) (ha : Ha L ≠ none) : Go (WT X) g g' hL (upd Ha L o) (upd Hb L o) := by
  refine ⟨⟨fun a u hm h => ?_, fun a h => ?_⟩, (ct X g').put (un_l hh) nm hb hx s.inv, ⟨s.fr.up, fun a h => ?_⟩⟩
  · by_cases q : a = L
    · subst q; rw [upd_same] at h ⊢; exact h
    · rw [upd_ne q] at h ⊢; exact s.ex.keep a u hm h
  · by_cases q : a = L
    · subst q; rw [upd_same]; exact fun z => nomatch z
    · rw [upd_ne q] at h ⊢; exact s.ex.dom a h
  · rcases s.fr.new a h with h | h'
    · exact .inl h
    · by_cases q : a = L
      · subst q; rw [nm] at h; cases h
      · exact .inr (by rw [upd_ne q]; exact h')
theorem erc_dgetW {a b : Addr} {kvs : List (Key × RV)} {k : Key} (h : ERC (ct X g) td ρ (.ref a)) (ha : DkAt g a kvs) (hk : ERC (ct X g) ty ρ (kV k)) (hv : valR kvs k = some (.ref b)) : ERC (ct X g) (tDGet td ty) ρ (.ref b) := evr_dgetW (d := .non) h ha hk hv
theorem erc_strK {x : Str} : ERC (ct X g) (tC (.str x)) ρ (kV (.inr x)) := erc_str
end
end CC
namespace CC
open PySem PySem.Spec PyProof.Rows L2
open C8 (Cal pe_c pe_gc)
open PySem.W (AlikeAll minD maxD dataLt alike alikeAll alike_unique reads_keeps max_list_data dataLt_int dataLt_str)
section
variable {K : PySem.W.Frag} {X : Cl K} {g : GT} {hid hd : Addr → Bool} {H0 H : Hp} {σ : L2.St} {ρ : List Sl} {te ta tb to td ty : TE} {t : TT} {D : Ends} {ts tz : TS} {gg : TG}
def SeenA (g : GT) (A : Addr → Bool) : Nat → RV → Dt → Prop
  | 0, r, d => r = .dat d
  | n + 1, r, d => r = .dat d ∨ ∃ a rs ds, r = .ref a ∧ A a = true ∧ g a = some (.lst rs) ∧ d = .lst ds ∧ P2 (SeenA g A n) rs ds
theorem p2_seen {hd' : Addr → Bool} {A : Addr → Bool} {n : Nat} (ih : ∀ v r d, RvOk K (Hm hd H) v r → SeenA g A n r d → Rp K (Hm hd' H) v d) : ∀ {vs : List V} {rs : List RV} {ds : List Dt}, P2 (RvOk K (Hm hd H)) vs rs → P2 (SeenA g A n) rs ds → RpAll K (Hm hd' H) vs ds
  | _, _, _, .nil, .nil => .nil
  | _, _, _, .cons h t, .cons s u => .cons (ih _ _ _ h s) (p2_seen ih t u)
theorem seenA_rp {hd' : Addr → Bool} {A : Addr → Bool} (b : (WT X).B g hd H) (hs : ∀ a, hd' a = true → hd a = true) (hA : ∀ a, A a = true → hd' a = false) : ∀ (n : Nat) (v : V) (r : RV) (d : Dt), RvOk K (Hm hd H) v r → SeenA g A n r d → Rp K (Hm hd' H) v d
  | 0, v, r, d, h, s => by
    have s : r = .dat d := s
    subst s
    exact Rp.mono (sees_hide hs) h
  | n + 1, v, r, d, h, s => by
    rcases s with s | ⟨a, rs, ds, rfl, ha, hg, rfl, hp⟩
    · subst s
      exact Rp.mono (sees_hide hs) h
    · have h : v = V.ref a := h
      subst h
      obtain ⟨vs, h1, h2⟩ := (b.2 a _ hg).2
      exact .lst (by rw [hm_of (hA a ha)]; exact h1) (p2_seen (seenA_rp b hs hA n) h2 hp)
def unA (hd A : Addr → Bool) : Addr → Bool := fun a => hd a && !A a
theorem unA_sub {A : Addr → Bool} {a : Addr} (h : unA hd A a = true) : hd a = true := (Bool.and_eq_true_iff.mp h).1
theorem unA_of {A : Addr → Bool} {a : Addr} (h : A a = true) : unA hd A a = false := by unfold unA; rw [h, Bool.not_true, Bool.and_false]
end
end CC
namespace CC
open PySem PySem.Spec PyProof.Rows L2
open C8 (Cal pe_c pe_gc)
section
variable {K : PySem.W.Frag} {X : Cl K} {g : GT} {hid hd : Addr → Bool} {H0 H : Hp} {σ : L2.St} {ρ : List Sl} {te ta tb to td ty : TE} {tr : TA} {t : TT} {D : Ends} {ts tz : TS} {gg : TG}
def EAG (X : Cl K) (g : GT) (ta : TA) (ρ : List Sl) (Q : GT → List RV → Prop) : Prop := ∀ hd H σ, SV (ct X g) hd H σ ρ → ∀ Qh : List V → Hp → Prop, (∀ g' rs vs H', Q g' rs → Go (WT X) g g' hd H H' → P2 (RvOk K (Hm (un hd ((WT X).mu g')) H')) vs rs → Qh vs H') → ta σ H Qh
theorem eag_nil {Q : GT → List RV → Prop} (h : Q g []) : EAG X g tNil ρ Q := fun hd H σ v Qh q => q g [] [] H h (Go.of v.muh .refl v.inv) .nil
theorem eag_cons {Q : GT → List RV → Prop} (h : EVR X g te ρ fun g1 r => EAG X g1 tr ρ fun g2 rs => Q g2 (r :: rs)) : EAG X g (tCons te tr) ρ Q := fun hd H σ v Qh q => h hd H σ v _ fun g1 r x H1 h1 st1 rv1 => h1 _ H1 σ (v.step st1) _ fun g2 rs vs H2 h2 st2 rv2 => by
  have e1 := rv1.mono (st2.sees fun a ha => un_r ha)
  have st := st1.trans st2
  have s0 : ∀ a, un hd ((WT X).mu g2) a = true → un (un hd ((WT X).mu g1)) ((WT X).mu g2) a = true := fun a ha => by
    rcases un_of ha with ha | ha
    · exact un_l (un_l ha)
    · exact un_r ha
  exact q g2 (r :: rs) (x :: vs) H2 h2 st (.cons (e1.hide s0) (rv2.imp fun _ _ z => z.hide s0))
theorem evr_tupG {Q : GT → RV → Prop} {ta : TA} (h : EAG X g ta ρ fun g1 rs => rs.length ≤ 100000 ∧ ∀ o, g1 o = none → Q (setG g1 o (.tp rs)) (.ref o)) : EVR X g (tTup ta) ρ Q := fun hd H σ v Qh q => h hd H σ v _ fun g1 rs vs H1 hq st1 r1 => ⟨by rw [r1.len]; exact Evl.sz_of hq.1, fun p hp => by
  have v1 := v.step st1
  have sm : Sees (Hm (un hd ((WT X).mu g1)) H1) (Hm (hide (un hd ((WT X).mu g1)) p) (upd H1 p (.tup vs))) := sees_new (Ex.new hp (mu := none0)) (fun _ h => nomatch h) hp
  have go1 := got_new (m' := .tp rs) v1.inv v1.muh (.new hp) ((ct X g1).keepN (.new hp) hp v1.inv) hp ⟨vs, upd_same, r1.imp fun _ _ z => z.mono sm⟩
  exact q _ (.ref p) (.ref p) _ (hq.2 p (g_none v1.inv hp)) (st1.trans go1) rfl⟩
end
end CC
namespace CC
open PySem PySem.Spec PyProof.Rows L2
open C8 (Cal pe_c pe_gc)
open LamX (CodeO TabS TabB lamEnv lamCx)
def tBig (X : Cx) (spf : Heap → Sp) (t : TA) : TE := fun σ H Q => t σ H fun vs H1 => ∀ pins s, Inv X pins σ H1 s → spf (big s H1 X.stack) vs H1 Q fun _ _ _ => False
theorem pe_callBig {X : Cx} {k j : Nat} {spf : Heap → Sp} {x : Str} {q pos : Pos} {e : Expr} {es : List Expr} {t : TA} (F : ∀ B, Cal X.prog X.w X.K X.mg B k x (spf B) []) (hr : Room j X.A) (hk : k ≤ j) (hg : Gl X x) (ha : PA X (e :: es) t)
    (hdb : (x == ("__debug__" : Str)) = false := by decide) (he : starEach (e :: es) X.env = (false, eval e X.env) :: starEach es X.env := by rfl) (hpl : (backTo pos (starEach es X.env)).any (·.1) = false := by rfl) :
    PE X (.Call (.Name x q) (e :: es) [] pos) (tBig X spf t) := by
  refine ⟨fun pins s σ H Q I h => ?_⟩
  obtain ⟨f0, _, _, _, _, hm0, kp0, _, _⟩ := (F X.base).ex
  refine wpAny_Call_Name_kw (ld_glob I hg hm0 ?_ hdb)
  refine PySem.W.callWith_K (h₀ := X.base) I.ok.mod.kin kp0 (thn (ha.run pos pins s σ H _ I h) fun us s1 hh => ?_) he hpl
  obtain ⟨vs, H1, I1, r, hsp⟩ := hh
  refine ⟨I1.kIn, ?_⟩
  obtain ⟨f, fd, ps, ds, F1, hm, kp, hb, hd⟩ := (F (big s1 H1 X.stack)).ex
  have ef : f = f0 := by rw [hm0] at hm; cases hm; rfl
  subst ef
  cases hd
  have hs := hsp pins s1 I1
  have hl : (us ++ []).length = ps.length := by rw [List.append_nil, ← r.length]; exact F1.len _ _ _ _ hs
  have b := hb s1 us I1.kIn hl
  rw [List.append_nil] at b
  refine wpAny_call (codeAny_mono (F1.run X.A X.stack s1 H1 ⟨us, []⟩ us vs Q _ (hr.mono hk) (env0_big I1) b r hs) fun r s' hq => ?_)
  cases r with
  | error e => exact hq.elim
  | ok fl =>
    cases fl with
    | ret u => exact I1.after hq
    | next => exact hq.elim
    | brk => exact hq.elim
    | cont => exact hq.elim
def IsLam (X : Cx) (k : Nat) (t : XK → TE) (f : Addr) (L : List (Addr × HO)) : Prop := ∀ pins σ H s, Inv X pins σ H s → Act X.prog X.w X.K X.mg (big s H X.stack) (k + 1) f fun H' Q E => (∀ p ∈ L, H' p.1 = some p.2) ∧ t E σ H' Q
def tLamM (X : Cx) (P : Addr) (q : Str) (k : Nat) (t : XK → TE) : TE := fun σ H Q => ∃ hd, (∀ a, hd a = true → H a ≠ none) ∧ TabV hd H P q ∧
  ∀ (f : Addr) (L : List (Addr × HO)) (H3 : Hp), IsLam X k t f L → Ex (at0 P) H H3 → TabV hd H3 P q → (∀ p ∈ L, dic (thaw p.2) = false ∧ Hm hd H3 p.1 = some p.2) → Q (.ref f) H3
theorem pe_lamM {X : Cx} {c P : Addr} {q : Str} {params : Arguments} {body : Expr} {scope : Scope} {pos : Pos} {es : List Expr} {ps : List Str} {k : Nat} {t : XK → TE} (TB : TabB X.base X.mg c P) (hcode : X.env.code = .ref c) (hq : X.env.qual ++ "<lambda>" = q) (hfn : ∀ y, X.fn y = true)
    (L : LamS2 X.N X.env.scope scope ps) (hdef : defaultsOf params X.env = (evalEach es X.env, [])) (hes : (es.all fun e => e.isPlainConst) = true) (hlen : es.length = ps.length) (hN : es = [] → FillsN params body scope) (hD : es ≠ [] → FillsD params body scope ps)
    (hbody : ∀ (B : Heap) (A : Around) (outer : List Env) (s' : Shared) (H' : Hp) (E : XK) (f c' : Addr), Room k (A.deeper (lamEnv X scope s'.heap.objs.size f c')) → PE (lamCxB X B A outer s' H' E scope f c') body (t E)) :
    PE X (.Lambda params body scope pos) (tLamM X P q k t) := by
  refine ⟨fun pins s σ H Q I h => ?_⟩
  obtain ⟨hd, dom, hT, h⟩ := h
  refine (pe_lamO TB hcode hq hdef (fun e he => List.all_eq_true.mp hes e he) (fun ok => L.has ok)).run pins s σ H Q I ⟨hd, dom, hT, fun f c' pm ctv dV dT H3 dd e3 nf T3 hL => ?_⟩
  refine h f _ H3 (fun pins' σ' H' s' I' => ?_) e3 T3 fun p hp => ⟨?_, hL p hp⟩
  · refine lam_act hq I' hfn L ?_ fun A outer s1 H1 E hr => hbody _ A outer s1 H1 E f c' hr
    rcases dd with ⟨e0, e1, e2⟩ | ⟨T, e0, e1, e2⟩
    · exact .inl ⟨e1, e2, hN e0⟩
    · exact .inr ⟨T, by rw [e1, hlen], e2, hD e0⟩
  · rcases dT with _ | ⟨T, n⟩
    · simp only [LamAt, List.mem_cons, List.not_mem_nil, or_false] at hp
      rcases hp with rfl | rfl <;> rfl
    · simp only [LamAt, List.mem_cons, List.not_mem_nil, or_false] at hp
      rcases hp with rfl | rfl | rfl <;> rfl
def tAct (P : Program) (w : World) (K : PySem.W.Frag) (mg : Str → Option Value) (B : Heap) (k i : Nat) (W : WX) : TE := fun σ H Q => ∃ f sp, σ[i]? = some (some (.ref f)) ∧ Act P w K mg B k f sp ∧ sp H Q (WE W σ)
theorem pe_actB {X : Cx} {k i : Nat} {a : Str} {W : WX} {p1 p2 : Pos} (hr : Room k X.A) (tk : Takes X W) (hN : X.N[i]? = some a) (hv : Vis X.env.scope a) (hd : (a == ("__debug__" : Str)) = false := by decide) (hcd : (a == ("__classdict__" : Str)) = false := by decide) :
    PE X (.Call (.Name a p1) [] [] p2) (tAct X.prog X.w X.K X.mg X.base k i W) := by
  refine ⟨fun pins s σ H Q I h => ?_⟩
  obtain ⟨f, sp, hs, ⟨isf, run⟩, hsp⟩ := h
  refine wpAny_Call_Name_kw (thn ((pe_var (pos := p1) (i := i) hN hv hd hcd).run pins s σ H (fun v H1 => v = .ref f ∧ H1 = H) I ⟨.ref f, hs, rfl, rfl⟩) fun u s1 hh => ?_)
  obtain ⟨v, H1, I1, r1, rfl, eH⟩ := hh
  rw [eH] at I1
  cases (show u = Value.ref f from r1)
  obtain ⟨q, params, body, scope, cl, dV, pm, cdv, ct, hf⟩ := isf _ _ _ hsp
  obtain ⟨of1, _, _⟩ := I1.hok f _ hf
  refine PySem.W.callWith_F0 ⟨_, _, _, _, of1⟩ ?_
  refine wpAny_call (codeAny_mono (run X.A X.stack s1 H Q (WE W σ) hr I1.env0 hsp) fun r s' hq => ?_)
  cases r with
  | error e => exact passAt tk σ pins H s1 e s' I1 hq
  | ok fl =>
    cases fl with
    | ret u => exact I1.after hq
    | next => exact hq.elim
    | brk => exact hq.elim
    | cont => exact hq.elim
def spT (P : Program) (w : World) (K : PySem.W.Frag) (mg : Str → Option Value) (names : List Str) (k : Nat) (B : Heap) : Sp := fun vs H Q _ => ∃ f sp, vs = [.ref f] ∧ Act P w K mg B k f sp ∧ ∀ W : XK, (∀ cls d H', Ew K names Q cls d H' → W cls d H') → sp H Q W
end CC
namespace CC
open PySem PySem.Spec PyProof.Rows L2
open LamX (CodeO TabS TabB lamEnv lamCx inv_table among_app codeO_ne)
structure LamS3 (N : List Str) (sc scope : Scope) (p : Str) (j : Nat) : Prop where
  kind : scope.kind = .function
  co : scope.isCoroutine = false
  gen : scope.isGenerator = false
  cell : ∀ y ∈ scope.names, y.2 ≠ .cell
  loc : ∀ y ∈ scope.names, y.2 = .local → y.1 ∈ N → y.1 = p
  par : scope.names.lookup p = some .local
  free : ∀ y ∈ scope.names, y.2 = .free → sc.names.lookup y.1 = some .cell ∨ sc.names.lookup y.1 = some .free
  at_ : N[j]? = some p
  one : ∀ i, N[i]? = some p → i = j
theorem LamS3.has {X : Cx} {scope : Scope} {p : Str} {j : Nat} (L : LamS3 X.N X.env.scope scope p j) (ok : X.Ok) : ∀ y ∈ scope.names, y.2 = .free → ∃ c, X.env.cells.lookup y.1 = some c := fun y hy e => by
  rcases L.free y hy e with k | k
  · exact ok.has _ (.inl k)
  · exact ok.has _ (.inr k)
end CC
namespace CC
open PySem PySem.Spec PyProof.Rows L2
open LamX (CodeO TabS TabB lamEnv lamCx inv_table among_app codeO_ne)
open PySem.W (AllAlike Sortable dataLe EachIs KeyPure)
def Kp (s s' : Shared) : Prop := ∃ h' tk, s' = { s with heap := h', toks := tk } ∧ ∀ b o, s.heap.get? b = some o → h'.get? b = some o
theorem Kp.rfl {s : Shared} : Kp s s := ⟨s.heap, s.toks, by cases s; exact Eq.refl _, fun _ _ e => e⟩
theorem Kp.trans {s s1 s2 : Shared} (a : Kp s s1) (b : Kp s1 s2) : Kp s s2 := by
  obtain ⟨h1, t1, rfl, k1⟩ := a
  obtain ⟨h2, t2, rfl, k2⟩ := b
  exact ⟨h2, t2, Eq.refl _, fun b o e => k2 b o (k1 b o e)⟩
theorem Kp.keep {s s1 : Shared} (a : Kp s s1) : ∀ b o, s.heap.get? b = some o → s1.heap.get? b = some o := by
  obtain ⟨h1, t1, rfl, k1⟩ := a
  exact k1
structure LamS4 (sc scope : Scope) (p : Str) : Prop where
  kind : scope.kind = .function
  co : scope.isCoroutine = false
  gen : scope.isGenerator = false
  cell : ∀ y ∈ scope.names, y.2 ≠ .cell
  par : scope.names.lookup p = some .local
  free : ∀ y ∈ scope.names, y.2 = .free → sc.names.lookup y.1 = some .cell ∨ sc.names.lookup y.1 = some .free
theorem LamS4.has {X : Cx} {scope : Scope} {p : Str} (L : LamS4 X.env.scope scope p) (ok : X.Ok) : ∀ y ∈ scope.names, y.2 = .free → ∃ c, X.env.cells.lookup y.1 = some c := fun y hy e => by
  rcases L.free y hy e with k | k
  · exact ok.has _ (.inl k)
  · exact ok.has _ (.inr k)
end CC
namespace CC
open PySem PySem.Spec PyProof.Rows L2
open PySem.W (AllAlike Sortable dataLe)
section
variable {K : PySem.W.Frag} {X : Cl K} {g : GT} {ρ : List Sl} {hd : Addr → Bool} {H H1 H3 : Hp} {P : Addr} {q : Str}
theorem at0_hd (h : hd P = true) : ∀ a, at0 P a = true → hd a = true := fun a z => by
  have : a = P := of_decide_eq_true z
  subst this; exact h
theorem wt_tab (mh : ∀ a, (WT X).mu g a = true → hd a = true) (b : (WT X).B g hd H1) (hP : g P = some (.tab q)) (e : Ex (at0 P) H1 H3) (t : TabV hd H3 P q) : Ex ((WT X).mu g) H1 H3 ∧ (WT X).B g hd H3 ∧ Sees (Hm hd H1) (Hm hd H3) := by
  have sm : Sees (Hm hd H1) (Hm hd H3) := e.sees (at0_hd (mh P (muT hP)))
  have kp : ∀ a o, a ≠ P → H1 a = some o → H3 a = some o := fun a o ha ho => e.keep a o (decide_eq_false ha) ho
  obtain ⟨nP, ps, hps, _⟩ := b.2 P _ hP
  refine ⟨⟨fun a o hm ho => kp a o (fun z => ?_) ho, e.dom⟩, ⟨X.stab hd hd H1 H3 sm (fun a o ha ho => kp a o (fun z => ?_) ho) b.1, fun a m hm => ⟨(b.2 a m hm).1, ?_⟩⟩, sm⟩
  · subst z; rw [muT hP] at hm; cases hm
  · subst z
    rcases ha with ha | ha
    · rw [nP] at ha; cases ha
    · rw [hps] at ho; cases ho; cases ha
  · by_cases z : a = P
    · subst z
      rw [hP] at hm
      cases hm
      exact t
    · exact (b.2 a m hm).2.mono sm fun o ho => kp a o z ho
end
end CC
namespace CC
open PySem PySem.Spec PyProof.Rows L2
open C8 (Cal pe_c pe_gc)
def FnAtC (K : PySem.W.Frag) (mg : Str → Option Value) (x : Str) (st : Stmt) (ps : List Str) (c : Addr) : Prop := ∃ f fd, mg x = some (.ref f) ∧ Fun K x x st f fd ∧ Binds K fd ps [] ∧ fd.code = .ref c
end CC
namespace CC
open PySem PySem.Spec PyProof.Rows L2
open PySem.W (AllAlike Sortable dataLe EachIs list_sort_data dataLe_int dataLe_str)
end CC
namespace CC
open PySem PySem.Spec PyProof.Rows L2
open C8 (Cal pe_c pe_gc)
section
variable {K : PySem.W.Frag} {X : Cl K} {g : GT} {hid hd : Addr → Bool} {H0 H : Hp} {σ : L2.St} {ρ : List Sl} {te ta tb to td ty : TE} {tr : TA} {t : TT} {D : Ends} {ts tz : TS} {gg : TG}
theorem evr_lstG {Q : GT → RV → Prop} {ta : TA} (h : EAG X g ta ρ fun g1 rs => rs.length ≤ 100000 ∧ ∀ o, g1 o = none → Q (setG g1 o (.lst rs)) (.ref o)) : EVR X g (tLst ta) ρ Q := fun hd H σ v Qh q => h hd H σ v _ fun g1 rs vs H1 hq st1 r1 => ⟨by rw [r1.len]; exact Evl.sz_of hq.1, fun p hp => by
  have v1 := v.step st1
  have sm : Sees (Hm (un hd ((WT X).mu g1)) H1) (Hm (hide (un hd ((WT X).mu g1)) p) (upd H1 p (.lst vs))) := sees_new (Ex.new hp (mu := none0)) (fun _ h => nomatch h) hp
  have go1 := got_new (m' := .lst rs) v1.inv v1.muh (.new hp) ((ct X g1).keepN (.new hp) hp v1.inv) hp ⟨vs, upd_same, r1.imp fun _ _ z => z.mono sm⟩
  exact q _ (.ref p) (.ref p) _ (hq.2 p (g_none v1.inv hp)) (st1.trans go1) rfl⟩
end
def gTabs : List (Addr × Str) → GT
  | [] => g0
  | (P, q) :: r => fun a => if a = P then some (.tab q) else gTabs r a
theorem gTabs_mem : ∀ {ts : List (Addr × Str)}, (ts.map (·.1)).Nodup → ∀ p ∈ ts, gTabs ts p.1 = some (.tab p.2)
  | [], _, _, h => nomatch h
  | (P, q) :: r, nd, p, h => by
    rw [List.map_cons, List.nodup_cons] at nd
    rcases List.mem_cons.mp h with rfl | h
    · exact if_pos rfl
    · have := gTabs_mem nd.2 p h
      show (if p.1 = P then _ else _) = _
      rw [if_neg (fun z => nd.1 (List.mem_map.mpr ⟨p, h, z⟩))]; exact this
theorem gTabs_inv : ∀ {ts : List (Addr × Str)} {a : Addr} {m : MT}, gTabs ts a = some m → ∃ q, (a, q) ∈ ts ∧ m = .tab q
  | [], _, _, h => nomatch h
  | (P, q) :: r, a, m, h => by
    have h : (if a = P then some (.tab q) else gTabs r a) = some m := h
    by_cases z : a = P
    · subst z
      rw [if_pos rfl] at h
      cases h
      exact ⟨q, List.mem_cons_self, rfl⟩
    · rw [if_neg z] at h
      obtain ⟨q', h1, h2⟩ := gTabs_inv h
      exact ⟨q', List.mem_cons_of_mem _ h1, h2⟩
theorem tab_new {hd : Addr → Bool} {H : Hp} {P : Addr} {q : Str} (h : H P = some (.tbl #[])) : TabV hd H P q := ⟨#[], h, trivial, fun pos cv hc => by
  have z : PySem.codeAmong pos [] = some cv := hc
  simp [PySem.codeAmong] at z⟩
theorem nj_beginT {K : PySem.W.Frag} {a b l : Addr} {H : Hp} (n : Nat) {ts : List (Addr × Str)} (bx : Bx b l H) (ht : ∀ p ∈ ts, H p.1 = some (.tbl #[])) {N : L2.St → Hp → Prop} (h : ∀ hid, NJ (ct (XB K b l) (gTabs ts)) hid H N (.rw (.ref a) :: .rw (.ref b) :: List.replicate n .un)) : N (some (.ref a) :: some (.ref b) :: List.replicate n none) H := by
  have s := sd_begun (K := K) (a := a) n bx
  have tb : ∀ x, (gTabs ts x).isSome = true → H x = some (.tbl #[]) := fun x hx => by
    obtain ⟨m, hm⟩ := Option.isSome_iff_exists.mp hx
    obtain ⟨q, hq, _⟩ := gTabs_inv hm
    exact ht _ hq
  have nb : ∀ x, (gTabs ts x).isSome = true → muB b l x = false := fun x hx => by
    cases q : muB b l x with
    | false => rfl
    | true =>
      have h1 := tb x hx
      obtain ⟨s, ns, h2, h3⟩ := bx
      rcases muB_of q with rfl | rfl
      · rw [h2] at h1; cases h1
      · rw [h3] at h1; cases h1
  refine h (fun x => muB b l x || (gTabs ts x).isSome) (fun x => muB b l x || (gTabs ts x).isSome) H _ ⟨⟨fun x hx => ?_, fun x hx => hx, ⟨bx, fun x m hm => ⟨nb x (by rw [hm]; rfl), ?_⟩⟩, ?_⟩, fun x hx => hx, .refl, fun x h1 h2 => ?_, s.own, fun i o ho => ?_⟩
  · rcases Bool.or_eq_true_iff.mp hx with hx | hx
    · exact s.dom x hx
    · rw [tb x hx]; exact fun z => nomatch z
  · obtain ⟨q, hq, rfl⟩ := gTabs_inv hm
    exact tab_new (ht _ hq)
  · have sl := s.slots
    refine SlAll.of_get sl.len fun k x z h1 h2 => ?_
    obtain ⟨x', h3, h4⟩ := sl.get h2
    rw [h1] at h3
    cases h3
    match k, h2 with
    | 0, h2 =>
      cases h2
      cases x with
      | none => exact h4.elim
      | some v => exact h4
    | 1, h2 =>
      cases h2
      cases x with
      | none => exact h4.elim
      | some v => exact h4
    | k + 2, h2 =>
      have := List.mem_of_getElem? (l := List.replicate n Sl.un) (i := k) h2
      rw [List.eq_of_mem_replicate this]
      exact slok_un
  · rw [h1] at h2; cases h2
  · obtain ⟨_, z, h2, h3⟩ := ho
    match i, h2 with
    | 0, h2 => cases h2; cases h3
    | 1, h2 => cases h2; cases h3
    | i + 2, h2 =>
      have := List.mem_of_getElem? (l := List.replicate n Sl.un) (i := i) h2
      rw [List.eq_of_mem_replicate this] at h3
      cases h3
end CC
namespace CC
open PySem PySem.Spec PyProof.Rows L2
open LamX (CodeO TabS TabB lamEnv lamCx inv_table among_app codeO_ne)
open PySem.W (KeyPure)
end CC
namespace CC
open PySem PySem.Spec PyProof.Rows L2
open C8 (Cal pe_c pe_gc)
end CC
namespace CC
open PySem PySem.Spec PyProof.Rows L2
open C8 (Cal pe_c pe_gc)
end CC
namespace CC
open PySem PySem.Spec PyProof.Rows L2
open C8 (Cal pe_c pe_gc)
section
variable {K : PySem.W.Frag} {X : Cl K} {g : GT} {hid hd : Addr → Bool} {H0 H : Hp} {σ : L2.St} {ρ : List Sl} {te ta tb to td ty : TE} {tr : TA} {t u : TT} {D : Ends} {ts tz : TS} {gg : TG} {gs : TGs}
def ETR (X : Cl K) (g : GT) (t : TT) (ρ : List Sl) (Q : GT → Bool → Prop) : Prop := ∀ hd H σ, SV (ct X g) hd H σ ρ → ∀ Qh : Bool → Hp → Prop, (∀ g' b H', Q g' b → Go (WT X) g g' hd H H' → Qh b H') → t σ H Qh
theorem etr_B {Q : GT → Bool → Prop} (h : EVR X g te ρ fun g' r => ∃ b, r = .dat (.bl b) ∧ Q g' b) : ETR X g (tB te) ρ Q := fun hd H σ v Qh q => h hd H σ v _ fun g' r x H' hq st rv => by
  obtain ⟨b, rfl, hq⟩ := hq
  exact ⟨b, rp_bl rv, q g' b H' hq st⟩
theorem etr_not {Q : GT → Bool → Prop} (h : ETR X g t ρ fun g' b => Q g' (!b)) : ETR X g (tNot t) ρ Q := fun hd H σ v Qh q => h hd H σ v _ fun g' b H' hq st => q g' _ H' hq st
theorem etr_or {Q : GT → Bool → Prop} (h : ETR X g t ρ fun g1 a => (a = true → Q g1 true) ∧ (a = false → ETR X g1 u ρ Q)) : ETR X g (tOr t u) ρ Q := fun hd H σ v Qh q => h hd H σ v _ fun g1 b H1 hq st => by
  cases b with
  | true => exact q g1 true H1 (hq.1 rfl) st
  | false => exact hq.2 rfl _ H1 σ (v.step st) _ fun g2 b H2 hq2 st2 => q g2 b H2 hq2 (st.trans st2)
theorem njg_if {ts tu : TS} (h : ETR X g t ρ fun g1 b => Fr (WT X) g g1 H0 → (b = true → NJ (ct X g1) hid H0 (ts D) ρ) ∧ (b = false → NJ (ct X g1) hid H0 (tu D) ρ)) : NJ (ct X g) hid H0 (tIfS t ts tu D) ρ := fun hd H σ s => h hd H σ s.toSV _ fun g1 b H1 hq st => by
  obtain ⟨s1, f1⟩ := s.step st
  cases b with
  | true => exact (hq f1).1 rfl _ H1 σ s1
  | false => exact (hq f1).2 rfl _ H1 σ s1
theorem qg_when (h : ETR X g t ρ fun g1 b => Fr (WT X) g g1 H0 → (b = true → NJ (ct X g1) hid H0 (ts { D with nx := tz D }) ρ) ∧ (b = false → NJ (ct X g1) hid H0 (tz D) ρ)) : NJ (ct X g) hid H0 (tSeq (tIfS t ts tNext) tz D) ρ := njg_if (D := { D with nx := tz D }) h
theorem njg_when (h : ETR X g t ρ fun g1 b => Fr (WT X) g g1 H0 → (b = true → NJ (ct X g1) hid H0 (ts D) ρ) ∧ (b = false → NJ (ct X g1) hid H0 D.nx ρ)) : NJ (ct X g) hid H0 (tIfS t ts tNext D) ρ := njg_if h
theorem evr_callPG {S : List Dt → (Dt → Prop) → Prop} {E : XK} {Q : GT → RV → Prop} (A : Addr → Bool) (n : Nat) (h : EAG X g tr ρ fun g1 rs => ∃ ds, P2 (SeenA g1 A n) rs ds ∧ S ds fun d => scalar d = true ∧ Q g1 (.dat d)) : EVR X g (tCall (spP K S) [] E tr) ρ Q := fun hd H σ v Qh q => h hd H σ v _ fun g1 rs vs H1 hq st1 r1 => by
  obtain ⟨ds, hs, hS⟩ := hq
  have v1 := v.step st1
  rw [List.append_nil]
  refine ⟨unA (un hd ((WT X).mu g1)) A, ds, _, fun a ha => v1.dom a (unA_sub ha), p2_seen (seenA_rp v1.inv (fun a ha => unA_sub ha) (fun a ha => unA_of ha) n) r1 hs, hS, fun d x H2 hq e2 r2 => ?_⟩
  have go2 : Go (WT X) g1 g1 (un hd ((WT X).mu g1)) H1 H2 := Go.of v1.muh (e2.up (c := ct X g1)) ((ct X g1).keep0 e2 v1.inv)
  exact q g1 (.dat d) x H2 hq.2 (st1.trans go2) (rp_scalar hq.1 r2)
end
end CC
namespace CC
open PySem PySem.Spec PyProof.Rows L2
open C8 (Cal pe_c pe_gc)
end CC
namespace CC
open PySem PySem.Spec PyProof.Rows L2
open C8 (Cal pe_c pe_gc)
section
variable {K : PySem.W.Frag} {X : Cl K} {g : GT} {hid hd : Addr → Bool} {H0 H : Hp} {σ : L2.St} {ρ : List Sl} {te ta tb to td ty : TE} {tr : TA} {t u : TT} {D : Ends} {ts tz : TS}
theorem evr_opPG {r : R2} {Q : GT → RV → Prop} (A : Addr → Bool) (n : Nat) (h : EAG X g (tCons ta (tCons tb tNil)) ρ fun g1 rs => ∃ d1 d2, P2 (SeenA g1 A n) rs [d1, d2] ∧ R2J (Cn.pure K) r d1 d2 fun d => scalar d = true ∧ Q g1 (.dat d)) : EVR X g (tOp r ta tb) ρ Q := fun hd H σ v Qh q => by
  have := h hd H σ v (fun vs H1 => match vs with | [x, y] => r x y H1 Qh | _ => False) fun g1 rs vs H1 hq st1 r1 => by
    obtain ⟨d1, d2, hs, hS⟩ := hq
    have v1 := v.step st1
    have ra := p2_seen (seenA_rp v1.inv (fun a (ha : unA (un hd ((WT X).mu g1)) A a = true) => unA_sub ha) (fun a ha => unA_of ha) n) r1 hs
    cases ra with
    | cons ra rb =>
      cases rb with
      | cons rb rc =>
        cases rc
        refine hS (unA (un hd ((WT X).mu g1)) A) H1 _ _ (fun a ha => v1.dom a (unA_sub ha)) (fun a ha => nomatch ha) trivial ra rb Qh fun d x H2 hq e2 _ r2 => ?_
        have go2 : Go (WT X) g1 g1 (un hd ((WT X).mu g1)) H1 H2 := Go.of v1.muh (e2.up (c := ct X g1)) ((ct X g1).keep0 e2 v1.inv)
        exact q g1 (.dat d) x H2 hq.2 (st1.trans go2) (rp_scalar hq.1 r2)
  exact this
end
end CC
namespace CC
open PySem PySem.Spec PyProof.Rows L2
open C8 (Cal pe_c pe_gc)
open LamX (CodeO TabS TabB)
end CC
namespace CC
open PySem PySem.Spec PyProof.Rows L2
open C8 (Cal pe_c pe_gc)
end CC
namespace CC
open PySem PySem.Spec PyProof.Rows L2
def rIsA (K : PySem.W.Frag) (D a : Addr) (d : Option Addr) : List V → Hp → VK → Prop := fun xs H Q => ∃ (c : V) (cv : Value) (b : Bool), xs = [.ref a, c] ∧ (∀ u, RelV c u → u = cv) ∧ PySem.W.kitOne K (.ref D) cv = some b ∧ (∀ dd, d = some dd → ∃ fs, H dd = some (.xd fs)) ∧ Q (.bl b) H
theorem call_isA {X : Cx} {a D : Addr} {d : Option Addr} {oe : Obj} (C : ExcC X.K D) (hp : (a, oe) ∈ X.pn) (hz : Zc (.ref D) d oe) (hf : ∃ vs, oe.data = .fields vs) : CallR X (.builtin "isinstance") (rIsA X.K D a d) := by
  intro pins s σ H xs us Q I r h
  obtain ⟨c, cv, b, rfl, hcv, e, hdd, q⟩ := h
  obtain ⟨vs, hv⟩ := hf
  have hget := (I.pin (a, oe) (List.mem_append_left _ hp)).1
  have inst : ∃ od, PySem.W.InstAt s.heap a oe D od := by
    cases d with
    | none => exact ⟨none, hget, hz.1, by unfold PySem.W.notCls; rw [hv] <;> rfl, by rw [hz.2]; trivial⟩
    | some dd =>
      obtain ⟨fs, hx⟩ := hdd dd rfl
      obtain ⟨mA, hns, hr⟩ := show ObjOk X.prog X.w H s.heap dd (.xd fs) from I.hok dd _ hx
      obtain ⟨od, ho, hl⟩ := lookIn_ns hns
      exact ⟨some od, hget, hz.1, by unfold PySem.W.notCls; rw [hv] <;> rfl, by rw [hz.2]; exact ho⟩
  obtain ⟨od, inst⟩ := inst
  have hcl : (PySem.W.clsIn X.K D).isSome = true := by
    obtain ⟨cd, hc, _⟩ := PySem.W.any_some C.hd
    rw [hc]; rfl
  cases r with
  | cons rx rr =>
    cases rr with
    | cons rt rr =>
      cases rr
      cases rx
      cases hcv _ rt
      exact PySem.W.kia_one (PySem.W.kitx_exc hcl C.hg C.hk C.hs C.ha C.hn C.ht C.hm) I.kIn inst e (fun z => nomatch z) fun tk => ⟨.bl b, H, I.kept (t' := tk) fun _ _ z => z, rfl, q⟩
abbrev cnX (K : PySem.W.Frag) (d : Option Addr) (fs : List (Str × V)) : Cn := ⟨K, none0, fun hd H => ∀ dd, d = some dd → Hm hd H dd = some (.xd fs), fun _ _ H H' e _ h dd hd => by
  obtain ⟨o, e1, e2⟩ := e dd _ (h dd hd)
  rw [e2.plain rfl] at e1
  exact e1⟩
theorem ev_isA {K : PySem.W.Frag} {fs : List (Str × V)} {ρ : List Sl} {Q : Dt → Prop} {i : Nat} {a D : Addr} {d : Option Addr} {v : V} {cv : Value} {b : Bool} (hi : ρ[i]? = some (.rw (.ref a))) (hcv : ∀ u, RelV v u → u = cv) (hk : PySem.W.kitOne K (.ref D) cv = some b) (h : Q (.bl b)) :
    EV (cnX K d fs) (tCB (rIsA K D a d) (tCons (tVar i) (tCons (tC v) tNil))) ρ Q := fun hd H σ s Qh q =>
  ⟨.ref a, rw_get s.slots hi, v, cv, b, rfl, hcv, hk, fun dd e => ⟨fs, hm_le (s.inv dd e)⟩, q _ _ H h .refl s.inv (.bl b)⟩
theorem ev_place {K : PySem.W.Frag} {fs : List (Str × V)} {ρ : List Sl} {Q : Dt → Prop} {i : Nat} {a C dd : Addr} {j : Int} {f : Str} (hi : ρ[i]? = some (.rw (.ref a))) (T : XfC K C) (hno : PySem.W.findIn K (.ref C) f = some none) (hl : fs.lookup f = some (.int j)) (h : Q (.int j)) :
    EV (cnX K (some dd) fs) (tXfA K a (.ref C) (some dd) f (tVar i)) ρ Q := fun hd H σ s Qh q =>
  ⟨.ref a, rw_get s.slots hi, rfl, C, dd, fs, .int j, rfl, T, hno, rfl, hm_le (s.inv dd rfl), hl, q _ _ H h .refl s.inv (.int j)⟩
end CC
namespace CC
open PySem PySem.Spec PyProof.Rows L2
open C8 (Cal pe_c pe_gc)
section
variable {c : Cn} {K : PySem.W.Frag} {ρ : List Sl} {Q : Dt → Prop} {ds : List Dt} {E : XK}
def RZ (K : PySem.W.Frag) (E : XK) (R : Str → Option Int → Prop) (H0 : Hp) : Prop := ∀ nm pl, R nm pl → ∀ d H', Ex none0 H0 H' → (∀ dd, d = some dd → H0 dd = none) → Pl d pl H' → E (.ref (He.ga K nm)) d H'
variable {R : Str → Option Int → Prop} {H0 H1 : Hp} {hid : Addr → Bool} {D : Ends} {tz : TS}
theorem RZ.go (h : RZ K E R H0) (e : Ex none0 H0 H1) : RZ K E R H1 := fun nm pl hr d H' e' hf hp => h nm pl hr d H' (e.trans e') (fun dd hd => e.fresh (hf dd hd)) hp
end
end CC
namespace PySem
open Builtin
end PySem
namespace CC
open PySem PySem.Spec PyProof.Rows L2
end CC
namespace CC
open PySem PySem.Spec PyProof.Rows L2
open C8 (Cal pe_c pe_gc)
def spRY (K : PySem.W.Frag) (S : GT → List RV → (GT → RV → Prop) → (GT → Str → Option Int → Prop) → Prop) : Sp := fun vs H Qh E => ∃ (X : Cl K) (g : GT) (rs : List RV) (hid : Addr → Bool) (Q : GT → RV → Prop) (R : GT → Str → Option Int → Prop), (WT X).B g hid H ∧ (∀ a, (WT X).mu g a = true → hid a = true) ∧ (∀ a, hid a = true → H a ≠ none) ∧ P2 (RvOk K (Hm hid H)) vs rs ∧ S g rs Q R ∧
  (∀ g' r v H', Q g' r → Go (WT X) g g' hid H H' → RvOk K (Hm (un hid ((WT X).mu g')) H') v r → Qh v H') ∧
  ∀ g' nm pl, R g' nm pl → ∀ d H', Go (WT X) g g' hid H H' → (∀ dd, d = some dd → H dd = none ∧ un hid ((WT X).mu g') dd = false) → Pl d pl H' → E (.ref (He.ga K nm)) d H'
def RXR {K : PySem.W.Frag} (X : Cl K) (g : GT) (hid : Addr → Bool) (H0 : Hp) (E : XK) (nm : Str) (pl : Option Int) : Prop := ∀ d H', Ex ((WT X).mu g) H0 H' → (WT X).B g (un hid ((WT X).mu g)) H' → (∀ dd, d = some dd → H0 dd = none ∧ un hid ((WT X).mu g) dd = false) → Pl d pl H' → E (.ref (He.ga K nm)) d H'
section
variable {P : Program} {w : World} {K : PySem.W.Frag} {mg : Str → Option Value} {base : Heap}
theorem fn_ry {x qual : Str} {st : Stmt} {f : Addr} {fd : FuncData} {N ps : List Str} {k : Nat} {S : GT → List RV → (GT → RV → Prop) → (GT → Str → Option Int → Prop) → Prop} (F : Fun K x qual st f fd) (Sc : FnScope N ps (defScope st)) (len : ∀ g rs Q R, S g rs Q R → rs.length = ps.length)
    (hb : ∀ (cdv : Value) (A : Around) (outer : List Env) (s : Shared) (H : Hp) (E : XK), Room k (A.deeper (envOfC qual (defScope st) s.heap.objs.size f cdv)) →
      ∃ t, PSs (cxX P w K mg base N qual st f cdv A outer s H E) (defBody st) t ∧ ∀ (X : Cl K) g rs Q R, S g rs Q R → ∀ hid H0 (D : Ends), (∀ a, hid a = true → H0 a ≠ none) → RetR X g hid H0 Q D → (∀ g' nm pl, R g' nm pl → Fr (WT X) g g' H0 → RXR X g' hid H0 E nm pl) → NJ (ct X g) hid H0 (t D) (startR N rs)) :
    FnOk P w K mg base (L2.CX P w) (k + 1) f fd ps (spRY K S) := by
  refine F.okX Sc (fun vs H Q E h => ?_) (fun cdv A outer s H vs Q E hr h => ?_)
  · obtain ⟨X, g, rs, hid, Q', R, _, _, _, r, hS, _⟩ := h
    rw [r.len]
    exact len g rs Q' R hS
  · obtain ⟨X, g, rs, hid, Q', R, bb, mh, dom, r, hS, q, qx⟩ := h
    obtain ⟨t, ht, hn⟩ := hb cdv A outer s H E hr
    refine ⟨t, ht, hn X g rs Q' R hS hid H { nx := fun _ H' => Q .non H', rt := Q } dom ⟨fun g' d hd f v H' e b r => q g' d v H' hd ⟨f.ex e, b, f⟩ r, fun g' hd f ρ hd' H' σ sd => ?_⟩ (fun g' nm pl hR f d H' e b hf hp => qx g' nm pl hR d H' ⟨f.ex e, b, f⟩ hf hp) hid H _ (sd_startR (c := ct X g) dom mh bb r)⟩
    have sub : ∀ a, un hid ((WT X).mu g') a = true → hd' a = true := fun a h => by
      rcases un_of h with h | h
      · exact sd.sub a h
      · exact sd.muh a h
    exact q g' (.dat .non) .non H' hd ⟨f.ex sd.ext, ((WT X).cn g').unhide sub sd.inv, f⟩ .non
theorem cal_mry {C : Addr} {m qual : Str} {st : Stmt} {N ps : List Str} {k : Nat} {S : GT → List RV → (GT → RV → Prop) → (GT → Str → Option Int → Prop) → Prop} (A : MtAt K C m qual st ps) (Sc : FnScope N ps (defScope st)) (len : ∀ g rs Q R, S g rs Q R → rs.length = ps.length)
    (hb : ∀ (f : Addr) (cdv : Value) (A : Around) (outer : List Env) (s : Shared) (H : Hp) (E : XK), Room k (A.deeper (envOfC qual (defScope st) s.heap.objs.size f cdv)) →
      ∃ t, PSs (cxX P w K mg base N qual st f cdv A outer s H E) (defBody st) t ∧ ∀ (X : Cl K) g rs Q R, S g rs Q R → ∀ hid H0 (D : Ends), (∀ a, hid a = true → H0 a ≠ none) → RetR X g hid H0 Q D → (∀ g' nm pl, R g' nm pl → Fr (WT X) g g' H0 → RXR X g' hid H0 E nm pl) → NJ (ct X g) hid H0 (t D) (startR N rs)) :
    CalM P w K mg base (L2.CX P w) (k + 1) C m (spRY K S) := by
  obtain ⟨f, fd, hm, F, bi⟩ := A
  exact ⟨⟨f, fd, ps, fn_ry F Sc len (hb f), hm, bi⟩⟩
end
section
variable {K : PySem.W.Frag} {X : Cl K} {g g1 : GT} {hid hd : Addr → Bool} {H0 H H' : Hp} {σ : L2.St} {ρ : List Sl} {te ta tb to td ty : TE} {tr : TA} {t u : TT} {D : Ends} {ts tz : TS} {E : XK}
theorem sd_B (s : SD (ct X g) hid hd H0 H σ ρ) : (WT X).B g (un hid ((WT X).mu g)) H := ((WT X).cn g).unhide (fun a h => by
  rcases un_of h with h | h
  · exact s.sub a h
  · exact s.muh a h) s.inv
theorem nj_raiseNW {x : Str} (h : RXR X g hid H0 E x none) : NJ (ct X g) hid H0 (fun _ H => E (.ref (He.ga K x)) none H) ρ := fun hd H σ s => h none H s.ext (sd_B s) (fun _ z => nomatch z) trivial
def EVZ (X : Cl K) (g : GT) (hid : Addr → Bool) (H0 : Hp) (te : TE) (ρ : List Sl) (Q : GT → RV → Prop) : Prop := ∀ hd H σ, SD (ct X g) hid hd H0 H σ ρ → ∀ Qh : VK, (∀ g' r v H', Q g' r → Go (WT X) g g' hd H H' → RvOk K (Hm (un hd ((WT X).mu g')) H') v r → Qh v H') → te σ H Qh
theorem EVZ.imp {Q Q' : GT → RV → Prop} (h : EVZ X g hid H0 te ρ Q) (k : ∀ g' r, Q g' r → Q' g' r) : EVZ X g hid H0 te ρ Q' := fun hd H σ s Qh q => h hd H σ s Qh fun g' r v H' hq => q g' r v H' (k g' r hq)
theorem go_rx (s : SD (ct X g) hid hd H0 H σ ρ) (go : Go (WT X) g g1 hd H H') {nm : Str} {pl : Option Int} {d : Option Addr} (h : RXR X g1 hid H0 E nm pl) (hf : ∀ dd, d = some dd → H dd = none ∧ un hd ((WT X).mu g1) dd = false) (hp : Pl d pl H') : E (.ref (He.ga K nm)) d H' := by
  obtain ⟨s1, f1⟩ := s.step go
  have sub : ∀ a, un hid ((WT X).mu g1) a = true → un hd ((WT X).mu g1) a = true := fun a ha => by
    rcases un_of ha with ha | ha
    · exact un_l (s.sub a ha)
    · exact un_r ha
  refine h d H' s1.ext (((WT X).cn g1).unhide sub go.inv) (fun dd e => ⟨s.ext.fresh (hf dd e).1, ?_⟩) hp
  cases q : un hid ((WT X).mu g1) dd with
  | false => rfl
  | true =>
    have := (hf dd e).2
    rw [sub dd q] at this
    cases this
theorem evz_meth {C a dx : Addr} {m : Str} {fs : List (Str × RV)} {S : GT → List RV → (GT → RV → Prop) → (GT → Str → Option Int → Prop) → Prop} {Q : GT → RV → Prop} (hr : ERC (ct X g) to ρ (.ref a)) (ha : g a = some (.ins C dx fs)) (hm : fs.lookup m = none)
    (h : EAR (ct X g) tr ρ fun rs => ∃ R, S g (.ref a :: rs) Q R ∧ ∀ g' nm pl, R g' nm pl → Fr (WT X) g g' H0 → RXR X g' hid H0 E nm pl) : EVZ X g hid H0 (tMeth C m (spRY K S) [] E to tr) ρ Q := fun hd H σ s Qh q => hr hd H σ s.toSV _ (by
  obtain ⟨vs0, h1, h2⟩ := (s.inv.2 a _ ha).2
  refine ⟨a, dx, vs0, rfl, h1, h2.lookN hm, h hd H σ s.toSV _ fun rs vs H1 hq e1 b1 r1 => ?_⟩
  obtain ⟨R, hS, hR⟩ := hq
  have s1 := s.go e1 b1
  rw [List.append_nil]
  refine ⟨X, g, .ref a :: rs, hd, Q, R, s1.inv, s1.muh, s1.dom, .cons rfl r1, hS, fun g' r z H2 hq2 s2 r2 => q g' r z H2 hq2 ((Go.of s.muh e1 b1).trans ?_) r2, fun g' nm pl hr2 d H2 go hf hp => ?_⟩
  · rw [un_eq s.muh]; exact s2
  · exact go_rx s1 go (hR g' nm pl hr2 (go.fr.old s1.ext)) hf hp)
theorem evr_methN {C a dx : Addr} {m : Str} {fs : List (Str × RV)} {S : GT → List RV → (GT → RV → Prop) → (GT → Str → Option Int → Prop) → Prop} {Q : GT → RV → Prop} (hr : ERC (ct X g) to ρ (.ref a)) (ha : g a = some (.ins C dx fs)) (hm : fs.lookup m = none)
    (h : EAR (ct X g) tr ρ fun rs => S g (.ref a :: rs) Q fun _ _ _ => False) : EVR X g (tMeth C m (spRY K S) [] E to tr) ρ Q := fun hd H σ v Qh q => hr hd H σ v _ (by
  obtain ⟨vs0, h1, h2⟩ := (v.inv.2 a _ ha).2
  refine ⟨a, dx, vs0, rfl, h1, h2.lookN hm, h hd H σ v _ fun rs vs H1 hq e1 b1 r1 => ?_⟩
  have v1 := v.go e1 b1
  rw [List.append_nil]
  refine ⟨X, g, .ref a :: rs, hd, Q, _, v1.inv, v1.muh, v1.dom, .cons rfl r1, hq, fun g' r z H2 hq2 s2 r2 => q g' r z H2 hq2 ((Go.of v.muh e1 b1).trans ?_) r2, fun g' nm pl hr2 => hr2.elim⟩
  rw [un_eq v.muh]; exact s2)
theorem njz_drop (h : EVZ X g hid H0 te ρ fun g' _ => Fr (WT X) g g' H0 → NJ (ct X g') hid H0 D.nx ρ) : NJ (ct X g) hid H0 (tDrop te D) ρ := fun hd H σ s => h hd H σ s _ fun g' r v H' hq st rv => by
  obtain ⟨s1, f1⟩ := s.step st
  exact hq f1 _ _ σ s1
theorem qz_drop (h : EVZ X g hid H0 te ρ fun g' _ => Fr (WT X) g g' H0 → NJ (ct X g') hid H0 (tz D) ρ) : NJ (ct X g) hid H0 (tSeq (tDrop te) tz D) ρ := njz_drop (D := { D with nx := tz D }) h
end
end CC
namespace CC
open PySem PySem.Spec PyProof.Rows L2
open C8 (Cal pe_c pe_gc)
section
variable {K : PySem.W.Frag} {X : Cl K} {g g1 : GT} {hid hd : Addr → Bool} {H0 H H' : Hp} {σ : L2.St} {ρ : List Sl} {te ta tb to td ty : TE} {tr : TA} {t u : TT} {D : Ends} {ts tz : TS} {gg : TG}
theorem datsV_at {G : Hp} {vs : List V} {ds : List Dt} (r : P2 (RvOk K G) vs (dats ds)) {i : Nat} {d : Dt} (h : ds[i]? = some d) : ∃ v, vs[i]? = some v ∧ Rp K G v d := by
  obtain ⟨v, h1, h2⟩ := r.get (i := i) (b := .dat d) (by unfold dats; rw [List.getElem?_map, h]; rfl)
  exact ⟨v, h1, h2⟩
theorem njr_forZ (h : EAG X g tr ρ fun g1 rs => ∃ a b xs ys, ∃ I : Nat → GT → List Sl → Prop, rs = [.ref a, .ref b] ∧ g1 a = some (.lst (dats xs)) ∧ g1 b = some (.lst (dats ys)) ∧ (Fr (WT X) g g1 H0 → I 0 g1 ρ) ∧ (∀ i g' ρ', I i g' ρ' → g' a = some (.lst (dats xs)) ∧ g' b = some (.lst (dats ys))) ∧
      (∀ i x y g' ρ', xs[i]? = some x → ys[i]? = some y → I i g' ρ' → Fr (WT X) g g' H0 → TGJ (ct X g') hid H0 gg (.tup [x, y]) ρ' (ts { D with nx := NxM (WT X) g hid H0 (I (i + 1)), ct := NxM (WT X) g hid H0 (I (i + 1)), bk := D.nx })) ∧
      ∀ g' ρ', I (min xs.length ys.length) g' ρ' → Fr (WT X) g g' H0 → NJ (ct X g') hid H0 D.nx ρ') : NJ (ct X g) hid H0 (tFor (iZip K tr) gg ts D) ρ := fun hd H σ s => h hd H σ s.toSV _ fun g1 rs vs H1 hq st1 r1 => by
  obtain ⟨a, b, xs, ys, I, rfl, ga, gb, i0, keep, hs, he⟩ := hq
  obtain ⟨s1, f1⟩ := s.step st1
  cases r1 with
  | cons ra rb =>
    cases rb with
    | cons rb rc =>
      cases rc
      cases ra
      cases rb
      obtain ⟨va, ha1, ha2⟩ := (s1.inv.2 a _ ga).2
      obtain ⟨vb, hb1, hb2⟩ := (s1.inv.2 b _ gb).2
      refine ⟨a, b, va, vb, rfl, .inl (.inl ha1), .inl (.inl hb1), ?_⟩
      refine ⟨fun i m σ2 H2 => m = min xs.length ys.length - i ∧ i ≤ min xs.length ys.length ∧ ∃ g2 ρ2 hd2, I i g2 ρ2 ∧ Fr (WT X) g g2 H0 ∧ SD (ct X g2) hid hd2 H0 H2 σ2 ρ2, ⟨_, rfl, Nat.zero_le _, g1, ρ, _, i0 f1, f1, s1⟩, ?_⟩
      rintro i m σ2 H2 ⟨rfl, hi, g2, ρ2, hd2, hI, f2, s2⟩
      obtain ⟨ga2, gb2⟩ := keep i g2 ρ2 hI
      obtain ⟨va, ha1, ha2⟩ := (s2.inv.2 a _ ga2).2
      obtain ⟨vb, hb1, hb2⟩ := (s2.inv.2 b _ gb2).2
      have la : va.length = xs.length := by rw [ha2.len]; unfold dats; rw [List.length_map]
      have lb : vb.length = ys.length := by rw [hb2.len]; unfold dats; rw [List.length_map]
      by_cases hlt : i < min xs.length ys.length
      · have hx := List.getElem?_eq_getElem (show i < xs.length by omega)
        have hy := List.getElem?_eq_getElem (show i < ys.length by omega)
        obtain ⟨v, hv, rv⟩ := datsV_at ha2 hx
        obtain ⟨u, hu, ru⟩ := datsV_at hb2 hy
        refine .inr ⟨⟨va, vb, v, u, .inl (.inl ha1), .inl (.inl hb1), hv, hu⟩, NxM (WT X) g hid H0 (I (i + 1)), fun σ' H3 hN => ?_, fun x H3 hy3 => ?_⟩
        · obtain ⟨g3, ρ3, hd3, hI3, f3, s3⟩ := hN
          exact ⟨min xs.length ys.length - (i + 1), by omega, rfl, hlt, g3, ρ3, hd3, hI3, f3, s3⟩
        · obtain ⟨T, x', y', rfl, hT, rfl, y1, y2⟩ := hy3
          have hx' := y1 va (.inl (.inl ha1))
          rw [hv] at hx'
          cases hx'
          have hy' := y2 vb (.inl (.inl hb1))
          rw [hu] at hy'
          cases hy'
          have e3 : Ex none0 H2 (upd H2 T (.tup [v, u])) := .new hT
          have e3' : Ex ((WT X).mu g2) H2 (upd H2 T (.tup [v, u])) := e3.up (c := ct X g2)
          have s3 := s2.go e3' ((ct X g2).keep0 e3 s2.inv)
          have sm : Sees (Hm hd2 H2) (Hm hd2 (upd H2 T (.tup [v, u]))) := e3.sees fun _ h => nomatch h
          refine hs i _ _ g2 ρ2 hx hy hI f2 hd2 _ σ2 (.ref T) s3 (.tup (xs := [v, u]) (.inl (.inl ?_)) (.cons (rv.mono sm) (.cons (ru.mono sm) .nil)))
          rw [hm_of (fresh_hd s2.dom hT), upd_same]
      · refine .inl ⟨⟨va, vb, .inl (.inl ha1), .inl (.inl hb1), by omega⟩, he g2 ρ2 ?_ f2 hd2 H2 σ2 s2⟩
        have : i = min xs.length ys.length := by omega
        rw [← this]
        exact hI
theorem qr_forZ (h : EAG X g tr ρ fun g1 rs => ∃ a b xs ys, ∃ I : Nat → GT → List Sl → Prop, rs = [.ref a, .ref b] ∧ g1 a = some (.lst (dats xs)) ∧ g1 b = some (.lst (dats ys)) ∧ (Fr (WT X) g g1 H0 → I 0 g1 ρ) ∧ (∀ i g' ρ', I i g' ρ' → g' a = some (.lst (dats xs)) ∧ g' b = some (.lst (dats ys))) ∧
      (∀ i x y g' ρ', xs[i]? = some x → ys[i]? = some y → I i g' ρ' → Fr (WT X) g g' H0 → TGJ (ct X g') hid H0 gg (.tup [x, y]) ρ' (ts { D with nx := NxM (WT X) g hid H0 (I (i + 1)), ct := NxM (WT X) g hid H0 (I (i + 1)), bk := tz D })) ∧
      ∀ g' ρ', I (min xs.length ys.length) g' ρ' → Fr (WT X) g g' H0 → NJ (ct X g') hid H0 (tz D) ρ') : NJ (ct X g) hid H0 (tSeq (tFor (iZip K tr) gg ts) tz D) ρ := njr_forZ (D := { D with nx := tz D }) h
end
section
variable {c : Cn} {hid : Addr → Bool} {H0 : Hp} {ρ : List Sl} {N : L2.St → Hp → Prop}
def TGsC (c : Cn) (hid : Addr → Bool) (H0 : Hp) (gs : TGs) (ds : List Dt) (ρ : List Sl) (k : List Sl → Prop) : Prop := ∀ hd H σ vs, SD c hid hd H0 H σ ρ → RpAll c.K (Hm hd H) vs ds → ∀ N : L2.St → Hp → Prop, (∀ σ2 ρ2, k ρ2 → SD c hid hd H0 H σ2 ρ2 → N σ2 H) → gs vs σ H N
theorem tgsc_nil {k : List Sl → Prop} (h : k ρ) : TGsC c hid H0 gNil [] ρ k := fun hd H σ vs s r N q => by
  cases r
  exact ⟨rfl, q σ ρ h s⟩
theorem tgsc_name {j : Nat} {d : Dt} {ds : List Dt} {gs : TGs} {k : List Sl → Prop} (h : TGsC c hid H0 gs ds (ρ.set j (.im d)) k) : TGsC c hid H0 (gCons (gName j) gs) (d :: ds) ρ k := fun hd H σ vs s r N q => by
  cases r with
  | cons r1 r2 => exact ⟨_, _, rfl, h hd H _ _ (s.setIm r1) r2 N q⟩
theorem tgs_tup {n : Nat} {gs hs : TGs} {ds es : List Dt} (hn : ds.length = n) (h : TGsC c hid H0 gs ds ρ fun ρ' => TGsJ c hid H0 hs es ρ' N) : TGsJ c hid H0 (gCons (gTup c.K n gs) hs) (.tup ds :: es) ρ N := fun hd H σ vs s r => by
  cases r with
  | cons r1 r2 =>
    cases r1 with
    | tup q1 q2 => exact ⟨_, _, rfl, ⟨_, _, rfl, sqt_hm q1, by rw [q2.length]; exact hn, h hd H σ _ s q2 _ fun σ2 ρ2 hk s2 => hk hd H σ2 _ s2 r2⟩⟩
end
end CC
namespace CC
open PySem PySem.Spec PyProof.Rows L2
open C8 (Cal pe_c pe_gc)
section
variable {K : PySem.W.Frag} {X : Cl K} {g g1 : GT} {hid hd : Addr → Bool} {H0 H H' : Hp} {σ : L2.St} {ρ : List Sl} {te ta tb to td ty : TE} {tr : TA} {t u : TT} {D : Ends} {ts tz : TS} {gg : TG} {N : L2.St → Hp → Prop}
def TGsR (X : Cl K) (g : GT) (hid : Addr → Bool) (H0 : Hp) (gs : TGs) (rs : List RV) (ρ : List Sl) (N : L2.St → Hp → Prop) : Prop := ∀ hd H σ vs, SD (ct X g) hid hd H0 H σ ρ → P2 (RvOk K (Hm hd H)) vs rs → gs vs σ H N
theorem tgsr_nil (h : NJ (ct X g) hid H0 N ρ) : TGsR X g hid H0 gNil [] ρ N := fun hd H σ vs s r => by
  cases r
  exact ⟨rfl, h hd H σ s⟩
theorem tgsr_name {j : Nat} {r : RV} {rs : List RV} {gs : TGs} (h : TGsR X g hid H0 gs rs (ρ.set j (slR r)) N) : TGsR X g hid H0 (gCons (gName j) gs) (r :: rs) ρ N := fun hd H σ vs s rr => by
  cases rr with
  | cons r1 r2 => exact ⟨_, _, rfl, h hd H _ _ (s.setR r1) r2⟩
theorem njr_asgT (h : EVR X g te ρ fun g1 r => Fr (WT X) g g1 H0 → TGR X g1 hid H0 gg r ρ D.nx) : NJ (ct X g) hid H0 (tAsg te gg D) ρ := fun hd H σ s => h hd H σ s.toSV _ fun g1 r v H1 hq st rv => by
  obtain ⟨s1, f1⟩ := s.step st
  exact hq f1 _ _ _ _ s1 rv
theorem qr_asgT (h : EVR X g te ρ fun g1 r => Fr (WT X) g g1 H0 → TGR X g1 hid H0 gg r ρ (tz D)) : NJ (ct X g) hid H0 (tSeq (tAsg te gg) tz D) ρ := njr_asgT (D := { D with nx := tz D }) h
theorem evr_ixE {b : Addr} {rs : List RV} {Q : GT → RV → Prop} (h : ERC (ct X g) to ρ (.ref b)) (hb : g b = some (.lst rs)) (hk : EV (ct X g) tb ρ (IntJ fun k => ∃ r, atI rs k = some r ∧ Q g r)) : EVR X g (tOp (rIx K) to tb) ρ Q := fun hd H σ s Qh q => h hd H σ s _ (hk hd H σ s _ fun d2 y H2 h2 e2 b2 r2 => by
  cases d2 with
  | int k =>
    cases r2
    obtain ⟨r, hd1, hq⟩ := h2
    obtain ⟨vs, h1, h3⟩ := (b2.2 b _ hb).2
    obtain ⟨v, hv, rv⟩ := atI_P2 h3 hd1
    have go : Go (WT X) g g hd H H2 := Go.of s.muh e2 b2
    refine rix_ac b vs k v H2 Qh h1 hv (q g r v H2 hq go ?_)
    rw [un_eq s.muh]
    exact rv
  | _ => exact h2.elim)
theorem abs_rest {s1 : TS} (I : GT → List Sl → Prop) (h : ∀ g' ρ', I g' ρ' → Fr (WT X) g g' H0 → NJ (ct X g') hid H0 (tz D) ρ') (P : ∀ N : L2.St → Hp → Prop, (∀ g' ρ', I g' ρ' → Fr (WT X) g g' H0 → NJ (ct X g') hid H0 N ρ') → NJ (ct X g) hid H0 (tSeq s1 (fun _ => N) D) ρ) : NJ (ct X g) hid H0 (tSeq s1 tz D) ρ := P (tz D) h
end
end CC
namespace CC
open PySem PySem.Spec PyProof.Rows L2
open C8 (Cal pe_c pe_gc)
def tMethW (C : Addr) (m : Str) (sp : Sp) (E : L2.St → XK) (ta : TE) (t : TA) : TE := fun σ H Q => ta σ H fun x H1 => ∃ a dx fs, x = .ref a ∧ H1 a = some (.ins C dx fs) ∧ fs.lookup m = none ∧ t σ H1 fun vs H2 => sp (x :: vs) H2 Q (E σ)
section
variable {X : Cx} {CX : CXT} {k j : Nat} {f C : Addr} {fd : FuncData} {ps : List Str} {sp : Sp} {x m : Str} {p pos apos : Pos} {e o : Expr} {es : List Expr} {ta : TE} {t : TA} {W : WX} {pl : Sem Bool}
theorem pe_mtW (c : CalM X.prog X.w X.K X.mg X.base (L2.CX X.prog X.w) k C m sp) (hr : Room j X.A) (hk : k ≤ j) (cl : Cls X.K C) (tk : Takes X W) (he : PE X o ta) (ha : PA X (e :: es) t)
    (hst : starEach (e :: es) X.env = (false, eval e X.env) :: starEach es X.env := by rfl) (hpl : (backTo pos (starEach es X.env)).any (·.1) = false := by rfl)
    (ht : eval (.Call (.Attribute o m apos) (e :: es) [] pos) X.env = (do
      let ov ← eval o X.env
      standAt apos.atName
      let (f, first) ← holding [ov] (getMethod ov m pl)
      callWith pos f first (backTo pos (starEach (e :: es) X.env)) (backToKw pos (keywordEach [] X.env))) := by rfl) :
    PE X (.Call (.Attribute o m apos) (e :: es) [] pos) (tMethW C m sp (WE W) ta t) := by
  obtain ⟨f, fd, ps, F, hm, hb⟩ := c.ex
  refine ⟨fun pins s σ H Q I h => ?_⟩
  refine PySem.W.methodCall_KW (pl := pl) (thn (he.run pins s σ H _ I h) fun u s1 ⟨x, H1, I1, rx, a, dx, fs, ex, ea, l, q⟩ => ?_) ht
  subst ex
  obtain rfl : u = Value.ref a := rx
  refine getmeth_ok I1 ea cl hm l ?_
  refine PySem.W.callWith_K (first := [.ref a]) (h₀ := X.base) I.ok.mod.kin hm.kp (thn (ha.run pos pins s1 σ H1 _ I1 q) fun us s2 ⟨vs, H2, I2, r, q2⟩ => ⟨I2.kIn, ?_⟩) hst hpl
  exact run_fnS (E := WE W) (us := .ref a :: us) (vs := .ref a :: vs) F (hr.mono hk) hb (passAt tk σ) I2 (.cons rfl r) q2
theorem pe_mtW0 (c : CalM X.prog X.w X.K X.mg X.base (L2.CX X.prog X.w) k C m sp) (hr : Room j X.A) (hk : k ≤ j) (cl : Cls X.K C) (tk : Takes X W) (he : PE X o ta)
    (ht : eval (.Call (.Attribute o m apos) [] [] pos) X.env = (do
      let ov ← eval o X.env
      standAt apos.atName
      let (f, first) ← holding [ov] (getMethod ov m pl)
      callWith pos f first (backTo pos (starEach [] X.env)) (backToKw pos (keywordEach [] X.env))) := by rfl) :
    PE X (.Call (.Attribute o m apos) [] [] pos) (tMethW C m sp (WE W) ta tNil) := by
  obtain ⟨f, fd, ps, F, hm, hb⟩ := c.ex
  refine ⟨fun pins s σ H Q I h => ?_⟩
  refine PySem.W.methodCall_KW (pl := pl) (thn (he.run pins s σ H _ I h) fun u s1 ⟨x, H1, I1, rx, a, dx, fs, ex, ea, l, q⟩ => ?_) ht
  subst ex
  obtain rfl : u = Value.ref a := rx
  refine getmeth_ok I1 ea cl hm l ?_
  exact PySem.W.callWith_K0 (first := [.ref a]) I1.kIn hm.kp (run_fnS (E := WE W) (us := [.ref a]) (vs := [.ref a]) F (hr.mono hk) hb (passAt tk σ) I1 (.cons rfl .nil) q)
end
section
variable {K : PySem.W.Frag} {X : Cl K} {g g1 : GT} {hid hd : Addr → Bool} {H0 H H' : Hp} {σ : L2.St} {ρ : List Sl} {te ta tb to td ty : TE} {tr : TA} {t u : TT} {D : Ends} {ts tz : TS} {E : XK} {W : WX}
theorem RXR.from {nm : Str} {pl : Option Int} {H1 : Hp} (h : RXR X g1 hid H0 E nm pl) (f : Fr (WT X) g g1 H1) (e : Ex ((WT X).mu g) H0 H1) : RXR X g1 hid H1 E nm pl := fun d H' e1 b hf hp => h d H' ((e.weak f.up).trans e1) b (fun dd z => ⟨e.fresh (hf dd z).1, (hf dd z).2⟩) hp
abbrev SY : Type := GT → List RV → (GT → RV → Prop) → (GT → Str → Option Int → Prop) → Prop
end
end CC
namespace CC
open PySem PySem.Spec PyProof.Rows L2
open C8 (Cal pe_c pe_gc)
end CC
namespace CC
open PySem PySem.Spec PyProof.Rows L2
open C8 (Cal pe_c pe_gc)
section
variable {K : PySem.W.Frag} {X : Cl K} {g g' : GT} {hid hd : Addr → Bool} {H0 H H' H1 H2 : Hp} {σ : L2.St} {ρ : List Sl} {te tk tv : TE} {L : Addr}
theorem nmu_of {o0 : HO} (v1 : SV (ct X g) hd H1 σ ρ) (hL : H1 L = none) (go : Go (WT X) g g' (hide hd L) (upd H1 L o0) H2) : (WT X).mu g L = false ∧ (WT X).mu g' L = false := by
  have nmu : (WT X).mu g L = false := by
    cases q : (WT X).mu g L with
    | false => rfl
    | true => exact absurd hL (v1.dom L (v1.muh L q))
  refine ⟨nmu, ?_⟩
  cases q : (WT X).mu g' L with
  | false => rfl
  | true =>
    rcases go.fr.new L q with z | z
    · rw [nmu] at z; cases z
    · rw [upd_same] at z; cases z
theorem go_fin {m : MT} {o0 : HO} (v1 : SV (ct X g) hd H1 σ ρ) (hL : H1 L = none) (go : Go (WT X) g g' (hide hd L) (upd H1 L o0) H2) (hm : MTk K (un (hide hd L) ((WT X).mu g')) H2 L m) : Go (WT X) g (setG g' L m) hd H1 H2 ∧ g' L = none := by
  obtain ⟨nmu, nm⟩ := nmu_of v1 hL go
  have gL : g' L = none := by
    cases z : g' L with
    | none => rfl
    | some u => rw [muT (X := X) z] at nm; cases nm
  have xL : X.mu L = false := by
    have : (X.mu L || (g' L).isSome) = false := nm
    exact (Bool.or_eq_false_iff.mp this).1
  have eun : un hd ((WT X).mu (setG g' L m)) = un (hide hd L) ((WT X).mu g') := by
    funext a
    have : ∀ a, (un hd ((WT X).mu (setG g' L m)) a = true) ↔ (un (hide hd L) ((WT X).mu g') a = true) := fun a => by
      constructor
      · intro h
        rcases un_of h with h | h
        · exact un_l (hide_of h)
        · by_cases q : a = L
          · subst q; exact un_l hide_self
          · refine un_r ?_
            have h : (X.mu a || (setG g' L m a).isSome) = true := h
            rw [setG_ne q] at h
            exact h
      · intro h
        rcases un_of h with h | h
        · rcases hide_inv h with h | rfl
          · exact un_l h
          · exact un_r (muT (X := X) setG_same)
        · refine un_r ?_
          by_cases q : a = L
          · subst q; exact muT (X := X) setG_same
          · show (X.mu a || (setG g' L m a).isSome) = true
            rw [setG_ne q]; exact h
    have := this a
    cases h1 : un hd ((WT X).mu (setG g' L m)) a <;> cases h2 : un (hide hd L) ((WT X).mu g') a <;> simp_all
  refine ⟨⟨⟨fun a u hm h => go.ex.keep a u hm (by rw [upd_ne (fun z => by subst z; rw [hL] at h; cases h)]; exact h), fun a h => go.ex.dom a (upd_dom h)⟩, ?_, ⟨fun a h => ?_, fun a h => ?_⟩⟩, gL⟩
  · rw [eun]
    refine ⟨go.inv.1, fun a m' hm' => ?_⟩
    by_cases q : a = L
    · subst q
      rw [setG_same] at hm'
      cases hm'
      exact ⟨xL, hm⟩
    · rw [setG_ne q] at hm'
      exact go.inv.2 a m' hm'
  · show (X.mu a || (setG g' L m a).isSome) = true
    by_cases q : a = L
    · subst q; rw [setG_same]; exact Bool.or_true _
    · rw [setG_ne q]; exact go.fr.up a h
  · by_cases q : a = L
    · subst q; exact .inr hL
    · have h : (X.mu a || (setG g' L m a).isSome) = true := h
      rw [setG_ne q] at h
      rcases go.fr.new a h with h | h
      · exact .inl h
      · rw [upd_ne q] at h; exact .inr h
def EVPG (X : Cl K) (g : GT) (trs : List (TE × TE)) (ρ : List Sl) (Q : GT → List (Key × RV) → Prop) : Prop := ∀ hd H σ, SV (ct X g) hd H σ ρ → ∀ Qh : List (V × V) → Hp → Prop, (∀ g' ds kvs H', Q g' ds → Go (WT X) g g' hd H H' → P2 (RvF K (Hm (un hd ((WT X).mu g')) H') Key) kvs ds → Qh (kvs.map fun kv => (kV kv.1, kv.2)) H') → tPairs trs σ H Qh
theorem evpg_nil {Q : GT → List (Key × RV) → Prop} (h : Q g []) : EVPG X g [] ρ Q := fun hd H σ v Qh q => q g [] [] H h (Go.of v.muh .refl v.inv) .nil
theorem evpg_cons {trs : List (TE × TE)} {Q : GT → List (Key × RV) → Prop} (h : EV (ct X g) tk ρ (KeyJ fun k => EVR X g tv ρ fun g1 r => EVPG X g1 trs ρ fun g2 ds => Q g2 ((k, r) :: ds))) : EVPG X g ((tk, tv) :: trs) ρ Q := fun hd H σ v Qh q => h hd H σ v _ fun d x H1 h1 e1 b1 r1 => by
  obtain ⟨k, rfl, h2⟩ := rp_key h1 r1
  refine h2 hd H1 σ (v.go e1 b1) _ fun g1 r y H2 h3 st1 ry => ?_
  have v2 := (v.go e1 b1).step st1
  have st0 : Go (WT X) g g1 hd H H2 := (Go.of v.muh e1 b1).trans (by rw [un_eq v.muh]; exact st1)
  refine h3 _ H2 σ v2 _ fun g2 ds kvs H3 h4 st2 rv => ?_
  have st := st0.trans st2
  have e3 := ry.mono (st2.sees fun a ha => un_r ha)
  have s0 : ∀ a, un hd ((WT X).mu g2) a = true → un (un hd ((WT X).mu g1)) ((WT X).mu g2) a = true := fun a ha => by
    rcases un_of ha with ha | ha
    · exact un_l (un_l ha)
    · exact un_r ha
  exact q g2 ((k, r) :: ds) ((k, y) :: kvs) H3 h4 st (.cons ⟨rfl, e3.hide s0⟩ (rv.imp fun _ _ z => ⟨z.1, z.2.hide s0⟩))
theorem rvf_keys {G : Hp} : ∀ {kvs : List (Key × V)} {ds : List (Key × RV)}, P2 (RvF K G Key) kvs ds → kvs.map (·.1) = ds.map (·.1)
  | _, _, .nil => rfl
  | _, _, .cons h t => by rw [List.map_cons, List.map_cons, h.1, rvf_keys t]
theorem evr_dispG {trs : List (TE × TE)} {Q : GT → RV → Prop} (h : EVPG X g trs ρ fun g' ds => ds.length ≤ 15 ∧ (ds.map (·.1)).Nodup ∧ ∀ o, g' o = none → Q (setG g' o (.dk ds)) (.ref o)) : EVR X g (tDisp trs) ρ Q := fun hd H σ s Qh q p hp => by
  have sv : SV (ct X g) (hide hd p) (upd H p (.dK [])) σ ρ := s.hide (.new hp) ((ct X g).keepN (.new hp) hp s.inv) hp (by rw [upd_same]; exact fun z => nomatch z)
  refine h (hide hd p) _ σ sv _ fun g' ds kvs H2 hq go r => ?_
  obtain ⟨hl, hn, hq⟩ := hq
  obtain ⟨nmu, nm⟩ := nmu_of s hp go
  have hk : H2 p = some (.dK []) := go.ex.keep p _ nmu upd_same
  have hlen : kvs.length = ds.length := r.len
  refine ⟨hk, kvs, rfl, by omega, ?_⟩
  rw [merge_new kvs [] (by rw [List.nil_append, rvf_keys r]; exact hn), List.nil_append]
  have go2 := go_upd (o := .dK kvs) go hide_self nm hk rfl (by rw [upd_same]; exact fun z => nomatch z)
  have e : upd (upd H p (.dK [])) p (.dK kvs) = upd H p (.dK kvs) := by
    funext a
    by_cases q : a = p
    · subst q; rw [upd_same, upd_same]
    · rw [upd_ne q, upd_ne q, upd_ne q]
  rw [e] at go2
  have hr : P2 (RvF K (Hm (un (hide hd p) ((WT X).mu g')) (upd H2 p (.dK kvs))) Key) kvs ds := by
    rw [hm_upd (un_l hide_self)]
    exact r
  obtain ⟨go3, gL⟩ := go_fin (m := .dk ds) s hp go2 ⟨kvs, upd_same, hr⟩
  exact q _ _ _ _ (hq p gL) go3 rfl
end
end CC
namespace CC
open PySem PySem.Spec PyProof.Rows L2
open C8 (Cal pe_c pe_gc)
end CC
namespace CC
open PySem PySem.Spec PyProof.Rows L2
open C8 (Cal pe_c pe_gc)
section
variable {K : PySem.W.Frag} {X : Cl K} {g g1 : GT} {hid hd : Addr → Bool} {H0 H H' : Hp} {σ : L2.St} {ρ : List Sl} {te ta tb to td ty : TE} {tr : TA} {t u : TT} {D : Ends} {ts tz : TS} {E : XK} {W : WX}
theorem evr_ifG {Q : GT → RV → Prop} (h : ETR X g t ρ fun g1 b => (b = true → EVR X g1 ta ρ Q) ∧ (b = false → EVR X g1 tb ρ Q)) : EVR X g (tIf t ta tb) ρ Q := fun hd H σ v Qh q => h hd H σ v _ fun g1 b H1 hq st => by
  have k : ∀ g' r x H', Q g' r → Go (WT X) g1 g' (un hd ((WT X).mu g1)) H1 H' → RvOk K (Hm (un (un hd ((WT X).mu g1)) ((WT X).mu g')) H') x r → Qh x H' := fun g' r x H' hq2 s2 r2 => q g' r x H' hq2 (st.trans s2) (r2.hide fun a ha => by
    rcases un_of ha with ha | ha
    · exact un_l (un_l ha)
    · exact un_r ha)
  cases b with
  | true => exact hq.1 rfl _ H1 σ (v.step st) Qh k
  | false => exact hq.2 rfl _ H1 σ (v.step st) Qh k
end
end CC
namespace CC
open PySem PySem.Spec PyProof.Rows L2
open C8 (Cal pe_c pe_gc)
open LamX (CodeO TabS TabB)
section
variable {K : PySem.W.Frag} {X : Cl K} {g g1 : GT} {hd : Addr → Bool} {H H' : Hp} {σ : L2.St} {ρ : List Sl} {names : List Str}
theorem Go.back (mh : ∀ a, (WT X).mu g a = true → hd a = true) (k : ∀ y u, g y = some u → g1 y = some u) (go : Go (WT X) g g1 hd H H') : Go (WT X) g g hd H H' := by
  have b := ((WT X).cn g1).unhide (fun a ha => un_l ha) go.inv (hd := hd)
  refine ⟨go.ex, ?_, .refl⟩
  rw [un_eq mh]
  exact ⟨b.1, fun a m hm => b.2 a m (k a m hm)⟩
def TWd (X : Cl K) (g : GT) (ρ : List Sl) (names : List Str) (t : XK → TE) (Q : GT → RV → Prop) : Prop := ∀ hd H σ, SV (ct X g) hd H σ ρ → ∀ (Qh : VK) (W : XK),
  (∀ g' r v H', Q g' r → Go (WT X) g g' hd H H' → RvOk K (Hm (un hd ((WT X).mu g')) H') v r → Qh v H') → (∀ cls d H', Ew K names Qh cls d H' → W cls d H') → t W σ H Qh
abbrev refD (nm : Str) (pl : Option Int) : Dt := .tup [.str nm, .int (pl.getD 0)]
theorem spry_tw {S : SY} {Q : GT → RV → Prop} {R : GT → Str → Option Int → Prop} {rs : List RV} {vs : List V} {Qh : VK} {W : XK} (v : SV (ct X g) hd H σ ρ) (go : Go (WT X) g g1 hd H H') (r1 : P2 (RvOk K (Hm (un hd ((WT X).mu g1)) H')) vs rs) (hS : S g1 rs Q R)
    (hR : ∀ g' nm pl, R g' nm pl → nm ∈ names ∧ placed nm = pl.isSome ∧ Q g' (.dat (refD nm pl)))
    (q : ∀ g' r v H', Q g' r → Go (WT X) g g' hd H H' → RvOk K (Hm (un hd ((WT X).mu g')) H') v r → Qh v H') (hW : ∀ cls d H', Ew K names Qh cls d H' → W cls d H') : spRY K S vs H' Qh W := by
  have v1 := v.step go
  have sub : ∀ {g' : GT} (a : Addr), un hd ((WT X).mu g') a = true → un (un hd ((WT X).mu g1)) ((WT X).mu g') a = true := fun a ha => by
    rcases un_of ha with ha | ha
    · exact un_l (un_l ha)
    · exact un_r ha
  refine ⟨X, g1, rs, _, Q, R, v1.inv, v1.muh, v1.dom, r1, hS, fun g' r z H2 hq2 s2 r2 => q g' r z H2 hq2 (go.trans s2) (r2.hide sub), fun g' nm pl hr2 d H2 go2 hf hp => ?_⟩
  obtain ⟨m1, m2, hq⟩ := hR g' nm pl hr2
  have v2 := v1.step go2
  have go3 := go.trans go2
  refine hW _ _ _ ⟨nm, pl, _, m1, m2, rfl, hp, v2.dom, fun dd e => (hf dd e).2, fun H3 z e3 r3 => ?_⟩
  have go4 : Go (WT X) g g' hd H H3 := ⟨go3.ex.trans ((e3.up (c := ct X g))), ((ct X g').keep0 e3 go3.inv), go3.fr⟩
  exact q g' _ z H3 hq go4 (RvOk.hide (r := .dat (refD nm pl)) sub r3)
theorem twd_methW {C a dx : Addr} {m : Str} {fs : List (Str × RV)} {S : SY} {Q : GT → RV → Prop} {to : TE} {tr : TA} (hr : ERC (ct X g) to ρ (.ref a)) (ha : g a = some (.ins C dx fs)) (hm : fs.lookup m = none)
    (h : EAG X g tr ρ fun g1 rs => ∃ R, S g1 (.ref a :: rs) Q R ∧ ∀ g' nm pl, R g' nm pl → nm ∈ names ∧ placed nm = pl.isSome ∧ Q g' (.dat (refD nm pl))) : TWd X g ρ names (fun E => tMethW C m (spRY K S) (fun _ => E) to tr) Q := fun hd H σ v Qh W q hW => hr hd H σ v _ (by
  obtain ⟨vs0, h1, h2⟩ := (v.inv.2 a _ ha).2
  refine ⟨a, dx, vs0, rfl, h1, h2.lookN hm, h hd H σ v _ fun g1 rs vs H1 hq st1 r1 => ?_⟩
  obtain ⟨R, hS, hR⟩ := hq
  exact spry_tw (rs := .ref a :: rs) v st1 (.cons rfl r1) hS hR q hW)
theorem ev_lamW {XC : Cx} {P : Addr} {q : Str} {k : Nat} {t : XK → TE} {Q : Dt → Prop} (hP : g P = some (.tab q)) (h : ∀ f L, IsLam XC k t f L → Q (.xo f L)) : EV (ct X g) (tLamM XC P q k t) ρ Q := fun hd H σ v Qh kk => ⟨hd, v.dom, (v.inv.2 P _ hP).2, fun f L H3 il e3 T3 hL => by
  obtain ⟨e4, b3, sm⟩ := wt_tab v.muh v.inv hP e3 T3
  exact kk _ _ H3 (h f L il) e4 b3 (.xo hL)⟩
theorem evr_toldW {XC : Cx} {k : Nat} {ta : TA} {Q : GT → RV → Prop} (hK : XC.K = K) (h : EVA (ct X g) ta ρ fun ds => ∃ t f L, ds = [.xo f L] ∧ IsLam XC k t f L ∧ TWd X g ρ names t Q) : EVR X g (tBig XC (spT XC.prog XC.w K XC.mg names (k + 1)) ta) ρ Q := fun hd H σ v Qh kq => h hd H σ v _ fun ds vs H1 h1 e1 b1 r1 pins s I => by
  obtain ⟨t, f, L, rfl, il, tw⟩ := h1
  subst hK
  have v1 := v.go e1 b1
  obtain ⟨x, rfl, rx⟩ := rp1 r1
  cases rx with
  | xo hL =>
    refine ⟨f, _, rfl, il pins σ H1 s I, fun W hW => ⟨fun p hp => hm_le (hL p hp).2, tw hd H1 σ v1 Qh W (fun g' r z H' hq go rv => kq g' r z H' hq ?_ rv) hW⟩⟩
    have := (Go.of (W := WT X) v.muh e1 b1).trans (by rw [un_eq v.muh]; exact go)
    exact this
end
end CC
namespace CC
open PySem PySem.Spec PyProof.Rows L2
open C8 (Cal pe_c pe_gc)
end CC
namespace CC
open PySem PySem.Spec PyProof.Rows L2
open C8 (Cal pe_c pe_gc)
section
variable {P : Program} {w : World} {K : PySem.W.Frag} {mg : Str → Option Value} {base : Heap}
theorem cal_rBC {x : Str} {st : Stmt} {N ps : List Str} {k : Nat} {c : Addr} {S : GT → List RV → (GT → RV → Prop) → Prop} (F : FnAtC K mg x st ps c) (Sc : FnScope N ps (defScope st)) (len : ∀ g rs Q, S g rs Q → rs.length + 1 = ps.length)
    (hb : ∀ (f : Addr) (A : Around) (outer : List Env) (s : Shared) (H : Hp) (E : XK), Room k (A.deeper (envOfC x (defScope st) s.heap.objs.size f (.ref c))) →
      ∃ t, PSs (cxD P w K mg base N x st f (.ref c) A outer s H E) (defBody st) t ∧ ∀ b l g rs Q, b ≠ l → S g rs Q → ∀ hid H0 (D : Ends), (∀ a, hid a = true → H0 a ≠ none) → RetR (XB K b l) g hid H0 Q D → NJ (ct (XB K b l) g) hid H0 (t D) (startR N (.ref b :: rs))) :
    Cal P w K mg base (k + 1) x (spRB K S) [] := by
  obtain ⟨f, fd, hm, F, bi, hc⟩ := F
  refine ⟨⟨f, fd, ps, [], Fun.okC F Sc (fun vs H Q E h => ?_) (fun A outer s H vs Q E hr h => ?_), hm, F.kp, bi, .nil⟩⟩
  · obtain ⟨b, l, g, rs, hid, Q', _, _, _, _, r, hS, _⟩ := h
    rw [r.len, List.length_cons]
    exact len g rs Q' hS
  · rw [hc] at hr ⊢
    obtain ⟨b, l, g, rs, hid, Q', hne, bb, mh, dom, r, hS, q⟩ := h
    obtain ⟨t, ht, hn⟩ := hb f A outer s H E hr
    refine ⟨t, ht, hn b l g rs Q' hne hS hid H { nx := fun _ H' => Q .non H', rt := Q } dom ⟨fun g' d hd f v H' e b r => q g' d v H' hd ⟨f.ex e, b, f⟩ r, fun g' hd f ρ hd' H' σ sd => ?_⟩ hid H _ (sd_startR (c := ct (XB K b l) g) dom mh bb r)⟩
    have sub : ∀ a, un hid ((WT (XB K b l)).mu g') a = true → hd' a = true := fun a h => by
      rcases un_of h with h | h
      · exact sd.sub a h
      · exact sd.muh a h
    exact q g' (.dat .non) .non H' hd ⟨f.ex sd.ext, ((WT (XB K b l)).cn g').unhide sub sd.inv, f⟩ .non
end
end CC
namespace CC
open PySem PySem.Spec PyProof.Rows L2
open C8 (Cal pe_c pe_gc)
theorem sc_weight_of : FnScope ["what", "part"] ["what"] (defScope s_weight_of) := ⟨rfl, rfl, rfl, by decide +kernel, rfl, by decide +kernel, by decide +kernel⟩
theorem sc__law_begun : FnScope ["_law_script", "_law_stirred", "_law_cell"] ["_law_script"] (defScope s__law_begun) := ⟨rfl, rfl, rfl, by decide +kernel, rfl, by decide +kernel, by decide +kernel⟩
theorem sc__law_take : FnScope ["_law_box", "_law_many", "_law_number"] ["_law_box", "_law_many"] (defScope s__law_take) := ⟨rfl, rfl, rfl, by decide +kernel, rfl, by decide +kernel, by decide +kernel⟩
theorem sc__law_alike : FnScope ["_law_found", "_law_due", "_law_k"] ["_law_found", "_law_due"] (defScope s__law_alike) := ⟨rfl, rfl, rfl, by decide +kernel, rfl, by decide +kernel, by decide +kernel⟩
theorem sc__law_class : FnScope ["_law_e", "_law_kinds", "_law_words"] ["_law_e"] (defScope s__law_class) := ⟨rfl, rfl, rfl, by decide +kernel, rfl, by decide +kernel, by decide +kernel⟩
theorem sc__law_told : FnScope ["_law_work", "_law_e", "_law_word"] ["_law_work"] (defScope s__law_told) := ⟨rfl, rfl, rfl, by decide +kernel, rfl, by decide +kernel, by decide +kernel⟩
theorem sc__law_nest : FnScope ["_law_box", "_law_parts", "_law_deep", "_law_at"] ["_law_box", "_law_parts", "_law_deep"] (defScope s__law_nest) := ⟨rfl, rfl, rfl, by decide +kernel, rfl, by decide +kernel, by decide +kernel⟩
theorem sc__law_what : FnScope ["_law_box", "_law_way", "_law_some", "_law_parts", "_law_k"] ["_law_box"] (defScope s__law_what) := ⟨rfl, rfl, rfl, by decide +kernel, rfl, by decide +kernel, by decide +kernel⟩
theorem sc__law_weight : FnScope ["_law_what_here", "_law_one"] ["_law_what_here"] (defScope s__law_weight) := ⟨rfl, rfl, rfl, by decide +kernel, rfl, by decide +kernel, by decide +kernel⟩
theorem sc__law_made : FnScope [] [] (defScope s__law_made) := ⟨rfl, rfl, rfl, by decide +kernel, rfl, by decide +kernel, by decide +kernel⟩
theorem sc__law_fall : FnScope ["_law_own", "_law_picks", "_law_k", "_law_block", "_law_what_here"] ["_law_own", "_law_picks"] (defScope s__law_fall) := ⟨rfl, rfl, rfl, by decide +kernel, rfl, by decide +kernel, by decide +kernel⟩
theorem sc__law_count : FnScope ["_law_own"] ["_law_own"] (defScope s__law_count) := ⟨rfl, rfl, rfl, by decide +kernel, rfl, by decide +kernel, by decide +kernel⟩
theorem sc__law_write : FnScope ["_law_box", "_law_disk", "_law_own", "_law_block", "_law_what_here", "_law_due"] ["_law_box", "_law_disk", "_law_own"] (defScope s__law_write) := ⟨rfl, rfl, rfl, by decide +kernel, rfl, by decide +kernel, by decide +kernel⟩
theorem sc__law_arms : FnScope ["_law_box", "_law_disk", "_law_own", "_law_picks", "_law_handed", "_law_way", "_law_many", "_law_good", "_law_k"] ["_law_box", "_law_disk", "_law_own"] (defScope s__law_arms) := ⟨rfl, rfl, rfl, by decide +kernel, rfl, by decide +kernel, by decide +kernel⟩
theorem sc__law_is : FnScope ["_law_box", "_law_disk", "_law_own", "_law_again", "_law_found", "_law_far", "_law_blocks", "_law_block", "_law_due", "_law_some", "_law_told_here", "_law_one", "_law_what_here"] ["_law_box", "_law_disk", "_law_own"] (defScope s__law_is) := ⟨rfl, rfl, rfl, by decide +kernel, rfl, by decide +kernel, by decide +kernel⟩
theorem sc_law : FnScope ["_law_script", "_law_box", "_law_sides", "_law_turn", "_law_disk", "_law_own", "_law_way", "_law_good", "_law_due", "_law_block", "_law_what_here"] ["_law_script"] (defScope s_law) := ⟨rfl, rfl, rfl, by decide +kernel, rfl, by decide +kernel, by decide +kernel⟩
theorem sc_Disk___init__ : FnScope ["self"] ["self"] (defScope s_Disk___init__) := ⟨rfl, rfl, rfl, by decide +kernel, rfl, by decide +kernel, by decide +kernel⟩
theorem sc_Disk_need_block : FnScope ["self", "block"] ["self", "block"] (defScope s_Disk_need_block) := ⟨rfl, rfl, rfl, by decide +kernel, rfl, by decide +kernel, by decide +kernel⟩
theorem sc_Disk_deed : FnScope ["self"] ["self"] (defScope s_Disk_deed) := ⟨rfl, rfl, rfl, by decide +kernel, rfl, by decide +kernel, by decide +kernel⟩
theorem sc_Disk_write : FnScope ["self", "block", "what"] ["self", "block", "what"] (defScope s_Disk_write) := ⟨rfl, rfl, rfl, by decide +kernel, rfl, by decide +kernel, by decide +kernel⟩
theorem sc_Disk_settle : FnScope ["self", "block", "what"] ["self"] (defScope s_Disk_settle) := ⟨rfl, rfl, rfl, by decide +kernel, rfl, by decide +kernel, by decide +kernel⟩
theorem sc_Disk_read : FnScope ["self", "block", "one", "what"] ["self", "block"] (defScope s_Disk_read) := ⟨rfl, rfl, rfl, by decide +kernel, rfl, by decide +kernel, by decide +kernel⟩
theorem sc_Disk_arm : FnScope ["self", "deeds", "picks"] ["self", "deeds", "picks"] (defScope s_Disk_arm) := ⟨rfl, rfl, rfl, by decide +kernel, rfl, by decide +kernel, by decide +kernel⟩
theorem sc_Disk_stop : FnScope ["self", "picks", "stays", "block", "what"] ["self", "picks"] (defScope s_Disk_stop) := ⟨rfl, rfl, rfl, by decide +kernel, rfl, by decide +kernel, by decide +kernel⟩
theorem sc_Disk_again : FnScope ["self"] ["self"] (defScope s_Disk_again) := ⟨rfl, rfl, rfl, by decide +kernel, rfl, by decide +kernel, by decide +kernel⟩
theorem sc_Disk_blocks : FnScope ["self"] ["self"] (defScope s_Disk_blocks) := ⟨rfl, rfl, rfl, by decide +kernel, rfl, by decide +kernel, by decide +kernel⟩
def clsN : List Str := ["BadNumber", "BadValues", "NoForm", "BadPrices", "BadKinds", "BadRows", "BadCondition", "BadColumn", "BadHeap", "TooMany", "BadBlock", "Stopped", "BadText"]
def rzN : List Str := ["BadBlock", "Stopped"]
structure Txt (K : PySem.W.Frag) (mg : Str → Option Value) : Prop where
  b_len : mg "len" = none
  b_list : mg "list" = none
  b_tuple : mg "tuple" = none
  b_int : mg "int" = none
  b_sum : mg "sum" = none
  b_isinstance : mg "isinstance" = none
  b_max : mg "max" = none
  b_range : mg "range" = none
  b_zip : mg "zip" = none
  b_reversed : mg "reversed" = none
  b_str : mg "str" = none
  b_bool : mg "bool" = none
  b_ValueError : mg "ValueError" = none
  k_BLOCKS : ∃ u, mg "BLOCKS" = some u ∧ RelV (.int 600) u
  k_MOST_WEIGHT : ∃ u, mg "MOST_WEIGHT" = some u ∧ RelV (.int 40) u
  x_BadBlock : ExC K mg "BadBlock" (He.ga K "BadBlock")
  m_BadBlock : PySem.W.exmOne K (.ref (He.ga K "BadBlock")) (.ref (He.ga K "BadBlock")) = some true
  x_Stopped : ExC K mg "Stopped" (He.ga K "Stopped")
  m_Stopped : PySem.W.exmOne K (.ref (He.ga K "Stopped")) (.ref (He.ga K "Stopped")) = some true
  g_ColumnError : mg "ColumnError" = some (.ref (He.ga K "ColumnError"))
  g_BadNumber : mg "BadNumber" = some (.ref (He.ga K "BadNumber"))
  g_BadValues : mg "BadValues" = some (.ref (He.ga K "BadValues"))
  g_NoForm : mg "NoForm" = some (.ref (He.ga K "NoForm"))
  g_BadPrices : mg "BadPrices" = some (.ref (He.ga K "BadPrices"))
  g_BadKinds : mg "BadKinds" = some (.ref (He.ga K "BadKinds"))
  g_BadRows : mg "BadRows" = some (.ref (He.ga K "BadRows"))
  g_BadCondition : mg "BadCondition" = some (.ref (He.ga K "BadCondition"))
  g_BadColumn : mg "BadColumn" = some (.ref (He.ga K "BadColumn"))
  g_BadHeap : mg "BadHeap" = some (.ref (He.ga K "BadHeap"))
  g_TooMany : mg "TooMany" = some (.ref (He.ga K "TooMany"))
  g_BadBlock : mg "BadBlock" = some (.ref (He.ga K "BadBlock"))
  g_Stopped : mg "Stopped" = some (.ref (He.ga K "Stopped"))
  g_BadText : mg "BadText" = some (.ref (He.ga K "BadText"))
  g_Disk : mg "Disk" = some (.ref (He.ga K "Disk"))
  cls : ClsF K rzN clsN
  f_weight_of : FnAt K mg "weight_of" s_weight_of ["what"]
  f__law_begun : FnAt K mg "_law_begun" s__law_begun ["_law_script"]
  f__law_take : FnAt K mg "_law_take" s__law_take ["_law_box", "_law_many"]
  f__law_alike : FnAt K mg "_law_alike" s__law_alike ["_law_found", "_law_due"]
  f__law_class : FnAt K mg "_law_class" s__law_class ["_law_e"]
  f__law_told : FnAt K mg "_law_told" s__law_told ["_law_work"]
  f__law_all : FnAt K mg "_law_all" s__law_all ["_law_works", "_law_due"]
  f__law_nest : FnAt K mg "_law_nest" s__law_nest ["_law_box", "_law_parts", "_law_deep"]
  f__law_what : FnAt K mg "_law_what" s__law_what ["_law_box"]
  f__law_weight : FnAt K mg "_law_weight" s__law_weight ["_law_what_here"]
  f__law_made : FnAt K mg "_law_made" s__law_made []
  f__law_fall : FnAt K mg "_law_fall" s__law_fall ["_law_own", "_law_picks"]
  f__law_count : FnAt K mg "_law_count" s__law_count ["_law_own"]
  f__law_write : FnAtC K mg "_law_write" s__law_write ["_law_box", "_law_disk", "_law_own"] (He.cT K ("_law_write", none)).1
  f__law_arms : FnAt K mg "_law_arms" s__law_arms ["_law_box", "_law_disk", "_law_own"]
  f__law_is : FnAtC K mg "_law_is" s__law_is ["_law_box", "_law_disk", "_law_own"] (He.cT K ("_law_is", none)).1
  f_law : FnAtC K mg "law" s_law ["_law_script"] (He.cT K ("law", none)).1
  cl_Disk : Cls K (He.ga K "Disk")
  na_Disk_is_down : NoAttr K (He.ga K "Disk") "is_down"
  na_Disk_left : NoAttr K (He.ga K "Disk") "left"
  na_Disk_picks : NoAttr K (He.ga K "Disk") "picks"
  na_Disk_settled : NoAttr K (He.ga K "Disk") "settled"
  na_Disk_waiting : NoAttr K (He.ga K "Disk") "waiting"
  m_Disk___init__ : InAt K (He.ga K "Disk") "Disk.__init__" s_Disk___init__ ["self"]
  m_Disk_need_block : MtAt K (He.ga K "Disk") "need_block" "Disk.need_block" s_Disk_need_block ["self", "block"]
  m_Disk_deed : MtAt K (He.ga K "Disk") "deed" "Disk.deed" s_Disk_deed ["self"]
  m_Disk_write : MtAt K (He.ga K "Disk") "write" "Disk.write" s_Disk_write ["self", "block", "what"]
  m_Disk_settle : MtAt K (He.ga K "Disk") "settle" "Disk.settle" s_Disk_settle ["self"]
  m_Disk_read : MtAt K (He.ga K "Disk") "read" "Disk.read" s_Disk_read ["self", "block"]
  m_Disk_arm : MtAt K (He.ga K "Disk") "arm" "Disk.arm" s_Disk_arm ["self", "deeds", "picks"]
  m_Disk_stop : MtAt K (He.ga K "Disk") "stop" "Disk.stop" s_Disk_stop ["self", "picks"]
  m_Disk_again : MtAt K (He.ga K "Disk") "again" "Disk.again" s_Disk_again ["self"]
  m_Disk_blocks : MtAt K (He.ga K "Disk") "blocks" "Disk.blocks" s_Disk_blocks ["self"]
theorem plno {K : PySem.W.Frag} {mg : Str → Option Value} (T : Txt K mg) (nm : Str) (h : nm ∈ rzN) (hp : placed nm = true) : PySem.W.findIn K (.ref (He.ga K nm)) "place" = some none := by
  simp only [rzN, List.mem_cons, List.not_mem_nil, or_false] at h
  rcases h with rfl | rfl
  · exact absurd hp (by decide)
  · exact absurd hp (by decide)
end CC
namespace CC
open PySem PySem.Spec PyProof.Rows L2
open C8 (Cal pe_c pe_gc)
local macro_rules | `(tactic| walk_at "ev0") => `(tactic| (first
  | with_reducible refine ev_ixA rfl ?_
  | with_reducible refine ev_op ?_
  | with_reducible refine ev_var rfl ?_
  | with_reducible refine ev_int ?_
  | with_reducible refine ev_str ?_
  | with_reducible refine ev_bl ?_
  | with_reducible refine ev_non ?_
  | with_reducible refine ev_neg ?_
  | with_reducible refine ev_call ?_
  | with_reducible refine ev_tup ?_
  | with_reducible refine ev_chain ?_
  | with_reducible refine ev_andV ?_
  | with_reducible refine ev_orV ?_
  | with_reducible refine ev_notV ?_
  | with_reducible refine ev_isi ?_
  | with_reducible refine lenSet_li ?_
  | with_reducible refine ev_cb ?_
  | with_reducible refine ea_nil ?_
  | with_reducible refine ea_cons ?_
  | with_reducible refine et_test ?_
  | with_reducible refine et_B ?_
  | with_reducible refine et_and ?_
  | with_reducible refine et_or ?_
  | with_reducible refine et_not ?_
  | with_reducible refine et_yes ?_
  | with_reducible refine eo_none ?_
  | with_reducible refine eo_some ?_
  | with_reducible refine add_i ?_
  | with_reducible refine sub_i ?_
  | with_reducible refine lt_i ?_
  | with_reducible refine le_i ?_
  | with_reducible refine gt_i ?_
  | with_reducible refine ge_i ?_
  | with_reducible refine eq_i ?_
  | with_reducible refine ne_i ?_
  | with_reducible refine eq_s ?_
  | with_reducible refine ne_s ?_
  | with_reducible refine lenOk (by (dsimp only [List.length_cons, List.length_nil]; decide)) ?_
  | with_reducible refine len_li ?_
  | with_reducible refine len_ti ?_
  | with_reducible refine len_l ?_
  | with_reducible refine len_t ?_
  | with_reducible refine tuple_l ?_
  | with_reducible refine tuple_lp ?_
  | with_reducible refine tuple_t ?_
  | with_reducible refine is_n ?_
  | with_reducible refine isnot_n ?_
  | with_reducible refine min_li (by assumption) ?_
  | with_reducible refine max_li (by assumption) ?_
  | with_reducible refine ix_h (by assumption) ?_
  | with_reducible refine add_t (by (dsimp only [List.length_cons, List.length_nil]; decide)) ?_
  | with_reducible refine ix_t0 ?_
  | with_reducible refine ix_t1 ?_
  | with_reducible refine ix_t2 ?_
  | with_reducible refine ix_t3 ?_
  | with_reducible refine ix_t4 ?_
  | with_reducible refine ix_t5 ?_
  | with_reducible refine ix_l0 ?_
  | with_reducible refine ix_l1 ?_
  | with_reducible refine ix_l2 ?_
  | with_reducible refine ix_l3 ?_
  | with_reducible refine ix_l4 ?_
  | with_reducible refine ix_l5 ?_
  | with_reducible refine intJ ?_
  | with_reducible refine blJ ?_
  | with_reducible refine lstJ ?_
  | with_reducible refine tupJ ?_
  | with_reducible refine mul_iR (by omega) (by omega) ?_
  | with_reducible refine mul_iL (by omega) (by omega) ?_
  | with_reducible refine div_iP (by omega) (by omega) ?_
  | with_reducible refine mod_i (by omega) ?_
  | with_reducible refine lt_s ?_
  | with_reducible refine le_s ?_
  | with_reducible refine gt_s ?_
  | with_reducible refine ge_s ?_
  | with_reducible refine strJ ?_
  | with_reducible refine ev_slS ?_
  | with_reducible refine notin_c ?_
  | with_reducible refine in_c ?_
  | with_reducible refine max2_i ?_
  | with_reducible refine min2_i ?_
  | with_reducible refine etj ?_))
local macro_rules | `(tactic| walk_at "le") => `(tactic| ((try dsimp only [List.set_cons_zero, List.set_cons_succ]); repeat (first
  | with_reducible exact Le.nil
  | with_reducible refine Le.un ?_
  | with_reducible refine Le.same ?_
  | refine Le.same ?_)))
local macro_rules | `(tactic| walk_at "ev") => `(tactic| (first
  | walk_at "ev0"
  | with_reducible refine ev_if ?_))
local macro_rules | `(tactic| walk_at "go0") => `(tactic| (repeat walk_at "ev0"))
local macro_rules | `(tactic| walk_at "nm") => `(tactic| try dsimp only [wipeS, List.set_cons_zero, List.set_cons_succ])
local macro_rules | `(tactic| walk_at "go") => `(tactic| (repeat walk_at "ev"))
section
theorem rp_ints {K : PySem.W.Frag} {G : Hp} : ∀ ns : List Int, RpAll K G (ns.map V.int) (ns.map Dt.int)
  | [] => .nil
  | n :: ns => .cons (.int n) (rp_ints ns)
theorem ite_y {c : Bool} {a b : Prop} (e : c = true) (h : a) : if c = true then a else b := by rw [if_pos e]; exact h
theorem ite_n {c : Bool} {a b : Prop} (e : c = false) (h : b) : if c = true then a else b := by rw [if_neg (by rw [e]; exact Bool.false_ne_true)]; exact h
theorem ix_0 {n : Nat} : ixN (n + 1) 0 = some 0 := by
  unfold ixN
  simp
theorem at_0 {α : Type} {x : α} {r : List α} : atI (x :: r) 0 = some x := by
  unfold atI
  rw [List.length_cons, ix_0]; rfl
theorem si_0 {n : Nat} : seqIndex? 0 (n + 1) = some 0 := by
  unfold seqIndex?
  simp
def S__law_take (ds : List Dt) (Q : Dt → Prop) : Prop := ∃ m : Int, ds = [.int m] ∧ 0 < m ∧ m < 4611686018427387904 ∧ ∀ r, 0 ≤ r → r < m → Q (.int r)
abbrev sp__law_take (K : PySem.W.Frag) : Sp := spB K S__law_take
theorem ok__law_take {P : Program} {w : World} {K : PySem.W.Frag} {mg : Str → Option Value} {base : Heap} (T : Txt K mg)  : Cal P w K mg base 1 "_law_take" (sp__law_take K) [] := by
  refine cal_box T.f__law_take sc__law_take (fun z => nomatch z) ?len fun f cdv A outer s H E hr => ⟨_, (pss_cons (ps_if (pt_cmpR (op_eqU hr.units) (pe_ix ix_seq (pv 0) pe_int (fun _ _ => rfl)) (pe_lst pa_nil) (nomark _)) (pss_cons (ps_asg (pe_op op_modU (pe_op op_mulU (pe_ix ix_seq (pv 0) pe_int (fun _ _ => rfl)) pe_int) pe_int) (pg_sub (pv 0) pe_int set_list))
      (pss_one (ps_ret (pe_op op_modU (pe_op op_divU (pe_ix ix_seq (pv 0) pe_int (fun _ _ => rfl)) pe_int) (pv 1))))) pss_nil)
      (pss_cons (ps_set (i := 2) sc__law_take.nd rfl (Or.inl rfl) (pe_ix ix_seq (pe_ix ix_seq (pv 0) pe_int (fun _ _ => rfl)) pe_int (fun _ _ => rfl)))
      (pss_cons (ps_asg (pe_op op_divU (pv 2) (pv 1)) (pg_sub (pe_ix ix_seq (pv 0) pe_int (fun _ _ => rfl)) pe_int set_list))
      (pss_cons (ps_if ((pw_or (pt_cmpR (op_eqU hr.units) (pe_ix ix_seq (pe_ix ix_seq (pv 0) pe_int (fun _ _ => rfl)) pe_int (fun _ _ => rfl)) pe_int (nomark _)) (pw_or1 (pt_cmpR (op_eqU hr.units) (pe_ix ix_seq (pe_ix ix_seq (pv 0) pe_int (fun _ _ => rfl)) pe_int (fun _ _ => rfl)) (pe_un un_neg pe_int) (nomark _))))).pt (pss_one (ps_expr (pe_bm PySem.F.plainAttrs_list PySem.F.slot_list_pop PySem.F.type_list_pop mt_popAt (pe_ix ix_seq (pv 0) pe_int (fun _ _ => rfl)) (pa_cons pe_int pa_nil)))) pss_nil)
      (pss_one (ps_ret (pe_op op_modU (pv 2) (pv 1)))))))), ?body⟩
  case' body => try dsimp only [cxD, cxOf]
  case len => rintro ds Q ⟨b, rfl, _⟩; rfl
  case body =>
    rintro ds Q ⟨m, rfl, h0, h1, hq⟩ b l hne hid H0 D dom hD
    show NJ _ _ _ _ [.rw (.ref b), .im (.int m), .un]
    intro hd H σ sd
    obtain ⟨s, ns, hb, hl⟩ := sd.inv
    obtain ⟨x2, rfl⟩ : ∃ x, σ = [some (.ref b), some (.int m), x] := by
      match σ, sd.slots with
      | [some _, some _, x], .cons h1 (.cons h2 (.cons _ .nil)) =>
        have e1 : _ = V.ref b := h1
        have e2 : Rp _ _ _ (.int m) := h2
        cases e2
        subst e1
        exact ⟨x, rfl⟩
    have fin : ∀ (H' : Hp) (r : Int), Ex (muB b l) H H' → Bx b l H' → D.rt (.int (r % m)) H' := fun H' r e bx =>
      hD.rt _ (hq _ (Int.emod_nonneg _ (by omega)) (Int.emod_lt_of_pos _ h0)) _ _ (sd.ext.trans e) bx (.int _)
    refine ⟨.ref b, rfl, .inl ⟨b, _, 0, .ref l, rfl, rfl, .inl (.inl hb), rfl, by decide, fun p hp => .inr ⟨.list (pyL (ns.map Dt.int)), .list [], ?_, ?_, ?_, rfl, _, rfl, ?_⟩⟩⟩
    · have e : upd H p (.lst []) l = some (.lst (ns.map V.int)) := by
        rw [upd_ne (fun z => by subst z; rw [hl] at hp; cases hp)]; exact hl
      exact Rp.dp 1 _ (.lst (ns.map Dt.int)) (.lst fun d hd => by
        obtain ⟨x, _, rfl⟩ := List.mem_map.mp hd
        exact .int x) (.lst e (rp_ints ns))
    · exact .lst (.inl (.inl upd_same)) .nil
    · exact Sh.shaped (n := 1) (d := .lst (ns.map Dt.int)) (.lst fun d hd => by
        obtain ⟨x, _, rfl⟩ := List.mem_map.mp hd
        exact .int x) (by decide)
    have ne : ∀ a o, H a = some o → upd H p (.lst []) a = some o := fun a o h => by
      rw [upd_ne (fun z => by subst z; rw [h] at hp; cases hp)]; exact h
    have eB := ne _ _ hb
    have eL := ne _ _ hl
    have ex1 : Ex (muB b l) H (upd H p (.lst [])) := .new hp
    cases ns with
    | nil =>
      refine ite_y rfl ?_
      refine ⟨.ref b, rfl, .inl ⟨b, _, 1, .int s, rfl, rfl, .inl (.inl eB), rfl, .inl ⟨s, 48271, rfl, rfl, .inr ⟨by decide, by decide⟩, _, _, rfl, rfl, (show (0 : Int) < 2147483647 by decide), .ref b, rfl, b, _, 1, 1, rfl, rfl, eB, rfl, ?_⟩⟩⟩
      refine ⟨.ref b, rfl, .inl ⟨b, _, 1, .int (s * 48271 % 2147483647), rfl, rfl, .inl (.inl upd_same), rfl, _, 7, rfl, rfl, ⟨by decide, by decide⟩, .int m, rfl, _, m, rfl, rfl, h0, ?_⟩⟩
      exact fin _ _ (ex1.mut (.inr muB_b)) ⟨_, [], upd_same, by rw [upd_ne (Ne.symm hne)]; exact eL⟩
    | cons n ns =>
      refine ite_n rfl ?_
      refine ⟨.ref b, rfl, .inl ⟨b, _, 0, .ref l, rfl, rfl, .inl (.inl eB), rfl, .inl ⟨l, _, 0, .int n, rfl, rfl, .inl (.inl eL), at_0, ?_⟩⟩⟩
      refine ⟨.int n, rfl, .int m, rfl, n, m, rfl, rfl, wide_div (b := 62) h0 (by omega) (by decide) (by decide), .ref b, rfl, .inl ⟨b, _, 0, .ref l, rfl, rfl, .inl (.inl eB), rfl, l, _, 0, 0, rfl, rfl, eL, ix_0, ?_⟩⟩
      have ex2 : Ex (muB b l) H (upd (upd H p (.lst [])) l (.lst (((n :: ns).map V.int).set 0 (.int (n / m))))) := ex1.mut (.inr muB_l)
      have eB2 : upd (upd H p (.lst [])) l (.lst (((n :: ns).map V.int).set 0 (.int (n / m)))) b = some (.lst [.ref l, .int s]) := by rw [upd_ne hne]; exact eB
      have eL2 : upd (upd H p (.lst [])) l (.lst (((n :: ns).map V.int).set 0 (.int (n / m)))) l = some (.lst (.int (n / m) :: ns.map V.int)) := upd_same
      generalize upd (upd H p (.lst [])) l (.lst (((n :: ns).map V.int).set 0 (.int (n / m)))) = H3 at ex2 eB2 eL2
      have stay : D.rt (.int (n % m)) H3 := fin _ _ ex2 ⟨_, (n / m) :: ns, eB2, eL2⟩
      have ret : ∀ H4, D.rt (.int (n % m)) H4 → tRet (tOp rModI (tVar 2) (tVar 1)) D [some (.ref b), some (.int m), some (.int n)] H4 := fun H4 q => ⟨.int n, rfl, .int m, rfl, n, m, rfl, rfl, h0, q⟩
      have pop : tDrop (tBM K "list" rPopAt (tOp (rIx K) (tVar 0) (tC (V.int 0))) (tCons (tC (V.int 0)) tNil)) { D with nx := tRet (tOp rModI (tVar 2) (tVar 1)) D } [some (.ref b), some (.int m), some (.int n)] H3 := by
        refine ⟨.ref b, rfl, .inl ⟨b, _, 0, .ref l, rfl, rfl, .inl (.inl eB2), rfl, .inl ⟨rfl, _, .inl (.inl eL2)⟩, l, _, 0, 0, .int (n / m), rfl, rfl, eL2, by decide, by decide, ?_, rfl, ?_⟩⟩
        · exact si_0
        · refine ret _ ?_
          exact fin _ _ (ex2.mut (.inr muB_l)) ⟨_, ns, by rw [upd_ne hne]; exact eB2, upd_same⟩
      have fst : ∀ Q : VK, Q (.int (n / m)) H3 → tOp (rIx K) (tOp (rIx K) (tVar 0) (tC (V.int 0))) (tC (V.int 0)) [some (.ref b), some (.int m), some (.int n)] H3 Q := fun Q q =>
        ⟨.ref b, rfl, .inl ⟨b, _, 0, .ref l, rfl, rfl, .inl (.inl eB2), rfl, .inl ⟨l, _, 0, .int (n / m), rfl, rfl, .inl (.inl eL2), at_0, q⟩⟩⟩
      refine fst _ (.inl ⟨rfl, _, rfl, ?_⟩)
      by_cases z0 : n / m = 0
      · refine ite_y (decide_eq_true (by rw [z0])) (ite_y rfl ?_)
        exact pop
      · refine ite_n (decide_eq_false fun z => z0 (V.int.inj z)) ?_
        refine fst _ ⟨1, rfl, .inl ⟨rfl, _, rfl, ?_⟩⟩
        by_cases z1 : n / m = -1
        · exact ite_y (decide_eq_true (by rw [z1])) pop
        · exact ite_n (decide_eq_false fun z => z1 (V.int.inj z)) (ret _ stay)
theorem take_j {m : Int} {Q : Dt → Prop} (h0 : 0 < m) (h1 : m < 4611686018427387904) (h : ∀ r, 0 ≤ r → r < m → Q (.int r)) : S__law_take [.int m] Q := ⟨m, rfl, h0, h1, h⟩
end
section
open PySem PySem.Spec PyProof.Rows L2
open C8 (Cal pe_c pe_gc)
def sp__law_begun (K : PySem.W.Frag) : Sp := fun vs H Qh _ => ∃ (a : Addr) (ns : List Int), vs = [.ref a] ∧ SqL K H a (ns.map V.int) ∧ ns.length ≤ 63 ∧ ∀ b l H', b ≠ l → H b = none → H l = none → Ex none0 H H' → Bx b l H' → Qh (.ref b) H'
theorem ok__law_begun {P : Program} {w : World} {K : PySem.W.Frag} {mg : Str → Option Value} {base : Heap} (T : Txt K mg)  : Cal P w K mg base 1 "_law_begun" (sp__law_begun K) [] := by
  obtain ⟨f, fd, hm, F, bi⟩ := T.f__law_begun
  refine ⟨⟨f, fd, _, [], F.ok sc__law_begun ?len (fun cdv A outer s H vs Q E hr h => ⟨_, (pss_cons (ps_set (i := 1) sc__law_begun.nd rfl (Or.inl rfl) pe_int)
      (pss_cons (ps_for PassesOwn.never rfl (pi_list (pv 0)) (pg_name (i := 2) sc__law_begun.nd rfl (Or.inl rfl)) (pss_one (ps_set (i := 1) sc__law_begun.nd rfl (Or.inl rfl) (pe_op op_modU (pe_op op_addU (pe_op op_addU (pe_op op_mulU (pv 1) pe_int) (pe_op op_mulU (pv 2) pe_int)) pe_int) pe_int))))
      (pss_one (ps_ret (pe_lst (pa_cons (pe_callTy cl_list (by rfl) T.b_list (by decide +kernel) (pa_cons (pv 0) pa_nil)) (pa_cons (pe_op op_mulU (pv 1) (pe_callTy cl_int1 (by rfl) T.b_int (by decide +kernel) (pa_cons (pe_cmpR op_gtU (pe_callB cl_len (by rfl) T.b_len PySem.boot_len (pa_cons (pv 0) pa_nil)) pe_int (nomark _)) pa_nil))) pa_nil))))))), ?body⟩), hm, F.kp, bi, .nil⟩⟩
  case' body => try dsimp only [cxD, cxOf]
  case len => rintro vs H Q E ⟨a, ns, rfl, _⟩; rfl
  case body =>
    obtain ⟨a, ns, rfl, hS, hn, hq⟩ := h
    refine ⟨.ref a, rfl, a, rfl, ⟨_, hS⟩, for_list (xs := ns.map V.int) (fun _ σ H1 => H1 = H ∧ ∃ s x, σ = [some (.ref a), some (.int s), x]) ⟨rfl, 0, none, rfl⟩ (fun i σ H1 _ h => h.1 ▸ hS) ?_ ?_⟩
    · rintro i x σ H1 hx ⟨rfl, s, y, rfl⟩
      obtain ⟨n, _, rfl⟩ := List.mem_map.mp (List.mem_of_getElem? hx)
      refine ⟨.int s, rfl, .inl ⟨s, 48271, rfl, rfl, .inr ⟨by decide, by decide⟩, .int n, rfl, .inl ⟨n, 69621, rfl, rfl, .inr ⟨by decide, by decide⟩, .inl ⟨_, _, rfl, rfl, .inl ⟨_, _, rfl, rfl, _, _, rfl, rfl, (show (0 : Int) < 2147483647 by decide), rfl, _, some (.int n), rfl⟩⟩⟩⟩⟩
    · rintro σ H1 ⟨rfl, s, y, rfl⟩
      refine ⟨.ref a, rfl, _, _, rfl, .inl hS, fun l hl => ?_⟩
      have hS' : SqL K (upd H1 l (.lst (ns.map V.int))) a (ns.map V.int) := by
        rcases hS with (h | ⟨o, h⟩) | h
        · exact .inl (.inl (by rw [upd_ne (fun z => by subst z; rw [h] at hl; cases hl)]; exact h))
        · exact .inl (.inr ⟨o, by rw [upd_ne (fun z => by subst z; rw [h] at hl; cases hl)]; exact h⟩)
        · exact .inr h
      refine ⟨.int s, rfl, .ref a, rfl, .inl ⟨_, _, rfl, .inl hS', .inl ⟨_, _, rfl, rfl, .inr ⟨_, rfl, .inl ⟨s, _, rfl, rfl, .inr ⟨?_, ?_⟩, by show 2 ≤ sizeLine; decide, fun b hb => ?_⟩⟩⟩⟩⟩
      · split <;> decide
      · split <;> decide
      have nbl : b ≠ l := fun z => by subst z; rw [upd_same] at hb; cases hb
      have hb0 : H1 b = none := by rw [upd_ne nbl] at hb; exact hb
      exact hq b l _ nbl hb0 hl ((Ex.new hl).trans (.new hb)) ⟨_, ns, upd_same, by rw [upd_ne (Ne.symm nbl)]; exact upd_same⟩
end
section
open PySem PySem.Spec PyProof.Rows L2
open C8 (Cal pe_c pe_gc)
def S__law_alike (n : Nat) (ds : List Dt) (Q : Dt → Prop) : Prop := ∃ d, ds = [d, d] ∧ Al n d ∧ Q (.bl true)
abbrev sp__law_alike (n : Nat) (K : PySem.W.Frag) : Sp := spP K (S__law_alike n)
theorem ok__law_alike {P : Program} {w : World} {K : PySem.W.Frag} {mg : Str → Option Value} {base : Heap} (T : Txt K mg)  (n : Nat) : Cal P w K mg base (n + 1) "_law_alike" (sp__law_alike n K) [] := by
  induction n with
  | zero =>
    refine cal_pure T.f__law_alike sc__law_alike ?len fun f cdv A outer s H E hr => ⟨_, (pss_cons (ps_if (pt_cmpR op_isU (pv 1) pe_non (nomark _)) (pss_one (ps_ret (pe_cmpR op_isU (pv 0) pe_non (nomark _)))) pss_nil)
      (pss_cons (ps_if (pt_val (pe_callB call_isi (by rfl) T.b_isinstance (by decide +kernel) (pa_cons (pv 1) (pa_cons (pe_bltn (v := .ty "bool") (by rfl) T.b_bool (by decide +kernel) rfl) pa_nil)))) (pss_one (ps_ret (pe_and (pe_callB call_isi (by rfl) T.b_isinstance (by decide +kernel) (pa_cons (pv 0) (pa_cons (pe_bltn (v := .ty "bool") (by rfl) T.b_bool (by decide +kernel) rfl) pa_nil))) (pe_one (pe_cmpR (op_eqU hr.units) (pv 0) (pv 1) (nomark _)))))) pss_nil)
      (pss_cons (ps_if (pt_val (pe_callB call_isi (by rfl) T.b_isinstance (by decide +kernel) (pa_cons (pv 1) (pa_cons (pe_bltn (v := .ty "int") (by rfl) T.b_int (by decide +kernel) rfl) pa_nil)))) (pss_one (ps_ret (pe_and (pe_callB call_isi (by rfl) T.b_isinstance (by decide +kernel) (pa_cons (pv 0) (pa_cons (pe_bltn (v := .ty "int") (by rfl) T.b_int (by decide +kernel) rfl) pa_nil))) (pe_and (pe_not (pe_callB call_isi (by rfl) T.b_isinstance (by decide +kernel) (pa_cons (pv 0) (pa_cons (pe_bltn (v := .ty "bool") (by rfl) T.b_bool (by decide +kernel) rfl) pa_nil)))) (pe_one (pe_cmpR (op_eqU hr.units) (pv 0) (pv 1) (nomark _))))))) pss_nil)
      (pss_cons (ps_if (pt_val (pe_callB call_isi (by rfl) T.b_isinstance (by decide +kernel) (pa_cons (pv 1) (pa_cons (pe_bltn (v := .ty "str") (by rfl) T.b_str (by decide +kernel) rfl) pa_nil)))) (pss_one (ps_ret (pe_and (pe_callB call_isi (by rfl) T.b_isinstance (by decide +kernel) (pa_cons (pv 0) (pa_cons (pe_bltn (v := .ty "str") (by rfl) T.b_str (by decide +kernel) rfl) pa_nil))) (pe_one (pe_cmpR (op_eqU hr.units) (pv 0) (pv 1) (nomark _)))))) pss_nil)
      pss_never)))), ?body⟩
    case' body => try dsimp only [cxD, cxOf]
    case len => rintro ds Q ⟨b, rfl, _⟩; rfl
    case body =>
      rintro ds Q ⟨d, rfl, h, hq⟩ hid H0 D dom hD
      show NJ _ _ _ _ [.im d, .im d, .un]
      cases h with
      | non =>
        refine q_when ?_
        walk_at "go"
        refine bl_yes rfl (nj_ret ?_)
        walk_at "go"
        exact hD.rt _ hq
      | bl b =>
        refine q_when ?_
        walk_at "go"
        refine bl_no rfl (q_when ?_)
        walk_at "go"
        refine ⟨rfl, _, k_bb, bl_yes rfl (nj_ret ?_)⟩
        walk_at "go"
        refine ⟨rfl, _, k_bb, bl_yes rfl ?_⟩
        walk_at "go"
        refine eq_b ?_
        rw [decide_eq_true rfl]
        exact hD.rt _ hq
      | int i =>
        refine q_when ?_
        walk_at "go"
        refine bl_no rfl (q_when ?_)
        walk_at "go"
        refine ⟨rfl, _, k_ib, bl_no rfl (q_when ?_)⟩
        walk_at "go"
        refine ⟨rfl, _, k_ii, bl_yes rfl (nj_ret ?_)⟩
        walk_at "go"
        refine ⟨rfl, _, k_ii, bl_yes rfl ?_⟩
        walk_at "go"
        refine ⟨rfl, _, k_ib, ?_⟩
        walk_at "go"
        refine bl_yes rfl ?_
        walk_at "go"
        rw [decide_eq_true rfl]
        exact hD.rt _ hq
      | str x =>
        refine q_when ?_
        walk_at "go"
        refine bl_no rfl (q_when ?_)
        walk_at "go"
        refine ⟨rfl, _, k_sb, bl_no rfl (q_when ?_)⟩
        walk_at "go"
        refine ⟨rfl, _, k_si, bl_no rfl (q_when ?_)⟩
        walk_at "go"
        refine ⟨rfl, _, k_ss, bl_yes rfl (nj_ret ?_)⟩
        walk_at "go"
        refine ⟨rfl, _, k_ss, bl_yes rfl ?_⟩
        walk_at "go"
        rw [decide_eq_true rfl]
        exact hD.rt _ hq
  | succ n ih =>
    have c__law_alike := ih
    refine cal_pure T.f__law_alike sc__law_alike ?len fun f cdv A outer s H E hr => ⟨_, (pss_cons (ps_if (pt_cmpR op_isU (pv 1) pe_non (nomark _)) (pss_one (ps_ret (pe_cmpR op_isU (pv 0) pe_non (nomark _)))) pss_nil)
      (pss_cons (ps_if (pt_val (pe_callB call_isi (by rfl) T.b_isinstance (by decide +kernel) (pa_cons (pv 1) (pa_cons (pe_bltn (v := .ty "bool") (by rfl) T.b_bool (by decide +kernel) rfl) pa_nil)))) (pss_one (ps_ret (pe_and (pe_callB call_isi (by rfl) T.b_isinstance (by decide +kernel) (pa_cons (pv 0) (pa_cons (pe_bltn (v := .ty "bool") (by rfl) T.b_bool (by decide +kernel) rfl) pa_nil))) (pe_one (pe_cmpR (op_eqU hr.units) (pv 0) (pv 1) (nomark _)))))) pss_nil)
      (pss_cons (ps_if (pt_val (pe_callB call_isi (by rfl) T.b_isinstance (by decide +kernel) (pa_cons (pv 1) (pa_cons (pe_bltn (v := .ty "int") (by rfl) T.b_int (by decide +kernel) rfl) pa_nil)))) (pss_one (ps_ret (pe_and (pe_callB call_isi (by rfl) T.b_isinstance (by decide +kernel) (pa_cons (pv 0) (pa_cons (pe_bltn (v := .ty "int") (by rfl) T.b_int (by decide +kernel) rfl) pa_nil))) (pe_and (pe_not (pe_callB call_isi (by rfl) T.b_isinstance (by decide +kernel) (pa_cons (pv 0) (pa_cons (pe_bltn (v := .ty "bool") (by rfl) T.b_bool (by decide +kernel) rfl) pa_nil)))) (pe_one (pe_cmpR (op_eqU hr.units) (pv 0) (pv 1) (nomark _))))))) pss_nil)
      (pss_cons (ps_if (pt_val (pe_callB call_isi (by rfl) T.b_isinstance (by decide +kernel) (pa_cons (pv 1) (pa_cons (pe_bltn (v := .ty "str") (by rfl) T.b_str (by decide +kernel) rfl) pa_nil)))) (pss_one (ps_ret (pe_and (pe_callB call_isi (by rfl) T.b_isinstance (by decide +kernel) (pa_cons (pv 0) (pa_cons (pe_bltn (v := .ty "str") (by rfl) T.b_str (by decide +kernel) rfl) pa_nil))) (pe_one (pe_cmpR (op_eqU hr.units) (pv 0) (pv 1) (nomark _)))))) pss_nil)
      (pss_cons (ps_if ((pw_or (pt_cmpR (op_neU hr.units) (pe_callB call_isi (by rfl) T.b_isinstance (by decide +kernel) (pa_cons (pv 1) (pa_cons (pe_bltn (v := .ty "tuple") (by rfl) T.b_tuple (by decide +kernel) rfl) pa_nil))) (pe_callB call_isi (by rfl) T.b_isinstance (by decide +kernel) (pa_cons (pv 0) (pa_cons (pe_bltn (v := .ty "tuple") (by rfl) T.b_tuple (by decide +kernel) rfl) pa_nil))) (nomark _)) (pw_or1 (pt_cmpR (op_neU hr.units) (pe_callB call_isi (by rfl) T.b_isinstance (by decide +kernel) (pa_cons (pv 1) (pa_cons (pe_bltn (v := .ty "list") (by rfl) T.b_list (by decide +kernel) rfl) pa_nil))) (pe_callB call_isi (by rfl) T.b_isinstance (by decide +kernel) (pa_cons (pv 0) (pa_cons (pe_bltn (v := .ty "list") (by rfl) T.b_list (by decide +kernel) rfl) pa_nil))) (nomark _))))).pt (pss_one (ps_ret pe_bl)) pss_nil)
      (pss_cons (ps_if (pt_cmpR (op_neU hr.units) (pe_callB cl_len (by rfl) T.b_len PySem.boot_len (pa_cons (pv 0) pa_nil)) (pe_callB cl_len (by rfl) T.b_len PySem.boot_len (pa_cons (pv 1) pa_nil)) (nomark _)) (pss_one (ps_ret pe_bl)) pss_nil)
      (pss_cons (ps_for PassesOwn.never rfl (pi_range1 (by rfl) T.b_range (pa_cons (pe_callB cl_len (by rfl) T.b_len PySem.boot_len (pa_cons (pv 1) pa_nil)) pa_nil)) (pg_name (i := 2) sc__law_alike.nd rfl (Or.inl rfl)) (pss_one (ps_if (pt_not (pt_val (pe_c c__law_alike hr (Nat.le_refl _) (by rfl) (pa_cons (pe_ix ix_seq (pv 0) (pv 2) (fun _ _ => rfl)) (pa_cons (pe_ix ix_seq (pv 1) (pv 2) (fun _ _ => rfl)) pa_nil))))) (pss_one (ps_ret pe_bl)) pss_nil)))
      (pss_one (ps_ret pe_bl))))))))), ?body⟩
    case' body => try dsimp only [cxD, cxOf]
    case len => rintro ds Q ⟨b, rfl, _⟩; rfl
    case body =>
      rintro ds Q ⟨d, rfl, h, hq⟩ hid H0 D dom hD
      show NJ _ _ _ _ [.im d, .im d, .un]
      cases h with
      | non =>
        refine q_when ?_
        walk_at "go"
        refine bl_yes rfl (nj_ret ?_)
        walk_at "go"
        exact hD.rt _ hq
      | bl b =>
        refine q_when ?_
        walk_at "go"
        refine bl_no rfl (q_when ?_)
        walk_at "go"
        refine ⟨rfl, _, k_bb, bl_yes rfl (nj_ret ?_)⟩
        walk_at "go"
        refine ⟨rfl, _, k_bb, bl_yes rfl ?_⟩
        walk_at "go"
        refine eq_b ?_
        rw [decide_eq_true rfl]
        exact hD.rt _ hq
      | int i =>
        refine q_when ?_
        walk_at "go"
        refine bl_no rfl (q_when ?_)
        walk_at "go"
        refine ⟨rfl, _, k_ib, bl_no rfl (q_when ?_)⟩
        walk_at "go"
        refine ⟨rfl, _, k_ii, bl_yes rfl (nj_ret ?_)⟩
        walk_at "go"
        refine ⟨rfl, _, k_ii, bl_yes rfl ?_⟩
        walk_at "go"
        refine ⟨rfl, _, k_ib, ?_⟩
        walk_at "go"
        refine bl_yes rfl ?_
        walk_at "go"
        rw [decide_eq_true rfl]
        exact hD.rt _ hq
      | str x =>
        refine q_when ?_
        walk_at "go"
        refine bl_no rfl (q_when ?_)
        walk_at "go"
        refine ⟨rfl, _, k_sb, bl_no rfl (q_when ?_)⟩
        walk_at "go"
        refine ⟨rfl, _, k_si, bl_no rfl (q_when ?_)⟩
        walk_at "go"
        refine ⟨rfl, _, k_ss, bl_yes rfl (nj_ret ?_)⟩
        walk_at "go"
        refine ⟨rfl, _, k_ss, bl_yes rfl ?_⟩
        walk_at "go"
        rw [decide_eq_true rfl]
        exact hD.rt _ hq
      | lst hds hl =>
        rename_i es
        refine q_when ?_
        walk_at "go"
        refine bl_no rfl (q_when ?_)
        walk_at "go"
        refine ⟨rfl, _, k_lb, bl_no rfl (q_when ?_)⟩
        walk_at "go"
        refine ⟨rfl, _, k_li, bl_no rfl (q_when ?_)⟩
        walk_at "go"
        refine ⟨rfl, _, k_ls, bl_no rfl (q_when ?_)⟩
        walk_at "go"
        refine ⟨rfl, _, k_lt, ?_⟩
        walk_at "go"
        refine ⟨rfl, _, k_lt, ?_⟩
        refine ne_b (or_no rfl ?_)
        walk_at "go"
        refine ⟨rfl, _, k_ll, ?_⟩
        walk_at "go"
        refine ⟨rfl, _, k_ll, ?_⟩
        refine ne_b (bl_no rfl (q_when ?_))
        walk_at "go"
        refine bl_no (by rw [decide_eq_true rfl]; rfl) ?_
        refine q_for (ij_rng1 ?_)
        walk_at "go"
        refine ⟨es.length, rfl, by omega, by omega, fun i ρ' => ρ' = [.im (.lst es), .im (.lst es), .un], rfl, ?_, ?_⟩
        · rintro H1 e1 i d ρ' hi rfl
          obtain ⟨hil, rfl⟩ := rangeD_at hi
          rw [Int.zero_add]
          have hil' : i < es.length := by omega
          refine tg_name ?_
          walk_at "nm"
          refine nj_when ?_
          walk_at "go"
          refine ix_l (atI_nat (List.getElem?_eq_getElem hil')) ?_
          walk_at "go"
          refine ix_l (atI_nat (List.getElem?_eq_getElem hil')) ?_
          walk_at "go"
          refine sp_j ⟨_, rfl, hds _ (List.getElem_mem hil'), ?_⟩
          refine bl_no rfl ?_
          exact nj_nxw _ rfl (.same (.same (.un .nil)))
        · rintro ρ' rfl
          refine nj_ret ?_
          walk_at "go"
          exact hD.rt _ hq
      | tup hds hl =>
        rename_i es
        refine q_when ?_
        walk_at "go"
        refine bl_no rfl (q_when ?_)
        walk_at "go"
        refine ⟨rfl, _, k_tb, bl_no rfl (q_when ?_)⟩
        walk_at "go"
        refine ⟨rfl, _, k_ti, bl_no rfl (q_when ?_)⟩
        walk_at "go"
        refine ⟨rfl, _, k_ts, bl_no rfl (q_when ?_)⟩
        walk_at "go"
        refine ⟨rfl, _, k_tt, ?_⟩
        walk_at "go"
        refine ⟨rfl, _, k_tt, ?_⟩
        refine ne_b (or_no rfl ?_)
        walk_at "go"
        refine ⟨rfl, _, k_tl, ?_⟩
        walk_at "go"
        refine ⟨rfl, _, k_tl, ?_⟩
        refine ne_b (bl_no rfl (q_when ?_))
        walk_at "go"
        refine bl_no (by rw [decide_eq_true rfl]; rfl) ?_
        refine q_for (ij_rng1 ?_)
        walk_at "go"
        refine ⟨es.length, rfl, by omega, by omega, fun i ρ' => ρ' = [.im (.tup es), .im (.tup es), .un], rfl, ?_, ?_⟩
        · rintro H1 e1 i d ρ' hi rfl
          obtain ⟨hil, rfl⟩ := rangeD_at hi
          rw [Int.zero_add]
          have hil' : i < es.length := by omega
          refine tg_name ?_
          walk_at "nm"
          refine nj_when ?_
          walk_at "go"
          refine ix_t (atI_nat (List.getElem?_eq_getElem hil')) ?_
          walk_at "go"
          refine ix_t (atI_nat (List.getElem?_eq_getElem hil')) ?_
          walk_at "go"
          refine sp_j ⟨_, rfl, hds _ (List.getElem_mem hil'), ?_⟩
          refine bl_no rfl ?_
          exact nj_nxw _ rfl (.same (.same (.un .nil)))
        · rintro ρ' rfl
          refine nj_ret ?_
          walk_at "go"
          exact hD.rt _ hq
end
section
open PySem PySem.Spec PyProof.Rows L2
section
variable {K : PySem.W.Frag} {X : Cl K} {g : GT} {hid : Addr → Bool} {H0 : Hp} {ρ : List Sl} {to : TE} {N : L2.St → Hp → Prop}
theorem tgr_tp {n : Nat} {gs : TGs} {b : Addr} {rs : List RV} (hb : g b = some (.tp rs)) (hn : rs.length = n) (h : TGsR X g hid H0 gs rs ρ N) : TGR X g hid H0 (gTup K n gs) (.ref b) ρ N := fun hd H σ v s rv => by
  obtain ⟨ws, h1, h2⟩ := (s.inv.2 b _ hb).2
  exact ⟨b, ws, rv, .inl (.inl h1), by rw [h2.len]; exact hn, h hd H σ ws s h2⟩
end
end
local macro_rules | `(tactic| walk_at "hp") => `(tactic| (first
  | with_reducible refine len_kinds ?_
  | with_reducible refine hpf_gone (by assumption) (ev_var rfl rfl) ?_
  | with_reducible refine hpf_many (by assumption) (ev_var rfl rfl) ?_
  | with_reducible refine hpf_kinds (by assumption) (ev_var rfl rfl) ?_
  | with_reducible refine hpf_forms (by assumption) (ev_var rfl rfl) ?_
  | with_reducible refine hpf_lists (by assumption) (ev_var rfl rfl) ?_
  | with_reducible refine hpf_numbers (by assumption) (ev_var rfl rfl) ?_))
local macro_rules | `(tactic| walk_at "gh") => `(tactic| (repeat (first
  | walk_at "hp"
  | walk_at "ev")))
section
mutual
def wt : Dt → Nat
  | .tup ds => wtL ds
  | .non => 1
  | .bl _ => 1
  | .int _ => 1
  | .str _ => 1
  | .lst _ => 1
  | .dk _ => 1
  | .dt _ => 1
  | .ob _ _ => 1
  | .xo _ _ => 1
  | .ptup _ => 1
def wtL : List Dt → Nat
  | [] => 0
  | x :: r => wt x + wtL r
end
inductive TD : Nat → Dt → Prop
  | leaf {n : Nat} {d : Dt} (h : scalar d = true) : TD n d
  | tup {n : Nat} {ds : List Dt} (h : ∀ d ∈ ds, TD n d) (hl : ds.length ≤ 100000) : TD (n + 1) (.tup ds)
theorem wtL_sum : ∀ ds : List Dt, (ds.map fun d => (wt d : Int)).sum = (wtL ds : Nat)
  | [] => rfl
  | d :: r => by
    show (wt d : Int) + (r.map fun d => (wt d : Int)).sum = ((wt d + wtL r : Nat) : Int)
    rw [wtL_sum r]; omega
theorem wt_scalar {d : Dt} (h : scalar d = true) : wt d = 1 := by cases d <;> first | rfl | cases h
def S_weight_of (n : Nat) (ds : List Dt) (Q : Dt → Prop) : Prop := ∃ d, ds = [d] ∧ TD n d ∧ Q (.int (wt d : Nat))
abbrev sp_weight_of (n : Nat) (K : PySem.W.Frag) : Sp := spP K (S_weight_of n)
abbrev sp__law_weight (n : Nat) (K : PySem.W.Frag) : Sp := spP K (S_weight_of n)
theorem kit_no {d : Dt} (h : scalar d = true) : noT d = true ∧ kitB (tyD d) "tuple" = some false := by
  cases d with
  | non => exact ⟨rfl, by decide +kernel⟩
  | bl => exact ⟨rfl, show kitB "bool" "tuple" = some false by decide +kernel⟩
  | int => exact ⟨rfl, show kitB "int" "tuple" = some false by decide +kernel⟩
  | str => exact ⟨rfl, show kitB "str" "tuple" = some false by decide +kernel⟩
  | _ => cases h
theorem kit_tup : kitB "tuple" "tuple" = some true := by decide +kernel
theorem ok_weight_of {P : Program} {w : World} {K : PySem.W.Frag} {mg : Str → Option Value} {base : Heap} (T : Txt K mg)  (n : Nat) : Cal P w K mg base (n + 1) "weight_of" (sp_weight_of n K) [] := by
  induction n with
  | zero =>
    refine cal_pure T.f_weight_of sc_weight_of ?len fun f cdv A outer s H E hr => ⟨_, (pss_cons (ps_if (pt_val (pe_callB call_isi (by rfl) T.b_isinstance (by decide +kernel) (pa_cons (pv 0) (pa_cons (pe_bltn (v := .ty "tuple") (by rfl) T.b_tuple (by decide +kernel) rfl) pa_nil)))) pss_never pss_nil) (pss_one (ps_ret pe_int))), ?body⟩
    case' body => try dsimp only [cxD, cxOf]
    case len => rintro ds Q ⟨b, rfl, _⟩; rfl
    case body =>
      rintro ds Q ⟨d, rfl, h, hq⟩ hid H0 D dom hD
      show NJ _ _ _ _ [.im d, .un]
      cases h with
      | leaf hs =>
        refine q_when ?_
        walk_at "go"
        refine ⟨(kit_no hs).1, false, (kit_no hs).2, ?_⟩
        refine bl_no rfl ?_
        refine nj_ret ?_
        walk_at "go"
        rw [wt_scalar hs] at hq
        exact hD.rt _ hq
  | succ n ih =>
    have c_weight_of := ih
    refine cal_pure T.f_weight_of sc_weight_of ?len fun f cdv A outer s H E hr => ⟨_, (pss_cons (ps_if (pt_val (pe_callB call_isi (by rfl) T.b_isinstance (by decide +kernel) (pa_cons (pv 0) (pa_cons (pe_bltn (v := .ty "tuple") (by rfl) T.b_tuple (by decide +kernel) rfl) pa_nil)))) (pss_one (ps_ret (pe_callB (cr_sum rfl) (by rfl) T.b_sum (by decide +kernel) (pa_cons (pe_lc (g := (gName 1)) (tt := tYes) (te := (tCall (sp_weight_of n K) [] E0 (tCons (tVar 1) tNil))) (own := [("part", 1)]) rfl sc_weight_of.nd (pi_tup (pv 0)) (blkOk_by (N := ["what", "part"]) (sc := defScope s_weight_of) (by decide +kernel)) (fun _ _ _ _ _ => (pg_name (i := 1) sc_weight_of.nd rfl (Or.inl rfl))) (fun _ _ _ _ _ => pts_nil) (fun _ _ _ _ _ => (pe_c c_weight_of hr (Nat.le_refl _) (by rfl) (pa_cons (pv 1) pa_nil)))) pa_nil)))) pss_nil)
      (pss_one (ps_ret pe_int))), ?body⟩
    case' body => try dsimp only [cxD, cxOf]
    case len => rintro ds Q ⟨b, rfl, _⟩; rfl
    case body =>
      rintro ds Q ⟨d, rfl, h, hq⟩ hid H0 D dom hD
      show NJ _ _ _ _ [.im d, .un]
      cases h with
      | leaf hs =>
        refine q_when ?_
        walk_at "go"
        refine ⟨(kit_no hs).1, false, (kit_no hs).2, ?_⟩
        refine bl_no rfl ?_
        refine nj_ret ?_
        walk_at "go"
        rw [wt_scalar hs] at hq
        exact hD.rt _ hq
      | tup ht hl =>
        refine q_when ?_
        walk_at "go"
        refine ⟨rfl, true, kit_tup, ?_⟩
        refine bl_yes rfl ?_
        refine nj_ret ?_
        walk_at "go"
        refine EN.ev (en_mapT (by decide) ?_)
        walk_at "go"
        refine ⟨_, fun d => .int (wt d : Nat), rfl, hl, fun x hx => et_yes ⟨rfl, ?_⟩, ?_⟩
        · walk_at "nm"
          walk_at "go"
          exact sp_j ⟨x, rfl, ht x hx, rfl⟩
        · rename_i es
          have e : es.map (fun d => Dt.int (wt d : Nat)) = (es.map fun d => (wt d : Int)).map Dt.int := by rw [List.map_map]; rfl
          rw [e]
          walk_at "go"
          refine sum_l ?_
          rw [wtL_sum]
          exact hD.rt _ hq
theorem ok__law_weight {P : Program} {w : World} {K : PySem.W.Frag} {mg : Str → Option Value} {base : Heap} (T : Txt K mg)  (n : Nat) : Cal P w K mg base (n + 1) "_law_weight" (sp__law_weight n K) [] := by
  induction n with
  | zero =>
    refine cal_pure T.f__law_weight sc__law_weight ?len fun f cdv A outer s H E hr => ⟨_, (pss_cons (ps_if (pt_not (pt_val (pe_callB call_isi (by rfl) T.b_isinstance (by decide +kernel) (pa_cons (pv 0) (pa_cons (pe_bltn (v := .ty "tuple") (by rfl) T.b_tuple (by decide +kernel) rfl) pa_nil))))) (pss_one (ps_ret pe_int)) pss_nil)
      pss_never), ?body⟩
    case' body => try dsimp only [cxD, cxOf]
    case len => rintro ds Q ⟨b, rfl, _⟩; rfl
    case body =>
      rintro ds Q ⟨d, rfl, h, hq⟩ hid H0 D dom hD
      show NJ _ _ _ _ [.im d, .un]
      cases h with
      | leaf hs =>
        refine q_when ?_
        walk_at "go"
        refine ⟨(kit_no hs).1, false, (kit_no hs).2, ?_⟩
        refine bl_yes rfl ?_
        refine nj_ret ?_
        walk_at "go"
        rw [wt_scalar hs] at hq
        exact hD.rt _ hq
  | succ n ih =>
    have c__law_weight := ih
    refine cal_pure T.f__law_weight sc__law_weight ?len fun f cdv A outer s H E hr => ⟨_, (pss_cons (ps_if (pt_not (pt_val (pe_callB call_isi (by rfl) T.b_isinstance (by decide +kernel) (pa_cons (pv 0) (pa_cons (pe_bltn (v := .ty "tuple") (by rfl) T.b_tuple (by decide +kernel) rfl) pa_nil))))) (pss_one (ps_ret pe_int)) pss_nil)
      (pss_one (ps_ret (pe_callB (cr_sum rfl) (by rfl) T.b_sum (by decide +kernel) (pa_cons (pe_lc (g := (gName 1)) (tt := tYes) (te := (tCall (sp__law_weight n K) [] E0 (tCons (tVar 1) tNil))) (own := [("_law_one", 1)]) rfl sc__law_weight.nd (pi_tup (pv 0)) (blkOk_by (N := ["_law_what_here", "_law_one"]) (sc := defScope s__law_weight) (by decide +kernel)) (fun _ _ _ _ _ => (pg_name (i := 1) sc__law_weight.nd rfl (Or.inl rfl))) (fun _ _ _ _ _ => pts_nil) (fun _ _ _ _ _ => (pe_c c__law_weight hr (Nat.le_refl _) (by rfl) (pa_cons (pv 1) pa_nil)))) pa_nil))))), ?body⟩
    case' body => try dsimp only [cxD, cxOf]
    case len => rintro ds Q ⟨b, rfl, _⟩; rfl
    case body =>
      rintro ds Q ⟨d, rfl, h, hq⟩ hid H0 D dom hD
      show NJ _ _ _ _ [.im d, .un]
      cases h with
      | leaf hs =>
        refine q_when ?_
        walk_at "go"
        refine ⟨(kit_no hs).1, false, (kit_no hs).2, ?_⟩
        refine bl_yes rfl ?_
        refine nj_ret ?_
        walk_at "go"
        rw [wt_scalar hs] at hq
        exact hD.rt _ hq
      | tup ht hl =>
        refine q_when ?_
        walk_at "go"
        refine ⟨rfl, true, kit_tup, ?_⟩
        refine bl_no rfl ?_
        refine nj_ret ?_
        walk_at "go"
        refine EN.ev (en_mapT (by decide) ?_)
        walk_at "go"
        refine ⟨_, fun d => .int (wt d : Nat), rfl, hl, fun x hx => et_yes ⟨rfl, ?_⟩, ?_⟩
        · walk_at "nm"
          walk_at "go"
          exact sp_j ⟨x, rfl, ht x hx, rfl⟩
        · rename_i es
          have e : es.map (fun d => Dt.int (wt d : Nat)) = (es.map fun d => (wt d : Int)).map Dt.int := by rw [List.map_map]; rfl
          rw [e]
          walk_at "go"
          refine sum_l ?_
          rw [wtL_sum]
          exact hD.rt _ hq
structure DkF where
  set : List Dt
  wai : List (Nat × Dt)
  left : Option Nat
  pk : List Bool
  dn : Bool
def optN : Option Nat → Dt
  | none => .non
  | some n => .int (n : Nat)
def wpD (q : Nat × Dt) : Dt := .tup [.int (q.1 : Nat), q.2]
abbrev bsD (bs : List Bool) : Dt := .lst (bs.map Dt.bl)
abbrev dkG (se wa : Addr) (s : DkF) : List (Str × RV) := [("settled", .ref se), ("waiting", .ref wa), ("left", .dat (optN s.left)), ("picks", .dat (bsD s.pk)), ("is_down", .dat (.bl s.dn))]
structure DiskF (K : PySem.W.Frag) (g : GT) (d se wa : Addr) (s : DkF) : Prop where
  ob : ∃ dx, g d = some (.ins (He.ga K "Disk") dx (dkG se wa s))
  hse : g se = some (.lst (dats s.set))
  hwa : g wa = some (.lst (dats (s.wai.map wpD)))
  len : s.set.length = 600
  n1 : d ≠ se
  n2 : d ≠ wa
  n3 : se ≠ wa
theorem DiskF.keep {K : PySem.W.Frag} {g g' : GT} {d se wa : Addr} {s : DkF} (h : DiskF K g d se wa s) (k : ∀ y u, g y = some u → y = d ∨ y = se ∨ y = wa → g' y = some u) : DiskF K g' d se wa s := by
  obtain ⟨dx, ho⟩ := h.ob
  exact ⟨⟨dx, k _ _ ho (.inl rfl)⟩, k _ _ h.hse (.inr (.inl rfl)), k _ _ h.hwa (.inr (.inr rfl)), h.len, h.n1, h.n2, h.n3⟩
abbrev decL (l : Option Nat) : Option Nat := l.map (· - 1)
theorem methF_no {m : Str} {se wa : Addr} {s : DkF} (h1 : (m == "settled") = false) (h2 : (m == "waiting") = false) (h3 : (m == "left") = false) (h4 : (m == "picks") = false) (h5 : (m == "is_down") = false) : (dkG se wa s).lookup m = none := by
  simp only [List.lookup_cons, h1, h2, h3, h4, h5, List.lookup_nil]
def setAll (l : List Dt) (ws : List (Nat × Dt)) : List Dt := ws.foldl (fun l q => l.set q.1 q.2) l
theorem setAll_len (ws : List (Nat × Dt)) : ∀ l : List Dt, (setAll l ws).length = l.length := by
  unfold setAll
  induction ws with
  | nil => intro l; rfl
  | cons q r ih => intro l; rw [List.foldl_cons, ih, List.length_set]
theorem setAll_snoc (l : List Dt) (ws : List (Nat × Dt)) (q : Nat × Dt) : setAll l (ws ++ [q]) = (setAll l ws).set q.1 q.2 := by
  unfold setAll
  rw [List.foldl_append]; rfl
theorem ix_ok {n b : Nat} (h : b < n) : ixN n ((b : Nat) : Int) = some b := by
  unfold ixN
  simp
  omega
def pickF (l : List Dt) (qs : List ((Nat × Dt) × Bool)) : List Dt := qs.foldl (fun l q => if q.2 = true then l.set q.1.1 q.1.2 else l) l
theorem pickF_snoc (l : List Dt) (qs : List ((Nat × Dt) × Bool)) (q : (Nat × Dt) × Bool) : pickF l (qs ++ [q]) = if q.2 = true then (pickF l qs).set q.1.1 q.1.2 else pickF l qs := by
  unfold pickF
  rw [List.foldl_append]; rfl
theorem pickF_len (l : List Dt) (qs : List ((Nat × Dt) × Bool)) : (pickF l qs).length = l.length := by
  unfold pickF
  induction qs generalizing l with
  | nil => rfl
  | cons q r ih =>
    rw [List.foldl_cons, ih]
    split
    · rw [List.length_set]
    · rfl
theorem take_at {α : Type} {l : List α} {i : Nat} {x : α} (h : l[i]? = some x) : l.take (i + 1) = l.take i ++ [x] := by
  rw [List.take_succ, h]; rfl
theorem rep_one (n : Nat) (d : Dt) : (List.replicate n [d]).flatten = List.replicate n d := by
  induction n with
  | zero => rfl
  | succ n ih => rw [List.replicate_succ, List.replicate_succ, List.flatten_cons, ih]; rfl
def newF : DkF := ⟨List.replicate 600 .non, [], none, [], false⟩
def stopF (s : DkF) (bs : List Bool) : DkF := ⟨pickF s.set (s.wai.zip bs), [], s.left, s.pk, true⟩
def deedF (s : DkF) : Bool × DkF := if s.dn = true then (false, s) else if s.left = some 0 then (false, stopF s s.pk) else (true, { s with left := decL s.left })
def writeF (s : DkF) (b : Int) (x : Dt) : Option Str × DkF := if 0 ≤ b ∧ b < 600 ∧ wt x ≤ 40 then (if (deedF s).1 = true then (none, { (deedF s).2 with wai := s.wai ++ [(b.toNat, x)] }) else (some "Stopped", (deedF s).2)) else (some "BadBlock", s)
def settleF (s : DkF) : Option Str × DkF := if (deedF s).1 = true then (none, { (deedF s).2 with set := setAll s.set s.wai, wai := [] }) else (some "Stopped", (deedF s).2)
def armF (s : DkF) (n : Nat) (bs : List Bool) : DkF := if s.dn = true then s else { s with left := some n, pk := bs }
def againF (s : DkF) : DkF := ⟨s.set, [], none, [], false⟩
def lastW (s : DkF) (b : Nat) : Dt := match s.wai.reverse.find? (fun q => decide (q.1 = b)) with
  | some q => q.2
  | none => s.set.getD b .non
def readT (s : DkF) (b : Int) : Option Str × Dt := if 0 ≤ b ∧ b < 600 then (if s.dn = true then (some "Stopped", .non) else (none, lastW s b.toNat)) else (some "BadBlock", .non)
def Out (K : PySem.W.Frag) (g : GT) (d se wa : Addr) (s' : DkF) (N : GT → Prop) : Prop := ∀ g' wa', DiskF K g' d se wa' s' → (wa' = wa ∨ g wa' = none) → (∀ y u, g y = some u → y ≠ d → y ≠ se → y ≠ wa → g' y = some u) → N g'
theorem Out.same {K : PySem.W.Frag} {g : GT} {d se wa : Addr} {s : DkF} {N : GT → Prop} (h : Out K g d se wa s N) (hd : DiskF K g d se wa s) : N g := h g wa hd (.inl rfl) fun _ _ hy _ _ _ => hy
def NoOr (Q : GT → RV → Prop) (R : GT → Str → Option Int → Prop) (o : Option Str) (g' : GT) : Prop := match o with
  | none => Q g' (.dat .non)
  | some nm => R g' nm none
def S_Disk___init__ (K : PySem.W.Frag) (g : GT) (rs : List RV) (Q : GT → RV → Prop) : Prop := ∃ x dx, rs = [.ref x] ∧ g x = some (.ins (He.ga K "Disk") dx []) ∧ ∀ g' se wa, DiskF K g' x se wa newF → g se = none → g wa = none → (∀ y u, g y = some u → y ≠ x → g' y = some u) → Q g' (.dat .non)
abbrev sp_Disk___init__ (K : PySem.W.Frag) : Sp := spR K (S_Disk___init__ K)
theorem ok_Disk___init__ {P : Program} {w : World} {K : PySem.W.Frag} {mg : Str → Option Value} {base : Heap} (T : Txt K mg)  : CalI P w K mg base CX0 1 (He.ga K "Disk") (sp_Disk___init__ K) := by
  refine cal_ir T.m_Disk___init__ sc_Disk___init__ ?len fun f cdv A outer s H E hr => ⟨_, (pss_cons (ps_fld (pv 0) (pe_op op_mulU (pe_lst (pa_cons pe_non pa_nil)) (pe_gc (by rfl) T.k_BLOCKS)) rfl)
      (pss_cons (ps_fld (pv 0) (pe_lst pa_nil) rfl)
      (pss_cons (ps_fld (pv 0) pe_non rfl)
      (pss_cons (ps_fld (pv 0) (pe_lst pa_nil) rfl)
      (pss_one (ps_fld (pv 0) pe_bl rfl)))))), ?body⟩
  case' body => try dsimp only [cxD, cxOf]
  case len => rintro g rs Q ⟨_, _, rfl, _⟩; rfl
  case body =>
    rintro X g rs Q ⟨x, dx, rfl, hx, hq⟩ hid H0 D dom hD
    show NJ _ _ _ _ [.rw (.ref x)]
    refine qr_fld (a := x) (C := He.ga K "Disk") (dx := dx) (evr_new (en_op ?_))
    refine EN.ev (en_lst ?_)
    walk_at "go"
    refine mul_l (by decide) (by decide) fun se hse => ?_
    have n1 : x ≠ se := fun z => by subst z; rw [hx] at hse; cases hse
    have e600 : (List.replicate (600 : Int).toNat [Dt.non]).flatten = List.replicate 600 .non := rep_one 600 .non
    rw [e600]
    refine ⟨erc_var rfl, [], by rw [setG_ne n1]; exact hx, T.cl_Disk, T.na_Disk_settled, by decide, fun fr1 => ?_⟩
    refine qr_fld (a := x) (C := He.ga K "Disk") (dx := dx) (evr_new (en_lst (ea_nil ⟨by decide, fun wa hwa => ?_⟩)))
    have n2 : x ≠ wa := fun z => by subst z; rw [setG_same] at hwa; cases hwa
    have n3 : se ≠ wa := fun z => by subst z; rw [setG_ne (Ne.symm n1), setG_same] at hwa; cases hwa
    have hwa0 : g wa = none := by rw [setG_ne (Ne.symm n2), setG_ne (Ne.symm n3)] at hwa; exact hwa
    refine ⟨erc_var rfl, [("settled", .ref se)], by rw [setG_ne n2, setG_same]; rfl, T.cl_Disk, T.na_Disk_waiting, (by show 1 < 1000; omega), fun fr2 => ?_⟩
    refine qr_fld (a := x) (C := He.ga K "Disk") (dx := dx) (evr (ev_non ?_))
    refine ⟨erc_var rfl, [("settled", .ref se), ("waiting", .ref wa)], by rw [setG_same]; rfl, T.cl_Disk, T.na_Disk_left, (by show 2 < 1000; omega), fun fr3 => ?_⟩
    refine qr_fld (a := x) (C := He.ga K "Disk") (dx := dx) (evr (EN.ev (en_lst (ea_nil ⟨by decide, ?_⟩))))
    refine ⟨erc_var rfl, [("settled", .ref se), ("waiting", .ref wa), ("left", .dat .non)], by rw [setG_same]; rfl, T.cl_Disk, T.na_Disk_picks, (by show 3 < 1000; omega), fun fr4 => ?_⟩
    refine njr_fld (a := x) (C := He.ga K "Disk") (dx := dx) (evr (ev_bl ?_))
    refine ⟨erc_var rfl, [("settled", .ref se), ("waiting", .ref wa), ("left", .dat .non), ("picks", .dat (.lst []))], by rw [setG_same]; rfl, T.cl_Disk, T.na_Disk_is_down, (by show 4 < 1000; omega), fun fr5 => ?_⟩
    refine hD.nx _ (hq _ se wa ⟨⟨dx, ?_⟩, ?_, ?_, rfl, n1, n2, n3⟩ hse hwa0 fun y u hy y1 => ?_) ((((fr1.trans fr2).trans fr3).trans fr4).trans fr5) _
    · rw [setG_same]; rfl
    · rw [setG_ne (Ne.symm n1), setG_ne (Ne.symm n1), setG_ne (Ne.symm n1), setG_ne (Ne.symm n1), setG_ne n3, setG_ne (Ne.symm n1), setG_same]; rfl
    · rw [setG_ne (Ne.symm n2), setG_ne (Ne.symm n2), setG_ne (Ne.symm n2), setG_ne (Ne.symm n2), setG_same]; rfl
    · rw [setG_ne y1, setG_ne y1, setG_ne y1, setG_ne y1, setG_ne (fun z => by rw [z, hwa0] at hy; cases hy), setG_ne y1, setG_ne (fun z => by rw [z, hse] at hy; cases hy)]
      exact hy
def S_Disk_need_block (g : GT) (rs : List RV) (Q : GT → RV → Prop) (R : GT → Str → Option Int → Prop) : Prop := ∃ (d : Addr) (b : Int), rs = [.ref d, .dat (.int b)] ∧ (0 ≤ b ∧ b < 600 → Q g (.dat .non)) ∧ (¬ (0 ≤ b ∧ b < 600) → R g "BadBlock" none)
abbrev sp_Disk_need_block (K : PySem.W.Frag) : Sp := spRY K S_Disk_need_block
theorem ok_Disk_need_block {P : Program} {w : World} {K : PySem.W.Frag} {mg : Str → Option Value} {base : Heap} (T : Txt K mg)  : CalM P w K mg base (L2.CX P w) 1 (He.ga K "Disk") "need_block" (sp_Disk_need_block K) := by
  refine cal_mry T.m_Disk_need_block sc_Disk_need_block ?len fun f cdv A outer s H E hr => ⟨_, (pss_one (ps_if (pt_not (pt_chain op_leU op_ltU pe_int (pv 1) (pe_gc (by rfl) T.k_BLOCKS))) (pss_one (ps_raise rfl (takes_of rfl rfl rfl rfl) (pmk_own PySem.F.excBase_ValueError T.x_BadBlock.q T.x_BadBlock.g T.x_BadBlock.k (raises_own T.x_BadBlock.b T.x_BadBlock.t) (by rfl)))) pss_nil)), ?body⟩
  case' body => try dsimp only [cxX, cxOf]
  case len => rintro g rs Q R ⟨_, _, rfl, _⟩; rfl
  case body =>
    rintro X g rs Q R ⟨d, b, rfl, hq, hr⟩ hid H0 D dom hD hR
    show NJ _ _ _ _ [.rw (.ref d), .im (.int b)]
    refine nj_when ?_
    walk_at "go"
    refine ⟨fun h0 => ?_, fun h0 => ?_⟩
    · have h0 := of_decide_eq_true h0
      walk_at "go"
      refine bl_twoN (fun h1 => ?_) (fun h1 => hD.nx _ (hq ⟨h0, h1⟩) .refl _)
      exact nj_raiseNW (hR g _ _ (hr fun z => h1 z.2) .refl)
    · have h0 := of_decide_eq_false h0
      refine bl_yes rfl ?_
      exact nj_raiseNW (hR g _ _ (hr fun z => h0 z.1) .refl)
def S_Disk_stop (K : PySem.W.Frag) (g : GT) (rs : List RV) (Q : GT → RV → Prop) : Prop := ∃ d se wa s, ∃ (bs : List Bool) (r : RV), rs = [.ref d, r] ∧ (r = .dat (bsD bs) ∨ ∃ h, r = .ref h ∧ g h = some (.lst (dats (bs.map Dt.bl)))) ∧ DiskF K g d se wa s ∧ (∀ q ∈ s.wai, q.1 < 600) ∧ Out K g d se wa (stopF s bs) fun g' => Q g' (.dat .non)
abbrev sp_Disk_stop (K : PySem.W.Frag) : Sp := spR K (S_Disk_stop K)
theorem ok_Disk_stop {P : Program} {w : World} {K : PySem.W.Frag} {mg : Str → Option Value} {base : Heap} (T : Txt K mg)  : CalM P w K mg base CX0 1 (He.ga K "Disk") "stop" (sp_Disk_stop K) := by
  refine cal_mr T.m_Disk_stop sc_Disk_stop ?len fun f cdv A outer s H E hr => ⟨_, (pss_cons (ps_for PassesOwn.never rfl (pi_zip (by rfl) T.b_zip (pa_cons (pe_fld (pv 0) rfl) (pa_cons (pe_callTy cl_list (by rfl) T.b_list (by decide +kernel) (pa_cons (pv 1) pa_nil)) pa_nil))) (pg_tup rfl (pgs_cons (pg_tup rfl (pgs_cons (pg_name (i := 3) sc_Disk_stop.nd rfl (Or.inl rfl)) (pgs_cons (pg_name (i := 4) sc_Disk_stop.nd rfl (Or.inl rfl)) pgs_nil))) (pgs_cons (pg_name (i := 2) sc_Disk_stop.nd rfl (Or.inl rfl)) pgs_nil))) (pss_one (ps_if (pt_val (pv 2)) (pss_one (ps_asg (pv 4) (pg_sub (pe_fld (pv 0) rfl) (pv 3) set_list))) pss_nil)))
      (pss_cons (ps_fld (pv 0) (pe_lst pa_nil) rfl)
      (pss_one (ps_fld (pv 0) pe_bl rfl)))), ?body⟩
  case' body => try dsimp only [cxD, cxOf]
  case len => rintro g rs Q ⟨_, _, _, _, _, _, rfl, _⟩; rfl
  case body =>
    rintro X g rs Q ⟨d, se, wa, s, bs, r, rfl, hr, hd, hws, hq⟩ hid H0 D dom hD
    obtain ⟨dx, ho⟩ := hd.ob
    show NJ _ _ _ _ [.rw (.ref d), slR r, .un, .un, .un]
    have hlist : ∀ {Q : GT → RV → Prop}, (∀ o, g o = none → Q (setG g o (.lst (dats (bs.map Dt.bl)))) (.ref o)) → EVR X g (tCB (rListU K) (tCons (tVar 1) tNil)) [.rw (.ref d), slR r, .un, .un, .un] Q := fun {Q} h => by
      rcases hr with rfl | ⟨h2, rfl, hh⟩
      · exact evr_new (en_cb (ea_cons (ev_var rfl (ea_nil (list_l h)))))
      · exact evr_new (en_listT (erc_var rfl) hh h)
    refine qr_forZ (eag_cons (evr_ref (erc_fldT (erc_var rfl) ho T.cl_Disk T.na_Disk_waiting rfl) (eag_cons (hlist fun o ho2 => ?_))))
    have hwa := hd.hwa
    have hwo : wa ≠ o := fun z => by rw [← z, hwa] at ho2; cases ho2
    have hso : se ≠ o := fun z => by rw [← z, hd.hse] at ho2; cases ho2
    have hdo : d ≠ o := fun z => by rw [← z, ho] at ho2; cases ho2
    refine eag_nil ⟨wa, o, _, _, fun i g' ρ' => g' o = some (.lst (dats (bs.map Dt.bl))) ∧ g' d = some (.ins (He.ga K "Disk") dx (dkG se wa s)) ∧ g' wa = some (.lst (dats (s.wai.map wpD))) ∧ g' se = some (.lst (dats (pickF s.set ((s.wai.zip bs).take i)))) ∧ (∀ y, y ≠ se → y ≠ o → g' y = g y) ∧ ρ' = [.rw (.ref d), slR r, .un, .un, .un], rfl, (setG_ne hwo).trans hwa, setG_same, fun fr1 => ⟨setG_same, (setG_ne hdo).trans ho, (setG_ne hwo).trans hwa, (setG_ne hso).trans hd.hse, fun y _ y2 => setG_ne y2, rfl⟩, fun i g' ρ' h => ⟨h.2.2.1, h.1⟩, ?_, ?_⟩
    · rintro i x y g' ρ' hx hy ⟨h1, h2, h3, h4, h5, rfl⟩ fr2
      rw [List.getElem?_map] at hx hy
      obtain ⟨q, hq1, rfl⟩ := Option.map_eq_some_iff.mp hx
      obtain ⟨b, hb1, rfl⟩ := Option.map_eq_some_iff.mp hy
      have hz : (s.wai.zip bs)[i]? = some (q, b) := by rw [List.getElem?_zip_eq_some]; exact ⟨hq1, hb1⟩
      have hq6 := hws q (List.mem_of_getElem? hq1)
      refine tg_tup rfl (tgs_tup rfl (tgsc_name (tgsc_name (tgsc_nil (tgs_name (tgs_nil ?_))))))
      walk_at "nm"
      refine nj_when (etj (et_B (ev_var rfl (blJ ⟨fun e => ?_, fun e => ?_⟩))))
      · refine njr_setL (b := se) (evr (ev_var rfl ⟨erc_fldT (erc_var rfl) h2 T.cl_Disk T.na_Disk_settled rfl, _, h4, ev_var rfl ⟨q.1, ix_ok (by unfold dats; rw [List.length_map, pickF_len, hd.len]; exact hq6), fun fr3 => ?_⟩⟩))
        refine njm_nxw _ ⟨(setG_ne (Ne.symm hso)).trans h1, (setG_ne hd.n1).trans h2, (setG_ne (Ne.symm hd.n3)).trans h3, ?_, fun y y1 y2 => (setG_ne y1).trans (h5 y y1 y2), rfl⟩ (fr2.trans fr3) (by walk_at "le")
        rw [setG_same, take_at hz, pickF_snoc, if_pos e]
        unfold dats
        rw [← List.map_set]
      · refine njm_nxw _ ⟨h1, h2, h3, ?_, h5, rfl⟩ fr2 (by walk_at "le")
        rw [take_at hz, pickF_snoc, if_neg (by rw [e]; exact Bool.false_ne_true)]
        exact h4
    · rintro g' ρ' ⟨h1, h2, h3, h4, h5, rfl⟩ fr2
      have hn : min (s.wai.map wpD).length (bs.map Dt.bl).length = (s.wai.zip bs).length := by rw [List.length_map, List.length_map, List.length_zip]
      rw [hn, List.take_length] at h4
      refine qr_fld (a := d) (C := He.ga K "Disk") (dx := dx) (evr_new (en_lst (ea_nil ⟨by decide, fun wa' hwa' => ?_⟩)))
      have m1 : d ≠ wa' := fun z => by subst z; rw [h2] at hwa'; cases hwa'
      have m2 : se ≠ wa' := fun z => by subst z; rw [h4] at hwa'; cases hwa'
      refine ⟨erc_var rfl, _, (setG_ne m1).trans h2, T.cl_Disk, T.na_Disk_waiting, (by show 5 < 1000; omega), fun fr3 => ?_⟩
      refine njr_fld (a := d) (C := He.ga K "Disk") (dx := dx) (evr (ev_bl ?_))
      refine ⟨erc_var rfl, _, setG_same, T.cl_Disk, T.na_Disk_is_down, (by show 5 < 1000; omega), fun fr4 => ?_⟩
      have hw0 : g wa' = none := by
        by_cases z : wa' = o
        · rw [z]; exact ho2
        · rw [← h5 wa' (Ne.symm m2) z]; exact hwa'
      refine hD.nx _ (hq _ wa' ⟨⟨dx, ?_⟩, ?_, ?_, ?_, hd.n1, m1, m2⟩ (.inr hw0) fun y u hy y1 y2 _ => ?_) ((fr2.trans fr3).trans fr4) _
      · rw [setG_same]; rfl
      · rw [setG_ne (Ne.symm hd.n1), setG_ne (Ne.symm hd.n1), setG_ne m2]; exact h4
      · rw [setG_ne (Ne.symm m1), setG_ne (Ne.symm m1), setG_same]; rfl
      · show (pickF _ _).length = 600; rw [pickF_len]; exact hd.len
      · rw [setG_ne y1, setG_ne y1, setG_ne (fun z => by rw [z, hw0] at hy; cases hy), h5 y y2 (fun z => by rw [z, ho2] at hy; cases hy)]
        exact hy
def S_Disk_again (K : PySem.W.Frag) (g : GT) (rs : List RV) (Q : GT → RV → Prop) : Prop := ∃ d se wa s, rs = [.ref d] ∧ DiskF K g d se wa s ∧ Out K g d se wa (againF s) fun g' => Q g' (.dat .non)
abbrev sp_Disk_again (K : PySem.W.Frag) : Sp := spR K (S_Disk_again K)
theorem ok_Disk_again {P : Program} {w : World} {K : PySem.W.Frag} {mg : Str → Option Value} {base : Heap} (T : Txt K mg)  : CalM P w K mg base CX0 1 (He.ga K "Disk") "again" (sp_Disk_again K) := by
  refine cal_mr T.m_Disk_again sc_Disk_again ?len fun f cdv A outer s H E hr => ⟨_, (pss_cons (ps_fld (pv 0) (pe_lst pa_nil) rfl)
      (pss_cons (ps_fld (pv 0) pe_non rfl)
      (pss_cons (ps_fld (pv 0) (pe_lst pa_nil) rfl)
      (pss_one (ps_fld (pv 0) pe_bl rfl))))), ?body⟩
  case' body => try dsimp only [cxD, cxOf]
  case len => rintro g rs Q ⟨_, _, _, _, rfl, _⟩; rfl
  case body =>
    rintro X g rs Q ⟨d, se, wa, s, rfl, hd, hq⟩ hid H0 D dom hD
    obtain ⟨dx, ho⟩ := hd.ob
    show NJ _ _ _ _ [.rw (.ref d)]
    refine qr_fld (a := d) (C := He.ga K "Disk") (dx := dx) (evr_new (en_lst (ea_nil ⟨by decide, fun wa' hwa' => ?_⟩)))
    have m1 : d ≠ wa' := fun z => by subst z; rw [ho] at hwa'; cases hwa'
    have m2 : se ≠ wa' := fun z => by subst z; rw [hd.hse] at hwa'; cases hwa'
    refine ⟨erc_var rfl, _, (setG_ne m1).trans ho, T.cl_Disk, T.na_Disk_waiting, (by show 5 < 1000; omega), fun fr1 => ?_⟩
    refine qr_fld (a := d) (C := He.ga K "Disk") (dx := dx) (evr (ev_non ?_))
    refine ⟨erc_var rfl, _, setG_same, T.cl_Disk, T.na_Disk_left, (by show 5 < 1000; omega), fun fr2 => ?_⟩
    refine qr_fld (a := d) (C := He.ga K "Disk") (dx := dx) (evr (EN.ev (en_lst (ea_nil ⟨by decide, ?_⟩))))
    refine ⟨erc_var rfl, _, setG_same, T.cl_Disk, T.na_Disk_picks, (by show 5 < 1000; omega), fun fr3 => ?_⟩
    refine njr_fld (a := d) (C := He.ga K "Disk") (dx := dx) (evr (ev_bl ?_))
    refine ⟨erc_var rfl, _, setG_same, T.cl_Disk, T.na_Disk_is_down, (by show 5 < 1000; omega), fun fr4 => ?_⟩
    refine hD.nx _ (hq _ wa' ⟨⟨dx, ?_⟩, ?_, ?_, hd.len, hd.n1, m1, m2⟩ (.inr hwa') fun y u hy y1 _ _ => ?_) (((fr1.trans fr2).trans fr3).trans fr4) _
    · rw [setG_same]; rfl
    · rw [setG_ne (Ne.symm hd.n1), setG_ne (Ne.symm hd.n1), setG_ne (Ne.symm hd.n1), setG_ne (Ne.symm hd.n1), setG_ne m2]; exact hd.hse
    · rw [setG_ne (Ne.symm m1), setG_ne (Ne.symm m1), setG_ne (Ne.symm m1), setG_ne (Ne.symm m1), setG_same]; rfl
    · rw [setG_ne y1, setG_ne y1, setG_ne y1, setG_ne y1, setG_ne (fun z => by rw [z, hwa'] at hy; cases hy)]
      exact hy
def S_Disk_blocks (K : PySem.W.Frag) (g : GT) (rs : List RV) (Q : GT → RV → Prop) : Prop := ∃ d se wa s, rs = [.ref d] ∧ DiskF K g d se wa s ∧ ∀ o, g o = none → Q (setG g o (.lst (dats s.set))) (.ref o)
abbrev sp_Disk_blocks (K : PySem.W.Frag) : Sp := spR K (S_Disk_blocks K)
theorem ok_Disk_blocks {P : Program} {w : World} {K : PySem.W.Frag} {mg : Str → Option Value} {base : Heap} (T : Txt K mg)  : CalM P w K mg base CX0 1 (He.ga K "Disk") "blocks" (sp_Disk_blocks K) := by
  refine cal_mr T.m_Disk_blocks sc_Disk_blocks ?len fun f cdv A outer s H E hr => ⟨_, (pss_one (ps_ret (pe_callTy cl_list (by rfl) T.b_list (by decide +kernel) (pa_cons (pe_fld (pv 0) rfl) pa_nil)))), ?body⟩
  case' body => try dsimp only [cxD, cxOf]
  case len => rintro g rs Q ⟨_, _, _, _, rfl, _⟩; rfl
  case body =>
    rintro X g rs Q ⟨d, se, wa, s, rfl, hd, hq⟩ hid H0 D dom hD
    obtain ⟨dx, ho⟩ := hd.ob
    show NJ _ _ _ _ [.rw (.ref d)]
    exact njr_ret (evr_new (en_listT (erc_fldT (erc_var rfl) ho T.cl_Disk T.na_Disk_settled rfl) hd.hse fun o ho2 fr => hD.rt _ _ (hq o ho2) fr))
end
section
open PySem PySem.Spec PyProof.Rows L2
open C8 (Cal pe_c pe_gc)
def DeedO (K : PySem.W.Frag) (g : GT) (d se wa : Addr) (p : Option Str × DkF) (Q : GT → RV → Prop) (R : GT → Str → Option Int → Prop) : Prop := Out K g d se wa p.2 (NoOr Q R p.1)
def deedO (s : DkF) : Option Str × DkF := if (deedF s).1 = true then (none, (deedF s).2) else (some "Stopped", (deedF s).2)
def S_Disk_deed (K : PySem.W.Frag) (g : GT) (rs : List RV) (Q : GT → RV → Prop) (R : GT → Str → Option Int → Prop) : Prop := ∃ d se wa s, rs = [.ref d] ∧ DiskF K g d se wa s ∧ (∀ q ∈ s.wai, q.1 < 600) ∧ DeedO K g d se wa (deedO s) Q R
abbrev sp_Disk_deed (K : PySem.W.Frag) : Sp := spRY K (S_Disk_deed K)
theorem ok_Disk_deed {P : Program} {w : World} {K : PySem.W.Frag} {mg : Str → Option Value} {base : Heap} (T : Txt K mg) (c_Disk_stop : CalM P w K mg base CX0 1 (He.ga K "Disk") "stop" (sp_Disk_stop K)) : CalM P w K mg base (L2.CX P w) 2 (He.ga K "Disk") "deed" (sp_Disk_deed K) := by
  refine cal_mry T.m_Disk_deed sc_Disk_deed ?len fun f cdv A outer s H E hr => ⟨_, (pss_cons (ps_if ((pw_and (pt_cmpR (op_eqU hr.units) (pe_fld (pv 0) rfl) pe_int (nomark _)) (pw_and1 (pt_not (pt_val (pe_fld (pv 0) rfl)))))).pt (pss_one (ps_expr (pe_mt c_Disk_stop hr (by decide) T.cl_Disk (pv 0) (pa_cons (pe_fld (pv 0) rfl) pa_nil)))) pss_nil)
      (pss_cons (ps_if (pt_val (pe_fld (pv 0) rfl)) (pss_one (ps_raise rfl (takes_of rfl rfl rfl rfl) (pmk_own PySem.F.excBase_ValueError T.x_Stopped.q T.x_Stopped.g T.x_Stopped.k (raises_own T.x_Stopped.b T.x_Stopped.t) (by rfl)))) pss_nil)
      (pss_one (ps_if (pt_cmpR op_isNotU (pe_fld (pv 0) rfl) pe_non (nomark _)) (pss_one (ps_fld (pv 0) (pe_op op_subU (pe_fld (pv 0) rfl) pe_int) rfl)) pss_nil)))), ?body⟩
  case' body => try dsimp only [cxX, cxOf]
  case len => rintro g rs Q R ⟨_, _, _, _, rfl, _⟩; rfl
  case body =>
    rintro X g rs Q R ⟨d, se, wa, s, rfl, hd, hw, hq⟩ hid H0 D dom hD hR
    obtain ⟨dx, ho⟩ := hd.ob
    show NJ _ _ _ _ [.rw (.ref d)]
    have fl : ∀ {Q : Dt → Prop}, Q (optN s.left) → EV (ct X g) (tFld K (tVar 0) "left") [.rw (.ref d)] Q := fun h => ev_fldT (erc_var rfl) ho T.cl_Disk T.na_Disk_left rfl h
    have fd : ∀ {Q : Dt → Prop}, Q (.bl s.dn) → EV (ct X g) (tFld K (tVar 0) "is_down") [.rw (.ref d)] Q := fun h => ev_fldT (erc_var rfl) ho T.cl_Disk T.na_Disk_is_down rfl h
    unfold DeedO deedO deedF at hq
    cases hdn : s.dn with
    | true =>
      rw [hdn] at fd
      simp only [hdn, if_true, Bool.false_eq_true, if_false] at hq
      have hr := hR g _ _ (hq.same hd) .refl
      cases hl : s.left with
      | none =>
        rw [hl] at fl
        refine q_when (etj (et_and (et_test (ev_op (fl (ev_int ?_))))))
        refine eq_d (n := 1) (m := 1) .non (.int 0) (by decide) (by decide) ?_
        refine blJ ⟨fun z => absurd z (by decide), fun _ => bl_no rfl ?_⟩
        refine q_when (etj (et_B (fd (blJ (bl_yes rfl ?_)))))
        exact nj_raiseNW hr
      | some n =>
        rw [hl] at fl
        refine q_when (etj (et_and (et_test (ev_op (fl (ev_int ?_))))))
        show R2J _ _ (.int (n : Nat)) _ _
        refine eq_i (blJ ⟨fun z => ?_, fun z => bl_no rfl ?_⟩)
        · refine et_not (et_B (fd (blJ (bl_no rfl ?_))))
          refine q_when (etj (et_B (fd (blJ (bl_yes rfl ?_)))))
          exact nj_raiseNW hr
        · refine q_when (etj (et_B (fd (blJ (bl_yes rfl ?_)))))
          exact nj_raiseNW hr
    | false =>
      rw [hdn] at fd
      simp only [hdn, Bool.false_eq_true, if_false] at hq
      cases hl : s.left with
      | none =>
        rw [hl] at fl
        simp only [hl, reduceCtorEq, if_false, if_true] at hq
        refine q_when (etj (et_and (et_test (ev_op (fl (ev_int ?_))))))
        refine eq_d (n := 1) (m := 1) .non (.int 0) (by decide) (by decide) ?_
        refine blJ ⟨fun z => absurd z (by decide), fun _ => bl_no rfl ?_⟩
        refine q_when (etj (et_B (fd (blJ (bl_no rfl ?_)))))
        refine nj_when (etj (et_test (ev_op (fl (ev_non (isnot_n ?_))))))
        refine blJ (bl_no rfl ?_)
        refine hD.nx _ (hq.same ?_) .refl _
        have : (⟨s.set, s.wai, decL none, s.pk, false⟩ : DkF) = s := by cases s; simp only at hl hdn; subst hl; subst hdn; rfl
        rw [this]
        exact hd
      | some n =>
        rw [hl] at fl
        refine q_when (etj (et_and (et_test (ev_op (fl (ev_int ?_))))))
        show R2J _ _ (.int (n : Nat)) _ _
        refine eq_i (blJ ⟨fun z => ?_, fun z => bl_no rfl ?_⟩)
        · have hn : n = 0 := by have := of_decide_eq_true z; omega
          subst hn
          simp only [hl, if_true, Bool.false_eq_true, if_false] at hq
          refine et_not (et_B (fd (blJ (bl_yes rfl ?_))))
          refine njr_drop (evr_meth (erc_var rfl) ho (methF_no (by decide) (by decide) (by decide) (by decide) (by decide)) (ear_dat (ev_fldT (erc_var rfl) ho T.cl_Disk T.na_Disk_picks rfl (ear_nil ⟨d, se, wa, s, s.pk, _, rfl, .inl rfl, hd, hw, fun g1 wa1 hd1 hw1 k1 fr1 => ?_⟩))))
          obtain ⟨dx1, ho1⟩ := hd1.ob
          dsimp only
          refine q_when (etj (et_B (ev_fldT (erc_var rfl) ho1 T.cl_Disk T.na_Disk_is_down rfl (blJ (bl_yes rfl ?_)))))
          exact nj_raiseNW (hR g1 _ _ (hq g1 wa1 hd1 hw1 k1) fr1)
        · have hn : n ≠ 0 := fun w => by rw [w] at z; exact absurd z (by decide)
          simp only [hl, Option.some.injEq, hn, if_true, if_false] at hq
          refine q_when (etj (et_B (fd (blJ (bl_no rfl ?_)))))
          refine nj_when (etj (et_test (ev_op (fl (ev_non (isnot_n ?_))))))
          refine blJ (bl_yes rfl ?_)
          refine njr_fld (a := d) (C := He.ga K "Disk") (dx := dx) (evr (ev_op (fl (ev_int (sub_i ?_)))))
          refine ⟨erc_var rfl, _, ho, T.cl_Disk, T.na_Disk_left, (by show 5 < 1000; omega), fun fr => ?_⟩
          refine hD.nx _ (hq _ wa ⟨⟨dx, ?_⟩, ?_, ?_, hd.len, hd.n1, hd.n2, hd.n3⟩ (.inl rfl) fun y u hy y1 _ _ => by rw [setG_ne y1]; exact hy) fr _
          · rw [setG_same]
            show some (MT.ins _ _ [_, _, ("left", .dat (.int (((n : Nat) : Int) - 1))), _, _]) = some (MT.ins _ _ [_, _, ("left", .dat (.int ((n - 1 : Nat) : Int))), _, _])
            rw [show ((n : Nat) : Int) - 1 = ((n - 1 : Nat) : Int) by omega, hdn]
          · rw [setG_ne (Ne.symm hd.n1)]; exact hd.hse
          · rw [setG_ne (Ne.symm hd.n2)]; exact hd.hwa
theorem deedO_wai (s : DkF) (h : (deedF s).1 = true) : (deedF s).2 = { s with left := decL s.left } := by
  unfold deedF at h ⊢
  split at h
  · cases h
  · split at h
    · cases h
    · rename_i h1 h2; rw [if_neg h1, if_neg h2]
def S_Disk_write (K : PySem.W.Frag) (g : GT) (rs : List RV) (Q : GT → RV → Prop) (R : GT → Str → Option Int → Prop) : Prop := ∃ d se wa s, ∃ (b : Int) (x : Dt), rs = [.ref d, .dat (.int b), .dat x] ∧ DiskF K g d se wa s ∧ (∀ q ∈ s.wai, q.1 < 600) ∧ s.wai.length ≤ 10000 ∧ TD 6 x ∧ DeedO K g d se wa (writeF s b x) Q R
abbrev sp_Disk_write (K : PySem.W.Frag) : Sp := spRY K (S_Disk_write K)
theorem ok_Disk_write {P : Program} {w : World} {K : PySem.W.Frag} {mg : Str → Option Value} {base : Heap} (T : Txt K mg) (c_Disk_need_block : CalM P w K mg base (L2.CX P w) 1 (He.ga K "Disk") "need_block" (sp_Disk_need_block K)) (c_weight_of : Cal P w K mg base 7 "weight_of" (sp_weight_of 6 K) []) (c_Disk_deed : CalM P w K mg base (L2.CX P w) 2 (He.ga K "Disk") "deed" (sp_Disk_deed K)) : CalM P w K mg base (L2.CX P w) 8 (He.ga K "Disk") "write" (sp_Disk_write K) := by
  refine cal_mry T.m_Disk_write sc_Disk_write ?len fun f cdv A outer s H E hr => ⟨_, (pss_cons (ps_expr (pe_mtX c_Disk_need_block hr (by decide) T.cl_Disk (takes_of rfl rfl rfl rfl) (pv 0) (pa_cons (pv 1) pa_nil)))
      (pss_cons (ps_if (pt_cmpR op_gtU (pe_c c_weight_of hr (by decide) (by rfl) (pa_cons (pv 2) pa_nil)) (pe_gc (by rfl) T.k_MOST_WEIGHT) (nomark _)) (pss_one (ps_raise rfl (takes_of rfl rfl rfl rfl) (pmk_own PySem.F.excBase_ValueError T.x_BadBlock.q T.x_BadBlock.g T.x_BadBlock.k (raises_own T.x_BadBlock.b T.x_BadBlock.t) (by rfl)))) pss_nil)
      (pss_cons (ps_expr (pe_mtX0 c_Disk_deed hr (by decide) T.cl_Disk (takes_of rfl rfl rfl rfl) (pv 0) ))
      (pss_one (ps_expr (pe_bm PySem.F.plainAttrs_list PySem.F.slot_list_append PySem.F.type_list_append mt_append (pe_fld (pv 0) rfl) (pa_cons (pe_tup (pa_cons (pv 1) (pa_cons (pv 2) pa_nil))) pa_nil))))))), ?body⟩
  case' body => try dsimp only [cxX, cxOf]
  case len => rintro g rs Q R ⟨_, _, _, _, _, _, rfl, _⟩; rfl
  case body =>
    rintro X g rs Q R ⟨d, se, wa, s, b, x, rfl, hd, hws, hwl, ht, hq⟩ hid H0 D dom hD hR
    obtain ⟨dx, ho⟩ := hd.ob
    show NJ _ _ _ _ [.rw (.ref d), .im (.int b), .im x]
    unfold DeedO writeF at hq
    by_cases hb : 0 ≤ b ∧ b < 600
    · refine qr_drop (evr_methN (erc_var rfl) ho (methF_no (by decide) (by decide) (by decide) (by decide) (by decide)) (ear_dat (ev_var rfl (ear_nil ⟨d, b, rfl, fun _ fr1 => ?_, fun z => z hb⟩))))
      refine q_when ?_
      walk_at "go"
      refine sp_j (S := S_weight_of 6) ⟨_, rfl, ht, ?_⟩
      walk_at "go"
      refine bl_two (fun hw => ?_) (fun hw => ?_)
      · rw [if_neg (fun z => by omega)] at hq
        exact nj_raiseNW (hR g _ _ (hq.same hd) fr1)
      rw [if_pos ⟨hb.1, hb.2, by omega⟩] at hq
      refine qz_drop (evz_meth (erc_var rfl) ho (methF_no (by decide) (by decide) (by decide) (by decide) (by decide)) (ear_nil ⟨R, ⟨d, se, wa, s, rfl, hd, hws, ?_⟩, fun g1 nm pl h1 h2 => hR g1 nm pl h1 (fr1.trans h2)⟩))
      unfold DeedO deedO
      by_cases hf : (deedF s).1 = true
      · rw [if_pos hf] at hq ⊢
        intro g1 wa1 hd1 hw1 k1
        rw [deedO_wai s hf] at hq hd1
        intro fr2
        obtain ⟨dx1, ho1⟩ := hd1.ob
        refine njr_app (erc_fldT (erc_var rfl) ho1 T.cl_Disk T.na_Disk_waiting rfl) hd1.hwa (evr ?_)
        walk_at "go"
        refine ⟨_, hd1.hwa, by rw [List.length_map, List.length_map]; show s.wai.length < _; omega, fun fr3 => ?_⟩
        refine hD.nx _ (hq _ wa1 ⟨⟨dx1, ?_⟩, ?_, ?_, hd1.len, hd1.n1, hd1.n2, hd1.n3⟩ hw1 fun y u hy y1 y2 y3 => ?_) ((fr1.trans fr2).trans fr3) _
        · rw [setG_ne hd1.n2]; exact ho1
        · rw [setG_ne hd1.n3]; exact hd1.hse
        · rw [setG_same]
          obtain ⟨n, rfl⟩ := Int.eq_ofNat_of_zero_le hb.1
          show some (MT.lst (dats (s.wai.map wpD) ++ [.dat (wpD (n, x))])) = _
          unfold dats
          rw [List.map_append, List.map_append]; rfl
        · rw [setG_ne (fun z => by
            rcases hw1 with w | w
            · exact y3 (z.trans w)
            · rw [z, w] at hy; cases hy), k1 y u hy y1 y2 y3]
      · rw [if_neg hf] at hq ⊢
        exact hq
    · rw [if_neg (fun z => hb ⟨z.1, z.2.1⟩)] at hq
      refine qz_drop (evz_meth (erc_var rfl) ho (methF_no (by decide) (by decide) (by decide) (by decide) (by decide)) (ear_dat (ev_var rfl (ear_nil ⟨R, ⟨d, b, rfl, fun z => (hb z).elim, fun _ => hq.same hd⟩, hR⟩))))
def S_Disk_settle (K : PySem.W.Frag) (g : GT) (rs : List RV) (Q : GT → RV → Prop) (R : GT → Str → Option Int → Prop) : Prop := ∃ d se wa s, rs = [.ref d] ∧ DiskF K g d se wa s ∧ (∀ q ∈ s.wai, q.1 < 600) ∧ DeedO K g d se wa (settleF s) Q R
abbrev sp_Disk_settle (K : PySem.W.Frag) : Sp := spRY K (S_Disk_settle K)
theorem ok_Disk_settle {P : Program} {w : World} {K : PySem.W.Frag} {mg : Str → Option Value} {base : Heap} (T : Txt K mg) (c_Disk_deed : CalM P w K mg base (L2.CX P w) 2 (He.ga K "Disk") "deed" (sp_Disk_deed K)) : CalM P w K mg base (L2.CX P w) 3 (He.ga K "Disk") "settle" (sp_Disk_settle K) := by
  refine cal_mry T.m_Disk_settle sc_Disk_settle ?len fun f cdv A outer s H E hr => ⟨_, (pss_cons (ps_expr (pe_mtX0 c_Disk_deed hr (by decide) T.cl_Disk (takes_of rfl rfl rfl rfl) (pv 0) ))
      (pss_cons (ps_for PassesOwn.leaving rfl (pi_list (pe_fld (pv 0) rfl)) (pg_tup rfl (pgs_cons (pg_name (i := 1) sc_Disk_settle.nd rfl (Or.inl rfl)) (pgs_cons (pg_name (i := 2) sc_Disk_settle.nd rfl (Or.inl rfl)) pgs_nil))) (pss_one (ps_asg (pv 2) (pg_sub (pe_fld (pv 0) rfl) (pv 1) set_list))))
      (pss_one (ps_fld (pv 0) (pe_lst pa_nil) rfl)))), ?body⟩
  case' body => try dsimp only [cxX, cxOf]
  case len => rintro g rs Q R ⟨_, _, _, _, rfl, _⟩; rfl
  case body =>
    rintro X g rs Q R ⟨d, se, wa, s, rfl, hd, hws, hq⟩ hid H0 D dom hD hR
    obtain ⟨dx, ho⟩ := hd.ob
    show NJ _ _ _ _ [.rw (.ref d), .un, .un]
    unfold DeedO settleF at hq
    refine qz_drop (evz_meth (erc_var rfl) ho (methF_no (by decide) (by decide) (by decide) (by decide) (by decide)) (ear_nil ⟨R, ⟨d, se, wa, s, rfl, hd, hws, ?_⟩, hR⟩))
    unfold DeedO deedO
    by_cases hf : (deedF s).1 = true
    · rw [if_pos hf] at hq ⊢
      intro g1 wa1 hd1 hw1 k1
      rw [deedO_wai s hf] at hq hd1
      intro fr1
      obtain ⟨dx1, ho1⟩ := hd1.ob
      refine qr_forR (rs := dats (s.wai.map wpD)) (w_list (erc_fldT (erc_var rfl) ho1 T.cl_Disk T.na_Disk_waiting rfl) hd1.hwa) (fun i g' ρ' => DiskF K g' d se wa1 ⟨setAll s.set (s.wai.take i), s.wai, decL s.left, s.pk, s.dn⟩ ∧ (∀ y, y ≠ d → y ≠ se → g' y = g1 y) ∧ ρ' = [.rw (.ref d), .un, .un]) ⟨hd1, (fun y _ _ => rfl), rfl⟩ (fun i g' ρ' h => itr_list h.1.hwa) ?_ ?_
      · rintro i r g' ρ' hi ⟨hd2, k2, rfl⟩ fr2
        have hi : (dats (s.wai.map wpD))[i]? = some r := hi
        unfold dats at hi
        rw [List.getElem?_map, List.getElem?_map] at hi
        cases hq' : s.wai[i]? with
        | none => rw [hq'] at hi; cases hi
        | some q =>
          rw [hq'] at hi
          cases hi
          obtain ⟨dx2, ho2⟩ := hd2.ob
          refine tgr_dat (tg_tup rfl (tgs_name (tgs_name (tgs_nil ?_))))
          walk_at "nm"
          refine njr_setL (b := se) (evr (ev_var rfl ?_))
          refine ⟨erc_fldT (erc_var rfl) ho2 T.cl_Disk T.na_Disk_settled rfl, _, hd2.hse, ev_var rfl ?_⟩
          refine ⟨q.1, ix_ok (by rw [List.length_map, hd2.len]; exact hws q (List.mem_of_getElem? hq')), fun fr3 => ?_⟩
          refine njm_nxw _ ⟨⟨⟨dx2, ?_⟩, ?_, ?_, ?_, hd2.n1, hd2.n2, hd2.n3⟩, fun y y1 y2 => ?_, rfl⟩ (fr2.trans fr3) ?_
          · rw [setG_ne hd2.n1]; exact ho2
          · rw [setG_same, take_at hq', setAll_snoc]
            unfold dats
            rw [← List.map_set]
          · rw [setG_ne (Ne.symm hd2.n3)]; exact hd2.hwa
          · show (setAll _ _).length = 600; rw [setAll_len]; exact hd.len
          · rw [setG_ne y2, k2 y y1 y2]
          · walk_at "le"
      · rintro g' ρ' ⟨hd2, k2, rfl⟩ fr2
        have el : (dats (s.wai.map wpD)).length = s.wai.length := by unfold dats; rw [List.length_map, List.length_map]
        rw [el, List.take_length] at hd2
        obtain ⟨dx2, ho2⟩ := hd2.ob
        refine njr_fld (a := d) (C := He.ga K "Disk") (dx := dx2) (evr_new (en_lst (ea_nil ⟨by decide, fun wa' hwa' => ?_⟩)))
        have m1 : d ≠ wa' := fun z => by subst z; rw [ho2] at hwa'; cases hwa'
        have m2 : se ≠ wa' := fun z => by subst z; rw [hd2.hse] at hwa'; cases hwa'
        refine ⟨erc_var rfl, _, by rw [setG_ne m1]; exact ho2, T.cl_Disk, T.na_Disk_waiting, (by show 5 < 1000; omega), fun fr3 => ?_⟩
        have hw9 : g1 wa' = none := by rw [← k2 wa' (Ne.symm m1) (Ne.symm m2)]; exact hwa'
        refine hD.nx _ (hq _ wa' ⟨⟨dx2, ?_⟩, ?_, ?_, ?_, hd.n1, m1, m2⟩ ?_ fun y u hy y1 y2 y3 => ?_) ((fr1.trans fr2).trans fr3) _
        · rw [setG_same]; rfl
        · rw [setG_ne (Ne.symm hd.n1), setG_ne m2]; exact hd2.hse
        · rw [setG_ne (Ne.symm m1), setG_same]; rfl
        · show (setAll _ _).length = 600; rw [setAll_len]; exact hd.len
        · by_cases z : wa' = wa
          · exact .inl z
          · refine .inr ?_
            cases hz : g wa' with
            | none => rfl
            | some u =>
              have := k1 wa' u hz (Ne.symm m1) (Ne.symm m2) z
              rw [hw9] at this; cases this
        · have hy1 := k1 y u hy y1 y2 y3
          rw [setG_ne y1, setG_ne (fun z => by rw [z, hw9] at hy1; cases hy1), k2 y y1 y2]
          exact hy1
    · rw [if_neg hf] at hq ⊢
      exact hq
def S_Disk_read (K : PySem.W.Frag) (g : GT) (rs : List RV) (Q : GT → RV → Prop) (R : GT → Str → Option Int → Prop) : Prop := ∃ d se wa s, ∃ (b : Int), rs = [.ref d, .dat (.int b)] ∧ DiskF K g d se wa s ∧ (match (readT s b).1 with
  | none => Q g (.dat (readT s b).2)
  | some nm => R g nm none)
abbrev sp_Disk_read (K : PySem.W.Frag) : Sp := spRY K (S_Disk_read K)
theorem ok_Disk_read {P : Program} {w : World} {K : PySem.W.Frag} {mg : Str → Option Value} {base : Heap} (T : Txt K mg) (c_Disk_need_block : CalM P w K mg base (L2.CX P w) 1 (He.ga K "Disk") "need_block" (sp_Disk_need_block K)) : CalM P w K mg base (L2.CX P w) 2 (He.ga K "Disk") "read" (sp_Disk_read K) := by
  refine cal_mry T.m_Disk_read sc_Disk_read ?len fun f cdv A outer s H E hr => ⟨_, (pss_cons (ps_expr (pe_mtX c_Disk_need_block hr (by decide) T.cl_Disk (takes_of rfl rfl rfl rfl) (pv 0) (pa_cons (pv 1) pa_nil)))
      (pss_cons (ps_if (pt_val (pe_fld (pv 0) rfl)) (pss_one (ps_raise rfl (takes_of rfl rfl rfl rfl) (pmk_own PySem.F.excBase_ValueError T.x_Stopped.q T.x_Stopped.g T.x_Stopped.k (raises_own T.x_Stopped.b T.x_Stopped.t) (by rfl)))) pss_nil)
      (pss_cons (ps_for PassesOwn.leaving rfl (pi_reversed (by rfl) T.b_reversed (pa_cons (pe_fld (pv 0) rfl) pa_nil)) (pg_tup rfl (pgs_cons (pg_name (i := 2) sc_Disk_read.nd rfl (Or.inl rfl)) (pgs_cons (pg_name (i := 3) sc_Disk_read.nd rfl (Or.inl rfl)) pgs_nil))) (pss_one (ps_if (pt_cmpR (op_eqU hr.units) (pv 2) (pv 1) (nomark _)) (pss_one (ps_ret (pv 3))) pss_nil)))
      (pss_one (ps_ret (pe_ix ix_seq (pe_fld (pv 0) rfl) (pv 1) (fun _ _ => rfl))))))), ?body⟩
  case' body => try dsimp only [cxX, cxOf]
  case len => rintro g rs Q R ⟨_, _, _, _, _, rfl, _⟩; rfl
  case body =>
    rintro X g rs Q R ⟨d, se, wa, s, b, rfl, hd, hq⟩ hid H0 D dom hD hR
    obtain ⟨dx, ho⟩ := hd.ob
    show NJ _ _ _ _ [.rw (.ref d), .im (.int b), .un, .un]
    unfold readT at hq
    by_cases hb : 0 ≤ b ∧ b < 600
    case neg =>
      rw [if_neg hb] at hq
      exact qz_drop (evz_meth (erc_var rfl) ho (methF_no (by decide) (by decide) (by decide) (by decide) (by decide)) (ear_dat (ev_var rfl (ear_nil ⟨R, ⟨d, b, rfl, fun z => (hb z).elim, fun _ => hq⟩, hR⟩))))
    rw [if_pos hb] at hq
    obtain ⟨b, rfl⟩ := Int.eq_ofNat_of_zero_le hb.1
    have hb6 : b < 600 := by omega
    refine qr_drop (evr_methN (erc_var rfl) ho (methF_no (by decide) (by decide) (by decide) (by decide) (by decide)) (ear_dat (ev_var rfl (ear_nil ⟨d, b, rfl, fun _ fr1 => ?_, fun z => z hb⟩))))
    have fd : ∀ {Q : Dt → Prop}, Q (.bl s.dn) → EV (ct X g) (tFld K (tVar 0) "is_down") [.rw (.ref d), .im (.int (b : Nat)), .un, .un] Q := fun h => ev_fldT (erc_var rfl) ho T.cl_Disk T.na_Disk_is_down rfl h
    cases hdn : s.dn with
    | true =>
      rw [hdn] at fd hq
      rw [if_pos rfl] at hq
      refine q_when (etj (et_B (fd (blJ (bl_yes rfl ?_)))))
      exact nj_raiseNW (hR g _ _ hq fr1)
    | false =>
    rw [hdn] at fd hq
    rw [if_neg Bool.false_ne_true] at hq
    have hq : Q g (.dat (lastW s b)) := hq
    refine q_when (etj (et_B (fd (blJ (bl_no rfl ?_)))))
    refine qr_forR (w_rev (erc_fldT (erc_var rfl) ho T.cl_Disk T.na_Disk_waiting rfl) hd.hwa) (fun i g' ρ' => g' = g ∧ (∀ j q, j < i → s.wai.reverse[j]? = some q → q.1 ≠ b) ∧ ρ' = [.rw (.ref d), .im (.int (b : Nat)), .un, .un]) ⟨rfl, (fun j q h => absurd h (by omega)), rfl⟩ (fun i g' ρ' h => by rw [h.1]; exact itr_rev hd.hwa) ?_ ?_
    · rintro i r g' ρ' hi ⟨rfl, hno, rfl⟩ fr2
      have hi : (dats (s.wai.map wpD)).reverse[i]? = some r := hi
      unfold dats at hi
      rw [← List.map_reverse, ← List.map_reverse, List.getElem?_map, List.getElem?_map] at hi
      cases hq' : s.wai.reverse[i]? with
      | none => rw [hq'] at hi; cases hi
      | some q =>
        rw [hq'] at hi
        cases hi
        refine tgr_dat (tg_tup rfl (tgs_name (tgs_name (tgs_nil ?_))))
        walk_at "nm"
        refine nj_when ?_
        walk_at "go"
        refine bl_two (fun hc => ?_) (fun hc => ?_)
        · refine njr_retD (ev_var rfl (hD.rt _ _ (cast (congrArg (fun z => Q g' (.dat z)) ?_) hq) (fr1.trans fr2)))
          unfold lastW
          have : s.wai.reverse.find? (fun q => decide (q.1 = b)) = some q := by
            rw [List.find?_eq_some_iff_getElem]
            obtain ⟨hl, he⟩ := List.getElem?_eq_some_iff.mp hq'
            refine ⟨decide_eq_true (by omega), i, hl, he, fun j hj => ?_⟩
            have := hno j _ hj (List.getElem?_eq_getElem (by omega))
            rw [decide_eq_false this]; rfl
          rw [this]
        · refine njm_nxw _ ⟨rfl, fun j q2 hj hq2 => ?_, rfl⟩ fr2 ?_
          · rcases Nat.lt_or_ge j i with z | z
            · exact hno j q2 z hq2
            · have : j = i := by omega
              subst this
              rw [hq'] at hq2
              cases hq2
              omega
          · walk_at "le"
    · rintro g' ρ' ⟨rfl, hno, rfl⟩ fr2
      have el : (dats (s.wai.map wpD)).reverse.length = s.wai.length := by unfold dats; rw [List.length_reverse, List.length_map, List.length_map]
      refine njr_retD (ev_ixT (erc_fldT (erc_var rfl) ho T.cl_Disk T.na_Disk_settled rfl) hd.hse (ev_var rfl ?_))
      have hbl : b < s.set.length := by rw [hd.len]; exact hb6
      refine ⟨s.set.getD b .non, atI_nat (by rw [List.getElem?_map, List.getD_eq_getElem?_getD, List.getElem?_eq_getElem hbl]; rfl), hD.rt _ _ (cast (congrArg (fun z => Q g' (.dat z)) ?_) hq) (fr1.trans fr2)⟩
      unfold lastW
      have : s.wai.reverse.find? (fun q => decide (q.1 = b)) = none := by
        rw [List.find?_eq_none]
        intro q hqm
        obtain ⟨j, hj⟩ := List.getElem?_of_mem hqm
        have hjl := (List.getElem?_eq_some_iff.mp hj).1
        rw [List.length_reverse] at hjl
        have := hno j q (by show j < (dats (s.wai.map wpD)).reverse.length; omega) hj
        rw [decide_eq_false this]; exact Bool.false_ne_true
      rw [this]
def S_Disk_arm (K : PySem.W.Frag) (g : GT) (rs : List RV) (Q : GT → RV → Prop) : Prop := ∃ d se wa s h, ∃ (n : Nat) (bs : List Bool), rs = [.ref d, .dat (.int (n : Nat)), .ref h] ∧ g h = some (.lst (dats (bs.map Dt.bl))) ∧ DiskF K g d se wa s ∧ Out K g d se wa (armF s n bs) fun g' => Q g' (.dat .non)
abbrev sp_Disk_arm (K : PySem.W.Frag) : Sp := spR K (S_Disk_arm K)
theorem ok_Disk_arm {P : Program} {w : World} {K : PySem.W.Frag} {mg : Str → Option Value} {base : Heap} (T : Txt K mg)  : CalM P w K mg base CX0 1 (He.ga K "Disk") "arm" (sp_Disk_arm K) := by
  refine cal_mr T.m_Disk_arm sc_Disk_arm ?len fun f cdv A outer s H E hr => ⟨_, (pss_one (ps_if (pt_not (pt_val (pe_fld (pv 0) rfl))) (pss_cons (ps_fld (pv 0) (pe_callB (cl_max2 rfl) (by rfl) T.b_max (by decide +kernel) (pa_cons pe_int (pa_cons (pv 1) pa_nil))) rfl)
      (pss_one (ps_fld (pv 0) (pe_callTy cl_list (by rfl) T.b_list (by decide +kernel) (pa_cons (pv 2) pa_nil)) rfl))) pss_nil)), ?body⟩
  case' body => try dsimp only [cxD, cxOf]
  case len => rintro g rs Q ⟨_, _, _, _, _, _, _, rfl, _⟩; rfl
  case body =>
    rintro X g rs Q ⟨d, se, wa, s, h, n, bs, rfl, hh, hd, hq⟩ hid H0 D dom hD
    obtain ⟨dx, ho⟩ := hd.ob
    show NJ _ _ _ _ [.rw (.ref d), .im (.int (n : Nat)), .rw (.ref h)]
    have fd : ∀ {Q : Dt → Prop}, Q (.bl s.dn) → EV (ct X g) (tFld K (tVar 0) "is_down") [.rw (.ref d), .im (.int (n : Nat)), .rw (.ref h)] Q := fun h => ev_fldT (erc_var rfl) ho T.cl_Disk T.na_Disk_is_down rfl h
    unfold armF at hq
    cases hdn : s.dn with
    | true =>
      rw [hdn] at fd
      rw [if_pos hdn] at hq
      refine nj_when (etj (et_not (et_B (fd (blJ (bl_no rfl ?_))))))
      exact hD.nx _ (hq.same hd) .refl _
    | false =>
      rw [hdn] at fd
      rw [if_neg (by rw [hdn]; exact Bool.false_ne_true)] at hq
      refine nj_when (etj (et_not (et_B (fd (blJ (bl_yes rfl ?_))))))
      refine qr_fld (a := d) (C := He.ga K "Disk") (dx := dx) (evr ?_)
      walk_at "go"
      refine ⟨erc_var rfl, _, ho, T.cl_Disk, T.na_Disk_left, (by show 5 < 1000; omega), fun fr1 => ?_⟩
      have e1 : (if ((n : Nat) : Int) > 0 then ((n : Nat) : Int) else 0) = ((n : Nat) : Int) := by split <;> omega
      rw [e1] at fr1 ⊢
      have hdh : h ≠ d := fun z => by rw [z, ho] at hh; cases hh
      refine njr_fld (a := d) (C := He.ga K "Disk") (dx := dx) (evr (EN.ev (en_listT (erc_var rfl) ((setG_ne hdh).trans hh) ?_)))
      refine ⟨erc_var rfl, _, setG_same, T.cl_Disk, T.na_Disk_picks, (by show 5 < 1000; omega), fun fr2 => ?_⟩
      refine hD.nx _ (hq _ wa ⟨⟨dx, ?_⟩, ?_, ?_, hd.len, hd.n1, hd.n2, hd.n3⟩ (.inl rfl) fun y u hy y1 _ _ => ?_) (fr1.trans fr2) _
      · rw [setG_same]; rfl
      · rw [setG_ne (Ne.symm hd.n1), setG_ne (Ne.symm hd.n1)]; exact hd.hse
      · rw [setG_ne (Ne.symm hd.n2), setG_ne (Ne.symm hd.n2)]; exact hd.hwa
      · rw [setG_ne y1, setG_ne y1]; exact hy
end
section
open PySem PySem.Spec PyProof.Rows L2
open C8 (Cal pe_c pe_gc)
open LamX (CodeO)
def sp__law_class (K : PySem.W.Frag) : SpC := fun a cls d vs H Q _ => vs = [.ref a] ∧ ∃ nm fs, nm ∈ rzN ∧ nm ∈ clsN ∧ cls = .ref (He.ga K nm) ∧ (∀ dd, d = some dd → H dd = some (.xd fs)) ∧ ∀ H', Ex none0 H H' → Q (.str nm) H'
theorem cls_ref {a : Addr} : ∀ u : Value, RelV (V.ref a) u → u = Value.ref a := fun u h => h
theorem cls_ty {x : String} : ∀ u : Value, RelV (V.ty x) u → u = Value.type x := fun u h => h
def kindsOf (nm : Str) : List Bool := clsN.map fun C => decide (nm = C)
theorem kinds_ok {nm : Str} (h : nm ∈ clsN) : ∃ j : Nat, (kindsOf nm)[j]? = some true ∧ (∀ m, m < j → (kindsOf nm)[m]? = some false) ∧ (kindsOf nm).countP id = 1 ∧ clsN[j]? = some nm := by
  have key : ∀ nm ∈ clsN, ∃ j : Fin 13, (kindsOf nm)[j.1]? = some true ∧ (∀ m : Fin 13, m.1 < j.1 → (kindsOf nm)[m.1]? = some false) ∧ (kindsOf nm).countP id = 1 ∧ clsN[j.1]? = some nm := by decide +kernel
  obtain ⟨j, h1, h2, h3, h4⟩ := key nm h
  exact ⟨j.1, h1, fun m hm => h2 ⟨m, by omega⟩ hm, h3, h4⟩
theorem ok__law_class {P : Program} {w : World} {K : PySem.W.Frag} {mg : Str → Option Value} {base : Heap} (T : Txt K mg)  : CalE P w K mg base 1 "_law_class" (sp__law_class K) := by
  obtain ⟨f, fd, hm, F, bi⟩ := T.f__law_class
  refine ⟨⟨f, fd, _, fn_ofE (k := 0) F sc__law_class ?len (fun cdv A outer s H vs Q E p hr h => ?body), hm, F.kp, bi⟩⟩
  case len => rintro p vs H Q E ⟨cls, d, _, _, rfl, _⟩; rfl
  case body =>
    obtain ⟨cls, d, hz, hf, rfl, nm, fs, hD, hC, rfl, hdd, hq⟩ := h
    have exc := T.cls.exc nm hD
    have hp : (p.1, p.2) ∈ (cxE P w K mg base ["_law_e", "_law_kinds", "_law_words"] "_law_class" s__law_class f cdv A outer s H E p).pn := List.mem_singleton.mpr rfl
    refine ⟨_, (pss_cons (ps_set (i := 1) sc__law_class.nd rfl (Or.inl rfl) (pe_lst (pa_cons (pe_callB (call_isA exc hp hz hf) (by rfl) T.b_isinstance (by decide +kernel) (pa_cons (pv 0) (pa_cons (pe_gc (by rfl) (show ∃ u, mg "BadNumber" = some u ∧ RelV (.ref (He.ga K "BadNumber")) u from ⟨_, T.g_BadNumber, rfl⟩)) pa_nil))) (pa_cons (pe_callB (call_isA exc hp hz hf) (by rfl) T.b_isinstance (by decide +kernel) (pa_cons (pv 0) (pa_cons (pe_gc (by rfl) (show ∃ u, mg "BadValues" = some u ∧ RelV (.ref (He.ga K "BadValues")) u from ⟨_, T.g_BadValues, rfl⟩)) pa_nil))) (pa_cons (pe_callB (call_isA exc hp hz hf) (by rfl) T.b_isinstance (by decide +kernel) (pa_cons (pv 0) (pa_cons (pe_gc (by rfl) (show ∃ u, mg "NoForm" = some u ∧ RelV (.ref (He.ga K "NoForm")) u from ⟨_, T.g_NoForm, rfl⟩)) pa_nil))) (pa_cons (pe_callB (call_isA exc hp hz hf) (by rfl) T.b_isinstance (by decide +kernel) (pa_cons (pv 0) (pa_cons (pe_gc (by rfl) (show ∃ u, mg "BadPrices" = some u ∧ RelV (.ref (He.ga K "BadPrices")) u from ⟨_, T.g_BadPrices, rfl⟩)) pa_nil))) pa_nil))))))
      (pss_cons (ps_set (i := 1) sc__law_class.nd rfl (Or.inl rfl) (pe_op op_addU (pv 1) (pe_lst (pa_cons (pe_callB (call_isA exc hp hz hf) (by rfl) T.b_isinstance (by decide +kernel) (pa_cons (pv 0) (pa_cons (pe_gc (by rfl) (show ∃ u, mg "BadKinds" = some u ∧ RelV (.ref (He.ga K "BadKinds")) u from ⟨_, T.g_BadKinds, rfl⟩)) pa_nil))) (pa_cons (pe_callB (call_isA exc hp hz hf) (by rfl) T.b_isinstance (by decide +kernel) (pa_cons (pv 0) (pa_cons (pe_gc (by rfl) (show ∃ u, mg "BadRows" = some u ∧ RelV (.ref (He.ga K "BadRows")) u from ⟨_, T.g_BadRows, rfl⟩)) pa_nil))) (pa_cons (pe_callB (call_isA exc hp hz hf) (by rfl) T.b_isinstance (by decide +kernel) (pa_cons (pv 0) (pa_cons (pe_gc (by rfl) (show ∃ u, mg "BadCondition" = some u ∧ RelV (.ref (He.ga K "BadCondition")) u from ⟨_, T.g_BadCondition, rfl⟩)) pa_nil))) pa_nil))))))
      (pss_cons (ps_set (i := 1) sc__law_class.nd rfl (Or.inl rfl) (pe_op op_addU (pv 1) (pe_lst (pa_cons (pe_callB (call_isA exc hp hz hf) (by rfl) T.b_isinstance (by decide +kernel) (pa_cons (pv 0) (pa_cons (pe_gc (by rfl) (show ∃ u, mg "BadColumn" = some u ∧ RelV (.ref (He.ga K "BadColumn")) u from ⟨_, T.g_BadColumn, rfl⟩)) pa_nil))) (pa_cons (pe_callB (call_isA exc hp hz hf) (by rfl) T.b_isinstance (by decide +kernel) (pa_cons (pv 0) (pa_cons (pe_gc (by rfl) (show ∃ u, mg "BadHeap" = some u ∧ RelV (.ref (He.ga K "BadHeap")) u from ⟨_, T.g_BadHeap, rfl⟩)) pa_nil))) (pa_cons (pe_callB (call_isA exc hp hz hf) (by rfl) T.b_isinstance (by decide +kernel) (pa_cons (pv 0) (pa_cons (pe_gc (by rfl) (show ∃ u, mg "TooMany" = some u ∧ RelV (.ref (He.ga K "TooMany")) u from ⟨_, T.g_TooMany, rfl⟩)) pa_nil))) (pa_cons (pe_callB (call_isA exc hp hz hf) (by rfl) T.b_isinstance (by decide +kernel) (pa_cons (pv 0) (pa_cons (pe_gc (by rfl) (show ∃ u, mg "BadBlock" = some u ∧ RelV (.ref (He.ga K "BadBlock")) u from ⟨_, T.g_BadBlock, rfl⟩)) pa_nil))) pa_nil)))))))
      (pss_cons (ps_set (i := 1) sc__law_class.nd rfl (Or.inl rfl) (pe_op op_addU (pv 1) (pe_lst (pa_cons (pe_callB (call_isA exc hp hz hf) (by rfl) T.b_isinstance (by decide +kernel) (pa_cons (pv 0) (pa_cons (pe_gc (by rfl) (show ∃ u, mg "Stopped" = some u ∧ RelV (.ref (He.ga K "Stopped")) u from ⟨_, T.g_Stopped, rfl⟩)) pa_nil))) (pa_cons (pe_callB (call_isA exc hp hz hf) (by rfl) T.b_isinstance (by decide +kernel) (pa_cons (pv 0) (pa_cons (pe_gc (by rfl) (show ∃ u, mg "BadText" = some u ∧ RelV (.ref (He.ga K "BadText")) u from ⟨_, T.g_BadText, rfl⟩)) pa_nil))) pa_nil)))))
      (pss_cons (ps_set (i := 2) sc__law_class.nd rfl (Or.inl rfl) (pe_lst (pa_cons pe_str (pa_cons pe_str (pa_cons pe_str (pa_cons pe_str (pa_cons pe_str (pa_cons pe_str (pa_cons pe_str (pa_cons pe_str pa_nil))))))))))
      (pss_cons (ps_set (i := 2) sc__law_class.nd rfl (Or.inl rfl) (pe_op op_addU (pv 2) (pe_lst (pa_cons pe_str (pa_cons pe_str (pa_cons pe_str (pa_cons pe_str (pa_cons pe_str pa_nil))))))))
      (pss_one (ps_ret (pe_ifExp ((pw_and (pt_cmpR (op_eqU (unitsH hr)) (pe_bm PySem.F.plainAttrs_list PySem.F.slot_list_count PySem.F.type_list_count mt_countV (pv 1) (pa_cons pe_bl pa_nil)) pe_int (nomark _)) (pw_and1 (pt_val (pe_callB (call_isA exc hp hz hf) (by rfl) T.b_isinstance (by decide +kernel) (pa_cons (pv 0) (pa_cons (pe_bltn (v := .ty "ValueError") (by rfl) T.b_ValueError (by decide +kernel) rfl) pa_nil))))))).pt (pe_ix ix_seq (pv 2) (pe_bm PySem.F.plainAttrs_list PySem.F.slot_list_index PySem.F.type_list_index mt_index (pv 1) (pa_cons pe_bl pa_nil)) (fun _ _ => rfl)) pe_str))))))))), ?_⟩
    dsimp only [cxE, L2H.cxH, cxOf]
    refine nj_at (c := cnX K d fs) (hid := none0) (ρ := [.rw (.ref p.1), .un, .un]) (H0 := H) ?_ (sd_raw (c := cnX K d fs) (hid := none0) (fun _ h => nomatch h) (fun _ h => nomatch h) (fun dd e => by rw [hm_of rfl]; exact hdd dd e) [some (.ref p.1), none, none])
    have kt := fun C hC => T.cls.kit nm hD C hC
    obtain ⟨j, j1, j2, j3, j4⟩ := kinds_ok hC
    refine q_asg (EN.ev (en_lst ?_))
    iterate 4
      refine ea_cons (ev_isA rfl cls_ref (kt _ (by decide)) ?_)
    refine ea_nil (lenOk (by dsimp only [List.length_cons, List.length_nil]; decide) ?_)
    walk_at "nm"
    refine q_asg ?_
    walk_at "go"
    refine EN.ev (en_lst ?_)
    iterate 3
      refine ea_cons (ev_isA rfl cls_ref (kt _ (by decide)) ?_)
    refine ea_nil (lenOk (by dsimp only [List.length_cons, List.length_nil]; decide) ?_)
    refine R2N.j (add_l (by simp only [List.length_cons, List.length_nil]; omega) ?_)
    walk_at "nm"
    refine q_asg ?_
    walk_at "go"
    refine EN.ev (en_lst ?_)
    iterate 4
      refine ea_cons (ev_isA rfl cls_ref (kt _ (by decide)) ?_)
    refine ea_nil (lenOk (by dsimp only [List.length_cons, List.length_nil]; decide) ?_)
    refine R2N.j (add_l (by simp only [List.length_append, List.length_cons, List.length_nil]; omega) ?_)
    walk_at "nm"
    refine q_asg ?_
    walk_at "go"
    refine EN.ev (en_lst ?_)
    iterate 2
      refine ea_cons (ev_isA rfl cls_ref (kt _ (by decide)) ?_)
    refine ea_nil (lenOk (by dsimp only [List.length_cons, List.length_nil]; decide) ?_)
    refine R2N.j (add_l (by simp only [List.length_append, List.length_cons, List.length_nil]; omega) ?_)
    walk_at "nm"
    refine q_asg (EN.ev (en_lst ?_))
    walk_at "go"
    walk_at "nm"
    refine q_asg ?_
    walk_at "go"
    refine EN.ev (en_lst ?_)
    walk_at "go"
    refine R2N.j (add_l (by simp only [List.length_append, List.length_cons, List.length_nil]; omega) ?_)
    walk_at "nm"
    show NJ _ _ _ _ [_, .im (.lst ((kindsOf nm).map Dt.bl)), .im (.lst (clsN.map Dt.str))]
    refine nj_ret ?_
    refine ev_if ?_
    refine et_and ?_
    refine et_test ?_
    walk_at "go"
    refine ev_countB rfl ?_
    walk_at "go"
    refine ⟨kindsOf nm, rfl, ?_⟩
    rw [j3]
    walk_at "go"
    refine bl_yes rfl ?_
    refine et_B (ev_isA rfl cls_ty (T.cls.kitV nm hD) ?_)
    refine blJ (bl_yes rfl ?_)
    walk_at "go"
    refine ev_indexB rfl ?_
    walk_at "go"
    refine ⟨kindsOf nm, j, rfl, j1, j2, ?_⟩
    refine ix_l (d := .str nm) (atI_nat (by rw [List.getElem?_map, j4]; rfl)) ?_
    intro v H' e _ r
    cases r
    exact hq H' e
theorem ev_cls {K : PySem.W.Frag} {ρ : List Sl} {Q : Dt → Prop} {i : Nat} {a : Addr} {nm : Str} {d : Option Addr} {fs : List (Str × V)} (hi : ρ[i]? = some (.rw (.ref a))) (hD : nm ∈ rzN) (hC : nm ∈ clsN) (h : Q (.str nm)) : EV (cnX K d fs) (tCallC (sp__law_class K) a (.ref (He.ga K nm)) d (tCons (tVar i) tNil)) ρ Q := fun hd H σ s Qh q =>
  ⟨.ref a, rw_get s.slots hi, rfl, nm, fs, hD, hC, rfl, fun dd e => hm_le (s.inv dd e), fun H' e => q _ _ H' h (e.up (c := cnX K d fs)) ((cnX K d fs).keep0 e s.inv) (.str nm)⟩
abbrev sp__law_told (P : Program) (w : World) (K : PySem.W.Frag) (mg : Str → Option Value) (B : Heap) : Sp := spT P w K mg rzN 14 B
def plF : Option Int → List (Str × V)
  | none => []
  | some i => [("place", .int i)]
theorem ok__law_told {P : Program} {w : World} {K : PySem.W.Frag} {mg : Str → Option Value} {base : Heap} (T : Txt K mg) (c__law_class : CalE P w K mg base 1 "_law_class" (sp__law_class K)) : Cal P w K mg base 15 "_law_told" (sp__law_told P w K mg base) [] := by
  obtain ⟨f, fd, hm, F, bi⟩ := T.f__law_told
  refine ⟨⟨f, fd, _, [], F.ok sc__law_told ?len (fun cdv A outer s H vs Q E hr h => ?body), hm, F.kp, bi, .nil⟩⟩
  case len => rintro vs H Q E ⟨f, sp, rfl, _⟩; rfl
  case body =>
    obtain ⟨fl, sp, rfl, ac, h⟩ := h
    refine ⟨_, pss_one (ps_try_as (X := (cxOf C8.CX0 P w K mg base ["_law_work", "_law_e", "_law_word"] "_law_told" (defScope s__law_told) f cdv A outer s H E).nox) (i := 1) (c := .ref (He.ga K "ColumnError")) (n := "_law_e")
      (tb := fun W => tRet (tAct P w K mg base 14 0 W))
      (ts := fun a cls d => tSeq (tAsg (tCallC (sp__law_class K) a cls d (tCons (tVar 1) tNil)) (gName 2)) (tRet (tTup (tCons (tVar 2) (tCons (tIf (tTest (tOp (rInU K) (tVar 2) (tTup (tCons (tC (.str "BadValues")) (tCons (tC (.str "BadRows")) (tCons (tC (.str "BadText")) tNil)))))) (tXfA K a cls d "place" (tVar 1)) (tC (.int 0))) tNil)))))
      (Wout := fun _ _ _ _ => False) rfl rfl sc__law_told.nd rfl rfl ⟨(by rfl), by decide, .inl T.g_ColumnError⟩ LamX.takes0 (fun W pn xe tk _ => pss_one (ps_ret (pe_actB (hr.mono (by decide)) tk rfl (Or.inl rfl))))
      (fun a oe cls d pn hz hf => (pss_cons (ps_set (i := 2) sc__law_told.nd rfl (Or.inl rfl) (pe_callC c__law_class ((roomH_mark (hr.mono (by decide)))) List.mem_cons_self hz hf (by rfl) (pa_cons (pv 1) pa_nil)))
        (pss_one (ps_ret (pe_tup (pa_cons (pv 2) (pa_cons (pe_ifExp (pt_cmpR op_inU (pv 2) (pe_tup (pa_cons pe_str (pa_cons pe_str (pa_cons pe_str pa_nil)))) rfl) (pe_xfA hz hf (pv 1)) pe_int) pa_nil)))))))), ?_⟩
    refine ⟨fl, sp, rfl, ac, h _ ?_⟩
    rintro cls d H' ⟨nm, pl, hid, hD, hpd, rfl, hpl, dom, hfr, hq⟩
    refine ⟨true, T.cls.exm nm hD, fun _ a ha => ?_, fun z => nomatch z⟩
    have hin : ∀ nm ∈ rzN, nm ∈ clsN ∧ inV (.str nm) (([("BadValues" : Str), "BadRows", "BadText"]).map V.str) = placed nm := by decide
    have bb : ∀ dd, d = some dd → Hm hid H' dd = some (.xd (plF pl)) := fun dd e => by
      subst e
      rw [hm_of (hfr dd rfl)]
      cases pl with
      | none => exact hpl.elim
      | some i => exact hpl
    refine nj_at (c := cnX K d (plF pl)) (hid := hid) (ρ := [.rw (.ref fl), .rw (.ref a), .un]) (H0 := H') ?_ (sd_raw (c := cnX K d (plF pl)) dom (fun _ h => nomatch h) bb [some (.ref fl), some (.ref a), none])
    refine q_asg (ev_cls rfl hD (hin nm hD).1 ?_)
    walk_at "nm"
    refine nj_ret ?_
    walk_at "go"
    refine in_s (xs := [("BadValues" : Str), "BadRows", "BadText"]) ?_
    rw [(hin nm hD).2, hpd]
    walk_at "go"
    match d, pl, hpl, hpd, bb, hq with
    | none, none, _, _, _, hq =>
      refine bl_no rfl ?_
      walk_at "go"
      intro v H'' e _ r
      exact hq H'' v e r
    | some dd, some i, _, hpd, _, hq =>
      refine bl_yes rfl ?_
      have exc := T.cls.exc nm hD
      refine ev_place rfl ⟨exc.hg, exc.hk, exc.hs, exc.hd⟩ (plno T nm hD hpd) rfl ?_
      walk_at "go"
      intro v H'' e _ r
      exact hq H'' v e r
end
section
open PySem PySem.Spec PyProof.Rows L2
section
variable {X : Cx}
theorem pairs_of2 {pins : List (Addr × Obj)} {σ : L2.St} {H : Hp} {s : Shared} (I : Inv X pins σ H s) : ∀ {ps : List Addr} {kvs : List (Key × V)}, Paired (fun p kv => SqT X.K H p [kV kv.1, kv.2]) ps kvs →
    ∃ (prs : List (Key × Value)) (vps : List (Value × Value)), KV kvs prs ∧ prs.length = ps.length ∧ vps.length = ps.length ∧ ∀ (j : Nat) (p : Value × Value), vps[j]? = some p → ∃ (b : Addr) (k : Key), ps[j]? = some b ∧ IsTup s.heap b #[p.1, p.2] ∧ prs[j]? = some (k, p.2) ∧ keyIs k p.1 = true
  | _, _, .nil => ⟨[], [], .nil, rfl, rfl, fun j q e => by simp at e⟩
  | _, _, .cons (a := p) (b := kv) h t => by
    obtain ⟨prs, vps, r, hl, hl2, hp⟩ := pairs_of2 I t
    obtain ⟨its, rv, ht, _⟩ := I.tuple h
    obtain ⟨u, y, ei, ru, ry⟩ := vals2 rv
    subst ei
    refine ⟨(kv.1, y) :: prs, (u, y) :: vps, .cons ⟨rfl, ry⟩ r, by rw [List.length_cons, List.length_cons, hl], by rw [List.length_cons, List.length_cons, hl2], fun j q e => ?_⟩
    cases j with
    | zero =>
      have e' : (u, y) = q := Option.some.inj e
      subst e'
      exact ⟨p, kv.1, rfl, ht, rfl, kV_is (P := X.prog) (w := X.w) ru⟩
    | succ j =>
      obtain ⟨b, k, e1, e2, e3, e4⟩ := hp j q (by simpa using e)
      exact ⟨b, k, by simpa using e1, e2, by simpa using e3, e4⟩
def rUpdP (K : PySem.W.Frag) : V → List V → Hp → VK → Prop := fun x xs H Q => ∃ (a b : Addr) (ps : List Addr) (kvs more : List (Key × V)), x = .ref a ∧ xs = [.ref b] ∧ H a = some (.dK kvs) ∧ SqL K H b (ps.map V.ref) ∧ Paired (fun p kv => SqT K H p [kV kv.1, kv.2]) ps more ∧ kvs.length + more.length ≤ sizeLine ∧ a ≠ b ∧ a ∉ ps ∧ Q .non (upd H a (.dK (mergeK kvs more)))
theorem mt_updP (hc : X.calm = true) : MtR X "dict.update" (rUpdP X.K) := by
  intro pins s σ H x xs v us Q I rx rxs h
  obtain ⟨a, b, ps, kvs, more, rfl, rfl, ha, hb, hp, hz, hab, hap, q⟩ := h
  cases rx
  obtain ⟨u, rfl, ru⟩ := rxs.one
  cases ru
  obtain ⟨its, rv, pl, hz2⟩ := I.list hb
  have ei := refs_at rv
  subst ei
  obtain ⟨prs, vps, rel, hl, hl2, hpr⟩ := pairs_of2 I hp
  obtain ⟨z, hm, vs, rel0, dd⟩ := dk_of I.hok ha
  have hpi : PySem.PairItems s.heap (ps.map Value.ref).toArray (fun j => ps.getD j 0) vps := ⟨by simp [hl2], fun j k v e => by
    obtain ⟨c, kk, e1, e2, _⟩ := hpr j (k, v) e
    have e3 : ps.getD j 0 = c := by rw [List.getD_eq_getElem?_getD, e1]; rfl
    refine ⟨by simp [e1], ?_⟩
    show PySem.PairAt s.heap (ps.getD j 0) k v
    rw [e3]
    exact .inl e2⟩
  refine PySem.call_update_pairs (knd := mixKind X.prog X.w) (acc := vs) (kvs := prs) (PySem.PairArg.list b (ps.map Value.ref).toArray (fun j => ps.getD j 0) vps) (I.ok.hd hc) ⟨pl, hpi⟩ (fun hm2 => ?_) ⟨by rw [hl, hl2], fun i key v e => ?_⟩ dd (by rw [← rel0.length, hl2, ← hl, ← rel.length]; exact hz) fun h' tk hd' k => ?_
  · rcases List.mem_cons.mp hm2 with z | z
    · exact hab z
    · obtain ⟨j, hj, e⟩ := List.mem_map.mp z
      have hj := List.mem_range.mp hj
      rw [hl2] at hj
      apply hap
      rw [← e, List.getD_eq_getElem?_getD, List.getElem?_eq_getElem hj]
      exact List.getElem_mem hj
  · obtain ⟨c, kk, e1, e2, e3, e4⟩ := hpr i (key, v) e
    exact ⟨kk, e3, e4⟩
  · have hlen : (mergeK kvs more).length ≤ sizeLine := Nat.le_trans (length_mergeK more kvs) hz
    refine ⟨.non, upd H a (.dK (mergeK kvs more)), I.write (x := a) (e := a) (by rw [ha]; exact trivial) (.inl rfl) (fun c u hb hu => k c u hb (fun z => nomatch z) hu) ?_ (dk_new hlen hm (KV.merge rel rel0) hd'), rfl, q⟩
    obtain ⟨_, _, _, ho, _⟩ := hd'
    exact ⟨_, ho⟩
end
section
variable {K : PySem.W.Frag} {X : Cl K} {g : GT} {ρ : List Sl} {to te : TE}
theorem refs_P2 {G : Hp} : ∀ {ws : List V} {ps : List Addr}, P2 (RvOk K G) ws (ps.map RV.ref) → ws = ps.map V.ref
  | [], [], _ => rfl
  | _ :: _, _ :: _, .cons h t => by
    obtain rfl := h
    rw [List.map_cons, refs_P2 t]
  | [], _ :: _, h => nomatch h
  | _ :: _, [], h => nomatch h
def mergeRK (kvs more : List (Key × RV)) : List (Key × RV) := more.foldl (fun acc kv => putRK acc kv.1 kv.2) kvs
theorem merge_P2 {G : Hp} : ∀ {ms : List (Key × V)} {more : List (Key × RV)}, P2 (RvF K G Key) ms more → ∀ {vs : List (Key × V)} {rs : List (Key × RV)}, P2 (RvF K G Key) vs rs → P2 (RvF K G Key) (mergeK vs ms) (mergeRK rs more)
  | _, _, .nil, _, _, p => p
  | (k, v) :: ms, (k', r) :: more, .cons h t, vs, rs, p => by
    obtain ⟨e, hv⟩ := h
    have e : k = k' := e
    subst e
    exact merge_P2 t (put_P2 hv p)
theorem evr_updP {a : Addr} {K' : PySem.W.Frag} {kvs : List (Key × RV)} {Q : GT → RV → Prop} (hr : ERC (ct X g) to ρ (.ref a)) (ha : g a = some (.dk kvs)) (h : EVR X g te ρ fun g1 r => ∃ (b : Addr) (ps : List Addr) (kvs1 more : List (Key × RV)), r = .ref b ∧ g1 a = some (.dk kvs1) ∧ g1 b = some (.lst (ps.map RV.ref)) ∧ P2 (fun (p : Addr) (kv : Key × RV) => g1 p = some (.tp [.dat (dKey kv.1), kv.2])) ps more ∧ kvs1.length + more.length ≤ 100000 ∧ Q (setG g1 a (.dk (mergeRK kvs1 more))) (.dat .non)) : EVR X g (tBM K' "dict" (rUpdP K) to (tCons te tNil)) ρ Q := fun hd H σ s Qh q => hr hd H σ s _ (by
  obtain ⟨vs0, h0, _⟩ := (s.inv.2 a _ ha).2
  refine ⟨.inr (.inr (.inl ⟨rfl, .inl ⟨vs0, h0⟩⟩)), h hd H σ s _ fun g1 r v H1 hq st rv => ?_⟩
  obtain ⟨b, ps, kvs1, more, rfl, ha1, hb1, hp, hl, hq⟩ := hq
  cases rv
  have s1 := s.step st
  obtain ⟨vs, h1, h2⟩ := (s1.inv.2 a _ ha1).2
  obtain ⟨ws, h3, h4⟩ := (s1.inv.2 b _ hb1).2
  have ew := refs_P2 h4
  subst ew
  have pm : ∀ {ps : List Addr} {more : List (Key × RV)}, P2 (fun (p : Addr) (kv : Key × RV) => g1 p = some (.tp [.dat (dKey kv.1), kv.2])) ps more → ∃ ms : List (Key × V), Paired (fun p kv => SqT K H1 p [kV kv.1, kv.2]) ps ms ∧ P2 (RvF K (Hm (un hd ((WT X).mu g1)) H1) Key) ms more := by
    intro ps more p
    induction p with
    | nil => exact ⟨[], .nil, .nil⟩
    | @cons p kv ps more h t ih =>
      obtain ⟨ms, i1, i2⟩ := ih
      obtain ⟨us, g3, g4⟩ := (s1.inv.2 p _ h).2
      cases g4 with
      | @cons u1 _ us' _ r1 r2 =>
        cases r2 with
        | @cons u2 _ us' _ r2 r3 =>
          cases r3
          have e := rp_key1 (show Rp K _ u1 (dKey kv.1) from r1)
          subst e
          exact ⟨(kv.1, u2) :: ms, .cons (.inl (.inl g3)) i1, .cons ⟨rfl, r2⟩ i2⟩
  obtain ⟨ms, i1, i2⟩ := pm hp
  have hda := s1.muh a (muT (X := X) ha1)
  have sm : Sees (Hm (un hd ((WT X).mu g1)) H1) (Hm (un hd ((WT X).mu g1)) (upd H1 a (.dK (mergeK vs ms)))) := by rw [hm_upd hda]; exact Sees.refl
  have st2 := got_set (m' := .dk (mergeRK kvs1 more)) (o := .dK (mergeK vs ms)) s1.muh s1.inv ha1 rfl ⟨_, upd_same, (merge_P2 i2 h2).imp fun _ _ z => ⟨z.1, z.2.mono sm⟩⟩
  refine ⟨a, b, ps, vs, ms, rfl, rfl, h1, .inl (.inl h3), i1, ?_, (fun z => by rw [z, hb1] at ha1; cases ha1), (fun z => ?_), q _ (.dat .non) .non _ hq (st.trans st2) .non⟩
  · have e1 := h2.len
    have e2 := i2.len
    exact Nat.le_trans (by omega) (Evl.sz_of hl)
  · have key : ∀ {ps : List Addr} {more : List (Key × RV)}, P2 (fun (p : Addr) (kv : Key × RV) => g1 p = some (.tp [.dat (dKey kv.1), kv.2])) ps more → ∀ p ∈ ps, ∃ rs, g1 p = some (.tp rs) := by
      intro ps more p
      induction p with
      | nil => exact fun p hp => (nomatch hp)
      | cons h t ih =>
        intro p hp
        rcases List.mem_cons.mp hp with rfl | hp
        · exact ⟨_, h⟩
        · exact ih p hp
    obtain ⟨rs, hz⟩ := key hp a z
    rw [ha1] at hz; cases hz)
end
end
section
open PySem PySem.Spec PyProof.Rows L2
open C8 (Cal pe_c pe_gc)
local macro_rules | `(tactic| walk_at "box") => `(tactic| (repeat (first
  | with_reducible refine ev_callB (by assumption) rfl ?_
  | with_reducible refine EN.ev (en_lst ?_)
  | walk_at "ev")))
structure Vl (n : Nat) (d : Dt) : Prop where
  td : TD n d
  al : Al n d
  sh : Sh n d
theorem Vl.up {n : Nat} {d : Dt} (h : Vl n d) : Vl (n + 1) d := by
  refine ⟨?_, h.al.up, ?_⟩
  case refine_2 =>
    have : ∀ {n d}, Sh n d → Sh (n + 1) d := by
      intro n d h
      induction h with
      | non => exact .non
      | bl b => exact .bl b
      | int i => exact .int i
      | str h => exact .str h
      | lst h ih => exact .lst ih
      | tup h ih => exact .tup ih
    exact this h.sh
  have : ∀ {n d}, TD n d → TD (n + 1) d := by
    intro n d h
    induction h with
    | leaf h => exact .leaf h
    | tup h hl ih => exact .tup ih hl
  exact this h.td
theorem vl_tup {n : Nat} {ds : List Dt} (h : ∀ d ∈ ds, Vl n d) (hl : ds.length ≤ 100000) : Vl (n + 1) (.tup ds) := ⟨.tup (fun d hd => (h d hd).td) hl, .tup (fun d hd => (h d hd).al) hl, .tup (fun d hd => (h d hd).sh)⟩
theorem vl_int {n : Nat} (i : Int) : Vl n (.int i) := ⟨.leaf rfl, .int i, .int i⟩
theorem vl_str {n : Nat} {i : Str} (h : PyData.strOk i = true) : Vl n (.str i) := ⟨.leaf rfl, .str i, .str h⟩
theorem vl_non {n : Nat} : Vl n .non := ⟨.leaf rfl, .non, .non⟩
theorem vl_bl {n : Nat} (b : Bool) : Vl n (.bl b) := ⟨.leaf rfl, .bl b, .bl b⟩
theorem vl_le {n m : Nat} {d : Dt} (h : Vl n d) (k : n ≤ m) : Vl m d := by
  induction k with
  | refl => exact h
  | step _ ih => exact ih.up
def S__law_nest (n : Nat) (ds : List Dt) (Q : Dt → Prop) : Prop := ∃ (ps : List Dt) (e : Nat), ds = [.lst ps, .int (e : Nat)] ∧ (∀ p ∈ ps, Vl 0 p) ∧ ps.length ≤ 100 ∧ e < n ∧ e ≤ 3 ∧ ∀ d, Vl (e + 1) d → Q d
abbrev sp__law_nest (n : Nat) (K : PySem.W.Frag) : Sp := spB K (S__law_nest n)
theorem cut_to {ps : List Dt} {k : Int} (h0 : 0 ≤ k) (h1 : k ≤ (ps.length : Nat)) : cutD ps none (some k) = ps.take k.toNat := by
  obtain ⟨n, rfl⟩ := Int.eq_ofNat_of_zero_le h0
  unfold cutD
  rw [HT.sIx_nat, HT.sIx_none, List.drop_zero, Nat.sub_zero, Int.toNat_natCast, Nat.min_eq_left (by omega)]
theorem cut_from {ps : List Dt} {k : Int} (h0 : 0 ≤ k) (h1 : k ≤ (ps.length : Nat)) : cutD ps (some k) none = ps.drop k.toNat := by
  obtain ⟨n, rfl⟩ := Int.eq_ofNat_of_zero_le h0
  unfold cutD
  rw [HT.sIx_nat, HT.sIx_none, Int.toNat_natCast, Nat.min_eq_left (by omega), List.take_of_length_le (by rw [List.length_drop]; omega)]
theorem ok__law_nest {P : Program} {w : World} {K : PySem.W.Frag} {mg : Str → Option Value} {base : Heap} (T : Txt K mg) (c__law_take : Cal P w K mg base 1 "_law_take" (sp__law_take K) []) (n : Nat) : Cal P w K mg base (n + 8) "_law_nest" (sp__law_nest n K) [] := by
  induction n with
  | zero =>
    refine cal_box T.f__law_nest sc__law_nest (fun z => nomatch z) ?len fun f cdv A outer s H E hr => ⟨_, pss_never, ?body⟩
    case' body => try dsimp only [cxD, cxOf]
    case len => rintro ds Q ⟨b, _, rfl, _⟩; rfl
    case body =>
      rintro ds Q ⟨ps, e, rfl, hp, hl, he, _⟩
      omega
  | succ n ih =>
    have c__law_nest := ih
    refine cal_box T.f__law_nest sc__law_nest (fun z => nomatch z) ?len fun f cdv A outer s H E hr => ⟨_, (pss_cons (ps_set (i := 3) sc__law_nest.nd rfl (Or.inl rfl) (pe_c c__law_take hr (by omega) (by rfl) (pa_cons (pv 0) (pa_cons (pe_op op_addU (pe_callB cl_len (by rfl) T.b_len PySem.boot_len (pa_cons (pv 1) pa_nil)) pe_int) pa_nil))))
      (pss_cons (ps_if (pt_cmpR (op_eqU hr.units) (pv 2) pe_int (nomark _)) (pss_one (ps_ret (pe_callTy cl_tuple (by rfl) T.b_tuple (by decide +kernel) (pa_cons (pv 1) pa_nil)))) pss_nil)
      (pss_cons (ps_if (pt_cmpR (op_eqU hr.units) (pe_c c__law_take hr (by omega) (by rfl) (pa_cons (pv 0) (pa_cons pe_int pa_nil))) pe_int (nomark _)) (pss_one (ps_ret (pe_tup (pa_cons (pe_c c__law_nest hr (Nat.le_refl _) (by rfl) (pa_cons (pv 0) (pa_cons (pe_slice sl_list (pv 1) po_none (po_some (pv 3))) (pa_cons (pe_op op_subU (pv 2) pe_int) pa_nil)))) (pa_cons (pe_tup pa_nil) (pa_cons (pe_c c__law_nest hr (Nat.le_refl _) (by rfl) (pa_cons (pv 0) (pa_cons (pe_slice sl_list (pv 1) (po_some (pv 3)) po_none) (pa_cons (pe_op op_subU (pv 2) pe_int) pa_nil)))) pa_nil)))))) pss_nil)
      (pss_one (ps_ret (pe_op op_addU (pe_callTy cl_tuple (by rfl) T.b_tuple (by decide +kernel) (pa_cons (pe_slice sl_list (pv 1) po_none (po_some (pv 3))) pa_nil)) (pe_tup (pa_cons (pe_c c__law_nest hr (Nat.le_refl _) (by rfl) (pa_cons (pv 0) (pa_cons (pe_slice sl_list (pv 1) (po_some (pv 3)) po_none) (pa_cons (pe_op op_subU (pv 2) pe_int) pa_nil)))) pa_nil)))))))), ?body⟩
    case' body => try dsimp only [cxD, cxOf]
    case len => rintro ds Q ⟨b, _, rfl, _⟩; rfl
    case body =>
      rintro ds Q ⟨ps, e, rfl, hp, hl, he, he3, hq⟩ b l hne hid H0 D dom hD
      show NJ _ _ _ _ [.rw (.ref b), .im (.lst ps), .im (.int (e : Nat)), .un]
      refine q_asg ?_
      walk_at "box"
      refine take_j (by omega) (by omega) fun k k0 k1 => ?_
      walk_at "nm"
      refine q_when ?_
      walk_at "box"
      refine bl_two (fun h0 => ?_) (fun h0 => ?_)
      · refine nj_ret ?_
        walk_at "box"
        refine hD.rt _ (hq _ (vl_le (vl_tup hp (by omega)) (by omega)))
      obtain ⟨e, rfl⟩ : ∃ m, e = m + 1 := ⟨e - 1, by omega⟩
      have esub : (((e + 1 : Nat) : Int) - 1) = ((e : Nat) : Int) := by omega
      have h1 : ∀ p ∈ ps.take k.toNat, Vl 0 p := fun p h => hp p (List.mem_of_mem_take h)
      have h2 : ∀ p ∈ ps.drop k.toNat, Vl 0 p := fun p h => hp p (List.mem_of_mem_drop h)
      have l1 : (ps.take k.toNat).length ≤ 100 := by rw [List.length_take]; omega
      have l2 : (ps.drop k.toNat).length ≤ 100 := by rw [List.length_drop]; omega
      refine q_when ?_
      walk_at "box"
      refine take_j (by omega) (by omega) fun y y0 y1 => ?_
      walk_at "box"
      refine bl_two (fun hy => ?_) (fun hy => ?_)
      · refine nj_ret (ev_tup (ea_cons ?_))
        walk_at "box"
        refine EN.ev (en_sl (ev_var rfl (lstJ (eo_none (eo_some (ev_var rfl (intJ ?_)))))))
        rw [cut_to k0 (by omega)]
        walk_at "box"
        rw [esub]
        refine ⟨_, e, rfl, h1, l1, by omega, by omega, fun x hx => ?_⟩
        walk_at "box"
        refine EN.ev (en_sl (ev_var rfl (lstJ (eo_some (ev_var rfl (intJ (eo_none ?_)))))))
        rw [cut_from k0 (by omega)]
        walk_at "box"
        rw [esub]
        refine ⟨_, e, rfl, h2, l2, by omega, by omega, fun z hz => ?_⟩
        walk_at "box"
        refine hD.rt _ (hq _ (vl_tup (fun d hd => ?_) (by show 3 ≤ 100000; omega)))
        simp only [List.mem_cons, List.not_mem_nil, or_false] at hd
        rcases hd with rfl | rfl | rfl
        · exact hx
        · exact vl_le (vl_tup (n := 0) (fun d hd => nomatch hd) (by decide)) (by omega)
        · exact hz
      · refine nj_ret ?_
        walk_at "box"
        refine EN.ev (en_sl (ev_var rfl (lstJ (eo_none (eo_some (ev_var rfl (intJ ?_)))))))
        rw [cut_to k0 (by omega)]
        walk_at "box"
        refine EN.ev (en_sl (ev_var rfl (lstJ (eo_some (ev_var rfl (intJ (eo_none ?_)))))))
        rw [cut_from k0 (by omega)]
        walk_at "box"
        rw [esub]
        refine ⟨_, e, rfl, h2, l2, by omega, by omega, fun z hz => ?_⟩
        walk_at "box"
        refine add_t (by show _ + 1 ≤ _; omega) ?_
        refine hD.rt _ (hq _ (vl_tup (fun d hd => ?_) (by rw [List.length_append]; show _ + 1 ≤ _; omega)))
        rcases List.mem_append.mp hd with hd | hd
        · exact vl_le (h1 d hd) (by omega)
        · rw [List.mem_singleton.mp hd]; exact hz
def S__law_what (ds : List Dt) (Q : Dt → Prop) : Prop := ds = [] ∧ ∀ d, Vl 4 d → Q d
abbrev sp__law_what (K : PySem.W.Frag) : Sp := spB K S__law_what
theorem ok__law_what {P : Program} {w : World} {K : PySem.W.Frag} {mg : Str → Option Value} {base : Heap} (T : Txt K mg) (c__law_take : Cal P w K mg base 1 "_law_take" (sp__law_take K) []) (c__law_nest : Cal P w K mg base 12 "_law_nest" (sp__law_nest 4 K) []) : Cal P w K mg base 13 "_law_what" (sp__law_what K) [] := by
  refine cal_box T.f__law_what sc__law_what (fun z => nomatch z) ?len fun f cdv A outer s H E hr => ⟨_, (pss_cons (ps_set (i := 1) sc__law_what.nd rfl (Or.inl rfl) (pe_c c__law_take hr (by decide) (by rfl) (pa_cons (pv 0) (pa_cons pe_int pa_nil))))
      (pss_cons (ps_if (pt_cmpR (op_eqU hr.units) (pv 1) pe_int (nomark _)) (pss_cons (ps_set (i := 2) sc__law_what.nd rfl (Or.inr rfl) (pe_lst (pa_cons (pe_c c__law_take hr (by decide) (by rfl) (pa_cons (pv 0) (pa_cons pe_int pa_nil))) (pa_cons pe_str (pa_cons pe_non (pa_cons pe_bl pa_nil))))))
      (pss_cons (ps_setLc (i := 3) rfl sc__law_what.nd rfl rfl (sw_true rfl rfl rfl (by decide +kernel)) (g := (gName 4)) (tt := tYes) (te := (tOp (rIx K) (tVar 2) (tCall (sp__law_take K) [] E0 (tCons (tVar 0) (tCons (tC (.int 4)) tNil))))) (own := [("_law_k", 4)]) (pi_range1 (by rfl) T.b_range (pa_cons (pe_op op_addU pe_int (pe_c c__law_take hr (by decide) (by rfl) (pa_cons (pv 0) (pa_cons pe_int pa_nil)))) pa_nil)) (blkOk_by (N := ["_law_box", "_law_way", "_law_some", "_law_parts", "_law_k"]) (sc := defScope s__law_what) (by decide +kernel)) (fun _ _ _ _ _ => (pg_name (i := 4) sc__law_what.nd rfl (Or.inl rfl))) (fun _ _ _ _ _ => pts_nil) (fun _ _ _ _ _ => (pe_ix ix_seq (pv 2) (pe_c c__law_take hr (by decide) (by rfl) (pa_cons (pv 0) (pa_cons pe_int pa_nil))) (fun _ _ => rfl))))
      (pss_one (ps_ret (pe_c c__law_nest hr (by decide) (by rfl) (pa_cons (pv 0) (pa_cons (pv 3) (pa_cons (pe_c c__law_take hr (by decide) (by rfl) (pa_cons (pv 0) (pa_cons pe_int pa_nil))) pa_nil)))))))) pss_nil)
      (pss_cons (ps_set (i := 2) sc__law_what.nd rfl (Or.inr rfl) (pe_lst (pa_cons pe_non (pa_cons (pe_c c__law_take hr (by decide) (by rfl) (pa_cons (pv 0) (pa_cons pe_int pa_nil))) (pa_cons (pe_tup (pa_cons pe_str (pa_cons (pe_tup (pa_cons pe_int (pa_cons (pe_c c__law_take hr (by decide) (by rfl) (pa_cons (pv 0) (pa_cons pe_int pa_nil))) (pa_cons pe_non pa_nil)))) pa_nil))) (pa_cons pe_str (pa_cons (pe_tup (pa_cons (pe_tup pa_nil) (pa_cons (pe_tup (pa_cons pe_bl (pa_cons (pe_tup (pa_cons (pe_tup (pa_cons pe_int pa_nil)) pa_nil)) pa_nil))) pa_nil))) pa_nil)))))))
      (pss_one (ps_ret (pe_ix ix_seq (pv 2) (pv 1) (fun _ _ => rfl))))))), ?body⟩
  case' body => try dsimp only [cxD, cxOf]
  case len => rintro ds Q ⟨rfl, _⟩; rfl
  case body =>
    rintro ds Q ⟨rfl, hq⟩ b l hne hid H0 D dom hD
    show NJ _ _ _ _ [.rw (.ref b), .un, .un, .un, .un]
    refine q_asg ?_
    walk_at "box"
    refine take_j (by omega) (by omega) fun y y0 y1 => ?_
    walk_at "nm"
    refine q_when ?_
    walk_at "box"
    refine bl_two (fun h5 => ?_) (fun h5 => ?_)
    · refine q_asg ?_
      walk_at "box"
      refine take_j (by omega) (by omega) fun x x0 x1 => ?_
      walk_at "box"
      walk_at "nm"
      refine q_asgN (en_lc (ij_rng1 ?_))
      walk_at "box"
      refine take_j (by omega) (by omega) fun m m0 m1 => ?_
      walk_at "box"
      obtain ⟨m, rfl⟩ := Int.eq_ofNat_of_zero_le m0
      refine ⟨36 + m, rfl, by omega, by omega, by rw [rangeD_len]; omega, fun j ys => (∀ d ∈ ys, Vl 0 d) ∧ ys.length = j, ⟨(fun d hd => nomatch hd), rfl⟩, ?_, ?_⟩
      · rintro j d acc hj ⟨hv, hn⟩
        refine tge_name (by decide) (et_yes ⟨fun _ => ?_, fun z => nomatch z⟩)
        walk_at "nm"
        walk_at "box"
        refine take_j (by omega) (by omega) fun z z0 z1 => ?_
        obtain ⟨d, hat, hd⟩ : ∃ d, atI [Dt.int x, .str "text", .non, .bl true] z = some d ∧ Vl 0 d := by
          rcases (by omega : z = 0 ∨ z = 1 ∨ z = 2 ∨ z = 3) with rfl | rfl | rfl | rfl
          · exact ⟨_, rfl, vl_int _⟩
          · exact ⟨_, rfl, vl_str (by decide +kernel)⟩
          · exact ⟨_, rfl, vl_non⟩
          · exact ⟨_, rfl, vl_bl _⟩
        refine ix_l hat ⟨fun e he => ?_, by rw [List.length_append, hn]; rfl⟩
        rcases List.mem_append.mp he with he | he
        · exact hv e he
        · rw [List.mem_singleton.mp he]; exact hd
      rintro acc ⟨hv, hn⟩
      rw [rangeD_len] at hn
      walk_at "nm"
      refine nj_share (i := 3) rfl ?_
      walk_at "nm"
      refine nj_ret ?_
      walk_at "box"
      refine take_j (by omega) (by omega) fun e e0 e1 => ?_
      obtain ⟨e, rfl⟩ := Int.eq_ofNat_of_zero_le e0
      exact ea_nil ⟨acc, e, rfl, hv, by omega, by omega, by omega, fun d hd => hD.rt _ (hq _ (vl_le hd (by omega)))⟩
    · refine q_asg ?_
      walk_at "box"
      refine take_j (by omega) (by omega) fun m m0 m1 => ?_
      walk_at "box"
      refine take_j (by omega) (by omega) fun x x0 x1 => ?_
      walk_at "box"
      walk_at "nm"
      refine nj_ret ?_
      walk_at "box"
      have v3 : ∀ (a : Int) (n : Nat), Vl (n + 1) (.tup [.int 1, .int a, .non]) := fun a n => vl_tup (fun d hd => by
        simp only [List.mem_cons, List.not_mem_nil, or_false] at hd
        rcases hd with rfl | rfl | rfl
        · exact vl_int _
        · exact vl_int _
        · exact vl_non) (by show 3 ≤ 100000; omega)
      have v1 : ∀ (n : Nat) (d : Dt), Vl n d → Vl (n + 1) (.tup [d]) := fun n d h => vl_tup (fun e he => by rw [List.mem_singleton.mp he]; exact h) (by show 1 ≤ 100000; omega)
      have v2 : ∀ (n : Nat) (d e : Dt), Vl n d → Vl n e → Vl (n + 1) (.tup [d, e]) := fun n d e h h' => vl_tup (fun x hx => by
        simp only [List.mem_cons, List.not_mem_nil, or_false] at hx
        rcases hx with rfl | rfl
        · exact h
        · exact h') (by show 2 ≤ 100000; omega)
      obtain ⟨d, hat, hd⟩ : ∃ d, atI [Dt.non, .int m, .tup [.str "a", .tup [.int 1, .int x, .non]], .str "text", .tup [.tup [], .tup [.bl true, .tup [.tup [.int 2]]]]] y = some d ∧ Vl 4 d := by
        rcases (by omega : y = 0 ∨ y = 1 ∨ y = 2 ∨ y = 3 ∨ y = 4) with rfl | rfl | rfl | rfl | rfl
        · exact ⟨_, rfl, vl_non⟩
        · exact ⟨_, rfl, vl_int _⟩
        · exact ⟨_, rfl, v2 3 _ _ (vl_str (by decide +kernel)) (v3 x 2)⟩
        · exact ⟨_, rfl, vl_str (by decide +kernel)⟩
        · exact ⟨_, rfl, v2 3 _ _ (vl_tup (fun d hd => nomatch hd) (by decide)) (v2 2 _ _ (vl_bl _) (v1 1 _ (v1 0 _ (vl_int _))))⟩
      exact ix_l hat (hD.rt _ (hq _ hd))
end
section
open PySem PySem.Spec PyProof.Rows L2
open C8 (Cal pe_c pe_gc)
abbrev ownK (os op : Addr) (s : DkF) : List (Key × RV) := [(.inr "settled", .ref os), (.inr "pending", .ref op), (.inr "left", .dat (optN s.left)), (.inr "picks", .dat (bsD s.pk)), (.inr "fallen", .dat (.bl s.dn))]
structure OwnF (g : GT) (o os op : Addr) (s : DkF) : Prop where
  ob : g o = some (.dk (ownK os op s))
  hse : g os = some (.lst (dats s.set))
  hwa : g op = some (.lst (dats (s.wai.map wpD)))
  len : s.set.length = 600
  n1 : o ≠ os
  n2 : o ≠ op
  n3 : os ≠ op
theorem OwnF.keep {g g' : GT} {o os op : Addr} {s : DkF} (h : OwnF g o os op s) (k : ∀ y u, g y = some u → y = o ∨ y = os ∨ y = op → g' y = some u) : OwnF g' o os op s :=
  ⟨k _ _ h.ob (.inl rfl), k _ _ h.hse (.inr (.inl rfl)), k _ _ h.hwa (.inr (.inr rfl)), h.len, h.n1, h.n2, h.n3⟩
def OutO (g : GT) (o os op : Addr) (s' : DkF) (N : GT → Prop) : Prop := ∀ g' op', OwnF g' o os op' s' → (op' = op ∨ g op' = none) → (∀ y u, g y = some u → y ≠ o → y ≠ os → y ≠ op → g' y = some u) → N g'
theorem OutO.same {g : GT} {o os op : Addr} {s : DkF} {N : GT → Prop} (h : OutO g o os op s N) (hd : OwnF g o os op s) : N g := h g op hd (.inl rfl) fun _ _ hy _ _ _ => hy
section
variable {os op : Addr} {s : DkF} {r : RV}
theorem own_se : valR (ownK os op s) (.inr "settled") = some (.ref os) := rfl
theorem own_pe : valR (ownK os op s) (.inr "pending") = some (.ref op) := rfl
theorem own_le : valR (ownK os op s) (.inr "left") = some (.dat (optN s.left)) := rfl
theorem own_pi : valR (ownK os op s) (.inr "picks") = some (.dat (bsD s.pk)) := rfl
theorem own_fa : valR (ownK os op s) (.inr "fallen") = some (.dat (.bl s.dn)) := rfl
theorem put_pe : putRK (ownK os op s) (.inr "pending") r = [(.inr "settled", .ref os), (.inr "pending", r), (.inr "left", .dat (optN s.left)), (.inr "picks", .dat (bsD s.pk)), (.inr "fallen", .dat (.bl s.dn))] := rfl
theorem put_le : putRK (ownK os op s) (.inr "left") r = [(.inr "settled", .ref os), (.inr "pending", .ref op), (.inr "left", r), (.inr "picks", .dat (bsD s.pk)), (.inr "fallen", .dat (.bl s.dn))] := rfl
end
section
variable {K : PySem.W.Frag} {X : Cl K} {g : GT} {ρ : List Sl} {i : Nat} {o os op : Addr} {s : DkF}
theorem erc_own {k : Str} {b : Addr} (hi : ρ[i]? = some (.rw (.ref o))) (h : g o = some (.dk (ownK os op s))) (hv : valR (ownK os op s) (.inr k) = some (.ref b)) : ERC (ct X g) (tDGet (tVar i) (tC (.str k))) ρ (.ref b) := erc_dgetW (erc_var hi) (.inl h) erc_strK hv
theorem ev_own {k : Str} {d : Dt} {Q : Dt → Prop} (hi : ρ[i]? = some (.rw (.ref o))) (h : g o = some (.dk (ownK os op s))) (hv : valR (ownK os op s) (.inr k) = some (.dat d)) (hq : Q d) : EV (ct X g) (tDGet (tVar i) (tC (.str k))) ρ Q := ev_dgetW (erc_var hi) (.inl h) (ev_str (keyJs ⟨d, hv, hq⟩))
end
def S__law_made (g : GT) (rs : List RV) (Q : GT → RV → Prop) : Prop := rs = [] ∧ ∀ g' o os op, OwnF g' o os op newF → g o = none → g os = none → g op = none → (∀ y u, g y = some u → g' y = some u) → Q g' (.ref o)
abbrev sp__law_made (K : PySem.W.Frag) : Sp := spR K S__law_made
theorem ok__law_made {P : Program} {w : World} {K : PySem.W.Frag} {mg : Str → Option Value} {base : Heap} (T : Txt K mg)  : Cal P w K mg base 1 "_law_made" (sp__law_made K) [] := by
  refine cal_r T.f__law_made sc__law_made ?len fun f cdv A outer s H E hr => ⟨_, (pss_one (ps_ret (pe_disp (pps_cons pe_str (pe_op op_mulU (pe_lst (pa_cons pe_non pa_nil)) pe_int) (pps_cons pe_str (pe_lst pa_nil) (pps_cons pe_str pe_non (pps_cons pe_str (pe_lst pa_nil) (pps_cons pe_str pe_bl pps_nil))))) (by rfl) (by rfl) (fun z => by cases z) (by decide)))), ?body⟩
  case' body => try dsimp only [cxD, cxOf]
  case len => rintro g rs Q ⟨rfl, _⟩; rfl
  case body =>
    rintro X g rs Q ⟨rfl, hq⟩ hid H0 D dom hD
    show NJ _ _ _ _ []
    refine njr_ret (evr_dispG (evpg_cons (ev_str (keyJs (evr_new (en_op (EN.ev (en_lst ?_))))))))
    walk_at "go"
    refine mul_l (by decide) (by decide) fun os hos => ?_
    have e600 : (List.replicate (600 : Int).toNat [Dt.non]).flatten = List.replicate 600 .non := rep_one 600 .non
    rw [e600]
    refine evpg_cons (ev_str (keyJs (evr_new (en_lst (ea_nil ⟨by decide, fun op hop => evpg_cons (ev_str (keyJs (evr (ev_non (evpg_cons (ev_str (keyJs (evr (EN.ev (en_lst (ea_nil ⟨by decide, evpg_cons (ev_str (keyJs (evr (ev_bl (evpg_nil ⟨by show 5 ≤ 15; omega, ?_, fun o ho fr => ?_⟩)))))⟩)))))))))))⟩)))))
    · simp only [List.map_cons, List.map_nil]
      decide
    have n3 : os ≠ op := fun z => by rw [← z, setG_same] at hop; cases hop
    have n2 : o ≠ op := fun z => by rw [z, setG_same] at ho; cases ho
    have n1 : o ≠ os := fun z => by rw [z, setG_ne n3, setG_same] at ho; cases ho
    have hop0 : g op = none := by rw [setG_ne (Ne.symm n3)] at hop; exact hop
    have ho0 : g o = none := by rw [setG_ne n2, setG_ne n1] at ho; exact ho
    refine hD.rt _ _ (hq _ o os op ⟨setG_same, ?_, ?_, rfl, n1, n2, n3⟩ ho0 hos hop0 fun y u hy => ?_) fr
    · rw [setG_ne (Ne.symm n1), setG_ne n3, setG_same]; rfl
    · rw [setG_ne (Ne.symm n2), setG_same]; rfl
    · rw [setG_ne (fun z => by rw [z, ho0] at hy; cases hy), setG_ne (fun z => by rw [z, hop0] at hy; cases hy), setG_ne (fun z => by rw [z, hos] at hy; cases hy)]
      exact hy
theorem pick_false (n : Nat) : ∀ (ws : List (Nat × Dt)) (l : List Dt), pickF l (ws.zip (List.replicate n false)) = l := by
  induction n with
  | zero => intro ws l; rw [List.replicate_zero, List.zip_nil_right]; rfl
  | succ n ih =>
    intro ws l
    cases ws with
    | nil => rfl
    | cons w r =>
      rw [List.replicate_succ, List.zip_cons_cons]
      exact ih r l
theorem pick_more (n : Nat) : ∀ (ws : List (Nat × Dt)) (bs : List Bool) (l : List Dt), pickF l (ws.zip (bs ++ List.replicate n false)) = pickF l (ws.zip bs)
  | [], bs, l => by rw [List.zip_nil_left, List.zip_nil_left]
  | w :: r, [], l => by rw [List.nil_append, pick_false, List.zip_nil_right]; rfl
  | w :: r, b :: t, l => by
    rw [List.cons_append, List.zip_cons_cons, List.zip_cons_cons]
    exact pick_more n r t _
def S__law_fall (g : GT) (rs : List RV) (Q : GT → RV → Prop) : Prop := ∃ o os op s, ∃ bs : List Bool, rs = [.ref o, .dat (bsD bs)] ∧ OwnF g o os op s ∧ (∀ q ∈ s.wai, q.1 < 600) ∧ s.wai.length ≤ 400 ∧ bs.length ≤ 1000 ∧ OutO g o os op (stopF s bs) fun g' => Q g' (.dat .non)
abbrev sp__law_fall (K : PySem.W.Frag) : Sp := spR K S__law_fall
theorem ok__law_fall {P : Program} {w : World} {K : PySem.W.Frag} {mg : Str → Option Value} {base : Heap} (T : Txt K mg)  : Cal P w K mg base 1 "_law_fall" (sp__law_fall K) [] := by
  refine cal_r T.f__law_fall sc__law_fall ?len fun f cdv A outer s H E hr => ⟨_, (pss_cons (ps_for PassesOwn.never rfl (pi_range1 (by rfl) T.b_range (pa_cons (pe_callB cl_len (by rfl) T.b_len PySem.boot_len (pa_cons (pe_dget (hu_of hr) (pv 0) pe_str (fun _ _ => rfl)) pa_nil)) pa_nil)) (pg_name (i := 2) sc__law_fall.nd rfl (Or.inl rfl)) (pss_cons (ps_asg (pe_ix ix_seq (pe_dget (hu_of hr) (pv 0) pe_str (fun _ _ => rfl)) (pv 2) (fun _ _ => rfl)) (pg_tup rfl (pgs_cons (pg_name (i := 3) sc__law_fall.nd rfl (Or.inl rfl)) (pgs_cons (pg_name (i := 4) sc__law_fall.nd rfl (Or.inl rfl)) pgs_nil))))
      (pss_one (ps_if (pt_val (pe_ix ix_seq (pe_op op_addU (pe_callTy cl_list (by rfl) T.b_list (by decide +kernel) (pa_cons (pv 1) pa_nil)) (pe_op op_mulU (pe_lst (pa_cons pe_bl pa_nil)) pe_int)) (pv 2) (fun _ _ => rfl))) (pss_one (ps_asg (pv 4) (pg_sub (pe_dget (hu_of hr) (pv 0) pe_str (fun _ _ => rfl)) (pv 3) set_list))) pss_nil))))
      (pss_cons (ps_dput (hu_of hr) (pv 0) pe_str (pe_lst pa_nil) rfl)
      (pss_one (ps_dput (hu_of hr) (pv 0) pe_str pe_bl rfl)))), ?body⟩
  case' body => try dsimp only [cxD, cxOf]
  case len => rintro g rs Q ⟨_, _, _, _, _, rfl, _⟩; rfl
  case body =>
    rintro X g rs Q ⟨o, os, op, s, bs, rfl, hw, hws, hwl, hbl, hq⟩ hid H0 D dom hD
    show NJ _ _ _ _ [.rw (.ref o), .im (bsD bs), .un, .un, .un]
    have el : (dats (s.wai.map wpD)).length = s.wai.length := by unfold dats; rw [List.length_map, List.length_map]
    refine qm_for (W := WT X) (ij_rng1 (ea_cons (ev_lenT (erc_own rfl hw.ob own_pe) hw.hwa (ea_nil ⟨((s.wai.length : Nat) : Int), by rw [el], by omega, by omega, fun i g' ρ' => OwnF g' o os op { s with set := pickF s.set ((s.wai.zip (bs ++ List.replicate 400 false)).take i) } ∧ (∀ y, y ≠ os → g' y = g y) ∧ ∃ r2 r3 r4, ρ' = [.rw (.ref o), .im (bsD bs), r2, r3, r4], ⟨hw, (fun _ _ => rfl), _, _, _, rfl⟩, ?_, ?_⟩))))
    · rintro H1 e1 i x g1 ρ1 hi ⟨h1, k1, r2, r3, r4, rfl⟩ fr1
      obtain ⟨hi1, hx⟩ := rangeD_at hi
      have hi1 : i < s.wai.length := by omega
      rw [Int.zero_add] at hx
      subst hx
      refine tg_name ?_
      walk_at "nm"
      refine q_asgT (ev_ixT (erc_own rfl h1.ob own_pe) h1.hwa (ev_var rfl (intJ ⟨wpD s.wai[i], atI_nat (by rw [List.getElem?_map, List.getElem?_map, List.getElem?_eq_getElem hi1]; rfl), tg_tup rfl (tgs_name (tgs_name (tgs_nil ?_)))⟩)))
      walk_at "nm"
      refine nj_when ?_
      walk_at "go"
      refine RCN.j (list_l ?_)
      refine ev_op (EN.ev (en_lst ?_))
      walk_at "go"
      refine R2N.j (mul_l (ds := [Dt.bl false]) (k := 400) ⟨by omega, by omega⟩ (by decide) ?_)
      have erep : (List.replicate (400 : Int).toNat [Dt.bl false]).flatten = (List.replicate 400 false).map Dt.bl := by
        rw [List.map_replicate]; exact rep_one 400 _
      rw [erep]
      refine R2N.j (add_l (by rw [List.length_map, List.length_map, List.length_replicate]; omega) ?_)
      rw [← List.map_append]
      walk_at "go"
      have hb1 : i < (bs ++ List.replicate 400 false).length := by rw [List.length_append, List.length_replicate]; omega
      refine ix_l (d := .bl (bs ++ List.replicate 400 false)[i]) (atI_nat (by rw [List.getElem?_map, List.getElem?_eq_getElem hb1]; rfl)) ?_
      have hz : (s.wai.zip (bs ++ List.replicate 400 false))[i]? = some (s.wai[i], (bs ++ List.replicate 400 false)[i]) := by
        rw [List.getElem?_zip_eq_some]; exact ⟨List.getElem?_eq_getElem hi1, List.getElem?_eq_getElem hb1⟩
      generalize (bs ++ List.replicate 400 false)[i] = v at hz ⊢
      refine blJ ⟨fun e => ?_, fun e => ?_⟩
      · refine njr_setL (b := os) (evr (ev_var rfl ⟨erc_own rfl h1.ob own_se, _, h1.hse, ev_var rfl (intJ ⟨s.wai[i].1, ix_ok (by unfold dats; rw [List.length_map, pickF_len, hw.len]; exact hws _ (List.getElem_mem hi1)), fun fr2 => ?_⟩)⟩))
        refine njm_nxw _ ⟨⟨?_, ?_, ?_, ?_, hw.n1, hw.n2, hw.n3⟩, fun y y1 => (setG_ne y1).trans (k1 y y1), _, _, _, rfl⟩ (fr1.trans fr2) (by walk_at "le")
        · rw [setG_ne hw.n1]; exact h1.ob
        · rw [setG_same, take_at hz, pickF_snoc, if_pos e]
          unfold dats
          rw [← List.map_set]
        · rw [setG_ne (Ne.symm hw.n3)]; exact h1.hwa
        · show (pickF _ _).length = 600; rw [pickF_len]; exact hw.len
      · refine njm_nxw _ ⟨?_, k1, _, _, _, rfl⟩ fr1 (by walk_at "le")
        rw [take_at hz, pickF_snoc, if_neg (by rw [e]; exact Bool.false_ne_true)]
        exact h1
    · rintro g1 ρ1 ⟨h1, k1, r2, r3, r4, rfl⟩ fr1
      have h1 : OwnF g1 o os op { s with set := pickF s.set (s.wai.zip bs) } := by
        have e : (rangeD 0 ((s.wai.length : Nat) : Int).toNat).length = s.wai.length := by rw [rangeD_len]; omega
        rw [e, List.take_of_length_le (by rw [List.length_zip]; omega), pick_more] at h1
        exact h1
      refine qr_dput (evr_new (en_lst (ea_nil ⟨by decide, fun op' hop' => ⟨erc_var rfl, _, (setG_ne (fun z => by rw [← z, h1.ob] at hop'; cases hop')).trans h1.ob, by show 5 < 100000; omega, ev_str (keyJs fun fr2 => ?_)⟩⟩)))
      have m1 : o ≠ op' := fun z => by rw [← z, h1.ob] at hop'; cases hop'
      have m2 : os ≠ op' := fun z => by rw [← z, h1.hse] at hop'; cases hop'
      rw [put_pe] at fr2 ⊢
      refine njr_dput (evr (ev_bl ⟨erc_var rfl, _, setG_same, by show 5 < 100000; omega, ev_str (keyJs fun fr3 => ?_)⟩))
      have hg9 : g op' = none := by rw [← k1 op' (Ne.symm m2)]; exact hop'
      refine hD.nx _ (hq _ op' ⟨?_, ?_, ?_, h1.len, hw.n1, m1, m2⟩ (.inr hg9) fun y u hy y1 y2 y3 => ?_) ((fr1.trans fr2).trans fr3) _
      · rw [setG_same]; rfl
      · rw [setG_ne (Ne.symm hw.n1), setG_ne (Ne.symm hw.n1), setG_ne m2]; exact h1.hse
      · rw [setG_ne (Ne.symm m1), setG_ne (Ne.symm m1), setG_same]; rfl
      · rw [setG_ne y1, setG_ne y1, setG_ne (fun z => by rw [z, hg9] at hy; cases hy), k1 y y2]; exact hy
def S__law_count (g : GT) (rs : List RV) (Q : GT → RV → Prop) : Prop := ∃ o os op s, rs = [.ref o] ∧ OwnF g o os op s ∧ (∀ q ∈ s.wai, q.1 < 600) ∧ s.wai.length ≤ 400 ∧ s.pk.length ≤ 1000 ∧ OutO g o os op (deedF s).2 fun g' => Q g' (.dat (.bl (deedF s).1))
abbrev sp__law_count (K : PySem.W.Frag) : Sp := spR K S__law_count
theorem ok__law_count {P : Program} {w : World} {K : PySem.W.Frag} {mg : Str → Option Value} {base : Heap} (T : Txt K mg) (c__law_fall : Cal P w K mg base 1 "_law_fall" (sp__law_fall K) []) : Cal P w K mg base 2 "_law_count" (sp__law_count K) [] := by
  refine cal_r T.f__law_count sc__law_count ?len fun f cdv A outer s H E hr => ⟨_, (pss_cons (ps_if (pt_val (pe_dget (hu_of hr) (pv 0) pe_str (fun _ _ => rfl))) (pss_one (ps_ret pe_bl)) pss_nil)
      (pss_cons (ps_if (pt_cmpR (op_eqU hr.units) (pe_dget (hu_of hr) (pv 0) pe_str (fun _ _ => rfl)) pe_int (nomark _)) (pss_cons (ps_expr (pe_c c__law_fall hr (by decide) (by rfl) (pa_cons (pv 0) (pa_cons (pe_dget (hu_of hr) (pv 0) pe_str (fun _ _ => rfl)) pa_nil))))
      (pss_one (ps_ret pe_bl))) pss_nil)
      (pss_cons (ps_if (pt_cmpR op_isNotU (pe_dget (hu_of hr) (pv 0) pe_str (fun _ _ => rfl)) pe_non (nomark _)) (pss_one (ps_dput (hu_of hr) (pv 0) pe_str (pe_op op_subU (pe_dget (hu_of hr) (pv 0) pe_str (fun _ _ => rfl)) pe_int) rfl)) pss_nil)
      (pss_one (ps_ret pe_bl))))), ?body⟩
  case' body => try dsimp only [cxD, cxOf]
  case len => rintro g rs Q ⟨_, _, _, _, rfl, _⟩; rfl
  case body =>
    rintro X g rs Q ⟨o, os, op, s, rfl, hw, hws, hwl, hpl, hq⟩ hid H0 D dom hD
    show NJ _ _ _ _ [.rw (.ref o)]
    unfold deedF at hq
    refine q_when (etj (et_B (ev_own rfl hw.ob own_fa (blJ ⟨fun hdn => ?_, fun hdn => ?_⟩))))
    · rw [if_pos hdn] at hq
      exact njr_ret (evr (ev_bl fun fr => hD.rt _ _ (hq.same hw) fr))
    rw [if_neg (by rw [hdn]; exact Bool.false_ne_true)] at hq
    have fl : ∀ {Q : Dt → Prop}, Q (optN s.left) → EV (ct X g) (tDGet (tVar 0) (tC (.str "left"))) [.rw (.ref o)] Q := fun h => ev_own rfl hw.ob own_le h
    have e6 : ∀ {Q : Bool → Prop}, Q (decide (s.left = some 0)) → EVT (ct X g) (tTest (tOp (rEqU K) (tDGet (tVar 0) (tC (.str "left"))) (tC (.int 0)))) [.rw (.ref o)] Q := fun {Q} h => by
      cases hl : s.left with
      | none =>
        rw [hl] at fl h
        refine et_test (ev_op (fl (ev_int ?_)))
        refine eq_d (n := 1) (m := 1) .non (.int 0) (by decide) (by decide) ?_
        exact h
      | some n =>
        rw [hl] at fl h
        refine et_test (ev_op (fl (ev_int ?_)))
        show R2J _ _ (.int (n : Nat)) _ _
        refine eq_i ?_
        have : decide (((n : Nat) : Int) = 0) = decide (some n = some 0) := by
          by_cases z : n = 0
          · subst z; rfl
          · rw [decide_eq_false (by omega), decide_eq_false (by simpa using z)]
        rw [this]
        exact h
    refine q_when (etj (e6 (bl_two (fun h0 => ?_) (fun h0 => ?_))))
    · rw [if_pos h0] at hq
      refine qr_drop (evr_call (ear_ref (erc_var rfl) (ear_dat (ev_own rfl hw.ob own_pi (ear_nil ⟨o, os, op, s, s.pk, rfl, hw, hws, hwl, hpl, fun g1 op1 h1 h2 k1 fr1 => ?_⟩)))))
      exact njr_ret (evr (ev_bl fun fr => hD.rt _ _ (hq g1 op1 h1 h2 k1) (fr1.trans fr)))
    rw [if_neg h0] at hq
    cases hl : s.left with
    | none =>
      rw [hl] at fl hq
      refine q_when (etj (et_test (ev_op (fl (ev_non (isnot_n ?_))))))
      refine blJ (bl_no rfl ?_)
      refine njr_ret (evr (ev_bl fun fr => hD.rt _ _ (hq.same ?_) fr))
      have : (⟨s.set, s.wai, decL none, s.pk, s.dn⟩ : DkF) = s := by cases s; simp only at hl; subst hl; rfl
      rw [this]
      exact hw
    | some n =>
      rw [hl] at fl hq h0
      refine q_when (etj (et_test (ev_op (fl (ev_non (isnot_n ?_))))))
      refine blJ (bl_yes rfl ?_)
      refine njr_dput (evr (ev_op (fl (ev_int (sub_i ⟨erc_var rfl, _, hw.ob, by show 5 < 100000; omega, ev_str (keyJs fun fr1 => ?_)⟩)))))
      have hn : n ≠ 0 := fun z => h0 (by rw [z])
      rw [put_le] at fr1 ⊢
      refine njr_ret (evr (ev_bl fun fr => hD.rt _ _ (hq _ op ⟨?_, ?_, ?_, hw.len, hw.n1, hw.n2, hw.n3⟩ (.inl rfl) fun y u hy y1 _ _ => by rw [setG_ne y1]; exact hy) (fr1.trans fr)))
      · rw [setG_same, show ((n : Nat) : Int) - 1 = ((n - 1 : Nat) : Int) by omega]; rfl
      · rw [setG_ne (Ne.symm hw.n1)]; exact hw.hse
      · rw [setG_ne (Ne.symm hw.n2)]; exact hw.hwa
end
section
open PySem PySem.Spec PyProof.Rows L2
open C8 (Cal pe_c pe_gc)
local macro_rules | `(tactic| walk_at "law") => `(tactic| (repeat (first
  | with_reducible refine ev_callBW (by assumption) rfl ?_
  | with_reducible refine EN.ev (en_lst ?_)
  | with_reducible refine take_j (by omega) (by omega) ?_
  | walk_at "ev")))
theorem pow_i {c : Cn} {Q : Dt → Prop} {i j : Int} (hc : CPow i j) (h : Q (.int (i ^ j.toNat))) : R2J c (rI CPow fun i j => .int (i ^ j.toNat)) (.int i) (.int j) Q := rj_I hc h
theorem tger_dat {K : PySem.W.Frag} {X : Cl K} {g : GT} {gg : TG} {d : Dt} {ρ : List Sl} {vs : List Nat} {k : List Sl → Prop} (h : TGE (ct X g) gg d ρ vs k) : TGER X g gg (.dat d) ρ vs k := fun hd H σ v N s rv q => h hd H σ v N s rv q
theorem seenA_dats {g : GT} {A : Addr → Bool} {n : Nat} : ∀ ds : List Dt, P2 (SeenA g A n) (dats ds) ds
  | [] => .nil
  | d :: r => .cons (by cases n with
    | zero => rfl
    | succ n => exact .inl rfl) (seenA_dats r)
structure SA where
  d : Addr
  se : Addr
  wa : Addr
  o : Addr
  os : Addr
  op : Addr
def SA.foot (a : SA) : List Addr := [a.d, a.se, a.wa, a.o, a.os, a.op]
structure SideAt (K : PySem.W.Frag) (g : GT) (a : SA) (s : DkF) : Prop where
  disk : DiskF K g a.d a.se a.wa s
  own : OwnF g a.o a.os a.op s
  ap : ∀ x y, (x = a.d ∨ x = a.se ∨ x = a.wa) → (y = a.o ∨ y = a.os ∨ y = a.op) → x ≠ y
theorem SideAt.keep {K : PySem.W.Frag} {g g' : GT} {a : SA} {s : DkF} (h : SideAt K g a s) (k : ∀ y u, g y = some u → y ∈ a.foot → g' y = some u) : SideAt K g' a s :=
  ⟨h.disk.keep fun y u hy z => k y u hy (by unfold SA.foot; rcases z with rfl | rfl | rfl <;> simp), h.own.keep fun y u hy z => k y u hy (by unfold SA.foot; rcases z with rfl | rfl | rfl <;> simp), h.ap⟩
theorem SideAt.live {K : PySem.W.Frag} {g : GT} {a : SA} {s : DkF} (h : SideAt K g a s) {y : Addr} (hy : y ∈ a.foot) : ∃ u, g y = some u := by
  obtain ⟨dx, ho⟩ := h.disk.ob
  simp only [SA.foot, List.mem_cons, List.not_mem_nil, or_false] at hy
  rcases hy with rfl | rfl | rfl | rfl | rfl | rfl
  · exact ⟨_, ho⟩
  · exact ⟨_, h.disk.hse⟩
  · exact ⟨_, h.disk.hwa⟩
  · exact ⟨_, h.own.ob⟩
  · exact ⟨_, h.own.hse⟩
  · exact ⟨_, h.own.hwa⟩
theorem SideAt.dead {K : PySem.W.Frag} {g : GT} {a : SA} {s : DkF} (h : SideAt K g a s) {y : Addr} (hy : g y = none) : y ∉ a.foot := fun z => by
  obtain ⟨u, hu⟩ := h.live z
  rw [hy] at hu; cases hu
structure OkF (n : Nat) (s : DkF) : Prop where
  wb : ∀ q ∈ s.wai, q.1 < 600
  wl : s.wai.length ≤ n
  wv : ∀ q ∈ s.wai, Vl 4 q.2
  sv : ∀ x ∈ s.set, Vl 4 x
  pl : s.pk.length ≤ 200
theorem OkF.up {n m : Nat} {s : DkF} (h : OkF n s) (k : n ≤ m) : OkF m s := ⟨h.wb, Nat.le_trans h.wl k, h.wv, h.sv, h.pl⟩
def NxS (K : PySem.W.Frag) (g : GT) (a : SA) (n : Nat) (g' : GT) : Prop := ∃ a' s', SideAt K g' a' s' ∧ OkF n s' ∧ a'.d = a.d ∧ a'.o = a.o ∧ (∀ y ∈ a'.foot, y ∈ a.foot ∨ g y = none) ∧ ∀ y u, g y = some u → y ∉ a.foot → g' y = some u
theorem nx_two {K : PySem.W.Frag} {g g1 g2 : GT} {a : SA} {s s' : DkF} {n : Nat} {op1 wa2 : Addr} (hS : SideAt K g a s) (hok : OkF n s') (h1 : OwnF g1 a.o a.os op1 s') (f1 : op1 = a.op ∨ g op1 = none) (k1 : ∀ y u, g y = some u → y ≠ a.o → y ≠ a.os → y ≠ a.op → g1 y = some u) (h2 : DiskF K g2 a.d a.se wa2 s') (f2 : wa2 = a.wa ∨ g1 wa2 = none) (k2 : ∀ y u, g1 y = some u → y ≠ a.d → y ≠ a.se → y ≠ a.wa → g2 y = some u) : NxS K g a n g2 := by
  have lv : ∀ y ∈ a.foot, g y ≠ none := fun y hy z => (hS.dead z) hy
  have op_ne : ∀ x, (x = a.d ∨ x = a.se ∨ x = a.wa) → x ≠ op1 := fun x hx => by
    rcases f1 with rfl | f1
    · exact hS.ap x _ hx (.inr (.inr rfl))
    · intro z
      refine lv x ?_ (z ▸ f1)
      unfold SA.foot
      rcases hx with rfl | rfl | rfl <;> simp
  refine ⟨{ a with wa := wa2, op := op1 }, s', ⟨h2, h1.keep fun y u hy z => ?_, ?_⟩, hok, rfl, rfl, fun y hy => ?_, fun y u hy hn => ?_⟩
  · have ne : ∀ x, (x = a.d ∨ x = a.se ∨ x = a.wa) → y ≠ x := fun x hx => by
      rcases z with rfl | rfl | rfl
      · exact (hS.ap x _ hx (.inl rfl)).symm
      · exact (hS.ap x _ hx (.inr (.inl rfl))).symm
      · exact (op_ne x hx).symm
    exact k2 y u hy (ne _ (.inl rfl)) (ne _ (.inr (.inl rfl))) (ne _ (.inr (.inr rfl)))
  · intro x y hx hy
    have hx : x = a.d ∨ x = a.se ∨ x = wa2 := hx
    have hy : y = a.o ∨ y = a.os ∨ y = op1 := hy
    have hy' : ∃ u, g1 y = some u := by
      rcases hy with e | e | e
      · rw [e]; exact ⟨_, h1.ob⟩
      · rw [e]; exact ⟨_, h1.hse⟩
      · rw [e]; exact ⟨_, h1.hwa⟩
    have old : ∀ z, (z = a.d ∨ z = a.se ∨ z = a.wa) → z ≠ y := fun z hz => by
      rcases hy with e | e | e
      · rw [e]; exact hS.ap z _ hz (.inl rfl)
      · rw [e]; exact hS.ap z _ hz (.inr (.inl rfl))
      · rw [e]; exact op_ne z hz
    rcases hx with e | e | e
    · rw [e]; exact old _ (.inl rfl)
    · rw [e]; exact old _ (.inr (.inl rfl))
    · rcases f2 with f2 | f2
      · rw [e, f2]; exact old _ (.inr (.inr rfl))
      · intro z
        obtain ⟨u, hu⟩ := hy'
        rw [← z, e, f2] at hu
        cases hu
  · simp only [SA.foot, List.mem_cons, List.not_mem_nil, or_false] at hy ⊢
    rcases hy with e | e | e | e | e | e
    · exact .inl (.inl e)
    · exact .inl (.inr (.inl e))
    · rcases f2 with f2 | f2
      · exact .inl (.inr (.inr (.inl (e.trans f2))))
      · by_cases z : (y = a.d ∨ y = a.se ∨ y = a.wa ∨ y = a.o ∨ y = a.os ∨ y = a.op)
        · exact .inl z
        · refine .inr ?_
          simp only [not_or] at z
          cases hz : g y with
          | none => rfl
          | some u => rw [← e, k1 _ u hz z.2.2.2.1 z.2.2.2.2.1 z.2.2.2.2.2] at f2; cases f2
    · exact .inl (.inr (.inr (.inr (.inl e))))
    · exact .inl (.inr (.inr (.inr (.inr (.inl e)))))
    · rcases f1 with f1 | f1
      · exact .inl (.inr (.inr (.inr (.inr (.inr (e.trans f1))))))
      · exact .inr (by rw [e]; exact f1)
  · simp only [SA.foot, List.mem_cons, List.not_mem_nil, or_false, not_or] at hn
    exact k2 y u (k1 y u hy hn.2.2.2.1 hn.2.2.2.2.1 hn.2.2.2.2.2) hn.1 hn.2.1 hn.2.2.1
theorem set_all {l : List Dt} {i : Nat} {x : Dt} (h : ∀ y ∈ l, Vl 4 y) (hx : Vl 4 x) : ∀ y ∈ l.set i x, Vl 4 y := fun y hy => by
  rcases List.mem_or_eq_of_mem_set hy with z | z
  · exact h y z
  · rw [z]; exact hx
theorem pickF_ok : ∀ (qs : List ((Nat × Dt) × Bool)) (l : List Dt), (∀ y ∈ l, Vl 4 y) → (∀ q ∈ qs, Vl 4 q.1.2) → ∀ y ∈ pickF l qs, Vl 4 y
  | [], _, h, _ => h
  | q :: r, l, h, hq => by
    show ∀ y ∈ pickF (if q.2 = true then l.set q.1.1 q.1.2 else l) r, Vl 4 y
    refine pickF_ok r _ ?_ fun p hp => hq p (List.mem_cons_of_mem _ hp)
    split
    · exact set_all h (hq q List.mem_cons_self)
    · exact h
theorem setAll_ok : ∀ (ws : List (Nat × Dt)) (l : List Dt), (∀ y ∈ l, Vl 4 y) → (∀ q ∈ ws, Vl 4 q.2) → ∀ y ∈ setAll l ws, Vl 4 y
  | [], _, h, _ => h
  | q :: r, l, h, hq => setAll_ok r (l.set q.1 q.2) (set_all h (hq q List.mem_cons_self)) fun p hp => hq p (List.mem_cons_of_mem _ hp)
theorem OkF.stop {n : Nat} {s : DkF} (h : OkF n s) (bs : List Bool) : OkF n (stopF s bs) :=
  ⟨(fun q hq => nomatch hq), Nat.zero_le _, (fun q hq => nomatch hq), pickF_ok _ _ h.sv fun q hq => h.wv _ (List.of_mem_zip hq).1, h.pl⟩
theorem OkF.deed {n : Nat} {s : DkF} (h : OkF n s) : OkF n (deedF s).2 := by
  unfold deedF
  split
  · exact h
  · split
    · exact h.stop _
    · exact ⟨h.wb, h.wl, h.wv, h.sv, h.pl⟩
theorem OkF.write {n : Nat} {s : DkF} (h : OkF n s) (b : Int) {x : Dt} (hx : Vl 4 x) : OkF (n + 1) (writeF s b x).2 := by
  unfold writeF
  split
  · rename_i hb
    split
    · rename_i hd
      rw [deedO_wai s hd]
      refine ⟨fun q hq => ?_, by rw [List.length_append]; have := h.wl; show _ + 1 ≤ _; omega, fun q hq => ?_, h.sv, h.pl⟩
      · rcases List.mem_append.mp hq with hq | hq
        · exact h.wb q hq
        · rw [List.mem_singleton.mp hq]; show b.toNat < 600; omega
      · rcases List.mem_append.mp hq with hq | hq
        · exact h.wv q hq
        · rw [List.mem_singleton.mp hq]; exact hx
    · exact h.deed.up (by omega)
  · exact h.up (by omega)
theorem OkF.settle {n : Nat} {s : DkF} (h : OkF n s) : OkF n (settleF s).2 := by
  unfold settleF
  split
  · rename_i hd
    rw [deedO_wai s hd]
    exact ⟨(fun q hq => nomatch hq), Nat.zero_le _, (fun q hq => nomatch hq), setAll_ok _ _ h.sv h.wv, h.pl⟩
  · exact h.deed
theorem OkF.arm {n : Nat} {s : DkF} (h : OkF n s) (k : Nat) {bs : List Bool} (hb : bs.length ≤ 200) : OkF n (armF s k bs) := by
  unfold armF
  split
  · exact h
  · exact ⟨h.wb, h.wl, h.wv, h.sv, hb⟩
theorem OkF.again {n : Nat} {s : DkF} (h : OkF n s) : OkF n (againF s) := ⟨(fun q hq => nomatch hq), Nat.zero_le _, (fun q hq => nomatch hq), h.sv, Nat.zero_le _⟩
theorem OkF.new : OkF 0 newF := ⟨(fun q hq => nomatch hq), Nat.zero_le _, (fun q hq => nomatch hq), fun x hx => by rw [List.eq_of_mem_replicate hx]; exact vl_non, Nat.zero_le _⟩
def refO : Option Str → Dt
  | none => .non
  | some nm => .tup [.str nm, .int 0]
theorem al_refO (o : Option Str) : Al 7 (refO o) := by
  cases o with
  | none => exact .non
  | some nm => exact .tup (n := 6) (fun d hd => by
      simp only [List.mem_cons, List.not_mem_nil, or_false] at hd
      rcases hd with rfl | rfl
      · exact .str _
      · exact .int _) (by show 2 ≤ 100000; decide)
theorem write_nm {s : DkF} {b : Int} {x : Dt} {nm : Str} (h : (writeF s b x).1 = some nm) : nm ∈ rzN ∧ placed nm = false := by
  unfold writeF at h
  split at h
  · split at h
    · cases h
    · cases h; exact ⟨by decide, by decide⟩
  · cases h; exact ⟨by decide, by decide⟩
theorem settle_nm {s : DkF} {nm : Str} (h : (settleF s).1 = some nm) : nm ∈ rzN ∧ placed nm = false := by
  unfold settleF at h
  split at h
  · cases h
  · cases h; exact ⟨by decide, by decide⟩
theorem read_nm {s : DkF} {b : Int} {nm : Str} (h : (readT s b).1 = some nm) : nm ∈ rzN ∧ placed nm = false := by
  unfold readT at h
  split at h
  · split at h
    · cases h; exact ⟨by decide, by decide⟩
    · cases h
  · cases h; exact ⟨by decide, by decide⟩
abbrev lawP (K : PySem.W.Frag) : Addr := (He.cT K ("law", none)).2
abbrev isP (K : PySem.W.Frag) : Addr := (He.cT K ("_law_is", none)).2
abbrev wrP (K : PySem.W.Frag) : Addr := (He.cT K ("_law_write", none)).2
abbrev lawQ : Str := "law.<locals>.<lambda>"
abbrev isQ : Str := "_law_is.<locals>.<lambda>"
abbrev wrQ : Str := "_law_write.<locals>.<lambda>"
def S__law_write (K : PySem.W.Frag) (g : GT) (rs : List RV) (Q : GT → RV → Prop) : Prop := ∃ a s n, rs = [.ref a.d, .ref a.o] ∧ SideAt K g a s ∧ OkF n s ∧ n < 400 ∧ g (wrP K) = some (.tab wrQ) ∧ ∀ g', NxS K g a (n + 1) g' → Q g' (.dat (.bl true))
abbrev sp__law_write (K : PySem.W.Frag) : Sp := spRB K (S__law_write K)
theorem ok__law_write {P : Program} {w : World} {K : PySem.W.Frag} {mg : Str → Option Value} {base : Heap} (T : Txt K mg) (b__law_take : ∀ B, Cal P w K mg B 1 "_law_take" (sp__law_take K) []) (b__law_what : ∀ B, Cal P w K mg B 13 "_law_what" (sp__law_what K) []) (b__law_weight : ∀ B, Cal P w K mg B 7 "_law_weight" (sp__law_weight 6 K) []) (b__law_count : ∀ B, Cal P w K mg B 2 "_law_count" (sp__law_count K) []) (b__law_alike : ∀ B, Cal P w K mg B 8 "_law_alike" (sp__law_alike 7 K) []) (b__law_told : ∀ B, Cal P w K mg B 15 "_law_told" (sp__law_told P w K mg B) []) (b_Disk_write : ∀ B, CalM P w K mg B (L2.CX P w) 8 (He.ga K "Disk") "write" (sp_Disk_write K)) (TB : LamX.TabB base mg (He.cT K ("_law_write", none)).1 (He.cT K ("_law_write", none)).2) : Cal P w K mg base 16 "_law_write" (sp__law_write K) [] := by
  have c__law_take := b__law_take base
  have c__law_what := b__law_what base
  have c__law_weight := b__law_weight base
  have c__law_count := b__law_count base
  have c__law_alike := b__law_alike base
  have c__law_told := b__law_told base
  have c_Disk_write := b_Disk_write base
  refine cal_rBC T.f__law_write sc__law_write ?len fun f A outer s H E hr => ⟨_, (pss_cons (ps_set (i := 3) sc__law_write.nd rfl (Or.inr rfl) (pe_ix ix_seq (pe_lst (pa_cons (pe_c c__law_take hr (by decide) (by rfl) (pa_cons (pv 0) (pa_cons pe_int pa_nil))) (pa_cons (pe_c c__law_take hr (by decide) (by rfl) (pa_cons (pv 0) (pa_cons pe_int pa_nil))) (pa_cons (pe_ix ix_seq (pe_lst (pa_cons (pe_un un_neg pe_int) (pa_cons pe_int (pa_cons (pe_op op_pow pe_int pe_int) pa_nil)))) (pe_c c__law_take hr (by decide) (by rfl) (pa_cons (pv 0) (pa_cons pe_int pa_nil))) (fun _ _ => rfl)) pa_nil)))) (pe_op op_divU (pe_c c__law_take hr (by decide) (by rfl) (pa_cons (pv 0) (pa_cons pe_int pa_nil))) pe_int) (fun _ _ => rfl)))
      (pss_cons (ps_set (i := 4) sc__law_write.nd rfl (Or.inr rfl) (pe_c c__law_what hr (by decide) (by rfl) (pa_cons (pv 0) pa_nil)))
      (pss_cons (ps_set (i := 5) sc__law_write.nd rfl (Or.inl rfl) (pe_tup (pa_cons pe_str (pa_cons pe_int pa_nil))))
      (Evl.pss_cut (ps_if ((pw_and (pt_chain op_leU op_ltU pe_int (pv 3) pe_int) (pw_and1 (pt_cmpR op_leU (pe_c c__law_weight hr (by decide) (by rfl) (pa_cons (pv 4) pa_nil)) pe_int (nomark _))))).pt (pss_cons (ps_set (i := 5) sc__law_write.nd rfl (Or.inl rfl) (pe_ifExp (pt_val (pe_c c__law_count hr (by decide) (by rfl) (pa_cons (pv 2) pa_nil))) pe_non (pe_tup (pa_cons pe_str (pa_cons pe_int pa_nil)))))
      (pss_one (ps_if (pt_cmpR op_isU (pv 5) pe_non (nomark _)) (pss_one (ps_expr (pe_bm PySem.F.plainAttrs_list PySem.F.slot_list_append PySem.F.type_list_append mt_append (pe_dget (hu_of hr) (pv 2) pe_str (fun _ _ => rfl)) (pa_cons (pe_tup (pa_cons (pv 3) (pa_cons (pv 4) pa_nil))) pa_nil)))) pss_nil))) pss_nil)
      (pss_one (ps_ret (pe_c c__law_alike hr (by decide) (by rfl) (pa_cons (pe_callBig b__law_told hr (by decide) (by rfl) (pa_cons (pe_lamM (k := 13) (ps := []) TB rfl rfl (fun _ => rfl) (lamS2_by (N := ["_law_box", "_law_disk", "_law_own", "_law_block", "_law_what_here", "_law_due"]) (sc := defScope s__law_write) (by decide +kernel)) rfl (by decide) rfl (fun _ _ _ _ _ _ => rfl) (fun z => absurd rfl z) (fun B A outer s H E f c' hr => (pe_mtW (b_Disk_write _) hr (by decide) T.cl_Disk (takes_of rfl rfl rfl rfl) (pv 1) (pa_cons (pv 3) (pa_cons (pv 4) pa_nil))))) pa_nil)) (pa_cons (pv 5) pa_nil))))))))), ?body⟩
  case' body => try dsimp only [cxD, cxOf]
  case len => rintro g rs Q ⟨_, _, _, rfl, _⟩; rfl
  case body =>
    rintro b l g rs Q hne ⟨a, s, n, rfl, hS, hok, hn, hT, hq⟩ hid H0 D dom hD
    show NJ _ _ _ _ [.rw (.ref b), .rw (.ref a.d), .rw (.ref a.o), .un, .un, .un]
    have hol := hok.wl
    have hpl := hok.pl
    refine q_asg ?_
    walk_at "law"
    intro x1 p0 p1
    walk_at "law"
    intro x2 p2 p3
    walk_at "law"
    refine pow_i ⟨by decide, by decide, by decide⟩ ?_
    walk_at "law"
    intro x3 p4 p5
    obtain ⟨y3, hy3⟩ : ∃ y : Int, atI [Dt.int (-1), .int 600, .int (10 ^ Int.toNat 18)] x3 = some (.int y) := by
      rcases (by omega : x3 = 0 ∨ x3 = 1 ∨ x3 = 2) with rfl | rfl | rfl <;> exact ⟨_, rfl⟩
    refine ix_l hy3 (ea_nil ⟨by show 3 ≤ 100000; omega, ?_⟩)
    walk_at "law"
    intro x4 p6 p7
    walk_at "law"
    obtain ⟨blk, hblk⟩ : ∃ y : Int, atI [Dt.int x1, .int x2, .int y3] (x4 / 4) = some (.int y) := by
      rcases (by omega : x4 / 4 = 0 ∨ x4 / 4 = 1 ∨ x4 / 4 = 2) with e | e | e <;> rw [e] <;> exact ⟨_, rfl⟩
    refine ix_l hblk ?_
    walk_at "nm"
    clear hblk p6 p7 hy3 p4 p5 p2 p3 p0 p1
    refine q_asg (ev_callBW hne rfl (ea_nil ⟨rfl, fun x hx => ?_⟩))
    walk_at "nm"
    refine q_asg ?_
    walk_at "law"
    walk_at "nm"
    have hnm : ∀ nm, (writeF s blk x).1 = some nm → nm ∈ rzN ∧ placed nm = false := fun nm h => write_nm h
    have hok' := hok.write blk hx
    obtain ⟨dx, hob⟩ := hS.disk.ob
    have dkeep : ∀ {g1 : GT}, (∀ y u, g y = some u → y ≠ a.o → y ≠ a.os → y ≠ a.op → g1 y = some u) → DiskF K g1 a.d a.se a.wa s := fun k1 => hS.disk.keep fun y u hy z => k1 y u hy (hS.ap y _ z (.inl rfl)) (hS.ap y _ z (.inr (.inl rfl))) (hS.ap y _ z (.inr (.inr rfl)))
    refine qm_cut (W := WT (XB K b l)) (fun g1 ρ1 => (∃ op1, OwnF g1 a.o a.os op1 (writeF s blk x).2 ∧ (op1 = a.op ∨ g op1 = none) ∧ ∀ y u, g y = some u → y ≠ a.o → y ≠ a.os → y ≠ a.op → g1 y = some u) ∧ g1 (wrP K) = some (.tab wrQ) ∧ ρ1 = [.rw (.ref b), .rw (.ref a.d), .rw (.ref a.o), .im (.int blk), .im x, .im (refO (writeF s blk x).1)]) ?_ ?_
    · have tabk : ∀ {g1 : GT}, (∀ y u, g y = some u → y ≠ a.o → y ≠ a.os → y ≠ a.op → g1 y = some u) → g1 (wrP K) = some (.tab wrQ) := fun k1 => k1 _ _ hT (fun z => by rw [z, hS.own.ob] at hT; cases hT) (fun z => by rw [z, hS.own.hse] at hT; cases hT) (fun z => by rw [z, hS.own.hwa] at hT; cases hT)
      have bad : ¬ (0 ≤ blk ∧ blk < 600 ∧ wt x ≤ 40) → writeF s blk x = (some ("BadBlock" : Str), s) := fun h => by unfold writeF; rw [if_neg h]
      refine nj_when ?_
      walk_at "law"
      refine ⟨fun h0 => ?_, fun h0 => ?_⟩
      · have h0 := of_decide_eq_true h0
        walk_at "law"
        refine bl_two (fun h1 => ?_) (fun h1 => ?_)
        · walk_at "law"
          refine sp_j (S := S_weight_of 6) ⟨_, rfl, (vl_le hx (by omega : 4 ≤ 6)).td, ?_⟩
          walk_at "law"
          refine bl_two (fun h2 => ?_) (fun h2 => ?_)
          · have eW : writeF s blk x = if (deedF s).1 = true then (none, { (deedF s).2 with wai := s.wai ++ [(blk.toNat, x)] }) else (some ("Stopped" : Str), (deedF s).2) := by unfold writeF; rw [if_pos ⟨h0, h1, by omega⟩]
            refine qr_asg (evr_ifG (etr_B (evr_call (ear_ref (erc_var rfl) (ear_nil ⟨a.o, a.os, a.op, s, rfl, hS.own, hok.wb, by omega, by omega, fun g1 op1 h1 f1 k1 => ⟨_, rfl, fun hdd => evr (ev_non fun fr1 => ?_), fun hdd => evr (ev_tup (ea_cons (ev_str (ea_cons (ev_int (ea_nil ⟨by show 2 ≤ 100000; omega, fun fr1 => ?_⟩))))))⟩⟩)))))
            · rw [if_pos hdd] at eW
              walk_at "nm"
              rw [deedO_wai s hdd] at eW h1
              refine nj_when (etj (et_test (ev_op (ev_var rfl (ev_non (is_n ?_))))))
              refine blJ (bl_yes rfl ?_)
              refine njr_app (erc_own rfl h1.ob own_pe) h1.hwa (evr (ev_tup (ea_cons (ev_var rfl (ea_cons (ev_var rfl (ea_nil ⟨by show 2 ≤ 100000; omega, _, h1.hwa, by unfold dats; rw [List.length_map, List.length_map]; show s.wai.length < _; omega, fun fr2 => ?_⟩)))))))
              refine njm_nxw _ ⟨⟨op1, ?_, f1, fun y u hy y1 y2 y3 => ?_⟩, ?_, rfl⟩ (fr1.trans fr2) (by rw [eW]; walk_at "le")
              · rw [eW]
                refine ⟨?_, ?_, ?_, h1.len, h1.n1, h1.n2, h1.n3⟩
                · rw [setG_ne h1.n2]; exact h1.ob
                · rw [setG_ne h1.n3]; exact h1.hse
                · rw [setG_same]
                  show some (MT.lst (dats (s.wai.map wpD) ++ [.dat (.tup [.int blk, x])])) = _
                  unfold dats
                  rw [List.map_append, List.map_append]
                  show _ = some (MT.lst (_ ++ [RV.dat (.tup [.int ((blk.toNat : Nat) : Int), x])]))
                  rw [Int.toNat_of_nonneg h0]
              · rw [setG_ne (fun z => by
                  rcases f1 with f1 | f1
                  · exact y3 (z.trans f1)
                  · rw [z, f1] at hy; cases hy)]
                exact k1 y u hy y1 y2 y3
              · have h9 := tabk k1
                rw [setG_ne (fun z => by rw [z, h1.hwa] at h9; cases h9)]
                exact h9
            · rw [if_neg (by rw [hdd]; exact Bool.false_ne_true)] at eW
              walk_at "nm"
              refine nj_when (etj (et_test (ev_op (ev_var rfl (ev_non (is_n ?_))))))
              refine blJ (bl_no rfl ?_)
              refine njm_nxw _ ⟨⟨op1, by rw [eW]; exact h1, f1, k1⟩, tabk k1, rfl⟩ fr1 (by rw [eW]; walk_at "le")
          · refine njm_nxw _ ⟨⟨a.op, by rw [bad (by omega)]; exact hS.own, .inl rfl, fun _ _ hy _ _ _ => hy⟩, hT, rfl⟩ .refl (by rw [bad (by omega)]; walk_at "le")
        · refine bl_no rfl ?_
          refine njm_nxw _ ⟨⟨a.op, by rw [bad (by omega)]; exact hS.own, .inl rfl, fun _ _ hy _ _ _ => hy⟩, hT, rfl⟩ .refl (by rw [bad (by omega)]; walk_at "le")
      · have h0 := of_decide_eq_false h0
        refine blJ (bl_no rfl ?_)
        refine bl_no rfl ?_
        refine njm_nxw _ ⟨⟨a.op, by rw [bad (by omega)]; exact hS.own, .inl rfl, fun _ _ hy _ _ _ => hy⟩, hT, rfl⟩ .refl (by rw [bad (by omega)]; walk_at "le")
    · rintro g1 ρ1 ⟨⟨op1, h1, f1, k1⟩, hT1, rfl⟩ fr1
      have hd1 := dkeep k1
      obtain ⟨dx1, hob1⟩ := hd1.ob
      have hno : ∀ {m : Str}, (m == "settled") = false → (m == "waiting") = false → (m == "left") = false → (m == "picks") = false → (m == "is_down") = false → (dkG a.se a.wa s).lookup m = none := methF_no
      cases ho : (writeF s blk x).1 with
      | none =>
        refine njr_ret (evr_callPG (fun _ => true) 2 (eag_cons (evr_toldW rfl (ea_cons (ev_lamW hT1 fun fA LA hA => ea_nil ⟨_, fA, LA, rfl, hA, twd_methW (erc_var rfl) hob1 (methF_no (by decide) (by decide) (by decide) (by decide) (by decide)) (eag_cons (evr (ev_var rfl (eag_cons (evr (ev_var rfl (eag_nil ⟨fun _ _ _ => False, ⟨a.d, a.se, a.wa, s, blk, x, rfl, hd1, hok.wb, by omega, (vl_le hx (by omega : 4 ≤ 6)).td, fun g2 wa2 h2 f2 k2 => ?_⟩, fun _ _ _ z => z.elim⟩)))))))⟩)))))
        rw [ho]
        refine eag_cons (evr (ev_var rfl (eag_nil ⟨[.non, .non], .cons (.inl rfl) (.cons (.inl rfl) .nil), _, rfl, .non, rfl, fun fr2 => hD.rt _ _ (hq g2 (nx_two hS hok' h1 f1 k1 h2 f2 k2)) (fr1.trans fr2)⟩)))
      | some nm =>
        obtain ⟨n1, n2⟩ := hnm nm ho
        refine njr_ret (evr_callPG (fun _ => true) 2 (eag_cons (evr_toldW rfl (ea_cons (ev_lamW hT1 fun fA LA hA => ea_nil ⟨_, fA, LA, rfl, hA, twd_methW (erc_var rfl) hob1 (methF_no (by decide) (by decide) (by decide) (by decide) (by decide)) (eag_cons (evr (ev_var rfl (eag_cons (evr (ev_var rfl (eag_nil ⟨fun g2 nm' pl => nm' = nm ∧ pl = none ∧ NxS K g a (n + 1) g2, ⟨a.d, a.se, a.wa, s, blk, x, rfl, hd1, hok.wb, by omega, (vl_le hx (by omega : 4 ≤ 6)).td, fun g2 wa2 h2 f2 k2 => ?_⟩, ?_⟩)))))))⟩)))))
        · rw [ho]
          exact ⟨rfl, rfl, nx_two hS hok' h1 f1 k1 h2 f2 k2⟩
        · rintro g2 nm' pl ⟨rfl, rfl, hnx⟩
          refine ⟨n1, n2, eag_cons (evr (ev_var rfl (eag_nil ⟨[refO (some nm'), refO (some nm')], .cons (.inl rfl) (.cons (.inl rfl) .nil), _, rfl, al_refO _, rfl, fun fr2 => hD.rt _ _ (hq g2 hnx) (fr1.trans fr2)⟩)))⟩
end
section
open PySem PySem.Spec PyProof.Rows L2
open C8 (Cal pe_c pe_gc)
local macro_rules | `(tactic| walk_at "law") => `(tactic| (repeat (first
  | with_reducible refine ev_callBW (by assumption) rfl ?_
  | with_reducible refine EN.ev (en_lst ?_)
  | with_reducible refine take_j (by omega) (by omega) ?_
  | walk_at "ev")))
theorem nxs_side {K : PySem.W.Frag} {g g1 g2 : GT} {a : SA} {n : Nat} {h : Addr} {m m2 : MT} (hg : g h = none) (e1 : g1 = setG g h m) (hh : h ∉ a.foot) (hn : NxS K g1 a n g2) : NxS K g a n (setG g2 h m2) := by
  obtain ⟨a', s', hS, hok, ed, eo, hf, hk⟩ := hn
  have live : g1 h = some m := by rw [e1]; exact setG_same
  have hh' : h ∉ a'.foot := fun z => by
    rcases hf h z with z | z
    · exact hh z
    · rw [live] at z; cases z
  have k1 : ∀ y u, g y = some u → y ≠ h ∧ g1 y = some u := fun y u hy => by
    have : y ≠ h := fun z => by rw [z, hg] at hy; cases hy
    exact ⟨this, by rw [e1, setG_ne this]; exact hy⟩
  refine ⟨a', s', hS.keep (fun y u hy hm => by
    have n0 : y ≠ h := fun z => hh' (by rw [← z]; exact hm)
    rw [setG_ne n0]; exact hy), hok, ed, eo, fun y hy => ?_, fun y u hy hn => ?_⟩
  · rcases hf y hy with z | z
    · exact .inl z
    · refine .inr ?_
      cases hz : g y with
      | none => rfl
      | some u => rw [(k1 y u hz).2] at z; cases z
  · obtain ⟨n1, n2⟩ := k1 y u hy
    rw [setG_ne n1]
    exact hk y u n2 hn
theorem setG_new {g : GT} {o : Addr} {m : MT} (ho : g o = none) (y : Addr) (u : MT) (hy : g y = some u) : setG g o m y = some u := by
  rw [setG_ne (fun z => by rw [z, ho] at hy; cases hy)]; exact hy
theorem sh_bs (bs : List Bool) : Sh 1 (bsD bs) := .lst fun d hd => by
  obtain ⟨b, _, rfl⟩ := List.mem_map.mp hd
  exact .bl b
def S__law_arms (K : PySem.W.Frag) (g : GT) (rs : List RV) (Q : GT → RV → Prop) : Prop := ∃ a s n, rs = [.ref a.d, .ref a.o] ∧ SideAt K g a s ∧ OkF n s ∧ n ≤ 400 ∧ ∀ g', NxS K g a n g' → Q g' (.dat (.bl true))
abbrev sp__law_arms (K : PySem.W.Frag) : Sp := spRB K (S__law_arms K)
theorem ok__law_arms {P : Program} {w : World} {K : PySem.W.Frag} {mg : Str → Option Value} {base : Heap} (T : Txt K mg) (c__law_take : Cal P w K mg base 1 "_law_take" (sp__law_take K) []) (c_Disk_arm : CalM P w K mg base CX0 1 (He.ga K "Disk") "arm" (sp_Disk_arm K)) (c__law_fall : Cal P w K mg base 1 "_law_fall" (sp__law_fall K) []) (c_Disk_stop : CalM P w K mg base CX0 1 (He.ga K "Disk") "stop" (sp_Disk_stop K)) (c_Disk_again : CalM P w K mg base CX0 1 (He.ga K "Disk") "again" (sp_Disk_again K)) : Cal P w K mg base 2 "_law_arms" (sp__law_arms K) [] := by
  refine cal_rB T.f__law_arms sc__law_arms ?len fun f cdv A outer s H E hr => ⟨_, (pss_cons (ps_setLc (i := 3) rfl sc__law_arms.nd rfl rfl (sw_true rfl rfl rfl (by decide +kernel)) (g := (gName 8)) (tt := tYes) (te := (tOp (rEqU K) (tCall (sp__law_take K) [] E0 (tCons (tVar 0) (tCons (tC (.int 2)) tNil))) (tC (.int 0)))) (own := [("_law_k", 8)]) (pi_range1 (by rfl) T.b_range (pa_cons (pe_c c__law_take hr (by decide) (by rfl) (pa_cons (pv 0) (pa_cons (pe_ix ix_seq (pe_lst (pa_cons pe_int (pa_cons pe_int (pa_cons pe_int pa_nil)))) (pe_c c__law_take hr (by decide) (by rfl) (pa_cons (pv 0) (pa_cons pe_int pa_nil))) (fun _ _ => rfl)) pa_nil))) pa_nil)) (blkOk_by (N := ["_law_box", "_law_disk", "_law_own", "_law_picks", "_law_handed", "_law_way", "_law_many", "_law_good", "_law_k"]) (sc := defScope s__law_arms) (by decide +kernel)) (fun _ _ _ _ _ => (pg_name (i := 8) sc__law_arms.nd rfl (Or.inl rfl))) (fun _ _ _ _ _ => pts_nil) (fun _ _ _ _ _ => (pe_cmpR (op_eqU hr.units) (pe_c c__law_take hr (by decide) (by rfl) (pa_cons (pv 0) (pa_cons pe_int pa_nil))) pe_int (nomark _))))
      (pss_cons (ps_set (i := 4) sc__law_arms.nd rfl (Or.inl rfl) (pe_callTy cl_list (by rfl) T.b_list (by decide +kernel) (pa_cons (pv 3) pa_nil)))
      (pss_cons (ps_set (i := 5) sc__law_arms.nd rfl (Or.inl rfl) (pe_c c__law_take hr (by decide) (by rfl) (pa_cons (pv 0) (pa_cons pe_int pa_nil))))
      (Evl.pss_cut (ps_if (pt_cmpR op_ltU (pv 5) pe_int (nomark _)) (pss_cons (ps_set (i := 6) sc__law_arms.nd rfl (Or.inl rfl) (pe_c c__law_take hr (by decide) (by rfl) (pa_cons (pv 0) (pa_cons (pe_ix ix_seq (pe_lst (pa_cons pe_int (pa_cons (pe_ix ix_seq (pe_lst (pa_cons pe_int (pa_cons pe_int (pa_cons pe_int pa_nil)))) (pe_c c__law_take hr (by decide) (by rfl) (pa_cons (pv 0) (pa_cons pe_int pa_nil))) (fun _ _ => rfl)) pa_nil))) (pv 5) (fun _ _ => rfl)) pa_nil))))
      (Evl.pss_cut (ps_if (pt_not (pt_val (pe_dget (hu_of hr) (pv 2) pe_str (fun _ _ => rfl)))) (pss_cons (ps_dput (hu_of hr) (pv 2) pe_str (pv 6) rfl)
      (pss_one (ps_dput (hu_of hr) (pv 2) pe_str (pv 3) rfl))) pss_nil)
      (pss_one (ps_expr (pe_mt c_Disk_arm hr (by decide) T.cl_Disk (pv 1) (pa_cons (pv 6) (pa_cons (pv 4) pa_nil))))))) (pss_one (ps_if (pt_cmpR (op_eqU hr.units) (pv 5) pe_int (nomark _)) (pss_cons (ps_expr (pe_c c__law_fall hr (by decide) (by rfl) (pa_cons (pv 2) (pa_cons (pv 3) pa_nil))))
      (pss_one (ps_expr (pe_mt c_Disk_stop hr (by decide) T.cl_Disk (pv 1) (pa_cons (pv 4) pa_nil))))) (pss_cons (ps_expr (pe_bm PySem.F.plainAttrs_dict PySem.F.slot_dict_update PySem.F.type_dict_update (mt_updP rfl) (pv 2) (pa_cons (pe_lst (pa_cons (pe_tup (pa_cons pe_str (pa_cons (pe_lst pa_nil) pa_nil))) (pa_cons (pe_tup (pa_cons pe_str (pa_cons pe_non pa_nil))) (pa_cons (pe_tup (pa_cons pe_str (pa_cons (pe_lst pa_nil) pa_nil))) (pa_cons (pe_tup (pa_cons pe_str (pa_cons pe_bl pa_nil))) pa_nil))))) pa_nil)))
      (pss_one (ps_expr (pe_mt0 c_Disk_again hr (by decide) T.cl_Disk (pv 1) )))))))
      (pss_cons (ps_set (i := 7) sc__law_arms.nd rfl (Or.inl rfl) (pe_cmpR (op_eqU hr.units) (pv 4) (pv 3) (nomark _)))
      (pss_cons (ps_expr (pe_bm PySem.F.plainAttrs_list PySem.F.slot_list_append PySem.F.type_list_append mt_append (pv 4) (pa_cons pe_bl pa_nil)))
      (pss_one (ps_ret (pv 7))))))))), ?body⟩
  case' body => try dsimp only [cxD, cxOf]
  case len => rintro g rs Q ⟨_, _, _, rfl, _⟩; rfl
  case body =>
    rintro b l g rs Q hne ⟨a, s, n, rfl, hS0, hok, hn, hq⟩ hid H0 D dom hD
    show NJ _ _ _ _ [.rw (.ref b), .rw (.ref a.d), .rw (.ref a.o), .un, .un, .un, .un, .un, .un]
    have hol := hok.wl
    have hpl := hok.pl
    refine q_asgN (en_lc (ij_rng1 ?_))
    walk_at "law"
    intro x1 p0 p1
    obtain ⟨m1, hm1, q1, q2⟩ : ∃ y : Int, atI [Dt.int 9, .int 9, .int 120] x1 = some (.int y) ∧ 0 < y ∧ y ≤ 120 := by
      rcases (by omega : x1 = 0 ∨ x1 = 1 ∨ x1 = 2) with rfl | rfl | rfl <;> exact ⟨_, rfl, by omega, by omega⟩
    refine ix_l hm1 ?_
    walk_at "law"
    intro k k0 k1
    obtain ⟨k, rfl⟩ := Int.eq_ofNat_of_zero_le k0
    refine ea_nil ⟨k, rfl, by omega, by omega, by rw [rangeD_len]; omega, fun j ys => ∃ bs : List Bool, ys = bs.map Dt.bl ∧ bs.length = j, ⟨[], rfl, rfl⟩, ?_, ?_⟩
    · rintro j d acc hj ⟨bs, rfl, hbl⟩
      refine tge_name (by decide) (et_yes ⟨fun _ => ?_, fun z => nomatch z⟩)
      walk_at "nm"
      walk_at "law"
      intro z z0 z1
      walk_at "law"
      exact ⟨bs ++ [decide (z = 0)], by rw [List.map_append]; rfl, by rw [List.length_append, hbl]; rfl⟩
    rintro acc ⟨bs, rfl, hbl⟩
    rw [rangeD_len] at hbl
    have hb200 : bs.length ≤ 200 := by omega
    walk_at "nm"
    refine nj_share (i := 3) rfl ?_
    walk_at "nm"
    refine qr_asg (evr_new (en_cb (ea_cons (ev_var rfl (ea_nil (list_l fun h hh fr1 => ?_))))))
    walk_at "nm"
    have hhf : h ∉ a.foot := hS0.dead hh
    have hS : SideAt K (setG g h (.lst (dats (bs.map Dt.bl)))) a s := hS0.keep fun y u hy hm => by
      have n0 : y ≠ h := fun z => hhf (by rw [← z]; exact hm)
      rw [setG_ne n0]; exact hy
    have hgh : (setG g h (.lst (dats (bs.map Dt.bl)))) h = some (.lst (dats (bs.map Dt.bl))) := setG_same
    have fin : ∀ g2 m2, NxS K (setG g h (.lst (dats (bs.map Dt.bl)))) a n g2 → NxS K g a n (setG g2 h m2) := fun g2 m2 hx => nxs_side hh rfl hhf hx
    generalize setG g h (.lst (dats (bs.map Dt.bl))) = g1 at hS hgh fin fr1 ⊢
    obtain ⟨dx, hob⟩ := hS.disk.ob
    have dkeep : ∀ {g2 : GT}, (∀ y u, g1 y = some u → y ≠ a.o → y ≠ a.os → y ≠ a.op → g2 y = some u) → DiskF K g2 a.d a.se a.wa s := fun k1 => hS.disk.keep fun y u hy z => k1 y u hy (hS.ap y _ z (.inl rfl)) (hS.ap y _ z (.inr (.inl rfl))) (hS.ap y _ z (.inr (.inr rfl)))
    have hno : ∀ y ∈ a.foot, h ≠ y := fun y hy z => hhf (z ▸ hy)
    have hkeep : ∀ {g2 : GT}, (∀ y u, g1 y = some u → y ≠ a.o → y ≠ a.os → y ≠ a.op → g2 y = some u) → g2 h = some (.lst (dats (bs.map Dt.bl))) := fun k1 => k1 h _ hgh (hno _ (by simp [SA.foot])) (hno _ (by simp [SA.foot])) (hno _ (by simp [SA.foot]))
    have nxk : ∀ {g2 : GT}, NxS K g1 a n g2 → g2 h = some (.lst (dats (bs.map Dt.bl))) := fun ⟨_, _, _, _, _, _, _, hk⟩ => hk h _ hgh hhf
    refine q_asg ?_
    walk_at "law"
    intro way w0 w1
    walk_at "nm"
    refine qm_cut (W := WT (XB K b l)) (fun g2 ρ2 => NxS K g1 a n g2 ∧ ∃ r6, ρ2 = [.rw (.ref b), .rw (.ref a.d), .rw (.ref a.o), .im (bsD bs), .rw (.ref h), .im (.int way), r6, .un, .un]) ?_ ?_
    · refine nj_if ?_
      walk_at "law"
      refine bl_two (fun hw => ?_) (fun hw => ?_)
      · refine q_asg ?_
        walk_at "law"
        intro x2 p2 p3
        obtain ⟨m2, hm2, q3, q4⟩ : ∃ y : Int, atI [Dt.int 20, .int 20, .int 200] x2 = some (.int y) ∧ 0 < y ∧ y ≤ 200 := by
          rcases (by omega : x2 = 0 ∨ x2 = 1 ∨ x2 = 2) with rfl | rfl | rfl <;> exact ⟨_, rfl, by omega, by omega⟩
        refine ix_l hm2 ?_
        walk_at "law"
        obtain ⟨m3, hm3, q5, q6⟩ : ∃ y : Int, atI [Dt.int 3, .int m2] way = some (.int y) ∧ 0 < y ∧ y ≤ 200 := by
          rcases (by omega : way = 0 ∨ way = 1) with rfl | rfl
          · exact ⟨_, rfl, by omega, by omega⟩
          · exact ⟨_, rfl, by omega, by omega⟩
        refine ix_l hm3 (ea_nil ⟨m3, rfl, q5, by omega, fun r r0 r1 => ?_⟩)
        walk_at "nm"
        obtain ⟨many, rfl⟩ := Int.eq_ofNat_of_zero_le r0
        refine qm_cut (W := WT (XB K b l)) (fun g2 ρ2 => OwnF g2 a.o a.os a.op (armF s many bs) ∧ (∀ y u, g1 y = some u → y ≠ a.o → y ≠ a.os → y ≠ a.op → g2 y = some u) ∧ ρ2 = [.rw (.ref b), .rw (.ref a.d), .rw (.ref a.o), .im (bsD bs), .rw (.ref h), .im (.int way), .im (.int (many : Nat)), .un, .un]) ?_ ?_
        · cases hdn : s.dn with
          | true =>
            refine nj_when (etj (et_not (et_B (ev_own rfl hS.own.ob own_fa (blJ ?_)))))
            rw [hdn]
            refine bl_no rfl ?_
            exact njm_nxw _ ⟨by unfold armF; rw [if_pos hdn]; exact hS.own, fun _ _ hy _ _ _ => hy, rfl⟩ .refl (by walk_at "le")
          | false =>
            refine nj_when (etj (et_not (et_B (ev_own rfl hS.own.ob own_fa (blJ ?_)))))
            rw [hdn]
            refine bl_yes rfl ?_
            refine qr_dput (evr (ev_var rfl ⟨erc_var rfl, _, hS.own.ob, by show 5 < 100000; omega, ev_str (keyJs fun fr2 => ?_)⟩))
            rw [put_le] at fr2 ⊢
            refine njr_dput (evr (ev_var rfl ⟨erc_var rfl, _, setG_same, by show 5 < 100000; omega, ev_str (keyJs fun fr3 => ?_)⟩))
            rw [setG_two] at fr3 ⊢
            refine njm_nxw _ ⟨?_, fun y u hy y1 _ _ => by rw [setG_ne y1]; exact hy, rfl⟩ (fr2.trans fr3) (by walk_at "le")
            unfold armF
            rw [if_neg (by rw [hdn]; exact Bool.false_ne_true)]
            refine ⟨by rw [setG_same]; rfl, ?_, ?_, hS.own.len, hS.own.n1, hS.own.n2, hS.own.n3⟩
            · rw [setG_ne (Ne.symm hS.own.n1)]; exact hS.own.hse
            · rw [setG_ne (Ne.symm hS.own.n2)]; exact hS.own.hwa
        · rintro g2 ρ2 ⟨h1, k1, rfl⟩ fr2
          have hd1 := dkeep k1
          obtain ⟨dx1, hob1⟩ := hd1.ob
          refine njr_drop (evr_meth (erc_var rfl) hob1 (methF_no (by decide) (by decide) (by decide) (by decide) (by decide)) (ear_dat (ev_var rfl (ear_ref (erc_var rfl) (ear_nil ⟨a.d, a.se, a.wa, s, h, many, bs, rfl, hkeep k1, hd1, fun g3 wa2 h2 f2 k2 fr3 => ?_⟩)))))
          exact njm_nxw _ ⟨nx_two hS (hok.arm many hb200) h1 (.inl rfl) k1 h2 f2 k2, _, rfl⟩ (fr2.trans fr3) (by walk_at "le")
      · refine nj_if ?_
        walk_at "law"
        refine bl_two (fun hw2 => ?_) (fun hw2 => ?_)
        · refine qr_drop (evr_call (ear_ref (erc_var rfl) (ear_dat (ev_var rfl (ear_nil ⟨a.o, a.os, a.op, s, bs, rfl, hS.own, hok.wb, by omega, by omega, fun g2 op1 h1 f1 k1 fr2 => ?_⟩)))))
          have hd1 := dkeep k1
          obtain ⟨dx1, hob1⟩ := hd1.ob
          refine njr_drop (evr_meth (erc_var rfl) hob1 (methF_no (by decide) (by decide) (by decide) (by decide) (by decide)) (ear_ref (erc_var rfl) (ear_nil ⟨a.d, a.se, a.wa, s, bs, .ref h, rfl, .inr ⟨h, rfl, hkeep k1⟩, hd1, hok.wb, fun g3 wa2 h2 f2 k2 fr3 => ?_⟩)))
          exact njm_nxw _ ⟨nx_two hS (hok.stop bs) h1 f1 k1 h2 f2 k2, _, rfl⟩ (fr2.trans fr3) (by walk_at "le")
        · refine qr_drop (evr_updP (erc_var rfl) hS.own.ob (evr_lstG (eag_cons (evr_tupG (eag_cons (evr (ev_str (eag_cons (evr_new (en_lst (ea_nil ⟨by show 0 ≤ 100000; omega, fun op1 hop1 => eag_nil ⟨by show 2 ≤ 100000; omega, fun t1 ht1 => ?_⟩⟩)))))))))))
          have kA := setG_new (m := .lst (dats [])) hop1
          have eA : setG g1 op1 (.lst (dats [])) op1 = some (.lst []) := setG_same
          generalize setG g1 op1 (.lst (dats [])) = gA at kA eA ht1 ⊢
          have kB := setG_new (m := .tp [.dat (.str "pending"), .ref op1]) ht1
          have eB : setG gA t1 (.tp [.dat (.str "pending"), .ref op1]) t1 = some (.tp [.dat (.str "pending"), .ref op1]) := setG_same
          generalize setG gA t1 (.tp [.dat (.str "pending"), .ref op1]) = gB at kB eB ⊢
          refine eag_cons (evr_tupG (eag_cons (evr (ev_str (eag_cons (evr (ev_non (eag_nil ⟨by show 2 ≤ 100000; omega, fun t2 ht2 => ?_⟩))))))))
          have kC := setG_new (m := .tp [.dat (.str "left"), .dat .non]) ht2
          have eC : setG gB t2 (.tp [.dat (.str "left"), .dat .non]) t2 = some (.tp [.dat (.str "left"), .dat .non]) := setG_same
          generalize setG gB t2 (.tp [.dat (.str "left"), .dat .non]) = gC at kC eC ⊢
          refine eag_cons (evr_tupG (eag_cons (evr (ev_str (eag_cons (evr (EN.ev (en_lst (ea_nil ⟨by show 0 ≤ 100000; omega, eag_nil ⟨by show 2 ≤ 100000; omega, fun t3 ht3 => ?_⟩⟩)))))))))
          have kD := setG_new (m := .tp [.dat (.str "picks"), .dat (.lst [])]) ht3
          have eD : setG gC t3 (.tp [.dat (.str "picks"), .dat (.lst [])]) t3 = some (.tp [.dat (.str "picks"), .dat (.lst [])]) := setG_same
          generalize setG gC t3 (.tp [.dat (.str "picks"), .dat (.lst [])]) = gD at kD eD ⊢
          refine eag_cons (evr_tupG (eag_cons (evr (ev_str (eag_cons (evr (ev_bl (eag_nil ⟨by show 2 ≤ 100000; omega, fun t4 ht4 => ?_⟩))))))))
          have kE := setG_new (m := .tp [.dat (.str "fallen"), .dat (.bl false)]) ht4
          have eE : setG gD t4 (.tp [.dat (.str "fallen"), .dat (.bl false)]) t4 = some (.tp [.dat (.str "fallen"), .dat (.bl false)]) := setG_same
          generalize setG gD t4 (.tp [.dat (.str "fallen"), .dat (.bl false)]) = gE at kE eE ⊢
          refine eag_nil ⟨by show 4 ≤ 100000; omega, fun p hp => ?_⟩
          have kF := setG_new (m := .lst [.ref t1, .ref t2, .ref t3, .ref t4]) hp
          have eF : setG gE p (.lst [.ref t1, .ref t2, .ref t3, .ref t4]) p = some (.lst [.ref t1, .ref t2, .ref t3, .ref t4]) := setG_same
          generalize setG gE p (.lst [.ref t1, .ref t2, .ref t3, .ref t4]) = gF at kF eF ⊢
          have kk : ∀ y u, g1 y = some u → gF y = some u := fun y u hy => kF _ _ (kE _ _ (kD _ _ (kC _ _ (kB _ _ (kA _ _ hy)))))
          have lB : gF t1 = _ := kF _ _ (kE _ _ (kD _ _ (kC _ _ eB)))
          have lC : gF t2 = _ := kF _ _ (kE _ _ (kD _ _ eC))
          have lD : gF t3 = _ := kF _ _ (kE _ _ eD)
          have lE : gF t4 = _ := kF _ _ eE
          have lA : gF op1 = _ := kF _ _ (kE _ _ (kD _ _ (kC _ _ (kB _ _ eA))))
          refine ⟨p, [t1, t2, t3, t4], _, [(.inr "pending", .ref op1), (.inr "left", .dat .non), (.inr "picks", .dat (.lst [])), (.inr "fallen", .dat (.bl false))], rfl, kk _ _ hS.own.ob, eF, .cons lB (.cons lC (.cons lD (.cons lE .nil))), by show 5 + 4 ≤ 100000; omega, fun fr2 => ?_⟩
          have eM : mergeRK (ownK a.os a.op s) [(.inr "pending", .ref op1), (.inr "left", .dat .non), (.inr "picks", .dat (.lst [])), (.inr "fallen", .dat (.bl false))] = ownK a.os op1 (againF s) := rfl
          rw [eM] at fr2 ⊢
          have m1 : a.o ≠ op1 := fun z => by have := hS.own.ob; rw [z, hop1] at this; cases this
          have m2 : a.os ≠ op1 := fun z => by have := hS.own.hse; rw [z, hop1] at this; cases this
          have h1 : OwnF (setG gF a.o (.dk (ownK a.os op1 (againF s)))) a.o a.os op1 (againF s) := ⟨setG_same, by rw [setG_ne (Ne.symm hS.own.n1)]; exact kk _ _ hS.own.hse, by rw [setG_ne (Ne.symm m1)]; exact lA, hS.own.len, hS.own.n1, m1, m2⟩
          have k1 : ∀ y u, g1 y = some u → y ≠ a.o → y ≠ a.os → y ≠ a.op → setG gF a.o (.dk (ownK a.os op1 (againF s))) y = some u := fun y u hy y1 _ _ => by rw [setG_ne y1]; exact kk y u hy
          have hd1 := dkeep k1
          obtain ⟨dx1, hob1⟩ := hd1.ob
          refine njr_drop (evr_meth (erc_var rfl) hob1 (methF_no (by decide) (by decide) (by decide) (by decide) (by decide)) (ear_nil ⟨a.d, a.se, a.wa, s, rfl, hd1, fun g3 wa2 h2 f2 k2 fr3 => ?_⟩))
          exact njm_nxw _ ⟨nx_two hS hok.again h1 (.inr hop1) k1 h2 f2 k2, _, rfl⟩ (fr2.trans fr3) (by walk_at "le")
    · rintro g2 ρ2 ⟨hnx, r6, rfl⟩ fr2
      refine qr_asg (evr_opPG (fun _ => true) 1 (eag_cons (evr_ref (erc_var rfl) (eag_cons (evr (ev_var rfl (eag_nil ⟨bsD bs, bsD bs, .cons (.inr ⟨h, _, _, rfl, rfl, nxk hnx, rfl, seenA_dats _⟩) (.cons (.inl rfl) .nil), eq_d (sh_bs bs) (sh_bs bs) (by decide) (by decide) ⟨rfl, fun fr3 => ?_⟩⟩)))))))
      rw [Sh.eqv 1 _ (sh_bs bs)]
      walk_at "nm"
      refine qr_app (erc_var rfl) (nxk hnx) (evr (ev_bl ⟨_, nxk hnx, by unfold dats; rw [List.length_map, List.length_map]; omega, fun fr4 => ?_⟩))
      refine njr_ret (evr (ev_var rfl fun fr5 => hD.rt _ _ (hq _ (fin _ _ hnx)) ((((fr1.trans fr2).trans fr3).trans fr4).trans fr5)))
def dueR (s : DkF) (b : Int) : Dt := match (readT s b).1 with
  | none => (readT s b).2
  | some nm => refO (some nm)
theorem lastW_ok {n : Nat} {s : DkF} (h : OkF n s) {b : Nat} (hl : s.set.length = 600) (hb : b < 600) : Vl 4 (lastW s b) := by
  unfold lastW
  split
  · rename_i q hq
    exact h.wv q (List.mem_reverse.mp (List.mem_of_find?_eq_some hq))
  · rw [List.getD_eq_getElem?_getD, List.getElem?_eq_getElem (by omega)]
    exact h.sv _ (List.getElem_mem _)
def someW (s : DkF) (b : Nat) (i : Nat) : List Dt := ((s.wai.take i).filter fun q => decide (q.1 = b)).map (·.2)
theorem someW_all (s : DkF) (b : Nat) : lastW s b = match (someW s b s.wai.length).getLast? with
    | some d => d
    | none => s.set.getD b .non := by
  unfold lastW someW
  rw [List.take_length, List.getLast?_map, ← List.head?_reverse, ← List.filter_reverse, List.head?_filter]
  cases s.wai.reverse.find? (fun q => decide (q.1 = b)) <;> rfl
theorem atI_last {α : Type} {l : List α} {d : α} (h : l.getLast? = some d) : atI l (-1) = some d := by
  cases hl : l with
  | nil => rw [hl] at h; cases h
  | cons x r =>
    rw [hl] at h
    unfold atI ixN
    simp only [List.length_cons]
    rw [if_neg (by omega), if_pos (by omega)]
    show (x :: r)[(-1 + ((r.length + 1 : Nat) : Int)).toNat]? = some d
    rw [show (-1 + ((r.length + 1 : Nat) : Int)).toNat = r.length by omega, ← h, List.getLast?_eq_getElem?]
    rfl
def S__law_is (K : PySem.W.Frag) (g : GT) (rs : List RV) (Q : GT → RV → Prop) : Prop := ∃ a s n, rs = [.ref a.d, .ref a.o] ∧ SideAt K g a s ∧ OkF n s ∧ n ≤ 400 ∧ g (isP K) = some (.tab isQ) ∧ ∀ g', (∀ y u, g y = some u → g' y = some u) → Q g' (.dat (.bl true))
abbrev sp__law_is (K : PySem.W.Frag) : Sp := spRB K (S__law_is K)
theorem ok__law_is {P : Program} {w : World} {K : PySem.W.Frag} {mg : Str → Option Value} {base : Heap} (T : Txt K mg) (b_Disk_blocks : ∀ B, CalM P w K mg B CX0 1 (He.ga K "Disk") "blocks" (sp_Disk_blocks K)) (b__law_alike : ∀ B, Cal P w K mg B 8 "_law_alike" (sp__law_alike 7 K) []) (b__law_take : ∀ B, Cal P w K mg B 1 "_law_take" (sp__law_take K) []) (b__law_told : ∀ B, Cal P w K mg B 15 "_law_told" (sp__law_told P w K mg B) []) (b_Disk_read : ∀ B, CalM P w K mg B (L2.CX P w) 2 (He.ga K "Disk") "read" (sp_Disk_read K)) (TB : LamX.TabB base mg (He.cT K ("_law_is", none)).1 (He.cT K ("_law_is", none)).2) : Cal P w K mg base 16 "_law_is" (sp__law_is K) [] := by
  have c_Disk_blocks := b_Disk_blocks base
  have c__law_alike := b__law_alike base
  have c__law_take := b__law_take base
  have c__law_told := b__law_told base
  have c_Disk_read := b_Disk_read base
  refine cal_rBC T.f__law_is sc__law_is ?len fun f A outer s H E hr => ⟨_, (pss_cons (ps_for PassesOwn.never rfl (pi_range1 (by rfl) T.b_range (pa_cons pe_int pa_nil)) (pg_name (i := 3) sc__law_is.nd rfl (Or.inl rfl)) (pss_cons (ps_set (i := 4) sc__law_is.nd rfl (Or.inl rfl) (pe_mt0 c_Disk_blocks hr (by decide) T.cl_Disk (pv 1) ))
      (pss_cons (ps_if (pt_not (pt_val (pe_c c__law_alike hr (by decide) (by rfl) (pa_cons (pv 4) (pa_cons (pe_dget (hu_of hr) (pv 2) pe_str (fun _ _ => rfl)) pa_nil))))) (pss_one (ps_ret pe_bl)) pss_nil)
      (pss_one (ps_expr (pe_bm0 PySem.F.plainAttrs_list PySem.F.slot_list_clear PySem.F.type_list_clear mt_clear (pv 4)))))))
      (pss_cons (ps_set (i := 5) sc__law_is.nd rfl (Or.inl rfl) (pe_c c__law_take hr (by decide) (by rfl) (pa_cons (pv 0) (pa_cons (pe_op op_pow pe_int pe_int) pa_nil))))
      (pss_cons (ps_set (i := 6) sc__law_is.nd rfl (Or.inl rfl) (pe_lst (pa_cons (pe_c c__law_take hr (by decide) (by rfl) (pa_cons (pv 0) (pa_cons pe_int pa_nil))) (pa_cons (pe_c c__law_take hr (by decide) (by rfl) (pa_cons (pv 0) (pa_cons pe_int pa_nil))) (pa_cons (pe_c c__law_take hr (by decide) (by rfl) (pa_cons (pv 0) (pa_cons pe_int pa_nil))) (pa_cons (pe_op op_addU pe_int (pv 5)) (pa_cons (pe_op op_subU (pe_un un_neg pe_int) (pv 5)) (pa_cons (pe_op op_subU (pe_un un_neg pe_int) (pe_c c__law_take hr (by decide) (by rfl) (pa_cons (pv 0) (pa_cons pe_int pa_nil)))) pa_nil))))))))
      (pss_cons (ps_set (i := 7) sc__law_is.nd rfl (Or.inr rfl) (pe_ix ix_seq (pv 6) (pe_c c__law_take hr (by decide) (by rfl) (pa_cons (pv 0) (pa_cons pe_int pa_nil))) (fun _ _ => rfl)))
      (pss_cons (ps_set (i := 8) sc__law_is.nd rfl (Or.inl rfl) (pe_tup (pa_cons pe_str (pa_cons pe_int pa_nil))))
      (Evl.pss_cut (ps_if (pt_chain op_leU op_ltU pe_int (pv 7) pe_int) (pss_cons (ps_setLc (i := 9) rfl sc__law_is.nd rfl rfl (sw_true rfl rfl rfl (by decide +kernel)) (g := (gTup K 2 (gCons (gName 11) (gCons (gName 12) gNil)))) (tt := (tTest (tOp (rEqU K) (tVar 11) (tVar 7)))) (te := (tVar 12)) (own := [("_law_one", 11), ("_law_what_here", 12)]) (pi_list (pe_dget (hu_of hr) (pv 2) pe_str (fun _ _ => rfl))) (blkOk_by (N := ["_law_box", "_law_disk", "_law_own", "_law_again", "_law_found", "_law_far", "_law_blocks", "_law_block", "_law_due", "_law_some", "_law_told_here", "_law_one", "_law_what_here"]) (sc := defScope s__law_is) (by decide +kernel)) (fun _ _ _ _ _ => (pg_tup rfl (pgs_cons (pg_name (i := 11) sc__law_is.nd rfl (Or.inl rfl)) (pgs_cons (pg_name (i := 12) sc__law_is.nd rfl (Or.inl rfl)) pgs_nil)))) (fun _ _ _ _ _ => (pts_one (pt_cmpR (op_eqU hr.units) (pv 11) (pv 7) (nomark _)))) (fun _ _ _ _ _ => (pv 12)))
      (pss_cons (ps_set (i := 10) sc__law_is.nd rfl (Or.inl rfl) (pe_ifExp (pt_cmpR (op_eqU hr.units) (pv 9) (pe_lst pa_nil) (nomark _)) (pe_ix ix_seq (pe_dget (hu_of hr) (pv 2) pe_str (fun _ _ => rfl)) (pv 7) (fun _ _ => rfl)) (pe_ix ix_seq (pv 9) (pe_un un_neg pe_int) (fun _ _ => rfl))))
      (pss_one (ps_set (i := 8) sc__law_is.nd rfl (Or.inl rfl) (pe_ifExp (pt_val (pe_dget (hu_of hr) (pv 2) pe_str (fun _ _ => rfl))) (pe_tup (pa_cons pe_str (pa_cons pe_int pa_nil))) (pv 10)))))) pss_nil)
      (pss_one (ps_ret (pe_c c__law_alike hr (by decide) (by rfl) (pa_cons (pe_callBig b__law_told hr (by decide) (by rfl) (pa_cons (pe_lamM (k := 13) (ps := []) TB rfl rfl (fun _ => rfl) (lamS2_by (N := ["_law_box", "_law_disk", "_law_own", "_law_again", "_law_found", "_law_far", "_law_blocks", "_law_block", "_law_due", "_law_some", "_law_told_here", "_law_one", "_law_what_here"]) (sc := defScope s__law_is) (by decide +kernel)) rfl (by decide) rfl (fun _ _ _ _ _ _ => rfl) (fun z => absurd rfl z) (fun B A outer s H E f c' hr => (pe_mtW (b_Disk_read _) hr (by decide) T.cl_Disk (takes_of rfl rfl rfl rfl) (pv 1) (pa_cons (pv 7) pa_nil)))) pa_nil)) (pa_cons (pv 8) pa_nil))))))))))), ?body⟩
  case' body => try dsimp only [cxD, cxOf]
  case len => rintro g rs Q ⟨_, _, _, rfl, _⟩; rfl
  case body =>
    rintro b l g rs Q hne ⟨a, s, n, rfl, hS0, hok, hn, hT0, hq⟩ hid H0 D dom hD
    show NJ _ _ _ _ [.rw (.ref b), .rw (.ref a.d), .rw (.ref a.o), .un, .un, .un, .un, .un, .un, .un, .un, .un, .un]
    have hol := hok.wl
    have hl6 := hS0.disk.len
    have al6 : Al 7 (.lst s.set) := .lst (n := 6) (fun d hd => (vl_le (hok.sv d hd) (by omega : 4 ≤ 6)).al) (by omega)
    refine qm_for (W := WT (XB K b l)) (ij_rng1 ?_)
    walk_at "law"
    refine ⟨2, rfl, by omega, by omega, fun i g' ρ' => (∀ y u, g y = some u → g' y = some u) ∧ ∃ r3 r4, ρ' = [.rw (.ref b), .rw (.ref a.d), .rw (.ref a.o), r3, r4, .un, .un, .un, .un, .un, .un, .un, .un], ⟨(fun _ _ h => h), _, _, rfl⟩, ?_, ?_⟩
    · rintro H1 e1 i d g' ρ' hi ⟨k1, r3, r4, rfl⟩ fr1
      have hS := hS0.keep fun y u hy _ => k1 y u hy
      obtain ⟨dx, hob⟩ := hS.disk.ob
      refine tg_name ?_
      walk_at "nm"
      refine qr_asg (evr_meth (erc_var rfl) hob (methF_no (by decide) (by decide) (by decide) (by decide) (by decide)) (ear_nil ⟨a.d, a.se, a.wa, s, rfl, hS.disk, fun o ho fr2 => ?_⟩))
      walk_at "nm"
      have k2 := setG_new (m := .lst (dats s.set)) ho
      have hS2 := hS.keep fun y u hy _ => k2 y u hy
      refine qg_when (etr_not (etr_B (evr_callPG (fun _ => true) 2 (eag_cons (evr_ref (erc_var rfl) (eag_cons (evr_ref (erc_own rfl hS2.own.ob own_se) (eag_nil ⟨[.lst s.set, .lst s.set], .cons (.inr ⟨o, _, _, rfl, rfl, setG_same, rfl, seenA_dats _⟩) (.cons (.inr ⟨a.os, _, _, rfl, rfl, hS2.own.hse, rfl, seenA_dats _⟩) .nil), _, rfl, al6, rfl, true, rfl, fun fr3 => ⟨(fun z => nomatch z), fun _ => ?_⟩⟩))))))))
      refine njr_drop (evr_clear (erc_var rfl) setG_same fun fr4 => ?_)
      rw [setG_two] at fr4 ⊢
      exact njm_nxw _ ⟨fun y u hy => setG_new ho y u (k1 y u hy), _, _, rfl⟩ (((fr1.trans fr2).trans fr3).trans fr4) (by walk_at "le")
    · rintro g1 ρ1 ⟨k1, r3, r4, rfl⟩ fr1
      have hS := hS0.keep fun y u hy _ => k1 y u hy
      obtain ⟨dx, hob⟩ := hS.disk.ob
      have hT := k1 _ _ hT0
      refine q_asg ?_
      walk_at "law"
      refine pow_i ⟨by decide, by decide, by decide⟩ ?_
      walk_at "law"
      refine take_j (by decide) (by decide) fun far f0 f1 => ?_
      walk_at "nm"
      refine q_asg ?_
      walk_at "law"
      intro x1 _ _
      walk_at "law"
      intro x2 _ _
      walk_at "law"
      intro x3 _ _
      walk_at "law"
      intro x4 _ _
      walk_at "law"
      walk_at "nm"
      refine q_asg ?_
      walk_at "law"
      intro x5 p0 p1
      obtain ⟨blk, hblk⟩ : ∃ y : Int, atI [Dt.int x1, .int x2, .int x3, .int (600 + far), .int (-1 - far), .int (-1 - x4)] x5 = some (.int y) := by
        rcases (by omega : x5 = 0 ∨ x5 = 1 ∨ x5 = 2 ∨ x5 = 3 ∨ x5 = 4 ∨ x5 = 5) with rfl | rfl | rfl | rfl | rfl | rfl <;> exact ⟨_, rfl⟩
      refine ix_l hblk ?_
      walk_at "nm"
      clear hblk p0 p1
      refine q_asg ?_
      walk_at "law"
      walk_at "nm"
      have hnm : ∀ nm, (readT s blk).1 = some nm → nm ∈ rzN ∧ placed nm = false := fun nm h => read_nm h
      refine qm_cut (W := WT (XB K b l)) (fun g2 ρ2 => g2 = g1 ∧ ∃ r5 r6 r9 r10, ρ2 = [.rw (.ref b), .rw (.ref a.d), .rw (.ref a.o), r3, r4, r5, r6, .im (.int blk), .im (dueR s blk), r9, r10, .un, .un]) ?_ ?_
      · refine nj_when ?_
        walk_at "law"
        have bad : ¬ (0 ≤ blk ∧ blk < 600) → dueR s blk = .tup [.str "BadBlock", .int 0] := fun h => by unfold dueR readT; rw [if_neg h]; rfl
        refine ⟨fun h0 => ?_, fun h0 => ?_⟩
        case refine_2 =>
          have h0 := of_decide_eq_false h0
          refine blJ (bl_no rfl ?_)
          exact njm_nxw _ ⟨rfl, _, _, _, _, rfl⟩ .refl (by rw [bad (by omega)]; walk_at "le")
        have h0 := of_decide_eq_true h0
        walk_at "law"
        refine bl_two (fun h1 => ?_) (fun h1 => njm_nxw _ ⟨rfl, _, _, _, _, rfl⟩ .refl (by rw [bad (by omega)]; walk_at "le"))
        obtain ⟨bk, rfl⟩ := Int.eq_ofNat_of_zero_le h0
        have hbk : bk < 600 := by omega
        refine q_asgN (en_lcT (erc_own rfl hS.own.ob own_pe) hS.own.hwa (by unfold dats; rw [List.length_map, List.length_map]; omega) (fun i acc => acc = someW s bk i) rfl ?_ ?_)
        · rintro i r acc hi rfl
          unfold dats at hi
          rw [List.getElem?_map, List.getElem?_map] at hi
          cases hq' : s.wai[i]? with
          | none => rw [hq'] at hi; cases hi
          | some q =>
            rw [hq'] at hi
            cases hi
            have e1 : someW s bk (i + 1) = someW s bk i ++ (if q.1 = bk then [q.2] else []) := by
              unfold someW
              rw [take_at hq', List.filter_append, List.map_append]
              congr 1
              by_cases z : q.1 = bk
              · rw [if_pos z, List.filter_cons_of_pos (by simpa using z)]; rfl
              · rw [if_neg z, List.filter_cons_of_neg (by simpa using z)]; rfl
            refine tger_dat (tge_tup rfl (tgse_name (by decide) (tgse_name (by decide) (tgse_nil ?_))))
            walk_at "nm"
            walk_at "go"
            refine bl_two (fun z => ev_var rfl ?_) (fun z => ?_)
            · rw [e1, if_pos (by omega)]
            · rw [e1, if_neg (by omega), List.append_nil]
        rintro acc rfl
        have el : (dats (s.wai.map wpD)).length = s.wai.length := by unfold dats; rw [List.length_map, List.length_map]
        rw [el]
        walk_at "nm"
        refine nj_share (i := 9) rfl ?_
        walk_at "nm"
        refine q_asg (ev_if ?_)
        walk_at "law"
        have hsh : ∀ d ∈ someW s bk s.wai.length, Sh 4 d := fun d hd => by
          obtain ⟨q, hq, rfl⟩ := List.mem_map.mp hd
          exact (hok.wv q (List.mem_of_mem_take (List.mem_filter.mp hq).1)).sh
        refine eq_nil (n := 4) hsh (by decide) ?_
        have hall := someW_all s bk
        have fin : NJ ((WT (XB K b l)).cn g1) hid H0 (tAsg (tIf (tB (tDGet (tVar 2) (tC (.str "fallen")))) (tTup (tCons (tC (.str "Stopped")) (tCons (tC (.int 0)) tNil))) (tVar 10)) (gName 8) { D with nx := NxM (WT (XB K b l)) g1 hid H0 fun g2 ρ2 => g2 = g1 ∧ ∃ r5 r6 r9 r10, ρ2 = [.rw (.ref b), .rw (.ref a.d), .rw (.ref a.o), r3, r4, r5, r6, .im (.int (bk : Nat)), .im (dueR s (bk : Nat)), r9, r10, .un, .un] }) [.rw (.ref b), .rw (.ref a.d), .rw (.ref a.o), r3, r4, .im (.int far), .im (.lst [.int x1, .int x2, .int x3, .int (600 + far), .int (-1 - far), .int (-1 - x4)]), .im (.int (bk : Nat)), .im (.tup [.str "BadBlock", .int 0]), .im (.lst (someW s bk s.wai.length)), .im (lastW s bk), .un, .un] := by
          refine nj_asg (ev_if (et_B (ev_own rfl hS.own.ob own_fa (blJ ⟨fun e => ?_, fun e => ?_⟩))))
          · walk_at "law"
            have : dueR s (bk : Nat) = .tup [.str "Stopped", .int 0] := by unfold dueR readT; rw [if_pos ⟨h0, h1⟩, if_pos e]; rfl
            exact njm_nxw _ ⟨rfl, _, _, _, _, rfl⟩ .refl (by rw [this]; walk_at "le")
          · have : dueR s (bk : Nat) = lastW s bk := by unfold dueR readT; rw [if_pos ⟨h0, h1⟩, if_neg (by rw [e]; exact Bool.false_ne_true)]; rfl
            exact ev_var rfl (njm_nxw _ ⟨rfl, _, _, _, _, rfl⟩ .refl (by rw [this]; walk_at "le"))
        refine blJ ⟨fun e => ?_, fun e => ?_⟩
        · have e : someW s bk s.wai.length = [] := List.isEmpty_iff.mp e
          rw [e] at hall
          refine ev_ixT (erc_own rfl hS.own.ob own_se) hS.own.hse (ev_var rfl (intJ ⟨s.set.getD bk .non, atI_nat (by rw [List.getElem?_map, List.getD_eq_getElem?_getD, List.getElem?_eq_getElem (by omega)]; rfl), ?_⟩))
          rw [show s.set.getD bk .non = lastW s bk from hall.symm]
          exact fin
        · obtain ⟨d, hd⟩ : ∃ d, (someW s bk s.wai.length).getLast? = some d := by
            cases hz : (someW s bk s.wai.length).getLast? with
            | some d => exact ⟨d, rfl⟩
            | none => rw [List.getLast?_eq_none_iff.mp hz] at e; cases e
          rw [hd] at hall
          walk_at "law"
          refine ix_l (atI_last hd) ?_
          rw [show d = lastW s bk from hall.symm]
          exact fin
      · rintro g2 ρ2 ⟨rfl, r5, r6, r9, r10, rfl⟩ fr2
        cases ho : (readT s blk).1 with
        | none =>
          refine njr_ret (evr_callPG (fun _ => true) 2 (eag_cons (evr_toldW rfl (ea_cons (ev_lamW hT fun fA LA hA => ea_nil ⟨_, fA, LA, rfl, hA, twd_methW (erc_var rfl) hob (methF_no (by decide) (by decide) (by decide) (by decide) (by decide)) (eag_cons (evr (ev_var rfl (eag_nil ⟨fun _ _ _ => False, ⟨a.d, a.se, a.wa, s, blk, rfl, hS.disk, ?_⟩, fun _ _ _ z => z.elim⟩))))⟩)))))
          have hd : dueR s blk = (readT s blk).2 := by unfold dueR; rw [ho]
          have hv : Al 7 (dueR s blk) := by
            rw [hd]
            unfold readT at ho ⊢
            split
            · rename_i hb
              rw [if_pos hb] at ho
              split
              · rename_i hdn
                rw [if_pos hdn] at ho; cases ho
              · exact (vl_le (lastW_ok hok (b := blk.toNat) hl6 (by omega)) (by omega : 4 ≤ 7)).al
            · rename_i hb
              rw [if_neg hb] at ho; cases ho
          rw [ho]
          refine eag_cons (evr (ev_var rfl (eag_nil ⟨[dueR s blk, dueR s blk], .cons (.inl (by rw [hd])) (.cons (.inl rfl) .nil), _, rfl, hv, rfl, fun fr3 => hD.rt _ _ (hq _ k1) ((fr1.trans fr2).trans fr3)⟩)))
        | some nm =>
          obtain ⟨n1, n2⟩ := hnm nm ho
          have hd : dueR s blk = refO (some nm) := by unfold dueR; rw [ho]
          rw [hd]
          refine njr_ret (evr_callPG (fun _ => true) 2 (eag_cons (evr_toldW rfl (ea_cons (ev_lamW hT fun fA LA hA => ea_nil ⟨_, fA, LA, rfl, hA, twd_methW (erc_var rfl) hob (methF_no (by decide) (by decide) (by decide) (by decide) (by decide)) (eag_cons (evr (ev_var rfl (eag_nil ⟨fun g3 nm' pl => nm' = nm ∧ pl = none ∧ g3 = g2, ⟨a.d, a.se, a.wa, s, blk, rfl, hS.disk, ?_⟩, ?_⟩))))⟩)))))
          · rw [ho]
            exact ⟨rfl, rfl, rfl⟩
          · rintro g3 nm' pl ⟨rfl, rfl, rfl⟩
            refine ⟨n1, n2, eag_cons (evr (ev_var rfl (eag_nil ⟨[refO (some nm'), refO (some nm')], .cons (.inl rfl) (.cons (.inl rfl) .nil), _, rfl, al_refO _, rfl, fun fr3 => hD.rt _ _ (hq _ k1) ((fr1.trans fr2).trans fr3)⟩)))⟩
end
section
open PySem PySem.Spec PyProof.Rows L2
open C8 (Cal pe_c pe_gc)
local macro_rules | `(tactic| walk_at "law") => `(tactic| (repeat (first
  | with_reducible refine ev_callBW (by assumption) rfl ?_
  | with_reducible refine EN.ev (en_lst ?_)
  | with_reducible refine take_j (by omega) (by omega) ?_
  | walk_at "ev")))
section
variable {X : Cx} {k j : Nat} {x : Str} {sp : Sp} {dvs : List V} {p pos : Pos}
theorem pe_c0 (c : Cal X.prog X.w X.K X.mg X.base k x sp dvs) (hr : Room j X.A) (hk : k ≤ j) (hg : Gl X x) (hdb : (x == ("__debug__" : Str)) = false := by decide) : PE X (.Call (.Name x p) [] [] pos) (tCall sp dvs C8.E0 tNil) := by
  obtain ⟨f, fd, ps, ds, F, hm, kp, b, d⟩ := c.ex
  exact pe_call0 F (hr.mono hk) hg hm kp b d C8.pass0 hdb
end
theorem evr_side {K : PySem.W.Frag} {X : Cl K} {g : GT} {ρ : List Sl} {E1 E2 : XK} {Q : GT → RV → Prop} (h : ∀ g' t a, SideAt K g' a newF → g' t = some (.tp [.ref a.d, .ref a.o]) → (∀ y u, g y = some u → g' y = some u) → (∀ y ∈ a.foot, g y = none) → g t = none → t ∉ a.foot → Q g' (.ref t)) :
    EVR X g (tTup (tCons (tMake (He.ga K "Disk") (sp_Disk___init__ K) [] E1 tNil) (tCons (tCall (sp__law_made K) [] E2 tNil) tNil))) ρ Q := by
  refine evr_tupG (eag_cons (evr_make (ear_nil fun x dx hx => ⟨x, dx, rfl, setG_same, fun g1 se wa h1 hse hwa k1 => ⟨rfl, eag_cons (evr_call (ear_nil ⟨rfl, fun g2 o os op h2 ho hos hop k2 => eag_nil ⟨by show 2 ≤ 100000; omega, fun t ht => ?_⟩⟩))⟩⟩)))
  have kg : ∀ y u, g y = some u → g1 y = some u := fun y u hy => k1 y u (setG_new hx y u hy) (fun z => by rw [z, hx] at hy; cases hy)
  have kt := setG_new (m := .tp [.ref x, .ref o]) ht
  have back : ∀ y, g1 y = none → g y = none := fun y hy => by
    cases hz : g y with
    | none => rfl
    | some u => rw [kg y u hz] at hy; cases hy
  have dd : ∀ y, setG g x (.ins (He.ga K "Disk") dx []) y = none → g y = none := fun y hy => by
    have : y ≠ x := fun z => by rw [z, setG_same] at hy; cases hy
    rw [setG_ne this] at hy; exact hy
  obtain ⟨dx1, ho1⟩ := h1.ob
  have hS : SideAt K g2 ⟨x, se, wa, o, os, op⟩ newF := by
    refine ⟨h1.keep fun y u hy _ => k2 y u hy, h2, fun y z hy hz => ?_⟩
    have e1 : ∃ u, g1 y = some u := by
      rcases hy with e | e | e
      · exact ⟨_, by rw [e]; exact ho1⟩
      · exact ⟨_, by rw [e]; exact h1.hse⟩
      · exact ⟨_, by rw [e]; exact h1.hwa⟩
    have e2 : g1 z = none := by
      rcases hz with e | e | e
      · rw [e]; exact ho
      · rw [e]; exact hos
      · rw [e]; exact hop
    intro e
    obtain ⟨u, hu⟩ := e1
    rw [e, e2] at hu; cases hu
  refine h _ t ⟨x, se, wa, o, os, op⟩ (hS.keep fun y u hy _ => kt y u hy) setG_same (fun y u hy => kt _ _ (k2 _ _ (kg _ _ hy))) (fun y hy => ?_) ?_ (hS.dead ht)
  · simp only [SA.foot, List.mem_cons, List.not_mem_nil, or_false] at hy
    rcases hy with e | e | e | e | e | e
    · rw [e]; exact hx
    · rw [e]; exact dd _ hse
    · rw [e]; exact dd _ hwa
    · rw [e]; exact back _ ho
    · rw [e]; exact back _ hos
    · rw [e]; exact back _ hop
  · cases hz : g t with
    | none => rfl
    | some u => rw [k2 _ _ (kg _ _ hz)] at ht; cases ht
abbrev Fx := List (Addr × MT)
def LSt (K : PySem.W.Frag) (fx : Fx) (d1 o1 d2 o2 : Addr) (n : Nat) (g : GT) : Prop := ∃ a1 a2 s1 s2, SideAt K g a1 s1 ∧ SideAt K g a2 s2 ∧ OkF n s1 ∧ OkF n s2 ∧ a1.d = d1 ∧ a1.o = o1 ∧ a2.d = d2 ∧ a2.o = o2 ∧ (∀ y ∈ a1.foot, y ∉ a2.foot) ∧ ∀ p ∈ fx, g p.1 = some p.2 ∧ p.1 ∉ a1.foot ∧ p.1 ∉ a2.foot
theorem LSt.swap {K : PySem.W.Frag} {fx : Fx} {d1 o1 d2 o2 : Addr} {n : Nat} {g : GT} (h : LSt K fx d1 o1 d2 o2 n g) : LSt K fx d2 o2 d1 o1 n g := by
  obtain ⟨a1, a2, s1, s2, h1, h2, h3, h4, e1, e2, e3, e4, hd, hf⟩ := h
  exact ⟨a2, a1, s2, s1, h2, h1, h4, h3, e3, e4, e1, e2, fun y hy z => hd y z hy, fun p hp => ⟨(hf p hp).1, (hf p hp).2.2, (hf p hp).2.1⟩⟩
theorem LSt.fix {K : PySem.W.Frag} {fx : Fx} {d1 o1 d2 o2 : Addr} {n : Nat} {g : GT} (h : LSt K fx d1 o1 d2 o2 n g) : ∀ p ∈ fx, g p.1 = some p.2 := by
  obtain ⟨a1, a2, s1, s2, h1, h2, h3, h4, e1, e2, e3, e4, hd, hf⟩ := h
  exact fun p hp => (hf p hp).1
theorem LSt.sup {K : PySem.W.Frag} {fx : Fx} {d1 o1 d2 o2 : Addr} {n : Nat} {g g' : GT} (h : LSt K fx d1 o1 d2 o2 n g) (k : ∀ y u, g y = some u → g' y = some u) : LSt K fx d1 o1 d2 o2 n g' := by
  obtain ⟨a1, a2, s1, s2, h1, h2, h3, h4, e1, e2, e3, e4, hd, hf⟩ := h
  exact ⟨a1, a2, s1, s2, h1.keep fun y u hy _ => k y u hy, h2.keep fun y u hy _ => k y u hy, h3, h4, e1, e2, e3, e4, hd, fun p hp => ⟨k _ _ (hf p hp).1, (hf p hp).2⟩⟩
theorem LSt.side {K : PySem.W.Frag} {fx : Fx} {d1 o1 d2 o2 : Addr} {n : Nat} {g : GT} (h : LSt K fx d1 o1 d2 o2 n g) : ∃ a s, a.d = d1 ∧ a.o = o1 ∧ SideAt K g a s ∧ OkF n s ∧ (∀ p ∈ fx, p.1 ∉ a.foot) ∧ ∀ m g', n ≤ m → NxS K g a m g' → LSt K fx d1 o1 d2 o2 m g' := by
  obtain ⟨a1, a2, s1, s2, h1, h2, h3, h4, e1, e2, e3, e4, hd, hf⟩ := h
  refine ⟨a1, s1, e1, e2, h1, h3, fun p hp => (hf p hp).2.1, fun m g' hnm ⟨a', s', hS', ok', ed, eo, hft, hk⟩ => ?_⟩
  refine ⟨a', a2, s', s2, hS', h2.keep fun y u hy hm => hk y u hy fun z => hd y z hm, ok', h4.up hnm, ed.trans e1, eo.trans e2, e3, e4, fun y hy hm => ?_, fun p hp => ⟨hk _ _ (hf p hp).1 (hf p hp).2.1, fun hm => ?_, (hf p hp).2.2⟩⟩
  · rcases hft y hy with z | z
    · exact hd y z hm
    · exact h2.dead z hm
  · rcases hft _ hm with z | z
    · exact (hf p hp).2.1 z
    · rw [(hf p hp).1] at z; cases z
abbrev tabs13 (K : PySem.W.Frag) : List (Addr × Str) := [(wrP K, wrQ), (isP K, isQ), (lawP K, lawQ)]
def sp_law (K : PySem.W.Frag) : Sp := fun vs H Q _ => ∃ (a : Addr) (ns : List Int), vs = [.ref a] ∧ SqL K H a (ns.map V.int) ∧ ns.length ≤ 63 ∧ (∀ p ∈ [He.cT K ("_law_write", none), He.cT K ("_law_is", none), He.cT K ("law", none)], H p.2 = some (.tbl #[])) ∧ ∀ H', Q (.bl true) H'
theorem ok_law {P : Program} {w : World} {K : PySem.W.Frag} {mg : Str → Option Value} {base : Heap} (T : Txt K mg) (b__law_begun : ∀ B, Cal P w K mg B 1 "_law_begun" (sp__law_begun K) []) (b__law_made : ∀ B, Cal P w K mg B 1 "_law_made" (sp__law_made K) []) (b_Disk___init__ : ∀ B, CalI P w K mg B CX0 1 (He.ga K "Disk") (sp_Disk___init__ K)) (b__law_take : ∀ B, Cal P w K mg B 1 "_law_take" (sp__law_take K) []) (c__law_write : Cal P w K mg base 16 "_law_write" (sp__law_write K) []) (b__law_count : ∀ B, Cal P w K mg B 2 "_law_count" (sp__law_count K) []) (b__law_alike : ∀ B, Cal P w K mg B 8 "_law_alike" (sp__law_alike 7 K) []) (b__law_told : ∀ B, Cal P w K mg B 15 "_law_told" (sp__law_told P w K mg B) []) (b_Disk_settle : ∀ B, CalM P w K mg B (L2.CX P w) 3 (He.ga K "Disk") "settle" (sp_Disk_settle K)) (b__law_arms : ∀ B, Cal P w K mg B 2 "_law_arms" (sp__law_arms K) []) (c__law_is : Cal P w K mg base 16 "_law_is" (sp__law_is K) []) {f : Addr} {fd : FuncData} (F : Fun K "law" "law" s_law f fd) (tne : [(He.cT K ("_law_write", none)).2, (He.cT K ("_law_is", none)).2, (He.cT K ("law", none)).2].Nodup) (TB : LamX.TabB base mg (He.cT K ("law", none)).1 (He.cT K ("law", none)).2) (hcode : fd.code = .ref (He.cT K ("law", none)).1) : FnOk P w K mg base L2.CX0 17 f fd ["_law_script"] (sp_law K) := by
  have c__law_begun := b__law_begun base
  have c__law_made := b__law_made base
  have c_Disk___init__ := b_Disk___init__ base
  have c__law_take := b__law_take base
  have c__law_count := b__law_count base
  have c__law_alike := b__law_alike base
  have c__law_told := b__law_told base
  have c_Disk_settle := b_Disk_settle base
  have c__law_arms := b__law_arms base
  refine Fun.okC F sc_law ?len (fun A outer s H vs Q E hr h => ⟨_, (pss_cons (ps_set (i := 1) sc_law.nd rfl (Or.inl rfl) (pe_c c__law_begun hr (by decide) (by rfl) (pa_cons (pv 0) pa_nil)))
      (pss_cons (ps_set (i := 2) sc_law.nd rfl (Or.inl rfl) (pe_lst (pa_cons (pe_tup (pa_cons (pe_mk0 c_Disk___init__ hr (by decide) T.g_Disk (by rfl) ) (pa_cons (pe_c0 c__law_made hr (by decide) (by rfl)) pa_nil))) (pa_cons (pe_tup (pa_cons (pe_mk0 c_Disk___init__ hr (by decide) T.g_Disk (by rfl) ) (pa_cons (pe_c0 c__law_made hr (by decide) (by rfl)) pa_nil))) pa_nil))))
      (pss_cons (ps_for PassesOwn.never rfl (pi_range1 (by rfl) T.b_range (pa_cons (pe_c c__law_take hr (by decide) (by rfl) (pa_cons (pv 1) (pa_cons (pe_ix ix_seq (pe_lst (pa_cons pe_int (pa_cons pe_int (pa_cons pe_int (pa_cons pe_int pa_nil))))) (pe_c c__law_take hr (by decide) (by rfl) (pa_cons (pv 1) (pa_cons pe_int pa_nil))) (fun _ _ => rfl)) pa_nil))) pa_nil)) (pg_name (i := 3) sc_law.nd rfl (Or.inl rfl)) (pss_cons (ps_asg (pe_ix ix_seq (pv 2) (pe_op op_divU (pe_c c__law_take hr (by decide) (by rfl) (pa_cons (pv 1) (pa_cons pe_int pa_nil))) pe_int) (fun _ _ => rfl)) (pg_tup rfl (pgs_cons (pg_name (i := 4) sc_law.nd rfl (Or.inr rfl)) (pgs_cons (pg_name (i := 5) sc_law.nd rfl (Or.inl rfl)) pgs_nil))))
      (pss_cons (ps_set (i := 6) sc_law.nd rfl (Or.inl rfl) (pe_c c__law_take hr (by decide) (by rfl) (pa_cons (pv 1) (pa_cons pe_int pa_nil))))
      (Evl.pss_cut (ps_if (pt_cmpR op_ltU (pv 6) pe_int (nomark _)) (pss_one (ps_set (i := 7) sc_law.nd rfl (Or.inl rfl) (pe_c c__law_write hr (by decide) (by rfl) (pa_cons (pv 1) (pa_cons (pv 4) (pa_cons (pv 5) pa_nil)))))) (pss_one (ps_if (pt_cmpR op_ltU (pv 6) pe_int (nomark _)) (pss_cons (ps_set (i := 8) sc_law.nd rfl (Or.inl rfl) (pe_ifExp (pt_val (pe_c c__law_count hr (by decide) (by rfl) (pa_cons (pv 5) pa_nil))) pe_non (pe_tup (pa_cons pe_str (pa_cons pe_int pa_nil)))))
      (Evl.pss_cut (ps_if (pt_cmpR op_isU (pv 8) pe_non (nomark _)) (pss_cons (ps_for PassesOwn.never rfl (pi_list (pe_dget (hu_of hr) (pv 5) pe_str (fun _ _ => rfl))) (pg_tup rfl (pgs_cons (pg_name (i := 9) sc_law.nd rfl (Or.inl rfl)) (pgs_cons (pg_name (i := 10) sc_law.nd rfl (Or.inl rfl)) pgs_nil))) (pss_one (ps_asg (pv 10) (pg_sub (pe_dget (hu_of hr) (pv 5) pe_str (fun _ _ => rfl)) (pv 9) set_list))))
      (pss_one (ps_dput (hu_of hr) (pv 5) pe_str (pe_lst pa_nil) rfl))) pss_nil)
      (pss_one (ps_set (i := 7) sc_law.nd rfl (Or.inl rfl) (pe_c c__law_alike hr (by decide) (by rfl) (pa_cons (pe_callBig b__law_told hr (by decide) (by rfl) (pa_cons (pe_lamM (k := 13) (ps := []) TB hcode rfl (fun _ => rfl) (lamS2_by (N := ["_law_script", "_law_box", "_law_sides", "_law_turn", "_law_disk", "_law_own", "_law_way", "_law_good", "_law_due", "_law_block", "_law_what_here"]) (sc := defScope s_law) (by decide +kernel)) rfl (by decide) rfl (fun _ _ _ _ _ _ => rfl) (fun z => absurd rfl z) (fun B A outer s H E f c' hr => (pe_mtW0 (b_Disk_settle _) hr (by decide) T.cl_Disk (takes_of rfl rfl rfl rfl) (pv 4) ))) pa_nil)) (pa_cons (pv 8) pa_nil))))))) (pss_one (ps_set (i := 7) sc_law.nd rfl (Or.inl rfl) (pe_c c__law_arms hr (by decide) (by rfl) (pa_cons (pv 1) (pa_cons (pv 4) (pa_cons (pv 5) pa_nil)))))))))
      (pss_one (ps_if ((pw_or (pt_not (pt_val (pv 7))) (pw_or (pt_not (pt_val (pe_c c__law_is hr (by decide) (by rfl) (pa_cons (pv 1) (pa_cons (pe_ix ix_seq (pe_ix ix_seq (pv 2) pe_int (fun _ _ => rfl)) pe_int (fun _ _ => rfl)) (pa_cons (pe_ix ix_seq (pe_ix ix_seq (pv 2) pe_int (fun _ _ => rfl)) pe_int (fun _ _ => rfl)) pa_nil)))))) (pw_or1 (pt_not (pt_val (pe_c c__law_is hr (by decide) (by rfl) (pa_cons (pv 1) (pa_cons (pe_ix ix_seq (pe_ix ix_seq (pv 2) pe_int (fun _ _ => rfl)) pe_int (fun _ _ => rfl)) (pa_cons (pe_ix ix_seq (pe_ix ix_seq (pv 2) pe_int (fun _ _ => rfl)) pe_int (fun _ _ => rfl)) pa_nil)))))))))).pt (pss_one (ps_ret pe_bl)) pss_nil))))))
      (pss_one (ps_ret pe_bl))))), ?body⟩)
  case' body => try dsimp only [cxD, cxOf]
  case len => rintro vs H Q E ⟨a, ns, rfl, _⟩; rfl
  case body =>
    obtain ⟨sc, ns, rfl, hS, hn, hTb, hq⟩ := h
    refine ⟨.ref sc, rfl, sc, ns, rfl, hS, hn, fun b l H' hne hb hl e bx => ?_⟩
    refine nj_beginT (K := K) (a := sc) 9 (ts := tabs13 K) bx (fun p hp => ?_) fun hid => ?_
    · simp only [List.mem_cons, List.not_mem_nil, or_false] at hp
      rcases hp with rfl | rfl | rfl
      · exact e.keep _ _ rfl (hTb _ (by simp))
      · exact e.keep _ _ rfl (hTb _ (by simp))
      · exact e.keep _ _ rfl (hTb _ (by simp))
    dsimp only
    show NJ _ _ _ _ [.rw (.ref sc), .rw (.ref b), .un, .un, .un, .un, .un, .un, .un, .un, .un]
    have hgT := gTabs_mem (ts := tabs13 K) tne
    have hT1 := hgT (wrP K, wrQ) (by simp)
    have hT2 := hgT (isP K, isQ) (by simp)
    have hT3 := hgT (lawP K, lawQ) (by simp)
    generalize gTabs (tabs13 K) = g0 at hT1 hT2 hT3 ⊢
    refine qr_asg (evr_lstG (eag_cons (evr_side fun g1 t1 a1 hS1 ht1 k1 d1 e1 n1 => eag_cons (evr_side fun g2 t2 a2 hS2 ht2 k2 d2 e2 n2 => eag_nil ⟨by show 2 ≤ 100000; omega, fun sl hsl fr0 => ?_⟩))))
    walk_at "nm"
    have kk := setG_new (m := .lst [.ref t1, .ref t2]) hsl
    have hsl' : setG g2 sl (.lst [.ref t1, .ref t2]) sl = some (.lst [.ref t1, .ref t2]) := setG_same
    have hL0 : LSt K [(wrP K, .tab wrQ), (isP K, .tab isQ), (lawP K, .tab lawQ), (sl, .lst [.ref t1, .ref t2]), (t1, .tp [.ref a1.d, .ref a1.o]), (t2, .tp [.ref a2.d, .ref a2.o])] a1.d a1.o a2.d a2.o 0 (setG g2 sl (.lst [.ref t1, .ref t2])) := by
      have hS12 := hS1.keep fun y u hy _ => k2 y u hy
      refine ⟨a1, a2, newF, newF, hS12.keep fun y u hy _ => kk y u hy, hS2.keep fun y u hy _ => kk y u hy, .new, .new, rfl, rfl, rfl, rfl, fun y hy hm => ?_, fun p hp => ?_⟩
      · obtain ⟨u, hu⟩ := hS1.live hy
        rw [d2 y hm] at hu; cases hu
      · have old : ∀ y u, g0 y = some u → setG g2 sl (.lst [.ref t1, .ref t2]) y = some u ∧ y ∉ a1.foot ∧ y ∉ a2.foot := fun y u hy => ⟨kk _ _ (k2 _ _ (k1 _ _ hy)), (fun z => by rw [d1 y z] at hy; cases hy), (fun z => by
          have := k1 _ _ hy
          rw [d2 y z] at this; cases this)⟩
        simp only [List.mem_cons, List.not_mem_nil, or_false] at hp
        rcases hp with rfl | rfl | rfl | rfl | rfl | rfl
        · exact old _ _ hT1
        · exact old _ _ hT2
        · exact old _ _ hT3
        · exact ⟨hsl', hS12.dead hsl, hS2.dead hsl⟩
        · refine ⟨kk _ _ (k2 _ _ ht1), n1, fun z => ?_⟩
          rw [d2 _ z] at ht1; cases ht1
        · exact ⟨kk _ _ ht2, hS1.dead e2, n2⟩
    generalize setG g2 sl (.lst [.ref t1, .ref t2]) = g3 at hL0 fr0 ⊢
    obtain ⟨D1, hD1⟩ : ∃ x, x = a1.d := ⟨_, rfl⟩
    obtain ⟨O1, hO1⟩ : ∃ x, x = a1.o := ⟨_, rfl⟩
    obtain ⟨D2, hD2⟩ : ∃ x, x = a2.d := ⟨_, rfl⟩
    obtain ⟨O2, hO2⟩ : ∃ x, x = a2.o := ⟨_, rfl⟩
    rw [← hD1, ← hO1, ← hD2, ← hO2] at hL0
    obtain ⟨fx, hfx⟩ : ∃ fx : Fx, fx = [(wrP K, .tab wrQ), (isP K, .tab isQ), (lawP K, .tab lawQ), (sl, .lst [.ref t1, .ref t2]), (t1, .tp [.ref D1, .ref O1]), (t2, .tp [.ref D2, .ref O2])] := ⟨_, rfl⟩
    rw [← hfx] at hL0
    have fW : ∀ {d o d' o' n g}, LSt K fx d o d' o' n g → g (wrP K) = some (.tab wrQ) := fun h => h.fix (wrP K, .tab wrQ) (by simp [hfx])
    have fI : ∀ {d o d' o' n g}, LSt K fx d o d' o' n g → g (isP K) = some (.tab isQ) := fun h => h.fix (isP K, .tab isQ) (by simp [hfx])
    have fL : ∀ {d o d' o' n g}, LSt K fx d o d' o' n g → g (lawP K) = some (.tab lawQ) := fun h => h.fix (lawP K, .tab lawQ) (by simp [hfx])
    have fS : ∀ {d o d' o' n g}, LSt K fx d o d' o' n g → g sl = some (.lst [.ref t1, .ref t2]) := fun h => h.fix (sl, .lst [.ref t1, .ref t2]) (by simp [hfx])
    have f1 : ∀ {d o d' o' n g}, LSt K fx d o d' o' n g → g t1 = some (.tp [.ref D1, .ref O1]) := fun h => h.fix (t1, .tp [.ref D1, .ref O1]) (by simp [hfx])
    have f2 : ∀ {d o d' o' n g}, LSt K fx d o d' o' n g → g t2 = some (.tp [.ref D2, .ref O2]) := fun h => h.fix (t2, .tp [.ref D2, .ref O2]) (by simp [hfx])
    have fLf : (lawP K, MT.tab lawQ) ∈ fx := by simp [hfx]
    clear hfx hD1 hO1 hD2 hO2 hT1 hT2 hT3 hS1 hS2 ht1 ht2 k1 k2 d1 d2 e1 e2 n1 n2 hsl hsl' kk
    refine qm_for (W := WT (XB K b l)) (ij_rng1 ?_)
    walk_at "law"
    intro x1 p0 p1
    obtain ⟨m1, hm1, q1, q2⟩ : ∃ y : Int, atI [Dt.int 81, .int 81, .int 81, .int 300] x1 = some (.int y) ∧ 0 < y ∧ y ≤ 300 := by
      rcases (by omega : x1 = 0 ∨ x1 = 1 ∨ x1 = 2 ∨ x1 = 3) with rfl | rfl | rfl | rfl <;> exact ⟨_, rfl, by omega, by omega⟩
    refine ix_l hm1 ?_
    walk_at "law"
    intro k k0 k1
    obtain ⟨k, rfl⟩ := Int.eq_ofNat_of_zero_le k0
    refine ea_nil ⟨k, rfl, by omega, by omega, fun i g' ρ' => LSt K fx D1 O1 D2 O2 i g' ∧ ∃ r3 r4 r5 r6 r7 r8 r9 r10, ρ' = [.rw (.ref sc), .rw (.ref b), .rw (.ref sl), r3, r4, r5, r6, r7, r8, r9, r10], ⟨hL0, _, _, _, _, _, _, _, _, rfl⟩, ?_, ?_⟩
    · rintro H1 eH i x g4 ρ1 hi ⟨hL, r3, r4, r5, r6, r7, r8, r9, r10, rfl⟩ fr1
      obtain ⟨hi1, hx⟩ := rangeD_at hi
      have hi3 : i < 300 := by omega
      refine tg_name ?_
      walk_at "nm"
      refine qr_asgT (evr_ixE (erc_var rfl) (fS hL) ?_)
      walk_at "law"
      intro x2 p2 p3
      walk_at "law"
      obtain ⟨d, o, d', o', t, hat, ht, hLd, back⟩ : ∃ d o d' o' t, atI [RV.ref t1, .ref t2] (x2 / 3) = some (.ref t) ∧ g4 t = some (.tp [.ref d, .ref o]) ∧ LSt K fx d o d' o' i g4 ∧ ∀ m g', LSt K fx d o d' o' m g' → LSt K fx D1 O1 D2 O2 m g' := by
        rcases (by omega : x2 / 3 = 0 ∨ x2 / 3 = 1) with e | e
        · rw [e]; exact ⟨D1, O1, D2, O2, t1, rfl, f1 hL, hL, fun _ _ h => h⟩
        · rw [e]; exact ⟨D2, O2, D1, O1, t2, rfl, f2 hL, hL.swap, fun _ _ h => h.swap⟩
      refine ⟨_, hat, fun fr2 => tgr_tp ht rfl (tgsr_name (tgsr_name (tgsr_nil ?_)))⟩
      walk_at "nm"
      clear hat p2 p3
      obtain ⟨a, s, ead, eao, hSa, hok, hfa, hnx⟩ := hLd.side
      rw [← ead, ← eao]
      clear ead eao ht hLd
      have hol := hok.wl
      have hpl := hok.pl
      refine q_asg ?_
      walk_at "law"
      intro way p4 p5
      walk_at "nm"
      refine qm_cut (W := WT (XB K b l)) (fun g5 ρ5 => LSt K fx D1 O1 D2 O2 (i + 1) g5 ∧ ∃ r8 r9 r10, ρ5 = [.rw (.ref sc), .rw (.ref b), .rw (.ref sl), .im x, .rw (.ref a.d), .rw (.ref a.o), .im (.int way), .im (.bl true), r8, r9, r10]) ?_ ?_
      · refine nj_if ?_
        walk_at "law"
        refine bl_two (fun hw1 => ?_) (fun hw1 => ?_)
        · refine njr_asg (evr_callRB hne rfl (ear_ref (erc_var rfl) (ear_ref (erc_var rfl) (ear_nil ⟨a, s, i, rfl, hSa, hok, by omega, fW hL, fun g5 hn5 fr3 => ?_⟩))))
          exact njm_nxw _ ⟨back _ _ (hnx _ _ (by omega) hn5), _, _, _, rfl⟩ fr3 (by walk_at "le")
        refine nj_if ?_
        walk_at "law"
        refine bl_two (fun hw2 => ?_) (fun hw2 => ?_)
        case refine_2 =>
          refine njr_asg (evr_callRB hne rfl (ear_ref (erc_var rfl) (ear_ref (erc_var rfl) (ear_nil ⟨a, s, i + 1, rfl, hSa, hok.up (by omega), by omega, fun g5 hn5 fr3 => ?_⟩))))
          exact njm_nxw _ ⟨back _ _ (hnx _ _ (by omega) hn5), _, _, _, rfl⟩ fr3 (by walk_at "le")
        have hset : (deedF s).1 = true → settleF s = (none, { (deedF s).2 with set := setAll s.set s.wai, wai := [] }) := fun h => by unfold settleF; rw [if_pos h]
        have hset2 : (deedF s).1 = false → settleF s = (some ("Stopped" : Str), (deedF s).2) := fun h => by unfold settleF; rw [if_neg (by rw [h]; exact Bool.false_ne_true)]
        refine abs_rest (fun g5 ρ5 => (∃ op1, OwnF g5 a.o a.os op1 (deedF s).2 ∧ (op1 = a.op ∨ g4 op1 = none) ∧ ∀ y u, g4 y = some u → y ≠ a.o → y ≠ a.os → y ≠ a.op → g5 y = some u) ∧ ρ5 = [.rw (.ref sc), .rw (.ref b), .rw (.ref sl), .im x, .rw (.ref a.d), .rw (.ref a.o), .im (.int way), r7, .im (refO (settleF s).1), r9, r10]) ?_ (fun N hN => ?_)
        case refine_2 =>
          refine qr_asg (evr_ifG (etr_B (evr_call (ear_ref (erc_var rfl) (ear_nil ⟨a.o, a.os, a.op, s, rfl, hSa.own, hok.wb, by omega, by omega, fun g5 op1 h1 f1' k1' => ⟨_, rfl, fun hdd => evr (ev_non fun fr3 => ?_), fun hdd => evr (ev_tup (ea_cons (ev_str (ea_cons (ev_int (ea_nil ⟨by show 2 ≤ 100000; omega, fun fr3 => ?_⟩))))))⟩⟩)))))
          · refine hN _ _ ⟨⟨op1, h1, f1', k1'⟩, ?_⟩ fr3
            rw [hset hdd]; rfl
          · refine hN _ _ ⟨⟨op1, h1, f1', k1'⟩, ?_⟩ fr3
            rw [hset2 hdd]; rfl
        rintro g5 ρ5 ⟨⟨op1, h1, f1', k1'⟩, rfl⟩ fr3
        refine qm_cut (W := WT (XB K b l)) (fun g6 ρ6 => (∃ op2, OwnF g6 a.o a.os op2 (settleF s).2 ∧ (op2 = a.op ∨ g4 op2 = none) ∧ ∀ y u, g4 y = some u → y ≠ a.o → y ≠ a.os → y ≠ a.op → g6 y = some u) ∧ ∃ r9 r10, ρ6 = [.rw (.ref sc), .rw (.ref b), .rw (.ref sl), .im x, .rw (.ref a.d), .rw (.ref a.o), .im (.int way), r7, .im (refO (settleF s).1), r9, r10]) ?_ ?_
        · refine nj_when (etj (et_test (ev_op (ev_var rfl (ev_non (is_n ?_))))))
          refine blJ ?_
          cases hdd : (deedF s).1 with
          | false =>
            rw [hset2 hdd]
            refine bl_no rfl ?_
            exact njm_nxw _ ⟨⟨op1, h1, f1', k1'⟩, _, _, rfl⟩ .refl (by walk_at "le")
          | true =>
            rw [hset hdd]
            rw [deedO_wai s hdd] at h1 ⊢
            refine bl_yes rfl ?_
            refine qr_forR (rs := dats (s.wai.map wpD)) (w_list (erc_own rfl h1.ob own_pe) h1.hwa) (fun j g6 ρ6 => OwnF g6 a.o a.os op1 ⟨setAll s.set (s.wai.take j), s.wai, decL s.left, s.pk, s.dn⟩ ∧ (∀ y, y ≠ a.os → g6 y = g5 y) ∧ ∃ r9 r10, ρ6 = [.rw (.ref sc), .rw (.ref b), .rw (.ref sl), .im x, .rw (.ref a.d), .rw (.ref a.o), .im (.int way), r7, .im .non, r9, r10]) ⟨h1, (fun y _ => rfl), _, _, rfl⟩ (fun j g6 ρ6 h => itr_list h.1.hwa) ?_ ?_
            · rintro j r g6 ρ6 hj ⟨h2, k2', r9', r10', rfl⟩ fr4
              have hj : (dats (s.wai.map wpD))[j]? = some r := hj
              unfold dats at hj
              rw [List.getElem?_map, List.getElem?_map] at hj
              cases hq' : s.wai[j]? with
              | none => rw [hq'] at hj; cases hj
              | some q =>
                rw [hq'] at hj
                cases hj
                refine tgr_dat (tg_tup rfl (tgs_name (tgs_name (tgs_nil ?_))))
                walk_at "nm"
                refine njr_setL (b := a.os) (evr (ev_var rfl ?_))
                refine ⟨erc_own rfl h2.ob own_se, _, h2.hse, ev_var rfl ?_⟩
                refine ⟨q.1, ix_ok (by rw [List.length_map, h2.len]; exact hok.wb q (List.mem_of_getElem? hq')), fun fr5 => ?_⟩
                refine njm_nxw _ ⟨⟨?_, ?_, ?_, ?_, h2.n1, h2.n2, h2.n3⟩, fun y y1 => ?_, _, _, rfl⟩ (fr4.trans fr5) (by walk_at "le")
                · rw [setG_ne h2.n1]; exact h2.ob
                · rw [setG_same, take_at hq', setAll_snoc]
                  unfold dats
                  rw [← List.map_set]
                · rw [setG_ne (Ne.symm h2.n3)]; exact h2.hwa
                · show (setAll _ _).length = 600; rw [setAll_len]; exact hSa.own.len
                · rw [setG_ne y1, k2' y y1]
            · rintro g6 ρ6 ⟨h2, k2', r9', r10', rfl⟩ fr4
              have el : (dats (s.wai.map wpD)).length = s.wai.length := by unfold dats; rw [List.length_map, List.length_map]
              rw [el, List.take_length] at h2
              refine njr_dput (evr_new (en_lst (ea_nil ⟨by show 0 ≤ 100000; omega, fun op2 hop2 => ⟨erc_var rfl, _, setG_new hop2 _ _ h2.ob, by show 5 < 100000; omega, ev_str (keyJs fun fr5 => ?_)⟩⟩)))
              have m1 : a.o ≠ op2 := fun z => by have := h2.ob; rw [z, hop2] at this; cases this
              have m2 : a.os ≠ op2 := fun z => by have := h2.hse; rw [z, hop2] at this; cases this
              rw [put_pe] at fr5 ⊢
              refine njm_nxw _ ⟨⟨op2, ⟨?_, ?_, ?_, h2.len, hSa.own.n1, m1, m2⟩, ?_, fun y u hy y1 y2 y3 => ?_⟩, _, _, rfl⟩ (fr4.trans fr5) (by walk_at "le")
              · rw [setG_same]
              · rw [setG_ne (Ne.symm hSa.own.n1), setG_ne m2]; exact h2.hse
              · rw [setG_ne (Ne.symm m1), setG_same]; rfl
              · by_cases y3 : op2 = a.op
                · exact .inl y3
                refine .inr ?_
                cases hz : g4 op2 with
                | none => rfl
                | some u =>
                  have h9 : g5 op2 = none := by rw [← k2' op2 (Ne.symm m2)]; exact hop2
                  rw [k1' _ u hz (Ne.symm m1) (Ne.symm m2) y3] at h9; cases h9
              · rw [setG_ne y1]
                refine setG_new hop2 y u ?_
                rw [k2' y y2]
                exact k1' y u hy y1 y2 y3
        · rintro g6 ρ6 ⟨⟨op2, h2, f2', k2'⟩, r9', r10', rfl⟩ fr4
          have hd6 : DiskF K g6 a.d a.se a.wa s := hSa.disk.keep fun y u hy z => k2' y u hy (hSa.ap y _ z (.inl rfl)) (hSa.ap y _ z (.inr (.inl rfl))) (hSa.ap y _ z (.inr (.inr rfl)))
          obtain ⟨dx6, hob6⟩ := hd6.ob
          have hT6 : g6 (lawP K) = some (.tab lawQ) := by
            have hn := hfa _ fLf
            simp only [SA.foot, List.mem_cons, List.not_mem_nil, or_false, not_or] at hn
            exact k2' _ _ (fL hL) hn.2.2.2.1 hn.2.2.2.2.1 hn.2.2.2.2.2
          have hok6 := hok.settle
          cases ho : (settleF s).1 with
          | none =>
            refine njr_asg (evr_callPG (fun _ => true) 2 (eag_cons (evr_toldW rfl (ea_cons (ev_lamW hT6 fun fA LA hA => ea_nil ⟨_, fA, LA, rfl, hA, twd_methW (erc_var rfl) hob6 (methF_no (by decide) (by decide) (by decide) (by decide) (by decide)) (eag_nil ⟨fun _ _ _ => False, ⟨a.d, a.se, a.wa, s, rfl, hd6, hok.wb, fun g7 wa2 h3 f3 k3 => ?_⟩, fun _ _ _ z => z.elim⟩)⟩)))))
            rw [ho]
            refine eag_cons (evr (ev_var rfl (eag_nil ⟨[.non, .non], .cons (.inl rfl) (.cons (.inl rfl) .nil), _, rfl, .non, rfl, fun fr5 => ?_⟩)))
            exact njm_nxw _ ⟨back _ _ (hnx _ _ (by omega) (nx_two hSa (hok6.up (by omega : i ≤ i + 1)) h2 f2' k2' h3 f3 k3)), _, _, _, rfl⟩ ((fr3.trans fr4).trans fr5) (by walk_at "le")
          | some nm =>
            obtain ⟨n1, n2⟩ := settle_nm ho
            refine njr_asg (evr_callPG (fun _ => true) 2 (eag_cons (evr_toldW rfl (ea_cons (ev_lamW hT6 fun fA LA hA => ea_nil ⟨_, fA, LA, rfl, hA, twd_methW (erc_var rfl) hob6 (methF_no (by decide) (by decide) (by decide) (by decide) (by decide)) (eag_nil ⟨fun g7 nm' pl => nm' = nm ∧ pl = none ∧ NxS K g4 a (i + 1) g7, ⟨a.d, a.se, a.wa, s, rfl, hd6, hok.wb, fun g7 wa2 h3 f3 k3 => ?_⟩, ?_⟩)⟩)))))
            · rw [ho]
              exact ⟨rfl, rfl, nx_two hSa (hok6.up (by omega : i ≤ i + 1)) h2 f2' k2' h3 f3 k3⟩
            · rintro g7 nm' pl ⟨rfl, rfl, hn7⟩
              refine ⟨n1, n2, eag_cons (evr (ev_var rfl (eag_nil ⟨[refO (some nm'), refO (some nm')], .cons (.inl rfl) (.cons (.inl rfl) .nil), _, rfl, al_refO _, rfl, fun fr5 => ?_⟩)))⟩
              exact njm_nxw _ ⟨back _ _ (hnx _ _ (by omega) hn7), _, _, _, rfl⟩ ((fr3.trans fr4).trans fr5) (by walk_at "le")
      · rintro g5 ρ5 ⟨hL5, r8', r9', r10', rfl⟩ fr3
        obtain ⟨b1, s1, e1, e2, hS1, hok1, _, _⟩ := hL5.side
        refine njg_when (etr_or (etr_not (etr_B (evr (ev_var rfl ⟨true, rfl, (fun z => nomatch z), fun _ => etr_or (etr_not (etr_B (evr_callRB hne rfl (ear_ref (erc_ixTp (erc_ixT (erc_var rfl) (fS hL5) erc_int rfl) (f1 hL5) rfl) (ear_ref (erc_ixTp (erc_ixT (erc_var rfl) (fS hL5) erc_int rfl) (f1 hL5) rfl) (ear_nil ⟨b1, s1, i + 1, by rw [e1, e2], hS1, hok1, by omega, fI hL5, fun g6 k6 => ⟨true, rfl, (fun z => nomatch z), fun _ => ?_⟩⟩))))))⟩)))))
        have hL6 := hL5.sup k6
        obtain ⟨b2, s2, e3, e4, hS2, hok2, _, _⟩ := hL6.swap.side
        refine etr_not (etr_B (evr_callRB hne rfl (ear_ref (erc_ixTp (erc_ixT (erc_var rfl) (fS hL6) erc_int rfl) (f2 hL6) rfl) (ear_ref (erc_ixTp (erc_ixT (erc_var rfl) (fS hL6) erc_int rfl) (f2 hL6) rfl) (ear_nil ⟨b2, s2, i + 1, by rw [e3, e4], hS2, hok2, by omega, fI hL6, fun g7 k7 => ⟨true, rfl, fun fr4 => ⟨(fun z => nomatch z), fun _ => ?_⟩⟩⟩)))))
        exact njm_nxw _ ⟨hL6.sup k7, _, _, _, _, _, _, _, _, rfl⟩ (((fr1.trans fr2).trans fr3).trans fr4) (by walk_at "le")
    · rintro g4 ρ1 ⟨hL, r3, r4, r5, r6, r7, r8, r9, r10, rfl⟩ fr1
      refine nj_ret ?_
      walk_at "law"
      intro v H' e _ r
      cases r
      exact hq H'
end
section
open PySem PySem.Spec PyProof.Rows L2
open C8 (Cal pe_c pe_gc)
theorem law_fn {P : Program} {w : World} {K : PySem.W.Frag} {mg : Str → Option Value} {base : Heap} {f : Addr} {fd : FuncData} (T : Txt K mg) (F : Fun K "law" "law" s_law f fd) (tne : [(He.cT K ("_law_write", none)).2, (He.cT K ("_law_is", none)).2, (He.cT K ("law", none)).2].Nodup) (TB__law_write : LamX.TabB base mg (He.cT K ("_law_write", none)).1 (He.cT K ("_law_write", none)).2) (TB__law_is : LamX.TabB base mg (He.cT K ("_law_is", none)).1 (He.cT K ("_law_is", none)).2) (TB_law : LamX.TabB base mg (He.cT K ("law", none)).1 (He.cT K ("law", none)).2) (hcode : fd.code = .ref (He.cT K ("law", none)).1) : FnOk P w K mg base L2.CX0 17 f fd ["_law_script"] (sp_law K) := by
  have c_Disk___init__ := fun B : Heap => ok_Disk___init__ (P := P) (w := w) (base := B) T 
  have c_Disk_need_block := fun B : Heap => ok_Disk_need_block (P := P) (w := w) (base := B) T 
  have c_Disk_arm := fun B : Heap => ok_Disk_arm (P := P) (w := w) (base := B) T 
  have c_Disk_stop := fun B : Heap => ok_Disk_stop (P := P) (w := w) (base := B) T 
  have c_Disk_again := fun B : Heap => ok_Disk_again (P := P) (w := w) (base := B) T 
  have c_Disk_blocks := fun B : Heap => ok_Disk_blocks (P := P) (w := w) (base := B) T 
  have c__law_begun := fun B : Heap => ok__law_begun (P := P) (w := w) (base := B) T 
  have c__law_take := fun B : Heap => ok__law_take (P := P) (w := w) (base := B) T 
  have c__law_class := fun B : Heap => ok__law_class (P := P) (w := w) (base := B) T 
  have c__law_made := fun B : Heap => ok__law_made (P := P) (w := w) (base := B) T 
  have c__law_fall := fun B : Heap => ok__law_fall (P := P) (w := w) (base := B) T 
  have c_Disk_deed := fun B : Heap => ok_Disk_deed (P := P) (w := w) (base := B) T (c_Disk_stop B)
  have c_Disk_read := fun B : Heap => ok_Disk_read (P := P) (w := w) (base := B) T (c_Disk_need_block B)
  have c__law_count := fun B : Heap => ok__law_count (P := P) (w := w) (base := B) T (c__law_fall B)
  have c__law_arms := fun B : Heap => ok__law_arms (P := P) (w := w) (base := B) T (c__law_take B) (c_Disk_arm B) (c__law_fall B) (c_Disk_stop B) (c_Disk_again B)
  have c_Disk_settle := fun B : Heap => ok_Disk_settle (P := P) (w := w) (base := B) T (c_Disk_deed B)
  have c_weight_of := fun B : Heap => ok_weight_of (P := P) (w := w) (base := B) T  6
  have c__law_weight := fun B : Heap => ok__law_weight (P := P) (w := w) (base := B) T  6
  have c_Disk_write := fun B : Heap => ok_Disk_write (P := P) (w := w) (base := B) T (c_Disk_need_block B) (c_weight_of B) (c_Disk_deed B)
  have c__law_alike := fun B : Heap => ok__law_alike (P := P) (w := w) (base := B) T  7
  have c__law_nest := fun B : Heap => ok__law_nest (P := P) (w := w) (base := B) T (c__law_take B) 4
  have c__law_what := fun B : Heap => ok__law_what (P := P) (w := w) (base := B) T (c__law_take B) (c__law_nest B)
  have c__law_told := fun B : Heap => ok__law_told (P := P) (w := w) (base := B) T (c__law_class B)
  have c__law_write := ok__law_write (P := P) (w := w) (base := base) T c__law_take c__law_what c__law_weight c__law_count c__law_alike c__law_told c_Disk_write TB__law_write
  have c__law_is := ok__law_is (P := P) (w := w) (base := base) T c_Disk_blocks c__law_alike c__law_take c__law_told c_Disk_read TB__law_is
  exact ok_law T c__law_begun c__law_made c_Disk___init__ c__law_take c__law_write c__law_count c__law_alike c__law_told c_Disk_settle c__law_arms c__law_is F tne TB_law hcode
theorem fun_ofD {K : PySem.W.Frag} {x : Str} {st : Stmt} {f : Addr} {fd : FuncData} (F : FunD K x x (defArgs st) (defBody st) (defScope st) [] [] f fd) : Fun K x x st f fd := by
  obtain ⟨⟨oc, od, dV, kV, doc, pm, an, cdv, ct, osl, e, lk, hcd, hD, hK⟩, kp⟩ := F
  rcases hD with ⟨_, rfl⟩ | ⟨z, _⟩
  · exact ⟨⟨oc, od, kV, doc, pm, an, cdv, ct, osl, e, lk, hcd⟩, kp⟩
  · exact absurd rfl z
theorem code_of {K : PySem.W.Frag} {p : He.Defn} {x q : Str} {st : Stmt} {fd : FuncData} (F : FunD K x q (defArgs st) (defBody st) (defScope st) [] [] (He.fAd K p) fd) : fd.code = .ref (He.cT K p).1 := by
  obtain ⟨⟨oc, od, dV, kV, doc, pm, an, cdv, ct, osl, e, lk, hcd, hD, hK⟩, kp⟩ := F
  obtain ⟨c, rfl⟩ := He.codeIn_ref hcd
  have e2 : fd.code = .ref c := by rw [e]
  rw [e2, show (He.cT K p).1 = c from He.codeOf_eq (p := p) lk e2]
theorem fun_ofM {K : PySem.W.Frag} {x q : Str} {st : Stmt} {f : Addr} {fd : FuncData} (F : FunD K x q (defArgs st) (defBody st) (defScope st) [] [] f fd) : Fun K x q st f fd := by
  obtain ⟨⟨oc, od, dV, kV, doc, pm, an, cdv, ct, osl, e, lk, hcd, hD, hK⟩, kp⟩ := F
  rcases hD with ⟨_, rfl⟩ | ⟨z, _⟩
  · exact ⟨⟨oc, od, kV, doc, pm, an, cdv, ct, osl, e, lk, hcd⟩, kp⟩
  · exact absurd rfl z
theorem txt {w : World} {K : PySem.W.Frag} {h : Heap} {mg : Str → Option Value} (X : K.In h) (G : h.Ns mainGlobals mg) (z : He.SaysX fas fns [] tfs exB w h K) : Txt K mg := by
  have c : He.SaysD fas fns K := congrArg (fun z : He.AlT => z.1) z.t
  have ex2 := (He.ba z.more).1
  exact {
    b_len := He.free_ok X G (c.fact 0 (f := .free "len") rfl),
    b_list := He.free_ok X G (c.fact 1 (f := .free "list") rfl),
    b_tuple := He.free_ok X G (c.fact 2 (f := .free "tuple") rfl),
    b_int := He.free_ok X G (c.fact 3 (f := .free "int") rfl),
    b_sum := He.free_ok X G (c.fact 4 (f := .free "sum") rfl),
    b_isinstance := He.free_ok X G (c.fact 5 (f := .free "isinstance") rfl),
    b_max := He.free_ok X G (c.fact 6 (f := .free "max") rfl),
    b_range := He.free_ok X G (c.fact 7 (f := .free "range") rfl),
    b_zip := He.free_ok X G (c.fact 8 (f := .free "zip") rfl),
    b_reversed := He.free_ok X G (c.fact 9 (f := .free "reversed") rfl),
    b_str := He.free_ok X G (c.fact 10 (f := .free "str") rfl),
    b_bool := He.free_ok X G (c.fact 11 (f := .free "bool") rfl),
    b_ValueError := He.free_ok X G (c.fact 12 (f := .free "ValueError") rfl),
    k_BLOCKS := by
      obtain ⟨t, ht⟩ := He.int_ok X G (c.fact 13 (f := .int "BLOCKS" 600) rfl)
      exact ⟨_, ht, t, rfl⟩,
    k_MOST_WEIGHT := by
      obtain ⟨t, ht⟩ := He.int_ok X G (c.fact 14 (f := .int "MOST_WEIGHT" 40) rfl)
      exact ⟨_, ht, t, rfl⟩,
    g_ColumnError := He.glo_ok X G (c.fact 15 (f := .glo "ColumnError") rfl),
    g_BadNumber := He.glo_ok X G (c.fact 16 (f := .glo "BadNumber") rfl),
    g_BadValues := He.glo_ok X G (c.fact 17 (f := .glo "BadValues") rfl),
    g_NoForm := He.glo_ok X G (c.fact 18 (f := .glo "NoForm") rfl),
    g_BadPrices := He.glo_ok X G (c.fact 19 (f := .glo "BadPrices") rfl),
    g_BadKinds := He.glo_ok X G (c.fact 20 (f := .glo "BadKinds") rfl),
    g_BadRows := He.glo_ok X G (c.fact 21 (f := .glo "BadRows") rfl),
    g_BadCondition := He.glo_ok X G (c.fact 22 (f := .glo "BadCondition") rfl),
    g_BadColumn := He.glo_ok X G (c.fact 23 (f := .glo "BadColumn") rfl),
    g_BadHeap := He.glo_ok X G (c.fact 24 (f := .glo "BadHeap") rfl),
    g_TooMany := He.glo_ok X G (c.fact 25 (f := .glo "TooMany") rfl),
    g_BadBlock := He.glo_ok X G (c.fact 26 (f := .glo "BadBlock") rfl),
    g_Stopped := He.glo_ok X G (c.fact 27 (f := .glo "Stopped") rfl),
    g_BadText := He.glo_ok X G (c.fact 28 (f := .glo "BadText") rfl),
    g_Disk := He.glo_ok X G (c.fact 29 (f := .glo "Disk") rfl),
    cls := clsB_ok ex2,
    x_BadBlock := by
      obtain ⟨e1, e2, e3, e4⟩ := He.exc_ok (c.fact 30 (f := .exc "BadBlock") rfl)
      exact ⟨He.glo_ok X G (c.fact 26 (f := .glo "BadBlock") rfl), e1, e2, e3, e4⟩,
    m_BadBlock := He.exm_ok (c.fact 31 (f := .exm "BadBlock" "BadBlock" true) rfl),
    x_Stopped := by
      obtain ⟨e1, e2, e3, e4⟩ := He.exc_ok (c.fact 32 (f := .exc "Stopped") rfl)
      exact ⟨He.glo_ok X G (c.fact 27 (f := .glo "Stopped") rfl), e1, e2, e3, e4⟩,
    m_Stopped := He.exm_ok (c.fact 33 (f := .exm "Stopped" "Stopped" true) rfl),
    f_weight_of := by
      obtain ⟨fd, F⟩ := c.def_ 0 (d := dfn "weight_of" s_weight_of) rfl
      exact ⟨_, fd, He.glo_ok X G (c.fact 34 (f := .glo "weight_of") rfl), fun_ofD F, F.bindsN fun _ _ _ _ _ _ us hl => match us, hl with | [_], _ => rfl⟩,
    f__law_begun := by
      obtain ⟨fd, F⟩ := c.def_ 1 (d := dfn "_law_begun" s__law_begun) rfl
      exact ⟨_, fd, He.glo_ok X G (c.fact 35 (f := .glo "_law_begun") rfl), fun_ofD F, F.bindsN fun _ _ _ _ _ _ us hl => match us, hl with | [_], _ => rfl⟩,
    f__law_take := by
      obtain ⟨fd, F⟩ := c.def_ 2 (d := dfn "_law_take" s__law_take) rfl
      exact ⟨_, fd, He.glo_ok X G (c.fact 36 (f := .glo "_law_take") rfl), fun_ofD F, F.bindsN fun _ _ _ _ _ _ us hl => match us, hl with | [_, _], _ => rfl⟩,
    f__law_alike := by
      obtain ⟨fd, F⟩ := c.def_ 3 (d := dfn "_law_alike" s__law_alike) rfl
      exact ⟨_, fd, He.glo_ok X G (c.fact 37 (f := .glo "_law_alike") rfl), fun_ofD F, F.bindsN fun _ _ _ _ _ _ us hl => match us, hl with | [_, _], _ => rfl⟩,
    f__law_class := by
      obtain ⟨fd, F⟩ := c.def_ 4 (d := dfn "_law_class" s__law_class) rfl
      exact ⟨_, fd, He.glo_ok X G (c.fact 38 (f := .glo "_law_class") rfl), fun_ofD F, F.bindsN fun _ _ _ _ _ _ us hl => match us, hl with | [_], _ => rfl⟩,
    f__law_told := by
      obtain ⟨fd, F⟩ := c.def_ 5 (d := dfn "_law_told" s__law_told) rfl
      exact ⟨_, fd, He.glo_ok X G (c.fact 39 (f := .glo "_law_told") rfl), fun_ofD F, F.bindsN fun _ _ _ _ _ _ us hl => match us, hl with | [_], _ => rfl⟩,
    f__law_all := by
      obtain ⟨fd, F⟩ := c.def_ 6 (d := dfn "_law_all" s__law_all) rfl
      exact ⟨_, fd, He.glo_ok X G (c.fact 40 (f := .glo "_law_all") rfl), fun_ofD F, F.bindsN fun _ _ _ _ _ _ us hl => match us, hl with | [_, _], _ => rfl⟩,
    f__law_nest := by
      obtain ⟨fd, F⟩ := c.def_ 7 (d := dfn "_law_nest" s__law_nest) rfl
      exact ⟨_, fd, He.glo_ok X G (c.fact 41 (f := .glo "_law_nest") rfl), fun_ofD F, F.bindsN fun _ _ _ _ _ _ us hl => match us, hl with | [_, _, _], _ => rfl⟩,
    f__law_what := by
      obtain ⟨fd, F⟩ := c.def_ 8 (d := dfn "_law_what" s__law_what) rfl
      exact ⟨_, fd, He.glo_ok X G (c.fact 42 (f := .glo "_law_what") rfl), fun_ofD F, F.bindsN fun _ _ _ _ _ _ us hl => match us, hl with | [_], _ => rfl⟩,
    f__law_weight := by
      obtain ⟨fd, F⟩ := c.def_ 9 (d := dfn "_law_weight" s__law_weight) rfl
      exact ⟨_, fd, He.glo_ok X G (c.fact 43 (f := .glo "_law_weight") rfl), fun_ofD F, F.bindsN fun _ _ _ _ _ _ us hl => match us, hl with | [_], _ => rfl⟩,
    f__law_made := by
      obtain ⟨fd, F⟩ := c.def_ 10 (d := dfn "_law_made" s__law_made) rfl
      exact ⟨_, fd, He.glo_ok X G (c.fact 44 (f := .glo "_law_made") rfl), fun_ofD F, F.bindsN fun _ _ _ _ _ _ us hl => match us, hl with | [], _ => rfl⟩,
    f__law_fall := by
      obtain ⟨fd, F⟩ := c.def_ 11 (d := dfn "_law_fall" s__law_fall) rfl
      exact ⟨_, fd, He.glo_ok X G (c.fact 45 (f := .glo "_law_fall") rfl), fun_ofD F, F.bindsN fun _ _ _ _ _ _ us hl => match us, hl with | [_, _], _ => rfl⟩,
    f__law_count := by
      obtain ⟨fd, F⟩ := c.def_ 12 (d := dfn "_law_count" s__law_count) rfl
      exact ⟨_, fd, He.glo_ok X G (c.fact 46 (f := .glo "_law_count") rfl), fun_ofD F, F.bindsN fun _ _ _ _ _ _ us hl => match us, hl with | [_], _ => rfl⟩,
    f__law_write := by
      obtain ⟨fd, F⟩ := c.def_ 13 (d := dfn "_law_write" s__law_write) rfl
      exact ⟨_, fd, He.glo_ok X G (c.fact 47 (f := .glo "_law_write") rfl), fun_ofD F, F.bindsN fun _ _ _ _ _ _ us hl => match us, hl with | [_, _, _], _ => rfl, code_of (p := ("_law_write", none)) (x := "_law_write") (q := "_law_write") (st := s__law_write) F⟩,
    f__law_arms := by
      obtain ⟨fd, F⟩ := c.def_ 14 (d := dfn "_law_arms" s__law_arms) rfl
      exact ⟨_, fd, He.glo_ok X G (c.fact 48 (f := .glo "_law_arms") rfl), fun_ofD F, F.bindsN fun _ _ _ _ _ _ us hl => match us, hl with | [_, _, _], _ => rfl⟩,
    f__law_is := by
      obtain ⟨fd, F⟩ := c.def_ 15 (d := dfn "_law_is" s__law_is) rfl
      exact ⟨_, fd, He.glo_ok X G (c.fact 49 (f := .glo "_law_is") rfl), fun_ofD F, F.bindsN fun _ _ _ _ _ _ us hl => match us, hl with | [_, _, _], _ => rfl, code_of (p := ("_law_is", none)) (x := "_law_is") (q := "_law_is") (st := s__law_is) F⟩,
    f_law := by
      obtain ⟨fd, F⟩ := c.def_ 16 (d := dfn "law" s_law) rfl
      exact ⟨_, fd, He.glo_ok X G (c.fact 50 (f := .glo "law") rfl), fun_ofD F, F.bindsN fun _ _ _ _ _ _ us hl => match us, hl with | [_], _ => rfl, code_of (p := ("law", none)) (x := "law") (q := "law") (st := s_law) F⟩,
    cl_Disk := He.cls_ok (c.fact 51 (f := .cls "Disk") rfl),
    na_Disk_is_down := He.noat_ok (c.fact 52 (f := .noat "Disk" "is_down") rfl),
    na_Disk_left := He.noat_ok (c.fact 53 (f := .noat "Disk" "left") rfl),
    na_Disk_picks := He.noat_ok (c.fact 54 (f := .noat "Disk" "picks") rfl),
    na_Disk_settled := He.noat_ok (c.fact 55 (f := .noat "Disk" "settled") rfl),
    na_Disk_waiting := He.noat_ok (c.fact 56 (f := .noat "Disk" "waiting") rfl),
    m_Disk___init__ := by
      obtain ⟨fd, F⟩ := c.def_ 17 (d := dfnM "Disk" "__init__" "Disk.__init__" s_Disk___init__) rfl
      exact ⟨_, fd, He.mkr_ok (c.fact 57 (f := .mkr "Disk") rfl), fun_ofM F, F.bindsN fun _ _ _ _ _ _ us hl => match us, hl with | [_], _ => rfl⟩,
    m_Disk_need_block := by
      obtain ⟨fd, F⟩ := c.def_ 18 (d := dfnM "Disk" "need_block" "Disk.need_block" s_Disk_need_block) rfl
      exact ⟨_, fd, He.meth_ok (c.fact 58 (f := .meth "Disk" "need_block") rfl), fun_ofM F, F.bindsN fun _ _ _ _ _ _ us hl => match us, hl with | [_, _], _ => rfl⟩,
    m_Disk_deed := by
      obtain ⟨fd, F⟩ := c.def_ 19 (d := dfnM "Disk" "deed" "Disk.deed" s_Disk_deed) rfl
      exact ⟨_, fd, He.meth_ok (c.fact 59 (f := .meth "Disk" "deed") rfl), fun_ofM F, F.bindsN fun _ _ _ _ _ _ us hl => match us, hl with | [_], _ => rfl⟩,
    m_Disk_write := by
      obtain ⟨fd, F⟩ := c.def_ 20 (d := dfnM "Disk" "write" "Disk.write" s_Disk_write) rfl
      exact ⟨_, fd, He.meth_ok (c.fact 60 (f := .meth "Disk" "write") rfl), fun_ofM F, F.bindsN fun _ _ _ _ _ _ us hl => match us, hl with | [_, _, _], _ => rfl⟩,
    m_Disk_settle := by
      obtain ⟨fd, F⟩ := c.def_ 21 (d := dfnM "Disk" "settle" "Disk.settle" s_Disk_settle) rfl
      exact ⟨_, fd, He.meth_ok (c.fact 61 (f := .meth "Disk" "settle") rfl), fun_ofM F, F.bindsN fun _ _ _ _ _ _ us hl => match us, hl with | [_], _ => rfl⟩,
    m_Disk_read := by
      obtain ⟨fd, F⟩ := c.def_ 22 (d := dfnM "Disk" "read" "Disk.read" s_Disk_read) rfl
      exact ⟨_, fd, He.meth_ok (c.fact 62 (f := .meth "Disk" "read") rfl), fun_ofM F, F.bindsN fun _ _ _ _ _ _ us hl => match us, hl with | [_, _], _ => rfl⟩,
    m_Disk_arm := by
      obtain ⟨fd, F⟩ := c.def_ 23 (d := dfnM "Disk" "arm" "Disk.arm" s_Disk_arm) rfl
      exact ⟨_, fd, He.meth_ok (c.fact 63 (f := .meth "Disk" "arm") rfl), fun_ofM F, F.bindsN fun _ _ _ _ _ _ us hl => match us, hl with | [_, _, _], _ => rfl⟩,
    m_Disk_stop := by
      obtain ⟨fd, F⟩ := c.def_ 24 (d := dfnM "Disk" "stop" "Disk.stop" s_Disk_stop) rfl
      exact ⟨_, fd, He.meth_ok (c.fact 64 (f := .meth "Disk" "stop") rfl), fun_ofM F, F.bindsN fun _ _ _ _ _ _ us hl => match us, hl with | [_, _], _ => rfl⟩,
    m_Disk_again := by
      obtain ⟨fd, F⟩ := c.def_ 25 (d := dfnM "Disk" "again" "Disk.again" s_Disk_again) rfl
      exact ⟨_, fd, He.meth_ok (c.fact 65 (f := .meth "Disk" "again") rfl), fun_ofM F, F.bindsN fun _ _ _ _ _ _ us hl => match us, hl with | [_], _ => rfl⟩,
    m_Disk_blocks := by
      obtain ⟨fd, F⟩ := c.def_ 26 (d := dfnM "Disk" "blocks" "Disk.blocks" s_Disk_blocks) rfl
      exact ⟨_, fd, He.meth_ok (c.fact 66 (f := .meth "Disk" "blocks") rfl), fun_ofM F, F.bindsN fun _ _ _ _ _ _ us hl => match us, hl with | [_], _ => rfl⟩
  }
theorem tne_of {w : World} {K : PySem.W.Frag} {h : Heap} (z : He.SaysX fas fns tabs tfs exB w h K) : [(He.cT K ("_law_write", none)).2, (He.cT K ("_law_is", none)).2, (He.cT K ("law", none)).2].Nodup := by
  have ez := (He.ba z.more).2
  exact of_decide_eq_true ez
end
end CC
open PySem PySem.W PySem.Calls PyProof.Rows
theorem PySem.Challenge.cw_codecolumns_k13_disks_holds : PySem.Challenge.rw_codecolumns_k13_disks.Holds := by
  refine CC.hd ?_
  refine LamX.walk_ofTsE (l := PySem.Challenge.rw_codecolumns_k13_disks) (n := 63) (k := 17) (x := "_law_script") (CX := fun _ => L2.CX0) rfl (by decide) (by kernel_rfl) ⟨rfl, by decide, by decide⟩ ?F (fun _ _ _ _ _ z => z)
  intro w mg fa h Y G hmg0
  obtain ⟨K, KX, c⟩ := Y
  have hmg : mg ("law" : PySem.Str) = some (.ref fa) := by
    have e : (HandSHeadRun.topDef (OpenLaw.row PySem.Challenge.rw_codecolumns_k13_disks).prog 36).name = ("law" : PySem.Str) := by kernel_rfl
    rw [← e]
    exact hmg0
  have cd : He.SaysD CC.fas CC.fns K := congrArg (fun z : He.AlT => z.1) c.t
  obtain ⟨fd, F⟩ := cd.def_ 16 (d := CC.dfn "law" CC.s_law) rfl
  have e := hmg.symm.trans (He.glo_ok KX G (cd.fact 50 (f := .glo "law") rfl))
  cases e
  have b := L2.FunD.bindsA (ps := ["_law_script"]) F fun _ _ _ _ _ _ us hl => match us, hl with | [_], _ => rfl
  refine ⟨K, KX, fd, [He.cT K ("_law_write", none), He.cT K ("_law_is", none), He.cT K ("law", none)], CC.sp_law K, fun p hp => ?_, fun p hp => ?_, fun p hp => ?_, fun s v => b s [v] rfl, fun H a ns hl _ hH hS => ⟨a, ns, rfl, hS, hl, hH, fun _ => rfl⟩, fun base _ _ TB => CC.law_fn (CC.txt KX G c) (CC.fun_ofD F) (CC.tne_of c) (TB _ (List.mem_cons_self)) (TB _ (List.mem_cons_of_mem _ (List.mem_cons_self))) (TB _ (List.mem_cons_of_mem _ (List.mem_cons_of_mem _ (List.mem_cons_self)))) (CC.code_of (st := CC.s_law) F)⟩
  · simp only [List.mem_cons, List.not_mem_nil, or_false] at hp
    rcases hp with rfl | rfl | rfl
    · exact c.empty _ (List.mem_cons_self)
    · exact c.empty _ (List.mem_cons_of_mem _ (List.mem_cons_self))
    · exact c.empty _ (List.mem_cons_of_mem _ (List.mem_cons_of_mem _ (List.mem_cons_self)))
  · simp only [List.mem_cons, List.not_mem_nil, or_false] at hp
    rcases hp with rfl | rfl | rfl
    · exact c.out _ (List.mem_cons_self)
    · exact c.out _ (List.mem_cons_of_mem _ (List.mem_cons_self))
    · exact c.out _ (List.mem_cons_of_mem _ (List.mem_cons_of_mem _ (List.mem_cons_self)))
  · simp only [List.mem_cons, List.not_mem_nil, or_false] at hp
    rcases hp with rfl | rfl | rfl
    · exact PySem.W.codeHd_of_K KX (c.hd _ (List.mem_cons_self))
    · exact PySem.W.codeHd_of_K KX (c.hd _ (List.mem_cons_of_mem _ (List.mem_cons_self)))
    · exact PySem.W.codeHd_of_K KX (c.hd _ (List.mem_cons_of_mem _ (List.mem_cons_of_mem _ (List.mem_cons_self))))
