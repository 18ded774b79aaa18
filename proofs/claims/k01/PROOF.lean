import PyProof.Rows.All
import Wide.All
import OpenK.AllK
import Wide.FinOn
import HandS.ForMost
import HandS.ForExc
import HandS.Evl
import HandS.TupAny
import HandS.IsInst
import HandS.Strs
import HandS.Style
import HandS.Flow
import HandS.Wide
import HandS.SetFor
import HandS.Zip
import HandS.Codes
import HandS.Defaults
import HandS.Head2
import HandS.HeadEnd
import HandS.HeadHook4
import KE.DataMinMax
import HandS.Lambda
import HandS.ExcIs
import HandS.ExcField
import HandS.HotCalls
import HandS.ExcInit
import HandS.EndTab
import HandS.HeadWalk
import KE.KExcIs
import KE.GoesMore
import HandS.HeadNt
import PySem.Challenge.RW_codecolumns_k01_packed_numbers
set_option Elab.async false
set_option linter.all false
set_option maxRecDepth 100000
set_option maxHeartbeats 0
/-! # A logic of plain data over the hand layer's readings -/
namespace CC
open PySem PySem.Spec PyProof.Rows L2

/-! ### data -/
inductive Dt where
  | non | bl (b : Bool) | int (i : Int) | str (s : Str) | lst (xs : List Dt) | tup (xs : List Dt)
  | dk (kvs : List (Key × Dt)) | dt (kvs : List (List Key × Dt))
  /-- an instance of the class at C that no one changes -/
  | ob (C : Addr) (fs : List (Str × Dt))
  /-- the thing at f, by what is true of some objects (a lambda, its code, its defaults) -/
  | xo (f : Addr) (L : List (Addr × HO))

/-! ### heaps: what is seen grows; a dict may be locked and unlocked -/
def thaw : HO → HO
  | .frz _ u => u
  | o => o
def dic : HO → Bool
  | .dK _ => true
  | .dT _ => true
  | _ => false
def Sm (o o' : HO) : Prop := o = o' ∨ (dic (thaw o) = true ∧ thaw o = thaw o')
theorem Sm.rfl {o : HO} : Sm o o := .inl _root_.rfl
theorem Sm.trans {a b c : HO} (h : Sm a b) (k : Sm b c) : Sm a c := by
  rcases h with rfl | ⟨h1, h2⟩
  · exact k
  · rcases k with rfl | ⟨k1, k2⟩
    · exact .inr ⟨h1, h2⟩
    · exact .inr ⟨h1, h2.trans k2⟩
theorem Sm.symm {a b : HO} (h : Sm a b) : Sm b a := by
  rcases h with rfl | ⟨h1, h2⟩
  · exact .inl _root_.rfl
  · exact .inr ⟨by rw [← h2]; exact h1, h2.symm⟩
theorem Sm.lst {xs : List V} {o : HO} (h : Sm (.lst xs) o) : o = .lst xs := by
  rcases h with h | ⟨h, _⟩
  · exact h.symm
  · cases h
theorem Sm.tup {xs : List V} {o : HO} (h : Sm (.tup xs) o) : o = .tup xs := by
  rcases h with h | ⟨h, _⟩
  · exact h.symm
  · cases h
theorem Sm.ftup {xs : List V} {o : HO} {b : Obj} (h : Sm (.frz b (.tup xs)) o) : o = .frz b (.tup xs) := by
  rcases h with h | ⟨h, _⟩
  · exact h.symm
  · cases h
theorem Sm.plain {o o' : HO} (h : Sm o o') (hd : dic (thaw o) = false) : o' = o := by
  rcases h with h | ⟨h, _⟩
  · exact h.symm
  · rw [hd] at h; cases h

/-- all but mu is as it was, and what mu names is still there -/
structure Ex (mu : Addr → Bool) (H H' : Hp) : Prop where
  keep : ∀ a o, mu a = false → H a = some o → H' a = some o
  dom : ∀ a, H a ≠ none → H' a ≠ none
theorem Ex.refl {mu : Addr → Bool} {H : Hp} : Ex mu H H := ⟨fun _ o _ h => h, fun _ h => h⟩
theorem Ex.trans {mu : Addr → Bool} {H H1 H2 : Hp} (a : Ex mu H H1) (b : Ex mu H1 H2) : Ex mu H H2 := ⟨fun x o hx h => b.keep x o hx (a.keep x o hx h), fun x h => b.dom x (a.dom x h)⟩
theorem Ex.fresh {mu : Addr → Bool} {H H' : Hp} (e : Ex mu H H') {p : Addr} (h : H' p = none) : H p = none := by
  cases q : H p with
  | none => rfl
  | some o => exact absurd h (e.dom p (by rw [q]; exact fun z => nomatch z))
theorem Ex.new {mu : Addr → Bool} {H : Hp} {p : Addr} {o : HO} (h : H p = none) : Ex mu H (upd H p o) := ⟨fun a u _ e => by
  rw [upd_ne (ne_of_none e h)]
  exact e, fun a e => by
  by_cases q : a = p
  · subst q; exact absurd h e
  · rw [upd_ne q]; exact e⟩
theorem upd_dom {H : Hp} {p a : Addr} {o : HO} (h : H a ≠ none) : upd H p o a ≠ none := by
  by_cases q : a = p
  · subst q; rw [upd_same]; exact fun z => nomatch z
  · rw [upd_ne q]; exact h
theorem Ex.mut {mu : Addr → Bool} {H H' : Hp} {p : Addr} {o : HO} (e : Ex mu H H') (h : H p = none ∨ mu p = true) : Ex mu H (upd H' p o) := ⟨fun a u ha hu => by
  by_cases q : a = p
  · subst q
    rcases h with h | h
    · rw [h] at hu; cases hu
    · rw [h] at ha; cases ha
  · rw [upd_ne q]; exact e.keep a u ha hu, fun a ha => upd_dom (e.dom a ha)⟩
theorem Ex.weak {mu nu : Addr → Bool} {H H' : Hp} (e : Ex mu H H') (h : ∀ a, mu a = true → nu a = true) : Ex nu H H' := ⟨fun a o ha => e.keep a o (by
  cases q : mu a with
  | false => rfl
  | true => rw [h a q] at ha; cases ha), e.dom⟩

/-! ### what is seen: all but the hidden -/
def Hm (hd : Addr → Bool) (H : Hp) : Hp := fun a => if hd a = true then none else H a
theorem hm_le {hd : Addr → Bool} {H : Hp} {a : Addr} {o : HO} (h : Hm hd H a = some o) : H a = some o := by
  unfold Hm at h
  split at h
  · cases h
  · exact h
theorem hm_not {hd : Addr → Bool} {H : Hp} {a : Addr} {o : HO} (h : Hm hd H a = some o) : hd a = false := by
  unfold Hm at h
  cases q : hd a with
  | false => rfl
  | true => rw [if_pos q] at h; cases h
theorem hm_of {hd : Addr → Bool} {H : Hp} {a : Addr} (h : hd a = false) : Hm hd H a = H a := by
  unfold Hm
  rw [if_neg (by rw [h]; exact Bool.false_ne_true)]
/-- what is seen in the one is seen in the other -/
def Sees (G G' : Hp) : Prop := ∀ a o, G a = some o → ∃ o', G' a = some o' ∧ Sm o o'
theorem Sees.refl {G : Hp} : Sees G G := fun _ o h => ⟨o, h, .rfl⟩
theorem Sees.trans {G G1 G2 : Hp} (a : Sees G G1) (b : Sees G1 G2) : Sees G G2 := fun x o h => by
  obtain ⟨o1, h1, s1⟩ := a x o h
  obtain ⟨o2, h2, s2⟩ := b x o1 h1
  exact ⟨o2, h2, s1.trans s2⟩
theorem Ex.sees {mu hd : Addr → Bool} {H H' : Hp} (e : Ex mu H H') (hm : ∀ a, mu a = true → hd a = true) : Sees (Hm hd H) (Hm hd H') := fun a o h => by
  have h1 := hm_not h
  have h2 := e.keep a o (by
    cases q : mu a with
    | false => rfl
    | true => rw [hm a q] at h1; cases h1) (hm_le h)
  exact ⟨o, by rw [hm_of h1]; exact h2, .rfl⟩
theorem sees_hide {hd hd' : Addr → Bool} {H : Hp} (h : ∀ a, hd a = true → hd' a = true) : Sees (Hm hd' H) (Hm hd H) := fun a o e => by
  refine ⟨o, ?_, .rfl⟩
  have h1 := hm_not e
  rw [hm_of]
  · exact hm_le e
  · cases q : hd a with
    | false => rfl
    | true => rw [h a q] at h1; cases h1
theorem sees_le {hd : Addr → Bool} {H : Hp} : Sees (Hm hd H) H := fun _ o h => ⟨o, hm_le h, .rfl⟩
theorem hm_upd {hd : Addr → Bool} {H : Hp} {p : Addr} {o : HO} (h : hd p = true) : Hm hd (upd H p o) = Hm hd H := by
  funext a
  unfold Hm upd
  by_cases q : a = p
  · subst q; rw [if_pos h, if_pos h]
  · rw [if_neg q]
theorem hm_new {hd : Addr → Bool} {H : Hp} {p : Addr} {o : HO} (h : hd p = false) : Hm hd (upd H p o) = upd (Hm hd H) p o := by
  funext a
  unfold Hm upd
  by_cases q : a = p
  · subst q; rw [if_neg (by rw [h]; exact Bool.false_ne_true), if_pos _root_.rfl, if_pos _root_.rfl]
  · rw [if_neg q, if_neg q]

theorem sees_t {K : PySem.W.Frag} {G G' : Hp} {a : Addr} {xs : List V} (e : Sees G G') (h : SqT K G a xs) : SqT K G' a xs := by
  rcases h with (h | ⟨o, h⟩) | h
  · obtain ⟨o', h1, s⟩ := e a _ h
    rw [s.tup] at h1
    exact .inl (.inl h1)
  · obtain ⟨o', h1, s⟩ := e a _ h
    rw [s.ftup] at h1
    exact .inl (.inr ⟨o, h1⟩)
  · exact .inr h
theorem rd_sm {o o' : HO} (s : Sm o o') {u : HO} (hu : dic u = true) (h : o = u ∨ ∃ b, o = .frz b u) : o' = u ∨ ∃ b, o' = .frz b u := by
  rcases s with rfl | ⟨_, s2⟩
  · exact h
  · have e : thaw o' = u := by
      rw [← s2]
      rcases h with rfl | ⟨b, rfl⟩
      · cases o <;> first | rfl | cases hu
      · rfl
    cases o' with
    | frz b v => exact .inr ⟨b, by rw [show v = u from e]⟩
    | _ => exact .inl e
theorem sees_rd {G G' : Hp} {a : Addr} {u : HO} (e : Sees G G') (hu : dic u = true) (h : Rd G a u) : Rd G' a u := by
  rcases h with h | ⟨b, h⟩
  · obtain ⟨o', h1, s⟩ := e a _ h
    rcases rd_sm s hu (.inl rfl) with q | ⟨b, q⟩
    · subst q; exact .inl h1
    · subst q; exact .inr ⟨b, h1⟩
  · obtain ⟨o', h1, s⟩ := e a _ h
    rcases rd_sm s hu (.inr ⟨b, rfl⟩) with q | ⟨c, q⟩
    · subst q; exact .inl h1
    · subst q; exact .inr ⟨c, h1⟩

/-! ### a value stands for data -/
mutual
inductive Rp (K : PySem.W.Frag) (G : Hp) : V → Dt → Prop
  | non : Rp K G .non .non
  | bl (b : Bool) : Rp K G (.bl b) (.bl b)
  | int (i : Int) : Rp K G (.int i) (.int i)
  | str (x : Str) : Rp K G (.str x) (.str x)
  | lst {a : Addr} {xs : List V} {ds : List Dt} : G a = some (.lst xs) → RpAll K G xs ds → Rp K G (.ref a) (.lst ds)
  | tup {a : Addr} {xs : List V} {ds : List Dt} : SqT K G a xs → RpAll K G xs ds → Rp K G (.ref a) (.tup ds)
  | dk {a : Addr} {kvs : List (Key × V)} {ds : List (Key × Dt)} : Rd G a (.dK kvs) → RpK K G kvs ds → Rp K G (.ref a) (.dk ds)
  | dt {a : Addr} {kvs : List (List Key × V)} {ds : List (List Key × Dt)} : Rd G a (.dT kvs) → RpT K G kvs ds → Rp K G (.ref a) (.dt ds)
  | ob {a C dx : Addr} {vs : List (Str × V)} {ds : List (Str × Dt)} : G a = some (.ins C dx vs) → RpF K G vs ds → Rp K G (.ref a) (.ob C ds)
  | xo {f : Addr} {L : List (Addr × HO)} : (∀ p ∈ L, dic (thaw p.2) = false ∧ G p.1 = some p.2) → Rp K G (.ref f) (.xo f L)
inductive RpAll (K : PySem.W.Frag) (G : Hp) : List V → List Dt → Prop
  | nil : RpAll K G [] []
  | cons {v : V} {vs : List V} {d : Dt} {ds : List Dt} : Rp K G v d → RpAll K G vs ds → RpAll K G (v :: vs) (d :: ds)
inductive RpK (K : PySem.W.Frag) (G : Hp) : List (Key × V) → List (Key × Dt) → Prop
  | nil : RpK K G [] []
  | cons {k : Key} {v : V} {vs : List (Key × V)} {d : Dt} {ds : List (Key × Dt)} : Rp K G v d → RpK K G vs ds → RpK K G ((k, v) :: vs) ((k, d) :: ds)
inductive RpF (K : PySem.W.Frag) (G : Hp) : List (Str × V) → List (Str × Dt) → Prop
  | nil : RpF K G [] []
  | cons {k : Str} {v : V} {vs : List (Str × V)} {d : Dt} {ds : List (Str × Dt)} : Rp K G v d → RpF K G vs ds → RpF K G ((k, v) :: vs) ((k, d) :: ds)
inductive RpT (K : PySem.W.Frag) (G : Hp) : List (List Key × V) → List (List Key × Dt) → Prop
  | nil : RpT K G [] []
  | cons {k : List Key} {v : V} {vs : List (List Key × V)} {d : Dt} {ds : List (List Key × Dt)} : Rp K G v d → RpT K G vs ds → RpT K G ((k, v) :: vs) ((k, d) :: ds)
end
mutual
theorem Rp.mono {K : PySem.W.Frag} {G G' : Hp} (e : Sees G G') : ∀ {v : V} {d : Dt}, Rp K G v d → Rp K G' v d
  | _, _, .non => .non
  | _, _, .bl b => .bl b
  | _, _, .int i => .int i
  | _, _, .str x => .str x
  | _, _, .lst (xs := xs) h t => .lst (xs := xs) (by
      obtain ⟨o, h1, s⟩ := e _ _ h
      rw [s.lst] at h1
      exact h1) (RpAll.mono e t)
  | _, _, .tup h t => .tup (sees_t e h) (RpAll.mono e t)
  | _, _, .dk h t => .dk (sees_rd e rfl h) (RpK.mono e t)
  | _, _, .dt h t => .dt (sees_rd e rfl h) (RpT.mono e t)
  | _, _, .ob (C := C) (dx := dx) (vs := vs) h t => .ob (C := C) (dx := dx) (vs := vs) (by
      obtain ⟨o, h1, s⟩ := e _ _ h
      rw [s.plain rfl] at h1
      exact h1) (RpF.mono e t)
  | _, _, .xo h => .xo fun p hp => by
      obtain ⟨h1, h2⟩ := h p hp
      obtain ⟨o, h3, s⟩ := e _ _ h2
      rw [s.plain h1] at h3
      exact ⟨h1, h3⟩
theorem RpAll.mono {K : PySem.W.Frag} {G G' : Hp} (e : Sees G G') : ∀ {vs : List V} {ds : List Dt}, RpAll K G vs ds → RpAll K G' vs ds
  | _, _, .nil => .nil
  | _, _, .cons h t => .cons (Rp.mono e h) (RpAll.mono e t)
theorem RpK.mono {K : PySem.W.Frag} {G G' : Hp} (e : Sees G G') : ∀ {vs : List (Key × V)} {ds : List (Key × Dt)}, RpK K G vs ds → RpK K G' vs ds
  | _, _, .nil => .nil
  | _, _, .cons h t => .cons (Rp.mono e h) (RpK.mono e t)
theorem RpF.mono {K : PySem.W.Frag} {G G' : Hp} (e : Sees G G') : ∀ {vs : List (Str × V)} {ds : List (Str × Dt)}, RpF K G vs ds → RpF K G' vs ds
  | _, _, .nil => .nil
  | _, _, .cons h t => .cons (Rp.mono e h) (RpF.mono e t)
theorem RpT.mono {K : PySem.W.Frag} {G G' : Hp} (e : Sees G G') : ∀ {vs : List (List Key × V)} {ds : List (List Key × Dt)}, RpT K G vs ds → RpT K G' vs ds
  | _, _, .nil => .nil
  | _, _, .cons h t => .cons (Rp.mono e h) (RpT.mono e t)
end
end CC

namespace CC
open PySem PySem.Spec PyProof.Rows L2

/-! ### lists of data -/
section
variable {K : PySem.W.Frag} {G G' : Hp}
theorem RpAll.length : ∀ {vs : List V} {ds : List Dt}, RpAll K G vs ds → vs.length = ds.length
  | _, _, .nil => rfl
  | _, _, .cons _ t => congrArg (· + 1) (RpAll.length t)
theorem RpAll.get : ∀ {vs : List V} {ds : List Dt} {i : Nat} {d : Dt}, RpAll K G vs ds → ds[i]? = some d → ∃ v, vs[i]? = some v ∧ Rp K G v d
  | _, _, 0, _, .cons h _, e => ⟨_, rfl, by rw [show _ = _ from Option.some.inj e] at h; exact h⟩
  | _, _, i + 1, _, .cons _ t, e => RpAll.get (i := i) t e
theorem RpAll.getV : ∀ {vs : List V} {ds : List Dt} {i : Nat} {v : V}, RpAll K G vs ds → vs[i]? = some v → ∃ d, ds[i]? = some d ∧ Rp K G v d
  | _, _, 0, _, .cons h _, e => ⟨_, rfl, by rw [show _ = _ from Option.some.inj e] at h; exact h⟩
  | _, _, i + 1, _, .cons _ t, e => RpAll.getV (i := i) t e
theorem RpAll.append : ∀ {vs ws : List V} {ds es : List Dt}, RpAll K G vs ds → RpAll K G ws es → RpAll K G (vs ++ ws) (ds ++ es)
  | _, _, _, _, .nil, s => s
  | _, _, _, _, .cons h t, s => .cons h (RpAll.append t s)
theorem RpAll.take : ∀ {vs : List V} {ds : List Dt} (n : Nat), RpAll K G vs ds → RpAll K G (vs.take n) (ds.take n)
  | _, _, 0, _ => .nil
  | _, _, _ + 1, .nil => .nil
  | _, _, n + 1, .cons h t => .cons h (RpAll.take n t)
theorem RpAll.drop : ∀ {vs : List V} {ds : List Dt} (n : Nat), RpAll K G vs ds → RpAll K G (vs.drop n) (ds.drop n)
  | _, _, 0, h => h
  | _, _, _ + 1, .nil => .nil
  | _, _, n + 1, .cons _ t => RpAll.drop n t
theorem RpAll.set {v : V} {d : Dt} (h : Rp K G v d) : ∀ {vs : List V} {ds : List Dt} (n : Nat), RpAll K G vs ds → RpAll K G (vs.set n v) (ds.set n d)
  | _, _, _, .nil => .nil
  | _, _, 0, .cons _ t => .cons h t
  | _, _, n + 1, .cons q t => .cons q (RpAll.set h n t)
theorem RpAll.rev : ∀ {vs : List V} {ds : List Dt}, RpAll K G vs ds → RpAll K G vs.reverse ds.reverse
  | _, _, .nil => .nil
  | _, _, .cons h t => by
    rw [List.reverse_cons, List.reverse_cons]
    exact (RpAll.rev t).append (.cons h .nil)
theorem RpAll.rep {vs : List V} {ds : List Dt} (h : RpAll K G vs ds) : ∀ n : Nat, RpAll K G (List.replicate n vs).flatten (List.replicate n ds).flatten
  | 0 => .nil
  | n + 1 => by
    rw [List.replicate_succ, List.replicate_succ, List.flatten_cons, List.flatten_cons]
    exact h.append (RpAll.rep h n)
theorem RpAll.ints : ∀ {vs : List V} {ns : List Int}, RpAll K G vs (ns.map Dt.int) → vs = ns.map V.int
  | _, [], .nil => rfl
  | _, n :: r, .cons h t => by
    cases h
    rw [RpAll.ints t]
    rfl
theorem RpAll.ofInts : ∀ (ns : List Int), RpAll K G (ns.map V.int) (ns.map Dt.int)
  | [] => .nil
  | n :: r => .cons (.int n) (RpAll.ofInts r)
theorem RpAll.bls : ∀ {vs : List V} {ns : List Bool}, RpAll K G vs (ns.map Dt.bl) → vs = ns.map V.bl
  | _, [], .nil => rfl
  | _, n :: r, .cons h t => by
    cases h
    rw [RpAll.bls t]
    rfl
theorem RpAll.strs : ∀ {vs : List V} {ns : List Str}, RpAll K G vs (ns.map Dt.str) → vs = ns.map V.str
  | _, [], .nil => rfl
  | _, n :: r, .cons h t => by
    cases h
    rw [RpAll.strs t]
    rfl
theorem RpAll.ofStrs : ∀ (ns : List Str), RpAll K G (ns.map V.str) (ns.map Dt.str)
  | [] => .nil
  | n :: r => .cons (.str n) (RpAll.ofStrs r)
end

/-! ### what may change, and what holds of it -/
/-- things told by what is true of them alone: these never change -/
def ext : HO → Bool
  | .ext _ => true
  | _ => false
structure Cn where
  K : PySem.W.Frag
  mu : Addr → Bool
  B : (Addr → Bool) → Hp → Prop
  stab : ∀ hd hd' H H', Sees (Hm hd H) (Hm hd' H') → (∀ a o, (mu a = true ∨ ext o = true) → H a = some o → H' a = some o) → B hd H → B hd' H'
def none0 : Addr → Bool := fun _ => false
theorem Cn.putS (c : Cn) {hd hd' : Addr → Bool} {H : Hp} {o : Addr} {u v : HO} (e : Sees (Hm hd H) (Hm hd' (upd H o u))) (hm : c.mu o = false) (hv : H o = some v) (hx : ext v = false) (b : c.B hd H) : c.B hd' (upd H o u) := c.stab hd hd' H _ e (fun a x h q => by
  rw [upd_ne (fun z => by
    subst z
    rcases h with h | h
    · rw [hm] at h; cases h
    · rw [hv] at q
      cases q
      rw [hx] at h; cases h)]
  exact q) b
theorem Cn.put (c : Cn) {hd : Addr → Bool} {H : Hp} {o : Addr} {u v : HO} (ho : hd o = true) (hm : c.mu o = false) (hv : H o = some v) (hx : ext v = false) (b : c.B hd H) : c.B hd (upd H o u) := c.putS (by rw [hm_upd ho]; exact Sees.refl) hm hv hx b
theorem Cn.unhide (c : Cn) {hd hd' : Addr → Bool} {H : Hp} (h : ∀ a, hd a = true → hd' a = true) (b : c.B hd' H) : c.B hd H := c.stab hd' hd H H (sees_hide h) (fun _ _ _ q => q) b
/-- nothing changes -/
abbrev Cn.pure (K : PySem.W.Frag) : Cn := ⟨K, none0, fun _ _ => True, fun _ _ _ _ _ _ _ => trivial⟩

/-! ### slots -/
inductive Sl where
  | un | im (d : Dt) | ac (ds : List Dt) | ak (kvs : List (Key × Dt)) | aT (kvs : List (List Key × Dt)) | rw (v : V) | iK (kvs : List (Key × Dt)) | dl (o : Addr) (kvs : List (Key × Dt))
def SlOk (c : Cn) (hd : Addr → Bool) (H : Hp) : Option V → Sl → Prop
  | _, .un => True
  | some v, .im d => Rp c.K (Hm hd H) v d
  | some (.ref o), .ac ds => hd o = true ∧ c.mu o = false ∧ ∃ vs, H o = some (.lst vs) ∧ RpAll c.K (Hm hd H) vs ds
  | some (.ref o), .ak ds => hd o = true ∧ c.mu o = false ∧ ∃ vs, H o = some (.dK vs) ∧ RpK c.K (Hm hd H) vs ds
  | some (.ref o), .aT ds => hd o = true ∧ c.mu o = false ∧ ∃ vs, H o = some (.dT vs) ∧ RpT c.K (Hm hd H) vs ds
  | some v, .rw u => v = u
  | some (.ref o), .iK ds => hd o = false ∧ c.mu o = false ∧ ∃ vs, H o = some (.dK vs) ∧ RpK c.K (Hm hd H) vs ds
  | some v, .dl o ds => v = .ref o ∧ Rp c.K (Hm hd H) (.ref o) (.dk ds)
  | _, _ => False
def owns : Sl → Bool
  | .ac _ => true
  | .ak _ => true
  | .aT _ => true
  | _ => false
inductive SlAll (c : Cn) (hd : Addr → Bool) (H : Hp) : List (Option V) → List Sl → Prop
  | nil : SlAll c hd H [] []
  | cons {o : Option V} {os : List (Option V)} {s : Sl} {ss : List Sl} : SlOk c hd H o s → SlAll c hd H os ss → SlAll c hd H (o :: os) (s :: ss)
structure SV (c : Cn) (hd : Addr → Bool) (H : Hp) (σ : L2.St) (ρ : List Sl) : Prop where
  dom : ∀ a, hd a = true → H a ≠ none
  muh : ∀ a, c.mu a = true → hd a = true
  inv : c.B hd H
  slots : SlAll c hd H σ ρ
def ownAt (σ : L2.St) (ρ : List Sl) (i : Nat) (o : Addr) : Prop := σ[i]? = some (some (.ref o)) ∧ ∃ s, ρ[i]? = some s ∧ owns s = true
structure SD (c : Cn) (hid hd : Addr → Bool) (H0 H : Hp) (σ : L2.St) (ρ : List Sl) : Prop extends SV c hd H σ ρ where
  sub : ∀ a, hid a = true → hd a = true
  ext : Ex c.mu H0 H
  new : ∀ a, hd a = true → hid a = false → H0 a = none
  own : ∀ i j o, ownAt σ ρ i o → ownAt σ ρ j o → i = j
  ownh : ∀ i o, ownAt σ ρ i o → hid o = false
def hide (hd : Addr → Bool) (o : Addr) : Addr → Bool := fun a => hd a || decide (a = o)
theorem hide_self {hd : Addr → Bool} {o : Addr} : hide hd o o = true := by unfold hide; rw [decide_eq_true rfl, Bool.or_true]
theorem hide_of {hd : Addr → Bool} {o a : Addr} (h : hd a = true) : hide hd o a = true := by unfold hide; rw [h, Bool.true_or]
theorem hide_ne {hd : Addr → Bool} {o a : Addr} (h : a ≠ o) : hide hd o a = hd a := by unfold hide; rw [decide_eq_false h, Bool.or_false]
theorem hide_inv {hd : Addr → Bool} {o a : Addr} (h : hide hd o a = true) : hd a = true ∨ a = o := by
  by_cases q : a = o
  · exact .inr q
  · rw [hide_ne q] at h; exact .inl h

section
variable {c : Cn} {hid hd hd' : Addr → Bool} {H0 H H' : Hp} {σ : L2.St} {ρ : List Sl}
theorem SlAll.get : ∀ {σ : L2.St} {ρ : List Sl} {i : Nat} {s : Sl}, SlAll c hd H σ ρ → ρ[i]? = some s → ∃ o, σ[i]? = some o ∧ SlOk c hd H o s
  | _, _, 0, _, .cons h _, e => ⟨_, rfl, by rw [show _ = _ from Option.some.inj e] at h; exact h⟩
  | _, _, i + 1, _, .cons _ t, e => SlAll.get (i := i) t e
theorem SlAll.set {o : Option V} {s : Sl} (h : SlOk c hd H o s) : ∀ {σ : L2.St} {ρ : List Sl} (i : Nat), SlAll c hd H σ ρ → SlAll c hd H (σ.set i o) (ρ.set i s)
  | _, _, _, .nil => .nil
  | _, _, 0, .cons _ t => .cons h t
  | _, _, n + 1, .cons q t => .cons q (SlAll.set h n t)
theorem SlAll.imp (h : ∀ o s, SlOk c hd H o s → SlOk c hd' H' o s) : ∀ {σ : L2.St} {ρ : List Sl}, SlAll c hd H σ ρ → SlAll c hd' H' σ ρ
  | _, _, .nil => .nil
  | _, _, .cons q t => .cons (h _ _ q) (SlAll.imp h t)
/-- a slot's word under a change that leaves what is seen, and the owned things -/
theorem SlOk.mono (e : Sees (Hm hd H) (Hm hd' H')) (hs : ∀ a, hd a = true → hd' a = true) (hn : ∀ a, hd a = false → H a ≠ none → hd' a = false) (ho : ∀ a o, c.mu a = false → H a = some o → H' a = some o) (o : Option V) (s : Sl) (h : SlOk c hd H o s) : SlOk c hd' H' o s := by
  cases s with
  | un => unfold SlOk; split <;> trivial
  | im d =>
    cases o with
    | none => exact h.elim
    | some v => exact Rp.mono e h
  | rw u =>
    cases o with
    | none => exact h.elim
    | some v => exact h
  | dl q ds =>
    cases o with
    | none => exact h.elim
    | some v => exact ⟨h.1, Rp.mono e h.2⟩
  | ac ds =>
    cases o with
    | none => exact h.elim
    | some v =>
      cases v with
      | ref q =>
        obtain ⟨h1, h2, vs, h3, h4⟩ := h
        exact ⟨hs q h1, h2, vs, ho q _ h2 h3, RpAll.mono e h4⟩
      | _ => exact h.elim
  | ak ds =>
    cases o with
    | none => exact h.elim
    | some v =>
      cases v with
      | ref q =>
        obtain ⟨h1, h2, vs, h3, h4⟩ := h
        exact ⟨hs q h1, h2, vs, ho q _ h2 h3, RpK.mono e h4⟩
      | _ => exact h.elim
  | aT ds =>
    cases o with
    | none => exact h.elim
    | some v =>
      cases v with
      | ref q =>
        obtain ⟨h1, h2, vs, h3, h4⟩ := h
        exact ⟨hs q h1, h2, vs, ho q _ h2 h3, RpT.mono e h4⟩
      | _ => exact h.elim
  | iK ds =>
    cases o with
    | none => exact h.elim
    | some v =>
      cases v with
      | ref q =>
        obtain ⟨h1, h2, vs, h3, h4⟩ := h
        exact ⟨hn q h1 (by rw [h3]; exact fun z => nomatch z), h2, vs, ho q _ h2 h3, RpK.mono e h4⟩
      | _ => exact h.elim
end
end CC

namespace CC
open PySem PySem.Spec PyProof.Rows L2

section
variable {c : Cn} {hid hd hd' : Addr → Bool} {H0 H H' : Hp} {σ : L2.St} {ρ : List Sl}
theorem Ex.up (e : Ex none0 H H') : Ex c.mu H H' := e.weak (fun _ h => nomatch h)
theorem Cn.keep0 (e : Ex none0 H H') (b : c.B hd H) : c.B hd H' := c.stab hd hd H H' (e.sees fun _ h => nomatch h) (fun a o _ h => e.keep a o rfl h) b
theorem SV.go (v : SV c hd H σ ρ) (e : Ex c.mu H H') (b : c.B hd H') : SV c hd H' σ ρ :=
  ⟨fun a h => e.dom a (v.dom a h), v.muh, b, v.slots.imp (SlOk.mono (e.sees v.muh) (fun _ h => h) (fun _ h _ => h) (fun a o hm h => e.keep a o hm h))⟩
theorem SV.go0 (v : SV c hd H σ ρ) (e : Ex none0 H H') : SV c hd H' σ ρ := v.go e.up (c.keep0 e v.inv)
theorem sees_new {mu : Addr → Bool} {o : Addr} (e : Ex mu H H') (hm : ∀ a, mu a = true → hd a = true) (ho : H o = none) : Sees (Hm hd H) (Hm (hide hd o) H') := fun a u h => by
  have h1 := hm_not h
  have h2 := hm_le h
  have na : a ≠ o := ne_of_none h2 ho
  refine ⟨u, ?_, .rfl⟩
  rw [hm_of (by rw [hide_ne na]; exact h1)]
  exact e.keep a u (by
    cases q : mu a with
    | false => rfl
    | true => rw [hm a q] at h1; cases h1) h2
/-- a new thing is hidden -/
theorem Cn.keepN {o : Addr} (e : Ex none0 H H') (ho : H o = none) (b : c.B hd H) : c.B (hide hd o) H' := c.stab hd _ H H' (sees_new e (fun _ h => nomatch h) ho) (fun a x _ h => e.keep a x rfl h) b
theorem SV.hide (v : SV c hd H σ ρ) {o : Addr} (e : Ex c.mu H H') (b : c.B (hide hd o) H') (ho : H o = none) (h' : H' o ≠ none) : SV c (hide hd o) H' σ ρ :=
  ⟨fun a h => by
    rcases hide_inv h with h | h
    · exact e.dom a (v.dom a h)
    · subst h; exact h', fun a h => hide_of (v.muh a h), b, v.slots.imp (SlOk.mono (sees_new e v.muh ho) (fun _ h => hide_of h) (fun a h hn => by rw [hide_ne (fun z => by subst z; exact hn ho)]; exact h) (fun a o hm h => e.keep a o hm h))⟩
theorem SV.set (v : SV c hd H σ ρ) {o : Option V} {s : Sl} (i : Nat) (h : SlOk c hd H o s) : SV c hd H (σ.set i o) (ρ.set i s) := ⟨v.dom, v.muh, v.inv, v.slots.set h i⟩
theorem fresh_hd (dom : ∀ a, hd a = true → H a ≠ none) {p : Addr} (h : H p = none) : hd p = false := by
  cases q : hd p with
  | false => rfl
  | true => exact absurd h (dom p q)
end

/-! ### judgements -/
/-- what is known behind an evaluation -/
def Kv (c : Cn) (hd : Addr → Bool) (H : Hp) (Q : Dt → Prop) (Qh : VK) : Prop := ∀ d v H', Q d → Ex c.mu H H' → c.B hd H' → Rp c.K (Hm hd H') v d → Qh v H'
def Kn (c : Cn) (hd : Addr → Bool) (H : Hp) (Q : List Dt → Prop) (Qh : VK) : Prop := ∀ ds o vs H', Q ds → Ex c.mu H H' → c.B (hide hd o) H' → H o = none → H' o = some (.lst vs) → RpAll c.K (Hm (hide hd o) H') vs ds → Qh (.ref o) H'
def EV (c : Cn) (te : TE) (ρ : List Sl) (Q : Dt → Prop) : Prop := ∀ hd H σ, SV c hd H σ ρ → ∀ Qh : VK, Kv c hd H Q Qh → te σ H Qh
def EN (c : Cn) (te : TE) (ρ : List Sl) (Q : List Dt → Prop) : Prop := ∀ hd H σ, SV c hd H σ ρ → ∀ Qh : VK, Kn c hd H Q Qh → te σ H Qh
def EVT (c : Cn) (tt : TT) (ρ : List Sl) (Q : Bool → Prop) : Prop := ∀ hd H σ, SV c hd H σ ρ → ∀ Qh : Bool → Hp → Prop, (∀ b H', Q b → Ex c.mu H H' → c.B hd H' → Qh b H') → tt σ H Qh
def EVA (c : Cn) (ta : TA) (ρ : List Sl) (Q : List Dt → Prop) : Prop := ∀ hd H σ, SV c hd H σ ρ → ∀ Qh : List V → Hp → Prop, (∀ ds vs H', Q ds → Ex c.mu H H' → c.B hd H' → RpAll c.K (Hm hd H') vs ds → Qh vs H') → ta σ H Qh
def EVO (c : Cn) (to : TO) (ρ : List Sl) (Q : Option Int → Prop) : Prop := ∀ hd H σ, SV c hd H σ ρ → ∀ Qh : Option Int → Hp → Prop, (∀ o H', Q o → Ex c.mu H H' → c.B hd H' → Qh o H') → to σ H Qh
/-- operations on values -/
def R2J (c : Cn) (r : R2) (d1 d2 : Dt) (Q : Dt → Prop) : Prop := ∀ hd H x y, (∀ a, hd a = true → H a ≠ none) → (∀ a, c.mu a = true → hd a = true) → c.B hd H → Rp c.K (Hm hd H) x d1 → Rp c.K (Hm hd H) y d2 → ∀ Qh : VK, Kv c hd H Q Qh → r x y H Qh
def R2N (c : Cn) (r : R2) (d1 d2 : Dt) (Q : List Dt → Prop) : Prop := ∀ hd H x y, (∀ a, hd a = true → H a ≠ none) → (∀ a, c.mu a = true → hd a = true) → c.B hd H → Rp c.K (Hm hd H) x d1 → Rp c.K (Hm hd H) y d2 → ∀ Qh : VK, Kn c hd H Q Qh → r x y H Qh
def RCJ (c : Cn) (r : List V → Hp → VK → Prop) (ds : List Dt) (Q : Dt → Prop) : Prop := ∀ hd H vs, (∀ a, hd a = true → H a ≠ none) → (∀ a, c.mu a = true → hd a = true) → c.B hd H → RpAll c.K (Hm hd H) vs ds → ∀ Qh : VK, Kv c hd H Q Qh → r vs H Qh
def RCN (c : Cn) (r : List V → Hp → VK → Prop) (ds : List Dt) (Q : List Dt → Prop) : Prop := ∀ hd H vs, (∀ a, hd a = true → H a ≠ none) → (∀ a, c.mu a = true → hd a = true) → c.B hd H → RpAll c.K (Hm hd H) vs ds → ∀ Qh : VK, Kn c hd H Q Qh → r vs H Qh

section
variable {c : Cn} {ρ : List Sl} {ta tb te tx : TE} {t u : TT} {Q : Dt → Prop}
theorem EV.imp {Q' : Dt → Prop} (h : EV c te ρ Q) (k : ∀ d, Q d → Q' d) : EV c te ρ Q' := fun hd H σ v Qh q => h hd H σ v Qh fun d x H' hq => q d x H' (k d hq)
theorem EN.imp {Q Q' : List Dt → Prop} (h : EN c te ρ Q) (k : ∀ d, Q d → Q' d) : EN c te ρ Q' := fun hd H σ v Qh q => h hd H σ v Qh fun d o vs H' hq => q d o vs H' (k d hq)
theorem EVT.imp {Q Q' : Bool → Prop} (h : EVT c t ρ Q) (k : ∀ d, Q d → Q' d) : EVT c t ρ Q' := fun hd H σ v Qh q => h hd H σ v Qh fun b H' hq => q b H' (k b hq)
/-- a new list is data -/
theorem kn_kv {hd : Addr → Bool} {H : Hp} {Q : Dt → Prop} {Qh : VK} (dom : ∀ a, hd a = true → H a ≠ none) (q : Kv c hd H Q Qh) : Kn c hd H (fun ds => Q (.lst ds)) Qh := fun ds o vs H' hq e b ho h1 h2 =>
  q (.lst ds) (.ref o) H' hq e (c.unhide (fun _ h => hide_of h) b) (.lst (by rw [hm_of (fresh_hd dom ho)]; exact h1) (h2.mono (sees_hide fun _ h => hide_of h)))
theorem EN.ev (h : EN c te ρ fun ds => Q (.lst ds)) : EV c te ρ Q := fun hd H σ v Qh q => h hd H σ v Qh (kn_kv v.dom q)
theorem R2N.j {r : R2} {d1 d2 : Dt} (h : R2N c r d1 d2 fun ds => Q (.lst ds)) : R2J c r d1 d2 Q := fun hd H x y dom mh b hx hy Qh q => h hd H x y dom mh b hx hy Qh (kn_kv dom q)
theorem RCN.j {r : List V → Hp → VK → Prop} {ds : List Dt} (h : RCN c r ds fun ds => Q (.lst ds)) : RCJ c r ds Q := fun hd H vs dom mh b hv Qh q => h hd H vs dom mh b hv Qh (kn_kv dom q)

theorem ev_var {i : Nat} {d : Dt} (h : ρ[i]? = some (.im d)) (k : Q d) : EV c (tVar i) ρ Q := fun hd H σ v Qh q => by
  obtain ⟨o, h1, h2⟩ := v.slots.get h
  cases o with
  | none => exact h2.elim
  | some x => exact ⟨x, h1, q d x H k .refl v.inv h2⟩
theorem ev_int {i : Int} (k : Q (.int i)) : EV c (tC (.int i)) ρ Q := fun hd H σ v Qh q => q _ _ H k .refl v.inv (.int i)
theorem ev_str {i : Str} (k : Q (.str i)) : EV c (tC (.str i)) ρ Q := fun hd H σ v Qh q => q _ _ H k .refl v.inv (.str i)
theorem ev_bl {i : Bool} (k : Q (.bl i)) : EV c (tC (.bl i)) ρ Q := fun hd H σ v Qh q => q _ _ H k .refl v.inv (.bl i)
theorem ev_non (k : Q .non) : EV c (tC .non) ρ Q := fun hd H σ v Qh q => q _ _ H k .refl v.inv .non
/-- a constant that the written part holds -/
theorem ev_con {x : V} {d : Dt} (h : ∀ G, Rp c.K G x d) (k : Q d) : EV c (tC x) ρ Q := fun hd H σ v Qh q => q _ _ H k .refl v.inv (h _)
theorem ev_op {r : R2} (h : EV c ta ρ fun d1 => EV c tb ρ fun d2 => R2J c r d1 d2 Q) : EV c (tOp r ta tb) ρ Q := fun hd H σ v Qh q =>
  h hd H σ v _ fun d1 x H1 h1 e1 b1 r1 => h1 hd H1 σ (v.go e1 b1) _ fun d2 y H2 h2 e2 b2 r2 =>
    h2 hd H2 x y (fun a h => e2.dom a (e1.dom a (v.dom a h))) v.muh b2 (r1.mono (e2.sees v.muh)) r2 Qh fun d z H3 hq e3 => q d z H3 hq ((e1.trans e2).trans e3)
theorem en_op {r : R2} {Q : List Dt → Prop} (h : EV c ta ρ fun d1 => EV c tb ρ fun d2 => R2N c r d1 d2 Q) : EN c (tOp r ta tb) ρ Q := fun hd H σ v Qh q =>
  h hd H σ v _ fun d1 x H1 h1 e1 b1 r1 => h1 hd H1 σ (v.go e1 b1) _ fun d2 y H2 h2 e2 b2 r2 =>
    h2 hd H2 x y (fun a h => e2.dom a (e1.dom a (v.dom a h))) v.muh b2 (r1.mono (e2.sees v.muh)) r2 Qh fun ds o vs H3 hq e3 b3 ho => q ds o vs H3 hq ((e1.trans e2).trans e3) b3 ((e1.trans e2).fresh ho)
theorem ev_un {r : V → Hp → VK → Prop} (h : EV c ta ρ fun d1 => RCJ c (fun vs H Qh => ∃ x, vs = [x] ∧ r x H Qh) [d1] Q) : EV c (tUn r ta) ρ Q := fun hd H σ v Qh q =>
  h hd H σ v _ fun d1 x H1 h1 e1 b1 r1 => by
    obtain ⟨y, hy, z⟩ := h1 hd H1 [x] (fun a h => e1.dom a (v.dom a h)) v.muh b1 (.cons r1 .nil) Qh fun d z H3 hq e3 => q d z H3 hq (e1.trans e3)
    cases hy
    exact z
theorem ev_if (h : EVT c t ρ fun b => (b = true → EV c ta ρ Q) ∧ (b = false → EV c tb ρ Q)) : EV c (tIf t ta tb) ρ Q := fun hd H σ v Qh q =>
  h hd H σ v _ fun b H1 h1 e1 b1 => by
    cases b with
    | true =>
      show ta σ H1 Qh
      exact h1.1 rfl hd H1 σ (v.go e1 b1) Qh fun d z H3 hq e3 => q d z H3 hq (e1.trans e3)
    | false =>
      show tb σ H1 Qh
      exact h1.2 rfl hd H1 σ (v.go e1 b1) Qh fun d z H3 hq e3 => q d z H3 hq (e1.trans e3)
theorem en_if {Q : List Dt → Prop} (h : EVT c t ρ fun b => (b = true → EN c ta ρ Q) ∧ (b = false → EN c tb ρ Q)) : EN c (tIf t ta tb) ρ Q := fun hd H σ v Qh q =>
  h hd H σ v _ fun b H1 h1 e1 b1 => by
    cases b with
    | true =>
      show ta σ H1 Qh
      exact h1.1 rfl hd H1 σ (v.go e1 b1) Qh fun ds o vs H3 hq e3 b3 ho => q ds o vs H3 hq (e1.trans e3) b3 (e1.fresh ho)
    | false =>
      show tb σ H1 Qh
      exact h1.2 rfl hd H1 σ (v.go e1 b1) Qh fun ds o vs H3 hq e3 b3 ho => q ds o vs H3 hq (e1.trans e3) b3 (e1.fresh ho)
/-! tests -/
def BlJ (Q : Bool → Prop) : Dt → Prop
  | .bl b => Q b
  | _ => False
theorem rp_bl {K : PySem.W.Frag} {G : Hp} {x : V} {b : Bool} (h : Rp K G x (.bl b)) : x = .bl b := by cases h; rfl
theorem rp_int {K : PySem.W.Frag} {G : Hp} {x : V} {b : Int} (h : Rp K G x (.int b)) : x = .int b := by cases h; rfl
theorem rp_str {K : PySem.W.Frag} {G : Hp} {x : V} {b : Str} (h : Rp K G x (.str b)) : x = .str b := by cases h; rfl
theorem rp_non {K : PySem.W.Frag} {G : Hp} {x : V} (h : Rp K G x .non) : x = .non := by cases h; rfl
theorem et_test {Q : Bool → Prop} (h : EV c te ρ (BlJ Q)) : EVT c (tTest te) ρ Q := fun hd H σ v Qh q => h hd H σ v _ fun d x H1 h1 e1 b1 r1 => by
  cases d with
  | bl b => exact ⟨b, rp_bl r1, q b H1 h1 e1 b1⟩
  | _ => exact h1.elim
theorem et_B {Q : Bool → Prop} (h : EV c te ρ (BlJ Q)) : EVT c (tB te) ρ Q := fun hd H σ v Qh q => h hd H σ v _ fun d x H1 h1 e1 b1 r1 => by
  cases d with
  | bl b => exact ⟨b, rp_bl r1, q b H1 h1 e1 b1⟩
  | _ => exact h1.elim
theorem et_and {Q : Bool → Prop} (h : EVT c t ρ fun a => (a = true → EVT c u ρ Q) ∧ (a = false → Q false)) : EVT c (tAnd t u) ρ Q := fun hd H σ v Qh q => h hd H σ v _ fun b H1 h1 e1 b1 => by
  cases b with
  | true =>
    show u σ H1 Qh
    exact h1.1 rfl hd H1 σ (v.go e1 b1) Qh fun b H2 hq e2 => q b H2 hq (e1.trans e2)
  | false => exact q false H1 (h1.2 rfl) e1 b1
theorem et_or {Q : Bool → Prop} (h : EVT c t ρ fun a => (a = false → EVT c u ρ Q) ∧ (a = true → Q true)) : EVT c (tOr t u) ρ Q := fun hd H σ v Qh q => h hd H σ v _ fun b H1 h1 e1 b1 => by
  cases b with
  | false =>
    show u σ H1 Qh
    exact h1.1 rfl hd H1 σ (v.go e1 b1) Qh fun b H2 hq e2 => q b H2 hq (e1.trans e2)
  | true => exact q true H1 (h1.2 rfl) e1 b1
theorem et_not {Q : Bool → Prop} (h : EVT c t ρ fun a => Q (!a)) : EVT c (tNot t) ρ Q := fun hd H σ v Qh q => h hd H σ v _ fun b H1 h1 e1 b1 => q _ H1 h1 e1 b1
theorem ev_andV (h : EV c ta ρ (BlJ fun a => (a = true → EV c tb ρ Q) ∧ (a = false → Q (.bl false)))) : EV c (tAndV ta tb) ρ Q := fun hd H σ v Qh q => h hd H σ v _ fun d x H1 h1 e1 b1 r1 => by
  cases d with
  | bl b =>
    refine ⟨b, rp_bl r1, ?_⟩
    cases b with
    | true =>
      show tb σ H1 Qh
      exact h1.1 rfl hd H1 σ (v.go e1 b1) Qh fun d z H2 hq e2 => q d z H2 hq (e1.trans e2)
    | false => exact q _ _ H1 (h1.2 rfl) e1 b1 (.bl false)
  | _ => exact h1.elim
theorem ev_orV (h : EV c ta ρ (BlJ fun a => (a = false → EV c tb ρ Q) ∧ (a = true → Q (.bl true)))) : EV c (tOrV ta tb) ρ Q := fun hd H σ v Qh q => h hd H σ v _ fun d x H1 h1 e1 b1 r1 => by
  cases d with
  | bl b =>
    refine ⟨b, rp_bl r1, ?_⟩
    cases b with
    | false =>
      show tb σ H1 Qh
      exact h1.1 rfl hd H1 σ (v.go e1 b1) Qh fun d z H2 hq e2 => q d z H2 hq (e1.trans e2)
    | true => exact q _ _ H1 (h1.2 rfl) e1 b1 (.bl true)
  | _ => exact h1.elim
theorem ev_notV (h : EV c ta ρ (BlJ fun a => Q (.bl (!a)))) : EV c (tNotV ta) ρ Q := fun hd H σ v Qh q => h hd H σ v _ fun d x H1 h1 e1 b1 r1 => by
  cases d with
  | bl b => exact ⟨b, rp_bl r1, q _ _ H1 h1 e1 b1 (.bl _)⟩
  | _ => exact h1.elim
theorem ev_chain {r r' : R2} (h : EV c ta ρ fun d1 => EV c tb ρ fun d2 => R2J c r d1 d2 (BlJ fun k => (k = true → EV c te ρ fun d3 => R2J c r' d2 d3 Q) ∧ (k = false → Q (.bl false)))) : EV c (tChain r r' ta tb te) ρ Q := fun hd H σ v Qh q =>
  h hd H σ v _ fun d1 x H1 h1 e1 b1 r1 => h1 hd H1 σ (v.go e1 b1) _ fun d2 y H2 h2 e2 b2 r2 => by
    refine h2 hd H2 x y (fun a h => e2.dom a (e1.dom a (v.dom a h))) v.muh b2 (r1.mono (e2.sees v.muh)) r2 _ fun d z H3 hq e3 b3 r3 => ?_
    cases d with
    | bl k =>
      refine ⟨k, rp_bl r3, ?_⟩
      have e13 := (e1.trans e2).trans e3
      cases k with
      | true =>
        show te σ H3 _
        exact hq.1 rfl hd H3 σ (v.go e13 b3) _ fun d3 w' H4 h4 e4 b4 r4 => h4 hd H4 y w' (fun a h => e4.dom a (e13.dom a (v.dom a h))) v.muh b4 ((r2.mono (e3.sees v.muh)).mono (e4.sees v.muh)) r4 Qh fun d z H5 hq e5 => q d z H5 hq ((e13.trans e4).trans e5)
      | false => exact q _ _ H3 (hq.2 rfl) e13 b3 (.bl false)
    | _ => exact hq.elim
/-! arguments, displays, calls -/
theorem ea_nil {Q : List Dt → Prop} (k : Q []) : EVA c tNil ρ Q := fun hd H σ v Qh q => q [] [] H k .refl v.inv .nil
theorem ea_cons {Q : List Dt → Prop} {tr : TA} (h : EV c ta ρ fun d => EVA c tr ρ fun ds => Q (d :: ds)) : EVA c (tCons ta tr) ρ Q := fun hd H σ v Qh q =>
  h hd H σ v _ fun d x H1 h1 e1 b1 r1 => h1 hd H1 σ (v.go e1 b1) _ fun ds vs H2 h2 e2 b2 r2 => q (d :: ds) (x :: vs) H2 h2 (e1.trans e2) b2 (.cons (r1.mono (e2.sees v.muh)) r2)
theorem en_lst {Q : List Dt → Prop} {ta : TA} (h : EVA c ta ρ fun ds => ds.length ≤ 100000 ∧ Q ds) : EN c (tLst ta) ρ Q := fun hd H σ v Qh q =>
  h hd H σ v _ fun ds vs H1 h1 e1 b1 r1 => ⟨by rw [r1.length]; exact Evl.sz_of h1.1, fun p hp => q ds p vs (upd H1 p (.lst vs)) h1.2 (e1.trans (.new hp)) (c.keepN (.new hp) hp b1) (e1.fresh hp) upd_same
    (r1.mono (sees_new (.new hp (mu := none0)) (fun _ h => nomatch h) hp))⟩
theorem ev_tup {ta : TA} (h : EVA c ta ρ fun ds => ds.length ≤ 100000 ∧ Q (.tup ds)) : EV c (tTup ta) ρ Q := fun hd H σ v Qh q =>
  h hd H σ v _ fun ds vs H1 h1 e1 b1 r1 => ⟨by rw [r1.length]; exact Evl.sz_of h1.1, fun p hp => by
    have dom1 : ∀ a, hd a = true → H1 a ≠ none := fun a h => e1.dom a (v.dom a h)
    refine q (.tup ds) (.ref p) (upd H1 p (.tup vs)) h1.2 (e1.trans (.new hp)) (c.keep0 (.new hp) b1) (.tup (xs := vs) (.inl (.inl ?_)) (r1.mono ((Ex.new hp (mu := none0)).sees (fun _ h => nomatch h))))
    rw [hm_of (fresh_hd dom1 hp), upd_same]⟩
theorem ev_cb {r : List V → Hp → VK → Prop} {ta : TA} (h : EVA c ta ρ fun ds => RCJ c r ds Q) : EV c (tCB r ta) ρ Q := fun hd H σ v Qh q =>
  h hd H σ v _ fun ds vs H1 h1 e1 b1 r1 => h1 hd H1 vs (fun a h => e1.dom a (v.dom a h)) v.muh b1 r1 Qh fun d z H2 hq e2 => q d z H2 hq (e1.trans e2)
theorem en_cb {r : List V → Hp → VK → Prop} {ta : TA} {Q : List Dt → Prop} (h : EVA c ta ρ fun ds => RCN c r ds Q) : EN c (tCB r ta) ρ Q := fun hd H σ v Qh q =>
  h hd H σ v _ fun ds vs H1 h1 e1 b1 r1 => h1 hd H1 vs (fun a h => e1.dom a (v.dom a h)) v.muh b1 r1 Qh fun ds o vs H2 hq e2 b2 ho => q ds o vs H2 hq (e1.trans e2) b2 (e1.fresh ho)
def SpJ (c : Cn) (sp : Sp) (E : XK) (ds : List Dt) (Q : Dt → Prop) : Prop := RCJ c (fun vs H Qh => sp vs H Qh E) ds Q
def SpN (c : Cn) (sp : Sp) (E : XK) (ds : List Dt) (Q : List Dt → Prop) : Prop := RCN c (fun vs H Qh => sp vs H Qh E) ds Q
theorem ev_call {sp : Sp} {E : XK} {ta : TA} (h : EVA c ta ρ fun ds => SpJ c sp E ds Q) : EV c (tCall sp [] E ta) ρ Q := fun hd H σ v Qh q =>
  h hd H σ v _ fun ds vs H1 h1 e1 b1 r1 => by
    show sp (vs ++ []) H1 Qh E
    rw [List.append_nil]
    exact h1 hd H1 vs (fun a h => e1.dom a (v.dom a h)) v.muh b1 r1 Qh fun d z H2 hq e2 => q d z H2 hq (e1.trans e2)
theorem en_call {sp : Sp} {E : XK} {ta : TA} {Q : List Dt → Prop} (h : EVA c ta ρ fun ds => SpN c sp E ds Q) : EN c (tCall sp [] E ta) ρ Q := fun hd H σ v Qh q =>
  h hd H σ v _ fun ds vs H1 h1 e1 b1 r1 => by
    show sp (vs ++ []) H1 Qh E
    rw [List.append_nil]
    exact h1 hd H1 vs (fun a h => e1.dom a (v.dom a h)) v.muh b1 r1 Qh fun ds o vs H2 hq e2 b2 ho => q ds o vs H2 hq (e1.trans e2) b2 (e1.fresh ho)
theorem eo_none {Q : Option Int → Prop} (k : Q none) : EVO c tNoPart ρ Q := fun hd H σ v Qh q => q none H k .refl v.inv
def IntJ (Q : Int → Prop) : Dt → Prop
  | .int b => Q b
  | _ => False
theorem eo_some {Q : Option Int → Prop} (h : EV c te ρ (IntJ fun i => Q (some i))) : EVO c (tPart te) ρ Q := fun hd H σ v Qh q => h hd H σ v _ fun d x H1 h1 e1 b1 r1 => by
  cases d with
  | int i => exact ⟨i, rp_int r1, q _ H1 h1 e1 b1⟩
  | _ => exact h1.elim
end
end CC

namespace CC
open PySem PySem.Spec PyProof.Rows L2

section
variable {c : Cn} {hid hd hd' : Addr → Bool} {H0 H H' : Hp} {σ : L2.St} {ρ : List Sl}
theorem SlAll.len : ∀ {σ : L2.St} {ρ : List Sl}, SlAll c hd H σ ρ → σ.length = ρ.length
  | _, _, .nil => rfl
  | _, _, .cons _ t => congrArg (· + 1) (SlAll.len t)
theorem SlAll.of_get : ∀ {σ : L2.St} {ρ : List Sl}, σ.length = ρ.length → (∀ (i : Nat) (o : Option V) (s : Sl), σ[i]? = some o → ρ[i]? = some s → SlOk c hd H o s) → SlAll c hd H σ ρ
  | [], [], _, _ => .nil
  | o :: os, s :: ss, hl, h => .cons (h 0 o s rfl rfl) (SlAll.of_get (by simpa using hl) fun i o s h1 h2 => h (i + 1) o s h1 h2)
  | [], _ :: _, hl, _ => by simp at hl
  | _ :: _, [], hl, _ => by simp at hl
theorem set_get {α : Type} {l : List α} {i k : Nat} {x y : α} (h : (l.set i x)[k]? = some y) : (k = i ∧ y = x) ∨ (k ≠ i ∧ l[k]? = some y) := by
  by_cases q : k = i
  · subst q
    by_cases hl : k < l.length
    · rw [List.getElem?_set_self hl] at h
      exact .inl ⟨rfl, (Option.some.inj h).symm⟩
    · rw [List.getElem?_eq_none (by simpa using hl)] at h
      cases h
  · rw [List.getElem?_set_ne (Ne.symm q)] at h
    exact .inr ⟨q, h⟩
theorem ownAt_set {i k : Nat} {o : Addr} {x : Option V} {s : Sl} (h : ownAt (σ.set i x) (ρ.set i s) k o) : (k = i ∧ x = some (.ref o) ∧ owns s = true) ∨ (k ≠ i ∧ ownAt σ ρ k o) := by
  obtain ⟨h1, s', h2, h3⟩ := h
  rcases set_get h1 with ⟨q, e⟩ | ⟨q, e⟩
  · rcases set_get h2 with ⟨_, e2⟩ | ⟨q2, _⟩
    · exact .inl ⟨q, e.symm, by rw [← e2]; exact h3⟩
    · exact absurd q q2
  · rcases set_get h2 with ⟨q2, _⟩ | ⟨_, e2⟩
    · exact absurd q2 q
    · exact .inr ⟨q, e, s', e2, h3⟩
theorem SD.go (s : SD c hid hd H0 H σ ρ) (e : Ex c.mu H H') (b : c.B hd H') : SD c hid hd H0 H' σ ρ := ⟨s.toSV.go e b, s.sub, s.ext.trans e, s.new, s.own, s.ownh⟩
theorem SD.setIm (s : SD c hid hd H0 H σ ρ) {i : Nat} {v : V} {d : Dt} (h : Rp c.K (Hm hd H) v d) : SD c hid hd H0 H (σ.set i (some v)) (ρ.set i (.im d)) :=
  ⟨s.toSV.set i h, s.sub, s.ext, s.new, fun a b o h1 h2 => by
    rcases ownAt_set h1 with ⟨_, _, z⟩ | ⟨_, h1⟩
    · cases z
    · rcases ownAt_set h2 with ⟨_, _, z⟩ | ⟨_, h2⟩
      · cases z
      · exact s.own a b o h1 h2, fun a o h1 => by
    rcases ownAt_set h1 with ⟨_, _, z⟩ | ⟨_, h1⟩
    · cases z
    · exact s.ownh a o h1⟩
theorem SD.setUn (s : SD c hid hd H0 H σ ρ) {i : Nat} {v : Option V} : SD c hid hd H0 H (σ.set i v) (ρ.set i .un) :=
  ⟨s.toSV.set i (by unfold SlOk; split <;> trivial), s.sub, s.ext, s.new, fun a b o h1 h2 => by
    rcases ownAt_set h1 with ⟨_, _, z⟩ | ⟨_, h1⟩
    · cases z
    · rcases ownAt_set h2 with ⟨_, _, z⟩ | ⟨_, h2⟩
      · cases z
      · exact s.own a b o h1 h2, fun a o h1 => by
    rcases ownAt_set h1 with ⟨_, _, z⟩ | ⟨_, h1⟩
    · cases z
    · exact s.ownh a o h1⟩
theorem ownAt_dom (s : SlAll c hd H σ ρ) {i : Nat} {o : Addr} (h : ownAt σ ρ i o) : hd o = true ∧ c.mu o = false ∧ H o ≠ none := by
  obtain ⟨h1, sl, h2, h3⟩ := h
  obtain ⟨o', h4, h5⟩ := s.get h2
  rw [h1] at h4
  cases h4
  cases sl with
  | ac ds => obtain ⟨a1, a2, vs, a3, _⟩ := h5; exact ⟨a1, a2, by rw [a3]; exact fun z => nomatch z⟩
  | ak ds => obtain ⟨a1, a2, vs, a3, _⟩ := h5; exact ⟨a1, a2, by rw [a3]; exact fun z => nomatch z⟩
  | aT ds => obtain ⟨a1, a2, vs, a3, _⟩ := h5; exact ⟨a1, a2, by rw [a3]; exact fun z => nomatch z⟩
  | _ => cases h3
theorem ownAt_ext (s : SlAll c hd H σ ρ) {i : Nat} {o : Addr} (h : ownAt σ ρ i o) : ∃ v, H o = some v ∧ ext v = false := by
  obtain ⟨h1, sl, h2, h3⟩ := h
  obtain ⟨x, h4, h5⟩ := s.get h2
  rw [h1] at h4
  cases h4
  cases sl with
  | ac ds => obtain ⟨_, _, vs, a3, _⟩ := h5; exact ⟨_, a3, rfl⟩
  | ak ds => obtain ⟨_, _, vs, a3, _⟩ := h5; exact ⟨_, a3, rfl⟩
  | aT ds => obtain ⟨_, _, vs, a3, _⟩ := h5; exact ⟨_, a3, rfl⟩
  | _ => cases h3
/-- a new owned thing -/
theorem SD.setNew (s : SD c hid hd H0 H σ ρ) {o : Addr} (e : Ex c.mu H H') (b : c.B (hide hd o) H') {i : Nat} {sl : Sl} (ho : H o = none) (h1 : H' o ≠ none) (h : SlOk c (hide hd o) H' (some (.ref o)) sl) :
    SD c hid (hide hd o) H0 H' (σ.set i (some (.ref o))) (ρ.set i sl) := by
  have no : ∀ k, ¬ ownAt σ ρ k o := fun k q => (ownAt_dom s.slots q).2.2 ho
  have nh : hid o = false := by
    cases q : hid o with
    | false => rfl
    | true => exact absurd ho (s.dom o (s.sub o q))
  refine ⟨(s.toSV.hide e b ho h1).set i h, fun a z => hide_of (s.sub a z), s.ext.trans e, fun a z hz => ?_, fun a b u z1 z2 => ?_, fun a u z1 => ?_⟩
  · rcases hide_inv z with z | z
    · exact s.new a z hz
    · subst z; exact s.ext.fresh ho
  · rcases ownAt_set z1 with ⟨q1, e1, _⟩ | ⟨q1, z1⟩
    · rcases ownAt_set z2 with ⟨q2, _, _⟩ | ⟨q2, z2⟩
      · rw [q1, q2]
      · cases e1; exact absurd z2 (no b)
    · rcases ownAt_set z2 with ⟨q2, e2, _⟩ | ⟨q2, z2⟩
      · cases e2; exact absurd z1 (no a)
      · exact s.own a b u z1 z2
  · rcases ownAt_set z1 with ⟨_, e1, _⟩ | ⟨_, z1⟩
    · cases e1; exact nh
    · exact s.ownh a u z1
theorem SlOk.ne {o : Option V} {sl : Sl} {p : Addr} {u : HO} (hp : hd p = true) (hn : ∀ q, o = some (.ref q) → owns sl = true → q ≠ p) : SlOk c hd H o sl → SlOk c hd (upd H p u) o sl := by
  intro h
  have eh : Hm hd (upd H p u) = Hm hd H := hm_upd hp
  cases sl with
  | un => unfold SlOk; split <;> trivial
  | im d =>
    cases o with
    | none => exact h.elim
    | some v => show Rp c.K (Hm hd (upd H p u)) v d; rw [eh]; exact h
  | rw v =>
    cases o with
    | none => exact h.elim
    | some v => exact h
  | dl q ds =>
    cases o with
    | none => exact h.elim
    | some v =>
      refine ⟨h.1, ?_⟩
      show Rp c.K (Hm hd (upd H p u)) (.ref q) (.dk ds)
      rw [eh]
      exact h.2
  | iK ds =>
    cases o with
    | none => exact h.elim
    | some v =>
      cases v with
      | ref q =>
        obtain ⟨a1, a2, vs, a3, a4⟩ := h
        exact ⟨a1, a2, vs, by rw [upd_ne (fun z => by subst z; rw [hp] at a1; cases a1)]; exact a3, by rw [eh]; exact a4⟩
      | _ => exact h.elim
  | ac ds =>
    cases o with
    | none => exact h.elim
    | some v =>
      cases v with
      | ref q =>
        obtain ⟨a1, a2, vs, a3, a4⟩ := h
        exact ⟨a1, a2, vs, by rw [upd_ne (hn q rfl rfl)]; exact a3, by rw [eh]; exact a4⟩
      | _ => exact h.elim
  | ak ds =>
    cases o with
    | none => exact h.elim
    | some v =>
      cases v with
      | ref q =>
        obtain ⟨a1, a2, vs, a3, a4⟩ := h
        exact ⟨a1, a2, vs, by rw [upd_ne (hn q rfl rfl)]; exact a3, by rw [eh]; exact a4⟩
      | _ => exact h.elim
  | aT ds =>
    cases o with
    | none => exact h.elim
    | some v =>
      cases v with
      | ref q =>
        obtain ⟨a1, a2, vs, a3, a4⟩ := h
        exact ⟨a1, a2, vs, by rw [upd_ne (hn q rfl rfl)]; exact a3, by rw [eh]; exact a4⟩
      | _ => exact h.elim
/-- an owned thing changes -/
theorem SD.mutOwn (s : SD c hid hd H0 H σ ρ) {i : Nat} {o : Addr} {sl : Sl} {u : HO} (ho : ownAt σ ρ i o) (hs : owns sl = true) (h : SlOk c hd (upd H o u) (some (.ref o)) sl) : SD c hid hd H0 (upd H o u) σ (ρ.set i sl) := by
  obtain ⟨hh, hmu, hdom⟩ := ownAt_dom s.slots ho
  have nh := s.ownh i o ho
  have key : ∀ k p, ownAt σ (ρ.set i sl) k p → ownAt σ ρ k p := fun k p q => by
    obtain ⟨q1, s', q2, q3⟩ := q
    rcases set_get q2 with ⟨rfl, _⟩ | ⟨z, e⟩
    · obtain ⟨w1, s2, w2, w3⟩ := ho
      exact ⟨q1, s2, w2, w3⟩
    · exact ⟨q1, s', e, q3⟩
  refine ⟨⟨fun a q => upd_dom (s.dom a q), s.muh, c.put hh hmu (ownAt_ext s.slots ho).choose_spec.1 (ownAt_ext s.slots ho).choose_spec.2 s.inv, SlAll.of_get ?_ fun k x s' h1 h2 => ?_⟩, s.sub, s.ext.mut (.inl (s.new o hh nh)), s.new, fun a b p z1 z2 => s.own a b p (key _ _ z1) (key _ _ z2), fun a p z1 => s.ownh a p (key _ _ z1)⟩
  · rw [List.length_set]; exact s.slots.len
  · rcases set_get h2 with ⟨rfl, e⟩ | ⟨q, e⟩
    · rw [e]
      obtain ⟨w1, _⟩ := ho
      rw [w1] at h1
      cases h1
      exact h
    · obtain ⟨x', g1, g2⟩ := s.slots.get e
      rw [h1] at g1
      cases g1
      refine SlOk.ne hh (fun p ep ow z => ?_) g2
      subst z
      subst ep
      exact q (s.own k i p ⟨h1, s', e, ow⟩ ho)
/-- an owned thing is given up: data -/
theorem SD.share (s : SD c hid hd H0 H σ ρ) {i : Nat} {sl sl' : Sl} (hi : ρ[i]? = some sl) (hs : owns sl = true) (no : owns sl' = false)
    (h : ∀ (o : Addr) (hd' : Addr → Bool), (∀ a, hd' a = true → hd a = true) → hd' o = false → SlOk c hd H (some (.ref o)) sl → SlOk c hd' H (some (.ref o)) sl') : ∃ hd', SD c hid hd' H0 H σ (ρ.set i sl') := by
  obtain ⟨x, g1, g2⟩ := s.slots.get hi
  obtain ⟨o, rfl⟩ : ∃ o, x = some (.ref o) := by
    cases x with
    | none => cases sl <;> first | exact g2.elim | cases hs
    | some v => cases v <;> cases sl <;> first | exact ⟨_, rfl⟩ | exact g2.elim | cases hs
  have ho : ownAt σ ρ i o := ⟨g1, sl, hi, hs⟩
  obtain ⟨hh, hmu, hdom⟩ := ownAt_dom s.slots ho
  have nh := s.ownh i o ho
  let hd' : Addr → Bool := fun a => hd a && !decide (a = o)
  have le : ∀ a, hd' a = true → hd a = true := fun a q => (Bool.and_eq_true_iff.mp q).1
  have ho' : hd' o = false := by show (hd o && !decide (o = o)) = false; rw [decide_eq_true rfl]; simp
  have ne : ∀ a, a ≠ o → hd a = true → hd' a = true := fun a q z => by show (hd a && !decide (a = o)) = true; rw [z, decide_eq_false q]; rfl
  have key : ∀ k p, ownAt σ (ρ.set i sl') k p → k ≠ i ∧ ownAt σ ρ k p := fun k p q => by
    obtain ⟨q1, s', q2, q3⟩ := q
    rcases set_get q2 with ⟨rfl, e⟩ | ⟨z, e⟩
    · rw [e, no] at q3; cases q3
    · exact ⟨z, q1, s', e, q3⟩
  refine ⟨hd', ⟨fun a q => s.dom a (le a q), fun a q => ne a (fun z => by subst z; rw [q] at hmu; cases hmu) (s.muh a q), (c.unhide le s.inv), SlAll.of_get ?_ fun k x s' h1 h2 => ?_⟩, fun a q => ne a (fun z => by subst z; rw [q] at nh; cases nh) (s.sub a q), s.ext, fun a q z => s.new a (le a q) z, fun a b p z1 z2 => s.own a b p (key _ _ z1).2 (key _ _ z2).2, fun a p z1 => s.ownh a p (key _ _ z1).2⟩
  · rw [List.length_set]; exact s.slots.len
  · have sees : Sees (Hm hd H) (Hm hd' H) := sees_hide le
    rcases set_get h2 with ⟨rfl, e⟩ | ⟨q, e⟩
    · rw [e]
      rw [g1] at h1
      cases h1
      exact h o hd' le ho' g2
    · obtain ⟨x', g3, g4⟩ := s.slots.get e
      rw [h1] at g3
      cases g3
      cases s' with
      | un => unfold SlOk; split <;> trivial
      | im d =>
        cases x with
        | none => exact g4.elim
        | some v => exact Rp.mono sees g4
      | rw v =>
        cases x with
        | none => exact g4.elim
        | some v => exact g4
      | dl q ds =>
        cases x with
        | none => exact g4.elim
        | some v => exact ⟨g4.1, Rp.mono sees g4.2⟩
      | iK ds =>
        cases x with
        | none => exact g4.elim
        | some v =>
          cases v with
          | ref p =>
            obtain ⟨a1, a2, vs, a3, a4⟩ := g4
            refine ⟨?_, a2, vs, a3, RpK.mono sees a4⟩
            cases q2 : hd' p with
            | false => rfl
            | true => rw [le p q2] at a1; cases a1
          | _ => exact g4.elim
      | ac ds =>
        cases x with
        | none => exact g4.elim
        | some v =>
          cases v with
          | ref p =>
            obtain ⟨a1, a2, vs, a3, a4⟩ := g4
            exact ⟨ne p (fun z => by subst z; exact q (s.own k i p ⟨h1, _, e, rfl⟩ ho)) a1, a2, vs, a3, RpAll.mono sees a4⟩
          | _ => exact g4.elim
      | ak ds =>
        cases x with
        | none => exact g4.elim
        | some v =>
          cases v with
          | ref p =>
            obtain ⟨a1, a2, vs, a3, a4⟩ := g4
            exact ⟨ne p (fun z => by subst z; exact q (s.own k i p ⟨h1, _, e, rfl⟩ ho)) a1, a2, vs, a3, RpK.mono sees a4⟩
          | _ => exact g4.elim
      | aT ds =>
        cases x with
        | none => exact g4.elim
        | some v =>
          cases v with
          | ref p =>
            obtain ⟨a1, a2, vs, a3, a4⟩ := g4
            exact ⟨ne p (fun z => by subst z; exact q (s.own k i p ⟨h1, _, e, rfl⟩ ho)) a1, a2, vs, a3, RpT.mono sees a4⟩
          | _ => exact g4.elim
inductive Le : List Sl → List Sl → Prop
  | nil : Le [] []
  | un {s : Sl} {a b : List Sl} : Le a b → Le (.un :: a) (s :: b)
  | same {s : Sl} {a b : List Sl} : Le a b → Le (s :: a) (s :: b)
theorem Le.get : ∀ {a b : List Sl}, Le a b → ∀ {i : Nat} {s : Sl}, a[i]? = some s → s = .un ∨ b[i]? = some s
  | _, _, .nil, _, _, h => .inr h
  | _, _, .un _, 0, _, h => .inl (Option.some.inj h).symm
  | _, _, .same _, 0, _, h => .inr h
  | _, _, .un t, i + 1, _, h => Le.get t (i := i) h
  | _, _, .same t, i + 1, _, h => Le.get t (i := i) h
theorem Le.len : ∀ {a b : List Sl}, Le a b → a.length = b.length
  | _, _, .nil => rfl
  | _, _, .un t => congrArg (· + 1) (Le.len t)
  | _, _, .same t => congrArg (· + 1) (Le.len t)
theorem Le.refl : ∀ {a : List Sl}, Le a a
  | [] => .nil
  | _ :: _ => .same Le.refl
theorem SD.weak {ρ' : List Sl} (s : SD c hid hd H0 H σ ρ) (l : Le ρ' ρ) : SD c hid hd H0 H σ ρ' := by
  have key : ∀ k p, ownAt σ ρ' k p → ownAt σ ρ k p := fun k p q => by
    obtain ⟨q1, s', q2, q3⟩ := q
    rcases l.get q2 with rfl | e
    · cases q3
    · exact ⟨q1, s', e, q3⟩
  refine ⟨⟨s.dom, s.muh, s.inv, SlAll.of_get (by rw [l.len]; exact s.slots.len) fun k x s' h1 h2 => ?_⟩, s.sub, s.ext, s.new, fun a b p z1 z2 => s.own a b p (key _ _ z1) (key _ _ z2), fun a p z1 => s.ownh a p (key _ _ z1)⟩
  rcases l.get h2 with rfl | e
  · unfold SlOk; split <;> trivial
  · obtain ⟨x', g1, g2⟩ := s.slots.get e
    rw [h1] at g1
    cases g1
    exact g2
end
end CC

namespace CC
open PySem PySem.Spec PyProof.Rows L2

/-! ### statements -/
def NJ (c : Cn) (hid : Addr → Bool) (H0 : Hp) (N : L2.St → Hp → Prop) (ρ : List Sl) : Prop := ∀ hd H σ, SD c hid hd H0 H σ ρ → N σ H
def Nx (c : Cn) (hid : Addr → Bool) (H0 : Hp) (I : List Sl → Prop) : L2.St → Hp → Prop := fun σ H => ∃ ρ hd, I ρ ∧ SD c hid hd H0 H σ ρ
def RJ (c : Cn) (hid : Addr → Bool) (H0 : Hp) (R : VK) (d : Dt) : Prop := ∀ v H', Ex c.mu H0 H' → c.B hid H' → Rp c.K (Hm hid H') v d → R v H'
def RNJ (c : Cn) (hid : Addr → Bool) (H0 : Hp) (R : VK) (ds : List Dt) : Prop := ∀ o vs H', Ex c.mu H0 H' → c.B (hide hid o) H' → H0 o = none → H' o = some (.lst vs) → RpAll c.K (Hm (hide hid o) H') vs ds → R (.ref o) H'

section
variable {c : Cn} {hid : Addr → Bool} {H0 H1 : Hp} {ρ : List Sl} {ta tb te : TE} {t u : TT} {D : Ends} {ts tz : TS} {N : L2.St → Hp → Prop} {g : TG}
theorem SD.base {hd : Addr → Bool} {H : Hp} {σ : L2.St} (e : Ex c.mu H0 H1) (s : SD c hid hd H1 H σ ρ) : SD c hid hd H0 H σ ρ := ⟨s.toSV, s.sub, e.trans s.ext, fun a h1 h2 => e.fresh (s.new a h1 h2), s.own, s.ownh⟩
theorem NJ.base (e : Ex c.mu H0 H1) (h : NJ c hid H0 N ρ) : NJ c hid H1 N ρ := fun hd H σ s => h hd H σ (s.base e)
theorem RJ.base {R : VK} {d : Dt} (e : Ex c.mu H0 H1) (h : RJ c hid H0 R d) : RJ c hid H1 R d := fun v H' e1 => h v H' (e.trans e1)
theorem RNJ.base {R : VK} {d : List Dt} (e : Ex c.mu H0 H1) (h : RNJ c hid H0 R d) : RNJ c hid H1 R d := fun o vs H' e1 b ho => h o vs H' (e.trans e1) b (e.fresh ho)
/-- a new list is data, for whoever does not care -/
theorem RJ.rn {R : VK} {ds : List Dt} (dom : ∀ a, hid a = true → H0 a ≠ none) (h : RJ c hid H0 R (.lst ds)) : RNJ c hid H0 R ds := fun o vs H' e b ho h1 h2 =>
  h (.ref o) H' e (c.unhide (fun _ h => hide_of h) b) (.lst (by rw [hm_of (fresh_hd dom ho)]; exact h1) (h2.mono (sees_hide fun _ h => hide_of h)))

theorem nj_seq (h : NJ c hid H0 (ts { D with nx := tz D }) ρ) : NJ c hid H0 (tSeq ts tz D) ρ := h
theorem nj_next (h : NJ c hid H0 D.nx ρ) : NJ c hid H0 (tNext D) ρ := h
theorem nj_asg {i : Nat} (h : EV c te ρ fun d => NJ c hid H0 D.nx (ρ.set i (.im d))) : NJ c hid H0 (tAsg te (gName i) D) ρ := fun hd H σ s =>
  h hd H σ s.toSV _ fun d v H' hq e b r => hq hd H' _ ((s.go e b).setIm r)
theorem nj_asgN {i : Nat} (h : EN c te ρ fun ds => NJ c hid H0 D.nx (ρ.set i (.ac ds))) : NJ c hid H0 (tAsg te (gName i) D) ρ := fun hd H σ s =>
  h hd H σ s.toSV _ fun ds o vs H' hq e b ho h1 r => hq (hide hd o) H' _ (s.setNew e b ho (by rw [h1]; exact fun z => nomatch z) ⟨hide_self, by
    cases q : c.mu o with
    | false => rfl
    | true => exact absurd ho (s.dom o (s.muh o q)), vs, h1, r⟩)
def ETJ (c : Cn) (hid : Addr → Bool) (H0 : Hp) (t : TT) (ρ : List Sl) (Q : Bool → Prop) : Prop := ∀ hd H σ, SD c hid hd H0 H σ ρ → ∀ Qh : Bool → Hp → Prop, (∀ b H', Q b → Ex c.mu H H' → c.B hd H' → Qh b H') → t σ H Qh
theorem etj {Q : Bool → Prop} (h : EVT c t ρ Q) : ETJ c hid H0 t ρ Q := fun hd H σ s => h hd H σ s.toSV
/-- the invariant does not look at what is hidden -/
def Flat (c : Cn) : Prop := ∀ hd hd' H, c.B hd H → c.B hd' H
theorem etj_peek {Q : Bool → Prop} {i : Nat} {ds : List Dt} (hi : ρ[i]? = some (.ac ds)) (h : ETJ c hid H0 t (ρ.set i (.im (.lst ds))) Q) (fl : Flat c := by exact fun _ _ _ h => h) : ETJ c hid H0 t ρ Q := fun hd H σ s => by
  obtain ⟨hd', s'⟩ := s.share hi rfl (sl' := .im (.lst ds)) rfl fun o hd' le ho g => by
    obtain ⟨a1, a2, vs, a3, a4⟩ := g
    exact .lst (by rw [hm_of ho]; exact a3) (a4.mono (sees_hide le))
  exact fun Qh q => h hd' H σ s' Qh fun b H' hq e bb => q b H' hq e (fl hd' hd H' bb)
theorem nj_if (h : ETJ c hid H0 t ρ fun b => (b = true → NJ c hid H0 (ts D) ρ) ∧ (b = false → NJ c hid H0 (tz D) ρ)) : NJ c hid H0 (tIfS t ts tz D) ρ := fun hd H σ s =>
  h hd H σ s _ fun b H' hq e hb => by
    cases b with
    | true => show ts D σ H'; exact hq.1 rfl hd H' σ (s.go e hb)
    | false => show tz D σ H'; exact hq.2 rfl hd H' σ (s.go e hb)
theorem nj_drop (h : EV c te ρ fun _ => NJ c hid H0 D.nx ρ) : NJ c hid H0 (tDrop te D) ρ := fun hd H σ s =>
  h hd H σ s.toSV _ fun d v H' hq e b r => hq hd H' _ (s.go e b)
theorem nj_ret (h : EV c te ρ fun d => RJ c hid H0 D.rt d) : NJ c hid H0 (tRet te D) ρ := fun hd H σ s =>
  h hd H σ s.toSV _ fun d v H' hq e b r => hq v H' (s.ext.trans e) (c.unhide s.sub b) (r.mono (sees_hide s.sub))
theorem nj_retN (h : EN c te ρ fun ds => RNJ c hid H0 D.rt ds) : NJ c hid H0 (tRet te D) ρ := fun hd H σ s =>
  h hd H σ s.toSV _ fun ds o vs H' hq e b ho h1 r => hq o vs H' (s.ext.trans e) (c.unhide (fun a h => by
    rcases hide_inv h with h | h
    · exact hide_of (s.sub a h)
    · subst h; exact hide_self) b) (s.ext.fresh ho) h1 (r.mono (sees_hide fun a h => by
    rcases hide_inv h with h | h
    · exact hide_of (s.sub a h)
    · subst h; exact hide_self))
/-- an owned list is handed back -/
theorem nj_retAc {i : Nat} {ds : List Dt} (hi : ρ[i]? = some (.ac ds)) (h : RNJ c hid H0 D.rt ds) : NJ c hid H0 (tRet (tVar i) D) ρ := fun hd H σ s => by
  obtain ⟨x, g1, g2⟩ := s.slots.get hi
  cases x with
  | none => exact g2.elim
  | some v =>
    cases v with
    | ref o =>
      obtain ⟨a1, a2, vs, a3, a4⟩ := g2
      have nh := s.ownh i o ⟨g1, _, hi, rfl⟩
      exact ⟨.ref o, g1, h o vs H s.ext (c.unhide (fun a h => by
        rcases hide_inv h with h | h
        · exact s.sub a h
        · subst h; exact a1) s.inv) (s.new o a1 nh) a3 (a4.mono (sees_hide fun a h => by
        rcases hide_inv h with h | h
        · exact s.sub a h
        · subst h; exact a1))⟩
    | _ => exact g2.elim
theorem nj_share {i : Nat} {ds : List Dt} (hi : ρ[i]? = some (.ac ds)) (h : NJ c hid H0 N (ρ.set i (.im (.lst ds)))) : NJ c hid H0 N ρ := fun hd H σ s => by
  obtain ⟨hd', s'⟩ := s.share hi rfl (sl' := .im (.lst ds)) rfl fun o hd' le ho g => by
    obtain ⟨a1, a2, vs, a3, a4⟩ := g
    exact .lst (by rw [hm_of ho]; exact a3) (a4.mono (sees_hide le))
  exact h hd' H σ s'
theorem nj_shareK {i : Nat} {ds : List (Key × Dt)} (hi : ρ[i]? = some (.ak ds)) (h : NJ c hid H0 N (ρ.set i (.im (.dk ds)))) : NJ c hid H0 N ρ := fun hd H σ s => by
  obtain ⟨hd', s'⟩ := s.share hi rfl (sl' := .im (.dk ds)) rfl fun o hd' le ho g => by
    obtain ⟨a1, a2, vs, a3, a4⟩ := g
    exact .dk (.inl (by rw [hm_of ho]; exact a3)) (a4.mono (sees_hide le))
  exact h hd' H σ s'
theorem nj_shareT {i : Nat} {ds : List (List Key × Dt)} (hi : ρ[i]? = some (.aT ds)) (h : NJ c hid H0 N (ρ.set i (.im (.dt ds)))) : NJ c hid H0 N ρ := fun hd H σ s => by
  obtain ⟨hd', s'⟩ := s.share hi rfl (sl' := .im (.dt ds)) rfl fun o hd' le ho g => by
    obtain ⟨a1, a2, vs, a3, a4⟩ := g
    exact .dt (.inl (by rw [hm_of ho]; exact a3)) (a4.mono (sees_hide le))
  exact h hd' H σ s'
theorem nj_weak {ρ' : List Sl} (l : Le ρ' ρ) (h : NJ c hid H0 N ρ') : NJ c hid H0 N ρ := fun hd H σ s => h hd H σ (s.weak l)
theorem nj_nx {I : List Sl → Prop} (h : I ρ) : NJ c hid H0 (Nx c hid H0 I) ρ := fun hd H σ s => ⟨ρ, hd, h, s⟩
theorem nj_nxw {I : List Sl → Prop} (ρ' : List Sl) (h : I ρ') (l : Le ρ' ρ) : NJ c hid H0 (Nx c hid H0 I) ρ := nj_weak l (nj_nx h)
theorem own_get {hd : Addr → Bool} {H : Hp} {σ : L2.St} (s : SlAll c hd H σ ρ) {i : Nat} {ds : List Dt} (hi : ρ[i]? = some (.ac ds)) : ∃ o vs, σ[i]? = some (some (.ref o)) ∧ hd o = true ∧ c.mu o = false ∧ H o = some (.lst vs) ∧ RpAll c.K (Hm hd H) vs ds := by
  obtain ⟨x, g1, g2⟩ := s.get hi
  cases x with
  | none => exact g2.elim
  | some v =>
    cases v with
    | ref o =>
      obtain ⟨a1, a2, vs, a3, a4⟩ := g2
      exact ⟨o, vs, g1, a1, a2, a3, a4⟩
    | _ => exact g2.elim
/-- xs.append(e), xs owned -/
theorem nj_app {i : Nat} {ds : List Dt} {K : PySem.W.Frag} (hi : ρ[i]? = some (.ac ds)) (hz : ds.length < 100000) (h : EV c te ρ fun d => NJ c hid H0 D.nx (ρ.set i (.ac (ds ++ [d])))) : NJ c hid H0 (tDrop (tBM K "list" rAppend (tVar i) (tCons te tNil)) D) ρ := fun hd H σ s => by
  obtain ⟨o, vs, g1, a1, a2, a3, a4⟩ := own_get s.slots hi
  refine ⟨.ref o, g1, .inl ⟨rfl, vs, .inl (.inl a3)⟩, h hd H σ s.toSV _ fun d v H' hq e b r => ?_⟩
  have s' := s.go e b
  have a3' : H' o = some (.lst vs) := e.keep o _ a2 a3
  refine ⟨o, vs, v, rfl, rfl, a3', Evl.sz_lt (by rw [a4.length]; exact hz), hq hd _ σ (s'.mutOwn ⟨g1, _, hi, rfl⟩ rfl ⟨a1, a2, vs ++ [v], upd_same, ?_⟩)⟩
  rw [hm_upd a1]
  exact (a4.mono (e.sees s.muh)).append (.cons r .nil)
theorem ixN_of {α β : Type} {xs : List α} {ys : List β} (h : xs.length = ys.length) (i : Int) : ixN xs.length i = ixN ys.length i := by rw [h]
/-- xs[k] = e, xs owned -/
theorem nj_setL {i : Nat} {ds : List Dt} (hi : ρ[i]? = some (.ac ds)) (h : EV c te ρ fun d => EV c tb ρ (IntJ fun k => ∃ j, ixN ds.length k = some j ∧ NJ c hid H0 D.nx (ρ.set i (.ac (ds.set j d))))) : NJ c hid H0 (tAsg te (gSub (tVar i) tb rSetL) D) ρ := fun hd H σ s => by
  obtain ⟨o, vs, g1, a1, a2, a3, a4⟩ := own_get s.slots hi
  refine h hd H σ s.toSV _ fun d v H' hq e b r => ⟨.ref o, g1, hq hd H' σ (s.go e b).toSV _ fun d2 k H2 hk e2 b2 r2 => ?_⟩
  cases d2 with
  | int k' =>
    obtain ⟨j, hj, hq⟩ := hk
    have e12 := e.trans e2
    have s' := s.go e12 b2
    have a3' : H2 o = some (.lst vs) := e12.keep o _ a2 a3
    refine ⟨o, vs, k', j, rfl, rp_int r2, a3', by rw [a4.length]; exact hj, hq hd _ σ (s'.mutOwn ⟨g1, _, hi, rfl⟩ rfl ⟨a1, a2, vs.set j v, upd_same, ?_⟩)⟩
    rw [hm_upd a1]
    exact (a4.mono (e12.sees s.muh)).set (r.mono (e2.sees s.muh)) j
  | _ => exact hk.elim
/-- xs[k], xs owned -/
theorem ev_ixAc {i : Nat} {ds : List Dt} {r : R2} {Q : Dt → Prop} (hr : ∀ p xs k v H (Qh : VK), H p = some (.lst xs) → atI xs k = some v → Qh v H → r (.ref p) (.int k) H Qh) (hi : ρ[i]? = some (.ac ds)) (h : EV c tb ρ (IntJ fun k => ∃ d, atI ds k = some d ∧ Q d)) : EV c (tOp r (tVar i) tb) ρ Q := fun hd H σ s Qh q => by
  obtain ⟨o, vs, g1, a1, a2, a3, a4⟩ := own_get s.slots hi
  refine ⟨.ref o, g1, h hd H σ s _ fun d2 k H2 hk e2 b2 r2 => ?_⟩
  cases d2 with
  | int k' =>
    obtain ⟨d, hd1, hq⟩ := hk
    rw [rp_int r2]
    unfold atI at hd1
    cases hx : ixN ds.length k' with
    | none => rw [hx] at hd1; cases hd1
    | some j =>
      rw [hx] at hd1
      obtain ⟨v, hv, rv⟩ := (a4.mono (e2.sees s.muh)).get (show ds[j]? = some d from hd1)
      refine hr o vs k' v H2 Qh (e2.keep o _ a2 a3) ?_ (q d v H2 hq e2 b2 rv)
      unfold atI
      rw [a4.length, hx]
      exact hv
  | _ => exact hk.elim
def scalar : Dt → Bool
  | .non => true
  | .bl _ => true
  | .int _ => true
  | .str _ => true
  | _ => false
theorem rp_scalar {K : PySem.W.Frag} {G G' : Hp} {v : V} {d : Dt} (h : scalar d = true) (r : Rp K G v d) : Rp K G' v d := by
  cases r with
  | non => exact .non
  | bl b => exact .bl b
  | int b => exact .int b
  | str b => exact .str b
  | _ => cases h
/-- an expression that hands back a scalar may look at an owned list as data -/
def EJ (c : Cn) (hid : Addr → Bool) (H0 : Hp) (te : TE) (ρ : List Sl) (Q : Dt → Prop) : Prop := ∀ hd H σ, SD c hid hd H0 H σ ρ → ∀ Qh : VK, (∀ d v H', scalar d = true → Q d → Ex c.mu H H' → c.B hd H' → (∀ G, Rp c.K G v d) → Qh v H') → te σ H Qh
theorem ej {Q : Dt → Prop} (h : EV c te ρ fun d => scalar d = true ∧ Q d) : EJ c hid H0 te ρ Q := fun hd H σ s Qh q => h hd H σ s.toSV Qh fun d v H' hq e b r => q d v H' hq.1 hq.2 e b fun G => rp_scalar hq.1 r
theorem ej_peek {Q : Dt → Prop} {i : Nat} {ds : List Dt} (hi : ρ[i]? = some (.ac ds)) (h : EJ c hid H0 te (ρ.set i (.im (.lst ds))) Q) (fl : Flat c := by exact fun _ _ _ h => h) : EJ c hid H0 te ρ Q := fun hd H σ s => by
  obtain ⟨hd', s'⟩ := s.share hi rfl (sl' := .im (.lst ds)) rfl fun o hd' le ho g => by
    obtain ⟨a1, a2, vs, a3, a4⟩ := g
    exact .lst (by rw [hm_of ho]; exact a3) (a4.mono (sees_hide le))
  exact fun Qh q => h hd' H σ s' Qh fun d v H' hs hq e bb => q d v H' hs hq e (fl hd' hd H' bb)
theorem nj_asgS {i : Nat} (h : EJ c hid H0 te ρ fun d => NJ c hid H0 D.nx (ρ.set i (.im d))) : NJ c hid H0 (tAsg te (gName i) D) ρ := fun hd H σ s =>
  h hd H σ s _ fun d v H' _ hq e b r => hq hd H' _ ((s.go e b).setIm (r _))

/-! ### loops -/
def Sub (G H : Hp) : Prop := ∀ a o, G a = some o → H a = some o
structure ItOk (K : PySem.W.Frag) (G : Hp) (J : It) (its : List Dt) : Prop where
  go : ∀ i H, Sub G H → i < its.length → J.go i H
  yl : ∀ i H x H' d, Sub G H → its[i]? = some d → J.yld i H x H' → Ex none0 H H' ∧ ∀ hd, (∀ a, hd a = true → H a ≠ none) → Sub G (Hm hd H) → Rp K (Hm hd H') x d
  st : ∀ i H, Sub G H → i = its.length → J.stop i H
def IJ (c : Cn) (wi : TI) (ρ : List Sl) (Q : List Dt → Prop) : Prop := ∀ hd H σ, SV c hd H σ ρ → ∀ R : It → Hp → Prop, (∀ its J H', Q its → Ex c.mu H H' → c.B hd H' → ItOk c.K (Hm hd H') J its → R J H') → wi σ H R
/-- a target takes data -/
def TGJ (c : Cn) (hid : Addr → Bool) (H0 : Hp) (g : TG) (d : Dt) (ρ : List Sl) (N : L2.St → Hp → Prop) : Prop := ∀ hd H σ v, SD c hid hd H0 H σ ρ → Rp c.K (Hm hd H) v d → g v σ H N
theorem tg_name {j : Nat} {d : Dt} (h : NJ c hid H0 N (ρ.set j (.im d))) : TGJ c hid H0 (gName j) d ρ N := fun hd H σ v s r => h hd H _ (s.setIm r)
def TGsJ (c : Cn) (hid : Addr → Bool) (H0 : Hp) (g : TGs) (ds : List Dt) (ρ : List Sl) (N : L2.St → Hp → Prop) : Prop := ∀ hd H σ vs, SD c hid hd H0 H σ ρ → RpAll c.K (Hm hd H) vs ds → g vs σ H N
theorem tgs_nil (h : NJ c hid H0 N ρ) : TGsJ c hid H0 gNil [] ρ N := fun hd H σ vs s r => by
  cases r
  exact ⟨rfl, h hd H σ s⟩
theorem tgs_name {j : Nat} {d : Dt} {ds : List Dt} {gs : TGs} (h : TGsJ c hid H0 gs ds (ρ.set j (.im d)) N) : TGsJ c hid H0 (gCons (gName j) gs) (d :: ds) ρ N := fun hd H σ vs s r => by
  cases r with
  | cons r1 r2 => exact ⟨_, _, rfl, h hd H _ _ (s.setIm r1) r2⟩
theorem sqt_hm {K : PySem.W.Frag} {hd : Addr → Bool} {H : Hp} {a : Addr} {xs : List V} (h : SqT K (Hm hd H) a xs) : SqT K H a xs := sees_t sees_le h
theorem tg_tup {n : Nat} {gs : TGs} {ds : List Dt} (hn : ds.length = n) (h : TGsJ c hid H0 gs ds ρ N) : TGJ c hid H0 (gTup c.K n gs) (.tup ds) ρ N := fun hd H σ v s r => by
  cases r with
  | tup r1 r2 => exact ⟨_, _, rfl, sqt_hm r1, by rw [r2.length]; exact hn, h hd H σ _ s r2⟩
/-- the base of a loop: what is seen stands -/
def Hj (H0 : Hp) (hd : Addr → Bool) (H : Hp) : Hp := fun a => if hd a = true then H0 a else H a
theorem hj_ex {hd : Addr → Bool} {H : Hp} {σ : L2.St} (s : SD c hid hd H0 H σ ρ) : Ex c.mu H0 (Hj H0 hd H) := ⟨fun a o hm h => by
  unfold Hj
  split
  · exact h
  · exact s.ext.keep a o hm h, fun a h => by
  unfold Hj
  split
  · exact h
  · exact s.ext.dom a h⟩
theorem hj_sd {hd : Addr → Bool} {H : Hp} {σ : L2.St} (s : SD c hid hd H0 H σ ρ) : SD c hid hd (Hj H0 hd H) H σ ρ := ⟨s.toSV, s.sub, ⟨fun a o hm h => by
  unfold Hj at h
  split at h
  · exact s.ext.keep a o hm h
  · exact h, fun a h => by
  unfold Hj at h
  split at h
  · exact s.ext.dom a h
  · exact h⟩, fun a h1 h2 => by
  unfold Hj
  rw [if_pos h1]
  exact s.new a h1 h2, s.own, s.ownh⟩
theorem nj_for {wi : TI} (h : IJ c wi ρ fun its => ∃ I : Nat → List Sl → Prop, I 0 ρ ∧ (∀ H1, Ex c.mu H0 H1 → ∀ i d ρ', its[i]? = some d → I i ρ' → TGJ c hid H1 g d ρ' (ts { D with nx := Nx c hid H1 (I (i + 1)), ct := Nx c hid H1 (I (i + 1)), bk := D.nx })) ∧
    ∀ ρ', I its.length ρ' → NJ c hid H0 D.nx ρ') : NJ c hid H0 (tFor wi g ts D) ρ := fun hd H σ s => by
  refine h hd H σ s.toSV _ fun its J H' hq e b ok => ?_
  obtain ⟨I, i0, hstep, hend⟩ := hq
  have s' := s.go e b
  have eB := hj_ex s'
  have sB := hj_sd s'
  have vis : ∀ {hd2 H2 σ2 ρ2}, SD c hid hd2 (Hj H0 hd H') H2 σ2 ρ2 → Sub (Hm hd H') (Hm hd2 H2) := fun {hd2 H2 σ2 ρ2} s2 a o ha => by
    have h1 := hm_not ha
    have h2 := hm_le ha
    have hm : c.mu a = false := by
      cases q : c.mu a with
      | false => rfl
      | true => rw [s.muh a q] at h1; cases h1
    have hb : Hj H0 hd H' a = some o := by unfold Hj; rw [if_neg (by rw [h1]; exact Bool.false_ne_true)]; exact h2
    rw [hm_of]
    · exact s2.ext.keep a o hm hb
    · cases q : hd2 a with
      | false => rfl
      | true =>
        cases q2 : hid a with
        | true => rw [s.sub a q2] at h1; cases h1
        | false =>
          have := s2.new a q q2
          rw [hb] at this; cases this
  have vis' : ∀ {hd2 H2 σ2 ρ2}, SD c hid hd2 (Hj H0 hd H') H2 σ2 ρ2 → Sub (Hm hd H') H2 := fun s2 a o ha => hm_le (vis s2 a o ha)
  refine ⟨fun i m σ2 H2 => m = its.length - i ∧ i ≤ its.length ∧ ∃ ρ2 hd2, I i ρ2 ∧ SD c hid hd2 (Hj H0 hd H') H2 σ2 ρ2, ⟨its.length, rfl, Nat.zero_le _, ρ, hd, i0, sB⟩, ?_⟩
  rintro i m σ2 H2 ⟨rfl, hi, ρ2, hd2, hI, s2⟩
  by_cases hlt : i < its.length
  · refine .inr ⟨ok.go i H2 (vis' s2) hlt, Nx c hid (Hj H0 hd H') (I (i + 1)), fun σ' H3 hN => ?_, fun x H3 hy => ?_⟩
    · obtain ⟨ρ3, hd3, hI3, s3⟩ := hN
      exact ⟨its.length - (i + 1), by omega, rfl, hlt, ρ3, hd3, hI3, s3⟩
    · obtain ⟨e3, r3⟩ := ok.yl i H2 x H3 its[i] (vis' s2) (List.getElem?_eq_getElem hlt) hy
      exact hstep (Hj H0 hd H') eB i its[i] ρ2 (List.getElem?_eq_getElem hlt) hI hd2 H3 σ2 x (s2.go e3.up (c.keep0 e3 s2.inv)) (r3 hd2 s2.dom (vis s2))
  · have e : i = its.length := by omega
    exact .inl ⟨ok.st i H2 (vis' s2) e, hend ρ2 (by rw [← e]; exact hI) hd2 H2 σ2 (s2.base eB)⟩
theorem nj_while (I : Nat → List Sl → Prop) (m0 : Nat) (h0 : I m0 ρ)
    (hs : ∀ m ρ', I m ρ' → ETJ c hid H0 t ρ' fun b => (b = true → NJ c hid H0 (ts { D with nx := Nx c hid H0 (fun ρ'' => ∃ m', m' < m ∧ I m' ρ''), ct := Nx c hid H0 (fun ρ'' => ∃ m', m' < m ∧ I m' ρ''), bk := D.nx }) ρ') ∧ (b = false → NJ c hid H0 D.nx ρ')) : NJ c hid H0 (tWhile t ts D) ρ := fun hd H σ s => by
  refine ⟨fun m σ2 H2 => ∃ ρ2 hd2, I m ρ2 ∧ SD c hid hd2 H0 H2 σ2 ρ2, ⟨m0, ρ, hd, h0, s⟩, ?_⟩
  rintro m σ2 H2 ⟨ρ2, hd2, hI, s2⟩
  refine hs m ρ2 hI hd2 H2 σ2 s2 _ fun b H3 hq e hb => ?_
  cases b with
  | true =>
    rw [if_pos rfl]
    exact ⟨Nx c hid H0 (fun ρ'' => ∃ m', m' < m ∧ I m' ρ''), fun σ' H' hN => by
      obtain ⟨ρ3, hd3, ⟨m', hm, hI3⟩, s3⟩ := hN
      exact ⟨m', hm, ρ3, hd3, hI3, s3⟩, hq.1 rfl hd2 H3 σ2 (s2.go e hb)⟩
  | false =>
    rw [if_neg Bool.false_ne_true]
    exact hq.2 rfl hd2 H3 σ2 (s2.go e hb)
end
end CC

namespace CC
open PySem PySem.Spec PyProof.Rows L2

def LstJ (Q : List Dt → Prop) : Dt → Prop
  | .lst b => Q b
  | _ => False
def TupJ (Q : List Dt → Prop) : Dt → Prop
  | .tup b => Q b
  | _ => False
def rangeD (lo : Int) (n : Nat) : List Dt := (List.range n).map fun i => Dt.int (lo + (i : Nat))
def rangeC (lo c : Int) (n : Nat) : List Dt := (List.range n).map fun i => Dt.int (lo + (i : Nat) * c)
def enumD (es : List Dt) : List Dt := es.mapIdx fun i d => Dt.tup [.int (i : Nat), d]
def zipD (es fs : List Dt) : List Dt := List.zipWith (fun a b => Dt.tup [a, b]) es fs
section
variable {c : Cn} {ρ : List Sl} {ta tb te tl : TE} {t u : TT} {Q : List Dt → Prop}
theorem Sub.sees {G G' : Hp} (h : Sub G G') : Sees G G' := fun a o e => ⟨o, h a o e, .rfl⟩
theorem ij_list (h : EV c tl ρ (LstJ Q)) : IJ c (iList c.K tl) ρ Q := fun hd H σ v R q => h hd H σ v _ fun d x H1 h1 e1 b1 r1 => by
  cases d with
  | lst ds =>
    cases r1 with
    | lst ha r =>
      rename_i a xs
      have hl := r.length
      refine ⟨a, rfl, ⟨xs, .inl (.inl (hm_le ha))⟩, q ds (Itl c.K a) H1 h1 e1 b1 ⟨fun i H s hi => ?_, fun i H x H' d s hi y => ?_, fun i H s hi => ?_⟩⟩
      · exact ⟨xs, xs[i]'(by omega), .inl (.inl (s a _ ha)), List.getElem?_eq_getElem (by omega)⟩
      · obtain ⟨rfl, y⟩ := y
        have hx := y xs (.inl (.inl (s a _ ha)))
        obtain ⟨d', hd', rd⟩ := r.getV hx
        rw [hi] at hd'
        cases hd'
        exact ⟨.refl, fun hd2 dom sb => rd.mono sb.sees⟩
      · exact ⟨xs, .inl (.inl (s a _ ha)), by omega⟩
  | _ => exact h1.elim
theorem ij_tup (h : EV c tl ρ (TupJ Q)) : IJ c (iTup c.K tl) ρ Q := fun hd H σ v R q => h hd H σ v _ fun d x H1 h1 e1 b1 r1 => by
  cases d with
  | tup ds =>
    cases r1 with
    | tup ha r =>
      rename_i a xs
      have hl := r.length
      refine ⟨a, rfl, ⟨xs, sqt_hm ha⟩, q ds (Itt c.K a) H1 h1 e1 b1 ⟨fun i H s hi => ?_, fun i H x H' d s hi y => ?_, fun i H s hi => ?_⟩⟩
      · exact ⟨xs, xs[i]'(by omega), sees_t s.sees ha, List.getElem?_eq_getElem (by omega)⟩
      · obtain ⟨rfl, y⟩ := y
        have hx := y xs (sees_t s.sees ha)
        obtain ⟨d', hd', rd⟩ := r.getV hx
        rw [hi] at hd'
        cases hd'
        exact ⟨.refl, fun hd2 dom sb => rd.mono sb.sees⟩
      · exact ⟨xs, sees_t s.sees ha, by omega⟩
  | _ => exact h1.elim
theorem itr_ok {K : PySem.W.Frag} {G : Hp} (lo : Int) (n : Nat) : ItOk K G (Itr lo n) (rangeD lo n) := by
  have hl : (rangeD lo n).length = n := by unfold rangeD; rw [List.length_map, List.length_range]
  refine ⟨fun i H s hi => by rw [hl] at hi; exact hi, fun i H x H' d s hi y => ?_, fun i H s hi => by rw [hl] at hi; exact Nat.le_of_eq hi.symm⟩
  obtain ⟨rfl, rfl⟩ := y
  have hn : i < n := by
    have := (List.getElem?_eq_some_iff.mp hi).1
    rw [hl] at this; exact this
  have e : d = .int (lo + (i : Nat)) := by
    unfold rangeD at hi
    rw [List.getElem?_map, List.getElem?_range hn] at hi
    exact (Option.some.inj hi).symm
  subst e
  exact ⟨.refl, fun hd2 dom sb => .int _⟩
theorem itc_ok {K : PySem.W.Frag} {G : Hp} (lo cc : Int) (n : Nat) : ItOk K G (Itc lo cc n) (rangeC lo cc n) := by
  have hl : (rangeC lo cc n).length = n := by unfold rangeC; rw [List.length_map, List.length_range]
  refine ⟨fun i H s hi => by rw [hl] at hi; exact hi, fun i H x H' d s hi y => ?_, fun i H s hi => by rw [hl] at hi; exact Nat.le_of_eq hi.symm⟩
  obtain ⟨rfl, rfl⟩ := y
  have hn : i < n := by
    have := (List.getElem?_eq_some_iff.mp hi).1
    rw [hl] at this; exact this
  have e : d = .int (lo + (i : Nat) * cc) := by
    unfold rangeC at hi
    rw [List.getElem?_map, List.getElem?_range hn] at hi
    exact (Option.some.inj hi).symm
  subst e
  exact ⟨.refl, fun hd2 dom sb => .int _⟩
theorem rp_ints1 {K : PySem.W.Frag} {G : Hp} {vs : List V} {i : Int} (r : RpAll K G vs [.int i]) : vs = [.int i] := by
  cases r with
  | cons r1 r2 => cases r1; cases r2; rfl
theorem rp_ints2 {K : PySem.W.Frag} {G : Hp} {vs : List V} {i j : Int} (r : RpAll K G vs [.int i, .int j]) : vs = [.int i, .int j] := by
  cases r with
  | cons r1 r2 => cases r1; rw [rp_ints1 r2]
theorem rp_ints3 {K : PySem.W.Frag} {G : Hp} {vs : List V} {i j k : Int} (r : RpAll K G vs [.int i, .int j, .int k]) : vs = [.int i, .int j, .int k] := by
  cases r with
  | cons r1 r2 => cases r1; rw [rp_ints2 r2]
theorem ij_rng1 {ta : TA} (h : EVA c ta ρ fun ds => ∃ n : Int, ds = [.int n] ∧ n ≤ 1000000 ∧ -1000000 ≤ n ∧ Q (rangeD 0 n.toNat)) : IJ c (iRng1 ta) ρ Q := fun hd H σ v R q => h hd H σ v _ fun ds vs H1 h1 e1 b1 r1 => by
  obtain ⟨n, rfl, h2, h3, hq⟩ := h1
  rw [rp_ints1 r1]
  exact ⟨n, rfl, by omega, by omega, q _ _ H1 hq e1 b1 (itr_ok 0 n.toNat)⟩
theorem ij_rng2 {ta : TA} (h : EVA c ta ρ fun ds => ∃ m n : Int, ds = [.int m, .int n] ∧ (n ≤ 1000000 ∧ -1000000 ≤ n) ∧ (m ≤ 1000000 ∧ -1000000 ≤ m) ∧ Q (rangeD m (n - m).toNat)) : IJ c (iRng2 ta) ρ Q := fun hd H σ v R q => h hd H σ v _ fun ds vs H1 h1 e1 b1 r1 => by
  obtain ⟨m, n, rfl, h2, h3, hq⟩ := h1
  rw [rp_ints2 r1]
  exact ⟨m, n, rfl, ⟨by omega, by omega, by omega, by omega⟩, q _ _ H1 hq e1 b1 (itr_ok m _)⟩
theorem ij_rng3 {ta : TA} (h : EVA c ta ρ fun ds => ∃ (m n k : Int) (z : Nat), ds = [.int m, .int n, .int k] ∧ RgC m n k z ∧ Q (rangeC m k z)) : IJ c (iRng3 ta) ρ Q := fun hd H σ v R q => h hd H σ v _ fun ds vs H1 h1 e1 b1 r1 => by
  obtain ⟨m, n, k, z, rfl, h2, hq⟩ := h1
  rw [rp_ints3 r1]
  exact ⟨m, n, k, z, rfl, h2, q _ _ H1 hq e1 b1 (itc_ok m k z)⟩
theorem rp_new2 {K : PySem.W.Frag} {hd : Addr → Bool} {H : Hp} {T : Addr} {x y : V} {d1 d2 : Dt} (hT : H T = none) (dom : ∀ a, hd a = true → H a ≠ none) (r1 : Rp K (Hm hd H) x d1) (r2 : Rp K (Hm hd H) y d2) : Rp K (Hm hd (upd H T (.tup [x, y]))) (.ref T) (.tup [d1, d2]) := by
  have sees : Sees (Hm hd H) (Hm hd (upd H T (.tup [x, y]))) := (Ex.new hT (mu := none0)).sees (fun _ h => nomatch h)
  exact .tup (xs := [x, y]) (.inl (.inl (by rw [hm_of (fresh_hd dom hT), upd_same]))) (.cons (r1.mono sees) (.cons (r2.mono sees) .nil))
theorem ij_enum {ta : TA} (h : EVA c ta ρ fun ds => ∃ es, ds = [.lst es] ∧ Q (enumD es)) : IJ c (iEnum c.K ta) ρ Q := fun hd H σ v R q => h hd H σ v _ fun ds vs H1 h1 e1 b1 r1 => by
  obtain ⟨es, rfl, hq⟩ := h1
  cases r1 with
  | cons ra rb =>
    cases rb
    cases ra with
    | lst ha r =>
      rename_i a xs
      have hl := r.length
      have hn : (enumD es).length = es.length := by unfold enumD; rw [List.length_mapIdx]
      refine ⟨a, xs, rfl, .inl (.inl (hm_le ha)), q _ (Ite c.K a) H1 hq e1 b1 ⟨fun i H s hi => ?_, fun i H x H' d s hi y => ?_, fun i H s hi => ?_⟩⟩
      · exact ⟨xs, xs[i]'(by omega), .inl (.inl (s a _ ha)), List.getElem?_eq_getElem (by omega)⟩
      · obtain ⟨T, x', rfl, hT, rfl, y⟩ := y
        have hx := y xs (.inl (.inl (s a _ ha)))
        obtain ⟨d', hd', rd⟩ := r.getV hx
        have e : d = .tup [.int (i : Nat), d'] := by
          unfold enumD at hi
          rw [List.getElem?_mapIdx, hd'] at hi
          exact (Option.some.inj hi).symm
        subst e
        exact ⟨.new hT, fun hd2 dom sb => rp_new2 hT dom (.int _) (rd.mono sb.sees)⟩
      · exact ⟨xs, .inl (.inl (s a _ ha)), by omega⟩
theorem ij_zip {ta : TA} (h : EVA c ta ρ fun ds => ∃ es fs, ds = [.lst es, .lst fs] ∧ Q (zipD es fs)) : IJ c (iZip c.K ta) ρ Q := fun hd H σ v R q => h hd H σ v _ fun ds vs H1 h1 e1 b1 r1 => by
  obtain ⟨es, fs, rfl, hq⟩ := h1
  cases r1 with
  | cons ra rb =>
    cases rb with
    | cons rb rn =>
      cases rn
      cases ra with
      | lst ha r =>
        cases rb with
        | lst hb r' =>
          rename_i a xs b ys
          have hl := r.length
          have hl' := r'.length
          have hn : (zipD es fs).length = min es.length fs.length := by unfold zipD; rw [List.length_zipWith]
          refine ⟨a, b, xs, ys, rfl, .inl (.inl (hm_le ha)), .inl (.inl (hm_le hb)), q _ (Itz c.K a b) H1 hq e1 b1 ⟨fun i H s hi => ?_, fun i H x H' d s hi y => ?_, fun i H s hi => ?_⟩⟩
          · exact ⟨xs, ys, xs[i]'(by omega), ys[i]'(by omega), .inl (.inl (s a _ ha)), .inl (.inl (s b _ hb)), List.getElem?_eq_getElem (by omega), List.getElem?_eq_getElem (by omega)⟩
          · obtain ⟨T, x', y', rfl, hT, rfl, y1, y2⟩ := y
            have hx := y1 xs (.inl (.inl (s a _ ha)))
            have hy := y2 ys (.inl (.inl (s b _ hb)))
            obtain ⟨d1, hd1, rd1⟩ := r.getV hx
            obtain ⟨d2, hd2, rd2⟩ := r'.getV hy
            have e : d = .tup [d1, d2] := by
              unfold zipD at hi
              rw [List.getElem?_zipWith, hd1, hd2] at hi
              exact (Option.some.inj hi).symm
            subst e
            exact ⟨.new hT, fun hd2 dom sb => rp_new2 hT dom (rd1.mono sb.sees) (rd2.mono sb.sees)⟩
          · exact ⟨xs, ys, .inl (.inl (s a _ ha)), .inl (.inl (s b _ hb)), by omega⟩

/-! ### comprehensions -/
def wipeS (ρ : List Sl) : List Nat → List Sl
  | [] => ρ
  | v :: vs => (wipeS ρ vs).set v .un
theorem slok_un {hd : Addr → Bool} {H : Hp} {o : Option V} : SlOk c hd H o .un := by unfold SlOk; split <;> trivial
theorem SV.wipe {hd : Addr → Bool} {H : Hp} {σ : L2.St} (s : SV c hd H σ ρ) : ∀ vs, SV c hd H (L2.wipe σ vs) (wipeS ρ vs)
  | [] => s
  | v :: vs => (SV.wipe s vs).set v slok_un
theorem wipe_at (σ : L2.St) : ∀ (vs : List Nat) (k : Nat), (L2.wipe σ vs)[k]? = if k ∈ vs then σ[k]?.map (fun _ => none) else σ[k]?
  | [], k => by simp [L2.wipe]
  | v :: vs, k => by
    unfold L2.wipe
    by_cases q : k = v
    · subst q
      rw [if_pos (List.mem_cons_self)]
      by_cases hl : k < σ.length
      · rw [List.getElem?_set_self (by rw [wipe_length]; exact hl), List.getElem?_eq_getElem hl]; rfl
      · rw [List.getElem?_eq_none (by rw [List.length_set, wipe_length]; omega), List.getElem?_eq_none (by omega)]; rfl
    · rw [List.getElem?_set_ne (Ne.symm q), wipe_at σ vs k]
      simp only [List.mem_cons, q, false_or]
theorem wipe_set {σ : L2.St} {vs : List Nat} {j : Nat} {x : Option V} (hj : j ∈ vs) : L2.wipe (σ.set j x) vs = L2.wipe σ vs := by
  apply List.ext_getElem?
  intro k
  rw [wipe_at, wipe_at]
  by_cases q : k = j
  · subst q
    rw [if_pos hj, if_pos hj]
    by_cases hl : k < σ.length
    · rw [List.getElem?_set_self hl, List.getElem?_eq_getElem hl]; rfl
    · rw [List.getElem?_eq_none (by rw [List.length_set]; omega), List.getElem?_eq_none (by omega)]
  · rw [List.getElem?_set_ne (Ne.symm q)]
theorem wipe_wipe {σ : L2.St} {vs : List Nat} : L2.wipe (L2.wipe σ vs) vs = L2.wipe σ vs := by
  apply List.ext_getElem?
  intro k
  rw [wipe_at, wipe_at]
  split
  · cases σ[k]? <;> rfl
  · rfl
def TGE (c : Cn) (g : TG) (d : Dt) (ρ : List Sl) (vs : List Nat) (k : List Sl → Prop) : Prop := ∀ hd H σ v (N : L2.St → Hp → Prop), SV c hd H σ ρ → Rp c.K (Hm hd H) v d → (∀ σ2 ρ2, k ρ2 → SV c hd H σ2 ρ2 → L2.wipe σ2 vs = L2.wipe σ vs → N σ2 H) → g v σ H N
theorem tge_name {j : Nat} {d : Dt} {vs : List Nat} {k : List Sl → Prop} (hj : j ∈ vs) (h : k (ρ.set j (.im d))) : TGE c (gName j) d ρ vs k := fun hd H σ v N s r q => q _ _ h (s.set j r) (wipe_set hj)
def TGsE (c : Cn) (g : TGs) (ds : List Dt) (ρ : List Sl) (vs : List Nat) (k : List Sl → Prop) : Prop := ∀ hd H σ ws (N : L2.St → Hp → Prop), SV c hd H σ ρ → RpAll c.K (Hm hd H) ws ds → (∀ σ2 ρ2, k ρ2 → SV c hd H σ2 ρ2 → L2.wipe σ2 vs = L2.wipe σ vs → N σ2 H) → g ws σ H N
theorem tgse_nil {vs : List Nat} {k : List Sl → Prop} (h : k ρ) : TGsE c gNil [] ρ vs k := fun hd H σ ws N s r q => by
  cases r
  exact ⟨rfl, q _ _ h s rfl⟩
theorem tgse_name {j : Nat} {d : Dt} {ds : List Dt} {gs : TGs} {vs : List Nat} {k : List Sl → Prop} (hj : j ∈ vs) (h : TGsE c gs ds (ρ.set j (.im d)) vs k) : TGsE c (gCons (gName j) gs) (d :: ds) ρ vs k := fun hd H σ ws N s r q => by
  cases r with
  | cons r1 r2 => exact ⟨_, _, rfl, h hd H _ _ N (s.set j r1) r2 fun σ2 ρ2 a b e => q σ2 ρ2 a b (e.trans (wipe_set hj))⟩
theorem tge_tup {n : Nat} {gs : TGs} {ds : List Dt} {vs : List Nat} {k : List Sl → Prop} (hn : ds.length = n) (h : TGsE c gs ds ρ vs k) : TGE c (gTup c.K n gs) (.tup ds) ρ vs k := fun hd H σ v N s r q => by
  cases r with
  | tup r1 r2 => exact ⟨_, _, rfl, sqt_hm r1, by rw [r2.length]; exact hn, h hd H σ _ N s r2 q⟩
theorem lc_at {J : It} {its : List Dt} {g : TG} {vs : List Nat} {hd : Addr → Bool} {H1 : Hp} {σ : L2.St} {Qh : VK} (v1 : SV c hd H1 σ ρ) (ok : ItOk c.K (Hm hd H1) J its) (hlen : its.length ≤ 100000) (I : Nat → List Dt → Prop) (i0 : I 0 [])
    (hstep : ∀ i d acc, its[i]? = some d → I i acc → TGE c g d (wipeS ρ vs) vs fun ρ' => EVT c t ρ' fun b => (b = true → EV c te ρ' fun y => I (i + 1) (acc ++ [y])) ∧ (b = false → I (i + 1) acc))
    (hend : ∀ acc L ws H2, I its.length acc → Ex c.mu H1 H2 → c.B (hide hd L) H2 → H1 L = none → H2 L = some (.lst ws) → RpAll c.K (Hm (hide hd L) H2) ws acc → Qh (.ref L) H2) :
    ∀ L, H1 L = none → ∃ W : Nat → Nat → Hp → Prop, (∃ m, W 0 m (upd H1 L (.lst []))) ∧ ∀ i m H, W i m H → (J.stop i H ∧ Qh (.ref L) H) ∨ (J.go i H ∧ ∃ Nx : Hp → Prop, (∀ H', Nx H' → ∃ m', m' < m ∧ W (i + 1) m' H') ∧
      ∀ x H', J.yld i H x H' → g x (L2.wipe σ vs) H' fun σ2 H2 => L2.wipe σ2 vs = L2.wipe σ vs ∧ t σ2 H2 fun b H3 => if b = true then te σ2 H3 fun y H4 => ∃ acc, H4 L = some (.lst acc) ∧ acc.length < sizeLine ∧ Nx (upd H4 L (.lst (acc ++ [y]))) else Nx H3) := by
  intro L hL
  have b1 := v1.inv
  refine ⟨fun i m H2 => m = its.length - i ∧ i ≤ its.length ∧ ∃ ws acc, I i acc ∧ acc.length ≤ i ∧ H2 L = some (.lst ws) ∧ Ex c.mu H1 H2 ∧ c.B (hide hd L) H2 ∧ RpAll c.K (Hm (hide hd L) H2) ws acc, ⟨its.length, rfl, Nat.zero_le _, [], [], i0, Nat.le_refl _, upd_same, (.new hL), c.keepN (.new hL) hL b1, .nil⟩, ?_⟩
  rintro i m H2 ⟨rfl, hi, ws, acc, hI, hal, hw, e2, b2, r2⟩
  have v2 : SV c (hide hd L) H2 σ ρ := v1.hide e2 b2 hL (by rw [hw]; exact fun z => nomatch z)
  have sub2 : Sub (Hm hd H1) (Hm (hide hd L) H2) := fun a o ha => by
    have h1 := hm_not ha
    have h2 := hm_le ha
    rw [hm_of (by rw [hide_ne (ne_of_none h2 hL)]; exact h1)]
    exact e2.keep a o (by
      cases q : c.mu a with
      | false => rfl
      | true => rw [v1.muh a q] at h1; cases h1) h2
  have sub2' : Sub (Hm hd H1) H2 := fun a o ha => hm_le (sub2 a o ha)
  have nmu : c.mu L = false := by
    cases q : c.mu L with
    | false => rfl
    | true => exact absurd hL (v1.dom L (v1.muh L q))
  by_cases hlt : i < its.length
  · refine .inr ⟨ok.go i H2 sub2' hlt, fun H3 => ∃ ws acc, I (i + 1) acc ∧ acc.length ≤ i + 1 ∧ H3 L = some (.lst ws) ∧ Ex c.mu H1 H3 ∧ c.B (hide hd L) H3 ∧ RpAll c.K (Hm (hide hd L) H3) ws acc, fun H3 hN => ⟨its.length - (i + 1), by omega, rfl, hlt, hN⟩, fun x H3 hy => ?_⟩
    obtain ⟨e3, r3⟩ := ok.yl i H2 x H3 its[i] sub2' (List.getElem?_eq_getElem hlt) hy
    have rx := r3 (hide hd L) v2.dom sub2
    have v3 := v2.go0 e3
    have e13 := e2.trans e3.up
    refine hstep i its[i] acc (List.getElem?_eq_getElem hlt) hI (hide hd L) H3 (L2.wipe σ vs) x _ (v3.wipe vs) rx fun σ2 ρ2 hk s2 ew => ⟨ew.trans wipe_wipe, ?_⟩
    refine hk (hide hd L) H3 σ2 s2 _ fun b H4 hb e4 b4 => ?_
    have hL4 : H4 L = some (.lst ws) := e4.keep L _ nmu (e3.keep L _ rfl hw)
    cases b with
    | true =>
      rw [if_pos rfl]
      refine hb.1 rfl (hide hd L) H4 σ2 (s2.go e4 b4) _ fun y w H5 hy5 e5 b5 r5 => ?_
      have hL5 : H5 L = some (.lst ws) := e5.keep L _ nmu hL4
      have r25 : RpAll c.K (Hm (hide hd L) H5) ws acc := ((r2.mono (e3.sees (fun _ h => nomatch h))).mono (e4.sees v3.muh)).mono (e5.sees v3.muh)
      refine ⟨ws, hL5, Evl.sz_lt (by rw [r2.length]; omega), ws ++ [w], acc ++ [y], hy5, by rw [List.length_append]; simp; omega, upd_same, ((e13.trans e4).trans e5).mut (.inl hL), ?_, ?_⟩
      · exact c.put hide_self nmu hL5 rfl b5
      · rw [hm_upd hide_self]
        exact r25.append (.cons r5 .nil)
    | false =>
      rw [if_neg Bool.false_ne_true]
      exact ⟨ws, acc, hb.2 rfl, by omega, hL4, e13.trans e4, b4, (r2.mono (e3.sees (fun _ h => nomatch h))).mono (e4.sees v3.muh)⟩
  · have e : i = its.length := by omega
    exact .inl ⟨ok.st i H2 sub2' e, hend acc L ws H2 (by rw [← e]; exact hI) e2 b2 hL hw r2⟩
theorem en_lc {wi : TI} {g : TG} {vs : List Nat} (h : IJ c wi ρ fun its => its.length ≤ 100000 ∧ ∃ I : Nat → List Dt → Prop, I 0 [] ∧
    (∀ i d acc, its[i]? = some d → I i acc → TGE c g d (wipeS ρ vs) vs fun ρ' => EVT c t ρ' fun b => (b = true → EV c te ρ' fun y => I (i + 1) (acc ++ [y])) ∧ (b = false → I (i + 1) acc)) ∧ ∀ acc, I its.length acc → Q acc) :
    EN c (tLc wi g t te vs) ρ Q := fun hd H σ v Qh q => by
  refine h hd H σ v _ fun its J H1 hq e1 b1 ok => ?_
  obtain ⟨hlen, I, i0, hstep, hend⟩ := hq
  exact lc_at (v.go e1 b1) ok hlen I i0 hstep fun acc L ws H2 hI e2 b2 hL hw r2 => q acc L ws H2 (hend acc hI) (e1.trans e2) b2 (e1.fresh hL) hw r2
end
end CC

/-! ### set(xs), xs a list of ints: its members, told apart (turned from what the layer has of tuples) -/
namespace CC
open PySem PySem.Spec PyProof.Rows L2
abbrev sob (w : World) : Obj := { cls := .type "set", dict := none, data := .set #[] 0 (.fresh 0 0 (!w.params.followText "set-order")) }
section
variable {P : Program} {w : World} {A : Around} {E : Value → Shared → Prop} {s : Shared}
theorem set_of_list {l : Addr} {items : Array Value} (ns : List Int) {Q : Value → Shared → Prop} (hh : A.handled = none)
    (hl : s.heap.IsList l items) (hit : IntsAre items.toList ns) (hb : ns.length + 1 < scanBound)
    (h : ∀ (h' : Heap) (tk c : Nat), SetR w h' s.heap.objs.size (fun j => decide (j ∈ ns)) c →
      (∀ b o, s.heap.get? b = some o → h'.get? b = some o) → Q (.ref s.heap.objs.size) { s with heap := h', toks := tk }) :
    wpAny (model P w) A (call (.type "set") [.ref l]) Q E s := by
  have hz : items.size = ns.length := by
    have q := IntsAre.length hit
    rw [Array.length_toList] at q
    exact q
  obtain ⟨mc, mt, hmro⟩ := F.called_set.mro
  have k1 := F.called_set.made
  have k2 := F.called_set.sub
  refine wpAny_call (codeAny_of_tree ?_)
  show wpAny _ _ (callAny (.type "set") _) _ _ _
  refine wpAny_pure ⟨Code.quiet_builtin _ (by decide +kernel),
    codeAny_builtin F.entry_type_call ?_⟩
  rw [Around.under_plain (weight_type_call_type "set" [.ref l] [])
    rfl]
  have k3 := F.called_set.notType
  have k4 := F.called_set.canCreate
  have k5 := F.typeCall_set_1 (.ref l)
  repeat (any_goals (first
    | assumption
    | wp_step))
  refine codeAny_mono (code_set_led1 (.ref l) (E := E)
    (Q₁ := fun ob sN => ob = .ref s.heap.objs.size ∧ sN = { s with heap := s.heap.push (sob w) }) ⟨rfl, rfl⟩) fun r sN hr => ?_
  cases r with
  | error e => exact hr
  | ok fl =>
    cases fl with
    | ret ob =>
      obtain ⟨rfl, rfl⟩ := hr
      have hS : (s.heap.push (sob w)).get? s.heap.objs.size = some (sob w) := Heap.get?_push_size _ rfl
      have hT : Shared.TypeIs { s with heap := s.heap.push (sob w) } (.ref s.heap.objs.size) "set" := ⟨_, hS, rfl⟩
      have k6 := F.called_set.init.lookup
      have k7 := F.called_set.init.bind (.ref s.heap.objs.size)
      repeat (any_goals (first
        | assumption
        | wp_step))
      refine codeAny_mono (codeAny_call_builtin
        (R := wants (fun r s2 => r = .none ∧ ∃ h' tk c, s2 = { s with heap := h', toks := tk } ∧
          SetR w h' s.heap.objs.size (fun j => decide (j ∈ ns)) c ∧ (∀ b o, s.heap.get? b = some o → h'.get? b = some o)) E)
        F.called_set.init.plain F.entry_set_init (check_set_init_1 hT ?_)) fun r2 s2 hr2 => ?_
      · obtain ⟨ol, hol, hcl, nl, hdl⟩ := hl
        obtain ⟨oc, od, odt, osl⟩ := ol
        simp only at hcl hdl
        subst hcl
        subst hdl
        have hol' : (s.heap.push (sob w)).get? l = some { cls := .type "list", dict := od, data := .seq items nl, slots := osl } :=
          Heap.get?_push_of_some _ hol
        have f1 := F.sub_list_set
        have f2 := F.sub_list_frozenset
        have f3 : (Value.type "list" == Value.type "dict") = false := by decide
        have hl1 : (s.heap.push (sob w)).IsList l items := ⟨_, hol', rfl, nl, rfl⟩
        unfold Builtin.«set.__init__» noKeywords
        unfold Builtin.Frozenset.updateFrom
        generalize hPI : pyIter = PI
        wp_walk
        subst hPI
        refine wpAny_pyIter_list hl1 ?_
        refine wpAny_bind (wpAny_runValue ?_)
        have lt0 : l < s.heap.objs.size := Heap.lt_size hol
        have ah : A.in1.in1.in1.handled = none := by simp [hh]
        have nI : l ≠ (s.heap.push (sob w)).objs.size := by
          rw [Heap.size_push]
          exact Nat.ne_of_lt (Nat.lt_succ_of_lt lt0)
        have nS : s.heap.objs.size ∉ [(s.heap.push (sob w)).objs.size, l] := by
          rw [Heap.size_push]
          simp only [List.mem_cons, List.mem_singleton, List.not_mem_nil, or_false, not_or]
          exact ⟨Nat.ne_of_lt (Nat.lt_succ_self _), Nat.ne_of_gt lt0⟩
        have at_ : ∀ (i : Nat) (v : Value), items[i]? = some v → ∃ k t, ns[i]? = some k ∧ v = .int k t := fun i v hv => by
          have hi : i < ns.length := by
            rw [← hz]
            exact (Array.getElem?_eq_some_iff.mp hv).1
          obtain ⟨t, e⟩ := PyProof.Rows.IntsAre.int_at hit i v (by
            rw [Array.getElem?_toList]
            exact hv)
          refine ⟨ns[i], t, List.getElem?_eq_getElem hi, ?_⟩
          rw [e, List.getD_eq_getElem?_getD, List.getElem?_eq_getElem hi] <;> rfl
        refine set_update_ints ((Walks.list ah _ l nI items).toS) s.heap.objs.size nS ns hz hb at_
          (items.size - 0) 0 _ (by omega) (Nat.zero_le _) ⟨⟨_, Heap.get?_push_size _ rfl, rfl, rfl⟩, (hl1.push _)⟩ ?hS0 ?hR
        case hS0 =>
          exact ⟨0, Nat.le_refl 0, setR_new_at (Heap.get?_push_of_some _ hS)⟩
        case hR =>
          intro s3 c3 hm hc3 hS3
          obtain ⟨h3, g3, d3, tk3, os3⟩ := s3
          have eg : g3 = s.gens := hm.gens
          have ed : d3 = s.drawn := hm.drawn
          have eo : os3 = s.os := hm.os
          subst eg
          subst ed
          subst eo
          show wpAny _ _ _ _ _ _
          refine wpAny_pure ?_
          show wpAny _ _ (ret Value.none) _ _ _
          refine wpAny_pure ⟨rfl, h3, tk3, c3, rfl, hS3, fun b o e => ?_⟩
          have b0 : b < s.heap.objs.size := Heap.lt_size e
          have b1 : b ≠ s.heap.objs.size := Nat.ne_of_lt b0
          have b2 : b ≠ (s.heap.push (sob w)).objs.size := by
            rw [Heap.size_push]
            exact Nat.ne_of_lt (Nat.lt_succ_of_lt b0)
          exact hm.heap b o (by
            simp only [List.mem_cons, List.mem_singleton, List.not_mem_nil, or_false, not_or]
            exact ⟨b1, b2⟩) (Heap.get?_push_of_some _ (Heap.get?_push_of_some _ e))
      · cases r2 with
        | error e => exact hr2
        | ok fl2 =>
          cases fl2 with
          | ret r =>
            obtain ⟨rfl, h', tk, c', rfl, hS', hk'⟩ := hr2
            repeat (any_goals (first
              | assumption
              | wp_step))
            exact h _ _ _ hS' hk'
          | _ => exact hr2.elim
    | _ => exact hr.elim
end
end CC

namespace CC
open PySem PySem.Spec PyProof.Rows L2
/-- a set's members, each once -/
theorem setR_keys {w : World} {h : Heap} {a : Addr} {S : Int → Bool} {n : Nat} (R : SetR w h a S n) : ∃ ks : List Int, ks.Nodup ∧ (∀ k, k ∈ ks ↔ S k = true) ∧ ks.length = n := by
  obtain ⟨o, es, ep, t, ho, hex, hd, g, nd, hm, hb, hf, hn, hr, hl⟩ := R
  exact ⟨es.toList.map keyOf, nd, fun k => (hm k).symm, by rw [List.length_map, Array.length_toList]; exact hn⟩
section
variable {X : Cx}
def rSetI (K : PySem.W.Frag) (w : World) : List V → Hp → VK → Prop := fun vs H Q => ∃ (a : Addr) (ns : List Int), vs = [.ref a] ∧ SqL K H a (ns.map V.int) ∧ ns.length ≤ 4000 ∧
  ∀ (p : Addr) (ks : List Int), H p = none → ks.Nodup → (∀ k, k ∈ ks ↔ k ∈ ns) → Q (.ref p) (upd H p (SetO w p (fun j => decide (j ∈ ns)) ks.length))
theorem cr_setI (hc : X.calm = true) : CallR X (.type "set") (rSetI X.K X.w) := by
  intro pins s σ H vs us Q I r h
  obtain ⟨a, ns, rfl, ha, hn, q⟩ := h
  obtain ⟨its, rI, pl, hz⟩ := I.list ha
  rw [Vals.ref1 r]
  refine set_of_list ns (I.ok.hd hc) pl.isList (by simpa using rI.ints) (by unfold scanBound; omega) fun h' tk cc hS hk => ?_
  obtain ⟨ks, k1, k2, k3⟩ := setR_keys hS
  have hf : H s.heap.objs.size = none := I.hok.fresh (Nat.le_refl _)
  refine ⟨.ref s.heap.objs.size, _, I.laid (t' := tk) hk (Nat.le_refl _) ?_, rfl, q s.heap.objs.size ks hf k1 (fun k => by rw [k2 k, decide_eq_true_iff]) ⟩
  rw [k3]
  exact setO_new hS
/-- len of such a set -/
def rLenSet (w : World) : List V → Hp → VK → Prop := fun vs H Q => ∃ (a : Addr) (S : Int → Bool) (n : Nat), vs = [.ref a] ∧ H a = some (SetO w a S n) ∧ Q (.int (n : Nat)) H
theorem cr_lenSet : CallR X (.builtin "len") (rLenSet X.w) := by
  intro pins s σ H vs us Q I r h
  obtain ⟨a, S, n, rfl, ha, q⟩ := h
  rw [Vals.ref1 r]
  obtain ⟨o, es, ep, t, ho, hex, hd, g, nd, hm, hb, hf, hn, hr, hl⟩ := setO_get I ha
  exact call_len_set ho hex hd hf (by unfold scanBound at hb; omega) ⟨.int (n : Nat), H, I.tok _, ⟨_, by rw [hn]⟩, q⟩
end
end CC

namespace CC
open PySem PySem.Spec PyProof.Rows L2

/-! ### operators, whatever the data: one rule a sign -/
def rAddI : R2 := rI0 fun i j => .int (i + j)
def rSubI : R2 := rI0 fun i j => .int (i - j)
def rMulI : R2 := rI CMul fun i j => .int (i * j)
def rDivI : R2 := rI CDivW fun i j => .int (i / j)
def rModI : R2 := rI (fun _ j => 0 < j) fun i j => .int (i % j)
def rAddS : R2 := fun x y H Q => ∃ i j, x = .str i ∧ y = .str j ∧ i.length + j.length ≤ sizeLine ∧ Q (.str (i ++ j)) H
def rAddU (K : PySem.W.Frag) : R2 := fun x y H Q => rAddI x y H Q ∨ rAddS x y H Q ∨ rCat x y H Q ∨ rCatA K x y H Q
def rMulU : R2 := fun x y H Q => rMulI x y H Q ∨ rRep x y H Q
def rLtI : R2 := rI0 fun i j => .bl (decide (i < j))
def rLeI : R2 := rI0 fun i j => .bl (decide (i ≤ j))
def rGtI : R2 := rI0 fun i j => .bl (decide (j < i))
def rGeI : R2 := rI0 fun i j => .bl (decide (j ≤ i))
def rLtS : R2 := fun x y H Q => ∃ i j, x = .str i ∧ y = .str j ∧ Q (.bl (decide (i.cps.toList < j.cps.toList))) H
def rLeS : R2 := fun x y H Q => ∃ i j, x = .str i ∧ y = .str j ∧ Q (.bl (!decide (j.cps.toList < i.cps.toList))) H
def rGtS : R2 := fun x y H Q => ∃ i j, x = .str i ∧ y = .str j ∧ Q (.bl (decide (j.cps.toList < i.cps.toList))) H
def rGeS : R2 := fun x y H Q => ∃ i j, x = .str i ∧ y = .str j ∧ Q (.bl (!decide (i.cps.toList < j.cps.toList))) H
def rLtU : R2 := fun x y H Q => rLtI x y H Q ∨ rLtS x y H Q
def rLeU : R2 := fun x y H Q => rLeI x y H Q ∨ rLeS x y H Q
def rGtU : R2 := fun x y H Q => rGtI x y H Q ∨ rGtS x y H Q
def rGeU : R2 := fun x y H Q => rGeI x y H Q ∨ rGeS x y H Q
def rEqU (K : PySem.W.Frag) : R2 := fun x y H Q => rEq x y H Q ∨ rEqD K x y H Q
def rNeU (K : PySem.W.Frag) : R2 := fun x y H Q => rNe x y H Q ∨ rNeD K x y H Q
def rIsU : R2 := fun x y H Q => y = .non ∧ Q (.bl (decide (x = .non))) H
def rIsNotU : R2 := fun x y H Q => y = .non ∧ Q (.bl (!decide (x = .non))) H
def rSgIn : R2 := fun x y H Q => ∃ (k : Nat) (z : Str), x = .str ⟨#[k]⟩ ∧ y = .str z ∧ Q (.bl (decide (k ∈ z.cps.toList))) H
def rSgNot : R2 := fun x y H Q => ∃ (k : Nat) (z : Str), x = .str ⟨#[k]⟩ ∧ y = .str z ∧ Q (.bl (!decide (k ∈ z.cps.toList))) H
def rInU (K : PySem.W.Frag) : R2 := fun x y H Q => rIn K false x y H Q ∨ rSgIn x y H Q
def rNotInU (K : PySem.W.Frag) : R2 := fun x y H Q => rIn K true x y H Q ∨ rSgNot x y H Q
section
variable {X : Cx}
theorem op_addU : OpR X (binaryOp .Add) (rAddU X.K) := op_add.or (op_add_str.or (op_cat.or op_catA))
theorem op_subU : OpR X (binaryOp .Sub) rSubI := op_sub
theorem op_mulU : OpR X (binaryOp .Mult) rMulU := op_mul.or op_rep
theorem op_divU : OpR X (binaryOp .FloorDiv) rDivI := op_fdivW
theorem op_modU : OpR X (binaryOp .Mod) rModI := op_mod
theorem op_ltU : OpR X (compareOp .Lt) rLtU := op_lt.or op_lt_str
theorem op_leU : OpR X (compareOp .LtE) rLeU := op_le.or op_le_str
theorem op_gtU : OpR X (compareOp .Gt) rGtU := op_gt.or op_gt_str
theorem op_geU : OpR X (compareOp .GtE) rGeU := op_ge.or op_ge_str
theorem op_eqU (hu : X.A.units + 64 < cLine) : OpR X (compareOp .Eq) (rEqU X.K) := op_eq.or (op_eqD hu)
theorem op_neU (hu : X.A.units + 64 < cLine) : OpR X (compareOp .NotEq) (rNeU X.K) := op_ne.or (op_neD hu)
theorem op_isU : OpR X (compareOp .Is) rIsU := op_isN
theorem op_isNotU : OpR X (compareOp .IsNot) rIsNotU := op_notN
theorem op_inU : OpR X (compareOp .In) (rInU X.K) := op_in_seq.or op_in_sign
theorem op_notInU : OpR X (compareOp .NotIn) (rNotInU X.K) := op_notIn_seq.or op_notIn_sign
end

/-! ### data as the model compares it -/
mutual
def py : Dt → PyData
  | .non => .none
  | .bl b => .bool b
  | .int i => .int i
  | .str x => .str x
  | .lst xs => .list (pyL xs)
  | .tup xs => .tuple (pyL xs)
  | .dk _ => .none
  | .dt _ => .none
  | .ob _ _ => .none
  | .xo _ _ => .none
def pyL : List Dt → List PyData
  | [] => []
  | x :: r => py x :: pyL r
end
inductive Sh : Nat → Dt → Prop
  | non {n : Nat} : Sh n .non
  | bl {n : Nat} (b : Bool) : Sh n (.bl b)
  | int {n : Nat} (i : Int) : Sh n (.int i)
  | str {n : Nat} {x : Str} (h : PyData.strOk x = true) : Sh n (.str x)
  | lst {n : Nat} {ds : List Dt} (h : ∀ d ∈ ds, Sh n d) : Sh (n + 1) (.lst ds)
  | tup {n : Nat} {ds : List Dt} (h : ∀ d ∈ ds, Sh n d) : Sh (n + 1) (.tup ds)
section
variable {K : PySem.W.Frag} {G : Hp}
theorem dp_all {n : Nat} (ih : ∀ v d, Sh n d → Rp K G v d → Dp K G v (py d)) : ∀ {vs : List V} {ds : List Dt}, (∀ d ∈ ds, Sh n d) → RpAll K G vs ds → DpAll K G vs (pyL ds)
  | _, _, _, .nil => .nil
  | _, _, h, .cons r t => .cons (ih _ _ (h _ List.mem_cons_self) r) (dp_all ih (fun d hd => h d (List.mem_cons_of_mem _ hd)) t)
theorem Rp.dp : ∀ (n : Nat) (v : V) (d : Dt), Sh n d → Rp K G v d → Dp K G v (py d)
  | _, _, _, .non, .non => .non
  | _, _, _, .bl b, .bl _ => .bl b
  | _, _, _, .int i, .int _ => .int i
  | _, _, _, .str _, .str x => .str x
  | n + 1, _, _, .lst h, .lst ha r => .lst (.inl (.inl ha)) (dp_all (Rp.dp n) h r)
  | n + 1, _, _, .tup h, .tup ha r => .tup ha (dp_all (Rp.dp n) h r)
theorem lay_all {n : Nat} (ih : ∀ d, Sh n d → PyData.canLay0 (py d) = true) : ∀ {ds : List Dt}, (∀ d ∈ ds, Sh n d) → PyData.canLayAll0 (pyL ds) = true
  | [], _ => rfl
  | d :: r, h => by
    show (PyData.canLay0 (py d) && PyData.canLayAll0 (pyL r)) = true
    rw [ih d (h d List.mem_cons_self), lay_all ih fun e he => h e (List.mem_cons_of_mem _ he)]; rfl
theorem Sh.lay : ∀ (n : Nat) (d : Dt), Sh n d → PyData.canLay0 (py d) = true
  | _, _, .non => rfl
  | _, _, .bl b => rfl
  | _, _, .int i => rfl
  | _, _, .str h => h
  | n + 1, _, .lst h => lay_all (Sh.lay n) h
  | n + 1, _, .tup h => lay_all (Sh.lay n) h
theorem depth_all {n : Nat} (ih : ∀ d, Sh n d → (py d).depth ≤ n) : ∀ {ds : List Dt}, (∀ d ∈ ds, Sh n d) → PyData.depthAll (pyL ds) ≤ n
  | [], _ => Nat.zero_le _
  | d :: r, h => by
    have h1 := ih d (h d List.mem_cons_self)
    have h2 := depth_all ih (ds := r) fun e he => h e (List.mem_cons_of_mem _ he)
    show max (py d).depth (PyData.depthAll (pyL r)) ≤ n
    omega
theorem Sh.deep : ∀ (n : Nat) (d : Dt), Sh n d → (py d).depth ≤ n
  | _, _, .non => Nat.zero_le _
  | _, _, .bl b => Nat.zero_le _
  | _, _, .int i => Nat.zero_le _
  | _, _, .str h => Nat.zero_le _
  | n + 1, _, .lst h => Nat.succ_le_succ (depth_all (Sh.deep n) h)
  | n + 1, _, .tup h => Nat.succ_le_succ (depth_all (Sh.deep n) h)
theorem Sh.shaped {n : Nat} {d : Dt} (h : Sh n d) (hn : n ≤ 64) : SeqAt.shaped (py d) = true := by
  unfold SeqAt.shaped
  rw [Sh.lay n d h, decide_eq_true (Nat.le_trans (Sh.deep n d h) hn)]
  rfl
theorem eqv_all {n : Nat} (ih : ∀ d, Sh n d → PyData.eqv (py d) (py d) = true) : ∀ {ds : List Dt}, (∀ d ∈ ds, Sh n d) → PyData.eqvAll (pyL ds) (pyL ds) = true
  | [], _ => rfl
  | d :: r, h => by
    show (PyData.eqv (py d) (py d) && PyData.eqvAll (pyL r) (pyL r)) = true
    rw [ih d (h d List.mem_cons_self), eqv_all ih fun e he => h e (List.mem_cons_of_mem _ he)]; rfl
theorem Sh.eqv : ∀ (n : Nat) (d : Dt), Sh n d → PyData.eqv (py d) (py d) = true
  | _, _, .non => rfl
  | _, _, .bl b => by show (b == b) = true; simp
  | _, _, .int i => by show (i == i) = true; simp
  | _, _, .str (x := x) h => by show (x == x) = true; simp
  | n + 1, _, .lst h => eqv_all (Sh.eqv n) h
  | n + 1, _, .tup h => eqv_all (Sh.eqv n) h
end
end CC

namespace CC
open PySem PySem.Spec PyProof.Rows L2
section
variable {c : Cn} {Q : Dt → Prop} {QL : List Dt → Prop} {i j : Int} {a b : Str} {ds es : List Dt}
theorem kv_here {hd : Addr → Bool} {H : Hp} {Qh : VK} (q : Kv c hd H Q Qh) (bb : c.B hd H) {d : Dt} {v : V} (h : Q d) (r : Rp c.K (Hm hd H) v d) : Qh v H := q d v H h .refl bb r
theorem rj_I0 {f : Int → Int → Int} (h : Q (.int (f i j))) : R2J c (rI0 fun i j => .int (f i j)) (.int i) (.int j) Q := fun hd H x y dom mh bb rx ry Qh q => by
  cases rx; cases ry
  exact ⟨i, j, rfl, rfl, kv_here q bb h (.int _)⟩
theorem rj_B0 {f : Int → Int → Bool} (h : Q (.bl (f i j))) : R2J c (rI0 fun i j => .bl (f i j)) (.int i) (.int j) Q := fun hd H x y dom mh bb rx ry Qh q => by
  cases rx; cases ry
  exact ⟨i, j, rfl, rfl, kv_here q bb h (.bl _)⟩
theorem rj_I {C : Int → Int → Prop} {f : Int → Int → Int} (hc : C i j) (h : Q (.int (f i j))) : R2J c (rI C fun i j => .int (f i j)) (.int i) (.int j) Q := fun hd H x y dom mh bb rx ry Qh q => by
  cases rx; cases ry
  exact ⟨i, j, rfl, rfl, hc, kv_here q bb h (.int _)⟩
theorem R2J.inl {r r' : R2} {d1 d2 : Dt} (h : R2J c r d1 d2 Q) : R2J c (fun x y H Q => r x y H Q ∨ r' x y H Q) d1 d2 Q := fun hd H x y dom mh bb rx ry Qh q => .inl (h hd H x y dom mh bb rx ry Qh q)
theorem R2J.inr {r r' : R2} {d1 d2 : Dt} (h : R2J c r' d1 d2 Q) : R2J c (fun x y H Q => r x y H Q ∨ r' x y H Q) d1 d2 Q := fun hd H x y dom mh bb rx ry Qh q => .inr (h hd H x y dom mh bb rx ry Qh q)
theorem R2N.inl {r r' : R2} {d1 d2 : Dt} (h : R2N c r d1 d2 QL) : R2N c (fun x y H Q => r x y H Q ∨ r' x y H Q) d1 d2 QL := fun hd H x y dom mh bb rx ry Qh q => .inl (h hd H x y dom mh bb rx ry Qh q)
theorem R2N.inr {r r' : R2} {d1 d2 : Dt} (h : R2N c r' d1 d2 QL) : R2N c (fun x y H Q => r x y H Q ∨ r' x y H Q) d1 d2 QL := fun hd H x y dom mh bb rx ry Qh q => .inr (h hd H x y dom mh bb rx ry Qh q)
theorem RCJ.inl {r r' : List V → Hp → VK → Prop} (h : RCJ c r ds Q) : RCJ c (fun x H Q => r x H Q ∨ r' x H Q) ds Q := fun hd H x dom mh bb rx Qh q => .inl (h hd H x dom mh bb rx Qh q)
theorem RCJ.inr {r r' : List V → Hp → VK → Prop} (h : RCJ c r' ds Q) : RCJ c (fun x H Q => r x H Q ∨ r' x H Q) ds Q := fun hd H x dom mh bb rx Qh q => .inr (h hd H x dom mh bb rx Qh q)
theorem sub_i (h : Q (.int (i - j))) : R2J c rSubI (.int i) (.int j) Q := rj_I0 h
theorem add_i (h : Q (.int (i + j))) : R2J c (rAddU c.K) (.int i) (.int j) Q := R2J.inl (rj_I0 h)
theorem mul_i (hc : CMul i j) (h : Q (.int (i * j))) : R2J c rMulU (.int i) (.int j) Q := R2J.inl (rj_I hc h)
theorem div_i (hc : CDivW i j) (h : Q (.int (i / j))) : R2J c rDivI (.int i) (.int j) Q := rj_I hc h
theorem mod_i (hc : 0 < j) (h : Q (.int (i % j))) : R2J c rModI (.int i) (.int j) Q := rj_I (C := fun _ j => 0 < j) hc h
theorem lt_i (h : Q (.bl (decide (i < j)))) : R2J c rLtU (.int i) (.int j) Q := R2J.inl (rj_B0 (f := fun i j => decide (i < j)) h)
theorem le_i (h : Q (.bl (decide (i ≤ j)))) : R2J c rLeU (.int i) (.int j) Q := R2J.inl (rj_B0 (f := fun i j => decide (i ≤ j)) h)
theorem gt_i (h : Q (.bl (decide (j < i)))) : R2J c rGtU (.int i) (.int j) Q := R2J.inl (rj_B0 (f := fun i j => decide (j < i)) h)
theorem ge_i (h : Q (.bl (decide (j ≤ i)))) : R2J c rGeU (.int i) (.int j) Q := R2J.inl (rj_B0 (f := fun i j => decide (j ≤ i)) h)
theorem eq_i (h : Q (.bl (decide (i = j)))) : R2J c (rEqU c.K) (.int i) (.int j) Q := fun hd H x y dom mh bb rx ry Qh q => by
  cases rx; cases ry
  refine .inl ⟨rfl, kv_here q bb h ?_⟩
  rw [show decide (V.int i = V.int j) = decide (i = j) from decide_eq_decide.mpr ⟨fun e => V.int.inj e, fun e => congrArg _ e⟩]
  exact .bl _
theorem ne_i (h : Q (.bl (!decide (i = j)))) : R2J c (rNeU c.K) (.int i) (.int j) Q := fun hd H x y dom mh bb rx ry Qh q => by
  cases rx; cases ry
  refine .inl ⟨rfl, kv_here q bb h ?_⟩
  rw [show decide (V.int i = V.int j) = decide (i = j) from decide_eq_decide.mpr ⟨fun e => V.int.inj e, fun e => congrArg _ e⟩]
  exact .bl _
theorem eq_s (h : Q (.bl (decide (a = b)))) : R2J c (rEqU c.K) (.str a) (.str b) Q := fun hd H x y dom mh bb rx ry Qh q => by
  cases rx; cases ry
  refine .inl ⟨rfl, kv_here q bb h ?_⟩
  rw [show decide (V.str a = V.str b) = decide (a = b) from decide_eq_decide.mpr ⟨fun e => V.str.inj e, fun e => congrArg _ e⟩]
  exact .bl _
theorem ne_s (h : Q (.bl (!decide (a = b)))) : R2J c (rNeU c.K) (.str a) (.str b) Q := fun hd H x y dom mh bb rx ry Qh q => by
  cases rx; cases ry
  refine .inl ⟨rfl, kv_here q bb h ?_⟩
  rw [show decide (V.str a = V.str b) = decide (a = b) from decide_eq_decide.mpr ⟨fun e => V.str.inj e, fun e => congrArg _ e⟩]
  exact .bl _
theorem eq_b {p q : Bool} (h : Q (.bl (decide (p = q)))) : R2J c (rEqU c.K) (.bl p) (.bl q) Q := fun hd H x y dom mh bb rx ry Qh z => by
  cases rx; cases ry
  refine .inl ⟨rfl, kv_here z bb h ?_⟩
  rw [show decide (V.bl p = V.bl q) = decide (p = q) from decide_eq_decide.mpr ⟨fun e => V.bl.inj e, fun e => congrArg _ e⟩]
  exact .bl _
theorem ne_b {p q : Bool} (h : Q (.bl (!decide (p = q)))) : R2J c (rNeU c.K) (.bl p) (.bl q) Q := fun hd H x y dom mh bb rx ry Qh z => by
  cases rx; cases ry
  refine .inl ⟨rfl, kv_here z bb h ?_⟩
  rw [show decide (V.bl p = V.bl q) = decide (p = q) from decide_eq_decide.mpr ⟨fun e => V.bl.inj e, fun e => congrArg _ e⟩]
  exact .bl _
theorem dp_mono {K : PySem.W.Frag} {hd : Addr → Bool} {H : Hp} {v : V} {d : Dt} {n : Nat} (s : Sh n d) (r : Rp K (Hm hd H) v d) : Dp K H v (py d) := Rp.dp n v d s (r.mono sees_le)
theorem eq_d {d e : Dt} {n m : Nat} (s1 : Sh n d) (s2 : Sh m e) (hn : n ≤ 64) (hm : m ≤ 64) (h : Q (.bl (PyData.eqv (py d) (py e)))) : R2J c (rEqU c.K) d e Q := fun hd H x y dom mh bb rx ry Qh q =>
  .inr ⟨py d, py e, dp_mono s1 rx, dp_mono s2 ry, s1.shaped hn, s2.shaped hm, kv_here q bb h (.bl _)⟩
theorem ne_d {d e : Dt} {n m : Nat} (s1 : Sh n d) (s2 : Sh m e) (hn : n ≤ 64) (hm : m ≤ 64) (h : Q (.bl (!PyData.eqv (py d) (py e)))) : R2J c (rNeU c.K) d e Q := fun hd H x y dom mh bb rx ry Qh q =>
  .inr ⟨py d, py e, dp_mono s1 rx, dp_mono s2 ry, s1.shaped hn, s2.shaped hm, kv_here q bb h (.bl _)⟩
def isNon : Dt → Bool
  | .non => true
  | _ => false
theorem rp_isNon {K : PySem.W.Frag} {G : Hp} {v : V} {d : Dt} (r : Rp K G v d) : decide (v = .non) = isNon d := by cases r <;> rfl
theorem is_n {d : Dt} (h : Q (.bl (isNon d))) : R2J c rIsU d .non Q := fun hd H x y dom mh bb rx ry Qh q => by
  cases ry
  exact ⟨rfl, by rw [rp_isNon rx]; exact kv_here q bb h (.bl _)⟩
theorem isnot_n {d : Dt} (h : Q (.bl (!isNon d))) : R2J c rIsNotU d .non Q := fun hd H x y dom mh bb rx ry Qh q => by
  cases ry
  exact ⟨rfl, by rw [rp_isNon rx]; exact kv_here q bb h (.bl _)⟩
/-! sequences -/
theorem add_l (hz : ds.length + es.length ≤ 100000) (h : QL (ds ++ es)) : R2N c (rAddU c.K) (.lst ds) (.lst es) QL := fun hd H x y dom mh bb rx ry Qh q => by
  cases rx with
  | lst ha ra =>
    cases ry with
    | lst hb rb =>
      rename_i p xs p' ys
      refine .inr (.inr (.inl ⟨p, p', xs, ys, rfl, rfl, hm_le ha, hm_le hb, Evl.sz_of (by rw [ra.length, rb.length]; exact hz), fun o ho => ?_⟩))
      exact q (ds ++ es) o (xs ++ ys) _ h (.new ho) (c.keepN (.new ho) ho bb) ho upd_same ((ra.append rb).mono (sees_new (.new ho (mu := none0)) (fun _ h => nomatch h) ho))
theorem add_t (hz : ds.length + es.length ≤ 100000) (h : Q (.tup (ds ++ es))) : R2J c (rAddU c.K) (.tup ds) (.tup es) Q := fun hd H x y dom mh bb rx ry Qh q => by
  cases rx with
  | tup ha ra =>
    cases ry with
    | tup hb rb =>
      rename_i p xs p' ys
      refine .inr (.inr (.inr ⟨p, p', xs, ys, rfl, rfl, sqt_hm ha, sqt_hm hb, Evl.sz_of (by rw [ra.length, rb.length]; exact hz), fun e => ?_, fun _ e => ?_, fun _ _ o ho => ?_⟩))
      · subst e
        cases ra
        exact kv_here q bb h (.tup hb rb)
      · subst e
        cases rb
        rw [List.append_nil] at h
        exact kv_here q bb h (.tup ha ra)
      · refine q _ (.ref o) _ h (.new ho) (c.keep0 (.new ho) bb) (.tup (xs := xs ++ ys) (.inl (.inl ?_)) ((ra.append rb).mono ((Ex.new ho (mu := none0)).sees (fun _ h => nomatch h))))
        rw [hm_of (fresh_hd dom ho), upd_same]
theorem mul_l {k : Int} (hk : k ≤ 1000000 ∧ -1000000 ≤ k) (hz : ds.length * k.toNat ≤ 100000) (h : QL (List.replicate k.toNat ds).flatten) : R2N c rMulU (.lst ds) (.int k) QL := fun hd H x y dom mh bb rx ry Qh q => by
  cases ry
  cases rx with
  | lst ha ra =>
    rename_i p xs
    refine .inr ⟨p, k, xs, rfl, rfl, hm_le ha, by omega, by omega, Evl.sz_of (by rw [ra.length]; exact hz), fun o ho => ?_⟩
    exact q _ o _ _ h (.new ho) (c.keepN (.new ho) ho bb) ho upd_same ((ra.rep _).mono (sees_new (.new ho (mu := none0)) (fun _ h => nomatch h) ho))
theorem atI_rp {K : PySem.W.Frag} {G : Hp} {vs : List V} {ds : List Dt} {k : Int} {d : Dt} (r : RpAll K G vs ds) (h : atI ds k = some d) : ∃ v, atI vs k = some v ∧ Rp K G v d := by
  unfold atI at h
  cases hx : ixN ds.length k with
  | none => rw [hx] at h; cases h
  | some j =>
    rw [hx] at h
    obtain ⟨v, hv, rv⟩ := r.get (show ds[j]? = some d from h)
    refine ⟨v, ?_, rv⟩
    unfold atI
    rw [r.length, hx]
    exact hv
theorem ix_l {k : Int} {d : Dt} (hk : atI ds k = some d) (h : Q d) : R2J c (rIx c.K) (.lst ds) (.int k) Q := fun hd H x y dom mh bb rx ry Qh q => by
  cases ry
  cases rx with
  | lst ha ra =>
    obtain ⟨v, hv, rv⟩ := atI_rp ra hk
    exact .inl ⟨_, _, k, v, rfl, rfl, .inl (.inl (hm_le ha)), hv, kv_here q bb h rv⟩
theorem ix_t {k : Int} {d : Dt} (hk : atI ds k = some d) (h : Q d) : R2J c (rIx c.K) (.tup ds) (.int k) Q := fun hd H x y dom mh bb rx ry Qh q => by
  cases ry
  cases rx with
  | tup ha ra =>
    obtain ⟨v, hv, rv⟩ := atI_rp ra hk
    exact .inr (.inl ⟨_, _, k, v, rfl, rfl, sqt_hm ha, hv, kv_here q bb h rv⟩)
theorem rix_ac {K : PySem.W.Frag} (p : Addr) (xs : List V) (k : Int) (v : V) (H : Hp) (Qh : VK) (hp : H p = some (.lst xs)) (h : atI xs k = some v) (q : Qh v H) : rIx K (.ref p) (.int k) H Qh := .inl ⟨p, xs, k, v, rfl, rfl, .inl (.inl hp), h, q⟩
def cutD (xs : List Dt) (lo hi : Option Int) : List Dt := (xs.drop (HT.sIx xs.length 0 lo)).take (HT.sIx xs.length xs.length hi - HT.sIx xs.length 0 lo)
theorem cut_rp {K : PySem.W.Frag} {G : Hp} {vs : List V} {ds : List Dt} (r : RpAll K G vs ds) (lo hi : Option Int) : RpAll K G (cutV vs lo hi) (cutD ds lo hi) := by
  unfold cutV cutD
  rw [r.length]
  exact (r.drop _).take _
variable {ρ : List Sl} {te ta tb : TE} {tl th : TO}
theorem en_sl (h : EV c te ρ (LstJ fun ds => EVO c tl ρ fun lo => EVO c th ρ fun hi => QL (cutD ds lo hi))) : EN c (tSl (rSlL c.K) te tl th) ρ QL := fun hd H σ v Qh q => h hd H σ v _ fun d x H1 h1 e1 b1 r1 => by
  cases d with
  | lst ds =>
    refine h1 hd H1 σ (v.go e1 b1) _ fun lo H2 h2 e2 b2 => h2 hd H2 σ ((v.go e1 b1).go e2 b2) _ fun hi H3 h3 e3 b3 => ?_
    have e13 := (e1.trans e2).trans e3
    cases (r1.mono ((e2.trans e3).sees v.muh)) with
    | lst ha ra =>
      refine ⟨_, _, rfl, .inl (.inl (hm_le ha)), fun o ho => ?_⟩
      exact q _ o _ _ h3 (e13.trans (.new ho)) (c.keepN (.new ho) ho b3) (e13.fresh ho) upd_same ((cut_rp ra lo hi).mono (sees_new (.new ho (mu := none0)) (fun _ h => nomatch h) ho))
  | _ => exact h1.elim
theorem en_rev (h : EV c te ρ (LstJ fun ds => QL ds.reverse)) : EN c (tRevL c.K te) ρ QL := fun hd H σ v Qh q => h hd H σ v _ fun d x H1 h1 e1 b1 r1 => by
  cases d with
  | lst ds =>
    cases r1 with
    | lst ha ra =>
      refine ⟨_, _, rfl, .inl (.inl (hm_le ha)), fun o ho => ?_⟩
      exact q _ o _ _ h1 (e1.trans (.new ho)) (c.keepN (.new ho) ho b1) (e1.fresh ho) upd_same (ra.rev.mono (sees_new (.new ho (mu := none0)) (fun _ h => nomatch h) ho))
  | _ => exact h1.elim
end
end CC

namespace CC
open PySem PySem.Spec PyProof.Rows L2
/-! ### built-in functions by data -/
def rLenU (K : PySem.W.Frag) : List V → Hp → VK → Prop := fun xs H Q => (∃ p ys, xs = [.ref p] ∧ (SqL K H p ys ∨ SqT K H p ys) ∧ Q (.int ys.length) H) ∨ (∃ z, xs = [.str z] ∧ z.length ≤ sizeLine ∧ Q (.int z.length) H) ∨ (∃ a kvs, xs = [V.ref a] ∧ H a = some (.dK kvs) ∧ Q (.int kvs.length) H)
def rListU (K : PySem.W.Frag) : List V → Hp → VK → Prop := fun xs H Q => ∃ p ys, xs = [.ref p] ∧ (SqL K H p ys ∨ SqT K H p ys) ∧ ∀ l, H l = none → Q (.ref l) (upd H l (.lst ys))
def rTupleU (K : PySem.W.Frag) : List V → Hp → VK → Prop := fun xs H Q => ∃ p ys, xs = [.ref p] ∧ ((SqL K H p ys ∧ ∀ l, H l = none → Q (.ref l) (upd H l (.tup ys))) ∨ (SqT K H p ys ∧ Q (.ref p) H))
def rMin2 : List V → Hp → VK → Prop := fun xs H Q => ∃ i j, xs = [.int i, .int j] ∧ Q (.int (if j < i then j else i)) H
def rMax2 : List V → Hp → VK → Prop := fun xs H Q => ∃ i j, xs = [.int i, .int j] ∧ Q (.int (if j > i then j else i)) H
def rInt1 : List V → Hp → VK → Prop := fun xs H Q => (∃ i, xs = [.int i] ∧ Q (.int i) H) ∨ ∃ k, xs = [.bl k] ∧ Q (.int (if k then 1 else 0)) H
section
variable {X : Cx}
theorem cl_len : CallR X (.builtin "len") (rLenU X.K) := call_len_seq.or (call_len_str.or call_lenD)
theorem cl_list : CallR X (.type "list") (rListU X.K) := call_list_of
theorem cl_tuple : CallR X (.type "tuple") (rTupleU X.K) := call_tuple_of
theorem cl_min2 (hc : X.calm = true) : CallR X (.builtin "min") rMin2 := call_min2 hc
theorem cl_max2 (hc : X.calm = true) : CallR X (.builtin "max") rMax2 := call_max2 hc
theorem cl_int1 : CallR X (.type "int") rInt1 := call_int1
end
section
variable {c : Cn} {Q : Dt → Prop} {QL : List Dt → Prop} {i j : Int} {ds es : List Dt} {ns : List Int}
theorem rp1 {K : PySem.W.Frag} {G : Hp} {vs : List V} {d : Dt} (r : RpAll K G vs [d]) : ∃ v, vs = [v] ∧ Rp K G v d := by
  cases r with
  | cons r1 r2 => cases r2; exact ⟨_, rfl, r1⟩
theorem len_l (h : Q (.int ds.length)) : RCJ c (rLenU c.K) [.lst ds] Q := fun hd H vs dom mh bb r Qh q => by
  obtain ⟨v, rfl, r1⟩ := rp1 r
  cases r1 with
  | lst ha ra => exact .inl ⟨_, _, rfl, .inl (.inl (.inl (hm_le ha))), by rw [ra.length]; exact kv_here q bb h (.int _)⟩
theorem len_t (h : Q (.int ds.length)) : RCJ c (rLenU c.K) [.tup ds] Q := fun hd H vs dom mh bb r Qh q => by
  obtain ⟨v, rfl, r1⟩ := rp1 r
  cases r1 with
  | tup ha ra => exact .inl ⟨_, _, rfl, .inr (sqt_hm ha), by rw [ra.length]; exact kv_here q bb h (.int _)⟩
theorem len_s {x : Str} (hz : x.length ≤ 100000) (h : Q (.int x.length)) : RCJ c (rLenU c.K) [.str x] Q := fun hd H vs dom mh bb r Qh q => by
  obtain ⟨v, rfl, r1⟩ := rp1 r
  cases r1
  exact .inr (.inl ⟨_, rfl, Evl.sz_of hz, kv_here q bb h (.int _)⟩)
theorem list_l (h : QL ds) : RCN c (rListU c.K) [.lst ds] QL := fun hd H vs dom mh bb r Qh q => by
  obtain ⟨v, rfl, r1⟩ := rp1 r
  cases r1 with
  | lst ha ra => exact ⟨_, _, rfl, .inl (.inl (.inl (hm_le ha))), fun o ho => q _ o _ _ h (.new ho) (c.keepN (.new ho) ho bb) ho upd_same (ra.mono (sees_new (.new ho (mu := none0)) (fun _ h => nomatch h) ho))⟩
theorem list_t (h : QL ds) : RCN c (rListU c.K) [.tup ds] QL := fun hd H vs dom mh bb r Qh q => by
  obtain ⟨v, rfl, r1⟩ := rp1 r
  cases r1 with
  | tup ha ra => exact ⟨_, _, rfl, .inr (sqt_hm ha), fun o ho => q _ o _ _ h (.new ho) (c.keepN (.new ho) ho bb) ho upd_same (ra.mono (sees_new (.new ho (mu := none0)) (fun _ h => nomatch h) ho))⟩
theorem tuple_l (h : Q (.tup ds)) : RCJ c (rTupleU c.K) [.lst ds] Q := fun hd H vs dom mh bb r Qh q => by
  obtain ⟨v, rfl, r1⟩ := rp1 r
  cases r1 with
  | lst ha ra =>
    refine ⟨_, _, rfl, .inl ⟨.inl (.inl (hm_le ha)), fun o ho => ?_⟩⟩
    refine q _ (.ref o) _ h (.new ho) (c.keep0 (.new ho) bb) (.tup (.inl (.inl ?_)) (ra.mono ((Ex.new ho (mu := none0)).sees (fun _ h => nomatch h))))
    rw [hm_of (fresh_hd dom ho), upd_same]
theorem tuple_t (h : Q (.tup ds)) : RCJ c (rTupleU c.K) [.tup ds] Q := fun hd H vs dom mh bb r Qh q => by
  obtain ⟨v, rfl, r1⟩ := rp1 r
  cases r1 with
  | tup ha ra => exact ⟨_, _, rfl, .inr ⟨sqt_hm ha, kv_here q bb h (.tup ha ra)⟩⟩
theorem lst_ints {K : PySem.W.Frag} {hd : Addr → Bool} {H : Hp} {v : V} (r : Rp K (Hm hd H) v (.lst (ns.map Dt.int))) : ∃ a, v = .ref a ∧ H a = some (.lst (ns.map V.int)) := by
  cases r with
  | lst ha ra => rw [ra.ints] at ha; exact ⟨_, rfl, hm_le ha⟩
theorem min_l (hn : ns ≠ []) (h : ∀ m, m ∈ ns → (∀ y ∈ ns, m ≤ y) → Q (.int m)) : RCJ c (rMin c.K) [.lst (ns.map Dt.int)] Q := fun hd H vs dom mh bb r Qh q => by
  obtain ⟨v, rfl, r1⟩ := rp1 r
  obtain ⟨a, rfl, ha⟩ := lst_ints r1
  exact ⟨a, ns, rfl, .inl (.inl ha), List.length_pos_iff.mpr hn, fun m h1 h2 => kv_here q bb (h m h1 h2) (.int _)⟩
theorem max_l (hn : ns ≠ []) (h : ∀ m, m ∈ ns → (∀ y ∈ ns, y ≤ m) → Q (.int m)) : RCJ c (rMax c.K) [.lst (ns.map Dt.int)] Q := fun hd H vs dom mh bb r Qh q => by
  obtain ⟨v, rfl, r1⟩ := rp1 r
  obtain ⟨a, rfl, ha⟩ := lst_ints r1
  exact ⟨a, ns, rfl, .inl (.inl ha), List.length_pos_iff.mpr hn, fun m h1 h2 => kv_here q bb (h m h1 h2) (.int _)⟩
theorem sum_l (h : Q (.int ns.sum)) : RCJ c (rSum c.K) [.lst (ns.map Dt.int)] Q := fun hd H vs dom mh bb r Qh q => by
  obtain ⟨v, rfl, r1⟩ := rp1 r
  obtain ⟨a, rfl, ha⟩ := lst_ints r1
  exact ⟨a, ns, rfl, .inl (.inl ha), kv_here q bb h (.int _)⟩
theorem min2_i (h : Q (.int (if j < i then j else i))) : RCJ c rMin2 [.int i, .int j] Q := fun hd H vs dom mh bb r Qh q => by
  rw [rp_ints2 r]
  exact ⟨i, j, rfl, kv_here q bb h (.int _)⟩
theorem max2_i (h : Q (.int (if j > i then j else i))) : RCJ c rMax2 [.int i, .int j] Q := fun hd H vs dom mh bb r Qh q => by
  rw [rp_ints2 r]
  exact ⟨i, j, rfl, kv_here q bb h (.int _)⟩
theorem int_b {k : Bool} (h : Q (.int (if k then 1 else 0))) : RCJ c rInt1 [.bl k] Q := fun hd H vs dom mh bb r Qh q => by
  obtain ⟨v, rfl, r1⟩ := rp1 r
  cases r1
  exact .inr ⟨k, rfl, kv_here q bb h (.int _)⟩
/-! sorted(set(xs)), len(set(xs)): the set is met on the way only -/
theorem nodup_le : ∀ (ks ns : List Int), ks.Nodup → (∀ k ∈ ks, k ∈ ns) → ks.length ≤ ns.length
  | [], _, _, _ => Nat.zero_le _
  | k :: r, ns, h, hs => by
    obtain ⟨h1, h2⟩ := List.nodup_cons.mp h
    have hk := hs k List.mem_cons_self
    have ih := nodup_le r (ns.erase k) h2 fun x hx => (List.mem_erase_of_ne fun e => h1 (by rw [← e]; exact hx)).mpr (hs x (List.mem_cons_of_mem _ hx))
    rw [List.length_erase_of_mem hk] at ih
    have := List.length_pos_of_mem hk
    rw [List.length_cons]
    omega
theorem en_sortedSet {w : World} {ta : TA} {ρ : List Sl} (h : EVA c ta ρ fun ds => ∃ ns : List Int, ds = [.lst (ns.map Dt.int)] ∧ ns.length < 64 ∧ ∀ us : List Int, us.Pairwise (· < ·) → (∀ k, k ∈ us ↔ k ∈ ns) → QL (us.map Dt.int)) :
    EN c (tCB (rSortedSet w) (tCons (tCB (rSetI c.K w) ta) tNil)) ρ QL := fun hd H σ v Qh q => h hd H σ v _ fun ds vs H1 h1 e1 b1 r1 => by
  obtain ⟨ns, rfl, hl, hq⟩ := h1
  obtain ⟨x, rfl, rx⟩ := rp1 r1
  obtain ⟨a, rfl, ha⟩ := lst_ints rx
  refine ⟨a, ns, rfl, .inl (.inl ha), by omega, fun p ks hp k1 k2 => ?_⟩
  have hks : ks.length ≤ ns.length := by
    exact nodup_le ks ns k1 fun k hk => (k2 k).mp hk
  refine ⟨p, _, _, rfl, upd_same, by omega, fun us o h1 h2 h3 ho => ?_⟩
  have hq2 := hq us h1 fun k => by rw [h2 k, decide_eq_true_iff]
  have e2 : Ex none0 H1 (upd H1 p (SetO w p (fun j => decide (j ∈ ns)) ks.length)) := .new hp
  exact q _ o _ _ hq2 ((e1.trans e2.up).trans (.new ho)) (c.keepN (.new ho) ho (c.keep0 e2 b1)) ((e1.trans e2.up).fresh ho) upd_same (.ofInts us)
theorem ev_lenSet {w : World} {ta : TA} {ρ : List Sl} (h : EVA c ta ρ fun ds => ∃ ns : List Int, ds = [.lst (ns.map Dt.int)] ∧ ns.length ≤ 4000 ∧ ∀ us : List Int, us.Nodup → (∀ k, k ∈ us ↔ k ∈ ns) → Q (.int us.length)) :
    EV c (tCB (rLenSet w) (tCons (tCB (rSetI c.K w) ta) tNil)) ρ Q := fun hd H σ v Qh q => h hd H σ v _ fun ds vs H1 h1 e1 b1 r1 => by
  obtain ⟨ns, rfl, hl, hq⟩ := h1
  obtain ⟨x, rfl, rx⟩ := rp1 r1
  obtain ⟨a, rfl, ha⟩ := lst_ints rx
  refine ⟨a, ns, rfl, .inl (.inl ha), hl, fun p ks hp k1 k2 => ⟨p, _, _, rfl, upd_same, ?_⟩⟩
  have e2 : Ex none0 H1 (upd H1 p (SetO w p (fun j => decide (j ∈ ns)) ks.length)) := .new hp
  exact q _ _ _ (hq ks k1 k2) (e1.trans e2.up) (c.keep0 e2 b1) (.int _)
/-! isinstance(x, T), T built-in -/
def tyD : Dt → String
  | .non => "NoneType"
  | .bl _ => "bool"
  | .int _ => "int"
  | .str _ => "str"
  | .lst _ => "list"
  | .tup _ => "tuple"
  | .dk _ => "dict"
  | .dt _ => "dict"
  | .ob _ _ => "object"
  | .xo _ _ => "object"
def noT : Dt → Bool
  | .dt _ => false
  | .ob _ _ => false
  | .xo _ _ => false
  | _ => true
theorem rp_ty {K : PySem.W.Frag} {hd : Addr → Bool} {H : Hp} {v : V} {d : Dt} (hn : noT d = true) (r : Rp K (Hm hd H) v d) : TyX K H v (.type (tyD d)) := by
  cases r with
  | non => exact .base .non
  | bl b => exact .base (.bl b)
  | int b => exact .base (.int b)
  | str b => exact .base (.str b)
  | lst ha _ => exact .base (.lst (hm_le ha))
  | tup ha _ =>
    rcases ha with (ha | ⟨o, ha⟩) | ⟨o, its, n, h1, h2, h3⟩
    · exact .base (.tup (hm_le ha))
    · exact .fTuple (hm_le ha)
    · exact .kTuple h1 h2
  | dk ha _ =>
    rcases ha with ha | ⟨o, ha⟩
    · exact .base (.dK (hm_le ha))
    · exact .fDict (hm_le ha)
  | dt => cases hn
  | ob => cases hn
  | xo => cases hn
theorem ev_isi {ta : TE} {T : String} {ρ : List Sl} (h : EV c ta ρ fun d => noT d = true ∧ ∃ b, kitB (tyD d) T = some b ∧ Q (.bl b)) : EV c (tCB (rIsi c.K) (tCons ta (tCons (tC (.ty T)) tNil))) ρ Q := fun hd H σ v Qh q => h hd H σ v _ fun d x H1 h1 e1 b1 r1 => by
  obtain ⟨hn, b, hb, hq⟩ := h1
  exact ⟨x, .ty T, _, _, b, rfl, .ty T, rp_ty hn r1, kit_ty hb, q _ _ H1 hq e1 b1 (.bl _)⟩
/-! xs.index(x), ints -/
theorem ev_index {K : PySem.W.Frag} {to te : TE} {ρ : List Sl} (hK : K = c.K) (h : EV c to ρ fun d => ∃ ns : List Int, d = .lst (ns.map Dt.int) ∧ EV c te ρ fun e => ∃ (x : Int) (j : Nat), e = .int x ∧ ns[j]? = some x ∧ (∀ m, m < j → ns[m]? ≠ some x) ∧ Q (.int (j : Nat))) :
    EV c (tBM K "list" (rIndex K) to (tCons te tNil)) ρ Q := fun hd H σ v Qh q => h hd H σ v _ fun d x H1 h1 e1 b1 r1 => by
  subst hK
  obtain ⟨ns, rfl, h2⟩ := h1
  obtain ⟨a, rfl, ha⟩ := lst_ints r1
  refine ⟨.inl ⟨rfl, _, .inl (.inl ha)⟩, h2 hd H1 σ (v.go e1 b1) _ fun e y H2 h3 e2 b2 r2 => ?_⟩
  obtain ⟨x, j, rfl, hj, hno, hq⟩ := h3
  cases r2
  have ha2 : H2 a = some (.lst (ns.map V.int)) := by
    have r1' := r1.mono (e2.sees v.muh)
    obtain ⟨a', e, h⟩ := lst_ints r1'
    cases e
    exact h
  refine ⟨a, ns.map V.int, .int x, j, .int x, rfl, rfl, .inl (.inl ha2), rfl, ?_, by rw [List.getElem?_map, hj]; rfl, by show (x == x) = true; simp, fun m z' hm hz => ?_, q _ _ H2 hq (e1.trans e2) b2 (.int _)⟩
  · rw [List.all_eq_true]
    intro z hz
    obtain ⟨n, _, rfl⟩ := List.mem_map.mp hz
    rfl
  · rw [List.getElem?_map] at hz
    cases hm' : ns[m]? with
    | none => rw [hm'] at hz; cases hz
    | some n =>
      rw [hm'] at hz
      cases hz
      have : n ≠ x := fun e => hno m hm (by rw [hm', e])
      show (n == x) = false
      simpa using this
end

/-! ### promises of defs over data -/
def spP (K : PySem.W.Frag) (S : List Dt → (Dt → Prop) → Prop) : Sp := fun vs H Qh _ => ∃ hid ds Q, (∀ a, hid a = true → H a ≠ none) ∧ RpAll K (Hm hid H) vs ds ∧ S ds Q ∧ ∀ d v H', Q d → Ex none0 H H' → Rp K (Hm hid H') v d → Qh v H'
def spPN (K : PySem.W.Frag) (S : List Dt → (List Dt → Prop) → Prop) : Sp := fun vs H Qh _ => ∃ hid ds Q, (∀ a, hid a = true → H a ≠ none) ∧ RpAll K (Hm hid H) vs ds ∧ S ds Q ∧
  ∀ es o ws H', Q es → Ex none0 H H' → H o = none → H' o = some (.lst ws) → RpAll K (Hm (hide hid o) H') ws es → Qh (.ref o) H'
structure RetOk (c : Cn) (hid : Addr → Bool) (H0 : Hp) (Q : Dt → Prop) (D : Ends) : Prop where
  rt : ∀ d, Q d → RJ c hid H0 D.rt d
  nx : Q .non → ∀ ρ, NJ c hid H0 D.nx ρ
structure RetN (c : Cn) (hid : Addr → Bool) (H0 : Hp) (Q : List Dt → Prop) (D : Ends) : Prop where
  rt : ∀ d, Q d → RNJ c hid H0 D.rt d
def startS (N : List Str) (ds : List Dt) : List Sl := ds.map Sl.im ++ List.replicate (N.length - ds.length) .un
section
variable {K : PySem.W.Frag} {c : Cn} {Q : Dt → Prop} {QL : List Dt → Prop} {ds : List Dt}
theorem sp_j {S : List Dt → (Dt → Prop) → Prop} {E : XK} (h : S ds Q) : SpJ c (spP c.K S) E ds Q := fun hd H vs dom mh bb r Qh q => ⟨hd, ds, Q, dom, r, h, fun d v H' hq e => q d v H' hq e.up (c.keep0 e bb)⟩
theorem sp_n {S : List Dt → (List Dt → Prop) → Prop} {E : XK} (h : S ds QL) : SpN c (spPN c.K S) E ds QL := fun hd H vs dom mh bb r Qh q => ⟨hd, ds, QL, dom, r, h, fun es o ws H' hq e ho => q es o ws H' hq e.up (c.keepN e ho bb) ho⟩
theorem sp_nj {S : List Dt → (List Dt → Prop) → Prop} {E : XK} (h : S ds fun es => Q (.lst es)) : SpJ c (spPN c.K S) E ds Q := RCN.j (sp_n h)
theorem slall_im {hd : Addr → Bool} {H : Hp} : ∀ {vs : List V} {ds : List Dt} {n : Nat}, RpAll c.K (Hm hd H) vs ds → SlAll c hd H (vs.map some ++ List.replicate n none) (ds.map Sl.im ++ List.replicate n .un)
  | _, _, n, .nil => by
    show SlAll c hd H (List.replicate n none) (List.replicate n .un)
    induction n with
    | zero => exact .nil
    | succ n ih =>
      rw [List.replicate_succ, List.replicate_succ]
      exact .cons trivial ih
  | _, _, n, .cons r t => .cons r (slall_im t)
theorem owns_im {ds : List Dt} {n i : Nat} {s : Sl} (h : (ds.map Sl.im ++ List.replicate n .un)[i]? = some s) : owns s = false := by
  rcases List.mem_append.mp (List.mem_of_getElem? h) with h | h
  · obtain ⟨d, _, rfl⟩ := List.mem_map.mp h
    rfl
  · rw [(List.mem_replicate.mp h).2]; rfl
theorem sd_start {hid : Addr → Bool} {H : Hp} {N : List Str} {vs : List V} (dom : ∀ a, hid a = true → H a ≠ none) (muh : ∀ a, c.mu a = true → hid a = true) (b : c.B hid H) (r : RpAll c.K (Hm hid H) vs ds) : SD c hid hid H H (L2.start N vs) (startS N ds) := by
  have hl := r.length
  refine ⟨⟨dom, muh, b, ?_⟩, fun _ h => h, .refl, fun a h1 h2 => (by rw [h1] at h2; cases h2), fun i j o h1 => ?_, fun i o h1 => ?_⟩
  · unfold L2.start startS
    rw [hl]
    exact slall_im r
  · obtain ⟨_, s, h2, h3⟩ := h1
    rw [owns_im h2] at h3; cases h3
  · obtain ⟨_, s, h2, h3⟩ := h1
    rw [owns_im h2] at h3; cases h3
end
section
variable {P : Program} {w : World} {K : PySem.W.Frag} {mg : Str → Option Value} {base : Heap}
abbrev cxD (P : Program) (w : World) (K : PySem.W.Frag) (mg : Str → Option Value) (base : Heap) (N : List Str) (qual : Str) (st : Stmt) (f : Addr) (cdv : Value) (A : Around) (outer : List Env) (s : Shared) (H : Hp) (E : XK) : Cx := (cxOf CX0 P w K mg base N qual (defScope st) f cdv A outer s H E).nox
theorem fn_pure {x qual : Str} {st : Stmt} {f : Addr} {fd : FuncData} {N ps : List Str} {k : Nat} {S : List Dt → (Dt → Prop) → Prop} (F : Fun K x qual st f fd) (Sc : FnScope N ps (defScope st)) (len : ∀ ds Q, S ds Q → ds.length = ps.length)
    (hb : ∀ (cdv : Value) (A : Around) (outer : List Env) (s : Shared) (H : Hp) (E : XK), Room k (A.deeper (envOfC qual (defScope st) s.heap.objs.size f cdv)) →
      ∃ t, PSs (cxD P w K mg base N qual st f cdv A outer s H E) (defBody st) t ∧ ∀ ds Q, S ds Q → ∀ hid H0 (D : Ends), (∀ a, hid a = true → H0 a ≠ none) → RetOk (Cn.pure K) hid H0 Q D → NJ (Cn.pure K) hid H0 (t D) (startS N ds)) :
    FnOk P w K mg base CX0 (k + 1) f fd ps (spP K S) := by
  refine F.ok Sc (fun vs H Q E h => ?_) (fun cdv A outer s H vs Q E hr h => ?_)
  · obtain ⟨hid, ds, Q', _, r, hS, _⟩ := h
    rw [r.length]
    exact len ds Q' hS
  · obtain ⟨hid, ds, Q', dom, r, hS, q⟩ := h
    obtain ⟨t, ht, hn⟩ := hb cdv A outer s H E hr
    refine ⟨t, ht, hn ds Q' hS hid H _ dom ⟨fun d hd v H' e _ r => q d v H' hd e r, fun hd ρ hd' H' σ sd => q .non .non H' hd sd.ext .non⟩ hid H _ (sd_start dom (fun _ h => nomatch h) trivial r)⟩
theorem fn_pureN {x qual : Str} {st : Stmt} {f : Addr} {fd : FuncData} {N ps : List Str} {k : Nat} {S : List Dt → (List Dt → Prop) → Prop} (F : Fun K x qual st f fd) (Sc : FnScope N ps (defScope st)) (len : ∀ ds Q, S ds Q → ds.length = ps.length)
    (hb : ∀ (cdv : Value) (A : Around) (outer : List Env) (s : Shared) (H : Hp) (E : XK), Room k (A.deeper (envOfC qual (defScope st) s.heap.objs.size f cdv)) →
      ∃ t, PSs (cxD P w K mg base N qual st f cdv A outer s H E) (defBody st) t ∧ ∀ ds Q, S ds Q → ∀ hid H0 (D : Ends), (∀ a, hid a = true → H0 a ≠ none) → RetN (Cn.pure K) hid H0 Q D → NJ (Cn.pure K) hid H0 (t D) (startS N ds)) :
    FnOk P w K mg base CX0 (k + 1) f fd ps (spPN K S) := by
  refine F.ok Sc (fun vs H Q E h => ?_) (fun cdv A outer s H vs Q E hr h => ?_)
  · obtain ⟨hid, ds, Q', _, r, hS, _⟩ := h
    rw [r.length]
    exact len ds Q' hS
  · obtain ⟨hid, ds, Q', dom, r, hS, q⟩ := h
    obtain ⟨t, ht, hn⟩ := hb cdv A outer s H E hr
    exact ⟨t, ht, hn ds Q' hS hid H { nx := fun _ H' => Q .non H', rt := Q } dom ⟨fun d hd o vs H' e _ => q d o vs H' hd e⟩ hid H _ (sd_start dom (fun _ h => nomatch h) trivial r)⟩
end
end CC

namespace CC
open PySem PySem.Spec PyProof.Rows L2
open C8 (Cal pe_c pe_gc)
theorem fun_of {K : PySem.W.Frag} {x : Str} {st : Stmt} {f : Addr} {fd : FuncData} (F : FunD K x x (defArgs st) (defBody st) (defScope st) [] [] f fd) : Fun K x x st f fd := by
  obtain ⟨oc, od, dV, kV, doc, pm, an, cdv, ct, osl, e, lk, hc, hd, _⟩ := F.ex
  rcases hd with ⟨_, h⟩ | ⟨h, _⟩
  · subst h
    exact ⟨⟨oc, od, kV, doc, pm, an, cdv, ct, osl, e, lk, hc⟩, F.kp⟩
  · exact absurd rfl h
/-- a def of the text -/
def FnAt (K : PySem.W.Frag) (mg : Str → Option Value) (x : Str) (st : Stmt) (ps : List Str) : Prop := ∃ f fd, mg x = some (.ref f) ∧ Fun K x x st f fd ∧ Binds K fd ps []
section
variable {P : Program} {w : World} {K : PySem.W.Frag} {mg : Str → Option Value} {base : Heap}
theorem cal_pure {x : Str} {st : Stmt} {N ps : List Str} {k : Nat} {S : List Dt → (Dt → Prop) → Prop} (F : FnAt K mg x st ps) (Sc : FnScope N ps (defScope st)) (len : ∀ ds Q, S ds Q → ds.length = ps.length)
    (hb : ∀ (f : Addr) (cdv : Value) (A : Around) (outer : List Env) (s : Shared) (H : Hp) (E : XK), Room k (A.deeper (envOfC x (defScope st) s.heap.objs.size f cdv)) →
      ∃ t, PSs (cxD P w K mg base N x st f cdv A outer s H E) (defBody st) t ∧ ∀ ds Q, S ds Q → ∀ hid H0 (D : Ends), (∀ a, hid a = true → H0 a ≠ none) → RetOk (Cn.pure K) hid H0 Q D → NJ (Cn.pure K) hid H0 (t D) (startS N ds)) :
    Cal P w K mg base (k + 1) x (spP K S) [] := by
  obtain ⟨f, fd, hm, F, b⟩ := F
  exact ⟨⟨f, fd, ps, [], fn_pure F Sc len (hb f), hm, F.kp, b, .nil⟩⟩
theorem cal_pureN {x : Str} {st : Stmt} {N ps : List Str} {k : Nat} {S : List Dt → (List Dt → Prop) → Prop} (F : FnAt K mg x st ps) (Sc : FnScope N ps (defScope st)) (len : ∀ ds Q, S ds Q → ds.length = ps.length)
    (hb : ∀ (f : Addr) (cdv : Value) (A : Around) (outer : List Env) (s : Shared) (H : Hp) (E : XK), Room k (A.deeper (envOfC x (defScope st) s.heap.objs.size f cdv)) →
      ∃ t, PSs (cxD P w K mg base N x st f cdv A outer s H E) (defBody st) t ∧ ∀ ds Q, S ds Q → ∀ hid H0 (D : Ends), (∀ a, hid a = true → H0 a ≠ none) → RetN (Cn.pure K) hid H0 Q D → NJ (Cn.pure K) hid H0 (t D) (startS N ds)) :
    Cal P w K mg base (k + 1) x (spPN K S) [] := by
  obtain ⟨f, fd, hm, F, b⟩ := F
  exact ⟨⟨f, fd, ps, [], fn_pureN F Sc len (hb f), hm, F.kp, b, .nil⟩⟩
theorem Cal.up {k j : Nat} {x : Str} {sp : Sp} {dvs : List V} (c : Cal P w K mg base k x sp dvs) (h : k ≤ j) : Cal P w K mg base j x sp dvs := by
  obtain ⟨f, fd, ps, ds, F, a⟩ := c.ex
  exact ⟨⟨f, fd, ps, ds, F.mono h, a⟩⟩
theorem et_yes {c : Cn} {ρ : List Sl} {Q : Bool → Prop} (h : Q true) : EVT c tYes ρ Q := fun hd H σ v Qh q => q true H h .refl v.inv
end
end CC

namespace CC
open PySem PySem.Spec PyProof.Rows L2
section
variable {c : Cn} {ρ : List Sl} {ta : TE} {Q : Dt → Prop}
theorem ev_neg (h : EV c ta ρ (IntJ fun i => Q (.int (-i)))) : EV c (tUn (rU fun i => .int (-i)) ta) ρ Q := fun hd H σ v Qh q => h hd H σ v _ fun d x H1 h1 e1 b1 r1 => by
  cases d with
  | int i => exact ⟨i, rp_int r1, q _ _ H1 h1 e1 b1 (.int _)⟩
  | _ => exact h1.elim
theorem ev_ixA {tb : TE} {i : Nat} {ds : List Dt} (hi : ρ[i]? = some (.ac ds)) (h : EV c tb ρ (IntJ fun k => ∃ d, atI ds k = some d ∧ Q d)) : EV c (tOp (rIx c.K) (tVar i) tb) ρ Q := ev_ixAc rix_ac hi h
theorem atI_nat' {α : Type} {xs : List α} {j : Nat} {x : α} (h : xs[j]? = some x) : atI xs (j : Int) = some x := atI_nat h
theorem pure_K {K : PySem.W.Frag} : (Cn.pure K).K = K := rfl
end
end CC

/-! ### the mathematics of packed numbers -/
namespace CC
def powB (b : Int) : Nat → Int → List Int
  | 0, x => [x]
  | n + 1, x => if x * b * b ≤ 10000 then x :: powB b n (x * b) else [x]
def pows (b : Int) : List Int := powB b 14 1
def perB (b : Int) : Nat := (pows b).length
theorem powB_len (b : Int) : ∀ n x, 1 ≤ (powB b n x).length
  | 0, _ => Nat.le_refl _
  | n + 1, x => by
    unfold powB
    split
    · rw [List.length_cons]; omega
    · exact Nat.le_refl _
theorem perB_pos (b : Int) : 1 ≤ perB b := powB_len b 14 1
theorem powB_at (b : Int) : ∀ (n : Nat) (x : Int) (k : Nat), k < (powB b n x).length → (powB b n x)[k]? = some (x * b ^ k)
  | 0, x, k, h => by
    have : k = 0 := by
      have : k < 1 := h
      omega
    subst this
    show some x = some (x * b ^ 0)
    rw [Int.pow_zero, Int.mul_one]
  | n + 1, x, k, h => by
    unfold powB at h ⊢
    split at h
    · rename_i hc
      rw [if_pos hc]
      cases k with
      | zero => rw [Int.pow_zero, Int.mul_one]; rfl
      | succ k =>
        have hk : k < (powB b n (x * b)).length := by
          rw [List.length_cons] at h; omega
        rw [List.getElem?_cons_succ, powB_at b n (x * b) k hk, Int.pow_succ, Int.mul_assoc, Int.mul_comm b]
    · rename_i hc
      rw [if_neg hc]
      have : k = 0 := by
        have : k < 1 := h
        omega
      subst this
      show some x = some (x * b ^ 0)
      rw [Int.pow_zero, Int.mul_one]
theorem pows_at {b : Int} {k : Nat} (h : k < perB b) : (pows b)[k]? = some (b ^ k) := by
  have := powB_at b 14 1 k h
  rw [Int.one_mul] at this
  exact this
theorem powB_le {b : Int} (hb : 2 ≤ b) : ∀ (n : Nat) (x : Int), 1 ≤ x → x * b ≤ 10000 → ∀ p ∈ powB b n x, 1 ≤ p ∧ p * b ≤ 10000
  | 0, x, h1, h2, p, hp => by
    rw [List.mem_singleton.mp hp]; exact ⟨h1, h2⟩
  | n + 1, x, h1, h2, p, hp => by
    unfold powB at hp
    split at hp
    · rename_i hc
      rcases List.mem_cons.mp hp with rfl | hp
      · exact ⟨h1, h2⟩
      · refine powB_le hb n (x * b) ?_ hc p hp
        have : x * 1 ≤ x * b := Int.mul_le_mul_of_nonneg_left (by omega) (by omega)
        omega
    · rw [List.mem_singleton.mp hp]; exact ⟨h1, h2⟩
theorem pows_le {b p : Int} (hb : 2 ≤ b) (hb2 : b ≤ 10000) (hp : p ∈ pows b) : 1 ≤ p ∧ p ≤ 10000 := by
  obtain ⟨h1, h2⟩ := powB_le hb 14 1 (by omega) (by omega) p hp
  refine ⟨h1, ?_⟩
  have : p * 1 ≤ p * b := Int.mul_le_mul_of_nonneg_left (by omega) (by omega)
  omega
theorem pow_le {b : Int} (hb : 2 ≤ b) (hb2 : b ≤ 10000) {k : Nat} (h : k < perB b) : 1 ≤ b ^ k ∧ b ^ k ≤ 10000 := pows_le hb hb2 (List.mem_of_getElem? (pows_at h))

/-! chunks and their worth -/
def dsum (b : Int) : List Int → Int
  | [] => 0
  | x :: r => x + b * dsum b r
theorem dsum_snoc (b x : Int) : ∀ l : List Int, dsum b (l ++ [x]) = dsum b l + x * b ^ l.length
  | [] => by
    show x + b * 0 = 0 + x * b ^ 0
    rw [Int.pow_zero]; omega
  | y :: r => by
    show y + b * dsum b (r ++ [x]) = y + b * dsum b r + x * b ^ (r.length + 1)
    rw [dsum_snoc b x r, Int.pow_succ, Int.mul_add, Int.add_assoc, ← Int.mul_assoc x, Int.mul_comm (x * b ^ r.length) b]
def chunks (n : Nat) (l : List Int) : List (List Int) :=
  if h : l = [] ∨ n = 0 then [] else l.take n :: chunks n (l.drop n)
termination_by l.length
decreasing_by
  simp only [not_or] at h
  have : 0 < l.length := List.length_pos_iff.mpr h.1
  rw [List.length_drop]; omega
theorem chunks_nil (n : Nat) : chunks n [] = [] := by rw [chunks, dif_pos (.inl rfl)]
theorem chunks_cons {n : Nat} {l : List Int} (hn : 0 < n) (h : l ≠ []) : chunks n l = l.take n :: chunks n (l.drop n) := by
  rw [chunks, dif_neg (by simp only [not_or]; exact ⟨h, by omega⟩)]
theorem chunks_small {n : Nat} {l : List Int} (hn : 0 < n) (h : l ≠ []) (hl : l.length ≤ n) : chunks n l = [l] := by
  rw [chunks_cons hn h, List.take_of_length_le hl, List.drop_of_length_le hl, chunks_nil]
theorem chunks_len {n : Nat} (hn : 0 < n) : ∀ (m : Nat) (l : List Int), l.length ≤ m → (chunks n l).length = (l.length + n - 1) / n
  | m, [], _ => by
    rw [chunks_nil]
    show 0 = (0 + n - 1) / n
    rw [Nat.div_eq_of_lt (by omega)]
  | 0, x :: r, h => by simp at h
  | m + 1, x :: r, h => by
    rw [chunks_cons hn (by simp), List.length_cons, chunks_len hn m _ (by rw [List.length_drop]; rw [List.length_cons] at h ⊢; omega), List.length_drop]
    by_cases hl : (x :: r).length ≤ n
    · rw [Nat.sub_eq_zero_of_le hl, Nat.div_eq_of_lt (by omega)]
      rw [List.length_cons] at hl ⊢
      rw [show r.length + 1 + n - 1 = r.length + n by omega]
      rw [Nat.add_div_right _ hn, Nat.div_eq_of_lt (by omega)]
    · rw [show (x :: r).length + n - 1 = ((x :: r).length - n + n - 1) + n by omega, Nat.add_div_right _ hn]
/-- one more at the end -/
theorem chunks_snoc {n : Nat} (hn : 0 < n) (x : Int) : ∀ (m : Nat) (l : List Int), l.length ≤ m →
    (l.length % n = 0 → chunks n (l ++ [x]) = chunks n l ++ [[x]]) ∧
    (l.length % n ≠ 0 → ∃ cs ch, chunks n l = cs ++ [ch] ∧ ch.length = l.length % n ∧ chunks n (l ++ [x]) = cs ++ [ch ++ [x]])
  | m, [], _ => by
    refine ⟨fun _ => ?_, fun h => absurd (Nat.zero_mod n) h⟩
    rw [chunks_nil]
    exact chunks_small hn (by simp) (by simp; omega)
  | 0, y :: r, h => by simp at h
  | m + 1, y :: r, h => by
    by_cases hl : (y :: r).length < n
    · refine ⟨fun e => ?_, fun _ => ⟨[], y :: r, ?_, ?_, ?_⟩⟩
      · rw [Nat.mod_eq_of_lt hl] at e; simp at e
      · exact chunks_small hn (by simp) (by omega)
      · rw [Nat.mod_eq_of_lt hl]
      · exact chunks_small hn (by simp) (by rw [List.length_append]; simp at hl ⊢; omega)
    · have hle : n ≤ (y :: r).length := by omega
      have e1 : chunks n (y :: r) = (y :: r).take n :: chunks n ((y :: r).drop n) := chunks_cons hn (by simp)
      have e2 : chunks n (y :: r ++ [x]) = (y :: r).take n :: chunks n ((y :: r).drop n ++ [x]) := by
        rw [chunks_cons hn (by simp), List.take_append_of_le_length hle, List.drop_append_of_le_length hle]
      have hd : ((y :: r).drop n).length = (y :: r).length - n := List.length_drop
      have hmod : ((y :: r).drop n).length % n = (y :: r).length % n := by
        rw [hd, ← Nat.mod_eq_sub_mod hle]
      obtain ⟨i1, i2⟩ := chunks_snoc hn x m ((y :: r).drop n) (by rw [hd]; rw [List.length_cons] at h ⊢; omega)
      refine ⟨fun e => ?_, fun e => ?_⟩
      · rw [e1, e2, i1 (by rw [hmod]; exact e)]; rfl
      · obtain ⟨cs, ch, h1, h2, h3⟩ := i2 (by rw [hmod]; exact e)
        exact ⟨(y :: r).take n :: cs, ch, by rw [e1, h1]; rfl, by rw [h2, hmod], by rw [e2, h3]; rfl⟩
/-- the chunk at a place -/
theorem chunks_at {n : Nat} (hn : 0 < n) : ∀ (m : Nat) (l : List Int) (k : Nat), l.length ≤ m → k < l.length → (chunks n l)[k / n]? = some ((l.drop (n * (k / n))).take n)
  | _, [], k, _, hk => by simp at hk
  | 0, x :: r, k, h, _ => by simp at h
  | m + 1, x :: r, k, h, hk => by
    rw [chunks_cons hn (by simp)]
    by_cases hkn : k < n
    · rw [Nat.div_eq_of_lt hkn, Nat.mul_zero]; rfl
    · have e : k / n = (k - n) / n + 1 := by rw [Nat.div_eq_sub_div hn (by omega)]
      rw [e, List.getElem?_cons_succ, chunks_at hn m _ (k - n) (by rw [List.length_drop]; rw [List.length_cons] at h ⊢; omega) (by rw [List.length_drop]; omega), List.drop_drop, Nat.mul_add, Nat.mul_one, Nat.add_comm n]
/-- a digit back -/
theorem dsum_digit {b : Int} (hb : 2 ≤ b) : ∀ (l : List Int) (k : Nat), (∀ x ∈ l, 0 ≤ x ∧ x < b) → dsum b l / b ^ k % b = l.getD k 0
  | [], k, _ => by
    show (0 : Int) / b ^ k % b = _
    rw [Int.zero_ediv]; simp
  | x :: r, 0, h => by
    obtain ⟨h1, h2⟩ := h x List.mem_cons_self
    show (x + b * dsum b r) / b ^ 0 % b = x
    rw [Int.pow_zero, Int.ediv_one, Int.add_mul_emod_self_left, Int.emod_eq_of_lt h1 h2]
  | x :: r, k + 1, h => by
    obtain ⟨h1, h2⟩ := h x List.mem_cons_self
    show (x + b * dsum b r) / b ^ (k + 1) % b = r.getD k 0
    have e : (x + b * dsum b r) / b = dsum b r := by
      rw [Int.add_mul_ediv_left _ _ (by omega), Int.ediv_eq_zero_of_lt h1 h2, Int.zero_add]
    rw [show b ^ (k + 1) = b * b ^ k by rw [Int.pow_succ, Int.mul_comm], ← Int.ediv_ediv_of_nonneg (by omega), e, dsum_digit hb r k fun y hy => h y (List.mem_cons_of_mem _ hy)]
def packI (b : Int) (vs : List Int) : List Int := (chunks (perB b) vs).map (dsum b)
theorem packI_len (b : Int) (vs : List Int) : (packI b vs).length = (vs.length + perB b - 1) / perB b := by
  unfold packI
  rw [List.length_map, chunks_len (perB_pos b) _ vs (Nat.le_refl _)]
theorem packI_get {b : Int} (hb : 2 ≤ b) {vs : List Int} (h : ∀ x ∈ vs, 0 ≤ x ∧ x < b) {k : Nat} (hk : k < vs.length) : ∃ cl, (packI b vs)[k / perB b]? = some cl ∧ cl / b ^ (k % perB b) % b = vs[k] := by
  have hn := perB_pos b
  refine ⟨dsum b ((vs.drop (perB b * (k / perB b))).take (perB b)), ?_, ?_⟩
  · unfold packI
    rw [List.getElem?_map, chunks_at hn _ vs k (Nat.le_refl _) hk]; rfl
  · rw [dsum_digit hb _ _ fun x hx => h x (List.mem_of_mem_drop (List.mem_of_mem_take hx))]
    have hm := Nat.mod_lt k (show perB b > 0 by omega)
    have hdm := Nat.div_add_mod k (perB b)
    rw [List.getD_eq_getElem?_getD, List.getElem?_take, if_pos hm, List.getElem?_drop, hdm, List.getElem?_eq_getElem hk]; rfl
end CC

/-! ### unlike values, ends, steps -/
namespace CC
def ins (x : Int) : List Int → List Int
  | [] => [x]
  | y :: r => if x < y then x :: y :: r else if x = y then y :: r else y :: ins x r
def uniq (vs : List Int) : List Int := vs.foldr ins []
theorem mem_ins {x k : Int} : ∀ {l : List Int}, k ∈ ins x l ↔ k = x ∨ k ∈ l
  | [] => by simp [ins]
  | y :: r => by
    unfold ins
    split
    · simp
    · split
      · rename_i e
        subst e
        simp
      · simp only [List.mem_cons, mem_ins (l := r)]
        constructor
        · rintro (h | h | h)
          · exact .inr (.inl h)
          · exact .inl h
          · exact .inr (.inr h)
        · rintro (h | h | h)
          · exact .inr (.inl h)
          · exact .inl h
          · exact .inr (.inr h)
theorem pw_ins {x : Int} : ∀ {l : List Int}, l.Pairwise (· < ·) → (ins x l).Pairwise (· < ·)
  | [], _ => by simp [ins]
  | y :: r, h => by
    obtain ⟨h1, h2⟩ := List.pairwise_cons.mp h
    unfold ins
    split
    · rename_i hx
      refine List.pairwise_cons.mpr ⟨fun z hz => ?_, h⟩
      rcases List.mem_cons.mp hz with rfl | hz
      · exact hx
      · have := h1 z hz; omega
    · split
      · exact h
      · rename_i h3 h4
        refine List.pairwise_cons.mpr ⟨fun z hz => ?_, pw_ins h2⟩
        rcases mem_ins.mp hz with rfl | hz
        · omega
        · exact h1 z hz
theorem mem_uniq {k : Int} : ∀ {vs : List Int}, k ∈ uniq vs ↔ k ∈ vs
  | [] => by simp [uniq]
  | x :: r => by
    show k ∈ ins x (uniq r) ↔ _
    rw [mem_ins, mem_uniq, List.mem_cons]
theorem pw_uniq : ∀ (vs : List Int), (uniq vs).Pairwise (· < ·)
  | [] => .nil
  | x :: r => pw_ins (pw_uniq r)
theorem pw_eq : ∀ {us ws : List Int}, us.Pairwise (· < ·) → ws.Pairwise (· < ·) → (∀ k, k ∈ us ↔ k ∈ ws) → us = ws
  | [], [], _, _, _ => rfl
  | [], w :: r, _, _, h => by simpa using (h w).mpr List.mem_cons_self
  | u :: r, [], _, _, h => by simpa using (h u).mp List.mem_cons_self
  | u :: r, w :: s, hu, hw, h => by
    obtain ⟨u1, u2⟩ := List.pairwise_cons.mp hu
    obtain ⟨w1, w2⟩ := List.pairwise_cons.mp hw
    have e : u = w := by
      rcases List.mem_cons.mp ((h u).mp List.mem_cons_self) with e | e
      · exact e
      · rcases List.mem_cons.mp ((h w).mpr List.mem_cons_self) with e2 | e2
        · exact e2.symm
        · have := w1 u e; have := u1 w e2; omega
    subst e
    rw [pw_eq u2 w2 fun k => ?_]
    constructor
    · intro hk
      rcases List.mem_cons.mp ((h k).mp (List.mem_cons_of_mem _ hk)) with e | e
      · have := u1 k hk; omega
      · exact e
    · intro hk
      rcases List.mem_cons.mp ((h k).mpr (List.mem_cons_of_mem _ hk)) with e | e
      · have := w1 k hk; omega
      · exact e
theorem uniq_is {us vs : List Int} (h1 : us.Pairwise (· < ·)) (h2 : ∀ k, k ∈ us ↔ k ∈ vs) : us = uniq vs := pw_eq h1 (pw_uniq vs) fun k => by rw [h2, mem_uniq]
theorem nodup_of_pw : ∀ {l : List Int}, l.Pairwise (· < ·) → l.Nodup
  | [], _ => .nil
  | x :: r, h => by
    obtain ⟨h1, h2⟩ := List.pairwise_cons.mp h
    exact List.nodup_cons.mpr ⟨fun hx => by have := h1 x hx; omega, nodup_of_pw h2⟩
theorem nodup_len_le : ∀ (ks ns : List Int), ks.Nodup → (∀ k ∈ ks, k ∈ ns) → ks.length ≤ ns.length
  | [], _, _, _ => Nat.zero_le _
  | k :: r, ns, h, hs => by
    obtain ⟨h1, h2⟩ := List.nodup_cons.mp h
    have hk := hs k List.mem_cons_self
    have ih := nodup_len_le r (ns.erase k) h2 fun x hx => (List.mem_erase_of_ne fun e => h1 (by rw [← e]; exact hx)).mpr (hs x (List.mem_cons_of_mem _ hx))
    rw [List.length_erase_of_mem hk] at ih
    have := List.length_pos_of_mem hk
    rw [List.length_cons]
    omega
theorem uniq_len {us vs : List Int} (h1 : us.Nodup) (h2 : ∀ k, k ∈ us ↔ k ∈ vs) : us.length = (uniq vs).length := by
  have a := nodup_len_le us (uniq vs) h1 fun k hk => mem_uniq.mpr ((h2 k).mp hk)
  have b := nodup_len_le (uniq vs) us (nodup_of_pw (pw_uniq vs)) fun k hk => (h2 k).mpr (mem_uniq.mp hk)
  omega
theorem uniq_le (vs : List Int) : (uniq vs).length ≤ vs.length := nodup_len_le _ _ (nodup_of_pw (pw_uniq vs)) fun k hk => mem_uniq.mp hk
theorem uniq_pos {vs : List Int} (h : vs ≠ []) : 1 ≤ (uniq vs).length := by
  cases vs with
  | nil => exact absurd rfl h
  | cons x r => exact List.length_pos_of_mem (mem_uniq.mpr List.mem_cons_self)
/-- same members, as many unlike ones -/
theorem uniq_congr {vs ws : List Int} (h : ∀ k, k ∈ vs ↔ k ∈ ws) : uniq vs = uniq ws := pw_eq (pw_uniq vs) (pw_uniq ws) fun k => by rw [mem_uniq, mem_uniq, h]
def posOf (x : Int) : List Int → Nat
  | [] => 0
  | y :: r => if y = x then 0 else posOf x r + 1
theorem posOf_at {x : Int} : ∀ {l : List Int}, x ∈ l → l[posOf x l]? = some x
  | y :: r, h => by
    unfold posOf
    split
    · rename_i e; rw [e]; rfl
    · rename_i e
      rw [List.getElem?_cons_succ]
      exact posOf_at ((List.mem_cons.mp h).resolve_left fun z => e z.symm)
theorem posOf_first {x : Int} : ∀ {l : List Int} {m : Nat}, m < posOf x l → l[m]? ≠ some x
  | [], m, h => by simp [posOf] at h
  | y :: r, m, h => by
    unfold posOf at h
    split at h
    · omega
    · rename_i e
      cases m with
      | zero => intro z; exact e (Option.some.inj z)
      | succ m =>
        show r[m]? ≠ some x
        exact posOf_first (l := r) (m := m) (by omega)
theorem posOf_lt {x : Int} {l : List Int} (h : x ∈ l) : posOf x l < l.length := (List.getElem?_eq_some_iff.mp (posOf_at h)).1
def minL : List Int → Int
  | [] => 0
  | x :: r => r.foldl min x
def maxL : List Int → Int
  | [] => 0
  | x :: r => r.foldl max x
theorem foldl_min : ∀ (r : List Int) (x : Int), (r.foldl min x = x ∨ r.foldl min x ∈ r) ∧ r.foldl min x ≤ x ∧ ∀ y ∈ r, r.foldl min x ≤ y
  | [], x => ⟨.inl rfl, Int.le_refl _, fun y h => by simp at h⟩
  | z :: r, x => by
    obtain ⟨h1, h2, h3⟩ := foldl_min r (min x z)
    show ((r.foldl min (min x z)) = x ∨ _) ∧ _
    refine ⟨?_, by rw [List.foldl_cons]; omega, fun y hy => ?_⟩
    · rcases h1 with h1 | h1
      · rw [List.foldl_cons, h1]
        by_cases hx : x ≤ z
        · left; omega
        · right; rw [show min x z = z by omega]; exact List.mem_cons_self
      · right; exact List.mem_cons_of_mem _ h1
    · rcases List.mem_cons.mp hy with rfl | hy
      · rw [List.foldl_cons]; omega
      · exact h3 y hy
theorem foldl_max : ∀ (r : List Int) (x : Int), (r.foldl max x = x ∨ r.foldl max x ∈ r) ∧ x ≤ r.foldl max x ∧ ∀ y ∈ r, y ≤ r.foldl max x
  | [], x => ⟨.inl rfl, Int.le_refl _, fun y h => by simp at h⟩
  | z :: r, x => by
    obtain ⟨h1, h2, h3⟩ := foldl_max r (max x z)
    show ((r.foldl max (max x z)) = x ∨ _) ∧ _
    refine ⟨?_, by rw [List.foldl_cons]; omega, fun y hy => ?_⟩
    · rcases h1 with h1 | h1
      · rw [List.foldl_cons, h1]
        by_cases hx : z ≤ x
        · left; omega
        · right; rw [show max x z = z by omega]; exact List.mem_cons_self
      · right; exact List.mem_cons_of_mem _ h1
    · rcases List.mem_cons.mp hy with rfl | hy
      · rw [List.foldl_cons]; omega
      · exact h3 y hy
theorem minL_mem {vs : List Int} (h : vs ≠ []) : minL vs ∈ vs := by
  cases vs with
  | nil => exact absurd rfl h
  | cons x r =>
    rcases (foldl_min r x).1 with e | e
    · show r.foldl min x ∈ _; rw [e]; exact List.mem_cons_self
    · exact List.mem_cons_of_mem _ e
theorem minL_le {vs : List Int} {y : Int} (h : y ∈ vs) : minL vs ≤ y := by
  cases vs with
  | nil => simp at h
  | cons x r =>
    rcases List.mem_cons.mp h with rfl | h
    · exact (foldl_min r _).2.1
    · exact (foldl_min r x).2.2 y h
theorem maxL_mem {vs : List Int} (h : vs ≠ []) : maxL vs ∈ vs := by
  cases vs with
  | nil => exact absurd rfl h
  | cons x r =>
    rcases (foldl_max r x).1 with e | e
    · show r.foldl max x ∈ _; rw [e]; exact List.mem_cons_self
    · exact List.mem_cons_of_mem _ e
theorem le_maxL {vs : List Int} {y : Int} (h : y ∈ vs) : y ≤ maxL vs := by
  cases vs with
  | nil => simp at h
  | cons x r =>
    rcases List.mem_cons.mp h with rfl | h
    · exact (foldl_max r _).2.1
    · exact (foldl_max r x).2.2 y h
theorem minL_is {vs : List Int} {m : Int} (h1 : m ∈ vs) (h2 : ∀ y ∈ vs, m ≤ y) : m = minL vs := by
  have a := h2 _ (minL_mem (fun e => by rw [e] at h1; simp at h1))
  have b := minL_le h1
  omega
theorem maxL_is {vs : List Int} {m : Int} (h1 : m ∈ vs) (h2 : ∀ y ∈ vs, y ≤ m) : m = maxL vs := by
  have a := h2 _ (maxL_mem (fun e => by rw [e] at h1; simp at h1))
  have b := le_maxL h1
  omega
def spanL (vs : List Int) : Int := maxL vs - minL vs
theorem spanL_nn {vs : List Int} (h : vs ≠ []) : 0 ≤ spanL vs := by
  have := minL_le (maxL_mem h)
  unfold spanL; omega
/-- each value less the one ahead -/
def dif : List Int → List Int
  | x :: y :: r => (y - x) :: dif (y :: r)
  | _ => []
theorem dif_len : ∀ vs : List Int, (dif vs).length = vs.length - 1
  | [] => rfl
  | [_] => rfl
  | x :: y :: r => by
    show (dif (y :: r)).length + 1 = _
    rw [dif_len (y :: r)]
    simp
theorem dif_at : ∀ {vs : List Int} {k : Nat} {x y : Int}, vs[k]? = some x → vs[k + 1]? = some y → (dif vs)[k]? = some (y - x)
  | [], _, _, _, h, _ => by simp at h
  | [_], _, _, _, _, h => by simp at h
  | a :: b :: r, 0, x, y, h1, h2 => by
    cases Option.some.inj h1
    cases Option.some.inj h2
    rfl
  | a :: b :: r, k + 1, x, y, h1, h2 => dif_at (vs := b :: r) (k := k) h1 h2
end CC

/-! ### five forms -/
namespace CC
/-- the number at a place of cells -/
def unpI (b : Int) (cs : List Int) (k : Nat) : Int := cs.getD (k / perB b) 0 / b ^ (k % perB b) % b
theorem unp_at {b : Int} (hb : 2 ≤ b) {ws : List Int} (h : ∀ x ∈ ws, 0 ≤ x ∧ x < b) {k : Nat} (hk : k < ws.length) : k / perB b < (packI b ws).length ∧ unpI b (packI b ws) k = ws[k] := by
  obtain ⟨cl, h1, h2⟩ := packI_get hb h hk
  refine ⟨(List.getElem?_eq_some_iff.mp h1).1, ?_⟩
  unfold unpI
  rw [List.getD_eq_getElem?_getD, h1]
  exact h2
theorem unp_take {b : Int} (hb : 2 ≤ b) {ws : List Int} (h : ∀ x ∈ ws, 0 ≤ x ∧ x < b) {m : Nat} (hm : m ≤ ws.length) : (List.range m).map (unpI b (packI b ws)) = ws.take m := by
  apply List.ext_getElem?
  intro k
  rw [List.getElem?_map, List.getElem?_take]
  by_cases hk : k < m
  · rw [List.getElem?_range hk, if_pos hk, List.getElem?_eq_getElem (by omega)]
    show some (unpI b (packI b ws) k) = _
    rw [(unp_at hb h (by omega)).2]
  · rw [if_neg hk, List.getElem?_eq_none (by rw [List.length_range]; omega)]; rfl
inductive Fm where
  | plain (vs : List Int) | one (n : Nat) (v : Int) | codes (n : Nat) (us cs : List Int) | near (n : Nat) (lo sp : Int) (cs : List Int) | steps (n : Nat) (f lo sp : Int) (cs : List Int)
/-- (the least, how far, what is above it, packed) -/
def abv (vs : List Int) : Option (Int × Int × List Int) := if spanL vs + 1 > 10000 then none else some (minL vs, spanL vs, if spanL vs > 0 then packI (spanL vs + 1) (vs.map (· - minL vs)) else [])
def layOne (vs : List Int) : Option Fm := if (uniq vs).length = 1 then some (.one vs.length (vs.headD 0)) else none
def layCodes (vs : List Int) : Option Fm := if (uniq vs).length < 2 then none else some (.codes vs.length (uniq vs) (packI (uniq vs).length (vs.map fun v => (posOf v (uniq vs) : Int))))
def layNear (vs : List Int) : Option Fm := match abv vs with
  | none => none
  | some (lo, sp, cs) => if sp = 0 then none else some (.near vs.length lo sp cs)
def laySteps (vs : List Int) : Option Fm := if vs.length < 2 then none else match abv (dif vs) with
  | none => none
  | some (lo, sp, cs) => some (.steps vs.length (vs.headD 0) lo sp cs)
def lay : Nat → List Int → Option Fm
  | 0, vs => some (.plain vs)
  | 1, vs => layOne vs
  | 2, vs => layCodes vs
  | 3, vs => layNear vs
  | _, vs => laySteps vs
def Fm.room : Fm → Nat
  | .plain vs => 1 + vs.length
  | .one _ _ => 3
  | .codes _ us cs => 2 + us.length + cs.length
  | .near _ _ _ cs => 4 + cs.length
  | .steps _ _ _ _ cs => 5 + cs.length
def Fm.size : Fm → Nat
  | .plain vs => vs.length
  | .one n _ => n
  | .codes n _ _ => n
  | .near n _ _ _ => n
  | .steps n _ _ _ _ => n
def ceilB (b : Int) (n : Nat) : Nat := (n + perB b - 1) / perB b
/-- how many cells, above the least one -/
def cellsAbove (vs : List Int) (more : Nat) : Option Nat := if spanL vs + 1 > 10000 then none else some (if spanL vs = 0 then more else more + ceilB (spanL vs + 1) vs.length)
def cellsOf : Nat → List Int → Option Nat
  | 0, vs => some (1 + vs.length)
  | 1, vs => if (uniq vs).length = 1 then some 3 else none
  | 2, vs => if (uniq vs).length > 1 then some (2 + (uniq vs).length + ceilB (uniq vs).length vs.length) else none
  | 3, vs => if (uniq vs).length > 1 then cellsAbove vs 4 else none
  | _, vs => if dif vs ≠ [] then cellsAbove (dif vs) 5 else none
theorem span_zero {vs : List Int} (h : vs ≠ []) : spanL vs = 0 ↔ (uniq vs).length = 1 := by
  constructor
  · intro e
    have h1 : ∀ k, k ∈ [minL vs] ↔ k ∈ vs := fun k => by
      rw [List.mem_singleton]
      constructor
      · rintro rfl; exact minL_mem h
      · intro hk
        have a := minL_le hk
        have b := le_maxL hk
        unfold spanL at e
        omega
    rw [← uniq_is (us := [minL vs]) (by simp) h1]; rfl
  · intro e
    obtain ⟨x, hx⟩ : ∃ x, uniq vs = [x] := by
      match hu : uniq vs, e with
      | [x], _ => exact ⟨x, rfl⟩
    have h1 : maxL vs ∈ uniq vs := mem_uniq.mpr (maxL_mem h)
    have h2 : minL vs ∈ uniq vs := mem_uniq.mpr (minL_mem h)
    rw [hx, List.mem_singleton] at h1 h2
    unfold spanL
    omega
theorem dif_ne {vs : List Int} : dif vs ≠ [] ↔ ¬ vs.length < 2 := by
  have := dif_len vs
  constructor
  · intro h
    have := List.length_pos_iff.mpr h
    omega
  · intro h e
    rw [e] at this
    simp at this
    omega
theorem abv_no {vs : List Int} (h : spanL vs + 1 > 10000) : abv vs = none := if_pos h
theorem abv_yes {vs : List Int} (h : ¬ spanL vs + 1 > 10000) : abv vs = some (minL vs, spanL vs, if spanL vs > 0 then packI (spanL vs + 1) (vs.map (· - minL vs)) else []) := if_neg h
theorem abv_cells {vs : List Int} {more : Nat} : cellsAbove vs more = (abv vs).map fun z => more + (if spanL vs > 0 then z.2.2.length else 0) := by
  unfold cellsAbove abv
  split
  · rfl
  · simp only [Option.map_some]
    congr 1
    by_cases h0 : spanL vs = 0
    · rw [if_pos h0, if_neg (by omega)]; rfl
    · by_cases hp : spanL vs > 0
      · rw [if_neg h0, if_pos hp, if_pos hp, packI_len, List.length_map]; rfl
      · exfalso
        cases vs with
        | nil => exact h0 rfl
        | cons x r => have := spanL_nn (vs := x :: r) (by simp); omega
/-- the cells told ahead are the form's room -/
theorem cells_room {vs : List Int} (h : vs ≠ []) : ∀ k, cellsOf k vs = (lay k vs).map Fm.room
  | 0 => rfl
  | 1 => by
    show (if (uniq vs).length = 1 then some 3 else none) = (layOne vs).map Fm.room
    unfold layOne
    split <;> rfl
  | 2 => by
    show (if (uniq vs).length > 1 then some (2 + (uniq vs).length + ceilB (uniq vs).length vs.length) else none) = (layCodes vs).map Fm.room
    unfold layCodes
    by_cases hu : (uniq vs).length > 1
    · rw [if_pos hu, if_neg (by omega)]
      show _ = some (2 + (uniq vs).length + _)
      rw [packI_len, List.length_map]; rfl
    · rw [if_neg hu, if_pos (by omega)]; rfl
  | 3 => by
    show (if (uniq vs).length > 1 then cellsAbove vs 4 else none) = (layNear vs).map Fm.room
    have hz := span_zero h
    have hp := uniq_pos h
    have hn := spanL_nn h
    rw [abv_cells]
    unfold layNear
    by_cases hu : (uniq vs).length > 1
    · rw [if_pos hu]
      have n0 : ¬ spanL vs = 0 := fun e => by rw [hz] at e; omega
      by_cases hb : spanL vs + 1 > 10000
      · rw [abv_no hb]; rfl
      · rw [abv_yes hb]
        show some (4 + _) = Option.map Fm.room (if spanL vs = 0 then none else some _)
        rw [if_neg n0, if_pos (show spanL vs > 0 by omega)]; rfl
    · rw [if_neg hu]
      have e0 : spanL vs = 0 := hz.mpr (by omega)
      rw [abv_yes (by omega)]
      show none = Option.map Fm.room (if spanL vs = 0 then none else some _)
      rw [if_pos e0]; rfl
  | k + 4 => by
    show (if dif vs ≠ [] then cellsAbove (dif vs) 5 else none) = (laySteps vs).map Fm.room
    rw [abv_cells]
    unfold laySteps
    by_cases hd : dif vs ≠ []
    · rw [if_pos hd, if_neg (dif_ne.mp hd)]
      by_cases hb : spanL (dif vs) + 1 > 10000
      · rw [abv_no hb]; rfl
      · rw [abv_yes hb]
        show some (5 + _) = some (5 + _)
        by_cases hp : spanL (dif vs) > 0
        · rw [if_pos hp]
        · rw [if_neg hp, if_neg hp]; rfl
    · rw [if_neg hd, if_pos (by have := mt dif_ne.mpr hd; omega)]; rfl
/-! turned about, or raised -/
theorem rev_mem {vs : List Int} (k : Int) : k ∈ vs ↔ k ∈ vs.reverse := by simp
theorem minL_congr {vs ws : List Int} (hv : vs ≠ []) (h : ∀ k, k ∈ vs ↔ k ∈ ws) : minL vs = minL ws := minL_is ((h _).mp (minL_mem hv)) fun y hy => minL_le ((h y).mpr hy)
theorem maxL_congr {vs ws : List Int} (hv : vs ≠ []) (h : ∀ k, k ∈ vs ↔ k ∈ ws) : maxL vs = maxL ws := maxL_is ((h _).mp (maxL_mem hv)) fun y hy => le_maxL ((h y).mpr hy)
theorem cells_rev {vs : List Int} (h : vs ≠ []) {k : Nat} (hk : k < 4) : cellsOf k vs.reverse = cellsOf k vs := by
  have hu : uniq vs.reverse = uniq vs := (uniq_congr rev_mem).symm
  have hs : spanL vs.reverse = spanL vs := by
    unfold spanL
    rw [← minL_congr h rev_mem, ← maxL_congr h rev_mem]
  match k, hk with
  | 0, _ => show some (1 + vs.reverse.length) = _; rw [List.length_reverse]; rfl
  | 1, _ => show (if (uniq vs.reverse).length = 1 then _ else _) = _; rw [hu]; rfl
  | 2, _ => show (if (uniq vs.reverse).length > 1 then _ else _) = _; rw [hu, List.length_reverse]; rfl
  | 3, _ =>
    show (if (uniq vs.reverse).length > 1 then cellsAbove vs.reverse 4 else none) = _
    rw [hu]
    unfold cellsAbove
    rw [hs, List.length_reverse]; rfl
theorem minL_map {vs : List Int} (h : vs ≠ []) (m : Int) : minL (vs.map (· + m)) = minL vs + m := (minL_is (List.mem_map.mpr ⟨_, minL_mem h, rfl⟩) fun y hy => by
  obtain ⟨z, hz, rfl⟩ := List.mem_map.mp hy
  have := minL_le hz
  omega).symm
theorem maxL_map {vs : List Int} (h : vs ≠ []) (m : Int) : maxL (vs.map (· + m)) = maxL vs + m := (maxL_is (List.mem_map.mpr ⟨_, maxL_mem h, rfl⟩) fun y hy => by
  obtain ⟨z, hz, rfl⟩ := List.mem_map.mp hy
  have := le_maxL hz
  omega).symm
theorem uniq_map (vs : List Int) (m : Int) : uniq (vs.map (· + m)) = (uniq vs).map (· + m) := by
  refine (uniq_is ?_ fun k => ?_).symm
  · rw [List.pairwise_map]
    exact (pw_uniq vs).imp fun h => by omega
  · rw [List.mem_map, List.mem_map]
    constructor
    · rintro ⟨x, hx, rfl⟩; exact ⟨x, mem_uniq.mp hx, rfl⟩
    · rintro ⟨x, hx, rfl⟩; exact ⟨x, mem_uniq.mpr hx, rfl⟩
theorem cells_more {vs : List Int} (h : vs ≠ []) (m : Int) {k : Nat} (hk : k < 4) : cellsOf k (vs.map (· + m)) = cellsOf k vs := by
  have hu : (uniq (vs.map (· + m))).length = (uniq vs).length := by rw [uniq_map, List.length_map]
  have hs : spanL (vs.map (· + m)) = spanL vs := by
    unfold spanL
    rw [minL_map h, maxL_map h]; omega
  match k, hk with
  | 0, _ => show some (1 + (vs.map (· + m)).length) = _; rw [List.length_map]; rfl
  | 1, _ => show (if (uniq (vs.map (· + m))).length = 1 then _ else _) = _; rw [hu]; rfl
  | 2, _ => show (if (uniq (vs.map (· + m))).length > 1 then _ else _) = _; rw [hu, List.length_map]; rfl
  | 3, _ =>
    show (if (uniq (vs.map (· + m))).length > 1 then cellsAbove (vs.map (· + m)) 4 else none) = _
    rw [hu]
    unfold cellsAbove
    rw [hs, List.length_map]; rfl
/-! steps summed -/
theorem sum_dif (lo : Int) : ∀ (vs : List Int) (k : Nat) (x : Int), vs[k]? = some x → (((dif vs).map (· - lo)).take k).sum = x - vs.headD 0 - lo * k
  | [], k, x, h => by simp at h
  | a :: r, 0, x, h => by
    cases Option.some.inj h
    simp
  | [a], k + 1, x, h => by simp at h
  | a :: b :: r, k + 1, x, h => by
    have ih := sum_dif lo (b :: r) k x h
    show ((b - a - lo) :: ((dif (b :: r)).map (· - lo)).take k).sum = _
    rw [List.sum_cons, ih]
    show b - a - lo + (x - b - lo * k) = x - a - lo * ((k + 1 : Nat) : Int)
    rw [Int.natCast_add, Int.mul_add]
    omega
theorem layNear_eq {vs : List Int} {lo sp : Int} {cs : List Int} (h : abv vs = some (lo, sp, cs)) : layNear vs = if sp = 0 then none else some (.near vs.length lo sp cs) := by unfold layNear; rw [h]
theorem layNear_no {vs : List Int} (h : abv vs = none) : layNear vs = none := by unfold layNear; rw [h]
end CC

namespace CC
open PySem PySem.Spec PyProof.Rows L2
theorem intJ {Q : Int → Prop} {i : Int} (h : Q i) : IntJ Q (.int i) := h
theorem blJ {Q : Bool → Prop} {i : Bool} (h : Q i) : BlJ Q (.bl i) := h
theorem lstJ {Q : List Dt → Prop} {i : List Dt} (h : Q i) : LstJ Q (.lst i) := h
theorem tupJ {Q : List Dt → Prop} {i : List Dt} (h : Q i) : TupJ Q (.tup i) := h
/-- a list of ints as data; as a tuple -/
abbrev dL (ns : List Int) : Dt := .lst (ns.map Dt.int)
abbrev dT (ns : List Int) : Dt := .tup (ns.map Dt.int)
theorem atI_int {ns : List Int} {k : Int} {x : Int} (h0 : 0 ≤ k) (h : ns[k.toNat]? = some x) : atI (ns.map Dt.int) k = some (.int x) := by
  have e : k = ((k.toNat : Nat) : Int) := by omega
  rw [e]
  refine atI_nat ?_
  rw [List.getElem?_map, h]; rfl
theorem ix_li {c : Cn} {Q : Dt → Prop} {ns : List Int} {k x : Int} (h0 : 0 ≤ k) (h : ns[k.toNat]? = some x) (q : Q (.int x)) : R2J c (rIx c.K) (.lst (ns.map Dt.int)) (.int k) Q := ix_l (atI_int h0 h) q
theorem ix_ti {c : Cn} {Q : Dt → Prop} {ns : List Int} {k x : Int} (h0 : 0 ≤ k) (h : ns[k.toNat]? = some x) (q : Q (.int x)) : R2J c (rIx c.K) (.tup (ns.map Dt.int)) (.int k) Q := ix_t (atI_int h0 h) q
theorem bl_two {A B p : Prop} {dp : Decidable p} (h1 : p → A) (h2 : ¬ p → B) : (@decide p dp = true → A) ∧ (@decide p dp = false → B) := ⟨fun h => h1 (of_decide_eq_true h), fun h => h2 (of_decide_eq_false h)⟩
theorem bl_twoN {A B p : Prop} {dp : Decidable p} (h1 : ¬ p → A) (h2 : p → B) : ((!@decide p dp) = true → A) ∧ ((!@decide p dp) = false → B) := ⟨fun h => h1 (fun hp => by rw [decide_eq_true hp] at h; cases h), fun h => h2 (Decidable.byContradiction fun hp => by rw [decide_eq_false hp] at h; cases h)⟩
theorem bl_or {A B p : Prop} {dp : Decidable p} (h1 : ¬ p → A) (h2 : p → B) : (@decide p dp = false → A) ∧ (@decide p dp = true → B) := ⟨fun h => h1 (of_decide_eq_false h), fun h => h2 (of_decide_eq_true h)⟩
theorem bl_yes {A B : Prop} {b : Bool} (e : b = true) (h : A) : (b = true → A) ∧ (b = false → B) := ⟨fun _ => h, fun z => by rw [e] at z; cases z⟩
theorem bl_no {A B : Prop} {b : Bool} (e : b = false) (h : B) : (b = true → A) ∧ (b = false → B) := ⟨fun z => (by rw [e] at z; cases z), fun _ => h⟩
theorem or_yes {A B : Prop} {b : Bool} (e : b = true) (h : B) : (b = false → A) ∧ (b = true → B) := ⟨fun z => (by rw [e] at z; cases z), fun _ => h⟩
theorem or_no {A B : Prop} {b : Bool} (e : b = false) (h : A) : (b = false → A) ∧ (b = true → B) := ⟨fun _ => h, fun z => by rw [e] at z; cases z⟩
section
variable {c : Cn} {hid : Addr → Bool} {H0 H1 : Hp} {ρ : List Sl} {ta tb te : TE} {t u : TT} {D : Ends} {ts tz tu : TS} {g : TG}
theorem q_asg {i : Nat} (h : EV c te ρ fun d => NJ c hid H0 (tz D) (ρ.set i (.im d))) : NJ c hid H0 (tSeq (tAsg te (gName i)) tz D) ρ := nj_asg (D := { D with nx := tz D }) h
theorem q_asgN {i : Nat} (h : EN c te ρ fun ds => NJ c hid H0 (tz D) (ρ.set i (.ac ds))) : NJ c hid H0 (tSeq (tAsg te (gName i)) tz D) ρ := nj_asgN (D := { D with nx := tz D }) h
theorem q_asgS {i : Nat} (h : EJ c hid H0 te ρ fun d => NJ c hid H0 (tz D) (ρ.set i (.im d))) : NJ c hid H0 (tSeq (tAsg te (gName i)) tz D) ρ := nj_asgS (D := { D with nx := tz D }) h
theorem q_if (h : ETJ c hid H0 t ρ fun b => (b = true → NJ c hid H0 (ts { D with nx := tz D }) ρ) ∧ (b = false → NJ c hid H0 (tu { D with nx := tz D }) ρ)) : NJ c hid H0 (tSeq (tIfS t ts tu) tz D) ρ := nj_if (D := { D with nx := tz D }) h
/-- an if without else -/
theorem q_when (h : ETJ c hid H0 t ρ fun b => (b = true → NJ c hid H0 (ts { D with nx := tz D }) ρ) ∧ (b = false → NJ c hid H0 (tz D) ρ)) : NJ c hid H0 (tSeq (tIfS t ts tNext) tz D) ρ := nj_if (D := { D with nx := tz D }) h
theorem nj_when (h : ETJ c hid H0 t ρ fun b => (b = true → NJ c hid H0 (ts D) ρ) ∧ (b = false → NJ c hid H0 D.nx ρ)) : NJ c hid H0 (tIfS t ts tNext D) ρ := nj_if h
theorem q_drop (h : EV c te ρ fun _ => NJ c hid H0 (tz D) ρ) : NJ c hid H0 (tSeq (tDrop te) tz D) ρ := nj_drop (D := { D with nx := tz D }) h
theorem q_app {i : Nat} {ds : List Dt} {K : PySem.W.Frag} (hi : ρ[i]? = some (.ac ds)) (hz : ds.length < 100000) (h : EV c te ρ fun d => NJ c hid H0 (tz D) (ρ.set i (.ac (ds ++ [d])))) : NJ c hid H0 (tSeq (tDrop (tBM K "list" rAppend (tVar i) (tCons te tNil))) tz D) ρ := nj_app (D := { D with nx := tz D }) hi hz h
theorem q_setL {i : Nat} {ds : List Dt} (hi : ρ[i]? = some (.ac ds)) (h : EV c te ρ fun d => EV c tb ρ (IntJ fun k => ∃ j, ixN ds.length k = some j ∧ NJ c hid H0 (tz D) (ρ.set i (.ac (ds.set j d))))) : NJ c hid H0 (tSeq (tAsg te (gSub (tVar i) tb rSetL)) tz D) ρ := nj_setL (D := { D with nx := tz D }) hi h
theorem q_for {wi : TI} (h : IJ c wi ρ fun its => ∃ I : Nat → List Sl → Prop, I 0 ρ ∧ (∀ H1, Ex c.mu H0 H1 → ∀ i d ρ', its[i]? = some d → I i ρ' → TGJ c hid H1 g d ρ' (ts { D with nx := Nx c hid H1 (I (i + 1)), ct := Nx c hid H1 (I (i + 1)), bk := tz D })) ∧
    ∀ ρ', I its.length ρ' → NJ c hid H0 (tz D) ρ') : NJ c hid H0 (tSeq (tFor wi g ts) tz D) ρ := nj_for (D := { D with nx := tz D }) h
theorem q_while (I : Nat → List Sl → Prop) (m0 : Nat) (h0 : I m0 ρ)
    (hs : ∀ m ρ', I m ρ' → ETJ c hid H0 t ρ' fun b => (b = true → NJ c hid H0 (ts { D with nx := Nx c hid H0 (fun ρ'' => ∃ m', m' < m ∧ I m' ρ''), ct := Nx c hid H0 (fun ρ'' => ∃ m', m' < m ∧ I m' ρ''), bk := tz D }) ρ') ∧ (b = false → NJ c hid H0 (tz D) ρ')) : NJ c hid H0 (tSeq (tWhile t ts) tz D) ρ := nj_while (D := { D with nx := tz D }) I m0 h0 hs
/-- a, b = e, f as two stores -/
theorem q_par {i j : Nat} {ta : TA} (h : EVA c ta ρ fun ds => ∃ d e, ds = [d, e] ∧ NJ c hid H0 (tz D) ((ρ.set i (.im d)).set j (.im e))) : NJ c hid H0 (tSeq (tPar i j ta) tz D) ρ := fun hd H σ s =>
  h hd H σ s.toSV _ fun ds vs H' hq e b r => by
    obtain ⟨d, e', rfl, hq⟩ := hq
    cases r with
    | cons r1 r2 =>
      cases r2 with
      | cons r2 r3 =>
        cases r3
        exact ⟨_, _, rfl, hq hd H' _ (((s.go e b).setIm r1).setIm r2)⟩
/-- a target that takes apart -/
theorem q_asgT (h : EV c te ρ fun d => TGJ c hid H0 g d ρ (tz D)) : NJ c hid H0 (tSeq (tAsg te g) tz D) ρ := fun hd H σ s =>
  h hd H σ s.toSV _ fun d v H' hq e b r => hq hd H' σ v (s.go e b) r
end
theorem mul_iL {c : Cn} {Q : Dt → Prop} {i j : Int} (h1 : -18446744073709551616 < i) (h2 : i < 18446744073709551616) (h : Q (.int (i * j))) : R2J c rMulU (.int i) (.int j) Q := mul_i (.inl ⟨h1, h2⟩) h
theorem mul_iR {c : Cn} {Q : Dt → Prop} {i j : Int} (h1 : -18446744073709551616 < j) (h2 : j < 18446744073709551616) (h : Q (.int (i * j))) : R2J c rMulU (.int i) (.int j) Q := mul_i (.inr ⟨h1, h2⟩) h
theorem div_iP {c : Cn} {Q : Dt → Prop} {i j : Int} (h1 : 0 < j) (h2 : j < 4611686018427387904) (h : Q (.int (i / j))) : R2J c rDivI (.int i) (.int j) Q := div_i (wide_div (b := 62) h1 (by omega) (by decide) (by decide)) h
theorem enum_at {vs : List Int} {i : Nat} {d : Dt} (h : (enumD (vs.map Dt.int))[i]? = some d) : ∃ x, vs[i]? = some x ∧ d = .tup [.int (i : Nat), .int x] := by
  unfold enumD at h
  rw [List.getElem?_mapIdx, List.getElem?_map] at h
  cases e : vs[i]? with
  | none => rw [e] at h; cases h
  | some x => rw [e] at h; exact ⟨x, rfl, (Option.some.inj h).symm⟩
theorem enum_len {ds : List Dt} : (enumD ds).length = ds.length := by unfold enumD; rw [List.length_mapIdx]
theorem ixN_last {α : Type} (xs : List α) (x : α) : ixN (xs ++ [x]).length (-1) = some xs.length := by
  unfold ixN
  rw [if_neg (by decide), if_pos (by rw [List.length_append]; simp; omega), List.length_append]
  congr 1
  simp; omega
theorem set_last {α : Type} (xs : List α) (x y : α) : (xs ++ [x]).set xs.length y = xs ++ [y] := by
  rw [List.set_append_right _ _ (Nat.le_refl _), Nat.sub_self]; rfl
theorem rangeD_at {lo : Int} {n i : Nat} {d : Dt} (h : (rangeD lo n)[i]? = some d) : i < n ∧ d = .int (lo + (i : Nat)) := by
  unfold rangeD at h
  rw [List.getElem?_map] at h
  by_cases hi : i < n
  · rw [List.getElem?_range hi] at h; exact ⟨hi, (Option.some.inj h).symm⟩
  · rw [List.getElem?_eq_none (by rw [List.length_range]; omega)] at h; cases h
theorem rangeD_len {lo : Int} {n : Nat} : (rangeD lo n).length = n := by unfold rangeD; rw [List.length_map, List.length_range]
theorem ints_at {ns : List Int} {i : Nat} {d : Dt} (h : (ns.map Dt.int)[i]? = some d) : ∃ x, ns[i]? = some x ∧ d = .int x := by
  rw [List.getElem?_map] at h
  cases e : ns[i]? with
  | none => rw [e] at h; cases h
  | some x => rw [e] at h; exact ⟨x, rfl, (Option.some.inj h).symm⟩
/-- a comprehension that keeps and turns each item by a function -/
theorem en_map {c : Cn} {ρ : List Sl} {wi : TI} {g : TG} {t : TT} {te : TE} {vs : List Nat} {Q : List Dt → Prop} (h : IJ c wi ρ fun its => its.length ≤ 100000 ∧ ∃ f : Nat → Dt, (∀ i d, its[i]? = some d → TGE c g d (wipeS ρ vs) vs fun ρ' => EVT c t ρ' fun b => b = true ∧ EV c te ρ' fun y => y = f i) ∧ Q ((List.range its.length).map f)) :
    EN c (tLc wi g t te vs) ρ Q := en_lc (fun hd H σ v R q => h hd H σ v R fun its J H' ⟨hl, f, h1, h2⟩ => q its J H' ⟨hl, fun i acc => acc = (List.range i).map f, rfl, fun i d acc hi ha => (fun hd H σ v N s r k => h1 i d hi hd H σ v N s r fun σ2 ρ2 hk => k σ2 ρ2 (fun hd H σ v Qh q => hk hd H σ v Qh fun b H' hb => q b H' ⟨fun _ => hb.2.imp fun y hy => by (show acc ++ [y] = (List.range (i + 1)).map f); rw [hy, ha, List.range_succ, List.map_append]; rfl, fun z => by rw [hb.1] at z; cases z⟩)), fun acc ha => by rw [ha]; exact h2⟩)
theorem len_li {c : Cn} {Q : Dt → Prop} {ns : List Int} (h : Q (.int ns.length)) : RCJ c (rLenU c.K) [.lst (ns.map Dt.int)] Q := len_l (by rw [List.length_map]; exact h)
theorem len_ti {c : Cn} {Q : Dt → Prop} {ns : List Int} (h : Q (.int ns.length)) : RCJ c (rLenU c.K) [.tup (ns.map Dt.int)] Q := len_t (by rw [List.length_map]; exact h)
theorem lenOk {ds : List Dt} {P : Prop} (h : ds.length ≤ 100000) (q : P) : ds.length ≤ 100000 ∧ P := ⟨h, q⟩
theorem map_getD {α : Type} (vs : List Int) (f : Int → α) : (List.range vs.length).map (fun i => f (vs.getD i 0)) = vs.map f := by
  apply List.ext_getElem?
  intro k
  rw [List.getElem?_map, List.getElem?_map]
  by_cases hk : k < vs.length
  · rw [List.getElem?_range hk, List.getElem?_eq_getElem hk]
    show some (f (vs.getD k 0)) = some _
    rw [List.getD_eq_getElem?_getD, List.getElem?_eq_getElem hk]; rfl
  · rw [List.getElem?_eq_none (by rw [List.length_range]; omega), List.getElem?_eq_none (by omega)]; rfl
/-- over a list of ints -/
theorem en_mapI {c : Cn} {ρ : List Sl} {tl : TE} {j : Nat} {t : TT} {te : TE} {ws : List Nat} {Q : List Dt → Prop} (hj : j ∈ ws) (h : EV c tl ρ fun d => ∃ (vs : List Int) (f : Int → Dt), d = .lst (vs.map Dt.int) ∧ vs.length ≤ 100000 ∧ (∀ x ∈ vs, EVT c t ((wipeS ρ ws).set j (.im (.int x))) fun b => b = true ∧ EV c te ((wipeS ρ ws).set j (.im (.int x))) fun y => y = f x) ∧ Q (vs.map f)) :
    EN c (tLc (iList c.K tl) (gName j) t te ws) ρ Q := en_map (ij_list (h.imp fun d ⟨vs, f, e, h1, h2, h3⟩ => by
  subst e
  refine ⟨by rw [List.length_map]; exact h1, fun i => f (vs.getD i 0), fun i d hi => ?_, by rw [List.length_map, map_getD]; exact h3⟩
  obtain ⟨x, hx, rfl⟩ := ints_at hi
  have e : vs.getD i 0 = x := by rw [List.getD_eq_getElem?_getD, hx]; rfl
  show TGE c (gName j) (.int x) (wipeS ρ ws) ws fun ρ' => EVT c t ρ' fun b => b = true ∧ EV c te ρ' fun y => y = f (vs.getD i 0)
  rw [e]
  exact tge_name hj (h2 x (List.mem_of_getElem? hx))))
/-- over a range from 0 -/
theorem en_mapR {c : Cn} {ρ : List Sl} {ta : TA} {j : Nat} {t : TT} {te : TE} {ws : List Nat} {Q : List Dt → Prop} (hj : j ∈ ws) (h : EVA c ta ρ fun ds => ∃ (n : Int) (f : Nat → Dt), ds = [.int n] ∧ n ≤ 100000 ∧ -1000000 ≤ n ∧ (∀ i : Nat, (i : Int) < n → EVT c t ((wipeS ρ ws).set j (.im (.int (i : Nat)))) fun b => b = true ∧ EV c te ((wipeS ρ ws).set j (.im (.int (i : Nat)))) fun y => y = f i) ∧ Q ((List.range n.toNat).map f)) :
    EN c (tLc (iRng1 ta) (gName j) t te ws) ρ Q := en_map (ij_rng1 (fun hd H σ v Qh q => h hd H σ v Qh fun ds vs H' ⟨n, f, e, h1, h2, h3, h4⟩ => q ds vs H' ⟨n, e, by omega, h2, by rw [rangeD_len]; omega, f, fun i d hi => by
  obtain ⟨hi2, rfl⟩ := rangeD_at hi
  rw [Int.zero_add]
  exact tge_name hj (h3 i (by omega)), by rw [rangeD_len]; exact h4⟩))
theorem min_li {c : Cn} {Q : Dt → Prop} {ns : List Int} (hn : ns ≠ []) (h : Q (.int (minL ns))) : RCJ c (rMin c.K) [.lst (ns.map Dt.int)] Q := min_l hn fun m h1 h2 => by rw [minL_is h1 h2]; exact h
theorem max_li {c : Cn} {Q : Dt → Prop} {ns : List Int} (hn : ns ≠ []) (h : Q (.int (maxL ns))) : RCJ c (rMax c.K) [.lst (ns.map Dt.int)] Q := max_l hn fun m h1 h2 => by rw [maxL_is h1 h2]; exact h
theorem lenSet_li {c : Cn} {ρ : List Sl} {w : World} {ta : TA} {Q : Dt → Prop} (h : EVA c ta ρ fun ds => ∃ ns : List Int, ds = [.lst (ns.map Dt.int)] ∧ ns.length ≤ 4000 ∧ Q (.int (uniq ns).length)) : EV c (tCB (rLenSet w) (tCons (tCB (rSetI c.K w) ta) tNil)) ρ Q :=
  ev_lenSet fun hd H σ v Qh q => h hd H σ v Qh fun ds vs H' ⟨ns, e, h1, h2⟩ => q ds vs H' ⟨ns, e, h1, fun us h3 h4 => by rw [uniq_len h3 h4]; exact h2⟩
theorem atI_lt {α : Type} {xs : List α} {j : Nat} {x : α} (h : xs[j]? = some x) : atI xs ((j : Nat) : Int) = some x := atI_nat h
theorem ix_t0 {c : Cn} {Q : Dt → Prop} {d0 : Dt} {r : List Dt} (h : Q d0) : R2J c (rIx c.K) (.tup (d0 :: r)) (.int 0) Q := ix_t (atI_lt (j := 0) rfl) h
theorem ix_l0 {c : Cn} {Q : Dt → Prop} {d0 : Dt} {r : List Dt} (h : Q d0) : R2J c (rIx c.K) (.lst (d0 :: r)) (.int 0) Q := ix_l (atI_lt (j := 0) rfl) h
theorem ix_t1 {c : Cn} {Q : Dt → Prop} {d0 d1 : Dt} {r : List Dt} (h : Q d1) : R2J c (rIx c.K) (.tup (d0 :: d1 :: r)) (.int 1) Q := ix_t (atI_lt (j := 1) rfl) h
theorem ix_l1 {c : Cn} {Q : Dt → Prop} {d0 d1 : Dt} {r : List Dt} (h : Q d1) : R2J c (rIx c.K) (.lst (d0 :: d1 :: r)) (.int 1) Q := ix_l (atI_lt (j := 1) rfl) h
theorem ix_t2 {c : Cn} {Q : Dt → Prop} {d0 d1 d2 : Dt} {r : List Dt} (h : Q d2) : R2J c (rIx c.K) (.tup (d0 :: d1 :: d2 :: r)) (.int 2) Q := ix_t (atI_lt (j := 2) rfl) h
theorem ix_l2 {c : Cn} {Q : Dt → Prop} {d0 d1 d2 : Dt} {r : List Dt} (h : Q d2) : R2J c (rIx c.K) (.lst (d0 :: d1 :: d2 :: r)) (.int 2) Q := ix_l (atI_lt (j := 2) rfl) h
theorem ix_t3 {c : Cn} {Q : Dt → Prop} {d0 d1 d2 d3 : Dt} {r : List Dt} (h : Q d3) : R2J c (rIx c.K) (.tup (d0 :: d1 :: d2 :: d3 :: r)) (.int 3) Q := ix_t (atI_lt (j := 3) rfl) h
theorem ix_l3 {c : Cn} {Q : Dt → Prop} {d0 d1 d2 d3 : Dt} {r : List Dt} (h : Q d3) : R2J c (rIx c.K) (.lst (d0 :: d1 :: d2 :: d3 :: r)) (.int 3) Q := ix_l (atI_lt (j := 3) rfl) h
theorem ix_t4 {c : Cn} {Q : Dt → Prop} {d0 d1 d2 d3 d4 : Dt} {r : List Dt} (h : Q d4) : R2J c (rIx c.K) (.tup (d0 :: d1 :: d2 :: d3 :: d4 :: r)) (.int 4) Q := ix_t (atI_lt (j := 4) rfl) h
theorem ix_l4 {c : Cn} {Q : Dt → Prop} {d0 d1 d2 d3 d4 : Dt} {r : List Dt} (h : Q d4) : R2J c (rIx c.K) (.lst (d0 :: d1 :: d2 :: d3 :: d4 :: r)) (.int 4) Q := ix_l (atI_lt (j := 4) rfl) h
theorem ix_t5 {c : Cn} {Q : Dt → Prop} {d0 d1 d2 d3 d4 d5 : Dt} {r : List Dt} (h : Q d5) : R2J c (rIx c.K) (.tup (d0 :: d1 :: d2 :: d3 :: d4 :: d5 :: r)) (.int 5) Q := ix_t (atI_lt (j := 5) rfl) h
theorem ix_l5 {c : Cn} {Q : Dt → Prop} {d0 d1 d2 d3 d4 d5 : Dt} {r : List Dt} (h : Q d5) : R2J c (rIx c.K) (.lst (d0 :: d1 :: d2 :: d3 :: d4 :: d5 :: r)) (.int 5) Q := ix_l (atI_lt (j := 5) rfl) h
theorem ix_h {c : Cn} {Q : Dt → Prop} {ns : List Int} (hn : ns ≠ []) (h : Q (.int (ns.headD 0))) : R2J c (rIx c.K) (.lst (ns.map Dt.int)) (.int 0) Q := ix_li (x := ns.headD 0) (by decide) (by cases ns with
  | nil => exact absurd rfl hn
  | cons x r => rfl) h
/-- over any tuple of data -/
theorem en_mapT {c : Cn} {ρ : List Sl} {tl : TE} {j : Nat} {t : TT} {te : TE} {ws : List Nat} {Q : List Dt → Prop} (hj : j ∈ ws) (h : EV c tl ρ fun d => ∃ (ds : List Dt) (f : Dt → Dt), d = .tup ds ∧ ds.length ≤ 100000 ∧ (∀ x ∈ ds, EVT c t ((wipeS ρ ws).set j (.im x)) fun b => b = true ∧ EV c te ((wipeS ρ ws).set j (.im x)) fun y => y = f x) ∧ Q (ds.map f)) :
    EN c (tLc (iTup c.K tl) (gName j) t te ws) ρ Q := en_map (ij_tup (h.imp fun d ⟨ds, f, e, h1, h2, h3⟩ => by
  subst e
  refine ⟨h1, fun i => f (ds.getD i .non), fun i d hi => ?_, ?_⟩
  · have e : ds.getD i .non = d := by rw [List.getD_eq_getElem?_getD, hi]; rfl
    show TGE c (gName j) d (wipeS ρ ws) ws fun ρ' => EVT c t ρ' fun b => b = true ∧ EV c te ρ' fun y => y = f (ds.getD i .non)
    rw [e]
    exact tge_name hj (h2 d (List.mem_of_getElem? hi))
  · have e : (List.range ds.length).map (fun i => f (ds.getD i .non)) = ds.map f := by
      apply List.ext_getElem?
      intro k
      rw [List.getElem?_map, List.getElem?_map]
      by_cases hk : k < ds.length
      · rw [List.getElem?_range hk, List.getElem?_eq_getElem hk]
        show some (f (ds.getD k .non)) = some _
        rw [List.getD_eq_getElem?_getD, List.getElem?_eq_getElem hk]; rfl
      · rw [List.getElem?_eq_none (by rw [List.length_range]; omega), List.getElem?_eq_none (by omega)]; rfl
    show Q ((List.range ds.length).map fun i => f (ds.getD i .non))
    rw [e]
    exact h3))
/-- over any list of data -/
theorem en_mapL {c : Cn} {ρ : List Sl} {tl : TE} {j : Nat} {t : TT} {te : TE} {ws : List Nat} {Q : List Dt → Prop} (hj : j ∈ ws) (h : EV c tl ρ fun d => ∃ (ds : List Dt) (f : Dt → Dt), d = .lst ds ∧ ds.length ≤ 100000 ∧ (∀ x ∈ ds, EVT c t ((wipeS ρ ws).set j (.im x)) fun b => b = true ∧ EV c te ((wipeS ρ ws).set j (.im x)) fun y => y = f x) ∧ Q (ds.map f)) :
    EN c (tLc (iList c.K tl) (gName j) t te ws) ρ Q := en_map (ij_list (h.imp fun d ⟨ds, f, e, h1, h2, h3⟩ => by
  subst e
  refine ⟨h1, fun i => f (ds.getD i .non), fun i d hi => ?_, ?_⟩
  · have e : ds.getD i .non = d := by rw [List.getD_eq_getElem?_getD, hi]; rfl
    show TGE c (gName j) d (wipeS ρ ws) ws fun ρ' => EVT c t ρ' fun b => b = true ∧ EV c te ρ' fun y => y = f (ds.getD i .non)
    rw [e]
    exact tge_name hj (h2 d (List.mem_of_getElem? hi))
  · have e : (List.range ds.length).map (fun i => f (ds.getD i .non)) = ds.map f := by
      apply List.ext_getElem?
      intro k
      rw [List.getElem?_map, List.getElem?_map]
      by_cases hk : k < ds.length
      · rw [List.getElem?_range hk, List.getElem?_eq_getElem hk]
        show some (f (ds.getD k .non)) = some _
        rw [List.getD_eq_getElem?_getD, List.getElem?_eq_getElem hk]; rfl
      · rw [List.getElem?_eq_none (by rw [List.length_range]; omega), List.getElem?_eq_none (by omega)]; rfl
    show Q ((List.range ds.length).map fun i => f (ds.getD i .non))
    rw [e]
    exact h3))
section
variable {c : Cn} {hid : Addr → Bool} {H0 H1 : Hp} {ρ : List Sl} {t : TT} {D : Ends} {ts tz : TS}
/-- a statement, then the rest, with a word between them -/
theorem q_cut (I : List Sl → Prop) (h : NJ c hid H0 (ts { D with nx := Nx c hid H0 I }) ρ) (hk : ∀ ρ', I ρ' → NJ c hid H0 (tz D) ρ') : NJ c hid H0 (Evl.tCut ts tz D) ρ := fun hd H σ s =>
  ⟨Nx c hid H0 I, h hd H σ s, fun σ' H' ⟨ρ', hd', hI, s'⟩ => hk ρ' hI hd' H' σ' s'⟩
/-- .. told by the slots themselves -/
theorem q_cut1 (ρ' : List Sl) (h : NJ c hid H0 (ts { D with nx := Nx c hid H0 fun r => r = ρ' }) ρ) (hk : NJ c hid H0 (tz D) ρ') : NJ c hid H0 (Evl.tCut ts tz D) ρ := q_cut (fun r => r = ρ') h fun _ e => by rw [e]; exact hk
end
end CC

namespace CC
open PySem PySem.Spec PyProof.Rows L2
open C8 (Cal pe_c pe_gc)
/-! ### defs that may raise one class of their own (without an __init__) -/
def spX (K : PySem.W.Frag) (C : Addr) (S : List Dt → (Dt → Prop) → Prop → Prop) : Sp := fun vs H Qh E => ∃ hid ds Q R, (∀ a, hid a = true → H a ≠ none) ∧ RpAll K (Hm hid H) vs ds ∧ S ds Q R ∧
  (∀ d v H', Q d → Ex none0 H H' → Rp K (Hm hid H') v d → Qh v H') ∧ (R → ∀ H', Ex none0 H H' → E (.ref C) none H')
structure CalX (P : Program) (w : World) (K : PySem.W.Frag) (mg : Str → Option Value) (base : Heap) (k : Nat) (x : Str) (sp : Sp) : Prop where
  ex : ∃ (f : Addr) (fd : FuncData) (ps : List Str), FnOk P w K mg base (L2.CX P w) k f fd ps sp ∧ mg x = some (.ref f) ∧ PySem.W.keepIn K (.ref f) = true ∧ Binds K fd ps []
/-- what is told of a class that is raised -/
structure ExC (K : PySem.W.Frag) (mg : Str → Option Value) (x : Str) (C : Addr) : Prop where
  g : mg x = some (.ref C)
  q : PySem.W.excIn K C He.veBase "ValueError.__new__" = true
  k : PySem.W.keepIn K (.ref C) = true
  b : PySem.W.subIn K (.ref C) (.type "BaseException") = some true
  t : PySem.W.typeIn K (.ref C) = some (.type "type")
section
variable {P : Program} {w : World} {K : PySem.W.Frag} {mg : Str → Option Value} {base : Heap}
abbrev cxX (P : Program) (w : World) (K : PySem.W.Frag) (mg : Str → Option Value) (base : Heap) (N : List Str) (qual : Str) (st : Stmt) (f : Addr) (cdv : Value) (A : Around) (outer : List Env) (s : Shared) (H : Hp) (E : XK) : Cx := cxOf (L2.CX P w) P w K mg base N qual (defScope st) f cdv A outer s H E
theorem cal_x {x : Str} {st : Stmt} {N ps : List Str} {k : Nat} {C : Addr} {S : List Dt → (Dt → Prop) → Prop → Prop} (F : FnAt K mg x st ps) (Sc : FnScope N ps (defScope st)) (len : ∀ ds Q R, S ds Q R → ds.length = ps.length)
    (hb : ∀ (f : Addr) (cdv : Value) (A : Around) (outer : List Env) (s : Shared) (H : Hp) (E : XK), Room k (A.deeper (envOfC x (defScope st) s.heap.objs.size f cdv)) →
      ∃ t, PSs (cxX P w K mg base N x st f cdv A outer s H E) (defBody st) t ∧ ∀ ds Q R, S ds Q R → ∀ hid H0 (D : Ends), (∀ a, hid a = true → H0 a ≠ none) → RetOk (Cn.pure K) hid H0 Q D → (R → ∀ ρ, NJ (Cn.pure K) hid H0 (fun _ H' => E (.ref C) none H') ρ) → NJ (Cn.pure K) hid H0 (t D) (startS N ds)) :
    CalX P w K mg base (k + 1) x (spX K C S) := by
  obtain ⟨f, fd, hm, F, b⟩ := F
  refine ⟨⟨f, fd, ps, F.okX Sc (fun vs H Q E h => ?_) (fun cdv A outer s H vs Q E hr h => ?_), hm, F.kp, b⟩⟩
  · obtain ⟨hid, ds, Q', R, _, r, hS, _⟩ := h
    rw [r.length]
    exact len ds Q' R hS
  · obtain ⟨hid, ds, Q', R, dom, r, hS, q, qx⟩ := h
    obtain ⟨t, ht, hn⟩ := hb f cdv A outer s H E hr
    refine ⟨t, ht, hn ds Q' R hS hid H { nx := fun _ H' => Q .non H', rt := Q } dom ⟨fun d hd v H' e _ r => q d v H' hd e r, fun hd ρ hd' H' σ sd => q .non .non H' hd sd.ext .non⟩ (fun hR ρ hd' H' σ sd => qx hR H' sd.ext) hid H _ (sd_start dom (fun _ h => nomatch h) trivial r)⟩
end
section
variable {X : Cx} {k j : Nat} {x : Str} {sp : Sp} {e : Expr} {es : List Expr} {p pos : Pos} {t : TA} {W : WX}
theorem pe_cX (c : CalX X.prog X.w X.K X.mg X.base k x sp) (hr : Room j X.A) (hk : k ≤ j) (tk : Takes X W) (hg : Gl X x) (ha : PA X (e :: es) t)
    (hdb : (x == ("__debug__" : Str)) = false := by decide) (he : starEach (e :: es) X.env = (false, eval e X.env) :: starEach es X.env := by rfl) (hpl : (backTo pos (starEach es X.env)).any (·.1) = false := by rfl) :
    PE X (.Call (.Name x p) (e :: es) [] pos) (tCallS sp (WE W) t) := by
  obtain ⟨f, fd, ps, F, hm, kp, b⟩ := c.ex
  exact pe_callS F (hr.mono hk) hg hm kp b (fun σ => passAt tk σ) ha hdb he hpl
end
/-! ### evaluation where the whole state is told -/
section
variable {c : Cn} {hid : Addr → Bool} {H0 H1 : Hp} {ρ : List Sl} {ta tb te : TE} {t : TT} {D : Ends} {ts tz : TS} {Q : Dt → Prop}
def EVD (c : Cn) (hid : Addr → Bool) (H0 : Hp) (te : TE) (ρ : List Sl) (Q : Dt → Prop) : Prop := ∀ hd H σ, SD c hid hd H0 H σ ρ → ∀ Qh : VK, Kv c hd H Q Qh → te σ H Qh
def EVAD (c : Cn) (hid : Addr → Bool) (H0 : Hp) (ta : TA) (ρ : List Sl) (Q : List Dt → Prop) : Prop := ∀ hd H σ, SD c hid hd H0 H σ ρ → ∀ Qh : List V → Hp → Prop, (∀ ds vs H', Q ds → Ex c.mu H H' → c.B hd H' → RpAll c.K (Hm hd H') vs ds → Qh vs H') → ta σ H Qh
theorem evd (h : EV c te ρ Q) : EVD c hid H0 te ρ Q := fun hd H σ s => h hd H σ s.toSV
theorem evd_callS {S : List Dt → (Dt → Prop) → Prop → Prop} {C : Addr} {W : WX} {ta : TA} (R : Prop) (hW : R → NJ c hid H0 (W (.ref C) none) ρ) (h : EVA c ta ρ fun ds => S ds Q R) : EVD c hid H0 (tCallS (spX c.K C S) (WE W) ta) ρ Q := fun hd H σ s Qh q =>
  h hd H σ s.toSV _ fun ds vs H1 h1 e1 b1 r1 => ⟨hd, ds, Q, R, fun a h => e1.dom a (s.dom a h), r1, h1, fun d v H' hq e => q d v H' hq (e1.trans e.up) (c.keep0 e b1), fun hR H' e => hW hR hd H' σ (s.go (e1.trans e.up) (c.keep0 e b1))⟩
theorem ead_cons {tr : TA} {Q : List Dt → Prop} (h : EVD c hid H0 ta ρ fun d => EVAD c hid H0 tr ρ fun ds => Q (d :: ds)) : EVAD c hid H0 (tCons ta tr) ρ Q := fun hd H σ s Qh q =>
  h hd H σ s _ fun d x H1 h1 e1 b1 r1 => h1 hd H1 σ (s.go e1 b1) _ fun ds vs H2 h2 e2 b2 r2 => q (d :: ds) (x :: vs) H2 h2 (e1.trans e2) b2 (.cons (r1.mono (e2.sees s.muh)) r2)
theorem ead {ta : TA} {Q : List Dt → Prop} (h : EVA c ta ρ Q) : EVAD c hid H0 ta ρ Q := fun hd H σ s => h hd H σ s.toSV
theorem evd_call {sp : Sp} {E : XK} {ta : TA} (h : EVAD c hid H0 ta ρ fun ds => SpJ c sp E ds Q) : EVD c hid H0 (tCall sp [] E ta) ρ Q := fun hd H σ s Qh q =>
  h hd H σ s _ fun ds vs H1 h1 e1 b1 r1 => by
    show sp (vs ++ []) H1 Qh E
    rw [List.append_nil]
    exact h1 hd H1 vs (fun a h => e1.dom a (s.dom a h)) s.muh b1 r1 Qh fun d z H2 hq e2 => q d z H2 hq (e1.trans e2)
theorem nj_appD {i : Nat} {ds : List Dt} {K : PySem.W.Frag} (hi : ρ[i]? = some (.ac ds)) (hz : ds.length < 100000) (h : EVD c hid H0 te ρ fun d => NJ c hid H0 D.nx (ρ.set i (.ac (ds ++ [d])))) : NJ c hid H0 (tDrop (tBM K "list" rAppend (tVar i) (tCons te tNil)) D) ρ := fun hd H σ s => by
  obtain ⟨o, vs, g1, a1, a2, a3, a4⟩ := own_get s.slots hi
  refine ⟨.ref o, g1, .inl ⟨rfl, vs, .inl (.inl a3)⟩, h hd H σ s _ fun d v H' hq e b r => ?_⟩
  have s' := s.go e b
  have a3' : H' o = some (.lst vs) := e.keep o _ a2 a3
  refine ⟨o, vs, v, rfl, rfl, a3', Evl.sz_lt (by rw [a4.length]; exact hz), hq hd _ σ (s'.mutOwn ⟨g1, _, hi, rfl⟩ rfl ⟨a1, a2, vs ++ [v], upd_same, ?_⟩)⟩
  rw [hm_upd a1]
  exact (a4.mono (e.sees s.muh)).append (.cons r .nil)
/-! ### dicts: keys are ints and texts -/
def keyD : Dt → Option Key
  | .int i => some (.inl i)
  | .str x => some (.inr x)
  | _ => none
def KeyJ (Q : Key → Prop) : Dt → Prop
  | .int i => Q (.inl i)
  | .str x => Q (.inr x)
  | _ => False
theorem rp_key {K : PySem.W.Frag} {G : Hp} {v : V} {d : Dt} {Q : Key → Prop} (h : KeyJ Q d) (r : Rp K G v d) : ∃ k, v = kV k ∧ Q k := by
  cases r with
  | int i => exact ⟨.inl i, rfl, h⟩
  | str x => exact ⟨.inr x, rfl, h⟩
  | _ => exact h.elim
def valD {κ : Type} [DecidableEq κ] (kvs : List (κ × Dt)) (k : κ) : Option Dt := (kvs.find? fun kv => decide (kv.1 = k)).map (·.2)
def putD {κ : Type} [DecidableEq κ] (kvs : List (κ × Dt)) (k : κ) (d : Dt) : List (κ × Dt) :=
  if (kvs.any fun kv => decide (kv.1 = k)) = true then kvs.map (fun kv => if kv.1 = k then (kv.1, d) else kv) else kvs ++ [(k, d)]
theorem RpK.any {K : PySem.W.Frag} {G : Hp} {k : Key} : ∀ {vs : List (Key × V)} {ds : List (Key × Dt)}, RpK K G vs ds → (vs.any fun kv => decide (kv.1 = k)) = ds.any fun kv => decide (kv.1 = k)
  | _, _, .nil => rfl
  | _, _, .cons _ t => by simp only [List.any_cons, RpK.any t]
theorem RpK.map {K : PySem.W.Frag} {G : Hp} {k : Key} {v : V} {d : Dt} (r : Rp K G v d) : ∀ {vs : List (Key × V)} {ds : List (Key × Dt)}, RpK K G vs ds → RpK K G (vs.map fun kv => if kv.1 = k then (kv.1, v) else kv) (ds.map fun kv => if kv.1 = k then (kv.1, d) else kv)
  | _, _, .nil => .nil
  | _, _, .cons (k := k') h t => by
    rw [List.map_cons, List.map_cons]
    by_cases e : k' = k
    · simp only [e, if_pos]; exact .cons r (RpK.map r t)
    · simp only [e, if_false]; exact .cons h (RpK.map r t)
theorem RpK.append {K : PySem.W.Frag} {G : Hp} : ∀ {vs vs' : List (Key × V)} {ds ds' : List (Key × Dt)}, RpK K G vs ds → RpK K G vs' ds' → RpK K G (vs ++ vs') (ds ++ ds')
  | _, _, _, _, .nil, s => s
  | _, _, _, _, .cons h t, s => .cons h (RpK.append t s)
theorem RpK.len {K : PySem.W.Frag} {G : Hp} : ∀ {vs : List (Key × V)} {ds : List (Key × Dt)}, RpK K G vs ds → vs.length = ds.length
  | _, _, .nil => rfl
  | _, _, .cons _ t => congrArg (· + 1) (RpK.len t)
theorem RpK.put {K : PySem.W.Frag} {G : Hp} {k : Key} {v : V} {d : Dt} (r : Rp K G v d) {vs : List (Key × V)} {ds : List (Key × Dt)} (h : RpK K G vs ds) : RpK K G (putK vs k v) (putD ds k d) := by
  unfold putK putD
  rw [h.any]
  split
  · exact h.map r
  · exact h.append (.cons r .nil)
theorem RpK.val {K : PySem.W.Frag} {G : Hp} {k : Key} : ∀ {vs : List (Key × V)} {ds : List (Key × Dt)}, RpK K G vs ds → (∀ d, valD ds k = some d → ∃ v, valV vs k = some v ∧ Rp K G v d) ∧ (valD ds k = none → valV vs k = none)
  | _, _, .nil => ⟨fun d h => (nomatch h), fun _ => rfl⟩
  | _, _, .cons (k := k') (v := v) (d := d) (vs := vs) (ds := ds) h t => by
    obtain ⟨i1, i2⟩ := RpK.val (k := k) t
    by_cases e : k' = k
    · have e1 : valD ((k', d) :: ds) k = some d := by unfold valD; rw [List.find?_cons_of_pos (by simpa using e)]; rfl
      refine ⟨fun d' hd => ⟨v, valV_pos e, ?_⟩, fun hn => by rw [e1] at hn; cases hn⟩
      rw [e1] at hd
      cases hd
      exact h
    · have e1 : valD ((k', d) :: ds) k = valD ds k := by unfold valD; rw [List.find?_cons_of_neg (by simpa using e)]
      rw [e1, valV_neg (p := (k', v)) e]
      exact ⟨i1, i2⟩
theorem own_getK {hd : Addr → Bool} {H : Hp} {σ : L2.St} (s : SlAll c hd H σ ρ) {i : Nat} {ds : List (Key × Dt)} (hi : ρ[i]? = some (.ak ds)) : ∃ o vs, σ[i]? = some (some (.ref o)) ∧ hd o = true ∧ c.mu o = false ∧ H o = some (.dK vs) ∧ RpK c.K (Hm hd H) vs ds := by
  obtain ⟨x, g1, g2⟩ := s.get hi
  cases x with
  | none => exact g2.elim
  | some v =>
    cases v with
    | ref o =>
      obtain ⟨a1, a2, vs, a3, a4⟩ := g2
      exact ⟨o, vs, g1, a1, a2, a3, a4⟩
    | _ => exact g2.elim
/-- d[k] = e, d owned -/
theorem nj_dput {i : Nat} {ds : List (Key × Dt)} {ty tv : TE} (hi : ρ[i]? = some (.ak ds)) (hz : ds.length < 100000) (h : EVD c hid H0 tv ρ fun d => EV c ty ρ (KeyJ fun k => NJ c hid H0 D.nx (ρ.set i (.ak (putD ds k d))))) : NJ c hid H0 (sDPut (tVar i) ty tv D) ρ := fun hd H σ s => by
  obtain ⟨o, vs, g1, a1, a2, a3, a4⟩ := own_getK s.slots hi
  refine h hd H σ s _ fun d v H' hq e b r => ⟨.ref o, g1, hq hd H' σ (s.go e b).toSV _ fun d2 y H2 hk e2 b2 r2 => ?_⟩
  obtain ⟨k, rfl, hq⟩ := rp_key hk r2
  have e12 := e.trans e2
  have s' := s.go e12 b2
  have a3' : H2 o = some (.dK vs) := e12.keep o _ a2 a3
  refine ⟨o, _, rfl, DPut.k a3' (Evl.sz_lt (by rw [a4.len]; exact hz)), hq hd _ σ (s'.mutOwn ⟨g1, _, hi, rfl⟩ rfl ⟨a1, a2, putK vs k v, upd_same, ?_⟩)⟩
  rw [hm_upd a1]
  exact (a4.mono (e12.sees s.muh)).put (r.mono (e2.sees s.muh))
/-- {} -/
theorem nj_dnew {i : Nat} (h : NJ c hid H0 D.nx (ρ.set i (.ak []))) : NJ c hid H0 (tAsg tDNewK (gName i) D) ρ := fun hd H σ s o ho =>
  h (hide hd o) _ _ (s.setNew (.new ho) (c.keepN (.new ho) ho s.inv) ho (by rw [upd_same]; exact fun z => nomatch z) ⟨hide_self, by
    cases q : c.mu o with
    | false => rfl
    | true => exact absurd ho (s.dom o (s.muh o q)), [], upd_same, .nil⟩)
theorem q_dnew {i : Nat} (h : NJ c hid H0 (tz D) (ρ.set i (.ak []))) : NJ c hid H0 (tSeq (tAsg tDNewK (gName i)) tz D) ρ := nj_dnew (D := { D with nx := tz D }) h
def DkJ (Q : List (Key × Dt) → Prop) : Dt → Prop
  | .dk b => Q b
  | _ => False
theorem dkJ {Q : List (Key × Dt) → Prop} {i : List (Key × Dt)} (h : Q i) : DkJ Q (.dk i) := h
theorem keyJs {Q : Key → Prop} {x : Str} (h : Q (.inr x)) : KeyJ Q (.str x) := h
theorem keyJi {Q : Key → Prop} {x : Int} (h : Q (.inl x)) : KeyJ Q (.int x) := h
theorem ev_dget {td ty : TE} (h : EV c td ρ (DkJ fun ds => EV c ty ρ (KeyJ fun k => ∃ d, valD ds k = some d ∧ Q d))) : EV c (tDGet td ty) ρ Q := fun hd H σ v Qh q => h hd H σ v _ fun d x H1 h1 e1 b1 r1 => by
  cases d with
  | dk ds =>
    refine h1 hd H1 σ (v.go e1 b1) _ fun d2 y H2 h2 e2 b2 r2 => ?_
    cases (r1.mono (e2.sees v.muh)) with
    | dk ha ra =>
      rename_i a kvs
      obtain ⟨k, rfl, d, hd1, hq⟩ := rp_key h2 r2
      obtain ⟨w', hw, rw'⟩ := (ra.val (k := k)).1 d hd1
      exact ⟨a, w', rfl, .inl ⟨kvs, k, sees_rd sees_le rfl ha, rfl, hw.symm⟩, q d w' H2 hq (e1.trans e2) b2 rw'⟩
  | _ => exact h1.elim
theorem val_some {K : PySem.W.Frag} {G : Hp} {k : Key} {vs : List (Key × V)} {ds : List (Key × Dt)} (h : RpK K G vs ds) : (valV vs k).isSome = (valD ds k).isSome := by
  cases e : valD ds k with
  | none => rw [(h.val (k := k)).2 e]; rfl
  | some d =>
    obtain ⟨v, hv, _⟩ := (h.val (k := k)).1 d e
    rw [hv]; rfl
theorem ev_din {td ty : TE} (h : EV c ty ρ (KeyJ fun k => EV c td ρ (DkJ fun ds => Q (.bl (valD ds k).isSome)))) : EV c (tDIn ty td) ρ Q := fun hd H σ v Qh q => h hd H σ v _ fun d x H1 h1 e1 b1 r1 => by
  obtain ⟨k, rfl, h2⟩ := rp_key h1 r1
  refine h2 hd H1 σ (v.go e1 b1) _ fun d2 y H2 h3 e2 b2 r2 => ?_
  cases d2 with
  | dk ds =>
    cases r2 with
    | dk ha ra => exact ⟨_, _, rfl, .inl ⟨_, k, sees_rd sees_le rfl ha, rfl, rfl⟩, by rw [val_some ra]; exact q _ _ H2 h3 (e1.trans e2) b2 (.bl _)⟩
  | _ => exact h3.elim
theorem ev_dnotin {td ty : TE} (h : EV c ty ρ (KeyJ fun k => EV c td ρ (DkJ fun ds => Q (.bl (!(valD ds k).isSome))))) : EV c (tDNotIn ty td) ρ Q := fun hd H σ v Qh q => h hd H σ v _ fun d x H1 h1 e1 b1 r1 => by
  obtain ⟨k, rfl, h2⟩ := rp_key h1 r1
  refine h2 hd H1 σ (v.go e1 b1) _ fun d2 y H2 h3 e2 b2 r2 => ?_
  cases d2 with
  | dk ds =>
    cases r2 with
    | dk ha ra => exact ⟨_, _, rfl, .inl ⟨_, k, sees_rd sees_le rfl ha, rfl, rfl⟩, by rw [val_some ra]; exact q _ _ H2 h3 (e1.trans e2) b2 (.bl _)⟩
  | _ => exact h3.elim
end
end CC

namespace CC
open PySem PySem.Spec PyProof.Rows L2
/-! ### a dict walked by its keys: locked meanwhile -/
def dKey : Key → Dt
  | .inl i => .int i
  | .inr x => .str x
theorem rp_dKey {K : PySem.W.Frag} {G : Hp} (k : Key) : Rp K G (kV k) (dKey k) := by
  cases k with
  | inl i => exact .int i
  | inr x => exact .str x
def isK : Sl → Bool
  | .iK _ => true
  | _ => false
section
variable {c : Cn} {hid hd : Addr → Bool} {H0 H : Hp} {σ : L2.St} {ρ : List Sl} {D : Ends} {ts tz : TS} {g : TG} {N : L2.St → Hp → Prop}
theorem nj_iK {i : Nat} {ds : List (Key × Dt)} (hi : ρ[i]? = some (.ak ds)) (h : NJ c hid H0 N (ρ.set i (.iK ds))) : NJ c hid H0 N ρ := fun hd H σ s => by
  obtain ⟨hd', s'⟩ := s.share hi rfl (sl' := .iK ds) rfl fun o hd' le ho g => by
    obtain ⟨a1, a2, vs, a3, a4⟩ := g
    exact ⟨ho, a2, vs, a3, a4.mono (sees_hide le)⟩
  exact h hd' H σ s'
theorem ik_get (s : SlAll c hd H σ ρ) {i : Nat} {ds : List (Key × Dt)} (hi : ρ[i]? = some (.iK ds)) : ∃ o vs, σ[i]? = some (some (.ref o)) ∧ hd o = false ∧ c.mu o = false ∧ H o = some (.dK vs) ∧ RpK c.K (Hm hd H) vs ds := by
  obtain ⟨x, g1, g2⟩ := s.get hi
  cases x with
  | none => exact g2.elim
  | some v =>
    cases v with
    | ref o =>
      obtain ⟨a1, a2, vs, a3, a4⟩ := g2
      exact ⟨o, vs, g1, a1, a2, a3, a4⟩
    | _ => exact g2.elim
theorem ev_varK {i : Nat} {ds : List (Key × Dt)} {Q : Dt → Prop} (h : ρ[i]? = some (.iK ds)) (k : Q (.dk ds)) : EV c (tVar i) ρ Q := fun hd H σ v Qh q => by
  obtain ⟨o, vs, g1, a1, a2, a3, a4⟩ := ik_get v.slots h
  exact ⟨.ref o, g1, q _ _ H k .refl v.inv (.dk (.inl (by rw [hm_of a1]; exact a3)) a4)⟩
theorem ev_varL {i : Nat} {o : Addr} {ds : List (Key × Dt)} {Q : Dt → Prop} (h : ρ[i]? = some (.dl o ds)) (k : Q (.dk ds)) : EV c (tVar i) ρ Q := fun hd H σ v Qh q => by
  obtain ⟨x, g1, g2⟩ := v.slots.get h
  cases x with
  | none => exact g2.elim
  | some v' => exact ⟨v', g1, q _ _ H k .refl v.inv (by rw [g2.1]; exact g2.2)⟩
theorem sees_lock {o : Addr} {od : Obj} {vs : List (Key × V)} (ho : H o = some (.dK vs)) : Sees (Hm hd H) (Hm hd (upd H o (.frz od (.dK vs)))) := fun a u h => by
  have h1 := hm_not h
  have h2 := hm_le h
  by_cases q : a = o
  · subst q
    rw [ho] at h2
    cases h2
    exact ⟨.frz od (.dK vs), by rw [hm_of h1, upd_same], .inr ⟨rfl, rfl⟩⟩
  · exact ⟨u, by rw [hm_of h1, upd_ne q]; exact h2, .rfl⟩
theorem sees_unlock {o : Addr} {od : Obj} {vs : List (Key × V)} (ho : H o = some (.frz od (.dK vs))) : Sees (Hm hd H) (Hm hd (upd H o (.dK vs))) := fun a u h => by
  have h1 := hm_not h
  have h2 := hm_le h
  by_cases q : a = o
  · subst q
    rw [ho] at h2
    cases h2
    exact ⟨.dK vs, by rw [hm_of h1, upd_same], .inr ⟨rfl, rfl⟩⟩
  · exact ⟨u, by rw [hm_of h1, upd_ne q]; exact h2, .rfl⟩
/-- slots under a lock or its end: all but exact dicts stand -/
theorem slots_lock {H' : Hp} {i : Nat} {o : Addr} {s0 : Sl} (e : Sees (Hm hd H) (Hm hd H')) (hoth : ∀ j s, ρ[j]? = some s → j ≠ i → isK s = false) (ho : hd o = false) (hk : ∀ a, a ≠ o → H' a = H a) (sl : SlAll c hd H σ ρ) (hv : σ[i]? = some (some (.ref o))) (h0 : SlOk c hd H' (some (.ref o)) s0) : SlAll c hd H' σ (ρ.set i s0) :=
  SlAll.of_get (by rw [List.length_set]; exact sl.len) fun j x s h1 h2 => by
    rcases set_get h2 with ⟨rfl, e2⟩ | ⟨q, e2⟩
    · rw [hv] at h1
      cases h1
      rw [e2]
      exact h0
    · obtain ⟨x', g1, g2⟩ := sl.get e2
      rw [h1] at g1
      cases g1
      have hs := hoth j s e2 q
      cases s with
      | un => exact slok_un
      | im d =>
        cases x with
        | none => exact g2.elim
        | some v => exact Rp.mono e g2
      | rw v =>
        cases x with
        | none => exact g2.elim
        | some v => exact g2
      | dl q ds =>
        cases x with
        | none => exact g2.elim
        | some v => exact ⟨g2.1, Rp.mono e g2.2⟩
      | iK ds => cases hs
      | ac ds =>
        cases x with
        | none => exact g2.elim
        | some v =>
          cases v with
          | ref p =>
            obtain ⟨a1, a2, vs, a3, a4⟩ := g2
            exact ⟨a1, a2, vs, by rw [hk p (fun z => by subst z; rw [ho] at a1; cases a1)]; exact a3, RpAll.mono e a4⟩
          | _ => exact g2.elim
      | ak ds =>
        cases x with
        | none => exact g2.elim
        | some v =>
          cases v with
          | ref p =>
            obtain ⟨a1, a2, vs, a3, a4⟩ := g2
            exact ⟨a1, a2, vs, by rw [hk p (fun z => by subst z; rw [ho] at a1; cases a1)]; exact a3, RpK.mono e a4⟩
          | _ => exact g2.elim
      | aT ds =>
        cases x with
        | none => exact g2.elim
        | some v =>
          cases v with
          | ref p =>
            obtain ⟨a1, a2, vs, a3, a4⟩ := g2
            exact ⟨a1, a2, vs, by rw [hk p (fun z => by subst z; rw [ho] at a1; cases a1)]; exact a3, RpT.mono e a4⟩
          | _ => exact g2.elim
theorem rpk_keys {K : PySem.W.Frag} {G : Hp} : ∀ {vs : List (Key × V)} {ds : List (Key × Dt)}, RpK K G vs ds → ∀ {i : Nat} {k : Key} {v : V}, vs[i]? = some (k, v) → (ds.map fun kd => dKey kd.1)[i]? = some (dKey k)
  | _, _, .cons _ _, 0, _, _, h => by cases h; rfl
  | _, _, .cons _ t, i + 1, _, _, h => rpk_keys t (i := i) h
theorem itk_ok {K : PySem.W.Frag} {G : Hp} {o : Addr} {od : Obj} {vs : List (Key × V)} {ds : List (Key × Dt)} (ho : G o = some (.frz od (.dK vs))) (r : RpK K G vs ds) : ItOk K G (Itk o od vs) (ds.map fun kd => dKey kd.1) := by
  have hl : vs.length = (ds.map fun kd => dKey kd.1).length := by rw [List.length_map]; exact r.len
  refine ⟨fun i H s hi => ⟨s o _ ho, by omega⟩, fun i H x H' d s hi y => ?_, fun i H s hi => ⟨s o _ ho, by omega⟩⟩
  obtain ⟨rfl, k, v, hv, rfl⟩ := y
  rw [rpk_keys r hv] at hi
  cases hi
  exact ⟨.refl, fun hd2 dom sb => rp_dKey k⟩
/-- for k in d: .., d an exact dict in slot i -/
theorem nj_forK {i : Nat} {ds : List (Key × Dt)} (hi : ρ[i]? = some (.iK ds)) (hoth : ∀ j s, ρ[j]? = some s → j ≠ i → isK s = false) (I : Addr → Nat → List Sl → Prop) (h0 : ∀ o, I o 0 (ρ.set i (.dl o ds)))
    (hb : ∀ o H1 (D' : Ends), (∀ d, RJ c hid H0 D.rt d → RJ c hid H1 D'.rt d) → ∀ n k d ρ', ds[n]? = some (k, d) → I o n ρ' → TGJ c hid H1 g (dKey k) ρ' (ts { D' with nx := Nx c hid H1 (I o (n + 1)), ct := Nx c hid H1 (I o (n + 1)), bk := D'.nx }))
    (he : ∀ o ρ', I o ds.length ρ' → ρ'[i]? = some (.dl o ds) ∧ (∀ j s, ρ'[j]? = some s → j ≠ i → isK s = false) ∧ NJ c hid H0 D.nx (ρ'.set i (.iK ds))) :
    NJ c hid H0 (tLock (tFor (iKeys (tVar i)) g ts) D) ρ := fun hd H σ s => by
  obtain ⟨o, vs, g1, a1, a2, a3, a4⟩ := ik_get s.slots hi
  refine ⟨o, .dK vs, a3, trivial, fun od => ?_⟩
  have sees := sees_lock (hd := hd) (od := od) a3
  let HL : Hp := upd H o (.frz od (.dK vs))
  let H0L : Hp := fun a => if a = o ∧ H0 o ≠ none then some (.frz od (.dK vs)) else H0 a
  have ne : ∀ a, a ≠ o → HL a = H a := fun a q => upd_ne q
  have nh : hid o = false := by
    cases q : hid o with
    | false => rfl
    | true => rw [s.sub o q] at a1; cases a1
  have sl0 : SlOk c hd HL (some (.ref o)) (.dl o ds) := ⟨rfl, .dk (.inr ⟨od, by rw [hm_of a1]; exact upd_same⟩) (a4.mono sees)⟩
  have h0L : ∀ a, a ≠ o → H0L a = H0 a := fun a q => if_neg fun z => q z.1
  have sdL : SD c hid hd H0L HL σ (ρ.set i (.dl o ds)) := by
    refine ⟨⟨fun a q => upd_dom (s.dom a q), s.muh, c.putS sees a2 a3 rfl s.inv, slots_lock sees hoth a1 ne s.slots g1 sl0⟩, s.sub, ⟨fun a x hm h => ?_, fun a h => ?_⟩, fun a h1 h2 => ?_, fun a b p z1 z2 => ?_, fun a p z1 => ?_⟩
    · by_cases q : a = o
      · subst q
        by_cases z : H0 a ≠ none
        · have e : H0L a = some (.frz od (.dK vs)) := if_pos ⟨rfl, z⟩
          rw [e] at h
          cases h
          exact upd_same
        · have e : H0L a = H0 a := if_neg fun y => z y.2
          rw [e] at h
          rw [h] at z
          exact absurd (fun y => nomatch y) z
      · rw [h0L a q] at h
        rw [ne a q]
        exact s.ext.keep a x hm h
    · by_cases q : a = o
      · subst q; show upd H a _ a ≠ none; rw [upd_same]; exact fun y => nomatch y
      · rw [h0L a q] at h
        rw [ne a q]
        exact s.ext.dom a h
    · rw [h0L a (fun z => by subst z; rw [h1] at a1; cases a1)]
      exact s.new a h1 h2
    · have k1 : ∀ k p, ownAt σ (ρ.set i (.dl o ds)) k p → ownAt σ ρ k p := fun k p q => by
        obtain ⟨q1, s', q2, q3⟩ := q
        rcases set_get q2 with ⟨rfl, e⟩ | ⟨_, e⟩
        · rw [e] at q3; cases q3
        · exact ⟨q1, s', e, q3⟩
      exact s.own a b p (k1 _ _ z1) (k1 _ _ z2)
    · obtain ⟨q1, s', q2, q3⟩ := z1
      rcases set_get q2 with ⟨rfl, e⟩ | ⟨_, e⟩
      · rw [e] at q3; cases q3
      · exact s.ownh a p ⟨q1, s', e, q3⟩
  -- the loop's base
  have sB := hj_sd sdL
  have eB := hj_ex sdL
  let HB : Hp := Hj H0L hd HL
  have hBo : HB o = some (.frz od (.dK vs)) := by
    show (if hd o = true then H0L o else HL o) = _
    rw [if_neg (by rw [a1]; exact Bool.false_ne_true)]
    exact upd_same
  have back : ∀ {H' : Hp}, Ex c.mu HB H' → H' o = some (.frz od (.dK vs)) ∧ Ex c.mu H0 (upd H' o (.dK vs)) := fun {H'} e => by
    refine ⟨e.keep o _ a2 hBo, fun a x hm h => ?_, fun a h => ?_⟩
    · by_cases q : a = o
      · subst q
        have := s.ext.keep a x hm h
        rw [a3] at this
        cases this
        exact upd_same
      · rw [upd_ne q]
        refine (eB.trans e).keep a x hm ?_
        rw [h0L a q]
        exact h
    · by_cases q : a = o
      · subst q; rw [upd_same]; exact fun y => nomatch y
      · rw [upd_ne q]
        refine (eB.trans e).dom a ?_
        rw [h0L a q]
        exact h
  have bst : ∀ {hd' : Addr → Bool} {H' : Hp}, H' o = some (.frz od (.dK vs)) → c.B hd' H' → c.B hd' (upd H' o (.dK vs)) := fun {hd' H'} h b => c.putS (sees_unlock h) a2 h rfl b
  let D' : Ends := ⟨fun σ' H' => H' o = some (.frz od (.dK vs)) ∧ D.nx σ' (upd H' o (.dK vs)), fun v H' => H' o = some (.frz od (.dK vs)) ∧ D.rt v (upd H' o (.dK vs)), fun σ' H' => H' o = some (.frz od (.dK vs)) ∧ D.bk σ' (upd H' o (.dK vs)), fun σ' H' => H' o = some (.frz od (.dK vs)) ∧ D.ct σ' (upd H' o (.dK vs))⟩
  show tFor (iKeys (tVar i)) g ts D' σ HL
  refine ⟨.ref o, g1, o, od, rfl, .inl ⟨vs, upd_same, ?_⟩⟩
  have ok : ItOk c.K (Hm hd HL) (Itk o od vs) (ds.map fun kd => dKey kd.1) := itk_ok (by rw [hm_of a1]; exact upd_same) (a4.mono sees)
  have vis : ∀ {hd2 H2 σ2 ρ2}, SD c hid hd2 HB H2 σ2 ρ2 → Sub (Hm hd HL) (Hm hd2 H2) := fun {hd2 H2 σ2 ρ2} s2 a x ha => by
    have h1 := hm_not ha
    have h2 := hm_le ha
    have hm : c.mu a = false := by
      cases q : c.mu a with
      | false => rfl
      | true => rw [s.muh a q] at h1; cases h1
    have hb : HB a = some x := by
      show (if hd a = true then H0L a else HL a) = _
      rw [if_neg (by rw [h1]; exact Bool.false_ne_true)]; exact h2
    rw [hm_of]
    · exact s2.ext.keep a x hm hb
    · cases q : hd2 a with
      | false => rfl
      | true =>
        cases q2 : hid a with
        | true => rw [s.sub a q2] at h1; cases h1
        | false =>
          have := s2.new a q q2
          rw [hb] at this; cases this
  have vis' : ∀ {hd2 H2 σ2 ρ2}, SD c hid hd2 HB H2 σ2 ρ2 → Sub (Hm hd HL) H2 := fun s2 a x ha => hm_le (vis s2 a x ha)
  have hlen : (ds.map fun kd => dKey kd.1).length = ds.length := List.length_map ..
  refine ⟨fun n m σ2 H2 => m = ds.length - n ∧ n ≤ ds.length ∧ ∃ ρ2 hd2, I o n ρ2 ∧ SD c hid hd2 HB H2 σ2 ρ2, ⟨ds.length, rfl, Nat.zero_le _, _, hd, h0 o, sB⟩, ?_⟩
  rintro n m σ2 H2 ⟨rfl, hn, ρ2, hd2, hI, s2⟩
  by_cases hlt : n < ds.length
  · refine .inr ⟨ok.go n H2 (vis' s2) (by omega), Nx c hid HB (I o (n + 1)), fun σ' H3 hN => ?_, fun x H3 hy => ?_⟩
    · obtain ⟨ρ3, hd3, hI3, s3⟩ := hN
      exact ⟨ds.length - (n + 1), by omega, rfl, hlt, ρ3, hd3, hI3, s3⟩
    · have hat : (ds.map fun kd => dKey kd.1)[n]? = some (dKey ds[n].1) := by
        rw [List.getElem?_map, List.getElem?_eq_getElem hlt]; rfl
      obtain ⟨e3, r3⟩ := ok.yl n H2 x H3 _ (vis' s2) hat hy
      refine hb o HB D' (fun d' hr v H' e b r => ?_) n ds[n].1 ds[n].2 ρ2 (List.getElem?_eq_getElem hlt) hI hd2 H3 σ2 x (s2.go e3.up (c.keep0 e3 s2.inv)) (r3 hd2 s2.dom (vis s2))
      obtain ⟨f1, f2⟩ := back e
      exact ⟨f1, hr v _ f2 (bst f1 b) (r.mono (sees_unlock f1))⟩
  · have e : n = ds.length := by omega
    subst e
    obtain ⟨q1, q2, q3⟩ := he o ρ2 hI
    refine .inl ⟨ok.st _ H2 (vis' s2) (by omega), ?_⟩
    obtain ⟨f1, f2⟩ := back s2.ext
    refine ⟨f1, q3 hd2 _ σ2 ?_⟩
    obtain ⟨x, y1, y2⟩ := s2.slots.get q1
    have hx : x = some (.ref o) := by
      cases x with
      | none => exact y2.elim
      | some v => rw [y2.1]
    subst hx
    have ho2 : hd2 o = false := hm_not (vis s2 o _ (show Hm hd HL o = some (.frz od (.dK vs)) by rw [hm_of a1]; exact upd_same))
    have sees2 := sees_unlock (hd := hd2) f1
    have r2 : RpK c.K (Hm hd2 H2) vs ds := (a4.mono sees).mono (vis s2).sees
    have ne2 : ∀ a, a ≠ o → upd H2 o (.dK vs) a = H2 a := fun a q => upd_ne q
    have k1 : ∀ k p, ownAt σ2 (ρ2.set i (.iK ds)) k p → ownAt σ2 ρ2 k p := fun k p q => by
      obtain ⟨u1, s', u2, u3⟩ := q
      rcases set_get u2 with ⟨_, e⟩ | ⟨_, e⟩
      · rw [e] at u3; cases u3
      · exact ⟨u1, s', e, u3⟩
    refine ⟨⟨fun a q => upd_dom (s2.dom a q), s2.muh, bst f1 s2.inv, slots_lock sees2 q2 ho2 ne2 s2.slots y1 ⟨ho2, a2, vs, upd_same, r2.mono sees2⟩⟩, s2.sub, f2, fun a h1 h2 => ?_, fun a b p z1 z2 => s2.own a b p (k1 _ _ z1) (k1 _ _ z2), fun a p z1 => s2.ownh a p (k1 _ _ z1)⟩
    have := eB.fresh (s2.new a h1 h2)
    rwa [h0L a (fun z => by subst z; rw [h1] at ho2; cases ho2)] at this
/-- [e for k in d], d an exact dict in slot i -/
theorem en_lcK {i : Nat} {ds : List (Key × Dt)} {t : TT} {te : TE} {vs : List Nat} {Q : List Dt → Prop} (hi : ρ[i]? = some (.iK ds)) (hoth : ∀ j s, ρ[j]? = some s → j ≠ i → isK s = false) (hz : ds.length ≤ 100000) (I : Nat → List Dt → Prop) (i0 : I 0 [])
    (hs : ∀ o n k d acc, ds[n]? = some (k, d) → I n acc → TGE c g (dKey k) (wipeS (ρ.set i (.dl o ds)) vs) vs fun ρ' => EVT c t ρ' fun b => (b = true → EV c te ρ' fun y => I (n + 1) (acc ++ [y])) ∧ (b = false → I (n + 1) acc)) (he : ∀ acc, I ds.length acc → Q acc) :
    EN c (tLockE (tLc (iKeys (tVar i)) g t te vs)) ρ Q := fun hd H σ v Qh q => by
  obtain ⟨o, ws, g1, a1, a2, a3, a4⟩ := ik_get v.slots hi
  refine ⟨o, .dK ws, a3, trivial, fun od => ?_⟩
  have sees := sees_lock (hd := hd) (od := od) a3
  let HL : Hp := upd H o (.frz od (.dK ws))
  have ne : ∀ a, a ≠ o → HL a = H a := fun a q => upd_ne q
  have sl0 : SlOk c hd HL (some (.ref o)) (.dl o ds) := ⟨rfl, .dk (.inr ⟨od, by rw [hm_of a1]; exact upd_same⟩) (a4.mono sees)⟩
  have vL : SV c hd HL σ (ρ.set i (.dl o ds)) := ⟨fun a q => upd_dom (v.dom a q), v.muh, c.putS sees a2 a3 rfl v.inv, slots_lock sees hoth a1 ne v.slots g1 sl0⟩
  refine ⟨.ref o, g1, o, od, rfl, .inl ⟨ws, upd_same, ?_⟩⟩
  have ok : ItOk c.K (Hm hd HL) (Itk o od ws) (ds.map fun kd => dKey kd.1) := itk_ok (by rw [hm_of a1]; exact upd_same) (a4.mono sees)
  intro L0 hL0'
  refine lc_at (Qh := fun v H' => H' o = some (.frz od (.dK ws)) ∧ Qh v (upd H' o (.dK ws))) vL ok (by rw [List.length_map]; exact hz) I i0 (fun n d acc hn hI => ?_) (fun acc L zs H2 hI e2 b2 hL hw r2 => ?_) L0 hL0'
  · rw [List.getElem?_map] at hn
    cases hk : ds[n]? with
    | none => rw [hk] at hn; cases hn
    | some kd =>
      rw [hk] at hn
      cases hn
      exact hs o n kd.1 kd.2 acc hk hI
  · rw [List.length_map] at hI
    have f1 : H2 o = some (.frz od (.dK ws)) := e2.keep o _ a2 upd_same
    have noL : L ≠ o := fun z => by subst z; rw [show HL L = _ from upd_same] at hL; cases hL
    have hL0 : H L = none := by rw [← ne L noL]; exact hL
    refine ⟨f1, q acc L zs _ (he acc hI) ⟨fun a x hm h => ?_, fun a h => ?_⟩ (c.putS (sees_unlock f1) a2 f1 rfl b2) hL0 (by rw [upd_ne noL]; exact hw) (r2.mono (sees_unlock f1))⟩
    · by_cases z : a = o
      · subst z
        rw [a3] at h
        cases h
        exact upd_same
      · rw [upd_ne z]
        refine e2.keep a x hm ?_
        rw [ne a z]
        exact h
    · by_cases z : a = o
      · subst z; rw [upd_same]; exact fun y => nomatch y
      · rw [upd_ne z]
        refine e2.dom a ?_
        rw [ne a z]
        exact h
end
end CC

namespace CC
open PySem PySem.Spec PyProof.Rows L2
open C8 (Cal pe_c pe_gc)
/-! ### a law's box of draws: [the numbers that are left, a number] -/
def Bx (b l : Addr) (H : Hp) : Prop := ∃ (s : Int) (ns : List Int), H b = some (.lst [.ref l, .int s]) ∧ H l = some (.lst (ns.map V.int))
def muB (b l : Addr) : Addr → Bool := fun a => decide (a = b) || decide (a = l)
theorem muB_b {b l : Addr} : muB b l b = true := by unfold muB; rw [decide_eq_true rfl, Bool.true_or]
theorem muB_l {b l : Addr} : muB b l l = true := by unfold muB; rw [decide_eq_true rfl, Bool.or_true]
theorem muB_of {b l a : Addr} (h : muB b l a = true) : a = b ∨ a = l := by
  unfold muB at h
  rcases Bool.or_eq_true_iff.mp h with h | h
  · exact .inl (of_decide_eq_true h)
  · exact .inr (of_decide_eq_true h)
abbrev cnB (K : PySem.W.Frag) (b l : Addr) : Cn := ⟨K, muB b l, fun _ H => Bx b l H, fun _ _ H H' _ h ⟨s, ns, h1, h2⟩ => ⟨s, ns, h b _ (.inl muB_b) h1, h l _ (.inl muB_l) h2⟩⟩
def spB (K : PySem.W.Frag) (S : List Dt → (Dt → Prop) → Prop) : Sp := fun vs H Qh _ => ∃ b l ws hid ds Q, vs = .ref b :: ws ∧ b ≠ l ∧ Bx b l H ∧ hid b = true ∧ hid l = true ∧ (∀ a, hid a = true → H a ≠ none) ∧ RpAll K (Hm hid H) ws ds ∧ S ds Q ∧
  ∀ d v H', Q d → Ex (muB b l) H H' → Bx b l H' → Rp K (Hm hid H') v d → Qh v H'
def spBN (K : PySem.W.Frag) (S : List Dt → (List Dt → Prop) → Prop) : Sp := fun vs H Qh _ => ∃ b l ws hid ds Q, vs = .ref b :: ws ∧ b ≠ l ∧ Bx b l H ∧ hid b = true ∧ hid l = true ∧ (∀ a, hid a = true → H a ≠ none) ∧ RpAll K (Hm hid H) ws ds ∧ S ds Q ∧
  ∀ es o zs H', Q es → Ex (muB b l) H H' → Bx b l H' → H o = none → H' o = some (.lst zs) → RpAll K (Hm (hide hid o) H') zs es → Qh (.ref o) H'
section
variable {K : PySem.W.Frag} {b l : Addr} {ρ : List Sl} {Q : Dt → Prop} {QL : List Dt → Prop}
theorem rw_get {c : Cn} {hd : Addr → Bool} {H : Hp} {σ : L2.St} (s : SlAll c hd H σ ρ) {i : Nat} {u : V} (hi : ρ[i]? = some (.rw u)) : σ[i]? = some (some u) := by
  obtain ⟨x, g1, g2⟩ := s.get hi
  cases x with
  | none => exact g2.elim
  | some v => rw [g1, show v = u from g2]
theorem ev_callB {S : List Dt → (Dt → Prop) → Prop} {E : XK} {i : Nat} {ta : TA} (hne : b ≠ l) (hi : ρ[i]? = some (.rw (.ref b))) (h : EVA (cnB K b l) ta ρ fun ds => S ds Q) : EV (cnB K b l) (tCall (spB K S) [] E (tCons (tVar i) ta)) ρ Q := fun hd H σ v Qh q =>
  ⟨.ref b, rw_get v.slots hi, h hd H σ v _ fun ds vs H1 h1 e1 b1 r1 => by
    show spB K S ((.ref b :: vs) ++ []) H1 Qh E
    rw [List.append_nil]
    exact ⟨b, l, vs, hd, ds, Q, rfl, hne, b1, v.muh b muB_b, v.muh l muB_l, fun a h => e1.dom a (v.dom a h), r1, h1, fun d z H2 hq e2 b2 r2 => q d z H2 hq (e1.trans e2) b2 r2⟩⟩
theorem en_callB {S : List Dt → (List Dt → Prop) → Prop} {E : XK} {i : Nat} {ta : TA} (hne : b ≠ l) (hi : ρ[i]? = some (.rw (.ref b))) (h : EVA (cnB K b l) ta ρ fun ds => S ds QL) : EN (cnB K b l) (tCall (spBN K S) [] E (tCons (tVar i) ta)) ρ QL := fun hd H σ v Qh q =>
  ⟨.ref b, rw_get v.slots hi, h hd H σ v _ fun ds vs H1 h1 e1 b1 r1 => by
    show spBN K S ((.ref b :: vs) ++ []) H1 Qh E
    rw [List.append_nil]
    exact ⟨b, l, vs, hd, ds, QL, rfl, hne, b1, v.muh b muB_b, v.muh l muB_l, fun a h => e1.dom a (v.dom a h), r1, h1, fun es o zs H2 hq e2 b2 ho => q es o zs H2 hq (e1.trans e2) b2 (e1.fresh ho)⟩⟩
end
theorem sd_box {K : PySem.W.Frag} {b l : Addr} {hid : Addr → Bool} {H : Hp} {N : List Str} {ws : List V} {ds : List Dt} (hne : b ≠ l) (bx : Bx b l H) (hb : hid b = true) (hl : hid l = true) (dom : ∀ a, hid a = true → H a ≠ none) (r : RpAll K (Hm hid H) ws ds) (hN : N ≠ []) :
    SD (cnB K b l) hid hid H H (L2.start N (.ref b :: ws)) (.rw (.ref b) :: startS N.tail ds) := by
  have hlen := r.length
  have e : L2.start N (.ref b :: ws) = some (.ref b) :: L2.start N.tail ws := by
    unfold L2.start
    rw [List.map_cons, List.cons_append, List.length_cons, List.length_tail]
    congr 3
    have := List.length_pos_iff.mpr hN
    omega
  have sd := sd_start (c := cnB K b l) (N := N.tail) dom (fun a h => by
    rcases muB_of h with rfl | rfl
    · exact hb
    · exact hl) bx r
  rw [e]
  have key : ∀ i o, ¬ ownAt (some (.ref b) :: L2.start N.tail ws) (.rw (.ref b) :: startS N.tail ds) i o := fun i o h => by
    obtain ⟨h1, s, h2, h3⟩ := h
    cases i with
    | zero => cases h2; cases h3
    | succ i => rw [owns_im (show (startS N.tail ds)[i]? = some s from h2)] at h3; cases h3
  exact ⟨⟨sd.dom, sd.muh, bx, .cons rfl sd.slots⟩, sd.sub, sd.ext, sd.new, fun i j o h1 => (key i o h1).elim, fun i o h1 => (key i o h1).elim⟩
section
variable {P : Program} {w : World} {K : PySem.W.Frag} {mg : Str → Option Value} {base : Heap}
theorem cal_box {x : Str} {st : Stmt} {N ps : List Str} {k : Nat} {S : List Dt → (Dt → Prop) → Prop} (F : FnAt K mg x st ps) (Sc : FnScope N ps (defScope st)) (hN : N ≠ []) (len : ∀ ds Q, S ds Q → ds.length + 1 = ps.length)
    (hb : ∀ (f : Addr) (cdv : Value) (A : Around) (outer : List Env) (s : Shared) (H : Hp) (E : XK), Room k (A.deeper (envOfC x (defScope st) s.heap.objs.size f cdv)) →
      ∃ t, PSs (cxD P w K mg base N x st f cdv A outer s H E) (defBody st) t ∧ ∀ ds Q, S ds Q → ∀ b l, b ≠ l → ∀ hid H0 (D : Ends), (∀ a, hid a = true → H0 a ≠ none) → RetOk (cnB K b l) hid H0 Q D → NJ (cnB K b l) hid H0 (t D) (.rw (.ref b) :: startS N.tail ds)) :
    Cal P w K mg base (k + 1) x (spB K S) [] := by
  obtain ⟨f, fd, hm, F, bi⟩ := F
  refine ⟨⟨f, fd, ps, [], F.ok Sc (fun vs H Q E h => ?_) (fun cdv A outer s H vs Q E hr h => ?_), hm, F.kp, bi, .nil⟩⟩
  · obtain ⟨b, l, ws, hid, ds, Q', rfl, _, _, _, _, _, r, hS, _⟩ := h
    rw [List.length_cons, r.length]
    exact len ds Q' hS
  · obtain ⟨b, l, ws, hid, ds, Q', rfl, hne, bx, h1, h2, dom, r, hS, q⟩ := h
    obtain ⟨t, ht, hn⟩ := hb f cdv A outer s H E hr
    exact ⟨t, ht, hn ds Q' hS b l hne hid H { nx := fun _ H' => Q .non H', rt := Q } dom ⟨fun d hd v H' e bb r => q d v H' hd e bb r, fun hd ρ hd' H' σ sd => q .non .non H' hd sd.ext sd.inv .non⟩ hid H _ (sd_box hne bx h1 h2 dom r hN)⟩
theorem cal_boxN {x : Str} {st : Stmt} {N ps : List Str} {k : Nat} {S : List Dt → (List Dt → Prop) → Prop} (F : FnAt K mg x st ps) (Sc : FnScope N ps (defScope st)) (hN : N ≠ []) (len : ∀ ds Q, S ds Q → ds.length + 1 = ps.length)
    (hb : ∀ (f : Addr) (cdv : Value) (A : Around) (outer : List Env) (s : Shared) (H : Hp) (E : XK), Room k (A.deeper (envOfC x (defScope st) s.heap.objs.size f cdv)) →
      ∃ t, PSs (cxD P w K mg base N x st f cdv A outer s H E) (defBody st) t ∧ ∀ ds Q, S ds Q → ∀ b l, b ≠ l → ∀ hid H0 (D : Ends), (∀ a, hid a = true → H0 a ≠ none) → RetN (cnB K b l) hid H0 Q D → NJ (cnB K b l) hid H0 (t D) (.rw (.ref b) :: startS N.tail ds)) :
    Cal P w K mg base (k + 1) x (spBN K S) [] := by
  obtain ⟨f, fd, hm, F, bi⟩ := F
  refine ⟨⟨f, fd, ps, [], F.ok Sc (fun vs H Q E h => ?_) (fun cdv A outer s H vs Q E hr h => ?_), hm, F.kp, bi, .nil⟩⟩
  · obtain ⟨b, l, ws, hid, ds, Q', rfl, _, _, _, _, _, r, hS, _⟩ := h
    rw [List.length_cons, r.length]
    exact len ds Q' hS
  · obtain ⟨b, l, ws, hid, ds, Q', rfl, hne, bx, h1, h2, dom, r, hS, q⟩ := h
    obtain ⟨t, ht, hn⟩ := hb f cdv A outer s H E hr
    exact ⟨t, ht, hn ds Q' hS b l hne hid H { nx := fun _ H' => Q .non H', rt := Q } dom ⟨fun d hd o vs H' e bb => q d o vs H' hd e bb⟩ hid H _ (sd_box hne bx h1 h2 dom r hN)⟩
end
end CC
namespace CC
open PySem PySem.Spec PyProof.Rows L2
theorem notin_s {c : Cn} {Q : Dt → Prop} {x : Str} {xs : List Str} (h : Q (.bl (!inV (.str x) (xs.map V.str)))) : R2J c (rNotInU c.K) (.str x) (.tup (xs.map Dt.str)) Q := fun hd H u y dom mh bb rx ry Qh q => by
  cases rx
  cases ry with
  | tup ha ra =>
    have e := ra.strs
    subst e
    refine .inl ⟨_, _, rfl, .inr (sqt_hm ha), rfl, ?_, kv_here q bb h (.bl _)⟩
    rw [List.all_eq_true]
    intro z hz
    obtain ⟨n, _, rfl⟩ := List.mem_map.mp hz
    rfl
theorem in_s {c : Cn} {Q : Dt → Prop} {x : Str} {xs : List Str} (h : Q (.bl (inV (.str x) (xs.map V.str)))) : R2J c (rInU c.K) (.str x) (.tup (xs.map Dt.str)) Q := fun hd H u y dom mh bb rx ry Qh q => by
  cases rx
  cases ry with
  | tup ha ra =>
    have e := ra.strs
    subst e
    refine .inl ⟨_, _, rfl, .inr (sqt_hm ha), rfl, ?_, kv_here q bb h (.bl _)⟩
    rw [List.all_eq_true]
    intro z hz
    obtain ⟨n, _, rfl⟩ := List.mem_map.mp hz
    rfl
end CC

namespace CC
open PySem PySem.Spec PyProof.Rows L2
open C8 (Cal pe_c pe_gc)
/-! ### defs that hand back a new dict -/
def spPK (K : PySem.W.Frag) (S : List Dt → (List (Key × Dt) → Prop) → Prop) : Sp := fun vs H Qh _ => ∃ hid ds Q, (∀ a, hid a = true → H a ≠ none) ∧ RpAll K (Hm hid H) vs ds ∧ S ds Q ∧
  ∀ es o ws H', Q es → Ex none0 H H' → H o = none → H' o = some (.dK ws) → RpK K (Hm (hide hid o) H') ws es → Qh (.ref o) H'
def RKJ (c : Cn) (hid : Addr → Bool) (H0 : Hp) (R : VK) (ds : List (Key × Dt)) : Prop := ∀ o vs H', Ex c.mu H0 H' → c.B (hide hid o) H' → H0 o = none → H' o = some (.dK vs) → RpK c.K (Hm (hide hid o) H') vs ds → R (.ref o) H'
structure RetK (c : Cn) (hid : Addr → Bool) (H0 : Hp) (Q : List (Key × Dt) → Prop) (D : Ends) : Prop where
  rt : ∀ d, Q d → RKJ c hid H0 D.rt d
section
variable {c : Cn} {hid : Addr → Bool} {H0 : Hp} {ρ : List Sl} {te : TE} {D : Ends} {tz : TS}
theorem nj_retAk {i : Nat} {ds : List (Key × Dt)} (hi : ρ[i]? = some (.ak ds)) (h : RKJ c hid H0 D.rt ds) : NJ c hid H0 (tRet (tVar i) D) ρ := fun hd H σ s => by
  obtain ⟨x, g1, g2⟩ := s.slots.get hi
  cases x with
  | none => exact g2.elim
  | some v =>
    cases v with
    | ref o =>
      obtain ⟨a1, a2, vs, a3, a4⟩ := g2
      have nh := s.ownh i o ⟨g1, _, hi, rfl⟩
      exact ⟨.ref o, g1, h o vs H s.ext (c.unhide (fun a h => by
        rcases hide_inv h with h | h
        · exact s.sub a h
        · subst h; exact a1) s.inv) (s.new o a1 nh) a3 (a4.mono (sees_hide fun a h => by
        rcases hide_inv h with h | h
        · exact s.sub a h
        · subst h; exact a1))⟩
    | _ => exact g2.elim
/-- x = f(..), f hands back a new dict -/
theorem q_asgK {S : List Dt → (List (Key × Dt) → Prop) → Prop} {E : XK} {ta : TA} {i : Nat} (h : EVA c ta ρ fun ds => S ds fun es => NJ c hid H0 (tz D) (ρ.set i (.ak es))) : NJ c hid H0 (tSeq (tAsg (tCall (spPK c.K S) [] E ta) (gName i)) tz D) ρ := fun hd H σ s =>
  h hd H σ s.toSV _ fun ds vs H1 h1 e1 b1 r1 => by
    show spPK c.K S (vs ++ []) H1 _ E
    rw [List.append_nil]
    refine ⟨hd, ds, _, fun a h => e1.dom a (s.dom a h), r1, h1, fun es o ws H' hq e2 ho hw rw' => ?_⟩
    have s1 := s.go e1 b1
    exact hq (hide hd o) H' _ (s1.setNew e2.up (c.keepN e2 ho b1) ho (by rw [hw]; exact fun z => nomatch z) ⟨hide_self, by
      cases q : c.mu o with
      | false => rfl
      | true => exact absurd ho (s1.dom o (s1.muh o q)), ws, hw, rw'⟩)
end
section
variable {P : Program} {w : World} {K : PySem.W.Frag} {mg : Str → Option Value} {base : Heap}
theorem cal_pureK {x : Str} {st : Stmt} {N ps : List Str} {k : Nat} {S : List Dt → (List (Key × Dt) → Prop) → Prop} (F : FnAt K mg x st ps) (Sc : FnScope N ps (defScope st)) (len : ∀ ds Q, S ds Q → ds.length = ps.length)
    (hb : ∀ (f : Addr) (cdv : Value) (A : Around) (outer : List Env) (s : Shared) (H : Hp) (E : XK), Room k (A.deeper (envOfC x (defScope st) s.heap.objs.size f cdv)) →
      ∃ t, PSs (cxD P w K mg base N x st f cdv A outer s H E) (defBody st) t ∧ ∀ ds Q, S ds Q → ∀ hid H0 (D : Ends), (∀ a, hid a = true → H0 a ≠ none) → RetK (Cn.pure K) hid H0 Q D → NJ (Cn.pure K) hid H0 (t D) (startS N ds)) :
    Cal P w K mg base (k + 1) x (spPK K S) [] := by
  obtain ⟨f, fd, hm, F, b⟩ := F
  refine ⟨⟨f, fd, ps, [], F.ok Sc (fun vs H Q E h => ?_) (fun cdv A outer s H vs Q E hr h => ?_), hm, F.kp, b, .nil⟩⟩
  · obtain ⟨hid, ds, Q', _, r, hS, _⟩ := h
    rw [r.length]
    exact len ds Q' hS
  · obtain ⟨hid, ds, Q', dom, r, hS, q⟩ := h
    obtain ⟨t, ht, hn⟩ := hb f cdv A outer s H E hr
    exact ⟨t, ht, hn ds Q' hS hid H { nx := fun _ H' => Q .non H', rt := Q } dom ⟨fun d hd o vs H' e _ => q d o vs H' hd e⟩ hid H _ (sd_start dom (fun _ h => nomatch h) trivial r)⟩
end
/-! ### try: .. except C: pass -/
section
variable {c : Cn} {hid : Addr → Bool} {H0 : Hp} {ρ : List Sl} {D : Ends} {K : PySem.W.Frag} {C : Addr}
theorem only_next {W : WX} (m : PySem.W.exmOne K (.ref C) (.ref C) = some true) (h : NJ c hid H0 D.nx ρ) : NJ c hid H0 (wOnly K (.ref C) (fun _ _ _ => tNext) W D (.ref C) none) ρ := fun hd H σ s =>
  ⟨true, m, fun _ a _ => h hd H σ s, fun z => nomatch z⟩
end
end CC

namespace CC
open PySem PySem.Spec PyProof.Rows L2
open PySem.W (AlikeAll minD dataLt alike alikeAll alike_unique reads_keeps min_list_data dataLt_int dataLt_tuple dataLt_list dataLt_all_yes dataLt_all_no)
/-! ### min of a list of data -/
def rMinD (K : PySem.W.Frag) : List V → Hp → VK → Prop := fun vs H Q => ∃ (a : Addr) (ys : List V) (d : PyData) (ds : List PyData), vs = [V.ref a] ∧ SqL K H a ys ∧ DpAll K H ys (d :: ds) ∧ AlikeAll (d :: ds) ∧ PyData.depthAll (d :: ds) ≤ 63 ∧
  ∀ (i : Nat) (y : V), ys[i]? = some y → (d :: ds)[i]? = some (minD d ds) → Q y H
theorem minD_mem (d : PyData) (ds : List PyData) : minD d ds ∈ d :: ds := by
  have : ∀ (ds : List PyData) (d : PyData), ds.foldl (fun a y => if dataLt y a then y else a) d ∈ d :: ds := by
    intro ds
    induction ds with
    | nil => intro d; exact List.mem_cons_self
    | cons e r ih =>
      intro d
      rw [List.foldl_cons]
      have h := ih (if dataLt e d then e else d)
      rcases List.mem_cons.mp h with h | h
      · rw [h]
        split
        · exact List.mem_cons_of_mem _ List.mem_cons_self
        · exact List.mem_cons_self
      · exact List.mem_cons_of_mem _ (List.mem_cons_of_mem _ h)
  exact this ds d
theorem dpAll_at {K : PySem.W.Frag} {H : Hp} : ∀ {ys : List V} {ds : List PyData}, DpAll K H ys ds → ∀ {i : Nat} {y : V}, ys[i]? = some y → ∃ d, ds[i]? = some d ∧ Dp K H y d
  | _, _, .cons h _, 0, _, e => by cases e; exact ⟨_, rfl, h⟩
  | _, _, .cons _ t, i + 1, _, e => dpAll_at t (i := i) e
theorem dpAll_len {K : PySem.W.Frag} {H : Hp} : ∀ {ys : List V} {ds : List PyData}, DpAll K H ys ds → ys.length = ds.length
  | _, _, .nil => rfl
  | _, _, .cons _ t => congrArg (· + 1) (dpAll_len t)
theorem vals_back : ∀ {ys : List V} {us : List Value}, Vals ys us → ∀ {i : Nat} {u : Value}, us[i]? = some u → ∃ y, ys[i]? = some y ∧ RelV y u
  | _, _, .cons h _, 0, _, e => by cases e; exact ⟨_, rfl, h⟩
  | _, _, .cons _ t, i + 1, _, e => vals_back t (i := i) e
theorem cr_minD {X : Cx} (hc : X.calm = true) (hu : X.A.units + 64 < cLine) : CallR X (.builtin "min") (rMinD X.K) := by
  intro pins s σ H vs us Q I r h
  obtain ⟨a, ys, d, ds, rfl, hs, hd, ha, hdp, q⟩ := h
  obtain ⟨its, rv, hl, _⟩ := I.list hs
  rw [Vals.ref1 r]
  obtain ⟨as, hr⟩ := Dp.readsAll I (d :: ds) ys its hd rv
  refine min_list_data (I.ok.hd hc) hl.isList (x := d) (xs := ds) (as := as) (by simpa using hr) ha (by omega) fun i v h' tk bs hv hm hk => ?_
  have hv' : its[i]? = some v := by simpa using hv
  obtain ⟨y, hy, ry⟩ := vals_back rv hv'
  obtain ⟨dd, hdd, dy⟩ := dpAll_at hd hy
  obtain ⟨cs, hrd⟩ := Dp.reads I dd y v dy ry
  have hmem := List.mem_of_getElem? hdd
  have e : dd = minD d ds := alike_unique dd (minD d ds) v cs bs (ha.1 _ hmem _ (minD_mem d ds)) (reads_keeps hk hrd) hm
  exact ⟨y, H, I.kept hk, ry, q i y hy (by rw [hdd, e])⟩
end CC

namespace CC
open PySem PySem.Spec PyProof.Rows L2
open C8 (Cal pe_c pe_gc)
open PySem.W (AlikeAll minD dataLt alike alikeAll dataLt_int dataLt_tuple dataLt_list dataLt_all_yes dataLt_all_no)
/-! ### dicts whose keys are tuples -/
theorem rp_keys {K : PySem.W.Frag} {G : Hp} : ∀ {k : List Key} {vs : List V}, RpAll K G vs (k.map dKey) → vs = k.map kV
  | [], _, .nil => rfl
  | .inl i :: k, _, .cons (.int _) t => by rw [rp_keys t]; rfl
  | .inr x :: k, _, .cons (.str _) t => by rw [rp_keys t]; rfl
theorem RpT.any {K : PySem.W.Frag} {G : Hp} {k : List Key} : ∀ {vs : List (List Key × V)} {ds : List (List Key × Dt)}, RpT K G vs ds → (vs.any fun kv => decide (kv.1 = k)) = ds.any fun kv => decide (kv.1 = k)
  | _, _, .nil => rfl
  | _, _, .cons _ t => by simp only [List.any_cons, RpT.any t]
theorem RpT.map {K : PySem.W.Frag} {G : Hp} {k : List Key} {v : V} {d : Dt} (r : Rp K G v d) : ∀ {vs : List (List Key × V)} {ds : List (List Key × Dt)}, RpT K G vs ds → RpT K G (vs.map fun kv => if kv.1 = k then (kv.1, v) else kv) (ds.map fun kv => if kv.1 = k then (kv.1, d) else kv)
  | _, _, .nil => .nil
  | _, _, .cons (k := k') h t => by
    rw [List.map_cons, List.map_cons]
    by_cases e : k' = k
    · simp only [e, if_pos]; exact .cons r (RpT.map r t)
    · simp only [e, if_false]; exact .cons h (RpT.map r t)
theorem RpT.append {K : PySem.W.Frag} {G : Hp} : ∀ {vs vs' : List (List Key × V)} {ds ds' : List (List Key × Dt)}, RpT K G vs ds → RpT K G vs' ds' → RpT K G (vs ++ vs') (ds ++ ds')
  | _, _, _, _, .nil, s => s
  | _, _, _, _, .cons h t, s => .cons h (RpT.append t s)
theorem RpT.len {K : PySem.W.Frag} {G : Hp} : ∀ {vs : List (List Key × V)} {ds : List (List Key × Dt)}, RpT K G vs ds → vs.length = ds.length
  | _, _, .nil => rfl
  | _, _, .cons _ t => congrArg (· + 1) (RpT.len t)
theorem RpT.put {K : PySem.W.Frag} {G : Hp} {k : List Key} {v : V} {d : Dt} (r : Rp K G v d) {vs : List (List Key × V)} {ds : List (List Key × Dt)} (h : RpT K G vs ds) : RpT K G (putK vs k v) (putD ds k d) := by
  unfold putK putD
  rw [h.any]
  split
  · exact h.map r
  · exact h.append (.cons r .nil)
theorem RpT.val {K : PySem.W.Frag} {G : Hp} {k : List Key} : ∀ {vs : List (List Key × V)} {ds : List (List Key × Dt)}, RpT K G vs ds → ∀ d, valD ds k = some d → ∃ v, valV vs k = some v ∧ Rp K G v d
  | _, _, .nil, d, h => nomatch h
  | _, _, .cons (k := k') (v := v) (d := d) (vs := vs) (ds := ds) h t, d', hd => by
    by_cases e : k' = k
    · have e1 : valD ((k', d) :: ds) k = some d := by unfold valD; rw [List.find?_cons_of_pos (by simpa using e)]; rfl
      rw [e1] at hd
      cases hd
      exact ⟨v, valV_pos e, h⟩
    · have e1 : valD ((k', d) :: ds) k = valD ds k := by unfold valD; rw [List.find?_cons_of_neg (by simpa using e)]
      rw [e1] at hd
      rw [valV_neg (p := (k', v)) e]
      exact RpT.val t d' hd
section
variable {c : Cn} {hid : Addr → Bool} {H0 : Hp} {ρ : List Sl} {D : Ends} {tz : TS} {Q : Dt → Prop}
theorem own_getT {hd : Addr → Bool} {H : Hp} {σ : L2.St} (s : SlAll c hd H σ ρ) {i : Nat} {ds : List (List Key × Dt)} (hi : ρ[i]? = some (.aT ds)) : ∃ o vs, σ[i]? = some (some (.ref o)) ∧ hd o = true ∧ c.mu o = false ∧ H o = some (.dT vs) ∧ RpT c.K (Hm hd H) vs ds := by
  obtain ⟨x, g1, g2⟩ := s.get hi
  cases x with
  | none => exact g2.elim
  | some v =>
    cases v with
    | ref o =>
      obtain ⟨a1, a2, vs, a3, a4⟩ := g2
      exact ⟨o, vs, g1, a1, a2, a3, a4⟩
    | _ => exact g2.elim
theorem nj_dnewT {i : Nat} (h : NJ c hid H0 D.nx (ρ.set i (.aT []))) : NJ c hid H0 (tAsg tDNewT (gName i) D) ρ := fun hd H σ s o ho =>
  h (hide hd o) _ _ (s.setNew (.new ho) (c.keepN (.new ho) ho s.inv) ho (by rw [upd_same]; exact fun z => nomatch z) ⟨hide_self, by
    cases q : c.mu o with
    | false => rfl
    | true => exact absurd ho (s.dom o (s.muh o q)), [], upd_same, .nil⟩)
theorem q_dnewT {i : Nat} (h : NJ c hid H0 (tz D) (ρ.set i (.aT []))) : NJ c hid H0 (tSeq (tAsg tDNewT (gName i)) tz D) ρ := nj_dnewT (D := { D with nx := tz D }) h
/-- d[a, b] = e, d owned -/
theorem nj_dputT {i : Nat} {ds : List (List Key × Dt)} {ta : TA} {tv : TE} (hi : ρ[i]? = some (.aT ds)) (hz : ds.length < 100000) (h : EV c tv ρ fun d => EVA c ta ρ fun es => ∃ k : List Key, es = k.map dKey ∧ k.length ≤ 100000 ∧ NJ c hid H0 D.nx (ρ.set i (.aT (putD ds k d)))) : NJ c hid H0 (sDPut (tVar i) (tTup ta) tv D) ρ := fun hd H σ s => by
  obtain ⟨o, vs, g1, a1, a2, a3, a4⟩ := own_getT s.slots hi
  refine h hd H σ s.toSV _ fun d v H' hq e b r => ⟨.ref o, g1, hq hd H' σ (s.go e b).toSV _ fun es ys H2 hk e2 b2 r2 => ?_⟩
  obtain ⟨k, rfl, hk1, hq⟩ := hk
  have ey := rp_keys r2
  subst ey
  refine ⟨Evl.sz_of (by rw [List.length_map]; exact hk1), fun p hp => ?_⟩
  have e12 := e.trans e2
  have s' := s.go e12 b2
  have s3 : SD c hid hd H0 (upd H2 p (.tup (k.map kV))) σ ρ := s'.go (.new hp) (c.keep0 (.new hp) b2)
  have a3' : upd H2 p (.tup (k.map kV)) o = some (.dT vs) := by
    rw [upd_ne (fun z => by subst z; rw [e12.keep _ _ a2 a3] at hp; cases hp)]
    exact e12.keep o _ a2 a3
  refine ⟨o, _, rfl, DPut.t a3' upd_same (Evl.sz_lt (by rw [a4.len]; exact hz)), hq hd _ σ (s3.mutOwn ⟨g1, _, hi, rfl⟩ rfl ⟨a1, a2, putK vs k v, upd_same, ?_⟩)⟩
  have e123 : Ex c.mu H (upd H2 p (.tup (k.map kV))) := e12.trans (.new hp)
  have e23 : Ex c.mu H' (upd H2 p (.tup (k.map kV))) := e2.trans (.new hp)
  rw [hm_upd a1]
  exact (a4.mono (e123.sees s.muh)).put (r.mono (e23.sees s.muh))
def DtJ (Q : List (List Key × Dt) → Prop) : Dt → Prop
  | .dt b => Q b
  | _ => False
theorem dtJ {Q : List (List Key × Dt) → Prop} {i : List (List Key × Dt)} (h : Q i) : DtJ Q (.dt i) := h
/-- d[a, b] -/
theorem ev_dgetT {td : TE} {ta : TA} (h : EV c td ρ (DtJ fun ds => EVA c ta ρ fun es => ∃ (k : List Key) (d : Dt), es = k.map dKey ∧ k.length ≤ 100000 ∧ valD ds k = some d ∧ Q d)) : EV c (tDGet td (tTup ta)) ρ Q := fun hd H σ v Qh q => h hd H σ v _ fun d x H1 h1 e1 b1 r1 => by
  cases d with
  | dt ds =>
    refine h1 hd H1 σ (v.go e1 b1) _ fun es ys H2 h2 e2 b2 r2 => ?_
    obtain ⟨k, d, rfl, hk1, hd1, hq⟩ := h2
    have ey := rp_keys r2
    subst ey
    refine ⟨Evl.sz_of (by rw [List.length_map]; exact hk1), fun p hp => ?_⟩
    have e3 : Ex c.mu H2 (upd H2 p (.tup (k.map kV))) := .new hp
    have b3 : c.B hd (upd H2 p (.tup (k.map kV))) := c.keep0 (.new hp) b2
    cases ((r1.mono (e2.sees v.muh)).mono (e3.sees v.muh)) with
    | dt ha ra =>
      rename_i a kvs
      obtain ⟨w', hw, rw'⟩ := ra.val (k := k) d hd1
      exact ⟨a, w', rfl, .inr ⟨kvs, k, p, sees_rd sees_le rfl ha, rfl, upd_same, hw.symm⟩, q d w' _ hq ((e1.trans e2).trans e3) b3 rw'⟩
  | _ => exact h1.elim
/-! ### a new dict of this kind handed back -/
end
def spPT (K : PySem.W.Frag) (S : List Dt → (List (List Key × Dt) → Prop) → Prop) : Sp := fun vs H Qh _ => ∃ hid ds Q, (∀ a, hid a = true → H a ≠ none) ∧ RpAll K (Hm hid H) vs ds ∧ S ds Q ∧
  ∀ es o ws H', Q es → Ex none0 H H' → H o = none → H' o = some (.dT ws) → RpT K (Hm (hide hid o) H') ws es → Qh (.ref o) H'
def RTJ (c : Cn) (hid : Addr → Bool) (H0 : Hp) (R : VK) (ds : List (List Key × Dt)) : Prop := ∀ o vs H', Ex c.mu H0 H' → c.B (hide hid o) H' → H0 o = none → H' o = some (.dT vs) → RpT c.K (Hm (hide hid o) H') vs ds → R (.ref o) H'
structure RetT (c : Cn) (hid : Addr → Bool) (H0 : Hp) (Q : List (List Key × Dt) → Prop) (D : Ends) : Prop where
  rt : ∀ d, Q d → RTJ c hid H0 D.rt d
section
variable {c : Cn} {hid : Addr → Bool} {H0 : Hp} {ρ : List Sl} {te : TE} {D : Ends} {tz : TS}
theorem nj_retAT {i : Nat} {ds : List (List Key × Dt)} (hi : ρ[i]? = some (.aT ds)) (h : RTJ c hid H0 D.rt ds) : NJ c hid H0 (tRet (tVar i) D) ρ := fun hd H σ s => by
  obtain ⟨o, vs, g1, a1, a2, a3, a4⟩ := own_getT s.slots hi
  have nh := s.ownh i o ⟨g1, _, hi, rfl⟩
  exact ⟨.ref o, g1, h o vs H s.ext (c.unhide (fun a h => by
        rcases hide_inv h with h | h
        · exact s.sub a h
        · subst h; exact a1) s.inv) (s.new o a1 nh) a3 (a4.mono (sees_hide fun a h => by
    rcases hide_inv h with h | h
    · exact s.sub a h
    · subst h; exact a1))⟩
theorem q_asgTd {S : List Dt → (List (List Key × Dt) → Prop) → Prop} {E : XK} {ta : TA} {i : Nat} (h : EVA c ta ρ fun ds => S ds fun es => NJ c hid H0 (tz D) (ρ.set i (.aT es))) : NJ c hid H0 (tSeq (tAsg (tCall (spPT c.K S) [] E ta) (gName i)) tz D) ρ := fun hd H σ s =>
  h hd H σ s.toSV _ fun ds vs H1 h1 e1 b1 r1 => by
    show spPT c.K S (vs ++ []) H1 _ E
    rw [List.append_nil]
    refine ⟨hd, ds, _, fun a h => e1.dom a (s.dom a h), r1, h1, fun es o ws H' hq e2 ho hw rw' => ?_⟩
    have s1 := s.go e1 b1
    exact hq (hide hd o) H' _ (s1.setNew e2.up (c.keepN e2 ho b1) ho (by rw [hw]; exact fun z => nomatch z) ⟨hide_self, by
      cases q : c.mu o with
      | false => rfl
      | true => exact absurd ho (s1.dom o (s1.muh o q)), ws, hw, rw'⟩)
end
section
variable {P : Program} {w : World} {K : PySem.W.Frag} {mg : Str → Option Value} {base : Heap}
theorem cal_pureT {x : Str} {st : Stmt} {N ps : List Str} {k : Nat} {S : List Dt → (List (List Key × Dt) → Prop) → Prop} (F : FnAt K mg x st ps) (Sc : FnScope N ps (defScope st)) (len : ∀ ds Q, S ds Q → ds.length = ps.length)
    (hb : ∀ (f : Addr) (cdv : Value) (A : Around) (outer : List Env) (s : Shared) (H : Hp) (E : XK), Room k (A.deeper (envOfC x (defScope st) s.heap.objs.size f cdv)) →
      ∃ t, PSs (cxD P w K mg base N x st f cdv A outer s H E) (defBody st) t ∧ ∀ ds Q, S ds Q → ∀ hid H0 (D : Ends), (∀ a, hid a = true → H0 a ≠ none) → RetT (Cn.pure K) hid H0 Q D → NJ (Cn.pure K) hid H0 (t D) (startS N ds)) :
    Cal P w K mg base (k + 1) x (spPT K S) [] := by
  obtain ⟨f, fd, hm, F, b⟩ := F
  refine ⟨⟨f, fd, ps, [], F.ok Sc (fun vs H Q E h => ?_) (fun cdv A outer s H vs Q E hr h => ?_), hm, F.kp, b, .nil⟩⟩
  · obtain ⟨hid, ds, Q', _, r, hS, _⟩ := h
    rw [r.length]
    exact len ds Q' hS
  · obtain ⟨hid, ds, Q', dom, r, hS, q⟩ := h
    obtain ⟨t, ht, hn⟩ := hb f cdv A outer s H E hr
    exact ⟨t, ht, hn ds Q' hS hid H { nx := fun _ H' => Q .non H', rt := Q } dom ⟨fun d hd o vs H' e _ => q d o vs H' hd e⟩ hid H _ (sd_start dom (fun _ h => nomatch h) trivial r)⟩
end
end CC

namespace CC
open PySem PySem.Spec PyProof.Rows L2
open C8 (Cal pe_c pe_gc)
open PySem.W (AlikeAll minD dataLt alike alikeAll dataLt_int dataLt_tuple dataLt_list dataLt_all_yes dataLt_all_no)
/-! ### sorted(d), d a dict of int keys -/
def rSortDI : List V → Hp → VK → Prop := fun xs H Q => ∃ (a : Addr) (kvs : List (Key × V)) (ks : List Int), xs = [.ref a] ∧ Rd H a (.dK kvs) ∧ kvs.map (·.1) = ks.map Sum.inl ∧ ks.length < 64 ∧
    ∀ (ys : List Int) (p : Addr), ys.Perm ks → ys.Pairwise (· ≤ ·) → H p = none → Q (.ref p) (upd H p (.lst (ys.map V.int)))
theorem cr_sortDI {X : Cx} (hc : X.calm = true) : CallR X (.builtin "sorted") rSortDI := call_sortedDI hc
theorem RpK.keys {K : PySem.W.Frag} {G : Hp} : ∀ {vs : List (Key × V)} {ds : List (Key × Dt)}, RpK K G vs ds → vs.map (·.1) = ds.map (·.1)
  | _, _, .nil => rfl
  | _, _, .cons _ t => by rw [List.map_cons, List.map_cons, RpK.keys t]
theorem rpi {K : PySem.W.Frag} {G : Hp} : ∀ ns : List Int, RpAll K G (ns.map V.int) (ns.map Dt.int)
  | [] => .nil
  | n :: ns => .cons (.int n) (rpi ns)
theorem sort_di {c : Cn} {QL : List Dt → Prop} {ds : List (Key × Dt)} {ks : List Int} (hk : ds.map (·.1) = ks.map Sum.inl) (h64 : ks.length < 64) (h : ∀ ys : List Int, ys.Perm ks → ys.Pairwise (· ≤ ·) → QL (ys.map Dt.int)) : RCN c rSortDI [.dk ds] QL := fun hd H vs dom mh bb r Qh q => by
  obtain ⟨v, rfl, r1⟩ := rp1 r
  cases r1 with
  | dk ha ra => exact ⟨_, _, ks, rfl, sees_rd sees_le rfl ha, by rw [ra.keys]; exact hk, h64, fun ys p h1 h2 hp => q _ p _ _ (h ys h1 h2) (.new hp) (c.keepN (.new hp) hp bb) hp upd_same (rpi ys)⟩
/-! ### found.extend(e) -/
theorem nj_ext {c : Cn} {hid : Addr → Bool} {H0 : Hp} {ρ : List Sl} {D : Ends} {te : TE} {i : Nat} {ds : List Dt} {K : PySem.W.Frag} (hi : ρ[i]? = some (.ac ds)) (h : EV c te ρ (LstJ fun es => ds.length + es.length ≤ 100000 ∧ NJ c hid H0 D.nx (ρ.set i (.ac (ds ++ es))))) : NJ c hid H0 (tDrop (tBM K "list" rExtend (tVar i) (tCons te tNil)) D) ρ := fun hd H σ s => by
  obtain ⟨o, vs, g1, a1, a2, a3, a4⟩ := own_get s.slots hi
  refine ⟨.ref o, g1, .inl ⟨rfl, vs, .inl (.inl a3)⟩, h hd H σ s.toSV _ fun d v H' hq e b r => ?_⟩
  cases d with
  | lst es =>
    obtain ⟨hz, hq⟩ := hq
    have s' := s.go e b
    have a3' : H' o = some (.lst vs) := e.keep o _ a2 a3
    cases r with
    | lst ha ra =>
      refine ⟨o, _, vs, _, rfl, rfl, a3', hm_le ha, Evl.sz_of (by rw [a4.length, ra.length]; exact hz), hq hd _ σ (s'.mutOwn ⟨g1, _, hi, rfl⟩ rfl ⟨a1, a2, _, upd_same, ?_⟩)⟩
      rw [hm_upd a1]
      exact (a4.mono (e.sees s.muh)).append ra
  | _ => exact hq.elim
/-! ### min of a list of triples: two numbers and a list -/
abbrev Tri : Type := Int × Int × List Int
def triD (t : Tri) : Dt := .tup [.int t.1, .int t.2.1, .lst (t.2.2.map Dt.int)]
def triLt (a b : Tri) : Bool := dataLt (py (triD a)) (py (triD b))
def minT (t : Tri) (r : List Tri) : Tri := r.foldl (fun a y => if triLt y a then y else a) t
theorem pyI : ∀ ns : List Int, pyL (ns.map Dt.int) = ns.map PyData.int
  | [] => rfl
  | n :: ns => by rw [List.map_cons, List.map_cons, pyL, pyI ns]; rfl
theorem py_tri (t : Tri) : py (triD t) = .tuple [.int t.1, .int t.2.1, .list (t.2.2.map PyData.int)] := by
  show PyData.tuple [.int t.1, .int t.2.1, .list (pyL (t.2.2.map Dt.int))] = _
  rw [pyI]
theorem py_tri_inj {a b : Tri} (h : py (triD a) = py (triD b)) : a = b := by
  rw [py_tri, py_tri] at h
  injection h with h
  injection h with h1 h
  injection h with h2 h
  injection h with h3 _
  injection h1 with h1
  injection h2 with h2
  injection h3 with h3
  obtain ⟨a1, a2, a3⟩ := a
  obtain ⟨b1, b2, b3⟩ := b
  have : a3 = b3 := by
    have := congrArg (List.map fun d : PyData => match d with | .int i => i | _ => 0) h3
    rw [List.map_map, List.map_map] at this
    have e : ∀ l : List Int, l.map ((fun d : PyData => match d with | .int i => i | _ => 0) ∘ PyData.int) = l := fun l => by
      rw [show ((fun d : PyData => match d with | .int i => i | _ => 0) ∘ PyData.int) = id from rfl, List.map_id]
    rwa [e, e] at this
  cases h1; cases h2; cases this
  rfl
theorem alike_ints : ∀ (a b : List Int), alikeAll (a.map PyData.int) (b.map PyData.int) = true
  | [], [] => by unfold alikeAll; rfl
  | [], _ :: _ => by unfold alikeAll; rfl
  | _ :: _, [] => by unfold alikeAll; rfl
  | x :: a, y :: b => by
    rw [List.map_cons, List.map_cons, alikeAll, alike_ints a b]
    unfold alike
    rfl
theorem alike_tri (a b : Tri) : alike (py (triD a)) (py (triD b)) = true := by
  rw [py_tri, py_tri]
  have e := alike_ints a.2.2 b.2.2
  simp only [alike, alikeAll, e, Bool.and_true, Bool.and_self]
theorem sh_tri (t : Tri) : Sh 2 (triD t) := .tup fun d hd => by
  rcases List.mem_cons.mp hd with rfl | hd
  · exact .int _
  rcases List.mem_cons.mp hd with rfl | hd
  · exact .int _
  rcases List.mem_cons.mp hd with rfl | hd
  · exact .lst fun d hd => by
      obtain ⟨x, _, rfl⟩ := List.mem_map.mp hd
      exact .int x
  · cases hd
theorem minD_tri : ∀ (r : List Tri) (t : Tri), minD (py (triD t)) (pyL (r.map triD)) = py (triD (minT t r))
  | [], t => rfl
  | y :: r, t => by
    have ih := minD_tri r (if triLt y t then y else t)
    show minD (if dataLt (py (triD y)) (py (triD t)) then py (triD y) else py (triD t)) (pyL (r.map triD)) = py (triD (minT (if triLt y t then y else t) r))
    rw [← ih]
    unfold triLt
    cases dataLt (py (triD y)) (py (triD t)) <;> rfl
theorem pyL_map (f : Tri → Dt) : ∀ r : List Tri, pyL (r.map f) = r.map fun t => py (f t)
  | [] => rfl
  | t :: r => by rw [List.map_cons, List.map_cons, pyL, pyL_map f r]
theorem min_tri {c : Cn} {Q : Dt → Prop} {t : Tri} {r : List Tri} (h : Q (triD (minT t r))) : RCJ c (rMinD c.K) [.lst ((t :: r).map triD)] Q := fun hd H vs dom mh bb rr Qh q => by
  obtain ⟨v, rfl, r1⟩ := rp1 rr
  cases r1 with
  | lst ha ra =>
    rename_i a ws
    have hsh : ∀ d ∈ (t :: r).map triD, Sh 2 d := fun d hd => by
      obtain ⟨x, _, rfl⟩ := List.mem_map.mp hd
      exact sh_tri x
    have hdp : DpAll c.K (Hm hd H) ws (pyL ((t :: r).map triD)) := dp_all (Rp.dp 2) hsh ra
    have hra := ra
    have dph : DpAll c.K H ws (pyL ((t :: r).map triD)) := dp_all (Rp.dp 2) hsh (RpAll.mono (sees_le (hd := hd) (H := H)) ra)
    refine ⟨a, ws, py (triD t), pyL (r.map triD), rfl, .inl (.inl (hm_le ha)), dph, ⟨fun x hx y hy => ?_, fun x hx => ?_⟩, ?_, fun i y hy hm => ?_⟩
    · have hx' : x ∈ pyL ((t :: r).map triD) := hx
      have hy' : y ∈ pyL ((t :: r).map triD) := hy
      rw [pyL_map] at hx' hy'
      obtain ⟨a1, _, rfl⟩ := List.mem_map.mp hx'
      obtain ⟨a2, _, rfl⟩ := List.mem_map.mp hy'
      exact alike_tri a1 a2
    · have hx' : x ∈ pyL ((t :: r).map triD) := hx
      rw [pyL_map] at hx'
      obtain ⟨a1, _, rfl⟩ := List.mem_map.mp hx'
      rw [py_tri]
      exact fun z => nomatch z
    · have := depth_all (n := 2) (Sh.deep 2) hsh
      exact Nat.le_trans this (by decide)
    · have hm' : (pyL ((t :: r).map triD))[i]? = some (py (triD (minT t r))) := by rw [← minD_tri]; exact hm
      rw [pyL_map, List.getElem?_map] at hm'
      cases e : (t :: r)[i]? with
      | none => rw [e] at hm'; cases hm'
      | some u =>
        rw [e] at hm'
        have eu : u = minT t r := py_tri_inj (Option.some.inj hm')
        subst eu
        have ry : ∃ y', ws[i]? = some y' ∧ Rp c.K (Hm hd H) y' (triD (minT t r)) := by
          have hd' : ((t :: r).map triD)[i]? = some (triD (minT t r)) := by rw [List.getElem?_map, e]; rfl
          exact ra.get hd'
        obtain ⟨y', hy', ry'⟩ := ry
        rw [hy] at hy'
        cases hy'
        exact kv_here q bb h ry'
theorem eqv_int (a b : Int) : PyData.eqv (.int a) (.int b) = (a == b) := by unfold PyData.eqv; rfl
theorem alike_int (a b : Int) : alike (.int a) (.int b) = true := by unfold alike; rfl
theorem triLt_fst {a b : Tri} (h : a.1 ≠ b.1) : triLt a b = decide (a.1 < b.1) := by
  unfold triLt
  rw [py_tri, py_tri, dataLt_tuple, dataLt_all_no (alike_int _ _) (by rw [eqv_int]; simpa using h), dataLt_int]
theorem triLt_snd {a b : Tri} (h : a.1 = b.1) (h2 : a.2.1 ≠ b.2.1) : triLt a b = decide (a.2.1 < b.2.1) := by
  unfold triLt
  rw [py_tri, py_tri, dataLt_tuple, dataLt_all_yes (alike_int _ _) (by rw [eqv_int]; simpa using h), dataLt_all_no (alike_int _ _) (by rw [eqv_int]; simpa using h2), dataLt_int]
theorem minT_mem (t : Tri) (r : List Tri) : minT t r ∈ t :: r := by
  induction r generalizing t with
  | nil => exact List.mem_cons_self
  | cons y r ih =>
    have h : minT (if triLt y t then y else t) r ∈ (if triLt y t then y else t) :: r := ih _
    show minT (if triLt y t then y else t) r ∈ t :: y :: r
    rcases List.mem_cons.mp h with h | h
    · rw [h]
      split
      · exact List.mem_cons_of_mem _ List.mem_cons_self
      · exact List.mem_cons_self
    · exact List.mem_cons_of_mem _ (List.mem_cons_of_mem _ h)
theorem minT_le (t : Tri) (r : List Tri) : ∀ y ∈ t :: r, (minT t r).1 ≤ y.1 := by
  induction r generalizing t with
  | nil =>
    intro y hy
    rw [List.mem_singleton.mp hy]
    exact Int.le_refl _
  | cons z r ih =>
    intro y hy
    show (minT (if triLt z t then z else t) r).1 ≤ y.1
    have hs := ih (if triLt z t then z else t)
    have h0 := hs _ List.mem_cons_self
    have key : (if triLt z t then z else t).1 ≤ t.1 ∧ (if triLt z t then z else t).1 ≤ z.1 := by
      by_cases e : z.1 = t.1
      · split
        · exact ⟨by omega, by omega⟩
        · exact ⟨by omega, by omega⟩
      · rw [triLt_fst e]
        by_cases l : z.1 < t.1
        · rw [if_pos (decide_eq_true l)]
          exact ⟨by omega, by omega⟩
        · rw [if_neg (by simpa using l)]
          exact ⟨by omega, by omega⟩
    rcases List.mem_cons.mp hy with rfl | hy
    · omega
    · rcases List.mem_cons.mp hy with rfl | hy
      · omega
      · exact hs y (List.mem_cons_of_mem _ hy)
end CC

namespace CC
open PySem PySem.Spec PyProof.Rows L2
/-! ### a loop over the keys of an owned dict: tuples of two numbers; its values are numbers -/
abbrev cnT (c : Cn) (o : Addr) (x : HO) : Cn := ⟨c.K, fun a => c.mu a || decide (a = o), fun hd H => c.B hd H ∧ H o = some x, fun hd hd' H H' e h b => ⟨c.stab hd hd' H H' e (fun a u ha => h a u (ha.imp (fun ha => by rw [ha, Bool.true_or]) id)) b.1, h o x (.inl (by rw [decide_eq_true rfl, Bool.or_true])) b.2⟩⟩
theorem cnT_mu {c : Cn} {o a : Addr} {x : HO} (h : (cnT c o x).mu a = false) : c.mu a = false ∧ a ≠ o := by
  have h' : (c.mu a || decide (a = o)) = false := h
  rw [Bool.or_eq_false_iff] at h'
  exact ⟨h'.1, of_decide_eq_false h'.2⟩
theorem cnT_of {c : Cn} {o a : Addr} {x : HO} (h : c.mu a = false) (n : a ≠ o) : (cnT c o x).mu a = false := by
  show (c.mu a || decide (a = o)) = false
  rw [h, decide_eq_false n]; rfl
theorem cnT_self {c : Cn} {o : Addr} {x : HO} : (cnT c o x).mu o = true := by
  show (c.mu o || decide (o = o)) = true
  rw [decide_eq_true rfl, Bool.or_true]
abbrev edT (e : List Key × Int) : List Key × Dt := (e.1, .int e.2)
abbrev evT (e : List Key × Int) : List Key × V := (e.1, .int e.2)
theorem rpT_ints {K : PySem.W.Frag} {G : Hp} : ∀ {es : List (List Key × Int)} {vs : List (List Key × V)}, RpT K G vs (es.map edT) → vs = es.map evT
  | [], _, .nil => rfl
  | e :: es, _, .cons (.int _) t => by rw [rpT_ints t]; rfl
theorem rpT_of {K : PySem.W.Frag} {G : Hp} : ∀ es : List (List Key × Int), RpT K G (es.map evT) (es.map edT)
  | [] => .nil
  | e :: es => .cons (.int e.2) (rpT_of es)
/-- slots where only the object at o has changed: o hidden, no other slot's own -/
theorem slok_at {c c' : Cn} {hd : Addr → Bool} {H : Hp} {o : Addr} {u : HO} {x : Option V} {s : Sl} (hK : c'.K = c.K) (hm : ∀ a, c.mu a = false → a ≠ o → c'.mu a = false) (ho : hd o = true) (hn : ∀ p, x = some (.ref p) → owns s = true → p ≠ o) (h : SlOk c hd H x s) : SlOk c' hd (upd H o u) x s := by
  cases s with
  | un => exact slok_un
  | im d =>
    cases x with
    | none => exact h.elim
    | some v =>
      show Rp c'.K (Hm hd (upd H o u)) v d
      rw [hK, hm_upd ho]; exact h
  | rw v =>
    cases x with
    | none => exact h.elim
    | some w => exact h
  | dl q ds =>
    cases x with
    | none => exact h.elim
    | some v =>
      refine ⟨h.1, ?_⟩
      rw [hK, hm_upd ho]; exact h.2
  | iK ds =>
    cases x with
    | none => exact h.elim
    | some v =>
      cases v with
      | ref p =>
        obtain ⟨b1, b2, vs, b3, b4⟩ := h
        have n : p ≠ o := fun z => by subst z; rw [ho] at b1; cases b1
        exact ⟨b1, hm p b2 n, vs, by rw [upd_ne n]; exact b3, by rw [hK, hm_upd ho]; exact b4⟩
      | _ => exact h.elim
  | ac ds =>
    cases x with
    | none => exact h.elim
    | some v =>
      cases v with
      | ref p =>
        obtain ⟨b1, b2, vs, b3, b4⟩ := h
        have n := hn p rfl rfl
        exact ⟨b1, hm p b2 n, vs, by rw [upd_ne n]; exact b3, by rw [hK, hm_upd ho]; exact b4⟩
      | _ => exact h.elim
  | ak ds =>
    cases x with
    | none => exact h.elim
    | some v =>
      cases v with
      | ref p =>
        obtain ⟨b1, b2, vs, b3, b4⟩ := h
        have n := hn p rfl rfl
        exact ⟨b1, hm p b2 n, vs, by rw [upd_ne n]; exact b3, by rw [hK, hm_upd ho]; exact b4⟩
      | _ => exact h.elim
  | aT ds =>
    cases x with
    | none => exact h.elim
    | some v =>
      cases v with
      | ref p =>
        obtain ⟨b1, b2, vs, b3, b4⟩ := h
        have n := hn p rfl rfl
        exact ⟨b1, hm p b2 n, vs, by rw [upd_ne n]; exact b3, by rw [hK, hm_upd ho]; exact b4⟩
      | _ => exact h.elim
section
variable {c : Cn} {hid : Addr → Bool} {H0 : Hp} {ρ : List Sl} {D : Ends} {ts tz : TS}
theorem nj_forT {i j1 j2 : Nat} {es : List (List Key × Int)} (hi : ρ[i]? = some (.aT (es.map edT))) (hk2 : ∀ e ∈ es, ∃ a b : Int, e.1 = [.inl a, .inl b]) (I : Addr → Nat → List Sl → Prop) (h0 : ∀ o, I o 0 (ρ.set i (.rw (.ref o))))
    (hb : ∀ o od (D' : Ends) n a b m ρ', H0 o = none → es[n]? = some ([.inl a, .inl b], m) → I o n ρ' →
      NJ (cnT c o (.frz od (.dT (es.map evT)))) hid H0 (ts { D' with nx := Nx (cnT c o (.frz od (.dT (es.map evT)))) hid H0 (I o (n + 1)), ct := Nx (cnT c o (.frz od (.dT (es.map evT)))) hid H0 (I o (n + 1)), bk := D'.nx }) ((ρ'.set j1 (.im (.int a))).set j2 (.im (.int b))))
    (he : ∀ o ρ', I o es.length ρ' → ρ'[i]? = some (.rw (.ref o)) ∧ NJ c hid H0 D.nx (ρ'.set i (.aT (es.map edT)))) :
    NJ c hid H0 (tLock (tFor (iKeys (tVar i)) (gTup c.K 2 (gCons (gName j1) (gCons (gName j2) gNil))) ts) D) ρ := fun hd H σ s => by
  obtain ⟨o, vs, g1, a1, a2, a3, a4⟩ := own_getT s.slots hi
  have e0 := rpT_ints a4
  subst e0
  have nh : hid o = false := s.ownh i o ⟨g1, _, hi, rfl⟩
  have h0o : H0 o = none := s.new o a1 nh
  refine ⟨o, .dT (es.map evT), a3, trivial, fun od => ?_⟩
  have sd0 : SD (cnT c o (.frz od (.dT (es.map evT)))) hid hd H0 (upd H o (.frz od (.dT (es.map evT)))) σ (ρ.set i (.rw (.ref o))) := by
    have k1 : ∀ k p, ownAt σ (ρ.set i (.rw (.ref o))) k p → k ≠ i ∧ ownAt σ ρ k p := fun k p q => by
      obtain ⟨q1, s', q2, q3⟩ := q
      rcases set_get q2 with ⟨_, e⟩ | ⟨n, e⟩
      · rw [e] at q3; cases q3
      · exact ⟨n, q1, s', e, q3⟩
    refine ⟨⟨fun a q => upd_dom (s.dom a q), fun a q => ?_, ⟨c.put a1 a2 a3 rfl s.inv, upd_same⟩, SlAll.of_get (by rw [List.length_set]; exact s.slots.len) fun j x sl h1 h2 => ?_⟩, s.sub, ⟨fun a x hm h => ?_, fun a h => upd_dom (s.ext.dom a h)⟩, s.new, fun a b p z1 z2 => s.own a b p (k1 _ _ z1).2 (k1 _ _ z2).2, fun a p z1 => s.ownh a p (k1 _ _ z1).2⟩
    · rcases Bool.or_eq_true_iff.mp (show (c.mu a || decide (a = o)) = true from q) with q | q
      · exact s.muh a q
      · rw [of_decide_eq_true q]; exact a1
    · rcases set_get h2 with ⟨rfl, e⟩ | ⟨n, e⟩
      · rw [g1] at h1
        cases h1
        rw [e]
        rfl
      · obtain ⟨x', y1, y2⟩ := s.slots.get e
        rw [h1] at y1
        cases y1
        exact slok_at (c := c) (c' := cnT c o (.frz od (.dT (es.map evT)))) rfl (fun a h n => cnT_of h n) a1 (fun p hp ho z => n (s.own j i o ⟨by rw [h1, hp, z], sl, e, ho⟩ ⟨g1, _, hi, rfl⟩)) y2
    · obtain ⟨m1, m2⟩ := cnT_mu hm
      rw [upd_ne m2]
      exact s.ext.keep a x m1 h
  refine ⟨.ref o, g1, o, od, rfl, .inr ⟨es.map evT, upd_same, ?_⟩⟩
  refine ⟨fun n m σ2 H2 => m = es.length - n ∧ n ≤ es.length ∧ ∃ ρ2 hd2, I o n ρ2 ∧ SD (cnT c o (.frz od (.dT (es.map evT)))) hid hd2 H0 H2 σ2 ρ2, ⟨es.length, rfl, Nat.zero_le _, _, hd, h0 o, sd0⟩, ?_⟩
  rintro n m σ2 H2 ⟨rfl, hn, ρ2, hd2, hI, s2⟩
  have fz : H2 o = some (.frz od (.dT (es.map evT))) := s2.inv.2
  by_cases hlt : n < es.length
  · refine .inr ⟨⟨fz, by rw [List.length_map]; exact hlt⟩, Nx (cnT c o (.frz od (.dT (es.map evT)))) hid H0 (I o (n + 1)), fun σ' H3 ⟨ρ3, hd3, hI3, s3⟩ => ⟨es.length - (n + 1), by omega, rfl, hlt, ρ3, hd3, hI3, s3⟩, fun y H3 hy => ?_⟩
    obtain ⟨rfl, k, v, q, hkv, rfl, hq⟩ := hy
    have hen : es[n]? = some es[n] := List.getElem?_eq_getElem hlt
    rw [List.getElem?_map, hen] at hkv
    have ekv : (es[n].1, V.int es[n].2) = (k, v) := Option.some.inj hkv
    obtain ⟨a, b, hab⟩ := hk2 es[n] (List.getElem_mem hlt)
    have ek : k = [.inl a, .inl b] := by rw [← hab]; exact (congrArg Prod.fst ekv).symm
    subst ek
    refine ⟨q, [.int a, .int b], rfl, .inl (.inl hq), rfl, .int a, [.int b], rfl, .int b, [], rfl, rfl, ?_⟩
    exact hb o od _ n a b es[n].2 ρ2 h0o (by rw [hen, ← hab]) hI hd2 _ _ ((s2.setIm (.int a)).setIm (.int b))
  · have e : n = es.length := by omega
    subst e
    obtain ⟨q1, q2⟩ := he o ρ2 hI
    refine .inl ⟨⟨fz, by rw [List.length_map]; exact Nat.le_refl _⟩, fz, q2 hd2 _ σ2 ?_⟩
    have go : σ2[i]? = some (some (.ref o)) := rw_get s2.slots q1
    have ho : hd2 o = true := s2.muh o cnT_self
    have k1 : ∀ k p, ownAt σ2 (ρ2.set i (.aT (es.map edT))) k p → (k = i ∧ p = o) ∨ (k ≠ i ∧ p ≠ o ∧ ownAt σ2 ρ2 k p) := fun k p q => by
      obtain ⟨u1, s', u2, u3⟩ := q
      rcases set_get u2 with ⟨rfl, e⟩ | ⟨n, e⟩
      · rw [go] at u1
        cases u1
        exact .inl ⟨rfl, rfl⟩
      · have w : ownAt σ2 ρ2 k p := ⟨u1, s', e, u3⟩
        exact .inr ⟨n, (cnT_mu (ownAt_dom s2.slots w).2.1).2, w⟩
    refine ⟨⟨fun a q => upd_dom (s2.dom a q), fun a q => s2.muh a (by show (c.mu a || _) = true; rw [q, Bool.true_or]), c.put ho a2 s2.inv.2 rfl s2.inv.1, SlAll.of_get (by rw [List.length_set]; exact s2.slots.len) fun j x sl h1 h2 => ?_⟩, s2.sub, ⟨fun a x hm h => ?_, fun a h => upd_dom (s2.ext.dom a h)⟩, s2.new, fun a b p z1 z2 => ?_, fun a p z1 => ?_⟩
    · rcases set_get h2 with ⟨rfl, e⟩ | ⟨n, e⟩
      · rw [go] at h1
        cases h1
        rw [e]
        exact ⟨ho, a2, es.map evT, upd_same, rpT_of es⟩
      · obtain ⟨x', y1, y2⟩ := s2.slots.get e
        rw [h1] at y1
        cases y1
        exact slok_at (c := cnT c o (.frz od (.dT (es.map evT)))) (c' := c) rfl (fun a h _ => (cnT_mu h).1) ho (fun p hp hw z => (cnT_mu (ownAt_dom s2.slots (i := j) (o := p) ⟨by rw [h1, hp], sl, e, hw⟩).2.1).2 z) y2
    · have n : a ≠ o := fun z => by subst z; rw [h0o] at h; cases h
      rw [upd_ne n]
      exact s2.ext.keep a x (cnT_of hm n) h
    · rcases k1 _ _ z1 with ⟨r1, r2⟩ | ⟨r1, r2, r3⟩
      · rcases k1 _ _ z2 with ⟨t1, t2⟩ | ⟨t1, t2, t3⟩
        · rw [r1, t1]
        · exact absurd r2 t2
      · rcases k1 _ _ z2 with ⟨t1, t2⟩ | ⟨t1, t2, t3⟩
        · exact absurd t2 r2
        · exact s2.own a b p r3 t3
    · rcases k1 _ _ z1 with ⟨r1, r2⟩ | ⟨r1, r2, r3⟩
      · rw [r2]; exact nh
      · exact s2.ownh a p r3
theorem q_forT {i j1 j2 : Nat} {es : List (List Key × Int)} (hi : ρ[i]? = some (.aT (es.map edT))) (hk2 : ∀ e ∈ es, ∃ a b : Int, e.1 = [.inl a, .inl b]) (I : Addr → Nat → List Sl → Prop) (h0 : ∀ o, I o 0 (ρ.set i (.rw (.ref o))))
    (hb : ∀ o od (D' : Ends) n a b m ρ', H0 o = none → es[n]? = some ([.inl a, .inl b], m) → I o n ρ' →
      NJ (cnT c o (.frz od (.dT (es.map evT)))) hid H0 (ts { D' with nx := Nx (cnT c o (.frz od (.dT (es.map evT)))) hid H0 (I o (n + 1)), ct := Nx (cnT c o (.frz od (.dT (es.map evT)))) hid H0 (I o (n + 1)), bk := D'.nx }) ((ρ'.set j1 (.im (.int a))).set j2 (.im (.int b))))
    (he : ∀ o ρ', I o es.length ρ' → ρ'[i]? = some (.rw (.ref o)) ∧ NJ c hid H0 (tz D) (ρ'.set i (.aT (es.map edT)))) :
    NJ c hid H0 (tSeq (tLock (tFor (iKeys (tVar i)) (gTup c.K 2 (gCons (gName j1) (gCons (gName j2) gNil))) ts)) tz D) ρ := nj_forT (D := { D with nx := tz D }) hi hk2 I h0 hb he
/-- rooms[a, b] within such a loop -/
theorem ev_dgetL {o : Addr} {od : Obj} {es : List (List Key × Int)} {i : Nat} {ta : TA} {Q : Dt → Prop} (hi : ρ[i]? = some (.rw (.ref o))) (h : EVA (cnT c o (.frz od (.dT (es.map evT)))) ta ρ fun ds => ∃ (k : List Key) (m : Int), ds = k.map dKey ∧ k.length ≤ 100000 ∧ valD (es.map edT) k = some (.int m) ∧ Q (.int m)) :
    EV (cnT c o (.frz od (.dT (es.map evT)))) (tDGet (tVar i) (tTup ta)) ρ Q := fun hd H σ v Qh q => ⟨.ref o, rw_get v.slots hi, h hd H σ v _ fun ds ys H2 h2 e2 b2 r2 => by
  obtain ⟨k, m, rfl, hk1, hv, hq⟩ := h2
  have ey := rp_keys r2
  subst ey
  refine ⟨Evl.sz_of (by rw [List.length_map]; exact hk1), fun p hp => ?_⟩
  have e3 : Ex (cnT c o (.frz od (.dT (es.map evT)))).mu H2 (upd H2 p (.tup (k.map kV))) := .new hp
  have b3 : (cnT c o (.frz od (.dT (es.map evT)))).B hd (upd H2 p (.tup (k.map kV))) := Cn.keep0 (.new hp) b2
  obtain ⟨w', hw, rw'⟩ := (rpT_of (K := c.K) (G := Hm hd H2) es).val (k := k) _ hv
  cases rw'
  exact ⟨o, .int m, rfl, .inr ⟨_, k, p, .inr ⟨od, b3.2⟩, rfl, upd_same, hw.symm⟩, q _ _ _ hq (e2.trans e3) b3 (.int m)⟩⟩
end
end CC

namespace CC
open PySem PySem.Spec PyProof.Rows L2
open C8 (Cal pe_c pe_gc)
/-! ### what more laws want -/
theorem ne_same {c : Cn} {Q : Dt → Prop} {ns : List Int} (h : Q (.bl false)) : R2J c (rNeU c.K) (dL ns) (dL ns) Q := by
  have sh : Sh 1 (dL ns) := .lst fun d hd => by
    obtain ⟨x, _, rfl⟩ := List.mem_map.mp hd
    exact .int x
  refine ne_d sh sh (by decide) (by decide) ?_
  rw [Sh.eqv 1 _ sh]
  exact h
theorem eq_same {c : Cn} {Q : Dt → Prop} {ns : List Int} (h : Q (.bl true)) : R2J c (rEqU c.K) (dL ns) (dL ns) Q := by
  have sh : Sh 1 (dL ns) := .lst fun d hd => by
    obtain ⟨x, _, rfl⟩ := List.mem_map.mp hd
    exact .int x
  refine eq_d sh sh (by decide) (by decide) ?_
  rw [Sh.eqv 1 _ sh]
  exact h
theorem nj_at {c : Cn} {hid hd : Addr → Bool} {H0 H : Hp} {σ : L2.St} {ρ : List Sl} {N : L2.St → Hp → Prop} (k : NJ c hid H0 N ρ) (s : SD c hid hd H0 H σ ρ) : N σ H := k hd H σ s
theorem sd_begun {K : PySem.W.Frag} {a b l : Addr} {H : Hp} (n : Nat) (bx : Bx b l H) : SD (cnB K b l) (muB b l) (muB b l) H H (some (.ref a) :: some (.ref b) :: List.replicate n none) (.rw (.ref a) :: .rw (.ref b) :: List.replicate n .un) := by
  have ho : ∀ i o, ¬ ownAt (some (.ref a) :: some (.ref b) :: List.replicate n none) (.rw (.ref a) :: .rw (.ref b) :: List.replicate n .un) i o := fun i o h => by
    obtain ⟨_, s, h2, h3⟩ := h
    match i, h2 with
    | 0, h2 => cases h2; cases h3
    | 1, h2 => cases h2; cases h3
    | i + 2, h2 =>
      have := List.mem_of_getElem? (l := List.replicate n Sl.un) (i := i) h2
      rw [List.eq_of_mem_replicate this] at h3
      cases h3
  refine ⟨⟨fun x h => ?_, fun x h => h, bx, .cons rfl (.cons rfl ?_)⟩, fun x h => h, .refl, fun x h1 h2 => ?_, fun i j o h => (ho i o h).elim, fun i o h => (ho i o h).elim⟩
  · obtain ⟨s, ns, h1, h2⟩ := bx
    rcases muB_of h with rfl | rfl
    · rw [h1]; exact fun z => nomatch z
    · rw [h2]; exact fun z => nomatch z
  · induction n with
    | zero => exact .nil
    | succ n ih => exact .cons slok_un (ih fun i o h => by
        obtain ⟨h1, s, h2, h3⟩ := h
        match i, h2 with
        | 0, h2 => cases h2; cases h3
        | 1, h2 => cases h2; cases h3
        | i + 2, h2 =>
          have := List.mem_of_getElem? (l := List.replicate n Sl.un) (i := i) h2
          rw [List.eq_of_mem_replicate this] at h3
          cases h3)
  · rw [h1] at h2; cases h2
/-- a rising list whose greatest is n ends with n -/
theorem us_last {us : List Int} {n : Int} (hp : us.Pairwise (· < ·)) (hm : n ∈ us) (hle : ∀ x ∈ us, x ≤ n) : ((0 : Int) :: us)[us.length]? = some n := by
  obtain ⟨j, hj, e⟩ := List.mem_iff_getElem.mp hm
  by_cases q : j + 1 = us.length
  · rw [← q, List.getElem?_cons_succ, List.getElem?_eq_getElem hj, e]
  · have h1 := List.pairwise_iff_getElem.mp hp j (us.length - 1) hj (by omega) (by omega)
    have h2 := hle _ (List.getElem_mem (l := us) (n := us.length - 1) (by omega))
    omega
/-- an expression that is never met -/
def tNeverE : TE := fun _ _ _ => False
theorem pe_never {X : Cx} {e : Expr} : PE X e tNeverE := ⟨fun _ _ _ _ _ _ h => h.elim⟩
/-! isinstance of built-in data -/
theorem k_bb : kitB "bool" "bool" = some true := by decide +kernel
theorem k_ib : kitB "int" "bool" = some false := by decide +kernel
theorem k_sb : kitB "str" "bool" = some false := by decide +kernel
theorem k_tb : kitB "tuple" "bool" = some false := by decide +kernel
theorem k_lb : kitB "list" "bool" = some false := by decide +kernel
theorem k_ii : kitB "int" "int" = some true := by decide +kernel
theorem k_bi : kitB "bool" "int" = some true := by decide +kernel
theorem k_si : kitB "str" "int" = some false := by decide +kernel
theorem k_ti : kitB "tuple" "int" = some false := by decide +kernel
theorem k_li : kitB "list" "int" = some false := by decide +kernel
theorem k_ss : kitB "str" "str" = some true := by decide +kernel
theorem k_is : kitB "int" "str" = some false := by decide +kernel
theorem k_ts : kitB "tuple" "str" = some false := by decide +kernel
theorem k_ls : kitB "list" "str" = some false := by decide +kernel
theorem k_tt : kitB "tuple" "tuple" = some true := by decide +kernel
theorem k_lt : kitB "list" "tuple" = some false := by decide +kernel
theorem k_it : kitB "int" "tuple" = some false := by decide +kernel
theorem k_st : kitB "str" "tuple" = some false := by decide +kernel
theorem k_tl : kitB "tuple" "list" = some false := by decide +kernel
theorem k_ll : kitB "list" "list" = some true := by decide +kernel
theorem k_nt : kitB "NoneType" "tuple" = some false := by decide +kernel
theorem k_ni : kitB "NoneType" "int" = some false := by decide +kernel
theorem k_ns : kitB "NoneType" "str" = some false := by decide +kernel
/-- data of numbers, texts, truths and None, lists and tuples of such -/
inductive Al : Nat → Dt → Prop
  | non {n : Nat} : Al n .non
  | bl {n : Nat} (b : Bool) : Al n (.bl b)
  | int {n : Nat} (i : Int) : Al n (.int i)
  | str {n : Nat} (x : Str) : Al n (.str x)
  | lst {n : Nat} {ds : List Dt} (h : ∀ d ∈ ds, Al n d) (hl : ds.length ≤ 100000) : Al (n + 1) (.lst ds)
  | tup {n : Nat} {ds : List Dt} (h : ∀ d ∈ ds, Al n d) (hl : ds.length ≤ 100000) : Al (n + 1) (.tup ds)
theorem Al.up {n : Nat} {d : Dt} (h : Al n d) : Al (n + 1) d := by
  induction h with
  | non => exact .non
  | bl b => exact .bl b
  | int i => exact .int i
  | str x => exact .str x
  | lst h hl ih => exact .lst ih hl
  | tup h hl ih => exact .tup ih hl
theorem al_ints {n : Nat} {ns : List Int} : ∀ d ∈ ns.map Dt.int, Al n d := fun d hd => by
  obtain ⟨x, _, rfl⟩ := List.mem_map.mp hd
  exact .int x
theorem al_dL {n : Nat} {ns : List Int} (h : ns.length ≤ 100000) : Al (n + 1) (dL ns) := .lst al_ints (by rw [List.length_map]; exact h)
theorem al_dT {n : Nat} {ns : List Int} (h : ns.length ≤ 100000) : Al (n + 1) (dT ns) := .tup al_ints (by rw [List.length_map]; exact h)
/-- a range that goes up by more than one -/
theorem RgC.up {n c : Int} (h0 : 0 ≤ n) (h1 : n < 1000000) (hc : 1 ≤ c) (hc2 : c < 1000000) : RgC 0 n c ((n + c - 1) / c).toNat := by
  have hq0 : 0 ≤ (n + c - 1) / c := Int.ediv_nonneg (by omega) (by omega)
  have hq1 : (n + c - 1) / c ≤ n := by
    rcases Int.lt_or_le 0 n with hn | hn
    · have h2 : n + c - 1 < (n + 1) * c := by
        have : n * 1 ≤ n * c := Int.mul_le_mul_of_nonneg_left hc h0
        have e : (n + 1) * c = n * c + c := by rw [Int.add_mul, Int.one_mul]
        omega
      have h3 : (n + c - 1) / c < n + 1 := Int.ediv_lt_of_lt_mul (by omega) h2
      omega
    · have : n = 0 := by omega
      subst this
      have : (0 + c - 1) / c = 0 := Int.ediv_eq_zero_of_lt (by omega) (by omega)
      omega
  have hs : Builtin.Range.rangeSize 0 n c = (n + c - 1) / c := PyProof.Rows.rangeSize_pos hc h0
  refine ⟨by omega, by omega, ?_, by rw [hs]; omega⟩
  unfold Builtin.Range.small
  rw [hs]
  have hm1 : (n + c - 1) / c * c ≤ n + c - 1 := Int.ediv_mul_le _ (by omega)
  simp only [Builtin.Range.rangeFitsLong, Bool.and_eq_true, Bool.or_eq_true, decide_eq_true_eq, beq_iff_eq, show c > 0 by omega, if_true]
  omega
theorem rangeC_at {lo c : Int} {n i : Nat} {d : Dt} (h : (rangeC lo c n)[i]? = some d) : i < n ∧ d = .int (lo + (i : Nat) * c) := by
  unfold rangeC at h
  rw [List.getElem?_map] at h
  by_cases hi : i < n
  · rw [List.getElem?_range hi] at h; exact ⟨hi, (Option.some.inj h).symm⟩
  · rw [List.getElem?_eq_none (by rw [List.length_range]; omega)] at h; cases h
theorem rangeC_len {lo c : Int} {n : Nat} : (rangeC lo c n).length = n := by unfold rangeC; rw [List.length_map, List.length_range]
end CC

/-! # Dict displays of one entry, owned dicts read, comprehensions with a test -/
namespace CC
open PySem PySem.Spec PyProof.Rows L2
section
variable {c : Cn} {hid : Addr → Bool} {H0 : Hp} {ρ : List Sl} {D : Ends} {tz : TS} {Q : Dt → Prop}
theorem q_disp1 {i : Nat} {tk tv : TE} (h : EV c tk ρ (KeyJ fun k => EV c tv ρ fun d => NJ c hid H0 (tz D) (ρ.set i (.ak [(k, d)])))) : NJ c hid H0 (tSeq (tAsg (tDisp [(tk, tv)]) (gName i)) tz D) ρ := fun hd H σ s p hp => by
  have hmu : c.mu p = false := by
    cases q : c.mu p with
    | false => rfl
    | true => exact absurd hp (s.dom p (s.muh p q))
  have sv : SV c (hide hd p) (upd H p (.dK [])) σ ρ := s.toSV.hide (.new hp) (c.keepN (.new hp) hp s.inv) hp (by rw [upd_same]; exact fun z => nomatch z)
  refine h (hide hd p) _ σ sv _ fun dk x H1 h1 e1 b1 r1 => ?_
  obtain ⟨k, rfl, h2⟩ := rp_key h1 r1
  refine h2 (hide hd p) H1 σ (sv.go e1 b1) _ fun d v H2 hq e2 b2 r2 => ?_
  have e12 := e1.trans e2
  refine ⟨e12.keep p _ hmu upd_same, [(k, v)], rfl, by show 1 ≤ 15; decide, ?_⟩
  have eH : Ex c.mu H (upd H2 p (.dK [(k, v)])) := Ex.mut ((Ex.new hp).trans e12) (.inl hp)
  have bH : c.B (hide hd p) (upd H2 p (.dK [(k, v)])) := c.put hide_self hmu (e12.keep p _ hmu upd_same) rfl b2
  refine hq (hide hd p) _ _ (s.setNew eH bH hp (by rw [upd_same]; exact fun z => nomatch z) ⟨hide_self, hmu, [(k, v)], upd_same, ?_⟩)
  rw [hm_upd hide_self]
  exact .cons r2 .nil
theorem ev_dgetA {i : Nat} {ds : List (Key × Dt)} {ty : TE} (hi : ρ[i]? = some (.ak ds)) (h : EV c ty ρ (KeyJ fun k => ∃ d, valD ds k = some d ∧ Q d)) : EV c (tDGet (tVar i) ty) ρ Q := fun hd H σ v Qh q => by
  obtain ⟨o, vs, g1, a1, a2, a3, a4⟩ := own_getK v.slots hi
  refine ⟨.ref o, g1, h hd H σ v _ fun d2 y H2 h2 e2 b2 r2 => ?_⟩
  obtain ⟨k, rfl, d, hd1, hq⟩ := rp_key h2 r2
  obtain ⟨w', hw, rw'⟩ := ((a4.mono (e2.sees v.muh)).val (k := k)).1 d hd1
  exact ⟨o, w', rfl, .inl ⟨vs, k, .inl (e2.keep o _ a2 a3), rfl, hw.symm⟩, q d w' H2 hq e2 b2 rw'⟩
end
theorem eq_nil {c : Cn} {Q : Dt → Prop} {ds : List Dt} {n : Nat} (s : ∀ d ∈ ds, Sh n d) (hn : n < 64) (h : Q (.bl ds.isEmpty)) : R2J c (rEqU c.K) (.lst ds) (.lst []) Q := by
  refine eq_d (.lst s) (.lst (n := 0) fun d hd => by cases hd) hn (by decide) ?_
  cases ds <;> exact h
theorem ne_nil {c : Cn} {Q : Dt → Prop} {ds : List Dt} {n : Nat} (s : ∀ d ∈ ds, Sh n d) (hn : n < 64) (h : Q (.bl (!ds.isEmpty))) : R2J c (rNeU c.K) (.lst ds) (.lst []) Q := by
  refine ne_d (.lst s) (.lst (n := 0) fun d hd => by cases hd) hn (by decide) ?_
  cases ds <;> exact h
theorem sh_ints {ns : List Int} : ∀ d ∈ ns.map Dt.int, Sh 0 d := fun d hd => by
  obtain ⟨x, _, rfl⟩ := List.mem_map.mp hd
  exact .int x
/-! comprehensions with a test -/
theorem en_fm {c : Cn} {ρ : List Sl} {wi : TI} {g : TG} {t : TT} {te : TE} {vs : List Nat} {Q : List Dt → Prop} (h : IJ c wi ρ fun its => its.length ≤ 100000 ∧ ∃ (p : Dt → Bool) (f : Dt → Dt), (∀ d ∈ its, TGE c g d (wipeS ρ vs) vs fun ρ' => EVT c t ρ' fun b => b = p d ∧ (p d = true → EV c te ρ' fun y => y = f d)) ∧ Q ((its.filter p).map f)) :
    EN c (tLc wi g t te vs) ρ Q := en_lc fun hd H σ v R hR => h hd H σ v R fun its J H' hq => hR its J H' (by
  obtain ⟨hl, p, f, hs, hQ⟩ := hq
  refine ⟨hl, fun i acc => acc = ((its.take i).filter p).map f, rfl, fun i d acc hi ha hd H σ w N sv r k => hs d (List.mem_of_getElem? hi) hd H σ w N sv r fun σ2 ρ2 hk => k σ2 ρ2 (hk.imp ?_), fun acc ha => ?_⟩
  · rintro b ⟨rfl, hb⟩
    subst ha
    have e : its.take (i + 1) = its.take i ++ [d] := by rw [List.take_add_one, hi]; rfl
    refine ⟨fun hp => (hb hp).imp ?_, fun hp => ?_⟩
    · rintro y rfl
      show _ = ((its.take (i + 1)).filter p).map f
      rw [e, List.filter_append, List.map_append, List.filter_cons_of_pos hp]; rfl
    · show _ = ((its.take (i + 1)).filter p).map f
      rw [e, List.filter_append, List.map_append, List.filter_cons_of_neg (by rw [hp]; exact Bool.false_ne_true)]
      exact (List.append_nil _).symm
  · subst ha
    rw [List.take_length]
    exact hQ)
theorem en_fmL {c : Cn} {ρ : List Sl} {tl : TE} {j : Nat} {t : TT} {te : TE} {ws : List Nat} {Q : List Dt → Prop} (hj : j ∈ ws) (h : EV c tl ρ fun d => ∃ (ds : List Dt) (p : Dt → Bool) (f : Dt → Dt), d = .lst ds ∧ ds.length ≤ 100000 ∧ (∀ x ∈ ds, EVT c t ((wipeS ρ ws).set j (.im x)) fun b => b = p x ∧ (p x = true → EV c te ((wipeS ρ ws).set j (.im x)) fun y => y = f x)) ∧ Q ((ds.filter p).map f)) :
    EN c (tLc (iList c.K tl) (gName j) t te ws) ρ Q := en_fm (ij_list (h.imp (by
  rintro _ ⟨ds, p, f, rfl, hl, hs, hq⟩
  exact ⟨hl, p, f, fun d hd => tge_name hj (hs d hd), hq⟩)))
theorem en_fmR {c : Cn} {ρ : List Sl} {ta : TA} {j : Nat} {t : TT} {te : TE} {ws : List Nat} {Q : List Dt → Prop} (hj : j ∈ ws) (h : EVA c ta ρ fun ds => ∃ (n : Int) (p : Dt → Bool) (f : Dt → Dt), ds = [.int n] ∧ n ≤ 100000 ∧ -1000000 ≤ n ∧ (∀ i : Nat, (i : Int) < n → EVT c t ((wipeS ρ ws).set j (.im (.int (i : Nat)))) fun b => b = p (.int (i : Nat)) ∧ (p (.int (i : Nat)) = true → EV c te ((wipeS ρ ws).set j (.im (.int (i : Nat)))) fun y => y = f (.int (i : Nat)))) ∧ Q (((rangeD 0 n.toNat).filter p).map f)) :
    EN c (tLc (iRng1 ta) (gName j) t te ws) ρ Q := en_fm (ij_rng1 (fun hd H σ v R hR => h hd H σ v R fun ds vs H' hq => hR ds vs H' (by
  obtain ⟨n, p, f, rfl, h1, h2, hs, hq⟩ := hq
  refine ⟨n, rfl, by omega, h2, by rw [rangeD_len]; omega, p, f, fun d hd => ?_, hq⟩
  obtain ⟨i, hi⟩ := List.getElem?_of_mem hd
  obtain ⟨hlt, rfl⟩ := rangeD_at hi
  rw [Int.zero_add]
  exact tge_name hj (hs i (by omega)))))
end CC

/-! # The order of triples (cells, how many, ends); least ways forward and backward -/
namespace CC
open PySem PySem.Spec PyProof.Rows L2
open PySem.W (AlikeAll minD dataLt alike alikeAll dataLt_int dataLt_tuple dataLt_list dataLt_all_yes dataLt_all_no keyToksAll keyToks)
def lexI : List Int → List Int → Bool
  | [], [] => false
  | [], _ :: _ => true
  | _ :: _, [] => false
  | x :: a, y :: b => if x = y then lexI a b else decide (x < y)
theorem lexI_irr : ∀ a : List Int, lexI a a = false
  | [] => rfl
  | x :: a => by rw [lexI, if_pos rfl, lexI_irr a]
theorem lexI_tot : ∀ a b : List Int, lexI a b = true ∨ a = b ∨ lexI b a = true
  | [], [] => .inr (.inl rfl)
  | [], _ :: _ => .inl rfl
  | _ :: _, [] => .inr (.inr rfl)
  | x :: a, y :: b => by
    by_cases e : x = y
    · subst e
      rw [lexI, lexI, if_pos rfl, if_pos rfl]
      rcases lexI_tot a b with h | h | h
      · exact .inl h
      · exact .inr (.inl (by rw [h]))
      · exact .inr (.inr h)
    · rw [lexI, lexI, if_neg e, if_neg (Ne.symm e)]
      rcases Int.lt_or_gt_of_ne e with h | h
      · exact .inl (decide_eq_true h)
      · exact .inr (.inr (decide_eq_true h))
theorem lexI_trans : ∀ {a b d : List Int}, lexI a b = true → lexI b d = true → lexI a d = true
  | [], [], _, h, _ => nomatch h
  | _ :: _, [], _, h, _ => nomatch h
  | _, _ :: _, [], _, h => nomatch h
  | [], _ :: _, _ :: _, _, _ => rfl
  | x :: a, y :: b, z :: d, h1, h2 => by
    rw [lexI] at h1 h2 ⊢
    by_cases e1 : x = y
    · subst e1
      rw [if_pos rfl] at h1
      by_cases e2 : x = z
      · subst e2
        rw [if_pos rfl] at h2 ⊢
        exact lexI_trans h1 h2
      · rw [if_neg e2] at h2 ⊢
        exact h2
    · rw [if_neg e1] at h1
      have l1 := of_decide_eq_true h1
      by_cases e2 : y = z
      · subst e2
        rw [if_neg e1]
        exact h1
      · rw [if_neg e2] at h2
        have l2 := of_decide_eq_true h2
        rw [if_neg (by omega)]
        exact decide_eq_true (by omega)
theorem lexI_snoc {e : Int} : ∀ {a b : List Int}, a.length = b.length → lexI a b = true → lexI (a ++ [e]) (b ++ [e]) = true
  | [], [], _, h => nomatch h
  | [], _ :: _, h, _ => by simp at h
  | _ :: _, [], h, _ => by simp at h
  | x :: a, y :: b, hl, h => by
    rw [List.cons_append, List.cons_append, lexI]
    rw [lexI] at h
    by_cases q : x = y
    · rw [if_pos q] at h ⊢
      exact lexI_snoc (by simpa using hl) h
    · rw [if_neg q] at h ⊢
      exact h
theorem dataLt_lexI : ∀ a b : List Int, PyProof.Rows.lexLt itemOrd (keyToksAll (a.map PyData.int)) (keyToksAll (b.map PyData.int)) = lexI a b
  | [], [] => by rw [List.map_nil, keyToksAll, lex_self]; rfl
  | [], y :: b => by
    rw [List.map_nil, List.map_cons, keyToksAll, keyToksAll, lex_diff (by decide)]
    rfl
  | x :: a, [] => by
    rw [List.map_nil, List.map_cons, keyToksAll, keyToksAll, lex_diff (by decide)]
    rfl
  | x :: a, y :: b => by
    rw [List.map_cons, List.map_cons, lexI]
    by_cases e : x = y
    · rw [if_pos e, dataLt_all_yes (alike_int _ _) (by rw [eqv_int]; simpa using e), dataLt_lexI a b]
    · rw [if_neg e, dataLt_all_no (alike_int _ _) (by rw [eqv_int]; simpa using e), dataLt_int]
def tl (a b : Tri) : Prop := a.1 < b.1 ∨ (a.1 = b.1 ∧ (a.2.1 < b.2.1 ∨ (a.2.1 = b.2.1 ∧ lexI a.2.2 b.2.2 = true)))
theorem eqvI : ∀ a b : List Int, PyData.eqvAll (a.map PyData.int) (b.map PyData.int) = true → a = b
  | [], [], _ => rfl
  | [], _ :: _, h => nomatch h
  | _ :: _, [], h => nomatch h
  | x :: a, y :: b, h => by
    have h' : (PyData.eqv (.int x) (.int y) && PyData.eqvAll (a.map PyData.int) (b.map PyData.int)) = true := h
    rw [Bool.and_eq_true, eqv_int] at h'
    rw [eqvI a b h'.2, show x = y by simpa using h'.1]
theorem triLt_iff (a b : Tri) : triLt a b = true ↔ tl a b := by
  unfold tl
  by_cases e1 : a.1 = b.1
  · by_cases e2 : a.2.1 = b.2.1
    · have : triLt a b = lexI a.2.2 b.2.2 := by
        unfold triLt
        rw [py_tri, py_tri, dataLt_tuple, dataLt_all_yes (alike_int _ _) (by rw [eqv_int]; simpa using e1), dataLt_all_yes (alike_int _ _) (by rw [eqv_int]; simpa using e2)]
        have ha : alike (.list (a.2.2.map PyData.int)) (.list (b.2.2.map PyData.int)) = true := by rw [alike]; exact alike_ints _ _
        by_cases e3 : PyData.eqv (.list (a.2.2.map PyData.int)) (.list (b.2.2.map PyData.int)) = true
        · rw [dataLt_all_yes ha e3, eqvI _ _ e3, lexI_irr]
          exact dataLt_lexI [] []
        · rw [dataLt_all_no ha (by simpa using e3), dataLt_list, dataLt_lexI]
      rw [this]
      constructor
      · intro h; exact .inr ⟨e1, .inr ⟨e2, h⟩⟩
      · rintro (h | ⟨_, h | ⟨_, h⟩⟩)
        · omega
        · omega
        · exact h
    · rw [triLt_snd e1 e2, decide_eq_true_iff]
      constructor
      · intro h; exact .inr ⟨e1, .inl h⟩
      · rintro (h | ⟨_, h | ⟨h, _⟩⟩)
        · omega
        · exact h
        · exact absurd h e2
  · rw [triLt_fst e1, decide_eq_true_iff]
    constructor
    · intro h; exact .inl h
    · rintro (h | ⟨h, _⟩)
      · exact h
      · exact absurd h e1
theorem tl_irr (a : Tri) : ¬ tl a a := by
  rintro (h | ⟨_, h | ⟨_, h⟩⟩)
  · omega
  · omega
  · rw [lexI_irr] at h; cases h
theorem tl_tot (a b : Tri) : tl a b ∨ a = b ∨ tl b a := by
  obtain ⟨a1, a2, a3⟩ := a
  obtain ⟨b1, b2, b3⟩ := b
  unfold tl
  dsimp only
  rcases Int.lt_trichotomy a1 b1 with h | h | h
  · exact .inl (.inl h)
  · subst h
    rcases Int.lt_trichotomy a2 b2 with h | h | h
    · exact .inl (.inr ⟨rfl, .inl h⟩)
    · subst h
      rcases lexI_tot a3 b3 with h | h | h
      · exact .inl (.inr ⟨rfl, .inr ⟨rfl, h⟩⟩)
      · subst h; exact .inr (.inl rfl)
      · exact .inr (.inr (.inr ⟨rfl, .inr ⟨rfl, h⟩⟩))
    · exact .inr (.inr (.inr ⟨rfl, .inl h⟩))
  · exact .inr (.inr (.inl h))
theorem tl_trans {a b d : Tri} (h : tl a b) (k : tl b d) : tl a d := by
  unfold tl at *
  rcases h with h | ⟨h1, h2⟩
  · rcases k with k | ⟨k1, k2⟩
    · exact .inl (by omega)
    · exact .inl (by omega)
  · rcases k with k | ⟨k1, k2⟩
    · exact .inl (by omega)
    · refine .inr ⟨by omega, ?_⟩
      rcases h2 with h2 | ⟨h2, h3⟩
      · rcases k2 with k2 | ⟨k2, k3⟩
        · exact .inl (by omega)
        · exact .inl (by omega)
      · rcases k2 with k2 | ⟨k2, k3⟩
        · exact .inl (by omega)
        · exact .inr ⟨by omega, lexI_trans h3 k3⟩
def te' (a b : Tri) : Prop := tl a b ∨ a = b
theorem te_refl (a : Tri) : te' a a := .inr rfl
theorem te_trans {a b d : Tri} (h : te' a b) (k : te' b d) : te' a d := by
  rcases h with h | rfl
  · rcases k with k | rfl
    · exact .inl (tl_trans h k)
    · exact .inl h
  · exact k
theorem te_anti {a b : Tri} (h : te' a b) (k : te' b a) : a = b := by
  rcases h with h | rfl
  · rcases k with k | rfl
    · exact absurd (tl_trans h k) (tl_irr a)
    · rfl
  · rfl
theorem minT_te (t : Tri) (r : List Tri) : ∀ y ∈ t :: r, te' (minT t r) y := by
  induction r generalizing t with
  | nil =>
    intro y hy
    rw [List.mem_singleton.mp hy]
    exact te_refl _
  | cons z r ih =>
    intro y hy
    show te' (minT (if triLt z t then z else t) r) y
    have hs := ih (if triLt z t then z else t)
    have h0 := hs _ List.mem_cons_self
    have key : te' (if triLt z t then z else t) t ∧ te' (if triLt z t then z else t) z := by
      by_cases l : triLt z t = true
      · rw [if_pos l]
        exact ⟨.inl ((triLt_iff z t).mp l), te_refl _⟩
      · rw [if_neg l]
        refine ⟨te_refl _, ?_⟩
        rcases tl_tot t z with h | h | h
        · exact .inl h
        · exact .inr h
        · exact absurd ((triLt_iff z t).mpr h) l
    rcases List.mem_cons.mp hy with rfl | hy
    · exact te_trans h0 key.1
    · rcases List.mem_cons.mp hy with rfl | hy
      · exact te_trans h0 key.2
      · exact hs y (List.mem_cons_of_mem _ hy)
theorem te_snoc {a b : Tri} {r e : Int} (hl : a.2.1 = (a.2.2.length : Int)) (hm : b.2.1 = (b.2.2.length : Int)) (h : te' a b) : te' (a.1 + r, a.2.1 + 1, a.2.2 ++ [e]) (b.1 + r, b.2.1 + 1, b.2.2 ++ [e]) := by
  rcases h with h | rfl
  · refine .inl ?_
    unfold tl at *
    dsimp only
    rcases h with h | ⟨h1, h2 | ⟨h2, h3⟩⟩
    · exact .inl (by omega)
    · exact .inr ⟨by omega, .inl (by omega)⟩
    · exact .inr ⟨by omega, .inr ⟨by omega, lexI_snoc (by omega) h3⟩⟩
  · exact te_refl _
theorem te_cons {a b : Tri} {r e : Int} (h : te' a b) : te' (a.1 + r, a.2.1 + 1, e :: a.2.2) (b.1 + r, b.2.1 + 1, e :: b.2.2) := by
  rcases h with h | rfl
  · refine .inl ?_
    unfold tl at *
    dsimp only
    rcases h with h | ⟨h1, h2 | ⟨h2, h3⟩⟩
    · exact .inl (by omega)
    · exact .inr ⟨by omega, .inl (by omega)⟩
    · exact .inr ⟨by omega, .inr ⟨by omega, by rw [lexI, if_pos rfl]; exact h3⟩⟩
  · exact te_refl _
end CC

/-! # Caught exceptions handed to a def; list.count -/
namespace CC
open PySem PySem.Spec PyProof.Rows L2
section
variable {X : Cx}
def rCntV (K : PySem.W.Frag) : V → List V → Hp → VK → Prop := fun x xs H Q => ∃ (p : Addr) (ys : List V) (y : V), x = .ref p ∧ xs = [y] ∧ SqL K H p ys ∧ flatV y = true ∧ ys.all flatV = true ∧ Q (.int ((ys.countP fun z => eqV z y : Nat) : Int)) H
theorem cntV {y : V} : ∀ {ys : List V} {us : List Value}, Vals ys us → ys.all flatV = true → us.countP (eqU y) = ys.countP fun z => eqV z y
  | _, _, .nil, _ => rfl
  | z :: ys, u :: us, .cons r t, f => by
    rw [List.all_cons, Bool.and_eq_true] at f
    rw [List.countP_cons, List.countP_cons, cntV t f.2, eqU_of r f.1]
theorem mt_countV : MtR X "list.count" (rCntV X.K) := by
  intro pins s σ H x xs v us Q I rx rxs h
  obtain ⟨p, ys, y, rfl, rfl, hs, fy, fys, q⟩ := h
  cases rx
  obtain ⟨u, rfl, ru⟩ := rxs.one
  obtain ⟨its, rv, ⟨⟨cls, dd, data, sl⟩, n, ho, hc, hdn, hd⟩, hlen⟩ := I.list hs
  simp only at hc hd
  subst hc hd
  refine call_meets PySem.F.slot_list_count ⟨_, ho, rfl⟩ PySem.F.entry_list_count (PySem.F.args_list_count_2 _ _) (SeqAt.list_countAt p its.toArray n dd sl u (eqU y)) ⟨ho, fun u' hu' => mem_eqAt ru fy rv fys u' (by simpa using hu'), ?_⟩
  refine ⟨.int ((ys.countP fun z => eqV z y : Nat) : Int), H, I.tok _, ⟨s.toks, ?_⟩, q⟩
  have e : its.toArray.toList.countP (eqU y) = ys.countP fun z => eqV z y := cntV rv fys
  rw [e]
end
/-! ### a def that is handed the caught exception, called in the suite -/
abbrev SpE : Type := Addr × Obj → Sp
structure FnE (P : Program) (w : World) (K : PySem.W.Frag) (mg : Str → Option Value) (base : Heap) (k : Nat) (f : Addr) (fd : FuncData) (ps : List Str) (sp : SpE) : Prop where
  len : ∀ p vs H Q E, sp p vs H Q E → vs.length = ps.length
  run : ∀ (A : Around) (outer : List Env) (s : Shared) (H : Hp) (args : Args) (us : List Value) (vs : List V) (Q : VK) (E : XK) (p : Addr × Obj), L2H.RoomH k A → L2H.PinOk outer H s p → Env0 P w K mg base A outer s H →
    BindsTo s fd args (ps.zip us) → Vals vs us → sp p vs H Q E → codeAny (model P w) A (.call (.ref f) args) (CR CX0 outer P w H s Q E) s
abbrev cxE (P : Program) (w : World) (K : PySem.W.Frag) (mg : Str → Option Value) (base : Heap) (N : List Str) (qual : Str) (st : Stmt) (f : Addr) (cdv : Value) (A : Around) (outer : List Env) (s : Shared) (H : Hp) (E : XK) (p : Addr × Obj) : Cx := L2H.cxH CX0 P w K mg base N qual (defScope st) f cdv A outer s H E p
theorem fn_ofE {P : Program} {w : World} {K : PySem.W.Frag} {mg : Str → Option Value} {base : Heap} {k : Nat} {x qual : Str} {st : Stmt} {f : Addr} {fd : FuncData} {N ps : List Str} {sp : SpE} (F : Fun K x qual st f fd) (S : FnScope N ps (defScope st))
    (len : ∀ p vs H Q E, sp p vs H Q E → vs.length = ps.length)
    (hbody : ∀ (cdv : Value) (A : Around) (outer : List Env) (s : Shared) (H : Hp) (vs : List V) (Q : VK) (E : XK) (p : Addr × Obj), L2H.RoomH k (A.deeper (envOfC qual (defScope st) s.heap.objs.size f cdv)) → sp p vs H Q E →
      ∃ t, PSs (cxE P w K mg base N qual st f cdv A outer s H E p) (defBody st) t ∧ t { nx := fun _ H' => Q .non H', rt := Q } (L2.start N vs) H) :
    FnE P w K mg base (k + 1) f fd ps sp := by
  obtain ⟨⟨oc, od, kV, doc, pm, an, cdv, ct, osl, rfl, lk, hcd⟩, kp⟩ := F
  refine ⟨len, fun A outer s H args us vs Q E p hr hpin e0 hb r hsp => ?_⟩
  have hl : vs.length = ps.length := len _ _ _ _ _ hsp
  have kin : K.In s.heap := e0.mod.kin.keeps fun b o e => (e0.bs b o e).1
  have nol : s.heap.NoLimit := e0.mod.nolimit.keeps fun b o e => (e0.bs b o e).1
  refine codeAny_call_function hr.depth (kin _ _ lk) rfl S.co S.gen rfl (PySem.W.codeRec_of kin hcd) (hb _ _ _ _ ?_)
  refine wpAny_newFunctionEnv_cells S.kind (fun y hy => ?_) fun env he s1 x => ?_
  · obtain ⟨n, v⟩ := y
    rcases S.par n (List.of_mem_zip hy).1 with q | q
    · exact .inl q
    · exact .inr ⟨q, PySem.W.cellsFrom_some _ _ _ (.inl q)⟩
  · subst he
    refine ⟨nol.keeps x.toInCall.keep, codeAny_func ?_⟩
    obtain ⟨t, ht, hq⟩ := hbody cdv A outer s H vs Q E p (hr.deeper _) hsp
    have inv := L2H.inv_startH (CX := CX0) (P := P) (w := w) (K := K) (mg := mg) (base := base) (E := E) S hpin e0 hl r x
    refine wpAny_mono (ht.run [] s1 (L2.start N vs) H _ inv hq) (fun fl s' hs => ?_) fun e s' hs => hs
    cases fl with
    | ret u =>
      obtain ⟨v, σ', H', J, rv, q⟩ := hs
      exact ⟨v, H', J.os, J.bare, J.base, J.hok, rv, q⟩
    | next =>
      obtain ⟨σ', H', J, q⟩ := hs
      exact ⟨.non, H', J.os, J.bare, J.base, J.hok, rfl, q⟩
    | brk =>
      obtain ⟨_, _, _, z⟩ := hs
      exact z.elim
    | cont =>
      obtain ⟨_, _, _, z⟩ := hs
      exact z.elim
def tCallE (sp : SpE) (p : Addr × Obj) (t : TA) : TE := fun σ H Q => t σ H fun vs H1 => sp p vs H1 Q fun _ _ _ => False
theorem pe_callE {X : Cx} {k : Nat} {f : Addr} {fd : FuncData} {ps : List Str} {sp : SpE} {x : Str} {q pos : Pos} {e : Expr} {es : List Expr} {t : TA} {p : Addr × Obj} (F : FnE X.prog X.w X.K X.mg X.base k f fd ps sp) (hr : L2H.RoomH k X.A) (hp : p ∈ X.pn) (hg : Gl X x) (hm : X.mg x = some (.ref f)) (hk : PySem.W.keepIn X.K (.ref f) = true) (hb : Binds X.K fd ps [])
    (ha : PA X (e :: es) t) (hdb : (x == ("__debug__" : Str)) = false := by decide) (he : starEach (e :: es) X.env = (false, eval e X.env) :: starEach es X.env := by rfl) (hpl : (backTo pos (starEach es X.env)).any (·.1) = false := by rfl) :
    PE X (.Call (.Name x q) (e :: es) [] pos) (tCallE sp p t) := by
  refine ⟨fun pins s σ H Q I h => ?_⟩
  refine wpAny_Call_Name_kw (ld_glob I hg hm ?_ hdb)
  refine PySem.W.callWith_K (h₀ := X.base) I.ok.mod.kin hk (thn (ha.run pos pins s σ H _ I h) fun us s1 hh => ?_) he hpl
  obtain ⟨vs, H1, I1, r, hsp⟩ := hh
  refine ⟨I1.kIn, ?_⟩
  have hl : us.length = ps.length := by rw [← r.length]; exact F.len _ _ _ _ _ hsp
  have b := hb s1 us I1.kIn (by rw [List.append_nil]; exact hl)
  rw [List.append_nil] at b
  obtain ⟨p1, p2, p3, p4, p5⟩ := I1.pin p (List.mem_append_left _ hp)
  have pin : L2H.PinOk X.stack H1 s1 p := ⟨p1, p2, fun hm => (List.mem_cons.mp (I1.stkSub p.1 hm)).elim p3 p4, p5⟩
  refine wpAny_call (codeAny_mono (F.run X.A X.stack s1 H1 ⟨us, []⟩ us vs Q _ p hr pin I1.env0 b r hsp) fun r s' hq => ?_)
  cases r with
  | error e => exact hq.elim
  | ok fl =>
    cases fl with
    | ret u => exact I1.after hq
    | next => exact hq.elim
    | brk => exact hq.elim
    | cont => exact hq.elim
/-! ### isinstance(e, C), e a pinned exception without fields -/
theorem call_isP {X : Cx} {a D : Addr} {oe : Obj} (C : ExcC X.K D) (hp : (a, oe) ∈ X.pn) (hz : Zc (.ref D) none oe) (hf : ∃ vs, oe.data = .fields vs) : CallR X (.builtin "isinstance") (rIsE X.K D a) := by
  intro pins s σ H xs us Q I r h
  obtain ⟨c, cv, b, rfl, hcv, e, q⟩ := h
  obtain ⟨vs, hv⟩ := hf
  have hget := (I.pin (a, oe) (List.mem_append_left _ hp)).1
  have inst : PySem.W.InstAt s.heap a oe D none := by
    obtain ⟨oc, od, oda, osl⟩ := oe
    obtain ⟨h1, h2⟩ := hz
    dsimp only at h1 h2 hv
    subst h1 h2 hv
    exact ⟨hget, rfl, rfl, trivial⟩
  cases r with
  | cons rx rr =>
    cases rr with
    | cons rt rr =>
      cases rr
      cases rx
      cases hcv _ rt
      exact PySem.W.kia_one (PySem.W.handS_kitx_exc C.hg C.hk C.hs C.hd C.ha C.hn C.ht C.hm) I.kIn inst e (fun z => nomatch z) fun tk => ⟨.bl b, H, I.kept (t' := tk) fun _ _ z => z, rfl, q⟩
end CC

/-! # A lambda handed to a def, the heap told exactly -/
namespace CC
open PySem PySem.Spec PyProof.Rows L2
open LamX (CodeO TabS TabB LamS lamEnv lamCx GivesTo inv_table among_app codeO_ne run_ofS pe_act)
/-- what the making of a lambda leaves: nothing new, or one more row in the table at P and its code object -/
def LExt (P : Addr) (q : Str) (H H1 : Hp) : Prop := H1 = H ∨ ∃ (ps more : Array Value) (c : Addr), H P = some (.tbl ps) ∧ H c = none ∧ H1 = upd (upd H P (.tbl (ps ++ more))) c (CodeO c q)
section
variable {X : Cx} {pins : List (Addr × Obj)} {σ : L2.St} {H : Hp} {s : Shared}
theorem lam_new {c P : Addr} {params : Arguments} {body : Expr} {scope : Scope} {pos : Pos} {E : Value → Shared → Prop} {Q : Value → Shared → Prop} (I : Inv X pins σ H s) (TB : TabB X.base X.mg c P) (hcode : X.env.code = .ref c) (hT : TabS H P (X.env.qual ++ "<lambda>"))
    (hdef : defaultsOf params X.env = ([], [])) (hfree : ∀ y ∈ scope.names, y.2 = .free → ∃ c, X.env.cells.lookup y.1 = some c)
    (h : ∀ (f c' : Addr) (pm ctv : Value) (H1 : Hp) (s' : Shared), Inv X pins σ H1 s' → LExt P (X.env.qual ++ "<lambda>") H H1 → TabS H1 P (X.env.qual ++ "<lambda>") →
      s'.heap.get? f = some (PySem.W.kla_obj "<lambda>" (X.env.qual ++ "<lambda>") params body scope (cloFrom X.env.cells scope.names []) pm c' ctv) → H1 f = none → f ∉ frs X.stack → H1 c' = some (CodeO c' (X.env.qual ++ "<lambda>")) → Q (.ref f) s') :
    wpAny (model X.prog X.w) X.A (eval (.Lambda params body scope pos) X.env) Q E s := by
  obtain ⟨ps, hP, ht, ha⟩ := hT
  have getP : s.heap.get? P = some { cls := .none, data := .fields ps } := I.hok P _ hP
  have outside : ∀ f, s.heap.objs.size ≤ f → f ∉ frs X.stack := by
    intro f hf hm
    rcases List.mem_cons.mp (I.stkSub _ hm) with e | e
    · have l := I.lt
      rw [← e] at l
      exact absurd l (Nat.not_lt.mpr hf)
    · exact I.nofs hf e
  refine PySem.W.kla_eval hdef ?_
  cases hc : codeAmong pos ps.toList with
  | some cv =>
    obtain ⟨c', rfl, hco⟩ := ha pos cv hc
    refine PySem.W.kla_makeFunctionHit (c := c) (closure_ok hfree) I.ok.glob (I.mod.glob.keeps I.bk) hcode (TB.code.keeps I.bk) getP ht hc (TB.bm.keeps I.bk) fun ctv h' tk hx hsz => ?_
    exact h h'.objs.size c' _ ctv H _ (I.kept fun b o e => Heap.get?_push_of_some _ (hx b o e)) (.inl rfl) ⟨ps, hP, ht, ha⟩ (Heap.get?_push_size _ rfl) (I.hok.fresh hsz) (outside _ hsz) hco
  | none =>
    refine PySem.W.kla_makeFunction (c := c) (closure_ok hfree) I.ok.glob (I.mod.glob.keeps I.bk) hcode (TB.code.keeps I.bk) getP ht hc TB.gP (TB.bm.keeps I.bk) fun c' ctv h' tk hx hge hlt hrec htb => ?_
    obtain ⟨c2, oc, vs, t, e2, hoc, hd, hv⟩ := hrec
    cases e2
    have sz : s.heap.objs.size ≤ h'.objs.size := by omega
    have newC : H c' = none := I.hok.fresh hge
    have rows : (ps ++ #[rawInt pos.line, rawInt pos.col, .ref c']).toList = ps.toList ++ [rawInt pos.line, rawInt pos.col, .ref c'] := by simp
    have keeps : ∀ b o, H b = some o → (∀ qs, o ≠ .tbl qs) → upd (upd H P (.tbl (ps ++ #[rawInt pos.line, rawInt pos.col, .ref c']))) c' (CodeO c' (X.env.qual ++ "<lambda>")) b = some o := by
      intro b o e n
      have nb : b ≠ P := fun z => by
        subst z
        rw [hP] at e
        exact n ps (Option.some.inj e).symm
      rw [upd_ne (ne_of_none e newC), upd_ne nb]
      exact e
    refine h h'.objs.size c' _ ctv _ _ (inv_table (q := X.env.qual ++ "<lambda>") (more := #[rawInt pos.line, rawInt pos.col, .ref c']) I hP (fun b o hb e => Heap.get?_push_of_some _ (hx b o hb e)) (Heap.get?_push_of_some _ htb) hge ⟨oc, vs, t, Heap.get?_push_of_some _ hoc, hd, hv⟩)
      (.inr ⟨ps, _, c', hP, newC, rfl⟩) ?_ (Heap.get?_push_size _ rfl) ?_ (outside _ sz) upd_same
    · refine ⟨_, by rw [upd_ne (ne_of_none hP newC), upd_same], by rw [rows]; exact PySem.TriplesOk_snoc _ _ _ _ ht, fun p' cv hcv => ?_⟩
      rw [rows] at hcv
      rcases among_app _ ht hcv with z | z
      · obtain ⟨c0, e1, e2⟩ := ha p' cv z
        exact ⟨c0, e1, keeps _ _ e2 codeO_ne⟩
      · exact ⟨c', z, upd_same⟩
    · rw [upd_ne (Nat.ne_of_gt hlt), upd_ne (Nat.ne_of_gt (Nat.lt_of_lt_of_le (Heap.lt_size getP) sz))]
      exact I.hok.fresh sz
end
/-- x(), in the def that got the lambda; what is raised is wished for at that def's slots -/
theorem pe_actS {X : Cx} {pins : List (Addr × Obj)} {σ : L2.St} {H : Hp} {s : Shared} {Ng : List Str} {qg : Str} {sg : Scope} {g f c' : Addr} {cdg pm ctv : Value} {params : Arguments} {body : Expr} {scope : Scope} {k i : Nat} {a : Str} {pn : List (Addr × Obj)} {xe : Value → Shared → Prop} {W : WX} {t : XK → TE} {p1 p2 : Pos}
    (I : Inv X pins σ H s) (L : LamS X.env.scope scope) (hf : s.heap.get? f = some (PySem.W.kla_obj "<lambda>" (X.env.qual ++ "<lambda>") params body scope (cloFrom X.env.cells scope.names []) pm c' ctv)) (hfn : H f = none) (hfr : f ∉ frs X.stack)
    (hbind : bindArgs (PySem.W.kla_fn "<lambda>" (X.env.qual ++ "<lambda>") params body scope (cloFrom X.env.cells scope.names []) pm (.ref c') ctv) ⟨[], []⟩ = pure [])
    (tk : Takes ((cxOf C8.CX0 X.prog X.w X.K X.mg X.base Ng qg sg g cdg X.A X.stack s H C8.E0).tr pn xe) W) (hr : Room (k + 1) (X.A.deeper (envOfC qg sg s.heap.objs.size g cdg)))
    (hbody : ∀ (A : Around) (outer : List Env) (s : Shared) (H : Hp) (E : XK), Room k (A.deeper (lamEnv X scope s.heap.objs.size f c')) → PE (lamCx X A outer s H E scope f c') body (t E))
    (hN : Ng[i]? = some a) (hv : Vis sg a) (hd : (a == ("__debug__" : Str)) = false := by decide) (hcd : (a == ("__classdict__" : Str)) = false := by decide) :
    PE ((cxOf C8.CX0 X.prog X.w X.K X.mg X.base Ng qg sg g cdg X.A X.stack s H C8.E0).tr pn xe) (.Call (.Name a p1) [] [] p2) (fun σZ HZ Q => σZ[i]? = some (some (.ref f)) ∧ HZ c' = some (CodeO c' (X.env.qual ++ "<lambda>")) ∧ t (WE W σZ) σ HZ Q) := by
  refine ⟨fun pinsZ sZ σZ HZ Q IZ h => ?_⟩
  obtain ⟨hs, hc, ht⟩ := h
  refine wpAny_Call_Name_kw (thn ((pe_var (pos := p1) (i := i) hN hv hd hcd).run pinsZ sZ σZ HZ (fun v H1 => v = .ref f ∧ H1 = HZ) IZ ⟨.ref f, hs, rfl, rfl⟩) fun u s1 hh => ?_)
  obtain ⟨v, H1, I1, r1, rfl, eH⟩ := hh
  rw [eH] at I1
  cases (show u = Value.ref f from r1)
  have of1 := I1.base.keep f _ hf hfn hfr (fun z => nomatch (show f ∈ ([] : List Addr) from z))
  refine PySem.W.callWith_F0 ⟨_, _, _, _, of1⟩ ?_
  obtain ⟨⟨oc, vs, tt, hoc, hdc, hvc⟩, _, _⟩ := I1.hok c' _ hc
  have rc : codeAny (model X.prog X.w) (X.A.deeper (envOfC qg sg s.heap.objs.size g cdg)) (.call (.ref f) ⟨[], []⟩) (CR (L2.CX X.prog X.w) (envOfC qg sg s.heap.objs.size g cdg :: X.stack) X.prog X.w HZ s1 Q (WE W σZ)) s1 := by
    refine PySem.W.kla_callFunE hr.depth of1 rfl L.co L.gen rfl ⟨c', oc, vs, tt, rfl, hoc, hdc, hvc⟩ ?_
    rw [hbind]
    refine wpAny_pure (wpAny_newFunctionEnv (fun y hy => (L.own y hy).2) (fun y hy => (nomatch hy)) (fun h₁ hns hsb => ⟨I1.nolimit.fresh _ hsb, ?_⟩) L.kind)
    have kp : ∀ b o, s1.heap.get? b = some o → h₁.get? b = some o := fun b o e => hsb.extBut b o (Nat.ne_of_lt (Heap.lt_size e)) (Heap.get?_push_of_some _ e)
    have J := LamX.lam_start2 (E := WE W σZ) (c' := c') (f := f) (tk := s1.toks + ([] : List (Str × Value)).length) I L I1.env0 hr.hd I1.base hns kp
    refine PySem.W.kla_codeExpr (wpAny_mono ((hbody _ _ s1 HZ (WE W σZ) (hr.deeper _)).run [] _ _ HZ Q J ht) (fun v s' hq => ?_) fun e s' hq => hq)
    obtain ⟨w', H', J', rv, q⟩ := hq
    exact ⟨w', H', J'.os, J'.bare, J'.base, J'.hok, rv, q⟩
  refine wpAny_call (codeAny_mono rc fun r s' hq => ?_)
  cases r with
  | error e => exact passAt tk σZ pinsZ HZ s1 e s' I1 hq
  | ok fl =>
    cases fl with
    | ret u => exact I1.after hq
    | next => exact hq.elim
    | brk => exact hq.elim
    | cont => exact hq.elim
/-- the def that calls what it got (a): what it makes of the lambda's reading (TT), told of its own state -/
def GivesX (k : Nat) (X : Cx) (Ng : List Str) (x : Str) (st : Stmt) (g : Addr) (cdg : Value) (a q : Str) (TT : (XK → Hp → VK → Prop) → Hp → VK → Prop) : Prop :=
  ∀ (f c' : Addr) (s : Shared) (H : Hp) (Q : VK) (tl : XK → Hp → VK → Prop), Room (k + 1) (X.A.deeper (envOfC x (defScope st) s.heap.objs.size g cdg)) →
    (∀ (W : WX) (pn : List (Addr × Obj)) (xe : Value → Shared → Prop) (p1 p2 : Pos), Takes ((cxOf C8.CX0 X.prog X.w X.K X.mg X.base Ng x (defScope st) g cdg X.A X.stack s H C8.E0).tr pn xe) W →
      PE ((cxOf C8.CX0 X.prog X.w X.K X.mg X.base Ng x (defScope st) g cdg X.A X.stack s H C8.E0).tr pn xe) (.Call (.Name a p1) [] [] p2) (fun σZ HZ Q => σZ[0]? = some (some (.ref f)) ∧ HZ c' = some (CodeO c' q) ∧ tl (WE W σZ) HZ Q)) →
    H c' = some (CodeO c' q) → TT tl H Q →
    ∃ t, PSs (cxOf C8.CX0 X.prog X.w X.K X.mg X.base Ng x (defScope st) g cdg X.A X.stack s H C8.E0).nox (defBody st) t ∧ t { nx := fun _ H' => Q .non H', rt := Q } (L2.start Ng [.ref f]) H
def tLamX (P : Addr) (q : Str) (TT : (XK → Hp → VK → Prop) → Hp → VK → Prop) (t : XK → TE) : TE := fun σ H Q => TabS H P q ∧ ∀ H1, LExt P q H H1 → TabS H1 P q → TT (fun E H' Q' => t E σ H' Q') H1 Q
/-- x(lambda: body) -/
theorem pe_lamX {X : Cx} {TT : (XK → Hp → VK → Prop) → Hp → VK → Prop} {x a : Str} {g c P : Addr} {k : Nat} {stg : Stmt} {fd : FuncData} {Ng : List Str} {params : Arguments} {body : Expr} {scope : Scope} {t : XK → TE} {p lpos pos : Pos}
    (hg : Gl X x) (hm : X.mg x = some (.ref g)) (Fg : Fun X.K x x stg g fd) (hb : L2.Binds X.K fd [a] []) (Sg : FnScope Ng [a] (defScope stg)) (hNg : Ng[0]? = some a) (hva : Vis (defScope stg) a)
    (hG : ∀ cdv : Value, GivesX k X Ng x stg g cdv a (X.env.qual ++ "<lambda>") TT) (TB : TabB X.base X.mg c P) (hcode : X.env.code = .ref c) (hr : Room (k + 2) X.A) (L : LamS X.env.scope scope) (hdef : defaultsOf params X.env = ([], []))
    (hbind : ∀ (q : Str) (cl : List (Str × Addr)) (pm cv ctv : Value), bindArgs (PySem.W.kla_fn "<lambda>" q params body scope cl pm cv ctv) ⟨[], []⟩ = pure [])
    (hbody : ∀ (A : Around) (outer : List Env) (s : Shared) (H : Hp) (E : XK) (f c' : Addr), Room k (A.deeper (lamEnv X scope s.heap.objs.size f c')) → PE (lamCx X A outer s H E scope f c') body (t E))
    (hdb : (x == ("__debug__" : Str)) = false := by decide) (hd : (a == ("__debug__" : Str)) = false := by decide) (hcd : (a == ("__classdict__" : Str)) = false := by decide) :
    PE X (.Call (.Name x p) [.Lambda params body scope lpos] [] pos) (tLamX P (X.env.qual ++ "<lambda>") TT t) := by
  obtain ⟨⟨oc, od, kV, doc, pm, an, cdv, ct, osl, rfl, lk, hcg⟩, hk⟩ := Fg
  refine ⟨fun pins s σ H Q I h => ?_⟩
  obtain ⟨hT, h⟩ := h
  refine wpAny_Call_Name_kw (ld_glob I hg hm ?_ hdb)
  refine PySem.W.callWith_K (h₀ := X.base) I.ok.mod.kin hk ?_ (by rfl) (by rfl)
  refine Calls.spliced_cons (lam_new I TB hcode hT hdef (L.has I.ok) fun f c' pm' ctv H1 s' I1 eN T1 hf hfn hfr hco => ?_)
  refine Calls.spliced_nil ⟨I1.kIn, ?_⟩
  have rc : codeAny (model X.prog X.w) X.A (.call (.ref g) ⟨[.ref f], []⟩) (CR C8.CX0 X.stack X.prog X.w H1 s' Q C8.E0) s' := by
    refine run_ofS (us := [.ref f]) (vs := [.ref f]) lk hcg Sg hr I1.env0 (hb s' [.ref f] I1.kIn rfl) (.cons rfl .nil) rfl fun hr' => ?_
    obtain ⟨t', ht', hq'⟩ := hG cdv f c' s' H1 Q (fun E H' Q' => t E σ H' Q') hr' (fun W pn xe p1 p2 tk => pe_actS (i := 0) I1 L hf hfn hfr (hbind _ _ _ _ _) tk hr' (fun A outer s H E hr2 => hbody A outer s H E f c' hr2) hNg hva hd hcd) hco (h H1 eN T1)
    exact ⟨t', ht'.nox, hq'⟩
  refine wpAny_call (codeAny_mono rc fun r s2 hq => ?_)
  cases r with
  | error e => exact (show False from hq).elim
  | ok fl =>
    cases fl with
    | ret u => exact I1.after hq
    | next => exact hq.elim
    | brk => exact hq.elim
    | cont => exact hq.elim
/-! ### the caught exception, by its class and its dict -/
abbrev SpC : Type := Addr → Value → Option Addr → Sp
def spOfC (sp : SpC) : SpE := fun p vs H Q E => ∃ cls d, Zc cls d p.2 ∧ (∃ vs, p.2.data = .fields vs) ∧ sp p.1 cls d vs H Q E
structure CalE (P : Program) (w : World) (K : PySem.W.Frag) (mg : Str → Option Value) (base : Heap) (k : Nat) (x : Str) (sp : SpC) : Prop where
  ex : ∃ (f : Addr) (fd : FuncData) (ps : List Str), FnE P w K mg base k f fd ps (spOfC sp) ∧ mg x = some (.ref f) ∧ PySem.W.keepIn K (.ref f) = true ∧ Binds K fd ps []
def tCallC (sp : SpC) (a : Addr) (cls : Value) (d : Option Addr) (t : TA) : TE := fun σ H Q => t σ H fun vs H1 => sp a cls d vs H1 Q fun _ _ _ => False
theorem pe_callC {X : Cx} {k : Nat} {sp : SpC} {x : Str} {q pos : Pos} {e : Expr} {es : List Expr} {i : Nat} {a : Addr} {oe : Obj} {cls : Value} {d : Option Addr} (F : CalE X.prog X.w X.K X.mg X.base k x sp) (hr : L2H.RoomH k X.A) (hp : (a, oe) ∈ X.pn) (hz : Zc cls d oe) (hf : ∃ vs, oe.data = .fields vs) (hg : Gl X x)
    (ha : PA X (e :: es) (tCons (tVar i) tNil)) (hdb : (x == ("__debug__" : Str)) = false := by decide) (he : starEach (e :: es) X.env = (false, eval e X.env) :: starEach es X.env := by rfl) (hpl : (backTo pos (starEach es X.env)).any (·.1) = false := by rfl) :
    PE X (.Call (.Name x q) (e :: es) [] pos) (tCallC sp a cls d (tCons (tVar i) tNil)) := by
  obtain ⟨f, fd, ps, F, hm, hk, hb⟩ := F.ex
  have hp := pe_callE (p := (a, oe)) (q := q) (pos := pos) F hr hp hg hm hk hb ha hdb he hpl
  refine ⟨fun pins s σ H Q I h => hp.run pins s σ H Q I ?_⟩
  obtain ⟨v, h1, h2⟩ := h
  exact ⟨v, h1, cls, d, hz, hf, h2⟩
theorem roomH_mark {k : Nat} {A : Around} {h : Option Value} (r : Room k A) : L2H.RoomH k (A.mark h) := ⟨r.dp, r.un⟩
/-- e.f in the suite, whatever the class -/
def tXfA (K : PySem.W.Frag) (a : Addr) (cls : Value) (d : Option Addr) (f : Str) (te : TE) : TE := fun σ H Q => te σ H fun x H1 => x = .ref a ∧ ∃ (C dd : Addr) (fs : List (Str × V)) (v : V), cls = .ref C ∧ XfC K C ∧ PySem.W.findIn K (.ref C) f = some none ∧ d = some dd ∧ H1 dd = some (.xd fs) ∧ fs.lookup f = some v ∧ Q v H1
theorem pe_xfA {X : Cx} {a : Addr} {oe : Obj} {cls : Value} {d : Option Addr} {pn : List (Addr × Obj)} {e : Expr} {te : TE} {pos : Pos} {n : Str} (hz : Zc cls d oe) (hf : ∃ vs, oe.data = .fields vs) (he : PE (X.suite a ((a, oe) :: pn)) e te) (hb : attributeBase e n X.env (eval e X.env) = eval e X.env := by rfl) :
    PE (X.suite a ((a, oe) :: pn)) (.Attribute e n pos) (tXfA X.K a cls d n te) := by
  refine ⟨fun pins s σ H Q I h => attr_of hb (thn (he.run pins s σ H _ I h) fun u s1 hh => ?_)⟩
  obtain ⟨x, H1, I1, rx, ex, C, dd, fs, v, ec, T, hno, ed, ea, l, q⟩ := hh
  subst ex ec ed
  cases (show u = Value.ref a from rx)
  obtain ⟨vs, hd⟩ := hf
  have get := (I1.pin (a, oe) (List.mem_append_left _ List.mem_cons_self)).1
  obtain ⟨mA, hns, hr⟩ := show ObjOk X.prog X.w H1 s1.heap dd (.xd fs) from I1.hok dd _ ea
  obtain ⟨od, ho, hl⟩ := lookIn_ns hns
  obtain ⟨u, hu, ru⟩ := RelO.some_of (v := v) (o := mA n) (by rw [← l]; exact hr n)
  have inst : PySem.W.InstAt s1.heap a oe C (some od) := ⟨get, hz.1, by unfold PySem.W.notCls; rw [hd] <;> rfl, by rw [hz.2]; exact ho⟩
  exact HandSPX.exc_get I1.kIn inst T.ga T.gg T.exC (PySem.W.findObj_own T.hdC hno rfl (by rw [hl, hu])) (handed_of ru) ⟨v, H1, I1.tok _, ru, q⟩
end CC

/-! # The law's context with its table of code objects; what a def of lambdas tells; refusals -/
namespace CC
open PySem PySem.Spec PyProof.Rows L2
open C8 (Cal pe_c pe_gc)
open LamX (CodeO TabS TabB LamS lamEnv lamCx codeO_ne)
/-! ### what is raised: the class's name, and a place -/
def Pl (d : Option Addr) (pl : Option Int) (H : Hp) : Prop := match d, pl with
  | none, none => True
  | some dd, some i => H dd = some (.xd [("place", .int i)])
  | _, _ => False
def spY (K : PySem.W.Frag) (S : List Dt → (Dt → Prop) → (Str → Option Int → Prop) → Prop) : Sp := fun vs H Qh E => ∃ hid ds Q R, (∀ a, hid a = true → H a ≠ none) ∧ RpAll K (Hm hid H) vs ds ∧ S ds Q R ∧
  (∀ d v H', Q d → Ex none0 H H' → Rp K (Hm hid H') v d → Qh v H') ∧ ∀ nm pl, R nm pl → ∀ d H', Ex none0 H H' → (∀ dd, d = some dd → H dd = none) → Pl d pl H' → E (.ref (He.ga K nm)) d H'
/-- the classes whose errors bear a place -/
def placed (nm : Str) : Bool := decide (nm = "BadValues") || (decide (nm = "BadRows") || decide (nm = "BadText"))
/-- what a caught refusal is told as -/
def Ew (K : PySem.W.Frag) (names : List Str) (Qh : VK) : XK := fun cls d H => ∃ (nm : Str) (pl : Option Int) (hid : Addr → Bool), nm ∈ names ∧ placed nm = pl.isSome ∧ cls = .ref (He.ga K nm) ∧ Pl d pl H ∧ (∀ a, hid a = true → H a ≠ none) ∧ (∀ dd, d = some dd → hid dd = false) ∧ ∀ H' v, Ex none0 H H' → Rp K (Hm hid H') v (.tup [.str nm, .int (pl.getD 0)]) → Qh v H'
def TTc (K : PySem.W.Frag) (names : List Str) : (XK → Hp → VK → Prop) → Hp → VK → Prop := fun tl H Q => ∀ E : XK, (∀ cls d H', Ew K names Q cls d H' → E cls d H') → tl E H Q
/-! ### the box and the table -/
def muL (b l P : Addr) : Addr → Bool := fun a => muB b l a || decide (a = P)
theorem muL_of {b l P a : Addr} (h : muL b l P a = true) : a = b ∨ a = l ∨ a = P := by
  rcases Bool.or_eq_true_iff.mp h with h | h
  · rcases muB_of h with h | h
    · exact .inl h
    · exact .inr (.inl h)
  · exact .inr (.inr (of_decide_eq_true h))
theorem muL_B {b l P a : Addr} (h : muB b l a = true) : muL b l P a = true := by unfold muL; rw [h, Bool.true_or]
theorem muL_P {b l P : Addr} : muL b l P P = true := by unfold muL; rw [decide_eq_true rfl, Bool.or_true]
theorem tab_stay {H H' : Hp} {P : Addr} {q : Str} (hP : ∀ o, H P = some o → H' P = some o) (hx : ∀ a o, ext o = true → H a = some o → H' a = some o) (t : TabS H P q) : TabS H' P q := by
  obtain ⟨ps, h1, h2, h3⟩ := t
  refine ⟨ps, hP _ h1, h2, fun pos cv hc => ?_⟩
  obtain ⟨c, e1, e2⟩ := h3 pos cv hc
  exact ⟨c, e1, hx _ _ rfl e2⟩
abbrev cnL (K : PySem.W.Frag) (b l P : Addr) (q : Str) : Cn := ⟨K, muL b l P, fun _ H => Bx b l H ∧ TabS H P q, fun _ _ H H' _ h ⟨⟨s, ns, h1, h2⟩, t⟩ => ⟨⟨s, ns, h b _ (.inl (muL_B muB_b)) h1, h l _ (.inl (muL_B muB_l)) h2⟩, tab_stay (fun o => h P o (.inl muL_P)) (fun a o hx => h a o (.inr hx)) t⟩⟩
section
variable {K : PySem.W.Frag} {b l P : Addr} {q : Str} {ρ : List Sl} {Q : Dt → Prop} {QL : List Dt → Prop}
theorem muB_no {H : Hp} {a : Addr} {o : HO} (bx : Bx b l H) (h : H a = some o) (ho : ∀ xs, o ≠ .lst xs) : muB b l a = false := by
  cases e : muB b l a with
  | false => rfl
  | true =>
    obtain ⟨s, ns, h1, h2⟩ := bx
    rcases muB_of e with rfl | rfl
    · rw [h1] at h; exact absurd (Option.some.inj h).symm (ho _)
    · rw [h2] at h; exact absurd (Option.some.inj h).symm (ho _)
/-- the table stays where only the box changes -/
theorem tab_box {H H' : Hp} (bx : Bx b l H) (e : Ex (muB b l) H H') (t : TabS H P q) : TabS H' P q := by
  have t' := t
  obtain ⟨ps, h1, _, _⟩ := t'
  refine tab_stay (fun o ho => e.keep P o (muB_no bx h1 (fun xs z => by cases z)) ho) (fun a o hx ho => e.keep a o (muB_no bx ho (fun xs z => by subst z; cases hx)) ho) t
theorem ev_callL {S : List Dt → (Dt → Prop) → Prop} {E : XK} {i : Nat} {ta : TA} (hne : b ≠ l) (hi : ρ[i]? = some (.rw (.ref b))) (h : EVA (cnL K b l P q) ta ρ fun ds => S ds Q) : EV (cnL K b l P q) (tCall (spB K S) [] E (tCons (tVar i) ta)) ρ Q := fun hd H σ v Qh k =>
  ⟨.ref b, rw_get v.slots hi, h hd H σ v _ fun ds vs H1 h1 e1 b1 r1 => by
    show spB K S ((.ref b :: vs) ++ []) H1 Qh E
    rw [List.append_nil]
    exact ⟨b, l, vs, hd, ds, Q, rfl, hne, b1.1, v.muh b (muL_B muB_b), v.muh l (muL_B muB_l), fun a h => e1.dom a (v.dom a h), r1, h1, fun d z H2 hq e2 b2 r2 => k d z H2 hq (e1.trans (e2.weak fun a h => muL_B h)) ⟨b2, tab_box b1.1 e2 b1.2⟩ r2⟩⟩
theorem en_callL {S : List Dt → (List Dt → Prop) → Prop} {E : XK} {i : Nat} {ta : TA} (hne : b ≠ l) (hi : ρ[i]? = some (.rw (.ref b))) (h : EVA (cnL K b l P q) ta ρ fun ds => S ds QL) : EN (cnL K b l P q) (tCall (spBN K S) [] E (tCons (tVar i) ta)) ρ QL := fun hd H σ v Qh k =>
  ⟨.ref b, rw_get v.slots hi, h hd H σ v _ fun ds vs H1 h1 e1 b1 r1 => by
    show spBN K S ((.ref b :: vs) ++ []) H1 Qh E
    rw [List.append_nil]
    exact ⟨b, l, vs, hd, ds, QL, rfl, hne, b1.1, v.muh b (muL_B muB_b), v.muh l (muL_B muB_l), fun a h => e1.dom a (v.dom a h), r1, h1, fun es o zs H2 hq e2 b2 ho => k es o zs H2 hq (e1.trans (e2.weak fun a h => muL_B h)) ⟨b2, tab_box b1.1 e2 b1.2⟩ (e1.fresh ho)⟩⟩
/-- the making of a lambda, in the law's context -/
theorem lam_go {hd : Addr → Bool} {H H1 : Hp} {σ : L2.St} (v : SV (cnL K b l P q) hd H σ ρ) (x : LExt P q H H1) (t1 : TabS H1 P q) : Ex (muL b l P) H H1 ∧ (cnL K b l P q).B hd H1 := by
  rcases x with rfl | ⟨ps, more, c, hP, hc, rfl⟩
  · exact ⟨.refl, v.inv⟩
  · obtain ⟨⟨s, ns, h1, h2⟩, _⟩ := v.inv
    have n1 : b ≠ P := fun z => by subst z; rw [h1] at hP; cases hP
    have n2 : l ≠ P := fun z => by subst z; rw [h2] at hP; cases hP
    refine ⟨⟨fun a o hm ho => ?_, fun a ho => upd_dom (upd_dom ho)⟩, ⟨s, ns, ?_, ?_⟩, t1⟩
    · have na : a ≠ P := fun z => by subst z; rw [muL_P] at hm; cases hm
      rw [upd_ne (ne_of_none ho hc), upd_ne na]; exact ho
    · rw [upd_ne (ne_of_none h1 hc), upd_ne n1]; exact h1
    · rw [upd_ne (ne_of_none h2 hc), upd_ne n2]; exact h2
/-- told(lambda: f(..)), f a def that may refuse -/
theorem ev_lam {S : List Dt → (Dt → Prop) → (Str → Option Int → Prop) → Prop} {names : List Str} {ta : TA} (h : EVA (cnL K b l P q) ta ρ fun ds => ∃ R, S ds Q R ∧ ∀ nm pl, R nm pl → nm ∈ names ∧ placed nm = pl.isSome ∧ Q (.tup [.str nm, .int (pl.getD 0)])) :
    EV (cnL K b l P q) (tLamX P q (TTc K names) fun E => tCallS (spY K S) (fun _ => E) ta) ρ Q := fun hd H σ v Qh k =>
  ⟨v.inv.2, fun H1 x t1 E hE => by
    obtain ⟨e1, b1⟩ := lam_go v x t1
    refine h hd H1 σ (v.go e1 b1) _ fun ds vs H2 hq e2 b2 r2 => ?_
    obtain ⟨R, hS, hR⟩ := hq
    have dom2 : ∀ a, hd a = true → H2 a ≠ none := fun a ha => e2.dom a (e1.dom a (v.dom a ha))
    refine ⟨hd, ds, Q, R, dom2, r2, hS, fun d z H3 hq e3 r3 => k d z H3 hq ((e1.trans e2).trans (e3.up (c := cnL K b l P q))) ((cnL K b l P q).keep0 e3 b2) r3, fun nm pl hr d H3 e3 hf hp => hE _ _ _ ⟨nm, pl, hd, (hR nm pl hr).1, (hR nm pl hr).2.1, rfl, hp, fun a ha => e3.dom a (dom2 a ha), fun dd e => fresh_hd dom2 (hf dd e), fun H4 z e4 r4 => ?_⟩⟩
    exact k _ z H4 (hR nm pl hr).2.2 ((e1.trans e2).trans ((e3.trans e4).up (c := cnL K b l P q))) ((cnL K b l P q).keep0 (e3.trans e4) b2) r4⟩
end
/-! ### defs that may refuse -/
section
variable {P : Program} {w : World} {K : PySem.W.Frag} {mg : Str → Option Value} {base : Heap}
theorem cal_y {x : Str} {st : Stmt} {N ps : List Str} {k : Nat} {S : List Dt → (Dt → Prop) → (Str → Option Int → Prop) → Prop} (F : FnAt K mg x st ps) (Sc : FnScope N ps (defScope st)) (len : ∀ ds Q R, S ds Q R → ds.length = ps.length)
    (hb : ∀ (f : Addr) (cdv : Value) (A : Around) (outer : List Env) (s : Shared) (H : Hp) (E : XK), Room k (A.deeper (envOfC x (defScope st) s.heap.objs.size f cdv)) →
      ∃ t, PSs (cxX P w K mg base N x st f cdv A outer s H E) (defBody st) t ∧ ∀ ds Q R, S ds Q R → ∀ hid H0 (D : Ends), (∀ a, hid a = true → H0 a ≠ none) → RetOk (Cn.pure K) hid H0 Q D →
        (∀ nm pl, R nm pl → ∀ d H', Ex none0 H0 H' → (∀ dd, d = some dd → H0 dd = none) → Pl d pl H' → E (.ref (He.ga K nm)) d H') → NJ (Cn.pure K) hid H0 (t D) (startS N ds)) :
    CalX P w K mg base (k + 1) x (spY K S) := by
  obtain ⟨f, fd, hm, F, b⟩ := F
  refine ⟨⟨f, fd, ps, F.okX Sc (fun vs H Q E h => ?_) (fun cdv A outer s H vs Q E hr h => ?_), hm, F.kp, b⟩⟩
  · obtain ⟨hid, ds, Q', R, _, r, hS, _⟩ := h
    rw [r.length]
    exact len ds Q' R hS
  · obtain ⟨hid, ds, Q', R, dom, r, hS, q, qx⟩ := h
    obtain ⟨t, ht, hn⟩ := hb f cdv A outer s H E hr
    exact ⟨t, ht, hn ds Q' R hS hid H { nx := fun _ H' => Q .non H', rt := Q } dom ⟨fun d hd v H' e _ r => q d v H' hd e r, fun hd ρ hd' H' σ sd => q .non .non H' hd sd.ext .non⟩ qx hid H _ (sd_start dom (fun _ h => nomatch h) trivial r)⟩
/-- a def whose code object is told -/
theorem Fun.okC {x qual : Str} {st : Stmt} {f : Addr} {fd : FuncData} {N ps : List Str} {k : Nat} {sp : Sp} (F : Fun K x qual st f fd) (S : FnScope N ps (defScope st)) (len : ∀ vs H Q E, sp vs H Q E → vs.length = ps.length)
    (hbody : ∀ (A : Around) (outer : List Env) (s : Shared) (H : Hp) (vs : List V) (Q : VK) (E : XK), Room k (A.deeper (envOfC qual (defScope st) s.heap.objs.size f fd.code)) → sp vs H Q E →
      ∃ t, PSs (cxD P w K mg base N qual st f fd.code A outer s H E) (defBody st) t ∧ t { nx := fun _ H' => Q .non H', rt := Q } (L2.start N vs) H) : FnOk P w K mg base CX0 (k + 1) f fd ps sp := by
  obtain ⟨oc, od, kV, doc, pm, an, cdv, ct, osl, rfl, lk, hcd⟩ := F.ex
  exact fn_of lk hcd S len fun A outer s H vs Q E hr hsp => by
    obtain ⟨t, h, q⟩ := hbody A outer s H vs Q E hr hsp
    exact ⟨t, h.nox, q⟩
end
theorem ex_cnT {K : PySem.W.Frag} {o : Addr} {x : HO} {H0 H : Hp} (h0 : H0 o = none) (e : Ex (cnT (Cn.pure K) o x).mu H0 H) : Ex none0 H0 H := ⟨fun a u _ h => e.keep a u (cnT_of rfl (ne_of_none h h0)) h, e.dom⟩
/-! ### isinstance of the caught one, index, count -/
section
variable {c : Cn} {ρ : List Sl} {Q : Dt → Prop}
theorem ev_isE {i : Nat} {a D : Addr} {v : V} {cv : Value} {b : Bool} (hi : ρ[i]? = some (.rw (.ref a))) (hcv : ∀ u, RelV v u → u = cv) (hk : PySem.W.kitOne c.K (.ref D) cv = some b) (h : Q (.bl b)) : EV c (tCB (rIsE c.K D a) (tCons (tVar i) (tCons (tC v) tNil))) ρ Q := fun hd H σ s Qh q =>
  ⟨.ref a, rw_get s.slots hi, v, cv, b, rfl, hcv, hk, q _ _ H h .refl s.inv (.bl b)⟩
theorem rp_bls {G : Hp} {K : PySem.W.Frag} {v : V} {bs : List Bool} (r : Rp K G v (.lst (bs.map Dt.bl))) : ∃ a, v = .ref a ∧ G a = some (.lst (bs.map V.bl)) := by
  cases r with
  | lst ha ra =>
    have e := ra.bls
    subst e
    exact ⟨_, rfl, ha⟩
theorem flat_bls (bs : List Bool) : (bs.map V.bl).all flatV = true := by
  rw [List.all_eq_true]
  intro z hz
  obtain ⟨b, _, rfl⟩ := List.mem_map.mp hz
  rfl
theorem ev_indexB {K : PySem.W.Frag} {to : TE} (hK : K = c.K) (h : EV c to ρ fun d => ∃ (bs : List Bool) (j : Nat), d = .lst (bs.map Dt.bl) ∧ bs[j]? = some true ∧ (∀ m, m < j → bs[m]? = some false) ∧ Q (.int (j : Nat))) :
    EV c (tBM K "list" (rIndex K) to (tCons (tC (.bl true)) tNil)) ρ Q := fun hd H σ v Qh q => h hd H σ v _ fun d x H1 h1 e1 b1 r1 => by
  subst hK
  obtain ⟨bs, j, rfl, hj, hno, hq⟩ := h1
  obtain ⟨a, rfl, ha⟩ := rp_bls r1
  have ha' := hm_le ha
  refine ⟨.inl ⟨rfl, _, .inl (.inl ha')⟩, a, bs.map V.bl, .bl true, j, .bl true, rfl, rfl, .inl (.inl ha'), rfl, flat_bls bs, by rw [List.getElem?_map, hj]; rfl, rfl, fun m z hm hz => ?_, q _ _ H1 hq e1 b1 (.int _)⟩
  rw [List.getElem?_map, hno m hm] at hz
  cases hz
  rfl
theorem cnt_bls : ∀ bs : List Bool, ((bs.map V.bl).countP fun z => eqV z (.bl true)) = bs.countP id
  | [] => rfl
  | b :: bs => by
    rw [List.map_cons, List.countP_cons, List.countP_cons, cnt_bls bs]
    cases b <;> rfl
theorem ev_countB {K : PySem.W.Frag} {to : TE} (hK : K = c.K) (h : EV c to ρ fun d => ∃ bs : List Bool, d = .lst (bs.map Dt.bl) ∧ Q (.int (bs.countP id : Nat))) :
    EV c (tBM K "list" (rCntV K) to (tCons (tC (.bl true)) tNil)) ρ Q := fun hd H σ v Qh q => h hd H σ v _ fun d x H1 h1 e1 b1 r1 => by
  subst hK
  obtain ⟨bs, rfl, hq⟩ := h1
  obtain ⟨a, rfl, ha⟩ := rp_bls r1
  have ha' := hm_le ha
  refine ⟨.inl ⟨rfl, _, .inl (.inl ha')⟩, a, bs.map V.bl, .bl true, rfl, rfl, .inl (.inl ha'), rfl, flat_bls bs, ?_⟩
  rw [cnt_bls]
  exact q _ _ H1 hq e1 b1 (.int _)
end
theorem unitsH {k : Nat} {A : Around} (r : L2H.RoomH k A) : A.units + 64 < cLine := by have := r.un; omega
/-- slots: raw values, and none -/
theorem sd_raw {c : Cn} {hid : Addr → Bool} {H : Hp} (dom : ∀ a, hid a = true → H a ≠ none) (mh : ∀ a, c.mu a = true → hid a = true) (bb : c.B hid H) : ∀ (vs : List (Option V)), SD c hid hid H H vs (vs.map fun v => match v with | some v => Sl.rw v | none => Sl.un) := fun vs => by
  have ho : ∀ i o, ¬ ownAt vs (vs.map fun v => match v with | some v => Sl.rw v | none => Sl.un) i o := fun i o h => by
    obtain ⟨h1, s, h2, h3⟩ := h
    rw [List.getElem?_map, h1] at h2
    cases h2
    cases h3
  refine ⟨⟨dom, mh, bb, ?_⟩, fun x h => h, .refl, fun x h1 h2 => ?_, fun i j o h => (ho i o h).elim, fun i o h => (ho i o h).elim⟩
  · clear ho
    induction vs with
    | nil => exact .nil
    | cons v vs ih =>
      cases v with
      | none => exact .cons slok_un ih
      | some v => exact .cons rfl ih
  · rw [h1] at h2; cases h2
def excB (K : PySem.W.Frag) (D : Addr) : Bool := decide (PySem.W.findIn K (.ref D) "__getattribute__" = some (some (.builtin "BaseException.__getattribute__"))) && (decide (PySem.W.findIn K (.ref D) "__getattr__" = some none) && (decide (PySem.W.subIn K (.ref D) (.type "BaseException") = some true) && (PySem.W.hasDictIn K D &&
  (decide (PySem.W.findIn K (.ref D) "__class__" = some (some (.builtin "object.__class__"))) && (decide (PySem.W.specialIn K (.builtin "object.__class__") "__get__" = some (some (.builtin "getset_descriptor.__get__"))) && (decide (PySem.W.takesIn K (.builtin "object.__class__") = some true) && decide (PySem.W.mroIn K D (.type "object") = some true)))))))
theorem excB_ok {K : PySem.W.Frag} {D : Addr} (h : excB K D = true) : ExcC K D := by
  unfold excB at h
  simp only [Bool.and_eq_true, decide_eq_true_eq] at h
  obtain ⟨h1, h2, h3, h4, h5, h6, h7, h8⟩ := h
  exact ⟨h1, h2, h3, h4, h5, h6, h7, h8⟩
/-- the classes' facts: cs all classes, rs those that are raised -/
def clsB (K : PySem.W.Frag) (rs cs : List Str) : Bool := rs.all fun D => (cs.all fun C => decide (PySem.W.kitOne K (.ref (He.ga K D)) (.ref (He.ga K C)) = some (decide (D = C)))) && (decide (PySem.W.kitOne K (.ref (He.ga K D)) (.type "ValueError") = some true) && (decide (PySem.W.exmOne K (.ref (He.ga K D)) (.ref (He.ga K "ColumnError")) = some true) && excB K (He.ga K D)))
structure ClsF (K : PySem.W.Frag) (rs cs : List Str) : Prop where
  kit : ∀ D ∈ rs, ∀ C ∈ cs, PySem.W.kitOne K (.ref (He.ga K D)) (.ref (He.ga K C)) = some (decide (D = C))
  kitV : ∀ D ∈ rs, PySem.W.kitOne K (.ref (He.ga K D)) (.type "ValueError") = some true
  exm : ∀ D ∈ rs, PySem.W.exmOne K (.ref (He.ga K D)) (.ref (He.ga K "ColumnError")) = some true
  exc : ∀ D ∈ rs, ExcC K (He.ga K D)
theorem clsB_ok {K : PySem.W.Frag} {rs cs : List Str} (h : clsB K rs cs = true) : ClsF K rs cs := by
  have key : ∀ D ∈ rs, (∀ C ∈ cs, PySem.W.kitOne K (.ref (He.ga K D)) (.ref (He.ga K C)) = some (decide (D = C))) ∧ PySem.W.kitOne K (.ref (He.ga K D)) (.type "ValueError") = some true ∧ PySem.W.exmOne K (.ref (He.ga K D)) (.ref (He.ga K "ColumnError")) = some true ∧ excB K (He.ga K D) = true := fun D hD => by
    have h1 := List.all_eq_true.mp h D hD
    simp only [Bool.and_eq_true, decide_eq_true_eq, List.all_eq_true] at h1
    exact h1
  exact ⟨fun D hD => (key D hD).1, fun D hD => (key D hD).2.1, fun D hD => (key D hD).2.2.1, fun D hD => excB_ok (key D hD).2.2.2⟩
end CC

/-! # Lambdas as things that are kept: the base is made greater at the call, so that the captured cells are known by all that is called -/
namespace CC
open PySem PySem.Spec PyProof.Rows L2
open LamX (CodeO TabS TabB lamEnv lamCx inv_table among_app codeO_ne)
/-! ### the greater base -/
def big (s : Shared) (H : Hp) (l : List Env) : Heap := PySem.W.hideAll s.heap (trk s.heap H ++ frs l)
section
variable {X : Cx} {pins : List (Addr × Obj)} {σ : L2.St} {H : Hp} {s : Shared}
theorem big_get {b : Addr} {o : Obj} {l : List Env} (e : s.heap.get? b = some o) (n : H b = none) (hf : b ∉ frs l) : (big s H l).get? b = some o :=
  PySem.W.hideAll_get _ e fun hm => by
    rcases List.mem_append.mp hm with hm | hm
    · have := (List.mem_filter.mp hm).2
      rw [n] at this; cases this
    · exact hf hm
theorem big_of {b : Addr} {o : Obj} {l : List Env} (e : (big s H l).get? b = some o) : s.heap.get? b = some o ∧ H b = none := by
  have e' := PySem.W.of_hideAll _ e
  refine ⟨e', ?_⟩
  cases q : H b with
  | none => rfl
  | some x =>
    have hm : b ∈ trk s.heap H := List.mem_filter.mpr ⟨List.mem_range.mpr (Heap.lt_size e'), by simp [q]⟩
    have z : (big s H l).get? b = none := PySem.W.hideAll_none _ (List.mem_append_left _ hm)
    rw [z] at e; cases e
theorem env0_big (I : Inv X pins σ H s) : Env0 X.prog X.w X.K X.mg (big s H X.stack) X.A X.stack s H := by
  have kp : ∀ b o, X.base.get? b = some o → (big s H X.stack).get? b = some o := fun b o e => by
    refine big_get (I.bs b o e).1 (I.bs b o e).2 fun hb => ?_
    have := (I.stack.mem hb).1
    rw [e] at this; cases this
  obtain ⟨mb, h1, h2⟩ := I.mod.blt
  refine ⟨I.ok.frames, ⟨I.mod.kin.keeps kp, I.mod.glob.keeps kp, ⟨mb, h1.keeps kp, h2⟩, I.mod.nolimit.keeps kp⟩, fun b o e => big_of e, ?_, ?_, I.stkFree, I.hok, I.bare⟩
  · unfold big; rw [PySem.W.hideAll_size]; exact Nat.le_refl _
  · exact PySem.W.funFrames_hide I.stack fun env he a ha => List.mem_append_right _ (List.mem_filterMap.mpr ⟨env, he, ha⟩)
/-- the cells of a def's own are in it -/
theorem big_cell (I : Inv X pins σ H s) (hfn : ∀ y, X.fn y = true) {y : Str} {c : Addr} {o : Obj} (hc : X.env.cells.lookup y = some c) (ho : s.heap.get? c = some o) : (big s H X.stack).get? c = some o := by
  refine big_get ho (I.freeC y c hc) fun hb => ?_
  rcases List.mem_cons.mp (I.stkSub c hb) with e | e
  · exact I.cne y c hc e
  · obtain ⟨_, u, hu, _⟩ := I.ok.funs.mem e
    exact absurd (Nat.lt_of_lt_of_le (Heap.lt_size hu) (I.ok.cab y c (hfn y) hc)) (Nat.lt_irrefl _)
end
/-! ### the lambda's frame -/
structure LamS2 (N : List Str) (sc scope : Scope) (ps : List Str) : Prop where
  kind : scope.kind = .function
  co : scope.isCoroutine = false
  gen : scope.isGenerator = false
  cell : ∀ y ∈ scope.names, y.2 ≠ .cell
  loc : ∀ y ∈ scope.names, y.2 = .local → y.1 ∉ N
  par : ∀ p ∈ ps, scope.names.lookup p = some .local
  free : ∀ y ∈ scope.names, y.2 = .free → sc.names.lookup y.1 = some .cell ∨ sc.names.lookup y.1 = some .free
def lamB2 (N : List Str) (sc scope : Scope) (ps : List Str) : Bool :=
  decide (scope.kind = .function) && (!scope.isCoroutine && (!scope.isGenerator && ((scope.names.all fun y => !decide (y.2 = .cell)) && ((scope.names.all fun y => !decide (y.2 = .local) || !N.contains y.1) &&
    ((ps.all fun p => decide (scope.names.lookup p = some .local)) && scope.names.all fun y => !decide (y.2 = .free) || (decide (sc.names.lookup y.1 = some .cell) || decide (sc.names.lookup y.1 = some .free)))))))
theorem lamS2_by {N : List Str} {sc scope : Scope} {ps : List Str} (h : lamB2 N sc scope ps = true) : LamS2 N sc scope ps := by
  unfold lamB2 at h
  simp only [Bool.and_eq_true, Bool.or_eq_true, Bool.not_eq_true', decide_eq_true_eq, decide_eq_false_iff_not, List.all_eq_true] at h
  obtain ⟨h1, h2, h3, h4, h5, h6, h7⟩ := h
  refine ⟨h1, h2, h3, h4, fun y hy e hm => ?_, h6, fun y hy e => ?_⟩
  · rcases h5 y hy with z | z
    · exact z e
    · rw [List.contains_iff_mem.mpr hm] at z; cases z
  · rcases h7 y hy with z | z
    · exact absurd e z
    · exact z
theorem LamS2.has {X : Cx} {scope : Scope} {ps : List Str} (L : LamS2 X.N X.env.scope scope ps) (ok : X.Ok) : ∀ y ∈ scope.names, y.2 = .free → ∃ c, X.env.cells.lookup y.1 = some c := fun y hy e => by
  rcases L.free y hy e with k | k
  · exact ok.has _ (.inl k)
  · exact ok.has _ (.inr k)
abbrev lamCxB (X : Cx) (B : Heap) (A : Around) (outer : List Env) (s : Shared) (H : Hp) (E : XK) (scope : Scope) (f c' : Addr) : Cx := { lamCx X A outer s H E scope f c' with base := B }
section
variable {X : Cx} {pins : List (Addr × Obj)} {σ : L2.St} {H HZ : Hp} {s s1 : Shared}
theorem lam_start3 {B : Heap} {A : Around} {outer : List Env} {E : XK} {scope : Scope} {ps : List Str} {f c' : Addr} {h₁ : Heap} {tk : Nat} {m : Str → Option Value} (I : Inv X pins σ H s) (L : LamS2 X.N X.env.scope scope ps)
    (hB : ∀ y c o, X.env.cells.lookup y = some c → s.heap.get? c = some o → B.get? c = some o) (e0 : Env0 X.prog X.w X.K X.mg B A outer s1 HZ) (hd : A.handled = none)
    (hns : h₁.Ns s1.heap.objs.size m) (kp : ∀ b o, s1.heap.get? b = some o → h₁.get? b = some o) :
    Inv (lamCxB X B A outer s1 HZ E scope f c') [] σ HZ { s1 with heap := h₁, toks := tk } := by
  have hfree := L.has I.ok
  have cm : ∀ {y c}, (cloFrom X.env.cells scope.names []).lookup y = some c → X.env.cells.lookup y = some c := fun {y c} e => by
    rcases cloFrom_mem (PySem.mem_of_lookup e) with hm | ⟨h1, h2⟩
    · cases hm
    · obtain ⟨c1, hc⟩ := hfree _ h1 rfl
      have hc : X.env.cells.lookup y = some c1 := hc
      rw [h2, hc] <;> rfl
  have look : ∀ {y}, scope.names.lookup y = some .free → ∃ c, (cloFrom X.env.cells scope.names []).lookup y = some c := fun {y} hl =>
    mem_lookup (cloFrom_has (cells := X.env.cells) (acc := []) (PySem.mem_of_lookup hl))
  have cell1 : ∀ {y : Str} {c : Addr} {v : Option Value}, X.env.cells.lookup y = some c → s.heap.IsCell c v → h₁.IsCell c v ∧ HZ c = none := fun {y c v} hc ⟨o, ho, hd⟩ => by
    obtain ⟨q1, q2⟩ := e0.bs c o (hB y c o hc ho)
    exact ⟨⟨o, kp _ _ q1, hd⟩, q2⟩
  have noA : ∀ b : Addr, b ∉ (lamCxB X B A outer s1 HZ E scope f c').ex := fun b z => nomatch (show b ∈ ([] : List Addr) from z)
  refine ⟨⟨e0.mod, L.kind, rfl, rfl, Nat.le_refl _, fun y z c e1 e2 => I.ok.inj y z c (cm e1) (cm e2), fun y hy => ?_, fun y c z _ => (Bool.false_ne_true z).elim, fun _ => hd, Around.frames_deeper e0.frames, .inr ⟨rfl, rfl⟩, fun b z => absurd z (noA b), e0.bs, e0.bsz, fun b _ _ => noA b,
      fun b z => absurd z (noA b), e0.funs, e0.frf⟩,
    rfl, e0.bare, Un.kept kp, ⟨_, hns, fun i y v e1 e2 e3 => ?_⟩, fun y c e => ?_, e0.hok.fresh (Nat.le_refl _), fun y c e => ?_, fun q hq => (List.not_mem_nil (show q ∈ ([] : List (Addr × Obj)) from hq)).elim, e0.hok.kept kp, I.len⟩
  · rcases (show scope.names.lookup y = some .cell ∨ scope.names.lookup y = some .free from hy) with hy | hy
    · exact absurd rfl (L.cell _ (PySem.mem_of_lookup hy))
    · exact look hy
  · rcases (show Vis scope y from e3) with k | k | k
    · exact absurd (List.mem_of_getElem? e1) (L.loc _ (PySem.mem_of_lookup k) rfl)
    · exact absurd rfl (L.cell _ (PySem.mem_of_lookup k))
    · obtain ⟨m', hn, hl⟩ := I.loc
      have kk := L.free _ (PySem.mem_of_lookup k) rfl
      obtain ⟨w', r, q⟩ := hl i y v e1 e2 (kk.elim (fun k => .inr (.inl k)) (fun k => .inr (.inr k)))
      obtain ⟨c2, h2⟩ := look k
      refine ⟨w', r, .inr ⟨.inr k, c2, h2, ?_⟩⟩
      rcases q with ⟨k', _⟩ | ⟨_, c3, e', z⟩
      · have k' : X.env.scope.names.lookup y = some .local := k'
        rcases kk with k2 | k2 <;> rw [show X.env.scope.names.lookup y = _ from k2] at k' <;> cases k'
      · rw [cm h2] at e'
        cases e'
        exact (cell1 (cm h2) z).1
  · obtain ⟨w', z⟩ := I.cell y c (cm e)
    exact ⟨w', (cell1 (cm e) z).1⟩
  · obtain ⟨w', z⟩ := I.cell y c (cm e)
    exact (cell1 (cm e) z).2
end
/-! ### the lambda's object -/
abbrev lamFd (q : Str) (params : Arguments) (body : Expr) (scope : Scope) (cl : List (Str × Addr)) (dV pm cdv ct : Value) : FuncData :=
  { name := "<lambda>", qualname := q, params, body := .expr body, scope, globals := mainGlobals, closure := cl, defaults := dV, kwdefaults := .none, doc := .none, pyModule := pm, annotations := none, code := cdv, closureTuple := ct, builtins := builtinsNs }
abbrev lamOb (q : Str) (params : Arguments) (body : Expr) (scope : Scope) (cl : List (Str × Addr)) (dV pm cdv ct : Value) : Obj := { cls := .type "function", data := .func (lamFd q params body scope cl dV pm cdv ct) }
def LamO (f : Addr) (o : Obj) : HO := .ext fun h => h.get? f = some o
/-- a tuple of so many things (the defaults) -/
def DefO (T : Addr) (n : Nat) : HO := .ext fun h => ∃ (o : Obj) (its : Array Value) (m : Nat), h.get? T = some o ∧ o.data = .seq its m ∧ its.size = n
/-- what may be called without arguments, from anywhere in the base B -/
def Act (P : Program) (w : World) (K : PySem.W.Frag) (mg : Str → Option Value) (B : Heap) (k : Nat) (f : Addr) (sp : Hp → VK → XK → Prop) : Prop :=
  (∀ H Q E, sp H Q E → ∃ q params body scope cl dV pm cdv ct, H f = some (LamO f (lamOb q params body scope cl dV pm cdv ct))) ∧
  ∀ (A : Around) (outer : List Env) (s : Shared) (H : Hp) (Q : VK) (E : XK), Room k A → Env0 P w K mg B A outer s H → sp H Q E → codeAny (model P w) A (.call (.ref f) ⟨[], []⟩) (CR (L2.CX P w) outer P w H s Q E) s
/-- how the parameters of a lambda are filled: none, or by defaults -/
def FillsD (params : Arguments) (body : Expr) (scope : Scope) (ps : List Str) : Prop := ∀ (q : Str) (cl : List (Str × Addr)) (T : Addr) (pm cdv ct : Value) (its : List Value), its.length = ps.length →
  ∃ k, bindArgs (lamFd q params body scope cl (.ref T) pm cdv ct) ⟨[], []⟩ = seqItems? (.ref T) >>= k ∧ k (some its.toArray) = pure (ps.zip its)
def FillsN (params : Arguments) (body : Expr) (scope : Scope) : Prop := ∀ (q : Str) (cl : List (Str × Addr)) (pm cdv ct : Value), bindArgs (lamFd q params body scope cl .none pm cdv ct) ⟨[], []⟩ = pure []
/-- what of the heap a lambda rests on -/
def LamAt (f c' : Addr) (q : Str) (o : Obj) (dT : Option (Addr × Nat)) : List (Addr × HO) := (f, LamO f o) :: (c', CodeO c' q) :: (match dT with | none => [] | some (T, n) => [(T, DefO T n)])
section
variable {X : Cx} {pins : List (Addr × Obj)} {σ : L2.St} {H : Hp} {s : Shared}
theorem lam_act {q : Str} {params : Arguments} {body : Expr} {scope : Scope} {ps : List Str} {dV pm ctv : Value} {f c' : Addr} {k : Nat} {t : XK → TE} {dT : Option (Addr × Nat)} (hq : X.env.qual ++ "<lambda>" = q) (I : Inv X pins σ H s) (hfn : ∀ y, X.fn y = true) (L : LamS2 X.N X.env.scope scope ps)
    (hD : (dT = none ∧ dV = .none ∧ FillsN params body scope) ∨ (∃ T, dT = some (T, ps.length) ∧ dV = .ref T ∧ FillsD params body scope ps))
    (hbody : ∀ (A : Around) (outer : List Env) (s' : Shared) (H' : Hp) (E : XK), Room k (A.deeper (lamEnv X scope s'.heap.objs.size f c')) → PE (lamCxB X (big s H X.stack) A outer s' H' E scope f c') body (t E)) :
    Act X.prog X.w X.K X.mg (big s H X.stack) (k + 1) f (fun H' Q E => (∀ p ∈ LamAt f c' q (lamOb q params body scope (cloFrom X.env.cells scope.names []) dV pm (.ref c') ctv) dT, H' p.1 = some p.2) ∧ t E σ H' Q) := by
  subst hq
  refine ⟨fun H' Q E h => ⟨_, _, _, _, _, _, _, _, _, h.1 _ List.mem_cons_self⟩, fun A outer s1 H1 Q E hr e0 h => ?_⟩
  obtain ⟨hL, ht⟩ := h
  obtain ⟨of1, _, _⟩ := e0.hok f _ (hL _ List.mem_cons_self)
  obtain ⟨⟨oc, vs, tt, hoc, hdc, hvc⟩, _, _⟩ := e0.hok c' _ (hL (c', CodeO c' (X.env.qual ++ "<lambda>")) (List.mem_cons_of_mem _ List.mem_cons_self))
  have lim : s1.heap.NoLimit := e0.mod.nolimit.keeps fun b o e => (e0.bs b o e).1
  have go : ∀ binds : List (Str × Value), (∀ y ∈ binds, scope.names.lookup y.1 = some .local) → wpAny (model X.prog X.w) A.in1 (newFunctionEnv scope mainGlobals (cloFrom X.env.cells scope.names []) binds (X.env.qual ++ "<lambda>" ++ ".<locals>.") (some f) (.ref c') none builtinsNs)
      (fun env s₂ => s₂.heap.NoLimit ∧ codeAny (model X.prog X.w) A (.expr body env) (CR (L2.CX X.prog X.w) outer X.prog X.w H1 s1 Q E) s₂) (fun e s' => CR (L2.CX X.prog X.w) outer X.prog X.w H1 s1 Q E (.error e) s') s1 := fun binds hbd => by
    refine wpAny_newFunctionEnv L.cell hbd (fun h₁ hns hsb => ⟨lim.fresh _ hsb, ?_⟩) L.kind
    have kp : ∀ b o, s1.heap.get? b = some o → h₁.get? b = some o := fun b o e => hsb.extBut b o (Nat.ne_of_lt (Heap.lt_size e)) (Heap.get?_push_of_some _ e)
    have J := lam_start3 (E := E) (c' := c') (f := f) (tk := s1.toks + binds.length) I L (fun y c o => big_cell I hfn) e0 hr.hd hns kp
    refine PySem.W.kla_codeExpr (wpAny_mono ((hbody A outer s1 H1 E (hr.deeper _)).run [] _ _ H1 Q J ht) (fun v s' hq => ?_) fun e s' hq => hq)
    obtain ⟨w', H', J', rv, q⟩ := hq
    exact ⟨w', H', J'.os, J'.bare, J'.base, J'.hok, rv, q⟩
  refine PySem.W.kla_callFunE hr.depth of1 rfl L.co L.gen rfl ⟨c', oc, vs, tt, rfl, hoc, hdc, hvc⟩ ?_
  rcases hD with ⟨_, rfl, hb⟩ | ⟨T, rfl, rfl, hb⟩
  · rw [hb]
    exact wpAny_pure (go [] (fun y hy => nomatch hy))
  · obtain ⟨⟨o, its, mm, h1, h2, h3⟩, _, _⟩ := e0.hok T _ (hL (T, DefO T ps.length) (by simp [LamAt]))
    obtain ⟨kk, e1, e2⟩ := hb (X.env.qual ++ "<lambda>") (cloFrom X.env.cells scope.names []) T pm (.ref c') ctv its.toList (by simpa using h3)
    rw [e1]
    refine wpAny_bind (wpAny_seqItems h1 h2 ?_)
    rw [show its = its.toList.toArray by simp, e2]
    exact wpAny_pure (go _ fun y hy => L.par y.1 (List.of_mem_zip hy).1)
end
end CC

/-! # A lambda is made, perhaps with constant defaults, and known from then on -/
namespace CC
open PySem PySem.Spec PyProof.Rows L2
open LamX (CodeO TabS TabB lamEnv lamCx inv_table among_app codeO_ne)
open PySem.W (tabObj CodeHd)
section
variable {M : Model} {A : Around} {E : Value → Shared → Prop} {s : Shared} {qual : Str} {params : Arguments} {body : Expr} {scope : Scope} {env : Env} {c P : Addr} {ps : Array Value} {pos : Pos} {firstLine : Nat} {mg : Str → Option Value} {clos : List (Str × Addr)} {Q : Value → Shared → Prop} {dV : Value}
/-- behind the defaults: the code object is found in the table, or made and put there -/
theorem lam_tail (hcl : closureFor scope env = pure clos) (hge0 : env.globals = mainGlobals) (hg : s.heap.Ns mainGlobals mg) (hcode : env.code = .ref c) (C : CodeHd s.heap c P) (hP : s.heap.get? P = some (tabObj ps)) (ht : TriplesOk ps.toList) (hgP : mainGlobals ≠ P) (hb : s.heap.BuiltinsAt mg P)
    (hit : ∀ (cv ctv : Value) (h' : Heap) (tk : Tok), codeAmong pos ps.toList = some cv → (∀ b o, s.heap.get? b = some o → h'.get? b = some o) → s.heap.objs.size ≤ h'.objs.size → Q (.ref h'.objs.size) { s with heap := h'.push (lamOb qual params body scope clos dV ((mg "__name__").getD .none) cv ctv), toks := tk })
    (mis : ∀ c' ctv h' tk, codeAmong pos ps.toList = none → Heap.ExtBut P s.heap h' → s.heap.objs.size ≤ c' → c' < h'.objs.size → h'.CodeRec (.ref c') qual → h'.get? P = some (tabObj (ps ++ #[rawInt pos.line, rawInt pos.col, .ref c'])) →
      Q (.ref h'.objs.size) { s with heap := h'.push (lamOb qual params body scope clos dV ((mg "__name__").getD .none) (.ref c') ctv), toks := tk }) :
    wpAny M A (makeTail "<lambda>" qual params (.expr body) scope env dV .none none pos firstLine) Q E s := by
  obtain ⟨bm, ob, b1, b2, _, b4, b5, b6, b7, b8⟩ := hb
  -- the closure's tuple, if any, is pushed first
  have rest : ∀ (ctv : Value) (s1 : Shared), s1 = { s with heap := s1.heap } → (∀ b o, s.heap.get? b = some o → s1.heap.get? b = some o) → s.heap.objs.size ≤ s1.heap.objs.size →
      wpAny M A (functionCode env pos firstLine "<lambda>" qual params scope (.expr body) >>= fun cd => builtinsFor mainGlobals env.builtins >>= fun bt => nsGet mainGlobals "__name__" >>= fun pm => (pure Value.none : Sem Value) >>= fun dc =>
        newObj (.type "function") (.func { name := "<lambda>", qualname := qual, params, body := .expr body, scope, globals := mainGlobals, closure := clos, defaults := dV, kwdefaults := .none, doc := dc, pyModule := pm.getD .none, annotations := none, code := cd, closureTuple := ctv, builtins := bt })) Q E s1 := by
    intro ctv s1 e1 k1 z1
    obtain ⟨hh, g1, g2, g3, g4⟩ := s1
    cases e1
    have C1 := C.keeps k1
    have P1 := k1 _ _ hP
    have G1 := hg.keeps k1
    cases hc : codeAmong pos ps.toList with
    | some cv =>
      refine wpAny_bind (wpAny_functionCode_hit hcode (C1.code P1 ht) hc ?_)
      refine wpAny_bind (wpAny_builtinsFor G1 b1 b2 (k1 _ _ b5) b6 b7 b8 ?_)
      refine wpAny_bind (wpAny_nsGet G1 ?_)
      exact wpAny_bind (wpAny_pure (wpAny_newObj_type (hit cv ctv hh _ hc k1 z1) (by size_fits)))
    | none =>
      refine wpAny_bind (wpAny_functionCodeX hcode (C1.code P1 ht) (C1.tab P1) hc fun c' h' tk hx hge hlt _ hrec htb _ => ?_)
      have G2 := G1.extBut hx hgP
      refine wpAny_bind (wpAny_builtinsFor G2 b1 b2 (hx _ _ b4 (k1 _ _ b5)) b6 b7 b8 ?_)
      refine wpAny_bind (wpAny_nsGet G2 ?_)
      exact wpAny_bind (wpAny_pure (wpAny_newObj_type (mis c' ctv h' tk hc (fun b o hb e => hx b o hb (k1 b o e)) (Nat.le_trans z1 hge) hlt hrec htb.2) (by size_fits)))
  unfold makeTail
  rw [hcl, hge0]
  refine wpAny_bind (wpAny_pure ?_)
  cases clos with
  | nil =>
    simp only [List.isEmpty_nil, if_true]
    exact wpAny_bind (wpAny_pure (rest _ s rfl (fun _ _ e => e) (Nat.le_refl _)))
  | cons q r =>
    simp only [List.isEmpty_cons, Bool.false_eq_true, if_false]
    exact wpAny_bind (wpAny_newTextTuple (rest _ _ rfl (fun b o e => Heap.get?_push_of_some _ e) (by rw [Heap.size_push]; omega)))
end
/-- the table at P: each code object that it tells is seen and bears the name q -/
def TabV (hd : Addr → Bool) (H : Hp) (P : Addr) (q : Str) : Prop := ∃ ps : Array Value, H P = some (.tbl ps) ∧ TriplesOk ps.toList ∧ ∀ (pos : Pos) (cv : Value), codeAmong pos ps.toList = some cv → ∃ c, cv = .ref c ∧ Hm hd H c = some (CodeO c q)
theorem TabV.nil {hd : Addr → Bool} {H : Hp} {P : Addr} {q : Str} (h : TabS H P q) (e : ∀ ps, H P = some (.tbl ps) → ps = #[]) : TabV hd H P q := by
  obtain ⟨ps, h1, _, _⟩ := h
  cases e ps h1
  refine ⟨_, h1, trivial, fun pos cv hc => ?_⟩
  have z : codeAmong pos [] = some cv := hc
  simp [codeAmong] at z
theorem TabV.stay {hd hd' : Addr → Bool} {H H' : Hp} {P : Addr} {q : Str} (hP : ∀ o, H P = some o → H' P = some o) (hx : Sees (Hm hd H) (Hm hd' H')) (t : TabV hd H P q) : TabV hd' H' P q := by
  obtain ⟨ps, h1, h2, h3⟩ := t
  refine ⟨ps, hP _ h1, h2, fun pos cv hc => ?_⟩
  obtain ⟨c, e1, e2⟩ := h3 pos cv hc
  obtain ⟨o, e3, e4⟩ := hx _ _ e2
  rw [e4.plain rfl] at e3
  exact ⟨c, e1, e3⟩
theorem TabV.up {hd : Addr → Bool} {H : Hp} {P f : Addr} {q : Str} {o : HO} (hf : H f = none) (t : TabV hd H P q) : TabV hd (upd H f o) P q := by
  refine t.stay (fun u hu => by rw [upd_ne (ne_of_none hu hf)]; exact hu) fun a u hu => ⟨u, ?_, .rfl⟩
  rw [hm_of (hm_not hu), upd_ne (ne_of_none (hm_le hu) hf)]
  exact hm_le hu
def at0 (P : Addr) : Addr → Bool := fun a => decide (a = P)
theorem at0_of {P a : Addr} (h : at0 P a = false) : a ≠ P := fun z => by subst z; unfold at0 at h; rw [decide_eq_true rfl] at h; cases h
section
variable {X : Cx} {pins : List (Addr × Obj)} {σ : L2.St} {H : Hp} {s : Shared} {hd : Addr → Bool} {c P : Addr} {q : Str} {params : Arguments} {body : Expr} {scope : Scope} {pos : Pos} {E : Value → Shared → Prop} {Q : Value → Shared → Prop} {dV : Value}
theorem lam_fin {firstLine : Nat} (I : Inv X pins σ H s) (TB : TabB X.base X.mg c P) (hcode : X.env.code = .ref c) (dom : ∀ a, hd a = true → H a ≠ none) (hT : TabV hd H P q)
    (hfree : ∀ y ∈ scope.names, y.2 = .free → ∃ c, X.env.cells.lookup y.1 = some c)
    (h : ∀ (f c' : Addr) (pm ctv : Value) (H3 : Hp) (s' : Shared), Inv X pins σ H3 s' → Ex (at0 P) H H3 → H f = none → TabV hd H3 P q → H3 f = some (LamO f (lamOb q params body scope (cloFrom X.env.cells scope.names []) dV pm (.ref c') ctv)) → Hm hd H3 c' = some (CodeO c' q) → Q (.ref f) s') :
    wpAny (model X.prog X.w) X.A (makeTail "<lambda>" q params (.expr body) scope X.env dV .none none pos firstLine) Q E s := by
  have hT' := hT
  obtain ⟨ps, hP, ht, ha⟩ := hT
  have getP : s.heap.get? P = some { cls := .none, data := .fields ps } := I.hok P _ hP
  have vis : ∀ a, H a = none → hd a = false := fun a n => by
    cases z : hd a with
    | false => rfl
    | true => exact absurd n (dom a z)
  refine lam_tail (closure_ok hfree) I.ok.glob (I.mod.glob.keeps I.bk) hcode (TB.code.keeps I.bk) getP ht TB.gP (TB.bm.keeps I.bk) (fun cv ctv h' tk hc kp sz => ?_) fun c' ctv h' tk hc hx hge hlt hrec htb => ?_
  · obtain ⟨c', rfl, hco⟩ := ha pos cv hc
    have nf : H h'.objs.size = none := I.hok.fresh sz
    have I1 : Inv X pins σ H { s with heap := h', toks := tk } := I.kept kp
    have I2 := I1.laid (t' := tk) (a := h'.objs.size) (o := LamO h'.objs.size (lamOb q params body scope (cloFrom X.env.cells scope.names []) dV ((X.mg "__name__").getD .none) (.ref c') ctv)) (h' := h'.push (lamOb q params body scope (cloFrom X.env.cells scope.names []) dV ((X.mg "__name__").getD .none) (.ref c') ctv)) (fun b u e => Heap.get?_push_of_some _ e) (Nat.le_refl _) ⟨Heap.get?_push_size _ rfl, ⟨_, Heap.get?_push_size _ rfl⟩, fun h1 h2 p st => st _ p⟩
    refine h _ c' _ ctv _ _ I2 (.new nf) nf (hT'.up nf) upd_same ?_
    rw [hm_of (hm_not hco), upd_ne (ne_of_none (hm_le hco) nf)]
    exact hm_le hco
  · obtain ⟨c2, oc, vs, t, e2, hoc, hdd, hv⟩ := hrec
    cases e2
    have nc : H c' = none := I.hok.fresh hge
    have sz : s.heap.objs.size ≤ h'.objs.size := by omega
    have nf : H h'.objs.size = none := I.hok.fresh sz
    have I1 := inv_table (t' := tk) (q := q) (more := #[rawInt pos.line, rawInt pos.col, .ref c']) I hP (fun b o hb e => hx b o hb e) htb hge ⟨oc, vs, t, hoc, hdd, hv⟩
    have nfc : h'.objs.size ≠ c' := Nat.ne_of_gt hlt
    have nfP : h'.objs.size ≠ P := fun z => by rw [z, hP] at nf; cases nf
    have nPc : P ≠ c' := fun z => by rw [z, nc] at hP; cases hP
    have nf1 : upd (upd H P (.tbl (ps ++ #[rawInt pos.line, rawInt pos.col, .ref c']))) c' (CodeO c' q) h'.objs.size = none := by rw [upd_ne nfc, upd_ne nfP]; exact nf
    have I2 := I1.laid (t' := tk) (a := h'.objs.size) (o := LamO h'.objs.size (lamOb q params body scope (cloFrom X.env.cells scope.names []) dV ((X.mg "__name__").getD .none) (.ref c') ctv)) (h' := h'.push (lamOb q params body scope (cloFrom X.env.cells scope.names []) dV ((X.mg "__name__").getD .none) (.ref c') ctv)) (fun b u e => Heap.get?_push_of_some _ e) (Nat.le_refl _) ⟨Heap.get?_push_size _ rfl, ⟨_, Heap.get?_push_size _ rfl⟩, fun h1 h2 p st => st _ p⟩
    have rows : (ps ++ #[rawInt pos.line, rawInt pos.col, .ref c']).toList = ps.toList ++ [rawInt pos.line, rawInt pos.col, .ref c'] := by simp
    have T1 : TabV hd (upd (upd H P (.tbl (ps ++ #[rawInt pos.line, rawInt pos.col, .ref c']))) c' (CodeO c' q)) P q := by
      refine ⟨_, by rw [upd_ne nPc, upd_same], by rw [rows]; exact PySem.TriplesOk_snoc _ _ _ _ ht, fun p' cv hcv => ?_⟩
      rw [rows] at hcv
      rcases among_app _ ht hcv with z | z
      · obtain ⟨c0, e1, e2⟩ := ha p' cv z
        have n0 : c0 ≠ P := fun z => by subst z; rw [hm_le e2] at hP; cases hP
        exact ⟨c0, e1, by rw [hm_of (hm_not e2), upd_ne (ne_of_none (hm_le e2) nc), upd_ne n0]; exact hm_le e2⟩
      · exact ⟨c', z, by rw [hm_of (vis _ nc)]; exact upd_same⟩
    refine h _ c' _ ctv _ _ I2 ⟨fun a o hm ho => ?_, fun a ho => upd_dom (upd_dom (upd_dom ho))⟩ nf (T1.up nf1) upd_same ?_
    · rw [upd_ne (ne_of_none ho nf), upd_ne (ne_of_none ho nc), upd_ne (at0_of hm)]
      exact ho
    · rw [hm_of (vis _ nc), upd_ne nfc.symm, upd_same]
/-- the defaults es, and what the lambda keeps of them -/
def DD (es : List Expr) (dT : Option (Addr × Nat)) (dV : Value) : Prop := (es = [] ∧ dT = none ∧ dV = .none) ∨ ∃ T, es ≠ [] ∧ dT = some (T, es.length) ∧ dV = .ref T
def tLamO (P : Addr) (q : Str) (params : Arguments) (body : Expr) (scope : Scope) (cl : List (Str × Addr)) (es : List Expr) : TE := fun σ H Q => ∃ hd, (∀ a, hd a = true → H a ≠ none) ∧ TabV hd H P q ∧
  ∀ (f c' : Addr) (pm ctv dV : Value) (dT : Option (Addr × Nat)) (H3 : Hp), DD es dT dV → Ex (at0 P) H H3 → H f = none → TabV hd H3 P q → (∀ p ∈ LamAt f c' q (lamOb q params body scope cl dV pm (.ref c') ctv) dT, Hm hd H3 p.1 = some p.2) → Q (.ref f) H3
theorem constVals_len : ∀ {es : List Expr} {vs : List Value}, ConstVals es vs → vs.length = es.length
  | [], [], _ => rfl
  | _ :: _, _ :: _, h => congrArg Nat.succ (constVals_len h.2)
theorem pe_lamO {es : List Expr} (TB : TabB X.base X.mg c P) (hcode : X.env.code = .ref c) (hq : X.env.qual ++ "<lambda>" = q) (hdef : defaultsOf params X.env = (evalEach es X.env, [])) (hes : ∀ e ∈ es, e.isPlainConst = true)
    (hfree : X.Ok → ∀ y ∈ scope.names, y.2 = .free → ∃ c, X.env.cells.lookup y.1 = some c) :
    PE X (.Lambda params body scope pos) (tLamO P q params body scope (cloFrom X.env.cells scope.names []) es) := by
  refine ⟨fun pins s σ H Q I h => ?_⟩
  obtain ⟨hd, dom, hT, h⟩ := h
  have vis : ∀ {G : Hp} (a : Addr), (∀ a, hd a = true → G a ≠ none) → G a = none → hd a = false := fun a dm n => by
    cases z : hd a with
    | false => rfl
    | true => exact absurd n (dm a z)
  rw [arm_eval_Lambda, hdef]
  show wpAny _ _ (do let dv ← evalAll (evalEach es X.env); let kdv ← holding dv (evalAllOpt []); makeFunction "<lambda>" (X.env.qual ++ "<lambda>") params (.expr body) scope X.env dv kdv [] pos pos.line) _ _ _
  rw [hq]
  refine wpAny_bind (wpAny_evalAll_consts es s _ hes fun vs tk hv => wpAny_bind (wpAny_holding (wpAny_pure ?_)))
  have hl := constVals_len hv
  rw [makeFunction_eq]
  simp only [List.zip_nil_right, List.filterMap_nil, List.isEmpty_nil, if_true, pure_bind]
  have I0 : Inv X pins σ H { s with toks := tk } := I.tok _
  cases vs with
  | nil =>
    have e0 : es = [] := List.length_eq_zero_iff.mp hl.symm
    simp only [List.isEmpty_nil, if_true, pure_bind]
    refine lam_fin I0 TB hcode dom hT (hfree I.ok) fun f c' pm ctv H3 s' I3 e3 nf T3 hf hc => ?_
    refine ⟨.ref f, H3, I3, rfl, h f c' pm ctv .none none H3 (.inl ⟨e0, rfl, rfl⟩) e3 nf T3 fun p hp => ?_⟩
    rcases List.mem_cons.mp hp with rfl | hp
    · rw [hm_of (vis f dom nf)]; exact hf
    · rcases List.mem_cons.mp hp with rfl | hp
      · exact hc
      · cases hp
  | cons v vs =>
    simp only [List.isEmpty_cons, Bool.false_eq_true, if_false]
    refine wpAny_bind (wpAny_newTextTuple ?_)
    have nT : H s.heap.objs.size = none := I.hok.fresh (Nat.le_refl _)
    have I1 := I0.laid (t' := tk) (a := s.heap.objs.size) (o := DefO s.heap.objs.size es.length) (h' := s.heap.push { cls := .type "tuple", data := .seq (v :: vs).toArray }) (fun b u e => Heap.get?_push_of_some _ e) (Nat.le_refl _) ⟨⟨_, _, _, Heap.get?_push_size _ rfl, rfl, by simpa using hl⟩, ⟨_, Heap.get?_push_size _ rfl⟩, fun h1 h2 ⟨o, its, m, p1, p2, p3⟩ st => ⟨o, its, m, st _ p1, p2, p3⟩⟩
    have dom1 : ∀ a, hd a = true → upd H s.heap.objs.size (DefO s.heap.objs.size es.length) a ≠ none := fun a ha => upd_dom (dom a ha)
    refine lam_fin I1 TB hcode dom1 (hT.up nT) (hfree I.ok) fun f c' pm ctv H3 s' I3 e3 nf T3 hf hc => ?_
    have nf0 : H f = none := (Ex.new (mu := at0 P) nT).fresh nf
    refine ⟨.ref f, H3, I3, rfl, h f c' pm ctv _ (some (s.heap.objs.size, es.length)) H3 (.inr ⟨_, (fun z => by rw [z] at hl; cases hl), rfl, rfl⟩) ((Ex.new nT).trans e3) nf0 T3 fun p hp => ?_⟩
    rcases List.mem_cons.mp hp with rfl | hp
    · rw [hm_of (vis f dom1 nf)]; exact hf
    · rcases List.mem_cons.mp hp with rfl | hp
      · exact hc
      · cases List.mem_singleton.mp hp
        rw [hm_of (vis _ dom nT)]
        refine e3.keep _ _ ?_ upd_same
        obtain ⟨ps, hP, _⟩ := hT
        exact decide_eq_false fun z => by rw [← z, nT] at hP; cases hP
end
end CC

/-! # Lambdas in lists, handed on, called -/
namespace CC
open PySem PySem.Spec PyProof.Rows L2
open C8 (Cal pe_c pe_gc)
open LamX (CodeO TabS TabB lamEnv lamCx)
/-! ### a def called in the greater base -/
def tBig (X : Cx) (spf : Heap → Sp) (t : TA) : TE := fun σ H Q => t σ H fun vs H1 => ∀ pins s, Inv X pins σ H1 s → spf (big s H1 X.stack) vs H1 Q fun _ _ _ => False
theorem pe_callBig {X : Cx} {k j : Nat} {spf : Heap → Sp} {x : Str} {q pos : Pos} {e : Expr} {es : List Expr} {t : TA} (F : ∀ B, Cal X.prog X.w X.K X.mg B k x (spf B) []) (hr : Room j X.A) (hk : k ≤ j) (hg : Gl X x) (ha : PA X (e :: es) t)
    (hdb : (x == ("__debug__" : Str)) = false := by decide) (he : starEach (e :: es) X.env = (false, eval e X.env) :: starEach es X.env := by rfl) (hpl : (backTo pos (starEach es X.env)).any (·.1) = false := by rfl) :
    PE X (.Call (.Name x q) (e :: es) [] pos) (tBig X spf t) := by
  refine ⟨fun pins s σ H Q I h => ?_⟩
  obtain ⟨f0, _, _, _, _, hm0, kp0, _, _⟩ := (F X.base).ex
  refine wpAny_Call_Name_kw (ld_glob I hg hm0 ?_ hdb)
  refine PySem.W.callWith_K (h₀ := X.base) I.ok.mod.kin kp0 (thn (ha.run pos pins s σ H _ I h) fun us s1 hh => ?_) he hpl
  obtain ⟨vs, H1, I1, r, hsp⟩ := hh
  refine ⟨I1.kIn, ?_⟩
  obtain ⟨f, fd, ps, ds, F1, hm, kp, hb, hd⟩ := (F (big s1 H1 X.stack)).ex
  have ef : f = f0 := by rw [hm0] at hm; cases hm; rfl
  subst ef
  cases hd
  have hs := hsp pins s1 I1
  have hl : (us ++ []).length = ps.length := by rw [List.append_nil, ← r.length]; exact F1.len _ _ _ _ hs
  have b := hb s1 us I1.kIn hl
  rw [List.append_nil] at b
  refine wpAny_call (codeAny_mono (F1.run X.A X.stack s1 H1 ⟨us, []⟩ us vs Q _ (hr.mono hk) (env0_big I1) b r hs) fun r s' hq => ?_)
  cases r with
  | error e => exact hq.elim
  | ok fl =>
    cases fl with
    | ret u => exact I1.after hq
    | next => exact hq.elim
    | brk => exact hq.elim
    | cont => exact hq.elim
/-! ### a lambda, by what it does -/
def IsLam (X : Cx) (k : Nat) (t : XK → TE) (f : Addr) (L : List (Addr × HO)) : Prop := ∀ pins σ H s, Inv X pins σ H s → Act X.prog X.w X.K X.mg (big s H X.stack) (k + 1) f fun H' Q E => (∀ p ∈ L, H' p.1 = some p.2) ∧ t E σ H' Q
def tLamM (X : Cx) (P : Addr) (q : Str) (k : Nat) (t : XK → TE) : TE := fun σ H Q => ∃ hd, (∀ a, hd a = true → H a ≠ none) ∧ TabV hd H P q ∧
  ∀ (f : Addr) (L : List (Addr × HO)) (H3 : Hp), IsLam X k t f L → Ex (at0 P) H H3 → TabV hd H3 P q → (∀ p ∈ L, dic (thaw p.2) = false ∧ Hm hd H3 p.1 = some p.2) → Q (.ref f) H3
theorem pe_lamM {X : Cx} {c P : Addr} {q : Str} {params : Arguments} {body : Expr} {scope : Scope} {pos : Pos} {es : List Expr} {ps : List Str} {k : Nat} {t : XK → TE} (TB : TabB X.base X.mg c P) (hcode : X.env.code = .ref c) (hq : X.env.qual ++ "<lambda>" = q) (hfn : ∀ y, X.fn y = true)
    (L : LamS2 X.N X.env.scope scope ps) (hdef : defaultsOf params X.env = (evalEach es X.env, [])) (hes : (es.all fun e => e.isPlainConst) = true) (hlen : es.length = ps.length) (hN : es = [] → FillsN params body scope) (hD : es ≠ [] → FillsD params body scope ps)
    (hbody : ∀ (B : Heap) (A : Around) (outer : List Env) (s' : Shared) (H' : Hp) (E : XK) (f c' : Addr), Room k (A.deeper (lamEnv X scope s'.heap.objs.size f c')) → PE (lamCxB X B A outer s' H' E scope f c') body (t E)) :
    PE X (.Lambda params body scope pos) (tLamM X P q k t) := by
  refine ⟨fun pins s σ H Q I h => ?_⟩
  obtain ⟨hd, dom, hT, h⟩ := h
  refine (pe_lamO TB hcode hq hdef (fun e he => List.all_eq_true.mp hes e he) (fun ok => L.has ok)).run pins s σ H Q I ⟨hd, dom, hT, fun f c' pm ctv dV dT H3 dd e3 nf T3 hL => ?_⟩
  refine h f _ H3 (fun pins' σ' H' s' I' => ?_) e3 T3 fun p hp => ⟨?_, hL p hp⟩
  · refine lam_act hq I' hfn L ?_ fun A outer s1 H1 E hr => hbody _ A outer s1 H1 E f c' hr
    rcases dd with ⟨e0, e1, e2⟩ | ⟨T, e0, e1, e2⟩
    · exact .inl ⟨e1, e2, hN e0⟩
    · exact .inr ⟨T, by rw [e1, hlen], e2, hD e0⟩
  · rcases dT with _ | ⟨T, n⟩
    · simp only [LamAt, List.mem_cons, List.not_mem_nil, or_false] at hp
      rcases hp with rfl | rfl <;> rfl
    · simp only [LamAt, List.mem_cons, List.not_mem_nil, or_false] at hp
      rcases hp with rfl | rfl | rfl <;> rfl
/-! ### what is handed a lambda -/
def tAct (P : Program) (w : World) (K : PySem.W.Frag) (mg : Str → Option Value) (B : Heap) (k i : Nat) (W : WX) : TE := fun σ H Q => ∃ f sp, σ[i]? = some (some (.ref f)) ∧ Act P w K mg B k f sp ∧ sp H Q (WE W σ)
theorem pe_actB {X : Cx} {k i : Nat} {a : Str} {W : WX} {p1 p2 : Pos} (hr : Room k X.A) (tk : Takes X W) (hN : X.N[i]? = some a) (hv : Vis X.env.scope a) (hd : (a == ("__debug__" : Str)) = false := by decide) (hcd : (a == ("__classdict__" : Str)) = false := by decide) :
    PE X (.Call (.Name a p1) [] [] p2) (tAct X.prog X.w X.K X.mg X.base k i W) := by
  refine ⟨fun pins s σ H Q I h => ?_⟩
  obtain ⟨f, sp, hs, ⟨isf, run⟩, hsp⟩ := h
  refine wpAny_Call_Name_kw (thn ((pe_var (pos := p1) (i := i) hN hv hd hcd).run pins s σ H (fun v H1 => v = .ref f ∧ H1 = H) I ⟨.ref f, hs, rfl, rfl⟩) fun u s1 hh => ?_)
  obtain ⟨v, H1, I1, r1, rfl, eH⟩ := hh
  rw [eH] at I1
  cases (show u = Value.ref f from r1)
  obtain ⟨q, params, body, scope, cl, dV, pm, cdv, ct, hf⟩ := isf _ _ _ hsp
  obtain ⟨of1, _, _⟩ := I1.hok f _ hf
  refine PySem.W.callWith_F0 ⟨_, _, _, _, of1⟩ ?_
  refine wpAny_call (codeAny_mono (run X.A X.stack s1 H Q (WE W σ) hr I1.env0 hsp) fun r s' hq => ?_)
  cases r with
  | error e => exact passAt tk σ pins H s1 e s' I1 hq
  | ok fl =>
    cases fl with
    | ret u => exact I1.after hq
    | next => exact hq.elim
    | brk => exact hq.elim
    | cont => exact hq.elim
/-- what told(work) promises: all that is raised is told -/
def spT (P : Program) (w : World) (K : PySem.W.Frag) (mg : Str → Option Value) (names : List Str) (k : Nat) (B : Heap) : Sp := fun vs H Q _ => ∃ f sp, vs = [.ref f] ∧ Act P w K mg B k f sp ∧ ∀ W : XK, (∀ cls d H', Ew K names Q cls d H' → W cls d H') → sp H Q W
/-- the lambda at f tells due, wherever c's word holds -/
def TellC (P : Program) (w : World) (c : Cn) (mg : Str → Option Value) (names : List Str) (k : Nat) (B : Heap) (due d : Dt) : Prop := ∃ f L sp, d = .xo f L ∧ Act P w c.K mg B k f sp ∧
  ∀ hd H, (∀ a, hd a = true → H a ≠ none) → c.B hd H → (∀ p ∈ L, Hm hd H p.1 = some p.2) → ∀ (Q : VK) (W : XK), (∀ v H', Ex none0 H H' → Rp c.K (Hm hd H') v due → Q v H') → (∀ cls d H', Ew c.K names Q cls d H' → W cls d H') → sp H Q W
theorem ev_told {P : Program} {w : World} {c : Cn} {mg : Str → Option Value} {names : List Str} {k i : Nat} {B : Heap} {due d : Dt} {E : XK} {ρ : List Sl} {Q : Dt → Prop} (hi : ρ[i]? = some (.im d)) (h : TellC P w c mg names k B due d) (hq : Q due) :
    EV c (tCall (spT P w c.K mg names k B) [] E (tCons (tVar i) tNil)) ρ Q := fun hd H σ v Qh q => by
  obtain ⟨f, L, sp, rfl, ac, h⟩ := h
  obtain ⟨x, g1, g2⟩ := v.slots.get hi
  cases x with
  | none => exact g2.elim
  | some u =>
    cases (show Rp c.K (Hm hd H) u (.xo f L) from g2) with
    | xo hL =>
      refine ⟨.ref f, g1, f, sp, rfl, ac, fun W hW => h hd H v.dom v.inv (fun p hp => (hL p hp).2) Qh W (fun z H' e r => ?_) hW⟩
      exact q due z H' hq e.up (c.keep0 e v.inv) r
/-- all(works, due): true, if each tells due -/
def spAll (P : Program) (w : World) (K : PySem.W.Frag) (mg : Str → Option Value) (names : List Str) (Al : Dt → Prop) (k : Nat) (B : Heap) : Sp := fun vs H Qh _ => ∃ (c : Cn) (hid : Addr → Bool) (ls : List Dt) (due : Dt), c.K = K ∧ c.mu = none0 ∧ (∀ a, hid a = true → H a ≠ none) ∧ c.B hid H ∧ RpAll K (Hm hid H) vs [.lst ls, due] ∧ Al due ∧ ls.length ≤ 100 ∧
  (∀ d ∈ ls, TellC P w c mg names k B due d) ∧ ∀ H', Ex none0 H H' → Qh (.bl true) H'
end CC

/-! # The law's context with its table, where lambdas are things -/
namespace CC
open PySem PySem.Spec PyProof.Rows L2
open C8 (Cal pe_c pe_gc)
open LamX (CodeO TabS TabB)
def sim : Sl → Sl
  | .im d => .im d
  | .rw v => .rw v
  | _ => .un
theorem sim_ok {c : Cn} {hd : Addr → Bool} {H : Hp} : ∀ {σ : L2.St} {ρ : List Sl}, SlAll c hd H σ ρ → SlAll (Cn.pure c.K) hd H σ (ρ.map sim)
  | _, _, .nil => .nil
  | _, _, .cons (o := o) (s := s) h t => .cons (by
      cases s with
      | im d =>
        cases o with
        | none => exact h.elim
        | some v => exact h
      | rw d =>
        cases o with
        | none => exact h.elim
        | some v => exact h
      | _ => exact slok_un) (sim_ok t)
theorem sim_stab {K : PySem.W.Frag} {hd hd' : Addr → Bool} {H H' : Hp} (e : Sees (Hm hd H) (Hm hd' H')) : ∀ {σ : L2.St} {ρ : List Sl}, SlAll (Cn.pure K) hd H σ (ρ.map sim) → SlAll (Cn.pure K) hd' H' σ (ρ.map sim)
  | _, [], .nil => .nil
  | _, s :: ρ, .cons (o := o) h t => .cons (by
      cases s with
      | im d =>
        cases o with
        | none => exact h.elim
        | some v => exact Rp.mono e h
      | rw d =>
        cases o with
        | none => exact h.elim
        | some v => exact h
      | _ => exact slok_un) (sim_stab e t)
/-- a frame's slots, as a word of the heap -/
abbrev cnS (K : PySem.W.Frag) (σ : L2.St) (ρ : List Sl) : Cn := ⟨K, none0, fun hd H => SlAll (Cn.pure K) hd H σ (ρ.map sim), fun _ _ _ _ e _ h => sim_stab e h⟩
/-- the lambda d tells due, by the slots ρ of the frame that made it -/
def TellJ (X : Cx) (K : PySem.W.Frag) (ρ : List Sl) (names : List Str) (k : Nat) (due d : Dt) : Prop := ∃ t f L, d = .xo f L ∧ IsLam X k t f L ∧
  ∀ hd H σ, SV (Cn.pure K) hd H σ (ρ.map sim) → ∀ (Q : VK) (W : XK), (∀ v H', Ex none0 H H' → Rp K (Hm hd H') v due → Q v H') → (∀ cls d H', Ew K names Q cls d H' → W cls d H') → t W σ H Q
section
variable {K : PySem.W.Frag} {ρ : List Sl} {names : List Str} {due : Dt}
theorem tell_y {S : List Dt → (Dt → Prop) → (Str → Option Int → Prop) → Prop} {ta : TA} (h : EVA (Cn.pure K) ta ρ fun ds => ∃ R, S ds (fun d => d = due) R ∧ ∀ nm pl, R nm pl → nm ∈ names ∧ placed nm = pl.isSome ∧ due = .tup [.str nm, .int (pl.getD 0)]) :
    ∀ hd H σ, SV (Cn.pure K) hd H σ ρ → ∀ (Q : VK) (W : XK), (∀ v H', Ex none0 H H' → Rp K (Hm hd H') v due → Q v H') → (∀ cls d H', Ew K names Q cls d H' → W cls d H') → tCallS (spY K S) (fun _ => W) ta σ H Q := fun hd H σ v Q W hQ hW => h hd H σ v _ fun ds vs H2 h2 e2 _ r2 => by
  obtain ⟨R, hS, hR⟩ := h2
  have dom2 : ∀ a, hd a = true → H2 a ≠ none := fun a ha => e2.dom a (v.dom a ha)
  refine ⟨hd, ds, _, R, dom2, r2, hS, fun d z H3 hd3 e3 r3 => ?_, fun nm pl hr d H3 e3 hf hp => hW _ _ _ ⟨nm, pl, hd, (hR nm pl hr).1, (hR nm pl hr).2.1, rfl, hp, fun a ha => e3.dom a (dom2 a ha), fun dd e => fresh_hd dom2 (hf dd e), fun H4 z e4 r4 => ?_⟩⟩
  · subst hd3
    exact hQ z H3 (e2.trans e3) r3
  · refine hQ z H4 (e2.trans (e3.trans e4)) ?_
    rw [(hR nm pl hr).2.2]
    exact r4
end
abbrev cnM (K : PySem.W.Frag) (b l P : Addr) (q : Str) : Cn := ⟨K, muL b l P, fun hd H => Bx b l H ∧ TabV hd H P q, fun _ _ H H' e h ⟨⟨s, ns, h1, h2⟩, t⟩ => ⟨⟨s, ns, h b _ (.inl (muL_B muB_b)) h1, h l _ (.inl (muL_B muB_l)) h2⟩, t.stay (fun o => h P o (.inl muL_P)) e⟩⟩
section
variable {K : PySem.W.Frag} {b l P : Addr} {q : Str} {ρ : List Sl} {Q : Dt → Prop} {QL : List Dt → Prop}
theorem tabV_box {hd : Addr → Bool} {H H' : Hp} (mh : ∀ a, muL b l P a = true → hd a = true) (bx : Bx b l H) (e : Ex (muB b l) H H') (t : TabV hd H P q) : TabV hd H' P q := by
  have t' := t
  obtain ⟨ps, h1, _, _⟩ := t'
  exact t.stay (fun o ho => e.keep P o (muB_no bx h1 (fun xs z => by cases z)) ho) (e.sees fun a h => mh a (muL_B h))
theorem ev_callM {S : List Dt → (Dt → Prop) → Prop} {E : XK} {i : Nat} {ta : TA} (hne : b ≠ l) (hi : ρ[i]? = some (.rw (.ref b))) (h : EVA (cnM K b l P q) ta ρ fun ds => S ds Q) : EV (cnM K b l P q) (tCall (spB K S) [] E (tCons (tVar i) ta)) ρ Q := fun hd H σ v Qh k =>
  ⟨.ref b, rw_get v.slots hi, h hd H σ v _ fun ds vs H1 h1 e1 b1 r1 => by
    show spB K S ((.ref b :: vs) ++ []) H1 Qh E
    rw [List.append_nil]
    exact ⟨b, l, vs, hd, ds, Q, rfl, hne, b1.1, v.muh b (muL_B muB_b), v.muh l (muL_B muB_l), fun a h => e1.dom a (v.dom a h), r1, h1, fun d z H2 hq e2 b2 r2 => k d z H2 hq (e1.trans (e2.weak fun a h => muL_B h)) ⟨b2, tabV_box v.muh b1.1 e2 b1.2⟩ r2⟩⟩
theorem tabV_hide {hd : Addr → Bool} {H H' : Hp} {o : Addr} (mh : ∀ a, muL b l P a = true → hd a = true) (bx : Bx b l H) (e : Ex (muB b l) H H') (ho : H o = none) (t : TabV hd H P q) : TabV (hide hd o) H' P q := by
  have t' := t
  obtain ⟨ps, h1, _, _⟩ := t'
  exact t.stay (fun u hu => e.keep P u (muB_no bx h1 (fun xs z => by cases z)) hu) (sees_new e (fun a h => mh a (muL_B h)) ho)
theorem en_callM {S : List Dt → (List Dt → Prop) → Prop} {E : XK} {i : Nat} {ta : TA} (hne : b ≠ l) (hi : ρ[i]? = some (.rw (.ref b))) (h : EVA (cnM K b l P q) ta ρ fun ds => S ds QL) : EN (cnM K b l P q) (tCall (spBN K S) [] E (tCons (tVar i) ta)) ρ QL := fun hd H σ v Qh k =>
  ⟨.ref b, rw_get v.slots hi, h hd H σ v _ fun ds vs H1 h1 e1 b1 r1 => by
    show spBN K S ((.ref b :: vs) ++ []) H1 Qh E
    rw [List.append_nil]
    exact ⟨b, l, vs, hd, ds, QL, rfl, hne, b1.1, v.muh b (muL_B muB_b), v.muh l (muL_B muB_l), fun a h => e1.dom a (v.dom a h), r1, h1, fun es o zs H2 hq e2 b2 ho => k es o zs H2 hq (e1.trans (e2.weak fun a h => muL_B h)) ⟨b2, tabV_hide v.muh b1.1 e2 ho b1.2⟩ (e1.fresh ho)⟩⟩
/-- a lambda is made -/
theorem ev_lamM {X : Cx} {k : Nat} {t : XK → TE} (h : ∀ f L, IsLam X k t f L → Q (.xo f L)) : EV (cnM K b l P q) (tLamM X P q k t) ρ Q := fun hd H σ v Qh k => ⟨hd, v.dom, v.inv.2, fun f L H3 il e3 T3 hL => by
  obtain ⟨⟨s, ns, h1, h2⟩, ps, hP, _⟩ := v.inv
  have n1 : b ≠ P := fun z => by subst z; rw [h1] at hP; cases hP
  have n2 : l ≠ P := fun z => by subst z; rw [h2] at hP; cases hP
  exact k _ _ H3 (h f L il) (e3.weak fun a ha => by rw [show a = P from of_decide_eq_true ha]; exact muL_P) ⟨⟨s, ns, e3.keep b _ (decide_eq_false n1) h1, e3.keep l _ (decide_eq_false n2) h2⟩, T3⟩ (.xo hL)⟩
/-- all(works, due) -/
theorem ev_allM {X : Cx} {k : Nat} {Al : Dt → Prop} {names : List Str} {ta : TA} (h : EVA (cnM K b l P q) ta ρ fun ds => ∃ ls due, ds = [.lst ls, due] ∧ Al due ∧ ls.length ≤ 100 ∧ (∀ d ∈ ls, TellJ X K ρ names k due d) ∧ Q (.bl true)) (hK : X.K = K) :
    EV (cnM K b l P q) (tBig X (spAll X.prog X.w K X.mg names Al (k + 1)) ta) ρ Q := fun hd H σ v Qh kq => h hd H σ v _ fun ds vs H1 h1 e1 b1 r1 pins s I => by
  obtain ⟨ls, due, rfl, al, hl, hT, hq⟩ := h1
  subst hK
  have v1 := v.go e1 b1
  refine ⟨cnS X.K σ ρ, hd, ls, due, rfl, rfl, v1.dom, sim_ok v1.slots, r1, al, hl, fun d hd' => ?_, fun H' e => kq (.bl true) (.bl true) H' hq (e1.trans (e.up (c := cnM X.K b l P q))) ((cnM X.K b l P q).keep0 e b1) (.bl true)⟩
  obtain ⟨t, f, L, rfl, il, tell⟩ := hT d hd'
  exact ⟨f, L, _, rfl, il pins σ H1 s I, fun hd2 H2 dom2 sl hL Q W hQ hW => ⟨fun p hp => hm_le (hL p hp), tell hd2 H2 σ ⟨dom2, (fun _ h => nomatch h), trivial, sl⟩ Q W hQ hW⟩⟩
/-- told(lambda: ..) -/
theorem ev_toldM {X : Cx} {k : Nat} {names : List Str} {due : Dt} {ta : TA} (h : EVA (cnM K b l P q) ta ρ fun ds => ∃ d, ds = [d] ∧ TellJ X K ρ names k due d ∧ Q due) (hK : X.K = K) :
    EV (cnM K b l P q) (tBig X (spT X.prog X.w K X.mg names (k + 1)) ta) ρ Q := fun hd H σ v Qh kq => h hd H σ v _ fun ds vs H1 h1 e1 b1 r1 pins s I => by
  obtain ⟨d, rfl, ⟨t, f, L, rfl, il, tell⟩, hq⟩ := h1
  subst hK
  have v1 := v.go e1 b1
  obtain ⟨x, rfl, rx⟩ := rp1 r1
  cases rx with
  | xo hL =>
    refine ⟨f, _, rfl, il pins σ H1 s I, fun W hW => ⟨fun p hp => hm_le (hL p hp).2, tell hd H1 σ ⟨v1.dom, (fun _ h => nomatch h), trivial, sim_ok v1.slots⟩ Qh W (fun z H' e r => ?_) hW⟩⟩
    exact kq due z H' hq (e1.trans (e.up (c := cnM X.K b l P q))) ((cnM X.K b l P q).keep0 e b1) r
end
end CC

/-! # Errors that bear a place -/
namespace CC
open PySem PySem.Spec PyProof.Rows L2
open C8 (Cal pe_c pe_gc)
/-! ### C.__init__(self, ..), C an own class over ValueError without an __init__ -/
structure CeC (K : PySem.W.Frag) (mg : Str → Option Value) (x : Str) (D : Addr) : Prop where
  g : mg x = some (.ref D)
  ty : PySem.W.typeIn K (.ref D) = some (.type "type")
  rd : PySem.W.readsIn K D (.type "type") = true
  ga : PySem.W.specialIn K (.ref D) "__getattribute__" = some (some (.builtin "type.__getattribute__"))
  ini : PySem.W.findCls K (.ref D) (.type "type") "__init__" = some (.val (.builtin "ValueError.__init__"))
def isVal (r : Option PySem.W.CFound) (id : String) : Bool := match r with
  | some (.val (.builtin i)) => decide (i = id)
  | _ => false
theorem isVal_ok {r : Option PySem.W.CFound} {id : String} (h : isVal r id = true) : r = some (.val (.builtin id)) := by
  unfold isVal at h
  split at h
  · rw [of_decide_eq_true h]
  · cases h
def ceB (K : PySem.W.Frag) (D : Addr) : Bool := decide (PySem.W.typeIn K (.ref D) = some (.type "type")) && (PySem.W.readsIn K D (.type "type") && (decide (PySem.W.specialIn K (.ref D) "__getattribute__" = some (some (.builtin "type.__getattribute__"))) && isVal (PySem.W.findCls K (.ref D) (.type "type") "__init__") "ValueError.__init__"))
theorem ceB_ok {K : PySem.W.Frag} {mg : Str → Option Value} {x : Str} {D : Addr} (g : mg x = some (.ref D)) (h : ceB K D = true) : CeC K mg x D := by
  unfold ceB at h
  simp only [Bool.and_eq_true, decide_eq_true_eq] at h
  exact ⟨g, h.1, h.2.1, h.2.2.1, isVal_ok h.2.2.2⟩
section
variable {X : Cx} {e : Expr} {es : List Expr} {ta : TA} {p p1 p2 pos : Pos}
theorem pe_ceinit {pl : Sem Bool} {x : Str} {D : Addr} (hg : Gl X x) (c : CeC X.K X.mg x D) (ha : PA X (e :: es) ta) (hdb : (x == ("__debug__" : Str)) = false := by decide)
    (hc : eval (.Call (.Attribute (.Name x p1) "__init__" p2) (e :: es) [] pos) X.env = (do
      let ov ← eval (.Name x p1) X.env
      standAt p2.atName
      let (f, first) ← holding [ov] (getMethod ov "__init__" pl)
      callWith pos f first (backTo pos (starEach (e :: es) X.env)) (backToKw pos (keywordEach [] X.env))) := by rfl)
    (he : starEach (e :: es) X.env = (false, eval e X.env) :: starEach es X.env := by rfl) (hpl : (backTo pos (starEach es X.env)).any (·.1) = false := by rfl) :
    PE X (.Call (.Attribute (.Name x p1) "__init__" p2) (e :: es) [] pos) (tVeI X.K ta) := by
  refine ⟨fun pins s σ H Q I h => ?_⟩
  refine PySem.W.methodCall_KW (ld_glob I hg c.g ?_ hdb) hc
  obtain ⟨m, fr⟩ := I.fr
  refine PySem.W.method_of_cls fr I.ok.mod.kin c.ga (PySem.W.cls_val fr I.ok.mod.kin c.ty c.rd c.ini (by decide +kernel) ?_)
  show wpAny _ _ (callWith pos (Value.builtin "ValueError.__init__") [] (backTo pos (starEach (e :: es) X.env)) []) _ _ _
  refine PyProof.Rows.callWith_method1 (thn (ha.run pos pins _ σ H _ (I.tok _) h) fun us s1 hh => ?_) he hpl
  obtain ⟨vs, H1, I1, r1, a, C, ws, rfl, hl, T, ea, q⟩ := hh
  cases r1 with
  | @cons _ u0 _ ur ra rw' =>
    cases (show u0 = Value.ref a from ra)
    have hlen : ur.length ≤ sizeLine := by
      rw [← Paired.length rw', sizeLine_eq]
      omega
    exact oinit_ok T I1 ea hlen fun s' J => ⟨.non, H1, J, rfl, q⟩
end
/-! ### the class whose __init__ keeps a place -/
def oexB (K : PySem.W.Frag) (C : Addr) : Bool := (match K.lookup C with
    | some ⟨.type "type", _, .cls cd, sl⟩ => (match cd.mro, sl.toList with
      | .ref C' :: bm, [_, _, _, _, some (.builtin n), _] => decide (C' = C) && (decide (n = "ValueError.__new__") && (!cd.hasDel && (cd.hasDict && PySem.HandSPX.refsVE bm)))
      | _, _ => false)
    | _ => false) && (decide (PySem.W.findIn K (.ref C) "__setattr__" = some (some (.builtin "object.__setattr__"))) && (decide (PySem.W.subIn K (.ref C) (.type "BaseException") = some true) && (decide (PySem.W.typeIn K (.ref C) = some (.type "type")) && PySem.W.keepIn K (.ref C))))
theorem oexB_ok {K : PySem.W.Frag} {C : Addr} (h : oexB K C = true) : OexC K C := by
  unfold oexB at h
  simp only [Bool.and_eq_true, decide_eq_true_eq] at h
  obtain ⟨h1, h2, h3, h4, h5⟩ := h
  refine ⟨?_, h2, h3, h4, h5⟩
  split at h1
  · rename_i dd cd sl ho
    split at h1
    · rename_i C' bm k0 k1 k2 k3 n k5 hm hs
      simp only [Bool.and_eq_true, decide_eq_true_eq, Bool.not_eq_true'] at h1
      obtain ⟨rfl, rfl, hd, hh, hr⟩ := h1
      obtain ⟨nm, bs, mro, N, q, hasD, sn, sub, ab, col, del⟩ := cd
      dsimp only at hm hd hh
      subst hm hd hh
      have e : sl = #[k0, k1, k2, k3, some (.builtin "ValueError.__new__"), k5] := by
        rw [← hs]
      subst e
      exact ⟨nm, q, N, bs, bm, sn, sub, ab, col, dd, k0, k1, k2, k3, k5, ho, hr⟩
    · cases h1
  · cases h1
/-- the text of __init__: C.__init__(self, "…"); self.place = place -/
structure InitW (st : Stmt) (qual : Str) : Prop where
  sc : FnScope ["self", "place"] ["self", "place"] (defScope st)
  run : ∀ {P : Program} {w : World} {K : PySem.W.Frag} {mg : Str → Option Value} {base : Heap} {f : Addr} {cdv : Value} {A : Around} {outer : List Env} {s : Shared} {H : Hp} {E : XK} {D : Addr}, CeC K mg "ColumnError" D →
    ∃ z : Str, PSs (cxD P w K mg base ["self", "place"] qual st f cdv A outer s H E) (defBody st) (tSeq (tDrop (tVeI K (tCons (tVar 0) (tCons (tC (.str z)) tNil)))) (tOst K "place" (tVar 0) (tVar 1)))
structure PlC (K : PySem.W.Frag) (mg : Str → Option Value) (x : Str) (C : Addr) : Prop where
  g : mg x = some (.ref C)
  o : OexC K C
  no : PySem.W.findIn K (.ref C) "place" = some none
  ce : ∃ D, CeC K mg "ColumnError" D
  ini : ∃ (f : Addr) (fd : FuncData) (st : Stmt) (qual : Str), Fun K "__init__" qual st f fd ∧ InitW st qual ∧ PySem.W.findIn K (.ref C) "__init__" = some (some (.ref f)) ∧ PySem.W.typeIn K (.ref f) = some (.type "function") ∧ Binds K fd ["self", "place"] []
def spI (C : Addr) : Sp := fun vs H Q _ => ∃ a pl, vs = [.ref a, .int pl] ∧ H a = some (exo a C none) ∧ ∀ dx, H dx = none → dx ≠ a → Q .non (upd (upd H dx (exd dx [("place", .int pl)])) a (exo a C (some dx)))
section
variable {P : Program} {w : World} {K : PySem.W.Frag} {mg : Str → Option Value} {base : Heap}
theorem init_ok {x : Str} {C : Addr} {k : Nat} (c : PlC K mg x C) {f : Addr} {fd : FuncData} {st : Stmt} {qual : Str} (F : Fun K "__init__" qual st f fd) (W : InitW st qual) : FnOk P w K mg base CX0 (k + 1) f fd ["self", "place"] (spI C) := by
  obtain ⟨D, ce⟩ := c.ce
  refine F.ok W.sc (fun vs H Q E h => ?_) (fun cdv A outer s H vs Q E hr h => ?_)
  · obtain ⟨a, pl, rfl, _⟩ := h; rfl
  · obtain ⟨a, pl, rfl, ha, hq⟩ := h
    obtain ⟨z, ht⟩ := W.run (P := P) (w := w) (base := base) (f := f) (cdv := cdv) (A := A) (outer := outer) (s := s) (H := H) (E := E) ce
    refine ⟨_, ht, ?_⟩
    refine ⟨.ref a, rfl, a, C, [.str z], rfl, (by show 1 ≤ 1000; decide), c.o, ha, ?_⟩
    refine ⟨.int pl, rfl, .ref a, rfl, a, C, rfl, c.o, c.no, .inl ⟨ha, fun dx n1 n2 => hq dx n1 n2⟩⟩
end
/-- raise C(e): e a number -/
def tPl (C : Addr) (te : TE) : L2.St → Hp → XK → Prop := fun σ H Q => te σ H fun v H1 => ∃ i : Int, v = .int i ∧ ∀ d H2, H1 d = none → Ex none0 H1 H2 → H2 d = some (.xd [("place", .int i)]) → Q (.ref C) (some d) H2
def tMono (te : TE) : TE := fun σ H Q => ∃ K : VK, te σ H K ∧ ∀ v H1, K v H1 → Q v H1
theorem pe_mono {X : Cx} {e : Expr} {te : TE} (h : PE X e te) : PE X e (tMono te) := ⟨fun pins s σ H Q I q => by
  obtain ⟨K, h1, h2⟩ := q
  refine thn (h.run pins s σ H K I h1) fun u s1 hh => ?_
  obtain ⟨v, H1, I1, r, k⟩ := hh
  exact ⟨v, H1, I1, r, h2 v H1 k⟩⟩
theorem pmk_place {X : Cx} {x : Str} {C : Addr} {e : Expr} {te : TE} {p pos : Pos} {j : Nat} (c : PlC X.K X.mg x C) (hr : Room j X.A) (hj : 2 ≤ j) (hg : Gl X x) (he : PE X e te) (hx : Passes CX0 X (fun _ _ _ => False) := fun _ _ _ _ _ _ _ z => z.elim)
    (hdb : (x == ("__debug__" : Str)) = false := by decide) (hst : starEach [e] X.env = (false, eval e X.env) :: starEach [] X.env := by rfl) (hpl : (backTo pos (starEach [] X.env)).any (·.1) = false := by rfl) :
    PMk X (.Call (.Name x p) [e] [] pos) (tPl C te) := by
  obtain ⟨f, fd, st, qual, F, W, h1, h2, b⟩ := c.ini
  intro pins s σ H Q I h
  refine pmk_oex (k := 1) (sp := spI C) (dvs := []) c.o h1 h2 (init_ok (k := 0) c F W) (hr.mono hj) b .nil hx hg c.g (pa_cons (pe_mono he) pa_nil hst) hdb hst hpl pins s σ H Q I ?_
  refine ⟨_, h, fun v H1 hk => ?_⟩
  obtain ⟨i, rfl, hk⟩ := hk
  refine ⟨by show 1 ≤ 1000; decide, fun a na => ⟨a, i, rfl, upd_same, fun dx nd ne => ⟨rfl, dx, _, upd_same, by rw [upd_ne ne, upd_same], ?_, ?_⟩⟩⟩
  · rw [upd_ne ne] at nd; exact nd
  · rw [upd_ne ne] at nd
    refine hk dx _ nd ⟨fun b o _ ho => ?_, fun b ho => ?_⟩ upd_same
    · have n1 := ne_of_none ho nd
      have n2 := ne_of_none ho na
      rw [upd_ne n1, del_ne n2, upd_ne n2, upd_ne n1, upd_ne n2]
      exact ho
    · cases q : H1 b with
      | none => exact absurd q ho
      | some o =>
        have n1 := ne_of_none q nd
        have n2 := ne_of_none q na
        rw [upd_ne n1, del_ne n2, upd_ne n2, upd_ne n1, upd_ne n2, q]
        exact fun z => nomatch z
end CC
namespace CC
open PySem PySem.Spec PyProof.Rows L2
/-! ### isinstance(e, C), e a pinned exception, with a dict or none -/
def rIsA (K : PySem.W.Frag) (D a : Addr) (d : Option Addr) : List V → Hp → VK → Prop := fun xs H Q => ∃ (c : V) (cv : Value) (b : Bool), xs = [.ref a, c] ∧ (∀ u, RelV c u → u = cv) ∧ PySem.W.kitOne K (.ref D) cv = some b ∧ (∀ dd, d = some dd → ∃ fs, H dd = some (.xd fs)) ∧ Q (.bl b) H
theorem call_isA {X : Cx} {a D : Addr} {d : Option Addr} {oe : Obj} (C : ExcC X.K D) (hp : (a, oe) ∈ X.pn) (hz : Zc (.ref D) d oe) (hf : ∃ vs, oe.data = .fields vs) : CallR X (.builtin "isinstance") (rIsA X.K D a d) := by
  intro pins s σ H xs us Q I r h
  obtain ⟨c, cv, b, rfl, hcv, e, hdd, q⟩ := h
  obtain ⟨vs, hv⟩ := hf
  have hget := (I.pin (a, oe) (List.mem_append_left _ hp)).1
  have inst : ∃ od, PySem.W.InstAt s.heap a oe D od := by
    cases d with
    | none => exact ⟨none, hget, hz.1, by unfold PySem.W.notCls; rw [hv] <;> rfl, by rw [hz.2]; trivial⟩
    | some dd =>
      obtain ⟨fs, hx⟩ := hdd dd rfl
      obtain ⟨mA, hns, hr⟩ := show ObjOk X.prog X.w H s.heap dd (.xd fs) from I.hok dd _ hx
      obtain ⟨od, ho, hl⟩ := lookIn_ns hns
      exact ⟨some od, hget, hz.1, by unfold PySem.W.notCls; rw [hv] <;> rfl, by rw [hz.2]; exact ho⟩
  obtain ⟨od, inst⟩ := inst
  have hcl : (PySem.W.clsIn X.K D).isSome = true := by
    obtain ⟨cd, hc, _⟩ := PySem.W.any_some C.hd
    rw [hc]; rfl
  cases r with
  | cons rx rr =>
    cases rr with
    | cons rt rr =>
      cases rr
      cases rx
      cases hcv _ rt
      exact PySem.W.kia_one (PySem.W.kitx_exc hcl C.hg C.hk C.hs C.ha C.hn C.ht C.hm) I.kIn inst e (fun z => nomatch z) fun tk => ⟨.bl b, H, I.kept (t' := tk) fun _ _ z => z, rfl, q⟩
/-- the exception's dict is there -/
abbrev cnX (K : PySem.W.Frag) (d : Option Addr) (fs : List (Str × V)) : Cn := ⟨K, none0, fun hd H => ∀ dd, d = some dd → Hm hd H dd = some (.xd fs), fun _ _ H H' e _ h dd hd => by
  obtain ⟨o, e1, e2⟩ := e dd _ (h dd hd)
  rw [e2.plain rfl] at e1
  exact e1⟩
theorem ev_isA {K : PySem.W.Frag} {fs : List (Str × V)} {ρ : List Sl} {Q : Dt → Prop} {i : Nat} {a D : Addr} {d : Option Addr} {v : V} {cv : Value} {b : Bool} (hi : ρ[i]? = some (.rw (.ref a))) (hcv : ∀ u, RelV v u → u = cv) (hk : PySem.W.kitOne K (.ref D) cv = some b) (h : Q (.bl b)) :
    EV (cnX K d fs) (tCB (rIsA K D a d) (tCons (tVar i) (tCons (tC v) tNil))) ρ Q := fun hd H σ s Qh q =>
  ⟨.ref a, rw_get s.slots hi, v, cv, b, rfl, hcv, hk, fun dd e => ⟨fs, hm_le (s.inv dd e)⟩, q _ _ H h .refl s.inv (.bl b)⟩
/-- e.place -/
theorem ev_place {K : PySem.W.Frag} {fs : List (Str × V)} {ρ : List Sl} {Q : Dt → Prop} {i : Nat} {a C dd : Addr} {j : Int} {f : Str} (hi : ρ[i]? = some (.rw (.ref a))) (T : XfC K C) (hno : PySem.W.findIn K (.ref C) f = some none) (hl : fs.lookup f = some (.int j)) (h : Q (.int j)) :
    EV (cnX K (some dd) fs) (tXfA K a (.ref C) (some dd) f (tVar i)) ρ Q := fun hd H σ s Qh q =>
  ⟨.ref a, rw_get s.slots hi, rfl, C, dd, fs, .int j, rfl, T, hno, rfl, hm_le (s.inv dd rfl), hl, q _ _ H h .refl s.inv (.int j)⟩
end CC

/-! # Refusing defs that call one another; refusals that do not come -/
namespace CC
open PySem PySem.Spec PyProof.Rows L2
open C8 (Cal pe_c pe_gc)
theorem pe_cC {X : Cx} {k j : Nat} {x : Str} {sp : Sp} {e : Expr} {es : List Expr} {t : TA} {p pos : Pos} (c : CalX X.prog X.w X.K X.mg X.base k x sp) (hr : Room j X.A) (hk : k ≤ j) (hg : Gl X x) (ha : PA X (e :: es) t)
    (hdb : (x == ("__debug__" : Str)) = false := by decide) (he : starEach (e :: es) X.env = (false, eval e X.env) :: starEach es X.env := by rfl) (hpl : (backTo pos (starEach es X.env)).any (·.1) = false := by rfl) :
    PE X (.Call (.Name x p) (e :: es) [] pos) (tCall sp [] E0 t) := by
  obtain ⟨f, fd, ps, F, hm, kp, b⟩ := c.ex
  refine pe_call F (hr.mono hk) hg hm kp b .nil (fun pins σ H s e s' I h => ?_) ha hdb he hpl
  obtain ⟨_, _, _, _, _, _, _, _, _, _, _, _, z⟩ := h
  exact (show False from z).elim
section
variable {c : Cn} {K : PySem.W.Frag} {ρ : List Sl} {Q : Dt → Prop} {ds : List Dt} {E : XK}
theorem sp_jY {S : List Dt → (Dt → Prop) → (Str → Option Int → Prop) → Prop} (h : S ds Q fun _ _ => False) : SpJ c (spY c.K S) E ds Q := fun hd H vs dom mh bb r Qh q => ⟨hd, ds, Q, _, dom, r, h, fun d v H' hq e => q d v H' hq e.up (c.keep0 e bb), fun _ _ z => z.elim⟩
/-- what may be raised, as of the heap H0 -/
def RZ (K : PySem.W.Frag) (E : XK) (R : Str → Option Int → Prop) (H0 : Hp) : Prop := ∀ nm pl, R nm pl → ∀ d H', Ex none0 H0 H' → (∀ dd, d = some dd → H0 dd = none) → Pl d pl H' → E (.ref (He.ga K nm)) d H'
variable {R : Str → Option Int → Prop} {H0 H1 : Hp} {hid : Addr → Bool} {D : Ends} {tz : TS}
theorem RZ.go (h : RZ K E R H0) (e : Ex none0 H0 H1) : RZ K E R H1 := fun nm pl hr d H' e' hf hp => h nm pl hr d H' (e.trans e') (fun dd hd => e.fresh (hf dd hd)) hp
theorem nj_dropY {S : List Dt → (Dt → Prop) → (Str → Option Int → Prop) → Prop} {ta : TA} (hz : RZ K E R H0) (h : EVA (Cn.pure K) ta ρ fun ds => S ds (fun _ => NJ (Cn.pure K) hid H0 D.nx ρ) R) : NJ (Cn.pure K) hid H0 (tDrop (tCallS (spY K S) (fun _ => E) ta) D) ρ := fun hd H σ s =>
  h hd H σ s.toSV _ fun ds vs H1 h1 e1 b1 r1 => ⟨hd, ds, _, R, fun a ha => e1.dom a (s.dom a ha), r1, h1, fun d v H2 hq e2 r2 => hq hd H2 _ (s.go (e1.trans e2) trivial), fun nm pl hr d H2 e2 hf hp => hz nm pl hr d H2 ((s.ext.trans e1).trans e2) (fun dd e => (s.ext.trans e1).fresh (hf dd e)) hp⟩
theorem q_dropY {S : List Dt → (Dt → Prop) → (Str → Option Int → Prop) → Prop} {ta : TA} (hz : RZ K E R H0) (h : EVA (Cn.pure K) ta ρ fun ds => S ds (fun _ => NJ (Cn.pure K) hid H0 (tz D) ρ) R) : NJ (Cn.pure K) hid H0 (tSeq (tDrop (tCallS (spY K S) (fun _ => E) ta)) tz D) ρ := nj_dropY (D := { D with nx := tz D }) hz h
theorem nj_retY {S : List Dt → (Dt → Prop) → (Str → Option Int → Prop) → Prop} {ta : TA} (hz : RZ K E R H0) (h : EVA (Cn.pure K) ta ρ fun ds => S ds (fun d => RJ (Cn.pure K) hid H0 D.rt d) R) : NJ (Cn.pure K) hid H0 (tRet (tCallS (spY K S) (fun _ => E) ta) D) ρ := fun hd H σ s =>
  h hd H σ s.toSV _ fun ds vs H1 h1 e1 b1 r1 => ⟨hd, ds, _, R, fun a ha => e1.dom a (s.dom a ha), r1, h1, fun d v H2 hq e2 r2 => hq v H2 ((s.ext.trans e1).trans e2) trivial (r2.mono (sees_hide s.sub)), fun nm pl hr d H2 e2 hf hp => hz nm pl hr d H2 ((s.ext.trans e1).trans e2) (fun dd e => (s.ext.trans e1).fresh (hf dd e)) hp⟩
theorem nj_raiseP {x : Str} {i : Nat} {j : Int} (hz : RZ K E R H0) (hi : ρ[i]? = some (.im (.int j))) (hR : R x (some j)) : NJ (Cn.pure K) hid H0 (fun σ H => tPl (He.ga K x) (tVar i) σ H fun cls d H' => E cls d H') ρ := fun hd H σ s => by
  obtain ⟨o, g1, g2⟩ := s.slots.get hi
  cases o with
  | none => exact g2.elim
  | some v =>
    cases (show Rp K (Hm hd H) v (.int j) from g2)
    exact ⟨.int j, g1, j, rfl, fun d H2 nd e hx => hz x (some j) hR _ H2 (s.ext.trans e) (fun dd e => by cases e; exact s.ext.fresh nd) hx⟩
theorem nj_raiseN {x : Str} (hz : RZ K E R H0) (hR : R x none) : NJ (Cn.pure K) hid H0 (fun _ H => E (.ref (He.ga K x)) none H) ρ := fun hd H σ s => hz x none hR none H s.ext (fun _ z => nomatch z) trivial
end
end CC

/-! # enumerate(tuple) -/
namespace PySem
open Builtin
theorem meets_enum_begins {v : Value} {o : Obj} {H : Heap → Prop} (B : Begins v o H) :
    Meets (Builtin.«enumerate.__new__» ⟨[.type "enumerate", v], []⟩) (fun _ R s => H s.heap ∧
      R (.ok (.ret (.ref (s.heap.push o).objs.size))) { s with heap := (s.heap.push o).push { cls := .type "enumerate", data := .fields #[.none, .bool false, .ref s.heap.objs.size, rawInt 0, .none, .none] } }) :=
  .of_wp fun prog w A R s h => by
    obtain ⟨hp, g, d, tk, os⟩ := s; obtain ⟨h1, h⟩ := h
    have hsub := sub_enumerate
    have q1 : ∀ {A' : Around} {E : Value → Shared → Prop} {Q : Value → Shared → Prop}, Q (.ref hp.objs.size) ⟨hp.push o, g, d, tk, os⟩ → wpAny (model prog w) A' (pyIter v) Q E ⟨hp, g, d, tk, os⟩ :=
      fun q => B.iter prog w _ _ ⟨hp, g, d, tk, os⟩ _ h1 q
    wp_walk using q1
    refine wpAny_stack_any fun st => wpAny_pure ?_
    split
    · rename_i c _ _ _ _ _
      cases (c == Value.type "enumerate") <;>
      · wp_walk using q1
        exact ⟨_, rfl, h⟩
    · wp_walk using q1
      exact ⟨_, rfl, h⟩
theorem call_enum_begins {prog : Program} {w : World} {A : Around} {E : Value → Shared → Prop} {s : Shared} {v : Value} {o : Obj} {H : Heap → Prop} {Q : Value → Shared → Prop} (B : Begins v o H) (h1 : H s.heap)
    (h : ∀ h', IsEnum h' (s.heap.objs.size + 1) s.heap.objs.size 0 .none → h'.get? s.heap.objs.size = some o → (∀ b o, s.heap.get? b = some o → h'.get? b = some o) → Q (.ref (s.heap.objs.size + 1)) { s with heap := h' }) :
    wpAny (model prog w) A (call (.type "enumerate") [v]) Q E s := by
  refine callType_new F.called_enumerate (by decide) (F.typeCall_enumerate_1 _) (F.newCall_enumerate_1 _) (fun obj => F.args_object_init_2 obj _) F.entry_enumerate_new (meets_enum_begins B) ⟨h1, ?_⟩
  have hz : (s.heap.push o).objs.size = s.heap.objs.size + 1 := Heap.size_push ..
  show _ ∧ _
  rw [hz]
  have he : IsEnum ((s.heap.push o).push { cls := .type "enumerate", data := .fields #[.none, .bool false, .ref s.heap.objs.size, rawInt 0, .none, .none] }) (s.heap.objs.size + 1) s.heap.objs.size 0 .none := by
    have := Heap.get?_push_size (s.heap.push o) (o := { cls := .type "enumerate", data := .fields #[.none, .bool false, .ref s.heap.objs.size, rawInt 0, .none, .none] }) rfl
    rw [hz] at this; exact this
  exact ⟨⟨_, he, rfl⟩, h _ he (Heap.get?_push_of_some _ (Heap.get?_push_size _ B.free)) fun b o x => Heap.get?_push_of_some _ (Heap.get?_push_of_some _ x)⟩
end PySem
namespace CC
open PySem PySem.Spec PyProof.Rows L2
def IteT (K : PySem.W.Frag) (a : Addr) : It :=
  ⟨fun i H => ∃ (xs : List V) (x : V), SqT K H a xs ∧ xs[i]? = some x, fun i H v H' => ∃ T x, v = .ref T ∧ H T = none ∧ H' = upd H T (.tup [.int (i : Nat), x]) ∧ ∀ xs, SqT K H a xs → xs[i]? = some x, fun i H => ∃ xs : List V, SqT K H a xs ∧ xs.length ≤ i⟩
theorem tup_ne {h : Heap} {a b : Addr} {its : Array Value} {o : Obj} {T : String} (ht : h.IsTuple a its) (ho : h.get? b = some o) (hc : o.cls = .type T) (hT : T ≠ "tuple") : a ≠ b := fun z => by
  subst z
  obtain ⟨o', h1, h2, _⟩ := ht
  rw [h1] at ho
  cases ho
  rw [h2] at hc
  cases hc
  exact hT rfl
theorem turn_enumT {P : Program} {w : World} {K : PySem.W.Frag} {elts : List Expr} {kk : Nat} {tpos : Pos} (a e it : Addr) :
    Turn P w K (.Tuple elts kk tpos) (IteT K a) [e, it] e (fun i h => (∃ old, IsEnum h e it ((i : Nat) : Int) old) ∧ h.IsTupleIter it a i ∧ e ≠ it) where
  mem := by simp
  obj := fun i h st b hb => by
    obtain ⟨⟨old, he⟩, ⟨o, ho, hc, hd⟩, _⟩ := st
    have e' : b = e ∨ b = it := by simpa using hb
    rcases e' with z | z
    · rw [z]; exact ⟨_, he, fun v q => nomatch q⟩
    · rw [z]; exact ⟨o, ho, fun v q => by rw [hd] at q; cases q⟩
  keep := fun i h h' st k => let ⟨⟨old, he⟩, hi, hne⟩ := st; ⟨⟨old, k e (by simp) _ he⟩, hi.at fun o q => k it (by simp) o q, hne⟩
  item := by
    intro X hP hw hK hc i pins s σ H E I hf st hg
    subst hP hw hK
    obtain ⟨⟨old, he⟩, hit, hne⟩ := st
    obtain ⟨xs, x, hq, hx⟩ := hg
    obtain ⟨its, rv, p, hz⟩ := I.tuple hq
    obtain ⟨u, hu, ru⟩ := rv.get hx
    have hlt : i < its.toArray.size := by
      rw [List.size_toArray]
      exact (List.getElem?_eq_some_iff.mp hu).1
    have hit' := hit
    obtain ⟨o, ho, hoc, _⟩ := hit'
    have nai : a ≠ it := tup_ne p ho hoc (by decide)
    have nae : a ≠ e := tup_ne p he rfl (by decide)
    have hel : e < s.heap.objs.size := Heap.lt_size he
    have hil : it < s.heap.objs.size := Heap.lt_size ho
    have D : Draws X.prog X.w X.A.in1 it [it, a] its.toArray.size (fun i v => its.toArray[i]? = some v) (fun i h => h.IsTupleIter it a i ∧ h.IsTuple a its.toArray) := Draws.tuple (show X.A.in1.handled = none from I.ok.hd hc) it a nai its.toArray
    refine wpAny_pyNext_enum_itemD D he ⟨hit, p⟩ hlt hne (by simp; exact ⟨hne, nae.symm⟩) fun x' h' tk hP ho' hst hT hsz hk => ?_
    have ex : x' = u := by
      have e1 : its[i]? = some x' := by simpa using hP
      rw [hu] at e1
      exact (Option.some.inj e1).symm
    subst ex
    refine ⟨_, rfl, wpAny_letOwnedTupleGo_enum (s := { s with heap := h', toks := tk + 1 }) ho' fun h'' he' sb => ?_⟩
    have hT2 : h''.get? s.heap.objs.size = some { cls := .type "tuple", data := .seq #[.int i tk, x'] } := (sb.2 _ (Nat.ne_of_gt hel)).trans hT
    have new : ObjOk X.prog X.w (upd H s.heap.objs.size (.tup [.int (i : Nat), x])) h'' s.heap.objs.size (.tup [.int (i : Nat), x]) :=
      ⟨by show 2 ≤ sizeLine; decide, [.int i tk, x'], .cons ⟨_, rfl⟩ (.cons ru .nil), ⟨_, hT2, rfl, _, rfl⟩⟩
    have I1 : Inv X pins σ (upd H s.heap.objs.size (.tup [.int (i : Nat), x])) { s with heap := h'', toks := tk + 1 } :=
      I.turnedNew (ch := [e, it]) (fun b ob hb q => (sb.2 b (fun z => hb (by simp [z]))).trans (hk b ob (fun z => hb (by simp [z])) (fun z => hb (by simp [z])) q)) hf (Nat.le_refl _) new
    refine ⟨.ref s.heap.objs.size, _, I1, rfl, ⟨_, x, rfl, I.hok.fresh (Nat.le_refl _), rfl, fun ys hy => ?_⟩, ⟨⟨x', ?_⟩, hst.1.at fun o q => (sb.2 it (Ne.symm hne)).trans q, hne⟩, fun b hb => ?_⟩
    · rw [I.tuple_inj hy hq]; exact hx
    · have e1 : ((i + 1 : Nat) : Int) = (i : Int) + 1 := by omega
      rw [e1]; exact he'
    · have hb' : b < s.heap.objs.size := by
        have e' : b = e ∨ b = it := by simpa using hb
        rcases e' with z | z
        · rw [z]; exact hel
        · rw [z]; exact hil
      rw [upd_ne (Nat.ne_of_lt hb')]
      exact (hf b hb).1
  done := by
    intro X hP hw hK hc i pins s σ H E I hf st hg
    subst hP hw hK
    obtain ⟨⟨old, he⟩, hit, hne⟩ := st
    obtain ⟨xs, hq, hx⟩ := hg
    obtain ⟨its, rv, p, hz⟩ := I.tuple hq
    obtain ⟨f0, f1, f2, f3, f4, f5⟩ := hf it (by simp)
    have hl := rv.length
    have D : Draws X.prog X.w X.A.in1 it [it, a] i (fun _ _ => True) (fun j h => j = i ∧ h.IsTupleIter it a i ∧ h.IsTuple a its.toArray) := {
      live := fun _ _ st => let ⟨o, ho, _⟩ := st.2.1; ⟨o, ho⟩
      frame := fun _ _ _ st hk => ⟨st.1, st.2.1.at fun o e => hk it (by simp) o e, st.2.2.at fun o e => hk a (by simp) o e⟩
      item := fun j s Q E hj st hQ => absurd st.1 (Nat.ne_of_lt hj)
      done := fun s Q E st hE => wpAny_nextOf_tuple_end (show X.A.in1.handled = none from I.ok.hd hc) st.2.1 st.2.2 (by simp; omega) hE }
    exact wpAny_pyNext_enum_endD D he ⟨rfl, hit, p⟩ fun h' eb => ⟨rfl, I.turned (t' := s.toks) (fun b o hb q => eb b o hb q) f0 f1 f3 f4 f5⟩
  self := fun A i s Q E st h => let ⟨⟨_, he⟩, _⟩ := st; wpAny_pyIter_enum he h
def iEnumT (K : PySem.W.Frag) (ta : TA) : TI := fun σ H R => ta σ H fun vs H1 => ∃ a xs, vs = [.ref a] ∧ SqT K H1 a xs ∧ R (IteT K a) H1
theorem pi_enumT {X : Cx} {e : Expr} {ta : TA} {p pos tpos : Pos} {elts : List Expr} {kk : Nat} (hg : Gl X "enumerate") (hm : X.mg "enumerate" = none) (ha : PA X [e] ta) (hs : starEach [e] X.env = [(false, eval e X.env)] := by rfl) :
    PI X (.Tuple elts kk tpos) (.Call (.Name "enumerate" p) [e] [] pos) (iEnumT X.K ta) := by
  refine ⟨fun pins s σ H R I h => ?_⟩
  refine Call_ (ld_blt I hg hm boot_enumerate (PyProof.Rows.callWith_type1 (thn (ha.run pos pins s σ H _ I h) fun us s1 hh => ?_) hs rfl))
  obtain ⟨vs, H1, I1, r1, a, xs, rfl, hq, q⟩ := hh
  cases r1 with
  | cons r rr =>
    cases rr
    cases r
    obtain ⟨its, rv, p', hz⟩ := I1.tuple hq
    refine call_enum_begins (begins_tuple a its.toArray) p' fun h' he hit hk => wpAny_pyIter_enum he ?_
    have I2 : Inv X pins σ H1 { s1 with heap := h' } := I1.kept (t' := s1.toks) hk
    refine ⟨s1.heap.objs.size + 1, [s1.heap.objs.size + 1, s1.heap.objs.size], _, _, H1, rfl, I2, turn_enumT a (s1.heap.objs.size + 1) s1.heap.objs.size, ⟨⟨.none, he⟩, ⟨_, hit, rfl, rfl⟩, Nat.succ_ne_self _⟩, fun b hb => ?_, q⟩
    have e' : b = s1.heap.objs.size + 1 ∨ b = s1.heap.objs.size := by simpa using hb
    have hle : s1.heap.objs.size ≤ b := by
      rcases e' with z | z
      · rw [z]; exact Nat.le_add_right _ _
      · rw [z]; exact Nat.le_refl _
    exact I1.fpOk hle (I1.hok.fresh hle)
section
variable {c : Cn} {ρ : List Sl} {Q : List Dt → Prop}
theorem ij_enumT {ta : TA} (h : EVA c ta ρ fun ds => ∃ es, ds = [.tup es] ∧ Q (enumD es)) : IJ c (iEnumT c.K ta) ρ Q := fun hd H σ v R q => h hd H σ v _ fun ds vs H1 h1 e1 b1 r1 => by
  obtain ⟨es, rfl, hq⟩ := h1
  cases r1 with
  | cons ra rb =>
    cases rb
    cases ra with
    | tup ha r =>
      rename_i a xs
      have hl := r.length
      have hn : (enumD es).length = es.length := by unfold enumD; rw [List.length_mapIdx]
      refine ⟨a, xs, rfl, sqt_hm ha, q _ (IteT c.K a) H1 hq e1 b1 ⟨fun i H s hi => ?_, fun i H x H' d s hi y => ?_, fun i H s hi => ?_⟩⟩
      · exact ⟨xs, xs[i]'(by omega), sees_t s.sees ha, List.getElem?_eq_getElem (by omega)⟩
      · obtain ⟨T, x', rfl, hT, rfl, y⟩ := y
        have hx := y xs (sees_t s.sees ha)
        obtain ⟨d', hd', rd⟩ := r.getV hx
        have e : d = .tup [.int (i : Nat), d'] := by
          unfold enumD at hi
          rw [List.getElem?_mapIdx, hd'] at hi
          exact (Option.some.inj hi).symm
        subst e
        exact ⟨.new hT, fun hd2 dom sb => rp_new2 hT dom (.int _) (rd.mono sb.sees)⟩
      · exact ⟨xs, sees_t s.sees ha, by omega⟩
end
end CC

/-! # The head's look, with the table of the interpreter's statics beside -/
namespace CC
open PySem PySem.Spec PyProof.Rows L2
def lookK (n : Nat) (g : Addr → Option Obj) : PySem.W.Frag := He.frT g (He5.asA g n)
def obY (n : Nat) (fa : List He.Fa) (fn : List He.DefD) (tf : List He.Defn) (ex : PySem.W.Frag → Bool) (g : Addr → Option Obj) : He.AlX := (He.obsT fa fn [] (lookK n g), ex (lookK n g) && He.tabsB g tf (lookK n g))
theorem obY_says {n : Nat} {fa : List He.Fa} {fn : List He.DefD} {tf : List He.Defn} {ex : PySem.W.Frag → Bool} {w : World} {h : Heap} (e : obY n fa fn tf ex h.get? = He.valX fn [] w) : He.SaysX fa fn [] tf ex w h (lookK n h.get?) := by
  obtain ⟨x1, x2⟩ := He.ba (show (ex (lookK n h.get?) && He.tabsB h.get? tf (lookK n h.get?)) = true from congrArg Prod.snd e)
  have key := fun p hp => He.ba (List.all_eq_true.mp x2 p hp)
  have tab : ∀ p ∈ tf, ∃ o, h.get? (He.cT (lookK n h.get?) p).2 = some o ∧ He.emptyTab o = true := fun p hp => by
    have z := (key p hp).2
    cases q : h.get? (He.cT (lookK n h.get?) p).2 with
    | none => rw [q] at z; cases z
    | some o => rw [q] at z; exact ⟨o, rfl, z⟩
  refine ⟨congrArg Prod.fst e, x1, fun p hp => (key p hp).1, fun p hp => ?_, fun p hp => ?_⟩
  · obtain ⟨o, q, z⟩ := tab p hp
    exact He.frT_none q z
  · obtain ⟨o, q, z⟩ := tab p hp
    rw [q, He.emptyTab_eq z]
def hookY (n : Nat) (fa : List He.Fa) (fn : List He.DefD) (tf : List He.Defn) (ex : PySem.W.Frag → Bool) : PySem.W.Hook where
  α := He.AlX
  obs := fun z => obY n fa fn tf ex z.heap.get?
  val := fun z => He.valX fn [] z
  says := fun z h => ∃ Y : PySem.W.Frag, Y.In h ∧ He.SaysX fa fn [] tf ex z h Y
  of := fun _ _ z => ⟨_, He.frT_in, obY_says z⟩
  keeps := fun _ _ _ y k => by
    obtain ⟨Y, hY, c⟩ := y
    exact ⟨Y, hY.keeps k, c.t, c.more, c.hd, c.out, fun p hp => k _ _ (c.empty p hp)⟩
theorem obY_eq {n : Nat} {fa : List He.Fa} {fn : List He.DefD} {tf : List He.Defn} {ex : PySem.W.Frag → Bool} {g : Addr → Option Obj} {z : Shared} (h : ∀ a, g a = z.heap.get? a) : obY n fa fn tf ex g = (hookY n fa fn tf ex).obs z := by
  cases (funext h : g = z.heap.get?)
  rfl
end CC

/-! # Packed numbers: every place, and what a cell is worth at most -/
namespace CC
theorem chunks_ix {n : Nat} (hn : 0 < n) {l : List Int} {j : Nat} (h : j < (chunks n l).length) : (chunks n l)[j]? = some ((l.drop (n * j)).take n) := by
  have hl := chunks_len hn _ l (Nat.le_refl _)
  rw [hl] at h
  have h2 : n * j < l.length := by
    have h3 := (Nat.le_div_iff_mul_le hn).mp (Nat.succ_le_of_lt h)
    have h4 : (j + 1) * n = n * j + n := by rw [Nat.add_mul, Nat.one_mul, Nat.mul_comm]
    have h5 : (j + 1) * n ≤ l.length + n - 1 := h3
    omega
  have e := chunks_at hn _ l (n * j) (Nat.le_refl _) h2
  rw [Nat.mul_div_cancel_left j hn] at e
  exact e
theorem unp_all {b : Int} (hb : 2 ≤ b) {vs : List Int} (h : ∀ x ∈ vs, 0 ≤ x ∧ x < b) {k : Nat} (hk : k / perB b < (packI b vs).length) : unpI b (packI b vs) k = vs.getD k 0 := by
  have hn : 0 < perB b := perB_pos b
  unfold packI at hk
  rw [List.length_map] at hk
  unfold unpI packI
  rw [List.getD_eq_getElem?_getD, List.getElem?_map, chunks_ix hn hk]
  show dsum b _ / b ^ (k % perB b) % b = _
  rw [dsum_digit hb _ _ fun x hx => h x (List.mem_of_mem_drop (List.mem_of_mem_take hx))]
  have hm := Nat.mod_lt k hn
  have hdm := Nat.div_add_mod k (perB b)
  rw [List.getD_eq_getElem?_getD, List.getD_eq_getElem?_getD, List.getElem?_take, if_pos hm, List.getElem?_drop, hdm]
theorem dsum_lt {b : Int} (hb : 2 ≤ b) : ∀ l : List Int, (∀ x ∈ l, 0 ≤ x ∧ x < b) → 0 ≤ dsum b l ∧ dsum b l < b ^ l.length
  | [], _ => by
    show (0 : Int) ≤ 0 ∧ (0 : Int) < b ^ 0
    rw [Int.pow_zero]; omega
  | x :: r, h => by
    obtain ⟨h1, h2⟩ := h x List.mem_cons_self
    obtain ⟨i1, i2⟩ := dsum_lt hb r fun y hy => h y (List.mem_cons_of_mem _ hy)
    show 0 ≤ x + b * dsum b r ∧ x + b * dsum b r < b ^ (r.length + 1)
    have e1 : 0 ≤ b * dsum b r := Int.mul_nonneg (by omega) i1
    have e2 : b * (dsum b r + 1) ≤ b * b ^ r.length := Int.mul_le_mul_of_nonneg_left (by omega) (by omega)
    rw [Int.pow_succ, Int.mul_comm (b ^ r.length)]
    rw [Int.mul_add, Int.mul_one] at e2
    omega
theorem pow_per {b : Int} (hb : 2 ≤ b) (hb2 : b ≤ 10000) : b ^ perB b ≤ 10000 := by
  have hn : 0 < perB b := perB_pos b
  have h := (powB_le hb 14 1 (by omega) (by omega) _ (List.mem_of_getElem? (pows_at (b := b) (k := perB b - 1) (by omega)))).2
  rw [← Int.pow_succ, show (perB b - 1).succ = perB b by omega] at h
  exact h
theorem pack_lt {b : Int} (hb : 2 ≤ b) (hb2 : b ≤ 10000) {vs : List Int} (h : ∀ x ∈ vs, 0 ≤ x ∧ x < b) : ∀ c ∈ packI b vs, 0 ≤ c ∧ c < 10000 := fun c hc => by
  have hn : 0 < perB b := perB_pos b
  unfold packI at hc
  obtain ⟨ch, hch, rfl⟩ := List.mem_map.mp hc
  obtain ⟨j, hj⟩ := List.getElem?_of_mem hch
  have hlt := (List.getElem?_eq_some_iff.mp hj).1
  rw [chunks_ix hn hlt] at hj
  cases hj
  obtain ⟨h1, h2⟩ := dsum_lt hb ((vs.drop (perB b * j)).take (perB b)) fun x hx => h x (List.mem_of_mem_drop (List.mem_of_mem_take hx))
  refine ⟨h1, Int.lt_of_lt_of_le h2 (Int.le_trans ?_ (pow_per hb hb2))⟩
  have hle : ((vs.drop (perB b * j)).take (perB b)).length ≤ perB b := by rw [List.length_take]; omega
  generalize ((vs.drop (perB b * j)).take (perB b)).length = m at hle
  generalize perB b = n at hle
  obtain ⟨d, rfl⟩ := Nat.le.dest hle
  rw [Int.pow_add]
  have p1 : (1 : Int) ≤ b ^ d := by
    have : (0 : Int) < b ^ d := Int.pow_pos (by omega)
    omega
  have p0 : (0 : Int) ≤ b ^ m := Int.le_of_lt (Int.pow_pos (by omega))
  have := Int.mul_le_mul_of_nonneg_left p1 p0
  omega
/-- the padded list -/
theorem pack_full {b : Int} {vs : List Int} : vs.length ≤ (packI b vs).length * perB b := by
  have hn : 0 < perB b := perB_pos b
  rw [packI_len]
  have h1 := Nat.div_add_mod (vs.length + perB b - 1) (perB b)
  have h2 := Nat.mod_lt (vs.length + perB b - 1) hn
  rw [Nat.mul_comm] at h1
  omega
open PySem PySem.Spec PyProof.Rows L2
/-! ### slices of tuples -/
theorem cutD_whole {ds : List Dt} {lo hi : Option Int} (h : HT.sIx ds.length 0 lo = 0 ∧ HT.sIx ds.length ds.length hi = ds.length) : cutD ds lo hi = ds := by
  unfold cutD
  rw [h.1, h.2, List.drop_zero, Nat.sub_zero, List.take_length]
theorem ev_slT {c : Cn} {ρ : List Sl} {te : TE} {tl th : TO} {Q : Dt → Prop} (h : EV c te ρ (TupJ fun ds => EVO c tl ρ fun lo => EVO c th ρ fun hi => Q (.tup (cutD ds lo hi)))) : EV c (tSl (rSlA c.K) te tl th) ρ Q := fun hd H σ v Qh q => h hd H σ v _ fun d x H1 h1 e1 b1 r1 => by
  cases d with
  | tup ds =>
    refine h1 hd H1 σ (v.go e1 b1) _ fun lo H2 h2 e2 b2 => h2 hd H2 σ ((v.go e1 b1).go e2 b2) _ fun hi H3 h3 e3 b3 => ?_
    have e13 := (e1.trans e2).trans e3
    cases (r1.mono ((e2.trans e3).sees v.muh)) with
    | tup ha ra =>
      refine ⟨_, _, rfl, sqt_hm ha, fun hw => ?_, fun hw o ho => ?_⟩
      · rw [ra.length] at hw
        have h3' : Q (.tup (cutD ds lo hi)) := h3
        rw [cutD_whole hw] at h3'
        exact q _ _ H3 h3' e13 b3 (.tup ha ra)
      · refine q _ (.ref o) _ h3 (e13.trans (.new ho)) (c.keep0 (.new ho) b3) (.tup (.inl (.inl ?_)) ((cut_rp ra lo hi).mono ((Ex.new ho (mu := none0)).sees (fun _ h => nomatch h))))
        rw [hm_of (fresh_hd (fun a h => e13.dom a (v.dom a h)) ho), upd_same]
  | _ => exact h1.elim
end CC

namespace CC
open PySem PySem.Spec PyProof.Rows L2
open C8 (Cal pe_c pe_gc)
def topS (i : Nat) : Stmt := PySem.Challenge.pw_codecolumns_k01_packed_numbers.main.body.getD i (.Pass ⟨0, 0, 0, 0⟩)
abbrev s_need_base : Stmt := topS 18
theorem sc_need_base : FnScope ["base"] ["base"] (defScope s_need_base) := ⟨rfl, rfl, rfl, by decide +kernel, rfl, by decide +kernel, by decide +kernel⟩
abbrev s_powers_of : Stmt := topS 19
theorem sc_powers_of : FnScope ["base", "found"] ["base"] (defScope s_powers_of) := ⟨rfl, rfl, rfl, by decide +kernel, rfl, by decide +kernel, by decide +kernel⟩
abbrev s_per_cell : Stmt := topS 20
theorem sc_per_cell : FnScope ["base"] ["base"] (defScope s_per_cell) := ⟨rfl, rfl, rfl, by decide +kernel, rfl, by decide +kernel, by decide +kernel⟩
abbrev s_packed_by : Stmt := topS 21
theorem sc_packed_by : FnScope ["base", "values", "powers", "found", "place", "value"] ["base", "values"] (defScope s_packed_by) := ⟨rfl, rfl, rfl, by decide +kernel, rfl, by decide +kernel, by decide +kernel⟩
abbrev s_packed : Stmt := topS 22
theorem sc_packed : FnScope ["base", "values", "place", "value"] ["base", "values"] (defScope s_packed) := ⟨rfl, rfl, rfl, by decide +kernel, rfl, by decide +kernel, by decide +kernel⟩
abbrev s_value_in : Stmt := topS 23
theorem sc_value_in : FnScope ["base", "cells", "place", "powers"] ["base", "cells", "place"] (defScope s_value_in) := ⟨rfl, rfl, rfl, by decide +kernel, rfl, by decide +kernel, by decide +kernel⟩
abbrev s_read_packed : Stmt := topS 24
theorem sc_read_packed : FnScope ["base", "cells", "place", "at", "cell"] ["base", "cells", "place"] (defScope s_read_packed) := ⟨rfl, rfl, rfl, by decide +kernel, rfl, by decide +kernel, by decide +kernel⟩
abbrev s__law_begun : Stmt := topS 26
theorem sc__law_begun : FnScope ["_law_script", "_law_stirred", "_law_cell"] ["_law_script"] (defScope s__law_begun) := ⟨rfl, rfl, rfl, by decide +kernel, rfl, by decide +kernel, by decide +kernel⟩
abbrev s__law_take : Stmt := topS 27
theorem sc__law_take : FnScope ["_law_box", "_law_many", "_law_number"] ["_law_box", "_law_many"] (defScope s__law_take) := ⟨rfl, rfl, rfl, by decide +kernel, rfl, by decide +kernel, by decide +kernel⟩
abbrev s__law_alike : Stmt := topS 28
theorem sc__law_alike : FnScope ["_law_found", "_law_due", "_law_k"] ["_law_found", "_law_due"] (defScope s__law_alike) := ⟨rfl, rfl, rfl, by decide +kernel, rfl, by decide +kernel, by decide +kernel⟩
abbrev s__law_class : Stmt := topS 29
theorem sc__law_class : FnScope ["_law_e", "_law_kinds", "_law_words"] ["_law_e"] (defScope s__law_class) := ⟨rfl, rfl, rfl, by decide +kernel, rfl, by decide +kernel, by decide +kernel⟩
abbrev s__law_told : Stmt := topS 30
theorem sc__law_told : FnScope ["_law_work", "_law_e", "_law_word"] ["_law_work"] (defScope s__law_told) := ⟨rfl, rfl, rfl, by decide +kernel, rfl, by decide +kernel, by decide +kernel⟩
abbrev s__law_all : Stmt := topS 31
theorem sc__law_all : FnScope ["_law_works", "_law_due", "_law_work"] ["_law_works", "_law_due"] (defScope s__law_all) := ⟨rfl, rfl, rfl, by decide +kernel, rfl, by decide +kernel, by decide +kernel⟩
abbrev s__law_per : Stmt := topS 32
theorem sc__law_per : FnScope ["_law_base_here", "_law_many", "_law_worth"] ["_law_base_here"] (defScope s__law_per) := ⟨rfl, rfl, rfl, by decide +kernel, rfl, by decide +kernel, by decide +kernel⟩
abbrev s__law_packed : Stmt := topS 33
theorem sc__law_packed : FnScope ["_law_base_here", "_law_values", "_law_per_here", "_law_found", "_law_begin", "_law_cell", "_law_value"] ["_law_base_here", "_law_values"] (defScope s__law_packed) := ⟨rfl, rfl, rfl, by decide +kernel, rfl, by decide +kernel, by decide +kernel⟩
abbrev s__law_base : Stmt := topS 34
theorem sc__law_base : FnScope ["_law_box", "_law_some"] ["_law_box"] (defScope s__law_base) := ⟨rfl, rfl, rfl, by decide +kernel, rfl, by decide +kernel, by decide +kernel⟩
abbrev s_law : Stmt := topS 35
theorem sc_law : FnScope ["_law_script", "_law_box", "_law_turn", "_law_base_here", "_law_values", "_law_k", "_law_cells", "_law_handed", "_law_found", "_law_most", "_law_full", "_law_far", "_law_odd", "_law_works", "_law_at", "_law_bad", "_law_rows", "_law_place"] ["_law_script"] (defScope s_law) := ⟨rfl, rfl, rfl, by decide +kernel, rfl, by decide +kernel, by decide +kernel⟩
abbrev s_BadValues___init__ : Stmt := inClass (topS 3) 0
theorem iw_BadValues : InitW s_BadValues___init__ "BadValues.__init__" where
  sc := ⟨rfl, rfl, rfl, by decide +kernel, rfl, by decide +kernel, by decide +kernel⟩
  run := fun c => ⟨_, pss_cons (ps_expr (pe_ceinit (by rfl) c (pa_cons (pv 0) (pa_cons pe_str pa_nil)))) (pss_one (ps_ost (pv 0) (pv 1)))⟩
def clsN : List Str := ["BadNumber", "BadValues", "NoForm", "BadPrices", "BadKinds", "BadRows", "BadCondition", "BadColumn", "BadHeap", "TooMany", "BadBlock", "Stopped", "BadText"]
def rzN : List Str := ["BadNumber", "BadValues"]
structure Txt (K : PySem.W.Frag) (mg : Str → Option Value) : Prop where
  b_len : mg "len" = none
  b_list : mg "list" = none
  b_tuple : mg "tuple" = none
  b_int : mg "int" = none
  b_isinstance : mg "isinstance" = none
  b_range : mg "range" = none
  b_enumerate : mg "enumerate" = none
  b_str : mg "str" = none
  b_bool : mg "bool" = none
  b_ValueError : mg "ValueError" = none
  k_CELL : ∃ u, mg "CELL" = some u ∧ RelV (.int 10000) u
  k_LEAST_BASE : ∃ u, mg "LEAST_BASE" = some u ∧ RelV (.int 2) u
  x_BadNumber : ExC K mg "BadNumber" (He.ga K "BadNumber")
  m_BadNumber : PySem.W.exmOne K (.ref (He.ga K "BadNumber")) (.ref (He.ga K "BadNumber")) = some true
  g_ColumnError : mg "ColumnError" = some (.ref (He.ga K "ColumnError"))
  g_BadNumber : mg "BadNumber" = some (.ref (He.ga K "BadNumber"))
  g_BadValues : mg "BadValues" = some (.ref (He.ga K "BadValues"))
  g_NoForm : mg "NoForm" = some (.ref (He.ga K "NoForm"))
  g_BadPrices : mg "BadPrices" = some (.ref (He.ga K "BadPrices"))
  g_BadKinds : mg "BadKinds" = some (.ref (He.ga K "BadKinds"))
  g_BadRows : mg "BadRows" = some (.ref (He.ga K "BadRows"))
  g_BadCondition : mg "BadCondition" = some (.ref (He.ga K "BadCondition"))
  g_BadColumn : mg "BadColumn" = some (.ref (He.ga K "BadColumn"))
  g_BadHeap : mg "BadHeap" = some (.ref (He.ga K "BadHeap"))
  g_TooMany : mg "TooMany" = some (.ref (He.ga K "TooMany"))
  g_BadBlock : mg "BadBlock" = some (.ref (He.ga K "BadBlock"))
  g_Stopped : mg "Stopped" = some (.ref (He.ga K "Stopped"))
  g_BadText : mg "BadText" = some (.ref (He.ga K "BadText"))
  cls : ClsF K rzN clsN
  p_BadValues : PlC K mg "BadValues" (He.ga K "BadValues")
  f_need_base : FnAt K mg "need_base" s_need_base ["base"]
  f_powers_of : FnAt K mg "powers_of" s_powers_of ["base"]
  f_per_cell : FnAt K mg "per_cell" s_per_cell ["base"]
  f_packed_by : FnAt K mg "packed_by" s_packed_by ["base", "values"]
  f_packed : FnAt K mg "packed" s_packed ["base", "values"]
  f_value_in : FnAt K mg "value_in" s_value_in ["base", "cells", "place"]
  f_read_packed : FnAt K mg "read_packed" s_read_packed ["base", "cells", "place"]
  f__law_begun : FnAt K mg "_law_begun" s__law_begun ["_law_script"]
  f__law_take : FnAt K mg "_law_take" s__law_take ["_law_box", "_law_many"]
  f__law_alike : FnAt K mg "_law_alike" s__law_alike ["_law_found", "_law_due"]
  f__law_class : FnAt K mg "_law_class" s__law_class ["_law_e"]
  f__law_told : FnAt K mg "_law_told" s__law_told ["_law_work"]
  f__law_all : FnAt K mg "_law_all" s__law_all ["_law_works", "_law_due"]
  f__law_per : FnAt K mg "_law_per" s__law_per ["_law_base_here"]
  f__law_packed : FnAt K mg "_law_packed" s__law_packed ["_law_base_here", "_law_values"]
  f__law_base : FnAt K mg "_law_base" s__law_base ["_law_box"]
  f_law : FnAt K mg "law" s_law ["_law_script"]
theorem plno {K : PySem.W.Frag} {mg : Str → Option Value} (T : Txt K mg) (nm : Str) (h : nm ∈ rzN) (hp : placed nm = true) : PySem.W.findIn K (.ref (He.ga K nm)) "place" = some none := by
  simp only [rzN, List.mem_cons, List.not_mem_nil, or_false] at h
  rcases h with rfl | rfl
  · exact absurd hp (by decide)
  · exact T.p_BadValues.no
end CC

namespace CC
open PySem PySem.Spec PyProof.Rows L2
open C8 (Cal pe_c pe_gc)
local macro_rules | `(tactic| walk_at "ev0") => `(tactic| (first
  | with_reducible refine ev_ixA rfl ?_
  | with_reducible refine ev_op ?_
  | with_reducible refine ev_var rfl ?_
  | with_reducible refine ev_int ?_
  | with_reducible refine ev_str ?_
  | with_reducible refine ev_bl ?_
  | with_reducible refine ev_non ?_
  | with_reducible refine ev_neg ?_
  | with_reducible refine ev_call ?_
  | with_reducible refine ev_tup ?_
  | with_reducible refine ev_chain ?_
  | with_reducible refine ev_andV ?_
  | with_reducible refine ev_orV ?_
  | with_reducible refine ev_notV ?_
  | with_reducible refine ev_isi ?_
  | with_reducible refine lenSet_li ?_
  | with_reducible refine ev_cb ?_
  | with_reducible refine ea_nil ?_
  | with_reducible refine ea_cons ?_
  | with_reducible refine et_test ?_
  | with_reducible refine et_B ?_
  | with_reducible refine et_and ?_
  | with_reducible refine et_or ?_
  | with_reducible refine et_not ?_
  | with_reducible refine et_yes ?_
  | with_reducible refine eo_none ?_
  | with_reducible refine eo_some ?_
  | with_reducible refine add_i ?_
  | with_reducible refine sub_i ?_
  | with_reducible refine lt_i ?_
  | with_reducible refine le_i ?_
  | with_reducible refine gt_i ?_
  | with_reducible refine ge_i ?_
  | with_reducible refine eq_i ?_
  | with_reducible refine ne_i ?_
  | with_reducible refine eq_s ?_
  | with_reducible refine ne_s ?_
  | with_reducible refine lenOk (by (dsimp only [List.length_cons, List.length_nil]; decide)) ?_
  | with_reducible refine len_li ?_
  | with_reducible refine len_ti ?_
  | with_reducible refine len_l ?_
  | with_reducible refine len_t ?_
  | with_reducible refine tuple_l ?_
  | with_reducible refine tuple_t ?_
  | with_reducible refine is_n ?_
  | with_reducible refine isnot_n ?_
  | with_reducible refine min_li (by assumption) ?_
  | with_reducible refine max_li (by assumption) ?_
  | with_reducible refine ix_h (by assumption) ?_
  | with_reducible refine add_t (by (dsimp only [List.length_cons, List.length_nil]; decide)) ?_
  | with_reducible refine ix_t0 ?_
  | with_reducible refine ix_t1 ?_
  | with_reducible refine ix_t2 ?_
  | with_reducible refine ix_t3 ?_
  | with_reducible refine ix_t4 ?_
  | with_reducible refine ix_t5 ?_
  | with_reducible refine ix_l0 ?_
  | with_reducible refine ix_l1 ?_
  | with_reducible refine ix_l2 ?_
  | with_reducible refine ix_l3 ?_
  | with_reducible refine ix_l4 ?_
  | with_reducible refine ix_l5 ?_
  | with_reducible refine intJ ?_
  | with_reducible refine blJ ?_
  | with_reducible refine lstJ ?_
  | with_reducible refine tupJ ?_
  | with_reducible refine mul_iR (by omega) (by omega) ?_
  | with_reducible refine mul_iL (by omega) (by omega) ?_
  | with_reducible refine div_iP (by omega) (by omega) ?_
  | with_reducible refine mod_i (by omega) ?_
  | with_reducible refine etj ?_))
local macro_rules | `(tactic| walk_at "ev") => `(tactic| (first
  | walk_at "ev0"
  | with_reducible refine ev_if ?_))
local macro_rules | `(tactic| walk_at "go0") => `(tactic| (repeat walk_at "ev0"))
local macro_rules | `(tactic| walk_at "nm") => `(tactic| try dsimp only [wipeS, List.set_cons_zero, List.set_cons_succ])
local macro_rules | `(tactic| walk_at "go") => `(tactic| (repeat walk_at "ev"))
def S_powers_of (ds : List Dt) (Q : Dt → Prop) : Prop := ∃ b : Int, ds = [.int b] ∧ 2 ≤ b ∧ b ≤ 10000 ∧ Q (dL (pows b))
abbrev sp_powers_of (K : PySem.W.Frag) : Sp := spP K S_powers_of
theorem ok_powers_of {P : Program} {w : World} {K : PySem.W.Frag} {mg : Str → Option Value} {base : Heap} (T : Txt K mg)  : Cal P w K mg base 1 "powers_of" (sp_powers_of K) [] := by
  refine cal_pure T.f_powers_of sc_powers_of ?len fun f cdv A outer s H E hr => ⟨_, (pss_cons (ps_set (i := 1) sc_powers_of.nd rfl (Or.inl rfl) (pe_lst (pa_cons pe_int pa_nil)))
      (pss_cons (ps_while PassesOwn.never (pt_cmpR op_leU (pe_op op_mulU (pe_op op_mulU (pe_ix ix_seq (pv 1) (pe_un un_neg pe_int) (fun _ _ => rfl)) (pv 0)) (pv 0)) (pe_gc (by rfl) T.k_CELL) (nomark _)) (pss_one (ps_expr (pe_bm PySem.F.plainAttrs_list PySem.F.slot_list_append PySem.F.type_list_append mt_append (pv 1) (pa_cons (pe_op op_mulU (pe_ix ix_seq (pv 1) (pe_un un_neg pe_int) (fun _ _ => rfl)) (pv 0)) pa_nil)))))
      (pss_one (ps_ret (pv 1))))), ?body⟩
  case' body => try dsimp only [cxD, cxOf]
  case len => rintro ds Q ⟨b, rfl, _⟩; rfl
  case body =>
    rintro ds Q ⟨b, rfl, h2, h3, hq⟩ hid H0 D dom hD
    show NJ _ _ _ _ [.im (.int b), .un]
    refine (q_asgN (en_lst (ea_cons (ev_int (ea_nil ⟨by decide, ?_⟩)))))
    refine (q_while (fun m ρ' => ∃ xs x, ρ' = [.im (.int b), .ac (xs.map Dt.int ++ [.int x])] ∧ pows b = xs ++ powB b m x ∧ 2 ^ (14 - m) ≤ x ∧ x * b ≤ 10000 ∧ m ≤ 14 ∧ xs.length ≤ 14 - m) 14 ?_ ?_)
    · exact ⟨[], 1, rfl, rfl, by decide, by omega, by decide, by decide⟩
    · rintro m ρ' ⟨xs, x, rfl, e, hx, hxb, hm, hl⟩
      have hx1 : (1 : Int) ≤ x := Int.le_trans (Int.pow_pos (by decide)) hx
      have hx2 : x ≤ 10000 := by
        have : x * 1 ≤ x * b := Int.mul_le_mul_of_nonneg_left (by omega) (by omega)
        omega
      walk_at "go"
      refine ⟨.int x, atI_last _ _, ?_⟩
      walk_at "go"
      refine bl_two (fun hc => ?_) (fun hc => ?_)
      · refine nj_app rfl (by simp; omega) ?_
        walk_at "go"
        refine ⟨.int x, atI_last _ _, ?_⟩
        walk_at "go"
        cases m with
        | zero =>
          exfalso
          have : (2 : Int) ^ (14 - 0) = 16384 := by decide
          omega
        | succ m =>
          refine nj_nx ⟨m, by omega, xs ++ [x], x * b, by simp, ?_, ?_, hc, by omega, by simp; omega⟩
          · rw [e]
            show _ = _ ++ _
            rw [powB, if_pos hc, List.append_assoc]; rfl
          · have e1 : 14 - m = (14 - (m + 1)) + 1 := by omega
            rw [e1, Int.pow_succ]
            exact Int.mul_le_mul hx h2 (by decide) (by omega)
      · refine nj_retAc rfl (RJ.rn dom (hD.rt _ ?_))
        have : pows b = xs ++ [x] := by
          rw [e]
          cases m with
          | zero => rfl
          | succ m => rw [powB, if_neg hc]
        rw [this, dL, List.map_append] at hq
        exact hq
def S_cells_for (ds : List Dt) (Q : Dt → Prop) : Prop := ∃ b n : Int, ds = [.int b, .int n] ∧ 2 ≤ b ∧ b ≤ 10000 ∧ Q (.int ((n + perB b - 1) / perB b))
abbrev sp_cells_for (K : PySem.W.Frag) : Sp := spP K S_cells_for
theorem powB_len2 (b : Int) : ∀ n x, (powB b n x).length ≤ n + 1
  | 0, _ => Nat.le_refl _
  | n + 1, x => by
    unfold powB
    split
    · rw [List.length_cons]; have := powB_len2 b n (x * b); omega
    · show 1 ≤ _; omega
theorem perB_le (b : Int) : perB b ≤ 15 := powB_len2 b 14 1
def S_packed_by (ds : List Dt) (Q : Dt → Prop) : Prop := ∃ (b : Int) (vs : List Int), ds = [.int b, dL vs] ∧ 2 ≤ b ∧ b ≤ 10000 ∧ vs.length ≤ 1000 ∧ Q (dT (packI b vs))
abbrev sp_packed_by (K : PySem.W.Frag) : Sp := spP K S_packed_by
theorem ok_packed_by {P : Program} {w : World} {K : PySem.W.Frag} {mg : Str → Option Value} {base : Heap} (T : Txt K mg) (c_powers_of : Cal P w K mg base 1 "powers_of" (sp_powers_of K) []) : Cal P w K mg base 2 "packed_by" (sp_packed_by K) [] := by
  refine cal_pure T.f_packed_by sc_packed_by ?len fun f cdv A outer s H E hr => ⟨_, (pss_cons (ps_set (i := 2) sc_packed_by.nd rfl (Or.inl rfl) (pe_c c_powers_of hr (by decide) (by rfl) (pa_cons (pv 0) pa_nil)))
      (pss_cons (ps_set (i := 3) sc_packed_by.nd rfl (Or.inl rfl) (pe_lst pa_nil))
      (pss_cons (ps_for PassesOwn.never rfl (pi_enum (by rfl) T.b_enumerate (pa_cons (pv 1) pa_nil)) (pg_tup rfl (pgs_cons (pg_name (i := 4) sc_packed_by.nd rfl (Or.inl rfl)) (pgs_cons (pg_name (i := 5) sc_packed_by.nd rfl (Or.inl rfl)) pgs_nil))) (pss_cons (ps_if (pt_cmpR (op_eqU hr.units) (pe_op op_modU (pv 4) (pe_callB cl_len (by rfl) T.b_len PySem.boot_len (pa_cons (pv 2) pa_nil))) pe_int (nomark _)) (pss_one (ps_expr (pe_bm PySem.F.plainAttrs_list PySem.F.slot_list_append PySem.F.type_list_append mt_append (pv 3) (pa_cons pe_int pa_nil)))) pss_nil)
      (pss_one (ps_asg (pe_op op_addU (pe_ix ix_seq (pv 3) (pe_un un_neg pe_int) (fun _ _ => rfl)) (pe_op op_mulU (pv 5) (pe_ix ix_seq (pv 2) (pe_op op_modU (pv 4) (pe_callB cl_len (by rfl) T.b_len PySem.boot_len (pa_cons (pv 2) pa_nil))) (fun _ _ => rfl)))) (pg_sub (pv 3) (pe_un un_neg pe_int) set_list)))))
      (pss_one (ps_ret (pe_callTy cl_tuple (by rfl) T.b_tuple (by decide +kernel) (pa_cons (pv 3) pa_nil))))))), ?body⟩
  case' body => try dsimp only [cxD, cxOf]
  case len => rintro ds Q ⟨b, n, rfl, _⟩; rfl
  case body =>
    rintro ds Q ⟨b, vs, rfl, h2, h3, hl, hq⟩ hid H0 D dom hD
    show NJ _ _ _ _ [.im (.int b), .im (dL vs), .un, .un, .un, .un]
    have hp := perB_pos b
    have hp2 := perB_le b
    have hpl : (pows b).length = perB b := rfl
    refine q_asg ?_
    walk_at "go"
    refine sp_j ⟨b, rfl, h2, h3, ?_⟩
    refine (q_asgN (en_lst (ea_nil ⟨by decide, ?_⟩)))
    refine q_for (ij_enum ?_)
    walk_at "go"
    refine ⟨vs.map Dt.int, rfl, fun i ρ' => ρ' = [.im (.int b), .im (dL vs), .im (dL (pows b)), .ac ((packI b (vs.take i)).map Dt.int), .un, .un], ?_, ?_, ?_⟩
    · show _ = _
      rw [List.take_zero, packI, chunks_nil]; rfl
    · rintro H1 e1 i d ρ' hi rfl
      obtain ⟨x, hx, rfl⟩ := enum_at hi
      have hlt : i < vs.length := (List.getElem?_eq_some_iff.mp hx).1
      have ht : vs.take (i + 1) = vs.take i ++ [x] := by rw [List.take_add_one, hx]; rfl
      have hli : (vs.take i).length = i := by rw [List.length_take]; omega
      have hmod := Nat.mod_lt i (show perB b > 0 by omega)
      have hpk := pows_at hmod
      obtain ⟨p1, p2⟩ := pow_le h2 h3 hmod
      have hs := chunks_snoc hp x _ (vs.take i) (Nat.le_refl _)
      rw [hli] at hs
      refine tg_tup rfl (tgs_name (tgs_name (tgs_nil ?_)))
      walk_at "nm"
      refine q_when ?_
      walk_at "go"
      rw [hpl]
      walk_at "go"
      by_cases hm : i % perB b = 0
      · refine bl_yes (decide_eq_true (by rw [← Int.natCast_emod, hm]; rfl)) ?_
        refine nj_app rfl ?_ ?_
        · rw [List.length_map, packI_len, hli]
          have := Nat.div_le_self (i + perB b - 1) (perB b)
          omega
        walk_at "go"
        walk_at "nm"
        refine nj_setL rfl ?_
        walk_at "go"
        refine ⟨.int 0, atI_last _ _, ?_⟩
        walk_at "go"
        rw [hpl]
        walk_at "go"
        rw [← Int.natCast_emod]
        refine ix_li (x := b ^ (i % perB b)) (Int.natCast_nonneg _) (by rw [Int.toNat_natCast]; exact hpk) ?_
        walk_at "go"
        refine ⟨_, ixN_last _ _, ?_⟩
        rw [set_last]
        walk_at "nm"
        refine nj_nxw _ rfl ?_
        rw [ht, packI, hs.1 hm, hm, Int.pow_zero, List.map_append, List.map_append]
        have e : dsum b [x] = 0 + x * 1 := by
          show x + b * 0 = _
          omega
        show Le [_, _, _, .ac (_ ++ [.int (dsum b [x])]), _, _] _
        rw [e]
        exact .same (.same (.same (.same (.un (.un .nil)))))
      · refine bl_no (decide_eq_false (by rw [← Int.natCast_emod]; omega)) ?_
        obtain ⟨cs, ch, g1, g2, g3⟩ := hs.2 hm
        have g4 : (packI b (vs.take i)).map Dt.int = (cs.map (dsum b)).map Dt.int ++ [.int (dsum b ch)] := by
          rw [packI, g1, List.map_append, List.map_append]; rfl
        rw [g4]
        refine nj_setL rfl ?_
        walk_at "go"
        refine ⟨.int (dsum b ch), atI_last _ _, ?_⟩
        walk_at "go"
        rw [hpl]
        walk_at "go"
        rw [← Int.natCast_emod]
        refine ix_li (x := b ^ (i % perB b)) (Int.natCast_nonneg _) (by rw [Int.toNat_natCast]; exact hpk) ?_
        walk_at "go"
        refine ⟨_, ixN_last _ _, ?_⟩
        rw [set_last]
        walk_at "nm"
        refine nj_nxw _ rfl ?_
        rw [ht, packI, g3, List.map_append, List.map_append]
        show Le [_, _, _, .ac (_ ++ [.int (dsum b (ch ++ [x]))]), _, _] _
        rw [dsum_snoc, g2]
        exact .same (.same (.same (.same (.un (.un .nil)))))
    · rintro ρ' rfl
      refine nj_share (i := 3) rfl ?_
      walk_at "nm"
      refine nj_ret ?_
      walk_at "go"
      rw [enum_len, List.length_map, List.take_length]
      exact hD.rt _ hq
def S_value_in (ds : List Dt) (Q : Dt → Prop) : Prop := ∃ (b : Int) (cs : List Int) (k : Nat), ds = [.int b, dT cs, .int (k : Nat)] ∧ 2 ≤ b ∧ b ≤ 10000 ∧ k / perB b < cs.length ∧ Q (.int (unpI b cs k))
abbrev sp_value_in (K : PySem.W.Frag) : Sp := spP K S_value_in
theorem getD_at {cs : List Int} {k : Nat} (h : k < cs.length) : cs[k]? = some (cs.getD k 0) := by
  rw [List.getD_eq_getElem?_getD, List.getElem?_eq_getElem h]; rfl
theorem ok_value_in {P : Program} {w : World} {K : PySem.W.Frag} {mg : Str → Option Value} {base : Heap} (T : Txt K mg) (c_powers_of : Cal P w K mg base 1 "powers_of" (sp_powers_of K) []) : Cal P w K mg base 2 "value_in" (sp_value_in K) [] := by
  refine cal_pure T.f_value_in sc_value_in ?len fun f cdv A outer s H E hr => ⟨_, (pss_cons (ps_set (i := 3) sc_value_in.nd rfl (Or.inl rfl) (pe_c c_powers_of hr (by decide) (by rfl) (pa_cons (pv 0) pa_nil)))
      (pss_one (ps_ret (pe_op op_modU (pe_op op_divU (pe_ix ix_seq (pv 1) (pe_op op_divU (pv 2) (pe_callB cl_len (by rfl) T.b_len PySem.boot_len (pa_cons (pv 3) pa_nil))) (fun _ _ => rfl)) (pe_ix ix_seq (pv 3) (pe_op op_modU (pv 2) (pe_callB cl_len (by rfl) T.b_len PySem.boot_len (pa_cons (pv 3) pa_nil))) (fun _ _ => rfl))) (pv 0))))), ?body⟩
  case' body => try dsimp only [cxD, cxOf]
  case len => rintro ds Q ⟨b, n, k, rfl, _⟩; rfl
  case body =>
    rintro ds Q ⟨b, cs, k, rfl, h2, h3, hk, hq⟩ hid H0 D dom hD
    show NJ _ _ _ _ [.im (.int b), .im (dT cs), .im (.int (k : Nat)), .un]
    have hp := perB_pos b
    have hp2 := perB_le b
    have hpl : (pows b).length = perB b := rfl
    have hmod := Nat.mod_lt k (show perB b > 0 by omega)
    obtain ⟨p1, p2⟩ := pow_le h2 h3 hmod
    refine q_asg ?_
    walk_at "go"
    refine sp_j ⟨b, rfl, h2, h3, ?_⟩
    refine nj_ret ?_
    walk_at "go"
    rw [hpl]
    walk_at "go"
    rw [← Int.natCast_ediv]
    refine ix_ti (x := cs.getD (k / perB b) 0) (Int.natCast_nonneg _) (by rw [Int.toNat_natCast]; exact getD_at hk) ?_
    walk_at "go"
    rw [hpl]
    walk_at "go"
    rw [← Int.natCast_emod]
    refine ix_li (x := b ^ (k % perB b)) (Int.natCast_nonneg _) (by rw [Int.toNat_natCast]; exact pows_at hmod) ?_
    walk_at "go"
    exact hD.rt _ hq
def S_unpacked (ds : List Dt) (Q : Dt → Prop) : Prop := ∃ (b : Int) (cs : List Int) (m : Nat), ds = [.int b, dT cs, .int (m : Nat)] ∧ 2 ≤ b ∧ b ≤ 10000 ∧ m ≤ 1000 ∧ (∀ k, k < m → k / perB b < cs.length) ∧ Q (dL ((List.range m).map (unpI b cs)))
abbrev sp_unpacked (K : PySem.W.Frag) : Sp := spP K S_unpacked
end CC

namespace CC
open PySem PySem.Spec PyProof.Rows L2
open C8 (Cal pe_c pe_gc)
local macro_rules | `(tactic| walk_at "ev0") => `(tactic| (first
  | with_reducible refine ev_ixA rfl ?_
  | with_reducible refine ev_op ?_
  | with_reducible refine ev_var rfl ?_
  | with_reducible refine ev_int ?_
  | with_reducible refine ev_str ?_
  | with_reducible refine ev_bl ?_
  | with_reducible refine ev_non ?_
  | with_reducible refine ev_neg ?_
  | with_reducible refine ev_call ?_
  | with_reducible refine ev_tup ?_
  | with_reducible refine ev_chain ?_
  | with_reducible refine ev_andV ?_
  | with_reducible refine ev_orV ?_
  | with_reducible refine ev_notV ?_
  | with_reducible refine ev_isi ?_
  | with_reducible refine lenSet_li ?_
  | with_reducible refine ev_cb ?_
  | with_reducible refine ea_nil ?_
  | with_reducible refine ea_cons ?_
  | with_reducible refine et_test ?_
  | with_reducible refine et_B ?_
  | with_reducible refine et_and ?_
  | with_reducible refine et_or ?_
  | with_reducible refine et_not ?_
  | with_reducible refine et_yes ?_
  | with_reducible refine eo_none ?_
  | with_reducible refine eo_some ?_
  | with_reducible refine add_i ?_
  | with_reducible refine sub_i ?_
  | with_reducible refine lt_i ?_
  | with_reducible refine le_i ?_
  | with_reducible refine gt_i ?_
  | with_reducible refine ge_i ?_
  | with_reducible refine eq_i ?_
  | with_reducible refine ne_i ?_
  | with_reducible refine eq_s ?_
  | with_reducible refine ne_s ?_
  | with_reducible refine lenOk (by (dsimp only [List.length_cons, List.length_nil]; decide)) ?_
  | with_reducible refine len_li ?_
  | with_reducible refine len_ti ?_
  | with_reducible refine len_l ?_
  | with_reducible refine len_t ?_
  | with_reducible refine tuple_l ?_
  | with_reducible refine tuple_t ?_
  | with_reducible refine is_n ?_
  | with_reducible refine isnot_n ?_
  | with_reducible refine min_li (by assumption) ?_
  | with_reducible refine max_li (by assumption) ?_
  | with_reducible refine ix_h (by assumption) ?_
  | with_reducible refine add_t (by (dsimp only [List.length_cons, List.length_nil]; decide)) ?_
  | with_reducible refine ix_t0 ?_
  | with_reducible refine ix_t1 ?_
  | with_reducible refine ix_t2 ?_
  | with_reducible refine ix_t3 ?_
  | with_reducible refine ix_t4 ?_
  | with_reducible refine ix_t5 ?_
  | with_reducible refine ix_l0 ?_
  | with_reducible refine ix_l1 ?_
  | with_reducible refine ix_l2 ?_
  | with_reducible refine ix_l3 ?_
  | with_reducible refine ix_l4 ?_
  | with_reducible refine ix_l5 ?_
  | with_reducible refine intJ ?_
  | with_reducible refine blJ ?_
  | with_reducible refine lstJ ?_
  | with_reducible refine tupJ ?_
  | with_reducible refine mul_iR (by omega) (by omega) ?_
  | with_reducible refine mul_iL (by omega) (by omega) ?_
  | with_reducible refine div_iP (by omega) (by omega) ?_
  | with_reducible refine mod_i (by omega) ?_
  | with_reducible refine etj ?_))
local macro_rules | `(tactic| walk_at "ev") => `(tactic| (first
  | walk_at "ev0"
  | with_reducible refine ev_if ?_))
local macro_rules | `(tactic| walk_at "go0") => `(tactic| (repeat walk_at "ev0"))
local macro_rules | `(tactic| walk_at "nm") => `(tactic| try dsimp only [wipeS, List.set_cons_zero, List.set_cons_succ])
local macro_rules | `(tactic| walk_at "go") => `(tactic| (repeat walk_at "ev"))
/-! packing's defs that refuse -/
def GoodB (b : Int) : Prop := 2 ≤ b ∧ b ≤ 10000
def S_need_base (ds : List Dt) (Q : Dt → Prop) (R : Str → Option Int → Prop) : Prop := ∃ b : Int, ds = [.int b] ∧ (GoodB b → Q .non) ∧ (¬ GoodB b → R "BadNumber" none)
abbrev sp_need_base (K : PySem.W.Frag) : Sp := spY K S_need_base
theorem ok_need_base {P : Program} {w : World} {K : PySem.W.Frag} {mg : Str → Option Value} {base : Heap} (T : Txt K mg)  : CalX P w K mg base 2 "need_base" (sp_need_base K) := by
  refine cal_y T.f_need_base sc_need_base ?len fun f cdv A outer s H E hr => ⟨_, (pss_one (ps_if (pt_not (pt_chain op_leU op_leU (pe_gc (by rfl) T.k_LEAST_BASE) (pv 0) (pe_gc (by rfl) T.k_CELL))) (pss_one (ps_raise rfl (takes_of rfl rfl rfl rfl) (pmk_own PySem.F.excBase_ValueError T.x_BadNumber.q T.x_BadNumber.g T.x_BadNumber.k (raises_own T.x_BadNumber.b T.x_BadNumber.t) (by rfl)))) pss_nil)), ?body⟩
  case' body => try dsimp only [cxX, cxOf]
  case len => rintro ds Q R ⟨b, rfl, _⟩; rfl
  case body =>
    rintro ds Q R ⟨b, rfl, hq, hx⟩ hid H0 D dom hD hE
    show NJ _ _ _ _ [.im (.int b)]
    have hz : RZ K E R H0 := hE
    refine nj_when ?_
    walk_at "go"
    by_cases h1 : 2 ≤ b
    · refine bl_yes (decide_eq_true h1) ?_
      walk_at "go"
      by_cases h2 : b ≤ 10000
      · refine bl_no (by rw [decide_eq_true h2]; rfl) ?_
        exact hD.nx (hq ⟨h1, h2⟩) _
      · refine bl_yes (by rw [decide_eq_false h2]; rfl) ?_
        exact nj_raiseN hz (hx fun g => h2 g.2)
    · refine bl_no (decide_eq_false h1) ?_
      refine bl_yes rfl ?_
      exact nj_raiseN hz (hx fun g => h1 g.1)
def S_per_cell (ds : List Dt) (Q : Dt → Prop) (R : Str → Option Int → Prop) : Prop := ∃ b : Int, ds = [.int b] ∧ (GoodB b → Q (.int (perB b : Nat))) ∧ (¬ GoodB b → R "BadNumber" none)
abbrev sp_per_cell (K : PySem.W.Frag) : Sp := spY K S_per_cell
theorem ok_per_cell {P : Program} {w : World} {K : PySem.W.Frag} {mg : Str → Option Value} {base : Heap} (T : Txt K mg) (c_need_base : CalX P w K mg base 2 "need_base" (sp_need_base K)) (c_powers_of : Cal P w K mg base 1 "powers_of" (sp_powers_of K) []) : CalX P w K mg base 3 "per_cell" (sp_per_cell K) := by
  refine cal_y T.f_per_cell sc_per_cell ?len fun f cdv A outer s H E hr => ⟨_, (pss_cons (ps_expr (pe_cX c_need_base hr (by decide) (takes_of rfl rfl rfl rfl) (by rfl) (pa_cons (pv 0) pa_nil)))
      (pss_one (ps_ret (pe_callB cl_len (by rfl) T.b_len PySem.boot_len (pa_cons (pe_c c_powers_of hr (by decide) (by rfl) (pa_cons (pv 0) pa_nil)) pa_nil))))), ?body⟩
  case' body => try dsimp only [cxX, cxOf]
  case len => rintro ds Q R ⟨b, rfl, _⟩; rfl
  case body =>
    rintro ds Q R ⟨b, rfl, hq, hx⟩ hid H0 D dom hD hE
    show NJ _ _ _ _ [.im (.int b)]
    have hz : RZ K E R H0 := hE
    refine q_dropY (R := R) hz ?_
    walk_at "go"
    refine ⟨b, rfl, fun g => ?_, hx⟩
    refine nj_ret ?_
    walk_at "go"
    refine sp_j ⟨b, rfl, g.1, g.2, ?_⟩
    walk_at "go"
    exact hD.rt _ (hq g)
/-- the first place that is bad -/
def FirstBad (lo hi : Int) (vs : List Int) (k : Nat) : Prop := (∃ x, vs[k]? = some x ∧ ¬ (lo ≤ x ∧ x < hi)) ∧ ∀ m y, m < k → vs[m]? = some y → lo ≤ y ∧ y < hi
def S_packed (ds : List Dt) (Q : Dt → Prop) (R : Str → Option Int → Prop) : Prop := ∃ (b : Int) (vs : List Int), ds = [.int b, dL vs] ∧ vs.length ≤ 1000 ∧ (¬ GoodB b → R "BadNumber" none) ∧
  (GoodB b → (∀ k, FirstBad 0 b vs k → R "BadValues" (some (k : Nat))) ∧ ((∀ x ∈ vs, 0 ≤ x ∧ x < b) → Q (dT (packI b vs))))
abbrev sp_packed (K : PySem.W.Frag) : Sp := spY K S_packed
theorem ok_packed {P : Program} {w : World} {K : PySem.W.Frag} {mg : Str → Option Value} {base : Heap} (T : Txt K mg) (c_need_base : CalX P w K mg base 2 "need_base" (sp_need_base K)) (c_packed_by : Cal P w K mg base 2 "packed_by" (sp_packed_by K) []) : CalX P w K mg base 5 "packed" (sp_packed K) := by
  refine cal_y T.f_packed sc_packed ?len fun f cdv A outer s H E hr => ⟨_, (pss_cons (ps_expr (pe_cX c_need_base hr (by decide) (takes_of rfl rfl rfl rfl) (by rfl) (pa_cons (pv 0) pa_nil)))
      (pss_cons (ps_for PassesOwn.leaving rfl (pi_enum (by rfl) T.b_enumerate (pa_cons (pv 1) pa_nil)) (pg_tup rfl (pgs_cons (pg_name (i := 2) sc_packed.nd rfl (Or.inl rfl)) (pgs_cons (pg_name (i := 3) sc_packed.nd rfl (Or.inl rfl)) pgs_nil))) (pss_one (ps_if (pt_not (pt_chain op_leU op_ltU pe_int (pv 3) (pv 0))) (pss_one (ps_raise rfl (takes_of rfl rfl rfl rfl) (pmk_place T.p_BadValues hr (by decide) (by rfl) (pv 2)))) pss_nil)))
      (pss_one (ps_ret (pe_c c_packed_by hr (by decide) (by rfl) (pa_cons (pv 0) (pa_cons (pv 1) pa_nil))))))), ?body⟩
  case' body => try dsimp only [cxX, cxOf]
  case len => rintro ds Q R ⟨b, vs, rfl, _⟩; rfl
  case body =>
    rintro ds Q R ⟨b, vs, rfl, hl, hx, hg⟩ hid H0 D dom hD hE
    show NJ _ _ _ _ [.im (.int b), .im (dL vs), .un, .un]
    have hz : RZ K E R H0 := hE
    refine q_dropY (R := R) hz ?_
    walk_at "go"
    refine ⟨b, rfl, fun g => ?_, hx⟩
    obtain ⟨hx2, hq⟩ := hg g
    refine q_for (ij_enum ?_)
    walk_at "go"
    refine ⟨vs.map Dt.int, rfl, fun i ρ' => (∀ m y, m < i → vs[m]? = some y → 0 ≤ y ∧ y < b) ∧ ρ' = [.im (.int b), .im (dL vs), .un, .un], ⟨fun m y hm => absurd hm (Nat.not_lt_zero _), rfl⟩, ?_, ?_⟩
    · rintro H1 e1 i d ρ' hi ⟨hall, rfl⟩
      obtain ⟨x, hxi, rfl⟩ := enum_at hi
      have hz1 : RZ K E R H1 := hz.go e1
      refine tg_tup rfl (tgs_name (tgs_name (tgs_nil ?_)))
      walk_at "nm"
      refine nj_when ?_
      walk_at "go"
      have bad : ¬ (0 ≤ x ∧ x < b) → R "BadValues" (some (i : Nat)) := fun h => hx2 i ⟨⟨x, hxi, h⟩, hall⟩
      by_cases h1 : 0 ≤ x
      · refine bl_yes (decide_eq_true h1) ?_
        walk_at "go"
        by_cases h2 : x < b
        · refine bl_no (by rw [decide_eq_true h2]; rfl) ?_
          refine nj_nxw _ ⟨fun m y hm hy => ?_, rfl⟩ (.same (.same (.un (.un .nil))))
          by_cases z : m = i
          · subst z
            rw [hxi] at hy
            cases hy
            exact ⟨h1, h2⟩
          · exact hall m y (by omega) hy
        · refine bl_yes (by rw [decide_eq_false h2]; rfl) ?_
          exact nj_raiseP hz1 rfl (bad fun h => h2 h.2)
      · refine bl_no (decide_eq_false h1) ?_
        refine bl_yes rfl ?_
        exact nj_raiseP hz1 rfl (bad fun h => h1 h.1)
    · rintro ρ' ⟨hall, rfl⟩
      refine nj_ret ?_
      walk_at "go"
      refine sp_j ⟨b, vs, rfl, g.1, g.2, hl, hD.rt _ (hq fun x hx => ?_)⟩
      obtain ⟨m, hm⟩ := List.getElem?_of_mem hx
      have hlen : (enumD (vs.map Dt.int)).length = vs.length := by unfold enumD; rw [List.length_mapIdx, List.length_map]
      exact hall m x (by rw [hlen]; exact (List.getElem?_eq_some_iff.mp hm).1) hm
def S_read_packed (ds : List Dt) (Q : Dt → Prop) (R : Str → Option Int → Prop) : Prop := ∃ (b : Int) (cs : List Int) (pl : Int), ds = [.int b, dT cs, .int pl] ∧ cs.length ≤ 1000 ∧ (¬ GoodB b → R "BadNumber" none) ∧
  (GoodB b → (∀ k, FirstBad 0 10000 cs k → R "BadValues" (some (k : Nat))) ∧ ((∀ x ∈ cs, 0 ≤ x ∧ x < 10000) → (¬ (0 ≤ pl ∧ pl < (cs.length * perB b : Nat)) → R "BadNumber" none) ∧ (0 ≤ pl ∧ pl < (cs.length * perB b : Nat) → Q (.int (unpI b cs pl.toNat)))))
abbrev sp_read_packed (K : PySem.W.Frag) : Sp := spY K S_read_packed
theorem ok_read_packed {P : Program} {w : World} {K : PySem.W.Frag} {mg : Str → Option Value} {base : Heap} (T : Txt K mg) (c_need_base : CalX P w K mg base 2 "need_base" (sp_need_base K)) (c_powers_of : Cal P w K mg base 1 "powers_of" (sp_powers_of K) []) (c_value_in : Cal P w K mg base 2 "value_in" (sp_value_in K) []) : CalX P w K mg base 5 "read_packed" (sp_read_packed K) := by
  refine cal_y T.f_read_packed sc_read_packed ?len fun f cdv A outer s H E hr => ⟨_, (pss_cons (ps_expr (pe_cX c_need_base hr (by decide) (takes_of rfl rfl rfl rfl) (by rfl) (pa_cons (pv 0) pa_nil)))
      (pss_cons (ps_for PassesOwn.leaving rfl (pi_enumT (by rfl) T.b_enumerate (pa_cons (pv 1) pa_nil)) (pg_tup rfl (pgs_cons (pg_name (i := 3) sc_read_packed.nd rfl (Or.inl rfl)) (pgs_cons (pg_name (i := 4) sc_read_packed.nd rfl (Or.inl rfl)) pgs_nil))) (pss_one (ps_if (pt_not (pt_chain op_leU op_ltU pe_int (pv 4) (pe_gc (by rfl) T.k_CELL))) (pss_one (ps_raise rfl (takes_of rfl rfl rfl rfl) (pmk_place T.p_BadValues hr (by decide) (by rfl) (pv 3)))) pss_nil)))
      (pss_cons (ps_if (pt_not (pt_chain op_leU op_ltU pe_int (pv 2) (pe_op op_mulU (pe_callB cl_len (by rfl) T.b_len PySem.boot_len (pa_cons (pv 1) pa_nil)) (pe_callB cl_len (by rfl) T.b_len PySem.boot_len (pa_cons (pe_c c_powers_of hr (by decide) (by rfl) (pa_cons (pv 0) pa_nil)) pa_nil))))) (pss_one (ps_raise rfl (takes_of rfl rfl rfl rfl) (pmk_own PySem.F.excBase_ValueError T.x_BadNumber.q T.x_BadNumber.g T.x_BadNumber.k (raises_own T.x_BadNumber.b T.x_BadNumber.t) (by rfl)))) pss_nil)
      (pss_one (ps_ret (pe_c c_value_in hr (by decide) (by rfl) (pa_cons (pv 0) (pa_cons (pv 1) (pa_cons (pv 2) pa_nil))))))))), ?body⟩
  case' body => try dsimp only [cxX, cxOf]
  case len => rintro ds Q R ⟨b, vs, pl, rfl, _⟩; rfl
  case body =>
    rintro ds Q R ⟨b, vs, pl, rfl, hl, hx, hg⟩ hid H0 D dom hD hE
    show NJ _ _ _ _ [.im (.int b), .im (dT vs), .im (.int pl), .un, .un]
    have hz : RZ K E R H0 := hE
    refine q_dropY (R := R) hz ?_
    walk_at "go"
    refine ⟨b, rfl, fun g => ?_, hx⟩
    obtain ⟨hx2, hq⟩ := hg g
    have hp := perB_pos b
    have hp2 := perB_le b
    have hpl : (pows b).length = perB b := rfl
    refine q_for (ij_enumT ?_)
    walk_at "go"
    refine ⟨vs.map Dt.int, rfl, fun i ρ' => (∀ m y, m < i → vs[m]? = some y → 0 ≤ y ∧ y < 10000) ∧ ρ' = [.im (.int b), .im (dT vs), .im (.int pl), .un, .un], ⟨fun m y hm => absurd hm (Nat.not_lt_zero _), rfl⟩, ?_, ?_⟩
    · rintro H1 e1 i d ρ' hi ⟨hall, rfl⟩
      obtain ⟨x, hxi, rfl⟩ := enum_at hi
      have hz1 : RZ K E R H1 := hz.go e1
      refine tg_tup rfl (tgs_name (tgs_name (tgs_nil ?_)))
      walk_at "nm"
      refine nj_when ?_
      walk_at "go"
      have bad : ¬ (0 ≤ x ∧ x < 10000) → R "BadValues" (some (i : Nat)) := fun h => hx2 i ⟨⟨x, hxi, h⟩, hall⟩
      by_cases h1 : 0 ≤ x
      · refine bl_yes (decide_eq_true h1) ?_
        walk_at "go"
        by_cases h2 : x < 10000
        · refine bl_no (by rw [decide_eq_true h2]; rfl) ?_
          refine nj_nxw _ ⟨fun m y hm hy => ?_, rfl⟩ (.same (.same (.same (.un (.un .nil)))))
          by_cases z : m = i
          · subst z
            rw [hxi] at hy
            cases hy
            exact ⟨h1, h2⟩
          · exact hall m y (by omega) hy
        · refine bl_yes (by rw [decide_eq_false h2]; rfl) ?_
          exact nj_raiseP hz1 rfl (bad fun h => h2 h.2)
      · refine bl_no (decide_eq_false h1) ?_
        refine bl_yes rfl ?_
        exact nj_raiseP hz1 rfl (bad fun h => h1 h.1)
    · rintro ρ' ⟨hall, rfl⟩
      have hlen : (enumD (vs.map Dt.int)).length = vs.length := by unfold enumD; rw [List.length_mapIdx, List.length_map]
      obtain ⟨hb, hq⟩ := hq fun x hx => by
        obtain ⟨m, hm⟩ := List.getElem?_of_mem hx
        exact hall m x (by rw [hlen]; exact (List.getElem?_eq_some_iff.mp hm).1) hm
      refine q_when ?_
      walk_at "go"
      by_cases h1 : 0 ≤ pl
      · refine bl_yes (decide_eq_true h1) ?_
        walk_at "go"
        refine sp_j ⟨b, rfl, g.1, g.2, ?_⟩
        walk_at "go"
        rw [hpl]
        walk_at "go"
        by_cases h2 : pl < (vs.length * perB b : Nat)
        · refine bl_no (by rw [decide_eq_true (by rw [← Int.natCast_mul]; exact h2)]; rfl) ?_
          refine nj_ret ?_
          walk_at "go"
          obtain ⟨k, rfl⟩ := Int.eq_ofNat_of_zero_le h1
          refine sp_j ⟨b, vs, k, rfl, g.1, g.2, ?_, hD.rt _ (hq ⟨h1, h2⟩)⟩
          rw [Nat.div_lt_iff_lt_mul (by omega)]
          omega
        · refine bl_yes (by rw [decide_eq_false (by rw [← Int.natCast_mul]; exact h2)]; rfl) ?_
          exact nj_raiseN hz (hb fun h => h2 h.2)
      · refine bl_no (decide_eq_false h1) ?_
        refine bl_yes rfl ?_
        exact nj_raiseN hz (hb fun h => h1 h.1)
end CC

namespace CC
open PySem PySem.Spec PyProof.Rows L2
open C8 (Cal pe_c pe_gc)
local macro_rules | `(tactic| walk_at "ev0") => `(tactic| (first
  | with_reducible refine ev_ixA rfl ?_
  | with_reducible refine ev_op ?_
  | with_reducible refine ev_var rfl ?_
  | with_reducible refine ev_int ?_
  | with_reducible refine ev_str ?_
  | with_reducible refine ev_bl ?_
  | with_reducible refine ev_non ?_
  | with_reducible refine ev_neg ?_
  | with_reducible refine ev_call ?_
  | with_reducible refine ev_tup ?_
  | with_reducible refine ev_chain ?_
  | with_reducible refine ev_andV ?_
  | with_reducible refine ev_orV ?_
  | with_reducible refine ev_notV ?_
  | with_reducible refine ev_isi ?_
  | with_reducible refine lenSet_li ?_
  | with_reducible refine ev_cb ?_
  | with_reducible refine ea_nil ?_
  | with_reducible refine ea_cons ?_
  | with_reducible refine et_test ?_
  | with_reducible refine et_B ?_
  | with_reducible refine et_and ?_
  | with_reducible refine et_or ?_
  | with_reducible refine et_not ?_
  | with_reducible refine et_yes ?_
  | with_reducible refine eo_none ?_
  | with_reducible refine eo_some ?_
  | with_reducible refine add_i ?_
  | with_reducible refine sub_i ?_
  | with_reducible refine lt_i ?_
  | with_reducible refine le_i ?_
  | with_reducible refine gt_i ?_
  | with_reducible refine ge_i ?_
  | with_reducible refine eq_i ?_
  | with_reducible refine ne_i ?_
  | with_reducible refine eq_s ?_
  | with_reducible refine ne_s ?_
  | with_reducible refine lenOk (by (dsimp only [List.length_cons, List.length_nil]; decide)) ?_
  | with_reducible refine len_li ?_
  | with_reducible refine len_ti ?_
  | with_reducible refine len_l ?_
  | with_reducible refine len_t ?_
  | with_reducible refine tuple_l ?_
  | with_reducible refine tuple_t ?_
  | with_reducible refine is_n ?_
  | with_reducible refine isnot_n ?_
  | with_reducible refine min_li (by assumption) ?_
  | with_reducible refine max_li (by assumption) ?_
  | with_reducible refine ix_h (by assumption) ?_
  | with_reducible refine add_t (by (dsimp only [List.length_cons, List.length_nil]; decide)) ?_
  | with_reducible refine ix_t0 ?_
  | with_reducible refine ix_t1 ?_
  | with_reducible refine ix_t2 ?_
  | with_reducible refine ix_t3 ?_
  | with_reducible refine ix_t4 ?_
  | with_reducible refine ix_t5 ?_
  | with_reducible refine ix_l0 ?_
  | with_reducible refine ix_l1 ?_
  | with_reducible refine ix_l2 ?_
  | with_reducible refine ix_l3 ?_
  | with_reducible refine ix_l4 ?_
  | with_reducible refine ix_l5 ?_
  | with_reducible refine intJ ?_
  | with_reducible refine blJ ?_
  | with_reducible refine lstJ ?_
  | with_reducible refine tupJ ?_
  | with_reducible refine mul_iR (by omega) (by omega) ?_
  | with_reducible refine mul_iL (by omega) (by omega) ?_
  | with_reducible refine div_iP (by omega) (by omega) ?_
  | with_reducible refine mod_i (by omega) ?_
  | with_reducible refine etj ?_))
local macro_rules | `(tactic| walk_at "ev") => `(tactic| (first
  | walk_at "ev0"
  | with_reducible refine ev_if ?_))
local macro_rules | `(tactic| walk_at "go0") => `(tactic| (repeat walk_at "ev0"))
local macro_rules | `(tactic| walk_at "nm") => `(tactic| try dsimp only [wipeS, List.set_cons_zero, List.set_cons_succ])
local macro_rules | `(tactic| walk_at "go") => `(tactic| (repeat walk_at "ev"))
theorem rp_ints {K : PySem.W.Frag} {G : Hp} : ∀ ns : List Int, RpAll K G (ns.map V.int) (ns.map Dt.int)
  | [] => .nil
  | n :: ns => .cons (.int n) (rp_ints ns)
theorem ite_y {c : Bool} {a b : Prop} (e : c = true) (h : a) : if c = true then a else b := by rw [if_pos e]; exact h
theorem ite_n {c : Bool} {a b : Prop} (e : c = false) (h : b) : if c = true then a else b := by rw [if_neg (by rw [e]; exact Bool.false_ne_true)]; exact h
theorem ix_0 {n : Nat} : ixN (n + 1) 0 = some 0 := by
  unfold ixN
  simp
theorem at_0 {α : Type} {x : α} {r : List α} : atI (x :: r) 0 = some x := by
  unfold atI
  rw [List.length_cons, ix_0]; rfl
theorem si_0 {n : Nat} : seqIndex? 0 (n + 1) = some 0 := by
  unfold seqIndex?
  simp
def S__law_take (ds : List Dt) (Q : Dt → Prop) : Prop := ∃ m : Int, ds = [.int m] ∧ 0 < m ∧ m < 4611686018427387904 ∧ ∀ r, 0 ≤ r → r < m → Q (.int r)
abbrev sp__law_take (K : PySem.W.Frag) : Sp := spB K S__law_take
theorem ok__law_take {P : Program} {w : World} {K : PySem.W.Frag} {mg : Str → Option Value} {base : Heap} (T : Txt K mg)  : Cal P w K mg base 1 "_law_take" (sp__law_take K) [] := by
  refine cal_box T.f__law_take sc__law_take (fun z => nomatch z) ?len fun f cdv A outer s H E hr => ⟨_, (pss_cons (ps_if (pt_cmpR (op_eqU hr.units) (pe_ix ix_seq (pv 0) pe_int (fun _ _ => rfl)) (pe_lst pa_nil) (nomark _)) (pss_cons (ps_asg (pe_op op_modU (pe_op op_mulU (pe_ix ix_seq (pv 0) pe_int (fun _ _ => rfl)) pe_int) pe_int) (pg_sub (pv 0) pe_int set_list))
      (pss_one (ps_ret (pe_op op_modU (pe_op op_divU (pe_ix ix_seq (pv 0) pe_int (fun _ _ => rfl)) pe_int) (pv 1))))) pss_nil)
      (pss_cons (ps_set (i := 2) sc__law_take.nd rfl (Or.inl rfl) (pe_ix ix_seq (pe_ix ix_seq (pv 0) pe_int (fun _ _ => rfl)) pe_int (fun _ _ => rfl)))
      (pss_cons (ps_asg (pe_op op_divU (pv 2) (pv 1)) (pg_sub (pe_ix ix_seq (pv 0) pe_int (fun _ _ => rfl)) pe_int set_list))
      (pss_cons (ps_if ((pw_or (pt_cmpR (op_eqU hr.units) (pe_ix ix_seq (pe_ix ix_seq (pv 0) pe_int (fun _ _ => rfl)) pe_int (fun _ _ => rfl)) pe_int (nomark _)) (pw_or1 (pt_cmpR (op_eqU hr.units) (pe_ix ix_seq (pe_ix ix_seq (pv 0) pe_int (fun _ _ => rfl)) pe_int (fun _ _ => rfl)) (pe_un un_neg pe_int) (nomark _))))).pt (pss_one (ps_expr (pe_bm PySem.F.plainAttrs_list PySem.F.slot_list_pop PySem.F.type_list_pop mt_popAt (pe_ix ix_seq (pv 0) pe_int (fun _ _ => rfl)) (pa_cons pe_int pa_nil)))) pss_nil)
      (pss_one (ps_ret (pe_op op_modU (pv 2) (pv 1)))))))), ?body⟩
  case' body => try dsimp only [cxD, cxOf]
  case len => rintro ds Q ⟨b, rfl, _⟩; rfl
  case body =>
    rintro ds Q ⟨m, rfl, h0, h1, hq⟩ b l hne hid H0 D dom hD
    show NJ _ _ _ _ [.rw (.ref b), .im (.int m), .un]
    intro hd H σ sd
    obtain ⟨s, ns, hb, hl⟩ := sd.inv
    obtain ⟨x2, rfl⟩ : ∃ x, σ = [some (.ref b), some (.int m), x] := by
      match σ, sd.slots with
      | [some _, some _, x], .cons h1 (.cons h2 (.cons _ .nil)) =>
        have e1 : _ = V.ref b := h1
        have e2 : Rp _ _ _ (.int m) := h2
        cases e2
        subst e1
        exact ⟨x, rfl⟩
    have fin : ∀ (H' : Hp) (r : Int), Ex (muB b l) H H' → Bx b l H' → D.rt (.int (r % m)) H' := fun H' r e bx =>
      hD.rt _ (hq _ (Int.emod_nonneg _ (by omega)) (Int.emod_lt_of_pos _ h0)) _ _ (sd.ext.trans e) bx (.int _)
    refine ⟨.ref b, rfl, .inl ⟨b, _, 0, .ref l, rfl, rfl, .inl (.inl hb), rfl, by decide, fun p hp => .inr ⟨.list (pyL (ns.map Dt.int)), .list [], ?_, ?_, ?_, rfl, _, rfl, ?_⟩⟩⟩
    · have e : upd H p (.lst []) l = some (.lst (ns.map V.int)) := by
        rw [upd_ne (fun z => by subst z; rw [hl] at hp; cases hp)]; exact hl
      exact Rp.dp 1 _ (.lst (ns.map Dt.int)) (.lst fun d hd => by
        obtain ⟨x, _, rfl⟩ := List.mem_map.mp hd
        exact .int x) (.lst e (rp_ints ns))
    · exact .lst (.inl (.inl upd_same)) .nil
    · exact Sh.shaped (n := 1) (d := .lst (ns.map Dt.int)) (.lst fun d hd => by
        obtain ⟨x, _, rfl⟩ := List.mem_map.mp hd
        exact .int x) (by decide)
    have ne : ∀ a o, H a = some o → upd H p (.lst []) a = some o := fun a o h => by
      rw [upd_ne (fun z => by subst z; rw [h] at hp; cases hp)]; exact h
    have eB := ne _ _ hb
    have eL := ne _ _ hl
    have ex1 : Ex (muB b l) H (upd H p (.lst [])) := .new hp
    cases ns with
    | nil =>
      refine ite_y rfl ?_
      refine ⟨.ref b, rfl, .inl ⟨b, _, 1, .int s, rfl, rfl, .inl (.inl eB), rfl, .inl ⟨s, 48271, rfl, rfl, .inr ⟨by decide, by decide⟩, _, _, rfl, rfl, (show (0 : Int) < 2147483647 by decide), .ref b, rfl, b, _, 1, 1, rfl, rfl, eB, rfl, ?_⟩⟩⟩
      refine ⟨.ref b, rfl, .inl ⟨b, _, 1, .int (s * 48271 % 2147483647), rfl, rfl, .inl (.inl upd_same), rfl, _, 7, rfl, rfl, ⟨by decide, by decide⟩, .int m, rfl, _, m, rfl, rfl, h0, ?_⟩⟩
      exact fin _ _ (ex1.mut (.inr muB_b)) ⟨_, [], upd_same, by rw [upd_ne (Ne.symm hne)]; exact eL⟩
    | cons n ns =>
      refine ite_n rfl ?_
      refine ⟨.ref b, rfl, .inl ⟨b, _, 0, .ref l, rfl, rfl, .inl (.inl eB), rfl, .inl ⟨l, _, 0, .int n, rfl, rfl, .inl (.inl eL), at_0, ?_⟩⟩⟩
      refine ⟨.int n, rfl, .int m, rfl, n, m, rfl, rfl, wide_div (b := 62) h0 (by omega) (by decide) (by decide), .ref b, rfl, .inl ⟨b, _, 0, .ref l, rfl, rfl, .inl (.inl eB), rfl, l, _, 0, 0, rfl, rfl, eL, ix_0, ?_⟩⟩
      have ex2 : Ex (muB b l) H (upd (upd H p (.lst [])) l (.lst (((n :: ns).map V.int).set 0 (.int (n / m))))) := ex1.mut (.inr muB_l)
      have eB2 : upd (upd H p (.lst [])) l (.lst (((n :: ns).map V.int).set 0 (.int (n / m)))) b = some (.lst [.ref l, .int s]) := by rw [upd_ne hne]; exact eB
      have eL2 : upd (upd H p (.lst [])) l (.lst (((n :: ns).map V.int).set 0 (.int (n / m)))) l = some (.lst (.int (n / m) :: ns.map V.int)) := upd_same
      generalize upd (upd H p (.lst [])) l (.lst (((n :: ns).map V.int).set 0 (.int (n / m)))) = H3 at ex2 eB2 eL2
      have stay : D.rt (.int (n % m)) H3 := fin _ _ ex2 ⟨_, (n / m) :: ns, eB2, eL2⟩
      have ret : ∀ H4, D.rt (.int (n % m)) H4 → tRet (tOp rModI (tVar 2) (tVar 1)) D [some (.ref b), some (.int m), some (.int n)] H4 := fun H4 q => ⟨.int n, rfl, .int m, rfl, n, m, rfl, rfl, h0, q⟩
      have pop : tDrop (tBM K "list" rPopAt (tOp (rIx K) (tVar 0) (tC (V.int 0))) (tCons (tC (V.int 0)) tNil)) { D with nx := tRet (tOp rModI (tVar 2) (tVar 1)) D } [some (.ref b), some (.int m), some (.int n)] H3 := by
        refine ⟨.ref b, rfl, .inl ⟨b, _, 0, .ref l, rfl, rfl, .inl (.inl eB2), rfl, .inl ⟨rfl, _, .inl (.inl eL2)⟩, l, _, 0, 0, .int (n / m), rfl, rfl, eL2, by decide, by decide, ?_, rfl, ?_⟩⟩
        · exact si_0
        · refine ret _ ?_
          exact fin _ _ (ex2.mut (.inr muB_l)) ⟨_, ns, by rw [upd_ne hne]; exact eB2, upd_same⟩
      have fst : ∀ Q : VK, Q (.int (n / m)) H3 → tOp (rIx K) (tOp (rIx K) (tVar 0) (tC (V.int 0))) (tC (V.int 0)) [some (.ref b), some (.int m), some (.int n)] H3 Q := fun Q q =>
        ⟨.ref b, rfl, .inl ⟨b, _, 0, .ref l, rfl, rfl, .inl (.inl eB2), rfl, .inl ⟨l, _, 0, .int (n / m), rfl, rfl, .inl (.inl eL2), at_0, q⟩⟩⟩
      refine fst _ (.inl ⟨rfl, _, rfl, ?_⟩)
      by_cases z0 : n / m = 0
      · refine ite_y (decide_eq_true (by rw [z0])) (ite_y rfl ?_)
        exact pop
      · refine ite_n (decide_eq_false fun z => z0 (V.int.inj z)) ?_
        refine fst _ ⟨1, rfl, .inl ⟨rfl, _, rfl, ?_⟩⟩
        by_cases z1 : n / m = -1
        · exact ite_y (decide_eq_true (by rw [z1])) pop
        · exact ite_n (decide_eq_false fun z => z1 (V.int.inj z)) (ret _ stay)
theorem take_j {m : Int} {Q : Dt → Prop} (h0 : 0 < m) (h1 : m < 4611686018427387904) (h : ∀ r, 0 ≤ r → r < m → Q (.int r)) : S__law_take [.int m] Q := ⟨m, rfl, h0, h1, h⟩
end CC

namespace CC
open PySem PySem.Spec PyProof.Rows L2
open C8 (Cal pe_c pe_gc)
local macro_rules | `(tactic| walk_at "ev0") => `(tactic| (first
  | with_reducible refine ev_ixA rfl ?_
  | with_reducible refine ev_op ?_
  | with_reducible refine ev_var rfl ?_
  | with_reducible refine ev_int ?_
  | with_reducible refine ev_str ?_
  | with_reducible refine ev_bl ?_
  | with_reducible refine ev_non ?_
  | with_reducible refine ev_neg ?_
  | with_reducible refine ev_call ?_
  | with_reducible refine ev_tup ?_
  | with_reducible refine ev_chain ?_
  | with_reducible refine ev_andV ?_
  | with_reducible refine ev_orV ?_
  | with_reducible refine ev_notV ?_
  | with_reducible refine ev_isi ?_
  | with_reducible refine lenSet_li ?_
  | with_reducible refine ev_cb ?_
  | with_reducible refine ea_nil ?_
  | with_reducible refine ea_cons ?_
  | with_reducible refine et_test ?_
  | with_reducible refine et_B ?_
  | with_reducible refine et_and ?_
  | with_reducible refine et_or ?_
  | with_reducible refine et_not ?_
  | with_reducible refine et_yes ?_
  | with_reducible refine eo_none ?_
  | with_reducible refine eo_some ?_
  | with_reducible refine add_i ?_
  | with_reducible refine sub_i ?_
  | with_reducible refine lt_i ?_
  | with_reducible refine le_i ?_
  | with_reducible refine gt_i ?_
  | with_reducible refine ge_i ?_
  | with_reducible refine eq_i ?_
  | with_reducible refine ne_i ?_
  | with_reducible refine eq_s ?_
  | with_reducible refine ne_s ?_
  | with_reducible refine lenOk (by (dsimp only [List.length_cons, List.length_nil]; decide)) ?_
  | with_reducible refine len_li ?_
  | with_reducible refine len_ti ?_
  | with_reducible refine len_l ?_
  | with_reducible refine len_t ?_
  | with_reducible refine tuple_l ?_
  | with_reducible refine tuple_t ?_
  | with_reducible refine is_n ?_
  | with_reducible refine isnot_n ?_
  | with_reducible refine min_li (by assumption) ?_
  | with_reducible refine max_li (by assumption) ?_
  | with_reducible refine ix_h (by assumption) ?_
  | with_reducible refine add_t (by (dsimp only [List.length_cons, List.length_nil]; decide)) ?_
  | with_reducible refine ix_t0 ?_
  | with_reducible refine ix_t1 ?_
  | with_reducible refine ix_t2 ?_
  | with_reducible refine ix_t3 ?_
  | with_reducible refine ix_t4 ?_
  | with_reducible refine ix_t5 ?_
  | with_reducible refine ix_l0 ?_
  | with_reducible refine ix_l1 ?_
  | with_reducible refine ix_l2 ?_
  | with_reducible refine ix_l3 ?_
  | with_reducible refine ix_l4 ?_
  | with_reducible refine ix_l5 ?_
  | with_reducible refine intJ ?_
  | with_reducible refine blJ ?_
  | with_reducible refine lstJ ?_
  | with_reducible refine tupJ ?_
  | with_reducible refine mul_iR (by omega) (by omega) ?_
  | with_reducible refine mul_iL (by omega) (by omega) ?_
  | with_reducible refine div_iP (by omega) (by omega) ?_
  | with_reducible refine mod_i (by omega) ?_
  | with_reducible refine etj ?_))
local macro_rules | `(tactic| walk_at "ev") => `(tactic| (first
  | walk_at "ev0"
  | with_reducible refine ev_if ?_))
local macro_rules | `(tactic| walk_at "go0") => `(tactic| (repeat walk_at "ev0"))
local macro_rules | `(tactic| walk_at "nm") => `(tactic| try dsimp only [wipeS, List.set_cons_zero, List.set_cons_succ])
local macro_rules | `(tactic| walk_at "go") => `(tactic| (repeat walk_at "ev"))
def sp__law_begun (K : PySem.W.Frag) : Sp := fun vs H Qh _ => ∃ (a : Addr) (ns : List Int), vs = [.ref a] ∧ SqL K H a (ns.map V.int) ∧ ns.length ≤ 63 ∧ ∀ b l H', b ≠ l → H b = none → H l = none → Ex none0 H H' → Bx b l H' → Qh (.ref b) H'
theorem ok__law_begun {P : Program} {w : World} {K : PySem.W.Frag} {mg : Str → Option Value} {base : Heap} (T : Txt K mg)  : Cal P w K mg base 1 "_law_begun" (sp__law_begun K) [] := by
  obtain ⟨f, fd, hm, F, bi⟩ := T.f__law_begun
  refine ⟨⟨f, fd, _, [], F.ok sc__law_begun ?len (fun cdv A outer s H vs Q E hr h => ⟨_, (pss_cons (ps_set (i := 1) sc__law_begun.nd rfl (Or.inl rfl) pe_int)
      (pss_cons (ps_for PassesOwn.never rfl (pi_list (pv 0)) (pg_name (i := 2) sc__law_begun.nd rfl (Or.inl rfl)) (pss_one (ps_set (i := 1) sc__law_begun.nd rfl (Or.inl rfl) (pe_op op_modU (pe_op op_addU (pe_op op_addU (pe_op op_mulU (pv 1) pe_int) (pe_op op_mulU (pv 2) pe_int)) pe_int) pe_int))))
      (pss_one (ps_ret (pe_lst (pa_cons (pe_callTy cl_list (by rfl) T.b_list (by decide +kernel) (pa_cons (pv 0) pa_nil)) (pa_cons (pe_op op_mulU (pv 1) (pe_callTy cl_int1 (by rfl) T.b_int (by decide +kernel) (pa_cons (pe_cmpR op_gtU (pe_callB cl_len (by rfl) T.b_len PySem.boot_len (pa_cons (pv 0) pa_nil)) pe_int (nomark _)) pa_nil))) pa_nil))))))), ?body⟩), hm, F.kp, bi, .nil⟩⟩
  case' body => try dsimp only [cxD, cxOf]
  case len => rintro vs H Q E ⟨a, ns, rfl, _⟩; rfl
  case body =>
    obtain ⟨a, ns, rfl, hS, hn, hq⟩ := h
    refine ⟨.ref a, rfl, a, rfl, ⟨_, hS⟩, for_list (xs := ns.map V.int) (fun _ σ H1 => H1 = H ∧ ∃ s x, σ = [some (.ref a), some (.int s), x]) ⟨rfl, 0, none, rfl⟩ (fun i σ H1 _ h => h.1 ▸ hS) ?_ ?_⟩
    · rintro i x σ H1 hx ⟨rfl, s, y, rfl⟩
      obtain ⟨n, _, rfl⟩ := List.mem_map.mp (List.mem_of_getElem? hx)
      refine ⟨.int s, rfl, .inl ⟨s, 48271, rfl, rfl, .inr ⟨by decide, by decide⟩, .int n, rfl, .inl ⟨n, 69621, rfl, rfl, .inr ⟨by decide, by decide⟩, .inl ⟨_, _, rfl, rfl, .inl ⟨_, _, rfl, rfl, _, _, rfl, rfl, (show (0 : Int) < 2147483647 by decide), rfl, _, some (.int n), rfl⟩⟩⟩⟩⟩
    · rintro σ H1 ⟨rfl, s, y, rfl⟩
      refine ⟨.ref a, rfl, _, _, rfl, .inl hS, fun l hl => ?_⟩
      have hS' : SqL K (upd H1 l (.lst (ns.map V.int))) a (ns.map V.int) := by
        rcases hS with (h | ⟨o, h⟩) | h
        · exact .inl (.inl (by rw [upd_ne (fun z => by subst z; rw [h] at hl; cases hl)]; exact h))
        · exact .inl (.inr ⟨o, by rw [upd_ne (fun z => by subst z; rw [h] at hl; cases hl)]; exact h⟩)
        · exact .inr h
      refine ⟨.int s, rfl, .ref a, rfl, .inl ⟨_, _, rfl, .inl hS', .inl ⟨_, _, rfl, rfl, .inr ⟨_, rfl, .inl ⟨s, _, rfl, rfl, .inr ⟨?_, ?_⟩, by show 2 ≤ sizeLine; decide, fun b hb => ?_⟩⟩⟩⟩⟩
      · split <;> decide
      · split <;> decide
      have nbl : b ≠ l := fun z => by subst z; rw [upd_same] at hb; cases hb
      have hb0 : H1 b = none := by rw [upd_ne nbl] at hb; exact hb
      exact hq b l _ nbl hb0 hl ((Ex.new hl).trans (.new hb)) ⟨_, ns, upd_same, by rw [upd_ne (Ne.symm nbl)]; exact upd_same⟩
end CC

namespace CC
open PySem PySem.Spec PyProof.Rows L2
open C8 (Cal pe_c pe_gc)
local macro_rules | `(tactic| walk_at "ev0") => `(tactic| (first
  | with_reducible refine ev_ixA rfl ?_
  | with_reducible refine ev_op ?_
  | with_reducible refine ev_var rfl ?_
  | with_reducible refine ev_int ?_
  | with_reducible refine ev_str ?_
  | with_reducible refine ev_bl ?_
  | with_reducible refine ev_non ?_
  | with_reducible refine ev_neg ?_
  | with_reducible refine ev_call ?_
  | with_reducible refine ev_tup ?_
  | with_reducible refine ev_chain ?_
  | with_reducible refine ev_andV ?_
  | with_reducible refine ev_orV ?_
  | with_reducible refine ev_notV ?_
  | with_reducible refine ev_isi ?_
  | with_reducible refine lenSet_li ?_
  | with_reducible refine ev_cb ?_
  | with_reducible refine ea_nil ?_
  | with_reducible refine ea_cons ?_
  | with_reducible refine et_test ?_
  | with_reducible refine et_B ?_
  | with_reducible refine et_and ?_
  | with_reducible refine et_or ?_
  | with_reducible refine et_not ?_
  | with_reducible refine et_yes ?_
  | with_reducible refine eo_none ?_
  | with_reducible refine eo_some ?_
  | with_reducible refine add_i ?_
  | with_reducible refine sub_i ?_
  | with_reducible refine lt_i ?_
  | with_reducible refine le_i ?_
  | with_reducible refine gt_i ?_
  | with_reducible refine ge_i ?_
  | with_reducible refine eq_i ?_
  | with_reducible refine ne_i ?_
  | with_reducible refine eq_s ?_
  | with_reducible refine ne_s ?_
  | with_reducible refine lenOk (by (dsimp only [List.length_cons, List.length_nil]; decide)) ?_
  | with_reducible refine len_li ?_
  | with_reducible refine len_ti ?_
  | with_reducible refine len_l ?_
  | with_reducible refine len_t ?_
  | with_reducible refine tuple_l ?_
  | with_reducible refine tuple_t ?_
  | with_reducible refine is_n ?_
  | with_reducible refine isnot_n ?_
  | with_reducible refine min_li (by assumption) ?_
  | with_reducible refine max_li (by assumption) ?_
  | with_reducible refine ix_h (by assumption) ?_
  | with_reducible refine add_t (by (dsimp only [List.length_cons, List.length_nil]; decide)) ?_
  | with_reducible refine ix_t0 ?_
  | with_reducible refine ix_t1 ?_
  | with_reducible refine ix_t2 ?_
  | with_reducible refine ix_t3 ?_
  | with_reducible refine ix_t4 ?_
  | with_reducible refine ix_t5 ?_
  | with_reducible refine ix_l0 ?_
  | with_reducible refine ix_l1 ?_
  | with_reducible refine ix_l2 ?_
  | with_reducible refine ix_l3 ?_
  | with_reducible refine ix_l4 ?_
  | with_reducible refine ix_l5 ?_
  | with_reducible refine intJ ?_
  | with_reducible refine blJ ?_
  | with_reducible refine lstJ ?_
  | with_reducible refine tupJ ?_
  | with_reducible refine mul_iR (by omega) (by omega) ?_
  | with_reducible refine mul_iL (by omega) (by omega) ?_
  | with_reducible refine div_iP (by omega) (by omega) ?_
  | with_reducible refine mod_i (by omega) ?_
  | with_reducible refine etj ?_))
local macro_rules | `(tactic| walk_at "ev") => `(tactic| (first
  | walk_at "ev0"
  | with_reducible refine ev_if ?_))
local macro_rules | `(tactic| walk_at "go0") => `(tactic| (repeat walk_at "ev0"))
local macro_rules | `(tactic| walk_at "nm") => `(tactic| try dsimp only [wipeS, List.set_cons_zero, List.set_cons_succ])
local macro_rules | `(tactic| walk_at "go") => `(tactic| (repeat walk_at "ev"))
/-! what is told and what is due, part by part -/
def S__law_alike (n : Nat) (ds : List Dt) (Q : Dt → Prop) : Prop := ∃ d, ds = [d, d] ∧ Al n d ∧ Q (.bl true)
abbrev sp__law_alike (n : Nat) (K : PySem.W.Frag) : Sp := spP K (S__law_alike n)
theorem ok__law_alike {P : Program} {w : World} {K : PySem.W.Frag} {mg : Str → Option Value} {base : Heap} (T : Txt K mg)  (n : Nat) : Cal P w K mg base (n + 1) "_law_alike" (sp__law_alike n K) [] := by
  induction n with
  | zero =>
    refine cal_pure T.f__law_alike sc__law_alike ?len fun f cdv A outer s H E hr => ⟨_, (pss_cons (ps_if (pt_cmpR op_isU (pv 1) pe_non (nomark _)) (pss_one (ps_ret (pe_cmpR op_isU (pv 0) pe_non (nomark _)))) pss_nil)
      (pss_cons (ps_if (pt_val (pe_callB call_isi (by rfl) T.b_isinstance (by decide +kernel) (pa_cons (pv 1) (pa_cons (pe_bltn (v := .ty "bool") (by rfl) T.b_bool (by decide +kernel) rfl) pa_nil)))) (pss_one (ps_ret (pe_and (pe_callB call_isi (by rfl) T.b_isinstance (by decide +kernel) (pa_cons (pv 0) (pa_cons (pe_bltn (v := .ty "bool") (by rfl) T.b_bool (by decide +kernel) rfl) pa_nil))) (pe_one (pe_cmpR (op_eqU hr.units) (pv 0) (pv 1) (nomark _)))))) pss_nil)
      (pss_cons (ps_if (pt_val (pe_callB call_isi (by rfl) T.b_isinstance (by decide +kernel) (pa_cons (pv 1) (pa_cons (pe_bltn (v := .ty "int") (by rfl) T.b_int (by decide +kernel) rfl) pa_nil)))) (pss_one (ps_ret (pe_and (pe_callB call_isi (by rfl) T.b_isinstance (by decide +kernel) (pa_cons (pv 0) (pa_cons (pe_bltn (v := .ty "int") (by rfl) T.b_int (by decide +kernel) rfl) pa_nil))) (pe_and (pe_not (pe_callB call_isi (by rfl) T.b_isinstance (by decide +kernel) (pa_cons (pv 0) (pa_cons (pe_bltn (v := .ty "bool") (by rfl) T.b_bool (by decide +kernel) rfl) pa_nil)))) (pe_one (pe_cmpR (op_eqU hr.units) (pv 0) (pv 1) (nomark _))))))) pss_nil)
      (pss_cons (ps_if (pt_val (pe_callB call_isi (by rfl) T.b_isinstance (by decide +kernel) (pa_cons (pv 1) (pa_cons (pe_bltn (v := .ty "str") (by rfl) T.b_str (by decide +kernel) rfl) pa_nil)))) (pss_one (ps_ret (pe_and (pe_callB call_isi (by rfl) T.b_isinstance (by decide +kernel) (pa_cons (pv 0) (pa_cons (pe_bltn (v := .ty "str") (by rfl) T.b_str (by decide +kernel) rfl) pa_nil))) (pe_one (pe_cmpR (op_eqU hr.units) (pv 0) (pv 1) (nomark _)))))) pss_nil)
      pss_never)))), ?body⟩
    case' body => try dsimp only [cxD, cxOf]
    case len => rintro ds Q ⟨b, rfl, _⟩; rfl
    case body =>
      rintro ds Q ⟨d, rfl, h, hq⟩ hid H0 D dom hD
      show NJ _ _ _ _ [.im d, .im d, .un]
      cases h with
      | non =>
        refine q_when ?_
        walk_at "go"
        refine bl_yes rfl (nj_ret ?_)
        walk_at "go"
        exact hD.rt _ hq
      | bl b =>
        refine q_when ?_
        walk_at "go"
        refine bl_no rfl (q_when ?_)
        walk_at "go"
        refine ⟨rfl, _, k_bb, bl_yes rfl (nj_ret ?_)⟩
        walk_at "go"
        refine ⟨rfl, _, k_bb, bl_yes rfl ?_⟩
        walk_at "go"
        refine eq_b ?_
        rw [decide_eq_true rfl]
        exact hD.rt _ hq
      | int i =>
        refine q_when ?_
        walk_at "go"
        refine bl_no rfl (q_when ?_)
        walk_at "go"
        refine ⟨rfl, _, k_ib, bl_no rfl (q_when ?_)⟩
        walk_at "go"
        refine ⟨rfl, _, k_ii, bl_yes rfl (nj_ret ?_)⟩
        walk_at "go"
        refine ⟨rfl, _, k_ii, bl_yes rfl ?_⟩
        walk_at "go"
        refine ⟨rfl, _, k_ib, ?_⟩
        walk_at "go"
        refine bl_yes rfl ?_
        walk_at "go"
        rw [decide_eq_true rfl]
        exact hD.rt _ hq
      | str x =>
        refine q_when ?_
        walk_at "go"
        refine bl_no rfl (q_when ?_)
        walk_at "go"
        refine ⟨rfl, _, k_sb, bl_no rfl (q_when ?_)⟩
        walk_at "go"
        refine ⟨rfl, _, k_si, bl_no rfl (q_when ?_)⟩
        walk_at "go"
        refine ⟨rfl, _, k_ss, bl_yes rfl (nj_ret ?_)⟩
        walk_at "go"
        refine ⟨rfl, _, k_ss, bl_yes rfl ?_⟩
        walk_at "go"
        rw [decide_eq_true rfl]
        exact hD.rt _ hq
  | succ n ih =>
    have c__law_alike := ih
    refine cal_pure T.f__law_alike sc__law_alike ?len fun f cdv A outer s H E hr => ⟨_, (pss_cons (ps_if (pt_cmpR op_isU (pv 1) pe_non (nomark _)) (pss_one (ps_ret (pe_cmpR op_isU (pv 0) pe_non (nomark _)))) pss_nil)
      (pss_cons (ps_if (pt_val (pe_callB call_isi (by rfl) T.b_isinstance (by decide +kernel) (pa_cons (pv 1) (pa_cons (pe_bltn (v := .ty "bool") (by rfl) T.b_bool (by decide +kernel) rfl) pa_nil)))) (pss_one (ps_ret (pe_and (pe_callB call_isi (by rfl) T.b_isinstance (by decide +kernel) (pa_cons (pv 0) (pa_cons (pe_bltn (v := .ty "bool") (by rfl) T.b_bool (by decide +kernel) rfl) pa_nil))) (pe_one (pe_cmpR (op_eqU hr.units) (pv 0) (pv 1) (nomark _)))))) pss_nil)
      (pss_cons (ps_if (pt_val (pe_callB call_isi (by rfl) T.b_isinstance (by decide +kernel) (pa_cons (pv 1) (pa_cons (pe_bltn (v := .ty "int") (by rfl) T.b_int (by decide +kernel) rfl) pa_nil)))) (pss_one (ps_ret (pe_and (pe_callB call_isi (by rfl) T.b_isinstance (by decide +kernel) (pa_cons (pv 0) (pa_cons (pe_bltn (v := .ty "int") (by rfl) T.b_int (by decide +kernel) rfl) pa_nil))) (pe_and (pe_not (pe_callB call_isi (by rfl) T.b_isinstance (by decide +kernel) (pa_cons (pv 0) (pa_cons (pe_bltn (v := .ty "bool") (by rfl) T.b_bool (by decide +kernel) rfl) pa_nil)))) (pe_one (pe_cmpR (op_eqU hr.units) (pv 0) (pv 1) (nomark _))))))) pss_nil)
      (pss_cons (ps_if (pt_val (pe_callB call_isi (by rfl) T.b_isinstance (by decide +kernel) (pa_cons (pv 1) (pa_cons (pe_bltn (v := .ty "str") (by rfl) T.b_str (by decide +kernel) rfl) pa_nil)))) (pss_one (ps_ret (pe_and (pe_callB call_isi (by rfl) T.b_isinstance (by decide +kernel) (pa_cons (pv 0) (pa_cons (pe_bltn (v := .ty "str") (by rfl) T.b_str (by decide +kernel) rfl) pa_nil))) (pe_one (pe_cmpR (op_eqU hr.units) (pv 0) (pv 1) (nomark _)))))) pss_nil)
      (pss_cons (ps_if ((pw_or (pt_cmpR (op_neU hr.units) (pe_callB call_isi (by rfl) T.b_isinstance (by decide +kernel) (pa_cons (pv 1) (pa_cons (pe_bltn (v := .ty "tuple") (by rfl) T.b_tuple (by decide +kernel) rfl) pa_nil))) (pe_callB call_isi (by rfl) T.b_isinstance (by decide +kernel) (pa_cons (pv 0) (pa_cons (pe_bltn (v := .ty "tuple") (by rfl) T.b_tuple (by decide +kernel) rfl) pa_nil))) (nomark _)) (pw_or1 (pt_cmpR (op_neU hr.units) (pe_callB call_isi (by rfl) T.b_isinstance (by decide +kernel) (pa_cons (pv 1) (pa_cons (pe_bltn (v := .ty "list") (by rfl) T.b_list (by decide +kernel) rfl) pa_nil))) (pe_callB call_isi (by rfl) T.b_isinstance (by decide +kernel) (pa_cons (pv 0) (pa_cons (pe_bltn (v := .ty "list") (by rfl) T.b_list (by decide +kernel) rfl) pa_nil))) (nomark _))))).pt (pss_one (ps_ret pe_bl)) pss_nil)
      (pss_cons (ps_if (pt_cmpR (op_neU hr.units) (pe_callB cl_len (by rfl) T.b_len PySem.boot_len (pa_cons (pv 0) pa_nil)) (pe_callB cl_len (by rfl) T.b_len PySem.boot_len (pa_cons (pv 1) pa_nil)) (nomark _)) (pss_one (ps_ret pe_bl)) pss_nil)
      (pss_cons (ps_for PassesOwn.never rfl (pi_range1 (by rfl) T.b_range (pa_cons (pe_callB cl_len (by rfl) T.b_len PySem.boot_len (pa_cons (pv 1) pa_nil)) pa_nil)) (pg_name (i := 2) sc__law_alike.nd rfl (Or.inl rfl)) (pss_one (ps_if (pt_not (pt_val (pe_c c__law_alike hr (Nat.le_refl _) (by rfl) (pa_cons (pe_ix ix_seq (pv 0) (pv 2) (fun _ _ => rfl)) (pa_cons (pe_ix ix_seq (pv 1) (pv 2) (fun _ _ => rfl)) pa_nil))))) (pss_one (ps_ret pe_bl)) pss_nil)))
      (pss_one (ps_ret pe_bl))))))))), ?body⟩
    case' body => try dsimp only [cxD, cxOf]
    case len => rintro ds Q ⟨b, rfl, _⟩; rfl
    case body =>
      rintro ds Q ⟨d, rfl, h, hq⟩ hid H0 D dom hD
      show NJ _ _ _ _ [.im d, .im d, .un]
      cases h with
      | non =>
        refine q_when ?_
        walk_at "go"
        refine bl_yes rfl (nj_ret ?_)
        walk_at "go"
        exact hD.rt _ hq
      | bl b =>
        refine q_when ?_
        walk_at "go"
        refine bl_no rfl (q_when ?_)
        walk_at "go"
        refine ⟨rfl, _, k_bb, bl_yes rfl (nj_ret ?_)⟩
        walk_at "go"
        refine ⟨rfl, _, k_bb, bl_yes rfl ?_⟩
        walk_at "go"
        refine eq_b ?_
        rw [decide_eq_true rfl]
        exact hD.rt _ hq
      | int i =>
        refine q_when ?_
        walk_at "go"
        refine bl_no rfl (q_when ?_)
        walk_at "go"
        refine ⟨rfl, _, k_ib, bl_no rfl (q_when ?_)⟩
        walk_at "go"
        refine ⟨rfl, _, k_ii, bl_yes rfl (nj_ret ?_)⟩
        walk_at "go"
        refine ⟨rfl, _, k_ii, bl_yes rfl ?_⟩
        walk_at "go"
        refine ⟨rfl, _, k_ib, ?_⟩
        walk_at "go"
        refine bl_yes rfl ?_
        walk_at "go"
        rw [decide_eq_true rfl]
        exact hD.rt _ hq
      | str x =>
        refine q_when ?_
        walk_at "go"
        refine bl_no rfl (q_when ?_)
        walk_at "go"
        refine ⟨rfl, _, k_sb, bl_no rfl (q_when ?_)⟩
        walk_at "go"
        refine ⟨rfl, _, k_si, bl_no rfl (q_when ?_)⟩
        walk_at "go"
        refine ⟨rfl, _, k_ss, bl_yes rfl (nj_ret ?_)⟩
        walk_at "go"
        refine ⟨rfl, _, k_ss, bl_yes rfl ?_⟩
        walk_at "go"
        rw [decide_eq_true rfl]
        exact hD.rt _ hq
      | lst hds hl =>
        rename_i es
        refine q_when ?_
        walk_at "go"
        refine bl_no rfl (q_when ?_)
        walk_at "go"
        refine ⟨rfl, _, k_lb, bl_no rfl (q_when ?_)⟩
        walk_at "go"
        refine ⟨rfl, _, k_li, bl_no rfl (q_when ?_)⟩
        walk_at "go"
        refine ⟨rfl, _, k_ls, bl_no rfl (q_when ?_)⟩
        walk_at "go"
        refine ⟨rfl, _, k_lt, ?_⟩
        walk_at "go"
        refine ⟨rfl, _, k_lt, ?_⟩
        refine ne_b (or_no rfl ?_)
        walk_at "go"
        refine ⟨rfl, _, k_ll, ?_⟩
        walk_at "go"
        refine ⟨rfl, _, k_ll, ?_⟩
        refine ne_b (bl_no rfl (q_when ?_))
        walk_at "go"
        refine bl_no (by rw [decide_eq_true rfl]; rfl) ?_
        refine q_for (ij_rng1 ?_)
        walk_at "go"
        refine ⟨es.length, rfl, by omega, by omega, fun i ρ' => ρ' = [.im (.lst es), .im (.lst es), .un], rfl, ?_, ?_⟩
        · rintro H1 e1 i d ρ' hi rfl
          obtain ⟨hil, rfl⟩ := rangeD_at hi
          rw [Int.zero_add]
          have hil' : i < es.length := by omega
          refine tg_name ?_
          walk_at "nm"
          refine nj_when ?_
          walk_at "go"
          refine ix_l (atI_nat (List.getElem?_eq_getElem hil')) ?_
          walk_at "go"
          refine ix_l (atI_nat (List.getElem?_eq_getElem hil')) ?_
          walk_at "go"
          refine sp_j ⟨_, rfl, hds _ (List.getElem_mem hil'), ?_⟩
          refine bl_no rfl ?_
          exact nj_nxw _ rfl (.same (.same (.un .nil)))
        · rintro ρ' rfl
          refine nj_ret ?_
          walk_at "go"
          exact hD.rt _ hq
      | tup hds hl =>
        rename_i es
        refine q_when ?_
        walk_at "go"
        refine bl_no rfl (q_when ?_)
        walk_at "go"
        refine ⟨rfl, _, k_tb, bl_no rfl (q_when ?_)⟩
        walk_at "go"
        refine ⟨rfl, _, k_ti, bl_no rfl (q_when ?_)⟩
        walk_at "go"
        refine ⟨rfl, _, k_ts, bl_no rfl (q_when ?_)⟩
        walk_at "go"
        refine ⟨rfl, _, k_tt, ?_⟩
        walk_at "go"
        refine ⟨rfl, _, k_tt, ?_⟩
        refine ne_b (or_no rfl ?_)
        walk_at "go"
        refine ⟨rfl, _, k_tl, ?_⟩
        walk_at "go"
        refine ⟨rfl, _, k_tl, ?_⟩
        refine ne_b (bl_no rfl (q_when ?_))
        walk_at "go"
        refine bl_no (by rw [decide_eq_true rfl]; rfl) ?_
        refine q_for (ij_rng1 ?_)
        walk_at "go"
        refine ⟨es.length, rfl, by omega, by omega, fun i ρ' => ρ' = [.im (.tup es), .im (.tup es), .un], rfl, ?_, ?_⟩
        · rintro H1 e1 i d ρ' hi rfl
          obtain ⟨hil, rfl⟩ := rangeD_at hi
          rw [Int.zero_add]
          have hil' : i < es.length := by omega
          refine tg_name ?_
          walk_at "nm"
          refine nj_when ?_
          walk_at "go"
          refine ix_t (atI_nat (List.getElem?_eq_getElem hil')) ?_
          walk_at "go"
          refine ix_t (atI_nat (List.getElem?_eq_getElem hil')) ?_
          walk_at "go"
          refine sp_j ⟨_, rfl, hds _ (List.getElem_mem hil'), ?_⟩
          refine bl_no rfl ?_
          exact nj_nxw _ rfl (.same (.same (.un .nil)))
        · rintro ρ' rfl
          refine nj_ret ?_
          walk_at "go"
          exact hD.rt _ hq
end CC

namespace CC
open PySem PySem.Spec PyProof.Rows L2
open C8 (Cal pe_c pe_gc)
local macro_rules | `(tactic| walk_at "ev0") => `(tactic| (first
  | with_reducible refine ev_ixA rfl ?_
  | with_reducible refine ev_op ?_
  | with_reducible refine ev_var rfl ?_
  | with_reducible refine ev_int ?_
  | with_reducible refine ev_str ?_
  | with_reducible refine ev_bl ?_
  | with_reducible refine ev_non ?_
  | with_reducible refine ev_neg ?_
  | with_reducible refine ev_call ?_
  | with_reducible refine ev_tup ?_
  | with_reducible refine ev_chain ?_
  | with_reducible refine ev_andV ?_
  | with_reducible refine ev_orV ?_
  | with_reducible refine ev_notV ?_
  | with_reducible refine ev_isi ?_
  | with_reducible refine lenSet_li ?_
  | with_reducible refine ev_cb ?_
  | with_reducible refine ea_nil ?_
  | with_reducible refine ea_cons ?_
  | with_reducible refine et_test ?_
  | with_reducible refine et_B ?_
  | with_reducible refine et_and ?_
  | with_reducible refine et_or ?_
  | with_reducible refine et_not ?_
  | with_reducible refine et_yes ?_
  | with_reducible refine eo_none ?_
  | with_reducible refine eo_some ?_
  | with_reducible refine add_i ?_
  | with_reducible refine sub_i ?_
  | with_reducible refine lt_i ?_
  | with_reducible refine le_i ?_
  | with_reducible refine gt_i ?_
  | with_reducible refine ge_i ?_
  | with_reducible refine eq_i ?_
  | with_reducible refine ne_i ?_
  | with_reducible refine eq_s ?_
  | with_reducible refine ne_s ?_
  | with_reducible refine lenOk (by (dsimp only [List.length_cons, List.length_nil]; decide)) ?_
  | with_reducible refine len_li ?_
  | with_reducible refine len_ti ?_
  | with_reducible refine len_l ?_
  | with_reducible refine len_t ?_
  | with_reducible refine tuple_l ?_
  | with_reducible refine tuple_t ?_
  | with_reducible refine is_n ?_
  | with_reducible refine isnot_n ?_
  | with_reducible refine min_li (by assumption) ?_
  | with_reducible refine max_li (by assumption) ?_
  | with_reducible refine ix_h (by assumption) ?_
  | with_reducible refine add_t (by (dsimp only [List.length_cons, List.length_nil]; decide)) ?_
  | with_reducible refine ix_t0 ?_
  | with_reducible refine ix_t1 ?_
  | with_reducible refine ix_t2 ?_
  | with_reducible refine ix_t3 ?_
  | with_reducible refine ix_t4 ?_
  | with_reducible refine ix_t5 ?_
  | with_reducible refine ix_l0 ?_
  | with_reducible refine ix_l1 ?_
  | with_reducible refine ix_l2 ?_
  | with_reducible refine ix_l3 ?_
  | with_reducible refine ix_l4 ?_
  | with_reducible refine ix_l5 ?_
  | with_reducible refine intJ ?_
  | with_reducible refine blJ ?_
  | with_reducible refine lstJ ?_
  | with_reducible refine tupJ ?_
  | with_reducible refine mul_iR (by omega) (by omega) ?_
  | with_reducible refine mul_iL (by omega) (by omega) ?_
  | with_reducible refine div_iP (by omega) (by omega) ?_
  | with_reducible refine mod_i (by omega) ?_
  | with_reducible refine etj ?_))
local macro_rules | `(tactic| walk_at "ev") => `(tactic| (first
  | walk_at "ev0"
  | with_reducible refine ev_if ?_))
local macro_rules | `(tactic| walk_at "go0") => `(tactic| (repeat walk_at "ev0"))
local macro_rules | `(tactic| walk_at "nm") => `(tactic| try dsimp only [wipeS, List.set_cons_zero, List.set_cons_succ])
local macro_rules | `(tactic| walk_at "go") => `(tactic| (repeat walk_at "ev"))
/-! the law's own packing -/
def S__law_per (ds : List Dt) (Q : Dt → Prop) : Prop := ∃ b : Int, ds = [.int b] ∧ 2 ≤ b ∧ b ≤ 10000 ∧ Q (.int (perB b : Nat))
abbrev sp__law_per (K : PySem.W.Frag) : Sp := spP K S__law_per
theorem ok__law_per {P : Program} {w : World} {K : PySem.W.Frag} {mg : Str → Option Value} {base : Heap} (T : Txt K mg)  : Cal P w K mg base 1 "_law_per" (sp__law_per K) [] := by
  refine cal_pure T.f__law_per sc__law_per ?len fun f cdv A outer s H E hr => ⟨_, (pss_cons (ps_set (i := 1) sc__law_per.nd rfl (Or.inl rfl) pe_int)
      (pss_cons (ps_set (i := 2) sc__law_per.nd rfl (Or.inl rfl) pe_int)
      (pss_cons (ps_while PassesOwn.never (pt_cmpR op_leU (pe_op op_mulU (pv 2) (pv 0)) pe_int (nomark _)) (pss_cons (ps_set (i := 2) sc__law_per.nd rfl (Or.inl rfl) (pe_op op_mulU (pv 2) (pv 0)))
      (pss_one (ps_set (i := 1) sc__law_per.nd rfl (Or.inl rfl) (pe_op op_addU (pv 1) pe_int)))))
      (pss_one (ps_ret (pv 1)))))), ?body⟩
  case' body => try dsimp only [cxD, cxOf]
  case len => rintro ds Q ⟨b, rfl, _⟩; rfl
  case body =>
    rintro ds Q ⟨b, rfl, h2, h3, hq⟩ hid H0 D dom hD
    show NJ _ _ _ _ [.im (.int b), .un, .un]
    refine q_asg ?_
    walk_at "go"
    walk_at "nm"
    refine q_asg ?_
    walk_at "go"
    walk_at "nm"
    refine (q_while (fun mm ρ' => ∃ (x : Int) (j : Nat), ρ' = [.im (.int b), .im (.int (j : Nat)), .im (.int x)] ∧ 1 ≤ x ∧ x ≤ 10000 ∧ (x * b ≤ 10000 → ∃ m, mm = m + 1 ∧ perB b = j + (powB b m x).length ∧ 2 ^ (14 - m) ≤ x ∧ m ≤ 14) ∧ (10000 < x * b → perB b = j)) 15 ?_ ?_)
    · exact ⟨1, 0, rfl, by decide, by decide, fun _ => ⟨14, rfl, by rw [Nat.zero_add]; rfl, by decide, by decide⟩, fun h => by omega⟩
    · rintro mm ρ' ⟨x, j, rfl, x1, x2, i1, i2⟩
      refine etj (et_test ?_)
      walk_at "go"
      refine bl_two (fun hc => ?_) (fun hc => ?_)
      · obtain ⟨m, rfl, e, hp, hm⟩ := i1 hc
        refine q_asg ?_
        walk_at "go"
        walk_at "nm"
        refine nj_asg ?_
        walk_at "go"
        walk_at "nm"
        have hxx : x ≤ x * b := by
          have : x * 1 ≤ x * b := Int.mul_le_mul_of_nonneg_left (by omega) (by omega)
          omega
        cases m with
        | zero =>
          exfalso
          have : (2 : Int) ^ (14 - 0) = 16384 := by decide
          omega
        | succ m =>
          by_cases h4 : x * b * b ≤ 10000
          · refine nj_nx ⟨m + 1, by omega, x * b, j + 1, by rw [Int.natCast_add]; rfl, by omega, hc, fun _ => ⟨m, rfl, ?_, ?_, by omega⟩, fun z => by omega⟩
            · rw [e, powB, if_pos h4, List.length_cons]; omega
            · have e1 : 14 - m = (14 - (m + 1)) + 1 := by omega
              rw [e1, Int.pow_succ]
              exact Int.mul_le_mul hp h2 (by decide) (by omega)
          · refine nj_nx ⟨0, by omega, x * b, j + 1, by rw [Int.natCast_add]; rfl, by omega, hc, fun z => absurd z h4, fun _ => ?_⟩
            rw [e, powB, if_neg h4]; rfl
      · refine nj_ret ?_
        walk_at "go"
        have e := i2 (by omega)
        rw [e] at hq
        exact hD.rt _ hq
theorem cut_step {vs : List Int} {b p : Nat} : cutD (vs.map Dt.int) (some (b : Int)) (some ((b : Int) + (p : Int))) = ((vs.drop b).take p).map Dt.int := by
  unfold cutD
  rw [show ((b : Int) + (p : Int)) = ((b + p : Nat) : Int) by omega, HT.sIx_nat, HT.sIx_nat, List.length_map, ← List.map_drop, ← List.map_take]
  by_cases h : b ≤ vs.length
  · rw [Nat.min_eq_left h]
    congr 1
    by_cases h2 : b + p ≤ vs.length
    · rw [Nat.min_eq_left h2, show b + p - b = p by omega]
    · rw [Nat.min_eq_right (by omega), List.take_of_length_le (by rw [List.length_drop]; omega), List.take_of_length_le (by rw [List.length_drop]; omega)]
  · have e1 : min b vs.length = vs.length := by omega
    rw [e1, List.drop_of_length_le (Nat.le_refl _), List.drop_of_length_le (l := vs) (i := b) (by omega), List.take_nil, List.take_nil]
def S__law_packed (ds : List Dt) (Q : Dt → Prop) : Prop := ∃ (b : Int) (vs : List Int), ds = [.int b, dL vs] ∧ 2 ≤ b ∧ b ≤ 10000 ∧ vs.length ≤ 1000 ∧ Q (dT (packI b vs))
abbrev sp__law_packed (K : PySem.W.Frag) : Sp := spP K S__law_packed
theorem ok__law_packed {P : Program} {w : World} {K : PySem.W.Frag} {mg : Str → Option Value} {base : Heap} (T : Txt K mg) (c__law_per : Cal P w K mg base 1 "_law_per" (sp__law_per K) []) : Cal P w K mg base 2 "_law_packed" (sp__law_packed K) [] := by
  refine cal_pure T.f__law_packed sc__law_packed ?len fun f cdv A outer s H E hr => ⟨_, (pss_cons (ps_set (i := 2) sc__law_packed.nd rfl (Or.inl rfl) (pe_c c__law_per hr (by decide) (by rfl) (pa_cons (pv 0) pa_nil)))
      (pss_cons (ps_set (i := 3) sc__law_packed.nd rfl (Or.inl rfl) (pe_lst pa_nil))
      (pss_cons (ps_for PassesOwn.never rfl (pi_range3 (by rfl) T.b_range (pa_cons pe_int (pa_cons (pe_callB cl_len (by rfl) T.b_len PySem.boot_len (pa_cons (pv 1) pa_nil)) (pa_cons (pv 2) pa_nil)))) (pg_name (i := 4) sc__law_packed.nd rfl (Or.inl rfl)) (pss_cons (ps_set (i := 5) sc__law_packed.nd rfl (Or.inl rfl) pe_int)
      (pss_cons (ps_for PassesOwn.never rfl (pi_list (pe_revL (pe_slice sl_list (pv 1) (po_some (pv 4)) (po_some (pe_op op_addU (pv 4) (pv 2)))))) (pg_name (i := 6) sc__law_packed.nd rfl (Or.inl rfl)) (pss_one (ps_set (i := 5) sc__law_packed.nd rfl (Or.inl rfl) (pe_op op_addU (pe_op op_mulU (pv 5) (pv 0)) (pv 6)))))
      (pss_one (ps_expr (pe_bm PySem.F.plainAttrs_list PySem.F.slot_list_append PySem.F.type_list_append mt_append (pv 3) (pa_cons (pv 5) pa_nil)))))))
      (pss_one (ps_ret (pe_callTy cl_tuple (by rfl) T.b_tuple (by decide +kernel) (pa_cons (pv 3) pa_nil))))))), ?body⟩
  case' body => try dsimp only [cxD, cxOf]
  case len => rintro ds Q ⟨b, n, rfl, _⟩; rfl
  case body =>
    rintro ds Q ⟨b, vs, rfl, h2, h3, hl, hq⟩ hid H0 D dom hD
    show NJ _ _ _ _ [.im (.int b), .im (dL vs), .un, .un, .un, .un, .un]
    have hp := perB_pos b
    have hp2 := perB_le b
    have hpk := packI_len b vs
    have hcl : (chunks (perB b) vs).length = (packI b vs).length := by unfold packI; rw [List.length_map]
    refine q_asg ?_
    walk_at "go"
    refine sp_j ⟨b, rfl, h2, h3, ?_⟩
    walk_at "nm"
    refine (q_asgN (en_lst (ea_nil ⟨by decide, ?_⟩)))
    walk_at "nm"
    refine q_for (ij_rng3 ?_)
    walk_at "go"
    have ez : (((vs.length : Int) + (perB b : Int) - 1) / (perB b : Int)).toNat = (packI b vs).length := by
      rw [hpk, show ((vs.length : Int) + (perB b : Int) - 1) = ((vs.length + perB b - 1 : Nat) : Int) by omega, ← Int.natCast_ediv, Int.toNat_natCast]
    refine ⟨0, vs.length, perB b, (packI b vs).length, rfl, by rw [← ez]; exact RgC.up (by omega) (by omega) (by omega) (by omega), fun i ρ' => ρ' = [.im (.int b), .im (dL vs), .im (.int (perB b : Nat)), .ac (((packI b vs).take i).map Dt.int), .un, .un, .un], ?_, ?_, ?_⟩
    · show _ = _
      rw [List.take_zero]; rfl
    · rintro H1 e1 i d ρ' hi rfl
      obtain ⟨hil, rfl⟩ := rangeC_at hi
      have hk : i * perB b < vs.length := by
        have h5 : i * perB b ≤ ((packI b vs).length - 1) * perB b := Nat.mul_le_mul_right _ (by omega)
        have h6 : (packI b vs).length * perB b ≤ vs.length + perB b - 1 := by rw [hpk]; exact Nat.div_mul_le_self _ _
        have h7 : ((packI b vs).length - 1) * perB b = (packI b vs).length * perB b - perB b := by rw [Nat.sub_mul, Nat.one_mul]
        have h8 : perB b ≤ (packI b vs).length * perB b := Nat.le_mul_of_pos_left _ (by omega)
        omega
      have hch := chunks_at hp _ vs (i * perB b) (Nat.le_refl _) hk
      rw [Nat.mul_div_cancel _ (by omega), Nat.mul_comm (perB b) i] at hch
      have hpi : (packI b vs)[i]? = some (dsum b ((vs.drop (i * perB b)).take (perB b))) := by
        unfold packI
        rw [List.getElem?_map, hch]; rfl
      rw [show (0 : Int) + ((i : Nat) : Int) * ((perB b : Nat) : Int) = ((i * perB b : Nat) : Int) by rw [Int.natCast_mul, Int.zero_add]]
      generalize hbg : i * perB b = bg at hch hpi hk
      generalize hcs : (vs.drop bg).take (perB b) = ch at hch hpi
      have hchl : ch.length ≤ 15 := by rw [← hcs, List.length_take]; omega
      refine tg_name ?_
      walk_at "nm"
      refine q_asg ?_
      walk_at "go"
      walk_at "nm"
      refine q_for (ij_list (EN.ev (en_rev ?_)))
      walk_at "go"
      refine EN.ev (en_sl ?_)
      walk_at "go"
      rw [cut_step, hcs]
      walk_at "go"
      rw [← List.map_reverse]
      refine ⟨fun j ρ' => ρ' = [.im (.int b), .im (dL vs), .im (.int (perB b : Nat)), .ac (((packI b vs).take i).map Dt.int), .im (.int (bg : Nat)), .im (.int (dsum b (ch.reverse.take j).reverse)), .un], ?_, ?_, ?_⟩
      · rfl
      · rintro H2 e2 j d ρ' hj rfl
        obtain ⟨x, hx, rfl⟩ := ints_at hj
        refine tg_name ?_
        walk_at "nm"
        refine nj_asg ?_
        walk_at "go"
        walk_at "nm"
        refine nj_nxw _ rfl ?_
        have e : (ch.reverse.take (j + 1)).reverse = x :: (ch.reverse.take j).reverse := by rw [List.take_add_one, hx, List.reverse_append]; rfl
        have e2 : dsum b (x :: (ch.reverse.take j).reverse) = dsum b (ch.reverse.take j).reverse * b + x := by
          show x + b * _ = _
          rw [Int.mul_comm]; omega
        rw [e, e2]
        exact .same (.same (.same (.same (.same (.same (.un .nil))))))
      · rintro ρ' rfl
        rw [List.length_map, List.take_length, List.reverse_reverse]
        refine nj_app rfl ?_ ?_
        · rw [List.length_map, List.length_take, hpk]
          have := Nat.div_le_self (vs.length + perB b - 1) (perB b)
          omega
        walk_at "go"
        walk_at "nm"
        refine nj_nxw _ rfl ?_
        rw [List.take_add_one, hpi, List.map_append]
        exact .same (.same (.same (.same (.un (.un (.un .nil))))))
    · rintro ρ' rfl
      refine nj_share (i := 3) rfl ?_
      walk_at "nm"
      refine nj_ret ?_
      walk_at "go"
      rw [rangeC_len, List.take_length]
      exact hD.rt _ hq
end CC

namespace CC
open PySem PySem.Spec PyProof.Rows L2
open C8 (Cal pe_c pe_gc)
open LamX (CodeO)
local macro_rules | `(tactic| walk_at "ev0") => `(tactic| (first
  | with_reducible refine ev_ixA rfl ?_
  | with_reducible refine ev_op ?_
  | with_reducible refine ev_var rfl ?_
  | with_reducible refine ev_int ?_
  | with_reducible refine ev_str ?_
  | with_reducible refine ev_bl ?_
  | with_reducible refine ev_non ?_
  | with_reducible refine ev_neg ?_
  | with_reducible refine ev_call ?_
  | with_reducible refine ev_tup ?_
  | with_reducible refine ev_chain ?_
  | with_reducible refine ev_andV ?_
  | with_reducible refine ev_orV ?_
  | with_reducible refine ev_notV ?_
  | with_reducible refine ev_isi ?_
  | with_reducible refine lenSet_li ?_
  | with_reducible refine ev_cb ?_
  | with_reducible refine ea_nil ?_
  | with_reducible refine ea_cons ?_
  | with_reducible refine et_test ?_
  | with_reducible refine et_B ?_
  | with_reducible refine et_and ?_
  | with_reducible refine et_or ?_
  | with_reducible refine et_not ?_
  | with_reducible refine et_yes ?_
  | with_reducible refine eo_none ?_
  | with_reducible refine eo_some ?_
  | with_reducible refine add_i ?_
  | with_reducible refine sub_i ?_
  | with_reducible refine lt_i ?_
  | with_reducible refine le_i ?_
  | with_reducible refine gt_i ?_
  | with_reducible refine ge_i ?_
  | with_reducible refine eq_i ?_
  | with_reducible refine ne_i ?_
  | with_reducible refine eq_s ?_
  | with_reducible refine ne_s ?_
  | with_reducible refine lenOk (by (dsimp only [List.length_cons, List.length_nil]; decide)) ?_
  | with_reducible refine len_li ?_
  | with_reducible refine len_ti ?_
  | with_reducible refine len_l ?_
  | with_reducible refine len_t ?_
  | with_reducible refine tuple_l ?_
  | with_reducible refine tuple_t ?_
  | with_reducible refine is_n ?_
  | with_reducible refine isnot_n ?_
  | with_reducible refine min_li (by assumption) ?_
  | with_reducible refine max_li (by assumption) ?_
  | with_reducible refine ix_h (by assumption) ?_
  | with_reducible refine add_t (by (dsimp only [List.length_cons, List.length_nil]; decide)) ?_
  | with_reducible refine ix_t0 ?_
  | with_reducible refine ix_t1 ?_
  | with_reducible refine ix_t2 ?_
  | with_reducible refine ix_t3 ?_
  | with_reducible refine ix_t4 ?_
  | with_reducible refine ix_t5 ?_
  | with_reducible refine ix_l0 ?_
  | with_reducible refine ix_l1 ?_
  | with_reducible refine ix_l2 ?_
  | with_reducible refine ix_l3 ?_
  | with_reducible refine ix_l4 ?_
  | with_reducible refine ix_l5 ?_
  | with_reducible refine intJ ?_
  | with_reducible refine blJ ?_
  | with_reducible refine lstJ ?_
  | with_reducible refine tupJ ?_
  | with_reducible refine mul_iR (by omega) (by omega) ?_
  | with_reducible refine mul_iL (by omega) (by omega) ?_
  | with_reducible refine div_iP (by omega) (by omega) ?_
  | with_reducible refine mod_i (by omega) ?_
  | with_reducible refine etj ?_))
local macro_rules | `(tactic| walk_at "ev") => `(tactic| (first
  | walk_at "ev0"
  | with_reducible refine ev_if ?_))
local macro_rules | `(tactic| walk_at "go0") => `(tactic| (repeat walk_at "ev0"))
local macro_rules | `(tactic| walk_at "nm") => `(tactic| try dsimp only [wipeS, List.set_cons_zero, List.set_cons_succ])
local macro_rules | `(tactic| walk_at "go") => `(tactic| (repeat walk_at "ev"))
/-! the class of a refusal -/
def sp__law_class (K : PySem.W.Frag) : SpC := fun a cls d vs H Q _ => vs = [.ref a] ∧ ∃ nm fs, nm ∈ rzN ∧ nm ∈ clsN ∧ cls = .ref (He.ga K nm) ∧ (∀ dd, d = some dd → H dd = some (.xd fs)) ∧ ∀ H', Ex none0 H H' → Q (.str nm) H'
theorem cls_ref {a : Addr} : ∀ u : Value, RelV (V.ref a) u → u = Value.ref a := fun u h => h
theorem cls_ty {x : String} : ∀ u : Value, RelV (V.ty x) u → u = Value.type x := fun u h => h
def kindsOf (nm : Str) : List Bool := clsN.map fun C => decide (nm = C)
theorem kinds_ok {nm : Str} (h : nm ∈ clsN) : ∃ j : Nat, (kindsOf nm)[j]? = some true ∧ (∀ m, m < j → (kindsOf nm)[m]? = some false) ∧ (kindsOf nm).countP id = 1 ∧ clsN[j]? = some nm := by
  have key : ∀ nm ∈ clsN, ∃ j : Fin 13, (kindsOf nm)[j.1]? = some true ∧ (∀ m : Fin 13, m.1 < j.1 → (kindsOf nm)[m.1]? = some false) ∧ (kindsOf nm).countP id = 1 ∧ clsN[j.1]? = some nm := by decide +kernel
  obtain ⟨j, h1, h2, h3, h4⟩ := key nm h
  exact ⟨j.1, h1, fun m hm => h2 ⟨m, by omega⟩ hm, h3, h4⟩
theorem ok__law_class {P : Program} {w : World} {K : PySem.W.Frag} {mg : Str → Option Value} {base : Heap} (T : Txt K mg)  : CalE P w K mg base 1 "_law_class" (sp__law_class K) := by
  obtain ⟨f, fd, hm, F, bi⟩ := T.f__law_class
  refine ⟨⟨f, fd, _, fn_ofE (k := 0) F sc__law_class ?len (fun cdv A outer s H vs Q E p hr h => ?body), hm, F.kp, bi⟩⟩
  case len => rintro p vs H Q E ⟨cls, d, _, _, rfl, _⟩; rfl
  case body =>
    obtain ⟨cls, d, hz, hf, rfl, nm, fs, hD, hC, rfl, hdd, hq⟩ := h
    have exc := T.cls.exc nm hD
    have hp : (p.1, p.2) ∈ (cxE P w K mg base ["_law_e", "_law_kinds", "_law_words"] "_law_class" s__law_class f cdv A outer s H E p).pn := List.mem_singleton.mpr rfl
    refine ⟨_, (pss_cons (ps_set (i := 1) sc__law_class.nd rfl (Or.inl rfl) (pe_lst (pa_cons (pe_callB (call_isA exc hp hz hf) (by rfl) T.b_isinstance (by decide +kernel) (pa_cons (pv 0) (pa_cons (pe_gc (by rfl) (show ∃ u, mg "BadNumber" = some u ∧ RelV (.ref (He.ga K "BadNumber")) u from ⟨_, T.g_BadNumber, rfl⟩)) pa_nil))) (pa_cons (pe_callB (call_isA exc hp hz hf) (by rfl) T.b_isinstance (by decide +kernel) (pa_cons (pv 0) (pa_cons (pe_gc (by rfl) (show ∃ u, mg "BadValues" = some u ∧ RelV (.ref (He.ga K "BadValues")) u from ⟨_, T.g_BadValues, rfl⟩)) pa_nil))) (pa_cons (pe_callB (call_isA exc hp hz hf) (by rfl) T.b_isinstance (by decide +kernel) (pa_cons (pv 0) (pa_cons (pe_gc (by rfl) (show ∃ u, mg "NoForm" = some u ∧ RelV (.ref (He.ga K "NoForm")) u from ⟨_, T.g_NoForm, rfl⟩)) pa_nil))) (pa_cons (pe_callB (call_isA exc hp hz hf) (by rfl) T.b_isinstance (by decide +kernel) (pa_cons (pv 0) (pa_cons (pe_gc (by rfl) (show ∃ u, mg "BadPrices" = some u ∧ RelV (.ref (He.ga K "BadPrices")) u from ⟨_, T.g_BadPrices, rfl⟩)) pa_nil))) pa_nil))))))
      (pss_cons (ps_set (i := 1) sc__law_class.nd rfl (Or.inl rfl) (pe_op op_addU (pv 1) (pe_lst (pa_cons (pe_callB (call_isA exc hp hz hf) (by rfl) T.b_isinstance (by decide +kernel) (pa_cons (pv 0) (pa_cons (pe_gc (by rfl) (show ∃ u, mg "BadKinds" = some u ∧ RelV (.ref (He.ga K "BadKinds")) u from ⟨_, T.g_BadKinds, rfl⟩)) pa_nil))) (pa_cons (pe_callB (call_isA exc hp hz hf) (by rfl) T.b_isinstance (by decide +kernel) (pa_cons (pv 0) (pa_cons (pe_gc (by rfl) (show ∃ u, mg "BadRows" = some u ∧ RelV (.ref (He.ga K "BadRows")) u from ⟨_, T.g_BadRows, rfl⟩)) pa_nil))) (pa_cons (pe_callB (call_isA exc hp hz hf) (by rfl) T.b_isinstance (by decide +kernel) (pa_cons (pv 0) (pa_cons (pe_gc (by rfl) (show ∃ u, mg "BadCondition" = some u ∧ RelV (.ref (He.ga K "BadCondition")) u from ⟨_, T.g_BadCondition, rfl⟩)) pa_nil))) pa_nil))))))
      (pss_cons (ps_set (i := 1) sc__law_class.nd rfl (Or.inl rfl) (pe_op op_addU (pv 1) (pe_lst (pa_cons (pe_callB (call_isA exc hp hz hf) (by rfl) T.b_isinstance (by decide +kernel) (pa_cons (pv 0) (pa_cons (pe_gc (by rfl) (show ∃ u, mg "BadColumn" = some u ∧ RelV (.ref (He.ga K "BadColumn")) u from ⟨_, T.g_BadColumn, rfl⟩)) pa_nil))) (pa_cons (pe_callB (call_isA exc hp hz hf) (by rfl) T.b_isinstance (by decide +kernel) (pa_cons (pv 0) (pa_cons (pe_gc (by rfl) (show ∃ u, mg "BadHeap" = some u ∧ RelV (.ref (He.ga K "BadHeap")) u from ⟨_, T.g_BadHeap, rfl⟩)) pa_nil))) (pa_cons (pe_callB (call_isA exc hp hz hf) (by rfl) T.b_isinstance (by decide +kernel) (pa_cons (pv 0) (pa_cons (pe_gc (by rfl) (show ∃ u, mg "TooMany" = some u ∧ RelV (.ref (He.ga K "TooMany")) u from ⟨_, T.g_TooMany, rfl⟩)) pa_nil))) (pa_cons (pe_callB (call_isA exc hp hz hf) (by rfl) T.b_isinstance (by decide +kernel) (pa_cons (pv 0) (pa_cons (pe_gc (by rfl) (show ∃ u, mg "BadBlock" = some u ∧ RelV (.ref (He.ga K "BadBlock")) u from ⟨_, T.g_BadBlock, rfl⟩)) pa_nil))) pa_nil)))))))
      (pss_cons (ps_set (i := 1) sc__law_class.nd rfl (Or.inl rfl) (pe_op op_addU (pv 1) (pe_lst (pa_cons (pe_callB (call_isA exc hp hz hf) (by rfl) T.b_isinstance (by decide +kernel) (pa_cons (pv 0) (pa_cons (pe_gc (by rfl) (show ∃ u, mg "Stopped" = some u ∧ RelV (.ref (He.ga K "Stopped")) u from ⟨_, T.g_Stopped, rfl⟩)) pa_nil))) (pa_cons (pe_callB (call_isA exc hp hz hf) (by rfl) T.b_isinstance (by decide +kernel) (pa_cons (pv 0) (pa_cons (pe_gc (by rfl) (show ∃ u, mg "BadText" = some u ∧ RelV (.ref (He.ga K "BadText")) u from ⟨_, T.g_BadText, rfl⟩)) pa_nil))) pa_nil)))))
      (pss_cons (ps_set (i := 2) sc__law_class.nd rfl (Or.inl rfl) (pe_lst (pa_cons pe_str (pa_cons pe_str (pa_cons pe_str (pa_cons pe_str (pa_cons pe_str (pa_cons pe_str (pa_cons pe_str (pa_cons pe_str pa_nil))))))))))
      (pss_cons (ps_set (i := 2) sc__law_class.nd rfl (Or.inl rfl) (pe_op op_addU (pv 2) (pe_lst (pa_cons pe_str (pa_cons pe_str (pa_cons pe_str (pa_cons pe_str (pa_cons pe_str pa_nil))))))))
      (pss_one (ps_ret (pe_ifExp ((pw_and (pt_cmpR (op_eqU (unitsH hr)) (pe_bm PySem.F.plainAttrs_list PySem.F.slot_list_count PySem.F.type_list_count mt_countV (pv 1) (pa_cons pe_bl pa_nil)) pe_int (nomark _)) (pw_and1 (pt_val (pe_callB (call_isA exc hp hz hf) (by rfl) T.b_isinstance (by decide +kernel) (pa_cons (pv 0) (pa_cons (pe_bltn (v := .ty "ValueError") (by rfl) T.b_ValueError (by decide +kernel) rfl) pa_nil))))))).pt (pe_ix ix_seq (pv 2) (pe_bm PySem.F.plainAttrs_list PySem.F.slot_list_index PySem.F.type_list_index mt_index (pv 1) (pa_cons pe_bl pa_nil)) (fun _ _ => rfl)) pe_str))))))))), ?_⟩
    dsimp only [cxE, L2H.cxH, cxOf]
    refine nj_at (c := cnX K d fs) (hid := none0) (ρ := [.rw (.ref p.1), .un, .un]) (H0 := H) ?_ (sd_raw (c := cnX K d fs) (hid := none0) (fun _ h => nomatch h) (fun _ h => nomatch h) (fun dd e => by rw [hm_of rfl]; exact hdd dd e) [some (.ref p.1), none, none])
    have kt := fun C hC => T.cls.kit nm hD C hC
    obtain ⟨j, j1, j2, j3, j4⟩ := kinds_ok hC
    refine q_asg (EN.ev (en_lst ?_))
    iterate 4
      refine ea_cons (ev_isA rfl cls_ref (kt _ (by decide)) ?_)
    refine ea_nil (lenOk (by dsimp only [List.length_cons, List.length_nil]; decide) ?_)
    walk_at "nm"
    refine q_asg ?_
    walk_at "go"
    refine EN.ev (en_lst ?_)
    iterate 3
      refine ea_cons (ev_isA rfl cls_ref (kt _ (by decide)) ?_)
    refine ea_nil (lenOk (by dsimp only [List.length_cons, List.length_nil]; decide) ?_)
    refine R2N.j (add_l (by simp only [List.length_cons, List.length_nil]; omega) ?_)
    walk_at "nm"
    refine q_asg ?_
    walk_at "go"
    refine EN.ev (en_lst ?_)
    iterate 4
      refine ea_cons (ev_isA rfl cls_ref (kt _ (by decide)) ?_)
    refine ea_nil (lenOk (by dsimp only [List.length_cons, List.length_nil]; decide) ?_)
    refine R2N.j (add_l (by simp only [List.length_append, List.length_cons, List.length_nil]; omega) ?_)
    walk_at "nm"
    refine q_asg ?_
    walk_at "go"
    refine EN.ev (en_lst ?_)
    iterate 2
      refine ea_cons (ev_isA rfl cls_ref (kt _ (by decide)) ?_)
    refine ea_nil (lenOk (by dsimp only [List.length_cons, List.length_nil]; decide) ?_)
    refine R2N.j (add_l (by simp only [List.length_append, List.length_cons, List.length_nil]; omega) ?_)
    walk_at "nm"
    refine q_asg (EN.ev (en_lst ?_))
    walk_at "go"
    walk_at "nm"
    refine q_asg ?_
    walk_at "go"
    refine EN.ev (en_lst ?_)
    walk_at "go"
    refine R2N.j (add_l (by simp only [List.length_append, List.length_cons, List.length_nil]; omega) ?_)
    walk_at "nm"
    show NJ _ _ _ _ [_, .im (.lst ((kindsOf nm).map Dt.bl)), .im (.lst (clsN.map Dt.str))]
    refine nj_ret ?_
    refine ev_if ?_
    refine et_and ?_
    refine et_test ?_
    walk_at "go"
    refine ev_countB rfl ?_
    walk_at "go"
    refine ⟨kindsOf nm, rfl, ?_⟩
    rw [j3]
    walk_at "go"
    refine bl_yes rfl ?_
    refine et_B (ev_isA rfl cls_ty (T.cls.kitV nm hD) ?_)
    refine blJ (bl_yes rfl ?_)
    walk_at "go"
    refine ev_indexB rfl ?_
    walk_at "go"
    refine ⟨kindsOf nm, j, rfl, j1, j2, ?_⟩
    refine ix_l (d := .str nm) (atI_nat (by rw [List.getElem?_map, j4]; rfl)) ?_
    intro v H' e _ r
    cases r
    exact hq H' e
/-! what is told, or the refusal -/
theorem ev_cls {K : PySem.W.Frag} {ρ : List Sl} {Q : Dt → Prop} {i : Nat} {a : Addr} {nm : Str} {d : Option Addr} {fs : List (Str × V)} (hi : ρ[i]? = some (.rw (.ref a))) (hD : nm ∈ rzN) (hC : nm ∈ clsN) (h : Q (.str nm)) : EV (cnX K d fs) (tCallC (sp__law_class K) a (.ref (He.ga K nm)) d (tCons (tVar i) tNil)) ρ Q := fun hd H σ s Qh q =>
  ⟨.ref a, rw_get s.slots hi, rfl, nm, fs, hD, hC, rfl, fun dd e => hm_le (s.inv dd e), fun H' e => q _ _ H' h (e.up (c := cnX K d fs)) ((cnX K d fs).keep0 e s.inv) (.str nm)⟩
abbrev sp__law_told (P : Program) (w : World) (K : PySem.W.Frag) (mg : Str → Option Value) (B : Heap) : Sp := spT P w K mg rzN 14 B
def plF : Option Int → List (Str × V)
  | none => []
  | some i => [("place", .int i)]
theorem ok__law_told {P : Program} {w : World} {K : PySem.W.Frag} {mg : Str → Option Value} {base : Heap} (T : Txt K mg) (c__law_class : CalE P w K mg base 1 "_law_class" (sp__law_class K)) : Cal P w K mg base 15 "_law_told" (sp__law_told P w K mg base) [] := by
  obtain ⟨f, fd, hm, F, bi⟩ := T.f__law_told
  refine ⟨⟨f, fd, _, [], F.ok sc__law_told ?len (fun cdv A outer s H vs Q E hr h => ?body), hm, F.kp, bi, .nil⟩⟩
  case len => rintro vs H Q E ⟨f, sp, rfl, _⟩; rfl
  case body =>
    obtain ⟨fl, sp, rfl, ac, h⟩ := h
    refine ⟨_, pss_one (ps_try_as (X := (cxOf C8.CX0 P w K mg base ["_law_work", "_law_e", "_law_word"] "_law_told" (defScope s__law_told) f cdv A outer s H E).nox) (i := 1) (c := .ref (He.ga K "ColumnError")) (n := "_law_e")
      (tb := fun W => tRet (tAct P w K mg base 14 0 W))
      (ts := fun a cls d => tSeq (tAsg (tCallC (sp__law_class K) a cls d (tCons (tVar 1) tNil)) (gName 2)) (tRet (tTup (tCons (tVar 2) (tCons (tIf (tTest (tOp (rInU K) (tVar 2) (tTup (tCons (tC (.str "BadValues")) (tCons (tC (.str "BadRows")) (tCons (tC (.str "BadText")) tNil)))))) (tXfA K a cls d "place" (tVar 1)) (tC (.int 0))) tNil)))))
      (Wout := fun _ _ _ _ => False) rfl rfl sc__law_told.nd rfl rfl ⟨(by rfl), by decide, .inl T.g_ColumnError⟩ LamX.takes0 (fun W pn xe tk _ => pss_one (ps_ret (pe_actB (hr.mono (by decide)) tk rfl (Or.inl rfl))))
      (fun a oe cls d pn hz hf => (pss_cons (ps_set (i := 2) sc__law_told.nd rfl (Or.inl rfl) (pe_callC c__law_class ((roomH_mark (hr.mono (by decide)))) List.mem_cons_self hz hf (by rfl) (pa_cons (pv 1) pa_nil)))
        (pss_one (ps_ret (pe_tup (pa_cons (pv 2) (pa_cons (pe_ifExp (pt_cmpR op_inU (pv 2) (pe_tup (pa_cons pe_str (pa_cons pe_str (pa_cons pe_str pa_nil)))) rfl) (pe_xfA hz hf (pv 1)) pe_int) pa_nil)))))))), ?_⟩
    refine ⟨fl, sp, rfl, ac, h _ ?_⟩
    rintro cls d H' ⟨nm, pl, hid, hD, hpd, rfl, hpl, dom, hfr, hq⟩
    refine ⟨true, T.cls.exm nm hD, fun _ a ha => ?_, fun z => nomatch z⟩
    have hin : ∀ nm ∈ rzN, nm ∈ clsN ∧ inV (.str nm) (([("BadValues" : Str), "BadRows", "BadText"]).map V.str) = placed nm := by decide
    have bb : ∀ dd, d = some dd → Hm hid H' dd = some (.xd (plF pl)) := fun dd e => by
      subst e
      rw [hm_of (hfr dd rfl)]
      cases pl with
      | none => exact hpl.elim
      | some i => exact hpl
    refine nj_at (c := cnX K d (plF pl)) (hid := hid) (ρ := [.rw (.ref fl), .rw (.ref a), .un]) (H0 := H') ?_ (sd_raw (c := cnX K d (plF pl)) dom (fun _ h => nomatch h) bb [some (.ref fl), some (.ref a), none])
    refine q_asg (ev_cls rfl hD (hin nm hD).1 ?_)
    walk_at "nm"
    refine nj_ret ?_
    walk_at "go"
    refine in_s (xs := [("BadValues" : Str), "BadRows", "BadText"]) ?_
    rw [(hin nm hD).2, hpd]
    walk_at "go"
    match d, pl, hpl, hpd, bb, hq with
    | none, none, _, _, _, hq =>
      refine bl_no rfl ?_
      walk_at "go"
      intro v H'' e _ r
      exact hq H'' v e r
    | some dd, some i, _, hpd, _, hq =>
      refine bl_yes rfl ?_
      have exc := T.cls.exc nm hD
      refine ev_place rfl ⟨exc.hg, exc.hk, exc.hs, exc.hd⟩ (plno T nm hD hpd) rfl ?_
      walk_at "go"
      intro v H'' e _ r
      exact hq H'' v e r
/-! all of them -/
theorem sp_jT {P : Program} {w : World} {c : Cn} {mg : Str → Option Value} {names : List Str} {k : Nat} {B : Heap} {due d : Dt} {E : XK} {Q : Dt → Prop} (h : TellC P w c mg names k B due d) (hq : Q due) : SpJ c (spT P w c.K mg names k B) E [d] Q := fun hd H vs dom mh bb r Qh q => by
  obtain ⟨f, L, sp, rfl, ac, h⟩ := h
  obtain ⟨x, rfl, rx⟩ := rp1 r
  cases rx with
  | xo hL => exact ⟨f, sp, rfl, ac, fun W hW => h hd H dom bb (fun p hp => (hL p hp).2) Qh W (fun z H' e r => q due z H' hq e.up (c.keep0 e bb) r) hW⟩
abbrev sp__law_all (P : Program) (w : World) (K : PySem.W.Frag) (mg : Str → Option Value) (B : Heap) : Sp := spAll P w K mg rzN (Al 4) 14 B
theorem ok__law_all {P : Program} {w : World} {K : PySem.W.Frag} {mg : Str → Option Value} {base : Heap} (T : Txt K mg) (c__law_alike : Cal P w K mg base 5 "_law_alike" (sp__law_alike 4 K) []) (c__law_told : Cal P w K mg base 15 "_law_told" (sp__law_told P w K mg base) []) : Cal P w K mg base 16 "_law_all" (sp__law_all P w K mg base) [] := by
  obtain ⟨f, fd, hm, F, bi⟩ := T.f__law_all
  refine ⟨⟨f, fd, _, [], F.ok sc__law_all ?len (fun cdv A outer s H vs Q E hr h => ⟨_, (pss_one (ps_ret (pe_cmpR (op_eqU hr.units) (pe_lc (g := (gName 2)) (tt := (tNot (tB (tCall (sp__law_alike 4 K) [] E0 (tCons (tCall (sp__law_told P w K mg base) [] E0 (tCons (tVar 2) tNil)) (tCons (tVar 1) tNil)))))) (te := (tVar 2)) (own := [("_law_work", 2)]) rfl sc__law_all.nd (pi_list (pv 0)) (blkOk_by (N := ["_law_works", "_law_due", "_law_work"]) (sc := defScope s__law_all) (by decide +kernel)) (fun _ _ _ _ _ => (pg_name (i := 2) sc__law_all.nd rfl (Or.inl rfl))) (fun _ _ _ _ _ => (pts_one (pt_not (pt_val (pe_c c__law_alike hr (by decide) (by rfl) (pa_cons (pe_c c__law_told hr (by decide) (by rfl) (pa_cons (pv 2) pa_nil)) (pa_cons (pv 1) pa_nil))))))) (fun _ _ _ _ _ => (pv 2))) (pe_lst pa_nil) (nomark _)))), ?body⟩), hm, F.kp, bi, .nil⟩⟩
  case len =>
    rintro vs H Q E ⟨c, hid, ls, due, _, _, _, _, r, _⟩
    rw [r.length]; rfl
  case body =>
    obtain ⟨⟨K', mu, B, st⟩, hid, ls, due, hK, hmu, dom, cb, r, al, hl, hT, hq⟩ := h
    have hK' : K = K' := hK.symm
    subst hK'
    have hmu' : none0 = mu := hmu.symm
    subst hmu'
    dsimp only [cxD, cxOf]
    refine nj_at (c := ⟨K, none0, B, st⟩) (hid := hid) (ρ := startS ["_law_works", "_law_due", "_law_work"] [.lst ls, due]) (H0 := H) ?_ (sd_start (c := ⟨K, none0, B, st⟩) dom (fun _ h => nomatch h) cb r)
    show NJ _ _ _ _ [.im (.lst ls), .im due, .un]
    refine nj_ret ?_
    walk_at "go"
    refine EN.ev (en_fmL (c := ⟨K, none0, B, st⟩) (by decide) ?_)
    walk_at "go"
    refine ⟨ls, fun _ => false, fun d => d, rfl, by omega, fun x hx => ?_, ?_⟩
    · walk_at "nm"
      walk_at "go"
      refine sp_jT (c := ⟨K, none0, B, st⟩) (hT x hx) ?_
      walk_at "go"
      refine sp_j ⟨due, rfl, al, ?_⟩
      exact ⟨rfl, fun z => nomatch z⟩
    · rw [show ls.filter (fun _ => false) = [] from List.filter_eq_nil_iff.mpr fun _ _ => Bool.false_ne_true, List.map_nil]
      refine EN.ev (en_lst ?_)
      walk_at "go"
      refine eq_nil (n := 0) (fun d hd => by cases hd) (by decide) ?_
      intro v H' e _ r
      cases r
      exact hq H' e
end CC

namespace CC
open PySem PySem.Spec PyProof.Rows L2
open C8 (Cal pe_c pe_gc)
local macro_rules | `(tactic| walk_at "ev0") => `(tactic| (first
  | with_reducible refine ev_ixA rfl ?_
  | with_reducible refine ev_op ?_
  | with_reducible refine ev_var rfl ?_
  | with_reducible refine ev_int ?_
  | with_reducible refine ev_str ?_
  | with_reducible refine ev_bl ?_
  | with_reducible refine ev_non ?_
  | with_reducible refine ev_neg ?_
  | with_reducible refine ev_call ?_
  | with_reducible refine ev_tup ?_
  | with_reducible refine ev_chain ?_
  | with_reducible refine ev_andV ?_
  | with_reducible refine ev_orV ?_
  | with_reducible refine ev_notV ?_
  | with_reducible refine ev_isi ?_
  | with_reducible refine lenSet_li ?_
  | with_reducible refine ev_cb ?_
  | with_reducible refine ea_nil ?_
  | with_reducible refine ea_cons ?_
  | with_reducible refine et_test ?_
  | with_reducible refine et_B ?_
  | with_reducible refine et_and ?_
  | with_reducible refine et_or ?_
  | with_reducible refine et_not ?_
  | with_reducible refine et_yes ?_
  | with_reducible refine eo_none ?_
  | with_reducible refine eo_some ?_
  | with_reducible refine add_i ?_
  | with_reducible refine sub_i ?_
  | with_reducible refine lt_i ?_
  | with_reducible refine le_i ?_
  | with_reducible refine gt_i ?_
  | with_reducible refine ge_i ?_
  | with_reducible refine eq_i ?_
  | with_reducible refine ne_i ?_
  | with_reducible refine eq_s ?_
  | with_reducible refine ne_s ?_
  | with_reducible refine lenOk (by (dsimp only [List.length_cons, List.length_nil]; decide)) ?_
  | with_reducible refine len_li ?_
  | with_reducible refine len_ti ?_
  | with_reducible refine len_l ?_
  | with_reducible refine len_t ?_
  | with_reducible refine tuple_l ?_
  | with_reducible refine tuple_t ?_
  | with_reducible refine is_n ?_
  | with_reducible refine isnot_n ?_
  | with_reducible refine min_li (by assumption) ?_
  | with_reducible refine max_li (by assumption) ?_
  | with_reducible refine ix_h (by assumption) ?_
  | with_reducible refine add_t (by (dsimp only [List.length_cons, List.length_nil]; decide)) ?_
  | with_reducible refine ix_t0 ?_
  | with_reducible refine ix_t1 ?_
  | with_reducible refine ix_t2 ?_
  | with_reducible refine ix_t3 ?_
  | with_reducible refine ix_t4 ?_
  | with_reducible refine ix_t5 ?_
  | with_reducible refine ix_l0 ?_
  | with_reducible refine ix_l1 ?_
  | with_reducible refine ix_l2 ?_
  | with_reducible refine ix_l3 ?_
  | with_reducible refine ix_l4 ?_
  | with_reducible refine ix_l5 ?_
  | with_reducible refine intJ ?_
  | with_reducible refine blJ ?_
  | with_reducible refine lstJ ?_
  | with_reducible refine tupJ ?_
  | with_reducible refine mul_iR (by omega) (by omega) ?_
  | with_reducible refine mul_iL (by omega) (by omega) ?_
  | with_reducible refine div_iP (by omega) (by omega) ?_
  | with_reducible refine mod_i (by omega) ?_
  | with_reducible refine etj ?_))
local macro_rules | `(tactic| walk_at "ev") => `(tactic| (first
  | walk_at "ev0"
  | with_reducible refine ev_if ?_))
local macro_rules | `(tactic| walk_at "go0") => `(tactic| (repeat walk_at "ev0"))
local macro_rules | `(tactic| walk_at "nm") => `(tactic| try dsimp only [wipeS, List.set_cons_zero, List.set_cons_succ])
local macro_rules | `(tactic| walk_at "go") => `(tactic| (repeat walk_at "ev"))
local macro_rules | `(tactic| walk_at "box") => `(tactic| (repeat (first
  | with_reducible refine ev_callB (by assumption) rfl ?_
  | with_reducible refine EN.ev (en_lst ?_)
  | walk_at "ev")))
local macro_rules | `(tactic| walk_at "law") => `(tactic| (repeat (first
  | with_reducible refine ev_callM (by assumption) rfl ?_
  | with_reducible refine EN.ev (en_lst ?_)
  | walk_at "ev")))
theorem pow_i {c : Cn} {Q : Dt → Prop} {i j : Int} (hc : CPow i j) (h : Q (.int (i ^ j.toNat))) : R2J c (rI CPow fun i j => .int (i ^ j.toNat)) (.int i) (.int j) Q := rj_I hc h
def S__law_base (ds : List Dt) (Q : Dt → Prop) : Prop := ds = [] ∧ ∀ b, GoodB b → Q (.int b)
abbrev sp__law_base (K : PySem.W.Frag) : Sp := spB K S__law_base
theorem pick4 {b0 b1 b2 b3 r : Int} (h0 : 0 ≤ r) (h1 : r < 4) {P : Int → Prop} (p0 : P b0) (p1 : P b1) (p2 : P b2) (p3 : P b3) : ∃ x, atI [Dt.int b0, Dt.int b1, Dt.int b2, Dt.int b3] r = some (.int x) ∧ P x := by
  rcases (by omega : r = 0 ∨ r = 1 ∨ r = 2 ∨ r = 3) with rfl | rfl | rfl | rfl
  · exact ⟨b0, rfl, p0⟩
  · exact ⟨b1, rfl, p1⟩
  · exact ⟨b2, rfl, p2⟩
  · exact ⟨b3, rfl, p3⟩
theorem pick3 {b0 b1 b2 r : Int} (h0 : 0 ≤ r) (h1 : r < 3) {P : Int → Prop} (p0 : P b0) (p1 : P b1) (p2 : P b2) : ∃ x, atI [Dt.int b0, Dt.int b1, Dt.int b2] r = some (.int x) ∧ P x := by
  rcases (by omega : r = 0 ∨ r = 1 ∨ r = 2) with rfl | rfl | rfl
  · exact ⟨b0, rfl, p0⟩
  · exact ⟨b1, rfl, p1⟩
  · exact ⟨b2, rfl, p2⟩
theorem pick8 {b0 b1 b2 b3 b4 b5 b6 b7 r : Int} (h0 : 0 ≤ r) (h1 : r < 8) {P : Int → Prop} (p0 : P b0) (p1 : P b1) (p2 : P b2) (p3 : P b3) (p4 : P b4) (p5 : P b5) (p6 : P b6) (p7 : P b7) : ∃ x, atI [Dt.int b0, Dt.int b1, Dt.int b2, Dt.int b3, Dt.int b4, Dt.int b5, Dt.int b6, Dt.int b7] r = some (.int x) ∧ P x := by
  rcases (by omega : r = 0 ∨ r = 1 ∨ r = 2 ∨ r = 3 ∨ r = 4 ∨ r = 5 ∨ r = 6 ∨ r = 7) with rfl | rfl | rfl | rfl | rfl | rfl | rfl | rfl
  · exact ⟨b0, rfl, p0⟩
  · exact ⟨b1, rfl, p1⟩
  · exact ⟨b2, rfl, p2⟩
  · exact ⟨b3, rfl, p3⟩
  · exact ⟨b4, rfl, p4⟩
  · exact ⟨b5, rfl, p5⟩
  · exact ⟨b6, rfl, p6⟩
  · exact ⟨b7, rfl, p7⟩
theorem ok__law_base {P : Program} {w : World} {K : PySem.W.Frag} {mg : Str → Option Value} {base : Heap} (T : Txt K mg) (c__law_take : Cal P w K mg base 1 "_law_take" (sp__law_take K) []) : Cal P w K mg base 2 "_law_base" (sp__law_base K) [] := by
  refine cal_box T.f__law_base sc__law_base (fun z => nomatch z) ?len fun f cdv A outer s H E hr => ⟨_, (pss_cons (ps_set (i := 1) sc__law_base.nd rfl (Or.inl rfl) (pe_lst (pa_cons (pe_op op_addU pe_int (pe_c c__law_take hr (by decide) (by rfl) (pa_cons (pv 0) (pa_cons pe_int pa_nil)))) (pa_cons (pe_op op_addU pe_int (pe_c c__law_take hr (by decide) (by rfl) (pa_cons (pv 0) (pa_cons pe_int pa_nil)))) (pa_cons (pe_op op_addU pe_int (pe_c c__law_take hr (by decide) (by rfl) (pa_cons (pv 0) (pa_cons pe_int pa_nil)))) pa_nil)))))
      (pss_one (ps_ret (pe_ix ix_seq (pe_op op_addU (pv 1) (pe_lst (pa_cons (pe_ix ix_seq (pe_lst (pa_cons pe_int (pa_cons pe_int (pa_cons pe_int (pa_cons pe_int (pa_cons pe_int (pa_cons pe_int (pa_cons pe_int (pa_cons pe_int pa_nil))))))))) (pe_c c__law_take hr (by decide) (by rfl) (pa_cons (pv 0) (pa_cons pe_int pa_nil))) (fun _ _ => rfl)) pa_nil))) (pe_c c__law_take hr (by decide) (by rfl) (pa_cons (pv 0) (pa_cons pe_int pa_nil))) (fun _ _ => rfl))))), ?body⟩
  case' body => try dsimp only [cxD, cxOf]
  case len => rintro ds Q ⟨rfl, _⟩; rfl
  case body =>
    rintro ds Q ⟨rfl, hq⟩ b l hne hid H0 D dom hD
    show NJ _ _ _ _ [.rw (.ref b), .un]
    refine q_asg ?_
    walk_at "box"
    refine take_j (by omega) (by omega) fun r1 a1 c1 => ?_
    walk_at "box"
    refine take_j (by omega) (by omega) fun r2 a2 c2 => ?_
    walk_at "box"
    refine take_j (by omega) (by omega) fun r3 a3 c3 => ?_
    walk_at "box"
    walk_at "nm"
    refine nj_ret ?_
    walk_at "box"
    refine take_j (by omega) (by omega) fun r4 a4 c4 => ?_
    walk_at "box"
    obtain ⟨x, hx, gx⟩ := pick8 (P := GoodB) a4 c4 (b0 := 2) (b1 := 3) (b2 := 10) (b3 := 21) (b4 := 22) (b5 := 100) (b6 := 101) (b7 := 10000) ⟨by omega, by omega⟩ ⟨by omega, by omega⟩ ⟨by omega, by omega⟩ ⟨by omega, by omega⟩ ⟨by omega, by omega⟩ ⟨by omega, by omega⟩ ⟨by omega, by omega⟩ ⟨by omega, by omega⟩
    refine ix_l hx ?_
    walk_at "box"
    refine R2N.j (add_l (by dsimp only [List.length_cons, List.length_nil]; omega) ?_)
    walk_at "box"
    refine take_j (by omega) (by omega) fun r5 a5 c5 => ?_
    obtain ⟨y, hy, gy⟩ := pick4 (P := GoodB) a5 c5 (b0 := 2 + r1) (b1 := 2 + r2) (b2 := 2 + r3) (b3 := x) ⟨by omega, by omega⟩ ⟨by omega, by omega⟩ ⟨by omega, by omega⟩ gx
    refine ix_l hy ?_
    exact hD.rt _ (hq y gy)
theorem cut_pre {ns : List Int} {k : Nat} (h : k ≤ ns.length) : cutD (ns.map Dt.int) none (some (k : Int)) = (ns.take k).map Dt.int := by
  unfold cutD
  rw [HT.sIx_none, HT.sIx_nat, List.length_map, Nat.min_eq_left h, Nat.sub_zero, List.drop_zero, List.map_take]
theorem cut_suf {ns : List Int} {k : Nat} (h : k ≤ ns.length) : cutD (ns.map Dt.int) (some (k : Int)) none = (ns.drop k).map Dt.int := by
  unfold cutD
  rw [HT.sIx_none, HT.sIx_nat, List.length_map, Nat.min_eq_left h, List.take_of_length_le (by rw [List.length_drop, List.length_map]; omega), List.map_drop]
theorem rep0 : ∀ k : Nat, (List.replicate k [Dt.int 0]).flatten = (List.replicate k (0 : Int)).map Dt.int
  | 0 => rfl
  | k + 1 => by rw [List.replicate_succ, List.replicate_succ, List.flatten_cons, rep0 k]; rfl
theorem full_at {vs : List Int} {k i : Nat} (h : i < vs.length + k) : ((vs ++ List.replicate k 0).map Dt.int)[i]? = some (.int (vs.getD i 0)) := by
  rw [List.getElem?_map]
  by_cases hi : i < vs.length
  · rw [List.getElem?_append_left hi, List.getD_eq_getElem?_getD, List.getElem?_eq_getElem hi]; rfl
  · rw [List.getElem?_append_right (by omega), List.getElem?_replicate, if_pos (by omega), List.getD_eq_getElem?_getD, List.getElem?_eq_none (by omega)]; rfl
theorem first_bad {lo hi x y : Int} {vs : List Int} {k : Nat} (h : ∀ z ∈ vs, lo ≤ z ∧ z < hi) (hk : k ≤ vs.length) (hx : ¬ (lo ≤ x ∧ x < hi)) : FirstBad lo hi (vs.take k ++ [x] ++ vs.drop k ++ [y]) k := by
  have hl : (vs.take k).length = k := by rw [List.length_take]; omega
  refine ⟨⟨x, ?_, hx⟩, fun m z hm hz => ?_⟩
  · rw [List.append_assoc, List.append_assoc, List.getElem?_append_right (by omega), hl, Nat.sub_self]; rfl
  · rw [List.append_assoc, List.append_assoc, List.getElem?_append_left (by omega)] at hz
    exact h z (List.mem_of_mem_take (List.mem_of_getElem? hz))
theorem first_uniq {lo hi : Int} {l : List Int} {j k : Nat} (h : FirstBad lo hi l j) (g : FirstBad lo hi l k) : j = k := by
  obtain ⟨⟨x, hx, nx⟩, h2⟩ := h
  obtain ⟨⟨y, hy, ny⟩, g2⟩ := g
  rcases Nat.lt_trichotomy j k with z | z | z
  · exact absurd (g2 j x z hx) nx
  · exact z
  · exact absurd (h2 k y z hy) ny
theorem first_not {lo hi : Int} {l : List Int} {k : Nat} (h : FirstBad lo hi l k) (g : ∀ x ∈ l, lo ≤ x ∧ x < hi) : False := by
  obtain ⟨⟨x, hx, nx⟩, _⟩ := h
  exact nx (g x (List.mem_of_getElem? hx))
def qlam : Str := ("law" : Str) ++ ".<locals>." ++ "<lambda>"
def sp_law (K : PySem.W.Frag) (tb : Addr) : Sp := fun vs H Q _ => ∃ (a : Addr) (ns : List Int), vs = [.ref a] ∧ SqL K H a (ns.map V.int) ∧ ns.length ≤ 63 ∧ H tb = some (.tbl #[]) ∧ ∀ H', Q (.bl true) H'
theorem sd_lawM {K : PySem.W.Frag} {b l tb : Addr} {H : Hp} (bx : Bx b l H) (ht : H tb = some (.tbl #[])) (vs : List (Option V)) : SD (cnM K b l tb qlam) (muL b l tb) (muL b l tb) H H vs (vs.map fun v => match v with | some v => Sl.rw v | none => Sl.un) := by
  refine sd_raw (c := cnM K b l tb qlam) (fun a h => ?_) (fun _ h => h) ⟨bx, TabV.nil (LamX.TabS.nil ht) fun ps h => by rw [ht] at h; cases h; rfl⟩ vs
  obtain ⟨s, ns, h1, h2⟩ := bx
  rcases muL_of h with rfl | rfl | rfl
  · rw [h1]; exact fun z => nomatch z
  · rw [h2]; exact fun z => nomatch z
  · rw [ht]; exact fun z => nomatch z
end CC

namespace CC
open PySem PySem.Spec PyProof.Rows L2
open C8 (Cal pe_c pe_gc)
local macro_rules | `(tactic| walk_at "ev0") => `(tactic| (first
  | with_reducible refine ev_ixA rfl ?_
  | with_reducible refine ev_op ?_
  | with_reducible refine ev_var rfl ?_
  | with_reducible refine ev_int ?_
  | with_reducible refine ev_str ?_
  | with_reducible refine ev_bl ?_
  | with_reducible refine ev_non ?_
  | with_reducible refine ev_neg ?_
  | with_reducible refine ev_call ?_
  | with_reducible refine ev_tup ?_
  | with_reducible refine ev_chain ?_
  | with_reducible refine ev_andV ?_
  | with_reducible refine ev_orV ?_
  | with_reducible refine ev_notV ?_
  | with_reducible refine ev_isi ?_
  | with_reducible refine lenSet_li ?_
  | with_reducible refine ev_cb ?_
  | with_reducible refine ea_nil ?_
  | with_reducible refine ea_cons ?_
  | with_reducible refine et_test ?_
  | with_reducible refine et_B ?_
  | with_reducible refine et_and ?_
  | with_reducible refine et_or ?_
  | with_reducible refine et_not ?_
  | with_reducible refine et_yes ?_
  | with_reducible refine eo_none ?_
  | with_reducible refine eo_some ?_
  | with_reducible refine add_i ?_
  | with_reducible refine sub_i ?_
  | with_reducible refine lt_i ?_
  | with_reducible refine le_i ?_
  | with_reducible refine gt_i ?_
  | with_reducible refine ge_i ?_
  | with_reducible refine eq_i ?_
  | with_reducible refine ne_i ?_
  | with_reducible refine eq_s ?_
  | with_reducible refine ne_s ?_
  | with_reducible refine lenOk (by (dsimp only [List.length_cons, List.length_nil]; decide)) ?_
  | with_reducible refine len_li ?_
  | with_reducible refine len_ti ?_
  | with_reducible refine len_l ?_
  | with_reducible refine len_t ?_
  | with_reducible refine tuple_l ?_
  | with_reducible refine tuple_t ?_
  | with_reducible refine is_n ?_
  | with_reducible refine isnot_n ?_
  | with_reducible refine min_li (by assumption) ?_
  | with_reducible refine max_li (by assumption) ?_
  | with_reducible refine ix_h (by assumption) ?_
  | with_reducible refine add_t (by (dsimp only [List.length_cons, List.length_nil]; decide)) ?_
  | with_reducible refine ix_t0 ?_
  | with_reducible refine ix_t1 ?_
  | with_reducible refine ix_t2 ?_
  | with_reducible refine ix_t3 ?_
  | with_reducible refine ix_t4 ?_
  | with_reducible refine ix_t5 ?_
  | with_reducible refine ix_l0 ?_
  | with_reducible refine ix_l1 ?_
  | with_reducible refine ix_l2 ?_
  | with_reducible refine ix_l3 ?_
  | with_reducible refine ix_l4 ?_
  | with_reducible refine ix_l5 ?_
  | with_reducible refine intJ ?_
  | with_reducible refine blJ ?_
  | with_reducible refine lstJ ?_
  | with_reducible refine tupJ ?_
  | with_reducible refine mul_iR (by omega) (by omega) ?_
  | with_reducible refine mul_iL (by omega) (by omega) ?_
  | with_reducible refine div_iP (by omega) (by omega) ?_
  | with_reducible refine mod_i (by omega) ?_
  | with_reducible refine etj ?_))
local macro_rules | `(tactic| walk_at "ev") => `(tactic| (first
  | walk_at "ev0"
  | with_reducible refine ev_if ?_))
local macro_rules | `(tactic| walk_at "go0") => `(tactic| (repeat walk_at "ev0"))
local macro_rules | `(tactic| walk_at "nm") => `(tactic| try dsimp only [wipeS, List.set_cons_zero, List.set_cons_succ])
local macro_rules | `(tactic| walk_at "go") => `(tactic| (repeat walk_at "ev"))
local macro_rules | `(tactic| walk_at "law") => `(tactic| (repeat (first
  | with_reducible refine ev_callM (by assumption) rfl ?_
  | with_reducible refine EN.ev (en_lst ?_)
  | walk_at "ev")))
theorem ok_law {P : Program} {w : World} {K : PySem.W.Frag} {mg : Str → Option Value} {base : Heap} (T : Txt K mg) (b__law_begun : ∀ B, Cal P w K mg B 1 "_law_begun" (sp__law_begun K) []) (b__law_base : ∀ B, Cal P w K mg B 2 "_law_base" (sp__law_base K) []) (b__law_take : ∀ B, Cal P w K mg B 1 "_law_take" (sp__law_take K) []) (b__law_packed : ∀ B, Cal P w K mg B 2 "_law_packed" (sp__law_packed K) []) (b_packed : ∀ B, CalX P w K mg B 5 "packed" (sp_packed K)) (b_per_cell : ∀ B, CalX P w K mg B 3 "per_cell" (sp_per_cell K)) (b__law_alike : ∀ B, Cal P w K mg B 5 "_law_alike" (sp__law_alike 4 K) []) (b__law_per : ∀ B, Cal P w K mg B 1 "_law_per" (sp__law_per K) []) (b_read_packed : ∀ B, CalX P w K mg B 5 "read_packed" (sp_read_packed K)) (b__law_all : ∀ B, Cal P w K mg B 16 "_law_all" (sp__law_all P w K mg B) []) {f : Addr} {fd : FuncData} (F : Fun K "law" "law" s_law f fd) {co tb : Addr} (TB : LamX.TabB base mg co tb) (hcode : fd.code = .ref co) : FnOk P w K mg base L2.CX0 17 f fd ["_law_script"] (sp_law K tb) := by
  have c__law_begun := b__law_begun base
  have c__law_base := b__law_base base
  have c__law_take := b__law_take base
  have c__law_packed := b__law_packed base
  have c_packed := b_packed base
  have c_per_cell := b_per_cell base
  have c__law_alike := b__law_alike base
  have c__law_per := b__law_per base
  have c_read_packed := b_read_packed base
  have c__law_all := b__law_all base
  refine Fun.okC F sc_law ?len (fun A outer s H vs Q E hr h => ⟨_, (pss_cons (ps_set (i := 1) sc_law.nd rfl (Or.inl rfl) (pe_c c__law_begun hr (by decide) (by rfl) (pa_cons (pv 0) pa_nil)))
      (pss_cons (ps_for PassesOwn.never rfl (pi_range1 (by rfl) T.b_range (pa_cons pe_int pa_nil)) (pg_name (i := 2) sc_law.nd rfl (Or.inl rfl)) (pss_cons (ps_set (i := 3) sc_law.nd rfl (Or.inr rfl) (pe_c c__law_base hr (by decide) (by rfl) (pa_cons (pv 1) pa_nil)))
      (pss_cons (ps_set (i := 4) sc_law.nd rfl (Or.inl rfl) (pe_lst pa_nil))
      (pss_cons (ps_for PassesOwn.never rfl (pi_range1 (by rfl) T.b_range (pa_cons (pe_c c__law_take hr (by decide) (by rfl) (pa_cons (pv 1) (pa_cons (pe_ix ix_seq (pe_lst (pa_cons pe_int (pa_cons pe_int (pa_cons pe_int pa_nil)))) (pe_c c__law_take hr (by decide) (by rfl) (pa_cons (pv 1) (pa_cons pe_int pa_nil))) (fun _ _ => rfl)) pa_nil))) pa_nil)) (pg_name (i := 5) sc_law.nd rfl (Or.inl rfl)) (pss_one (ps_expr (pe_bm PySem.F.plainAttrs_list PySem.F.slot_list_append PySem.F.type_list_append mt_append (pv 4) (pa_cons (pe_ix ix_seq (pe_lst (pa_cons (pe_c c__law_take hr (by decide) (by rfl) (pa_cons (pv 1) (pa_cons (pv 3) pa_nil))) (pa_cons (pe_op op_subU (pv 3) pe_int) (pa_cons pe_int pa_nil)))) (pe_c c__law_take hr (by decide) (by rfl) (pa_cons (pv 1) (pa_cons pe_int pa_nil))) (fun _ _ => rfl)) pa_nil)))))
      (pss_cons (ps_set (i := 6) sc_law.nd rfl (Or.inr rfl) (pe_c c__law_packed hr (by decide) (by rfl) (pa_cons (pv 3) (pa_cons (pv 4) pa_nil))))
      (pss_cons (ps_set (i := 7) sc_law.nd rfl (Or.inl rfl) (pe_callTy cl_list (by rfl) T.b_list (by decide +kernel) (pa_cons (pv 4) pa_nil)))
      (pss_cons (ps_set (i := 8) sc_law.nd rfl (Or.inl rfl) (pe_lst (pa_cons (pe_cC c_per_cell hr (by decide) (by rfl) (pa_cons (pv 3) pa_nil)) (pa_cons (pe_cC c_packed hr (by decide) (by rfl) (pa_cons (pv 3) (pa_cons (pv 7) pa_nil))) pa_nil))))
      (pss_cons (ps_if ((pw_or (pt_not (pt_val (pe_c c__law_alike hr (by decide) (by rfl) (pa_cons (pv 8) (pa_cons (pe_lst (pa_cons (pe_c c__law_per hr (by decide) (by rfl) (pa_cons (pv 3) pa_nil)) (pa_cons (pv 6) pa_nil))) pa_nil))))) (pw_or1 (pt_cmpR (op_neU hr.units) (pv 7) (pv 4) (nomark _))))).pt (pss_one (ps_ret pe_bl)) pss_nil)
      (pss_cons (ps_set (i := 9) sc_law.nd rfl (Or.inl rfl) (pe_op op_mulU (pe_callB cl_len (by rfl) T.b_len PySem.boot_len (pa_cons (pv 6) pa_nil)) (pe_c c__law_per hr (by decide) (by rfl) (pa_cons (pv 3) pa_nil))))
      (pss_cons (ps_set (i := 10) sc_law.nd rfl (Or.inr rfl) (pe_op op_addU (pv 4) (pe_op op_mulU (pe_lst (pa_cons pe_int pa_nil)) (pe_op op_subU (pv 9) (pe_callB cl_len (by rfl) T.b_len PySem.boot_len (pa_cons (pv 4) pa_nil))))))
      (pss_cons (ps_if (pt_cmpR (op_neU hr.units) (pe_lc (g := (gName 5)) (tt := (tNot (tB (tCall (sp__law_alike 4 K) [] E0 (tCons (tCall (sp_read_packed K) [] E0 (tCons (tVar 3) (tCons (tVar 6) (tCons (tVar 5) tNil)))) (tCons (tOp (rIx K) (tVar 10) (tVar 5)) tNil)))))) (te := (tVar 5)) (own := [("_law_k", 5)]) rfl sc_law.nd (pi_range1 (by rfl) T.b_range (pa_cons (pv 9) pa_nil)) (blkOk_by (N := ["_law_script", "_law_box", "_law_turn", "_law_base_here", "_law_values", "_law_k", "_law_cells", "_law_handed", "_law_found", "_law_most", "_law_full", "_law_far", "_law_odd", "_law_works", "_law_at", "_law_bad", "_law_rows", "_law_place"]) (sc := defScope s_law) (by decide +kernel)) (fun _ _ _ _ _ => (pg_name (i := 5) sc_law.nd rfl (Or.inl rfl))) (fun _ _ _ _ _ => (pts_one (pt_not (pt_val (pe_c c__law_alike hr (by decide) (by rfl) (pa_cons (pe_cC c_read_packed hr (by decide) (by rfl) (pa_cons (pv 3) (pa_cons (pv 6) (pa_cons (pv 5) pa_nil)))) (pa_cons (pe_ix ix_seq (pv 10) (pv 5) (fun _ _ => rfl)) pa_nil))))))) (fun _ _ _ _ _ => (pv 5))) (pe_lst pa_nil) (nomark _)) (pss_one (ps_ret pe_bl)) pss_nil)
      (pss_cons (ps_set (i := 11) sc_law.nd rfl (Or.inl rfl) (pe_c c__law_take hr (by decide) (by rfl) (pa_cons (pv 1) (pa_cons (pe_op op_pow pe_int pe_int) pa_nil))))
      (pss_cons (ps_set (i := 12) sc_law.nd rfl (Or.inr rfl) (pe_ix ix_seq (pe_lst (pa_cons pe_int (pa_cons pe_int (pa_cons (pe_op op_subU (pe_un un_neg pe_int) (pv 11)) (pa_cons (pe_op op_addU pe_int (pv 11)) pa_nil))))) (pe_c c__law_take hr (by decide) (by rfl) (pa_cons (pv 1) (pa_cons pe_int pa_nil))) (fun _ _ => rfl)))
      (pss_cons (ps_set (i := 13) sc_law.nd rfl (Or.inl rfl) (pe_lst (pa_cons (pe_lamM (k := 13) (ps := []) TB hcode rfl (fun _ => rfl) (lamS2_by (N := ["_law_script", "_law_box", "_law_turn", "_law_base_here", "_law_values", "_law_k", "_law_cells", "_law_handed", "_law_found", "_law_most", "_law_full", "_law_far", "_law_odd", "_law_works", "_law_at", "_law_bad", "_law_rows", "_law_place"]) (sc := defScope s_law) (by decide +kernel)) rfl (by decide) rfl (fun _ _ _ _ _ _ => rfl) (fun z => absurd rfl z) (fun B A outer s H E f c' hr => (pe_cX (b_per_cell _) hr (by decide) (takes_of rfl rfl rfl rfl) (by rfl) (pa_cons (pv 12) pa_nil)))) (pa_cons (pe_lamM (k := 13) (ps := ["_law_a"]) TB hcode rfl (fun _ => rfl) (lamS2_by (N := ["_law_script", "_law_box", "_law_turn", "_law_base_here", "_law_values", "_law_k", "_law_cells", "_law_handed", "_law_found", "_law_most", "_law_full", "_law_far", "_law_odd", "_law_works", "_law_at", "_law_bad", "_law_rows", "_law_place"]) (sc := defScope s_law) (by decide +kernel)) rfl (by decide) rfl (fun z => nomatch z) (fun _ _ _ _ _ _ _ its hl => match its, hl with | [_], _ => ⟨_, rfl, rfl⟩) (fun B A outer s H E f c' hr => (pe_cX (b_packed _) hr (by decide) (takes_of rfl rfl rfl rfl) (by rfl) (pa_cons (pv 12) (pa_cons (pe_lst (pa_cons (pe_un un_neg pe_int) pa_nil)) pa_nil))))) (pa_cons (pe_lamM (k := 13) (ps := ["_law_b"]) TB hcode rfl (fun _ => rfl) (lamS2_by (N := ["_law_script", "_law_box", "_law_turn", "_law_base_here", "_law_values", "_law_k", "_law_cells", "_law_handed", "_law_found", "_law_most", "_law_full", "_law_far", "_law_odd", "_law_works", "_law_at", "_law_bad", "_law_rows", "_law_place"]) (sc := defScope s_law) (by decide +kernel)) rfl (by decide) rfl (fun z => nomatch z) (fun _ _ _ _ _ _ _ its hl => match its, hl with | [_], _ => ⟨_, rfl, rfl⟩) (fun B A outer s H E f c' hr => (pe_cX (b_read_packed _) hr (by decide) (takes_of rfl rfl rfl rfl) (by rfl) (pa_cons (pv 12) (pa_cons (pe_tup (pa_cons (pe_un un_neg pe_int) pa_nil)) (pa_cons (pe_un un_neg pe_int) pa_nil)))))) pa_nil)))))
      (pss_cons (ps_if (pt_not (pt_val (pe_callBig b__law_all hr (by decide) (by rfl) (pa_cons (pv 13) (pa_cons (pe_tup (pa_cons pe_str (pa_cons pe_int pa_nil))) pa_nil))))) (pss_one (ps_ret pe_bl)) pss_nil)
      (pss_cons (ps_set (i := 14) sc_law.nd rfl (Or.inl rfl) (pe_c c__law_take hr (by decide) (by rfl) (pa_cons (pv 1) (pa_cons (pe_op op_addU (pe_callB cl_len (by rfl) T.b_len PySem.boot_len (pa_cons (pv 4) pa_nil)) pe_int) pa_nil))))
      (pss_cons (ps_set (i := 15) sc_law.nd rfl (Or.inr rfl) (pe_op op_addU (pe_op op_addU (pe_op op_addU (pe_slice sl_list (pv 4) po_none (po_some (pv 14))) (pe_lst (pa_cons (pe_ix ix_seq (pe_lst (pa_cons (pv 3) (pa_cons (pe_op op_addU (pv 3) (pv 11)) (pa_cons (pe_un un_neg pe_int) (pa_cons (pe_op op_subU (pe_un un_neg pe_int) (pv 11)) pa_nil))))) (pe_c c__law_take hr (by decide) (by rfl) (pa_cons (pv 1) (pa_cons pe_int pa_nil))) (fun _ _ => rfl)) pa_nil))) (pe_slice sl_list (pv 4) (po_some (pv 14)) po_none)) (pe_lst (pa_cons (pe_un un_neg pe_int) pa_nil))))
      (pss_cons (ps_if (pt_not (pt_val (pe_callBig b__law_all hr (by decide) (by rfl) (pa_cons (pe_lst (pa_cons (pe_lamM (k := 13) (ps := []) TB hcode rfl (fun _ => rfl) (lamS2_by (N := ["_law_script", "_law_box", "_law_turn", "_law_base_here", "_law_values", "_law_k", "_law_cells", "_law_handed", "_law_found", "_law_most", "_law_full", "_law_far", "_law_odd", "_law_works", "_law_at", "_law_bad", "_law_rows", "_law_place"]) (sc := defScope s_law) (by decide +kernel)) rfl (by decide) rfl (fun _ _ _ _ _ _ => rfl) (fun z => absurd rfl z) (fun B A outer s H E f c' hr => (pe_cX (b_packed _) hr (by decide) (takes_of rfl rfl rfl rfl) (by rfl) (pa_cons (pv 3) (pa_cons (pv 15) pa_nil))))) pa_nil)) (pa_cons (pe_tup (pa_cons pe_str (pa_cons (pv 14) pa_nil))) pa_nil))))) (pss_one (ps_ret pe_bl)) pss_nil)
      (pss_cons (ps_set (i := 14) sc_law.nd rfl (Or.inl rfl) (pe_c c__law_take hr (by decide) (by rfl) (pa_cons (pv 1) (pa_cons (pe_op op_addU (pe_callB cl_len (by rfl) T.b_len PySem.boot_len (pa_cons (pv 6) pa_nil)) pe_int) pa_nil))))
      (pss_cons (ps_set (i := 16) sc_law.nd rfl (Or.inr rfl) (pe_op op_addU (pe_op op_addU (pe_op op_addU (pe_slice sl_tupA (pv 6) po_none (po_some (pv 14))) (pe_tup (pa_cons (pe_ix ix_seq (pe_lst (pa_cons pe_int (pa_cons (pe_op op_addU pe_int (pv 11)) (pa_cons (pe_un un_neg pe_int) pa_nil)))) (pe_c c__law_take hr (by decide) (by rfl) (pa_cons (pv 1) (pa_cons pe_int pa_nil))) (fun _ _ => rfl)) pa_nil))) (pe_slice sl_tupA (pv 6) (po_some (pv 14)) po_none)) (pe_tup (pa_cons (pe_un un_neg pe_int) pa_nil))))
      (pss_cons (ps_if (pt_not (pt_val (pe_callBig b__law_all hr (by decide) (by rfl) (pa_cons (pe_lst (pa_cons (pe_lamM (k := 13) (ps := []) TB hcode rfl (fun _ => rfl) (lamS2_by (N := ["_law_script", "_law_box", "_law_turn", "_law_base_here", "_law_values", "_law_k", "_law_cells", "_law_handed", "_law_found", "_law_most", "_law_full", "_law_far", "_law_odd", "_law_works", "_law_at", "_law_bad", "_law_rows", "_law_place"]) (sc := defScope s_law) (by decide +kernel)) rfl (by decide) rfl (fun _ _ _ _ _ _ => rfl) (fun z => absurd rfl z) (fun B A outer s H E f c' hr => (pe_cX (b_read_packed _) hr (by decide) (takes_of rfl rfl rfl rfl) (by rfl) (pa_cons (pv 3) (pa_cons (pv 16) (pa_cons (pe_un un_neg pe_int) pa_nil)))))) pa_nil)) (pa_cons (pe_tup (pa_cons pe_str (pa_cons (pv 14) pa_nil))) pa_nil))))) (pss_one (ps_ret pe_bl)) pss_nil)
      (pss_cons (ps_set (i := 17) sc_law.nd rfl (Or.inr rfl) (pe_ix ix_seq (pe_lst (pa_cons (pe_op op_subU (pe_un un_neg pe_int) (pe_c c__law_take hr (by decide) (by rfl) (pa_cons (pv 1) (pa_cons pe_int pa_nil)))) (pa_cons (pe_op op_subU (pe_un un_neg pe_int) (pv 11)) (pa_cons (pv 9) (pa_cons (pe_op op_addU (pv 9) (pv 11)) pa_nil))))) (pe_c c__law_take hr (by decide) (by rfl) (pa_cons (pv 1) (pa_cons pe_int pa_nil))) (fun _ _ => rfl)))
      (pss_one (ps_if (pt_not (pt_val (pe_callBig b__law_all hr (by decide) (by rfl) (pa_cons (pe_lst (pa_cons (pe_lamM (k := 13) (ps := []) TB hcode rfl (fun _ => rfl) (lamS2_by (N := ["_law_script", "_law_box", "_law_turn", "_law_base_here", "_law_values", "_law_k", "_law_cells", "_law_handed", "_law_found", "_law_most", "_law_full", "_law_far", "_law_odd", "_law_works", "_law_at", "_law_bad", "_law_rows", "_law_place"]) (sc := defScope s_law) (by decide +kernel)) rfl (by decide) rfl (fun _ _ _ _ _ _ => rfl) (fun z => absurd rfl z) (fun B A outer s H E f c' hr => (pe_cX (b_read_packed _) hr (by decide) (takes_of rfl rfl rfl rfl) (by rfl) (pa_cons (pv 3) (pa_cons (pv 6) (pa_cons (pv 17) pa_nil)))))) pa_nil)) (pa_cons (pe_tup (pa_cons pe_str (pa_cons pe_int pa_nil))) pa_nil))))) (pss_one (ps_ret pe_bl)) pss_nil))))))))))))))))))))))))
      (pss_one (ps_ret pe_bl)))), ?body⟩)
  case' body => try dsimp only [cxD, cxOf]
  case len => rintro vs H Q E ⟨a, ns, rfl, _⟩; rfl
  case body =>
    obtain ⟨a, ns, rfl, hS, hn, htb, hq⟩ := h
    refine ⟨.ref a, rfl, a, ns, rfl, hS, hn, fun b l H' hne hb hl e bx => ?_⟩
    refine nj_at ?_ (sd_lawM (K := K) bx (e.keep tb _ rfl htb) [some (.ref a), some (.ref b), none, none, none, none, none, none, none, none, none, none, none, none, none, none, none, none])
    dsimp only
    show NJ _ _ _ _ [.rw (.ref a), .rw (.ref b), .un, .un, .un, .un, .un, .un, .un, .un, .un, .un, .un, .un, .un, .un, .un, .un]
    refine q_for (ij_rng1 ?_)
    walk_at "law"
    refine ⟨4, rfl, by omega, by omega, fun i ρ' => ρ' = [.rw (.ref a), .rw (.ref b), .un, .un, .un, .un, .un, .un, .un, .un, .un, .un, .un, .un, .un, .un, .un, .un], rfl, ?_, ?_⟩
    · rintro H1 e1 i d ρ' hi rfl
      obtain ⟨_, rfl⟩ := rangeD_at hi
      refine tg_name ?_
      walk_at "nm"
      refine q_asg ?_
      walk_at "law"
      refine ⟨rfl, fun ba gb => ?_⟩
      obtain ⟨g1, g2⟩ := gb
      walk_at "nm"
      refine (q_asgN (en_lst (ea_nil ⟨by decide, ?_⟩)))
      walk_at "nm"
      refine nj_weak (ρ' := [.rw (.ref a), .rw (.ref b), .un, .im (.int ba), .ac [], .un, .un, .un, .un, .un, .un, .un, .un, .un, .un, .un, .un, .un]) (.same (.same (.un (.same (.same (.un (.un (.un (.un (.un (.un (.un (.un (.un (.un (.un (.un (.un .nil)))))))))))))))))) ?_
      refine q_for (ij_rng1 ?_)
      walk_at "law"
      refine take_j (by omega) (by omega) fun r0 a0 b0 => ?_
      obtain ⟨m, hm, m0, m1⟩ := pick3 (P := fun m => 0 < m ∧ m ≤ 300) a0 b0 (b0 := 41) (b1 := 41) (b2 := 300) ⟨by omega, by omega⟩ ⟨by omega, by omega⟩ ⟨by omega, by omega⟩
      refine ix_l hm ?_
      walk_at "law"
      refine take_j (by omega) (by omega) fun n n0 n1 => ?_
      walk_at "law"
      refine ⟨n, rfl, by omega, by omega, fun j ρ' => ∃ vs : List Int, vs.length = j ∧ (∀ x ∈ vs, 0 ≤ x ∧ x < ba) ∧ ρ' = [.rw (.ref a), .rw (.ref b), .un, .im (.int ba), .ac (vs.map Dt.int), .un, .un, .un, .un, .un, .un, .un, .un, .un, .un, .un, .un, .un], ⟨[], rfl, fun x hx => (by cases hx), rfl⟩, ?_, ?_⟩
      · rintro H2 e2 j d ρ' hj ⟨vs, hl, hv, rfl⟩
        obtain ⟨hj2, rfl⟩ := rangeD_at hj
        refine tg_name ?_
        walk_at "nm"
        refine nj_app rfl (by rw [List.length_map]; omega) ?_
        walk_at "law"
        refine take_j (by omega) (by omega) fun r1 a1 b1 => ?_
        walk_at "law"
        refine take_j (by omega) (by omega) fun r2 a2 b2 => ?_
        obtain ⟨x, hx, x0, x1⟩ := pick3 (P := fun x => 0 ≤ x ∧ x < ba) a2 b2 (b0 := r1) (b1 := ba - 1) (b2 := 0) ⟨a1, b1⟩ ⟨by omega, by omega⟩ ⟨by omega, by omega⟩
        refine ix_l hx ?_
        walk_at "nm"
        refine nj_nxw _ ⟨vs ++ [x], by rw [List.length_append, hl]; rfl, fun y hy => ?_, rfl⟩ (by rw [List.map_append]; exact .same (.same (.un (.same (.same (.un (.un (.un (.un (.un (.un (.un (.un (.un (.un (.un (.un (.un .nil))))))))))))))))))
        rcases List.mem_append.mp hy with hy | hy
        · exact hv y hy
        · rw [List.mem_singleton.mp hy]; exact ⟨x0, x1⟩
      · rintro ρ' ⟨vs, hl, hv, rfl⟩
        rw [rangeD_len] at hl
        have hvl : vs.length ≤ 300 := by omega
        refine nj_share (i := 4) rfl ?_
        walk_at "nm"
        refine q_asg ?_
        walk_at "law"
        refine sp_j ⟨ba, vs, rfl, g1, g2, by omega, ?_⟩
        walk_at "nm"
        refine q_asg ?_
        walk_at "law"
        refine RCN.j (list_l ?_)
        walk_at "nm"
        have gb : GoodB ba := ⟨g1, g2⟩
        have hp := perB_pos ba
        have hp2 := perB_le ba
        have hcl : (packI ba vs).length ≤ 400 := by
          rw [packI_len]
          have := Nat.div_le_self (vs.length + perB ba - 1) (perB ba)
          omega
        have hcs := pack_lt g1 g2 hv
        have hfull := pack_full (b := ba) (vs := vs)
        have good : ∀ k, ¬ FirstBad 0 ba vs k := fun k hf => by
          obtain ⟨⟨x, hx, hn⟩, _⟩ := hf
          exact hn (hv x (List.mem_of_getElem? hx))
        have goodC : ∀ k, ¬ FirstBad 0 10000 (packI ba vs) k := fun k hf => by
          obtain ⟨⟨x, hx, hn⟩, _⟩ := hf
          exact hn (hcs x (List.mem_of_getElem? hx))
        refine q_asg ?_
        walk_at "law"
        refine sp_jY ⟨ba, rfl, fun _ => ?_, fun z => z gb⟩
        walk_at "law"
        refine sp_jY ⟨ba, vs, rfl, by omega, fun z => z gb, fun _ => ⟨fun k hf => good k hf, fun _ => ?_⟩⟩
        walk_at "law"
        walk_at "nm"
        refine q_when ?_
        walk_at "law"
        refine sp_j ⟨ba, rfl, g1, g2, ?_⟩
        walk_at "law"
        refine sp_j ⟨_, rfl, .lst (n := 3) (fun d hd => ?_) (by show 2 ≤ 100000; decide), ?_⟩
        · simp only [List.mem_cons, List.not_mem_nil, or_false] at hd
          rcases hd with rfl | rfl
          · exact .int _
          · refine .tup (n := 2) (fun d hd => ?_) (by rw [List.length_map]; omega)
            obtain ⟨x, _, rfl⟩ := List.mem_map.mp hd
            exact .int _
        refine or_no rfl ?_
        walk_at "law"
        refine ne_same ?_
        walk_at "law"
        refine bl_no rfl ?_
        refine q_asg ?_
        walk_at "law"
        refine sp_j ⟨ba, rfl, g1, g2, ?_⟩
        walk_at "law"
        walk_at "nm"
        have hmost : (((packI ba vs).length : Int) * (perB ba : Int)) = (((packI ba vs).length * perB ba : Nat) : Int) := (Int.natCast_mul _ _).symm
        have hmle : (packI ba vs).length * perB ba ≤ 6000 := Nat.le_trans (Nat.mul_le_mul hcl hp2) (by decide)
        rw [hmost]
        generalize hmo : (packI ba vs).length * perB ba = mo at hmle hfull
        refine q_asg ?_
        walk_at "law"
        refine R2N.j (mul_l ⟨by omega, by omega⟩ (by show 1 * _ ≤ 100000; omega) ?_)
        rw [rep0]
        refine R2N.j (add_l (by rw [List.length_map, List.length_map, List.length_replicate]; omega) ?_)
        rw [← List.map_append]
        walk_at "nm"
        refine q_when ?_
        walk_at "law"
        refine EN.ev (en_fmR (c := cnM K b l tb qlam) (by decide) ?_)
        walk_at "law"
        refine ⟨(mo : Nat), fun _ => false, fun d => d, rfl, by omega, by omega, fun j hj => ?_, ?_⟩
        · walk_at "nm"
          walk_at "law"
          refine sp_jY ⟨ba, packI ba vs, (j : Nat), rfl, by omega, fun z => z gb, fun _ => ⟨fun k hf => goodC k hf, fun _ => ⟨fun z => z ⟨by omega, by rw [hmo]; omega⟩, fun _ => ?_⟩⟩⟩
          have hu : unpI ba (packI ba vs) j = vs.getD j 0 := unp_all g1 hv (by rw [Nat.div_lt_iff_lt_mul (by omega)]; omega)
          rw [Int.toNat_natCast, hu]
          walk_at "law"
          refine ix_l (d := .int (vs.getD j 0)) (atI_nat (full_at (by omega))) ?_
          walk_at "law"
          refine sp_j ⟨_, rfl, .int _, ?_⟩
          exact ⟨rfl, fun z => nomatch z⟩
        rw [show (rangeD 0 ((mo : Nat) : Int).toNat).filter (fun _ => false) = [] from List.filter_eq_nil_iff.mpr fun _ _ => Bool.false_ne_true, List.map_nil]
        refine EN.ev (en_lst ?_)
        walk_at "law"
        refine ne_nil (n := 0) (fun d hd => by cases hd) (by decide) ?_
        walk_at "law"
        refine bl_no rfl ?_
        refine q_asg ?_
        walk_at "law"
        refine pow_i ⟨by decide, by decide, by decide⟩ ?_
        walk_at "law"
        refine take_j (by decide) (by decide) fun fa f0 f1 => ?_
        walk_at "nm"
        refine q_asg ?_
        walk_at "law"
        refine take_j (by omega) (by omega) fun r3 a3 b3 => ?_
        obtain ⟨od, hod, ngood⟩ := pick4 (P := fun x => ¬ GoodB x) a3 b3 (b0 := 1) (b1 := 0) (b2 := -1 - fa) (b3 := 10001 + fa) (fun g => absurd g.1 (by omega)) (fun g => absurd g.1 (by omega)) (fun g => absurd g.1 (by omega)) (fun g => absurd g.2 (by omega))
        refine ix_l hod ?_
        walk_at "nm"
        have two : ∀ (nm : Str) (i : Int), Al 4 (.tup [.str nm, .int i]) := fun nm i => .tup (n := 3) (fun d hd => by
          simp only [List.mem_cons, List.not_mem_nil, or_false] at hd
          rcases hd with rfl | rfl
          · exact .str _
          · exact .int _) (by show 2 ≤ 100000; decide)
        have rNum : ∀ (nm : Str) (pl : Option Int), nm = "BadNumber" ∧ pl = none → nm ∈ rzN ∧ placed nm = pl.isSome ∧ (Dt.tup [.str "BadNumber", .int 0]) = .tup [.str nm, .int (pl.getD 0)] := by
          rintro nm pl ⟨rfl, rfl⟩
          exact ⟨by decide, by decide, rfl⟩
        refine q_asg (EN.ev (en_lst ?_))
        refine ea_cons (ev_lamM fun fA LA hA => ?_)
        refine ea_cons (ev_lamM fun fB LB hB => ?_)
        refine ea_cons (ev_lamM fun fC LC hC => ?_)
        refine ea_nil (lenOk (by dsimp only [List.length_cons, List.length_nil]; decide) ?_)
        walk_at "nm"
        refine q_when ?_
        walk_at "law"
        refine ev_allM ?_ rfl
        walk_at "law"
        refine ⟨_, _, rfl, two _ _, (by show 3 ≤ 100; decide), fun d hd => ?_, ?_⟩
        · simp only [List.mem_cons, List.not_mem_nil, or_false] at hd
          rcases hd with rfl | rfl | rfl
          · refine ⟨_, _, _, rfl, hA, tell_y ?_⟩
            walk_at "go"
            refine ⟨fun nm pl => nm = "BadNumber" ∧ pl = none, ⟨od, rfl, fun g => absurd g ngood, fun _ => ⟨rfl, rfl⟩⟩, rNum⟩
          · refine ⟨_, _, _, rfl, hB, tell_y ?_⟩
            walk_at "go"
            refine EN.ev (en_lst ?_)
            walk_at "go"
            refine ⟨fun nm pl => nm = "BadNumber" ∧ pl = none, ⟨od, [-1], rfl, by decide, fun _ => ⟨rfl, rfl⟩, fun g => absurd g ngood⟩, rNum⟩
          · refine ⟨_, _, _, rfl, hC, tell_y ?_⟩
            walk_at "go"
            refine ⟨fun nm pl => nm = "BadNumber" ∧ pl = none, ⟨od, [-1], -1, rfl, by decide, fun _ => ⟨rfl, rfl⟩, fun g => absurd g ngood⟩, rNum⟩
        walk_at "law"
        refine bl_no rfl ?_
        refine q_asg ?_
        walk_at "law"
        refine take_j (by omega) (by omega) fun ak a4 b4 => ?_
        obtain ⟨k, rfl⟩ := Int.eq_ofNat_of_zero_le a4
        have hk : k ≤ vs.length := by omega
        walk_at "nm"
        refine q_asg ?_
        walk_at "law"
        refine EN.ev (en_sl ?_)
        walk_at "law"
        rw [cut_pre hk]
        walk_at "law"
        refine take_j (by omega) (by omega) fun r4 a5 b5 => ?_
        obtain ⟨bv, hbv, nbv⟩ := pick4 (P := fun x => ¬ (0 ≤ x ∧ x < ba)) a5 b5 (b0 := ba) (b1 := ba + fa) (b2 := -1) (b3 := -1 - fa) (by omega) (by omega) (by omega) (by omega)
        refine ix_l hbv ?_
        walk_at "law"
        have tk : (vs.take k).length ≤ 300 := by rw [List.length_take]; omega
        have dk : (vs.drop k).length ≤ 300 := by rw [List.length_drop]; omega
        refine R2N.j (add_l (by rw [List.length_map]; show _ + 1 ≤ 100000; omega) ?_)
        refine EN.ev (en_sl ?_)
        walk_at "law"
        rw [cut_suf hk]
        refine R2N.j (add_l (by rw [List.length_append, List.length_map, List.length_map]; show _ + 1 + _ ≤ 100000; omega) ?_)
        walk_at "law"
        refine R2N.j (add_l (by rw [List.length_append, List.length_append, List.length_map, List.length_map]; show _ + 1 + _ + 1 ≤ 100000; omega) ?_)
        rw [show (vs.take k).map Dt.int ++ [.int bv] ++ (vs.drop k).map Dt.int ++ [.int (-1)] = (vs.take k ++ [bv] ++ vs.drop k ++ [-1]).map Dt.int by simp only [List.map_append, List.map_cons, List.map_nil]]
        walk_at "nm"
        refine q_when ?_
        walk_at "law"
        refine ev_allM ?_ rfl
        refine ea_cons (EN.ev (en_lst ?_))
        refine ea_cons (ev_lamM fun fD LD hDl => ?_)
        refine ea_nil (lenOk (by dsimp only [List.length_cons, List.length_nil]; decide) ?_)
        walk_at "law"
        refine ⟨_, _, rfl, two _ _, (by show 1 ≤ 100; decide), fun d hd => ?_, ?_⟩
        · rw [List.mem_singleton.mp hd]
          refine ⟨_, _, _, rfl, hDl, tell_y ?_⟩
          walk_at "go"
          refine ⟨fun nm pl => nm = "BadValues" ∧ pl = some ((k : Nat) : Int), ⟨ba, _, rfl, by rw [List.length_append, List.length_append, List.length_append]; show _ + 1 + _ + 1 ≤ 1000; omega, fun z => absurd gb z, fun _ => ⟨fun k' hf => ?_, fun hall => ?_⟩⟩, ?_⟩
          · exact ⟨rfl, by rw [first_uniq hf (first_bad (y := -1) hv hk nbv)]⟩
          · exact (first_not (first_bad (y := -1) hv hk nbv) hall).elim
          · rintro nm pl ⟨rfl, rfl⟩
            exact ⟨by decide, rfl, rfl⟩
        walk_at "law"
        refine bl_no rfl ?_
        refine q_asg ?_
        walk_at "law"
        refine take_j (by omega) (by omega) fun ak2 a6 b6 => ?_
        obtain ⟨k2, rfl⟩ := Int.eq_ofNat_of_zero_le a6
        have hk2 : k2 ≤ (packI ba vs).length := by omega
        walk_at "nm"
        refine q_asg ?_
        walk_at "law"
        refine ev_slT ?_
        walk_at "law"
        rw [cut_pre hk2]
        walk_at "law"
        refine take_j (by omega) (by omega) fun r6 a7 b7 => ?_
        obtain ⟨cv, hcv, ncv⟩ := pick3 (P := fun x => ¬ (0 ≤ x ∧ x < 10000)) a7 b7 (b0 := 10000) (b1 := 10000 + fa) (b2 := -1) (by omega) (by omega) (by omega)
        refine ix_l hcv ?_
        walk_at "law"
        have tk2 : ((packI ba vs).take k2).length ≤ 400 := by rw [List.length_take]; omega
        have dk2 : ((packI ba vs).drop k2).length ≤ 400 := by rw [List.length_drop]; omega
        refine add_t (by rw [List.length_map]; show _ + 1 ≤ 100000; omega) ?_
        refine ev_slT ?_
        walk_at "law"
        rw [cut_suf hk2]
        refine add_t (by rw [List.length_append, List.length_map, List.length_map]; show _ + 1 + _ ≤ 100000; omega) ?_
        walk_at "law"
        refine add_t (by rw [List.length_append, List.length_append, List.length_map, List.length_map]; show _ + 1 + _ + 1 ≤ 100000; omega) ?_
        rw [show ((packI ba vs).take k2).map Dt.int ++ [.int cv] ++ ((packI ba vs).drop k2).map Dt.int ++ [.int (-1)] = ((packI ba vs).take k2 ++ [cv] ++ (packI ba vs).drop k2 ++ [-1]).map Dt.int by simp only [List.map_append, List.map_cons, List.map_nil]]
        walk_at "nm"
        refine q_when ?_
        walk_at "law"
        refine ev_allM ?_ rfl
        refine ea_cons (EN.ev (en_lst ?_))
        refine ea_cons (ev_lamM fun fE LE hEl => ?_)
        refine ea_nil (lenOk (by dsimp only [List.length_cons, List.length_nil]; decide) ?_)
        walk_at "law"
        refine ⟨_, _, rfl, two _ _, (by show 1 ≤ 100; decide), fun d hd => ?_, ?_⟩
        · rw [List.mem_singleton.mp hd]
          refine ⟨_, _, _, rfl, hEl, tell_y ?_⟩
          walk_at "go"
          refine ⟨fun nm pl => nm = "BadValues" ∧ pl = some ((k2 : Nat) : Int), ⟨ba, _, _, rfl, by rw [List.length_append, List.length_append, List.length_append]; show _ + 1 + _ + 1 ≤ 1000; omega, fun z => absurd gb z, fun _ => ⟨fun k' hf => ?_, fun hall => ?_⟩⟩, ?_⟩
          · exact ⟨rfl, by rw [first_uniq hf (first_bad (y := -1) hcs hk2 ncv)]⟩
          · exact (first_not (first_bad (y := -1) hcs hk2 ncv) hall).elim
          · rintro nm pl ⟨rfl, rfl⟩
            exact ⟨by decide, rfl, rfl⟩
        walk_at "law"
        refine bl_no rfl ?_
        refine q_asg ?_
        walk_at "law"
        refine take_j (by omega) (by omega) fun r7 a8 b8 => ?_
        walk_at "law"
        refine take_j (by omega) (by omega) fun r8 a9 b9 => ?_
        obtain ⟨pv, hpv, npv⟩ := pick4 (P := fun x => ¬ (0 ≤ x ∧ x < (mo : Nat))) a9 b9 (b0 := -1 - r7) (b1 := -1 - fa) (b2 := (mo : Nat)) (b3 := (mo : Nat) + fa) (by omega) (by omega) (by omega) (by omega)
        refine ix_l hpv ?_
        walk_at "nm"
        refine nj_when ?_
        walk_at "law"
        refine ev_allM ?_ rfl
        refine ea_cons (EN.ev (en_lst ?_))
        refine ea_cons (ev_lamM fun fG LG hGl => ?_)
        refine ea_nil (lenOk (by dsimp only [List.length_cons, List.length_nil]; decide) ?_)
        walk_at "law"
        refine ⟨_, _, rfl, two _ _, (by show 1 ≤ 100; decide), fun d hd => ?_, ?_⟩
        · rw [List.mem_singleton.mp hd]
          refine ⟨_, _, _, rfl, hGl, tell_y ?_⟩
          walk_at "go"
          refine ⟨fun nm pl => nm = "BadNumber" ∧ pl = none, ⟨ba, _, _, rfl, by omega, fun z => absurd gb z, fun _ => ⟨fun k' hf => (goodC k' hf).elim, fun _ => ⟨fun _ => ⟨rfl, rfl⟩, fun z => absurd (by rw [hmo] at z; exact z) npv⟩⟩⟩, rNum⟩
        walk_at "law"
        refine bl_no rfl ?_
        exact nj_nxw _ rfl (.same (.same (.un (.un (.un (.un (.un (.un (.un (.un (.un (.un (.un (.un (.un (.un (.un (.un .nil))))))))))))))))))
    · rintro ρ' rfl
      refine nj_ret ?_
      walk_at "law"
      intro v H2 e2 b2 r2
      cases r2
      exact hq _
end CC

namespace CC
open PySem PySem.Spec PyProof.Rows L2
open C8 (Cal pe_c pe_gc)
theorem law_fn {P : Program} {w : World} {K : PySem.W.Frag} {mg : Str → Option Value} {base : Heap} {f : Addr} {fd : FuncData} (T : Txt K mg) (F : Fun K "law" "law" s_law f fd) {co tb : Addr} (TB : LamX.TabB base mg co tb) (hcode : fd.code = .ref co) : FnOk P w K mg base L2.CX0 17 f fd ["_law_script"] (sp_law K tb) := by
  have c_powers_of := fun B : Heap => ok_powers_of (P := P) (w := w) (base := B) T 
  have c__law_begun := fun B : Heap => ok__law_begun (P := P) (w := w) (base := B) T 
  have c__law_take := fun B : Heap => ok__law_take (P := P) (w := w) (base := B) T 
  have c__law_class := fun B : Heap => ok__law_class (P := P) (w := w) (base := B) T 
  have c__law_per := fun B : Heap => ok__law_per (P := P) (w := w) (base := B) T 
  have c_need_base := fun B : Heap => ok_need_base (P := P) (w := w) (base := B) T 
  have c_packed_by := fun B : Heap => ok_packed_by (P := P) (w := w) (base := B) T (c_powers_of B)
  have c_value_in := fun B : Heap => ok_value_in (P := P) (w := w) (base := B) T (c_powers_of B)
  have c__law_packed := fun B : Heap => ok__law_packed (P := P) (w := w) (base := B) T (c__law_per B)
  have c__law_base := fun B : Heap => ok__law_base (P := P) (w := w) (base := B) T (c__law_take B)
  have c_per_cell := fun B : Heap => ok_per_cell (P := P) (w := w) (base := B) T (c_need_base B) (c_powers_of B)
  have c_packed := fun B : Heap => ok_packed (P := P) (w := w) (base := B) T (c_need_base B) (c_packed_by B)
  have c_read_packed := fun B : Heap => ok_read_packed (P := P) (w := w) (base := B) T (c_need_base B) (c_powers_of B) (c_value_in B)
  have c__law_alike := fun B : Heap => ok__law_alike (P := P) (w := w) (base := B) T  4
  have c__law_told := fun B : Heap => ok__law_told (P := P) (w := w) (base := B) T (c__law_class B)
  have c__law_all := fun B : Heap => ok__law_all (P := P) (w := w) (base := B) T (c__law_alike B) (c__law_told B)
  exact ok_law T c__law_begun c__law_base c__law_take c__law_packed c_packed c_per_cell c__law_alike c__law_per c_read_packed c__law_all F TB hcode
def plB (K : PySem.W.Frag) : Bool := ceB K (He.ga K "ColumnError") && (oexB K (He.ga K "BadValues") && true)
def dfn (x : Str) (st : Stmt) : He.DefD := ⟨(x, none), x, x, defArgs st, defBody st, defScope st, [], []⟩
theorem fun_ofD {K : PySem.W.Frag} {x : Str} {st : Stmt} {f : Addr} {fd : FuncData} (F : FunD K x x (defArgs st) (defBody st) (defScope st) [] [] f fd) : Fun K x x st f fd := by
  obtain ⟨⟨oc, od, dV, kV, doc, pm, an, cdv, ct, osl, e, lk, hcd, hD, hK⟩, kp⟩ := F
  rcases hD with ⟨_, rfl⟩ | ⟨z, _⟩
  · exact ⟨⟨oc, od, kV, doc, pm, an, cdv, ct, osl, e, lk, hcd⟩, kp⟩
  · exact absurd rfl z
theorem code_of {K : PySem.W.Frag} {x : Str} {st : Stmt} {fd : FuncData} (F : FunD K x x (defArgs st) (defBody st) (defScope st) [] [] (He.fAd K (x, none)) fd) : fd.code = .ref (He.cT K (x, none)).1 := by
  obtain ⟨⟨oc, od, dV, kV, doc, pm, an, cdv, ct, osl, e, lk, hcd, hD, hK⟩, kp⟩ := F
  obtain ⟨c, rfl⟩ := He.codeIn_ref hcd
  have e2 : fd.code = .ref c := by rw [e]
  rw [e2, show (He.cT K (x, none)).1 = c from He.codeOf_eq (p := (x, none)) lk e2]
def dfnM (x m q : Str) (st : Stmt) : He.DefD := ⟨(x, some m), m, q, defArgs st, defBody st, defScope st, [], []⟩
theorem fun_ofM {K : PySem.W.Frag} {x q : Str} {st : Stmt} {f : Addr} {fd : FuncData} (F : FunD K x q (defArgs st) (defBody st) (defScope st) [] [] f fd) : Fun K x q st f fd := by
  obtain ⟨⟨oc, od, dV, kV, doc, pm, an, cdv, ct, osl, e, lk, hcd, hD, hK⟩, kp⟩ := F
  rcases hD with ⟨_, rfl⟩ | ⟨z, _⟩
  · exact ⟨⟨oc, od, kV, doc, pm, an, cdv, ct, osl, e, lk, hcd⟩, kp⟩
  · exact absurd rfl z
def fns : List He.DefD := [dfn "need_base" s_need_base, dfn "powers_of" s_powers_of, dfn "per_cell" s_per_cell, dfn "packed_by" s_packed_by, dfn "packed" s_packed, dfn "value_in" s_value_in, dfn "read_packed" s_read_packed, dfn "_law_begun" s__law_begun, dfn "_law_take" s__law_take, dfn "_law_alike" s__law_alike, dfn "_law_class" s__law_class, dfn "_law_told" s__law_told, dfn "_law_all" s__law_all, dfn "_law_per" s__law_per, dfn "_law_packed" s__law_packed, dfn "_law_base" s__law_base, dfn "law" s_law, dfnM "BadValues" "__init__" "BadValues.__init__" s_BadValues___init__]
def fas : List He.Fa := [.free "len", .free "list", .free "tuple", .free "int", .free "isinstance", .free "range", .free "enumerate", .free "str", .free "bool", .free "ValueError", .int "CELL" 10000, .int "LEAST_BASE" 2, .glo "ColumnError", .glo "BadNumber", .glo "BadValues", .glo "NoForm", .glo "BadPrices", .glo "BadKinds", .glo "BadRows", .glo "BadCondition", .glo "BadColumn", .glo "BadHeap", .glo "TooMany", .glo "BadBlock", .glo "Stopped", .glo "BadText", .meth "BadValues" "__init__", .noat "BadValues" "place", .exc "BadNumber", .exm "BadNumber" "BadNumber" true, .glo "need_base", .glo "powers_of", .glo "per_cell", .glo "packed_by", .glo "packed", .glo "value_in", .glo "read_packed", .glo "_law_begun", .glo "_law_take", .glo "_law_alike", .glo "_law_class", .glo "_law_told", .glo "_law_all", .glo "_law_per", .glo "_law_packed", .glo "_law_base", .glo "law"]
def tfs : List He.Defn := [("law", none)]
def exB (K : PySem.W.Frag) : Bool := clsB K rzN clsN && plB K
theorem txt {w : World} {K : PySem.W.Frag} {h : Heap} {mg : Str → Option Value} (X : K.In h) (G : h.Ns mainGlobals mg) (z : He.SaysX fas fns [] tfs exB w h K) : Txt K mg := by
  have c : He.SaysD fas fns K := congrArg (fun z : He.AlT => z.1) z.t
  obtain ⟨ex2, exp⟩ := He.ba z.more
  obtain ⟨ex4, ex3⟩ := He.ba exp
  exact {
    b_len := He.free_ok X G (c.fact 0 (f := .free "len") rfl),
    b_list := He.free_ok X G (c.fact 1 (f := .free "list") rfl),
    b_tuple := He.free_ok X G (c.fact 2 (f := .free "tuple") rfl),
    b_int := He.free_ok X G (c.fact 3 (f := .free "int") rfl),
    b_isinstance := He.free_ok X G (c.fact 4 (f := .free "isinstance") rfl),
    b_range := He.free_ok X G (c.fact 5 (f := .free "range") rfl),
    b_enumerate := He.free_ok X G (c.fact 6 (f := .free "enumerate") rfl),
    b_str := He.free_ok X G (c.fact 7 (f := .free "str") rfl),
    b_bool := He.free_ok X G (c.fact 8 (f := .free "bool") rfl),
    b_ValueError := He.free_ok X G (c.fact 9 (f := .free "ValueError") rfl),
    k_CELL := by
      obtain ⟨t, ht⟩ := He.int_ok X G (c.fact 10 (f := .int "CELL" 10000) rfl)
      exact ⟨_, ht, t, rfl⟩,
    k_LEAST_BASE := by
      obtain ⟨t, ht⟩ := He.int_ok X G (c.fact 11 (f := .int "LEAST_BASE" 2) rfl)
      exact ⟨_, ht, t, rfl⟩,
    g_ColumnError := He.glo_ok X G (c.fact 12 (f := .glo "ColumnError") rfl),
    g_BadNumber := He.glo_ok X G (c.fact 13 (f := .glo "BadNumber") rfl),
    g_BadValues := He.glo_ok X G (c.fact 14 (f := .glo "BadValues") rfl),
    g_NoForm := He.glo_ok X G (c.fact 15 (f := .glo "NoForm") rfl),
    g_BadPrices := He.glo_ok X G (c.fact 16 (f := .glo "BadPrices") rfl),
    g_BadKinds := He.glo_ok X G (c.fact 17 (f := .glo "BadKinds") rfl),
    g_BadRows := He.glo_ok X G (c.fact 18 (f := .glo "BadRows") rfl),
    g_BadCondition := He.glo_ok X G (c.fact 19 (f := .glo "BadCondition") rfl),
    g_BadColumn := He.glo_ok X G (c.fact 20 (f := .glo "BadColumn") rfl),
    g_BadHeap := He.glo_ok X G (c.fact 21 (f := .glo "BadHeap") rfl),
    g_TooMany := He.glo_ok X G (c.fact 22 (f := .glo "TooMany") rfl),
    g_BadBlock := He.glo_ok X G (c.fact 23 (f := .glo "BadBlock") rfl),
    g_Stopped := He.glo_ok X G (c.fact 24 (f := .glo "Stopped") rfl),
    g_BadText := He.glo_ok X G (c.fact 25 (f := .glo "BadText") rfl),
    cls := clsB_ok ex2,
    p_BadValues := by
      obtain ⟨fd, F⟩ := c.def_ 17 (d := dfnM "BadValues" "__init__" "BadValues.__init__" s_BadValues___init__) rfl
      have m := He.meth_ok (c.fact 26 (f := .meth "BadValues" "__init__") rfl)
      exact ⟨He.glo_ok X G (c.fact 14 (f := .glo "BadValues") rfl), oexB_ok (He.ba ex3).1, He.noat_ok (c.fact 27 (f := .noat "BadValues" "place") rfl), ⟨_, ceB_ok (He.glo_ok X G (c.fact 12 (f := .glo "ColumnError") rfl)) ex4⟩, _, fd, s_BadValues___init__, "BadValues.__init__", fun_ofM F, iw_BadValues, m.at_, beq_iff_eq.mp m.fn, F.bindsN fun _ _ _ _ _ _ us hl => match us, hl with | [_, _], _ => rfl⟩,
    x_BadNumber := by
      obtain ⟨e1, e2, e3, e4⟩ := He.exc_ok (c.fact 28 (f := .exc "BadNumber") rfl)
      exact ⟨He.glo_ok X G (c.fact 13 (f := .glo "BadNumber") rfl), e1, e2, e3, e4⟩,
    m_BadNumber := He.exm_ok (c.fact 29 (f := .exm "BadNumber" "BadNumber" true) rfl),
    f_need_base := by
      obtain ⟨fd, F⟩ := c.def_ 0 (d := dfn "need_base" s_need_base) rfl
      exact ⟨_, fd, He.glo_ok X G (c.fact 30 (f := .glo "need_base") rfl), fun_ofD F, F.bindsN fun _ _ _ _ _ _ us hl => match us, hl with | [_], _ => rfl⟩,
    f_powers_of := by
      obtain ⟨fd, F⟩ := c.def_ 1 (d := dfn "powers_of" s_powers_of) rfl
      exact ⟨_, fd, He.glo_ok X G (c.fact 31 (f := .glo "powers_of") rfl), fun_ofD F, F.bindsN fun _ _ _ _ _ _ us hl => match us, hl with | [_], _ => rfl⟩,
    f_per_cell := by
      obtain ⟨fd, F⟩ := c.def_ 2 (d := dfn "per_cell" s_per_cell) rfl
      exact ⟨_, fd, He.glo_ok X G (c.fact 32 (f := .glo "per_cell") rfl), fun_ofD F, F.bindsN fun _ _ _ _ _ _ us hl => match us, hl with | [_], _ => rfl⟩,
    f_packed_by := by
      obtain ⟨fd, F⟩ := c.def_ 3 (d := dfn "packed_by" s_packed_by) rfl
      exact ⟨_, fd, He.glo_ok X G (c.fact 33 (f := .glo "packed_by") rfl), fun_ofD F, F.bindsN fun _ _ _ _ _ _ us hl => match us, hl with | [_, _], _ => rfl⟩,
    f_packed := by
      obtain ⟨fd, F⟩ := c.def_ 4 (d := dfn "packed" s_packed) rfl
      exact ⟨_, fd, He.glo_ok X G (c.fact 34 (f := .glo "packed") rfl), fun_ofD F, F.bindsN fun _ _ _ _ _ _ us hl => match us, hl with | [_, _], _ => rfl⟩,
    f_value_in := by
      obtain ⟨fd, F⟩ := c.def_ 5 (d := dfn "value_in" s_value_in) rfl
      exact ⟨_, fd, He.glo_ok X G (c.fact 35 (f := .glo "value_in") rfl), fun_ofD F, F.bindsN fun _ _ _ _ _ _ us hl => match us, hl with | [_, _, _], _ => rfl⟩,
    f_read_packed := by
      obtain ⟨fd, F⟩ := c.def_ 6 (d := dfn "read_packed" s_read_packed) rfl
      exact ⟨_, fd, He.glo_ok X G (c.fact 36 (f := .glo "read_packed") rfl), fun_ofD F, F.bindsN fun _ _ _ _ _ _ us hl => match us, hl with | [_, _, _], _ => rfl⟩,
    f__law_begun := by
      obtain ⟨fd, F⟩ := c.def_ 7 (d := dfn "_law_begun" s__law_begun) rfl
      exact ⟨_, fd, He.glo_ok X G (c.fact 37 (f := .glo "_law_begun") rfl), fun_ofD F, F.bindsN fun _ _ _ _ _ _ us hl => match us, hl with | [_], _ => rfl⟩,
    f__law_take := by
      obtain ⟨fd, F⟩ := c.def_ 8 (d := dfn "_law_take" s__law_take) rfl
      exact ⟨_, fd, He.glo_ok X G (c.fact 38 (f := .glo "_law_take") rfl), fun_ofD F, F.bindsN fun _ _ _ _ _ _ us hl => match us, hl with | [_, _], _ => rfl⟩,
    f__law_alike := by
      obtain ⟨fd, F⟩ := c.def_ 9 (d := dfn "_law_alike" s__law_alike) rfl
      exact ⟨_, fd, He.glo_ok X G (c.fact 39 (f := .glo "_law_alike") rfl), fun_ofD F, F.bindsN fun _ _ _ _ _ _ us hl => match us, hl with | [_, _], _ => rfl⟩,
    f__law_class := by
      obtain ⟨fd, F⟩ := c.def_ 10 (d := dfn "_law_class" s__law_class) rfl
      exact ⟨_, fd, He.glo_ok X G (c.fact 40 (f := .glo "_law_class") rfl), fun_ofD F, F.bindsN fun _ _ _ _ _ _ us hl => match us, hl with | [_], _ => rfl⟩,
    f__law_told := by
      obtain ⟨fd, F⟩ := c.def_ 11 (d := dfn "_law_told" s__law_told) rfl
      exact ⟨_, fd, He.glo_ok X G (c.fact 41 (f := .glo "_law_told") rfl), fun_ofD F, F.bindsN fun _ _ _ _ _ _ us hl => match us, hl with | [_], _ => rfl⟩,
    f__law_all := by
      obtain ⟨fd, F⟩ := c.def_ 12 (d := dfn "_law_all" s__law_all) rfl
      exact ⟨_, fd, He.glo_ok X G (c.fact 42 (f := .glo "_law_all") rfl), fun_ofD F, F.bindsN fun _ _ _ _ _ _ us hl => match us, hl with | [_, _], _ => rfl⟩,
    f__law_per := by
      obtain ⟨fd, F⟩ := c.def_ 13 (d := dfn "_law_per" s__law_per) rfl
      exact ⟨_, fd, He.glo_ok X G (c.fact 43 (f := .glo "_law_per") rfl), fun_ofD F, F.bindsN fun _ _ _ _ _ _ us hl => match us, hl with | [_], _ => rfl⟩,
    f__law_packed := by
      obtain ⟨fd, F⟩ := c.def_ 14 (d := dfn "_law_packed" s__law_packed) rfl
      exact ⟨_, fd, He.glo_ok X G (c.fact 44 (f := .glo "_law_packed") rfl), fun_ofD F, F.bindsN fun _ _ _ _ _ _ us hl => match us, hl with | [_, _], _ => rfl⟩,
    f__law_base := by
      obtain ⟨fd, F⟩ := c.def_ 15 (d := dfn "_law_base" s__law_base) rfl
      exact ⟨_, fd, He.glo_ok X G (c.fact 45 (f := .glo "_law_base") rfl), fun_ofD F, F.bindsN fun _ _ _ _ _ _ us hl => match us, hl with | [_], _ => rfl⟩,
    f_law := by
      obtain ⟨fd, F⟩ := c.def_ 16 (d := dfn "law" s_law) rfl
      exact ⟨_, fd, He.glo_ok X G (c.fact 46 (f := .glo "law") rfl), fun_ofD F, F.bindsN fun _ _ _ _ _ _ us hl => match us, hl with | [_], _ => rfl⟩
  }
abbrev RW : PySem.W.OpenRow := PySem.W.OpenLaw.row PySem.Challenge.rw_codecolumns_k01_packed_numbers
abbrev hk : PySem.W.Hook := hookY 5 fas fns tfs exB
def ob (s : PySem.W.SharedT) : He.AlX := obY 5 fas fns tfs exB (HandSHeadRun.getT s)
theorem ob_eq (s : PySem.W.SharedT) : ob s = hk.obs s.abs := obY_eq (HandSHeadRun.getT_eq s)
def lse : List Str := (["CELL", "LEAST_BASE", "ColumnError", "BadNumber", "BadValues", "NoForm", "BadPrices", "BadKinds", "BadRows", "BadCondition", "BadColumn", "BadHeap", "TooMany", "BadBlock", "Stopped", "BadText", "need_base", "powers_of", "per_cell", "packed_by"] : List Str) ++ (["packed", "value_in", "read_packed", "_law_begun", "_law_take", "_law_alike", "_law_class", "_law_told", "_law_all", "_law_per", "_law_packed", "_law_base"] : List Str)
theorem run (w : World) : HandSHeadRun.RunEq RW (PySem.W.view RW.prog [35]) hk ob 9000 lse w := by
  intro os
  kernel_rfl
end CC
open PySem PySem.W PySem.Calls PyProof.Rows
theorem PySem.Challenge.cw_codecolumns_k01_packed_numbers_holds : PySem.Challenge.rw_codecolumns_k01_packed_numbers.Holds := by
  w_on; o_law
  refine HandSHeadRun.head_any (r := OpenLaw.row PySem.Challenge.rw_codecolumns_k01_packed_numbers) (q := view (OpenLaw.row PySem.Challenge.rw_codecolumns_k01_packed_numbers).prog [35]) (H := CC.hk) (ob := CC.ob) (M := 9000) (loose := CC.lse) (d := HandSHeadRun.topDef (OpenLaw.row PySem.Challenge.rw_codecolumns_k01_packed_numbers).prog 35) (kwd := []) CC.ob_eq
    (by kernel_rfl) (fun s => by kernel_rfl) CC.run (by kernel_rfl) (by kernel_rfl) (by kernel_rfl) (by rfl) (by first | assumption | decide +kernel) (by decide +kernel) ⟨rfl, rfl, rfl, rfl, rfl, by decide +kernel⟩ ?hw ?hc
  case hw => w_witness2
  case hc =>
    refine LamX.walk_ofTsE (l := PySem.Challenge.rw_codecolumns_k01_packed_numbers) (n := 63) (k := 17) (x := "_law_script") (CX := fun _ => L2.CX0) rfl (by decide) (by kernel_rfl) ⟨rfl, by decide, by decide⟩ ?F (fun _ _ _ _ _ z => z)
    intro w mg fa h Y G hmg0
    obtain ⟨K, KX, c⟩ := Y
    have hmg : mg ("law" : PySem.Str) = some (.ref fa) := by
      have e : (HandSHeadRun.topDef (OpenLaw.row PySem.Challenge.rw_codecolumns_k01_packed_numbers).prog 35).name = ("law" : PySem.Str) := by kernel_rfl
      rw [← e]
      exact hmg0
    have cd : He.SaysD CC.fas CC.fns K := congrArg (fun z : He.AlT => z.1) c.t
    obtain ⟨fd, F⟩ := cd.def_ 16 (d := CC.dfn "law" CC.s_law) rfl
    have e := hmg.symm.trans (He.glo_ok KX G (cd.fact 46 (f := .glo "law") rfl))
    cases e
    have b := L2.FunD.bindsA (ps := ["_law_script"]) F fun _ _ _ _ _ _ us hl => match us, hl with | [_], _ => rfl
    have hco : fd.code = .ref (He.cT K ("law", none)).1 := CC.code_of (st := CC.s_law) F
    refine ⟨K, KX, fd, [He.cT K ("law", none)], CC.sp_law K (He.cT K ("law", none)).2, fun p hp => ?_, fun p hp => ?_, fun p hp => ?_, fun s v => b s [v] rfl, fun H a ns hl _ hH hS => ⟨a, ns, rfl, hS, hl, hH _ List.mem_cons_self, fun _ => rfl⟩, fun base _ _ TB => CC.law_fn (CC.txt KX G c) (CC.fun_ofD F) (TB _ List.mem_cons_self) hco⟩
    · rw [List.mem_singleton.mp hp]; exact c.empty _ List.mem_cons_self
    · rw [List.mem_singleton.mp hp]; exact c.out _ List.mem_cons_self
    · rw [List.mem_singleton.mp hp]; exact PySem.W.codeHd_of_K KX (c.hd _ List.mem_cons_self)

