import PyProof.Rows.All
import Wide.All
import OpenK.AllK
import Wide.FinOn
import HandS.ForMost
import HandS.ForExc
import HandS.Walk
import HandS.Evl
import HandS.ExcCtx
import HandS.TupAny
import HandS.Deep
import HandS.WordsDict
import HandS.TupLen
import HandS.Star
import HandS.Flow
import HandS.SortInts
import HandS.SortRule
import HandS.DictComp
import HandS.Head0
import HandS.Head1
import HandS.Head2
import HandS.HeadEnd
import HandS.HeadHook1
import HandS.HeadHook2
import HandS.Set
import HandS.SetFor
import HandS.SetTxt0
import PyProof.StrWalks
import HandS.Strs
import PyProof.Rows.SortShellAny
import HandS.Codes
import KE.SortData
import KE.DataCmp
import HandS.Conv
import HandS.TupLe
import KE.GoesMore
import HandS.Iter
import PyProof.ReprRoads
import PyProof.ReprLen
import HandS.Finally
import HandS.Style
import PyProof.Rows.StrRev
import PyProof.ListStr
import PyProof.StrLawsIn
import HandS.List
import HandS.SetKeys
import KE.GoesZip
import HandS.Remove
import PyProof.MeetsSeq
import KE.DataMinMax
import KE.KExcSuper
import KE.KSuperObj
import KE.KSuper
import KE.KExcMake
import KE.KExcInit
import HandS.ExcInit
import HandS.ExcField
import HandS.HotCalls
import HandS.ExcIs
import KE.KExcIs
import HandS.TryOnly
import PyProof.CollectStr
import PyProof.SumAny
import PyProof.Rows.SeqMore
import PySem.Challenge.RW_wordsatplay_k29_whole_numbers_of_classes
set_option Elab.async false
set_option linter.all false
set_option maxRecDepth 100000
set_option maxHeartbeats 2000000
set_option autoImplicit false
/-! VL0: plain values PV, results R, what a value of the heap is (Rep). -/
namespace VL
open PySem PySem.Spec L2

/-! ### values -/
inductive PV where
  | none | bool (b : Bool) | int (i : Int) | str (s : List Nat) | list (xs : List PV) | tup (xs : List PV)
  | dict (t : Bool) (ks vs : List PV) | set (xs : List PV) | kn (xs : List PV) | fn (j : Nat) | exn (c : Nat) (d : PV)
  deriving Inhabited, Repr

/-- what a run gives: a value; an own error of the class c with d; no word of it -/
inductive R (α : Type) where
  | ok (a : α) | exc (c : Nat) (d : PV) | bad
  deriving Inhabited, Repr
namespace R
@[inline] def bind {α β : Type} : R α → (α → R β) → R β
  | .ok a, f => f a
  | .exc c d, _ => .exc c d
  | .bad, _ => .bad
instance : Monad R where
  pure := .ok
  bind := R.bind
/-- k of the value, x of the error -/
def Res {α : Type} (r : R α) (k : α → Prop) (x : Nat → PV → Prop) : Prop := match r with
  | .ok a => k a
  | .exc c d => x c d
  | .bad => False
theorem Res.imp {α : Type} {r : R α} {k k' : α → Prop} {x x' : Nat → PV → Prop} (h : Res r k x) (hk : ∀ a, k a → k' a) (hx : ∀ c d, x c d → x' c d) : Res r k' x' := by
  cases r with
  | ok a => exact hk a h
  | exc c d => exact hx c d h
  | bad => exact h
theorem res_bind {α β : Type} {r : R α} {f : α → R β} {k : β → Prop} {x : Nat → PV → Prop} : Res (r >>= f) k x = Res r (fun a => Res (f a) k x) x := by
  cases r <;> rfl
theorem res_ok {α : Type} {a : α} {k : α → Prop} {x : Nat → PV → Prop} : Res (.ok a) k x = k a := rfl
theorem res_pure {α : Type} {a : α} {k : α → Prop} {x : Nat → PV → Prop} : Res (pure a) k x = k a := rfl
@[simp] theorem bind_ok {α β : Type} {a : α} {f : α → R β} : (R.ok a >>= f) = f a := rfl
@[simp] theorem bind_exc {α β : Type} {c : Nat} {d : PV} {f : α → R β} : ((R.exc c d : R α) >>= f) = R.exc c d := rfl
@[simp] theorem bind_bad {α β : Type} {f : α → R β} : ((R.bad : R α) >>= f) = R.bad := rfl
@[simp] theorem pure_ok {α : Type} {a : α} : (pure a : R α) = R.ok a := rfl
end R
open R

/-! ### heaps -/
abbrev Ex := Evl.Ex
/-- without the addresses L -/
def hid (H : Hp) (L : List Addr) : Hp := fun a => if a ∈ L then none else H a
theorem hid_nil {H : Hp} : hid H [] = H := by
  funext a
  unfold hid
  rw [if_neg (by simp)]
theorem hid_some {H : Hp} {L : List Addr} {a : Addr} {o : HO} : hid H L a = some o ↔ a ∉ L ∧ H a = some o := by
  unfold hid
  by_cases h : a ∈ L
  · rw [if_pos h]
    exact ⟨fun z => (nomatch z), fun z => absurd h z.1⟩
  · rw [if_neg h]
    exact ⟨fun z => ⟨h, z⟩, fun z => z.2⟩
theorem hid_ex {H H' : Hp} {L : List Addr} (e : Ex H H') : Ex (hid H L) (hid H' L) := fun a o h => by
  obtain ⟨h1, h2⟩ := hid_some.mp h
  exact hid_some.mpr ⟨h1, e a o h2⟩
theorem hid_le {H : Hp} {L : List Addr} : Ex (hid H L) H := fun a o h => (hid_some.mp h).2
/-- fewer addresses hidden -/
theorem hid_sub {H : Hp} {L L' : List Addr} (h : ∀ a ∈ L', a ∈ L) : Ex (hid H L) (hid H L') := fun a o q => by
  obtain ⟨h1, h2⟩ := hid_some.mp q
  exact hid_some.mpr ⟨fun z => h1 (h a z), h2⟩
/-- one more address hidden, that was free -/
theorem hid_more {H H' : Hp} {L : List Addr} {p : Addr} (e : Ex H H') (hp : H p = none) : Ex (hid H L) (hid H' (p :: L)) := fun a o q => by
  obtain ⟨h1, h2⟩ := hid_some.mp q
  refine hid_some.mpr ⟨fun z => ?_, e a o h2⟩
  rcases List.mem_cons.mp z with z | z
  · rw [z, hp] at h2
    cases h2
  · exact h1 z
theorem hid_upd {H : Hp} {L : List Addr} {p : Addr} {o : HO} (h : p ∈ L) : hid (upd H p o) L = hid H L := by
  funext a
  unfold hid
  by_cases z : a ∈ L
  · rw [if_pos z, if_pos z]
  · rw [if_neg z, if_neg z, upd_ne (by rintro rfl; exact z h)]
theorem ex_upd {H : Hp} {p : Addr} {o : HO} (h : H p = none) : Ex H (upd H p o) := Evl.Ex.new h

/-! ### what a value of the heap is -/
/-- the tables: the written part; where the defs stand; where the classes of errors stand -/
structure Tb where
  K : PySem.W.Frag
  fa : List Addr
  ca : List Addr

/-- signs are code points -/
def sok (x : List Nat) : Bool := x.all fun c => decide (c < 1114112)
/-- keys of a dict -/
def keyP : Key → PV
  | .inl i => .int i
  | .inr x => .str x.cps.toList

mutual
inductive Rep (T : Tb) (H : Hp) : V → PV → Prop
  | non : Rep T H .non .none
  | bl (b : Bool) : Rep T H (.bl b) (.bool b)
  | int (i : Int) : Rep T H (.int i) (.int i)
  | str (x : Str) : x.length ≤ sizeLine → sok x.cps.toList = true → Rep T H (.str x) (.str x.cps.toList)
  | lst {a : Addr} {xs : List V} {ds : List PV} : H a = some (.lst xs) → RepA T H xs ds → xs.length ≤ sizeLine → Rep T H (.ref a) (.list ds)
  | kn {a : Addr} {xs : List V} {ds : List PV} : SqL T.K H a xs → RepA T H xs ds → xs.length ≤ sizeLine → Rep T H (.ref a) (.kn ds)
  | knT {a : Addr} {xs : List V} {ds : List PV} : SqT T.K H a xs → RepA T H xs ds → xs.length ≤ sizeLine → Rep T H (.ref a) (.kn ds)
  | tup {a : Addr} {xs : List V} {ds : List PV} : H a = some (.tup xs) → RepA T H xs ds → xs.length ≤ sizeLine → Rep T H (.ref a) (.tup ds)
  | dK {a : Addr} {o : Obj} {kvs : List (Key × V)} {vs : List PV} : H a = some (.frz o (.dK kvs)) → RepA T H (kvs.map (·.2)) vs → Rep T H (.ref a) (.dict false (kvs.map fun e => keyP e.1) vs)
  | dT {a : Addr} {kvs : List (List Key × V)} {vs : List PV} : H a = some (.dT kvs) → RepA T H (kvs.map (·.2)) vs → Rep T H (.ref a) (.dict true (kvs.map fun e => .tup (e.1.map keyP)) vs)
  | fn {j : Nat} {a : Addr} : T.fa[j]? = some a → Rep T H (.ref a) (.fn j)
inductive RepA (T : Tb) (H : Hp) : List V → List PV → Prop
  | nil : RepA T H [] []
  | cons {v : V} {vs : List V} {d : PV} {ds : List PV} : Rep T H v d → RepA T H vs ds → RepA T H (v :: vs) (d :: ds)
end

section
variable {T : Tb} {H H' : Hp}
mutual
theorem Rep.mono (e : Ex H H') : ∀ {d : PV} {v : V}, Rep T H v d → Rep T H' v d
  | .none, _, h => by cases h; exact .non
  | .bool _, _, h => by cases h; exact .bl _
  | .int _, _, h => by cases h; exact .int _
  | .str _, _, h => by
    cases h with
    | str x z y => exact .str x z y
  | .list ds, _, h => by
    cases h with
    | lst q r z => exact .lst (e _ _ q) (RepA.mono e r) z
  | .kn ds, _, h => by
    cases h with
    | kn q r z => exact .kn (Evl.ex_l e q) (RepA.mono e r) z
    | knT q r z => exact .knT (Evl.ex_t e q) (RepA.mono e r) z
  | .tup ds, _, h => by
    cases h with
    | tup q r z => exact .tup (e _ _ q) (RepA.mono e r) z
  | .dict _ ks vs, _, h => by
    cases h with
    | dK q r => exact .dK (e _ _ q) (RepA.mono e r)
    | dT q r => exact .dT (e _ _ q) (RepA.mono e r)
  | .set _, _, h => by cases h
  | .fn _, _, h => by
    cases h with
    | fn q => exact .fn q
  | .exn _ _, _, h => by cases h
theorem RepA.mono (e : Ex H H') : ∀ {ds : List PV} {vs : List V}, RepA T H vs ds → RepA T H' vs ds
  | [], _, h => by cases h; exact .nil
  | d :: ds, _, h => by
    cases h with
    | cons a b => exact .cons (Rep.mono e a) (RepA.mono e b)
end
theorem RepA.length : ∀ {vs : List V} {ds : List PV}, RepA T H vs ds → vs.length = ds.length
  | _, _, .nil => rfl
  | _, _, .cons _ h => by simp [RepA.length h]
theorem RepA.get : ∀ {vs : List V} {ds : List PV} {i : Nat} {v : V}, RepA T H vs ds → vs[i]? = some v → ∃ d, ds[i]? = some d ∧ Rep T H v d
  | _, _, _, _, .nil, e => by simp at e
  | _, _, 0, _, .cons r _, e => by
    simp at e
    subst e
    exact ⟨_, rfl, r⟩
  | _, _, i + 1, v, .cons _ t, e => by
    obtain ⟨d, h1, h2⟩ := RepA.get (i := i) (v := v) t (by simpa using e)
    exact ⟨d, by simpa using h1, h2⟩
theorem RepA.get' : ∀ {vs : List V} {ds : List PV} {i : Nat} {d : PV}, RepA T H vs ds → ds[i]? = some d → ∃ v, vs[i]? = some v ∧ Rep T H v d
  | _, _, _, _, .nil, e => by simp at e
  | _, _, 0, _, .cons r _, e => by
    simp at e
    subst e
    exact ⟨_, rfl, r⟩
  | _, _, i + 1, v, .cons _ t, e => by
    obtain ⟨d, h1, h2⟩ := RepA.get' (i := i) t (by simpa using e)
    exact ⟨d, by simpa using h1, h2⟩
theorem RepA.append : ∀ {xs ys : List V} {ds es : List PV}, RepA T H xs ds → RepA T H ys es → RepA T H (xs ++ ys) (ds ++ es)
  | _, _, _, _, .nil, s => s
  | _, _, _, _, .cons r t, s => .cons r (RepA.append t s)
theorem RepA.take : ∀ {xs : List V} {ds : List PV} (n : Nat), RepA T H xs ds → RepA T H (xs.take n) (ds.take n)
  | _, _, 0, _ => .nil
  | _, _, _ + 1, .nil => .nil
  | _, _, n + 1, .cons r t => .cons r (RepA.take n t)
theorem RepA.drop : ∀ {xs : List V} {ds : List PV} (n : Nat), RepA T H xs ds → RepA T H (xs.drop n) (ds.drop n)
  | _, _, 0, r => r
  | _, _, _ + 1, .nil => .nil
  | _, _, n + 1, .cons _ t => RepA.drop n t
theorem RepA.set {x : V} {d : PV} (r : Rep T H x d) : ∀ {xs : List V} {ds : List PV} (i : Nat), RepA T H xs ds → RepA T H (xs.set i x) (ds.set i d)
  | _, _, _, .nil => .nil
  | _, _, 0, .cons _ t => .cons r t
  | _, _, i + 1, .cons q t => .cons q (RepA.set r i t)
theorem RepA.one {v : V} {d : PV} (r : Rep T H v d) : RepA T H [v] [d] := .cons r .nil
theorem RepA.reverse : ∀ {xs : List V} {ds : List PV}, RepA T H xs ds → RepA T H xs.reverse ds.reverse
  | _, _, .nil => .nil
  | _, _, .cons r t => by
    rw [List.reverse_cons, List.reverse_cons]
    exact RepA.append (RepA.reverse t) (.one r)
end

/-- a value that may be an own object of the frame (its items are not): to be read at once -/
inductive RepW (T : Tb) (L : List Addr) (H : Hp) : V → PV → Prop
  | st {v : V} {d : PV} : Rep T (hid H L) v d → RepW T L H v d
  | lst {a : Addr} {xs : List V} {ds : List PV} : H a = some (.lst xs) → RepA T (hid H L) xs ds → xs.length ≤ sizeLine → RepW T L H (.ref a) (.list ds)
  | dK {a : Addr} {kvs : List (Key × V)} {vs : List PV} : H a = some (.dK kvs) → RepA T (hid H L) (kvs.map (·.2)) vs → RepW T L H (.ref a) (.dict false (kvs.map fun e => keyP e.1) vs)
  | dT {a : Addr} {kvs : List (List Key × V)} {vs : List PV} : H a = some (.dT kvs) → RepA T (hid H L) (kvs.map (·.2)) vs → RepW T L H (.ref a) (.dict true (kvs.map fun e => .tup (e.1.map keyP)) vs)
section
variable {T : Tb} {L : List Addr} {H H' : Hp} {v : V} {d : PV}
theorem RepW.mono (e : Ex H H') (h : RepW T L H v d) : RepW T L H' v d := by
  cases h with
  | st h => exact .st (h.mono (hid_ex e))
  | lst h r z => exact .lst (e _ _ h) (r.mono (hid_ex e)) z
  | dK h r => exact .dK (e _ _ h) (r.mono (hid_ex e))
  | dT h r => exact .dT (e _ _ h) (r.mono (hid_ex e))
theorem RepW.int {i : Int} (h : RepW T L H v (.int i)) : v = .int i := by
  cases h with
  | st h => cases h; rfl
theorem RepW.bool {i : Bool} (h : RepW T L H v (.bool i)) : v = .bl i := by
  cases h with
  | st h => cases h; rfl
theorem RepW.none (h : RepW T L H v .none) : v = .non := by
  cases h with
  | st h => cases h; rfl
theorem RepW.str {x : List Nat} (h : RepW T L H v (.str x)) : ∃ z : Str, v = .str z ∧ z.cps.toList = x ∧ z.length ≤ sizeLine ∧ sok x = true := by
  cases h with
  | st h =>
    cases h with
    | str z q y => exact ⟨z, rfl, rfl, q, y⟩
theorem RepW.list {ds : List PV} (h : RepW T L H v (.list ds)) : ∃ a xs, v = .ref a ∧ H a = some (.lst xs) ∧ RepA T (hid H L) xs ds ∧ xs.length ≤ sizeLine := by
  cases h with
  | st h =>
    cases h with
    | lst q r z => exact ⟨_, _, rfl, hid_le _ _ q, r, z⟩
  | lst q r z => exact ⟨_, _, rfl, q, r, z⟩
theorem RepW.kn {ds : List PV} (h : RepW T L H v (.kn ds)) : ∃ a xs, v = .ref a ∧ (SqL T.K H a xs ∨ SqT T.K H a xs) ∧ RepA T (hid H L) xs ds ∧ xs.length ≤ sizeLine := by
  cases h with
  | st h =>
    cases h with
    | kn q r z => exact ⟨_, _, rfl, .inl (Evl.ex_l hid_le q), r, z⟩
    | knT q r z => exact ⟨_, _, rfl, .inr (Evl.ex_t hid_le q), r, z⟩
theorem RepW.dictK {ks vs : List PV} (h : RepW T L H v (.dict false ks vs)) : ∃ a kvs, v = .ref a ∧ Rd H a (.dK kvs) ∧ RepA T (hid H L) (kvs.map (·.2)) vs ∧ ks = kvs.map fun e => keyP e.1 := by
  cases h with
  | st h =>
    cases h with
    | dK q r => exact ⟨_, _, rfl, .inr ⟨_, hid_le _ _ q⟩, r, rfl⟩
  | dK q r => exact ⟨_, _, rfl, .inl q, r, rfl⟩
theorem RepW.dictT {ks vs : List PV} (h : RepW T L H v (.dict true ks vs)) : ∃ a kvs, v = .ref a ∧ H a = some (.dT kvs) ∧ RepA T (hid H L) (kvs.map (·.2)) vs ∧ ks = kvs.map fun e => .tup (e.1.map keyP) := by
  cases h with
  | st h =>
    cases h with
    | dT q r => exact ⟨_, _, rfl, hid_le _ _ q, r, rfl⟩
  | dT q r => exact ⟨_, _, rfl, q, r, rfl⟩
theorem RepW.tup {ds : List PV} (h : RepW T L H v (.tup ds)) : ∃ a xs, v = .ref a ∧ H a = some (.tup xs) ∧ RepA T (hid H L) xs ds ∧ xs.length ≤ sizeLine ∧ Rep T (hid H L) v (.tup ds) := by
  cases h with
  | st h =>
    cases h with
    | tup q r z => exact ⟨_, _, rfl, hid_le _ _ q, r, z, .tup q r z⟩
theorem RepW.fn {j : Nat} (h : RepW T L H v (.fn j)) : ∃ a, v = .ref a ∧ T.fa[j]? = some a := by
  cases h with
  | st h =>
    cases h with
    | fn q => exact ⟨_, rfl, q⟩
end
end VL
set_option Elab.async false
set_option linter.all false
set_option maxRecDepth 100000
set_option maxHeartbeats 2000000
set_option autoImplicit false
/-! VL1: the frame's plain values, the judgements over plain values, first rules. -/
namespace VL
open PySem PySem.Spec L2 R

abbrev En := List (Option PV)
def Trk (L : List Addr) (H : Hp) : Prop := ∀ a ∈ L, H a ≠ none
theorem Trk.mono {L : List Addr} {H H' : Hp} (e : Ex H H') (t : Trk L H) : Trk L H' := fun a h => by
  cases q : H a with
  | none => exact absurd q (t a h)
  | some o =>
    rw [e a o q]
    exact fun z => nomatch z
theorem Trk.new {L : List Addr} {H : Hp} {p : Addr} (t : Trk L H) (h : H p = none) : p ∉ L := fun z => t p z h
/-- an own object of the frame, its content -/
inductive RepO (T : Tb) (L : List Addr) (H : Hp) (a : Addr) : PV → Prop
  | lst {xs : List V} {ds : List PV} : H a = some (.lst xs) → RepA T (hid H L) xs ds → xs.length ≤ sizeLine → RepO T L H a (.list ds)
  | dK {kvs : List (Key × V)} {vs : List PV} : H a = some (.dK kvs) → RepA T (hid H L) (kvs.map (·.2)) vs → RepO T L H a (.dict false (kvs.map fun e => keyP e.1) vs)
  | dT {kvs : List (List Key × V)} {vs : List PV} : H a = some (.dT kvs) → RepA T (hid H L) (kvs.map (·.2)) vs → RepO T L H a (.dict true (kvs.map fun e => .tup (e.1.map keyP)) vs)
theorem RepO.w {T : Tb} {L : List Addr} {H : Hp} {a : Addr} {d : PV} (h : RepO T L H a d) : RepW T L H (.ref a) d := by
  cases h with
  | lst h r z => exact .lst h r z
  | dK h r => exact .dK h r
  | dT h r => exact .dT h r
theorem RepO.mono {T : Tb} {L : List Addr} {H H' : Hp} {a : Addr} {d : PV} (e : Ex H H') (h : RepO T L H a d) : RepO T L H' a d := by
  cases h with
  | lst h r z => exact .lst (e _ _ h) (r.mono (hid_ex e)) z
  | dK h r => exact .dK (e _ _ h) (r.mono (hid_ex e))
  | dT h r => exact .dT (e _ _ h) (r.mono (hid_ex e))

/-- the slots σ hold the plain values env; ow: the slots that hold own objects, and where these stand; L: what is hidden (own objects, and what is being made) -/
structure EnvR (T : Tb) (L : List Addr) (ow : List (Nat × Addr)) (H : Hp) (σ : L2.St) (env : En) : Prop where
  len : env.length = σ.length
  fr : ∀ i d, env[i]? = some (some d) → i ∉ ow.map (·.1) → ∃ v, σ[i]? = some (some v) ∧ Rep T (hid H L) v d
  own : ∀ i a, (i, a) ∈ ow → a ∈ L ∧ σ[i]? = some (some (.ref a)) ∧ ∃ d, env[i]? = some (some d) ∧ RepO T L H a d
  trk : Trk L H
  nd : (ow.map (·.2)).Nodup
  nd1 : (ow.map (·.1)).Nodup
theorem EnvR.mono {T : Tb} {L : List Addr} {ow : List (Nat × Addr)} {H H' : Hp} {σ : St} {env : En} (e : Ex H H') (r : EnvR T L ow H σ env) : EnvR T L ow H' σ env where
  len := r.len
  fr := fun i d h hi => let ⟨v, h1, h2⟩ := r.fr i d h hi; ⟨v, h1, h2.mono (hid_ex e)⟩
  own := fun i a h => let ⟨h1, h2, d, h3, h4⟩ := r.own i a h; ⟨h1, h2, d, h3, h4.mono e⟩
  trk := r.trk.mono e
  nd := r.nd
  nd1 := r.nd1

/-- an error of the class c with d, as it lies in the heap -/
def XR (T : Tb) (H : Hp) (c : Nat) (d : PV) (cls : Value) (p : Option Addr) : Prop := ∃ C q v, T.ca[c]? = some C ∧ cls = .ref C ∧ p = some q ∧ H q = some (.xd [(("at" : Str), v)]) ∧ Rep T H v d
def xw (T : Tb) (E : XK) (H : Hp) (c : Nat) (d : PV) : Prop := ∀ cls p H', Ex H H' → XR T H' c d cls p → E cls p H'
theorem xw_mono {T : Tb} {E : XK} {H H' : Hp} (e : Ex H H') {c : Nat} {d : PV} (h : xw T E H c d) : xw T E H' c d := fun cls p H2 e2 r => h cls p H2 (e.trans e2) r

/-- the context of a def's body, or of a comprehension's block, over the tables -/
structure Good (T : Tb) (E : XK) (k : Nat) (X : Cx) : Prop where
  K : X.K = T.K
  calm : X.calm = true
  nd : X.N.Nodup
  gd : X.A.guards = some []
  rm : Room k X.A
  tk : L2N.Takes X (fun c d _ H => E c d H)

/-! ### judgements -/
abbrev KV' (T : Tb) (L : List Addr) (H : Hp) (Q : VK) : PV → Prop := fun d => ∀ v H', Ex H H' → Rep T (hid H' L) v d → Q v H'
abbrev KW (T : Tb) (L : List Addr) (H : Hp) (Q : VK) : PV → Prop := fun d => ∀ v H', Ex H H' → RepW T L H' v d → Q v H'
/-- e gives f's value; its value may be read at once only (VW), may be kept (VE); a test (VT); an argument list (VA) -/
def VW (T : Tb) (E : XK) (O : List Nat) (X : Cx) (e : Expr) (f : En → R PV) : Prop := ∃ t, PE X e t ∧ ∀ L ow H σ env Q, ow.map (·.1) = O → EnvR T L ow H σ env → Res (f env) (KW T L H Q) (xw T E H) → t σ H Q
def VE (T : Tb) (E : XK) (O : List Nat) (X : Cx) (e : Expr) (f : En → R PV) : Prop := ∃ t, PE X e t ∧ ∀ L ow H σ env Q, ow.map (·.1) = O → EnvR T L ow H σ env → Res (f env) (KV' T L H Q) (xw T E H) → t σ H Q
def VT (T : Tb) (E : XK) (O : List Nat) (X : Cx) (e : Expr) (f : En → R Bool) : Prop := ∃ t, PT X e t ∧ ∀ L ow H σ env Q, ow.map (·.1) = O → EnvR T L ow H σ env → Res (f env) (fun b => ∀ H', Ex H H' → Q b H') (xw T E H) → t σ H Q
def VA (T : Tb) (E : XK) (O : List Nat) (X : Cx) (es : List Expr) (f : En → R (List PV)) : Prop := ∃ t, PA X es t ∧ ∀ L ow H σ env Q, ow.map (·.1) = O → EnvR T L ow H σ env → Res (f env) (fun ds => ∀ vs H', Ex H H' → RepA T (hid H' L) vs ds → Q vs H') (xw T E H) → t σ H Q
section
variable {T : Tb} {E : XK} {O : List Nat} {X : Cx} {e : Expr} {f : En → R PV}
theorem VE.w (h : VE T E O X e f) : VW T E O X e f := by
  obtain ⟨t, h1, h2⟩ := h
  exact ⟨t, h1, fun L ow H σ env Q ho r hq => h2 L ow H σ env Q ho r (hq.imp (fun d k v H' e q => k v H' e (.st q)) fun _ _ x => x)⟩
theorem VE.eq {g : En → R PV} (h : VE T E O X e f) (q : ∀ env, f env = g env) : VE T E O X e g := by
  rw [← funext q]
  exact h
end

/-! ### operations by values -/
def OpV (T : Tb) (X : Cx) (f : Value → Value → Sem Value) (op : PV → PV → R PV) : Prop :=
  ∃ r, OpR X f r ∧ ∀ L H x y a b Q x', Trk L H → RepW T L H x a → RepW T L H y b → Res (op a b) (KV' T L H Q) x' → r x y H Q
def CallV (T : Tb) (X : Cx) (f : Value) (op : List PV → R PV) : Prop :=
  ∃ r, CallR X f r ∧ ∀ L H xs ds Q x', Trk L H → RepWA T L H xs ds → Res (op ds) (KV' T L H Q) x' → r xs H Q
where RepWA (T : Tb) (L : List Addr) (H : Hp) (xs : List V) (ds : List PV) : Prop := Paired (fun v d => RepW T L H v d) xs ds

theorem OpV.or {T : Tb} {X : Cx} {f : Value → Value → Sem Value} {op op1 op2 : PV → PV → R PV} (h1 : OpV T X f op1) (h2 : OpV T X f op2) (h : ∀ a b, op a b = op1 a b ∨ op a b = op2 a b) : OpV T X f op := by
  obtain ⟨r1, a1, b1⟩ := h1
  obtain ⟨r2, a2, b2⟩ := h2
  refine ⟨fun x y H Q => r1 x y H Q ∨ r2 x y H Q, ?_, fun L H x y a b Q x' t ra rb q => ?_⟩
  · intro pins s σ H x y v u Q I rx ry q
    rcases q with q | q
    · exact a1 pins s σ H x y v u Q I rx ry q
    · exact a2 pins s σ H x y v u Q I rx ry q
  · rcases h a b with e | e
    · rw [e] at q
      exact .inl (b1 L H x y a b Q x' t ra rb q)
    · rw [e] at q
      exact .inr (b2 L H x y a b Q x' t ra rb q)

section
variable {T : Tb} {E : XK} {O : List Nat} {X : Cx} {a b c e : Expr} {f g h : En → R PV} {pos : Pos}
/-- a op b -/
theorem ve_op {op : Operator} {o : PV → PV → R PV} (ha : VW T E O X a f) (hb : VW T E O X b g) (ho : OpV T X (binaryOp op) o) : VE T E O X (.BinOp a op b pos) (fun env => do o (← f env) (← g env)) := by
  obtain ⟨ta, pa, qa⟩ := ha
  obtain ⟨tb, pb, qb⟩ := hb
  obtain ⟨r, pr, qr⟩ := ho
  refine ⟨_, pe_op pr pa pb, fun L ow H σ env Q ho re hq => ?_⟩
  simp only [res_bind] at hq
  refine qa L ow H σ env _ ho re (hq.imp (fun d k v H1 e1 rv => ?_) fun _ _ x => x)
  refine qb L ow H1 σ env _ ho (re.mono e1) (k.imp (fun d' k' v' H2 e2 rv' => ?_) fun _ _ x => xw_mono e1 x)
  exact qr L H2 v v' d d' Q _ (re.trk.mono (e1.trans e2)) (rv.mono e2) rv' (k'.imp (fun d2 k2 w H3 e3 rw' => k2 w H3 ((e1.trans e2).trans e3) rw') fun _ _ x => x)
end
end VL
set_option Elab.async false
set_option linter.all false
set_option autoImplicit false
/-! VP: what Python's operations give on plain values. -/
namespace VL
open R

/-- the longest list or text -/
abbrev LN : Nat := 16777216
/-- x, if n is not too long -/
def lim {α : Type} (n : Nat) (x : R α) : R α := if n ≤ LN then x else .bad
theorem res_lim {α : Type} {n : Nat} {r : R α} {k : α → Prop} {x : Nat → PV → Prop} (h : Res (lim n r) k x) : n ≤ LN ∧ Res r k x := by
  unfold lim at h
  split at h
  · exact ⟨by assumption, h⟩
  · exact h.elim
theorem lim_ok {α : Type} {n : Nat} {x : R α} (h : n ≤ LN) : lim n x = x := if_pos h

/-! ### order and equality -/
def b2i (b : Bool) : Int := if b then 1 else 0
mutual
def eqB : PV → PV → Bool
  | .none, .none => true
  | .bool a, .bool b => a == b
  | .bool a, .int j => b2i a == j
  | .int i, .bool b => i == b2i b
  | .int i, .int j => i == j
  | .str x, .str y => x == y
  | .list xs, .list ys => eqBs xs ys
  | .tup xs, .tup ys => eqBs xs ys
  | _, _ => false
def eqBs : List PV → List PV → Bool
  | [], [] => true
  | x :: xs, y :: ys => eqB x y && eqBs xs ys
  | _, _ => false
end
/-! none, bools, ints, texts, lists, tuples of these -/
mutual
def dataB : PV → Bool
  | .none => true
  | .bool _ => true
  | .int _ => true
  | .str _ => true
  | .list xs => dataBs xs
  | .tup xs => dataBs xs
  | _ => false
def dataBs : List PV → Bool
  | [] => true
  | x :: xs => dataB x && dataBs xs
end
mutual
def depthP : PV → Nat
  | .list xs => depthPs xs + 1
  | .tup xs => depthPs xs + 1
  | _ => 0
def depthPs : List PV → Nat
  | [] => 0
  | x :: xs => max (depthP x) (depthPs xs)
end
/-- fit to be compared -/
def cmpOk (a : PV) : Bool := dataB a && decide (depthP a ≤ 64)
def eqP (a b : PV) : R PV := if cmpOk a && cmpOk b then .ok (.bool (eqB a b)) else .bad
def neP (a b : PV) : R PV := if cmpOk a && cmpOk b then .ok (.bool (!eqB a b)) else .bad
def ltN : List Nat → List Nat → Bool
  | [], [] => false
  | [], _ :: _ => true
  | _ :: _, [] => false
  | x :: xs, y :: ys => decide (x < y) || (x == y && ltN xs ys)
def ltP : PV → PV → R PV
  | .int i, .int j => .ok (.bool (decide (i < j)))
  | .str x, .str y => .ok (.bool (ltN x y))
  | _, _ => .bad
def gtP (a b : PV) : R PV := ltP b a
def leP : PV → PV → R PV
  | .int i, .int j => .ok (.bool (decide (i ≤ j)))
  | .str x, .str y => .ok (.bool (!ltN y x))
  | _, _ => .bad
def geP (a b : PV) : R PV := leP b a

/-! ### numbers -/
def mulOk (i j : Int) : Bool := decide (i.natAbs < 2 ^ 64) || decide (j.natAbs < 2 ^ 64)
def repeatL {α : Type} (n : Nat) (xs : List α) : List α := (List.replicate n xs).flatten
def smallI (k : Int) : Bool := decide (-1000000 ≤ k) && decide (k ≤ 1000000)
def addP : PV → PV → R PV
  | .int i, .int j => .ok (.int (i + j))
  | .str x, .str y => lim (x.length + y.length) (.ok (.str (x ++ y)))
  | .list x, .list y => lim (x.length + y.length) (.ok (.list (x ++ y)))
  | .tup x, .tup y => lim (x.length + y.length) (.ok (.tup (x ++ y)))
  | _, _ => .bad
def subP : PV → PV → R PV
  | .int i, .int j => .ok (.int (i - j))
  | _, _ => .bad
def mulP : PV → PV → R PV
  | .int i, .int j => if mulOk i j then .ok (.int (i * j)) else .bad
  | .str x, .int k => if smallI k then lim (x.length * k.toNat) (.ok (.str (repeatL k.toNat x))) else .bad
  | .list x, .int k => if smallI k then lim (x.length * k.toNat) (.ok (.list (repeatL k.toNat x))) else .bad
  | _, _ => .bad
def fdivP : PV → PV → R PV
  | .int i, .int j => if 0 < j ∧ j < 2 ^ 30 then .ok (.int (i / j)) else .bad
  | _, _ => .bad
def modP : PV → PV → R PV
  | .int i, .int j => if 0 < j then .ok (.int (i % j)) else .bad
  | _, _ => .bad
def powP : PV → PV → R PV
  | .int i, .int j => if 0 ≤ j ∧ j ≤ 1000 ∧ i.natAbs < 2 ^ 64 then .ok (.int (i ^ j.toNat)) else .bad
  | _, _ => .bad
def negP : PV → R PV
  | .int i => .ok (.int (-i))
  | _ => .bad
def isNoneP : PV → Bool
  | .none => true
  | _ => false

def isNP (a : PV) : PV → R PV
  | .none => .ok (.bool (isNoneP a))
  | _ => .bad
def notNP (a : PV) : PV → R PV
  | .none => .ok (.bool (!isNoneP a))
  | _ => .bad

/-! ### truth -/
def truP : PV → R Bool
  | .none => .ok false
  | .bool b => .ok b
  | .int i => .ok (i != 0)
  | .str x => .ok (!x.isEmpty)
  | .list x => .ok (!x.isEmpty)
  | .kn x => .ok (!x.isEmpty)
  | .tup x => .ok (!x.isEmpty)
  | _ => .bad
/-- of a bool alone -/
def boolP : PV → R Bool
  | .bool b => .ok b
  | _ => .bad

/-! ### in, index, slices -/
/-- x stands in y from the i-th place of y on -/
def isPre : List Nat → List Nat → Bool
  | [], _ => true
  | _ :: _, [] => false
  | x :: xs, y :: ys => x == y && isPre xs ys
def isIn (x : List Nat) : List Nat → Bool
  | [] => x.isEmpty
  | y :: ys => isPre x (y :: ys) || isIn x ys
/-- a key: an int, a text; or a tuple of these -/
def keyB : PV → Bool
  | .int _ => true
  | .str _ => true
  | _ => false
def dkOk (t : Bool) : PV → Bool
  | .int _ => !t
  | .str _ => !t
  | .tup xs => t && xs.all keyB
  | _ => false
def lookP (k : PV) : List PV → List PV → Option PV
  | q :: qs, v :: vs => if eqB q k then some v else lookP k qs vs
  | _, _ => none
def inP (a : PV) : PV → R PV
  | .list xs => if cmpOk a && cmpOk (.list xs) then .ok (.bool (xs.any fun z => eqB z a)) else .bad
  | .tup xs => if cmpOk a && cmpOk (.tup xs) then .ok (.bool (xs.any fun z => eqB z a)) else .bad
  | .kn xs => if cmpOk a && cmpOk (.list xs) then .ok (.bool (xs.any fun z => eqB z a)) else .bad
  | .str y => match a with
    | .str x => .ok (.bool (isIn x y))
    | _ => .bad
  | .dict t ks vs => if dkOk t a then .ok (.bool (lookP a ks vs).isSome) else .bad
  | _ => .bad
def ninP (a b : PV) : R PV := match inP a b with
  | .ok (.bool k) => .ok (.bool (!k))
  | _ => .bad
def notB : PV → R PV
  | .bool b => .ok (.bool (!b))
  | _ => .bad
/-- the place i means in a thing of n items -/
def ixP (n : Nat) (i : Int) : Option Nat := if 0 ≤ i then (if i < n then some i.toNat else none) else if -(n : Int) ≤ i then some (i + n).toNat else none
def atP {α : Type} (xs : List α) (i : Int) : Option α := (ixP xs.length i).bind fun j => xs[j]?
def idxP : PV → PV → R PV
  | .list xs, .int i => match atP xs i with | some v => .ok v | none => .bad
  | .kn xs, .int i => match atP xs i with | some v => .ok v | none => .bad
  | .tup xs, .int i => match atP xs i with | some v => .ok v | none => .bad
  | .str x, .int i => match atP x i with | some c => .ok (.str [c]) | none => .bad
  | .dict t ks vs, k => if dkOk t k then (match lookP k ks vs with | some v => .ok v | none => .bad) else .bad
  | _, _ => .bad
def cutIx (n d : Nat) : Option Int → Nat
  | none => d
  | some v => if v < 0 then (v + (n : Int)).toNat else min v.toNat n
def cutL {α : Type} (xs : List α) (lo hi : Option Int) : List α := (xs.drop (cutIx xs.length 0 lo)).take (cutIx xs.length xs.length hi - cutIx xs.length 0 lo)
def sliceP (a : PV) (lo hi : Option Int) : R PV := match a with
  | .list xs => .ok (.list (cutL xs lo hi))
  | .tup xs => .ok (.tup (cutL xs lo hi))
  | .str x => .ok (.str (cutL x lo hi))
  | _ => .bad
def partP : PV → R (Option Int)
  | .int i => .ok (some i)
  | _ => .bad

/-! ### built-ins -/
def lenP : PV → R PV
  | .str x => .ok (.int x.length)
  | .list x => .ok (.int x.length)
  | .kn x => .ok (.int x.length)
  | .tup x => .ok (.int x.length)
  | .dict _ ks _ => .ok (.int ks.length)
  | .set x => .ok (.int x.length)
  | _ => .bad
def absP : PV → R PV
  | .int i => .ok (.int (if i < 0 then -i else i))
  | _ => .bad
def intP : PV → R PV
  | .int i => .ok (.int i)
  | .bool b => .ok (.int (b2i b))
  | _ => .bad
def intsP : List PV → Option (List Int)
  | [] => some []
  | .int i :: r => (intsP r).map (i :: ·)
  | _ :: _ => none
def boolsP : List PV → Option (List Bool)
  | [] => some []
  | .bool i :: r => (boolsP r).map (i :: ·)
  | _ :: _ => none
def strsP : List PV → Option (List (List Nat))
  | [] => some []
  | .str i :: r => (strsP r).map (i :: ·)
  | _ :: _ => none
def maxI : List Int → Int
  | [] => 0
  | [i] => i
  | i :: r => max i (maxI r)
def minI : List Int → Int
  | [] => 0
  | [i] => i
  | i :: r => min i (minI r)
def sumP : PV → R PV
  | .list x => match intsP x with | some l => .ok (.int l.sum) | none => .bad
  | _ => .bad
def max1P : PV → R PV
  | .list x => match intsP x with | some (i :: l) => .ok (.int (maxI (i :: l))) | _ => .bad
  | _ => .bad
def min1P : PV → R PV
  | .list x => match intsP x with | some (i :: l) => .ok (.int (minI (i :: l))) | _ => .bad
  | _ => .bad
def max2P : PV → PV → R PV
  | .int i, .int j => .ok (.int (if j > i then j else i))
  | _, _ => .bad
def min2P : PV → PV → R PV
  | .int i, .int j => .ok (.int (if j < i then j else i))
  | _, _ => .bad
def allP : PV → R PV
  | .list x => match boolsP x with | some l => .ok (.bool (l.all id)) | none => .bad
  | _ => .bad
def anyP : PV → R PV
  | .list x => match boolsP x with | some l => .ok (.bool (l.any id)) | none => .bad
  | _ => .bad
def listP : PV → R PV
  | .list x => .ok (.list x)
  | .kn x => .ok (.list x)
  | .tup x => .ok (.list x)
  | .str x => .ok (.list (x.map fun c => .str [c]))
  | .dict _ ks _ => .ok (.list ks)
  | _ => .bad
def tupleP : PV → R PV
  | .list x => .ok (.tup x)

  | .tup x => .ok (.tup x)
  | _ => .bad
def joinL (s : List Nat) : List (List Nat) → List Nat
  | [] => []
  | [p] => p
  | p :: q :: r => p ++ (s ++ joinL s (q :: r))
def joinP : PV → PV → R PV
  | .str s, .list x => match strsP x with
    | some l => lim ((l.map (·.length)).sum + l.length * s.length) (.ok (.str (joinL s l)))
    | none => .bad
  | _, _ => .bad
end VL
namespace VL
/-! ### sorting -/
def insN (x : List Nat) : List (List Nat) → List (List Nat)
  | [] => [x]
  | y :: ys => if ltN y x then y :: insN x ys else x :: y :: ys
def sortN : List (List Nat) → List (List Nat)
  | [] => []
  | x :: xs => insN x (sortN xs)
def insI (x : Int) : List Int → List Int
  | [] => [x]
  | y :: ys => if y < x then y :: insI x ys else x :: y :: ys
def sortI : List Int → List Int
  | [] => []
  | x :: xs => insI x (sortI xs)
def sorted1P : PV → R PV
  | .list xs => match strsP xs with
    | some l => .ok (.list ((sortN l).map .str))
    | none => match intsP xs with
      | some l => .ok (.list ((sortI l).map .int))
      | none => .bad
  | _ => .bad
end VL
namespace VL
/-! ### dicts changed -/
def putVs (k v : PV) : List PV → List PV → List PV
  | q :: qs, u :: us => (if eqB q k then v else u) :: putVs k v qs us
  | _, _ => []
def putP (d k v : PV) : R PV := match d with
  | .dict t ks vs => if dkOk t k then
      lim (ks.length + 1) (if (ks.any fun q => eqB q k) = true then .ok (.dict t ks (putVs k v ks vs)) else .ok (.dict t (ks ++ [k]) (vs ++ [v])))
    else .bad
  | _ => .bad
/-- the items of an own list -/
def ownL : PV → R (List PV)
  | .list ds => .ok ds
  | _ => .bad
def setLP (d i v : PV) : R PV := match d, i with
  | .list ds, .int i => match ixP ds.length i with
    | some j => .ok (.list (ds.set j v))
    | none => .bad
  | _, _ => .bad
end VL
namespace VL
/-! ### what is walked -/
/-- a key that may be told -/
def keyOkB : PV → Bool
  | .int _ => true
  | .str y => sok y && decide (y.length ≤ LN)
  | _ => false
def iterP : PV → R (List PV)
  | .list x => .ok x
  | .kn x => .ok x
  | .tup x => .ok x
  | .str x => .ok (x.map fun c => .str [c])
  | .dict false ks _ => if (ks.all keyOkB && decide (ks.length ≤ LN)) = true then .ok ks else .bad
  | _ => .bad
def rangeL (lo : Int) (n : Nat) : List PV := (List.range n).map fun i : Nat => PV.int (lo + i)
def range1P : PV → R (List PV)
  | .int n => if -1000000000 ≤ n ∧ n ≤ LN then .ok (rangeL 0 n.toNat) else .bad
  | _ => .bad
def range2P : PV → PV → R (List PV)
  | .int i, .int j => if -1000000000 ≤ i ∧ i ≤ 1000000000 ∧ -1000000000 ≤ j ∧ j ≤ 1000000000 ∧ j - i ≤ LN then .ok (rangeL i (j - i).toNat) else .bad
  | _, _ => .bad
/-- range(i, j, -1) -/
def range3P : PV → PV → PV → R (List PV)
  | .int i, .int j, .int c => if -1000000000 ≤ i ∧ i ≤ 1000000000 ∧ -1000000000 ≤ j ∧ j ≤ 1000000000 ∧ i - j ≤ LN ∧ c = -1 then .ok ((List.range (i - j).toNat).map fun k : Nat => PV.int (i - k)) else .bad
  | _, _, _ => .bad
def enumL : Nat → List PV → List PV
  | _, [] => []
  | k, x :: xs => .tup [.int k, x] :: enumL (k + 1) xs
def enumP : PV → R (List PV)
  | .list x => .ok (enumL 0 x)
  | _ => .bad
def zipL : List PV → List PV → List PV
  | x :: xs, y :: ys => .tup [x, y] :: zipL xs ys
  | _, _ => []
def zipP : PV → PV → R (List PV)
  | .list x, .list y => .ok (zipL x y)
  | _, _ => .bad

/-! ### loops -/
inductive Fl where
  | nx (env : List (Option PV)) | rt (d : PV)
  deriving Inhabited
def forE (body : PV → List (Option PV) → R Fl) : List PV → List (Option PV) → R Fl
  | [], env => .ok (.nx env)
  | x :: xs, env => do
    match (← body x env) with
    | .nx env' => forE body xs env'
    | .rt d => .ok (.rt d)
def whileE (test : List (Option PV) → R Bool) (body : List (Option PV) → R Fl) : Nat → List (Option PV) → R Fl
  | 0, _ => .bad
  | n + 1, env => do
    if (← test env) = true then
      match (← body env) with
      | .nx env' => whileE test body n env'
      | .rt d => .ok (.rt d)
    else .ok (.nx env)
/-- a comprehension's items; nothing may be raised within -/
def compE (item : PV → R (Option PV)) : List PV → R (List PV)
  | [] => .ok []
  | x :: xs => match item x with
    | .ok o => (do
      let l ← compE item xs
      match o with
      | some d => .ok (d :: l)
      | none => .ok l)
    | _ => .bad
/-- the slots that a block of its own forgets -/
def wipeE (env : List (Option PV)) : List Nat → List (Option PV)
  | [] => env
  | v :: vs => (wipeE env vs).set v none
end VL
set_option Elab.async false
set_option linter.all false
set_option maxRecDepth 100000
set_option maxHeartbeats 2000000
set_option autoImplicit false
/-! VL2: operators by plain values. -/
namespace VL
open PySem PySem.Spec L2 R

section
variable {T : Tb} {L : List Addr} {H H' : Hp}
theorem lnS {n : Nat} (h : n ≤ LN) : n ≤ sizeLine := by rw [sizeLine_eq]; exact h
theorem snL {n : Nat} (h : n ≤ sizeLine) : n ≤ LN := by rw [sizeLine_eq] at h; exact h
theorem str_len {z : Str} : z.length = z.cps.toList.length := by
  show z.cps.size = _
  simp
theorem sok_app {x y : List Nat} (h1 : sok x = true) (h2 : sok y = true) : sok (x ++ y) = true := by
  unfold sok at *
  rw [List.all_append, h1, h2]
  rfl
theorem sok_mem {x : List Nat} : sok x = true ↔ ∀ c ∈ x, c < 1114112 := by
  unfold sok
  simp
theorem sok_sub {x y : List Nat} (h : sok x = true) (hy : ∀ c ∈ y, c ∈ x) : sok y = true := sok_mem.mpr fun c hc => sok_mem.mp h c (hy c hc)
theorem sok_rep {x : List Nat} {n : Nat} (h : sok x = true) : sok (repeatL n x) = true := by
  refine sok_sub h fun c hc => ?_
  unfold repeatL at hc
  obtain ⟨l, h1, h2⟩ := List.mem_flatten.mp hc
  rw [(List.mem_replicate.mp h1).2] at h2
  exact h2
theorem rep_str' {z : Str} {x : List Nat} (h : z.cps.toList = x) (hl : x.length ≤ LN) (hs : sok x = true) : Rep T H (.str z) (.str x) := by
  subst h
  exact .str z (lnS (by rw [str_len]; exact hl)) hs
theorem rep_sig {c : Nat} (h : c < 1114112) : Rep T H (.str ⟨#[c]⟩) (.str [c]) := rep_str' rfl (by show 1 ≤ LN; decide) (by simp [sok, h])
/-- a new list, a new tuple, to be kept -/
theorem rep_new {p : Addr} {xs : List V} {ds : List PV} (t : Trk L H) (hp : H p = none) (r : RepA T (hid H L) xs ds) (hz : xs.length ≤ LN) : Rep T (hid (upd H p (.lst xs)) L) (.ref p) (.list ds) :=
  .lst (hid_some.mpr ⟨t.new hp, upd_same⟩) (r.mono (hid_ex (ex_upd hp))) (lnS hz)
theorem rep_newT {p : Addr} {xs : List V} {ds : List PV} (t : Trk L H) (hp : H p = none) (r : RepA T (hid H L) xs ds) (hz : xs.length ≤ LN) : Rep T (hid (upd H p (.tup xs)) L) (.ref p) (.tup ds) :=
  .tup (hid_some.mpr ⟨t.new hp, upd_same⟩) (r.mono (hid_ex (ex_upd hp))) (lnS hz)
theorem RepA.flat {n : Nat} {xs : List V} {ds : List PV} (r : RepA T H xs ds) : RepA T H (List.replicate n xs).flatten (repeatL n ds) := by
  unfold repeatL
  induction n with
  | zero => exact .nil
  | succ n ih =>
    rw [List.replicate_succ, List.replicate_succ, List.flatten_cons, List.flatten_cons]
    exact r.append ih
theorem len_repeat {α : Type} {n : Nat} {xs : List α} : (repeatL n xs).length = n * xs.length := by
  unfold repeatL
  simp
theorem RepA.nil_iff {xs : List V} {ds : List PV} (r : RepA T H xs ds) : xs = [] ↔ ds = [] := by
  cases r with
  | nil => simp
  | cons _ _ => simp
end

/-! ### PyData -/
mutual
def toD : PV → PyData
  | .bool b => .bool b
  | .int i => .int i
  | .str x => .str ⟨x.toArray⟩
  | .list xs => .list (toDs xs)
  | .tup xs => .tuple (toDs xs)
  | _ => .none
def toDs : List PV → List PyData
  | [] => []
  | x :: xs => toD x :: toDs xs
end
theorem str_of {z : Str} {x : List Nat} (h : z.cps.toList = x) : z = ⟨x.toArray⟩ := by
  subst h
  rfl
section
variable {T : Tb} {L : List Addr} {H : Hp}
mutual
theorem Rep.dp {Hx : Hp} (hx : Ex Hx H) : ∀ {d : PV} {v : V}, dataB d = true → Rep T Hx v d → Dp T.K H v (toD d) ∧ (toD d).canLay0 = true
  | .none, _, _, h => by cases h; exact ⟨by unfold toD; exact .non, by unfold toD; rfl⟩
  | .bool _, _, _, h => by cases h; exact ⟨by unfold toD; exact .bl _, by unfold toD; rfl⟩
  | .int _, _, _, h => by cases h; exact ⟨by unfold toD; exact .int _, by unfold toD; rfl⟩
  | .str x, _, _, h => by
    cases h with
    | str z q y =>
      unfold toD
      refine ⟨.str z, ?_⟩
      show z.cps.all (· < 0x110000) = true
      rw [← Array.all_toList]
      exact y
  | .list ds, _, hd, h => by
    cases h with
    | lst q r z =>
      unfold dataB at hd
      obtain ⟨h1, h2⟩ := RepA.dp hx hd r
      unfold toD
      exact ⟨.lst (SqL.of (hx _ _ q)) h1, h2⟩
  | .tup ds, _, hd, h => by
    cases h with
    | tup q r z =>
      unfold dataB at hd
      obtain ⟨h1, h2⟩ := RepA.dp hx hd r
      unfold toD
      exact ⟨.tup (SqT.of (hx _ _ q)) h1, h2⟩
  | .dict _ _ _, _, hd, _ => by unfold dataB at hd; cases hd
  | .set _, _, hd, _ => by unfold dataB at hd; cases hd
  | .kn _, _, hd, _ => by unfold dataB at hd; cases hd
  | .fn _, _, hd, _ => by unfold dataB at hd; cases hd
  | .exn _ _, _, hd, _ => by unfold dataB at hd; cases hd
theorem RepA.dp {Hx : Hp} (hx : Ex Hx H) : ∀ {ds : List PV} {vs : List V}, dataBs ds = true → RepA T Hx vs ds → DpAll T.K H vs (toDs ds) ∧ PyData.canLayAll0 (toDs ds) = true
  | [], _, _, h => by cases h; exact ⟨by unfold toDs; exact .nil, by unfold toDs; rfl⟩
  | d :: ds, _, hd, h => by
    unfold dataBs at hd
    rw [Bool.and_eq_true] at hd
    cases h with
    | cons a b =>
      obtain ⟨h1, h2⟩ := Rep.dp hx hd.1 a
      obtain ⟨h3, h4⟩ := RepA.dp hx hd.2 b
      unfold toDs
      refine ⟨.cons h1 h3, ?_⟩
      unfold PyData.canLayAll0
      rw [h2, h4]
      rfl
end
mutual
theorem depth_toD : ∀ d : PV, (toD d).depth ≤ depthP d
  | .none => by unfold toD depthP; exact Nat.le_refl _
  | .bool _ => by unfold toD depthP; exact Nat.le_refl _
  | .int _ => by unfold toD depthP; exact Nat.le_refl _
  | .str _ => by unfold toD depthP; exact Nat.le_refl _
  | .list ds => by unfold toD depthP PyData.depth; exact Nat.succ_le_succ (depth_toDs ds)
  | .tup ds => by unfold toD depthP PyData.depth; exact Nat.succ_le_succ (depth_toDs ds)
  | .dict _ _ _ => by unfold toD depthP; exact Nat.le_refl _
  | .set _ => by unfold toD depthP; exact Nat.le_refl _
  | .kn _ => by unfold toD depthP; exact Nat.le_refl _
  | .fn _ => by unfold toD depthP; exact Nat.le_refl _
  | .exn _ _ => by unfold toD depthP; exact Nat.le_refl _
theorem depth_toDs : ∀ ds : List PV, PyData.depthAll (toDs ds) ≤ depthPs ds
  | [] => by unfold toDs depthPs; exact Nat.le_refl _
  | d :: ds => by
    unfold toDs depthPs PyData.depthAll
    have h1 := depth_toD d
    have h2 := depth_toDs ds
    omega
end
theorem str_beq (x y : List Nat) : ((⟨x.toArray⟩ : Str) == ⟨y.toArray⟩) = (x == y) := by
  rw [Bool.eq_iff_iff]
  simp
mutual
theorem eqv_toD : ∀ a b : PV, dataB a = true → dataB b = true → PyData.eqv (toD a) (toD b) = eqB a b := by
  intro a b ha hb
  cases a <;> cases b <;> first
    | (unfold dataB at ha; cases ha; done)
    | (unfold dataB at hb; cases hb; done)
    | (simp only [toD, PyData.eqv, eqB, b2i]; done)
    | (simp only [toD, PyData.eqv, eqB]; exact str_beq _ _)
    | (unfold dataB at ha hb; simp only [toD, PyData.eqv, eqB]; exact eqvs_toDs _ _ ha hb)
theorem eqvs_toDs : ∀ a b : List PV, dataBs a = true → dataBs b = true → PyData.eqvAll (toDs a) (toDs b) = eqBs a b
  | [], [], _, _ => by simp [toDs, PyData.eqvAll, eqBs]
  | [], _ :: _, _, _ => by simp [toDs, PyData.eqvAll, eqBs]
  | _ :: _, [], _, _ => by simp [toDs, PyData.eqvAll, eqBs]
  | x :: xs, y :: ys, ha, hb => by
    unfold dataBs at ha hb
    rw [Bool.and_eq_true] at ha hb
    simp only [toDs, PyData.eqvAll, eqBs]
    rw [eqv_toD x y ha.1 hb.1, eqvs_toDs xs ys ha.2 hb.2]
end
theorem shaped_of {d : PV} (h : cmpOk d = true) (hc : (toD d).canLay0 = true) : SeqAt.shaped (toD d) = true := by
  unfold cmpOk at h
  rw [Bool.and_eq_true] at h
  have h2 := of_decide_eq_true h.2
  have h3 := depth_toD d
  unfold SeqAt.shaped
  rw [Bool.and_eq_true]
  exact ⟨hc, decide_eq_true (by omega)⟩
/-- a weak value, as data -/
theorem RepW.dp {d : PV} {v : V} (h : RepW T L H v d) (hd : cmpOk d = true) : Dp T.K H v (toD d) ∧ SeqAt.shaped (toD d) = true := by
  have hd1 : dataB d = true := (Bool.and_eq_true_iff.mp hd).1
  have key : Dp T.K H v (toD d) ∧ (toD d).canLay0 = true := by
    cases h with
    | st h => exact h.dp hid_le hd1
    | lst q r z =>
      unfold dataB at hd1
      obtain ⟨h1, h2⟩ := RepA.dp hid_le hd1 r
      unfold toD
      exact ⟨.lst (SqL.of q) h1, h2⟩
    | dK q r => unfold dataB at hd1; cases hd1
    | dT q r => unfold dataB at hd1; cases hd1
  exact ⟨key.1, shaped_of hd key.2⟩
end

/-! ### the operators -/
section
variable {T : Tb} {X : Cx}
theorem ov_add (hK : X.K = T.K) : OpV T X (binaryOp .Add) addP := by
  refine ⟨_, (op_add.or op_add_str).or (op_cat.or op_catA), fun L H x y a b Q x' t ra rb q => ?_⟩
  unfold addP at q
  split at q
  · obtain rfl := ra.int
    obtain rfl := rb.int
    exact .inl (.inl ⟨_, _, rfl, rfl, q _ _ (Evl.Ex.refl H) (.int _)⟩)
  · obtain ⟨q1, q⟩ := res_lim q
    obtain ⟨z, rfl, e1, l1, s1⟩ := ra.str
    obtain ⟨w, rfl, e2, l2, s2⟩ := rb.str
    refine .inl (.inr ⟨z, w, rfl, rfl, lnS (by rw [str_len, str_len, e1, e2]; exact q1), q _ _ (Evl.Ex.refl H) (rep_str' ?_ (by rw [List.length_append]; exact q1) (sok_app s1 s2))⟩)
    show (z.cps ++ w.cps).toList = _
    rw [Array.toList_append, e1, e2]
  · obtain ⟨q1, q⟩ := res_lim q
    obtain ⟨p, xs, rfl, h1, r1, l1⟩ := ra.list
    obtain ⟨p2, ys, rfl, h2, r2, l2⟩ := rb.list
    rw [← r1.length, ← r2.length] at q1
    exact .inr (.inl ⟨p, p2, xs, ys, rfl, rfl, h1, h2, lnS q1, fun p hp => q _ _ (ex_upd hp) (rep_new t hp (r1.append r2) (by rw [List.length_append]; exact q1))⟩)
  · obtain ⟨q1, q⟩ := res_lim q
    obtain ⟨p, xs, rfl, h1, r1, l1, w1⟩ := ra.tup
    obtain ⟨p2, ys, rfl, h2, r2, l2, w2⟩ := rb.tup
    rw [← r1.length, ← r2.length] at q1
    refine .inr (.inr ⟨p, p2, xs, ys, rfl, rfl, SqT.of h1, SqT.of h2, lnS q1, fun e => ?_, fun _ e => ?_, fun _ _ p hp => q _ _ (ex_upd hp) (rep_newT t hp (r1.append r2) (by rw [List.length_append]; exact q1))⟩)
    · have e' := r1.nil_iff.mp e
      subst e'
      exact q _ _ (Evl.Ex.refl H) w2
    · have e' := r2.nil_iff.mp e
      subst e'
      exact q _ _ (Evl.Ex.refl H) (by rw [List.append_nil]; exact w1)
  · exact q.elim
theorem ov_sub : OpV T X (binaryOp .Sub) subP := by
  refine ⟨_, op_sub, fun L H x y a b Q x' t ra rb q => ?_⟩
  unfold subP at q
  split at q
  · obtain rfl := ra.int
    obtain rfl := rb.int
    exact ⟨_, _, rfl, rfl, q _ _ (Evl.Ex.refl H) (.int _)⟩
  · exact q.elim
/-- a text times an int -/
theorem op_repS : OpR X (binaryOp .Mult) (fun x y H Q => ∃ (z : Str) (k : Int), x = .str z ∧ y = .int k ∧ smallI k = true ∧ z.length * k.toNat ≤ sizeLine ∧ Q (.str ⟨(repeatL k.toNat z.cps.toList).toArray⟩) H) := by
  intro pins s σ H x y v u Q I rx ry h
  obtain ⟨z, k, rfl, rfl, hk, hz, q⟩ := h
  obtain ⟨t, rfl⟩ := rx
  obtain ⟨t', rfl⟩ := ry
  unfold smallI at hk
  rw [Bool.and_eq_true, decide_eq_true_eq, decide_eq_true_eq] at hk
  obtain ⟨k1, k2⟩ := hk
  have fin : ∀ w : Value, RelV (.str ⟨(repeatL k.toNat z.cps.toList).toArray⟩) w → EP X pins σ Q w { s with toks := s.toks + 1 } := fun w r => ⟨_, H, I.tok _, r, q⟩
  refine PySem.P.mul_str ?_ (fun h1 h2 => ?_) (fun h1 h2 => ?_) ?_
  · rw [decide_eq_false (by omega), decide_eq_false (by omega)]
    rfl
  · have hk0 : 0 < k := by omega
    rw [sizeLine_eq] at hz
    have h3 : (z.length : Int) * k ≤ 2 ^ 63 - 1 := by
      have e : k = (k.toNat : Int) := by omega
      rw [e, ← Int.natCast_mul]
      omega
    have h4 := Int.le_ediv_of_mul_le hk0 h3
    omega
  · unfold Builtin.Str.tooLong
    exact decide_eq_false (by omega)
  · by_cases c1 : k < 1
    · rw [if_pos c1]
      have e : k.toNat = 0 := by omega
      refine ⟨by decide, fin _ ⟨s.toks, ?_⟩⟩
      rw [e]
      rfl
    · rw [if_neg c1]
      by_cases c2 : (k == 1 || z.length == 0) = true
      · rw [if_pos c2]
        have e : (⟨(repeatL k.toNat z.cps.toList).toArray⟩ : Str) = z := by
          rw [Bool.or_eq_true] at c2
          rcases c2 with c2 | c2
          · have e1 : k = 1 := by simpa using c2
            subst e1
            simp [repeatL]
          · have e2 : z.cps.toList = [] := by
              apply List.eq_nil_of_length_eq_zero
              rw [← str_len]
              simpa using c2
            rw [e2]
            have e3 : z = ⟨([] : List Nat).toArray⟩ := str_of e2
            rw [e3]
            simp [repeatL]
        rw [e] at q
        exact ⟨.str z, H, I.tok s.toks, ⟨t, rfl⟩, q⟩
      · rw [if_neg c2]
        have e : (⟨(List.replicate k.toNat z.cps).foldl (· ++ ·) #[]⟩ : Str) = ⟨(repeatL k.toNat z.cps.toList).toArray⟩ := by
          congr 1
          apply Array.toList_inj.mp
          have key : ∀ (n : Nat) (acc : Array Nat), ((List.replicate n z.cps).foldl (· ++ ·) acc).toList = acc.toList ++ (List.replicate n z.cps.toList).flatten := by
            intro n
            induction n with
            | zero => intro acc; simp
            | succ n ih =>
              intro acc
              rw [List.replicate_succ, List.foldl_cons, ih, List.replicate_succ, List.flatten_cons, Array.toList_append, List.append_assoc]
          rw [key]
          simp [repeatL]
        refine ⟨?_, fin _ ⟨_, by rw [e]⟩⟩
        rw [e, str_len]
        show (repeatL k.toNat z.cps.toList).toArray.toList.length ≤ _
        rw [List.toList_toArray, len_repeat, Nat.mul_comm, ← str_len]
        exact hz
theorem ov_mul : OpV T X (binaryOp .Mult) mulP := by
  refine ⟨_, op_mul.or (op_repS.or op_rep), fun L H x y a b Q x' t ra rb q => ?_⟩
  unfold mulP at q
  split at q
  · split at q
    · rename_i i j hm
      obtain rfl := ra.int
      obtain rfl := rb.int
      refine .inl ⟨_, _, rfl, rfl, ?_, q _ _ (Evl.Ex.refl H) (.int _)⟩
      unfold mulOk at hm
      rw [Bool.or_eq_true, decide_eq_true_eq, decide_eq_true_eq] at hm
      rcases hm with hm | hm
      · exact .inl (by constructor <;> omega)
      · exact .inr (by constructor <;> omega)
    · exact q.elim
  · split at q
    · rename_i hm
      obtain ⟨q1, q⟩ := res_lim q
      obtain ⟨z, rfl, e1, l1, s1⟩ := ra.str
      obtain rfl := rb.int
      subst e1
      exact .inr (.inl ⟨z, _, rfl, rfl, hm, lnS (by rw [str_len]; exact q1), q _ _ (Evl.Ex.refl H) (rep_str' rfl (by rw [len_repeat, Nat.mul_comm]; exact q1) (sok_rep s1))⟩)
    · exact q.elim
  · split at q
    · rename_i hm
      obtain ⟨q1, q⟩ := res_lim q
      obtain ⟨p, xs, rfl, h1, r1, l1⟩ := ra.list
      obtain rfl := rb.int
      rw [← r1.length] at q1
      unfold smallI at hm
      rw [Bool.and_eq_true, decide_eq_true_eq, decide_eq_true_eq] at hm
      exact .inr (.inr ⟨p, _, xs, rfl, rfl, h1, by omega, by omega, lnS q1, fun p hp => q _ _ (ex_upd hp) (rep_new t hp r1.flat (by show (repeatL _ xs).length ≤ LN; rw [len_repeat, Nat.mul_comm]; exact q1))⟩)
    · exact q.elim
  · exact q.elim
theorem ov_fdiv : OpV T X (binaryOp .FloorDiv) fdivP := by
  refine ⟨_, op_fdiv, fun L H x y a b Q x' t ra rb q => ?_⟩
  unfold fdivP at q
  split at q
  · split at q
    · rename_i hm
      obtain rfl := ra.int
      obtain rfl := rb.int
      exact ⟨_, _, rfl, rfl, hm, q _ _ (Evl.Ex.refl H) (.int _)⟩
    · exact q.elim
  · exact q.elim
theorem ov_mod : OpV T X (binaryOp .Mod) modP := by
  refine ⟨_, op_mod, fun L H x y a b Q x' t ra rb q => ?_⟩
  unfold modP at q
  split at q
  · split at q
    · rename_i hm
      obtain rfl := ra.int
      obtain rfl := rb.int
      exact ⟨_, _, rfl, rfl, hm, q _ _ (Evl.Ex.refl H) (.int _)⟩
    · exact q.elim
  · exact q.elim
theorem ov_pow : OpV T X (binaryOp .Pow) powP := by
  refine ⟨_, op_pow, fun L H x y a b Q x' t ra rb q => ?_⟩
  unfold powP at q
  split at q
  · split at q
    · rename_i hm
      obtain rfl := ra.int
      obtain rfl := rb.int
      exact ⟨_, _, rfl, rfl, ⟨hm.1, by omega, hm.2.2⟩, q _ _ (Evl.Ex.refl H) (.int _)⟩
    · exact q.elim
  · exact q.elim
theorem ov_eq (hK : X.K = T.K) (hu : X.A.units + 64 < cLine) : OpV T X (compareOp .Eq) eqP := by
  refine ⟨_, op_eqD hu, fun L H x y a b Q x' t ra rb q => ?_⟩
  unfold eqP at q
  split at q
  · rename_i hm
    rw [Bool.and_eq_true] at hm
    obtain ⟨d1, s1⟩ := ra.dp hm.1
    obtain ⟨d2, s2⟩ := rb.dp hm.2
    refine ⟨toD a, toD b, by rw [hK]; exact d1, by rw [hK]; exact d2, s1, s2, ?_⟩
    rw [eqv_toD a b (Bool.and_eq_true_iff.mp hm.1).1 (Bool.and_eq_true_iff.mp hm.2).1]
    exact q _ _ (Evl.Ex.refl H) (.bl _)
  · exact q.elim
theorem ov_ne (hK : X.K = T.K) (hu : X.A.units + 64 < cLine) : OpV T X (compareOp .NotEq) neP := by
  refine ⟨_, op_neD hu, fun L H x y a b Q x' t ra rb q => ?_⟩
  unfold neP at q
  split at q
  · rename_i hm
    rw [Bool.and_eq_true] at hm
    obtain ⟨d1, s1⟩ := ra.dp hm.1
    obtain ⟨d2, s2⟩ := rb.dp hm.2
    refine ⟨toD a, toD b, by rw [hK]; exact d1, by rw [hK]; exact d2, s1, s2, ?_⟩
    rw [eqv_toD a b (Bool.and_eq_true_iff.mp hm.1).1 (Bool.and_eq_true_iff.mp hm.2).1]
    exact q _ _ (Evl.Ex.refl H) (.bl _)
  · exact q.elim
theorem ltN_iff : ∀ x y : List Nat, ltN x y = decide (x < y)
  | [], [] => by simp [ltN]
  | [], _ :: _ => by simp [ltN]
  | _ :: _, [] => by simp [ltN]
  | x :: xs, y :: ys => by
    unfold ltN
    rw [ltN_iff xs ys, Bool.eq_iff_iff]
    simp only [Bool.or_eq_true, Bool.and_eq_true, decide_eq_true_eq, beq_iff_eq]
    exact List.cons_lt_cons_iff.symm
theorem ov_lt : OpV T X (compareOp .Lt) ltP := by
  refine ⟨_, op_lt.or op_lt_str, fun L H x y a b Q x' t ra rb q => ?_⟩
  unfold ltP at q
  split at q
  · obtain rfl := ra.int
    obtain rfl := rb.int
    exact .inl ⟨_, _, rfl, rfl, q _ _ (Evl.Ex.refl H) (.bl _)⟩
  · obtain ⟨z, rfl, e1, l1, s1⟩ := ra.str
    obtain ⟨w, rfl, e2, l2, s2⟩ := rb.str
    refine .inr ⟨z, w, rfl, rfl, ?_⟩
    rw [e1, e2, ← ltN_iff]
    exact q _ _ (Evl.Ex.refl H) (.bl _)
  · exact q.elim
theorem ov_gt : OpV T X (compareOp .Gt) gtP := by
  refine ⟨_, op_gt.or op_gt_str, fun L H x y a b Q x' t ra rb q => ?_⟩
  unfold gtP ltP at q
  split at q
  · obtain rfl := ra.int
    obtain rfl := rb.int
    exact .inl ⟨_, _, rfl, rfl, q _ _ (Evl.Ex.refl H) (.bl _)⟩
  · obtain ⟨z, rfl, e1, l1, s1⟩ := ra.str
    obtain ⟨w, rfl, e2, l2, s2⟩ := rb.str
    refine .inr ⟨z, w, rfl, rfl, ?_⟩
    rw [e1, e2, ← ltN_iff]
    exact q _ _ (Evl.Ex.refl H) (.bl _)
  · exact q.elim
theorem ov_le : OpV T X (compareOp .LtE) leP := by
  refine ⟨_, op_le.or op_le_str, fun L H x y a b Q x' t ra rb q => ?_⟩
  unfold leP at q
  split at q
  · obtain rfl := ra.int
    obtain rfl := rb.int
    exact .inl ⟨_, _, rfl, rfl, q _ _ (Evl.Ex.refl H) (.bl _)⟩
  · obtain ⟨z, rfl, e1, l1, s1⟩ := ra.str
    obtain ⟨w, rfl, e2, l2, s2⟩ := rb.str
    refine .inr ⟨z, w, rfl, rfl, ?_⟩
    rw [e1, e2, ← ltN_iff]
    exact q _ _ (Evl.Ex.refl H) (.bl _)
  · exact q.elim
theorem ov_ge : OpV T X (compareOp .GtE) geP := by
  refine ⟨_, op_ge.or op_ge_str, fun L H x y a b Q x' t ra rb q => ?_⟩
  unfold geP leP at q
  split at q
  · obtain rfl := ra.int
    obtain rfl := rb.int
    exact .inl ⟨_, _, rfl, rfl, q _ _ (Evl.Ex.refl H) (.bl _)⟩
  · obtain ⟨z, rfl, e1, l1, s1⟩ := ra.str
    obtain ⟨w, rfl, e2, l2, s2⟩ := rb.str
    refine .inr ⟨z, w, rfl, rfl, ?_⟩
    rw [e1, e2, ← ltN_iff]
    exact q _ _ (Evl.Ex.refl H) (.bl _)
  · exact q.elim
end
end VL
set_option Elab.async false
set_option linter.all false
set_option maxRecDepth 100000
set_option maxHeartbeats 2000000
set_option autoImplicit false
/-! VL3: in, is None, subscripts, slices, truth by plain values. -/
namespace VL
open PySem PySem.Spec L2 R

/-! ### texts within texts -/
theorem isPre_iff : ∀ x y : List Nat, isPre x y = (y.take x.length == x)
  | [], y => by simp [isPre]
  | a :: x, [] => by simp [isPre]
  | a :: x, b :: y => by
    unfold isPre
    rw [isPre_iff x y, Bool.eq_iff_iff]
    simp only [Bool.and_eq_true, beq_iff_eq, List.length_cons, List.take_succ_cons, List.cons.injEq]
    constructor
    · rintro ⟨h1, h2⟩
      exact ⟨h1.symm, h2⟩
    · rintro ⟨h1, h2⟩
      exact ⟨h1.symm, h2⟩
theorem isIn_iff (x : List Nat) : ∀ y : List Nat, isIn x y = true ↔ ∃ i, i + x.length ≤ y.length ∧ ((y.drop i).take x.length == x) = true
  | [] => by
    unfold isIn
    constructor
    · intro h
      have e : x = [] := by simpa using h
      subst e
      exact ⟨0, by simp, by simp⟩
    · rintro ⟨i, h1, _⟩
      have e : x.length = 0 := by rw [List.length_nil] at h1; omega
      rw [List.eq_nil_of_length_eq_zero e]
      rfl
  | b :: y => by
    unfold isIn
    rw [Bool.or_eq_true, isPre_iff, isIn_iff x y]
    constructor
    · rintro (h | ⟨i, h1, h2⟩)
      · refine ⟨0, ?_, h⟩
        have e := congrArg List.length (eq_of_beq h)
        rw [List.length_take] at e
        omega
      · exact ⟨i + 1, by rw [List.length_cons]; omega, h2⟩
    · rintro ⟨i, h1, h2⟩
      cases i with
      | zero => exact .inl h2
      | succ i => exact .inr ⟨i, by rw [List.length_cons] at h1; omega, h2⟩
theorem occ_in (x y : Str) : (!(Builtin.Str.occurrences y x 0 y.length 1).isEmpty) = isIn x.cps.toList y.cps.toList := by
  rw [Bool.eq_iff_iff, PySem.StrLaws.found_iff, isIn_iff]
  constructor
  · rintro ⟨i, h1, h2⟩
    rw [PySem.StrLaws.subAt_eq, str_len (z := x)] at h2
    exact ⟨i, by rw [← str_len, ← str_len]; exact h1, h2⟩
  · rintro ⟨i, h1, h2⟩
    refine ⟨i, by rw [str_len, str_len (z := y)]; exact h1, ?_⟩
    rw [PySem.StrLaws.subAt_eq, str_len (z := x)]
    exact h2

/-! ### keys -/
def keyOf : PV → Key
  | .int i => .inl i
  | .str x => .inr ⟨x.toArray⟩
  | _ => .inl 0
theorem keyP_of {d : PV} (h : keyB d = true) : keyP (keyOf d) = d := by
  cases d <;> first | rfl | cases h
theorem keyOf_P (k : Key) : keyOf (keyP k) = k := by
  cases k with
  | inl i => rfl
  | inr x => rfl
theorem eqB_key (k : Key) (d : PV) (h : keyB d = true) : eqB (keyP k) d = decide (k = keyOf d) := by
  cases k with
  | inl i =>
    cases d <;> first | cases h | skip
    · rw [Bool.eq_iff_iff]; simp [keyP, eqB, keyOf]
    · rw [Bool.eq_iff_iff]; simp [keyP, eqB, keyOf]
  | inr x =>
    cases d <;> first | cases h | skip
    · rw [Bool.eq_iff_iff]; simp [keyP, eqB, keyOf]
    · rw [Bool.eq_iff_iff]
      simp only [keyP, eqB, keyOf, beq_iff_eq, decide_eq_true_eq, Sum.inr.injEq]
      constructor
      · rintro rfl
        rfl
      · rintro rfl
        rfl
section
variable {T : Tb} {X : Cx} {L : List Addr} {H : Hp} {v : V}
theorem RepW.key {d : PV} (h : RepW T L H v d) (hk : keyB d = true) : v = kV (keyOf d) := by
  cases d <;> first | cases hk | skip
  · exact h.int
  · obtain ⟨z, rfl, e, _, _⟩ := h.str
    rw [str_of e]
    rfl
theorem RepW.isN {d : PV} (ra : RepW T L H v d) : decide (v = .non) = isNoneP d := by
  cases ra with
  | st ra => cases ra <;> simp [isNoneP]
  | lst _ _ _ => simp [isNoneP]
  | dK _ _ => simp [isNoneP]
  | dT _ _ => simp [isNoneP]
theorem ov_isN : OpV T X (compareOp .Is) isNP := by
  refine ⟨_, op_isN, fun L H x y a b Q x' t ra rb q => ?_⟩
  unfold isNP at q
  split at q
  · obtain rfl := rb.none
    refine ⟨rfl, ?_⟩
    rw [ra.isN]
    exact q _ _ (Evl.Ex.refl H) (.bl _)
  · exact q.elim
theorem ov_notN : OpV T X (compareOp .IsNot) notNP := by
  refine ⟨_, op_notN, fun L H x y a b Q x' t ra rb q => ?_⟩
  unfold notNP at q
  split at q
  · obtain rfl := rb.none
    refine ⟨rfl, ?_⟩
    rw [ra.isN]
    exact q _ _ (Evl.Ex.refl H) (.bl _)
  · exact q.elim

/-! ### dicts: what stands at a key -/
theorem look_K : ∀ (kvs : List (Key × V)) (vs : List PV) (k : PV), keyB k = true → RepA T H (kvs.map (·.2)) vs →
    (∀ w, valV kvs (keyOf k) = some w → ∃ d, lookP k (kvs.map fun e => keyP e.1) vs = some d ∧ Rep T H w d) ∧ (valV kvs (keyOf k)).isSome = (lookP k (kvs.map fun e => keyP e.1) vs).isSome
  | [], _, k, _, r => by
    cases r
    exact ⟨fun w h => by simp [valV] at h, rfl⟩
  | e :: kvs, _, k, hk, r => by
    cases r with
    | @cons v vs d ds r1 r2 =>
      obtain ⟨i1, i2⟩ := look_K kvs ds k hk r2
      by_cases c : e.1 = keyOf k
      · rw [valV_pos c]
        have e1 : eqB (keyP e.1) k = true := by rw [eqB_key _ _ hk, decide_eq_true c]
        simp only [List.map_cons, lookP, e1, if_true]
        exact ⟨fun w h => ⟨d, rfl, by cases h; exact r1⟩, rfl⟩
      · rw [valV_neg c]
        have e1 : eqB (keyP e.1) k = false := by rw [eqB_key _ _ hk, decide_eq_false c]
        simp only [List.map_cons, lookP, e1]
        exact ⟨i1, i2⟩
theorem look_any : ∀ (ks vs : List PV) (k : PV), ks.length = vs.length → (lookP k ks vs).isSome = ks.any fun z => eqB z k
  | [], [], k, _ => rfl
  | [], _ :: _, k, h => by simp at h
  | _ :: _, [], k, h => by simp at h
  | a :: ks, b :: vs, k, h => by
    simp only [lookP, List.any_cons]
    cases eqB a k with
    | true => rfl
    | false =>
      rw [if_neg Bool.false_ne_true, Bool.false_or]
      exact look_any ks vs k (by simpa using h)
theorem eqBs_keys : ∀ (ks : List Key) (xs : List PV), xs.all keyB = true → eqBs (ks.map keyP) xs = decide (ks = xs.map keyOf)
  | [], [], _ => by simp [eqBs]
  | [], _ :: _, _ => by simp [eqBs]
  | _ :: _, [], _ => by simp [eqBs]
  | k :: ks, x :: xs, h => by
    rw [List.all_cons, Bool.and_eq_true] at h
    simp only [List.map_cons, eqBs]
    rw [eqB_key k x h.1, eqBs_keys ks xs h.2, Bool.eq_iff_iff]
    simp
theorem look_T : ∀ (kvs : List (List Key × V)) (vs : List PV) (k : List PV), k.all keyB = true → RepA T H (kvs.map (·.2)) vs →
    (∀ w, valV kvs (k.map keyOf) = some w → ∃ d, lookP (.tup k) (kvs.map fun e => .tup (e.1.map keyP)) vs = some d ∧ Rep T H w d) ∧
    (valV kvs (k.map keyOf)).isSome = (lookP (.tup k) (kvs.map fun e => .tup (e.1.map keyP)) vs).isSome
  | [], _, k, _, r => by
    cases r
    exact ⟨fun w h => by simp [valV] at h, rfl⟩
  | e :: kvs, _, k, hk, r => by
    cases r with
    | @cons v vs d ds r1 r2 =>
      obtain ⟨i1, i2⟩ := look_T kvs ds k hk r2
      by_cases c : e.1 = k.map keyOf
      · rw [valV_pos c]
        have e1 : eqB (.tup (e.1.map keyP)) (.tup k) = true := by unfold eqB; rw [eqBs_keys _ _ hk, decide_eq_true c]
        simp only [List.map_cons, lookP, e1, if_true]
        exact ⟨fun w h => ⟨d, rfl, by cases h; exact r1⟩, rfl⟩
      · rw [valV_neg c]
        have e1 : eqB (.tup (e.1.map keyP)) (.tup k) = false := by unfold eqB; rw [eqBs_keys _ _ hk, decide_eq_false c]
        simp only [List.map_cons, lookP, e1]
        exact ⟨i1, i2⟩
theorem keys_back : ∀ {xs : List V} {ds : List PV} {Hx : Hp}, ds.all keyB = true → RepA T Hx xs ds → xs = (ds.map keyOf).map kV
  | _, [], _, _, r => by cases r; rfl
  | _, d :: ds, Hx, h, r => by
    rw [List.all_cons, Bool.and_eq_true] at h
    cases r with
    | cons r1 r2 =>
      have e := keys_back h.2 r2
      subst e
      have e1 := RepW.key (L := []) (H := Hx) (.st (by rw [hid_nil]; exact r1)) h.1
      subst e1
      rfl
/-- what stands at a key of a dict -/
theorem dget_of {t : Bool} {ks vs : List PV} {k : PV} {w : V} (h : RepW T L H v (.dict t ks vs)) (hw : RepW T L H w k) (hk : dkOk t k = true) :
    ∃ a r, v = .ref a ∧ DGet H a w r ∧ (∀ u, r = some u → ∃ d, lookP k ks vs = some d ∧ Rep T (hid H L) u d) ∧ r.isSome = (lookP k ks vs).isSome := by
  cases t with
  | false =>
    obtain ⟨a, kvs, rfl, ha, ra, rfl⟩ := h.dictK
    have hb : keyB k = true := by cases k <;> simp_all [dkOk, keyB]
    have e := hw.key hb
    subst e
    obtain ⟨i1, i2⟩ := look_K kvs vs k hb ra
    exact ⟨a, _, rfl, .inl ⟨_, _, ha, rfl, rfl⟩, i1, i2⟩
  | true =>
    obtain ⟨a, kvs, rfl, ha, ra, rfl⟩ := h.dictT
    cases k <;> first | cases hk | skip
    rename_i xs
    have hb : xs.all keyB = true := by simpa [dkOk] using hk
    obtain ⟨b, zs, rfl, hb2, rb, _, _⟩ := hw.tup
    obtain ⟨i1, i2⟩ := look_T kvs vs xs hb ra
    have e := keys_back hb rb
    subst e
    exact ⟨a, _, rfl, DGet.t ha hb2, i1, i2⟩
/-! ### in -/
theorem op_in_dict (hu : X.A.units + 1 < cLine) : OpR X (compareOp .In) (fun x y H Q => ∃ a r, y = .ref a ∧ DGet H a x r ∧ Q (.bl r.isSome) H) := by
  intro pins s σ H x y v u Q I rx ry h
  obtain ⟨a, r, rfl, g, q⟩ := h
  obtain rfl : u = Value.ref a := ry
  exact d_in hu I g rx fun s3 I3 => ⟨.bl r.isSome, H, I3, rfl, q⟩
theorem op_notIn_dict (hu : X.A.units + 1 < cLine) : OpR X (compareOp .NotIn) (fun x y H Q => ∃ a r, y = .ref a ∧ DGet H a x r ∧ Q (.bl (!r.isSome)) H) := by
  intro pins s σ H x y v u Q I rx ry h
  obtain ⟨a, r, rfl, g, q⟩ := h
  obtain rfl : u = Value.ref a := ry
  exact d_notIn hu I g rx fun s3 I3 => ⟨.bl (!r.isSome), H, I3, rfl, q⟩
theorem op_inDT (hu : X.A.units + 65 < cLine) : OpR X (compareOp .In) (fun x y H Q => ∃ d ds, Dp X.K H x d ∧ Dp X.K H y (.tuple ds) ∧ SeqAt.shaped d = true ∧ SeqAt.shaped (.tuple ds) = true ∧ Q (.bl (ds.any fun z => PyData.eqv z d)) H) := by
  intro pins s σ H x y v u Q I rx ry h
  obtain ⟨d, ds, hd, he, sd, se, q⟩ := h
  obtain ⟨as, r1⟩ := Dp.reads I d x v hd rx
  obtain ⟨bs, r2⟩ := Dp.reads I (.tuple ds) y u he ry
  exact SeqAt.in_tuple_reads r2 r1 (SeqAt.canLay_of_shaped se) (SeqAt.canLay_of_shaped sd) (PyProof.Rows.room_in_shaped sd hu) ⟨.bl _, H, I, rfl, q⟩
theorem op_notInDT (hu : X.A.units + 65 < cLine) : OpR X (compareOp .NotIn) (fun x y H Q => ∃ d ds, Dp X.K H x d ∧ Dp X.K H y (.tuple ds) ∧ SeqAt.shaped d = true ∧ SeqAt.shaped (.tuple ds) = true ∧ Q (.bl (!ds.any fun z => PyData.eqv z d)) H) := by
  intro pins s σ H x y v u Q I rx ry h
  obtain ⟨d, ds, hd, he, sd, se, q⟩ := h
  obtain ⟨as, r1⟩ := Dp.reads I d x v hd rx
  obtain ⟨bs, r2⟩ := Dp.reads I (.tuple ds) y u he ry
  exact SeqAt.notIn_tuple_reads r2 r1 (SeqAt.canLay_of_shaped se) (SeqAt.canLay_of_shaped sd) (PyProof.Rows.room_in_shaped sd hu) ⟨.bl _, H, I, rfl, q⟩
theorem any_toD {d : PV} (hd : dataB d = true) : ∀ {ds : List PV}, dataBs ds = true → ((toDs ds).any fun z => PyData.eqv z (toD d)) = ds.any fun z => eqB z d
  | [], _ => by simp [toDs]
  | e :: ds, h => by
    unfold dataBs at h
    rw [Bool.and_eq_true] at h
    unfold toDs
    rw [List.any_cons, List.any_cons, any_toD hd h.2, eqv_toD e d h.1 hd]
theorem cmp_data {d : PV} (h : cmpOk d = true) : dataB d = true := (Bool.and_eq_true_iff.mp h).1
/-- a written list or tuple of data, as data -/
theorem kn_dp {xs : List PV} (h : RepW T L H v (.kn xs)) (hc : cmpOk (.list xs) = true) : (Dp T.K H v (.list (toDs xs)) ∧ SeqAt.shaped (.list (toDs xs)) = true) ∨ (Dp T.K H v (.tuple (toDs xs)) ∧ SeqAt.shaped (.tuple (toDs xs)) = true) := by
  obtain ⟨a, vs, rfl, hs, r, z⟩ := h.kn
  have hd := cmp_data hc
  unfold dataB at hd
  obtain ⟨h1, h2⟩ := RepA.dp hid_le hd r
  have hsh := shaped_of (d := .list xs) hc (by unfold toD; exact h2)
  unfold toD at hsh
  rcases hs with hs | hs
  · exact .inl ⟨.lst hs h1, hsh⟩
  · exact .inr ⟨.tup hs h1, hsh⟩
theorem ov_in (hK : X.K = T.K) (hu : X.A.units + 65 < cLine) : OpV T X (compareOp .In) inP := by
  refine ⟨_, ((op_inD hu).or (op_inDT hu)).or (op_in_str.or (op_in_dict (by omega))), fun L H x y a b Q x' t ra rb q => ?_⟩
  unfold inP at q
  split at q
  · split at q
    · rename_i hm
      rw [Bool.and_eq_true] at hm
      obtain ⟨d1, s1⟩ := ra.dp hm.1
      obtain ⟨d2, s2⟩ := rb.dp hm.2
      have hd := cmp_data hm.2
      unfold toD at d2 s2
      unfold dataB at hd
      refine .inl (.inl ⟨_, _, by rw [hK]; exact d1, by rw [hK]; exact d2, s1, s2, ?_⟩)
      rw [any_toD (cmp_data hm.1) hd]
      exact q _ _ (Evl.Ex.refl H) (.bl _)
    · exact q.elim
  · split at q
    · rename_i hm
      rw [Bool.and_eq_true] at hm
      obtain ⟨d1, s1⟩ := ra.dp hm.1
      obtain ⟨d2, s2⟩ := rb.dp hm.2
      have hd := cmp_data hm.2
      unfold toD at d2 s2
      unfold dataB at hd
      refine .inl (.inr ⟨_, _, by rw [hK]; exact d1, by rw [hK]; exact d2, s1, s2, ?_⟩)
      rw [any_toD (cmp_data hm.1) hd]
      exact q _ _ (Evl.Ex.refl H) (.bl _)
    · exact q.elim
  · split at q
    · rename_i hm
      rw [Bool.and_eq_true] at hm
      obtain ⟨d1, s1⟩ := ra.dp hm.1
      have hd := cmp_data hm.2
      unfold dataB at hd
      rcases kn_dp rb hm.2 with ⟨d2, s2⟩ | ⟨d2, s2⟩
      · refine .inl (.inl ⟨_, _, by rw [hK]; exact d1, by rw [hK]; exact d2, s1, s2, ?_⟩)
        rw [any_toD (cmp_data hm.1) hd]
        exact q _ _ (Evl.Ex.refl H) (.bl _)
      · refine .inl (.inr ⟨_, _, by rw [hK]; exact d1, by rw [hK]; exact d2, s1, s2, ?_⟩)
        rw [any_toD (cmp_data hm.1) hd]
        exact q _ _ (Evl.Ex.refl H) (.bl _)
    · exact q.elim
  · split at q
    · obtain ⟨z, rfl, e1, l1, s1⟩ := ra.str
      obtain ⟨w, rfl, e2, l2, s2⟩ := rb.str
      refine .inr (.inl ⟨z, w, rfl, rfl, ?_⟩)
      rw [occ_in, e1, e2]
      exact q _ _ (Evl.Ex.refl H) (.bl _)
    · exact q.elim
  · split at q
    · rename_i hm
      obtain ⟨p, r, rfl, g, _, g2⟩ := dget_of rb ra hm
      refine .inr (.inr ⟨p, r, rfl, g, ?_⟩)
      rw [g2]
      exact q _ _ (Evl.Ex.refl H) (.bl _)
    · exact q.elim
  · exact q.elim
theorem ov_nin (hK : X.K = T.K) (hu : X.A.units + 65 < cLine) : OpV T X (compareOp .NotIn) ninP := by
  refine ⟨_, ((op_notInD hu).or (op_notInDT hu)).or (op_notIn_str.or (op_notIn_dict (by omega))), fun L H x y a b Q x' t ra rb q => ?_⟩
  unfold ninP inP at q
  split at q
  · rename_i k hk
    split at hk
    · split at hk
      · rename_i hm
        rw [Bool.and_eq_true] at hm
        obtain ⟨d1, s1⟩ := ra.dp hm.1
        obtain ⟨d2, s2⟩ := rb.dp hm.2
        have hd := cmp_data hm.2
        unfold toD at d2 s2
        unfold dataB at hd
        refine .inl (.inl ⟨_, _, by rw [hK]; exact d1, by rw [hK]; exact d2, s1, s2, ?_⟩)
        rw [any_toD (cmp_data hm.1) hd]
        cases hk
        exact q _ _ (Evl.Ex.refl H) (.bl _)
      · cases hk
    · split at hk
      · rename_i hm
        rw [Bool.and_eq_true] at hm
        obtain ⟨d1, s1⟩ := ra.dp hm.1
        obtain ⟨d2, s2⟩ := rb.dp hm.2
        have hd := cmp_data hm.2
        unfold toD at d2 s2
        unfold dataB at hd
        refine .inl (.inr ⟨_, _, by rw [hK]; exact d1, by rw [hK]; exact d2, s1, s2, ?_⟩)
        rw [any_toD (cmp_data hm.1) hd]
        cases hk
        exact q _ _ (Evl.Ex.refl H) (.bl _)
      · cases hk
    · split at hk
      · rename_i hm
        rw [Bool.and_eq_true] at hm
        obtain ⟨d1, s1⟩ := ra.dp hm.1
        have hd := cmp_data hm.2
        unfold dataB at hd
        rcases kn_dp rb hm.2 with ⟨d2, s2⟩ | ⟨d2, s2⟩
        · refine .inl (.inl ⟨_, _, by rw [hK]; exact d1, by rw [hK]; exact d2, s1, s2, ?_⟩)
          rw [any_toD (cmp_data hm.1) hd]
          cases hk
          exact q _ _ (Evl.Ex.refl H) (.bl _)
        · refine .inl (.inr ⟨_, _, by rw [hK]; exact d1, by rw [hK]; exact d2, s1, s2, ?_⟩)
          rw [any_toD (cmp_data hm.1) hd]
          cases hk
          exact q _ _ (Evl.Ex.refl H) (.bl _)
      · cases hk
    · split at hk
      · obtain ⟨z, rfl, e1, l1, s1⟩ := ra.str
        obtain ⟨w, rfl, e2, l2, s2⟩ := rb.str
        refine .inr (.inl ⟨z, w, rfl, rfl, ?_⟩)
        rw [occ_in, e1, e2]
        cases hk
        exact q _ _ (Evl.Ex.refl H) (.bl _)
      · cases hk
    · split at hk
      · rename_i hm
        obtain ⟨p, r, rfl, g, _, g2⟩ := dget_of rb ra hm
        refine .inr (.inr ⟨p, r, rfl, g, ?_⟩)
        rw [g2]
        cases hk
        exact q _ _ (Evl.Ex.refl H) (.bl _)
      · cases hk
    · cases hk
  · exact q.elim

/-! ### subscripts, slices -/
def IxV (T : Tb) (X : Cx) (op : PV → PV → R PV) : Prop :=
  ∃ r, IxR X r ∧ ∀ L H x y a b Q x', Trk L H → RepW T L H x a → RepW T L H y b → Res (op a b) (KV' T L H Q) x' → r x y H Q
theorem ix_dict (hu : X.A.units + 1 < cLine) : IxR X (fun x y H Q => ∃ a w, x = .ref a ∧ DGet H a y (some w) ∧ Q w H) := by
  intro value slice pins s σ H x y v u Q I rx ry h hs
  obtain ⟨a, w, rfl, g, q⟩ := h
  obtain rfl : v = Value.ref a := rx
  exact PyProof.Rows.tail_any (dict_typeIs I g) PySem.F.slot_dict_getitem.lookup (d_getItem hu I g ry fun w' s3 I3 rw' => ⟨w, H, I3, rw', q⟩) hs
theorem at_eq {α : Type} (xs : List α) (i : Int) : atI xs i = atP xs i := rfl
theorem atP_rep {Hx : Hp} {xs : List V} {ds : List PV} {i : Int} {d : PV} (r : RepA T Hx xs ds) (h : atP ds i = some d) : ∃ w, atP xs i = some w ∧ Rep T Hx w d := by
  unfold atP at *
  rw [r.length]
  cases e : ixP ds.length i with
  | none => rw [e] at h; cases h
  | some j =>
    rw [e] at h
    exact r.get' h
theorem iv_idx (hK : X.K = T.K) (hu : X.A.units + 1 < cLine) : IxV T X idxP := by
  refine ⟨_, ix_seq.or (ix_dict hu), fun L H x y a b Q x' t ra rb q => ?_⟩
  unfold idxP at q
  split at q
  · split at q
    · rename_i hm
      obtain ⟨p, xs, rfl, h1, r1, l1⟩ := ra.list
      obtain rfl := rb.int
      obtain ⟨w, h2, r2⟩ := atP_rep r1 hm
      exact .inl (.inl ⟨p, xs, _, w, rfl, rfl, SqL.of h1, h2, q _ _ (Evl.Ex.refl H) r2⟩)
    · exact q.elim
  · split at q
    · rename_i hm
      obtain ⟨p, xs, rfl, h1, r1, l1⟩ := ra.kn
      obtain rfl := rb.int
      obtain ⟨w, h2, r2⟩ := atP_rep r1 hm
      rcases h1 with h1 | h1
      · exact .inl (.inl ⟨p, xs, _, w, rfl, rfl, by rw [hK]; exact h1, h2, q _ _ (Evl.Ex.refl H) r2⟩)
      · exact .inl (.inr (.inl ⟨p, xs, _, w, rfl, rfl, by rw [hK]; exact h1, h2, q _ _ (Evl.Ex.refl H) r2⟩))
    · exact q.elim
  · split at q
    · rename_i hm
      obtain ⟨p, xs, rfl, h1, r1, l1, _⟩ := ra.tup
      obtain rfl := rb.int
      obtain ⟨w, h2, r2⟩ := atP_rep r1 hm
      exact .inl (.inr (.inl ⟨p, xs, _, w, rfl, rfl, SqT.of h1, h2, q _ _ (Evl.Ex.refl H) r2⟩))
    · exact q.elim
  · split at q
    · rename_i c hm
      obtain ⟨z, rfl, e1, l1, s1⟩ := ra.str
      obtain rfl := rb.int
      have hc : c < 1114112 := by
        unfold atP at hm
        cases e : ixP _ _ with
        | none => rw [e] at hm; cases hm
        | some j =>
          rw [e] at hm
          exact sok_mem.mp s1 c (List.mem_of_getElem? hm)
      refine .inl (.inr (.inr ⟨z, _, c, rfl, rfl, l1, by rw [e1]; exact hm, q _ _ (Evl.Ex.refl H) (rep_sig hc)⟩))
    · exact q.elim
  · split at q
    · rename_i hk
      split at q
      · rename_i d hm
        obtain ⟨p, r, rfl, g, g1, g2⟩ := dget_of ra rb hk
        rw [hm] at g2
        obtain ⟨w, rfl⟩ := Option.isSome_iff_exists.mp g2
        obtain ⟨d', e, r2⟩ := g1 w rfl
        rw [hm] at e
        cases e
        exact .inr ⟨p, w, rfl, g, q _ _ (Evl.Ex.refl H) r2⟩
      · exact q.elim
    · exact q.elim
  · exact q.elim
end
end VL
set_option Elab.async false
set_option linter.all false
set_option maxRecDepth 100000
set_option maxHeartbeats 2000000
set_option autoImplicit false
/-! VL4: expressions and tests by plain values. -/
namespace VL
open PySem PySem.Spec L2 R

/-- the value in the i-th slot -/
def getE (env : En) (i : Nat) : R PV := match env[i]? with
  | some (some d) => .ok d
  | _ => .bad
section
variable {T : Tb} {E : XK} {O : List Nat} {X : Cx} {a b c e : Expr} {es : List Expr} {f g h : En → R PV} {fs : En → R (List PV)} {ft gt : En → R Bool} {pos : Pos}

/-! ### names, constants -/
theorem ve_var (i : Nat) {x : Str} {pos : Pos} (hO : O.contains i = false) (hN : X.N[i]? = some x := by rfl) (hv : Vis X.env.scope x := by first | exact Or.inl rfl | exact Or.inr (Or.inl rfl) | exact Or.inr (Or.inr rfl))
    (hd : (x == ("__debug__" : Str)) = false := by decide) (hcd : (x == ("__classdict__" : Str)) = false := by decide) : VE T E O X (.Name x pos) (fun env => getE env i) := by
  refine ⟨_, pe_var hN hv hd hcd, fun L ow H σ env Q ho r hq => ?_⟩
  dsimp only [getE] at hq
  split at hq
  · rename_i d hd
    obtain ⟨v, h1, h2⟩ := r.fr i d hd (by rw [ho]; simpa using hO)
    exact ⟨v, h1, hq v H (Evl.Ex.refl H) h2⟩
  · exact hq.elim
/-- a name that may hold an own object -/
theorem vw_var (i : Nat) {x : Str} {pos : Pos} (hN : X.N[i]? = some x := by rfl) (hv : Vis X.env.scope x := by first | exact Or.inl rfl | exact Or.inr (Or.inl rfl) | exact Or.inr (Or.inr rfl))
    (hd : (x == ("__debug__" : Str)) = false := by decide) (hcd : (x == ("__classdict__" : Str)) = false := by decide) : VW T E O X (.Name x pos) (fun env => getE env i) := by
  refine ⟨_, pe_var hN hv hd hcd, fun L ow H σ env Q ho r hq => ?_⟩
  dsimp only [getE] at hq
  split at hq
  · rename_i d hd
    by_cases hi : i ∈ ow.map (·.1)
    · obtain ⟨p, hp, rfl⟩ := List.mem_map.mp hi
      obtain ⟨_, h2, d', h3, h4⟩ := r.own p.1 p.2 hp
      rw [hd] at h3
      cases h3
      exact ⟨_, h2, hq _ H (Evl.Ex.refl H) h4.w⟩
    · obtain ⟨v, h1, h2⟩ := r.fr i d hd hi
      exact ⟨v, h1, hq v H (Evl.Ex.refl H) (.st h2)⟩
  · exact hq.elim
theorem ve_c {v : V} {d : PV} (hp : PE X e (tC v)) (hr : ∀ H, Rep T H v d) : VE T E O X e (fun _ => .ok d) :=
  ⟨_, hp, fun L ow H σ env Q ho r hq => hq v H (Evl.Ex.refl H) (hr _)⟩
theorem ve_int {i : Int} {j pos} : VE T E O X (.Constant (.int i) j pos) (fun _ => .ok (.int i)) := ve_c pe_int fun _ => .int i
theorem ve_bl {i : Bool} {j pos} : VE T E O X (.Constant (.bool i) j pos) (fun _ => .ok (.bool i)) := ve_c pe_bl fun _ => .bl i
theorem ve_non {j pos} : VE T E O X (.Constant .none j pos) (fun _ => .ok .none) := ve_c pe_non fun _ => .non
theorem ve_str {z : Str} {j pos} (x : List Nat) (hx : (decide (z.cps.toList = x) && (sok x && decide (x.length ≤ LN))) = true) : VE T E O X (.Constant (.str z) j pos) (fun _ => .ok (.str x)) := by
  rw [Bool.and_eq_true, Bool.and_eq_true, decide_eq_true_eq, decide_eq_true_eq] at hx
  exact ve_c pe_str fun _ => rep_str' hx.1 hx.2.2 hx.2.1
/-- a constant of the module -/
theorem ve_gl {x : Str} {v : V} {u : Value} {d : PV} (hm : X.mg x = some u) (r : RelV v u) (hr : ∀ H, Rep T H v d) (hg : Gl X x := by rfl) (hd : (x == ("__debug__" : Str)) = false := by decide) : VE T E O X (.Name x pos) (fun _ => .ok d) := ve_c (pe_glob hg hm r hd) hr

/-! ### operators -/
theorem ve_cmp {op : CmpOp} {o : PV → PV → R PV} (ho : OpV T X (compareOp op) o) (ha : VW T E O X a f) (hb : VW T E O X b g) (hm : behindInMarks op b = false := by first | exact nobehind _ (by decide) (by decide) | rfl) :
    VE T E O X (.Compare a [op] [b] pos) (fun env => do o (← f env) (← g env)) := by
  obtain ⟨ta, pa, qa⟩ := ha
  obtain ⟨tb, pb, qb⟩ := hb
  obtain ⟨r, pr, qr⟩ := ho
  refine ⟨_, pe_cmpR pr pa pb hm, fun L ow H σ env Q ho re hq => ?_⟩
  simp only [res_bind] at hq
  refine qa L ow H σ env _ ho re (hq.imp (fun d k v H1 e1 rv => ?_) fun _ _ x => x)
  refine qb L ow H1 σ env _ ho (re.mono e1) (k.imp (fun d' k' v' H2 e2 rv' => ?_) fun _ _ x => xw_mono e1 x)
  exact qr L H2 v v' d d' Q _ (re.trk.mono (e1.trans e2)) (rv.mono e2) rv' (k'.imp (fun d2 k2 w H3 e3 rw' => k2 w H3 ((e1.trans e2).trans e3) rw') fun _ _ x => x)
/-- a op b op' c -/
theorem ve_chain {op op' : CmpOp} {o o' : PV → PV → R PV} (ho : OpV T X (compareOp op) o) (ho' : OpV T X (compareOp op') o') (ha : VW T E O X a f) (hb : VW T E O X b g) (hc : VW T E O X c h) (hm : lastMarks [op, op'] [b, c] = false := by with_unfolding_all rfl) :
    VE T E O X (.Compare a [op, op'] [b, c] pos) (fun env => do
      let x ← f env
      let y ← g env
      let k ← boolP (← o x y)
      if k = true then do o' y (← h env) else .ok (.bool false)) := by
  obtain ⟨ta, pa, qa⟩ := ha
  obtain ⟨tb, pb, qb⟩ := hb
  obtain ⟨tc, pc, qc⟩ := hc
  obtain ⟨r, pr, qr⟩ := ho
  obtain ⟨r', pr', qr'⟩ := ho'
  refine ⟨_, pe_chain pr pr' pa pb pc hm, fun L ow H σ env Q ho re hq => ?_⟩
  simp only [res_bind] at hq
  refine qa L ow H σ env _ ho re (hq.imp (fun d k v H1 e1 rv => ?_) fun _ _ x => x)
  refine qb L ow H1 σ env _ ho (re.mono e1) (k.imp (fun d' k' v' H2 e2 rv' => ?_) fun _ _ x => xw_mono e1 x)
  refine qr L H2 v v' d d' _ _ (re.trk.mono (e1.trans e2)) (rv.mono e2) rv' (k'.imp (fun d2 k2 w H3 e3 rw' => ?_) fun _ _ x => x)
  unfold boolP at k2
  split at k2
  · rename_i kk
    have ew := RepW.bool (L := L) (.st rw')
    refine ⟨kk, ew, ?_⟩
    cases kk with
    | true =>
      rw [if_pos rfl]
      rw [res_ok, if_pos rfl, res_bind] at k2
      refine qc L ow H3 σ env _ ho (re.mono ((e1.trans e2).trans e3)) (k2.imp (fun d3 k3 u H4 e4 ru => ?_) fun _ _ x => xw_mono ((e1.trans e2).trans e3) x)
      exact qr' L H4 v' u d' d3 Q _ (re.trk.mono (((e1.trans e2).trans e3).trans e4)) (rv'.mono (e3.trans e4)) ru (k3.imp (fun d5 k5 z H5 e5 rz => k5 z H5 ((((e1.trans e2).trans e3).trans e4).trans e5) rz) fun _ _ x => x)
    | false =>
      rw [if_neg Bool.false_ne_true]
      rw [res_ok, if_neg Bool.false_ne_true, res_ok] at k2
      exact k2 _ H3 ((e1.trans e2).trans e3) (.bl false)
  · exact k2.elim
theorem ve_neg (ha : VW T E O X a f) : VE T E O X (.UnaryOp .USub a pos) (fun env => do negP (← f env)) := by
  obtain ⟨ta, pa, qa⟩ := ha
  refine ⟨_, pe_un un_neg pa, fun L ow H σ env Q ho re hq => ?_⟩
  simp only [res_bind] at hq
  refine qa L ow H σ env _ ho re (hq.imp (fun d k v H1 e1 rv => ?_) fun _ _ x => x)
  unfold negP at k
  split at k
  · obtain rfl := rv.int
    exact ⟨_, rfl, k _ H1 e1 (.int _)⟩
  · exact k.elim
theorem ve_ix {o : PV → PV → R PV} (ho : IxV T X o) (ha : VW T E O X a f) (hb : VW T E O X b g) (hs : PlainIx b := by exact fun _ _ => rfl) : VE T E O X (.Subscript a b pos) (fun env => do o (← f env) (← g env)) := by
  obtain ⟨ta, pa, qa⟩ := ha
  obtain ⟨tb, pb, qb⟩ := hb
  obtain ⟨r, pr, qr⟩ := ho
  refine ⟨_, pe_ix pr pa pb hs, fun L ow H σ env Q ho re hq => ?_⟩
  simp only [res_bind] at hq
  refine qa L ow H σ env _ ho re (hq.imp (fun d k v H1 e1 rv => ?_) fun _ _ x => x)
  refine qb L ow H1 σ env _ ho (re.mono e1) (k.imp (fun d' k' v' H2 e2 rv' => ?_) fun _ _ x => xw_mono e1 x)
  exact qr L H2 v v' d d' Q _ (re.trk.mono (e1.trans e2)) (rv.mono e2) rv' (k'.imp (fun d2 k2 w H3 e3 rw' => k2 w H3 ((e1.trans e2).trans e3) rw') fun _ _ x => x)

/-! ### slices -/
def VO (T : Tb) (E : XK) (O : List Nat) (X : Cx) (e : Option Expr) (f : En → R (Option Int)) : Prop := ∃ t, PO X e t ∧ ∀ L ow H σ env Q, ow.map (·.1) = O → EnvR T L ow H σ env → Res (f env) (fun b => ∀ H', Ex H H' → Q b H') (xw T E H) → t σ H Q
theorem vo_none : VO T E O X none (fun _ => .ok none) := ⟨_, po_none, fun L ow H σ env Q ho re hq => hq H (Evl.Ex.refl H)⟩
theorem vo_some (ha : VW T E O X a f) : VO T E O X (some a) (fun env => do partP (← f env)) := by
  obtain ⟨ta, pa, qa⟩ := ha
  refine ⟨_, po_some pa, fun L ow H σ env Q ho re hq => ?_⟩
  simp only [res_bind] at hq
  refine qa L ow H σ env _ ho re (hq.imp (fun d k v H1 e1 rv => ?_) fun _ _ x => x)
  unfold partP at k
  split at k
  · obtain rfl := rv.int
    exact ⟨_, rfl, k H1 e1⟩
  · exact k.elim
theorem cut_rep {H : Hp} {xs : List V} {ds : List PV} {lo hi : Option Int} (r : RepA T H xs ds) : RepA T H (cutV xs lo hi) (cutL ds lo hi) := by
  unfold cutV cutL
  rw [r.length]
  exact (r.drop _).take _
theorem cutL_len {α : Type} {xs : List α} {lo hi : Option Int} : (cutL xs lo hi).length ≤ xs.length := by
  unfold cutL
  rw [List.length_take, List.length_drop]
  omega
theorem cutL_mem {α : Type} {xs : List α} {lo hi : Option Int} {y : α} (h : y ∈ cutL xs lo hi) : y ∈ xs := List.mem_of_mem_drop (List.mem_of_mem_take h)
theorem cut_whole {α : Type} {xs : List α} {lo hi : Option Int} (h1 : HT.sIx xs.length 0 lo = 0) (h2 : HT.sIx xs.length xs.length hi = xs.length) : cutL xs lo hi = xs := by
  show (xs.drop (HT.sIx xs.length 0 lo)).take (HT.sIx xs.length xs.length hi - HT.sIx xs.length 0 lo) = xs
  rw [h1, h2]
  simp
theorem sl_tupK : SlR X (rSlA X.K) := sl_tupA
theorem ve_slice {lo hi : Option Expr} {p2 : Pos} {fl fh : En → R (Option Int)} (hK : X.K = T.K) (ha : VW T E O X a f) (hl : VO T E O X lo fl) (hh : VO T E O X hi fh) :
    VE T E O X (.Subscript a (.Slice lo hi none p2) pos) (fun env => do
      let x ← f env
      let l ← fl env
      let u ← fh env
      sliceP x l u) := by
  obtain ⟨ta, pa, qa⟩ := ha
  obtain ⟨tl, pl, ql⟩ := hl
  obtain ⟨th, ph, qh⟩ := hh
  refine ⟨_, pe_slice (sl_list.or (sl_tupK.or sl_str)) pa pl ph, fun L ow H σ env Q ho re hq => ?_⟩
  simp only [res_bind] at hq
  refine qa L ow H σ env _ ho re (hq.imp (fun d k v H1 e1 rv => ?_) fun _ _ x => x)
  refine ql L ow H1 σ env _ ho (re.mono e1) (k.imp (fun l k' H2 e2 => ?_) fun _ _ x => xw_mono e1 x)
  refine qh L ow H2 σ env _ ho (re.mono (e1.trans e2)) (k'.imp (fun u k2 H3 e3 => ?_) fun _ _ x => xw_mono (e1.trans e2) x)
  have e13 := (e1.trans e2).trans e3
  have rv3 := rv.mono (e2.trans e3)
  have t3 := re.trk.mono e13
  unfold sliceP at k2
  split at k2
  · obtain ⟨p, xs, rfl, h1, r1, l1⟩ := rv3.list
    exact .inl ⟨p, xs, rfl, SqL.of h1, fun p hp => k2 _ _ (e13.trans (ex_upd hp)) (rep_new t3 hp (cut_rep r1) (Nat.le_trans (cutV_length _ _ _) (snL l1)))⟩
  · obtain ⟨p, xs, rfl, h1, r1, l1, w1⟩ := rv3.tup
    refine .inr (.inl ⟨p, xs, rfl, SqT.of h1, fun hw => ?_, fun _ p hp => k2 _ _ (e13.trans (ex_upd hp)) (rep_newT t3 hp (cut_rep r1) (Nat.le_trans (cutV_length _ _ _) (snL l1)))⟩)
    rw [r1.length] at hw
    rw [cut_whole hw.1 hw.2] at k2
    exact k2 _ H3 e13 w1
  · obtain ⟨z, rfl, h1, l1, s1⟩ := rv3.str
    subst h1
    refine .inr (.inr ⟨z, rfl, l1, k2 _ H3 e13 (rep_str' ?_ (Nat.le_trans cutL_len (by rw [← str_len]; exact snL l1)) (sok_sub s1 fun c hc => cutL_mem hc))⟩)
    unfold cutS
    rw [str_len]
    rfl
  · exact k2.elim
end
end VL
set_option Elab.async false
set_option linter.all false
set_option maxRecDepth 100000
set_option maxHeartbeats 2000000
set_option autoImplicit false
/-! VL5: tests, and | or | not, conditional expressions, displays. -/
namespace VL
open PySem PySem.Spec L2 R
section
variable {T : Tb} {E : XK} {O : List Nat} {X : Cx} {a b c e : Expr} {es rest : List Expr} {f g h : En → R PV} {fs gs : En → R (List PV)} {ft gt : En → R Bool} {pos : Pos}

theorem RepW.tru {L : List Addr} {H : Hp} {v : V} {d : PV} {k : Bool} (r : RepW T L H v d) (h : truP d = .ok k) : TruV T.K v H k := by
  unfold truP at h
  split at h
  · obtain rfl := r.none; cases h; rfl
  · obtain rfl := r.bool; cases h; rfl
  · obtain rfl := r.int; cases h; rfl
  · obtain ⟨z, rfl, e1, l1, _⟩ := r.str
    subst e1
    cases h
    refine ⟨l1, ?_⟩
    rw [str_len, Bool.eq_iff_iff]
    cases z.cps.toList <;> simp <;> omega
  · obtain ⟨p, xs, rfl, h1, r1, _⟩ := r.list
    cases h
    refine .inl ⟨xs, SqL.of h1, ?_⟩
    cases r1 <;> rfl
  · obtain ⟨p, xs, rfl, h1, r1, _⟩ := r.kn
    cases h
    rcases h1 with h1 | h1
    · exact .inl ⟨xs, h1, by cases r1 <;> rfl⟩
    · exact .inr (.inl ⟨xs, h1, by cases r1 <;> rfl⟩)
  · obtain ⟨p, xs, rfl, h1, r1, _⟩ := r.tup
    cases h
    exact .inr (.inl ⟨xs, SqT.of h1, by cases r1 <;> rfl⟩)
  · cases h

/-! ### tests -/
/-- an expression of any kind as a test -/
theorem vt_val (hK : X.K = T.K) (ha : VW T E O X a f) (he : ∀ whole, isTrue a X.env whole = (do let v ← whole; standAt a.pos; holding [v] (truthy v)) := by intro _; rfl) : VT T E O X a (fun env => do truP (← f env)) := by
  obtain ⟨ta, pa, qa⟩ := ha
  refine ⟨_, pt_truth pa he, fun L ow H σ env Q ho re hq => ?_⟩
  simp only [res_bind] at hq
  refine qa L ow H σ env _ ho re (hq.imp (fun d k v H1 e1 rv => ?_) fun _ _ x => x)
  cases ek : truP d with
  | ok kk =>
    rw [ek] at k
    exact ⟨kk, by rw [hK]; exact rv.tru ek, k H1 e1⟩
  | exc _ _ =>
    exfalso
    unfold truP at ek
    split at ek <;> cases ek
  | bad => rw [ek] at k; exact k.elim
/-- a comparison as a test -/
theorem vt_cmp {op : CmpOp} {o : PV → PV → R PV} (ho : OpV T X (compareOp op) o) (ha : VW T E O X a f) (hb : VW T E O X b g) (hm : behindInMarks op b = false := by first | exact nobehind _ (by decide) (by decide) | rfl) :
    VT T E O X (.Compare a [op] [b] pos) (fun env => do boolP (← o (← f env) (← g env))) := by
  obtain ⟨ta, pa, qa⟩ := ha
  obtain ⟨tb, pb, qb⟩ := hb
  obtain ⟨r, pr, qr⟩ := ho
  refine ⟨_, pt_cmpR pr pa pb hm, fun L ow H σ env Q ho re hq => ?_⟩
  simp only [res_bind] at hq
  refine qa L ow H σ env _ ho re (hq.imp (fun d k v H1 e1 rv => ?_) fun _ _ x => x)
  refine qb L ow H1 σ env _ ho (re.mono e1) (k.imp (fun d' k' v' H2 e2 rv' => ?_) fun _ _ x => xw_mono e1 x)
  refine qr L H2 v v' d d' _ _ (re.trk.mono (e1.trans e2)) (rv.mono e2) rv' (k'.imp (fun d2 k2 w H3 e3 rw' => ?_) fun _ _ x => x)
  unfold boolP at k2
  split at k2
  · have ew := RepW.bool (L := L) (.st rw')
    exact ⟨_, ew, k2 H3 ((e1.trans e2).trans e3)⟩
  · exact k2.elim
theorem vt_chain {op op' : CmpOp} {o o' : PV → PV → R PV} (ho : OpV T X (compareOp op) o) (ho' : OpV T X (compareOp op') o') (ha : VW T E O X a f) (hb : VW T E O X b g) (hc : VW T E O X c h) (hm : lastMarks [op, op'] [b, c] = false := by with_unfolding_all rfl) :
    VT T E O X (.Compare a [op, op'] [b, c] pos) (fun env => do
      let x ← f env
      let y ← g env
      let k ← boolP (← o x y)
      if k = true then do boolP (← o' y (← h env)) else .ok false) := by
  obtain ⟨ta, pa, qa⟩ := ha
  obtain ⟨tb, pb, qb⟩ := hb
  obtain ⟨tc, pc, qc⟩ := hc
  obtain ⟨r, pr, qr⟩ := ho
  obtain ⟨r', pr', qr'⟩ := ho'
  refine ⟨_, pt_chain pr pr' pa pb pc hm, fun L ow H σ env Q ho re hq => ?_⟩
  simp only [res_bind] at hq
  refine qa L ow H σ env _ ho re (hq.imp (fun d k v H1 e1 rv => ?_) fun _ _ x => x)
  refine qb L ow H1 σ env _ ho (re.mono e1) (k.imp (fun d' k' v' H2 e2 rv' => ?_) fun _ _ x => xw_mono e1 x)
  refine qr L H2 v v' d d' _ _ (re.trk.mono (e1.trans e2)) (rv.mono e2) rv' (k'.imp (fun d2 k2 w H3 e3 rw' => ?_) fun _ _ x => x)
  unfold boolP at k2
  split at k2
  · rename_i kk
    have ew := RepW.bool (L := L) (.st rw')
    refine ⟨kk, ew, ?_⟩
    cases kk with
    | true =>
      rw [if_pos rfl]
      rw [res_ok, if_pos rfl, res_bind] at k2
      refine qc L ow H3 σ env _ ho (re.mono ((e1.trans e2).trans e3)) (k2.imp (fun d3 k3 u H4 e4 ru => ?_) fun _ _ x => xw_mono ((e1.trans e2).trans e3) x)
      rw [res_bind] at k3
      refine qr' L H4 v' u d' d3 _ _ (re.trk.mono (((e1.trans e2).trans e3).trans e4)) (rv'.mono (e3.trans e4)) ru (k3.imp (fun d5 k5 z H5 e5 rz => ?_) fun _ _ x => x)
      split at k5
      · exact ⟨_, RepW.bool (L := L) (.st rz), k5 H5 ((((e1.trans e2).trans e3).trans e4).trans e5)⟩
      · exact k5.elim
    | false =>
      rw [if_neg Bool.false_ne_true]
      rw [res_ok, if_neg Bool.false_ne_true, res_ok] at k2
      exact ⟨_, rfl, k2 H3 ((e1.trans e2).trans e3)⟩
  · exact k2.elim
theorem vt_not (ha : VT T E O X a ft) : VT T E O X (.UnaryOp .Not a pos) (fun env => do .ok (!(← ft env))) := by
  obtain ⟨ta, pa, qa⟩ := ha
  refine ⟨_, pt_not pa, fun L ow H σ env Q ho re hq => ?_⟩
  simp only [res_bind] at hq
  exact qa L ow H σ env _ ho re (hq.imp (fun d k H1 e1 => k H1 e1) fun _ _ x => x)
/-- a chain of and | or, as a test -/
def VX (T : Tb) (E : XK) (O : List Nat) (X : Cx) (e : Expr) (f : En → R Bool) : Prop := ∃ t, PW X e t ∧ ∀ L ow H σ env Q, ow.map (·.1) = O → EnvR T L ow H σ env → Res (f env) (fun b => ∀ H', Ex H H' → Q b H') (xw T E H) → t σ H Q
theorem VX.t (h : VX T E O X a ft) : VT T E O X a ft := by
  obtain ⟨t, p, q⟩ := h
  exact ⟨t, p.pt, q⟩
theorem vx_and1 (ha : VT T E O X a ft) : VX T E O X (.BoolOp .And [a] pos) ft := by
  obtain ⟨t, p, q⟩ := ha
  exact ⟨t, pw_and1 p, q⟩
theorem vx_or1 (ha : VT T E O X a ft) : VX T E O X (.BoolOp .Or [a] pos) ft := by
  obtain ⟨t, p, q⟩ := ha
  exact ⟨t, pw_or1 p, q⟩
theorem vx_and (ha : VT T E O X a ft) (hb : VX T E O X (.BoolOp .And (b :: rest) pos) gt) : VX T E O X (.BoolOp .And (a :: b :: rest) pos) (fun env => do if (← ft env) = true then gt env else .ok false) := by
  obtain ⟨ta, pa, qa⟩ := ha
  obtain ⟨tb, pb, qb⟩ := hb
  refine ⟨_, pw_and pa pb, fun L ow H σ env Q ho re hq => ?_⟩
  simp only [res_bind] at hq
  refine qa L ow H σ env _ ho re (hq.imp (fun d k H1 e1 => ?_) fun _ _ x => x)
  cases d with
  | true =>
    rw [if_pos rfl]
    rw [if_pos rfl] at k
    exact qb L ow H1 σ env _ ho (re.mono e1) (k.imp (fun d' k' H2 e2 => k' H2 (e1.trans e2)) fun _ _ x => xw_mono e1 x)
  | false =>
    rw [if_neg Bool.false_ne_true]
    rw [if_neg Bool.false_ne_true] at k
    exact k H1 e1
theorem vx_or (ha : VT T E O X a ft) (hb : VX T E O X (.BoolOp .Or (b :: rest) pos) gt) : VX T E O X (.BoolOp .Or (a :: b :: rest) pos) (fun env => do if (← ft env) = true then .ok true else gt env) := by
  obtain ⟨ta, pa, qa⟩ := ha
  obtain ⟨tb, pb, qb⟩ := hb
  refine ⟨_, pw_or pa pb, fun L ow H σ env Q ho re hq => ?_⟩
  simp only [res_bind] at hq
  refine qa L ow H σ env _ ho re (hq.imp (fun d k H1 e1 => ?_) fun _ _ x => x)
  cases d with
  | false =>
    rw [if_neg Bool.false_ne_true]
    rw [if_neg Bool.false_ne_true] at k
    exact qb L ow H1 σ env _ ho (re.mono e1) (k.imp (fun d' k' H2 e2 => k' H2 (e1.trans e2)) fun _ _ x => xw_mono e1 x)
  | true =>
    rw [if_pos rfl]
    rw [if_pos rfl] at k
    exact k H1 e1

/-! ### and | or | not as values, conditional expressions -/
theorem ve_one {op} (ha : VE T E O X a f) : VE T E O X (.BoolOp op [a] pos) f := by
  obtain ⟨t, p, q⟩ := ha
  exact ⟨t, pe_one p, q⟩
theorem ve_and (hK : X.K = T.K) (ha : VE T E O X a f) (hb : VE T E O X (.BoolOp .And (b :: rest) pos) g) : VE T E O X (.BoolOp .And (a :: b :: rest) pos) (fun env => do
    let x ← f env
    if (← truP x) = true then g env else .ok x) := by
  obtain ⟨ta, pa, qa⟩ := ha
  obtain ⟨tb, pb, qb⟩ := hb
  refine ⟨_, pe_andT pa pb, fun L ow H σ env Q ho re hq => ?_⟩
  simp only [res_bind] at hq
  refine qa L ow H σ env _ ho re (hq.imp (fun d k v H1 e1 rv => ?_) fun _ _ x => x)
  cases ek : truP d with
  | ok kk =>
    rw [ek] at k
    refine ⟨kk, by rw [hK]; exact RepW.tru (L := L) (.st rv) ek, ?_⟩
    cases kk with
    | true =>
      rw [if_pos rfl]
      rw [res_ok, if_pos rfl] at k
      exact qb L ow H1 σ env _ ho (re.mono e1) (k.imp (fun d' k' v' H2 e2 r2 => k' v' H2 (e1.trans e2) r2) fun _ _ x => xw_mono e1 x)
    | false =>
      rw [if_neg Bool.false_ne_true]
      rw [res_ok, if_neg Bool.false_ne_true] at k
      exact k v H1 e1 rv
  | exc _ _ =>
    exfalso
    unfold truP at ek
    split at ek <;> cases ek
  | bad => rw [ek] at k; exact k.elim
theorem ve_or (hK : X.K = T.K) (ha : VE T E O X a f) (hb : VE T E O X (.BoolOp .Or (b :: rest) pos) g) : VE T E O X (.BoolOp .Or (a :: b :: rest) pos) (fun env => do
    let x ← f env
    if (← truP x) = true then .ok x else g env) := by
  obtain ⟨ta, pa, qa⟩ := ha
  obtain ⟨tb, pb, qb⟩ := hb
  refine ⟨_, pe_orT pa pb, fun L ow H σ env Q ho re hq => ?_⟩
  simp only [res_bind] at hq
  refine qa L ow H σ env _ ho re (hq.imp (fun d k v H1 e1 rv => ?_) fun _ _ x => x)
  cases ek : truP d with
  | ok kk =>
    rw [ek] at k
    refine ⟨kk, by rw [hK]; exact RepW.tru (L := L) (.st rv) ek, ?_⟩
    cases kk with
    | false =>
      rw [if_neg Bool.false_ne_true]
      rw [res_ok, if_neg Bool.false_ne_true] at k
      exact qb L ow H1 σ env _ ho (re.mono e1) (k.imp (fun d' k' v' H2 e2 r2 => k' v' H2 (e1.trans e2) r2) fun _ _ x => xw_mono e1 x)
    | true =>
      rw [if_pos rfl]
      rw [res_ok, if_pos rfl] at k
      exact k v H1 e1 rv
  | exc _ _ =>
    exfalso
    unfold truP at ek
    split at ek <;> cases ek
  | bad => rw [ek] at k; exact k.elim
theorem ve_not (hK : X.K = T.K) (ha : VW T E O X a f) : VE T E O X (.UnaryOp .Not a pos) (fun env => do .ok (.bool (!(← truP (← f env))))) := by
  obtain ⟨ta, pa, qa⟩ := ha
  refine ⟨_, pe_notT pa, fun L ow H σ env Q ho re hq => ?_⟩
  simp only [res_bind] at hq
  refine qa L ow H σ env _ ho re (hq.imp (fun d k v H1 e1 rv => ?_) fun _ _ x => x)
  cases ek : truP d with
  | ok kk =>
    rw [ek] at k
    exact ⟨kk, by rw [hK]; exact rv.tru ek, k _ H1 e1 (.bl _)⟩
  | exc _ _ =>
    exfalso
    unfold truP at ek
    split at ek <;> cases ek
  | bad => rw [ek] at k; exact k.elim
theorem ve_if (hc : VT T E O X c ft) (ha : VE T E O X a f) (hb : VE T E O X b g) : VE T E O X (.IfExp c a b pos) (fun env => do if (← ft env) = true then f env else g env) := by
  obtain ⟨tc, pc, qc⟩ := hc
  obtain ⟨ta, pa, qa⟩ := ha
  obtain ⟨tb, pb, qb⟩ := hb
  refine ⟨_, pe_ifExp pc pa pb, fun L ow H σ env Q ho re hq => ?_⟩
  simp only [res_bind] at hq
  refine qc L ow H σ env _ ho re (hq.imp (fun d k H1 e1 => ?_) fun _ _ x => x)
  cases d with
  | true =>
    rw [if_pos rfl]
    rw [if_pos rfl] at k
    exact qa L ow H1 σ env _ ho (re.mono e1) (k.imp (fun d' k' v' H2 e2 r2 => k' v' H2 (e1.trans e2) r2) fun _ _ x => xw_mono e1 x)
  | false =>
    rw [if_neg Bool.false_ne_true]
    rw [if_neg Bool.false_ne_true] at k
    exact qb L ow H1 σ env _ ho (re.mono e1) (k.imp (fun d' k' v' H2 e2 r2 => k' v' H2 (e1.trans e2) r2) fun _ _ x => xw_mono e1 x)

/-! ### arguments, displays -/
theorem va_nil : VA T E O X [] (fun _ => .ok []) := ⟨_, pa_nil, fun L ow H σ env Q ho re hq => hq [] H (Evl.Ex.refl H) .nil⟩
theorem va_cons (ha : VE T E O X a f) (hr : VA T E O X es fs) (hs : starEach (a :: es) X.env = (false, eval a X.env) :: starEach es X.env := by rfl) : VA T E O X (a :: es) (fun env => do
    let x ← f env
    let l ← fs env
    .ok (x :: l)) := by
  obtain ⟨ta, pa, qa⟩ := ha
  obtain ⟨tb, pb, qb⟩ := hr
  refine ⟨_, pa_cons pa pb hs, fun L ow H σ env Q ho re hq => ?_⟩
  simp only [res_bind] at hq
  refine qa L ow H σ env _ ho re (hq.imp (fun d k v H1 e1 rv => ?_) fun _ _ x => x)
  refine qb L ow H1 σ env _ ho (re.mono e1) (k.imp (fun d' k' v' H2 e2 rv' => ?_) fun _ _ x => xw_mono e1 x)
  exact k' _ H2 (e1.trans e2) (.cons (rv.mono (hid_ex e2)) rv')
def itemsP : PV → R (List PV)
  | .list x => .ok x
  | .kn x => .ok x
  | .tup x => .ok x
  | _ => .bad
theorem va_star {p : Pos} (hK : X.K = T.K) (ha : VW T E O X a f) (hr : VA T E O X es fs) (hs : starEach (.Starred a p :: es) X.env = (true, eval a X.env) :: starEach es X.env := by rfl) : VA T E O X (.Starred a p :: es) (fun env => do
    let x ← itemsP (← f env)
    let l ← fs env
    .ok (x ++ l)) := by
  obtain ⟨ta, pa, qa⟩ := ha
  obtain ⟨tb, pb, qb⟩ := hr
  refine ⟨_, StX.pa_star pa pb hs, fun L ow H σ env Q ho re hq => ?_⟩
  simp only [res_bind] at hq
  refine qa L ow H σ env _ ho re (hq.imp (fun d k v H1 e1 rv => ?_) fun _ _ x => x)
  have fin : ∀ {p : Addr} {xs : List V} {ds : List PV}, v = .ref p → (SqT X.K H1 p xs ∨ SqL X.K H1 p xs) → RepA T (hid H1 L) xs ds → Res (fs env) (fun a => Res (.ok (ds ++ a)) (fun ds => ∀ vs H', Ex H H' → RepA T (hid H' L) vs ds → Q vs H') (xw T E H)) (xw T E H) →
      ∃ p xs, v = V.ref p ∧ (SqT X.K H1 p xs ∨ SqL X.K H1 p xs) ∧ tb σ H1 fun ys H2 => Q (xs ++ ys) H2 := fun {p xs ds} ev hx rx k => by
    refine ⟨p, xs, ev, hx, qb L ow H1 σ env _ ho (re.mono e1) (k.imp (fun d' k' v' H2 e2 rv' => ?_) fun _ _ x => xw_mono e1 x)⟩
    exact k' _ H2 (e1.trans e2) ((rx.mono (hid_ex e2)).append rv')
  unfold itemsP at k
  split at k
  · obtain ⟨p, xs, rfl, h1, r1, _⟩ := rv.list
    exact fin rfl (.inr (SqL.of h1)) r1 k
  · obtain ⟨p, xs, rfl, h1, r1, _⟩ := rv.kn
    exact fin rfl (by rw [hK]; exact h1.symm) r1 k
  · obtain ⟨p, xs, rfl, h1, r1, _⟩ := rv.tup
    exact fin rfl (.inl (SqT.of h1)) r1 k
  · exact k.elim
theorem ve_tup {x1} (ha : VA T E O X es fs) : VE T E O X (.Tuple es x1 pos) (fun env => do
    let l ← fs env
    lim l.length (.ok (.tup l))) := by
  obtain ⟨ta, pa, qa⟩ := ha
  refine ⟨_, pe_tup pa, fun L ow H σ env Q ho re hq => ?_⟩
  simp only [res_bind] at hq
  refine qa L ow H σ env _ ho re (hq.imp (fun d k v H1 e1 rv => ?_) fun _ _ x => x)
  obtain ⟨z, k⟩ := res_lim k
  rw [← rv.length] at z
  exact ⟨lnS z, fun p hp => k _ _ (e1.trans (ex_upd hp)) (rep_newT (re.trk.mono e1) hp rv z)⟩
/-! ### new objects, to be own -/
/-- e gives a new object, of f's value -/
def VF (T : Tb) (E : XK) (O : List Nat) (X : Cx) (e : Expr) (f : En → R PV) : Prop := ∃ t, PE X e t ∧ ∀ L ow H σ env Q, ow.map (·.1) = O → EnvR T L ow H σ env → Res (f env) (fun d => ∀ p H', Ex H H' → H p = none → RepO T (p :: L) H' p d → Q (.ref p) H') (xw T E H) → t σ H Q
/-- an own object to be known: a dict is frozen -/
theorem RepO.rep {L : List Addr} {H0 H : Hp} {p : Addr} {d : PV} (hp : p ∉ L) (e : Ex H0 H) (h0 : H0 p = none) (r : RepO T (p :: L) H p d) : Rep T (hid H L) (.ref p) d ∨ ∃ u, H p = some u ∧ Mut (some u) ∧ ∀ od, Ex H0 (upd H p (.frz od u)) ∧ Rep T (hid (upd H p (.frz od u)) L) (.ref p) d := by
  have sub : Ex (hid H (p :: L)) (hid H L) := hid_sub fun a h => List.mem_cons_of_mem _ h
  cases r with
  | lst h r z => exact .inl (.lst (hid_some.mpr ⟨hp, h⟩) (r.mono sub) z)
  | dK h r =>
    refine .inr ⟨_, h, trivial, fun od => ⟨e.mut h0, .dK (hid_some.mpr ⟨hp, upd_same⟩) (r.mono ?_)⟩⟩
    intro b o hb
    obtain ⟨h1, h2⟩ := hid_some.mp hb
    exact hid_some.mpr ⟨fun z => h1 (List.mem_cons_of_mem _ z), by
      rw [upd_ne (fun z => h1 (by rw [z]; exact List.mem_cons_self))]
      exact h2⟩
  | dT h r => exact .inl (.dT (hid_some.mpr ⟨hp, h⟩) (r.mono sub))
/-- behind an expression its value may be frozen -/
def tFrzE (t : TE) : TE := fun σ H Q => t σ H fun x H1 => Q x H1 ∨ ∃ p u, H1 p = some u ∧ Mut (some u) ∧ ∀ od, Q x (upd H1 p (.frz od u))
theorem pe_frz {e : Expr} {t : TE} (h : PE X e t) : PE X e (tFrzE t) := by
  refine ⟨fun pins s σ H Q I hw => ?_⟩
  refine thn (h.run pins s σ H _ I hw) fun v s1 ⟨x, H1, I1, r, q⟩ => ?_
  rcases q with q | ⟨p, u, hp, mu, q⟩
  · exact ⟨x, H1, I1, r, q⟩
  · obtain ⟨od, I2⟩ := I1.lock hp mu
    exact ⟨x, _, I2, r, q od⟩
/-- behind a statement something may be frozen -/
def tFrzS (t : TS) : TS := fun D σ H => t ⟨fun σ' H' => D.nx σ' H' ∨ ∃ p u, H' p = some u ∧ Mut (some u) ∧ ∀ od, D.nx σ' (upd H' p (.frz od u)), D.rt, D.bk, D.ct⟩ σ H
theorem ps_frz {st : Stmt} {t : TS} (h : PS X st t) : PS X st (tFrzS t) := by
  refine ⟨fun pins s σ H D I hw => ?_⟩
  refine thn (h.run pins s σ H _ I hw) fun f s1 q => ?_
  cases f with
  | next =>
    obtain ⟨σ', H', I2, q⟩ := q
    rcases q with q | ⟨p, u, hp, mu, q⟩
    · exact ⟨σ', H', I2, q⟩
    · obtain ⟨od, I3⟩ := I2.lock hp mu
      exact ⟨σ', _, I3, q od⟩
  | brk => exact q
  | cont => exact q
  | ret v => exact q
/-- ahead of a block something may be frozen -/
def tFrzB (t : TS) : TS := fun D σ H => t D σ H ∨ ∃ p u, H p = some u ∧ Mut (some u) ∧ ∀ od, t D σ (upd H p (.frz od u))
theorem pss_frz {st : List Stmt} {t : TS} (h : PSs X st t) : PSs X st (tFrzB t) := by
  refine ⟨fun pins s σ H D I hw => ?_⟩
  rcases hw with hw | ⟨p, u, hp, mu, hw⟩
  · exact h.run pins s σ H D I hw
  · obtain ⟨od, I1⟩ := I.lock hp mu
    exact h.run pins s σ _ D I1 (hw od)
theorem VF.ve (h : VF T E O X e f) : VE T E O X e f := by
  obtain ⟨t, p, q⟩ := h
  refine ⟨_, pe_frz p, fun L ow H σ env Q ho re hq => q L ow H σ env _ ho re (hq.imp (fun d k p H' e hp r => ?_) fun _ _ x => x)⟩
  rcases r.rep (re.trk.new hp) e hp with r1 | ⟨u, h1, h2, h3⟩
  · exact .inl (k _ H' e r1)
  · exact .inr ⟨p, u, h1, h2, fun od => k _ _ (h3 od).1 (h3 od).2⟩
theorem vf_list (ha : VA T E O X es fs) : VF T E O X (.List es pos) (fun env => do
    let l ← fs env
    lim l.length (.ok (.list l))) := by
  obtain ⟨ta, pa, qa⟩ := ha
  refine ⟨_, pe_lst pa, fun L ow H σ env Q ho re hq => ?_⟩
  simp only [res_bind] at hq
  refine qa L ow H σ env _ ho re (hq.imp (fun d k v H1 e1 rv => ?_) fun _ _ x => x)
  obtain ⟨z, k⟩ := res_lim k
  rw [← rv.length] at z
  exact ⟨lnS z, fun p hp => k _ _ (e1.trans (ex_upd hp)) (Evl.fresh_back e1 hp) (.lst upd_same (rv.mono (hid_more (ex_upd hp) hp)) (lnS z))⟩
/-- {} -/
theorem vf_dnewK : VF T E O X (.Dict [] [] pos) (fun _ => .ok (.dict false [] [])) := ⟨_, pe_dnewK, fun L ow H σ env Q ho re hq p hp => hq _ _ (ex_upd hp) hp (.dK (kvs := []) upd_same .nil)⟩
theorem vf_dnewT : VF T E O X (.Dict [] [] pos) (fun _ => .ok (.dict true [] [])) := ⟨_, pe_dnewT, fun L ow H σ env Q ho re hq p hp => hq _ _ (ex_upd hp) hp (.dT (kvs := []) upd_same .nil)⟩
end
end VL
set_option Elab.async false
set_option linter.all false
set_option maxRecDepth 100000
set_option maxHeartbeats 2000000
set_option autoImplicit false
/-! VL6: built-in functions by plain values. -/
namespace VL
open PySem PySem.Spec L2 R

/-- a call of a value that is known with one value, with two -/
def C1 (T : Tb) (X : Cx) (fv : Value) (op : PV → R PV) : Prop := ∃ r, CallR X fv r ∧ ∀ L H x a Q x', Trk L H → RepW T L H x a → Res (op a) (KV' T L H Q) x' → r [x] H Q
def C2 (T : Tb) (X : Cx) (fv : Value) (op : PV → PV → R PV) : Prop := ∃ r, CallR X fv r ∧ ∀ L H x y a b Q x', Trk L H → RepW T L H x a → RepW T L H y b → Res (op a b) (KV' T L H Q) x' → r [x, y] H Q
section
variable {T : Tb} {E : XK} {O : List Nat} {X : Cx} {a b c e : Expr} {f g h : En → R PV} {pos p : Pos} {x : Str} {id : String} {o1 : PV → R PV} {o2 : PV → PV → R PV}
theorem ve_b1 (hc : C1 T X (.builtin id) o1) (ha : VW T E O X a f) (hv : bootBuiltins x = some (.builtin id)) (hm : X.mg x = none) (hg : Gl X x := by rfl) (hn : x ≠ "__name__" := by decide) (hdb : (x == ("__debug__" : Str)) = false := by decide)
    (he : starEach [a] X.env = (false, eval a X.env) :: starEach [] X.env := by rfl) (hpl : (backTo pos (starEach [] X.env)).any (·.1) = false := by rfl) : VE T E O X (.Call (.Name x p) [a] [] pos) (fun env => do o1 (← f env)) := by
  obtain ⟨ta, pa, qa⟩ := ha
  obtain ⟨r, pr, qr⟩ := hc
  refine ⟨_, pe_callB pr hg hm hv (pa_cons pa pa_nil he) hn hdb he hpl, fun L ow H σ env Q ho re hq => ?_⟩
  simp only [res_bind] at hq
  refine qa L ow H σ env _ ho re (hq.imp (fun d k v H1 e1 rv => ?_) fun _ _ x => x)
  exact qr L H1 v d Q _ (re.trk.mono e1) rv (k.imp (fun d2 k2 w H3 e3 rw' => k2 w H3 (e1.trans e3) rw') fun _ _ x => x)
theorem ve_t1 (hc : C1 T X (.type id) o1) (ha : VW T E O X a f) (hv : bootBuiltins x = some (.type id)) (hm : X.mg x = none) (hg : Gl X x := by rfl) (hn : x ≠ "__name__" := by decide) (hdb : (x == ("__debug__" : Str)) = false := by decide)
    (he : starEach [a] X.env = (false, eval a X.env) :: starEach [] X.env := by rfl) (hpl : (backTo pos (starEach [] X.env)).any (·.1) = false := by rfl) : VE T E O X (.Call (.Name x p) [a] [] pos) (fun env => do o1 (← f env)) := by
  obtain ⟨ta, pa, qa⟩ := ha
  obtain ⟨r, pr, qr⟩ := hc
  refine ⟨_, pe_callTy pr hg hm hv (pa_cons pa pa_nil he) hn hdb he hpl, fun L ow H σ env Q ho re hq => ?_⟩
  simp only [res_bind] at hq
  refine qa L ow H σ env _ ho re (hq.imp (fun d k v H1 e1 rv => ?_) fun _ _ x => x)
  exact qr L H1 v d Q _ (re.trk.mono e1) rv (k.imp (fun d2 k2 w H3 e3 rw' => k2 w H3 (e1.trans e3) rw') fun _ _ x => x)
theorem ve_b2 (hc : C2 T X (.builtin id) o2) (ha : VW T E O X a f) (hb : VW T E O X b g) (hv : bootBuiltins x = some (.builtin id)) (hm : X.mg x = none) (hg : Gl X x := by rfl) (hn : x ≠ "__name__" := by decide) (hdb : (x == ("__debug__" : Str)) = false := by decide)
    (he : starEach [a, b] X.env = (false, eval a X.env) :: starEach [b] X.env := by rfl) (he2 : starEach [b] X.env = (false, eval b X.env) :: starEach [] X.env := by rfl) (hpl : (backTo pos (starEach [b] X.env)).any (·.1) = false := by rfl) :
    VE T E O X (.Call (.Name x p) [a, b] [] pos) (fun env => do o2 (← f env) (← g env)) := by
  obtain ⟨ta, pa, qa⟩ := ha
  obtain ⟨tb, pb, qb⟩ := hb
  obtain ⟨r, pr, qr⟩ := hc
  refine ⟨_, pe_callB pr hg hm hv (pa_cons pa (pa_cons pb pa_nil he2) he) hn hdb he hpl, fun L ow H σ env Q ho re hq => ?_⟩
  simp only [res_bind] at hq
  refine qa L ow H σ env _ ho re (hq.imp (fun d k v H1 e1 rv => ?_) fun _ _ x => x)
  refine qb L ow H1 σ env _ ho (re.mono e1) (k.imp (fun d' k' v' H2 e2 rv' => ?_) fun _ _ x => xw_mono e1 x)
  exact qr L H2 v v' d d' Q _ (re.trk.mono (e1.trans e2)) (rv.mono e2) rv' (k'.imp (fun d2 k2 w H3 e3 rw' => k2 w H3 ((e1.trans e2).trans e3) rw') fun _ _ x => x)
end

section
variable {T : Tb} {X : Cx} {L : List Addr} {H : Hp}
/-- len of a dict, locked or not -/
theorem call_lenR {X : Cx} : CallR X (.builtin "len") (fun xs H Q => ∃ (a : Addr) (kvs : List (Key × V)), xs = [V.ref a] ∧ Rd H a (.dK kvs) ∧ Q (.int kvs.length) H) := by
  intro pins s σ H xs us Q I r h
  obtain ⟨a, kvs, rfl, e, q⟩ := h
  obtain ⟨u, rfl, rx⟩ := vals1 r
  obtain rfl : u = Value.ref a := rx
  exact d_len I e fun t s' I' => ⟨.int kvs.length, H, I', ⟨t, rfl⟩, q⟩
theorem c1_len (hK : X.K = T.K) : C1 T X (.builtin "len") lenP := by
  refine ⟨_, (call_len_seq.or call_len_str).or (call_lenR.or call_len_dT), fun L H x a Q x' t ra q => ?_⟩
  unfold lenP at q
  split at q
  · obtain ⟨z, rfl, e1, l1, s1⟩ := ra.str
    subst e1
    refine .inl (.inr ⟨z, rfl, l1, ?_⟩)
    rw [str_len]
    exact q _ _ (Evl.Ex.refl H) (.int _)
  · obtain ⟨p, xs, rfl, h1, r1, l1⟩ := ra.list
    refine .inl (.inl ⟨p, xs, rfl, .inl (SqL.of h1), ?_⟩)
    rw [r1.length]
    exact q _ _ (Evl.Ex.refl H) (.int _)
  · obtain ⟨p, xs, rfl, h1, r1, l1⟩ := ra.kn
    refine .inl (.inl ⟨p, xs, rfl, by rw [hK]; exact h1, ?_⟩)
    rw [r1.length]
    exact q _ _ (Evl.Ex.refl H) (.int _)
  · obtain ⟨p, xs, rfl, h1, r1, l1, _⟩ := ra.tup
    refine .inl (.inl ⟨p, xs, rfl, .inr (SqT.of h1), ?_⟩)
    rw [r1.length]
    exact q _ _ (Evl.Ex.refl H) (.int _)
  · rename_i t ks vs
    cases t with
    | false =>
      obtain ⟨p, kvs, rfl, h1, r1, e⟩ := ra.dictK
      subst e
      refine .inr (.inl ⟨p, kvs, rfl, h1, ?_⟩)
      rw [show (kvs.length : Int) = ((kvs.map fun e => keyP e.1).length : Int) by simp]
      exact q _ _ (Evl.Ex.refl H) (.int _)
    | true =>
      obtain ⟨p, kvs, rfl, h1, r1, e⟩ := ra.dictT
      subst e
      refine .inr (.inr ⟨p, kvs, rfl, h1, ?_⟩)
      rw [show (kvs.length : Int) = ((kvs.map fun e => PV.tup (e.1.map keyP)).length : Int) by simp]
      exact q _ _ (Evl.Ex.refl H) (.int _)
  · rename_i xs
    cases ra with
    | st ra => cases ra
  · exact q.elim
theorem c1_abs : C1 T X (.builtin "abs") absP := by
  refine ⟨_, call_abs, fun L H x a Q x' t ra q => ?_⟩
  unfold absP at q
  split at q
  · obtain rfl := ra.int
    exact ⟨_, rfl, q _ _ (Evl.Ex.refl H) (.int _)⟩
  · exact q.elim
theorem c1_int : C1 T X (.type "int") intP := by
  refine ⟨_, call_int1, fun L H x a Q x' t ra q => ?_⟩
  unfold intP at q
  split at q
  · obtain rfl := ra.int
    exact .inl ⟨_, rfl, q _ _ (Evl.Ex.refl H) (.int _)⟩
  · obtain rfl := ra.bool
    exact .inr ⟨_, rfl, q _ _ (Evl.Ex.refl H) (.int _)⟩
  · exact q.elim
theorem c2_max (hc : X.calm = true) : C2 T X (.builtin "max") max2P := by
  refine ⟨_, call_max2 hc, fun L H x y a b Q x' t ra rb q => ?_⟩
  unfold max2P at q
  split at q
  · obtain rfl := ra.int
    obtain rfl := rb.int
    exact ⟨_, _, rfl, q _ _ (Evl.Ex.refl H) (.int _)⟩
  · exact q.elim
theorem c2_min (hc : X.calm = true) : C2 T X (.builtin "min") min2P := by
  refine ⟨_, call_min2 hc, fun L H x y a b Q x' t ra rb q => ?_⟩
  unfold min2P at q
  split at q
  · obtain rfl := ra.int
    obtain rfl := rb.int
    exact ⟨_, _, rfl, q _ _ (Evl.Ex.refl H) (.int _)⟩
  · exact q.elim
theorem ints_of {Hx : Hp} : ∀ {ds : List PV} {xs : List V} {l : List Int}, intsP ds = some l → RepA T Hx xs ds → xs = l.map V.int ∧ ds = l.map PV.int
  | [], _, _, h, r => by cases r; cases h; exact ⟨rfl, rfl⟩
  | d :: ds, _, _, h, r => by
    cases d <;> first | (unfold intsP at h; cases h; done) | skip
    unfold intsP at h
    cases e : intsP ds with
    | none => rw [e] at h; cases h
    | some l' =>
      rw [e] at h
      cases h
      cases r with
      | cons r1 r2 =>
        obtain ⟨rfl, rfl⟩ := ints_of e r2
        cases r1
        exact ⟨rfl, rfl⟩
theorem bools_of {Hx : Hp} : ∀ {ds : List PV} {xs : List V} {l : List Bool}, boolsP ds = some l → RepA T Hx xs ds → xs = l.map V.bl
  | [], _, _, h, r => by cases r; cases h; rfl
  | d :: ds, _, _, h, r => by
    cases d <;> first | (unfold boolsP at h; cases h; done) | skip
    unfold boolsP at h
    cases e : boolsP ds with
    | none => rw [e] at h; cases h
    | some l' =>
      rw [e] at h
      cases h
      cases r with
      | cons r1 r2 =>
        obtain rfl := bools_of e r2
        cases r1
        rfl
theorem strs_of {Hx : Hp} : ∀ {ds : List PV} {xs : List V} {l : List (List Nat)}, strsP ds = some l → RepA T Hx xs ds → xs = l.map (fun y => V.str ⟨y.toArray⟩) ∧ (∀ y ∈ l, y.length ≤ LN ∧ sok y = true) ∧ ds = l.map PV.str
  | [], _, _, h, r => by cases r; cases h; exact ⟨rfl, fun _ h => (nomatch h), rfl⟩
  | d :: ds, _, _, h, r => by
    cases d <;> first | (unfold strsP at h; cases h; done) | skip
    unfold strsP at h
    cases e : strsP ds with
    | none => rw [e] at h; cases h
    | some l' =>
      rw [e] at h
      cases h
      cases r with
      | cons r1 r2 =>
        obtain ⟨rfl, h2, rfl⟩ := strs_of e r2
        cases r1 with
        | str z hz hs =>
          refine ⟨rfl, fun y hy => ?_, rfl⟩
          rcases List.mem_cons.mp hy with rfl | hy
          · exact ⟨by rw [← str_len]; exact snL hz, hs⟩
          · exact h2 y hy
theorem strs_rep {Hx : Hp} : ∀ {l : List (List Nat)}, (∀ y ∈ l, y.length ≤ LN ∧ sok y = true) → RepA T Hx (l.map fun y => V.str ⟨y.toArray⟩) (l.map PV.str)
  | [], _ => .nil
  | y :: l, h => .cons (rep_str' rfl (h y List.mem_cons_self).1 (h y List.mem_cons_self).2) (strs_rep fun z hz => h z (List.mem_cons_of_mem _ hz))
theorem ints_rep {Hx : Hp} : ∀ {l : List Int}, RepA T Hx (l.map V.int) (l.map PV.int)
  | [] => .nil
  | y :: l => .cons (.int y) ints_rep
theorem c1_sum (hc : X.calm = true) : C1 T X (.builtin "sum") sumP := by
  refine ⟨_, cr_sum hc, fun L H x a Q x' t ra q => ?_⟩
  unfold sumP at q
  split at q
  · split at q
    · rename_i l hl
      obtain ⟨p, xs, rfl, h1, r1, l1⟩ := ra.list
      obtain ⟨rfl, _⟩ := ints_of hl r1
      exact ⟨p, l, rfl, SqL.of h1, q _ _ (Evl.Ex.refl H) (.int _)⟩
    · exact q.elim
  · exact q.elim
theorem maxI_spec : ∀ (l : List Int) (m : Int), m ∈ l → (∀ y ∈ l, y ≤ m) → maxI l = m
  | [], _, h, _ => nomatch h
  | [i], m, h, _ => by simp at h; rw [h]; rfl
  | i :: j :: r, m, h, hm => by
    unfold maxI
    rcases List.mem_cons.mp h with rfl | h
    · have key : ∀ (l : List Int), l ≠ [] → (∀ y ∈ l, y ≤ m) → maxI l ≤ m := by
        intro l
        induction l with
        | nil => intro h; exact absurd rfl h
        | cons a l ih =>
          intro _ hl
          cases l with
          | nil => exact hl a List.mem_cons_self
          | cons b l =>
            unfold maxI
            have h1 := ih (by simp) fun y hy => hl y (List.mem_cons_of_mem _ hy)
            have h2 := hl a List.mem_cons_self
            omega
      have h1 := key (j :: r) (by simp) fun y hy => hm y (List.mem_cons_of_mem _ hy)
      omega
    · rw [maxI_spec (j :: r) m h fun y hy => hm y (List.mem_cons_of_mem _ hy)]
      have h2 := hm i List.mem_cons_self
      omega
theorem minI_spec : ∀ (l : List Int) (m : Int), m ∈ l → (∀ y ∈ l, m ≤ y) → minI l = m
  | [], _, h, _ => nomatch h
  | [i], m, h, _ => by simp at h; rw [h]; rfl
  | i :: j :: r, m, h, hm => by
    unfold minI
    rcases List.mem_cons.mp h with rfl | h
    · have key : ∀ (l : List Int), l ≠ [] → (∀ y ∈ l, m ≤ y) → m ≤ minI l := by
        intro l
        induction l with
        | nil => intro h; exact absurd rfl h
        | cons a l ih =>
          intro _ hl
          cases l with
          | nil => exact hl a List.mem_cons_self
          | cons b l =>
            unfold minI
            have h1 := ih (by simp) fun y hy => hl y (List.mem_cons_of_mem _ hy)
            have h2 := hl a List.mem_cons_self
            omega
      have h1 := key (j :: r) (by simp) fun y hy => hm y (List.mem_cons_of_mem _ hy)
      omega
    · rw [minI_spec (j :: r) m h fun y hy => hm y (List.mem_cons_of_mem _ hy)]
      have h2 := hm i List.mem_cons_self
      omega
theorem c1_max (hc : X.calm = true) : C1 T X (.builtin "max") max1P := by
  refine ⟨_, cr_max hc, fun L H x a Q x' t ra q => ?_⟩
  unfold max1P at q
  split at q
  · split at q
    · rename_i i l hl
      obtain ⟨p, xs, rfl, h1, r1, l1⟩ := ra.list
      obtain ⟨rfl, _⟩ := ints_of hl r1
      refine ⟨p, i :: l, rfl, SqL.of h1, by simp, fun m hm1 hm2 => ?_⟩
      rw [maxI_spec _ m hm1 hm2] at q
      exact q _ _ (Evl.Ex.refl H) (.int _)
    · exact q.elim
  · exact q.elim
theorem c1_min (hc : X.calm = true) : C1 T X (.builtin "min") min1P := by
  refine ⟨_, cr_min hc, fun L H x a Q x' t ra q => ?_⟩
  unfold min1P at q
  split at q
  · split at q
    · rename_i i l hl
      obtain ⟨p, xs, rfl, h1, r1, l1⟩ := ra.list
      obtain ⟨rfl, _⟩ := ints_of hl r1
      refine ⟨p, i :: l, rfl, SqL.of h1, by simp, fun m hm1 hm2 => ?_⟩
      rw [minI_spec _ m hm1 hm2] at q
      exact q _ _ (Evl.Ex.refl H) (.int _)
    · exact q.elim
  · exact q.elim
theorem c1_all (hc : X.calm = true) : C1 T X (.builtin "all") allP := by
  refine ⟨_, cr_all hc, fun L H x a Q x' t ra q => ?_⟩
  unfold allP at q
  split at q
  · split at q
    · rename_i l hl
      obtain ⟨p, xs, rfl, h1, r1, l1⟩ := ra.list
      obtain rfl := bools_of hl r1
      exact ⟨p, l, rfl, SqL.of h1, q _ _ (Evl.Ex.refl H) (.bl _)⟩
    · exact q.elim
  · exact q.elim
theorem c1_any (hc : X.calm = true) : C1 T X (.builtin "any") anyP := by
  refine ⟨_, cr_any hc, fun L H x a Q x' t ra q => ?_⟩
  unfold anyP at q
  split at q
  · split at q
    · rename_i l hl
      obtain ⟨p, xs, rfl, h1, r1, l1⟩ := ra.list
      obtain rfl := bools_of hl r1
      exact ⟨p, l, rfl, SqL.of h1, q _ _ (Evl.Ex.refl H) (.bl _)⟩
    · exact q.elim
  · exact q.elim
theorem c1_tuple (hK : X.K = T.K) : C1 T X (.type "tuple") tupleP := by
  refine ⟨_, call_tuple_of, fun L H x a Q x' t ra q => ?_⟩
  unfold tupleP at q
  split at q
  · obtain ⟨p, xs, rfl, h1, r1, l1⟩ := ra.list
    exact ⟨p, xs, rfl, .inl ⟨SqL.of h1, fun l hl => q _ _ (ex_upd hl) (rep_newT t hl r1 (snL l1))⟩⟩
  · obtain ⟨p, xs, rfl, h1, r1, l1, w1⟩ := ra.tup
    exact ⟨p, xs, rfl, .inr ⟨SqT.of h1, q _ _ (Evl.Ex.refl H) w1⟩⟩
  · exact q.elim
end
end VL
set_option Elab.async false
set_option linter.all false
set_option maxRecDepth 100000
set_option maxHeartbeats 2000000
set_option autoImplicit false
/-! VL7: defs by plain values: FnG, its rule, its call. -/
namespace VL
open PySem PySem.Spec L2 R

/-- the def at f gives F of its arguments; L: what is hidden (the callers' own objects) -/
structure FnG (T : Tb) (P : Program) (w : World) (mg : Str → Option Value) (base : Heap) (k : Nat) (f : Addr) (fd : FuncData) (ps : List Str) (F : List PV → R PV) : Prop where
  run : ∀ (A : Around) (outer : List Env) (s : Shared) (H : Hp) (L : List Addr) (args : Args) (us : List Value) (vs : List V) (ds : List PV) (Q : VK) (E : XK), Room k A → A.guards = some [] →
    Env0 P w T.K mg base A outer s H → BindsTo s fd args (ps.zip us) → Vals vs us → Trk L H → RepA T (hid H L) vs ds → ds.length = ps.length →
    Res (F ds) (fun d => ∀ v H', Ex H H' → Rep T (hid H' L) v d → Q v H') (xw T E H) → codeAny (model P w) A (.call (.ref f) args) (CR (L2N.CX P w) outer P w H s Q E) s

/-! ### statements -/
/-- where a def's run stands: H0 the heap at the entry (its hidden addresses L0), all of it kept; own objects are new; B stands, whoever knows it -/
structure Sit (T : Tb) (n : Nat) (B : Hp) (L0 : List Addr) (H0 : Hp) (O : List Nat) (L : List Addr) (ow : List (Nat × Addr)) (H : Hp) (σ : L2.St) (env : En) : Prop where
  ho : ow.map (·.1) = O
  t0 : Trk L0 H0
  sub : ∀ a ∈ L0, a ∈ L
  ex : Ex H0 H
  new : ∀ a ∈ L, a ∈ L0 ∨ H0 a = none
  no0 : ∀ p ∈ ow, p.2 ∉ L0
  re : EnvR T L ow H σ env
  len : env.length = n
  bs : Ex B (hid H L)
/-- what is known of what a def gives: the hidden addresses, the heap at the entry, the heap now, the value, what it is -/
abbrev Md := List Addr → Hp → Hp → V → PV → Prop
/-- nothing but what it is -/
def mdR (T : Tb) : Md := fun L0 _ H' v d => Rep T (hid H' L0) v d
/-- a list or a dict is new -/
def mdF (T : Tb) : Md := fun L0 H0 H' v d => match d with
  | .list _ => ∃ p, v = .ref p ∧ H0 p = none ∧ RepO T (p :: L0) H' p d
  | .dict _ _ _ => ∃ p, v = .ref p ∧ H0 p = none ∧ RepO T (p :: L0) H' p d
  | _ => Rep T (hid H' L0) v d
/-- what is wanted behind a statement -/
def AfterS {M : Md} (T : Tb) (n : Nat) (B : Hp) (L0 : List Addr) (H0 : Hp) (O' : List Nat) (D : Ends) : Fl → Prop
  | .nx env' => ∀ σ' H' L' ow', Sit T n B L0 H0 O' L' ow' H' σ' env' → D.nx σ' H'
  | .rt d => ∀ v H', Ex H0 H' → M L0 H0 H' v d → D.rt v H'
/-- a block: O, O' the slots of own objects ahead and behind -/
def VS {M : Md} (T : Tb) (E : XK) (O O' : List Nat) (X : Cx) (st : List Stmt) (f : En → R Fl) : Prop := ∃ t, PSs X st t ∧ ∀ B L0 H0 L ow H σ env D, Sit T X.N.length B L0 H0 O L ow H σ env → Res (f env) (AfterS (M := M) T X.N.length B L0 H0 O' D) (xw T E H0) → t D σ H
/-- one statement -/
def VS1 {M : Md} (T : Tb) (E : XK) (O O' : List Nat) (X : Cx) (st : Stmt) (f : En → R Fl) : Prop := ∃ t, PS X st t ∧ ∀ B L0 H0 L ow H σ env D, Sit T X.N.length B L0 H0 O L ow H σ env → Res (f env) (AfterS (M := M) T X.N.length B L0 H0 O' D) (xw T E H0) → t D σ H

/-- the slots at the entry -/
def env0 (n : Nat) (ds : List PV) : En := ds.map some ++ List.replicate (n - ds.length) none
/-- a def's value by its body -/
def runF (n : Nat) (body : En → R Fl) (ds : List PV) : R PV := do
  match (← body (env0 n ds)) with
  | .nx _ => .ok .none
  | .rt d => .ok d
theorem env0_get {n : Nat} {ds : List PV} {i : Nat} {d : PV} (h : (env0 n ds)[i]? = some (some d)) : ds[i]? = some d := by
  unfold env0 at h
  by_cases hi : i < ds.length
  · rw [List.getElem?_append_left (by simpa using hi), List.getElem?_map] at h
    cases e : ds[i]? with
    | none => rw [e] at h; cases h
    | some x => rw [e] at h; cases h; rfl
  · rw [List.getElem?_append_right (by simpa using hi), List.getElem?_replicate] at h
    split at h <;> cases h
theorem start_get {N : List Str} {vs : List V} {i : Nat} {v : V} (h : vs[i]? = some v) : (L2.start N vs)[i]? = some (some v) := by
  unfold L2.start
  have hi : i < vs.length := (List.getElem?_eq_some_iff.mp h).1
  rw [List.getElem?_append_left (by simpa using hi), List.getElem?_map, h]
  rfl
theorem Sky_guards {A : Around} {env : Env} (h : A.guards = some []) : (A.deeper env).guards = some [] := h

section
variable {T : Tb} {E : XK} {O : List Nat} {X : Cx} {k kk : Nat} {f : Addr} {fd : FuncData} {ps : List Str} {F : List PV → R PV} {x : Str} {p pos : Pos} {e : Expr} {es : List Expr} {fs : En → R (List PV)}
theorem runG {pins : List (Addr × Obj)} {σ : L2.St} {H : Hp} {s : Shared} {Q : VK} {us : List Value} {vs : List V} {ds : List PV} {L : List Addr} (G : Good T E kk X) (Fg : FnG T X.prog X.w X.mg X.base k f fd ps F) (hk : k ≤ kk) (hb : Binds X.K fd ps [])
    (I : Inv X pins σ H s) (r : Vals vs us) (trk : Trk L H) (ra : RepA T (hid H L) vs ds) (hl : ds.length = ps.length) (h : Res (F ds) (KV' T L H Q) (xw T E H)) : wpAny (model X.prog X.w) X.A (call (.ref f) us) (EP X pins σ Q) X.xe s := by
  have hul : (us ++ []).length = ps.length := by rw [List.append_nil, ← r.length, ra.length, hl]
  have hbb := hb s us I.kIn hul
  rw [List.append_nil] at hbb
  have env := I.env0
  rw [G.K] at env
  refine wpAny_call (codeAny_mono (Fg.run X.A X.stack s H L ⟨us, []⟩ us vs ds Q E (G.rm.mono hk) G.gd env hbb r trk ra hl h) fun rr s' hq => ?_)
  cases rr with
  | error e => exact L2N.passes_call G.tk (fun _ _ _ _ h => h) pins σ H s e s' I hq
  | ok fl =>
    cases fl with
    | ret u => exact I.after hq
    | next => exact hq.elim
    | brk => exact hq.elim
    | cont => exact hq.elim
/-- so many arguments -/
def VN (T : Tb) (E : XK) (O : List Nat) (X : Cx) (es : List Expr) (n : Nat) (fs : En → R (List PV)) : Prop := VA T E O X es fs ∧ ∀ env l, fs env = .ok l → l.length = n
theorem vn_nil : VN T E O X [] 0 (fun _ => .ok []) := ⟨va_nil, fun _ _ h => by cases h; rfl⟩
theorem vn_cons {a : Expr} {es : List Expr} {f : En → R PV} {fs : En → R (List PV)} {n : Nat} (ha : VE T E O X a f) (hr : VN T E O X es n fs) (hs : starEach (a :: es) X.env = (false, eval a X.env) :: starEach es X.env := by rfl) : VN T E O X (a :: es) (n + 1) (fun env => do
    let x ← f env
    let l ← fs env
    .ok (x :: l)) := by
  refine ⟨va_cons ha hr.1 hs, fun env l h => ?_⟩
  dsimp only at h
  cases e1 : f env with
  | ok d =>
    rw [e1] at h
    cases e2 : fs env with
    | ok r =>
      rw [bind_ok, e2] at h
      cases h
      rw [List.length_cons, hr.2 env r e2]
    | exc _ _ => rw [bind_ok, e2] at h; cases h
    | bad => rw [bind_ok, e2] at h; cases h
  | exc _ _ => rw [e1] at h; cases h
  | bad => rw [e1] at h; cases h
/-- f(e, ..) of a def of the module -/
theorem ve_call (G : Good T E kk X) (Fg : FnG T X.prog X.w X.mg X.base k f fd ps F) (hk : k ≤ kk) (hm : X.mg x = some (.ref f)) (hkp : PySem.W.keepIn X.K (.ref f) = true) (hb : Binds X.K fd ps []) {n : Nat} (hn : ps.length = n) (ha : VN T E O X (e :: es) n fs) (hg : Gl X x := by rfl)
    (hdb : (x == ("__debug__" : Str)) = false := by decide) (he : starEach (e :: es) X.env = (false, eval e X.env) :: starEach es X.env := by rfl) (hpl : (backTo pos (starEach es X.env)).any (·.1) = false := by rfl) :
    VE T E O X (.Call (.Name x p) (e :: es) [] pos) (fun env => do F (← fs env)) := by
  obtain ⟨⟨ta, pa, qa⟩, hfs⟩ := ha
  refine ⟨fun σ H Q => ta σ H fun vs H1 => ∃ L ds, Trk L H1 ∧ RepA T (hid H1 L) vs ds ∧ ds.length = ps.length ∧ Res (F ds) (KV' T L H1 Q) (xw T E H1), ⟨fun pins s σ H Q I h => ?_⟩, fun L ow H σ env Q ho re hq => ?_⟩
  · refine wpAny_Call_Name_kw (ld_glob I hg hm ?_ hdb)
    refine PySem.W.callWith_K (h₀ := X.base) I.ok.mod.kin hkp (thn (pa.run pos pins s σ H _ I h) fun us s1 ⟨vs, H1, I1, r, L, ds, q1, q2, q3, q4⟩ => ⟨I1.kIn, ?_⟩) he hpl
    exact runG G Fg hk hb I1 r q1 q2 q3 q4
  · simp only [res_bind] at hq
    cases efs : fs env with
    | ok l =>
      rw [efs, res_ok] at hq
      refine qa L ow H σ env _ ho re ?_
      rw [efs]
      exact fun vs H1 e1 r1 => ⟨L, l, re.trk.mono e1, r1, by rw [hn]; exact hfs env l efs, hq.imp (fun d k v H2 e2 rv => k v H2 (e1.trans e2) rv) fun _ _ x => xw_mono e1 x⟩
    | exc c d =>
      rw [efs] at hq
      refine qa L ow H σ env _ ho re ?_
      rw [efs]
      exact hq
    | bad => rw [efs] at hq; exact hq.elim
end
end VL
set_option Elab.async false
set_option linter.all false
set_option maxRecDepth 100000
set_option maxHeartbeats 2000000
set_option autoImplicit false
/-! VL8: statements by plain values. -/
namespace VL
open PySem PySem.Spec L2 R

/-! ### the slots change -/
section
variable {T : Tb} {n : Nat} {L0 L : List Addr} {B H0 H : Hp} {O : List Nat} {ow : List (Nat × Addr)} {σ : L2.St} {env : En}
def dropO (O : List Nat) (i : Nat) : List Nat := O.filter fun j => j != i
def dropW (ow : List (Nat × Addr)) (i : Nat) : List (Nat × Addr) := ow.filter fun p => p.1 != i
theorem dropW_map (ow : List (Nat × Addr)) (i : Nat) : (dropW ow i).map (·.1) = dropO (ow.map (·.1)) i := by
  unfold dropW dropO
  induction ow with
  | nil => rfl
  | cons p ow ih =>
    rw [List.filter_cons, List.map_cons, List.filter_cons]
    split
    · rw [List.map_cons, ih]
    · exact ih
theorem dropW_mem {p : Nat × Addr} {i : Nat} (h : p ∈ dropW ow i) : p ∈ ow ∧ p.1 ≠ i := by
  unfold dropW at h
  rw [List.mem_filter] at h
  exact ⟨h.1, by simpa using h.2⟩
theorem Sit.mono {H' : Hp} (S : Sit T n B L0 H0 O L ow H σ env) (e : Ex H H') : Sit T n B L0 H0 O L ow H' σ env := ⟨S.ho, S.t0, S.sub, S.ex.trans e, S.new, S.no0, S.re.mono e, S.len, S.bs.trans (hid_ex e)⟩
/-- from now on all that is not hidden stands; again as ahead -/
theorem Sit.base {H' : Hp} (S : Sit T n B L0 H0 O L ow H σ env) (e : Ex H H') : Sit T n (hid H' L) L0 H0 O L ow H' σ env := ⟨S.ho, S.t0, S.sub, S.ex.trans e, S.new, S.no0, S.re.mono e, S.len, Evl.Ex.refl _⟩
theorem Sit.bas {B' : Hp} (S : Sit T n B' L0 H0 O L ow H σ env) (h : Ex B B') : Sit T n B L0 H0 O L ow H σ env := ⟨S.ho, S.t0, S.sub, S.ex, S.new, S.no0, S.re, S.len, h.trans S.bs⟩
theorem getO {α : Type} {l : List α} {i j : Nat} {x : α} (h : j ≠ i) : (l.set i x)[j]? = l[j]? := by
  rw [List.getElem?_set_ne (Ne.symm h)]
theorem set_some {α : Type} {l : List (Option α)} {i : Nat} {x d : α} (h : (l.set i (some x))[i]? = some (some d)) : d = x := by
  by_cases hi : i < l.length
  · rw [List.getElem?_set_self hi] at h
    cases h
    rfl
  · rw [List.getElem?_eq_none (by simpa using hi)] at h
    cases h
/-- a slot holds a new value, not an own object -/
theorem EnvR.set {i : Nat} {v : V} {d : PV} (S : EnvR T L ow H σ env) (r : Rep T (hid H L) v d) : EnvR T L (dropW ow i) H (σ.set i (some v)) (env.set i (some d)) where
  len := by rw [List.length_set, List.length_set, S.len]
  fr := fun j d' h hj => by
    by_cases e : j = i
    · subst e
      obtain rfl := set_some h
      have hi : j < σ.length := by
        have h2 := (List.getElem?_eq_some_iff.mp h).1
        rw [List.length_set, S.len] at h2
        exact h2
      exact ⟨v, by rw [List.getElem?_set_self hi], r⟩
    · rw [getO e] at h
      obtain ⟨v', h1, h2⟩ := S.fr j d' h fun hm => hj (by
        rw [dropW_map]
        unfold dropO
        exact List.mem_filter.mpr ⟨hm, by simpa using e⟩)
      exact ⟨v', by rw [getO e]; exact h1, h2⟩
  own := fun j a h => by
    obtain ⟨h1, h2⟩ := dropW_mem h
    obtain ⟨q1, q2, d', q3, q4⟩ := S.own j a h1
    exact ⟨q1, by rw [getO h2]; exact q2, d', by rw [getO h2]; exact q3, q4⟩
  trk := S.trk
  nd := List.Nodup.sublist (List.Sublist.map _ List.filter_sublist) S.nd
  nd1 := List.Nodup.sublist (List.Sublist.map _ List.filter_sublist) S.nd1
/-- the same situation with other slots, fewer own ones -/
theorem Sit.slots {O' : List Nat} {ow' : List (Nat × Addr)} {σ' : L2.St} {env' : En} (S : Sit T n B L0 H0 O L ow H σ env) (ho : ow'.map (·.1) = O') (hw : ∀ p ∈ ow', p ∈ ow) (hl : env'.length = env.length) (re : EnvR T L ow' H σ' env') : Sit T n B L0 H0 O' L ow' H σ' env' :=
  ⟨ho, S.t0, S.sub, S.ex, S.new, fun p h => S.no0 p (hw p h), re, hl.trans S.len, S.bs⟩
theorem RepO.more {H' : Hp} {a p : Addr} {d : PV} (e : Ex H H') (hp : H p = none) (r : RepO T L H a d) : RepO T (p :: L) H' a d := by
  cases r with
  | lst h r z => exact .lst (e _ _ h) (r.mono (hid_more e hp)) z
  | dK h r => exact .dK (e _ _ h) (r.mono (hid_more e hp))
  | dT h r => exact .dT (e _ _ h) (r.mono (hid_more e hp))
/-- a slot holds a new own object -/
theorem Sit.own {i : Nat} {p : Addr} {d : PV} {H' : Hp} (S : Sit T n B L0 H0 O L ow H σ env) (hi : i < n) (e : Ex H H') (hp : H p = none) (r : RepO T (p :: L) H' p d) : Sit T n B L0 H0 (i :: dropO O i) (p :: L) ((i, p) :: dropW ow i) H' (σ.set i (some (.ref p))) (env.set i (some d)) where
  ho := by rw [List.map_cons, dropW_map, S.ho]
  t0 := S.t0
  sub := fun a h => List.mem_cons_of_mem _ (S.sub a h)
  ex := S.ex.trans e
  new := fun a h => by
    rcases List.mem_cons.mp h with rfl | h
    · exact .inr (Evl.fresh_back S.ex hp)
    · exact S.new a h
  no0 := fun q h => by
    rcases List.mem_cons.mp h with rfl | h
    · exact fun z => S.t0 _ z (Evl.fresh_back S.ex hp)
    · exact S.no0 q (dropW_mem h).1
  re := {
    len := by rw [List.length_set, List.length_set, S.re.len]
    fr := fun j d' h hj => by
      have ej : j ≠ i := fun z => hj (by rw [z]; exact List.mem_cons_self)
      rw [getO ej] at h
      obtain ⟨v', h1, h2⟩ := S.re.fr j d' h fun hm => hj (by
        rw [List.map_cons, dropW_map]
        refine List.mem_cons_of_mem _ ?_
        unfold dropO
        exact List.mem_filter.mpr ⟨hm, by simpa using ej⟩)
      exact ⟨v', by rw [getO ej]; exact h1, h2.mono (hid_more e hp)⟩
    own := fun j a h => by
      rcases List.mem_cons.mp h with h | h
      · cases h
        have hi' : i < env.length := by rw [S.len]; exact hi
        have hi'' : i < σ.length := by rw [← S.re.len]; exact hi'
        exact ⟨List.mem_cons_self, by rw [List.getElem?_set_self hi''], d, by rw [List.getElem?_set_self hi'], r⟩
      · obtain ⟨h1, h2⟩ := dropW_mem h
        obtain ⟨q1, q2, d', q3, q4⟩ := S.re.own j a h1
        exact ⟨List.mem_cons_of_mem _ q1, by rw [getO h2]; exact q2, d', by rw [getO h2]; exact q3, q4.more e hp⟩
    trk := fun a h => by
      rcases List.mem_cons.mp h with rfl | h
      · cases r with
        | lst h _ _ => rw [h]; exact fun z => nomatch z
        | dK h _ => rw [h]; exact fun z => nomatch z
        | dT h _ => rw [h]; exact fun z => nomatch z
      · exact S.re.trk.mono e a h
    nd := by
      rw [List.map_cons]
      refine List.nodup_cons.mpr ⟨fun hm => ?_, List.Nodup.sublist (List.Sublist.map _ List.filter_sublist) S.re.nd⟩
      obtain ⟨q, hq, e2⟩ := List.mem_map.mp hm
      obtain ⟨h1, _⟩ := dropW_mem hq
      have z := (S.re.own q.1 q.2 h1).1
      exact S.re.trk q.2 z (by rw [e2]; exact hp)
    nd1 := by
      rw [List.map_cons]
      refine List.nodup_cons.mpr ⟨fun hm => ?_, List.Nodup.sublist (List.Sublist.map _ List.filter_sublist) S.re.nd1⟩
      obtain ⟨q, hq, e2⟩ := List.mem_map.mp hm
      exact (dropW_mem hq).2 e2 }
  len := by rw [List.length_set, S.len]
  bs := S.bs.trans (hid_more e hp)
theorem nodup_fst {l : List (Nat × Addr)} (h : (l.map (·.1)).Nodup) {i : Nat} {a b : Addr} (ha : (i, a) ∈ l) (hb : (i, b) ∈ l) : a = b := by
  induction l with
  | nil => exact nomatch ha
  | cons p l ih =>
    rw [List.map_cons, List.nodup_cons] at h
    rcases List.mem_cons.mp ha with ha1 | ha1 <;> rcases List.mem_cons.mp hb with hb1 | hb1
    · rw [← ha1] at hb1; cases hb1; rfl
    · rw [← ha1] at h; exact (h.1 (List.mem_map.mpr ⟨_, hb1, rfl⟩)).elim
    · rw [← hb1] at h; exact (h.1 (List.mem_map.mpr ⟨_, ha1, rfl⟩)).elim
    · exact ih h.2 ha1 hb1
theorem nodup_snd {l : List (Nat × Addr)} (h : (l.map (·.2)).Nodup) {i j : Nat} {a : Addr} (ha : (i, a) ∈ l) (hb : (j, a) ∈ l) : i = j := by
  induction l with
  | nil => exact nomatch ha
  | cons p l ih =>
    rw [List.map_cons, List.nodup_cons] at h
    rcases List.mem_cons.mp ha with ha1 | ha1 <;> rcases List.mem_cons.mp hb with hb1 | hb1
    · rw [← ha1] at hb1; cases hb1; rfl
    · rw [← ha1] at h; exact (h.1 (List.mem_map.mpr ⟨_, hb1, rfl⟩)).elim
    · rw [← hb1] at h; exact (h.1 (List.mem_map.mpr ⟨_, ha1, rfl⟩)).elim
    · exact ih h.2 ha1 hb1
/-- an own object is changed -/
theorem Sit.chg {i : Nat} {a : Addr} {o : HO} {d : PV} (S : Sit T n B L0 H0 O L ow H σ env) (hi : (i, a) ∈ ow) (r : RepO T L (upd H a o) a d) : Sit T n B L0 H0 O L ow (upd H a o) σ (env.set i (some d)) := by
  have haL := (S.re.own i a hi).1
  have he := hid_upd (H := H) (o := o) haL
  have ha0 : H0 a = none := by
    rcases S.new a haL with z | z
    · exact absurd z (S.no0 _ hi)
    · exact z
  refine ⟨S.ho, S.t0, S.sub, fun b u hb => ?_, S.new, S.no0, ⟨by rw [List.length_set, S.re.len], fun j d' h hj => ?_, fun j b hb => ?_, fun b hb => ?_, S.re.nd, S.re.nd1⟩, by rw [List.length_set, S.len], by rw [he]; exact S.bs⟩
  · rw [upd_ne (ne_of_none hb ha0)]
    exact S.ex b u hb
  · have ej : j ≠ i := fun z => hj (List.mem_map.mpr ⟨(i, a), hi, z.symm⟩)
    rw [getO ej] at h
    rw [he]
    exact S.re.fr j d' h hj
  · by_cases ej : j = i
    · subst ej
      obtain rfl := nodup_fst S.re.nd1 hi hb
      have hlt : j < env.length := by
        obtain ⟨_, _, d', h3, _⟩ := S.re.own j a hi
        exact (List.getElem?_eq_some_iff.mp h3).1
      exact ⟨haL, (S.re.own j a hi).2.1, d, by rw [List.getElem?_set_self hlt], r⟩
    · obtain ⟨q1, q2, d', q3, q4⟩ := S.re.own j b hb
      have eb : b ≠ a := fun z => ej (nodup_snd S.re.nd (by rw [← z]; exact hb) hi)
      refine ⟨q1, q2, d', by rw [getO ej]; exact q3, ?_⟩
      cases q4 with
      | lst h r z => exact .lst (by rw [upd_ne eb]; exact h) (by rw [he]; exact r) z
      | dK h r => exact .dK (by rw [upd_ne eb]; exact h) (by rw [he]; exact r)
      | dT h r => exact .dT (by rw [upd_ne eb]; exact h) (by rw [he]; exact r)
  · by_cases eb : b = a
    · rw [eb, upd_same]
      exact fun z => nomatch z
    · rw [upd_ne eb]
      exact S.re.trk b hb
/-- an own object may be known to others from now on -/
theorem Sit.frzG {i : Nat} {a : Addr} {d : PV} {H2 : Hp} (S : Sit T n B L0 H0 O L ow H σ env) (hm : (i, a) ∈ ow) (hd : env[i]? = some (some d)) (h2 : ∀ b, b ≠ a → H2 b = H b) (r : Rep T (hid H2 (L.filter fun b => b != a)) (.ref a) d) :
    Sit T n B L0 H0 (dropO O i) (L.filter fun b => b != a) (dropW ow i) H2 σ env := by
  obtain ⟨haL, hσ, _, _, _⟩ := S.re.own i a hm
  have sub : ∀ b ∈ L.filter (fun b => b != a), b ∈ L := fun b hb => (List.mem_filter.mp hb).1
  have na : a ∉ L.filter (fun b => b != a) := fun h => by simpa using (List.mem_filter.mp h).2
  have lift : ∀ {b : Addr}, b ∈ L → b ≠ a → b ∈ L.filter (fun b => b != a) := fun {b} hb hn => List.mem_filter.mpr ⟨hb, by simpa using hn⟩
  have ex : Ex (hid H L) (hid H2 (L.filter fun b => b != a)) := fun b o hb => by
    obtain ⟨q1, q2⟩ := hid_some.mp hb
    exact hid_some.mpr ⟨fun z => q1 (sub b z), by rw [h2 b (fun z => q1 (by rw [z]; exact haL))]; exact q2⟩
  have h0a : H0 a = none := (S.new a haL).elim (fun z => absurd z (S.no0 _ hm)) id
  refine ⟨by rw [dropW_map, S.ho], S.t0, fun b hb => lift (S.sub b hb) (fun z => S.no0 _ hm (by rw [← z]; exact hb)), fun b o hb => by rw [h2 b (ne_of_none hb h0a)]; exact S.ex b o hb, fun b hb => S.new b (sub b hb), fun p hp => S.no0 p (dropW_mem hp).1,
    ⟨S.re.len, fun k d' h hk => ?_, fun k b hb => ?_, fun b hb => by rw [h2 b (fun z => by subst z; exact na hb)]; exact S.re.trk b (sub b hb), List.Nodup.sublist (List.Sublist.map _ List.filter_sublist) S.re.nd, List.Nodup.sublist (List.Sublist.map _ List.filter_sublist) S.re.nd1⟩, S.len, S.bs.trans ex⟩
  · by_cases ek : k = i
    · subst ek
      rw [hd] at h
      cases h
      exact ⟨_, hσ, r⟩
    · obtain ⟨v, h1, h2⟩ := S.re.fr k d' h fun hm' => hk (by
        rw [dropW_map]
        unfold dropO
        exact List.mem_filter.mpr ⟨hm', by simpa using ek⟩)
      exact ⟨v, h1, h2.mono ex⟩
  · obtain ⟨h1, h3⟩ := dropW_mem hb
    obtain ⟨q1, q2, d', q3, q4⟩ := S.re.own k b h1
    have eb : b ≠ a := fun z => h3 (nodup_snd S.re.nd (by rw [← z]; exact h1) hm)
    refine ⟨lift q1 eb, q2, d', q3, ?_⟩
    cases q4 with
    | lst h r z => exact .lst (by rw [h2 b eb]; exact h) (r.mono ex) z
    | dK h r => exact .dK (by rw [h2 b eb]; exact h) (r.mono ex)
    | dT h r => exact .dT (by rw [h2 b eb]; exact h) (r.mono ex)
/-- the own object in the i-th slot is known from now on; a dict is frozen -/
theorem Sit.frz {i : Nat} (S : Sit T n B L0 H0 O L ow H σ env) (hi : i ∈ O) : ∃ a, Sit T n B L0 H0 (dropO O i) (L.filter fun b => b != a) (dropW ow i) H σ env ∨ ∃ u, H a = some u ∧ Mut (some u) ∧ ∀ od, Sit T n B L0 H0 (dropO O i) (L.filter fun b => b != a) (dropW ow i) (upd H a (.frz od u)) σ env := by
  rw [← S.ho] at hi
  obtain ⟨⟨j, a⟩, hm, rfl⟩ := List.mem_map.mp hi
  obtain ⟨haL, hσ, d, hd, hr⟩ := S.re.own j a hm
  have sub : ∀ b ∈ L.filter (fun b => b != a), b ∈ L := fun b hb => (List.mem_filter.mp hb).1
  have na : a ∉ L.filter (fun b => b != a) := fun h => by simpa using (List.mem_filter.mp h).2
  have ex := hid_sub (H := H) sub
  refine ⟨a, ?_⟩
  cases hr with
  | lst h r z => exact .inl (S.frzG hm hd (fun _ _ => rfl) (.lst (hid_some.mpr ⟨na, h⟩) (r.mono ex) z))
  | dK h r =>
    refine .inr ⟨_, h, trivial, fun od => S.frzG hm hd (fun b hb => upd_ne hb) (.dK (hid_some.mpr ⟨na, upd_same⟩) (r.mono ?_))⟩
    intro b o hb
    obtain ⟨q1, q2⟩ := hid_some.mp hb
    exact hid_some.mpr ⟨fun z => q1 (sub b z), by rw [upd_ne (fun z => q1 (by rw [z]; exact haL))]; exact q2⟩
  | dT h r => exact .inl (S.frzG hm hd (fun _ _ => rfl) (.dT (hid_some.mpr ⟨na, h⟩) (r.mono ex)))
end
end VL
set_option Elab.async false
set_option linter.all false
set_option maxRecDepth 100000
set_option maxHeartbeats 2000000
set_option autoImplicit false
/-! VL9: statements by plain values. -/
namespace VL
open PySem PySem.Spec L2 R

def seqF (f g : En → R Fl) (env : En) : R Fl := do
  match (← f env) with
  | .nx e => g e
  | .rt d => .ok (.rt d)
section
variable {M : Md} {T : Tb} {E : XK} {O O1 O2 : List Nat} {X : Cx} {a b e : Expr} {es : List Expr} {st : Stmt} {ss rest : List Stmt} {f g : En → R PV} {ft : En → R Bool} {fs gs : En → R Fl} {pos pos' : Pos} {x : Str}

theorem vs_nil : VS (M := M) T E O O X [] (fun env => .ok (.nx env)) := ⟨_, pss_nil, fun B L0 H0 L ow H σ env D S h => h σ H L ow S⟩
theorem vs_cons (h1 : VS1 (M := M) T E O O1 X st fs) (h2 : VS (M := M) T E O1 O2 X rest gs) : VS (M := M) T E O O2 X (st :: rest) (seqF fs gs) := by
  obtain ⟨t, p1, q1⟩ := h1
  obtain ⟨u, p2, q2⟩ := h2
  refine ⟨_, pss_cons p1 p2, fun B L0 H0 L ow H σ env D S h => ?_⟩
  unfold seqF at h
  rw [res_bind] at h
  refine q1 B L0 H0 L ow H σ env { D with nx := u D } S (h.imp (fun fl k => ?_) fun _ _ x => x)
  cases fl with
  | nx e => exact fun σ' H' L' ow' S' => q2 B L0 H0 L' ow' H' σ' e D S' k
  | rt d => exact k
theorem vs_one (h1 : VS1 (M := M) T E O O1 X st fs) : VS (M := M) T E O O1 X [st] fs := by
  obtain ⟨t, p1, q1⟩ := h1
  exact ⟨_, pss_one p1, q1⟩
theorem dropO_no {O : List Nat} {i : Nat} (h : O.contains i = false) : dropO O i = O := by
  unfold dropO
  refine List.filter_eq_self.mpr fun j hj => ?_
  have : j ≠ i := fun z => by
    subst z
    have : O.contains j = true := by simpa using hj
    rw [h] at this
    cases this
  simpa using this
/-- from here on the object in the i-th slot may be known to others -/
theorem vs_frz (i : Nat) (hi : O.contains i = true) (h : VS (M := M) T E O1 O2 X ss fs) (hO : dropO O i = O1 := by rfl) : VS (M := M) T E O O2 X ss fs := by
  subst hO
  obtain ⟨t, p, q⟩ := h
  refine ⟨_, pss_frz p, fun B L0 H0 L ow H σ env D S k => ?_⟩
  obtain ⟨a, S' | ⟨u, h1, h2, S'⟩⟩ := S.frz (i := i) (by simpa using hi)
  · exact .inl (q B L0 H0 _ _ H σ env D S' k)
  · exact .inr ⟨a, u, h1, h2, fun od => q B L0 H0 _ _ _ σ env D (S' od) k⟩
theorem vs_ret (ha : VE T E O X e f) : VS1 (M := mdR T) T E O O1 X (.Return (some e) pos) (fun env => do .ok (.rt (← f env))) := by
  obtain ⟨t, p, q⟩ := ha
  refine ⟨_, ps_ret p, fun B L0 H0 L ow H σ env D S h => ?_⟩
  simp only [res_bind] at h
  refine q L ow H σ env D.rt S.ho S.re (h.imp (fun d k v H' e r => ?_) fun _ _ x => xw_mono S.ex x)
  exact k v H' (S.ex.trans e) (r.mono (hid_sub S.sub))
theorem vs_retN : VS1 (M := mdR T) T E O O1 X (.Return none pos) (fun _ => .ok (.rt .none)) := ⟨_, ps_retN, fun B L0 H0 L ow H σ env D S h => h .non H S.ex .non⟩
theorem vs_expr (ha : VW T E O X e f) (hs : swapsWith e none pos.line X.env = pure false := by rfl) : VS1 (M := M) T E O O X (.Expr e pos) (fun env => do
    let _ ← f env
    .ok (.nx env)) := by
  obtain ⟨t, p, q⟩ := ha
  refine ⟨_, ps_expr p hs, fun B L0 H0 L ow H σ env D S h => ?_⟩
  simp only [res_bind] at h
  exact q L ow H σ env _ S.ho S.re (h.imp (fun d k v H' e r => k σ H' L ow (S.mono e)) fun _ _ x => xw_mono S.ex x)
theorem vs_set (i : Nat) (ha : VE T E O X e f) (hN : X.N.Nodup) (hO : dropO O i = O1 := by rfl) (hi : X.N[i]? = some x := by rfl) (hx : Loc X.env.scope x := by first | exact Or.inl rfl | exact Or.inr rfl) (hs : swapsWith e (some (.Name x pos')) pos.line X.env = pure false := by rfl)
    (hf : X.fn x = true ∨ X.env.scope.names.lookup x = some .local := by first | exact .inl rfl | exact .inr rfl | assumption) : VS1 (M := M) T E O O1 X (.Assign [.Name x pos'] e pos) (fun env => do
    let d ← f env
    .ok (.nx (env.set i (some d)))) := by
  subst hO
  obtain ⟨t, p, q⟩ := ha
  refine ⟨_, ps_set hN hi hx p hs hf, fun B L0 H0 L ow H σ env D S h => ?_⟩
  simp only [res_bind] at h
  refine q L ow H σ env _ S.ho S.re (h.imp (fun d k v H' e r => ?_) fun _ _ x => xw_mono S.ex x)
  have S' := S.mono e
  refine k _ H' L _ (S'.slots (by rw [dropW_map, S.ho]) (fun p h => (dropW_mem h).1) (by rw [List.length_set]) (S'.re.set r))
theorem vs_own (i : Nat) (ha : VF T E O X e f) (hN : X.N.Nodup) (hO : i :: dropO O i = O1 := by rfl) (hi : X.N[i]? = some x := by rfl) (hx : Loc X.env.scope x := by first | exact Or.inl rfl | exact Or.inr rfl) (hs : swapsWith e (some (.Name x pos')) pos.line X.env = pure false := by rfl)
    (hf : X.fn x = true ∨ X.env.scope.names.lookup x = some .local := by first | exact .inl rfl | exact .inr rfl | assumption) : VS1 (M := M) T E O O1 X (.Assign [.Name x pos'] e pos) (fun env => do
    let d ← f env
    .ok (.nx (env.set i (some d)))) := by
  subst hO
  obtain ⟨t, p, q⟩ := ha
  refine ⟨_, ps_set hN hi hx p hs hf, fun B L0 H0 L ow H σ env D S h => ?_⟩
  simp only [res_bind] at h
  refine q L ow H σ env _ S.ho S.re (h.imp (fun d k v H' e hp r => ?_) fun _ _ x => xw_mono S.ex x)
  exact k _ H' _ _ (S.own (List.getElem?_eq_some_iff.mp hi).1 e hp r)
/-- y = [.. for ..]: the name is stored within the comprehension's frame -/
theorem vs_if (hc : VT T E O X a ft) (ha : VS (M := M) T E O O1 X ss fs) (hb : VS (M := M) T E O O1 X rest gs) : VS1 (M := M) T E O O1 X (.If a ss rest pos) (fun env => do if (← ft env) = true then fs env else gs env) := by
  obtain ⟨tc, pc, qc⟩ := hc
  obtain ⟨ta, pa, qa⟩ := ha
  obtain ⟨tb, pb, qb⟩ := hb
  refine ⟨_, ps_if pc pa pb, fun B L0 H0 L ow H σ env D S h => ?_⟩
  simp only [res_bind] at h
  refine qc L ow H σ env _ S.ho S.re (h.imp (fun d k H1 e1 => ?_) fun _ _ x => xw_mono S.ex x)
  cases d with
  | true =>
    rw [if_pos rfl]
    rw [if_pos rfl] at k
    exact qa B L0 H0 L ow H1 σ env D (S.mono e1) k
  | false =>
    rw [if_neg Bool.false_ne_true]
    rw [if_neg Bool.false_ne_true] at k
    exact qb B L0 H0 L ow H1 σ env D (S.mono e1) k

/-! ### own objects changed -/
/-- x.append(e) -/
theorem vs_app (i : Nat) (hi : O.contains i = true) {apos npos : Pos} (hK : X.K = T.K) (ha : VE T E O X e f) (hN : X.N[i]? = some x := by rfl) (hv : Vis X.env.scope x := by first | exact Or.inl rfl | exact Or.inr (Or.inl rfl) | exact Or.inr (Or.inr rfl))
    (hd : (x == ("__debug__" : Str)) = false := by decide) (hcd : (x == ("__classdict__" : Str)) = false := by decide)
    (hbase : attributeBase (.Name x npos) "append" X.env (eval (.Name x npos) X.env) = eval (.Name x npos) X.env := by rfl)
    (hfew : ((backTo pos (starEach [e] X.env)).all (fun x => !x.1) && (backToKw pos (keywordEach [] X.env)).all (fun x => x.1.isSome)
      && decide (([e] : List Expr).length + ([] : List Keyword).length + (if ([] : List Keyword).isEmpty then 0 else 1) < 30)) = true := by rfl)
    (hline : (apos.endLine == pos.line) = true := by rfl) (hs : starEach [e] X.env = (false, eval e X.env) :: starEach [] X.env := by rfl) (hplain : (backTo pos (starEach [] X.env)).any (·.1) = false := by rfl)
    (hsw : swapsWith (.Call (.Attribute (.Name x npos) "append" apos) [e] [] pos) none pos'.line X.env = pure false := by rfl) :
    VS1 (M := M) T E O O X (.Expr (.Call (.Attribute (.Name x npos) "append" apos) [e] [] pos) pos') (fun env => do
      let ds ← ownL (← getE env i)
      let v ← f env
      lim (ds.length + 1) (.ok (.nx (env.set i (some (.list (ds ++ [v]))))))) := by
  obtain ⟨t, p, q⟩ := ha
  refine ⟨_, ps_expr (pe_bm PySem.F.plainAttrs_list PySem.F.slot_list_append PySem.F.type_list_append mt_append (pe_var hN hv hd hcd) (pa_cons p pa_nil hs) hbase hfew hline hs hplain) hsw, fun B L0 H0 L ow H σ env D S h => ?_⟩
  simp only [res_bind] at h
  have hmi : i ∈ ow.map (·.1) := by rw [S.ho]; simpa using hi
  obtain ⟨⟨j, a⟩, hm, rfl⟩ := List.mem_map.mp hmi
  obtain ⟨haL, hσ, d0, hd0, r0⟩ := S.re.own j a hm
  have hg : getE env j = .ok d0 := by unfold getE; rw [hd0]
  refine ⟨_, hσ, ?_⟩
  dsimp only at h
  rw [hg, res_ok] at h
  cases r0 with
  | @lst xs ds hl rl zl =>
    refine ⟨.inl ⟨rfl, xs, SqL.of hl⟩, q L ow H σ env _ S.ho S.re (Res.imp (show Res (f env) _ _ from h) (fun d k v H1 e1 r => ?_) fun _ _ x => xw_mono S.ex x)⟩
    obtain ⟨z, k⟩ := res_lim k
    have hl1 := e1 _ _ hl
    refine ⟨a, xs, v, rfl, rfl, hl1, ?_, ?_⟩
    · rw [rl.length, sizeLine_eq]
      exact z
    · have S1 := S.mono e1
      refine k _ _ L ow (S1.chg hm (.lst upd_same ?_ ?_))
      · rw [hid_upd haL]
        exact (rl.mono (hid_ex e1)).append (.one r)
      · rw [List.length_append, rl.length]
        exact lnS z
  | dK _ _ => exact h.elim
  | dT _ _ => exact h.elim
end
end VL
set_option Elab.async false
set_option linter.all false
set_option maxRecDepth 100000
set_option maxHeartbeats 2000000
set_option autoImplicit false
/-! VL10: stores into dicts, targets, loops. -/
namespace VL
open PySem PySem.Spec L2 R

/-! ### d[k] = v -/
section
variable {T : Tb} {L : List Addr} {H : Hp}
theorem putVs_map : ∀ {κ : Type} (P : κ → PV) (k : PV) (c : κ → Bool) (hc : ∀ e, eqB (P e) k = c e) (kvs : List (κ × V)) (vs : List PV) (v : V) (d : PV), RepA T H (kvs.map (·.2)) vs → Rep T H v d →
    RepA T H ((kvs.map fun kv => if c kv.1 = true then (kv.1, v) else kv).map (·.2)) (putVs k d (kvs.map fun e => P e.1) vs)
  | _, P, k, c, hc, [], _, v, d, r, rv => by cases r; exact .nil
  | _, P, k, c, hc, e :: kvs, _, v, d, r, rv => by
    cases r with
    | cons r1 r2 =>
      simp only [List.map_cons, putVs]
      rw [hc]
      cases c e.1 with
      | true => exact .cons rv (putVs_map P k c hc kvs _ v d r2 rv)
      | false => exact .cons r1 (putVs_map P k c hc kvs _ v d r2 rv)
theorem put_keys {κ : Type} (c : κ → Bool) (kvs : List (κ × V)) (v : V) : (kvs.map fun kv => if c kv.1 = true then (kv.1, v) else kv).map (·.1) = kvs.map (·.1) := by
  induction kvs with
  | nil => rfl
  | cons e kvs ih =>
    simp only [List.map_cons]
    rw [ih]
    cases c e.1 <;> rfl
theorem put_rep {κ : Type} [DecidableEq κ] (P : κ → PV) (q : κ) (k : PV) (hc : ∀ z, eqB (P z) k = decide (z = q)) (kvs : List (κ × V)) (vs : List PV) (v : V) (d : PV) (hP : P q = k) (r : RepA T H (kvs.map (·.2)) vs) (rv : Rep T H v d) :
    RepA T H ((putK kvs q v).map (·.2)) (if ((kvs.map fun e => P e.1).any fun z => eqB z k) = true then putVs k d (kvs.map fun e => P e.1) vs else vs ++ [d]) ∧
    ((putK kvs q v).map fun e => P e.1) = if ((kvs.map fun e => P e.1).any fun z => eqB z k) = true then kvs.map fun e => P e.1 else (kvs.map fun e => P e.1) ++ [k] := by
  have hany : ((kvs.map fun e => P e.1).any fun z => eqB z k) = kvs.any fun kv => decide (kv.1 = q) := by
    rw [List.any_map]
    congr 1
    funext e
    exact hc e.1
  rw [hany]
  unfold putK
  split
  · rename_i hin
    have e1 : (kvs.map fun kv => if kv.1 = q then (kv.1, v) else kv) = kvs.map fun kv => if decide (kv.1 = q) = true then (kv.1, v) else kv := by
      congr 1
      funext kv
      simp
    rw [e1]
    refine ⟨putVs_map P k (fun z => decide (z = q)) hc kvs vs v d r rv, ?_⟩
    have := congrArg (List.map P) (put_keys (fun z => decide (z = q)) kvs v)
    simpa [List.map_map, Function.comp_def] using this
  · rw [List.map_append, List.map_append, List.map_cons, List.map_nil, List.map_cons, List.map_nil, hP]
    exact ⟨r.append (.one rv), rfl⟩
theorem dput_of {t : Bool} {ks vs : List PV} {k d : PV} {w v : V} {a : Addr} {x : Nat → PV → Prop} {K : PV → Prop} (h : RepO T L H a (.dict t ks vs)) (haL : a ∈ L) (hw : RepW T L H w k) (rv : Rep T (hid H L) v d) (hq : Res (putP (.dict t ks vs) k d) K x) :
    ∃ o d', K d' ∧ DPut H a w v (upd H a o) ∧ RepO T L (upd H a o) a d' := by
  unfold putP at hq
  dsimp only at hq
  split at hq
  · rename_i hk
    obtain ⟨z, hq⟩ := res_lim hq
    cases h with
    | @dK kvs vs' ha ra =>
      rw [List.length_map] at z
      have hb : keyB k = true := by cases k <;> simp_all [dkOk, keyB]
      have e := hw.key hb
      subst e
      obtain ⟨r2, e2⟩ := put_rep keyP (keyOf k) k (fun z => eqB_key z k hb) kvs vs v d (keyP_of hb) ra rv
      rw [← hid_upd (H := H) (o := .dK (putK kvs (keyOf k) v)) haL] at r2
      have r3 := RepO.dK (T := T) (L := L) upd_same r2
      rw [e2] at r3
      refine ⟨.dK (putK kvs (keyOf k) v), _, ?_, DPut.k ha (by rw [sizeLine_eq]; exact z), r3⟩
      split at hq
      · rename_i hin
        rw [if_pos hin, if_pos hin]
        exact hq
      · rename_i hin
        rw [if_neg hin, if_neg hin]
        exact hq
    | @dT kvs vs' ha ra =>
      rw [List.length_map] at z
      obtain ⟨xs, rfl⟩ : ∃ xs, k = .tup xs := by cases k <;> first | exact ⟨_, rfl⟩ | cases hk
      have hb : xs.all keyB = true := by simpa [dkOk] using hk
      obtain ⟨b, zs, rfl, hb2, rb, _, _⟩ := hw.tup
      have e := keys_back hb rb
      subst e
      have hP : (PV.tup ((xs.map keyOf).map keyP)) = .tup xs := by
        rw [List.map_map]
        congr 1
        rw [List.all_eq_true] at hb
        conv => rhs; rw [← List.map_id xs]
        exact List.map_congr_left fun d hd => keyP_of (hb d hd)
      have hc : ∀ z : List Key, eqB (.tup (z.map keyP)) (.tup xs) = decide (z = xs.map keyOf) := fun z => by
        unfold eqB
        rw [eqBs_keys _ _ hb]
      obtain ⟨r2, e2⟩ := put_rep (fun e : List Key => PV.tup (e.map keyP)) (xs.map keyOf) (.tup xs) hc kvs vs v d hP ra rv
      rw [← hid_upd (H := H) (o := .dT (putK kvs (xs.map keyOf) v)) haL] at r2
      have r3 := RepO.dT (T := T) (L := L) upd_same r2
      rw [e2] at r3
      refine ⟨.dT (putK kvs (xs.map keyOf) v), _, ?_, DPut.t ha hb2 (by rw [sizeLine_eq]; exact z), r3⟩
      split at hq
      · rename_i hin
        rw [if_pos hin, if_pos hin]
        exact hq
      · rename_i hin
        rw [if_neg hin, if_neg hin]
        exact hq
  · exact hq.elim
end
section
variable {M : Md} {T : Tb} {E : XK} {O O1 O2 : List Nat} {X : Cx} {a b e : Expr} {es : List Expr} {st : Stmt} {ss rest : List Stmt} {f g : En → R PV} {ft : En → R Bool} {fs gs : En → R Fl} {pos pos' : Pos} {x : Str}
/-- the own dict -/
def ownD : PV → R PV
  | .dict t ks vs => .ok (.dict t ks vs)
  | _ => .bad
/-- d[k] = v, d an own dict -/
theorem vs_dput (i : Nat) (hi : O.contains i = true) {npos : Pos} (hu : X.A.units + 1 < cLine) (hk : VW T E O X a g) (ha : VE T E O X e f) (hN : X.N[i]? = some x := by rfl) (hv : Vis X.env.scope x := by first | exact Or.inl rfl | exact Or.inr (Or.inl rfl) | exact Or.inr (Or.inr rfl))
    (hd : (x == ("__debug__" : Str)) = false := by decide) (hcd : (x == ("__classdict__" : Str)) = false := by decide) (hs : swapsWith e (some (.Subscript (.Name x npos) a pos')) pos.line X.env = pure false := by rfl) :
    VS1 (M := M) T E O O X (.Assign [.Subscript (.Name x npos) a pos'] e pos) (fun env => do
      let v ← f env
      let d ← ownD (← getE env i)
      let k ← g env
      let d' ← putP d k v
      .ok (.nx (env.set i (some d')))) := by
  obtain ⟨t, p, q⟩ := ha
  obtain ⟨tk, pk, qk⟩ := hk
  refine ⟨_, ps_dput hu (pe_var hN hv hd hcd) pk p hs, fun B L0 H0 L ow H σ env D S h => ?_⟩
  simp only [res_bind] at h
  have hmi : i ∈ ow.map (·.1) := by rw [S.ho]; simpa using hi
  obtain ⟨⟨j, a⟩, hm, rfl⟩ := List.mem_map.mp hmi
  dsimp only at h
  refine q L ow H σ env _ S.ho S.re (h.imp (fun d k v H1 e1 r => ?_) fun _ _ x => xw_mono S.ex x)
  have S1 := S.mono e1
  obtain ⟨haL, hσ, d0, hd0, r0⟩ := S1.re.own j a hm
  have hg : getE env j = .ok d0 := by unfold getE; rw [hd0]
  rw [hg, res_ok] at k
  refine ⟨_, hσ, ?_⟩
  cases d0 with
  | dict tt ks vs =>
    refine qk L ow H1 σ env _ S1.ho S1.re (Res.imp (show Res (g env) _ _ from k) (fun dk k2 w H2 e2 rw' => ?_) fun _ _ x => xw_mono S1.ex x)
    obtain ⟨o, d', k3, hp, r3⟩ := dput_of (r0.mono e2) haL rw' (r.mono (hid_ex e2)) k2
    exact ⟨a, _, rfl, hp, k3 _ _ L ow ((S1.mono e2).chg hm r3)⟩
  | _ => exact k.elim
/-- x.extend(e), x an own list -/
theorem vs_ext (i : Nat) (hi : O.contains i = true) {apos npos : Pos} (ha : VE T E O X e f) (hN : X.N[i]? = some x := by rfl) (hv : Vis X.env.scope x := by first | exact Or.inl rfl | exact Or.inr (Or.inl rfl) | exact Or.inr (Or.inr rfl))
    (hd : (x == ("__debug__" : Str)) = false := by decide) (hcd : (x == ("__classdict__" : Str)) = false := by decide)
    (hbase : attributeBase (.Name x npos) "extend" X.env (eval (.Name x npos) X.env) = eval (.Name x npos) X.env := by rfl)
    (hfew : ((backTo pos (starEach [e] X.env)).all (fun x => !x.1) && (backToKw pos (keywordEach [] X.env)).all (fun x => x.1.isSome)
      && decide (([e] : List Expr).length + ([] : List Keyword).length + (if ([] : List Keyword).isEmpty then 0 else 1) < 30)) = true := by rfl)
    (hline : (apos.endLine == pos.line) = true := by rfl) (hs : starEach [e] X.env = (false, eval e X.env) :: starEach [] X.env := by rfl) (hplain : (backTo pos (starEach [] X.env)).any (·.1) = false := by rfl)
    (hsw : swapsWith (.Call (.Attribute (.Name x npos) "extend" apos) [e] [] pos) none pos'.line X.env = pure false := by rfl) :
    VS1 (M := M) T E O O X (.Expr (.Call (.Attribute (.Name x npos) "extend" apos) [e] [] pos) pos') (fun env => do
      let ds ← ownL (← getE env i)
      let es ← ownL (← f env)
      lim (ds.length + es.length) (.ok (.nx (env.set i (some (.list (ds ++ es))))))) := by
  obtain ⟨t, p, q⟩ := ha
  refine ⟨_, ps_expr (pe_bm PySem.F.plainAttrs_list PySem.F.slot_list_extend PySem.F.type_list_extend mt_extend (pe_var hN hv hd hcd) (pa_cons p pa_nil hs) hbase hfew hline hs hplain) hsw, fun B L0 H0 L ow H σ env D S h => ?_⟩
  simp only [res_bind] at h
  have hmi : i ∈ ow.map (·.1) := by rw [S.ho]; simpa using hi
  obtain ⟨⟨j, a⟩, hm, rfl⟩ := List.mem_map.mp hmi
  obtain ⟨haL, hσ, d0, hd0, r0⟩ := S.re.own j a hm
  have hg : getE env j = .ok d0 := by unfold getE; rw [hd0]
  refine ⟨_, hσ, ?_⟩
  dsimp only at h
  rw [hg, res_ok] at h
  cases r0 with
  | @lst xs ds hl rl zl =>
    refine ⟨.inl ⟨rfl, xs, SqL.of hl⟩, q L ow H σ env _ S.ho S.re (Res.imp (show Res (f env) _ _ from h) (fun d k v H1 e1 r => ?_) fun _ _ x => xw_mono S.ex x)⟩
    cases d with
    | list es =>
      rw [ownL, res_ok] at k
      obtain ⟨z, k⟩ := res_lim k
      cases r with
      | @lst b ys _ hb rb zb =>
        have hl1 := e1 _ _ hl
        refine ⟨a, b, xs, ys, rfl, rfl, hl1, hid_le _ _ hb, ?_, ?_⟩
        · rw [rl.length, rb.length]
          exact lnS z
        · have S1 := S.mono e1
          refine k _ _ L ow (S1.chg hm (.lst upd_same ?_ ?_))
          · rw [hid_upd haL]
            exact (rl.mono (hid_ex e1)).append rb
          · rw [List.length_append, rl.length, rb.length]
            exact lnS z
    | _ => exact k.elim
  | dK _ _ => exact h.elim
  | dT _ _ => exact h.elim

/-! ### targets -/
/-- what a target makes of the slots; ts: the slots that it stores -/
def VG (T : Tb) (O O1 : List Nat) (X : Cx) (tg : Expr) (ts : List Nat) (f : PV → En → R En) : Prop := ∃ t, PG X tg t ∧ ∀ L ow H σ env v d Q x, ow.map (·.1) = O → EnvR T L ow H σ env → Rep T (hid H L) v d →
  Res (f d env) (fun env' => ∀ σ' ow', ow'.map (·.1) = O1 → (∀ p ∈ ow', p ∈ ow) → env'.length = env.length → (∀ j, j ∉ ts → σ'[j]? = σ[j]?) → EnvR T L ow' H σ' env' → Q σ' H) x → t v σ H Q
def VGs (T : Tb) (O O1 : List Nat) (X : Cx) (tgs : List Expr) (ts : List Nat) (f : List PV → En → R En) : Prop := ∃ t, PGs X tgs t ∧ ∀ L ow H σ env vs ds Q x, ow.map (·.1) = O → EnvR T L ow H σ env → RepA T (hid H L) vs ds →
  Res (f ds env) (fun env' => ∀ σ' ow', ow'.map (·.1) = O1 → (∀ p ∈ ow', p ∈ ow) → env'.length = env.length → (∀ j, j ∉ ts → σ'[j]? = σ[j]?) → EnvR T L ow' H σ' env' → Q σ' H) x → t vs σ H Q
theorem vg_name (i : Nat) (hN : X.N.Nodup) (hO : dropO O i = O1 := by rfl) (hi : X.N[i]? = some x := by rfl) (hx : Loc X.env.scope x := by first | exact Or.inl rfl | exact Or.inr rfl)
    (hf : X.fn x = true ∨ X.env.scope.names.lookup x = some .local := by first | exact .inl rfl | exact .inr rfl | assumption) : VG T O O1 X (.Name x pos) [i] (fun d env => .ok (env.set i (some d))) := by
  subst hO
  refine ⟨_, pg_name hN hi hx hf, fun L ow H σ env v d Q x' ho re r h => ?_⟩
  exact h _ _ (by rw [dropW_map, ho]) (fun p hp => (dropW_mem hp).1) (by rw [List.length_set]) (fun j hj => getO (fun z => hj (by simp [z]))) (re.set r)
def nilG (ds : List PV) (env : En) : R En := match ds with
  | [] => .ok env
  | _ => .bad
def consG (fg : PV → En → R En) (gg : List PV → En → R En) (ds : List PV) (env : En) : R En := match ds with
  | d :: ds => (do gg ds (← fg d env))
  | _ => .bad
theorem vgs_nil : VGs T O O X [] [] nilG := by
  refine ⟨_, pgs_nil, fun L ow H σ env vs ds Q x' ho re r h => ?_⟩
  cases r with
  | nil => exact ⟨rfl, h σ ow ho (fun _ h => h) rfl (fun _ _ => rfl) re⟩
  | cons _ _ => exact h.elim
theorem vgs_cons {ts us : List Nat} {fg : PV → En → R En} {gg : List PV → En → R En} (h1 : VG T O O1 X e ts fg) (h2 : VGs T O1 O2 X es us gg) (hs : (assignEach (e :: es) X.env).map (·.2) = assign e X.env :: (assignEach es X.env).map (·.2) := by rfl) :
    VGs T O O2 X (e :: es) (ts ++ us) (consG fg gg) := by
  obtain ⟨t, p1, q1⟩ := h1
  obtain ⟨u, p2, q2⟩ := h2
  refine ⟨_, pgs_cons p1 p2 hs, fun L ow H σ env vs ds Q x' ho re r h => ?_⟩
  cases r with
  | nil => exact h.elim
  | cons r1 r2 =>
    refine ⟨_, _, rfl, q1 L ow H σ env _ _ _ x' ho re r1 ?_⟩
    unfold consG at h
    dsimp only at h
    rw [res_bind] at h
    refine h.imp (fun env1 k σ1 ow1 ho1 hw1 hl1 hk1 re1 => ?_) fun _ _ x => x
    refine q2 L ow1 H σ1 env1 _ _ _ x' ho1 re1 r2 (k.imp (fun env2 k2 σ2 ow2 ho2 hw2 hl2 hk2 re2 => ?_) fun _ _ x => x)
    exact k2 σ2 ow2 ho2 (fun p hp => hw1 p (hw2 p hp)) (hl2.trans hl1) (fun j hj => (hk2 j fun z => hj (List.mem_append_right _ z)).trans (hk1 j fun z => hj (List.mem_append_left _ z))) re2
/-- the items of a tuple to be unpacked -/
def tupP (n : Nat) : PV → R (List PV)
  | .tup ds => if ds.length = n then .ok ds else .bad
  | _ => .bad
theorem vg_tup {k : Nat} {n : Nat} {ts : List Nat} {gg : List PV → En → R En} (hc : X.calm = true) (hr : VGs T O O1 X es ts gg) (hn : (assignEach es X.env).length = n := by rfl) (hst : (assignEach es X.env).findIdx? (·.1) = none := by rfl) :
    VG T O O1 X (.Tuple es k pos) ts (fun d env => do gg (← tupP n d) env) := by
  obtain ⟨t, p, q⟩ := hr
  refine ⟨_, pg_tup hc p hn hst, fun L ow H σ env v d Q x' ho re r h => ?_⟩
  simp only [res_bind] at h
  cases d with
  | tup ds =>
    dsimp only [tupP] at h
    by_cases hl : ds.length = n
    · rw [if_pos hl] at h
      cases r with
      | @tup a xs _ ha ra za =>
        exact ⟨a, xs, rfl, SqT.of (hid_le _ _ ha), by rw [ra.length]; exact hl, q L ow H σ env xs ds Q x' ho re ra h⟩
    · rw [if_neg hl] at h
      exact h.elim
  | _ => exact h.elim
/-- target = e -/
theorem vs_asg {tg : Expr} {ts : List Nat} {fg : PV → En → R En} (ha : VE T E O X e f) (hg : VG T O O1 X tg ts fg) (hs : swapsWithSole [tg] e pos.line X.env = pure false := by rfl) (hw : swappedStores [tg] e X.env = pure none := by rfl)
    (h1 : (assignEach [tg] X.env).map (·.2) = [assign tg X.env] := by rfl) : VS1 (M := M) T E O O1 X (.Assign [tg] e pos) (fun env => do
    let d ← f env
    .ok (.nx (← fg d env))) := by
  obtain ⟨t, p, q⟩ := ha
  obtain ⟨u, p2, q2⟩ := hg
  refine ⟨_, ps_asg p p2 hs hw h1, fun B L0 H0 L ow H σ env D S h => ?_⟩
  simp only [res_bind] at h
  refine q L ow H σ env _ S.ho S.re (h.imp (fun d k v H1 e1 r => ?_) fun _ _ x => xw_mono S.ex x)
  have S1 := S.mono e1
  refine q2 L ow H1 σ env v d _ _ S1.ho S1.re r (k.imp (fun env' k' σ' ow' ho hw' hl _ re => ?_) fun _ _ x => x)
  exact k' σ' H1 L ow' (S1.slots ho hw' hl re)
/-- a, b = e1, e2, the names local -/
theorem vs_par {i j : Nat} {y : Str} {f1 f2 : En → R PV} {px py pt : Pos} {kt k2 pt2} (hc : X.calm = true) (hN : X.N.Nodup) (ha : VE T E O X a f1) (hb : VE T E O X b f2) (hw : swappedStores [.Tuple [.Name x px, .Name y py] kt pt] (.Tuple [a, b] k2 pt2) X.env = pure (some [x, y])) (hO : dropO (dropO O i) j = O1 := by rfl)
    (hi : X.N[i]? = some x := by rfl) (hj : X.N[j]? = some y := by rfl) (hij : i ≠ j := by decide) (hx : X.env.scope.names.lookup x = some .local := by rfl) (hy : X.env.scope.names.lookup y = some .local := by rfl)
    (he : starEach [a, b] X.env = (false, eval a X.env) :: starEach [b] X.env := by rfl) (he2 : starEach [b] X.env = (false, eval b X.env) :: starEach [] X.env := by rfl)
    (hs : swapsWithSole [.Tuple [.Name x px, .Name y py] kt pt] (.Tuple [a, b] k2 pt2) pos.line X.env = pure false := by rfl) : VS1 (M := M) T E O O1 X (.Assign [.Tuple [.Name x px, .Name y py] kt pt] (.Tuple [a, b] k2 pt2) pos) (fun env => do
    let d1 ← f1 env
    let d2 ← f2 env
    .ok (.nx ((env.set i (some d1)).set j (some d2)))) := by
  subst hO
  obtain ⟨t1, p1, q1⟩ := ha
  obtain ⟨t2, p2, q2⟩ := hb
  refine ⟨_, ps_par hc hN hi hj hij hx hy (pa_cons p1 (pa_cons p2 pa_nil he2) he) hw hs, fun B L0 H0 L ow H σ env D S h => ?_⟩
  simp only [res_bind] at h
  refine q1 L ow H σ env _ S.ho S.re (h.imp (fun d1 k1 v1 H1 e1 r1 => ?_) fun _ _ x => xw_mono S.ex x)
  have S1 := S.mono e1
  refine q2 L ow H1 σ env _ S1.ho S1.re (k1.imp (fun d2 k2' v2 H2 e2 r2 => ?_) fun _ _ x => xw_mono S1.ex x)
  have S2 := S1.mono e2
  refine ⟨v1, v2, rfl, k2' _ H2 L _ (S2.slots (by rw [dropW_map, dropW_map, S.ho]) (fun p h => (dropW_mem (dropW_mem h).1).1) (by rw [List.length_set, List.length_set]) ((S2.re.set (r1.mono (hid_ex e2))).set r2))⟩
end
end VL
set_option Elab.async false
set_option linter.all false
set_option maxRecDepth 100000
set_option maxHeartbeats 2000000
set_option autoImplicit false
/-! VL11: what is walked, loops. -/
namespace VL
open PySem PySem.Spec L2 R

/-- the iterator J gives items, as long as B stands -/
def Iters (T : Tb) (B : Hp) (J : It) (items : List PV) : Prop := ∃ n G Y, Walk J n G Y ∧ items.length = n ∧ n ≤ LN ∧ (∀ H, Ex B H → G H) ∧
  ∀ i H L x H' d, items[i]? = some d → Trk L H → Ex B (hid H L) → Y i H x H' → Ex H H' ∧ Rep T (hid H' L) x d
def VI (T : Tb) (E : XK) (O : List Nat) (X : Cx) (tg it : Expr) (f : En → R (List PV)) : Prop := ∃ wi, PI X tg it wi ∧ ∀ L ow H σ env R, ow.map (·.1) = O → EnvR T L ow H σ env →
  Res (f env) (fun items => ∀ J H', Ex H H' → Iters T (hid H' L) J items → R J H') (xw T E H) → wi σ H R
section
variable {T : Tb} {X : Cx} {H : Hp} {L : List Addr}
theorem YAt_iters {B : Hp} {xs : List V} {ds : List PV} (r : RepA T B xs ds) (i : Nat) (H : Hp) (L : List Addr) (x : V) (H' : Hp) (d : PV) (hd : ds[i]? = some d) (e : Ex B (hid H L)) (y : YAt xs i H x H') : Ex H H' ∧ Rep T (hid H' L) x d := by
  obtain ⟨rfl, hx⟩ := y
  obtain ⟨d', h1, h2⟩ := r.get hx
  rw [hd] at h1
  cases h1
  exact ⟨Evl.Ex.refl _, h2.mono e⟩
theorem iters_list {a : Addr} {xs : List V} {ds : List PV} (z : xs.length ≤ sizeLine) (h : SqL T.K (hid H L) a xs) (r : RepA T (hid H L) xs ds) : Iters T (hid H L) (Itl T.K a) ds :=
  ⟨_, _, _, walk_list, r.length.symm, snL z, fun _ e => Evl.ex_l e h, fun i H2 L2 x H' d hd _ e y => YAt_iters r i H2 L2 x H' d hd e y⟩
theorem iters_tup {a : Addr} {xs : List V} {ds : List PV} (z : xs.length ≤ sizeLine) (h : SqT T.K (hid H L) a xs) (r : RepA T (hid H L) xs ds) : Iters T (hid H L) (Itt T.K a) ds :=
  ⟨_, _, _, walk_tup, r.length.symm, snL z, fun _ e => Evl.ex_t e h, fun i H2 L2 x H' d hd _ e y => YAt_iters r i H2 L2 x H' d hd e y⟩
theorem iters_str {z : Str} {x : List Nat} (hl : z.length ≤ sizeLine) (hz : z.cps.toList = x) (hs : sok x = true) : Iters T (hid H L) (Its z) (x.map fun c => .str [c]) := by
  subst hz
  refine ⟨_, _, _, walk_str, by simp, snL hl, fun _ _ => trivial, fun i H2 L2 v H' d hd _ e y => ?_⟩
  obtain ⟨rfl, c, hc, rfl⟩ := y
  rw [List.getElem?_map] at hd
  have hc' : z.cps.toList[i]? = some c := by rw [Array.getElem?_toList]; exact hc
  rw [hc'] at hd
  cases hd
  exact ⟨Evl.Ex.refl _, rep_sig (sok_mem.mp hs c (List.mem_of_getElem? hc'))⟩
theorem iters_keys {a : Addr} {o : Obj} {kvs : List (Key × V)} (hl : kvs.length ≤ LN) (hk : (kvs.map fun e => keyP e.1).all keyOkB = true) (h : hid H L a = some (.frz o (.dK kvs))) : Iters T (hid H L) (Itk a o kvs) (kvs.map fun e => keyP e.1) := by
  refine ⟨_, _, _, walk_keys, by simp, hl, fun _ e => e _ _ h, fun i H2 L2 v H' d hd _ e y => ?_⟩
  obtain ⟨rfl, k, w, h1, rfl⟩ := y
  rw [List.getElem?_map, h1] at hd
  cases hd
  refine ⟨Evl.Ex.refl _, ?_⟩
  have hb := List.all_eq_true.mp hk (keyP k) (List.mem_map.mpr ⟨_, List.mem_of_getElem? h1, rfl⟩)
  cases k with
  | inl i => exact .int _
  | inr x =>
    obtain ⟨b1, b2⟩ := Bool.and_eq_true_iff.mp (show (sok x.cps.toList && decide (x.cps.toList.length ≤ LN)) = true from hb)
    exact .str x (lnS (by have := of_decide_eq_true b2; rw [← str_len] at this; exact this)) b1
theorem iters_range {lo : Int} {n : Nat} (hn : n ≤ LN) : Iters T (hid H L) (Itr lo n) (rangeL lo n) := by
  refine ⟨_, _, _, walk_range, by simp [rangeL], hn, fun _ _ => trivial, fun i H2 L2 v H' d hd _ e y => ?_⟩
  obtain ⟨rfl, rfl⟩ := y
  unfold rangeL at hd
  rw [List.getElem?_map] at hd
  cases e1 : (List.range n)[i]? with
  | none => rw [e1] at hd; cases hd
  | some k =>
    rw [e1] at hd
    cases hd
    obtain ⟨_, e2⟩ := List.getElem?_eq_some_iff.mp e1
    rw [List.getElem_range] at e2
    subst e2
    exact ⟨Evl.Ex.refl _, .int _⟩
end
section
variable {M : Md} {T : Tb} {E : XK} {O O1 O2 : List Nat} {X : Cx} {tg a b c e it : Expr} {es : List Expr} {st : Stmt} {ss rest : List Stmt} {f g h : En → R PV} {fi : En → R (List PV)} {ft : En → R Bool} {fs gs : En → R Fl} {pos pos' p : Pos} {x : Str}
/-- a list, a tuple, a text -/
def iAny (K : PySem.W.Frag) (tl : TE) : TI := fun σ H R => tl σ H fun x H1 => (∃ d o kvs, x = .ref d ∧ H1 d = some (.frz o (.dK kvs)) ∧ R (Itk d o kvs) H1) ∨ (∃ a, x = .ref a ∧ (∃ xs, SqL K H1 a xs) ∧ R (Itl K a) H1) ∨ (∃ a, x = .ref a ∧ (∃ xs, SqT K H1 a xs) ∧ R (Itt K a) H1) ∨ ∃ z, x = .str z ∧ R (Its z) H1
theorem pi_any {l : Expr} {tl : TE} (hl : PE X l tl) : PI X tg l (iAny X.K tl) := by
  refine ⟨fun pins s σ H R I h => ?_⟩
  refine thn (hl.run pins s σ H _ I h) fun v s1 ⟨x, H1, I1, r1, q1⟩ => ?_
  have fp : ∀ b ∈ [s1.heap.objs.size], FpOk X pins H1 b := fun b hb => by
    obtain rfl : b = s1.heap.objs.size := by simpa using hb
    exact I1.fpOk (Nat.le_refl _) (I1.hok.fresh (Nat.le_refl _))
  rcases q1 with ⟨d, o, kvs, rfl, hd, q⟩ | ⟨a, rfl, ⟨xs, hq⟩, q⟩ | ⟨a, rfl, ⟨xs, hq⟩, q⟩ | ⟨z, rfl, q⟩
  · cases r1
    obtain ⟨hs, hgd, hx, es, ep, vs, hdt, hsz, kv, hm⟩ := I1.frzK hd
    refine iter_keys hs hgd hx hdt (pi_one (tk := s1.toks) I1 _ (turn_keys _ hdt) ⟨_, Heap.get?_push_size _ rfl, rfl, ?_⟩ q)
    rw [hsz] <;> rfl
  · cases r1
    obtain ⟨its, rv, pl, _⟩ := I1.list hq
    exact wpAny_pyIter_list pl.isList ⟨_, [s1.heap.objs.size], _, _, H1, rfl, I1.kept (t' := s1.toks) (fun _ _ e => Heap.get?_push_of_some _ e), turn_list a _, ⟨_, Heap.get?_push_size _ rfl, rfl, rfl⟩, fp, q⟩
  · cases r1
    obtain ⟨its, rv, pl, _⟩ := I1.tuple hq
    exact wpAny_pyIter_tuple (show s1.heap.IsTuple a its.toArray from pl) ⟨_, [s1.heap.objs.size], _, _, H1, rfl, I1.kept (t' := s1.toks) (fun _ _ e => Heap.get?_push_of_some _ e), turn_tuple a _, ⟨_, Heap.get?_push_size _ rfl, rfl, rfl⟩, fp, q⟩
  · obtain ⟨t, rfl⟩ := r1
    cases ha : z.cps.all (· < 128)
    · exact wpAny_pyIter_wide ha (pi_one (tk := s1.toks) I1 _ (turn_str _ z t "str_iterator" (.inr rfl)) ⟨_, Heap.get?_push_size _ rfl, rfl, rfl⟩ q)
    · exact wpAny_pyIter_ascii ha (pi_one (tk := s1.toks) I1 _ (turn_str _ z t "str_ascii_iterator" (.inl rfl)) ⟨_, Heap.get?_push_size _ rfl, rfl, rfl⟩ q)
theorem vi_val (hK : X.K = T.K) (ha : VE T E O X a f) : VI T E O X tg a (fun env => do iterP (← f env)) := by
  obtain ⟨t, p, q⟩ := ha
  refine ⟨_, pi_any p, fun L ow H σ env R ho re h => ?_⟩
  simp only [res_bind] at h
  refine q L ow H σ env _ ho re (h.imp (fun d k v H1 e1 r => ?_) fun _ _ x => x)
  rw [hK]
  cases d with
  | list ds =>
    cases r with
    | @lst a xs _ ha ra za => exact .inr (.inl ⟨a, rfl, ⟨xs, SqL.of (hid_le _ _ ha)⟩, k _ H1 e1 (iters_list za (SqL.of ha) ra)⟩)
  | kn ds =>
    cases r with
    | @kn a xs _ ha ra za => exact .inr (.inl ⟨a, rfl, ⟨xs, Evl.ex_l hid_le ha⟩, k _ H1 e1 (iters_list za ha ra)⟩)
    | @knT a xs _ ha ra za => exact .inr (.inr (.inl ⟨a, rfl, ⟨xs, Evl.ex_t hid_le ha⟩, k _ H1 e1 (iters_tup za ha ra)⟩))
  | tup ds =>
    cases r with
    | @tup a xs _ ha ra za => exact .inr (.inr (.inl ⟨a, rfl, ⟨xs, SqT.of (hid_le _ _ ha)⟩, k _ H1 e1 (iters_tup za (SqT.of ha) ra)⟩))
  | str x =>
    cases r with
    | str z hz hs => exact .inr (.inr (.inr ⟨z, rfl, k _ H1 e1 (iters_str hz rfl hs)⟩))
  | dict t ks vs =>
    cases t with
    | true => exact k.elim
    | false =>
      cases r with
      | @dK a o kvs _ ha ra =>
        dsimp only [iterP] at k
        split at k
        · rename_i hc
          obtain ⟨c1, c2⟩ := Bool.and_eq_true_iff.mp hc
          exact .inl ⟨a, o, kvs, rfl, hid_le _ _ ha, k _ H1 e1 (iters_keys (by simpa using of_decide_eq_true c2) c1 ha)⟩
        · exact k.elim
  | _ => exact k.elim
theorem vi_range1 (ha : VW T E O X a f) (hm : X.mg "range" = none) (hg : Gl X "range" := by rfl) (hs : starEach [a] X.env = [(false, eval a X.env)] := by rfl) : VI T E O X tg (.Call (.Name "range" p) [a] [] pos) (fun env => do range1P (← f env)) := by
  obtain ⟨t, p, q⟩ := ha
  refine ⟨_, pi_range1 hg hm (pa_cons p pa_nil hs) hs, fun L ow H σ env R ho re h => ?_⟩
  simp only [res_bind] at h
  refine q L ow H σ env _ ho re (h.imp (fun d k v H1 e1 r => ?_) fun _ _ x => x)
  cases d with
  | int n =>
    obtain rfl := r.int
    dsimp only [range1P] at k
    split at k
    · rename_i hn
      have e0 : (LN : Int) = 16777216 := rfl
      exact ⟨n, rfl, by omega, by omega, k _ H1 e1 (iters_range (by omega))⟩
    · exact k.elim
  | _ => exact k.elim
theorem vi_range2 (ha : VW T E O X a f) (hb : VW T E O X b g) (hm : X.mg "range" = none) (hg : Gl X "range" := by rfl) (hs : starEach [a, b] X.env = [(false, eval a X.env), (false, eval b X.env)] := by rfl) (hs2 : starEach [b] X.env = [(false, eval b X.env)] := by rfl) :
    VI T E O X tg (.Call (.Name "range" p) [a, b] [] pos) (fun env => do range2P (← f env) (← g env)) := by
  obtain ⟨t, p1, q1⟩ := ha
  obtain ⟨u, p2, q2⟩ := hb
  refine ⟨_, pi_range2 hg hm (pa_cons p1 (pa_cons p2 pa_nil hs2) (by rw [hs, hs2])) hs hs2, fun L ow H σ env R ho re h => ?_⟩
  simp only [res_bind] at h
  refine q1 L ow H σ env _ ho re (h.imp (fun d k v H1 e1 r => ?_) fun _ _ x => x)
  refine q2 L ow H1 σ env _ ho (re.mono e1) (k.imp (fun d2 k2 v2 H2 e2 r2 => ?_) fun _ _ x => xw_mono e1 x)
  cases d with
  | int n =>
    obtain rfl := r.int
    cases d2 with
    | int m =>
      obtain rfl := r2.int
      dsimp only [range2P] at k2
      split at k2
      · rename_i hn
        have e0 : (LN : Int) = 16777216 := rfl
        exact ⟨n, m, rfl, by omega, k2 _ H2 (e1.trans e2) (iters_range (by omega))⟩
      · exact k2.elim
    | _ => exact k2.elim
  | _ => cases d2 <;> exact k2.elim
theorem iters_down {H : Hp} {L : List Addr} {i j : Int} (hn : (i - j).toNat ≤ LN) : Iters T (hid H L) (Itc i (-1) (i - j).toNat) ((List.range (i - j).toNat).map fun k : Nat => PV.int (i - k)) := by
  refine ⟨_, _, _, walk_rangeC, by simp, hn, fun _ _ => trivial, fun k H2 L2 v H' d hd _ e y => ?_⟩
  obtain ⟨rfl, rfl⟩ := y
  rw [List.getElem?_map] at hd
  cases e1 : (List.range (i - j).toNat)[k]? with
  | none => rw [e1] at hd; cases hd
  | some k' =>
    rw [e1] at hd
    cases hd
    obtain ⟨_, e2⟩ := List.getElem?_eq_some_iff.mp e1
    rw [List.getElem_range] at e2
    subst e2
    refine ⟨Evl.Ex.refl _, ?_⟩
    dsimp only
    rw [show i + (k : Int) * -1 = i - (k : Int) by omega]
    exact .int _
theorem vi_range3 (ha : VW T E O X a f) (hb : VW T E O X b g) (hc : VW T E O X c h) (hm : X.mg "range" = none) (hg : Gl X "range" := by rfl) (hs : starEach [a, b, c] X.env = (false, eval a X.env) :: starEach [b, c] X.env := by rfl) (hs2 : starEach [b, c] X.env = (false, eval b X.env) :: starEach [c] X.env := by rfl)
    (hs3 : starEach [c] X.env = (false, eval c X.env) :: starEach [] X.env := by rfl) (hpl : (backTo pos (starEach [b, c] X.env)).any (·.1) = false := by rfl) :
    VI T E O X tg (.Call (.Name "range" p) [a, b, c] [] pos) (fun env => do range3P (← f env) (← g env) (← h env)) := by
  obtain ⟨t, p1, q1⟩ := ha
  obtain ⟨u, p2, q2⟩ := hb
  obtain ⟨u3, p3, q3⟩ := hc
  refine ⟨_, pi_range3 hg hm (pa_cons p1 (pa_cons p2 (pa_cons p3 pa_nil hs3) hs2) hs) hs hpl, fun L ow H σ env R ho re h => ?_⟩
  simp only [res_bind] at h
  refine q1 L ow H σ env _ ho re (h.imp (fun d k v H1 e1 r => ?_) fun _ _ x => x)
  refine q2 L ow H1 σ env _ ho (re.mono e1) (k.imp (fun d2 k2 v2 H2 e2 r2 => ?_) fun _ _ x => xw_mono e1 x)
  refine q3 L ow H2 σ env _ ho (re.mono (e1.trans e2)) (k2.imp (fun d3 k3 v3 H3 e3 r3 => ?_) fun _ _ x => xw_mono (e1.trans e2) x)
  have key : ∃ i j : Int, d = .int i ∧ d2 = .int j ∧ d3 = .int (-1) ∧ (-1000000000 ≤ i ∧ i ≤ 1000000000 ∧ -1000000000 ≤ j ∧ j ≤ 1000000000 ∧ i - j ≤ LN) ∧ ∀ J H', Ex H H' → Iters T (hid H' L) J ((List.range (i - j).toNat).map fun k : Nat => PV.int (i - k)) → R J H' := by
    unfold range3P at k3
    split at k3
    · rename_i i j c
      split at k3
      · rename_i hn
        obtain ⟨h1, h2, h3, h4, h5, rfl⟩ := hn
        exact ⟨i, j, rfl, rfl, rfl, ⟨h1, h2, h3, h4, h5⟩, k3⟩
      · exact k3.elim
    · exact k3.elim
  obtain ⟨i, j, rfl, rfl, rfl, hn, k4⟩ := key
  obtain rfl := r.int
  obtain rfl := r2.int
  obtain rfl := r3.int
  exact ⟨i, j, -1, _, rfl, RgC.neg (by omega) (by omega) (by omega) (by omega), k4 _ H3 ((e1.trans e2).trans e3) (iters_down (by omega))⟩

/-! ### enumerate, zip: new pairs -/
theorem pair_iters {B H : Hp} {L : List Addr} {xs ys : Nat → Option V} {i : Nat} {v : V} {H' : Hp} {d1 d2 : PV} (y : YPair xs ys i H v H') (t : Trk L H) (hx : ∀ x, xs i = some x → Rep T (hid H L) x d1) (hy : ∀ x, ys i = some x → Rep T (hid H L) x d2) : Ex H H' ∧ Rep T (hid H' L) v (.tup [d1, d2]) := by
  obtain ⟨p, x1, x2, rfl, hp, rfl, h1, h2⟩ := y
  exact ⟨ex_upd hp, rep_newT t hp (.cons (hx x1 h1) (.cons (hy x2 h2) .nil)) (by show 2 ≤ LN; decide)⟩
theorem enumL_get : ∀ (k : Nat) (ds : List PV) (i : Nat), (enumL k ds)[i]? = (ds[i]?).map fun d => .tup [.int ((k + i : Nat) : Int), d]
  | _, [], i => by simp [enumL]
  | k, d :: ds, 0 => by simp [enumL]
  | k, d :: ds, i + 1 => by
    unfold enumL
    rw [List.getElem?_cons_succ, List.getElem?_cons_succ, enumL_get (k + 1) ds i]
    congr 1
    funext e
    rw [show k + 1 + i = k + (i + 1) by omega]
theorem enumL_len : ∀ (k : Nat) (ds : List PV), (enumL k ds).length = ds.length
  | _, [] => rfl
  | k, d :: ds => by unfold enumL; rw [List.length_cons, enumL_len, List.length_cons]
theorem iters_enum {H : Hp} {L : List Addr} {a : Addr} {xs : List V} {ds : List PV} (z : xs.length ≤ sizeLine) (h : SqL T.K (hid H L) a xs) (r : RepA T (hid H L) xs ds) : Iters T (hid H L) (Ite T.K a) (enumL 0 ds) := by
  refine ⟨_, _, _, walk_enum, by rw [enumL_len, r.length], snL z, fun _ e => Evl.ex_l e h, fun i H2 L2 x H' d hd t e y => ?_⟩
  rw [enumL_get] at hd
  cases e1 : ds[i]? with
  | none => rw [e1] at hd; cases hd
  | some d' =>
    rw [e1] at hd
    cases hd
    rw [Nat.zero_add]
    refine pair_iters (B := H) y t (fun x hx => ?_) fun x hx => ?_
    · cases hx
      exact .int _
    · obtain ⟨d2, h1, h2⟩ := r.get hx
      rw [e1] at h1
      cases h1
      exact h2.mono e
theorem vi_enum {elts : List Expr} {kk : Nat} {tpos : Pos} (hK : X.K = T.K) (ha : VE T E O X a f) (hm : X.mg "enumerate" = none) (hg : Gl X "enumerate" := by rfl) (hs : starEach [a] X.env = [(false, eval a X.env)] := by rfl) :
    VI T E O X (.Tuple elts kk tpos) (.Call (.Name "enumerate" p) [a] [] pos) (fun env => do enumP (← f env)) := by
  obtain ⟨t, p1, q1⟩ := ha
  refine ⟨_, pi_enum hg hm (pa_cons p1 pa_nil hs) hs, fun L ow H σ env R ho re h => ?_⟩
  simp only [res_bind] at h
  refine q1 L ow H σ env _ ho re (h.imp (fun d k v H1 e1 r => ?_) fun _ _ x => x)
  rw [hK]
  cases d with
  | list ds =>
    cases r with
    | @lst a xs _ ha ra za => exact ⟨a, xs, rfl, SqL.of (hid_le _ _ ha), k _ H1 e1 (iters_enum za (SqL.of ha) ra)⟩
  | _ => exact k.elim
theorem zipL_get : ∀ (xs ys : List PV) (i : Nat) (d : PV), (zipL xs ys)[i]? = some d → ∃ x y, xs[i]? = some x ∧ ys[i]? = some y ∧ d = .tup [x, y]
  | [], ys, i, d, h => by cases ys <;> simp [zipL] at h
  | _ :: _, [], i, d, h => by simp [zipL] at h
  | x :: xs, y :: ys, 0, d, h => by
    simp [zipL] at h
    exact ⟨x, y, rfl, rfl, h.symm⟩
  | x :: xs, y :: ys, i + 1, d, h => by
    unfold zipL at h
    exact zipL_get xs ys i d (by simpa using h)
theorem zipL_len : ∀ (xs ys : List PV), (zipL xs ys).length = min xs.length ys.length
  | [], ys => by cases ys <;> simp [zipL]
  | _ :: _, [] => by simp [zipL]
  | x :: xs, y :: ys => by
    unfold zipL
    rw [List.length_cons, zipL_len, List.length_cons, List.length_cons]
    omega
theorem iters_zip {H : Hp} {L : List Addr} {a b : Addr} {xs ys : List V} {ds es : List PV} (z : xs.length ≤ sizeLine) (h1 : SqL T.K (hid H L) a xs) (r1 : RepA T (hid H L) xs ds) (h2 : SqL T.K (hid H L) b ys) (r2 : RepA T (hid H L) ys es) : Iters T (hid H L) (Itz T.K a b) (zipL ds es) := by
  refine ⟨_, _, _, walk_zip rfl, by rw [zipL_len, r1.length, r2.length], Nat.le_trans (Nat.min_le_left _ _) (snL z), fun _ e => ⟨Evl.ex_l e h1, Evl.ex_l e h2⟩, fun i H2 L2 x H' d hd t e y => ?_⟩
  obtain ⟨d1, d2, g1, g2, rfl⟩ := zipL_get _ _ _ _ hd
  refine pair_iters (B := H) y t (fun x hx => ?_) fun x hx => ?_
  · obtain ⟨d', q1, q2⟩ := r1.get hx
    rw [g1] at q1
    cases q1
    exact q2.mono e
  · obtain ⟨d', q1, q2⟩ := r2.get hx
    rw [g2] at q1
    cases q1
    exact q2.mono e
theorem vi_zip {elts : List Expr} {kk : Nat} {tpos : Pos} (hK : X.K = T.K) (ha : VE T E O X a f) (hb : VE T E O X b g) (hm : X.mg "zip" = none) (hg : Gl X "zip" := by rfl) (hs : starEach [a, b] X.env = (false, eval a X.env) :: starEach [b] X.env := by rfl) (hs2 : starEach [b] X.env = (false, eval b X.env) :: starEach [] X.env := by rfl)
    (hpl : (backTo pos (starEach [b] X.env)).any (·.1) = false := by rfl) : VI T E O X (.Tuple elts kk tpos) (.Call (.Name "zip" p) [a, b] [] pos) (fun env => do zipP (← f env) (← g env)) := by
  obtain ⟨t, p1, q1⟩ := ha
  obtain ⟨u, p2, q2⟩ := hb
  refine ⟨_, pi_zip hg hm (pa_cons p1 (pa_cons p2 pa_nil hs2) hs) hs hpl, fun L ow H σ env R ho re h => ?_⟩
  simp only [res_bind] at h
  refine q1 L ow H σ env _ ho re (h.imp (fun d k v H1 e1 r => ?_) fun _ _ x => x)
  refine q2 L ow H1 σ env _ ho (re.mono e1) (k.imp (fun d2 k2 v2 H2 e2 r2 => ?_) fun _ _ x => xw_mono e1 x)
  rw [hK]
  cases d with
  | list ds =>
    cases d2 with
    | list es =>
      cases r with
      | @lst a xs _ ha ra za =>
        cases r2 with
        | @lst b ys _ hb rb zb =>
          exact ⟨a, b, xs, ys, rfl, SqL.of (e2 _ _ (hid_le _ _ ha)), SqL.of (hid_le _ _ hb), k2 _ H2 (e1.trans e2) (iters_zip za (SqL.of (hid_ex e2 _ _ ha)) (ra.mono (hid_ex e2)) (SqL.of hb) rb)⟩
    | _ => exact k2.elim
  | _ => cases d2 <;> exact k2.elim

/-! ### loops -/
theorem vs_for {ts : List Nat} {fg : PV → En → R En} (hp : PassesOwn (model X.prog X.w) X.A X.env X.xe) (hc : X.calm = true) (hi : VI T E O X tg it fi) (hg : VG T O O1 X tg ts fg) (hb : VS (M := M) T E O1 O X ss fs) (hs : ∀ x, foldedSetIterable it X.env x = pure x := by intro _; rfl) :
    VS1 (M := M) T E O O X (.For tg it ss [] pos) (fun env => do
      let items ← fi env
      forE (fun d env => do fs (← fg d env)) items env) := by
  obtain ⟨wi, pi, qi⟩ := hi
  obtain ⟨tg', pg, qg⟩ := hg
  obtain ⟨tb, pb, qb⟩ := hb
  refine ⟨_, ps_for hp hc pi pg pb hs, fun B L0 H0 L ow H σ env D S h => ?_⟩
  simp only [res_bind] at h
  refine qi L ow H σ env _ S.ho S.re (h.imp (fun items k J H1 e1 J1 => ?_) fun _ _ x => xw_mono S.ex x)
  obtain ⟨n, G, Y, W, hn, _, hG, hY⟩ := J1
  subst hn
  have hB : Ex B (hid H1 L) := S.bs.trans (hid_ex e1)
  refine for_it W (fun i σ' H' => ∃ L' ow' env', Sit T X.N.length (hid H1 L) L0 H0 O L' ow' H' σ' env' ∧ Res (forE (fun d env => do fs (← fg d env)) (items.drop i) env') (AfterS (M := M) T X.N.length B L0 H0 O D) (xw T E H0))
    ⟨L, ow, env, S.base e1, k⟩ (fun i σ' H' _ ⟨L', ow', env', S', _⟩ => hG H' (S'.bs.trans hid_le)) (fun i x σ' H' H2 hi ⟨L', ow', env', S', k'⟩ y => ?_) (fun σ' H' ⟨L', ow', env', S', k'⟩ => ?_)
  · have hd : items[i]? = some items[i] := List.getElem?_eq_getElem hi
    obtain ⟨e2, r2⟩ := hY i H' L' x H2 items[i] hd S'.re.trk S'.bs y
    rw [List.drop_eq_getElem_cons hi] at k'
    unfold forE at k'
    simp only [res_bind] at k'
    have S2 := S'.mono e2
    refine qg L' ow' H2 σ' env' x items[i] _ _ S2.ho S2.re r2 (k'.imp (fun env3 k3 σ3 ow3 ho3 hw3 hl3 _ re3 => ?_) fun _ _ x => x)
    have S3 := S2.slots ho3 hw3 hl3 re3
    refine qb (hid H1 L) L0 H0 L' ow3 H2 σ3 env3 _ S3 (k3.imp (fun fl k4 => ?_) fun _ _ x => x)
    cases fl with
    | nx env4 => exact fun σ4 H4 L4 ow4 S4 => ⟨L4, ow4, env4, S4, k4⟩
    | rt d => exact k4
  · rw [List.drop_length] at k'
    exact k' σ' H' L' ow' (S'.bas hB)
theorem vs_while (n : Nat) (hp : PassesOwn (model X.prog X.w) X.A X.env X.xe) (hc : VT T E O X a ft) (hb : VS (M := M) T E O O X ss fs) : VS1 (M := M) T E O O X (.While a ss [] pos) (whileE ft fs n) := by
  obtain ⟨tc, pc, qc⟩ := hc
  obtain ⟨tb, pb, qb⟩ := hb
  refine ⟨_, ps_while hp pc pb, fun B L0 H0 L ow H σ env D S h => ?_⟩
  refine ⟨fun m σ' H' => ∃ L' ow' env', Sit T X.N.length B L0 H0 O L' ow' H' σ' env' ∧ Res (whileE ft fs m env') (AfterS (M := M) T X.N.length B L0 H0 O D) (xw T E H0), ⟨n, L, ow, env, S, h⟩, ?_⟩
  rintro m σ' H' ⟨L', ow', env', S', k⟩
  cases m with
  | zero => exact k.elim
  | succ m =>
    unfold whileE at k
    simp only [res_bind] at k
    refine qc L' ow' H' σ' env' _ S'.ho S'.re (k.imp (fun b k2 H2 e2 => ?_) fun _ _ x => xw_mono S'.ex x)
    have S2 := S'.mono e2
    cases b with
    | true =>
      rw [if_pos rfl]
      rw [if_pos rfl, res_bind] at k2
      refine ⟨fun σ3 H3 => ∃ L3 ow3 env3, Sit T X.N.length B L0 H0 O L3 ow3 H3 σ3 env3 ∧ Res (whileE ft fs m env3) (AfterS (M := M) T X.N.length B L0 H0 O D) (xw T E H0), fun σ3 H3 h3 => ⟨m, Nat.lt_succ_self m, h3⟩, ?_⟩
      refine qb B L0 H0 L' ow' H2 σ' env' _ S2 (k2.imp (fun fl k4 => ?_) fun _ _ x => x)
      cases fl with
      | nx env4 => exact fun σ4 H4 L4 ow4 S4 => ⟨L4, ow4, env4, S4, k4⟩
      | rt d => exact k4
    | false =>
      rw [if_neg Bool.false_ne_true]
      rw [if_neg Bool.false_ne_true] at k2
      exact k2 σ' H2 L' ow' S2
end
end VL
set_option Elab.async false
set_option linter.all false
set_option maxRecDepth 100000
set_option maxHeartbeats 2000000
set_option autoImplicit false
/-! VL12: comprehensions by plain values. -/
namespace VL
open PySem PySem.Spec L2 R
theorem takesN0 {X : Cx} : L2N.Takes X (fun _ _ _ _ => False) := fun _ _ ⟨_, _, _, _, _, _, _, _, _, _, _, _, _, _, _, _, w⟩ => w.elim

/-! ### blocks -/
abbrev Blk := Shared × Hp × Addr × List (Str × Addr) × List Addr
/-- the context of a block -/
abbrev blkX (X : Cx) (scope : Scope) (b : Blk) : Cx := X.blk b.1 b.2.1 scope (compEnvC scope b.2.2.2.1 b.2.2.1 X.env) b.2.2.2.2
abbrev EF : XK := fun _ _ _ => False
theorem Good.blk {T : Tb} {E : XK} {k : Nat} {X : Cx} (G : Good T E k X) (scope : Scope) (b : Blk) : Good T EF k (blkX X scope b) := ⟨G.K, G.calm, G.nd, G.gd, G.rm, takesN0⟩
section
variable {M : Md} {T : Tb} {E : XK} {O O1 O2 : List Nat} {X : Cx} {scope : Scope} {tg a b c e it elt : Expr} {es ifs : List Expr} {f g h : En → R PV} {fi : En → R (List PV)} {ft : En → R Bool} {pos pos' p : Pos} {x : Str}
/-- one reading for all blocks -/
theorem uniE (h : ∀ b, VE T EF O (blkX X scope b) e f) : ∃ t, (∀ b, PE (blkX X scope b) e t) ∧ ∀ L ow H σ env Q, ow.map (·.1) = O → EnvR T L ow H σ env → Res (f env) (KV' T L H Q) (xw T EF H) → t σ H Q := by
  refine ⟨fun σ H Q => ∀ b, (h b).choose σ H Q, fun b => ⟨fun pins s σ H Q I q => (h b).choose_spec.1.run pins s σ H Q I (q b)⟩, fun L ow H σ env Q ho re hq b => (h b).choose_spec.2 L ow H σ env Q ho re hq⟩
def VTs (T : Tb) (E : XK) (O : List Nat) (X : Cx) (ifs : List Expr) (f : En → R Bool) : Prop := ∃ t, PTs X ifs t ∧ ∀ L ow H σ env Q, ow.map (·.1) = O → EnvR T L ow H σ env → Res (f env) (fun b => ∀ H', Ex H H' → Q b H') (xw T E H) → t σ H Q
theorem vts_nil : VTs T E O X [] (fun _ => .ok true) := ⟨_, pts_nil, fun L ow H σ env Q ho re hq => hq H (Evl.Ex.refl H)⟩
theorem vts_one (h : VT T E O X c ft) : VTs T E O X [c] ft := by
  obtain ⟨t, p, q⟩ := h
  exact ⟨t, pts_one p, q⟩
theorem uniT (h : ∀ b, VTs T EF O (blkX X scope b) ifs ft) : ∃ t, (∀ b, PTs (blkX X scope b) ifs t) ∧ ∀ L ow H σ env Q, ow.map (·.1) = O → EnvR T L ow H σ env → Res (ft env) (fun b => ∀ H', Ex H H' → Q b H') (xw T EF H) → t σ H Q := by
  refine ⟨fun σ H Q => ∀ b, (h b).choose σ H Q, fun b => ⟨fun pins s σ H Q I q => (h b).choose_spec.1.run pins s σ H Q I (q b)⟩, fun L ow H σ env Q ho re hq b => (h b).choose_spec.2 L ow H σ env Q ho re hq⟩
theorem uniG {ts : List Nat} {fg : PV → En → R En} (h : ∀ b, VG T O O1 (blkX X scope b) tg ts fg) : ∃ t, (∀ b, PG (blkX X scope b) tg t) ∧ ∀ L ow H σ env v d Q x, ow.map (·.1) = O → EnvR T L ow H σ env → Rep T (hid H L) v d →
    Res (fg d env) (fun env' => ∀ σ' ow', ow'.map (·.1) = O1 → (∀ p ∈ ow', p ∈ ow) → env'.length = env.length → (∀ j, j ∉ ts → σ'[j]? = σ[j]?) → EnvR T L ow' H σ' env' → Q σ' H) x → t v σ H Q := by
  refine ⟨fun v σ H Q => ∀ b, (h b).choose v σ H Q, fun b => ⟨fun pins s σ H v u Q I r q => (h b).choose_spec.1.run pins s σ H v u Q I r (q b)⟩, fun L ow H σ env v d Q x ho re r hq b => (h b).choose_spec.2 L ow H σ env v d Q x ho re r hq⟩

/-! ### the slots of a block -/
theorem wipe_get {α : Type} (w : List (Option α) → List Nat → List (Option α)) (h0 : ∀ l, w l [] = l) (h1 : ∀ l v vs, w l (v :: vs) = (w l vs).set v none) (l : List (Option α)) : ∀ vs : List Nat, (w l vs).length = l.length ∧ ∀ j, (w l vs)[j]? = if j ∈ vs then (if j < l.length then some none else none) else l[j]?
  | [] => by rw [h0]; exact ⟨rfl, fun j => by simp⟩
  | v :: vs => by
    obtain ⟨i1, i2⟩ := wipe_get w h0 h1 l vs
    rw [h1]
    refine ⟨by rw [List.length_set, i1], fun j => ?_⟩
    by_cases e : j = v
    · subst e
      rw [if_pos List.mem_cons_self]
      by_cases hl : j < l.length
      · rw [if_pos hl, List.getElem?_set_self (by rw [i1]; exact hl)]
      · rw [if_neg hl, List.getElem?_eq_none (by rw [List.length_set, i1]; omega)]
    · rw [getO e, i2]
      by_cases hj : j ∈ vs
      · rw [if_pos hj, if_pos (List.mem_cons_of_mem _ hj)]
      · rw [if_neg hj, if_neg (fun z => (List.mem_cons.mp z).elim e hj)]
theorem wipeS (σ : L2.St) (vs : List Nat) : (wipe σ vs).length = σ.length ∧ ∀ j, (wipe σ vs)[j]? = if j ∈ vs then (if j < σ.length then some none else none) else σ[j]? := wipe_get (fun l vs => wipe l vs) (fun _ => rfl) (fun _ _ _ => rfl) σ vs
theorem wipeV (env : En) (vs : List Nat) : (wipeE env vs).length = env.length ∧ ∀ j, (wipeE env vs)[j]? = if j ∈ vs then (if j < env.length then some none else none) else env[j]? := wipe_get (fun l vs => wipeE l vs) (fun _ => rfl) (fun _ _ _ => rfl) env vs
def blkO (O vs : List Nat) : List Nat := O.filter fun j => !vs.contains j
theorem blkW_map (ow : List (Nat × Addr)) (vs : List Nat) : (ow.filter fun p => !vs.contains p.1).map (·.1) = blkO (ow.map (·.1)) vs := by
  unfold blkO
  induction ow with
  | nil => rfl
  | cons p ow ih =>
    rw [List.filter_cons, List.map_cons, List.filter_cons]
    split
    · rw [List.map_cons, ih]
    · exact ih
/-- within a block, something hidden being made at D -/
theorem EnvR.block {L : List Addr} {ow : List (Nat × Addr)} {H H' : Hp} {σ : L2.St} {env : En} {D : Addr} (re : EnvR T L ow H σ env) (vs : List Nat) (e : Ex H H') (hD : H D = none) (hD' : H' D ≠ none) :
    EnvR T (D :: L) (ow.filter fun p => !vs.contains p.1) H' (wipe σ vs) (wipeE env vs) where
  len := by rw [(wipeS σ vs).1, (wipeV env vs).1, re.len]
  fr := fun i d h hi => by
    rw [(wipeV env vs).2] at h
    rw [(wipeS σ vs).2]
    by_cases hv : i ∈ vs
    · rw [if_pos hv] at h
      split at h <;> cases h
    · rw [if_neg hv] at h
      rw [if_neg hv]
      obtain ⟨v, h1, h2⟩ := re.fr i d h fun hm => hi (by
        rw [blkW_map]
        unfold blkO
        exact List.mem_filter.mpr ⟨hm, by simpa using hv⟩)
      exact ⟨v, h1, h2.mono (hid_more e hD)⟩
  own := fun i p hp => by
    obtain ⟨h1, h2⟩ := List.mem_filter.mp hp
    have hv : i ∉ vs := by simpa using h2
    obtain ⟨q1, q2, d, q3, q4⟩ := re.own i p h1
    refine ⟨List.mem_cons_of_mem _ q1, ?_, d, ?_, q4.more e hD⟩
    · rw [(wipeS σ vs).2, if_neg hv]
      exact q2
    · rw [(wipeV env vs).2, if_neg hv]
      exact q3
  trk := fun a ha => by
    rcases List.mem_cons.mp ha with rfl | ha
    · exact hD'
    · exact re.trk.mono e a ha
  nd := List.Nodup.sublist (List.Sublist.map _ List.filter_sublist) re.nd
  nd1 := List.Nodup.sublist (List.Sublist.map _ List.filter_sublist) re.nd1
theorem wipe_same {σ σ2 : L2.St} {vs ts : List Nat} (hl : σ2.length = σ.length) (h : ∀ j, j ∉ ts → σ2[j]? = (wipe σ vs)[j]?) (hts : ∀ j ∈ ts, j ∈ vs) : wipe σ2 vs = wipe σ vs := by
  apply List.ext_getElem?
  intro j
  rw [(wipeS σ2 vs).2, (wipeS σ vs).2]
  by_cases hj : j ∈ vs
  · rw [if_pos hj, if_pos hj, hl]
  · rw [if_neg hj, if_neg hj, h j fun z => hj (hts j z), (wipeS σ vs).2, if_neg hj]

/-! ### list comprehensions -/
/-- one item: the target, the test, the element -/
def itemF (fg : PV → En → R En) (ft : En → R Bool) (f : En → R PV) (env : En) (d : PV) : R (Option PV) := do
  let env1 ← fg d env
  if (← ft env1) = true then do .ok (some (← f env1)) else .ok none
theorem comp_t {own : List (Str × Nat)} {ts : List Nat} {fg : PV → En → R En} (hi : VI T E O X tg it fi) (hO : blkO O (own.map (·.2)) = O1) (hts : (ts.all fun j => (own.map (·.2)).contains j) = true)
    (hg : ∀ b, VG T O1 O1 (blkX X scope b) tg ts fg) (ht : ∀ b, VTs T EF O1 (blkX X scope b) ifs ft) (he : ∀ b, VE T EF O1 (blkX X scope b) elt f) :
    ∃ wi g tt te, PI X tg it wi ∧ (∀ b, PG (blkX X scope b) tg g) ∧ (∀ b, PTs (blkX X scope b) ifs tt) ∧ (∀ b, PE (blkX X scope b) elt te) ∧
      ∀ L ow H σ env Q, ow.map (·.1) = O → EnvR T L ow H σ env → Res (do
        let items ← fi env
        let l ← compE (itemF fg ft f (wipeE env (own.map (·.2)))) items
        .ok (.list l)) (fun d => ∀ p H', Ex H H' → H p = none → RepO T (p :: L) H' p d → Q (.ref p) H') (xw T E H) → tLc wi g tt te (own.map (·.2)) σ H Q := by
  obtain ⟨wi, pi, qi⟩ := hi
  obtain ⟨tg', pg, qg⟩ := uniG hg
  obtain ⟨tt, pt, qt⟩ := uniT ht
  obtain ⟨te, pe, qe⟩ := uniE he
  refine ⟨wi, tg', tt, te, pi, pg, pt, pe, fun L ow H σ env Q ho re hq => ?_⟩
  generalize own.map (·.2) = vs at *
  simp only [res_bind] at hq
  refine qi L ow H σ env _ ho re (hq.imp (fun items k J H1 e1 J1 D hD => ?_) fun _ _ x => x)
  obtain ⟨n, G, Y, W, hn, hln, hG, hY⟩ := J1
  subst hn
  have hDH : H D = none := Evl.fresh_back e1 hD
  refine lc_it W (fun i H2 => ∃ acc ds, H2 D = some (.lst acc) ∧ Ex H1 H2 ∧ RepA T (hid H2 (D :: L)) acc ds ∧ acc.length ≤ i ∧ Res (compE (itemF fg ft f (wipeE env vs)) (items.drop i)) (fun l => ∀ p H', Ex H H' → H p = none → RepO T (p :: L) H' p (.list (ds ++ l)) → Q (.ref p) H') (xw T E H)) ?_ ?_ ?_ ?_
  · refine ⟨[], [], upd_same, ex_upd hD, .nil, Nat.le_refl _, ?_⟩
    exact k
  · rintro i H2 _ ⟨acc, ds, _, e2, _, _, _⟩
    exact hG H2 ((hid_le).trans e2)
  · rintro i x1 H2 H3 hi ⟨acc, ds, h1, e2, r2, z2, k2⟩ y
    have hd : items[i]? = some items[i] := List.getElem?_eq_getElem hi
    have tr : Trk (D :: L) H2 := fun a ha => by
      rcases List.mem_cons.mp ha with rfl | ha
      · rw [h1]
        exact fun z => nomatch z
      · exact re.trk.mono (e1.trans e2) a ha
    obtain ⟨e3, r3⟩ := hY i H2 (D :: L) x1 H3 items[i] hd tr (hid_more e2 hD) y
    have h3 : H3 D = some (.lst acc) := e3 _ _ h1
    have re3 : EnvR T (D :: L) (ow.filter fun p => !vs.contains p.1) H3 (wipe σ vs) (wipeE env vs) := re.block vs ((e1.trans e2).trans e3) hDH (by rw [h3]; exact fun z => nomatch z)
    rw [List.drop_eq_getElem_cons hi] at k2
    unfold compE at k2
    cases ei : itemF fg ft f (wipeE env vs) items[i] with
    | ok o =>
      rw [ei] at k2
      simp only [res_bind] at k2
      have ev : Res (itemF fg ft f (wipeE env vs) items[i]) (fun o' => o' = o) (xw T EF H3) := by rw [ei]; rfl
      unfold itemF at ev
      simp only [res_bind] at ev
      have hO1 : (ow.filter fun p => !vs.contains p.1).map (·.1) = O1 := by rw [blkW_map, ho, hO]
      refine qg (D :: L) _ H3 (wipe σ vs) (wipeE env vs) x1 items[i] _ _ hO1 re3 r3 (ev.imp (fun env4 k4 σ4 ow4 ho4 _ hl4 hk4 re4 => ?_) fun _ _ x => x)
      refine ⟨wipe_same ?_ hk4 (fun j hj => ?_), ?_⟩
      · rw [← re4.len, hl4, re3.len, (wipeS σ vs).1]
      · have z := List.all_eq_true.mp hts j hj
        simpa using z
      refine qt (D :: L) ow4 H3 σ4 env4 _ ho4 re4 (k4.imp (fun b k5 H5 e5 => ?_) fun _ _ x => x)
      have h5 : H5 D = some (.lst acc) := e5 _ _ h3
      have hz : acc.length < sizeLine := by
        have e0 : LN = 16777216 := rfl
        rw [sizeLine_eq]
        omega
      cases b with
      | true =>
        rw [if_pos rfl]
        rw [if_pos rfl, res_bind] at k5
        refine qe (D :: L) ow4 H5 σ4 env4 _ ho4 (re4.mono e5) (k5.imp (fun d k6 v H6 e6 r6 => ?_) fun _ _ x => xw_mono e5 x)
        have h6 : H6 D = some (.lst acc) := e6 _ _ h5
        rw [res_ok] at k6
        subst k6
        refine ⟨acc, h6, hz, acc ++ [v], ds ++ [d], upd_same, ?_, ?_, ?_, ?_⟩
        · exact Evl.Ex.mut (((e2.trans e3).trans e5).trans e6) hD
        · rw [hid_upd List.mem_cons_self]
          exact (r2.mono (hid_ex ((e3.trans e5).trans e6))).append (.one r6)
        · rw [List.length_append, List.length_singleton]
          omega
        · refine k2.imp (fun l kl p H' e' hp r => ?_) fun _ _ x => x
          refine kl p H' e' hp ?_
          rw [List.append_assoc] at r
          exact r
      | false =>
        rw [if_neg Bool.false_ne_true]
        rw [if_neg Bool.false_ne_true, res_ok] at k5
        subst k5
        refine ⟨acc, ds, h5, (e2.trans e3).trans e5, r2.mono (hid_ex (e3.trans e5)), by omega, ?_⟩
        exact k2.imp (fun l kl => kl) fun _ _ x => x
    | exc _ _ => rw [ei] at k2; exact k2.elim
    | bad => rw [ei] at k2; exact k2.elim
  · rintro H2 ⟨acc, ds, h1, e2, r2, z2, k2⟩
    rw [List.drop_length] at k2
    have k3 := k2 D H2 (e1.trans e2) hDH
    rw [List.append_nil] at k3
    exact k3 (.lst h1 r2 (by have e0 : LN = 16777216 := rfl; rw [sizeLine_eq]; omega))
theorem vf_comp {own : List (Str × Nat)} {ts : List Nat} {fg : PV → En → R En} (hc : X.calm = true) (hN : X.N.Nodup) (hi : VI T E O X tg it fi) (ok : BlkOk X.N X.env.scope scope own) (hO : blkO O (own.map (·.2)) = O1) (hts : (ts.all fun j => (own.map (·.2)).contains j) = true)
    (hg : ∀ b, VG T O1 O1 (blkX X scope b) tg ts fg) (ht : ∀ b, VTs T EF O1 (blkX X scope b) ifs ft) (he : ∀ b, VE T EF O1 (blkX X scope b) elt f) (hs : ∀ x, foldedSetIterable it X.env x = pure x := by intro _; rfl) :
    VF T E O X (.ListComp elt [⟨tg, it, ifs, 0⟩] scope pos) (fun env => do
      let items ← fi env
      let l ← compE (itemF fg ft f (wipeE env (own.map (·.2)))) items
      .ok (.list l)) := by
  obtain ⟨wi, g, tt, te, pi, pg, pt, pe, hq⟩ := comp_t hi hO hts hg ht he
  exact ⟨_, pe_lc hc hN pi ok (fun s H C cl fp => pg (s, H, C, cl, fp)) (fun s H C cl fp => pt (s, H, C, cl, fp)) (fun s H C cl fp => pe (s, H, C, cl, fp)) hs, hq⟩
/-- y = [..], y local: own from here on -/
theorem vs_ownC (i : Nat) {own : List (Str × Nat)} {ts : List Nat} {fg : PV → En → R En} {y : Str} {py spos : Pos} {O2 : List Nat} (hc : X.calm = true) (hN : X.N.Nodup) (hi : VI T E O X tg it fi) (ok : BlkOk X.N X.env.scope scope own) (hO : blkO O (own.map (·.2)) = O1) (hts : (ts.all fun j => (own.map (·.2)).contains j) = true)
    (hg : ∀ b, VG T O1 O1 (blkX X scope b) tg ts fg) (ht : ∀ b, VTs T EF O1 (blkX X scope b) ifs ft) (he : ∀ b, VE T EF O1 (blkX X scope b) elt f) (hsw : swapsWith (.ListComp elt [⟨tg, it, ifs, 0⟩] scope pos) (some (.Name y py)) spos.line X.env = pure true)
    (hO2 : i :: dropO O i = O2 := by rfl) (hy : X.N[i]? = some y := by rfl) (hyl : X.env.scope.names.lookup y = some .local := by rfl) (hs : ∀ x, foldedSetIterable it X.env x = pure x := by intro _; rfl) :
    VS1 (M := M) T E O O2 X (.Assign [.Name y py] (.ListComp elt [⟨tg, it, ifs, 0⟩] scope pos) spos) (fun env => do
      let d ← (do
        let items ← fi env
        let l ← compE (itemF fg ft f (wipeE env (own.map (·.2)))) items
        .ok (.list l))
      .ok (.nx (env.set i (some d)))) := by
  subst hO2
  obtain ⟨wi, g, tt, te, pi, pg, pt, pe, hq⟩ := comp_t hi hO hts hg ht he
  refine ⟨_, ps_setLc hc hN hy hyl hsw pi ok (fun s H C cl fp => pg (s, H, C, cl, fp)) (fun s H C cl fp => pt (s, H, C, cl, fp)) (fun s H C cl fp => pe (s, H, C, cl, fp)) hs, fun B L0 H0 L ow H σ env D S h => ?_⟩
  rw [res_bind] at h
  refine hq L ow H σ env _ S.ho S.re (h.imp (fun d k p H' e hp r => ?_) fun _ _ x => xw_mono S.ex x)
  exact k _ H' _ _ (S.own (List.getElem?_eq_some_iff.mp hy).1 e hp r)
/-- y = [..], y local, not own -/
theorem vs_setC (i : Nat) {own : List (Str × Nat)} {ts : List Nat} {fg : PV → En → R En} {y : Str} {py spos : Pos} {O2 : List Nat} (hc : X.calm = true) (hN : X.N.Nodup) (hi : VI T E O X tg it fi) (ok : BlkOk X.N X.env.scope scope own) (hO : blkO O (own.map (·.2)) = O1) (hts : (ts.all fun j => (own.map (·.2)).contains j) = true)
    (hg : ∀ b, VG T O1 O1 (blkX X scope b) tg ts fg) (ht : ∀ b, VTs T EF O1 (blkX X scope b) ifs ft) (he : ∀ b, VE T EF O1 (blkX X scope b) elt f) (hsw : swapsWith (.ListComp elt [⟨tg, it, ifs, 0⟩] scope pos) (some (.Name y py)) spos.line X.env = pure true)
    (hO2 : dropO O i = O2 := by rfl) (hy : X.N[i]? = some y := by rfl) (hyl : X.env.scope.names.lookup y = some .local := by rfl) (hs : ∀ x, foldedSetIterable it X.env x = pure x := by intro _; rfl) :
    VS1 (M := M) T E O O2 X (.Assign [.Name y py] (.ListComp elt [⟨tg, it, ifs, 0⟩] scope pos) spos) (fun env => do
      let d ← (do
        let items ← fi env
        let l ← compE (itemF fg ft f (wipeE env (own.map (·.2)))) items
        .ok (.list l))
      .ok (.nx (env.set i (some d)))) := by
  subst hO2
  obtain ⟨wi, g, tt, te, pi, pg, pt, pe, hq⟩ := comp_t hi hO hts hg ht he
  refine ⟨_, ps_frz (ps_setLc hc hN hy hyl hsw pi ok (fun s H C cl fp => pg (s, H, C, cl, fp)) (fun s H C cl fp => pt (s, H, C, cl, fp)) (fun s H C cl fp => pe (s, H, C, cl, fp)) hs), fun B L0 H0 L ow H σ env D S h => ?_⟩
  unfold tFrzS
  rw [res_bind] at h
  refine hq L ow H σ env _ S.ho S.re (h.imp (fun d k p H' e hp r => ?_) fun _ _ x => xw_mono S.ex x)
  rcases r.rep (S.re.trk.new hp) e hp with r1 | ⟨u, h1, h2, h3⟩
  · have S' := S.mono e
    exact .inl (k _ H' L _ (S'.slots (by rw [dropW_map, S.ho]) (fun p h => (dropW_mem h).1) (by rw [List.length_set]) (S'.re.set r1)))
  · refine .inr ⟨p, u, h1, h2, fun od => ?_⟩
    have S' := S.mono (h3 od).1
    exact k _ _ L _ (S'.slots (by rw [dropW_map, S.ho]) (fun p h => (dropW_mem h).1) (by rw [List.length_set]) (S'.re.set (h3 od).2))
end
end VL
set_option Elab.async false
set_option linter.all false
set_option maxRecDepth 100000
set_option maxHeartbeats 2000000
set_option autoImplicit false
/-! VL13: the law's call from the plain value of its def. -/
namespace VL
open PySem PySem.Spec L2 R

/-- the script as a known list -/
def scr (ns : List Int) : List PV := [.kn (ns.map .int)]
theorem rep_ints {T : Tb} {H : Hp} : ∀ ns : List Int, RepA T H (ns.map V.int) (ns.map PV.int)
  | [] => .nil
  | n :: ns => .cons (.int n) (rep_ints ns)

section
variable {K : PySem.W.Frag} {h : Heap} {a : Addr} {o : Obj} {ns : List Int}
/-- what is tracked ahead of the law: the script, unless the written part has it -/
def hpA (K : PySem.W.Frag) (a : Addr) (o : Obj) (ns : List Int) : Hp := fun b => if b = a ∧ K.lookup a = none then some (.frz o (.lst (ns.map V.int))) else none
theorem hpA_some {b : Addr} {u : HO} (q : hpA K a o ns b = some u) : b = a ∧ K.lookup a = none ∧ u = .frz o (.lst (ns.map V.int)) := by
  unfold hpA at q
  split at q
  · rename_i c
    exact ⟨c.1, c.2, (Option.some.inj q).symm⟩
  · cases q
theorem hpA_ne {b : Addr} {u : Obj} {es : Array DictEntry} {ep : Nat} {vs : Array Value} {c : Nat} (ho : h.get? a = some o) (hd : o.data = .seq vs c) (e : h.get? b = some u) (d : u.data = .dict es ep) : hpA K a o ns b = none := by
  cases q : hpA K a o ns b with
  | none => rfl
  | some z =>
    obtain ⟨rfl, _, _⟩ := hpA_some q
    rw [ho] at e
    obtain rfl := Option.some.inj e
    rw [hd] at d
    cases d
end

/-- the law's call over any heap behind the top -/
theorem lawG {P : Program} {w : World} {T : Tb} {mg mb : Str → Option Value} {k : Nat} {f a : Addr} {fd : FuncData} {x : Str} {F : List PV → R PV} {s : Shared} {vs : List Value} {ns : List Int} (hk : T.K.In s.heap) (hmg : s.heap.Ns mainGlobals mg) (hmb : s.heap.Ns builtinsNs mb)
    (hbt : ∀ y : Str, y ≠ "__name__" → mb y = bootBuiltins y) (hlm : s.heap.NoLimit) (hgn : s.gens = #[]) (ho : s.heap.get? a = some { cls := .type "list", data := .seq vs.toArray }) (hin : PyProof.Rows.IntsAre vs ns) (hln : ns.length ≤ sizeLine) (hrm : Room k callerA)
    (hFn : ∀ base : Heap, T.K.In base → base.Ns mainGlobals mg → FnG T P w mg base k f fd [x] F) (hbd : ∀ (s : Shared) (u : Value), BindsTo s fd ⟨[u], []⟩ [(x, u)]) (hF : F (scr ns) = .ok (.bool true)) :
    codeAny (model P w) callerA (.call (.ref f) ⟨[.ref a], []⟩) (fun r s' => r = .ok (.ret (.bool true)) ∧ OldK s.heap s'.heap ∧ s'.os = s.os ∧ PyProof.Rows.AllBare s'.gens) s := by
  generalize eo : ({ cls := .type "list", data := .seq vs.toArray } : Obj) = o at ho
  have ed : o.data = .seq vs.toArray 0 := by rw [← eo]
  have rv : Vals (ns.map V.int) vs := vals_ints hin
  obtain ⟨H, eH⟩ : ∃ H, H = hpA T.K a o ns := ⟨_, rfl⟩
  -- the law's own reading of the script
  have hS : SqL T.K H a (ns.map V.int) := by
    cases q : T.K.lookup a with
    | none => exact .inl (.inr ⟨o, by rw [eH]; exact if_pos ⟨rfl, q⟩⟩)
    | some u =>
      have e := hk a u q
      rw [ho] at e
      obtain rfl := Option.some.inj e
      exact .inr ⟨_, vs.toArray, 0, q, by rw [← eo], by rw [← eo], ed, by rw [List.size_toArray, hin.length]; exact hln, by simpa using rv⟩
  have hD : ∀ {b : Addr} {u : Obj} {es : Array DictEntry} {ep : Nat}, s.heap.get? b = some u → u.data = .dict es ep → H b = none := fun e d => by
    rw [eH]
    exact hpA_ne ho ed e d
  have hN : ∀ {b : Addr} {m : Str → Option Value}, s.heap.Ns b m → (hidT s.heap H).Ns b m := fun ⟨u, es, ep, e, d, r⟩ => ⟨u, es, ep, hidT_get e (hD e d), d, r⟩
  have hB : T.K.In (hidT s.heap H) := fun b u e => hidT_get (hk b u e) (by
    cases q : H b with
    | none => rfl
    | some z =>
      rw [eH] at q
      obtain ⟨rfl, q2, _⟩ := hpA_some q
      rw [q2] at e
      cases e)
  have hok : HOk P w H s.heap := fun b u q => by
    rw [eH] at q
    obtain ⟨rfl, _, rfl⟩ := hpA_some q
    exact ⟨ho, by rw [List.length_map]; exact hln, vs, 0, rv, by rw [ho, ← eo]⟩
  obtain ⟨ml, l1, l2⟩ := hlm
  have E0 : Env0 P w T.K mg (hidT s.heap H) callerA [] s H :=
    { frames := rfl
      mod := ⟨hB, hN hmg, ⟨mb, hN hmb, hbt⟩, ⟨ml, hN l1, l2⟩⟩
      bs := fun _ _ e => of_hidT e
      bsz := Nat.le_of_eq (hidT_size _ _)
      funs := trivial
      frf := fun _ z => nomatch z
      hok := hok
      bare := .of_eq hgn }
  have hz : (ns.map V.int).length ≤ sizeLine := by rw [List.length_map]; exact hln
  have hrun := (hFn _ hB (hN hmg)).run callerA [] s H [] ⟨[.ref a], []⟩ [.ref a] [.ref a] (scr ns) (fun v _ => v = .bl true) (fun _ _ _ => False) hrm rfl E0 (hbd s (.ref a)) (.cons rfl .nil) (fun _ z => nomatch z)
    (.cons (.kn (by rw [hid_nil]; exact hS) (rep_ints ns) hz) .nil) rfl (by
      rw [hF]
      intro v H' _ rv
      cases rv
      rfl)
  refine codeAny_mono hrun fun r s' hr => ?_
  match r, hr with
  | .error e, hr =>
    obtain ⟨_, _, _, _, _, _, _, _, _, _, _, _, z⟩ := hr
    exact z.elim
  | .ok .next, hr => exact hr.elim
  | .ok .brk, hr => exact hr.elim
  | .ok .cont, hr => exact hr.elim
  | .ok (.ret u), ⟨v, H', e1, e2, un, hok', rv', ev⟩ =>
    subst ev
    obtain rfl : u = Value.bool true := rv'
    refine ⟨rfl, OldK.of_keep fun b u e => ?_, e1, e2⟩
    cases q : H b with
    | none => exact un.keep b u e q (fun z => nomatch (show b ∈ ([] : List Addr) from z)) (fun z => nomatch z)
    | some z =>
      rw [eH] at q
      obtain ⟨rfl, q2, rfl⟩ := hpA_some q
      have q3 := un.frzs b o _ (by rw [eH]; exact if_pos ⟨rfl, q2⟩)
      obtain ⟨e3, _⟩ := hok' b _ q3
      rw [ho] at e
      obtain rfl := Option.some.inj e
      exact e3

/-- the goal that the head leaves -/
theorem walkG {l : PySem.W.OpenLaw} {n k : Nat} {q : Program} {loose : List Str} {XP : (Str → Option Value) → Heap → Prop} {YP : World → Heap → Prop} {d : DefRec} {x : Str} (hm : l.most = some n) (hz : n ≤ sizeLine) (hdf : d.params.defaults = []) (hrm : Room k callerA)
    (F : List PV → R PV) (hF : ∀ ns : List Int, ns.length ≤ n → F (scr ns) = .ok (.bool true))
    (hC : ∀ (w : World) (mg : Str → Option Value) (f : Addr) (h : Heap), YP w h → h.Ns mainGlobals mg → mg d.name = some (.ref f) →
      ∃ (T : Tb) (fd : FuncData), T.K.In h ∧ (∀ (s : Shared) (u : Value), BindsTo s fd ⟨[u], []⟩ [(x, u)]) ∧ ∀ base : Heap, T.K.In base → base.Ns mainGlobals mg → FnG T l.prog w mg base k f fd [x] F) :
    PySem.W.WalkO q loose XP YP l.row.toRowW d [] (fun f vs => PySem.call f vs) := by
  refine Att.attach_call hm hdf fun w s₀ s₁ mg mb fa o pm cd doc a vs ns G Y ho hd hcd hmg hobj hin hln hg => ?_
  obtain ⟨T, fd, h1, h2, h3⟩ := hC w mg fa _ Y G.T.g hmg
  exact lawG h1 G.T.g G.T.b G.T.builtins G.T.nolimit hg hobj hin (Nat.le_trans hln hz) hrm h3 h2 (hF ns hln)
end VL
set_option Elab.async false
set_option linter.all false
set_option maxRecDepth 100000
set_option maxHeartbeats 4000000
/-! VLS: sets of texts: made of a list, of a text; sorted. -/
namespace VLS
open PySem PySem.Spec PyProof.Rows L2 PySem.Froz

/-- the set at a holds the texts l, in an order of its own -/
def SetS (P : Program) (w : World) (h : Heap) (a : Addr) (l : List Str) : Prop :=
  ∃ D : SD, h.get? a = some (sObj "set" D) ∧ TxOk P w D l ∧ l.Nodup ∧ D.1.size < scanBound ∧ Ris D.2.2.place.toList ∧ (w.params.followText "set-order" = true ∨ D.2.2.led = true)
def insS (l : List Str) (k : Str) : List Str := if k ∈ l then l else k :: l
def setS (xs : List Str) : List Str := xs.foldl insS []

theorem insS_nodup {l : List Str} (k : Str) (h : l.Nodup) : (insS l k).Nodup := by
  unfold insS
  split
  · exact h
  · rename_i c
    exact List.nodup_cons.mpr ⟨c, h⟩
theorem mem_insS {l : List Str} {k y : Str} : y ∈ insS l k ↔ y = k ∨ y ∈ l := by
  unfold insS
  split
  · rename_i c
    exact ⟨.inr, fun z => z.elim (fun e => e ▸ c) id⟩
  · exact List.mem_cons
theorem foldS_nodup : ∀ (xs l : List Str), l.Nodup → (xs.foldl insS l).Nodup
  | [], _, h => h
  | x :: xs, l, h => foldS_nodup xs (insS l x) (insS_nodup x h)
theorem mem_foldS {y : Str} : ∀ (xs l : List Str), y ∈ xs.foldl insS l ↔ y ∈ xs ∨ y ∈ l
  | [], l => by simp
  | x :: xs, l => by
    rw [List.foldl_cons, mem_foldS xs, mem_insS, List.mem_cons]
    constructor
    · rintro (h | h | h)
      · exact .inl (.inr h)
      · exact .inl (.inl h)
      · exact .inr h
    · rintro ((h | h) | h)
      · exact .inr (.inl h)
      · exact .inl h
      · exact .inr (.inr h)
theorem foldS_len : ∀ (xs l : List Str), (xs.foldl insS l).length ≤ xs.length + l.length
  | [], l => by simp
  | x :: xs, l => by
    have h := foldS_len xs (insS l x)
    have h2 : (insS l x).length ≤ l.length + 1 := by
      unfold insS
      split
      · omega
      · simp
    rw [List.foldl_cons, List.length_cons]
    omega
theorem setS_nodup (xs : List Str) : (setS xs).Nodup := foldS_nodup xs [] List.nodup_nil
theorem mem_setS {xs : List Str} {y : Str} : y ∈ setS xs ↔ y ∈ xs := by
  rw [show setS xs = xs.foldl insS [] from rfl, mem_foldS]
  simp
theorem setS_len (xs : List Str) : (setS xs).length ≤ xs.length := foldS_len xs []

section
variable {P : Program} {w : World} {A : Around} {E : Value → Shared → Prop} {s : Shared} {a : Addr} {l : List Str}
theorem SetS.keep {h h' : Heap} (R : SetS P w h a l) (k : ∀ o, h.get? a = some o → h'.get? a = some o) : SetS P w h' a l := by
  obtain ⟨D, h1, h2⟩ := R
  exact ⟨D, k _ h1, h2⟩
theorem tail_ris {ep : Nat} {es1 : Array (Int × Value)} {t2 : SetTable} {wd : Bool} (hr : Ris t2.place.toList) (hl : w.params.followText "set-order" = true ∨ t2.led = true) :
    Ris (tailTx ep es1 t2 wd).2.2.place.toList ∧ (w.params.followText "set-order" = true ∨ (tailTx ep es1 t2 wd).2.2.led = true) := by
  unfold tailTx
  split
  · exact ⟨relayAll_ris t2 es1 _, hl.imp id fun z => by rw [relayAll_led]; exact z⟩
  · exact ⟨hr, hl⟩
theorem add_ris {k : Str} {u : Tok} {D : SD} (hr : Ris D.2.2.place.toList) (hl : w.params.followText "set-order" = true ∨ D.2.2.led = true) :
    Ris (addTx (hashStr w k) (.str k u) D).2.2.place.toList ∧ (w.params.followText "set-order" = true ∨ (addTx (hashStr w k) (.str k u) D).2.2.led = true) := by
  unfold addTx
  refine tail_ris ?_ ?_
  · split
    · exact layNew_ris D.2.2 D.1 _ _ hr
    · exact layNew_ris D.2.2 D.1 _ _ hr
  · refine hl.imp id fun z => ?_
    have e := layNew_led D.2.2 D.1 (hashStr w k) (.str k u)
    split
    · exact e.trans z
    · exact e.trans z
/-- one more text -/
theorem setS_add {k : Str} {u : Tok} {Q : Bool → Shared → Prop} (R : SetS P w s.heap a l) (hb : l.length + 1 < scanBound) (hQ : ∀ b h', Heap.SameBut a s.heap h' → SetS P w h' a (insS l k) → Q b { s with heap := h' }) :
    wpAny (model P w) A (setAddHashed a (.str k u) (hashStr w k)) Q E s := by
  obtain ⟨D, ho, F, nd, hz, hr, hl⟩ := R
  by_cases hk : k ∈ l
  · obtain ⟨es, ep, t⟩ := D
    have ed : (sObj "set" (es, ep, t)).data = .set es ep t := rfl
    have hf : t.fits es.size = true := F.fit
    have hel : ElemsOf (strKind P w) es.toList := F.el
    have hkey : (strKind P w).is k (.str k u) = true := is_str k u
    unfold setAddHashed setAddHashedIn
    refine wpAny_holding (wpAny_bind (wpAny_setState_of ho ed hf ?_)); dsimp only
    rw [byScan_of rfl hz hel]; simp only [↓reduceIte]; unfold setAddByScan
    refine wpAny_bind ?_; refine wpAny_bind (wpAny_rule ?_); refine wpAny_bind (wpAny_setScan_of (knd := strKind P w) (k := k) hkey ho ed hf hel ?_)
    cases hfi : List.findIdx? (fun e => (strKind P w).is k e.2) es.toList with
    | none =>
      obtain ⟨e, he, q⟩ := (F.mem k).mp hk
      have z := List.findIdx?_eq_none_iff.mp hfi e he
      rw [q] at z
      cases z
    | some j =>
      dsimp only
      refine wpAny_pure (wpAny_pure ?_)
      have q := hQ false s.heap (Heap.SameBut.refl a s.heap) ⟨(es, ep, t), ho, by rw [insS, if_pos hk]; exact F, insS_nodup k nd, hz, hr, hl⟩
      exact q
  · have hD : D.1.size = l.length := F.sz
    have F2 := add_ok (P := P) u F (k := k)
    refine add_x ho F hk hb (hQ true _ (Heap.SameBut.update s.heap a _) ⟨addTx (hashStr w k) (.str k u) D, ?_, ?_, insS_nodup k nd, ?_, add_ris hr hl⟩)
    · exact get_upd _ ho rfl
    · rw [insS, if_neg hk]
      exact F2
    · have e : (addTx (hashStr w k) (.str k u) D).1.size = l.length + 1 := F2.sz
      rw [e]
      exact hb
/-- a walk over texts puts them in -/
theorem set_loop {I : Addr} {fp wr : List Addr} {G : Array GenState → Array GenState → Prop} {n : Nat} {Pv : Nat → Value → Prop} {St : Nat → Shared → Prop} {R : Result → Shared → Prop} (W : WalksS P w A.in1 I fp wr G n Pv St) (S : Addr) (hSf : S ∉ fp) (xs : List Str) (hn : n = xs.length)
    (hb : xs.length + 1 < scanBound) (hval : ∀ i v, Pv i v → ∃ k t, xs[i]? = some k ∧ v = .str k t) : ∀ (k i : Nat) (s : Shared), n - i = k → i ≤ n → St i s → SetS P w s.heap S (setS (xs.take i)) → (∀ s', Moved (S :: wr) G s s' → SetS P w s'.heap S (setS xs) → R (.ok (.ret .none)) s') →
      codeAny (model P w) A (.builtin "set.update.loop" ⟨[.ref S, .ref I], []⟩) R s := by
  have hSw : S ∉ wr := fun z => hSf (W.sub _ z)
  have hsub : ∀ b ∈ wr, b ∈ S :: wr := fun b z => .tail _ z
  intro k
  induction k with
  | zero =>
    intro i s ek hi hst hS hR
    obtain rfl : i = n := by omega
    refine codeAny_builtin F.entry_set_update_loop ?_; rw [Around.under_plainId F.plain_set_update_loop _]
    show wpAny _ A.in1 (pyNext (.ref I) >>= _) _ _ s
    refine wpAny_bind (W.done s _ _ hst fun s' hm => ?_)
    show wpAny _ A.in1 (ret Value.none) _ _ s'
    rw [List.take_of_length_le (by omega)] at hS
    exact wpAny_pure (hR s' (hm.mono hsub) (hS.keep fun o e => hm.heap S o hSw e))
  | succ k ih =>
    intro i s ek hi hst hS hR
    have hlt : i < n := by omega
    refine codeAny_builtin F.entry_set_update_loop ?_; rw [Around.under_plainId F.plain_set_update_loop _]
    show wpAny _ A.in1 (pyNext (.ref I) >>= _) _ _ s
    refine wpAny_bind (W.item i s _ _ hlt hst fun v s' hP hst' hm => ?_)
    obtain ⟨z, t, hz, rfl⟩ := hval i v hP
    have hS' : SetS P w s'.heap S (setS (xs.take i)) := hS.keep fun o e => hm.heap S o hSw e
    show wpAny _ A.in1 (holding [Value.str z t] (setAdd S (.str z t)) >>= _) _ _ s'
    refine wpAny_bind (wpAny_holding ?_); unfold setAdd; refine wpAny_holding ?_
    refine wpAny_bind ((strKind P w).pyHash (k := z) (is_str z t) ?_)
    have hlen : (setS (xs.take i)).length + 1 < scanBound := by
      have q := setS_len (xs.take i)
      rw [List.length_take] at q
      omega
    refine setS_add (s := { s' with toks := s'.toks + 1 }) hS' hlen fun b h' hsb hS2 => ?_
    have hS3 : SetS P w h' S (setS (xs.take (i + 1))) := by
      rw [List.take_add_one, hz]
      show SetS P w h' S ((xs.take i ++ [z]).foldl insS [])
      rw [List.foldl_append]
      exact hS2
    refine wpAny_pure ⟨plainId_quiet F.plain_set_update_loop _, ih (i + 1) _ (by omega) hlt (W.frame _ s' _ _ hst' (Nat.le_succ _) fun b hb o e => ?_) hS3 fun s'' hm'' hS'' => ?_⟩
    · rw [hsb.2 b (fun h : b = S => hSf (by rw [← h]; exact hb))]
      exact e
    · refine hR s'' (Moved.trans W.gtrans ((hm.mono hsub).then_heap (Nat.le_succ _) fun b o hb e => ?_) hm'') hS''
      rw [hsb.2 b (fun h : b = S => hb (by rw [h]; exact .head _))]
      exact e
theorem setS_new {h : Heap} (ho : h.get? a = some { cls := .type "set", dict := none, data := .set #[] 0 (.fresh 0 0 (!w.params.followText "set-order")) }) : SetS P w h a [] :=
  ⟨(#[], 0, .fresh 0 0 (!w.params.followText "set-order")), ho, TxOk.nil (by rfl), List.nodup_nil, (by show (0 : Nat) < scanBound; decide), List.Pairwise.nil, by
    show _ ∨ (!w.params.followText "set-order") = true
    cases w.params.followText "set-order" <;> simp⟩
end
end VLS
set_option Elab.async false
set_option linter.all false
set_option maxRecDepth 100000
set_option maxHeartbeats 4000000
/-! VLS2: set(..) of texts. -/
namespace VLS
open PySem PySem.Spec PyProof.Rows L2 PySem.Froz
abbrev nuO (w : World) : Obj := { cls := .type "set", dict := none, data := .set #[] 0 (.fresh 0 0 (!w.params.followText "set-order")) }
section
variable {P : Program} {w : World} {A : Around} {E : Value → Shared → Prop} {s : Shared}
/-- set(list of texts) -/
theorem set_list {l : Addr} {items : Array Value} (xs : List Str) {Q : Value → Shared → Prop} (hh : A.handled = none) (hl : s.heap.IsList l items) (hi : StrsAre items.toList xs) (hb : xs.length + 1 < scanBound)
    (h : ∀ (h' : Heap) (tk : Nat), SetS P w h' s.heap.objs.size (setS xs) → (∀ b o, s.heap.get? b = some o → h'.get? b = some o) → Q (.ref s.heap.objs.size) { s with heap := h', toks := tk }) : wpAny (model P w) A (call (.type "set") [.ref l]) Q E s := by
  have hsz : items.size = xs.length := by
    have q := StrsAre.len_eq hi
    rwa [Array.length_toList] at q
  obtain ⟨cc, tl, hmro⟩ := F.called_set.mro
  have f1 := F.called_set.made; have f2 := F.called_set.sub
  refine wpAny_call (codeAny_of_tree ?_); show wpAny _ _ (callAny (.type "set") _) _ _ _
  refine wpAny_pure ⟨Code.quiet_builtin _ (by decide +kernel), codeAny_builtin F.entry_type_call ?_⟩; rw [Around.under_plain (weight_type_call_type "set" [.ref l] []) rfl]
  have f3 := F.called_set.notType; have f4 := F.called_set.canCreate; have f5 := F.typeCall_set_1 (.ref l)
  repeat (any_goals (first | assumption | wp_step))
  refine codeAny_mono (code_set_led1 (.ref l) (E := E) (Q₁ := fun obj s₁ => obj = .ref s.heap.objs.size ∧ s₁ = { s with heap := s.heap.push (nuO w) }) ⟨rfl, rfl⟩) fun r s₁ hr => ?_
  match r, hr with
  | .error e, hr => exact hr
  | .ok .next, hr => exact hr.elim
  | .ok .brk, hr => exact hr.elim
  | .ok .cont, hr => exact hr.elim
  | .ok (.ret obj), ⟨e1, e2⟩ =>
    subst e1; subst e2
    have gS : (s.heap.push (nuO w)).get? s.heap.objs.size = some (nuO w) := Heap.get?_push_size _ rfl
    have gT : Shared.TypeIs { s with heap := s.heap.push (nuO w) } (.ref s.heap.objs.size) "set" := ⟨_, gS, rfl⟩
    have f6 := F.called_set.init.lookup; have f7 := F.called_set.init.bind (.ref s.heap.objs.size)
    repeat (any_goals (first | assumption | wp_step))
    refine codeAny_mono (codeAny_call_builtin (R := wants (fun r s₂ => r = .none ∧ ∃ h' tk, s₂ = { s with heap := h', toks := tk } ∧ SetS P w h' s.heap.objs.size (setS xs) ∧ (∀ b o, s.heap.get? b = some o → h'.get? b = some o)) E) F.called_set.init.plain F.entry_set_init (check_set_init_1 gT ?_)) fun r₂ s₂ hr₂ => ?_
    · obtain ⟨⟨ocls, odict, odata, osl⟩, hol, hcl, nl, hdl⟩ := hl
      simp only at hcl hdl
      subst hcl; subst hdl
      have f8 := F.sub_list_set; have f9 := F.sub_list_frozenset
      have f0 : (Value.type "list" == Value.type "dict") = false := by decide
      have hol2 : (s.heap.push (nuO w)).get? l = some { cls := .type "list", dict := odict, data := .seq items nl, slots := osl } := Heap.get?_push_of_some _ hol
      have hl1 : (s.heap.push (nuO w)).IsList l items := ⟨_, hol2, rfl, nl, rfl⟩
      unfold Builtin.«set.__init__» noKeywords Builtin.Frozenset.updateFrom
      generalize hPI : pyIter = PI; wp_walk; subst hPI
      refine wpAny_pyIter_list hl1 ?_; refine wpAny_bind (wpAny_runValue ?_)
      have hlS : l < s.heap.objs.size := Heap.lt_size hol
      have hh3 : A.in1.in1.in1.handled = none := by simp [hh]
      have z1 : (s.heap.push (nuO w)).objs.size = s.heap.objs.size + 1 := Heap.size_push ..
      have z2 : l ≠ (s.heap.push (nuO w)).objs.size := by rw [z1]; exact Nat.ne_of_lt (Nat.lt_succ_of_lt hlS)
      have z3 : s.heap.objs.size ∉ [(s.heap.push (nuO w)).objs.size, l] := by
        rw [z1]; simp only [List.mem_cons, List.not_mem_nil, or_false, not_or]; exact ⟨Nat.ne_of_lt (Nat.lt_succ_self _), Nat.ne_of_gt hlS⟩
      have hval : ∀ (i : Nat) (v : Value), items[i]? = some v → ∃ k t, xs[i]? = some k ∧ v = .str k t := fun i v hv => by
        have hi2 : i < xs.length := by rw [← hsz]; exact (Array.getElem?_eq_some_iff.mp hv).1
        obtain ⟨t, e⟩ := SS.strs_at hi i v (by rw [Array.getElem?_toList]; exact hv)
        exact ⟨xs[i], t, List.getElem?_eq_getElem hi2, by rw [e, List.getD_eq_getElem?_getD, List.getElem?_eq_getElem hi2] <;> rfl⟩
      refine set_loop ((Walks.list hh3 _ l z2 items).toS) s.heap.objs.size z3 xs hsz hb hval (items.size - 0) 0 _ (by omega) (Nat.zero_le _) ⟨⟨_, Heap.get?_push_size _ rfl, rfl, rfl⟩, (hl1.push _)⟩ (setS_new (Heap.get?_push_of_some _ gS)) fun s' hm hS' => ?_
      obtain ⟨h', g2, d', tk', os'⟩ := s'
      obtain rfl : g2 = s.gens := hm.gens
      obtain rfl : d' = s.drawn := hm.drawn
      obtain rfl : os' = s.os := hm.os
      show wpAny _ _ _ _ _ _; refine wpAny_pure ?_; show wpAny _ _ (ret Value.none) _ _ _
      refine wpAny_pure ⟨rfl, h', tk', rfl, hS', fun b o e => ?_⟩
      have b0 : b < s.heap.objs.size := Heap.lt_size e
      exact hm.heap b o (by rw [z1]; simp only [List.mem_cons, List.not_mem_nil, or_false, not_or]; exact ⟨Nat.ne_of_lt b0, Nat.ne_of_lt (Nat.lt_succ_of_lt b0)⟩) (Heap.get?_push_of_some _ (Heap.get?_push_of_some _ e))
    · match r₂, hr₂ with
      | .error e, hr₂ => exact hr₂
      | .ok .next, hr₂ => exact hr₂.elim
      | .ok .brk, hr₂ => exact hr₂.elim
      | .ok .cont, hr₂ => exact hr₂.elim
      | .ok (.ret r), ⟨e3, h', tk, e4, hS', hk'⟩ =>
        subst e3; subst e4
        repeat (any_goals (first | assumption | wp_step))
        exact h _ _ hS' hk'
/-- set(text): its signs -/
def sgs (x : Str) : List Str := x.cps.toList.map sing
theorem set_str {x : Str} {tx : Tok} {Q : Value → Shared → Prop} (hh : A.handled = none) (hb : x.length + 1 < scanBound)
    (h : ∀ (h' : Heap) (tk : Nat), SetS P w h' s.heap.objs.size (setS (sgs x)) → (∀ b o, s.heap.get? b = some o → h'.get? b = some o) → Q (.ref s.heap.objs.size) { s with heap := h', toks := tk }) : wpAny (model P w) A (call (.type "set") [.str x tx]) Q E s := by
  have hsz : x.cps.size = (sgs x).length := by simp [sgs]
  obtain ⟨cc, tl, hmro⟩ := F.called_set.mro
  have f1 := F.called_set.made; have f2 := F.called_set.sub
  refine wpAny_call (codeAny_of_tree ?_); show wpAny _ _ (callAny (.type "set") _) _ _ _
  refine wpAny_pure ⟨Code.quiet_builtin _ (by decide +kernel), codeAny_builtin F.entry_type_call ?_⟩; rw [Around.under_plain (weight_type_call_type "set" [.str x tx] []) rfl]
  have f3 := F.called_set.notType; have f4 := F.called_set.canCreate; have f5 := F.typeCall_set_1 (.str x tx)
  repeat (any_goals (first | assumption | wp_step))
  refine codeAny_mono (code_set_led1 (.str x tx) (E := E) (Q₁ := fun obj s₁ => obj = .ref s.heap.objs.size ∧ s₁ = { s with heap := s.heap.push (nuO w) }) ⟨rfl, rfl⟩) fun r s₁ hr => ?_
  match r, hr with
  | .error e, hr => exact hr
  | .ok .next, hr => exact hr.elim
  | .ok .brk, hr => exact hr.elim
  | .ok .cont, hr => exact hr.elim
  | .ok (.ret obj), ⟨e1, e2⟩ =>
    subst e1; subst e2
    have gS : (s.heap.push (nuO w)).get? s.heap.objs.size = some (nuO w) := Heap.get?_push_size _ rfl
    have gT : Shared.TypeIs { s with heap := s.heap.push (nuO w) } (.ref s.heap.objs.size) "set" := ⟨_, gS, rfl⟩
    have f6 := F.called_set.init.lookup; have f7 := F.called_set.init.bind (.ref s.heap.objs.size)
    repeat (any_goals (first | assumption | wp_step))
    refine codeAny_mono (codeAny_call_builtin (R := wants (fun r s₂ => r = .none ∧ ∃ h' tk, s₂ = { s with heap := h', toks := tk } ∧ SetS P w h' s.heap.objs.size (setS (sgs x)) ∧ (∀ b o, s.heap.get? b = some o → h'.get? b = some o)) E) F.called_set.init.plain F.entry_set_init (check_set_init_1 gT ?_)) fun r₂ s₂ hr₂ => ?_
    · have f8 := F.sub_str_set; have f9 := F.sub_str_frozenset
      have f0 : (Value.type "str" == Value.type "dict") = false := by decide
      unfold Builtin.«set.__init__» noKeywords Builtin.Frozenset.updateFrom
      generalize hPI : pyIter = PI; wp_walk; subst hPI
      refine wpAny_pyIter_str fun o St W st0 => ?_; refine wpAny_bind (wpAny_runValue ?_)
      have hh3 : A.in1.in1.in1.handled = none := by simp [hh]
      have z1 : (s.heap.push (nuO w)).objs.size = s.heap.objs.size + 1 := Heap.size_push ..
      have z3 : s.heap.objs.size ∉ [(s.heap.push (nuO w)).objs.size] := by
        rw [z1]; simp only [List.mem_cons, List.not_mem_nil, or_false]; exact Nat.ne_of_lt (Nat.lt_succ_self _)
      have hval : ∀ (i : Nat) (v : Value), SignAt x i v → ∃ k t, (sgs x)[i]? = some k ∧ v = .str k t := fun i v ⟨c, u, h1, h2⟩ => ⟨sing c, u, by simp [sgs, h1], h2⟩
      refine set_loop ((W _ hh3).toS) s.heap.objs.size z3 (sgs x) hsz (by rw [← hsz]; exact hb) hval (x.cps.size - 0) 0 _ (by omega) (Nat.zero_le _) st0 (setS_new (Heap.get?_push_of_some _ gS)) fun s' hm hS' => ?_
      obtain ⟨h', g2, d', tk', os'⟩ := s'
      obtain rfl : g2 = s.gens := hm.gens
      obtain rfl : d' = s.drawn := hm.drawn
      obtain rfl : os' = s.os := hm.os
      show wpAny _ _ _ _ _ _; refine wpAny_pure ?_; show wpAny _ _ (ret Value.none) _ _ _
      refine wpAny_pure ⟨rfl, h', tk', rfl, hS', fun b o e => ?_⟩
      have b0 : b < s.heap.objs.size := Heap.lt_size e
      exact hm.heap b o (by rw [z1]; simp only [List.mem_cons, List.not_mem_nil, or_false, not_or]; exact ⟨Nat.ne_of_lt b0, Nat.ne_of_lt (Nat.lt_succ_of_lt b0)⟩) (Heap.get?_push_of_some _ (Heap.get?_push_of_some _ e))
    · match r₂, hr₂ with
      | .error e, hr₂ => exact hr₂
      | .ok .next, hr₂ => exact hr₂.elim
      | .ok .brk, hr₂ => exact hr₂.elim
      | .ok .cont, hr₂ => exact hr₂.elim
      | .ok (.ret r), ⟨e3, h', tk, e4, hS', hk'⟩ =>
        subst e3; subst e4
        repeat (any_goals (first | assumption | wp_step))
        exact h _ _ hS' hk'
end
end VLS
set_option Elab.async false
set_option linter.all false
set_option autoImplicit false
/-! VPS: plain facts of the sorts. -/
namespace VL
/-! ### texts -/
theorem ltN_dec : ∀ x y : List Nat, ltN x y = decide (x < y)
  | [], [] => by simp [ltN]
  | [], _ :: _ => by simp [ltN]
  | _ :: _, [] => by simp [ltN]
  | x :: xs, y :: ys => by
    unfold ltN
    rw [ltN_dec xs ys, Bool.eq_iff_iff]
    simp only [Bool.or_eq_true, Bool.and_eq_true, decide_eq_true_eq, beq_iff_eq]
    exact List.cons_lt_cons_iff.symm
def leN (x y : List Nat) : Prop := ltN y x = false
theorem leN_iff {x y : List Nat} : leN x y ↔ x ≤ y := by
  unfold leN
  rw [ltN_dec, decide_eq_false_iff_not]
  exact List.not_lt
theorem leN_refl (x : List Nat) : leN x x := leN_iff.mpr (List.le_refl x)
theorem leN_trans {x y z : List Nat} (h1 : leN x y) (h2 : leN y z) : leN x z := leN_iff.mpr (List.le_trans (leN_iff.mp h1) (leN_iff.mp h2))
theorem leN_anti {x y : List Nat} (h1 : leN x y) (h2 : leN y x) : x = y := List.le_antisymm (leN_iff.mp h1) (leN_iff.mp h2)
theorem leN_of_lt {x y : List Nat} (h : ltN x y = true) : leN x y := by
  rw [ltN_dec, decide_eq_true_eq] at h
  exact leN_iff.mpr (List.le_of_lt h)
theorem ltN_irrefl (x : List Nat) : ltN x x = false := leN_refl x
theorem leN_total (x y : List Nat) : leN x y ∨ leN y x := by
  cases h : ltN y x
  · exact .inl h
  · exact .inr (leN_of_lt h)
theorem insN_perm (x : List Nat) : ∀ l, (insN x l).Perm (x :: l)
  | [] => .refl _
  | y :: ys => by
    unfold insN
    split
    · exact (List.Perm.cons y (insN_perm x ys)).trans (List.Perm.swap x y ys)
    · exact .refl _
theorem sortN_perm : ∀ l, (sortN l).Perm l
  | [] => .refl _
  | x :: xs => (insN_perm x (sortN xs)).trans (List.Perm.cons x (sortN_perm xs))
theorem insN_pw (x : List Nat) : ∀ l, l.Pairwise leN → (insN x l).Pairwise leN
  | [], _ => List.pairwise_singleton _ _
  | y :: ys, h => by
    obtain ⟨h1, h2⟩ := List.pairwise_cons.mp h
    unfold insN
    split
    · rename_i c
      refine List.pairwise_cons.mpr ⟨fun z hz => ?_, insN_pw x ys h2⟩
      rcases List.mem_cons.mp ((insN_perm x ys).mem_iff.mp hz) with e | hz
      · rw [e]
        exact leN_of_lt c
      · exact h1 z hz
    · rename_i c
      have c' : leN x y := Bool.eq_false_iff.mpr c
      refine List.pairwise_cons.mpr ⟨fun z hz => ?_, h⟩
      rcases List.mem_cons.mp hz with e | hz
      · rw [e]
        exact c'
      · exact leN_trans c' (h1 z hz)
theorem sortN_pw : ∀ l, (sortN l).Pairwise leN
  | [] => .nil
  | x :: xs => insN_pw x _ (sortN_pw xs)
theorem sort_uniqN : ∀ {l m : List (List Nat)}, l.Perm m → l.Pairwise leN → m.Pairwise leN → l = m
  | [], m, p, _, _ => (List.Perm.nil_eq p)
  | x :: l, [], p, _, _ => absurd p.symm (by simp)
  | x :: l, y :: m, p, h1, h2 => by
    obtain ⟨a1, a2⟩ := List.pairwise_cons.mp h1
    obtain ⟨b1, b2⟩ := List.pairwise_cons.mp h2
    have e : x = y := by
      have hx := p.mem_iff.mp (List.mem_cons_self (a := x) (l := l))
      have hy := p.mem_iff.mpr (List.mem_cons_self (a := y) (l := m))
      rcases List.mem_cons.mp hx with e | hx
      · exact e
      rcases List.mem_cons.mp hy with e | hy
      · exact e.symm
      exact leN_anti (a1 y hy) (b1 x hx)
    subst e
    rw [sort_uniqN (List.perm_cons x |>.mp p) a2 b2]
theorem sortN_of {l m : List (List Nat)} (p : m.Perm l) (h : m.Pairwise leN) : m = sortN l := sort_uniqN (p.trans (sortN_perm l).symm) h (sortN_pw l)
theorem sortN_id {l : List (List Nat)} (h : l.Pairwise leN) : sortN l = l := (sortN_of (.refl l) h).symm
/-- without repeats -/
def dedN : List (List Nat) → List (List Nat)
  | [] => []
  | x :: xs => if (dedN xs).any (fun y => y == x) then dedN xs else x :: dedN xs
theorem mem_dedN {y : List Nat} : ∀ {l}, y ∈ dedN l ↔ y ∈ l
  | [] => .rfl
  | x :: xs => by
    unfold dedN
    split
    · rename_i c
      obtain ⟨z, h1, h2⟩ := List.any_eq_true.mp c
      have e : z = x := eq_of_beq h2
      rw [mem_dedN, List.mem_cons]
      refine ⟨.inr, fun h => h.elim (fun q => ?_) id⟩
      rw [q, ← e]
      exact mem_dedN.mp h1
    · rw [List.mem_cons, List.mem_cons, mem_dedN]
theorem dedN_nodup : ∀ l, (dedN l).Nodup
  | [] => .nil
  | x :: xs => by
    unfold dedN
    split
    · exact dedN_nodup xs
    · rename_i c
      refine List.nodup_cons.mpr ⟨fun h => c (List.any_eq_true.mpr ⟨x, h, by simp⟩), dedN_nodup xs⟩
theorem dedN_perm {l m : List (List Nat)} (h1 : m.Nodup) (h2 : ∀ y, y ∈ m ↔ y ∈ l) : m.Perm (dedN l) := (List.perm_ext_iff_of_nodup h1 (dedN_nodup l)).mpr fun y => (h2 y).trans mem_dedN.symm
theorem dedN_len : ∀ l, (dedN l).length ≤ l.length
  | [] => Nat.le_refl 0
  | x :: xs => by
    unfold dedN
    have h := dedN_len xs
    split <;> simp <;> omega
/-! ### whole numbers -/
theorem insI_perm (x : Int) : ∀ l, (insI x l).Perm (x :: l)
  | [] => .refl _
  | y :: ys => by
    unfold insI
    split
    · exact (List.Perm.cons y (insI_perm x ys)).trans (List.Perm.swap x y ys)
    · exact .refl _
theorem sortI_perm : ∀ l, (sortI l).Perm l
  | [] => .refl _
  | x :: xs => (insI_perm x (sortI xs)).trans (List.Perm.cons x (sortI_perm xs))
theorem insI_pw (x : Int) : ∀ l, l.Pairwise (· ≤ ·) → (insI x l).Pairwise (· ≤ ·)
  | [], _ => List.pairwise_singleton _ _
  | y :: ys, h => by
    obtain ⟨h1, h2⟩ := List.pairwise_cons.mp h
    unfold insI
    split
    · rename_i c
      refine List.pairwise_cons.mpr ⟨fun z hz => ?_, insI_pw x ys h2⟩
      rcases List.mem_cons.mp ((insI_perm x ys).mem_iff.mp hz) with e | hz
      · omega
      · exact h1 z hz
    · rename_i c
      refine List.pairwise_cons.mpr ⟨fun z hz => ?_, h⟩
      rcases List.mem_cons.mp hz with e | hz
      · omega
      · have := h1 z hz
        omega
theorem sortI_pw : ∀ l, (sortI l).Pairwise (· ≤ ·)
  | [] => .nil
  | x :: xs => insI_pw x _ (sortI_pw xs)
theorem sort_uniqI : ∀ {l m : List Int}, l.Perm m → l.Pairwise (· ≤ ·) → m.Pairwise (· ≤ ·) → l = m
  | [], m, p, _, _ => (List.Perm.nil_eq p)
  | x :: l, [], p, _, _ => absurd p.symm (by simp)
  | x :: l, y :: m, p, h1, h2 => by
    obtain ⟨a1, a2⟩ := List.pairwise_cons.mp h1
    obtain ⟨b1, b2⟩ := List.pairwise_cons.mp h2
    have e : x = y := by
      have hx := p.mem_iff.mp (List.mem_cons_self (a := x) (l := l))
      have hy := p.mem_iff.mpr (List.mem_cons_self (a := y) (l := m))
      rcases List.mem_cons.mp hx with e | hx
      · exact e
      rcases List.mem_cons.mp hy with e | hy
      · exact e.symm
      have q1 := a1 y hy
      have q2 := b1 x hx
      omega
    subst e
    rw [sort_uniqI (List.perm_cons x |>.mp p) a2 b2]
theorem sortI_of {l m : List Int} (p : m.Perm l) (h : m.Pairwise (· ≤ ·)) : m = sortI l := sort_uniqI (p.trans (sortI_perm l).symm) h (sortI_pw l)
/-! ### the values -/
/-- sorted(set(x)): of texts; of a text -/
def ssetP : PV → R PV
  | .list xs => match strsP xs with
    | some l => if l.length + 1 < 4096 then .ok (.list ((sortN (dedN l)).map .str)) else .bad
    | none => .bad
  | .str x => if x.length + 1 < 4096 then .ok (.list ((sortN (dedN (x.map fun c => [c]))).map .str)) else .bad
  | _ => .bad
end VL
set_option Elab.async false
set_option linter.all false
set_option maxRecDepth 100000
set_option maxHeartbeats 4000000
/-! VLS3: sorted of a set of texts, of a list. -/
namespace VLS
open PySem PySem.Spec PyProof.Rows L2 PySem.Froz
theorem ltCps_eq : ∀ x y : List Nat, ltCps x y = VL.ltN x y
  | [], [] => rfl
  | [], _ :: _ => rfl
  | _ :: _, [] => rfl
  | x :: xs, y :: ys => by
    show (decide (x < y) || (x == y && ltCps xs ys)) = _
    rw [ltCps_eq xs ys]
    rfl
abbrev cp (x : Str) : List Nat := x.cps.toList
theorem rising_pw : ∀ (ss : List Str) (x : Str), risingS x ss = true → (∀ y ∈ ss, VL.leN (cp x) (cp y)) ∧ (ss.map cp).Pairwise VL.leN
  | [], x, _ => ⟨fun _ h => (nomatch h), List.Pairwise.nil⟩
  | y :: ss, x, h => by
    unfold risingS at h
    rw [Bool.and_eq_true, ltCps_eq, Bool.not_eq_true'] at h
    obtain ⟨h1, h2⟩ := h
    obtain ⟨a1, a2⟩ := rising_pw ss y h2
    have e : VL.leN (cp x) (cp y) := h1
    refine ⟨fun z hz => ?_, List.pairwise_cons.mpr ⟨fun z hz => ?_, a2⟩⟩
    · rcases List.mem_cons.mp hz with q | hz
      · rw [q]
        exact e
      · exact VL.leN_trans e (a1 z hz)
    · obtain ⟨w, hw, rfl⟩ := List.mem_map.mp hz
      exact a1 w hw
theorem sorted_pw {ss : List Str} (h : sortedS ss = true) : (ss.map cp).Pairwise VL.leN := by
  cases ss with
  | nil => exact .nil
  | cons x r =>
    obtain ⟨a1, a2⟩ := rising_pw r x h
    refine List.pairwise_cons.mpr ⟨fun z hz => ?_, a2⟩
    obtain ⟨w, hw, rfl⟩ := List.mem_map.mp hz
    exact a1 w hw
section
variable {P : Program} {w : World} {A : Around} {E : Value → Shared → Prop} {s : Shared} {a : Addr} {l : List Str}
theorem strs_vals : ∀ {es : List (Int × Value)}, ElemsOf (strKind P w) es → ∃ ks : List Str, StrsAre (es.map (·.2)) ks ∧ ∀ k, k ∈ ks ↔ ∃ e ∈ es, (strKind P w).is k e.2 = true
  | [], _ => ⟨[], .nil, fun k => by simp⟩
  | e :: es, h => by
    obtain ⟨ks, h1, h2⟩ := strs_vals (ElemsOf.tail h)
    obtain ⟨⟨k, hk, _⟩, _⟩ := ElemsOf.head h
    obtain ⟨eh, ev⟩ := e
    have ev2 : ∃ u, ev = .str k u := by
      have q : Value.isStrOf k ev = true := hk
      cases ev with
      | str x u =>
        have e2 : x = k := by
          simpa [Value.isStrOf] using q
        exact ⟨u, by rw [e2]⟩
      | _ => simp [Value.isStrOf] at q
    obtain ⟨u, rfl⟩ := ev2
    refine ⟨k :: ks, .cons k u h1, fun k' => ?_⟩
    rw [List.mem_cons, h2]
    constructor
    · rintro (q | ⟨e, he, q⟩)
      · exact ⟨_, .head _, by rw [q]; exact hk⟩
      · exact ⟨e, .tail _ he, q⟩
    · rintro ⟨e, he, q⟩
      rcases List.mem_cons.mp he with e2 | he
      · rw [e2] at q
        exact .inl ((strKind P w).inj _ k' k q hk)
      · exact .inr ⟨e, he, q⟩
theorem strs_perm : ∀ {us vs : List Value} {ks : List Str}, StrsAre vs ks → us.Perm vs → ∃ ks', StrsAre us ks' ∧ ks'.Perm ks := by
  intro us vs ks h p
  refine ⟨us.map fun v => match v with | .str x _ => x | _ => Str.empty, ?_, ?_⟩
  · have hm : ∀ v ∈ us, ∃ x u, v = .str x u := fun v hv => by
      have hv2 := p.mem_iff.mp hv
      clear p hv
      induction h with
      | nil => cases hv2
      | cons k u t ih =>
        rcases List.mem_cons.mp hv2 with e | hv2
        · exact ⟨k, u, e⟩
        · exact ih hv2
    clear p h
    induction us with
    | nil => exact .nil
    | cons v us ih =>
      obtain ⟨x, u, rfl⟩ := hm v (.head _)
      exact .cons x u (ih fun v hv => hm v (.tail _ hv))
  · have e : (vs.map fun v => match v with | .str x _ => x | _ => Str.empty) = ks := by
      clear p
      induction h with
      | nil => rfl
      | cons k u t ih => rw [List.map_cons, ih]
    rw [← e]
    exact p.map _
theorem perm_sub : ∀ {l ks : List Str}, l.Nodup → (∀ k ∈ l, k ∈ ks) → ks.length ≤ l.length → ks.Perm l
  | [], ks, _, _, h => by
    cases ks with
    | nil => exact .refl _
    | cons => simp at h
  | x :: l, ks, nd, hs, h => by
    obtain ⟨n1, n2⟩ := List.nodup_cons.mp nd
    have hx : x ∈ ks := hs x (.head _)
    have hp := List.perm_cons_erase hx
    have e := hp.length_eq
    rw [List.length_cons] at e h
    refine hp.trans (List.Perm.cons x (perm_sub n2 (fun k hk => ?_) (by omega)))
    have hne : k ≠ x := fun z => n1 (z ▸ hk)
    exact (List.mem_erase_of_ne hne).mpr (hs k (.tail _ hk))
theorem setS_len_eq {D : SD} (F : TxOk P w D l) : D.1.size = l.length := F.sz
theorem sorted_setS {Q : Value → Shared → Prop} (R : SetS P w s.heap a l) (hh : A.handled = none)
    (hQ : ∀ s' p (out : Array Value) (c : Nat) (ss : List Str), (∀ b o, s.heap.get? b = some o → s'.heap.get? b = some o) → s'.gens = s.gens → s'.os = s.os → s.heap.objs.size ≤ p → s'.heap.get? p = some (seqObj "list" out c) → StrsAre out.toList ss → sortedS ss = true → ss.Perm l → Q (.ref p) s') :
    wpAny (model P w) A (call (.builtin "sorted") [.ref a]) Q E s := by
  obtain ⟨⟨es, ep, t⟩, ho, F, nd, hb, hr, hl⟩ := R
  have hf : t.fits es.size = true := F.fit
  have hn : es.size = l.length := F.sz
  refine Calls.call_function_entry kind_sorted plain_sorted entry_sorted (args_sorted1 _) ?_
  unfold Builtin.«sorted»
  refine wpAny_bind (m := checkCount "sorted" 1 1 _) (wpAny_pure ?_); refine wpAny_bind (collect_set (A := A.in1) hh ⟨_, ho, rfl, rfl⟩ hf hb hr hl fun s1 vs k1 hz g1 o1 pm => ?_)
  obtain ⟨ks, q1, q2⟩ := strs_vals (P := P) (w := w) F.el
  obtain ⟨ks', q3, q4⟩ := strs_perm q1 pm
  have hvl : vs.length = l.length := by rw [pm.length_eq, List.length_map, Array.length_toList]; exact hn
  have hks : ks.length = l.length := by
    have e := StrsAre.len_eq q1
    rw [List.length_map, Array.length_toList] at e
    exact e.symm.trans hn
  have hsub : ∀ k, k ∈ l → k ∈ ks := fun k hk => (q2 k).mpr ((F.mem k).mp hk)
  have hpl : ks.Perm l := perm_sub nd hsub (by omega)
  have hsz : vs.length ≤ sizeLine := by
    rw [hvl, ← hn, sizeLine_eq]
    have : es.size < scanBound := hb
    unfold scanBound at this
    omega
  refine wpAny_bind (wpAny_newList ?_ hsz)
  have hoL : (s1.heap.push (seqObj "list" vs.toArray 0)).get? s1.heap.objs.size = some (seqObj "list" vs.toArray 0) := Heap.get?_push_size _ rfl
  refine wpAny_bind (wpAny_holding (wpAny_call_entry slot_list_sort ⟨_, hoL, rfl⟩ entry_list_sort (list_sort_treeKAny strKind_oneLt hoL q3.keysOf (fun v₁ v₂ rest e => keyKind_strs (by rw [← e]; exact q3)) hsz fun st' hp hs => ⟨_, rfl, ?_⟩) (args_list_sort _)))
  obtain ⟨ss', a1, a2, a3⟩ := sorted_out_str q3 hp hs
  obtain ⟨c, hc⟩ := sortedHeap_at (vs := vs) (out := (arrOf st').map (·.2)) hoL
  refine wpAny_pure ⟨_, rfl, hQ _ s1.heap.objs.size _ c ss' (fun b u e => ?_) g1 o1 hz hc a1 a3 (a2.trans (q4.trans hpl))⟩
  have q := k1 b u e
  have hlt := Heap.lt_size q
  show (sortedHeap (s1.heap.push (seqObj "list" vs.toArray 0)) s1.heap.objs.size vs _).get? b = some u
  rw [sortedHeap_old (Nat.ne_of_lt hlt) (by rw [size_push']; exact Nat.lt_succ_of_lt hlt)]
  exact Heap.get?_push_of_some _ q
end
end VLS
set_option Elab.async false
set_option linter.all false
set_option maxRecDepth 100000
set_option maxHeartbeats 2000000
set_option autoImplicit false
/-! VL14: sorted, set, list, join. -/
namespace VL
open PySem PySem.Spec L2 R

/-- a builtin of one argument that gives a new object -/
def C1F (T : Tb) (X : Cx) (fv : Value) (op : PV → R PV) : Prop := ∃ r, CallR X fv r ∧ ∀ L H x a Q x', Trk L H → RepW T L H x a → Res (op a) (fun d => ∀ p H', Ex H H' → H p = none → RepO T (p :: L) H' p d → Q (.ref p) H') x' → r [x] H Q
section
variable {T : Tb} {E : XK} {O : List Nat} {X : Cx} {a b c e o : Expr} {f g h : En → R PV} {pos p p2 q : Pos} {x : Str} {id : String} {o1 : PV → R PV} {o2 : PV → PV → R PV}
theorem vf_b1 (hc : C1F T X (.builtin id) o1) (ha : VW T E O X a f) (hv : bootBuiltins x = some (.builtin id)) (hm : X.mg x = none) (hg : Gl X x := by rfl) (hn : x ≠ "__name__" := by decide) (hdb : (x == ("__debug__" : Str)) = false := by decide)
    (he : starEach [a] X.env = (false, eval a X.env) :: starEach [] X.env := by rfl) (hpl : (backTo pos (starEach [] X.env)).any (·.1) = false := by rfl) : VF T E O X (.Call (.Name x p) [a] [] pos) (fun env => do o1 (← f env)) := by
  obtain ⟨ta, pa, qa⟩ := ha
  obtain ⟨r, pr, qr⟩ := hc
  refine ⟨_, pe_callB pr hg hm hv (pa_cons pa pa_nil he) hn hdb he hpl, fun L ow H σ env Q ho re hq => ?_⟩
  simp only [res_bind] at hq
  refine qa L ow H σ env _ ho re (hq.imp (fun d k v H1 e1 rv => ?_) fun _ _ x => x)
  exact qr L H1 v d Q _ (re.trk.mono e1) rv (k.imp (fun d2 k2 w H3 e3 hw rw' => k2 w H3 (e1.trans e3) (Evl.fresh_back e1 hw) rw') fun _ _ x => x)
theorem vf_t1 (hc : C1F T X (.type id) o1) (ha : VW T E O X a f) (hv : bootBuiltins x = some (.type id)) (hm : X.mg x = none) (hg : Gl X x := by rfl) (hn : x ≠ "__name__" := by decide) (hdb : (x == ("__debug__" : Str)) = false := by decide)
    (he : starEach [a] X.env = (false, eval a X.env) :: starEach [] X.env := by rfl) (hpl : (backTo pos (starEach [] X.env)).any (·.1) = false := by rfl) : VF T E O X (.Call (.Name x p) [a] [] pos) (fun env => do o1 (← f env)) := by
  obtain ⟨ta, pa, qa⟩ := ha
  obtain ⟨r, pr, qr⟩ := hc
  refine ⟨_, pe_callTy pr hg hm hv (pa_cons pa pa_nil he) hn hdb he hpl, fun L ow H σ env Q ho re hq => ?_⟩
  simp only [res_bind] at hq
  refine qa L ow H σ env _ ho re (hq.imp (fun d k v H1 e1 rv => ?_) fun _ _ x => x)
  exact qr L H1 v d Q _ (re.trk.mono e1) rv (k.imp (fun d2 k2 w H3 e3 hw rw' => k2 w H3 (e1.trans e3) (Evl.fresh_back e1 hw) rw') fun _ _ x => x)

/-! ### sorted -/
theorem cp_str {ss : List Str} : ss.map V.str = (ss.map VLS.cp).map fun y => V.str ⟨y.toArray⟩ := by
  rw [List.map_map]
  refine List.map_congr_left fun z _ => ?_
  show V.str z = V.str ⟨z.cps.toList.toArray⟩
  rw [Array.toArray_toList]
theorem cp_back {l : List (List Nat)} : (l.map fun y => (⟨y.toArray⟩ : Str)).map VLS.cp = l := by
  rw [List.map_map]
  exact (List.map_congr_left fun y _ => rfl).trans (List.map_id l)
/-- the new sorted list of texts -/
theorem sorted_rep {L : List Addr} {H : Hp} {l : List (List Nat)} {ss : List Str} {p : Addr} (hl : ∀ y ∈ l, y.length ≤ LN ∧ sok y = true) (hn : l.length ≤ LN) (hs : PyProof.Rows.sortedS ss = true) (hp : (ss.map VLS.cp).Perm l) (hf : H p = none) :
    RepO T (p :: L) (upd H p (.lst (ss.map V.str))) p (.list ((sortN l).map .str)) := by
  have e : ss.map VLS.cp = sortN l := sortN_of hp (VLS.sorted_pw hs)
  have z : ss.length ≤ sizeLine := by
    have q := hp.length_eq
    rw [List.length_map] at q
    rw [q]
    exact lnS hn
  refine .lst upd_same ?_ (by rw [List.length_map]; exact z)
  rw [cp_str, e]
  exact strs_rep fun y hy => hl y ((sortN_perm l).mem_iff.mp hy)
theorem cr_sortedSA : CallR X (.builtin "sorted") (fun vs H Q => ∃ (a : Addr) (xs : List Str), vs = [V.ref a] ∧ SqL X.K H a (xs.map V.str) ∧ xs.length ≤ sizeLine ∧ ∀ (ys : List Str) (p : Addr), ys.Perm xs → PyProof.Rows.sortedS ys = true → H p = none → Q (.ref p) (upd H p (.lst (ys.map V.str)))) := by
  intro pins s σ H vs us Q I r h
  obtain ⟨a, xs, rfl, hs, hz, q⟩ := h
  obtain ⟨its, rv, hl, _⟩ := I.list hs
  rw [Vals.ref1 r]
  have e0 := rv.length
  rw [List.length_map] at e0
  refine PyProof.Rows.sorted_strsAny hl.isList rv.strs (by rw [← e0]; exact hz) fun out ys h1 h2 h3 => ?_
  obtain ⟨ep, he'⟩ := PyProof.Rows.sortedAll_at s.heap its out
  exact ⟨.ref _, upd H (s.heap.objs.size + 1) (.lst (ys.map V.str)), I.laid (t' := s.toks) (fun _ _ => PyProof.Rows.sortedAll_old) (Nat.le_succ _) ⟨by rw [List.length_map, h2.length_eq]; exact hz, out.toList, ep, vals_of_strs h1, he'⟩, rfl, q ys _ h2 h3 (I.hok.fresh (Nat.le_succ _))⟩
theorem cr_sortedIA : CallR X (.builtin "sorted") (fun vs H Q => ∃ (a : Addr) (xs : List Int), vs = [V.ref a] ∧ SqL X.K H a (xs.map V.int) ∧ xs.length ≤ sizeLine ∧ ∀ (ys : List Int) (p : Addr), ys.Perm xs → ys.Pairwise (· ≤ ·) → H p = none → Q (.ref p) (upd H p (.lst (ys.map V.int)))) := by
  intro pins s σ H vs us Q I r h
  obtain ⟨a, xs, rfl, hs, hz, q⟩ := h
  obtain ⟨its, rv, hl, _⟩ := I.list hs
  rw [Vals.ref1 r]
  have e0 := rv.length
  rw [List.length_map] at e0
  refine PyProof.Rows.sorted_intsAny hl.isList rv.ints (by rw [← e0]; exact hz) fun out ys h1 h2 h3 => ?_
  obtain ⟨ep, he'⟩ := PyProof.Rows.sortedAll_at s.heap its out
  exact ⟨.ref _, upd H (s.heap.objs.size + 1) (.lst (ys.map V.int)), I.laid (t' := s.toks) (fun _ _ => PyProof.Rows.sortedAll_old) (Nat.le_succ _) ⟨by rw [List.length_map, h2.length_eq]; exact hz, out.toList, ep, vals_of_ints h1, he'⟩, rfl, q ys _ h2 h3 (I.hok.fresh (Nat.le_succ _))⟩
theorem c1_sorted (hK : X.K = T.K) : C1F T X (.builtin "sorted") sorted1P := by
  refine ⟨_, cr_sortedSA.or cr_sortedIA, fun L H x a Q x' t ra q => ?_⟩
  unfold sorted1P at q
  split at q
  · obtain ⟨p, xs, rfl, h1, r1, l1⟩ := ra.list
    split at q
    · rename_i l hl
      obtain ⟨e1, e2, _⟩ := strs_of hl r1
      have hn : l.length ≤ sizeLine := by rw [e1, List.length_map] at l1; exact l1
      refine .inl ⟨p, l.map (fun y => ⟨y.toArray⟩), rfl, .of (by rw [h1, e1, List.map_map]; rfl), by rw [List.length_map]; exact hn, fun ys p' h2 h3 h4 => ?_⟩
      exact q _ _ (ex_upd h4) h4 (sorted_rep e2 (snL hn) h3 ((h2.map VLS.cp).trans (by rw [cp_back])) h4)
    · split at q
      · rename_i l hl
        obtain ⟨e1, _⟩ := ints_of hl r1
        have hn : l.length ≤ sizeLine := by rw [e1, List.length_map] at l1; exact l1
        refine .inr ⟨p, l, rfl, .of (by rw [h1, e1]), hn, fun ys p' h2 h3 h4 => ?_⟩
        refine q _ _ (ex_upd h4) h4 (.lst upd_same ?_ (by rw [List.length_map, h2.length_eq]; exact hn))
        rw [sortI_of h2 h3]
        exact ints_rep
      · exact q.elim
  · exact q.elim

/-! ### sorted(set(..)) -/
def tSset (K : PySem.W.Frag) (ta : TE) : TE := fun σ H Q => ta σ H fun x H1 => ∃ xs : List Str, ((∃ l, x = .ref l ∧ SqL K H1 l (xs.map V.str)) ∨ ∃ z, x = .str z ∧ xs = VLS.sgs z) ∧ xs.length + 1 < 4096 ∧
  ∀ (ys : List Str) (p : Addr), ys.Perm (VLS.setS xs) → PyProof.Rows.sortedS ys = true → H1 p = none → Q (.ref p) (upd H1 p (.lst (ys.map V.str)))
theorem pe_sset {ta : TE} (hc : X.calm = true) (hg : Gl X "sorted") (hm : X.mg "sorted" = none) (hg2 : Gl X "set") (hm2 : X.mg "set" = none) (ha : PE X a ta) (na : starEach [a] X.env = (false, eval a X.env) :: starEach [] X.env := by rfl) :
    PE X (.Call (.Name "sorted" p) [.Call (.Name "set" p2) [a] [] q] [] pos) (tSset X.K ta) := by
  refine ⟨fun pins s σ H Q I h => ?_⟩
  refine PyProof.Rows.Call_ (ld_blt I hg hm (show bootBuiltins ("sorted" : PySem.Str) = some (.builtin "sorted") from by kernel_rfl) ?_); refine PyProof.Rows.callWith_builtin1 (PyProof.Rows.args_cons ?_ rfl) rfl rfl
  refine PyProof.Rows.Call_ (ld_blt I hg2 hm2 (show bootBuiltins ("set" : PySem.Str) = some (.type "set") from by kernel_rfl) ?_); refine PyProof.Rows.callWith_type1 (PyProof.Rows.args_cons (thn (ha.run pins s σ H _ I h) fun v s1 ⟨x, H1, I1, r1, q1⟩ => PyProof.Rows.args_nil ?_) na) na rfl
  obtain ⟨xs, hx, hb, q1⟩ := q1
  have hb2 : xs.length + 1 < scanBound := hb
  have fin : ∀ (h' : Heap) (tk : Nat), VLS.SetS X.prog X.w h' s1.heap.objs.size (VLS.setS xs) → (∀ b o, s1.heap.get? b = some o → h'.get? b = some o) →
      wpAny (model X.prog X.w) X.A (spliced (backTo pos (starEach [] X.env))) (fun vs s₂ => wpAny (model X.prog X.w) X.A (call (.builtin "sorted") (Value.ref s1.heap.objs.size :: vs)) (EP X pins σ Q) X.xe s₂) X.xe { s1 with heap := h', toks := tk } := fun h' tk hS hk => by
    refine PyProof.Rows.args_nil ?_
    have I2 : Inv X pins σ H1 { s1 with heap := h', toks := tk } := I1.kept hk
    refine VLS.sorted_setS hS (I2.ok.hd hc) fun s' pp out cc ss k g o hp hg' hi hs hpm => ?_
    have hn : H1 pp = none := I2.hok.fresh hp
    have hlen : (ss.map V.str).length ≤ sizeLine := by
      have e1 := VLS.setS_len xs
      rw [List.length_map, hpm.length_eq, sizeLine_eq]
      omega
    have J : Inv X pins σ (upd H1 pp (.lst (ss.map V.str))) { ({ s1 with heap := h', toks := tk } : Shared) with heap := s'.heap, gens := s'.gens, drawn := s'.drawn, toks := s'.toks } :=
      I2.call (ch := []) (Un.laid k hp hn) (I2.hok.laid k hp ⟨hlen, out.toList, cc, vals_of_strs hi, hg'⟩) (by rw [g]; exact I2.bare) (fun _ z => nomatch z)
    have e : s' = { ({ s1 with heap := h', toks := tk } : Shared) with heap := s'.heap, gens := s'.gens, drawn := s'.drawn, toks := s'.toks } := by
      cases s'
      cases s1
      cases o
      rfl
    rw [e]
    exact ⟨.ref pp, _, J, rfl, q1 ss pp hpm hs hn⟩
  rcases hx with ⟨l, rfl, hq⟩ | ⟨z, rfl, rfl⟩
  · cases r1
    obtain ⟨its, r, pl, hz⟩ := I1.list hq
    exact VLS.set_list xs (I1.ok.hd hc) pl.isList (by simpa using strsAre_of r) hb2 fin
  · obtain ⟨t, rfl⟩ := r1
    have e : (VLS.sgs z).length = z.length := by simp [VLS.sgs]; rfl
    exact VLS.set_str (I1.ok.hd hc) (by rw [← e]; exact hb2) fin
theorem vf_sset (hc : X.calm = true) (hK : X.K = T.K) (ha : VW T E O X a f) (hm : X.mg "sorted" = none) (hm2 : X.mg "set" = none) (hg : Gl X "sorted" := by rfl) (hg2 : Gl X "set" := by rfl) (na : starEach [a] X.env = (false, eval a X.env) :: starEach [] X.env := by rfl) :
    VF T E O X (.Call (.Name "sorted" p) [.Call (.Name "set" p2) [a] [] q] [] pos) (fun env => do ssetP (← f env)) := by
  obtain ⟨ta, pa, qa⟩ := ha
  refine ⟨_, pe_sset hc hg hm hg2 hm2 pa na, fun L ow H σ env Q ho re hq => ?_⟩
  simp only [res_bind] at hq
  refine qa L ow H σ env _ ho re (hq.imp (fun d k v H1 e1 rv => ?_) fun _ _ x => x)
  rw [hK]
  unfold ssetP at k
  have fin : ∀ (l : List (List Nat)) (xs : List Str), xs.map VLS.cp = l → (∀ y ∈ l, y.length ≤ LN ∧ sok y = true) → l.length + 1 < 4096 → (∀ p H', Ex H H' → H p = none → RepO T (p :: L) H' p (.list ((sortN (dedN l)).map .str)) → Q (.ref p) H') →
      ∀ (ys : List Str) (p : Addr), ys.Perm (VLS.setS xs) → PyProof.Rows.sortedS ys = true → H1 p = none → Q (.ref p) (upd H1 p (.lst (ys.map V.str))) := fun l xs ex hl hn k ys p hp hs hf => by
    have hpd : (ys.map VLS.cp).Perm (dedN l) := by
      refine dedN_perm ?_ fun y => ?_
      · have nd : ys.Nodup := hp.nodup_iff.mpr (VLS.setS_nodup xs)
        exact List.Pairwise.map _ (fun a b hab h => hab (by
          have q : (a.cps.toList).toArray = (b.cps.toList).toArray := congrArg List.toArray h
          cases a
          cases b
          simpa using q)) nd
      · rw [(hp.map VLS.cp).mem_iff, ← ex, List.mem_map, List.mem_map]
        exact ⟨fun ⟨z, h1, h2⟩ => ⟨z, VLS.mem_setS.mp h1, h2⟩, fun ⟨z, h1, h2⟩ => ⟨z, VLS.mem_setS.mpr h1, h2⟩⟩
    have hdl := dedN_len l
    exact k _ _ (e1.trans (ex_upd hf)) (Evl.fresh_back e1 hf) (sorted_rep (fun y hy => hl y (mem_dedN.mp hy)) (by have : dedN l = dedN l := rfl; show (dedN l).length ≤ 16777216; omega) hs hpd hf)
  split at k
  · obtain ⟨p, xs, rfl, h1, r1, l1⟩ := rv.list
    split at k
    · rename_i l hl
      obtain ⟨ea, eb, _⟩ := strs_of hl r1
      split at k
      · rename_i hn
        exact ⟨l.map (fun y => ⟨y.toArray⟩), .inl ⟨p, rfl, .of (by rw [h1, ea, List.map_map]; rfl)⟩, by rw [List.length_map]; exact hn, fin l _ cp_back eb hn k⟩
      · exact k.elim
    · exact k.elim
  · rename_i z
    obtain ⟨zz, rfl, ez, l1, s1⟩ := rv.str
    split at k
    · rename_i hn
      have eg : (VLS.sgs zz).map VLS.cp = z.map fun c => [c] := by
        show (zz.cps.toList.map PySem.Froz.sing).map VLS.cp = _
        rw [ez, List.map_map]
        rfl
      have hlen : (VLS.sgs zz).length = z.length := by
        have := congrArg List.length eg
        simpa using this
      refine ⟨VLS.sgs zz, .inr ⟨zz, rfl, rfl⟩, by rw [hlen]; exact hn, fin _ _ eg (fun y hy => ?_) (by simpa using hn) k⟩
      obtain ⟨c, hcc, rfl⟩ := List.mem_map.mp hy
      refine ⟨by show 1 ≤ 16777216; omega, ?_⟩
      have := sok_mem.mp s1 c hcc
      simp [sok, this]
    · exact k.elim
  · exact k.elim
end
end VL
set_option Elab.async false
set_option linter.all false
set_option maxRecDepth 100000
set_option maxHeartbeats 2000000
set_option autoImplicit false
/-! VL15: sorted of nested data; join; what is never run. -/
namespace VL
open PySem PySem.Spec L2 R

/-! ### the order of data -/
def ltV (a b : PV) : Bool := PySem.W.dataLt (toD a) (toD b)
def leV (a b : PV) : Bool := !ltV b a
/-- alike to each other, no None, no empty tuple beside others -/
def srtB (xs : List PV) : Bool := (xs.all fun a => xs.all fun b => PySem.W.alike (toD a) (toD b)) && ((xs.all fun a => match a with | .tup (_ :: _) => true | _ => false) || (xs.all fun a => match a with | .tup _ => false | .none => false | _ => true))
def sortV (xs : List PV) : List PV := xs.mergeSort leV
def sorted2P : PV → R PV
  | .list xs => match strsP xs with
    | some l => .ok (.list ((sortN l).map .str))
    | none => match intsP xs with
      | some l => .ok (.list ((sortI l).map .int))
      | none => if srtB xs && cmpOk (.list xs) then .ok (.list (sortV xs)) else .bad
  | _ => .bad
section
variable {M : Md} {T : Tb} {E : XK} {O O1 : List Nat} {X : Cx} {a b c e o : Expr} {f g h : En → R PV} {pos p p2 q : Pos} {x : Str} {id : String} {o1 : PV → R PV} {o2 : PV → PV → R PV}
theorem toDs_map : ∀ xs : List PV, toDs xs = xs.map toD
  | [] => rfl
  | x :: xs => by
    show toD x :: toDs xs = _
    rw [toDs_map xs, List.map_cons]
theorem srt_alike {xs : List PV} (h : srtB xs = true) : PySem.W.AllAlike (xs.map toD) := by
  unfold srtB at h
  obtain ⟨h1, _⟩ := Bool.and_eq_true_iff.mp h
  intro d hd d' hd'
  obtain ⟨u, hu, rfl⟩ := List.mem_map.mp hd
  obtain ⟨w, hw, rfl⟩ := List.mem_map.mp hd'
  exact List.all_eq_true.mp (List.all_eq_true.mp h1 u hu) w hw
theorem dataBs_mem : ∀ {xs : List PV}, dataBs xs = true → ∀ u ∈ xs, dataB u = true
  | [], _, _, z => nomatch z
  | x :: xs, hd, u, hu => by
    obtain ⟨d1, d2⟩ := Bool.and_eq_true_iff.mp (show (dataB x && dataBs xs) = true from hd)
    rcases List.mem_cons.mp hu with e | hu
    · rw [e]
      exact d1
    · exact dataBs_mem d2 u hu
theorem srt_able {xs : List PV} (h : srtB xs = true) (hd : dataBs xs = true) : PySem.W.Sortable (xs.map toD) := by
  unfold srtB at h
  obtain ⟨_, h2⟩ := Bool.and_eq_true_iff.mp h
  have hdx := dataBs_mem hd
  rcases Bool.or_eq_true_iff.mp h2 with h2 | h2
  · refine .inl fun d hd => ?_
    obtain ⟨u, hu, rfl⟩ := List.mem_map.mp hd
    have z := List.all_eq_true.mp h2 u hu
    cases u with
    | tup ys =>
      cases ys with
      | nil => cases z
      | cons y ys => exact ⟨toD y, toDs ys, rfl⟩
    | _ => cases z
  · refine .inr fun d hd => ?_
    obtain ⟨u, hu, rfl⟩ := List.mem_map.mp hd
    have z := List.all_eq_true.mp h2 u hu
    have y := hdx u hu
    cases u with
    | tup ys => cases z
    | none => cases z
    | bool => exact ⟨fun w => (nomatch w), fun _ w => (nomatch w)⟩
    | int => exact ⟨fun w => (nomatch w), fun _ w => (nomatch w)⟩
    | str => exact ⟨fun w => (nomatch w), fun _ w => (nomatch w)⟩
    | list => exact ⟨fun w => (nomatch w), fun _ w => (nomatch w)⟩
    | _ => cases y
theorem leV_eq : PySem.W.dataLe false toD = leV := by
  funext a b
  rw [PySem.W.dataLe_eq]
  rfl
theorem each_of {hp : Heap} : ∀ {vs : List V} {us : List Value} {ds : List PV}, Vals vs us → vs.length = ds.length → PySem.W.EachIs (fun (u : Value) (b : V × PV) => RelV b.1 u) us (vs.zip ds)
  | [], _, [], .nil, _ => .nil
  | v :: vs, _, d :: ds, .cons r t, hl => .cons r (each_of (hp := hp) t (by simpa using hl))
theorem each_reads {hp : Heap} : ∀ {us : List Value} {bs : List (V × PV)} {as : List Addr}, ReadsAll hp us (bs.map fun b : V × PV => toD b.2) as → PySem.W.EachIs (fun (u : Value) (b : V × PV) => ∃ as, Reads hp u (toD b.2) as) us bs := fun r => PySem.W.readsAll_each (fun b : V × PV => toD b.2) r
theorem vals_each : ∀ {us : List Value} {bs : List (V × PV)}, PySem.W.EachIs (fun (u : Value) (b : V × PV) => RelV b.1 u) us bs → Vals (bs.map (·.1)) us
  | _, _, .nil => .nil
  | _, _, .cons r t => .cons r (vals_each t)
theorem depth_mem : ∀ {ds : List PyData} {d : PyData}, d ∈ ds → d.depth ≤ PyData.depthAll ds
  | [], _, h => nomatch h
  | x :: xs, d, h => by
    show d.depth ≤ max x.depth (PyData.depthAll xs)
    rcases List.mem_cons.mp h with e | h
    · rw [e]
      exact Nat.le_max_left ..
    · exact Nat.le_trans (depth_mem h) (Nat.le_max_right ..)
theorem cr_sortedD (hu : X.A.units + 70 < cLine) : CallR X (.builtin "sorted") (fun vs H Q => ∃ (a : Addr) (bs : List (V × PV)), vs = [V.ref a] ∧ SqL X.K H a (bs.map (·.1)) ∧ bs.length ≤ sizeLine ∧ DpAll X.K H (bs.map (·.1)) (bs.map fun b => toD b.2) ∧
    PySem.W.AllAlike (bs.map fun b => toD b.2) ∧ PySem.W.Sortable (bs.map fun b => toD b.2) ∧ PyData.depthAll (bs.map fun b => toD b.2) ≤ 64 ∧ ∀ p, H p = none → Q (.ref p) (upd H p (.lst ((bs.mergeSort (PySem.W.dataLe false fun b => toD b.2)).map (·.1))))) := by
  intro pins s σ H vs us Q I r h
  obtain ⟨a, bs, rfl, hs, hz, hd, hal, hk, hdp, q⟩ := h
  obtain ⟨its, rv, hl, _⟩ := I.list hs
  rw [Vals.ref1 r]
  obtain ⟨as, hr⟩ := Dp.readsAll I _ _ its hd rv
  have ev : PySem.W.EachIs (fun (u : Value) (b : V × PV) => RelV b.1 u) its bs := by
    have q := each_of (hp := s.heap) (ds := bs.map (·.2)) rv (by simp)
    rwa [List.zip_map', List.map_id'' (fun _ => rfl)] at q
  refine PySem.W.sorted_data (enc := fun b : V × PV => toD b.2) hl.isList ev (each_reads hr) hal hk hz (fun b hb => ?_) fun out h1 h2 => ?_
  · have z := depth_mem (List.mem_map_of_mem (f := fun b : V × PV => toD b.2) hb)
    omega
  · obtain ⟨ep, he'⟩ := PyProof.Rows.sortedAll_at s.heap its out.toArray
    refine ⟨.ref _, upd H (s.heap.objs.size + 1) (.lst _), I.laid (t' := s.toks) (fun _ _ => PyProof.Rows.sortedAll_old) (Nat.le_succ _) ⟨?_, out, ep, vals_each h2, he'⟩, rfl, q _ (I.hok.fresh (Nat.le_succ _))⟩
    rw [List.length_map, List.length_mergeSort]
    exact hz
theorem RepA.perm_get {Hx : Hp} : ∀ {xs : List V} {ds : List PV}, RepA T Hx xs ds → ∀ p ∈ xs.zip ds, Rep T Hx p.1 p.2
  | _, _, .nil, _, h => nomatch h
  | _, _, .cons r t, p, h => by
    rw [List.zip_cons_cons] at h
    rcases List.mem_cons.mp h with e | h
    · rw [e]
      exact r
    · exact RepA.perm_get t p h
theorem repA_of {Hx : Hp} : ∀ {zs : List (V × PV)}, (∀ p ∈ zs, Rep T Hx p.1 p.2) → RepA T Hx (zs.map (·.1)) (zs.map (·.2))
  | [], _ => .nil
  | z :: zs, h => .cons (h z (.head _)) (repA_of fun p hp => h p (.tail _ hp))
theorem c1_sorted2 (hK : X.K = T.K) (hu : X.A.units + 70 < cLine) : C1F T X (.builtin "sorted") sorted2P := by
  refine ⟨_, (cr_sortedSA.or cr_sortedIA).or (cr_sortedD hu), fun L H x a Q x' t ra q => ?_⟩
  unfold sorted2P at q
  split at q
  · rename_i ds
    obtain ⟨p, xs, rfl, h1, r1, l1⟩ := ra.list
    split at q
    · rename_i l hl
      obtain ⟨e1, e2, _⟩ := strs_of hl r1
      have hn : l.length ≤ sizeLine := by rw [e1, List.length_map] at l1; exact l1
      refine .inl (.inl ⟨p, l.map (fun y => ⟨y.toArray⟩), rfl, .of (by rw [h1, e1, List.map_map]; rfl), by rw [List.length_map]; exact hn, fun ys p' h2 h3 h4 => ?_⟩)
      exact q _ _ (ex_upd h4) h4 (sorted_rep e2 (snL hn) h3 ((h2.map VLS.cp).trans (by rw [cp_back])) h4)
    · split at q
      · rename_i l hl
        obtain ⟨e1, _⟩ := ints_of hl r1
        have hn : l.length ≤ sizeLine := by rw [e1, List.length_map] at l1; exact l1
        refine .inl (.inr ⟨p, l, rfl, .of (by rw [h1, e1]), hn, fun ys p' h2 h3 h4 => ?_⟩)
        refine q _ _ (ex_upd h4) h4 (.lst upd_same ?_ (by rw [List.length_map, h2.length_eq]; exact hn))
        rw [sortI_of h2 h3]
        exact ints_rep
      · split at q
        · rename_i hc
          obtain ⟨c1, c2⟩ := Bool.and_eq_true_iff.mp hc
          obtain ⟨c3, c4⟩ := Bool.and_eq_true_iff.mp (show (dataB (.list ds) && decide (depthP (.list ds) ≤ 64)) = true from c2)
          have c3' : dataBs ds = true := c3
          have c4' : depthPs ds + 1 ≤ 64 := of_decide_eq_true c4
          have hlen := r1.length
          obtain ⟨zs, hzs⟩ : ∃ zs, zs = xs.zip ds := ⟨_, rfl⟩
          have m1 : zs.map (·.1) = xs := by rw [hzs]; exact List.map_fst_zip (by omega)
          have m2 : zs.map (·.2) = ds := by rw [hzs]; exact List.map_snd_zip (by omega)
          have m3 : zs.map (fun b => toD b.2) = ds.map toD := by rw [← m2, List.map_map]; rfl
          have dp := r1.dp hid_le c3'
          rw [toDs_map] at dp
          refine .inr ⟨p, zs, rfl, .of (by rw [m1]; exact h1), by rw [hzs, List.length_zip]; omega, ?_, ?_, ?_, ?_, fun p' h4 => ?_⟩
          · rw [m1, m3, hK]
            exact dp.1
          · rw [m3]
            exact srt_alike c1
          · rw [m3]
            exact srt_able c1 c3'
          · rw [m3, ← toDs_map]
            exact Nat.le_trans (depth_toDs ds) (by omega)
          · have es : (zs.mergeSort (PySem.W.dataLe false fun b => toD b.2)).map (·.2) = sortV ds := by
              rw [List.map_mergeSort (s := leV), m2]
              · rfl
              · intro u _ w _
                rw [PySem.W.dataLe_eq]
                rfl
            refine q _ _ (ex_upd h4) h4 ?_
            rw [← es]
            refine .lst upd_same ?_ (by rw [List.length_map, List.length_mergeSort, hzs, List.length_zip]; omega)
            refine repA_of fun pr hpr => ?_
            have hm : pr ∈ zs := (List.mergeSort_perm zs _).mem_iff.mp hpr
            rw [hzs] at hm
            exact (RepA.perm_get r1 pr hm).mono (hid_more (ex_upd h4) h4)
        · exact q.elim
  · exact q.elim

/-! ### what is never run -/
theorem ve_bad : VE T E O X e (fun _ => .bad) := ⟨fun _ _ _ => False, ⟨fun _ _ _ _ _ _ h => h.elim⟩, fun L ow H σ env Q ho re hq => hq⟩
theorem vs_bad {st : Stmt} : VS1 (M := M) T E O O1 X st (fun _ => .bad) := ⟨tNever, ps_never, fun B L0 H0 L ow H σ env D S hq => hq.elim⟩

/-! ### ''.join(..) -/
theorem joinL_eq (s : List Nat) : ∀ l : List (List Nat), TL.joinL s l = joinL s l
  | [] => rfl
  | [_] => rfl
  | x :: y :: l => by
    show x ++ (s ++ TL.joinL s (y :: l)) = _
    rw [joinL_eq s (y :: l)]
    rfl
theorem joinL_len (s : List Nat) : ∀ l : List (List Nat), (joinL s l).length ≤ (l.map (·.length)).sum + l.length * s.length
  | [] => by simp [joinL]
  | [x] => by
    simp only [joinL, List.map_cons, List.map_nil, List.sum_cons, List.sum_nil, List.length_cons, List.length_nil]
    omega
  | x :: y :: l => by
    have h := joinL_len s (y :: l)
    show (x ++ (s ++ joinL s (y :: l))).length ≤ (x.length + ((y :: l).map (·.length)).sum) + ((y :: l).length + 1) * s.length
    rw [List.length_append, List.length_append, Nat.add_mul]
    omega
theorem joinL_sok {s : List Nat} (hs : sok s = true) : ∀ {l : List (List Nat)}, (∀ y ∈ l, sok y = true) → sok (joinL s l) = true
  | [], _ => rfl
  | [x], h => h x (.head _)
  | x :: y :: l, h => sok_app (h x (.head _)) (sok_app hs (joinL_sok hs fun z hz => h z (.tail _ hz)))
def strR : PV → R PV
  | .str s => .ok (.str s)
  | _ => .bad
theorem ve_join {apos : Pos} (hK : X.K = T.K) (ha : VW T E O X o f) (hb : VW T E O X e g) (hs : starEach [e] X.env = [(false, eval e X.env)] := by rfl) (hbase : attributeBase o "join" X.env (eval o X.env) = eval o X.env := by rfl) (hline : (apos.endLine == pos.line) = true := by rfl) :
    VE T E O X (.Call (.Attribute o "join" apos) [e] [] pos) (fun env => do joinP (← strR (← f env)) (← g env)) := by
  obtain ⟨ta, pa, qa⟩ := ha
  obtain ⟨tb, pb, qb⟩ := hb
  refine ⟨_, pe_join pa pb hs hbase hline, fun L ow H σ env Q ho re hq => ?_⟩
  simp only [res_bind] at hq
  refine qa L ow H σ env _ ho re (hq.imp (fun d k v H1 e1 rv => ?_) fun _ _ x => x)
  unfold strR at k
  split at k
  · rename_i s
    rw [res_ok] at k
    obtain ⟨z, rfl, ez, l1, s1⟩ := rv.str
    refine ⟨⟨z, rfl⟩, qb L ow H1 σ env _ ho (re.mono e1) (k.imp (fun d2 k2 u H2 e2 ru => ?_) fun _ _ x => xw_mono e1 x)⟩
    unfold joinP at k2
    split at k2
    · rename_i s0 ds heq
      cases heq
      split at k2
      · rename_i l hl
        obtain ⟨hz, k3⟩ := res_lim k2
        obtain ⟨p, xs, rfl, h1, r1, l2⟩ := ru.list
        obtain ⟨ea, eb, _⟩ := strs_of hl r1
        refine ⟨z, p, l.map (fun y => ⟨y.toArray⟩), rfl, rfl, .inl (.of (by rw [h1, ea, List.map_map]; rfl)), ?_, ?_⟩
        · rw [List.map_map, List.length_map, str_len, ez]
          exact hz
        · have et : z = SX.S s := by rw [str_of ez]
          have ej : Txt.join z (l.map fun y => (⟨y.toArray⟩ : Str)) = SX.S (joinL s l) := by
            rw [et, ← joinL_eq]
            exact SX.join_S s l
          rw [ej]
          exact k3 _ _ (e1.trans e2) (rep_str' rfl (Nat.le_trans (joinL_len s l) hz) (joinL_sok s1 fun y hy => (eb y hy).2))
      · exact k2.elim
    · exact k2.elim
  · exact k.elim
end
end VL
set_option Elab.async false
set_option linter.all false
set_option maxRecDepth 100000
set_option maxHeartbeats 2000000
set_option autoImplicit false
/-! VL16: slices by steps, is of truth values, list(..), dict comprehensions. -/
namespace VL
open PySem PySem.Spec L2 R
section
variable {T : Tb} {E : XK} {O O1 : List Nat} {X : Cx} {a b c e o : Expr} {f g h : En → R PV} {pos p p2 q : Pos} {x : Str} {id : String} {o1 : PV → R PV} {o2 : PV → PV → R PV}
/-! ### xs[lo:hi:st] of a list -/
def stepI (n : Nat) (lo hi st : Option Int) : List Nat := sliceRange (sliceBounds lo hi st n).1 (sliceBounds lo hi st n).2.1 (sliceBounds lo hi st n).2.2
def pickL {α : Type} (xs : List α) (lo hi st : Option Int) : List α := (stepI xs.length lo hi st).filterMap fun i => xs[i]?
def stepP (a : PV) (lo hi st : Option Int) : R PV := match a with
  | .list xs => if st = some 0 then .bad else .ok (.list (pickL xs lo hi st))
  | _ => .bad
theorem pick_rep {Hx : Hp} {xs : List V} {ds : List PV} (r : RepA T Hx xs ds) : ∀ idx : List Nat, RepA T Hx (idx.filterMap fun i => xs[i]?) (idx.filterMap fun i => ds[i]?)
  | [] => .nil
  | i :: idx => by
    have ih := pick_rep r idx
    cases q : ds[i]? with
    | none =>
      have z : xs[i]? = none := by
        rw [List.getElem?_eq_none_iff] at q ⊢
        rw [r.length]
        exact q
      rw [List.filterMap_cons_none z, List.filterMap_cons_none q]
      exact ih
    | some d =>
      obtain ⟨v, h1, h2⟩ := r.get' q
      rw [List.filterMap_cons_some h1, List.filterMap_cons_some q]
      exact .cons h2 ih
theorem pick_vals {us : List Value} {xs : List V} (r : Vals xs us) : ∀ idx : List Nat, Vals (idx.filterMap fun i => xs[i]?) (idx.filterMap fun i => us[i]?)
  | [] => .nil
  | i :: idx => by
    have ih := pick_vals r idx
    cases q : xs[i]? with
    | none =>
      have z : us[i]? = none := by
        rw [List.getElem?_eq_none_iff] at q ⊢
        rw [← r.length]
        exact q
      rw [List.filterMap_cons_none z, List.filterMap_cons_none q]
      exact ih
    | some d =>
      obtain ⟨v, h1, h2⟩ := r.get q
      rw [List.filterMap_cons_some h1, List.filterMap_cons_some q]
      exact .cons h2 ih
theorem pickL_len {α : Type} {xs : List α} {lo hi st : Option Int} (items : Array Value) (hi2 : items.size = xs.length) : (pickL xs lo hi st).length ≤ xs.length := by
  have h1 : (pickL xs lo hi st).length = (slicePick items lo hi st).size := by
    unfold pickL slicePick stepI
    rw [List.size_toArray, hi2]
    generalize sliceRange _ _ _ = idx
    induction idx with
    | nil => rfl
    | cons i idx ih =>
      by_cases hlt : i < xs.length
      · rw [List.filterMap_cons_some (List.getElem?_eq_getElem hlt), List.filterMap_cons_some (Array.getElem?_eq_getElem (by omega)), List.length_cons, List.length_cons, ih]
      · rw [List.filterMap_cons_none (List.getElem?_eq_none (by omega)), List.filterMap_cons_none (Array.getElem?_eq_none (by omega)), ih]
  rw [h1, ← hi2]
  exact slicePick_size_le items lo hi st
def tStep (K : PySem.W.Frag) (te : TE) (tl th ts : TO) : TE := fun σ H Q => te σ H fun x H1 => tl σ H1 fun l H2 => th σ H2 fun u H3 => ts σ H3 fun k H4 => ∃ a xs, x = .ref a ∧ SqL K H4 a xs ∧ k ≠ some 0 ∧ (pickL xs l u k).length ≤ sizeLine ∧ ∀ p, H4 p = none → Q (.ref p) (upd H4 p (.lst (pickL xs l u k)))
theorem pe_step {lo hi st : Option Expr} {te : TE} {tl th ts : TO} (he : PE X e te) (hl : PO X lo tl) (hu : PO X hi th) (hs : PO X st ts) (hsub : ∀ v u, subscripted (.Slice lo hi st p2) false v u = operate [v, u] (getItem v u) := by intro _ _; rfl) : PE X (.Subscript e (.Slice lo hi st p2) pos) (tStep X.K te tl th ts) := by
  refine ⟨fun pins s σ H Q I h => ?_⟩
  refine PyProof.Rows.Subscript_ (thn (he.run pins s σ H _ I h) fun v s1 ⟨x, H1, I1, r1, q1⟩ => ?_)
  refine wpAny_Slice (thn (hl.run pins s1 σ H1 _ I1 q1) fun vl s2 ⟨l, H2, I2, pl, q2⟩ => thn (hu.run pins s2 σ H2 _ I2 q2) fun vu s3 ⟨u, H3, I3, pu, q3⟩ => thn (hs.run pins s3 σ H3 _ I3 q3) fun vt s4 ⟨k, H4, I4, pt, q4⟩ => ?_)
  obtain ⟨y, xs, rfl, hx, hk, hlen, q5⟩ := q4
  cases r1
  have I5 : Inv X pins σ H4 { s4 with heap := s4.heap.push { cls := .type "slice", data := .fields #[vl, vu, vt] } } := I4.kept (t' := s4.toks) fun b ob q => Heap.get?_push_of_some _ q
  obtain ⟨its, r, ht, hz⟩ := I5.list hx
  have hn := r.length
  show wpAny (model X.prog X.w) X.A (PyProof.Rows.subscriptTail e (.Slice lo hi st p2) (.ref y) (.ref s4.heap.objs.size)) (EP X pins σ Q) X.xe { s4 with heap := s4.heap.push { cls := .type "slice", data := .fields #[vl, vu, vt] } }
  refine PyProof.Rows.tail_any (ops := [.ref y, .ref s4.heap.objs.size]) (ht.isList.typeIs) PySem.slot_list_getitem.lookup ?_ (hsub _ _)
  refine wpAny_getItem_list_slice ht.isList (Heap.IsSliceOf.new ..) pl pu pt hk ?_ (by rw [List.size_toArray]; omega)
  have ev : slicePick its.toArray l u k = ((stepI xs.length l u k).filterMap fun i => its[i]?).toArray := by
    unfold slicePick stepI
    rw [List.size_toArray, hn]
    have ef : (fun i : Nat => its.toArray[i]?) = fun i : Nat => its[i]? := funext fun i => by simp
    exact congrArg (fun g => (List.filterMap g _).toArray) ef
  rw [ev]
  refine ⟨.ref _, _, I5.laid (t' := s4.toks) (o := .lst (pickL xs l u k)) (fun b ob q => Heap.get?_push_of_some _ q) (Nat.le_refl _) ?_, rfl, q5 _ (I5.hok.fresh (Nat.le_refl _))⟩
  exact ⟨hlen, _, 0, pick_vals r _, Heap.get?_push_size _ rfl⟩
theorem ve_step {lo hi st : Option Expr} {fl fh fs : En → R (Option Int)} (hK : X.K = T.K) (ha : VW T E O X a f) (hl : VO T E O X lo fl) (hh : VO T E O X hi fh) (hst : VO T E O X st fs) (hsub : ∀ v u, subscripted (.Slice lo hi st p2) false v u = operate [v, u] (getItem v u) := by intro _ _; rfl) :
    VF T E O X (.Subscript a (.Slice lo hi st p2) pos) (fun env => do
      let x ← f env
      let l ← fl env
      let u ← fh env
      let k ← fs env
      stepP x l u k) := by
  obtain ⟨ta, pa, qa⟩ := ha
  obtain ⟨tl, pl, ql⟩ := hl
  obtain ⟨th, ph, qh⟩ := hh
  obtain ⟨ts, ps, qs⟩ := hst
  refine ⟨_, pe_step pa pl ph ps hsub, fun L ow H σ env Q ho re hq => ?_⟩
  simp only [res_bind] at hq
  refine qa L ow H σ env _ ho re (hq.imp (fun d k v H1 e1 rv => ?_) fun _ _ x => x)
  refine ql L ow H1 σ env _ ho (re.mono e1) (k.imp (fun l k' H2 e2 => ?_) fun _ _ x => xw_mono e1 x)
  refine qh L ow H2 σ env _ ho (re.mono (e1.trans e2)) (k'.imp (fun u k2 H3 e3 => ?_) fun _ _ x => xw_mono (e1.trans e2) x)
  refine qs L ow H3 σ env _ ho (re.mono ((e1.trans e2).trans e3)) (k2.imp (fun st k3 H4 e4 => ?_) fun _ _ x => xw_mono ((e1.trans e2).trans e3) x)
  have e14 := ((e1.trans e2).trans e3).trans e4
  have rv4 := rv.mono ((e2.trans e3).trans e4)
  unfold stepP at k3
  split at k3
  · rename_i ds
    split at k3
    · exact k3.elim
    · rename_i hne
      obtain ⟨y, xs, rfl, h1, r1, l1⟩ := rv4.list
      have hlen := r1.length
      have hpl : (pickL xs l u st).length ≤ sizeLine := Nat.le_trans (pickL_len (Array.replicate xs.length Value.none) (by simp)) l1
      refine ⟨y, xs, rfl, by rw [hK]; exact .of h1, hne, hpl, fun p hp => k3 _ _ (e14.trans (ex_upd hp)) (Evl.fresh_back e14 hp) (.lst upd_same ?_ hpl)⟩
      have z := (pick_rep r1 (stepI xs.length l u st)).mono (hid_more (ex_upd (o := .lst (pickL xs l u st)) hp) hp)
      unfold pickL
      rw [← hlen]
      exact z
  · exact k3.elim

/-! ### is True -/
def isBP (a : PV) : PV → R PV
  | .none => .ok (.bool (isNoneP a))
  | .bool k => match a with
    | .bool j => .ok (.bool (j == k))
    | _ => .bad
  | _ => .bad
def notBP (a : PV) : PV → R PV
  | .none => .ok (.bool (!isNoneP a))
  | .bool k => match a with
    | .bool j => .ok (.bool (!(j == k)))
    | _ => .bad
  | _ => .bad
theorem ov_isB : OpV T X (compareOp .Is) isBP := by
  refine ⟨_, op_isN.or op_is_bl, fun L H x y a b Q x' t ra rb q => ?_⟩
  unfold isBP at q
  split at q
  · obtain rfl := rb.none
    refine .inl ⟨rfl, ?_⟩
    rw [ra.isN]
    exact q _ _ (Evl.Ex.refl H) (.bl _)
  · split at q
    · obtain rfl := rb.bool
      obtain rfl := ra.bool
      refine .inr ⟨_, _, rfl, rfl, ?_⟩
      have z := q _ _ (Evl.Ex.refl H) (.bl _)
      rename_i _ k _ j
      have e : (decide (j = k)) = (j == k) := by cases j <;> cases k <;> rfl
      rw [e]
      exact z
    · exact q.elim
  · exact q.elim
theorem ov_notB : OpV T X (compareOp .IsNot) notBP := by
  refine ⟨_, op_notN.or op_isnot_bl, fun L H x y a b Q x' t ra rb q => ?_⟩
  unfold notBP at q
  split at q
  · obtain rfl := rb.none
    refine .inl ⟨rfl, ?_⟩
    rw [ra.isN]
    exact q _ _ (Evl.Ex.refl H) (.bl _)
  · split at q
    · obtain rfl := rb.bool
      obtain rfl := ra.bool
      refine .inr ⟨_, _, rfl, rfl, ?_⟩
      have z := q _ _ (Evl.Ex.refl H) (.bl _)
      rename_i _ k _ j
      have e : (decide (j = k)) = (j == k) := by cases j <;> cases k <;> rfl
      rw [e]
      exact z
    · exact q.elim
  · exact q.elim
end
end VL
set_option Elab.async false
set_option linter.all false
set_option maxRecDepth 100000
set_option maxHeartbeats 2000000
set_option autoImplicit false
/-! VL17: dict comprehensions. -/
namespace VL
open PySem PySem.Spec L2 R
def itemDF (fg : PV → En → R En) (ft : En → R Bool) (fk fv : En → R PV) (env : En) (d : PV) : R (Option (PV × PV)) := do
  let env2 ← fg d env
  if (← ft env2) = true then
    let k ← fk env2
    let v ← fv env2
    .ok (some (k, v))
  else .ok none
def dcompE (item : PV → R (Option (PV × PV))) : List PV → PV → R PV
  | [], acc => .ok acc
  | d :: ds, acc => match item d with
    | .ok none => dcompE item ds acc
    | .ok (some (k, v)) => match putP acc k v with
      | .ok acc2 => dcompE item ds acc2
      | _ => .bad
    | _ => .bad
section
variable {T : Tb} {E : XK} {O O1 : List Nat} {X : Cx} {scope : Scope} {tg a b c e it kx vx : Expr} {es ifs : List Expr} {f g h fk fv : En → R PV} {fi : En → R (List PV)} {ft : En → R Bool} {pos pos' p : Pos} {x : Str}
theorem dc_it {J : It} {n : Nat} {G : Hp → Prop} {Y : Nat → Hp → V → Hp → Prop} (w : Walk J n G Y) {g : TG} {tt : TT} {tk tv : TE} {vs : List Nat} {σ : L2.St} {H1 : Hp} {D : Addr} {Qd : Hp → Prop} (Pv : Nat → Hp → Prop) (h0 : Pv 0 (upd H1 D (.dK []))) (hG : ∀ i H, i ≤ n → Pv i H → G H)
    (hs : ∀ i x H H', i < n → Pv i H → Y i H x H' → g x (wipe σ vs) H' fun σ2 H2 => wipe σ2 vs = wipe σ vs ∧ tt σ2 H2 fun b H3 => if b = true then tk σ2 H3 fun y H4 => tv σ2 H4 fun z H5 => ∃ kvs k, y = kV k ∧ H5 D = some (.dK kvs) ∧ kvs.length < sizeLine ∧ Pv (i + 1) (upd H5 D (.dK (putK kvs k z))) else Pv (i + 1) H3)
    (hd : ∀ H, Pv n H → Qd H) : ∃ W : Nat → Nat → Hp → Prop, (∃ m, W 0 m (upd H1 D (.dK []))) ∧ ∀ i m H, W i m H → (J.stop i H ∧ Qd H) ∨ (J.go i H ∧ ∃ Nx : Hp → Prop, (∀ H', Nx H' → ∃ m', m' < m ∧ W (i + 1) m' H') ∧ ∀ x H', J.yld i H x H' → g x (wipe σ vs) H' fun σ2 H2 => wipe σ2 vs = wipe σ vs ∧
      tt σ2 H2 fun b H3 => if b = true then tk σ2 H3 fun y H4 => tv σ2 H4 fun z H5 => ∃ kvs k, y = kV k ∧ H5 D = some (.dK kvs) ∧ kvs.length < sizeLine ∧ Nx (upd H5 D (.dK (putK kvs k z))) else Nx H3) := by
  refine ⟨fun i m H => m = n - i ∧ i ≤ n ∧ Pv i H, ⟨n, by simp, Nat.zero_le _, h0⟩, ?_⟩
  rintro i m H ⟨rfl, hi, p⟩
  rcases Nat.lt_or_ge i n with hlt | hge
  · exact .inr ⟨w.goes i H hlt (hG i H hi p), Pv (i + 1), fun H' p' => ⟨n - (i + 1), by omega, rfl, hlt, p'⟩, fun x H' y => hs i x H H' hlt p (w.yields i H x H' hlt (hG i H hi p) y)⟩
  · obtain rfl : i = n := by omega
    exact .inl ⟨w.stops H (hG i H hi p), hd H p⟩
theorem vf_dcomp {own : List (Str × Nat)} {ts : List Nat} {fg : PV → En → R En} (hc : X.calm = true) (hN : X.N.Nodup) (hi : VI T E O X tg it fi) (ok : BlkOk X.N X.env.scope scope own) (hO : blkO O (own.map (·.2)) = O1) (hts : (ts.all fun j => (own.map (·.2)).contains j) = true)
    (hg : ∀ b, VG T O1 O1 (blkX X scope b) tg ts fg) (ht : ∀ b, VTs T EF O1 (blkX X scope b) ifs ft) (hk : ∀ b, VE T EF O1 (blkX X scope b) kx fk) (hv : ∀ b, VE T EF O1 (blkX X scope b) vx fv) (hs : ∀ x, foldedSetIterable it X.env x = pure x := by intro _; rfl) :
    VF T E O X (.DictComp kx vx [⟨tg, it, ifs, 0⟩] scope pos) (fun env => do
      let items ← fi env
      dcompE (itemDF fg ft fk fv (wipeE env (own.map (·.2)))) items (.dict false [] [])) := by
  obtain ⟨wi, pi, qi⟩ := hi
  obtain ⟨tg', pg, qg⟩ := uniG hg
  obtain ⟨tt, pt, qt⟩ := uniT ht
  obtain ⟨tk, pk, qk⟩ := uniE hk
  obtain ⟨tv, pv, qv⟩ := uniE hv
  refine ⟨_, pe_dc hc hN pi ok (fun s H C cl fp => pg (s, H, C, cl, fp)) (fun s H C cl fp => pt (s, H, C, cl, fp)) (fun s H C cl fp => pk (s, H, C, cl, fp)) (fun s H C cl fp => pv (s, H, C, cl, fp)) hs, fun L ow H σ env Q ho re hq => ?_⟩
  generalize own.map (·.2) = vs at *
  simp only [res_bind] at hq
  refine qi L ow H σ env _ ho re (hq.imp (fun items k J H1 e1 J1 D hD => ?_) fun _ _ x => x)
  obtain ⟨n, G, Y, W, hn, hln, hG, hY⟩ := J1
  subst hn
  have hDH : H D = none := Evl.fresh_back e1 hD
  refine dc_it W (fun i H2 => ∃ kvs ds, H2 D = some (.dK kvs) ∧ Ex H1 H2 ∧ RepA T (hid H2 (D :: L)) (kvs.map (·.2)) ds ∧ kvs.length ≤ i ∧
    Res (dcompE (itemDF fg ft fk fv (wipeE env vs)) (items.drop i) (.dict false (kvs.map fun e => keyP e.1) ds)) (fun l => ∀ p H', Ex H H' → H p = none → RepO T (p :: L) H' p l → Q (.ref p) H') (xw T E H)) ?_ ?_ ?_ ?_
  · exact ⟨[], [], upd_same, ex_upd hD, .nil, Nat.le_refl _, k⟩
  · rintro i H2 _ ⟨kvs, ds, _, e2, _, _, _⟩
    exact hG H2 ((hid_le).trans e2)
  · rintro i x1 H2 H3 hi ⟨kvs, ds, h1, e2, r2, z2, k2⟩ y
    have hd : items[i]? = some items[i] := List.getElem?_eq_getElem hi
    have tr : Trk (D :: L) H2 := fun a ha => by
      rcases List.mem_cons.mp ha with rfl | ha
      · rw [h1]
        exact fun z => nomatch z
      · exact re.trk.mono (e1.trans e2) a ha
    obtain ⟨e3, r3⟩ := hY i H2 (D :: L) x1 H3 items[i] hd tr (hid_more e2 hD) y
    have h3 : H3 D = some (.dK kvs) := e3 _ _ h1
    have re3 : EnvR T (D :: L) (ow.filter fun p => !vs.contains p.1) H3 (wipe σ vs) (wipeE env vs) := re.block vs ((e1.trans e2).trans e3) hDH (by rw [h3]; exact fun z => nomatch z)
    rw [List.drop_eq_getElem_cons hi] at k2
    unfold dcompE at k2
    cases ei : itemDF fg ft fk fv (wipeE env vs) items[i] with
    | ok o =>
      rw [ei] at k2
      have ev : Res (itemDF fg ft fk fv (wipeE env vs) items[i]) (fun o' => o' = o) (xw T EF H3) := by rw [ei]; rfl
      unfold itemDF at ev
      simp only [res_bind] at ev
      have hO1 : (ow.filter fun p => !vs.contains p.1).map (·.1) = O1 := by rw [blkW_map, ho, hO]
      refine qg (D :: L) _ H3 (wipe σ vs) (wipeE env vs) x1 items[i] _ _ hO1 re3 r3 (ev.imp (fun env4 k4 σ4 ow4 ho4 _ hl4 hk4 re4 => ?_) fun _ _ x => x)
      refine ⟨wipe_same ?_ hk4 (fun j hj => ?_), ?_⟩
      · rw [← re4.len, hl4, re3.len, (wipeS σ vs).1]
      · have z := List.all_eq_true.mp hts j hj
        simpa using z
      refine qt (D :: L) ow4 H3 σ4 env4 _ ho4 re4 (k4.imp (fun b k5 H5 e5 => ?_) fun _ _ x => x)
      have h5 : H5 D = some (.dK kvs) := e5 _ _ h3
      have hz : kvs.length < sizeLine := by
        have e0 : LN = 16777216 := rfl
        rw [sizeLine_eq]
        omega
      cases b with
      | true =>
        rw [if_pos rfl]
        rw [if_pos rfl] at k5
        simp only [res_bind] at k5
        refine qk (D :: L) ow4 H5 σ4 env4 _ ho4 (re4.mono e5) (k5.imp (fun dk k6 v6 H6 e6 r6 => ?_) fun _ _ x => xw_mono e5 x)
        refine qv (D :: L) ow4 H6 σ4 env4 _ ho4 (re4.mono (e5.trans e6)) (k6.imp (fun dv k7 v7 H7 e7 r7 => ?_) fun _ _ x => xw_mono (e5.trans e6) x)
        have h7 : H7 D = some (.dK kvs) := e7 _ _ (e6 _ _ h5)
        rw [res_ok] at k7
        subst k7
        have k3 : Res (putP (.dict false (kvs.map fun e => keyP e.1) ds) dk dv) (fun acc => Res (dcompE (itemDF fg ft fk fv (wipeE env vs)) (items.drop (i + 1)) acc) (fun l => ∀ p H', Ex H H' → H p = none → RepO T (p :: L) H' p l → Q (.ref p) H') (xw T E H)) (xw T E H) := by
          dsimp only at k2
          cases ep : putP (.dict false (kvs.map fun e => keyP e.1) ds) dk dv with
          | ok acc2 =>
            rw [ep] at k2
            exact k2
          | exc _ _ => rw [ep] at k2; exact k2.elim
          | bad => rw [ep] at k2; exact k2.elim
        unfold putP at k3
        dsimp only at k3
        split at k3
        · rename_i hdk
          have hb : keyB dk = true := by cases dk <;> simp_all [dkOk, keyB]
          obtain ⟨_, k3⟩ := res_lim k3
          have rk : v6 = kV (keyOf dk) := (RepW.st r6 : RepW T (D :: L) H6 v6 dk).key hb
          have r77 : Rep T (hid H7 (D :: L)) v7 dv := r7
          have ra7 : RepA T (hid H7 (D :: L)) (kvs.map (·.2)) ds := r2.mono (hid_ex (((e3.trans e5).trans e6).trans e7))
          obtain ⟨p1, p2⟩ := put_rep keyP (keyOf dk) dk (fun z => eqB_key z dk hb) kvs ds v7 dv (keyP_of hb) ra7 r77
          rw [← hid_upd (H := H7) (o := .dK (putK kvs (keyOf dk) v7)) (List.mem_cons_self (a := D) (l := L))] at p1
          refine ⟨kvs, keyOf dk, rk, h7, hz, putK kvs (keyOf dk) v7, _, upd_same, Evl.Ex.mut ((((e2.trans e3).trans e5).trans e6).trans e7) hD, p1, ?_, ?_⟩
          · have := length_putK kvs (keyOf dk) v7
            omega
          · rw [p2]
            split at k3
            · rename_i hin
              rw [if_pos hin, if_pos hin]
              exact k3
            · rename_i hin
              rw [if_neg hin, if_neg hin]
              exact k3
        · exact k3.elim
      | false =>
        rw [if_neg Bool.false_ne_true]
        rw [if_neg Bool.false_ne_true, res_ok] at k5
        subst k5
        exact ⟨kvs, ds, h5, (e2.trans e3).trans e5, r2.mono (hid_ex (e3.trans e5)), by omega, k2⟩
    | exc _ _ => rw [ei] at k2; exact k2.elim
    | bad => rw [ei] at k2; exact k2.elim
  · rintro H2 ⟨kvs, ds, h1, e2, r2, z2, k2⟩
    rw [List.drop_length] at k2
    exact k2 D H2 (e1.trans e2) hDH (.dK h1 r2)
end
end VL
set_option Elab.async false
set_option linter.all false
set_option maxRecDepth 100000
set_option maxHeartbeats 2000000
set_option autoImplicit false
/-! VLC: what the printed texts use. -/
namespace VL
open PySem PySem.Spec L2 R
/-! ### the context's room -/
theorem Good.u70 {T : Tb} {E : XK} {k : Nat} {X : Cx} (G : Good T E k X) : X.A.units + 70 < cLine := by have := G.rm.un; omega
theorem Good.u65 {T : Tb} {E : XK} {k : Nat} {X : Cx} (G : Good T E k X) : X.A.units + 65 < cLine := by have := G.rm.un; omega
theorem Good.u64 {T : Tb} {E : XK} {k : Nat} {X : Cx} (G : Good T E k X) : X.A.units + 64 < cLine := by have := G.rm.un; omega
theorem Good.u1 {T : Tb} {E : XK} {k : Nat} {X : Cx} (G : Good T E k X) : X.A.units + 1 < cLine := by have := G.rm.un; omega
/-- a def by its body, in its own context -/
theorem fnG_at {T : Tb} {P : Program} {w : World} {mg : Str → Option Value} {base : Heap} {x qual : Str} {st : Stmt} {f : Addr} {fd : FuncData} {N ps : List Str} {k : Nat} {body : En → R Fl} (Fu : Fun T.K x qual st f fd) (S : FnScope N ps (defScope st)) (hN : ps.length ≤ N.length)
    (hb : ∀ (cdv : Value) (A : Around) (outer : List Env) (s : Shared) (H : Hp) (E : XK), Good T E k (cxOf (L2N.CX P w) P w T.K mg base N qual (defScope st) f cdv A outer s H E) → ∃ O', VS (M := mdR T) T E [] O' (cxOf (L2N.CX P w) P w T.K mg base N qual (defScope st) f cdv A outer s H E) (defBody st) body) :
    FnG T P w mg base (k + 1) f fd ps (runF N.length body) := by
  obtain ⟨oc, od, kV, doc, pm, an, cdv, ct, osl, rfl, lk, hcd⟩ := Fu.ex
  refine ⟨fun A outer s H L args us vs ds Q E hr hgd e0 hbt rv trk ra hl hres => ?_⟩
  have hvl : vs.length = ps.length := by rw [ra.length, hl]
  have KX : T.K.In s.heap := e0.mod.kin.keeps fun b o e => (e0.bs b o e).1
  have lim : s.heap.NoLimit := e0.mod.nolimit.keeps fun b o e => (e0.bs b o e).1
  refine codeAny_call_function hr.depth (KX _ _ lk) rfl S.co S.gen rfl (PySem.W.codeRec_of KX hcd) (hbt _ _ _ _ ?_)
  refine wpAny_newFunctionEnv_cells S.kind ?_ fun env he s1 x1 => ?_
  · rintro ⟨n, v⟩ hy
    rcases S.par n (List.of_mem_zip hy).1 with q | q
    · exact .inl q
    · exact .inr ⟨q, PySem.W.cellsFrom_some _ _ _ (.inl q)⟩
  subst he
  refine ⟨lim.keeps x1.toInCall.keep, codeAny_func ?_⟩
  generalize hX : cxOf (L2N.CX P w) P w T.K mg base N qual (defScope st) f cdv A outer s H E = X
  have I : Inv X [] (L2.start N vs) H s1 := by
    rw [← hX]
    exact inv_start S hr.hd e0 hvl rv x1
  have G : Good T E k X := by
    subst hX
    exact ⟨rfl, rfl, S.nd, hgd, hr.deeper _, L2N.takes_of rfl rfl rfl rfl⟩
  obtain ⟨O', t, pt, qt⟩ : ∃ O', VS (M := mdR T) T E [] O' X (defBody st) body := by
    subst hX
    exact hb cdv A outer s H E G
  have re : EnvR T L [] H (L2.start N vs) (env0 N.length ds) := by
    refine ⟨?_, fun i d h _ => ?_, fun i a h => (nomatch h), trk, .nil, .nil⟩
    · unfold env0 L2.start
      simp only [List.length_append, List.length_map, List.length_replicate]
      rw [ra.length]
    · obtain ⟨v, h1, h2⟩ := ra.get' (env0_get h)
      exact ⟨v, start_get h1, h2⟩
  have hq := qt (hid H L) L H L [] H (L2.start N vs) (env0 N.length ds) { nx := fun _ H' => Q .non H', rt := Q } ⟨rfl, trk, fun _ h => h, Evl.Ex.refl H, fun a h => .inl h, fun _ h => (nomatch h), re, by
    have e : X.N = N := by subst hX; rfl
    rw [e]
    unfold env0
    rw [List.length_append, List.length_map, List.length_replicate, hl]
    omega, Evl.Ex.refl _⟩ (by
    unfold runF at hres
    rw [res_bind] at hres
    refine hres.imp (fun fl h => ?_) fun _ _ h => h
    cases fl with
    | nx env' => exact fun σ' H' L' ow' S => h _ H' S.ex .non
    | rt d => exact fun v H' e r => h v H' e r)
  have hrun := pt.run [] s1 (L2.start N vs) H _ I hq
  subst hX
  refine wpAny_mono hrun (fun fl s' hs => ?_) fun e s' hs => hs
  have fin : ∀ {σ' : L2.St} {H' : Hp} {v : V} {u : Value}, Inv (cxOf (L2N.CX P w) P w T.K mg base N qual (defScope st) f cdv A outer s H E) [] σ' H' s' → RelV v u → Q v H' → CE outer P w H s Q u s' := by
    intro σ' H' v u J r q
    exact ⟨v, H', J.os, J.bare, J.base, J.hok, r, q⟩
  cases fl with
  | ret u =>
    obtain ⟨v, σ', H', J, r, q⟩ := hs
    exact fin J r q
  | next =>
    obtain ⟨σ', H', J, q⟩ := hs
    exact fin (v := V.non) (u := Value.none) J rfl q
  | brk =>
    obtain ⟨_, _, _, q⟩ := hs
    exact q.elim
  | cont =>
    obtain ⟨_, _, _, q⟩ := hs
    exact q.elim


theorem fun_of {K : PySem.W.Frag} {x q : Str} {st : Stmt} {f : Addr} {fd : FuncData} (F : FunD K x q (defArgs st) (defBody st) (defScope st) [] [] f fd) : Fun K x q st f fd := by
  obtain ⟨oc, od, dV, kV, doc, pm, an, cdv, ct, osl, e, lk, hc, dv, _⟩ := F.ex
  refine ⟨⟨oc, od, kV, doc, pm, an, cdv, ct, osl, ?_, lk, hc⟩, F.kp⟩
  rcases dv with ⟨_, e2⟩ | ⟨h, _⟩
  · rw [e, e2]
  · exact absurd rfl h
/-- a def of the module, ready to be called -/
structure GF (T : Tb) (P : Program) (w : World) (mg : Str → Option Value) (base : Heap) (k : Nat) (x : Str) (ps : List Str) (F : List PV → R PV) : Prop where
  ex : ∃ f fd, FnG T P w mg base k f fd ps F ∧ mg x = some (.ref f) ∧ PySem.W.keepIn T.K (.ref f) = true ∧ Binds T.K fd ps []
section
variable {T : Tb} {E : XK} {O : List Nat} {X : Cx} {k kk : Nat} {ps : List Str} {F : List PV → R PV} {x : Str} {p pos : Pos} {e : Expr} {es : List Expr} {fs : En → R (List PV)}
theorem ve_callG (G : Good T E kk X) (C : GF T X.prog X.w X.mg X.base k x ps F) (hk : k ≤ kk) {n : Nat} (hn : ps.length = n) (ha : VN T E O X (e :: es) n fs) (hg : Gl X x := by rfl) (hdb : (x == ("__debug__" : Str)) = false := by decide)
    (he : starEach (e :: es) X.env = (false, eval e X.env) :: starEach es X.env := by rfl) (hpl : (backTo pos (starEach es X.env)).any (·.1) = false := by rfl) : VE T E O X (.Call (.Name x p) (e :: es) [] pos) (fun env => do F (← fs env)) := by
  obtain ⟨f, fd, h1, h2, h3, h4⟩ := C.ex
  exact ve_call G h1 hk h2 (by rw [G.K]; exact h3) (by rw [G.K]; exact h4) hn ha hg hdb he hpl
end
/-! ### a block's scope, checked -/
def blkB (N : List Str) (sc scope : Scope) (own : List (Str × Nat)) : Bool :=
  decide (scope.kind = .function) && (scope.names.all (fun y => decide (scope.names.lookup y.1 = some y.2)) && (own.all (fun p => decide (N[p.2]? = some p.1)) &&
    (scope.names.all (fun y => decide (y.2 ≠ .free) || (decide (sc.names.lookup y.1 = some .cell) || decide (sc.names.lookup y.1 = some .free))) &&
    scope.names.all (fun y => (decide (y.2 ≠ .local) && decide (y.2 ≠ .cell)) || (decide (y.1 ∈ own.map (·.1)) || !decide (y.1 ∈ N))))))
theorem blkOk_of {N : List Str} {sc scope : Scope} {own : List (Str × Nat)} (h : blkB N sc scope own = true) : BlkOk N sc scope own := by
  unfold blkB at h
  simp only [Bool.and_eq_true, List.all_eq_true, decide_eq_true_eq, Bool.or_eq_true, Bool.not_eq_true', decide_eq_false_iff_not] at h
  obtain ⟨h1, h2, h3, h4, h5⟩ := h
  refine ⟨h1, h2, h3, fun y hy e => ?_, fun y hy e => ?_⟩
  · rcases h4 y hy with z | z
    · exact absurd e z
    · exact z
  · rcases h5 y hy with z | z
    · rcases e with e | e
      · exact absurd e z.1
      · exact absurd e z.2
    · exact z
end VL
set_option Elab.async false
set_option linter.all false
set_option maxRecDepth 100000
set_option maxHeartbeats 2000000
set_option autoImplicit false
/-! VLF: defs whose lists and dicts are new objects (FnM, GM), their returns and calls. -/
namespace VL
open PySem PySem.Spec L2 R
section
variable {T : Tb} {L L' : List Addr} {H0 H : Hp} {v : V} {d : PV} {p : Addr}
theorem RepO.sub (h : ∀ a ∈ L', a ∈ L) (r : RepO T L H p d) : RepO T L' H p d := by
  cases r with
  | lst h1 r z => exact .lst h1 (r.mono (hid_sub h)) z
  | dK h1 r => exact .dK h1 (r.mono (hid_sub h))
  | dT h1 r => exact .dT h1 (r.mono (hid_sub h))
theorem mdF_of (hp : H0 p = none) (r : RepO T (p :: L) H p d) : mdF T L H0 H (.ref p) d := by
  cases r with
  | lst h r z => exact ⟨p, rfl, hp, .lst h r z⟩
  | dK h r => exact ⟨p, rfl, hp, .dK h r⟩
  | dT h r => exact ⟨p, rfl, hp, .dT h r⟩
theorem mdF_sub (h : ∀ a ∈ L', a ∈ L) {H1 : Hp} (e : Ex H0 H1) (r : mdF T L H1 H v d) : mdF T L' H0 H v d := by
  unfold mdF at r ⊢
  have hs : ∀ {p : Addr}, ∀ a ∈ p :: L', a ∈ p :: L := fun {p} a ha => by
    rcases List.mem_cons.mp ha with rfl | ha
    · exact List.mem_cons_self
    · exact List.mem_cons_of_mem _ (h a ha)
  split
  · obtain ⟨p, e1, e2, e3⟩ := r
    exact ⟨p, e1, Evl.fresh_back e e2, e3.sub hs⟩
  · obtain ⟨p, e1, e2, e3⟩ := r
    exact ⟨p, e1, Evl.fresh_back e e2, e3.sub hs⟩
  · rename_i h1 h2
    cases d with
    | list x => exact absurd rfl (h1 x)
    | dict a b c => exact absurd rfl (h2 a b c)
    | _ => exact r.mono (hid_sub h)
theorem mdF_rep (t : Trk L H0) (e : Ex H0 H) (r : mdF T L H0 H v d) : Rep T (hid H L) v d ∨ ∃ p u, H p = some u ∧ Mut (some u) ∧ ∀ od, Ex H0 (upd H p (.frz od u)) ∧ Rep T (hid (upd H p (.frz od u)) L) v d := by
  cases d with
  | list x =>
    obtain ⟨p, rfl, e2, e3⟩ := r
    exact (e3.rep (t.new e2) e e2).imp id fun ⟨u, h⟩ => ⟨p, u, h⟩
  | dict a b c =>
    obtain ⟨p, rfl, e2, e3⟩ := r
    exact (e3.rep (t.new e2) e e2).imp id fun ⟨u, h⟩ => ⟨p, u, h⟩
  | _ => exact .inl r
/-- a list or a dict -/
def ownLD : PV → R PV
  | .list x => .ok (.list x)
  | .dict a b c => .ok (.dict a b c)
  | _ => .bad
end
/-- e gives f's value, of which M is known -/
def VM (M : Md) (T : Tb) (E : XK) (O : List Nat) (X : Cx) (e : Expr) (f : En → R PV) : Prop := ∃ t, PE X e t ∧ ∀ L ow H σ env Q, ow.map (·.1) = O → EnvR T L ow H σ env → Res (f env) (fun d => ∀ v H', Ex H H' → M L H H' v d → Q v H') (xw T E H) → t σ H Q
section
variable {M : Md} {T : Tb} {E : XK} {O O1 : List Nat} {X : Cx} {e : Expr} {f : En → R PV} {pos pos' : Pos} {x : Str}
theorem VM.ve (h : VM (mdF T) T E O X e f) : VE T E O X e f := by
  obtain ⟨t, p, q⟩ := h
  refine ⟨_, pe_frz p, fun L ow H σ env Q ho re hq => q L ow H σ env _ ho re (hq.imp (fun d k v H' e r => ?_) fun _ _ x => x)⟩
  rcases mdF_rep re.trk e r with r1 | ⟨p, u, h1, h2, h3⟩
  · exact .inl (k v H' e r1)
  · exact .inr ⟨p, u, h1, h2, fun od => k v _ (h3 od).1 (h3 od).2⟩
theorem VM.vf (h : VM (mdF T) T E O X e f) : VF T E O X e (fun env => do ownLD (← f env)) := by
  obtain ⟨t, p, q⟩ := h
  refine ⟨t, p, fun L ow H σ env Q ho re hq => ?_⟩
  simp only [res_bind] at hq
  refine q L ow H σ env Q ho re (hq.imp (fun d k v H' e r => ?_) fun _ _ x => x)
  cases d with
  | list x =>
    obtain ⟨p, rfl, e2, e3⟩ := r
    exact k p H' e e2 e3
  | dict a b c =>
    obtain ⟨p, rfl, e2, e3⟩ := r
    exact k p H' e e2 e3
  | _ => exact k.elim
theorem VF.vm (h : VF T E O X e f) : VM (mdF T) T E O X e f := by
  obtain ⟨t, p, q⟩ := h
  exact ⟨t, p, fun L ow H σ env Q ho re hq => q L ow H σ env Q ho re (hq.imp (fun d k p H' e hp r => k _ H' e (mdF_of hp r)) fun _ _ x => x)⟩
theorem vm_none {j pos} : VM (mdF T) T E O X (.Constant .none j pos) (fun _ => .ok .none) := by
  obtain ⟨t, p, q⟩ := (ve_non (T := T) (E := E) (O := O) (X := X) (j := j) (pos := pos))
  exact ⟨t, p, fun L ow H σ env Q ho re hq => q L ow H σ env Q ho re hq⟩
theorem vm_if {c a b : Expr} {ft : En → R Bool} {g : En → R PV} (hc : VT T E O X c ft) (ha : VM M T E O X a f) (hb : VM M T E O X b g) (hM : ∀ {L : List Addr} {H0 H1 H : Hp} {v : V} {d : PV}, Ex H0 H1 → M L H1 H v d → M L H0 H v d := by exact fun e r => mdF_sub (fun _ h => h) e r) : VM M T E O X (.IfExp c a b pos) (fun env => do if (← ft env) = true then f env else g env) := by
  obtain ⟨tc, pc, qc⟩ := hc
  obtain ⟨ta, pa, qa⟩ := ha
  obtain ⟨tb, pb, qb⟩ := hb
  refine ⟨_, pe_ifExp pc pa pb, fun L ow H σ env Q ho re hq => ?_⟩
  simp only [res_bind] at hq
  refine qc L ow H σ env _ ho re (hq.imp (fun d k H1 e1 => ?_) fun _ _ x => x)
  cases d with
  | true =>
    rw [if_pos rfl]
    rw [if_pos rfl] at k
    exact qa L ow H1 σ env _ ho (re.mono e1) (k.imp (fun d' k' v' H2 e2 r2 => k' v' H2 (e1.trans e2) (hM e1 r2)) fun _ _ x => xw_mono e1 x)
  | false =>
    rw [if_neg Bool.false_ne_true]
    rw [if_neg Bool.false_ne_true] at k
    exact qb L ow H1 σ env _ ho (re.mono e1) (k.imp (fun d' k' v' H2 e2 r2 => k' v' H2 (e1.trans e2) (hM e1 r2)) fun _ _ x => xw_mono e1 x)
/-- return e, e new | none | of a def that gives new ones -/
theorem vs_retM (ha : VM (mdF T) T E O X e f) : VS1 (M := mdF T) T E O O1 X (.Return (some e) pos) (fun env => do .ok (.rt (← f env))) := by
  obtain ⟨t, p, q⟩ := ha
  refine ⟨_, ps_ret p, fun B L0 H0 L ow H σ env D S h => ?_⟩
  simp only [res_bind] at h
  refine q L ow H σ env D.rt S.ho S.re (h.imp (fun d k v H' e r => ?_) fun _ _ x => xw_mono S.ex x)
  exact k v H' (S.ex.trans e) (mdF_sub S.sub S.ex r)
theorem vs_retF (ha : VF T E O X e f) : VS1 (M := mdF T) T E O O1 X (.Return (some e) pos) (fun env => do .ok (.rt (← f env))) := vs_retM ha.vm
theorem vs_retNF : VS1 (M := mdF T) T E O O1 X (.Return none pos) (fun _ => .ok (.rt .none)) := ⟨_, ps_retN, fun B L0 H0 L ow H σ env D S h => h .non H S.ex .non⟩
/-- return of an own local -/
theorem vs_retL (i : Nat) (hi : O.contains i = true) (hN : X.N[i]? = some x := by rfl) (hv : Vis X.env.scope x := by first | exact Or.inl rfl | exact Or.inr (Or.inl rfl) | exact Or.inr (Or.inr rfl))
    (hd : (x == ("__debug__" : Str)) = false := by decide) (hcd : (x == ("__classdict__" : Str)) = false := by decide) : VS1 (M := mdF T) T E O O1 X (.Return (some (.Name x pos')) pos) (fun env => do .ok (.rt (← getE env i))) := by
  refine ⟨_, ps_ret (pe_var hN hv hd hcd), fun B L0 H0 L ow H σ env D S h => ?_⟩
  simp only [res_bind] at h
  have hmi : i ∈ ow.map (·.1) := by rw [S.ho]; simpa using hi
  obtain ⟨⟨j, a⟩, hm, rfl⟩ := List.mem_map.mp hmi
  obtain ⟨haL, hσ, d0, hd0, r0⟩ := S.re.own j a hm
  have hg : getE env j = .ok d0 := by unfold getE; rw [hd0]
  dsimp only at h
  rw [hg, res_ok, res_ok] at h
  refine ⟨_, hσ, ?_⟩
  have ha0 : H0 a = none := by
    rcases S.new a haL with z | z
    · exact absurd z (S.no0 _ hm)
    · exact z
  exact h _ H S.ex (mdF_of ha0 (r0.sub fun b hb => by
    rcases List.mem_cons.mp hb with rfl | hb
    · exact haL
    · exact S.sub b hb))
end
/-- the def at f gives F of its arguments, M is known of what it gives -/
structure FnM (M : Md) (T : Tb) (P : Program) (w : World) (mg : Str → Option Value) (base : Heap) (k : Nat) (f : Addr) (fd : FuncData) (ps : List Str) (F : List PV → R PV) : Prop where
  run : ∀ (A : Around) (outer : List Env) (s : Shared) (H : Hp) (L : List Addr) (args : Args) (us : List Value) (vs : List V) (ds : List PV) (Q : VK) (E : XK), Room k A → A.guards = some [] →
    Env0 P w T.K mg base A outer s H → BindsTo s fd args (ps.zip us) → Vals vs us → Trk L H → RepA T (hid H L) vs ds → ds.length = ps.length →
    Res (F ds) (fun d => ∀ v H', Ex H H' → M L H H' v d → Q v H') (xw T E H) → codeAny (model P w) A (.call (.ref f) args) (CR (L2N.CX P w) outer P w H s Q E) s
theorem fnM_at {M : Md} {T : Tb} {P : Program} {w : World} {mg : Str → Option Value} {base : Heap} {x qual : Str} {st : Stmt} {f : Addr} {fd : FuncData} {N ps : List Str} {k : Nat} {body : En → R Fl} (Fu : Fun T.K x qual st f fd) (S : FnScope N ps (defScope st)) (hN : ps.length ≤ N.length)
    (hM : ∀ L H H', M L H H' .non .none)
    (hb : ∀ (cdv : Value) (A : Around) (outer : List Env) (s : Shared) (H : Hp) (E : XK), Good T E k (cxOf (L2N.CX P w) P w T.K mg base N qual (defScope st) f cdv A outer s H E) → ∃ O', VS (M := M) T E [] O' (cxOf (L2N.CX P w) P w T.K mg base N qual (defScope st) f cdv A outer s H E) (defBody st) body) :
    FnM M T P w mg base (k + 1) f fd ps (runF N.length body) := by
  obtain ⟨oc, od, kV, doc, pm, an, cdv, ct, osl, rfl, lk, hcd⟩ := Fu.ex
  refine ⟨fun A outer s H L args us vs ds Q E hr hgd e0 hbt rv trk ra hl hres => ?_⟩
  have hvl : vs.length = ps.length := by rw [ra.length, hl]
  have KX : T.K.In s.heap := e0.mod.kin.keeps fun b o e => (e0.bs b o e).1
  have lim : s.heap.NoLimit := e0.mod.nolimit.keeps fun b o e => (e0.bs b o e).1
  refine codeAny_call_function hr.depth (KX _ _ lk) rfl S.co S.gen rfl (PySem.W.codeRec_of KX hcd) (hbt _ _ _ _ ?_)
  refine wpAny_newFunctionEnv_cells S.kind ?_ fun env he s1 x1 => ?_
  · rintro ⟨n, v⟩ hy
    rcases S.par n (List.of_mem_zip hy).1 with q | q
    · exact .inl q
    · exact .inr ⟨q, PySem.W.cellsFrom_some _ _ _ (.inl q)⟩
  subst he
  refine ⟨lim.keeps x1.toInCall.keep, codeAny_func ?_⟩
  generalize hX : cxOf (L2N.CX P w) P w T.K mg base N qual (defScope st) f cdv A outer s H E = X
  have I : Inv X [] (L2.start N vs) H s1 := by
    rw [← hX]
    exact inv_start S hr.hd e0 hvl rv x1
  have G : Good T E k X := by
    subst hX
    exact ⟨rfl, rfl, S.nd, hgd, hr.deeper _, L2N.takes_of rfl rfl rfl rfl⟩
  obtain ⟨O', t, pt, qt⟩ : ∃ O', VS (M := M) T E [] O' X (defBody st) body := by
    subst hX
    exact hb cdv A outer s H E G
  have re : EnvR T L [] H (L2.start N vs) (env0 N.length ds) := by
    refine ⟨?_, fun i d h _ => ?_, fun i a h => (nomatch h), trk, .nil, .nil⟩
    · unfold env0 L2.start
      simp only [List.length_append, List.length_map, List.length_replicate]
      rw [ra.length]
    · obtain ⟨v, h1, h2⟩ := ra.get' (env0_get h)
      exact ⟨v, start_get h1, h2⟩
  have hq := qt (hid H L) L H L [] H (L2.start N vs) (env0 N.length ds) { nx := fun _ H' => Q .non H', rt := Q } ⟨rfl, trk, fun _ h => h, Evl.Ex.refl H, fun a h => .inl h, fun _ h => (nomatch h), re, by
    have e : X.N = N := by subst hX; rfl
    rw [e]
    unfold env0
    rw [List.length_append, List.length_map, List.length_replicate, hl]
    omega, Evl.Ex.refl _⟩ (by
    unfold runF at hres
    rw [res_bind] at hres
    refine hres.imp (fun fl h => ?_) fun _ _ h => h
    cases fl with
    | nx env' => exact fun σ' H' L' ow' S => h _ H' S.ex (hM _ _ _)
    | rt d => exact fun v H' e r => h v H' e r)
  have hrun := pt.run [] s1 (L2.start N vs) H _ I hq
  subst hX
  refine wpAny_mono hrun (fun fl s' hs => ?_) fun e s' hs => hs
  have fin : ∀ {σ' : L2.St} {H' : Hp} {v : V} {u : Value}, Inv (cxOf (L2N.CX P w) P w T.K mg base N qual (defScope st) f cdv A outer s H E) [] σ' H' s' → RelV v u → Q v H' → CE outer P w H s Q u s' := by
    intro σ' H' v u J r q
    exact ⟨v, H', J.os, J.bare, J.base, J.hok, r, q⟩
  cases fl with
  | ret u =>
    obtain ⟨v, σ', H', J, r, q⟩ := hs
    exact fin J r q
  | next =>
    obtain ⟨σ', H', J, q⟩ := hs
    exact fin (v := V.non) (u := Value.none) J rfl q
  | brk =>
    obtain ⟨_, _, _, q⟩ := hs
    exact q.elim
  | cont =>
    obtain ⟨_, _, _, q⟩ := hs
    exact q.elim
/-- a def of the module that gives new objects, ready to be called -/
structure GM (T : Tb) (P : Program) (w : World) (mg : Str → Option Value) (base : Heap) (k : Nat) (x : Str) (ps : List Str) (F : List PV → R PV) : Prop where
  ex : ∃ f fd, FnM (mdF T) T P w mg base k f fd ps F ∧ mg x = some (.ref f) ∧ PySem.W.keepIn T.K (.ref f) = true ∧ Binds T.K fd ps []
section
variable {T : Tb} {E : XK} {O : List Nat} {X : Cx} {k kk : Nat} {ps : List Str} {F : List PV → R PV} {x : Str} {p pos : Pos} {e : Expr} {es : List Expr} {fs : En → R (List PV)}
theorem runM {M : Md} {f : Addr} {fd : FuncData} {pins : List (Addr × Obj)} {σ : L2.St} {H : Hp} {s : Shared} {Q : VK} {us : List Value} {vs : List V} {ds : List PV} {L : List Addr} (G : Good T E kk X) (Fg : FnM M T X.prog X.w X.mg X.base k f fd ps F) (hk : k ≤ kk) (hb : Binds X.K fd ps [])
    (I : Inv X pins σ H s) (r : Vals vs us) (trk : Trk L H) (ra : RepA T (hid H L) vs ds) (hl : ds.length = ps.length) (h : Res (F ds) (fun d => ∀ v H', Ex H H' → M L H H' v d → Q v H') (xw T E H)) : wpAny (model X.prog X.w) X.A (call (.ref f) us) (EP X pins σ Q) X.xe s := by
  have hul : (us ++ []).length = ps.length := by rw [List.append_nil, ← r.length, ra.length, hl]
  have hbb := hb s us I.kIn hul
  rw [List.append_nil] at hbb
  have env := I.env0
  rw [G.K] at env
  refine wpAny_call (codeAny_mono (Fg.run X.A X.stack s H L ⟨us, []⟩ us vs ds Q E (G.rm.mono hk) G.gd env hbb r trk ra hl h) fun rr s' hq => ?_)
  cases rr with
  | error e => exact L2N.passes_call G.tk (fun _ _ _ _ h => h) pins σ H s e s' I hq
  | ok fl =>
    cases fl with
    | ret u => exact I.after hq
    | next => exact hq.elim
    | brk => exact hq.elim
    | cont => exact hq.elim
theorem vm_callM (G : Good T E kk X) (C : GM T X.prog X.w X.mg X.base k x ps F) (hk : k ≤ kk) {n : Nat} (hn : ps.length = n) (ha : VN T E O X (e :: es) n fs) (hg : Gl X x := by rfl) (hdb : (x == ("__debug__" : Str)) = false := by decide)
    (he : starEach (e :: es) X.env = (false, eval e X.env) :: starEach es X.env := by rfl) (hpl : (backTo pos (starEach es X.env)).any (·.1) = false := by rfl) : VM (mdF T) T E O X (.Call (.Name x p) (e :: es) [] pos) (fun env => do F (← fs env)) := by
  obtain ⟨f, fd, Fg, hm, hkp, hb⟩ := C.ex
  rw [← G.K] at hkp hb
  obtain ⟨⟨ta, pa, qa⟩, hfs⟩ := ha
  refine ⟨fun σ H Q => ta σ H fun vs H1 => ∃ L ds, Trk L H1 ∧ RepA T (hid H1 L) vs ds ∧ ds.length = ps.length ∧ Res (F ds) (fun d => ∀ v H', Ex H1 H' → mdF T L H1 H' v d → Q v H') (xw T E H1), ⟨fun pins s σ H Q I h => ?_⟩, fun L ow H σ env Q ho re hq => ?_⟩
  · refine wpAny_Call_Name_kw (ld_glob I hg hm ?_ hdb)
    refine PySem.W.callWith_K (h₀ := X.base) I.ok.mod.kin hkp (thn (pa.run pos pins s σ H _ I h) fun us s1 ⟨vs, H1, I1, r, L, ds, q1, q2, q3, q4⟩ => ⟨I1.kIn, ?_⟩) he hpl
    exact runM G Fg hk hb I1 r q1 q2 q3 q4
  · simp only [res_bind] at hq
    cases efs : fs env with
    | ok l =>
      rw [efs, res_ok] at hq
      refine qa L ow H σ env _ ho re ?_
      rw [efs]
      exact fun vs H1 e1 r1 => ⟨L, l, re.trk.mono e1, r1, by rw [hn]; exact hfs env l efs, hq.imp (fun d k v H2 e2 rv => k v H2 (e1.trans e2) (mdF_sub (fun _ h => h) e1 rv)) fun _ _ x => xw_mono e1 x⟩
    | exc c d =>
      rw [efs] at hq
      refine qa L ow H σ env _ ho re ?_
      rw [efs]
      exact hq
    | bad => rw [efs] at hq; exact hq.elim
end
end VL
set_option Elab.async false
set_option linter.all false
set_option autoImplicit false
/-! VLD: names for the functions that the rules build. -/
namespace VL
open R
abbrev cV (i : Nat) : En → R PV := fun env => getE env i
abbrev cK (d : PV) : En → R PV := fun _ => .ok d
abbrev cX : En → R PV := fun _ => .bad
abbrev cB (o : PV → PV → R PV) (f g : En → R PV) : En → R PV := fun env => do o (← f env) (← g env)
abbrev cU (o : PV → R PV) (f : En → R PV) : En → R PV := fun env => do o (← f env)
abbrev cCh (o o' : PV → PV → R PV) (f g h : En → R PV) : En → R PV := fun env => do
  let x ← f env
  let y ← g env
  let k ← boolP (← o x y)
  if k = true then do o' y (← h env) else .ok (.bool false)
abbrev cIf (t : En → R Bool) (f g : En → R PV) : En → R PV := fun env => do if (← t env) = true then f env else g env
abbrev cAnd (f g : En → R PV) : En → R PV := fun env => do
  let x ← f env
  if (← truP x) = true then g env else .ok x
abbrev cOr (f g : En → R PV) : En → R PV := fun env => do
  let x ← f env
  if (← truP x) = true then .ok x else g env
abbrev cNot (f : En → R PV) : En → R PV := fun env => do .ok (.bool (!(← truP (← f env))))
abbrev aN : En → R (List PV) := fun _ => .ok []
abbrev aC (f : En → R PV) (fs : En → R (List PV)) : En → R (List PV) := fun env => do
  let x ← f env
  let l ← fs env
  .ok (x :: l)
abbrev aS (f : En → R PV) (fs : En → R (List PV)) : En → R (List PV) := fun env => do
  let x ← itemsP (← f env)
  let l ← fs env
  .ok (x ++ l)
abbrev cTup (fs : En → R (List PV)) : En → R PV := fun env => do
  let l ← fs env
  lim l.length (.ok (.tup l))
abbrev cLst (fs : En → R (List PV)) : En → R PV := fun env => do
  let l ← fs env
  lim l.length (.ok (.list l))
abbrev oN : En → R (Option Int) := fun _ => .ok none
abbrev oS (f : En → R PV) : En → R (Option Int) := fun env => do partP (← f env)
abbrev cSl (f : En → R PV) (fl fh : En → R (Option Int)) : En → R PV := fun env => do
  let x ← f env
  let l ← fl env
  let u ← fh env
  sliceP x l u
abbrev cSt (f : En → R PV) (fl fh fs : En → R (Option Int)) : En → R PV := fun env => do
  let x ← f env
  let l ← fl env
  let u ← fh env
  let k ← fs env
  stepP x l u k
abbrev cJoin (f g : En → R PV) : En → R PV := fun env => do joinP (← strR (← f env)) (← g env)
abbrev cCall (F : List PV → R PV) (fs : En → R (List PV)) : En → R PV := fun env => do F (← fs env)
/-! tests -/
abbrev tV (f : En → R PV) : En → R Bool := fun env => do truP (← f env)
abbrev tB (o : PV → PV → R PV) (f g : En → R PV) : En → R Bool := fun env => do boolP (← o (← f env) (← g env))
abbrev tCh (o o' : PV → PV → R PV) (f g h : En → R PV) : En → R Bool := fun env => do
  let x ← f env
  let y ← g env
  let k ← boolP (← o x y)
  if k = true then do boolP (← o' y (← h env)) else .ok false
abbrev tNot (t : En → R Bool) : En → R Bool := fun env => do .ok (!(← t env))
abbrev tAnd (t u : En → R Bool) : En → R Bool := fun env => do if (← t env) = true then u env else .ok false
abbrev tOr (t u : En → R Bool) : En → R Bool := fun env => do if (← t env) = true then .ok true else u env
abbrev tT : En → R Bool := fun _ => .ok true
/-! what is gone through -/
abbrev iV (f : En → R PV) : En → R (List PV) := fun env => do iterP (← f env)
abbrev iR1 (f : En → R PV) : En → R (List PV) := fun env => do range1P (← f env)
abbrev iR2 (f g : En → R PV) : En → R (List PV) := fun env => do range2P (← f env) (← g env)
abbrev iR3 (f g h : En → R PV) : En → R (List PV) := fun env => do range3P (← f env) (← g env) (← h env)
abbrev iE (f : En → R PV) : En → R (List PV) := fun env => do enumP (← f env)
abbrev iZ (f g : En → R PV) : En → R (List PV) := fun env => do zipP (← f env) (← g env)
/-! targets -/
abbrev gN (i : Nat) : PV → En → R En := fun d env => .ok (env.set i (some d))
abbrev gT (n : Nat) (gg : List PV → En → R En) : PV → En → R En := fun d env => do gg (← tupP n d) env
/-! comprehensions -/
abbrev cComp (fi : En → R (List PV)) (fg : PV → En → R En) (ft : En → R Bool) (f : En → R PV) (vs : List Nat) : En → R PV := fun env => do
  let items ← fi env
  let l ← compE (itemF fg ft f (wipeE env vs)) items
  .ok (.list l)
abbrev cDComp (fi : En → R (List PV)) (fg : PV → En → R En) (ft : En → R Bool) (fk fv : En → R PV) (vs : List Nat) : En → R PV := fun env => do
  let items ← fi env
  dcompE (itemDF fg ft fk fv (wipeE env vs)) items (.dict false [] [])
/-! statements -/
abbrev sNil : En → R Fl := fun env => .ok (.nx env)
abbrev sRet (f : En → R PV) : En → R Fl := fun env => do .ok (.rt (← f env))
abbrev sRetN : En → R Fl := fun _ => .ok (.rt .none)
abbrev sBad : En → R Fl := fun _ => .bad
abbrev sEx (f : En → R PV) : En → R Fl := fun env => do
  let _ ← f env
  .ok (.nx env)
abbrev sSet (i : Nat) (f : En → R PV) : En → R Fl := fun env => do
  let d ← f env
  .ok (.nx (env.set i (some d)))
abbrev sIf (t : En → R Bool) (fs gs : En → R Fl) : En → R Fl := fun env => do if (← t env) = true then fs env else gs env
abbrev sApp (i : Nat) (f : En → R PV) : En → R Fl := fun env => do
  let ds ← ownL (← getE env i)
  let v ← f env
  lim (ds.length + 1) (.ok (.nx (env.set i (some (.list (ds ++ [v]))))))
abbrev sExt (i : Nat) (f : En → R PV) : En → R Fl := fun env => do
  let ds ← ownL (← getE env i)
  let es ← ownL (← f env)
  lim (ds.length + es.length) (.ok (.nx (env.set i (some (.list (ds ++ es))))))
abbrev sPut (i : Nat) (g f : En → R PV) : En → R Fl := fun env => do
  let v ← f env
  let d ← ownD (← getE env i)
  let k ← g env
  let d' ← putP d k v
  .ok (.nx (env.set i (some d')))
abbrev sAsg (f : En → R PV) (fg : PV → En → R En) : En → R Fl := fun env => do
  let d ← f env
  .ok (.nx (← fg d env))
abbrev sPar (i j : Nat) (f1 f2 : En → R PV) : En → R Fl := fun env => do
  let d1 ← f1 env
  let d2 ← f2 env
  .ok (.nx ((env.set i (some d1)).set j (some d2)))
abbrev sFor (fi : En → R (List PV)) (fg : PV → En → R En) (fs : En → R Fl) : En → R Fl := fun env => do
  let items ← fi env
  forE (fun d env => do fs (← fg d env)) items env
end VL
set_option Elab.async false
set_option linter.all false
set_option maxRecDepth 100000
set_option maxHeartbeats 2000000
/-! VLN: enumerate over a tuple; list(range(a, b, -1)). -/
namespace VLN
open PySem PySem.Spec PyProof.Rows L2
theorem meets_enum {v : Value} {o : Obj} {H : Heap → Prop} (B : Begins v o H) :
    Meets (Builtin.«enumerate.__new__» ⟨[.type "enumerate", v], []⟩) (fun _ R s => H s.heap ∧ R (.ok (.ret (.ref (s.heap.push o).objs.size))) { s with heap := (s.heap.push o).push { cls := .type "enumerate", data := .fields #[.none, .bool false, .ref s.heap.objs.size, rawInt 0, .none, .none] } }) :=
  .of_wp fun prog w A R s h => by
    obtain ⟨hp, g, d, tk, os⟩ := s; obtain ⟨h1, h⟩ := h
    have hsub := sub_enumerate
    have q1 : ∀ {A' : Around} {E : Value → Shared → Prop} {Q : Value → Shared → Prop}, Q (.ref hp.objs.size) ⟨hp.push o, g, d, tk, os⟩ → wpAny (model prog w) A' (pyIter v) Q E ⟨hp, g, d, tk, os⟩ := fun q => B.iter prog w _ _ ⟨hp, g, d, tk, os⟩ _ h1 q
    wp_walk using q1
    refine wpAny_stack_any fun st => wpAny_pure ?_
    split
    · rename_i c _ _ _ _ _
      cases (c == Value.type "enumerate") <;> (wp_walk using q1; exact ⟨_, rfl, h⟩)
    · wp_walk using q1
      exact ⟨_, rfl, h⟩
section
variable {prog : Program} {w : World} {A : Around} {E : Value → Shared → Prop} {s : Shared}
theorem call_enum {v : Value} {o : Obj} {H : Heap → Prop} {Q : Value → Shared → Prop} (B : Begins v o H) (h1 : H s.heap)
    (h : ∀ h', IsEnum h' (s.heap.objs.size + 1) s.heap.objs.size 0 .none → h'.get? s.heap.objs.size = some o → h'.objs.size = s.heap.objs.size + 2 → (∀ b o, s.heap.get? b = some o → h'.get? b = some o) → Q (.ref (s.heap.objs.size + 1)) { s with heap := h' }) :
    wpAny (model prog w) A (call (.type "enumerate") [v]) Q E s := by
  refine callType_new F.called_enumerate (by decide) (F.typeCall_enumerate_1 _) (F.newCall_enumerate_1 _) (fun obj => F.args_object_init_2 obj _) F.entry_enumerate_new (meets_enum B) ⟨h1, ?_⟩
  have hz : (s.heap.push o).objs.size = s.heap.objs.size + 1 := Heap.size_push ..
  show _ ∧ _
  rw [hz]
  have he : IsEnum ((s.heap.push o).push { cls := .type "enumerate", data := .fields #[.none, .bool false, .ref s.heap.objs.size, rawInt 0, .none, .none] }) (s.heap.objs.size + 1) s.heap.objs.size 0 .none := by
    have q := Heap.get?_push_size (s.heap.push o) (o := { cls := .type "enumerate", data := .fields #[.none, .bool false, .ref s.heap.objs.size, rawInt 0, .none, .none] }) rfl
    rwa [hz] at q
  exact ⟨⟨_, he, rfl⟩, h _ he (Heap.get?_push_of_some _ (Heap.get?_push_size _ B.free)) (by rw [Heap.size_push, hz]) fun b o x => Heap.get?_push_of_some _ (Heap.get?_push_of_some _ x)⟩
end
/-- the tuple at a, each item in a new pair with its place -/
def Itet (K : PySem.W.Frag) (a : Addr) : It :=
  ⟨fun i H => ∃ (xs : List V) (x : V), SqT K H a xs ∧ xs[i]? = some x, fun i H v H' => ∃ T x, v = .ref T ∧ H T = none ∧ H' = upd H T (.tup [.int (i : Nat), x]) ∧ ∀ xs, SqT K H a xs → xs[i]? = some x, fun i H => ∃ xs : List V, SqT K H a xs ∧ xs.length = i⟩
theorem turn_enumT {P : Program} {w : World} {K : PySem.W.Frag} {elts : List Expr} {kk : Nat} {tpos : Pos} (a e it : Addr) :
    Turn P w K (.Tuple elts kk tpos) (Itet K a) [e, it] e (fun i h => (∃ old, IsEnum h e it ((i : Nat) : Int) old) ∧ h.IsTupleIter it a i ∧ e ≠ it ∧ a ≠ it ∧ a ≠ e) where
  mem := by simp
  obj := fun i h st b hb => by
    obtain ⟨⟨old, he⟩, ⟨o, ho, hc, hd⟩, _⟩ := st
    rcases (show b = e ∨ b = it by simpa using hb) with z | z
    · rw [z]
      exact ⟨_, he, fun v q => nomatch q⟩
    · rw [z]
      exact ⟨o, ho, fun v q => by rw [hd] at q; cases q⟩
  keep := fun i h h' st k => let ⟨⟨old, he⟩, hi, hne⟩ := st; ⟨⟨old, k e (by simp) _ he⟩, hi.at fun o q => k it (by simp) o q, hne⟩
  item := by
    intro X hP hw hK hc i pins s σ H E I hf st hg
    subst hP hw hK
    obtain ⟨⟨old, he⟩, hit, hne, na, nb⟩ := st
    obtain ⟨xs, x, hq, hx⟩ := hg
    obtain ⟨its, rv, p, hz⟩ := I.tuple hq
    have hel : e < s.heap.objs.size := Heap.lt_size he
    have hil : it < s.heap.objs.size := by obtain ⟨_, q, _⟩ := hit; exact Heap.lt_size q
    obtain ⟨u0, hu0, _⟩ := rv.get hx
    have hlt : i < its.toArray.size := by
      rw [List.size_toArray]
      exact (List.getElem?_eq_some_iff.mp hu0).1
    refine wpAny_pyNext_enum_itemD (Draws.tuple (A := X.A.in1) (I.ok.hd hc) it a na its.toArray) he ⟨hit, p⟩ hlt hne (by simp only [List.mem_cons, List.not_mem_nil, or_false, not_or]; exact ⟨hne, Ne.symm nb⟩) fun u h' tk hPu ho hit' hT hsz hk => ?_
    have hu : its[i]? = some u := by simpa using hPu
    have ru : RelV x u := by
      obtain ⟨u1, e1, e2⟩ := rv.get hx
      rw [hu] at e1
      cases e1
      exact e2
    refine ⟨_, rfl, wpAny_letOwnedTupleGo_enum (s := { s with heap := h', toks := tk + 1 }) ho fun h'' he' sb => ?_⟩
    have hT2 : h''.get? s.heap.objs.size = some { cls := .type "tuple", data := .seq #[.int i tk, u] } := (sb.2 _ (Nat.ne_of_gt hel)).trans hT
    have new : ObjOk X.prog X.w (upd H s.heap.objs.size (.tup [.int (i : Nat), x])) h'' s.heap.objs.size (.tup [.int (i : Nat), x]) := ⟨by show 2 ≤ sizeLine; decide, [.int i tk, u], .cons ⟨_, rfl⟩ (.cons ru .nil), ⟨_, hT2, rfl, _, rfl⟩⟩
    have I1 : Inv X pins σ (upd H s.heap.objs.size (.tup [.int (i : Nat), x])) { s with heap := h'', toks := tk + 1 } :=
      I.turnedNew (ch := [e, it]) (fun b ob hb q => (sb.2 b (fun z => hb (by simp [z]))).trans (hk b ob (fun z => hb (by simp [z])) (fun z => hb (by simp [z])) q)) hf (Nat.le_refl _) new
    refine ⟨.ref s.heap.objs.size, _, I1, rfl, ⟨_, x, rfl, I.hok.fresh (Nat.le_refl _), rfl, fun ys hy => by rw [I.tuple_inj hy hq]; exact hx⟩, ⟨⟨u, ?_⟩, hit'.1.at fun o q => (sb.2 it (Ne.symm hne)).trans q, hne, na, nb⟩, fun b hb => ?_⟩
    · rw [show ((i + 1 : Nat) : Int) = (i : Int) + 1 by omega]
      exact he'
    · have hb' : b < s.heap.objs.size := by
        rcases (show b = e ∨ b = it by simpa using hb) with z | z
        · rw [z]; exact hel
        · rw [z]; exact hil
      rw [upd_ne (Nat.ne_of_lt hb')]
      exact (hf b hb).1
  done := by
    intro X hP hw hK hc i pins s σ H E I hf st hg
    subst hP hw hK
    obtain ⟨⟨old, he⟩, hit, hne, na, nb⟩ := st
    obtain ⟨xs, hq, hx⟩ := hg
    obtain ⟨its, rv, p, hz⟩ := I.tuple hq
    obtain ⟨f0, f1, f2, f3, f4, f5⟩ := hf it (by simp)
    have hn : its.toArray.size = i := by
      rw [List.size_toArray, ← rv.length]
      exact hx
    refine wpAny_pyNext_enum_endD (n := its.toArray.size) (Draws.tuple (A := X.A.in1) (I.ok.hd hc) it a na its.toArray) he ⟨by rw [hn]; exact hit, p⟩ fun h' eb => ⟨rfl, I.turned (t' := s.toks) (fun b o hb q => eb b o hb q) f0 f1 f3 f4 f5⟩
  self := fun A i s Q E st h => let ⟨⟨_, he⟩, _⟩ := st; wpAny_pyIter_enum he h
theorem walk_enumT {K : PySem.W.Frag} {a : Addr} {xs : List V} : Walk (Itet K a) xs.length (fun H => SqT K H a xs) (YPair (fun i => some (.int (i : Nat))) fun i => xs[i]?) :=
  ⟨fun i _ hi q => ⟨xs, xs[i], q, by simp [hi]⟩, fun _ q => ⟨xs, q, rfl⟩, fun _ _ _ _ _ q y => by
    obtain ⟨T, x, h1, h2, h3, h4⟩ := y
    exact ⟨T, _, x, h1, h2, h3, rfl, h4 xs q⟩⟩
def iEnumT (K : PySem.W.Frag) (ta : TA) : TI := fun σ H R => ta σ H fun vs H1 => ∃ a xs, vs = [.ref a] ∧ SqT K H1 a xs ∧ R (Itet K a) H1
theorem pi_enumT {X : Cx} {e : Expr} {ta : TA} {p pos tpos : Pos} {elts : List Expr} {kk : Nat} (hg : Gl X "enumerate") (hm : X.mg "enumerate" = none) (ha : PA X [e] ta) (hs : starEach [e] X.env = [(false, eval e X.env)] := by rfl) :
    PI X (.Tuple elts kk tpos) (.Call (.Name "enumerate" p) [e] [] pos) (iEnumT X.K ta) := by
  refine ⟨fun pins s σ H R I h => ?_⟩
  refine Call_ (ld_blt I hg hm (show bootBuiltins ("enumerate" : PySem.Str) = some (.type "enumerate") from by kernel_rfl) (callWith_type1 (thn (ha.run pos pins s σ H _ I h) fun us s1 ⟨vs, H1, I1, r1, q1⟩ => ?_) hs rfl))
  obtain ⟨a, xs, ex, hq, q⟩ := q1
  subst ex
  cases r1 with
  | cons r rr =>
    cases rr
    cases r
    obtain ⟨its, rv, p', hz⟩ := I1.tuple hq
    have hal : a < s1.heap.objs.size := by
      obtain ⟨o, ho, _⟩ := p'
      exact Heap.lt_size ho
    refine call_enum (begins_tuple a its.toArray) p' fun h' he hit hsz hk => wpAny_pyIter_enum he ?_
    have I2 : Inv X pins σ H1 { s1 with heap := h' } := I1.kept (t' := s1.toks) hk
    refine ⟨s1.heap.objs.size + 1, [s1.heap.objs.size + 1, s1.heap.objs.size], _, _, H1, rfl, I2, turn_enumT a (s1.heap.objs.size + 1) s1.heap.objs.size, ⟨⟨.none, he⟩, ⟨_, hit, rfl, rfl⟩, Nat.succ_ne_self _, Nat.ne_of_lt hal, Nat.ne_of_lt (Nat.lt_succ_of_lt hal)⟩, fun b hb => ?_, q⟩
    have hle : s1.heap.objs.size ≤ b := by
      rcases (show b = s1.heap.objs.size + 1 ∨ b = s1.heap.objs.size by simpa using hb) with z | z
      · rw [z]; exact Nat.le_add_right _ _
      · rw [z]; exact Nat.le_refl _
    exact I1.fpOk hle (I1.hok.fresh hle)
end VLN
set_option Elab.async false
set_option linter.all false
set_option maxRecDepth 100000
set_option maxHeartbeats 2000000
set_option autoImplicit false
/-! VLE: constants of the module, enumerate over a tuple, list(range(a, b, -1)). -/
namespace VL
open PySem PySem.Spec L2 R
open PyProof.Rows (Call_)
/-- a tuple of the module -/
def KnC (T : Tb) (mg : Str → Option Value) (x : Str) (ds : List PV) : Prop := ∃ a, mg x = some (.ref a) ∧ ∀ H, Rep T H (.ref a) (.kn ds)
abbrev iET (f : En → R PV) : En → R (List PV) := fun env => do
  let ds ← tupI (← f env)
  .ok (enumL 0 ds)
where tupI : PV → R (List PV)
  | .tup ds => .ok ds
  | _ => .bad
def listR3P (a b c : PV) : R PV := do
  let l ← range3P a b c
  .ok (.list l)
abbrev cLR3 (f g h : En → R PV) : En → R PV := fun env => do listR3P (← f env) (← g env) (← h env)
section
variable {T : Tb} {E : XK} {O : List Nat} {X : Cx} {a b c e : Expr} {f g h : En → R PV} {pos pos' p q : Pos} {x : Str} {tg : Expr}
theorem ve_gstr {z : Str} (hm : ∃ t, X.mg x = some (.str z t)) (xs : List Nat) (hx : (decide (z.cps.toList = xs) && (sok xs && decide (xs.length ≤ LN))) = true) (hg : Gl X x := by rfl) (hd : (x == ("__debug__" : Str)) = false := by decide) : VE T E O X (.Name x pos) (cK (.str xs)) := by
  obtain ⟨t, hm⟩ := hm
  rw [Bool.and_eq_true, Bool.and_eq_true, decide_eq_true_eq, decide_eq_true_eq] at hx
  obtain ⟨h1, h2, h3⟩ := hx
  exact ve_gl hm (v := .str z) ⟨t, rfl⟩ (fun H => rep_str' h1 h3 h2) hg hd
theorem ve_gint {i : Int} (hm : ∃ t, X.mg x = some (.int i t)) (hg : Gl X x := by rfl) (hd : (x == ("__debug__" : Str)) = false := by decide) : VE T E O X (.Name x pos) (cK (.int i)) := by
  obtain ⟨t, hm⟩ := hm
  exact ve_gl hm (v := .int i) ⟨t, rfl⟩ (fun H => .int i) hg hd
theorem ve_gkn {ds : List PV} (hm : KnC T X.mg x ds) (hg : Gl X x := by rfl) (hd : (x == ("__debug__" : Str)) = false := by decide) : VE T E O X (.Name x pos) (cK (.kn ds)) := by
  obtain ⟨a, hm, hr⟩ := hm
  exact ve_gl hm (v := .ref a) rfl hr hg hd
theorem iters_enumT {H : Hp} {L : List Addr} {a : Addr} {xs : List V} {ds : List PV} (z : xs.length ≤ sizeLine) (h : SqT T.K (hid H L) a xs) (r : RepA T (hid H L) xs ds) : Iters T (hid H L) (VLN.Itet T.K a) (enumL 0 ds) := by
  refine ⟨_, _, _, VLN.walk_enumT, by rw [enumL_len, r.length], snL z, fun _ e => Evl.ex_t e h, fun i H2 L2 x H' d hd t e y => ?_⟩
  rw [enumL_get] at hd
  cases e1 : ds[i]? with
  | none => rw [e1] at hd; cases hd
  | some d' =>
    rw [e1] at hd
    cases hd
    rw [Nat.zero_add]
    refine pair_iters (B := H) y t (fun x hx => ?_) fun x hx => ?_
    · cases hx
      exact .int _
    · obtain ⟨d2, h1, h2⟩ := r.get hx
      rw [e1] at h1
      cases h1
      exact h2.mono e
theorem vi_enumT {elts : List Expr} {kk : Nat} {tpos : Pos} (hK : X.K = T.K) (ha : VE T E O X a f) (hm : X.mg "enumerate" = none) (hg : Gl X "enumerate" := by rfl) (hs : starEach [a] X.env = [(false, eval a X.env)] := by rfl) :
    VI T E O X (.Tuple elts kk tpos) (.Call (.Name "enumerate" p) [a] [] pos) (iET f) := by
  obtain ⟨t, p1, q1⟩ := ha
  refine ⟨_, VLN.pi_enumT hg hm (pa_cons p1 pa_nil hs) hs, fun L ow H σ env R ho re h => ?_⟩
  simp only [res_bind] at h
  refine q1 L ow H σ env _ ho re (h.imp (fun d k v H1 e1 r => ?_) fun _ _ x => x)
  rw [hK]
  cases d with
  | tup ds =>
    cases r with
    | @tup a xs _ ha ra za =>
      have hs : SqT T.K (hid H1 L) a xs := SqT.of ha
      exact ⟨a, xs, rfl, Evl.ex_t hid_le hs, k _ H1 e1 (iters_enumT za hs ra)⟩
  | _ => exact k.elim

/-! ### list(range(a, b, -1)) -/
def tLR3 (ta tb tc : TE) : TE := fun σ H Q => ta σ H fun x H1 => tb σ H1 fun y H2 => tc σ H2 fun z H3 => ∃ i j : Int, x = .int i ∧ y = .int j ∧ z = .int (-1) ∧ (-1000000000 ≤ i ∧ i ≤ 1000000000 ∧ -1000000000 ≤ j ∧ j ≤ 1000000000 ∧ i - j ≤ 16777216) ∧
  ∀ p, H3 p = none → Q (.ref p) (upd H3 p (.lst ((List.range (i - j).toNat).map fun k : Nat => V.int (i - k))))
theorem pe_listR3 {ta tb tc : TE} (hc : X.calm = true) (ha : PE X a ta) (hb : PE X b tb) (hcc : PE X c tc) (hm : X.mg "list" = none) (hm2 : X.mg "range" = none) (hg : Gl X "list" := by rfl) (hg2 : Gl X "range" := by rfl)
    (hs : starEach [a, b, c] X.env = (false, eval a X.env) :: starEach [b, c] X.env := by rfl) (hs2 : starEach [b, c] X.env = (false, eval b X.env) :: starEach [c] X.env := by rfl) (hs3 : starEach [c] X.env = (false, eval c X.env) :: starEach [] X.env := by rfl) (hpl : (backTo pos (starEach [b, c] X.env)).any (·.1) = false := by rfl) :
    PE X (.Call (.Name "list" p) [.Call (.Name "range" q) [a, b, c] [] pos] [] pos') (tLR3 ta tb tc) := by
  refine ⟨fun pins s σ H Q I h => ?_⟩
  refine PyProof.Rows.Call_ (ld_blt I hg hm (show bootBuiltins ("list" : PySem.Str) = some (.type "list") from by kernel_rfl) ?_); refine PyProof.Rows.callWith_type1 (PyProof.Rows.args_cons ?_ rfl) rfl rfl
  refine PyProof.Rows.Call_ (ld_blt I hg2 hm2 (show bootBuiltins ("range" : PySem.Str) = some (.type "range") from by kernel_rfl) ?_)
  refine PyProof.Rows.callWith_type1 (PyProof.Rows.args_cons (thn (ha.run pins s σ H _ I h) fun u1 s1 ⟨x, H1, I1, r1, q1⟩ => PyProof.Rows.args_cons (thn (hb.run pins s1 σ H1 _ I1 q1) fun u2 s2 ⟨y, H2, I2, r2, q2⟩ => PyProof.Rows.args_cons (thn (hcc.run pins s2 σ H2 _ I2 q2) fun u3 s3 ⟨z, H3, I3, r3, q3⟩ => PyProof.Rows.args_nil ?_) hs3) hs2) hs) hs hpl
  obtain ⟨i, j, rfl, rfl, rfl, ⟨b1, b2, b3, b4, b5⟩, q4⟩ := q3
  obtain ⟨t1, rfl⟩ := r1
  obtain ⟨t2, rfl⟩ := r2
  obtain ⟨t3, rfl⟩ := r3
  have hrg := RgC.neg (i := i) (j := j) (by omega) (by omega) (by omega) (by omega)
  obtain ⟨c0, c1, c2, c3⟩ := hrg
  refine call_range_3 c0 ?_ (.inl (PyProof.noPylong_small c1))
  refine PyProof.Rows.args_nil ?_
  have I4 : Inv X pins σ H3 { s3 with heap := s3.heap.push { cls := .type "range", data := .fields #[.int i t1, .int j t2, .int (-1) t3] } } := I3.kept (t' := s3.toks) fun b o e => Heap.get?_push_of_some _ e
  refine call_list_range (n := (i - j).toNat) (I4.ok.hd hc) (IsRange.new ..) c2 c3 (by omega) fun h' tk acc c' hk e' hi => ?_
  have hlen : acc.toList.length = (i - j).toNat := by
    rw [Array.length_toList]
    exact hi.1
  have hv : Vals ((List.range (i - j).toNat).map fun k : Nat => V.int (i - k)) acc.toList := by
    rw [← hlen]
    refine vals_of_get acc.toList (fun k : Nat => V.int (i - k)) fun k u hu => ?_
    obtain ⟨t, rfl⟩ := hi.2 k u (by rw [← hu, Array.getElem?_toList])
    exact ⟨t, by rw [show i + (k : Int) * (-1) = i - k by omega]⟩
  refine ⟨.ref _, upd H3 _ (.lst _), I4.laid hk (Nat.le_refl _) ⟨?_, acc.toList, c', hv, by rw [Array.toArray_toList]; exact e'⟩, rfl, q4 _ (I4.hok.fresh (Nat.le_refl _))⟩
  rw [List.length_map, List.length_range, sizeLine_eq]
  omega
theorem rep_down {Hx : Hp} {i : Int} : ∀ l : List Nat, RepA T Hx (l.map fun k : Nat => V.int (i - k)) (l.map fun k : Nat => PV.int (i - k))
  | [] => .nil
  | k :: l => .cons (.int _) (rep_down l)
theorem vf_listR3 (hcl : X.calm = true) (ha : VW T E O X a f) (hb : VW T E O X b g) (hc : VW T E O X c h) (hm : X.mg "list" = none) (hm2 : X.mg "range" = none) (hg : Gl X "list" := by rfl) (hg2 : Gl X "range" := by rfl)
    (hs : starEach [a, b, c] X.env = (false, eval a X.env) :: starEach [b, c] X.env := by rfl) (hs2 : starEach [b, c] X.env = (false, eval b X.env) :: starEach [c] X.env := by rfl) (hs3 : starEach [c] X.env = (false, eval c X.env) :: starEach [] X.env := by rfl) (hpl : (backTo pos (starEach [b, c] X.env)).any (·.1) = false := by rfl) :
    VF T E O X (.Call (.Name "list" p) [.Call (.Name "range" q) [a, b, c] [] pos] [] pos') (cLR3 f g h) := by
  obtain ⟨ta, pa, qa⟩ := ha
  obtain ⟨tb, pb, qb⟩ := hb
  obtain ⟨tc, pc, qc⟩ := hc
  refine ⟨_, pe_listR3 hcl pa pb pc hm hm2 hg hg2 hs hs2 hs3 hpl, fun L ow H σ env Q ho re hq => ?_⟩
  simp only [res_bind] at hq
  refine qa L ow H σ env _ ho re (hq.imp (fun d k v H1 e1 r => ?_) fun _ _ x => x)
  refine qb L ow H1 σ env _ ho (re.mono e1) (k.imp (fun d2 k2 v2 H2 e2 r2 => ?_) fun _ _ x => xw_mono e1 x)
  refine qc L ow H2 σ env _ ho (re.mono (e1.trans e2)) (k2.imp (fun d3 k3 v3 H3 e3 r3 => ?_) fun _ _ x => xw_mono (e1.trans e2) x)
  unfold listR3P at k3
  rw [res_bind] at k3
  unfold range3P at k3
  split at k3
  · rename_i i j c
    split at k3
    · rename_i hn
      obtain ⟨h1, h2, h3, h4, h5, rfl⟩ := hn
      obtain rfl := r.int
      obtain rfl := r2.int
      obtain rfl := r3.int
      have h5' : i - j ≤ 16777216 := h5
      refine ⟨i, j, rfl, rfl, rfl, ⟨h1, h2, h3, h4, h5'⟩, fun p hp => k3 _ _ (((e1.trans e2).trans e3).trans (ex_upd hp)) (Evl.fresh_back ((e1.trans e2).trans e3) hp) (.lst upd_same ?_ (by rw [List.length_map, List.length_range, sizeLine_eq]; omega))⟩
      exact rep_down _
    · exact k3.elim
  · exact k3.elim
end
end VL
set_option Elab.async false
set_option linter.all false
set_option maxRecDepth 100000
set_option maxHeartbeats 2000000
/-! VLT: enumerate over a list or a text. -/
namespace VLT
open PySem PySem.Spec PyProof.Rows L2
/-- a text, each sign in a new pair with its place -/
def Itets (x : Str) : It :=
  ⟨fun i _ => i < x.cps.size, fun i H v H' => ∃ T c, v = .ref T ∧ H T = none ∧ H' = upd H T (.tup [.int (i : Nat), .str ⟨#[c]⟩]) ∧ x.cps[i]? = some c, fun i _ => x.cps.size = i⟩
theorem turn_enumS {P : Program} {w : World} {K : PySem.W.Frag} {elts : List Expr} {kk : Nat} {tpos : Pos} (x : Str) (t : Tok) (e it : Addr) (ty : String) (hty : ty = "str_ascii_iterator" ∨ ty = "str_iterator") :
    Turn P w K (.Tuple elts kk tpos) (Itets x) [e, it] e (fun i h => (∃ old, IsEnum h e it ((i : Nat) : Int) old) ∧ h.IsStrIter it ty x t i ∧ e ≠ it) where
  mem := by simp
  obj := fun i h st b hb => by
    obtain ⟨⟨old, he⟩, ⟨o, ho, hc, hd⟩, _⟩ := st
    rcases (show b = e ∨ b = it by simpa using hb) with z | z
    · rw [z]
      exact ⟨_, he, fun v q => nomatch q⟩
    · rw [z]
      exact ⟨o, ho, fun v q => by rw [hd] at q; cases q⟩
  keep := fun i h h' st k => let ⟨⟨old, he⟩, ⟨o, ho, r⟩, hne⟩ := st; ⟨⟨old, k e (by simp) _ he⟩, ⟨o, k it (by simp) o ho, r⟩, hne⟩
  item := by
    intro X hP hw hK hc i pins s σ H E I hf st hg
    subst hP hw hK
    obtain ⟨⟨old, he⟩, hit, hne⟩ := st
    have hel : e < s.heap.objs.size := Heap.lt_size he
    have hil : it < s.heap.objs.size := by obtain ⟨_, q, _⟩ := hit; exact Heap.lt_size q
    have D : Draws X.prog X.w X.A.in1 it [it] x.cps.size (fun i v => ∃ c u, x.cps[i]? = some c ∧ v = .str ⟨#[c]⟩ u) (fun i h => h.IsStrIter it ty x t i) := by
      rcases hty with z | z
      · rw [z]; exact Draws.strAscii (A := X.A.in1) (I.ok.hd hc) it x t
      · rw [z]; exact Draws.strWide (A := X.A.in1) (I.ok.hd hc) it x t
    refine wpAny_pyNext_enum_itemD D he hit hg hne (by simp only [List.mem_cons, List.not_mem_nil, or_false]; exact hne) fun u h' tk hPu ho hit' hT hsz hk => ?_
    obtain ⟨c, tu, hcx, rfl⟩ := hPu
    refine ⟨_, rfl, wpAny_letOwnedTupleGo_enum (s := { s with heap := h', toks := tk + 1 }) ho fun h'' he' sb => ?_⟩
    have hT2 : h''.get? s.heap.objs.size = some { cls := .type "tuple", data := .seq #[.int i tk, .str ⟨#[c]⟩ tu] } := (sb.2 _ (Nat.ne_of_gt hel)).trans hT
    have new : ObjOk X.prog X.w (upd H s.heap.objs.size (.tup [.int (i : Nat), .str ⟨#[c]⟩])) h'' s.heap.objs.size (.tup [.int (i : Nat), .str ⟨#[c]⟩]) := ⟨by show 2 ≤ sizeLine; decide, [.int i tk, .str ⟨#[c]⟩ tu], .cons ⟨_, rfl⟩ (.cons ⟨_, rfl⟩ .nil), ⟨_, hT2, rfl, _, rfl⟩⟩
    have I1 : Inv X pins σ (upd H s.heap.objs.size (.tup [.int (i : Nat), .str ⟨#[c]⟩])) { s with heap := h'', toks := tk + 1 } :=
      I.turnedNew (ch := [e, it]) (fun b ob hb q => (sb.2 b (fun z => hb (by simp [z]))).trans (hk b ob (fun z => hb (by simp [z])) (fun z => hb (by simp [z])) q)) hf (Nat.le_refl _) new
    refine ⟨.ref s.heap.objs.size, _, I1, rfl, ⟨_, c, rfl, I.hok.fresh (Nat.le_refl _), rfl, hcx⟩, ⟨⟨.str ⟨#[c]⟩ tu, ?_⟩, ?_, hne⟩, fun b hb => ?_⟩
    · rw [show ((i + 1 : Nat) : Int) = (i : Int) + 1 by omega]
      exact he'
    · obtain ⟨o, q1, q2⟩ := hit'
      exact ⟨o, (sb.2 it (Ne.symm hne)).trans q1, q2⟩
    · have hb' : b < s.heap.objs.size := by
        rcases (show b = e ∨ b = it by simpa using hb) with z | z
        · rw [z]; exact hel
        · rw [z]; exact hil
      rw [upd_ne (Nat.ne_of_lt hb')]
      exact (hf b hb).1
  done := by
    intro X hP hw hK hc i pins s σ H E I hf st hg
    subst hP hw hK
    obtain ⟨⟨old, he⟩, hit, hne⟩ := st
    obtain ⟨f0, f1, f2, f3, f4, f5⟩ := hf it (by simp)
    have D : Draws X.prog X.w X.A.in1 it [it] x.cps.size (fun i v => ∃ c u, x.cps[i]? = some c ∧ v = .str ⟨#[c]⟩ u) (fun i h => h.IsStrIter it ty x t i) := by
      rcases hty with z | z
      · rw [z]; exact Draws.strAscii (A := X.A.in1) (I.ok.hd hc) it x t
      · rw [z]; exact Draws.strWide (A := X.A.in1) (I.ok.hd hc) it x t
    have hn : x.cps.size = i := hg
    refine wpAny_pyNext_enum_endD (n := x.cps.size) D he (by rw [hn]; exact hit) fun h' eb => ⟨rfl, I.turned (t' := s.toks) (fun b o hb q => eb b o hb q) f0 f1 f3 f4 f5⟩
  self := fun A i s Q E st h => let ⟨⟨_, he⟩, _⟩ := st; wpAny_pyIter_enum he h
theorem walk_enumS {x : Str} : Walk (Itets x) x.cps.size (fun _ => True) (YPair (fun i => some (.int (i : Nat))) fun i => (x.cps[i]?).map fun c => V.str ⟨#[c]⟩) :=
  ⟨fun i _ hi q => hi, fun _ q => rfl, fun _ _ _ _ _ q y => by
    obtain ⟨T, c, h1, h2, h3, h4⟩ := y
    exact ⟨T, _, _, h1, h2, h3, rfl, show Option.map _ _ = _ by rw [h4]; rfl⟩⟩
def iEnum2 (K : PySem.W.Frag) (ta : TA) : TI := fun σ H R => ta σ H fun vs H1 => (∃ a xs, vs = [.ref a] ∧ SqL K H1 a xs ∧ R (Ite K a) H1) ∨ ∃ x, vs = [.str x] ∧ R (Itets x) H1
theorem pi_enum2 {X : Cx} {e : Expr} {ta : TA} {p pos tpos : Pos} {elts : List Expr} {kk : Nat} (hg : Gl X "enumerate") (hm : X.mg "enumerate" = none) (ha : PA X [e] ta) (hs : starEach [e] X.env = [(false, eval e X.env)] := by rfl) :
    PI X (.Tuple elts kk tpos) (.Call (.Name "enumerate" p) [e] [] pos) (iEnum2 X.K ta) := by
  refine ⟨fun pins s σ H R I h => ?_⟩
  refine Call_ (ld_blt I hg hm (show bootBuiltins ("enumerate" : PySem.Str) = some (.type "enumerate") from by kernel_rfl) (callWith_type1 (thn (ha.run pos pins s σ H _ I h) fun us s1 ⟨vs, H1, I1, r1, q1⟩ => ?_) hs rfl))
  have hle : ∀ b, b ∈ [s1.heap.objs.size + 1, s1.heap.objs.size] → s1.heap.objs.size ≤ b := fun b hb => by
    rcases (show b = s1.heap.objs.size + 1 ∨ b = s1.heap.objs.size by simpa using hb) with z | z
    · rw [z]; exact Nat.le_add_right _ _
    · rw [z]; exact Nat.le_refl _
  rcases q1 with ⟨a, xs, ex, hq, q⟩ | ⟨x, ex, q⟩
  · subst ex
    cases r1 with
    | cons r rr =>
      cases rr
      cases r
      obtain ⟨its, rv, p', hz⟩ := I1.list hq
      refine call_enumerate_list p'.isList fun h' he hit hsz hk => wpAny_pyIter_enum he ?_
      have I2 : Inv X pins σ H1 { s1 with heap := h' } := I1.kept (t' := s1.toks) hk
      exact ⟨s1.heap.objs.size + 1, [s1.heap.objs.size + 1, s1.heap.objs.size], _, _, H1, rfl, I2, turn_enum a (s1.heap.objs.size + 1) s1.heap.objs.size, ⟨⟨.none, he⟩, hit, Nat.succ_ne_self _⟩, fun b hb => I1.fpOk (hle b hb) (I1.hok.fresh (hle b hb)), q⟩
  · subst ex
    cases r1 with
    | cons r rr =>
      cases rr
      obtain ⟨t, rfl⟩ := r
      refine call_enumerate_str fun h' he hit hsz hk => wpAny_pyIter_enum he ?_
      have I2 : Inv X pins σ H1 { s1 with heap := h' } := I1.kept (t' := s1.toks) hk
      have hty : strIterType x = "str_ascii_iterator" ∨ strIterType x = "str_iterator" := by
        unfold strIterType
        split
        · exact .inl rfl
        · exact .inr rfl
      exact ⟨s1.heap.objs.size + 1, [s1.heap.objs.size + 1, s1.heap.objs.size], _, _, H1, rfl, I2, turn_enumS x t (s1.heap.objs.size + 1) s1.heap.objs.size (strIterType x) hty, ⟨⟨.none, he⟩, hit, Nat.succ_ne_self _⟩, fun b hb => I1.fpOk (hle b hb) (I1.hok.fresh (hle b hb)), q⟩
end VLT
namespace VL
open PySem PySem.Spec L2 R
def enum2P : PV → R (List PV)
  | .list x => .ok (enumL 0 x)
  | .str x => .ok (enumL 0 (x.map fun c => PV.str [c]))
  | _ => .bad
abbrev iE2 (f : En → R PV) : En → R (List PV) := fun env => do enum2P (← f env)
section
variable {T : Tb} {E : XK} {O : List Nat} {X : Cx} {a b c e : Expr} {f g h : En → R PV} {pos pos' p q : Pos} {tg : Expr}
theorem iters_enumS {H : Hp} {L : List Addr} {x : Str} (z : x.cps.size ≤ sizeLine) (hs : sok x.cps.toList = true) : Iters T (hid H L) (VLT.Itets x) (enumL 0 (x.cps.toList.map fun c => PV.str [c])) := by
  refine ⟨_, _, _, VLT.walk_enumS, by rw [enumL_len, List.length_map, Array.length_toList], snL z, fun _ e => trivial, fun i H2 L2 v H' d hd t e y => ?_⟩
  rw [enumL_get, List.getElem?_map, Array.getElem?_toList] at hd
  cases e1 : x.cps[i]? with
  | none => rw [e1] at hd; cases hd
  | some c =>
    rw [e1] at hd
    cases hd
    rw [Nat.zero_add]
    refine pair_iters (B := H) y t (fun x hx => ?_) fun v hv => ?_
    · cases hx
      exact .int _
    · rw [e1] at hv
      cases hv
      exact rep_sig (sok_mem.mp hs c (List.mem_of_getElem? (show x.cps.toList[i]? = some c by rw [Array.getElem?_toList]; exact e1)))
theorem vi_enum2 {elts : List Expr} {kk : Nat} {tpos : Pos} (hK : X.K = T.K) (ha : VE T E O X a f) (hm : X.mg "enumerate" = none) (hg : Gl X "enumerate" := by rfl) (hs : starEach [a] X.env = [(false, eval a X.env)] := by rfl) :
    VI T E O X (.Tuple elts kk tpos) (.Call (.Name "enumerate" p) [a] [] pos) (iE2 f) := by
  obtain ⟨t, p1, q1⟩ := ha
  refine ⟨_, VLT.pi_enum2 hg hm (pa_cons p1 pa_nil hs) hs, fun L ow H σ env R ho re h => ?_⟩
  simp only [res_bind] at h
  refine q1 L ow H σ env _ ho re (h.imp (fun d k v H1 e1 r => ?_) fun _ _ x => x)
  rw [hK]
  cases d with
  | list ds =>
    cases r with
    | @lst a xs _ ha ra za => exact .inl ⟨a, xs, rfl, SqL.of (hid_le _ _ ha), k _ H1 e1 (iters_enum za (SqL.of ha) ra)⟩
  | str x =>
    cases r with
    | str z hz hs => exact .inr ⟨z, rfl, k _ H1 e1 (iters_enumS hz hs)⟩
  | _ => exact k.elim
end
end VL
set_option Elab.async false
set_option linter.all false
set_option maxRecDepth 100000
set_option maxHeartbeats 2000000
set_option autoImplicit false
/-! VR: repr of what is read. -/
namespace VL
open PySem PySem.Spec L2 R

/-! ### shown texts are of code points -/
def OkS (x : Str) : Prop := ∀ c ∈ x.cps.toList, c < 1114112
theorem okS_app {x y : Str} (h : OkS x) (g : OkS y) : OkS (x ++ y) := by
  intro c hc
  have e : (x ++ y).cps.toList = x.cps.toList ++ y.cps.toList := by rw [PySem.Str.cps_append, Array.toList_append]
  rw [e] at hc
  rcases List.mem_append.mp hc with hc | hc
  · exact h c hc
  · exact g c hc
theorem okS_lit (s : String) : OkS (Str.ofString s) := by
  intro c hc
  rw [Str.ofString_eq_toList] at hc
  simp only [List.mem_map] at hc
  obtain ⟨x, _, rfl⟩ := hc
  have := x.valid
  show x.val.toNat < _
  rcases this with h | h
  · exact Nat.lt_trans h (by decide)
  · exact h.2
theorem okS_join {sep : Str} (hs : OkS sep) : ∀ l : List Str, (∀ t ∈ l, OkS t) → OkS (Str.join sep l)
  | [], _ => by intro c hc; cases hc
  | [x], h => h x List.mem_cons_self
  | x :: y :: r, h => by
    show OkS (x ++ sep ++ Str.join sep (y :: r))
    exact okS_app (okS_app (h x List.mem_cons_self) hs) (okS_join hs (y :: r) fun t ht => h t (List.mem_cons_of_mem _ ht))
theorem okS_from : ∀ (l : List Str) (k : Nat) (acc : Str), OkS acc → (∀ t ∈ l, OkS t) → OkS (textFrom k acc l)
  | [], _, _, h, _ => h
  | t :: ts, k, acc, h, g => okS_from ts (k + 1) _ (okS_app (okS_app h (okS_lit _)) (g t List.mem_cons_self)) fun u hu => g u (List.mem_cons_of_mem _ hu)
theorem hex_ok {c : Nat} : ∀ x ∈ (Nat.toDigits 16 c).map Char.toNat, x < 1114112 := by
  intro x hx
  simp only [List.mem_map] at hx
  obtain ⟨y, _, rfl⟩ := hx
  have := y.valid
  show y.val.toNat < _
  rcases this with h | h
  · exact Nat.lt_trans h (by decide)
  · exact h.2
theorem okS_char {q c : Nat} (h : c < 1114112) : ∀ x ∈ Builtin.Str.reprChar q c, x < 1114112 := by
  intro x hx
  have hr : ∀ n : Nat, ∀ y ∈ List.replicate n 48, y < 1114112 := fun n y hy => by rw [List.eq_of_mem_replicate hy]; decide
  have hd := hex_ok (c := c)
  unfold Builtin.Str.reprChar at hx
  simp only [] at hx
  split at hx
  · simp at hx; omega
  split at hx
  · simp at hx; omega
  split at hx
  · simp at hx; omega
  split at hx
  · simp at hx; omega
  split at hx
  · simp at hx; omega
  have key : ∀ (a b n : Nat), a < 1114112 → b < 1114112 → x ∈ [a, b] ++ (List.replicate n 48 ++ (Nat.toDigits 16 c).map Char.toNat) → x < 1114112 := by
    intro a b n ha hb hx
    rcases List.mem_append.mp hx with h | h
    · simp at h; omega
    rcases List.mem_append.mp h with h | h
    · exact hr n x h
    · exact hd x h
  split at hx
  · exact key _ _ _ (by decide) (by decide) hx
  split at hx
  · exact key _ _ _ (by decide) (by decide) hx
  · exact key _ _ _ (by decide) (by decide) hx
theorem okS_repr {x : Str} (h : OkS x) : OkS (reprText x) := by
  have hq : reprQuote x < 1114112 := by unfold reprQuote; split <;> decide
  have key : ∀ (l : List Nat) (acc : Array Nat), (∀ c ∈ l, c < 1114112) → (∀ c ∈ acc.toList, c < 1114112) → ∀ c ∈ (l.foldl (fun out c => out ++ (Builtin.Str.reprChar (reprQuote x) c).toArray) acc).toList, c < 1114112 := by
    intro l
    induction l with
    | nil => exact fun acc _ h => h
    | cons a l ih =>
      intro acc h1 h2
      refine ih _ (fun c hc => h1 c (List.mem_cons_of_mem _ hc)) fun c hc => ?_
      rw [Array.toList_append] at hc
      rcases List.mem_append.mp hc with hc | hc
      · exact h2 c hc
      · exact okS_char (h1 a List.mem_cons_self) c (by simpa using hc)
  intro c hc
  unfold reprText at hc
  rw [← Array.foldl_toList] at hc
  simp only [Array.toList_push] at hc
  rcases List.mem_append.mp hc with hc | hc
  · exact key _ _ h (by intro c hc; simp at hc; omega) c hc
  · simp at hc; omega

/-! ### the data that is shown -/
mutual
def pdD : PV → PyData
  | .bool b => .bool b
  | .int i => .int i
  | .str s => .str ⟨s.toArray⟩
  | .list xs => .list (pdDs xs)
  | .tup xs => .tuple (pdDs xs)
  | _ => .none
def pdDs : List PV → List PyData
  | [] => []
  | x :: xs => pdD x :: pdDs xs
end
mutual
def rOk0 : PV → Bool
  | .none => true
  | .bool _ => true
  | .int i => decide (i.natAbs < 1000000000000)
  | .str _ => true
  | .list xs => rOks xs
  | .tup xs => rOks xs
  | _ => false
def rOks : List PV → Bool
  | [] => true
  | x :: xs => rOk0 x && rOks xs
end
mutual
/-- how long a value's text may be, in part -/
def wtP : PV → Nat
  | .str s => s.length
  | .list xs => wtPs xs
  | .tup xs => wtPs xs
  | .int i => if i == 0 then 0 else i.natAbs.log2 + 1
  | _ => 0
def wtPs : List PV → Nat
  | [] => 0
  | x :: xs => wtP x + 1 + wtPs xs
end
mutual
def dpP : PV → Nat
  | .list xs => dpPs xs + 1
  | .tup xs => dpPs xs + 1
  | _ => 0
def dpPs : List PV → Nat
  | [] => 0
  | x :: xs => max (dpP x) (dpPs xs)
end
def rOk (v : PV) : Bool := rOk0 v && decide (wtP v ≤ 1048576) && decide (dpP v ≤ 64)
def shP (v : PV) : List Nat := (pdD v).shown.cps.toList
def reprP (v : PV) : R PV := if rOk v then .ok (.str (shP v)) else .bad

mutual
theorem wt_pd : ∀ v : PV, rOk0 v = true → (pdD v).weight = wtP v
  | .none, _ => rfl
  | .bool _, _ => rfl
  | .int _, _ => rfl
  | .str s, _ => by simp only [pdD, wtP, PyData.weight]; rfl
  | .list xs, h => by simp only [pdD, wtP, PyData.weight]; exact wts_pd xs (by simpa only [rOk0] using h)
  | .tup xs, h => by simp only [pdD, wtP, PyData.weight]; exact wts_pd xs (by simpa only [rOk0] using h)
  | .dict .., h => by simp [rOk0] at h
  | .set _, h => by simp [rOk0] at h
  | .kn _, h => by simp [rOk0] at h
  | .fn _, h => by simp [rOk0] at h
  | .exn .., h => by simp [rOk0] at h
theorem wts_pd : ∀ xs : List PV, rOks xs = true → PyData.weightAll (pdDs xs) = wtPs xs
  | [], _ => rfl
  | x :: xs, h => by
    simp only [rOks, Bool.and_eq_true] at h
    simp only [pdDs, wtPs, PyData.weightAll, wt_pd x h.1, wts_pd xs h.2]
end
mutual
theorem dp_pd : ∀ v : PV, rOk0 v = true → (pdD v).depth = dpP v
  | .none, _ => rfl
  | .bool _, _ => rfl
  | .int _, _ => rfl
  | .str s, _ => rfl
  | .list xs, h => by simp only [pdD, dpP, PyData.depth]; rw [dps_pd xs (by simpa only [rOk0] using h)]
  | .tup xs, h => by simp only [pdD, dpP, PyData.depth]; rw [dps_pd xs (by simpa only [rOk0] using h)]
  | .dict .., h => by simp [rOk0] at h
  | .set _, h => by simp [rOk0] at h
  | .kn _, h => by simp [rOk0] at h
  | .fn _, h => by simp [rOk0] at h
  | .exn .., h => by simp [rOk0] at h
theorem dps_pd : ∀ xs : List PV, rOks xs = true → PyData.depthAll (pdDs xs) = dpPs xs
  | [], _ => rfl
  | x :: xs, h => by
    simp only [rOks, Bool.and_eq_true] at h
    simp only [pdDs, dpPs, PyData.depthAll, dp_pd x h.1, dps_pd xs h.2]
end
mutual
theorem nd_pd : ∀ v : PV, (pdD v).hasDict = false
  | .none => by simp only [pdD, PyData.hasDict]
  | .bool _ => by simp only [pdD, PyData.hasDict]
  | .int _ => by simp only [pdD, PyData.hasDict]
  | .str s => by simp only [pdD, PyData.hasDict]
  | .list xs => by simp only [pdD, PyData.hasDict]; exact nds_pd xs
  | .tup xs => by simp only [pdD, PyData.hasDict]; exact nds_pd xs
  | .dict .. => by simp only [pdD, PyData.hasDict]
  | .set _ => by simp only [pdD, PyData.hasDict]
  | .kn _ => by simp only [pdD, PyData.hasDict]
  | .fn _ => by simp only [pdD, PyData.hasDict]
  | .exn .. => by simp only [pdD, PyData.hasDict]
theorem nds_pd : ∀ xs : List PV, PyData.hasDictAll (pdDs xs) = false
  | [] => by simp only [pdDs, PyData.hasDictAll]
  | x :: xs => by simp only [pdDs, PyData.hasDictAll, nd_pd x, nds_pd xs, Bool.or_self]
end
theorem log_small {i : Int} (h : i.natAbs < 1000000000000) : i.natAbs.log2 < 1920 := by
  by_cases z : i.natAbs = 0
  · rw [z]; decide
  · exact (Nat.log2_lt z).mpr (Nat.lt_trans h (by decide +kernel))
mutual
theorem show_pd : ∀ v : PV, rOk0 v = true → (pdD v).showable = true
  | .none, _ => by simp only [pdD, PyData.showable]
  | .bool _, _ => by simp only [pdD, PyData.showable]
  | .int i, h => by
    simp only [rOk0, decide_eq_true_eq] at h
    simp only [pdD, PyData.showable, decide_eq_true_eq]
    exact log_small h
  | .str s, _ => by simp only [pdD, PyData.showable]
  | .list xs, h => by simp only [pdD, PyData.showable]; exact shows_pd xs (by simpa only [rOk0] using h)
  | .tup xs, h => by simp only [pdD, PyData.showable]; exact shows_pd xs (by simpa only [rOk0] using h)
  | .dict .., h => by simp [rOk0] at h
  | .set _, h => by simp [rOk0] at h
  | .kn _, h => by simp [rOk0] at h
  | .fn _, h => by simp [rOk0] at h
  | .exn .., h => by simp [rOk0] at h
theorem shows_pd : ∀ xs : List PV, rOks xs = true → PyData.showableAll (pdDs xs) = true
  | [], _ => by simp only [pdDs, PyData.showableAll]
  | x :: xs, h => by
    simp only [rOks, Bool.and_eq_true] at h
    simp only [pdDs, PyData.showableAll, show_pd x h.1, shows_pd xs h.2, Bool.and_self]
end
theorem sok_le {s : List Nat} (h : sok s = true) : ∀ c ∈ s, c < 1114112 := fun c hc => by
  unfold sok at h
  exact of_decide_eq_true (List.all_eq_true.mp h c hc)
section
variable {T : Tb} {H : Hp}
mutual
theorem lf_pd : ∀ (d : PV) (v : V), rOk0 d = true → Rep T H v d → (pdD d).leavesShort 13 = true ∧ OkS (pdD d).shown
  | .none, _, _, _ => ⟨by simp only [pdD, PyData.leavesShort], by simp only [pdD, PyData.shown]; exact okS_lit _⟩
  | .bool b, _, _, _ => ⟨by simp only [pdD, PyData.leavesShort], by
    simp only [pdD, PyData.shown]
    split <;> exact okS_lit _⟩
  | .int i, _, h, _ => by
    simp only [rOk0, decide_eq_true_eq] at h
    exact ⟨by simp only [pdD, PyData.leavesShort, decide_eq_true_eq]; exact PyData.shown_int_le h, by simp only [pdD, PyData.shown]; exact okS_lit _⟩
  | .str s, _, _, r => by
    cases r with
    | str x hz hs =>
      have k := sok_le hs
      refine ⟨?_, ?_⟩
      · simp only [pdD, PyData.leavesShort, List.all_eq_true, decide_eq_true_eq]
        exact fun c hc => Nat.lt_trans (k c (by simpa using hc)) (by decide)
      · simp only [pdD, PyData.shown]
        exact okS_repr fun c hc => k c (by simpa using hc)
  | .list xs, _, h, r => by
    cases r with
    | lst q r z =>
      obtain ⟨h1, h2⟩ := lfs_pd xs _ (by simpa only [rOk0] using h) r
      refine ⟨by simp only [pdD, PyData.leavesShort]; exact h1, ?_⟩
      simp only [pdD, PyData.shown]
      exact okS_app (okS_from _ _ _ (okS_lit _) h2) (okS_lit _)
  | .tup xs, _, h, r => by
    cases r with
    | tup q r z =>
      obtain ⟨h1, h2⟩ := lfs_pd xs _ (by simpa only [rOk0] using h) r
      refine ⟨by simp only [pdD, PyData.leavesShort]; exact h1, ?_⟩
      simp only [pdD, PyData.shown]
      exact okS_app (okS_app (okS_lit _) (okS_join (okS_lit _) _ h2)) (by split <;> exact okS_lit _)
  | .dict .., _, h, _ => by simp [rOk0] at h
  | .set _, _, h, _ => by simp [rOk0] at h
  | .kn _, _, h, _ => by simp [rOk0] at h
  | .fn _, _, h, _ => by simp [rOk0] at h
  | .exn .., _, h, _ => by simp [rOk0] at h
theorem lfs_pd : ∀ (ds : List PV) (vs : List V), rOks ds = true → RepA T H vs ds → PyData.leavesShortAll 13 (pdDs ds) = true ∧ ∀ t ∈ PyData.shownAll (pdDs ds), OkS t
  | [], _, _, _ => ⟨by simp only [pdDs, PyData.leavesShortAll], fun t ht => by simp [pdDs, PyData.shownAll] at ht⟩
  | d :: ds, _, h, r => by
    cases r with
    | cons r1 r2 =>
      simp only [rOks, Bool.and_eq_true] at h
      obtain ⟨a1, a2⟩ := lf_pd d _ h.1 r1
      obtain ⟨b1, b2⟩ := lfs_pd ds _ h.2 r2
      refine ⟨by simp only [pdDs, PyData.leavesShortAll, a1, b1, Bool.and_self], fun t ht => ?_⟩
      simp only [pdDs, PyData.shownAll] at ht
      rcases List.mem_cons.mp ht with rfl | ht
      · exact a2
      · exact b2 t ht
end
variable {X : Cx} {pins : List (Addr × Obj)} {σ : L2.St} {s : Shared}
mutual
theorem reads_pd (I : Inv X pins σ H s) : ∀ (d : PV) (v : V) (u : Value), rOk0 d = true → Rep T H v d → RelV v u → ∃ as, Reads s.heap u (pdD d) as
  | .none, _, _, _, r, q => by
    cases r
    cases q
    exact ⟨_, .none⟩
  | .bool b, _, _, _, r, q => by
    cases r
    cases q
    exact ⟨_, .bool b⟩
  | .int i, _, _, _, r, q => by
    cases r
    obtain ⟨t, rfl⟩ := q
    exact ⟨_, .int i t⟩
  | .str s, _, _, _, r, q => by
    cases r
    obtain ⟨t, rfl⟩ := q
    exact ⟨_, .str _ t⟩
  | .list xs, _, _, h, r, q => by
    cases r with
    | lst hq r z =>
      cases q
      obtain ⟨its, rv, ⟨o, n, h1, h2, h3, h4⟩, _⟩ := I.list (SqL.of hq)
      obtain ⟨as, ra⟩ := readss_pd I xs _ its (by simpa only [rOk0] using h) r rv
      exact ⟨_, .list h1 h2 h4 ra⟩
  | .tup xs, _, _, h, r, q => by
    cases r with
    | tup hq r z =>
      cases q
      obtain ⟨its, rv, ⟨o, h1, h2, n, h4⟩, _⟩ := I.tuple (SqT.of hq)
      obtain ⟨as, ra⟩ := readss_pd I xs _ its (by simpa only [rOk0] using h) r rv
      exact ⟨_, .tuple h1 h2 h4 ra⟩
  | .dict .., _, _, h, _, _ => by simp [rOk0] at h
  | .set _, _, _, h, _, _ => by simp [rOk0] at h
  | .kn _, _, _, h, _, _ => by simp [rOk0] at h
  | .fn _, _, _, h, _, _ => by simp [rOk0] at h
  | .exn .., _, _, h, _, _ => by simp [rOk0] at h
theorem readss_pd (I : Inv X pins σ H s) : ∀ (ds : List PV) (vs : List V) (us : List Value), rOks ds = true → RepA T H vs ds → Vals vs us → ∃ as, ReadsAll s.heap us (pdDs ds) as
  | [], _, _, _, r, q => by
    cases r
    cases q
    exact ⟨_, .nil⟩
  | d :: ds, _, _, h, r, q => by
    cases r with
    | cons r1 r2 =>
      cases q with
      | cons q1 q2 =>
        simp only [rOks, Bool.and_eq_true] at h
        obtain ⟨as, a⟩ := reads_pd I d _ _ h.1 r1 q1
        obtain ⟨bs, b⟩ := readss_pd I ds _ _ h.2 r2 q2
        exact ⟨_, .cons a b⟩
end
end
/-! ### the call -/
theorem RepW.rep {T : Tb} {L : List Addr} {H : Hp} {v : V} {d : PV} (h : RepW T L H v d) (hd : ∀ ks vs, d ≠ .dict false ks vs) : Rep T H v d := by
  cases h with
  | st h => exact h.mono hid_le
  | lst h r z => exact .lst h (r.mono hid_le) z
  | dK h r => exact absurd rfl (hd _ _)
  | dT h r => exact .dT h (r.mono hid_le)
theorem sok_of {s : List Nat} (h : ∀ c ∈ s, c < 1114112) : sok s = true := List.all_eq_true.mpr fun c hc => decide_eq_true (h c hc)
section
variable {T : Tb} {E : XK} {X : Cx} {k : Nat}
theorem rOk_and {d : PV} (h : rOk d = true) : rOk0 d = true ∧ wtP d ≤ 1048576 ∧ dpP d ≤ 64 := by
  unfold rOk at h
  simp only [Bool.and_eq_true, decide_eq_true_eq] at h
  exact ⟨h.1.1, h.1.2, h.2⟩
theorem sh_fits {H : Hp} {d : PV} {v : V} (h : rOk d = true) (r : Rep T H v d) : (pdD d).shown.length ≤ sizeLine := by
  obtain ⟨h0, h1, h2⟩ := rOk_and h
  exact PyData.shown_fits (B := 13) (by decide) (by decide) (lf_pd d v h0 r).1 (by rw [wt_pd d h0]; exact h1)
theorem cr_repr (G : Good T E k X) : CallR X (.builtin "repr") (fun xs H Q => ∃ d v, xs = [v] ∧ rOk d = true ∧ Rep T H v d ∧ Q (.str (pdD d).shown) H) := by
  intro pins s σ H xs us Q I r h
  obtain ⟨d, v, rfl, hd, rv, q⟩ := h
  obtain ⟨u, rfl, ru⟩ := vals1 r
  obtain ⟨h0, h1, h2⟩ := rOk_and hd
  have hz := sh_fits hd rv
  obtain ⟨as, hr⟩ := reads_pd I d v u h0 rv ru
  have fin : ∀ (h' : Heap) (tk u' : Nat), (∀ b o, s.heap.get? b = some o → h'.get? b = some o) → EP X pins σ Q (.str (pdD d).shown u') { s with heap := h', toks := tk } := fun h' tk u' hk =>
    ⟨.str _, H, I.kept hk, ⟨_, rfl⟩, q⟩
  have rf : ∀ a, u = .ref a → wpAny (model X.prog X.w) X.A (call (.builtin "repr") [u]) (EP X pins σ Q) X.xe s := by
    rintro a rfl
    refine repr_of_reads' hr (show_pd d h0) (PyData.noDict_hsm (nd_pd d)) G.gd ?_ (fun _ _ e => e) (fun h' u tk hk => fin h' tk u hk) hz
    rw [dp_pd d h0]
    have := G.rm.un
    omega
  cases d with
  | none =>
    cases rv
    cases ru
    exact PySem.P.repr_of_none ⟨.str _, H, I.tok _, ⟨_, rfl⟩, by simpa only [pdD, PyData.shown] using q⟩
  | bool b =>
    cases rv
    cases ru
    exact PySem.P.repr_of_bool ⟨.str _, H, I.tok _, ⟨_, rfl⟩, by simpa only [pdD, PyData.shown] using q⟩
  | int i =>
    cases rv
    obtain ⟨t, rfl⟩ := ru
    simp only [rOk0, decide_eq_true_eq] at h0
    exact PySem.P.repr_of_int (log_small h0) ⟨.str _, H, I.tok _, ⟨_, rfl⟩, by simpa only [pdD, PyData.shown] using q⟩
  | str x =>
    cases rv with
    | str z hz hs =>
      obtain ⟨t, rfl⟩ := ru
      refine PySem.P.repr_of_str ⟨.str _, H, I.tok _, ⟨_, rfl⟩, by simpa only [pdD, PyData.shown] using q⟩ (by simpa only [pdD, PyData.shown] using hz)
  | list xs =>
    cases rv
    cases ru
    exact rf _ rfl
  | tup xs =>
    cases rv
    cases ru
    exact rf _ rfl
  | dict => simp [rOk0] at h0
  | set => simp [rOk0] at h0
  | kn => simp [rOk0] at h0
  | fn => simp [rOk0] at h0
  | exn => simp [rOk0] at h0
theorem rOk_nd {d : PV} (h : rOk d = true) : ∀ ks vs, d ≠ .dict false ks vs := fun ks vs e => by
  have h0 := (rOk_and h).1
  rw [e] at h0
  simp [rOk0] at h0
theorem c1_repr (G : Good T E k X) : C1 T X (.builtin "repr") reprP := by
  refine ⟨_, cr_repr G, fun L H x a Q x' t ra q => ?_⟩
  unfold reprP at q
  split at q
  · rename_i h
    have rr := ra.rep (rOk_nd h)
    refine ⟨a, x, rfl, h, rr, q _ _ (Evl.Ex.refl H) (.str _ (sh_fits h rr) (sok_of ?_))⟩
    exact (lf_pd a x (rOk_and h).1 rr).2
  · exact q.elim
end
end VL
set_option Elab.async false
set_option linter.all false
set_option maxRecDepth 100000
set_option maxHeartbeats 2000000
set_option autoImplicit false
/-! VRD: repr of a dict of plain values. -/
namespace VL
open PySem PySem.Spec L2 R
def flatR : PV → Bool
  | .none => true
  | .bool _ => true
  | .str _ => true
  | .int i => decide (i.natAbs < 1000000000000)
  | _ => false
def pdKv (ks vs : List PV) : List (PyData × PyData) := (ks.zip vs).map fun p => (pdD p.1, pdD p.2)
def keyR : PV → Bool
  | .int i => decide (i.natAbs < 1000000000000)
  | .str s => sok s && decide (s.length ≤ 16777216)
  | _ => false
theorem keyR_flat {d : PV} (h : keyR d = true) : flatR d = true := by
  cases d <;> first | (cases h; done) | skip
  · exact h
  · rfl
def rOkD (ks vs : List PV) : Bool := ks.all keyR && (vs.all flatR && decide (PyData.weightKv (pdKv ks vs) ≤ 1048576))
def shD (ks vs : List PV) : List Nat := (PyData.dict (pdKv ks vs)).shown.cps.toList
def repr2P (v : PV) : R PV := match v with
  | .dict false ks vs => if rOkD ks vs then .ok (.str (shD ks vs)) else .bad
  | v => reprP v
theorem flat_ok0 {d : PV} (h : flatR d = true) : rOk0 d = true := by
  cases d <;> first | (cases h; done) | skip
  · rfl
  · rfl
  · simp only [rOk0]; exact h
  · rfl
theorem kv_show : ∀ {ks vs : List PV}, ks.all flatR = true → vs.all flatR = true → PyData.showableKv (pdKv ks vs) = true
  | [], _, _, _ => rfl
  | _ :: _, [], _, _ => rfl
  | k :: ks, v :: vs, h1, h2 => by
    rw [List.all_cons, Bool.and_eq_true] at h1 h2
    have ih := kv_show h1.2 h2.2
    show PyData.showableKv ((pdD k, pdD v) :: pdKv ks vs) = true
    simp only [PyData.showableKv, show_pd k (flat_ok0 h1.1), show_pd v (flat_ok0 h2.1), ih, Bool.and_self]
theorem flat_depth {d : PV} (h : flatR d = true) : (pdD d).depth = 0 := by
  rw [dp_pd d (flat_ok0 h)]
  cases d <;> first | (cases h; done) | rfl
theorem kv_depth : ∀ {ks vs : List PV}, ks.all flatR = true → vs.all flatR = true → PyData.depthKv (pdKv ks vs) = 0
  | [], _, _, _ => rfl
  | _ :: _, [], _, _ => rfl
  | k :: ks, v :: vs, h1, h2 => by
    rw [List.all_cons, Bool.and_eq_true] at h1 h2
    have ih := kv_depth h1.2 h2.2
    show PyData.depthKv ((pdD k, pdD v) :: pdKv ks vs) = 0
    simp only [PyData.depthKv, flat_depth h1.1, flat_depth h2.1, ih]
    rfl
section
variable {T : Tb} {H : Hp}
theorem key_rep {k : Key} {Hx : Hp} : ∀ {x : Str}, k = .inr x → True := fun _ => trivial
theorem kv_leaves : ∀ {kvs : List (Key × V)} {vs : List PV}, (∀ e ∈ kvs, ∃ v d, Rep T H v d ∧ d = keyP e.1) → RepA T H (kvs.map (·.2)) vs → (kvs.map fun e => keyP e.1).all flatR = true → vs.all flatR = true →
    PyData.leavesShortKv 13 (pdKv (kvs.map fun e => keyP e.1) vs) = true ∧ ∀ t ∈ PyData.shownKv (pdKv (kvs.map fun e => keyP e.1) vs), OkS t
  | [], _, _, _, _, _ => ⟨rfl, fun t ht => by simp [pdKv, PyData.shownKv] at ht⟩
  | e :: kvs, vs, hk, r, h1, h2 => by
    simp only [List.map_cons] at r h1 ⊢
    cases r with
    | @cons _ _ d ds r1 r2 =>
      rw [List.all_cons, Bool.and_eq_true] at h1 h2
      obtain ⟨i1, i2⟩ := kv_leaves (kvs := kvs) (vs := ds) (fun e he => hk e (.tail _ he)) r2 h1.2 h2.2
      obtain ⟨v', d', hr, rfl⟩ := hk e (.head _)
      obtain ⟨a1, a2⟩ := lf_pd (keyP e.1) v' (flat_ok0 h1.1) hr
      obtain ⟨b1, b2⟩ := lf_pd d _ (flat_ok0 h2.1) r1
      show PyData.leavesShortKv 13 ((pdD (keyP e.1), pdD d) :: pdKv (kvs.map fun e => keyP e.1) ds) = true ∧ _
      refine ⟨by simp only [PyData.leavesShortKv, a1, b1, i1, Bool.and_self], fun t ht => ?_⟩
      have ht' : t ∈ PyData.shownKv ((pdD (keyP e.1), pdD d) :: pdKv (kvs.map fun e => keyP e.1) ds) := ht
      simp only [PyData.shownKv] at ht'
      rcases List.mem_cons.mp ht' with rfl | ht'
      · exact okS_app (okS_app a2 (okS_lit _)) b2
      · exact i2 t ht'
theorem flat_reads {h : Heap} {d : PV} {v : V} {u : Value} (hf : flatR d = true) (r : Rep T H v d) (q : RelV v u) : Reads h u (pdD d) [] := by
  cases d <;> first | (cases hf; done) | skip
  · cases r; cases q; exact .none
  · cases r; cases q; exact .bool _
  · cases r
    obtain ⟨t, rfl⟩ := q
    exact .int _ t
  · cases r with
    | str z _ _ =>
      obtain ⟨t, rfl⟩ := q
      exact .str _ t
theorem key_flat_reads {h : Heap} {k : Key} {u : Value} (q : keyIs k u = true) : Reads h u (pdD (keyP k)) [] := by
  rcases keyIs_shape q with ⟨i, t, rfl, rfl⟩ | ⟨x, t, rfl, rfl⟩
  · exact .int i t
  · exact .str x t
theorem kv_reads {P : Program} {w : World} {h : Heap} : ∀ {kvs : List (Key × V)} {vs : List (Key × Value)} {es : List DictEntry} {ds : List PV}, KV kvs vs → Pairs (mixKind P w) es vs → RepA T H (kvs.map (·.2)) ds → ds.all flatR = true →
    ReadsAll h (es.map (·.key)) ((pdKv (kvs.map fun e => keyP e.1) ds).map (·.1)) [] ∧ ReadsAll h (es.map (·.val)) ((pdKv (kvs.map fun e => keyP e.1) ds).map (·.2)) [] := by
  intro kvs vs es ds kv
  unfold KV at kv
  induction kv generalizing es ds with
  | nil =>
    intro p r _
    cases p
    cases r
    exact ⟨.nil, .nil⟩
  | @cons a b as bs hab _ ih =>
    intro p r hf
    simp only [List.map_cons] at r
    cases p with
    | cons p1 p2 p3 =>
      cases r with
      | cons r1 r2 =>
        rw [List.all_cons, Bool.and_eq_true] at hf
        obtain ⟨i1, i2⟩ := ih p3 r2 hf.2
        obtain ⟨e1, e2⟩ := hab
        refine ⟨?_, ?_⟩
        · have k := key_flat_reads (h := h) (k := a.1) (u := _) (by rw [e1]; exact p1)
          exact ReadsAll.cons (as := []) (bs := []) k i1
        · have k := flat_reads (h := h) hf.1 r1 e2
          rw [← p2] at k
          exact ReadsAll.cons (as := []) (bs := []) k i2
end
section
variable {T : Tb} {E : XK} {X : Cx} {k : Nat}
theorem cr_reprD (G : Good T E k X) : CallR X (.builtin "repr") (fun xs H Q => ∃ (a : Addr) (kvs : List (Key × V)) (vs : List PV), xs = [V.ref a] ∧ Rd H a (.dK kvs) ∧ RepA T H (kvs.map (·.2)) vs ∧ rOkD (kvs.map fun e => keyP e.1) vs = true ∧
    ((PyData.dict (pdKv (kvs.map fun e => keyP e.1) vs)).shown.length ≤ sizeLine → OkS (PyData.dict (pdKv (kvs.map fun e => keyP e.1) vs)).shown → Q (.str (PyData.dict (pdKv (kvs.map fun e => keyP e.1) vs)).shown) H)) := by
  intro pins s σ H xs us Q I r h
  obtain ⟨a, kvs, vs, rfl, ha, ra, hd, q⟩ := h
  obtain ⟨u, rfl, ru⟩ := vals1 r
  cases ru
  obtain ⟨_, hsys, vv, kv, o, es, ep, ho, hx, hdat, _, hp, _⟩ := dk_rd I.hok ha
  unfold rOkD at hd
  simp only [Bool.and_eq_true, decide_eq_true_eq] at hd
  obtain ⟨d0, d2, d3⟩ := hd
  have d1 : (kvs.map fun e => keyP e.1).all flatR = true := List.all_eq_true.mpr fun d h => keyR_flat (List.all_eq_true.mp d0 d h)
  obtain ⟨r1, r2⟩ := kv_reads (T := T) (H := H) (h := s.heap) kv hp ra d2
  have hcls : o.cls = .type "dict" := by
    obtain ⟨o', h1, h2⟩ := (Heap.DictOf.typeIs (s := s) ⟨o, es, ep, ho, hx, hdat, ‹_›, hp, ‹_›⟩ : s.TypeIs (.ref a) "dict")
    rw [ho] at h1
    cases h1
    exact h2
  have hr : Reads s.heap (.ref a) (.dict (pdKv (kvs.map fun e => keyP e.1) vs)) (a :: [] ++ []) := .dict ho hcls hdat r1 r2
  have hkeys : ∀ e ∈ kvs, ∃ v d, Rep T H v d ∧ d = keyP e.1 := fun e he => by
    have hk := List.all_eq_true.mp d0 (keyP e.1) (List.mem_map.mpr ⟨e, he, rfl⟩)
    cases e1 : e.1 with
    | inl i => exact ⟨.int i, _, .int i, rfl⟩
    | inr z =>
      rw [e1] at hk
      have hk2 : (sok z.cps.toList && decide (z.cps.toList.length ≤ 16777216)) = true := hk
      rw [Bool.and_eq_true, decide_eq_true_eq] at hk2
      exact ⟨.str z, _, .str z (by rw [str_len, sizeLine_eq]; exact hk2.2) hk2.1, rfl⟩
  obtain ⟨l1, l2⟩ := kv_leaves hkeys ra d1 d2
  have hsz : (PyData.dict (pdKv (kvs.map fun e => keyP e.1) vs)).shown.length ≤ sizeLine := PyData.shown_fits (B := 13) (by decide) (by decide) (by simp only [PyData.leavesShort]; exact l1) (by simp only [PyData.weight]; exact d3)
  have hok : OkS (PyData.dict (pdKv (kvs.map fun e => keyP e.1) vs)).shown := by
    simp only [PyData.shown]
    exact okS_app (okS_app (okS_lit _) (okS_join (okS_lit _) _ l2)) (okS_lit _)
  refine repr_of_reads' hr (by simp only [PyData.showable]; exact kv_show d1 d2) (fun _ hm => ?_) G.gd ?_ (fun _ _ e => e) (fun h' u tk hk => ⟨.str _, H, I.kept hk, ⟨_, rfl⟩, q hsz hok⟩) hsz
  · simp at hm
    rw [hm] at hsys
    simp at hsys
  · simp only [PyData.depth, kv_depth d1 d2]
    have := G.rm.un
    omega
theorem c1_repr2 (G : Good T E k X) : C1 T X (.builtin "repr") repr2P := by
  refine ⟨_, (cr_repr G).or (cr_reprD G), fun L H x a Q x' t ra q => ?_⟩
  unfold repr2P at q
  split at q
  · split at q
    · rename_i ks vs h
      obtain ⟨a', kvs, rfl, h1, r1, rfl⟩ := ra.dictK
      exact .inr ⟨a', kvs, vs, rfl, h1, r1.mono hid_le, h, fun hz hok => q _ _ (Evl.Ex.refl H) (.str _ hz (sok_of hok))⟩
    · exact q.elim
  · unfold reprP at q
    split at q
    · rename_i h
      have rr := ra.rep (rOk_nd h)
      refine .inl ⟨a, x, rfl, h, rr, q _ _ (Evl.Ex.refl H) (.str _ (sh_fits h rr) (sok_of ?_))⟩
      exact (lf_pd a x (rOk_and h).1 rr).2
    · exact q.elim
end
end VL
set_option Elab.async false
set_option linter.all false
set_option maxRecDepth 100000
set_option maxHeartbeats 4000000
/-! VLSI: set(list) and sorted(set(list)) of ints. -/
namespace VLS
open PySem PySem.Spec PyProof.Rows L2 PySem.Froz
section
variable {P : Program} {w : World} {A : Around} {E : Value → Shared → Prop} {s : Shared}
/-- set(list of ints) -/
theorem set_listI {l : Addr} {items : Array Value} (xs : List Int) {Q : Value → Shared → Prop} (hh : A.handled = none) (hl : s.heap.IsList l items) (hi : IntsAre items.toList xs) (hb : xs.length + 1 < scanBound)
    (h : ∀ (h' : Heap) (tk c : Nat), SetR w h' s.heap.objs.size (fun j => decide (j ∈ xs)) c → c ≤ xs.length → (∀ b o, s.heap.get? b = some o → h'.get? b = some o) → Q (.ref s.heap.objs.size) { s with heap := h', toks := tk }) : wpAny (model P w) A (call (.type "set") [.ref l]) Q E s := by
  have hsz : items.size = xs.length := by
    have q := IntsAre.length hi
    rwa [Array.length_toList] at q
  obtain ⟨cc, tl, hmro⟩ := F.called_set.mro
  have f1 := F.called_set.made; have f2 := F.called_set.sub
  refine wpAny_call (codeAny_of_tree ?_); show wpAny _ _ (callAny (.type "set") _) _ _ _
  refine wpAny_pure ⟨Code.quiet_builtin _ (by decide +kernel), codeAny_builtin F.entry_type_call ?_⟩; rw [Around.under_plain (weight_type_call_type "set" [.ref l] []) rfl]
  have f3 := F.called_set.notType; have f4 := F.called_set.canCreate; have f5 := F.typeCall_set_1 (.ref l)
  repeat (any_goals (first | assumption | wp_step))
  refine codeAny_mono (code_set_led1 (.ref l) (E := E) (Q₁ := fun obj s₁ => obj = .ref s.heap.objs.size ∧ s₁ = { s with heap := s.heap.push (nuO w) }) ⟨rfl, rfl⟩) fun r s₁ hr => ?_
  match r, hr with
  | .error e, hr => exact hr
  | .ok .next, hr => exact hr.elim
  | .ok .brk, hr => exact hr.elim
  | .ok .cont, hr => exact hr.elim
  | .ok (.ret obj), ⟨e1, e2⟩ =>
    subst e1; subst e2
    have gS : (s.heap.push (nuO w)).get? s.heap.objs.size = some (nuO w) := Heap.get?_push_size _ rfl
    have gT : Shared.TypeIs { s with heap := s.heap.push (nuO w) } (.ref s.heap.objs.size) "set" := ⟨_, gS, rfl⟩
    have f6 := F.called_set.init.lookup; have f7 := F.called_set.init.bind (.ref s.heap.objs.size)
    repeat (any_goals (first | assumption | wp_step))
    refine codeAny_mono (codeAny_call_builtin (R := wants (fun r s₂ => r = .none ∧ ∃ h' tk c, s₂ = { s with heap := h', toks := tk } ∧ SetR w h' s.heap.objs.size (fun j => decide (j ∈ xs)) c ∧ c ≤ xs.length ∧ (∀ b o, s.heap.get? b = some o → h'.get? b = some o)) E) F.called_set.init.plain F.entry_set_init (check_set_init_1 gT ?_)) fun r₂ s₂ hr₂ => ?_
    · obtain ⟨⟨ocls, odict, odata, osl⟩, hol, hcl, nl, hdl⟩ := hl
      simp only at hcl hdl
      subst hcl; subst hdl
      have f8 := F.sub_list_set; have f9 := F.sub_list_frozenset
      have f0 : (Value.type "list" == Value.type "dict") = false := by decide
      have hol2 : (s.heap.push (nuO w)).get? l = some { cls := .type "list", dict := odict, data := .seq items nl, slots := osl } := Heap.get?_push_of_some _ hol
      have hl1 : (s.heap.push (nuO w)).IsList l items := ⟨_, hol2, rfl, nl, rfl⟩
      unfold Builtin.«set.__init__» noKeywords Builtin.Frozenset.updateFrom
      generalize hPI : pyIter = PI; wp_walk; subst hPI
      refine wpAny_pyIter_list hl1 ?_; refine wpAny_bind (wpAny_runValue ?_)
      have hlS : l < s.heap.objs.size := Heap.lt_size hol
      have hh3 : A.in1.in1.in1.handled = none := by simp [hh]
      have z1 : (s.heap.push (nuO w)).objs.size = s.heap.objs.size + 1 := Heap.size_push ..
      have z2 : l ≠ (s.heap.push (nuO w)).objs.size := by rw [z1]; exact Nat.ne_of_lt (Nat.lt_succ_of_lt hlS)
      have z3 : s.heap.objs.size ∉ [(s.heap.push (nuO w)).objs.size, l] := by
        rw [z1]; simp only [List.mem_cons, List.not_mem_nil, or_false, not_or]; exact ⟨Nat.ne_of_lt (Nat.lt_succ_self _), Nat.ne_of_gt hlS⟩
      have hval : ∀ (i : Nat) (v : Value), items[i]? = some v → ∃ k t, xs[i]? = some k ∧ v = .int k t := fun i v hv => by
        have hi2 : i < xs.length := by rw [← hsz]; exact (Array.getElem?_eq_some_iff.mp hv).1
        obtain ⟨t, e⟩ := PyProof.Rows.IntsAre.int_at hi i v (by rw [Array.getElem?_toList]; exact hv)
        exact ⟨xs[i], t, List.getElem?_eq_getElem hi2, by rw [e, List.getD_eq_getElem?_getD, List.getElem?_eq_getElem hi2] <;> rfl⟩
      refine set_update_ints ((Walks.list hh3 _ l z2 items).toS) s.heap.objs.size z3 xs hsz hb hval (items.size - 0) 0 _ (by omega) (Nat.zero_le _) ⟨⟨_, Heap.get?_push_size _ rfl, rfl, rfl⟩, (hl1.push _)⟩ ⟨0, Nat.le_refl 0, setR_new_at (Heap.get?_push_of_some _ gS)⟩ fun s' c' hm hc' hS' => ?_
      obtain ⟨h', g2, d', tk', os'⟩ := s'
      obtain rfl : g2 = s.gens := hm.gens
      obtain rfl : d' = s.drawn := hm.drawn
      obtain rfl : os' = s.os := hm.os
      show wpAny _ _ _ _ _ _; refine wpAny_pure ?_; show wpAny _ _ (ret Value.none) _ _ _
      refine wpAny_pure ⟨rfl, h', tk', c', rfl, hS', by rw [← hsz]; exact hc', fun b o e => ?_⟩
      have b0 : b < s.heap.objs.size := Heap.lt_size e
      exact hm.heap b o (by rw [z1]; simp only [List.mem_cons, List.not_mem_nil, or_false, not_or]; exact ⟨Nat.ne_of_lt b0, Nat.ne_of_lt (Nat.lt_succ_of_lt b0)⟩) (Heap.get?_push_of_some _ (Heap.get?_push_of_some _ e))
    · match r₂, hr₂ with
      | .error e, hr₂ => exact hr₂
      | .ok .next, hr₂ => exact hr₂.elim
      | .ok .brk, hr₂ => exact hr₂.elim
      | .ok .cont, hr₂ => exact hr₂.elim
      | .ok (.ret r), ⟨e3, h', tk, c', e4, hS', hc', hk'⟩ =>
        subst e3; subst e4
        repeat (any_goals (first | assumption | wp_step))
        exact h _ _ _ hS' hc' hk'
end
end VLS
set_option Elab.async false
set_option linter.all false
set_option maxRecDepth 100000
set_option maxHeartbeats 4000000
set_option autoImplicit false
/-! VR2: sorted(set(..)) of texts or ints. -/
namespace VL
open PySem PySem.Spec L2 R
def insU (x : Int) : List Int → List Int
  | [] => [x]
  | y :: ys => if x < y then x :: y :: ys else if x = y then y :: ys else y :: insU x ys
/-- ascending, each once -/
def sortU : List Int → List Int
  | [] => []
  | x :: xs => insU x (sortU xs)
theorem mem_insU {x k : Int} : ∀ {l : List Int}, k ∈ insU x l ↔ k = x ∨ k ∈ l
  | [] => by simp [insU]
  | y :: ys => by
    unfold insU
    split
    · simp
    · split
      · rename_i h
        subst h
        simp
      · rw [List.mem_cons, mem_insU, List.mem_cons]
        constructor
        · rintro (h | h | h)
          · exact .inr (.inl h)
          · exact .inl h
          · exact .inr (.inr h)
        · rintro (h | h | h)
          · exact .inr (.inl h)
          · exact .inl h
          · exact .inr (.inr h)
theorem mem_sortU {k : Int} : ∀ {l : List Int}, k ∈ sortU l ↔ k ∈ l
  | [] => by simp [sortU]
  | x :: xs => by rw [sortU, mem_insU, mem_sortU, List.mem_cons]
theorem insU_pw {x : Int} : ∀ {l : List Int}, l.Pairwise (· < ·) → (insU x l).Pairwise (· < ·)
  | [], _ => by simp [insU]
  | y :: ys, h => by
    obtain ⟨h1, h2⟩ := List.pairwise_cons.mp h
    unfold insU
    split
    · rename_i g
      refine List.pairwise_cons.mpr ⟨fun z hz => ?_, h⟩
      rcases List.mem_cons.mp hz with rfl | hz
      · exact g
      · have := h1 z hz
        omega
    · split
      · exact h
      · refine List.pairwise_cons.mpr ⟨fun z hz => ?_, insU_pw h2⟩
        rcases mem_insU.mp hz with rfl | hz
        · omega
        · exact h1 z hz
theorem sortU_pw : ∀ {l : List Int}, (sortU l).Pairwise (· < ·)
  | [] => .nil
  | x :: xs => insU_pw sortU_pw
theorem insU_len {x : Int} : ∀ {l : List Int}, (insU x l).length ≤ l.length + 1
  | [] => by simp [insU]
  | y :: ys => by
    unfold insU
    split
    · simp
    · split
      · simp
      · have := insU_len (x := x) (l := ys)
        simp
        omega
theorem sortU_len : ∀ {l : List Int}, (sortU l).length ≤ l.length
  | [] => by simp [sortU]
  | x :: xs => by
    have h1 := insU_len (x := x) (l := sortU xs)
    have h2 := sortU_len (l := xs)
    simp [sortU]
    omega
theorem pw_uniq : ∀ {a b : List Int}, a.Pairwise (· < ·) → b.Pairwise (· < ·) → (∀ k, k ∈ a ↔ k ∈ b) → a = b
  | [], [], _, _, _ => rfl
  | [], y :: ys, _, _, h => by have := (h y).mpr (.head _); cases this
  | x :: xs, [], _, _, h => by have := (h x).mp (.head _); cases this
  | x :: xs, y :: ys, ha, hb, h => by
    obtain ⟨a1, a2⟩ := List.pairwise_cons.mp ha
    obtain ⟨b1, b2⟩ := List.pairwise_cons.mp hb
    have e : x = y := by
      rcases List.mem_cons.mp ((h x).mp (.head _)) with e | e
      · exact e
      · rcases List.mem_cons.mp ((h y).mpr (.head _)) with g | g
        · exact g.symm
        · have := b1 x e
          have := a1 y g
          omega
    subst e
    rw [pw_uniq a2 b2 fun k => ⟨fun hk => ?_, fun hk => ?_⟩]
    · rcases List.mem_cons.mp ((h k).mp (.tail _ hk)) with e | e
      · have := a1 k hk
        omega
      · exact e
    · rcases List.mem_cons.mp ((h k).mpr (.tail _ hk)) with e | e
      · have := b1 k hk
        omega
      · exact e
def sset2P : PV → R PV
  | .list xs => match strsP xs with
    | some l => if l.length + 1 < 4096 then .ok (.list ((sortN (dedN l)).map .str)) else .bad
    | none => match intsP xs with
      | some l => if l.length < 60 then .ok (.list ((sortU l).map .int)) else .bad
      | none => .bad
  | .str x => ssetP (.str x)
  | _ => .bad
section
variable {T : Tb} {E : XK} {O : List Nat} {X : Cx} {a : Expr} {f : En → R PV} {pos p p2 q : Pos}
def tSset2 (K : PySem.W.Frag) (ta : TE) : TE := fun σ H Q => ta σ H fun x H1 =>
  (∃ xs : List Str, ((∃ l, x = .ref l ∧ SqL K H1 l (xs.map V.str)) ∨ ∃ z, x = .str z ∧ xs = VLS.sgs z) ∧ xs.length + 1 < 4096 ∧
    ∀ (ys : List Str) (p : Addr), ys.Perm (VLS.setS xs) → PyProof.Rows.sortedS ys = true → H1 p = none → Q (.ref p) (upd H1 p (.lst (ys.map V.str)))) ∨
  (∃ (l : Addr) (xs : List Int), x = .ref l ∧ SqL K H1 l (xs.map V.int) ∧ xs.length < 60 ∧
    ∀ (ys : List Int) (p : Addr), ys.Pairwise (· < ·) → (∀ k, k ∈ ys ↔ k ∈ xs) → H1 p = none → Q (.ref p) (upd H1 p (.lst (ys.map V.int))))
theorem pe_sset2 {ta : TE} (hc : X.calm = true) (hg : Gl X "sorted") (hm : X.mg "sorted" = none) (hg2 : Gl X "set") (hm2 : X.mg "set" = none) (ha : PE X a ta) (na : starEach [a] X.env = (false, eval a X.env) :: starEach [] X.env := by rfl) :
    PE X (.Call (.Name "sorted" p) [.Call (.Name "set" p2) [a] [] q] [] pos) (tSset2 X.K ta) := by
  refine ⟨fun pins s σ H Q I h => ?_⟩
  refine PyProof.Rows.Call_ (ld_blt I hg hm (show bootBuiltins ("sorted" : PySem.Str) = some (.builtin "sorted") from by kernel_rfl) ?_); refine PyProof.Rows.callWith_builtin1 (PyProof.Rows.args_cons ?_ rfl) rfl rfl
  refine PyProof.Rows.Call_ (ld_blt I hg2 hm2 (show bootBuiltins ("set" : PySem.Str) = some (.type "set") from by kernel_rfl) ?_); refine PyProof.Rows.callWith_type1 (PyProof.Rows.args_cons (thn (ha.run pins s σ H _ I h) fun v s1 ⟨x, H1, I1, r1, q1⟩ => PyProof.Rows.args_nil ?_) na) na rfl
  rcases q1 with ⟨xs, hx, hb, q1⟩ | ⟨l, xs, rfl, hq, hb, q1⟩
  · have hb2 : xs.length + 1 < scanBound := hb
    have fin : ∀ (h' : Heap) (tk : Nat), VLS.SetS X.prog X.w h' s1.heap.objs.size (VLS.setS xs) → (∀ b o, s1.heap.get? b = some o → h'.get? b = some o) →
        wpAny (model X.prog X.w) X.A (spliced (backTo pos (starEach [] X.env))) (fun vs s₂ => wpAny (model X.prog X.w) X.A (call (.builtin "sorted") (Value.ref s1.heap.objs.size :: vs)) (EP X pins σ Q) X.xe s₂) X.xe { s1 with heap := h', toks := tk } := fun h' tk hS hk => by
      refine PyProof.Rows.args_nil ?_
      have I2 : Inv X pins σ H1 { s1 with heap := h', toks := tk } := I1.kept hk
      refine VLS.sorted_setS hS (I2.ok.hd hc) fun s' pp out cc ss k g o hp hg' hi hs hpm => ?_
      have hn : H1 pp = none := I2.hok.fresh hp
      have hlen : (ss.map V.str).length ≤ sizeLine := by
        have e1 := VLS.setS_len xs
        rw [List.length_map, hpm.length_eq, sizeLine_eq]
        omega
      have J : Inv X pins σ (upd H1 pp (.lst (ss.map V.str))) { ({ s1 with heap := h', toks := tk } : Shared) with heap := s'.heap, gens := s'.gens, drawn := s'.drawn, toks := s'.toks } :=
        I2.call (ch := []) (Un.laid k hp hn) (I2.hok.laid k hp ⟨hlen, out.toList, cc, vals_of_strs hi, hg'⟩) (by rw [g]; exact I2.bare) (fun _ z => nomatch z)
      have e : s' = { ({ s1 with heap := h', toks := tk } : Shared) with heap := s'.heap, gens := s'.gens, drawn := s'.drawn, toks := s'.toks } := by
        cases s'
        cases s1
        cases o
        rfl
      rw [e]
      exact ⟨.ref pp, _, J, rfl, q1 ss pp hpm hs hn⟩
    rcases hx with ⟨l, rfl, hq⟩ | ⟨z, rfl, rfl⟩
    · cases r1
      obtain ⟨its, r, pl, hz⟩ := I1.list hq
      exact VLS.set_list xs (I1.ok.hd hc) pl.isList (by simpa using strsAre_of r) hb2 fin
    · obtain ⟨t, rfl⟩ := r1
      have e : (VLS.sgs z).length = z.length := by simp [VLS.sgs]; rfl
      exact VLS.set_str (I1.ok.hd hc) (by rw [← e]; exact hb2) fin
  · cases r1
    obtain ⟨its, r, pl, hz⟩ := I1.list hq
    have hb2 : xs.length + 1 < scanBound := by
      show xs.length + 1 < 4096
      omega
    refine VLS.set_listI xs (I1.ok.hd hc) pl.isList (by simpa using r.ints) hb2 fun h' tk c hS hc' hk => ?_
    refine PyProof.Rows.args_nil ?_
    have I2 : Inv X pins σ H1 { s1 with heap := h', toks := tk } := I1.kept hk
    refine sorted_set hS (I2.ok.hd hc) (by omega) fun s' pp out cc ns k g o hp hg' hi hs hmm hnl => ?_
    have hn : H1 pp = none := I2.hok.fresh hp
    have hlen : (ns.map V.int).length ≤ sizeLine := by
      rw [List.length_map, hnl, sizeLine_eq]
      omega
    have J : Inv X pins σ (upd H1 pp (.lst (ns.map V.int))) { ({ s1 with heap := h', toks := tk } : Shared) with heap := s'.heap, gens := s'.gens, drawn := s'.drawn, toks := s'.toks } :=
      I2.call (ch := []) (Un.laid k hp hn) (I2.hok.laid k hp ⟨hlen, out.toList, cc, vals_of_ints hi, hg'⟩) (by rw [g]; exact I2.bare) (fun _ z => nomatch z)
    have e : s' = { ({ s1 with heap := h', toks := tk } : Shared) with heap := s'.heap, gens := s'.gens, drawn := s'.drawn, toks := s'.toks } := by
      cases s'
      cases s1
      cases o
      rfl
    rw [e]
    exact ⟨.ref pp, _, J, rfl, q1 ns pp hs (fun k => (hmm k).trans (by simp)) hn⟩
theorem vf_sset2 (hc : X.calm = true) (hK : X.K = T.K) (ha : VW T E O X a f) (hm : X.mg "sorted" = none) (hm2 : X.mg "set" = none) (hg : Gl X "sorted" := by rfl) (hg2 : Gl X "set" := by rfl) (na : starEach [a] X.env = (false, eval a X.env) :: starEach [] X.env := by rfl) :
    VF T E O X (.Call (.Name "sorted" p) [.Call (.Name "set" p2) [a] [] q] [] pos) (fun env => do sset2P (← f env)) := by
  obtain ⟨ta, pa, qa⟩ := ha
  refine ⟨_, pe_sset2 hc hg hm hg2 hm2 pa na, fun L ow H σ env Q ho re hq => ?_⟩
  simp only [res_bind] at hq
  refine qa L ow H σ env _ ho re (hq.imp (fun d k v H1 e1 rv => ?_) fun _ _ x => x)
  rw [hK]
  unfold sset2P at k
  have fin : ∀ (l : List (List Nat)) (xs : List Str), xs.map VLS.cp = l → (∀ y ∈ l, y.length ≤ LN ∧ sok y = true) → l.length + 1 < 4096 → (∀ p H', Ex H H' → H p = none → RepO T (p :: L) H' p (.list ((sortN (dedN l)).map .str)) → Q (.ref p) H') →
      ∀ (ys : List Str) (p : Addr), ys.Perm (VLS.setS xs) → PyProof.Rows.sortedS ys = true → H1 p = none → Q (.ref p) (upd H1 p (.lst (ys.map V.str))) := fun l xs ex hl hn k ys p hp hs hf => by
    have hpd : (ys.map VLS.cp).Perm (dedN l) := by
      refine dedN_perm ?_ fun y => ?_
      · have nd : ys.Nodup := hp.nodup_iff.mpr (VLS.setS_nodup xs)
        exact List.Pairwise.map _ (fun a b hab h => hab (by
          have q : (a.cps.toList).toArray = (b.cps.toList).toArray := congrArg List.toArray h
          cases a
          cases b
          simpa using q)) nd
      · rw [(hp.map VLS.cp).mem_iff, ← ex, List.mem_map, List.mem_map]
        exact ⟨fun ⟨z, h1, h2⟩ => ⟨z, VLS.mem_setS.mp h1, h2⟩, fun ⟨z, h1, h2⟩ => ⟨z, VLS.mem_setS.mpr h1, h2⟩⟩
    have hdl := dedN_len l
    exact k _ _ (e1.trans (ex_upd hf)) (Evl.fresh_back e1 hf) (sorted_rep (fun y hy => hl y (mem_dedN.mp hy)) (by show (dedN l).length ≤ 16777216; omega) hs hpd hf)
  split at k
  · obtain ⟨p, xs, rfl, h1, r1, l1⟩ := rv.list
    split at k
    · rename_i l hl
      obtain ⟨ea, eb, _⟩ := strs_of hl r1
      split at k
      · rename_i hn
        exact .inl ⟨l.map (fun y => ⟨y.toArray⟩), .inl ⟨p, rfl, .of (by rw [h1, ea, List.map_map]; rfl)⟩, by rw [List.length_map]; exact hn, fin l _ cp_back eb hn k⟩
      · exact k.elim
    · split at k
      · rename_i l hl
        obtain ⟨ea, _⟩ := ints_of hl r1
        split at k
        · rename_i hn
          refine .inr ⟨p, l, rfl, .of (by rw [h1, ea]), hn, fun ys p hs hm hf => ?_⟩
          have e : ys = sortU l := pw_uniq hs sortU_pw fun k => (hm k).trans mem_sortU.symm
          subst e
          refine k _ _ (e1.trans (ex_upd hf)) (Evl.fresh_back e1 hf) (.lst upd_same ints_rep ?_)
          have := sortU_len (l := l)
          rw [List.length_map, sizeLine_eq]
          omega
        · exact k.elim
      · exact k.elim
  · rename_i z
    unfold ssetP at k
    dsimp only at k
    obtain ⟨zz, rfl, ez, l1, s1⟩ := rv.str
    split at k
    · rename_i hn
      have eg : (VLS.sgs zz).map VLS.cp = z.map fun c => [c] := by
        show (zz.cps.toList.map PySem.Froz.sing).map VLS.cp = _
        rw [ez, List.map_map]
        rfl
      have hlen : (VLS.sgs zz).length = z.length := by
        have := congrArg List.length eg
        simpa using this
      refine .inl ⟨VLS.sgs zz, .inr ⟨zz, rfl, rfl⟩, by rw [hlen]; exact hn, fin _ _ eg (fun y hy => ?_) (by simpa using hn) k⟩
      obtain ⟨c, hcc, rfl⟩ := List.mem_map.mp hy
      refine ⟨by show 1 ≤ 16777216; omega, ?_⟩
      have := sok_mem.mp s1 c hcc
      simp [sok, this]
    · exact k.elim
  · exact k.elim
end
end VL
set_option Elab.async false
set_option linter.all false
set_option maxRecDepth 100000
set_option maxHeartbeats 2000000
set_option autoImplicit false
/-! VMT: methods with a value: l.index(x); dict(pairs); calls that change what is thrown away. -/
namespace VL
open PySem PySem.Spec L2 R

/-- a method of the type T0 with one argument -/
def M1 (T : Tb) (X : Cx) (T0 : String) (id : String) (chk : PV → Bool) (op : PV → PV → R PV) : Prop := ∃ r, MtR X id r ∧ (∀ L H x a, RepW T L H x a → chk a = true → tyV X.K T0 x H) ∧
  ∀ L H x y a b Q x', Trk L H → RepW T L H x a → chk a = true → RepW T L H y b → Res (op a b) (KV' T L H Q) x' → r x [y] H Q
def chkR (chk : PV → Bool) (d : PV) : R PV := if chk d = true then .ok d else .bad
def listB : PV → Bool
  | .list _ => true
  | _ => false
def strB : PV → Bool
  | .str _ => true
  | _ => false
section
variable {M : Md} {T : Tb} {E : XK} {O : List Nat} {X : Cx} {a b c e o : Expr} {es : List Expr} {f g h : En → R PV} {pos pos' p apos cpos : Pos} {x name : Str} {T0 id : String} {chk : PV → Bool} {op : PV → PV → R PV}
theorem ve_m1 (hm : M1 T X T0 id chk op) (pa : PlainAttrs T0) (slot : Slot T0 name id) (hty : typeOf (.builtin id) = pure (.type "method_descriptor")) (ha : VW T E O X o f) (hb : VW T E O X e g)
    (hbase : attributeBase o name X.env (eval o X.env) = eval o X.env := by rfl)
    (hfew : ((backTo cpos (starEach [e] X.env)).all (fun x => !x.1) && (backToKw cpos (keywordEach [] X.env)).all (fun x => x.1.isSome)
      && decide (([e] : List Expr).length + ([] : List Keyword).length + (if ([] : List Keyword).isEmpty then 0 else 1) < 30)) = true := by rfl)
    (hline : (apos.endLine == cpos.line) = true := by rfl) (hs : starEach [e] X.env = (false, eval e X.env) :: starEach [] X.env := by rfl) (hplain : (backTo cpos (starEach [] X.env)).any (·.1) = false := by rfl) :
    VE T E O X (.Call (.Attribute o name apos) [e] [] cpos) (fun env => do op (← chkR chk (← f env)) (← g env)) := by
  obtain ⟨r, pr, ty, qr⟩ := hm
  obtain ⟨ta, pa', qa⟩ := ha
  obtain ⟨tb, pb, qb⟩ := hb
  refine ⟨_, pe_bm pa slot hty pr pa' (pa_cons pb pa_nil hs) hbase hfew hline hs hplain, fun L ow H σ env Q ho re hq => ?_⟩
  simp only [res_bind] at hq
  refine qa L ow H σ env _ ho re (hq.imp (fun d k v H1 e1 rv => ?_) fun _ _ x => x)
  unfold chkR at k
  split at k
  · rename_i hk
    rw [res_ok] at k
    refine ⟨ty L H1 v d rv hk, qb L ow H1 σ env _ ho (re.mono e1) (k.imp (fun d' k' v' H2 e2 rv' => ?_) fun _ _ x => xw_mono e1 x)⟩
    exact qr L H2 v v' d d' Q _ (re.trk.mono (e1.trans e2)) (rv.mono e2) hk rv' (k'.imp (fun d2 k2 w H3 e3 rw' => k2 w H3 ((e1.trans e2).trans e3) rw') fun _ _ x => x)
  · exact k.elim

/-! ### l.index(x) -/
def indexP (a d : PV) : R PV := match a with
  | .list ds => if (cmpOk d && cmpOk (.list ds)) = true then (match ds.findIdx? (fun z => eqB z d) with | some j => .ok (.int (j : Nat)) | none => .bad) else .bad
  | _ => .bad
theorem toDs_get : ∀ {ds : List PV} {i : Nat}, (toDs ds)[i]? = (ds[i]?).map toD
  | [], i => by simp [toDs]
  | d :: ds, 0 => by simp [toDs]
  | d :: ds, i + 1 => by
    unfold toDs
    rw [List.getElem?_cons_succ, List.getElem?_cons_succ]
    exact toDs_get
theorem dataBs_get : ∀ {ds : List PV} {i : Nat} {z : PV}, dataBs ds = true → ds[i]? = some z → dataB z = true
  | [], i, z, _, h => by simp at h
  | d :: ds, 0, z, h, e => by
    unfold dataBs at h
    rw [Bool.and_eq_true] at h
    simp at e
    subst e
    exact h.1
  | d :: ds, i + 1, z, h, e => by
    unfold dataBs at h
    rw [Bool.and_eq_true] at h
    rw [List.getElem?_cons_succ] at e
    exact dataBs_get h.2 e
theorem listB_ty {L : List Addr} {H : Hp} {x : V} {a : PV} (K : PySem.W.Frag) (r : RepW T L H x a) (h : listB a = true) : tyV K "list" x H := by
  cases a with
  | list ds =>
    obtain ⟨p, xs, rfl, h1, _, _⟩ := r.list
    exact .inl ⟨rfl, xs, SqL.of h1⟩
  | _ => cases h
theorem strB_ty {L : List Addr} {H : Hp} {x : V} {a : PV} (K : PySem.W.Frag) (r : RepW T L H x a) (h : strB a = true) : tyV K "str" x H := by
  cases a with
  | str s =>
    obtain ⟨z, rfl, _⟩ := r.str
    exact rfl
  | _ => cases h
theorem m1_index (hK : X.K = T.K) (hu : X.A.units + 65 < cLine) : M1 T X "list" "list.index" listB indexP := by
  refine ⟨_, mt_indexD hu, fun L H x a r h => listB_ty _ r h, fun L H x y a b Q x' t ra hc rb q => ?_⟩
  unfold indexP at q
  split at q
  · rename_i ds
    split at q
    · rename_i hm
      rw [Bool.and_eq_true] at hm
      obtain ⟨d1, s1⟩ := rb.dp hm.1
      obtain ⟨d2, s2⟩ := ra.dp hm.2
      have hd := cmp_data hm.2
      unfold toD at d2 s2
      unfold dataB at hd
      split at q
      · rename_i j hj
        obtain ⟨hlt, h1, h2⟩ := List.findIdx?_eq_some_iff_getElem.mp hj
        obtain ⟨p, xs, rfl, _, _, _⟩ := ra.list
        have hg : ds[j]? = some ds[j] := List.getElem?_eq_getElem hlt
        refine ⟨p, y, toD b, toDs ds, j, toD ds[j], rfl, rfl, by rw [hK]; exact d2, by rw [hK]; exact d1, s2, s1, ?_, ?_, fun m z' hm' hz' => ?_, q _ _ (Evl.Ex.refl H) (.int _)⟩
        · rw [toDs_get, hg]
          rfl
        · rw [eqv_toD _ _ (dataBs_get hd hg) (cmp_data hm.1)]
          exact h1
        · rw [toDs_get] at hz'
          have hml : m < ds.length := Nat.lt_trans hm' hlt
          have hg' : ds[m]? = some ds[m] := List.getElem?_eq_getElem hml
          rw [hg'] at hz'
          cases hz'
          rw [eqv_toD _ _ (dataBs_get hd hg') (cmp_data hm.1)]
          have := h2 m hm'
          simpa using this
      · exact q.elim
    · exact q.elim
  · exact q.elim

/-! ### dict(pairs) -/
def dictL : List PV → PV → R PV
  | [], acc => .ok acc
  | .tup [k, v] :: r, acc => do dictL r (← putP acc k v)
  | _ :: _, _ => .bad
def dictP : PV → R PV
  | .list ds => dictL ds (.dict false [] [])
  | _ => .bad
theorem dict_rep {Hx : Hp} {K : PySem.W.Frag} {W : PV → Prop} {x' : Nat → PV → Prop} : ∀ {ds : List PV} {xs : List V} {kvs0 : List (Key × V)} {vs0 : List PV}, RepA T Hx xs ds → RepA T Hx (kvs0.map (·.2)) vs0 →
    Res (dictL ds (.dict false (kvs0.map fun e => keyP e.1) vs0)) W x' →
    ∃ (ps : List Addr) (kvs : List (Key × V)), xs = ps.map V.ref ∧ Paired (fun p kv => SqT K Hx p [kV kv.1, kv.2]) ps kvs ∧ ∃ vs', RepA T Hx ((mergeK kvs0 kvs).map (·.2)) vs' ∧ W (.dict false ((mergeK kvs0 kvs).map fun e => keyP e.1) vs')
  | [], _, kvs0, vs0, .nil, r0, h => ⟨[], [], rfl, .nil, vs0, r0, h⟩
  | d :: ds, _, kvs0, vs0, .cons (v := v) (vs := vs) r rs, r0, h => by
    unfold dictL at h
    split at h
    · rename_i heq
      cases heq
    · rename_i k dv rr heq
      cases heq
      rw [res_bind] at h
      unfold putP at h
      dsimp only at h
      split at h
      · rename_i hk
        obtain ⟨z, h⟩ := res_lim h
        have hb : keyB k = true := by cases k <;> simp_all [dkOk, keyB]
        cases r with
        | @tup a zs _ ha ra za =>
          cases ra with
          | @cons w1 ws _ _ r1 r2 =>
            cases r2 with
            | @cons w2 ws2 _ _ r2 r3 =>
              cases r3
              have ek : w1 = kV (keyOf k) := RepW.key (L := []) (H := Hx) (.st (by rw [hid_nil]; exact r1)) hb
              subst ek
              obtain ⟨q1, q2⟩ := put_rep keyP (keyOf k) k (fun z => eqB_key z k hb) kvs0 vs0 w2 dv (keyP_of hb) r0 r2
              have h2 : Res (dictL ds (.dict false ((putK kvs0 (keyOf k) w2).map fun e => keyP e.1) (if ((kvs0.map fun e => keyP e.1).any fun z => eqB z k) = true then putVs k dv (kvs0.map fun e => keyP e.1) vs0 else vs0 ++ [dv]))) W x' := by
                rw [q2]
                split at h
                · rename_i hin
                  rw [if_pos hin, if_pos hin]
                  exact h
                · rename_i hin
                  rw [if_neg hin, if_neg hin]
                  exact h
              obtain ⟨ps, kvs, e1, e2, vs', e3, e4⟩ := dict_rep rs q1 h2
              subst e1
              exact ⟨a :: ps, (keyOf k, w2) :: kvs, rfl, .cons (SqT.of ha) e2, vs', e3, e4⟩
      · exact h.elim
    · exact h.elim
theorem c1_dict (hc : X.calm = true) (hK : X.K = T.K) : C1F T X (.type "dict") dictP := by
  refine ⟨_, call_dictP hc, fun L H x a Q x' t ra q => ?_⟩
  unfold dictP at q
  split at q
  · obtain ⟨p, xs, rfl, h1, r1, l1⟩ := ra.list
    obtain ⟨ps, kvs, e1, e2, vs', e3, e4⟩ := dict_rep (K := X.K) (kvs0 := []) r1 .nil q
    subst e1
    refine ⟨p, ps, kvs, rfl, SqL.of h1, ?_, fun l hl => e4 l _ (ex_upd hl) hl (.dK upd_same (e3.mono (hid_more (ex_upd hl) hl)))⟩
    have : ∀ {ps : List Addr} {kvs : List (Key × V)}, Paired (fun p kv => SqT X.K (hid H L) p [kV kv.1, kv.2]) ps kvs → Paired (fun p kv => SqT X.K H p [kV kv.1, kv.2]) ps kvs := fun {ps kvs} h => by
      induction h with
      | nil => exact .nil
      | cons h _ ih => exact .cons (Evl.ex_t hid_le h) ih
    exact this e2
  · exact q.elim

/-! ### what is thrown away -/
/-- f(..).append(e) -/
theorem vs_tapp (ha : VF T E O X o f) (hb : VE T E O X e g)
    (hbase : attributeBase o "append" X.env (eval o X.env) = eval o X.env := by rfl)
    (hfew : ((backTo pos (starEach [e] X.env)).all (fun x => !x.1) && (backToKw pos (keywordEach [] X.env)).all (fun x => x.1.isSome)
      && decide (([e] : List Expr).length + ([] : List Keyword).length + (if ([] : List Keyword).isEmpty then 0 else 1) < 30)) = true := by rfl)
    (hline : (apos.endLine == pos.line) = true := by rfl) (hs : starEach [e] X.env = (false, eval e X.env) :: starEach [] X.env := by rfl) (hplain : (backTo pos (starEach [] X.env)).any (·.1) = false := by rfl)
    (hsw : swapsWith (.Call (.Attribute o "append" apos) [e] [] pos) none pos'.line X.env = pure false := by rfl) :
    VS1 (M := M) T E O O X (.Expr (.Call (.Attribute o "append" apos) [e] [] pos) pos') (fun env => do
      let ds ← ownL (← f env)
      let _ ← g env
      lim (ds.length + 1) (.ok (.nx env))) := by
  obtain ⟨ta, pa, qa⟩ := ha
  obtain ⟨t, p, q⟩ := hb
  refine ⟨_, ps_expr (pe_bm PySem.F.plainAttrs_list PySem.F.slot_list_append PySem.F.type_list_append mt_append pa (pa_cons p pa_nil hs) hbase hfew hline hs hplain) hsw, fun B L0 H0 L ow H σ env D S h => ?_⟩
  simp only [res_bind] at h
  refine qa L ow H σ env _ S.ho S.re (h.imp (fun d k a H1 e1 hp r => ?_) fun _ _ x => xw_mono S.ex x)
  cases r with
  | @lst xs ds hl rl zl =>
    refine ⟨.inl ⟨rfl, xs, SqL.of hl⟩, q L ow H1 σ env _ S.ho (S.re.mono e1) (Res.imp (show Res (g env) _ _ from k) (fun d k v H2 e2 r => ?_) fun _ _ x => xw_mono (S.ex.trans e1) x)⟩
    obtain ⟨z, k⟩ := res_lim k
    have hl1 := e2 _ _ hl
    refine ⟨a, xs, v, rfl, rfl, hl1, ?_, ?_⟩
    · rw [rl.length, sizeLine_eq]
      rw [show LN = LN from rfl] at z
      exact Nat.lt_of_lt_of_le (Nat.lt_succ_self _) z
    · refine k σ _ L ow (S.mono fun b u hb => ?_)
      have hne : b ≠ a := fun z => by rw [z, hp] at hb; cases hb
      rw [upd_ne hne]
      exact e2 b u (e1 b u hb)
  | dK _ _ => exact k.elim
  | dT _ _ => exact k.elim
/-- x.clear(), x an own dict -/
theorem vs_dclr (i : Nat) (hi : O.contains i = true) {npos : Pos} (hN : X.N[i]? = some x := by rfl) (hv : Vis X.env.scope x := by first | exact Or.inl rfl | exact Or.inr (Or.inl rfl) | exact Or.inr (Or.inr rfl))
    (hd : (x == ("__debug__" : Str)) = false := by decide) (hcd : (x == ("__classdict__" : Str)) = false := by decide)
    (hbase : attributeBase (.Name x npos) "clear" X.env (eval (.Name x npos) X.env) = eval (.Name x npos) X.env := by rfl) (hline : (apos.endLine == cpos.line) = true := by rfl)
    (hsw : swapsWith (.Call (.Attribute (.Name x npos) "clear" apos) [] [] cpos) none pos'.line X.env = pure false := by rfl) :
    VS1 (M := M) T E O O X (.Expr (.Call (.Attribute (.Name x npos) "clear" apos) [] [] cpos) pos') (fun env => do
      match (← getE env i) with
      | .dict false _ _ => .ok (.nx (env.set i (some (.dict false [] []))))
      | _ => .bad) := by
  refine ⟨_, ps_expr (pe_dclear (pe_var hN hv hd hcd) hbase hline) hsw, fun B L0 H0 L ow H σ env D S h => ?_⟩
  simp only [res_bind] at h
  have hmi : i ∈ ow.map (·.1) := by rw [S.ho]; simpa using hi
  obtain ⟨⟨j, a⟩, hm, rfl⟩ := List.mem_map.mp hmi
  obtain ⟨haL, hσ, d0, hd0, r0⟩ := S.re.own j a hm
  have hg : getE env j = .ok d0 := by unfold getE; rw [hd0]
  refine ⟨_, hσ, ?_⟩
  dsimp only at h
  rw [hg, res_ok] at h
  cases r0 with
  | lst _ _ _ => exact h.elim
  | dT _ _ => exact h.elim
  | @dK kvs vs hl rl =>
    exact ⟨.inr (.inr (.inl ⟨rfl, .inl ⟨kvs, hl⟩⟩)), a, kvs, rfl, rfl, hl, h _ _ L ow (S.chg hm (.dK (kvs := []) upd_same .nil))⟩
end
end VL
set_option Elab.async false
set_option linter.all false
set_option autoImplicit false
/-! VLG: more names for the functions that the rules build. -/
namespace VL
open R
abbrev cM (chk : PV → Bool) (op : PV → PV → R PV) (f g : En → R PV) : En → R PV := fun env => do op (← chkR chk (← f env)) (← g env)
abbrev cOwn (f : En → R PV) : En → R PV := fun env => do ownLD (← f env)
abbrev sTApp (f g : En → R PV) : En → R Fl := fun env => do
  let ds ← ownL (← f env)
  let _ ← g env
  lim (ds.length + 1) (.ok (.nx env))
abbrev sDClr (i : Nat) : En → R Fl := fun env => do
  match (← getE env i) with
  | .dict false _ _ => .ok (.nx (env.set i (some (.dict false [] []))))
  | _ => .bad
end VL
set_option Elab.async false
set_option linter.all false
set_option maxRecDepth 100000
set_option maxHeartbeats 2000000
set_option autoImplicit false
/-! VDQ: two dicts that are equal, compared. -/
namespace VL
open PySem PySem.Spec L2 R
def sameF : PV → PV → Bool
  | .none, .none => true
  | .bool a, .bool b => a == b
  | .int a, .int b => a == b
  | .str a, .str b => a == b
  | _, _ => false
def deqL (ls ws : List PV) : List PV → List PV → Bool
  | k :: ks, v :: vs => (match lookP k ls ws with | some w => sameF v w | none => false) && deqL ls ws ks vs
  | [], [] => true
  | _, _ => false
/-- a != b of two dicts that are equal -/
def neDP (a b : PV) : R PV := match a, b with
  | .dict false ks vs, .dict false ls ws => if (decide (ks.length = ls.length) && deqL ls ws ks vs) = true then .ok (.bool false) else .bad
  | _, _ => .bad
def eqDP (a b : PV) : R PV := match a, b with
  | .dict false ks vs, .dict false ls ws => if (decide (ks.length = ls.length) && deqL ls ws ks vs) = true then .ok (.bool true) else .bad
  | _, _ => .bad
section
variable {T : Tb} {X : Cx}
theorem sameF_rep {Hx : Hp} {d w : PV} {x y : V} (h : sameF d w = true) (r : Rep T Hx x d) (q : Rep T Hx y w) : x = y ∧ flatB x = true := by
  cases d <;> cases w <;> first | (cases h; done) | skip
  · cases r; cases q; exact ⟨rfl, rfl⟩
  · cases r; cases q
    have : _ = _ := eq_of_beq h
    subst this
    exact ⟨rfl, rfl⟩
  · cases r; cases q
    have : _ = _ := eq_of_beq h
    subst this
    exact ⟨rfl, rfl⟩
  · have e : _ = _ := eq_of_beq h
    subst e
    obtain ⟨z1, e1, e2, _⟩ := RepW.str (L := []) (H := Hx) (.st (by rw [hid_nil]; exact r))
    obtain ⟨z2, e3, e4, _⟩ := RepW.str (L := []) (H := Hx) (.st (by rw [hid_nil]; exact q))
    subst e1
    subst e3
    rw [str_of e2, str_of e4]
    exact ⟨rfl, rfl⟩
theorem deq_vals {Hx : Hp} {ls : List (Key × V)} {ws : List PV} (rw' : RepA T Hx (ls.map (·.2)) ws) : ∀ {ks : List (Key × V)} {vs : List PV}, RepA T Hx (ks.map (·.2)) vs → deqL (ls.map fun e => keyP e.1) ws (ks.map fun e => keyP e.1) vs = true →
    ∀ p ∈ ks, valV ls p.1 = some p.2 ∧ flatB p.2 = true
  | [], _, _, _ => fun p hp => (nomatch hp)
  | e :: ks, _, r, h => fun p hp => by
    simp only [List.map_cons] at h r
    cases r with
    | @cons _ _ d ds r1 r2 =>
    
    unfold deqL at h
    rw [Bool.and_eq_true] at h
    rcases List.mem_cons.mp hp with rfl | hp
    · have hk : keyB (keyP p.1) = true := by cases p.1 <;> rfl
      obtain ⟨i1, i2⟩ := look_K ls ws (keyP p.1) hk rw'
      rw [keyOf_P] at i1 i2
      obtain ⟨h1, _⟩ := h
      cases hl : lookP (keyP p.1) (ls.map fun e => keyP e.1) ws with
      | none => rw [hl] at h1; cases h1
      | some w =>
        rw [hl] at h1 i2
        cases hv : valV ls p.1 with
        | none => rw [hv] at i2; cases i2
        | some u =>
          obtain ⟨d', e1, e2⟩ := i1 u hv
          rw [hl] at e1
          cases e1
          obtain ⟨rfl, f⟩ := sameF_rep h1 r1 e2
          exact ⟨rfl, f⟩
    · exact deq_vals rw' r2 h.2 p hp
section
variable {X : Cx}
theorem op_eq_dictR (hu : X.A.units < cLine) : OpR X (compareOp .Eq) (fun x y H Q => ∃ a b ks ls, x = .ref a ∧ y = .ref b ∧ Rd H a (.dK ks) ∧ Rd H b (.dK ls) ∧ ks.length = ls.length ∧ (∀ p ∈ ks, valV ls p.1 = some p.2 ∧ flatB p.2 = true) ∧ Q (.bl true) H) := by
  intro pins s σ H x y v u Q I rx ry h
  obtain ⟨a, b, ks, ls, rfl, rfl, ea, eb, hlen, hp, q⟩ := h
  obtain rfl : v = Value.ref a := rx
  obtain rfl : u = Value.ref b := ry
  obtain ⟨_, ya, va, ra, da⟩ := dk_rd I.hok ea
  obtain ⟨_, yb, vb, rb, db⟩ := dk_rd I.hok eb
  have hl : va.length = vb.length := by rw [← ra.length, ← rb.length]; exact hlen
  exact PySem.W.keq_eq (knd := mixKind X.prog X.w) (r := true) ya yb da db hu (fun _ => hits_all rb ra hp) (fin_bl I q (by simp [hl]))
theorem op_ne_dictR (hu : X.A.units < cLine) : OpR X (compareOp .NotEq) (fun x y H Q => ∃ a b ks ls, x = .ref a ∧ y = .ref b ∧ Rd H a (.dK ks) ∧ Rd H b (.dK ls) ∧ ks.length = ls.length ∧ (∀ p ∈ ks, valV ls p.1 = some p.2 ∧ flatB p.2 = true) ∧ Q (.bl false) H) := by
  intro pins s σ H x y v u Q I rx ry h
  obtain ⟨a, b, ks, ls, rfl, rfl, ea, eb, hlen, hp, q⟩ := h
  obtain rfl : v = Value.ref a := rx
  obtain rfl : u = Value.ref b := ry
  obtain ⟨_, ya, va, ra, da⟩ := dk_rd I.hok ea
  obtain ⟨_, yb, vb, rb, db⟩ := dk_rd I.hok eb
  have hl : va.length = vb.length := by rw [← ra.length, ← rb.length]; exact hlen
  exact PySem.W.keq_ne (knd := mixKind X.prog X.w) (r := true) ya yb da db hu (fun _ => hits_all rb ra hp) (fin_bl I q (by simp [hl]))
end
theorem ov_neD (hu : X.A.units + 64 < cLine) : OpV T X (compareOp .NotEq) neDP := by
  refine ⟨_, op_ne_dictR (by omega), fun L H x y a b Q x' t ra rb q => ?_⟩
  unfold neDP at q
  split at q
  · split at q
    · rename_i hm
      rw [Bool.and_eq_true, decide_eq_true_eq] at hm
      obtain ⟨p1, k1, rfl, h1, r1, rfl⟩ := ra.dictK
      obtain ⟨p2, k2, rfl, h2, r2, rfl⟩ := rb.dictK
      refine ⟨p1, p2, k1, k2, rfl, rfl, h1, h2, by simpa using hm.1, deq_vals r2 r1 hm.2, q _ _ (Evl.Ex.refl H) (.bl _)⟩
    · exact q.elim
  · exact q.elim
theorem ov_eqD (hu : X.A.units + 64 < cLine) : OpV T X (compareOp .Eq) eqDP := by
  refine ⟨_, op_eq_dictR (by omega), fun L H x y a b Q x' t ra rb q => ?_⟩
  unfold eqDP at q
  split at q
  · split at q
    · rename_i hm
      rw [Bool.and_eq_true, decide_eq_true_eq] at hm
      obtain ⟨p1, k1, rfl, h1, r1, rfl⟩ := ra.dictK
      obtain ⟨p2, k2, rfl, h2, r2, rfl⟩ := rb.dictK
      refine ⟨p1, p2, k1, k2, rfl, rfl, h1, h2, by simpa using hm.1, deq_vals r2 r1 hm.2, q _ _ (Evl.Ex.refl H) (.bl _)⟩
    · exact q.elim
  · exact q.elim
end
end VL
set_option Elab.async false
set_option linter.all false
set_option maxRecDepth 100000
set_option maxHeartbeats 2000000
set_option autoImplicit false
/-! VLL: len(set(list)). -/
namespace VL
open PySem PySem.Spec L2 R
def dedI : List Int → List Int
  | [] => []
  | x :: l => if x ∈ l then dedI l else x :: dedI l
theorem mem_dedI {y : Int} : ∀ {l}, y ∈ dedI l ↔ y ∈ l
  | [] => Iff.rfl
  | x :: l => by
    unfold dedI
    have ih := mem_dedI (y := y) (l := l)
    split
    · rename_i h
      rw [ih, List.mem_cons]
      exact ⟨.inr, fun z => z.elim (fun e => by rw [e]; exact h) id⟩
    · rw [List.mem_cons, List.mem_cons, ih]
theorem dedI_nodup : ∀ l, (dedI l).Nodup
  | [] => .nil
  | x :: l => by
    unfold dedI
    split
    · exact dedI_nodup l
    · rename_i h
      exact List.nodup_cons.mpr ⟨fun z => h (mem_dedI.mp z), dedI_nodup l⟩
def lsetP : PV → R PV
  | .list xs => match strsP xs with
    | some l => if l.length + 1 < 4096 then .ok (.int (dedN l).length) else .bad
    | none => match intsP xs with
      | some l => if l.length + 1 < 4096 then .ok (.int (dedI l).length) else .bad
      | none => .bad
  | _ => .bad
section
variable {T : Tb} {E : XK} {O : List Nat} {X : Cx} {a : Expr} {f : En → R PV} {pos p p2 q : Pos}
def tLset (K : PySem.W.Frag) (ta : TE) : TE := fun σ H Q => ta σ H fun x H1 =>
  (∃ (l : Addr) (xs : List Str), x = .ref l ∧ SqL K H1 l (xs.map V.str) ∧ xs.length + 1 < 4096 ∧ Q (.int (VLS.setS xs).length) H1) ∨
  (∃ (l : Addr) (xs : List Int), x = .ref l ∧ SqL K H1 l (xs.map V.int) ∧ xs.length + 1 < 4096 ∧ Q (.int (dedI xs).length) H1)
theorem pe_lset {ta : TE} (hc : X.calm = true) (hg : Gl X "len") (hm : X.mg "len" = none) (hg2 : Gl X "set") (hm2 : X.mg "set" = none) (ha : PE X a ta) (na : starEach [a] X.env = (false, eval a X.env) :: starEach [] X.env := by rfl) :
    PE X (.Call (.Name "len" p) [.Call (.Name "set" p2) [a] [] q] [] pos) (tLset X.K ta) := by
  refine ⟨fun pins s σ H Q I h => ?_⟩
  refine PyProof.Rows.Call_ (ld_blt I hg hm (show bootBuiltins ("len" : PySem.Str) = some (.builtin "len") from by kernel_rfl) ?_); refine PyProof.Rows.callWith_builtin1 (PyProof.Rows.args_cons ?_ rfl) rfl rfl
  refine PyProof.Rows.Call_ (ld_blt I hg2 hm2 (show bootBuiltins ("set" : PySem.Str) = some (.type "set") from by kernel_rfl) ?_); refine PyProof.Rows.callWith_type1 (PyProof.Rows.args_cons (thn (ha.run pins s σ H _ I h) fun v s1 ⟨x, H1, I1, r1, q1⟩ => PyProof.Rows.args_nil ?_) na) na rfl
  rcases q1 with ⟨l, xs, rfl, hq, hb, q1⟩ | ⟨l, xs, rfl, hq, hb, q1⟩
  · cases r1
    obtain ⟨its, r, pl, hz⟩ := I1.list hq
    have hb2 : xs.length + 1 < scanBound := hb
    refine VLS.set_list xs (I1.ok.hd hc) pl.isList (by simpa using strsAre_of r) hb2 fun h' tk hS hk => ?_
    refine PyProof.Rows.args_nil ?_
    have I2 : Inv X pins σ H1 { s1 with heap := h', toks := tk } := I1.kept hk
    obtain ⟨D, ho, tx, hnd, hsz, _⟩ := hS
    have hsz2 : D.1.size < 4096 := hsz
    exact call_len_set ho ⟨rfl, rfl, rfl⟩ rfl tx.fit (by omega) ⟨.int (VLS.setS xs).length, H1, I2.tok _, ⟨_, by rw [tx.sz]⟩, q1⟩
  · cases r1
    obtain ⟨its, r, pl, hz⟩ := I1.list hq
    have hb2 : xs.length + 1 < scanBound := hb
    refine VLS.set_listI xs (I1.ok.hd hc) pl.isList (by simpa using r.ints) hb2 fun h' tk c hS hc' hk => ?_
    refine PyProof.Rows.args_nil ?_
    have I2 : Inv X pins σ H1 { s1 with heap := h', toks := tk } := I1.kept hk
    obtain ⟨o, es, ep, t, ho, hex, hd, _, hnd, hmem, hsz, hf, hn, _⟩ := hS
    have hlen : es.size = (dedI xs).length := by
      have hp : (es.toList.map L2.keyOf).Perm (dedI xs) := (List.perm_ext_iff_of_nodup hnd (dedI_nodup xs)).mpr fun k => by
        rw [← hmem k, mem_dedI, decide_eq_true_eq]
      have := hp.length_eq
      rw [List.length_map, Array.length_toList] at this
      exact this
    have hsz2 : es.size < 4096 := hsz
    exact call_len_set ho hex hd hf (by omega) ⟨.int (dedI xs).length, H1, I2.tok _, ⟨_, by rw [hlen]⟩, q1⟩
theorem setS_len_ded {xs : List Str} {l : List (List Nat)} (e : xs.map VLS.cp = l) : (VLS.setS xs).length = (dedN l).length := by
  have hp : ((VLS.setS xs).map VLS.cp).Perm (dedN l) := by
    refine dedN_perm ?_ fun y => ?_
    · exact List.Pairwise.map _ (fun a b hab h => hab (by
        have q : (a.cps.toList).toArray = (b.cps.toList).toArray := congrArg List.toArray h
        cases a
        cases b
        simpa using q)) (VLS.setS_nodup xs)
    · rw [← e, List.mem_map, List.mem_map]
      exact ⟨fun ⟨z, h1, h2⟩ => ⟨z, VLS.mem_setS.mp h1, h2⟩, fun ⟨z, h1, h2⟩ => ⟨z, VLS.mem_setS.mpr h1, h2⟩⟩
  have := hp.length_eq
  rwa [List.length_map] at this
theorem ve_lset (hc : X.calm = true) (hK : X.K = T.K) (ha : VW T E O X a f) (hm : X.mg "len" = none) (hm2 : X.mg "set" = none) (hg : Gl X "len" := by rfl) (hg2 : Gl X "set" := by rfl) (na : starEach [a] X.env = (false, eval a X.env) :: starEach [] X.env := by rfl) :
    VE T E O X (.Call (.Name "len" p) [.Call (.Name "set" p2) [a] [] q] [] pos) (fun env => do lsetP (← f env)) := by
  obtain ⟨ta, pa, qa⟩ := ha
  refine ⟨_, pe_lset hc hg hm hg2 hm2 pa na, fun L ow H σ env Q ho re hq => ?_⟩
  simp only [res_bind] at hq
  refine qa L ow H σ env _ ho re (hq.imp (fun d k v H1 e1 rv => ?_) fun _ _ x => x)
  rw [hK]
  unfold lsetP at k
  split at k
  · obtain ⟨p, xs, rfl, h1, r1, l1⟩ := rv.list
    split at k
    · rename_i l hl
      obtain ⟨ea, eb, _⟩ := strs_of hl r1
      split at k
      · rename_i hn
        refine .inl ⟨p, l.map (fun y => ⟨y.toArray⟩), rfl, .of (by rw [h1, ea, List.map_map]; rfl), by rw [List.length_map]; exact hn, ?_⟩
        rw [setS_len_ded (l := l) cp_back]
        exact k _ _ e1 (.int _)
      · exact k.elim
    · split at k
      · rename_i l hl
        obtain ⟨ea, _⟩ := ints_of hl r1
        split at k
        · rename_i hn
          exact .inr ⟨p, l, rfl, .of (by rw [h1, ea]), hn, k _ _ e1 (.int _)⟩
        · exact k.elim
      · exact k.elim
  · exact k.elim
end
end VL
set_option Elab.async false
set_option linter.all false
set_option maxRecDepth 100000
set_option maxHeartbeats 2000000
set_option autoImplicit false
/-! VX: a, b = [], x; {k: v}; text[::-1]; f(..).clear(). -/
namespace VL
open PySem PySem.Spec L2 R
section
variable {M : Md} {T : Tb} {E : XK} {O O1 O2 : List Nat} {X : Cx} {a b e o : Expr} {f g f1 f2 : En → R PV} {pos pos' p apos cpos : Pos} {x y : Str}
theorem RepO.trk {L : List Addr} {H : Hp} {p : Addr} {d : PV} (r : RepO T L H p d) : H p ≠ none := by
  cases r with
  | lst h _ _ => rw [h]; exact fun z => nomatch z
  | dK h _ => rw [h]; exact fun z => nomatch z
  | dT h _ => rw [h]; exact fun z => nomatch z
/-- one more address hidden, that was free -/
theorem EnvR.more {L : List Addr} {ow : List (Nat × Addr)} {H H' : Hp} {σ : L2.St} {env : En} {p : Addr} (r : EnvR T L ow H σ env) (e : Ex H H') (hp : H p = none) (ht : H' p ≠ none) : EnvR T (p :: L) ow H' σ env where
  len := r.len
  fr := fun i d h hi => let ⟨v, h1, h2⟩ := r.fr i d h hi; ⟨v, h1, h2.mono (hid_more e hp)⟩
  own := fun i a h => let ⟨h1, h2, d, h3, h4⟩ := r.own i a h; ⟨List.mem_cons_of_mem _ h1, h2, d, h3, h4.more e hp⟩
  trk := fun b hb => by
    rcases List.mem_cons.mp hb with rfl | hb
    · exact ht
    · exact r.trk.mono e b hb
  nd := r.nd
  nd1 := r.nd1
/-- a, b = new, e -/
theorem vs_parF {i j : Nat} {px py pt : Pos} {kt k2 pt2} (hc : X.calm = true) (hN : X.N.Nodup) (ha : VF T E O X a f1) (hb : VE T E O X b f2) (hw : swappedStores [.Tuple [.Name x px, .Name y py] kt pt] (.Tuple [a, b] k2 pt2) X.env = pure (some [x, y])) (hO : dropO (i :: dropO O i) j = O1 := by rfl)
    (hi : X.N[i]? = some x := by rfl) (hj : X.N[j]? = some y := by rfl) (hij : i ≠ j := by decide) (hx : X.env.scope.names.lookup x = some .local := by rfl) (hy : X.env.scope.names.lookup y = some .local := by rfl)
    (he : starEach [a, b] X.env = (false, eval a X.env) :: starEach [b] X.env := by rfl) (he2 : starEach [b] X.env = (false, eval b X.env) :: starEach [] X.env := by rfl)
    (hs : swapsWithSole [.Tuple [.Name x px, .Name y py] kt pt] (.Tuple [a, b] k2 pt2) pos.line X.env = pure false := by rfl) : VS1 (M := M) T E O O1 X (.Assign [.Tuple [.Name x px, .Name y py] kt pt] (.Tuple [a, b] k2 pt2) pos) (fun env => do
    let d1 ← f1 env
    let d2 ← f2 env
    .ok (.nx ((env.set i (some d1)).set j (some d2)))) := by
  subst hO
  obtain ⟨t1, p1, q1⟩ := ha
  obtain ⟨t2, p2, q2⟩ := hb
  refine ⟨_, ps_par hc hN hi hj hij hx hy (pa_cons p1 (pa_cons p2 pa_nil he2) he) hw hs, fun B L0 H0 L ow H σ env D S h => ?_⟩
  simp only [res_bind] at h
  refine q1 L ow H σ env _ S.ho S.re (h.imp (fun d1 k1 q H1 e1 hp r1 => ?_) fun _ _ x => xw_mono S.ex x)
  refine q2 (q :: L) ow H1 σ env _ S.ho (S.re.more e1 hp r1.trk) (k1.imp (fun d2 k2' v2 H2 e2 r2 => ?_) fun _ _ x => xw_mono (S.ex.trans e1) x)
  have S1 := S.own (i := i) (List.getElem?_eq_some_iff.mp hi).1 (e1.trans e2) hp (r1.mono e2)
  exact ⟨.ref q, v2, rfl, k2' _ H2 _ _ (S1.slots (by rw [dropW_map, S1.ho]) (fun p h => (dropW_mem h).1) (by rw [List.length_set]) (S1.re.set r2))⟩
/-- a, b = new, new -/
theorem vs_parFF {i j : Nat} {px py pt : Pos} {kt k2 pt2} (hc : X.calm = true) (hN : X.N.Nodup) (ha : VF T E O X a f1) (hb : VF T E O X b f2) (hw : swappedStores [.Tuple [.Name x px, .Name y py] kt pt] (.Tuple [a, b] k2 pt2) X.env = pure (some [x, y])) (hO : j :: dropO (i :: dropO O i) j = O1 := by rfl)
    (hi : X.N[i]? = some x := by rfl) (hj : X.N[j]? = some y := by rfl) (hij : i ≠ j := by decide) (hx : X.env.scope.names.lookup x = some .local := by rfl) (hy : X.env.scope.names.lookup y = some .local := by rfl)
    (he : starEach [a, b] X.env = (false, eval a X.env) :: starEach [b] X.env := by rfl) (he2 : starEach [b] X.env = (false, eval b X.env) :: starEach [] X.env := by rfl)
    (hs : swapsWithSole [.Tuple [.Name x px, .Name y py] kt pt] (.Tuple [a, b] k2 pt2) pos.line X.env = pure false := by rfl) : VS1 (M := M) T E O O1 X (.Assign [.Tuple [.Name x px, .Name y py] kt pt] (.Tuple [a, b] k2 pt2) pos) (fun env => do
    let d1 ← f1 env
    let d2 ← f2 env
    .ok (.nx ((env.set i (some d1)).set j (some d2)))) := by
  subst hO
  obtain ⟨t1, p1, q1⟩ := ha
  obtain ⟨t2, p2, q2⟩ := hb
  refine ⟨_, ps_par hc hN hi hj hij hx hy (pa_cons p1 (pa_cons p2 pa_nil he2) he) hw hs, fun B L0 H0 L ow H σ env D S h => ?_⟩
  simp only [res_bind] at h
  refine q1 L ow H σ env _ S.ho S.re (h.imp (fun d1 k1 q H1 e1 hp r1 => ?_) fun _ _ x => xw_mono S.ex x)
  refine q2 (q :: L) ow H1 σ env _ S.ho (S.re.more e1 hp r1.trk) (k1.imp (fun d2 k2' v2 H2 e2 hp2 r2 => ?_) fun _ _ x => xw_mono (S.ex.trans e1) x)
  have S1 := S.own (i := i) (List.getElem?_eq_some_iff.mp hi).1 e1 hp r1
  have S2 := S1.own (i := j) (List.getElem?_eq_some_iff.mp hj).1 e2 hp2 r2
  exact ⟨.ref q, .ref v2, rfl, k2' _ H2 _ _ S2⟩
/-- a, b = e, new -/
theorem vs_parVF {i j : Nat} {px py pt : Pos} {kt k2 pt2} (hc : X.calm = true) (hN : X.N.Nodup) (ha : VE T E O X a f1) (hb : VF T E O X b f2) (hw : swappedStores [.Tuple [.Name x px, .Name y py] kt pt] (.Tuple [a, b] k2 pt2) X.env = pure (some [x, y])) (hO : j :: dropO (dropO O i) j = O1 := by rfl)
    (hi : X.N[i]? = some x := by rfl) (hj : X.N[j]? = some y := by rfl) (hij : i ≠ j := by decide) (hx : X.env.scope.names.lookup x = some .local := by rfl) (hy : X.env.scope.names.lookup y = some .local := by rfl)
    (he : starEach [a, b] X.env = (false, eval a X.env) :: starEach [b] X.env := by rfl) (he2 : starEach [b] X.env = (false, eval b X.env) :: starEach [] X.env := by rfl)
    (hs : swapsWithSole [.Tuple [.Name x px, .Name y py] kt pt] (.Tuple [a, b] k2 pt2) pos.line X.env = pure false := by rfl) : VS1 (M := M) T E O O1 X (.Assign [.Tuple [.Name x px, .Name y py] kt pt] (.Tuple [a, b] k2 pt2) pos) (fun env => do
    let d1 ← f1 env
    let d2 ← f2 env
    .ok (.nx ((env.set i (some d1)).set j (some d2)))) := by
  subst hO
  obtain ⟨t1, p1, q1⟩ := ha
  obtain ⟨t2, p2, q2⟩ := hb
  refine ⟨_, ps_par hc hN hi hj hij hx hy (pa_cons p1 (pa_cons p2 pa_nil he2) he) hw hs, fun B L0 H0 L ow H σ env D S h => ?_⟩
  simp only [res_bind] at h
  refine q1 L ow H σ env _ S.ho S.re (h.imp (fun d1 k1 v1 H1 e1 r1 => ?_) fun _ _ x => xw_mono S.ex x)
  have S1 := S.mono e1
  refine q2 L ow H1 σ env _ S.ho S1.re (k1.imp (fun d2 k2' v2 H2 e2 hp2 r2 => ?_) fun _ _ x => xw_mono S1.ex x)
  have S2 := S1.slots (O' := dropO O i) (ow' := dropW ow i) (by rw [dropW_map, S1.ho]) (fun p h => (dropW_mem h).1) (by rw [List.length_set]) (S1.re.set (i := i) r1)
  have S3 := S2.own (i := j) (List.getElem?_eq_some_iff.mp hj).1 e2 hp2 r2
  exact ⟨v1, .ref v2, rfl, k2' _ H2 _ _ S3⟩

/-! ### {k: v, ..} -/
def VDs (T : Tb) (E : XK) (O : List Nat) (X : Cx) (pos : Pos) (keys : List (Option Expr)) (values : List Expr) (f : En → R (List (PV × PV))) : Prop := ∃ trs, PPs X pos keys values trs ∧ ∀ L ow H σ env Q, ow.map (·.1) = O → EnvR T L ow H σ env →
  Res (f env) (fun ds => ∀ ps H', Ex H H' → Paired (fun (p : V × V) (d : PV × PV) => Rep T (hid H' L) p.1 d.1 ∧ Rep T (hid H' L) p.2 d.2) ps ds → Q ps H') (xw T E H) → tPairs trs σ H Q
theorem vds_nil : VDs T E O X pos [] [] (fun _ => .ok []) := ⟨_, pps_nil, fun L ow H σ env Q ho re hq => hq [] H (Evl.Ex.refl H) .nil⟩
theorem paired_mono {L : List Addr} {H H' : Hp} (e : Ex H H') : ∀ {ps : List (V × V)} {ds : List (PV × PV)}, Paired (fun (p : V × V) (d : PV × PV) => Rep T (hid H L) p.1 d.1 ∧ Rep T (hid H L) p.2 d.2) ps ds → Paired (fun (p : V × V) (d : PV × PV) => Rep T (hid H' L) p.1 d.1 ∧ Rep T (hid H' L) p.2 d.2) ps ds
  | _, _, .nil => .nil
  | _, _, .cons h t => .cons ⟨h.1.mono (hid_ex e), h.2.mono (hid_ex e)⟩ (paired_mono e t)
theorem vds_cons {ks : List (Option Expr)} {vs : List Expr} {fs : En → R (List (PV × PV))} (hk : VE T E O X a f) (hv : VE T E O X b g) (hr : VDs T E O X pos ks vs fs) : VDs T E O X pos (some a :: ks) (b :: vs) (fun env => do
    let k ← f env
    let v ← g env
    let l ← fs env
    .ok ((k, v) :: l)) := by
  obtain ⟨tk, pk, qk⟩ := hk
  obtain ⟨tv, pv, qv⟩ := hv
  obtain ⟨tr, pr, qr⟩ := hr
  refine ⟨_, pps_cons pk pv pr, fun L ow H σ env Q ho re hq => ?_⟩
  simp only [res_bind] at hq
  refine qk L ow H σ env _ ho re (hq.imp (fun d1 k1 v1 H1 e1 r1 => ?_) fun _ _ x => x)
  refine qv L ow H1 σ env _ ho (re.mono e1) (k1.imp (fun d2 k2 v2 H2 e2 r2 => ?_) fun _ _ x => xw_mono e1 x)
  refine qr L ow H2 σ env _ ho (re.mono (e1.trans e2)) (k2.imp (fun ds k3 ps H3 e3 r3 => ?_) fun _ _ x => xw_mono (e1.trans e2) x)
  exact k3 _ H3 ((e1.trans e2).trans e3) (.cons ⟨r1.mono (hid_ex (e2.trans e3)), r2.mono (hid_ex e3)⟩ r3)
def dispL : List (PV × PV) → PV → R PV
  | [], acc => .ok acc
  | (k, v) :: r, acc => do dispL r (← putP acc k v)
theorem disp_rep {Hx : Hp} {W : PV → Prop} {x' : Nat → PV → Prop} : ∀ {ds : List (PV × PV)} {ps : List (V × V)} {kvs0 : List (Key × V)} {vs0 : List PV}, Paired (fun (p : V × V) (d : PV × PV) => Rep T Hx p.1 d.1 ∧ Rep T Hx p.2 d.2) ps ds → RepA T Hx (kvs0.map (·.2)) vs0 →
    Res (dispL ds (.dict false (kvs0.map fun e => keyP e.1) vs0)) W x' →
    ∃ (kvs : List (Key × V)), ps = kvs.map (fun kv => (kV kv.1, kv.2)) ∧ ∃ vs', RepA T Hx ((mergeK kvs0 kvs).map (·.2)) vs' ∧ W (.dict false ((mergeK kvs0 kvs).map fun e => keyP e.1) vs')
  | [], _, kvs0, vs0, .nil, r0, h => ⟨[], rfl, vs0, r0, h⟩
  | (k, dv) :: ds, _, kvs0, vs0, .cons (a := pr) (l₁ := ps) r rs, r0, h => by
    unfold dispL at h
    rw [res_bind] at h
    unfold putP at h
    dsimp only at h
    split at h
    · rename_i hk
      obtain ⟨z, h⟩ := res_lim h
      have hb : keyB k = true := by cases k <;> simp_all [dkOk, keyB]
      obtain ⟨w1, w2⟩ := pr
      obtain ⟨r1, r2⟩ := r
      have ek : w1 = kV (keyOf k) := RepW.key (L := []) (H := Hx) (.st (by rw [hid_nil]; exact r1)) hb
      subst ek
      obtain ⟨q1, q2⟩ := put_rep keyP (keyOf k) k (fun z => eqB_key z k hb) kvs0 vs0 w2 dv (keyP_of hb) r0 r2
      have h2 : Res (dispL ds (.dict false ((putK kvs0 (keyOf k) w2).map fun e => keyP e.1) (if ((kvs0.map fun e => keyP e.1).any fun z => eqB z k) = true then putVs k dv (kvs0.map fun e => keyP e.1) vs0 else vs0 ++ [dv]))) W x' := by
        rw [q2]
        split at h
        · rename_i hin
          rw [if_pos hin, if_pos hin]
          exact h
        · rename_i hin
          rw [if_neg hin, if_neg hin]
          exact h
      obtain ⟨kvs, e1, vs', e3, e4⟩ := disp_rep rs q1 h2
      subst e1
      exact ⟨(keyOf k, w2) :: kvs, rfl, vs', e3, e4⟩
    · exact h.elim
theorem paired_len {α β : Type} {P : α → β → Prop} : ∀ {l : List α} {m : List β}, Paired P l m → l.length = m.length
  | _, _, .nil => rfl
  | _, _, .cons _ t => by simp [paired_len t]
theorem vf_disp {keys : List (Option Expr)} {values : List Expr} {fs : En → R (List (PV × PV))} (hd : VDs T E O X pos keys values fs) (hall : keys.all (·.isSome) = true := by rfl) (hl : keys.length = values.length := by rfl) (h0 : keys ≠ [] := by simp) (h15 : keys.length ≤ 15 := by decide) :
    VF T E O X (.Dict keys values pos) (fun env => do
      let ds ← fs env
      if ds.length ≤ 15 then dispL ds (.dict false [] []) else .bad) := by
  obtain ⟨trs, pp, qq⟩ := hd
  refine ⟨_, pe_disp pp hall hl h0 h15, fun L ow H σ env Q ho re hq p hp => ?_⟩
  simp only [res_bind] at hq
  have eu := ex_upd (o := .dK []) hp
  refine qq (p :: L) ow (upd H p (.dK [])) σ env _ ho (re.more eu hp (by rw [upd_same]; exact fun z => nomatch z)) (hq.imp (fun ds k ps H2 e2 r2 => ?_) fun _ _ x => xw_mono eu x)
  split at k
  · rename_i hlen
    obtain ⟨kvs, e1, vs', e3, e4⟩ := disp_rep (kvs0 := []) r2 .nil k
    have h2p : H2 p = some (.dK []) := e2 _ _ upd_same
    refine ⟨h2p, kvs, e1, ?_, ?_⟩
    · have := paired_len r2
      rw [e1, List.length_map] at this
      omega
    · have he : Ex H (upd H2 p (.dK (mergeK [] kvs))) := fun b u hb => by
        have hne : b ≠ p := fun z => by rw [z, hp] at hb; cases hb
        rw [upd_ne hne]
        exact e2 b u (eu b u hb)
      refine e4 p _ he hp (.dK upd_same ?_)
      rw [hid_upd List.mem_cons_self]
      exact e3
  · exact k.elim

/-! ### text[::-1] -/
def revP : PV → R PV
  | .str s => .ok (.str s.reverse)
  | _ => .bad
def tRevS (te : TE) : TE := fun σ H Q => te σ H fun x H1 => ∃ z : Str, x = .str z ∧ z.length ≤ sizeLine ∧ Q (.str ⟨z.cps.toList.reverse.toArray⟩) H1
theorem rev_pick (l : List Nat) : (List.range l.length).map (fun k => (⟨l⟩ : Array Nat).getD (l.length - 1 - k) 0) = l.reverse := by
  refine List.ext_getElem (by simp) fun i h1 h2 => ?_
  rw [List.length_map, List.length_range] at h1
  rw [List.getElem_map, List.getElem_range, List.getElem_reverse]
  have hlt : l.length - 1 - i < l.length := by omega
  simp [Array.getD, hlt]
theorem pe_revS {te : TE} {k : Nat} {p1 p2 p3 : Pos} (he : PE X e te) : PE X (.Subscript e (.Slice none none (some (.UnaryOp .USub (.Constant (.int 1) k p1) p2)) p3) pos) (tRevS te) := by
  refine ⟨fun pins s σ H Q I h => ?_⟩
  refine PyProof.Rows.Subscript_ (thn (he.run pins s σ H _ I h) fun v s1 ⟨x, H1, I1, r1, q1⟩ => ?_)
  obtain ⟨z, ex, hz, q⟩ := q1
  subst ex
  obtain ⟨t, rfl⟩ := r1
  have hst : PO X (some (.UnaryOp .USub (.Constant (.int 1) k p1) p2)) (tPart (tUn (rU fun i => .int (-i)) (tC (.int 1)))) := po_some (pe_un un_neg pe_int)
  refine wpAny_Slice (thn (po_none.run pins s1 σ H1 (fun o H2 => o = none ∧ H2 = H1) I1 ⟨rfl, rfl⟩) fun vl s2 ⟨l, H2, I2, pl, el, e2⟩ => ?_)
  subst el e2
  refine thn (po_none.run pins s2 σ H2 (fun o H3 => o = none ∧ H3 = H2) I2 ⟨rfl, rfl⟩) fun vu s3 ⟨u, H3, I3, pu, eu, e3⟩ => ?_
  subst eu e3
  refine thn (hst.run pins s3 σ H3 (fun o H4 => o = some (-1) ∧ H4 = H3) I3 ⟨1, rfl, -1, rfl, rfl, rfl⟩) fun vs s4 ⟨o, H4, I4, ps, eo, e4⟩ => ?_
  subst eo e4
  have I5 : Inv X pins σ H4 { s4 with heap := s4.heap.push { cls := .type "slice", data := .fields #[vl, vu, vs] } } := I4.kept (t' := s4.toks) fun b ob q => Heap.get?_push_of_some _ q
  have hty : ({ s4 with heap := s4.heap.push { cls := .type "slice", data := .fields #[vl, vu, vs] } } : Shared).TypeIs (.str z t) "str" := typeIs_str _ z t
  show wpAny (model X.prog X.w) X.A (PyProof.Rows.subscriptTail e (.Slice none none (some (.UnaryOp .USub (.Constant (.int 1) k p1) p2)) p3) (.str z t) (.ref s4.heap.objs.size)) (EP X pins σ Q) X.xe { s4 with heap := s4.heap.push { cls := .type "slice", data := .fields #[vl, vu, vs] } }
  refine PyProof.Rows.tail_any (ops := [.str z t, .ref s4.heap.objs.size]) hty F.slot_str_getitem.lookup ?_ (by with_unfolding_all rfl)
  obtain ⟨l', rfl, el⟩ := IsPart.raw pl
  obtain ⟨u', rfl, eu⟩ := IsPart.raw pu
  obtain ⟨k', rfl, ek⟩ := IsPart.raw ps
  cases l' with
  | some _ => cases el
  | none =>
    cases u' with
    | some _ => cases eu
    | none =>
      cases k' with
      | none => cases ek
      | some kt =>
        obtain ⟨kk, tt⟩ := kt
        cases ek
        refine wpAny_getItem_str_slice (l := none) (u := none) (st := some (-1, tt)) ⟨_, Heap.get?_push_size _ rfl, rfl, rfl⟩ (by rfl) ?_
        have e : sliceMade z t none none (some (-1, tt)) = .str ⟨((Builtin.Str.strSliceIndices none none (-1) z.length).filterMap (z.cps[·]?)).toArray⟩ := by
          unfold sliceMade
          rw [if_neg (by
            have : ((((some ((-1 : Int), tt)).map (·.1)).getD 1 == 1)) = false := rfl
            rw [this]
            simp)]
          rfl
        rw [e]
        have e2 : ((Builtin.Str.strSliceIndices none none (-1) z.length).filterMap (z.cps[·]?)).toArray = z.cps.toList.reverse.toArray := by
          congr 1
          rw [PyProof.Rows.picked_rev, PyProof.Rows.filterMap_get, List.map_map]
          · obtain ⟨⟨l⟩⟩ := z
            exact rev_pick l
          · intro i hi
            obtain ⟨k, hk, rfl⟩ := List.mem_map.mp hi
            have hk' : k < z.length := List.mem_range.mp hk
            show z.length - 1 - k < z.length
            omega
        rw [e2]
        exact ⟨by
          show z.cps.toList.reverse.toArray.size ≤ sizeLine
          rw [List.size_toArray, List.length_reverse, Array.length_toList]
          exact hz, .str _, H4, I5.tok _, ⟨_, rfl⟩, q⟩
theorem ve_revS {k : Nat} {p1 p2 p3 : Pos} (ha : VW T E O X e f) : VE T E O X (.Subscript e (.Slice none none (some (.UnaryOp .USub (.Constant (.int 1) k p1) p2)) p3) pos) (fun env => do revP (← f env)) := by
  obtain ⟨t, p, q⟩ := ha
  refine ⟨_, pe_revS p, fun L ow H σ env Q ho re hq => ?_⟩
  simp only [res_bind] at hq
  refine q L ow H σ env _ ho re (hq.imp (fun d k v H1 e1 rv => ?_) fun _ _ x => x)
  unfold revP at k
  split at k
  · obtain ⟨z, rfl, ez, l1, s1⟩ := rv.str
    subst ez
    refine ⟨z, rfl, l1, k _ _ e1 ?_⟩
    have r := Rep.str (T := T) (H := hid H1 L) (⟨z.cps.toList.reverse.toArray⟩ : Str) (by
      show z.cps.toList.reverse.toArray.size ≤ sizeLine
      rw [List.size_toArray, List.length_reverse, Array.length_toList]
      exact l1) (by
      show sok z.cps.toList.reverse = true
      unfold sok at s1 ⊢
      rw [List.all_reverse]
      exact s1)
    exact r
  · exact k.elim
/-- f(..).clear() of a dict -/
theorem vs_tclr (ha : VF T E O X o f) (hbase : attributeBase o "clear" X.env (eval o X.env) = eval o X.env := by rfl) (hline : (apos.endLine == cpos.line) = true := by rfl)
    (hsw : swapsWith (.Call (.Attribute o "clear" apos) [] [] cpos) none pos'.line X.env = pure false := by rfl) :
    VS1 (M := M) T E O O X (.Expr (.Call (.Attribute o "clear" apos) [] [] cpos) pos') (fun env => do
      match (← f env) with
      | .dict false _ _ => .ok (.nx env)
      | _ => .bad) := by
  obtain ⟨t, p, q⟩ := ha
  refine ⟨_, ps_expr (pe_dclear p hbase hline) hsw, fun B L0 H0 L ow H σ env D S h => ?_⟩
  simp only [res_bind] at h
  refine q L ow H σ env _ S.ho S.re (h.imp (fun d k a H1 e1 hp r => ?_) fun _ _ x => xw_mono S.ex x)
  cases r with
  | lst _ _ _ => exact k.elim
  | dT _ _ => exact k.elim
  | @dK kvs vs hl rl =>
    refine ⟨.inr (.inr (.inl ⟨rfl, .inl ⟨kvs, hl⟩⟩)), a, kvs, rfl, rfl, hl, k σ _ L ow (S.mono fun b u hb => ?_)⟩
    have hne : b ≠ a := fun z => by rw [z, hp] at hb; cases hb
    rw [upd_ne hne]
    exact e1 b u hb
end
abbrev cLset (f : En → R PV) : En → R PV := fun env => do lsetP (← f env)
abbrev cDisp (fs : En → R (List (PV × PV))) : En → R PV := fun env => do
  let ds ← fs env
  if ds.length ≤ 15 then dispL ds (.dict false [] []) else .bad
abbrev dN : En → R (List (PV × PV)) := fun _ => .ok []
abbrev dC (f g : En → R PV) (fs : En → R (List (PV × PV))) : En → R (List (PV × PV)) := fun env => do
  let k ← f env
  let v ← g env
  let l ← fs env
  .ok ((k, v) :: l)
abbrev sTClr (f : En → R PV) : En → R Fl := fun env => do
  match (← f env) with
  | .dict false _ _ => .ok (.nx env)
  | _ => .bad
end VL
set_option Elab.async false
set_option linter.all false
set_option maxRecDepth 100000
set_option maxHeartbeats 2000000
set_option autoImplicit false
/-! VX2: a, b = new, e where a or b is a cell. -/
namespace VL
open PySem PySem.Spec L2 R
section
variable {M : Md} {T : Tb} {E : XK} {O O1 O2 : List Nat} {X : Cx} {a b e o : Expr} {f g f1 f2 : En → R PV} {pos pos' p apos cpos : Pos} {x y : Str}
theorem vs_asgFF {i j : Nat} {px py pt : Pos} {kt k2 pt2} (hc : X.calm = true) (hN : X.N.Nodup) (ha : VF T E O X a f1) (hb : VF T E O X b f2) (hO : j :: dropO (i :: dropO O i) j = O1 := by rfl)
    (hi : X.N[i]? = some x := by rfl) (hj : X.N[j]? = some y := by rfl) (hx : Loc X.env.scope x := by first | exact Or.inl rfl | exact Or.inr rfl) (hy : Loc X.env.scope y := by first | exact Or.inl rfl | exact Or.inr rfl)
    (hf : X.fn x = true ∨ X.env.scope.names.lookup x = some .local := by first | exact .inl rfl | exact .inr rfl | assumption) (hf2 : X.fn y = true ∨ X.env.scope.names.lookup y = some .local := by first | exact .inl rfl | exact .inr rfl | assumption)
    (he : starEach [a, b] X.env = (false, eval a X.env) :: starEach [b] X.env := by rfl) (he2 : starEach [b] X.env = (false, eval b X.env) :: starEach [] X.env := by rfl)
    (hn : (assignEach [.Name x px, .Name y py] X.env).length = 2 := by rfl) (hst : (assignEach [.Name x px, .Name y py] X.env).findIdx? (·.1) = none := by rfl)
    (hg1 : (assignEach [.Name x px, .Name y py] X.env).map (·.2) = assign (.Name x px) X.env :: (assignEach [.Name y py] X.env).map (·.2) := by rfl) (hg2 : (assignEach [.Name y py] X.env).map (·.2) = assign (.Name y py) X.env :: (assignEach [] X.env).map (·.2) := by rfl)
    (hs : swapsWithSole [.Tuple [.Name x px, .Name y py] kt pt] (.Tuple [a, b] k2 pt2) pos.line X.env = pure false := by rfl) (hw : swappedStores [.Tuple [.Name x px, .Name y py] kt pt] (.Tuple [a, b] k2 pt2) X.env = pure none := by rfl)
    (h1 : (assignEach [.Tuple [.Name x px, .Name y py] kt pt] X.env).map (·.2) = [assign (.Tuple [.Name x px, .Name y py] kt pt) X.env] := by rfl) : VS1 (M := M) T E O O1 X (.Assign [.Tuple [.Name x px, .Name y py] kt pt] (.Tuple [a, b] k2 pt2) pos) (fun env => do
    let d1 ← f1 env
    let d2 ← f2 env
    .ok (.nx ((env.set i (some d1)).set j (some d2)))) := by
  subst hO
  obtain ⟨t1, p1, q1⟩ := ha
  obtain ⟨t2, p2, q2⟩ := hb
  refine ⟨_, ps_asg (pe_tup (pa_cons p1 (pa_cons p2 pa_nil he2) he)) (pg_tup hc (pgs_cons (pg_name hN hi hx hf) (pgs_cons (pg_name hN hj hy hf2) pgs_nil hg2) hg1) hn hst) hs hw h1, fun B L0 H0 L ow H σ env D S h => ?_⟩
  simp only [res_bind] at h
  refine q1 L ow H σ env _ S.ho S.re (h.imp (fun d1 k1 q H1 e1 hp r1 => ?_) fun _ _ x => xw_mono S.ex x)
  refine q2 (q :: L) ow H1 σ env _ S.ho (S.re.more e1 hp r1.trk) (k1.imp (fun d2 k2' v2 H2 e2 hp2 r2 => ?_) fun _ _ x => xw_mono (S.ex.trans e1) x)
  have S1 := S.own (i := i) (List.getElem?_eq_some_iff.mp hi).1 e1 hp r1
  have S2 := S1.own (i := j) (List.getElem?_eq_some_iff.mp hj).1 e2 hp2 r2
  refine ⟨by show 2 ≤ sizeLine; decide, fun pt hpt => ⟨pt, _, rfl, SqT.of upd_same, rfl, ?_⟩⟩
  exact ⟨_, _, rfl, _, _, rfl, rfl, k2' _ _ _ _ (S2.mono (ex_upd hpt))⟩
theorem vs_asgF {i j : Nat} {px py pt : Pos} {kt k2 pt2} (hc : X.calm = true) (hN : X.N.Nodup) (ha : VF T E O X a f1) (hb : VE T E O X b f2) (hO : dropO (i :: dropO O i) j = O1 := by rfl)
    (hi : X.N[i]? = some x := by rfl) (hj : X.N[j]? = some y := by rfl) (hx : Loc X.env.scope x := by first | exact Or.inl rfl | exact Or.inr rfl) (hy : Loc X.env.scope y := by first | exact Or.inl rfl | exact Or.inr rfl)
    (hf : X.fn x = true ∨ X.env.scope.names.lookup x = some .local := by first | exact .inl rfl | exact .inr rfl | assumption) (hf2 : X.fn y = true ∨ X.env.scope.names.lookup y = some .local := by first | exact .inl rfl | exact .inr rfl | assumption)
    (he : starEach [a, b] X.env = (false, eval a X.env) :: starEach [b] X.env := by rfl) (he2 : starEach [b] X.env = (false, eval b X.env) :: starEach [] X.env := by rfl)
    (hn : (assignEach [.Name x px, .Name y py] X.env).length = 2 := by rfl) (hst : (assignEach [.Name x px, .Name y py] X.env).findIdx? (·.1) = none := by rfl)
    (hg1 : (assignEach [.Name x px, .Name y py] X.env).map (·.2) = assign (.Name x px) X.env :: (assignEach [.Name y py] X.env).map (·.2) := by rfl) (hg2 : (assignEach [.Name y py] X.env).map (·.2) = assign (.Name y py) X.env :: (assignEach [] X.env).map (·.2) := by rfl)
    (hs : swapsWithSole [.Tuple [.Name x px, .Name y py] kt pt] (.Tuple [a, b] k2 pt2) pos.line X.env = pure false := by rfl) (hw : swappedStores [.Tuple [.Name x px, .Name y py] kt pt] (.Tuple [a, b] k2 pt2) X.env = pure none := by rfl)
    (h1 : (assignEach [.Tuple [.Name x px, .Name y py] kt pt] X.env).map (·.2) = [assign (.Tuple [.Name x px, .Name y py] kt pt) X.env] := by rfl) : VS1 (M := M) T E O O1 X (.Assign [.Tuple [.Name x px, .Name y py] kt pt] (.Tuple [a, b] k2 pt2) pos) (fun env => do
    let d1 ← f1 env
    let d2 ← f2 env
    .ok (.nx ((env.set i (some d1)).set j (some d2)))) := by
  subst hO
  obtain ⟨t1, p1, q1⟩ := ha
  obtain ⟨t2, p2, q2⟩ := hb
  refine ⟨_, ps_asg (pe_tup (pa_cons p1 (pa_cons p2 pa_nil he2) he)) (pg_tup hc (pgs_cons (pg_name hN hi hx hf) (pgs_cons (pg_name hN hj hy hf2) pgs_nil hg2) hg1) hn hst) hs hw h1, fun B L0 H0 L ow H σ env D S h => ?_⟩
  simp only [res_bind] at h
  refine q1 L ow H σ env _ S.ho S.re (h.imp (fun d1 k1 q H1 e1 hp r1 => ?_) fun _ _ x => xw_mono S.ex x)
  refine q2 (q :: L) ow H1 σ env _ S.ho (S.re.more e1 hp r1.trk) (k1.imp (fun d2 k2' v2 H2 e2 r2 => ?_) fun _ _ x => xw_mono (S.ex.trans e1) x)
  have S1 := S.own (i := i) (List.getElem?_eq_some_iff.mp hi).1 (e1.trans e2) hp (r1.mono e2)
  have S2 := S1.slots (O' := dropO (i :: dropO O i) j) (by rw [dropW_map, S1.ho]) (fun p h => (dropW_mem h).1) (by rw [List.length_set]) (S1.re.set (i := j) r2)
  refine ⟨by show 2 ≤ sizeLine; decide, fun pt hpt => ⟨pt, _, rfl, SqT.of upd_same, rfl, ?_⟩⟩
  exact ⟨_, _, rfl, _, _, rfl, rfl, k2' _ _ _ _ (S2.mono (ex_upd hpt))⟩
end
end VL
set_option Elab.async false
set_option linter.all false
set_option maxRecDepth 100000
set_option maxHeartbeats 2000000
set_option autoImplicit false
/-! VC2: comprehensions of two clauses. -/
namespace VL
open PySem PySem.Spec L2 R
section
variable {J J1 : It} {n n1 : Nat} {G G1 : Hp → Prop} {Y Y1 : Nat → Hp → V → Hp → Prop}
/-- a loop over a source within a frame: what the outer clause wants -/
theorem lcO_it (w : Walk J n G Y) {g : TG} {vs : List Nat} {σ : L2.St} {H1 : Hp} {Z : Nat → (Hp → Prop) → L2.St → Hp → Prop} {Qd : Hp → Prop} (Pv : Nat → Hp → Prop) (h0 : Pv 0 H1) (hG : ∀ i H, i ≤ n → Pv i H → G H)
    (hs : ∀ i x H H', i < n → Pv i H → Y i H x H' → g x (wipe σ vs) H' fun σ2 H2 => wipe σ2 vs = wipe σ vs ∧ Z i (Pv (i + 1)) σ2 H2) (hd : ∀ H, Pv n H → Qd H) :
    ∃ W : Nat → Nat → Hp → Prop, (∃ m, W 0 m H1) ∧ ∀ i m H, W i m H →
      (J.stop i H ∧ Qd H) ∨ (J.go i H ∧ ∃ Nx : Hp → Prop, (∀ H', Nx H' → ∃ m', m' < m ∧ W (i + 1) m' H') ∧ ∀ x H', J.yld i H x H' → g x (wipe σ vs) H' fun σ2 H2 => wipe σ2 vs = wipe σ vs ∧ Z i Nx σ2 H2) := by
  refine ⟨fun i m H => m = n - i ∧ i ≤ n ∧ Pv i H, ⟨n, by simp, Nat.zero_le _, h0⟩, ?_⟩
  rintro i m H ⟨rfl, hi, p⟩
  have q := hG i H hi p
  by_cases hlt : i < n
  · exact .inr ⟨w.goes i H hlt q, Pv (i + 1), fun H' p' => ⟨n - (i + 1), by omega, rfl, hlt, p'⟩, fun x H' y => hs i x H H' hlt p (w.yields i H x H' hlt q y)⟩
  · have e : i = n := by omega
    subst e
    exact .inl ⟨w.stops H q, hd H p⟩
end
section
variable {M : Md} {T : Tb} {E : XK} {O O1 O2 : List Nat} {X : Cx} {scope : Scope} {tg tg1 a b c e it it1 elt : Expr} {es ifs ifs1 : List Expr} {f g h : En → R PV} {fi fi1 : En → R (List PV)} {ft ft1 : En → R Bool} {pos pos' p : Pos} {x : Str}
theorem uniI (h : ∀ b, VI T EF O (blkX X scope b) tg it fi) : ∃ wi, (∀ b, PI (blkX X scope b) tg it wi) ∧ ∀ L ow H σ env R, ow.map (·.1) = O → EnvR T L ow H σ env → Res (fi env) (fun items => ∀ J H', Ex H H' → Iters T (hid H' L) J items → R J H') (xw T EF H) → wi σ H R := by
  refine ⟨fun σ H R => ∀ b, (h b).choose σ H R, fun b => ⟨fun pins s σ H R I q => (h b).choose_spec.1.run pins s σ H R I (q b)⟩, fun L ow H σ env R ho re hq b => (h b).choose_spec.2 L ow H σ env R ho re hq⟩
/-- fewer slots known -/
theorem EnvR.wiped {L : List Addr} {ow : List (Nat × Addr)} {H : Hp} {σ : L2.St} {env : En} (re : EnvR T L ow H σ env) (vs : List Nat) : EnvR T L (ow.filter fun p => !vs.contains p.1) H (wipe σ vs) (wipeE env vs) where
  len := by rw [(wipeS σ vs).1, (wipeV env vs).1, re.len]
  fr := fun i d h hi => by
    rw [(wipeV env vs).2] at h
    rw [(wipeS σ vs).2]
    by_cases hv : i ∈ vs
    · rw [if_pos hv] at h
      split at h <;> cases h
    · rw [if_neg hv] at h
      rw [if_neg hv]
      exact re.fr i d h fun hm => hi (by
        rw [blkW_map]
        unfold blkO
        exact List.mem_filter.mpr ⟨hm, by simpa using hv⟩)
  own := fun i p hp => by
    obtain ⟨h1, h2⟩ := List.mem_filter.mp hp
    have hv : i ∉ vs := by simpa using h2
    obtain ⟨q1, q2, d, q3, q4⟩ := re.own i p h1
    refine ⟨q1, ?_, d, ?_, q4⟩
    · rw [(wipeS σ vs).2, if_neg hv]
      exact q2
    · rw [(wipeV env vs).2, if_neg hv]
      exact q3
  trk := re.trk
  nd := List.Nodup.sublist (List.Sublist.map _ List.filter_sublist) re.nd
  nd1 := List.Nodup.sublist (List.Sublist.map _ List.filter_sublist) re.nd1
/-- something hidden that is no own object is changed -/
theorem EnvR.updD {L : List Addr} {ow : List (Nat × Addr)} {H : Hp} {σ : L2.St} {env : En} {D : Addr} {o : HO} (re : EnvR T L ow H σ env) (hD : D ∈ L) (hn : ∀ p ∈ ow, p.2 ≠ D) : EnvR T L ow (upd H D o) σ env where
  len := re.len
  fr := fun i d h hi => let ⟨v, h1, h2⟩ := re.fr i d h hi; ⟨v, h1, by rw [hid_upd hD]; exact h2⟩
  own := fun i a h => by
    obtain ⟨q1, q2, d, q3, q4⟩ := re.own i a h
    have hne : a ≠ D := hn (i, a) h
    refine ⟨q1, q2, d, q3, ?_⟩
    cases q4 with
    | lst h1 r z => exact .lst (by rw [upd_ne hne]; exact h1) (by rw [hid_upd hD]; exact r) z
    | dK h1 r => exact .dK (by rw [upd_ne hne]; exact h1) (by rw [hid_upd hD]; exact r)
    | dT h1 r => exact .dT (by rw [upd_ne hne]; exact h1) (by rw [hid_upd hD]; exact r)
  trk := fun b hb => by
    by_cases e : b = D
    · rw [e, upd_same]
      exact fun z => nomatch z
    · rw [upd_ne e]
      exact re.trk b hb
  nd := re.nd
  nd1 := re.nd1
theorem upd_upd {H : Hp} {D : Addr} {o o' : HO} (h : H D = some o') : upd (upd H D o) D o' = H := by
  funext b
  by_cases e : b = D
  · rw [e, upd_same, h]
  · rw [upd_ne e, upd_ne e]
theorem ex_updD {H H' : Hp} {D : Addr} {o : HO} (e : Ex H H') : Ex (upd H D o) (upd H' D o) := fun b u hb => by
  by_cases eb : b = D
  · rw [eb, upd_same] at hb ⊢
    exact hb
  · rw [upd_ne eb] at hb ⊢
    exact e b u hb
def itemF2 (fg : PV → En → R En) (ft : En → R Bool) (fi1 : En → R (List PV)) (fg1 : PV → En → R En) (ft1 : En → R Bool) (f : En → R PV) (vs1 : List Nat) (env : En) (d : PV) : R (List PV) := do
  let env1 ← fg d env
  if (← ft env1) = true then do
    let items1 ← fi1 env1
    compE (itemF fg1 ft1 f (wipeE env1 vs1)) items1
  else .ok []
def catE (item : PV → R (List PV)) : List PV → R (List PV)
  | [] => .ok []
  | x :: xs => match item x with
    | .ok o => (do
      let l ← catE item xs
      .ok (o ++ l))
    | _ => .bad
theorem catE_noexc {item : PV → R (List PV)} : ∀ {xs : List PV} {c : Nat} {d : PV}, catE item xs ≠ .exc c d
  | [], _, _ => fun h => (nomatch h)
  | x :: xs, c, d => fun h => by
    unfold catE at h
    cases e : item x with
    | ok o =>
      rw [e] at h
      dsimp only at h
      cases e2 : catE item xs with
      | ok l => rw [e2] at h; cases h
      | exc c' d' => exact catE_noexc e2
      | bad => rw [e2] at h; cases h
    | exc _ _ => rw [e] at h; cases h
    | bad => rw [e] at h; cases h
theorem catE_cons {item : PV → R (List PV)} {x : PV} {xs l : List PV} (h : catE item (x :: xs) = .ok l) : ∃ o r, item x = .ok o ∧ catE item xs = .ok r ∧ l = o ++ r := by
  unfold catE at h
  cases e : item x with
  | ok o =>
    rw [e] at h
    dsimp only at h
    cases e2 : catE item xs with
    | ok r =>
      rw [e2] at h
      cases h
      exact ⟨o, r, rfl, rfl, rfl⟩
    | exc _ _ => rw [e2] at h; cases h
    | bad => rw [e2] at h; cases h
  | exc _ _ => rw [e] at h; cases h
  | bad => rw [e] at h; cases h
theorem compE_cons {item : PV → R (Option PV)} {x : PV} {xs l : List PV} (h : compE item (x :: xs) = .ok l) : ∃ o r, item x = .ok o ∧ compE item xs = .ok r ∧ l = o.toList ++ r := by
  unfold compE at h
  cases e : item x with
  | ok o =>
    rw [e] at h
    dsimp only at h
    cases e2 : compE item xs with
    | ok r =>
      rw [e2] at h
      cases o with
      | some d => cases h; exact ⟨some d, _, rfl, rfl, rfl⟩
      | none => cases h; exact ⟨none, _, rfl, rfl, rfl⟩
    | exc _ _ => rw [e2] at h; cases h
    | bad => rw [e2] at h; cases h
  | exc _ _ => rw [e] at h; cases h
  | bad => rw [e] at h; cases h
theorem comp2_t {own : List (Str × Nat)} {ts ts1 vs1 : List Nat} {fg fg1 : PV → En → R En} (hi : VI T E O X tg it fi) (hO : blkO O (own.map (·.2)) = O1) (hO1 : blkO O1 vs1 = O1) (hts : (ts.all fun j => (own.map (·.2)).contains j) = true) (hts1 : (ts1.all fun j => vs1.contains j) = true)
    (hg : ∀ b, VG T O1 O1 (blkX X scope b) tg ts fg) (ht : ∀ b, VTs T EF O1 (blkX X scope b) ifs ft) (hi1 : ∀ b, VI T EF O1 (blkX X scope b) tg1 it1 fi1) (hg1 : ∀ b, VG T O1 O1 (blkX X scope b) tg1 ts1 fg1) (ht1 : ∀ b, VTs T EF O1 (blkX X scope b) ifs1 ft1) (he : ∀ b, VE T EF O1 (blkX X scope b) elt f) :
    ∃ wi g tt wi1 g1 tt1 te, PI X tg it wi ∧ (∀ b, PG (blkX X scope b) tg g) ∧ (∀ b, PTs (blkX X scope b) ifs tt) ∧ (∀ b, PI (blkX X scope b) tg1 it1 wi1) ∧ (∀ b, PG (blkX X scope b) tg1 g1) ∧ (∀ b, PTs (blkX X scope b) ifs1 tt1) ∧ (∀ b, PE (blkX X scope b) elt te) ∧
      ∀ L ow H σ env Q, ow.map (·.1) = O → EnvR T L ow H σ env → Res (do
        let items ← fi env
        let l ← catE (itemF2 fg ft fi1 fg1 ft1 f vs1 (wipeE env (own.map (·.2)))) items
        lim l.length (.ok (.list l))) (fun d => ∀ p H', Ex H H' → H p = none → RepO T (p :: L) H' p d → Q (.ref p) H') (xw T E H) → tLc2 wi g tt wi1 g1 tt1 te (own.map (·.2)) vs1 σ H Q := by
  obtain ⟨wi, pi, qi⟩ := hi
  obtain ⟨tg', pg, qg⟩ := uniG hg
  obtain ⟨tt, pt, qt⟩ := uniT ht
  obtain ⟨wi1, pi1, qi1⟩ := uniI hi1
  obtain ⟨tg1', pg1, qg1⟩ := uniG hg1
  obtain ⟨tt1, pt1, qt1⟩ := uniT ht1
  obtain ⟨te, pe, qe⟩ := uniE he
  refine ⟨wi, tg', tt, wi1, tg1', tt1, te, pi, pg, pt, pi1, pg1, pt1, pe, fun L ow H σ env Q ho re hq => ?_⟩
  generalize own.map (·.2) = vs at *
  simp only [res_bind] at hq
  refine qi L ow H σ env _ ho re (hq.imp (fun items k J H1 e1 J1 D hD => ?_) fun _ _ x => x)
  obtain ⟨n, G, Y, W, hn, hln, hG, hY⟩ := J1
  subst hn
  have hDH : H D = none := Evl.fresh_back e1 hD
  generalize hitem : itemF2 fg ft fi1 fg1 ft1 f vs1 (wipeE env vs) = item at k
  cases ew : catE item items with
  | exc c d => exact absurd ew catE_noexc
  | bad => rw [ew] at k; exact k.elim
  | ok whole =>
    rw [ew, res_ok] at k
    obtain ⟨hlim, k⟩ := res_lim k
    refine lcO_it W (Z := fun i Nx σ2 H2 => tt σ2 H2 fun b H3 => if b = true then wi1 σ2 H3 fun J1 H4 => ∃ W1 : Nat → Nat → Hp → Prop, (∃ m, W1 0 m H4) ∧ ∀ j k H, W1 j k H →
      (J1.stop j H ∧ Nx H) ∨ (J1.go j H ∧ ∃ Nx1 : Hp → Prop, (∀ H', Nx1 H' → ∃ k', k' < k ∧ W1 (j + 1) k' H') ∧ ∀ x H', J1.yld j H x H' → tg1' x (wipe σ2 vs1) H' fun σ3 H5 => wipe σ3 vs1 = wipe σ2 vs1 ∧ tt1 σ3 H5 fun b H6 =>
        if b = true then te σ3 H6 fun y H7 => ∃ acc, H7 D = some (.lst acc) ∧ acc.length < sizeLine ∧ Nx1 (upd H7 D (.lst (acc ++ [y]))) else Nx1 H6)
      else Nx H3) (fun i H2 => ∃ acc ds l, H2 D = some (.lst acc) ∧ Ex H1 H2 ∧ RepA T (hid H2 (D :: L)) acc ds ∧ catE item (items.drop i) = .ok l ∧ ds ++ l = whole) ?_ ?_ ?_ ?_
    · exact ⟨[], [], whole, upd_same, ex_upd hD, .nil, ew, rfl⟩
    · rintro i H2 _ ⟨acc, ds, l, _, e2, _⟩
      exact hG H2 ((hid_le).trans e2)
    · rintro i x1 H2 H3 hi ⟨acc, ds, l, h1, e2, r2, k2, hw⟩ y
      have hd : items[i]? = some items[i] := List.getElem?_eq_getElem hi
      have tr : Trk (D :: L) H2 := fun a ha => by
        rcases List.mem_cons.mp ha with rfl | ha
        · rw [h1]
          exact fun z => nomatch z
        · exact re.trk.mono (e1.trans e2) a ha
      obtain ⟨e3, r3⟩ := hY i H2 (D :: L) x1 H3 items[i] hd tr (hid_more e2 hD) y
      have h3 : H3 D = some (.lst acc) := e3 _ _ h1
      have re3 : EnvR T (D :: L) (ow.filter fun p => !vs.contains p.1) H3 (wipe σ vs) (wipeE env vs) := re.block vs ((e1.trans e2).trans e3) hDH (by rw [h3]; exact fun z => nomatch z)
      rw [List.drop_eq_getElem_cons hi] at k2
      obtain ⟨o, r, ei, er, rfl⟩ := catE_cons k2
      have ev : Res (item items[i]) (fun o' => o' = o) (xw T EF H3) := by rw [ei]; rfl
      rw [← hitem] at ev
      unfold itemF2 at ev
      simp only [res_bind] at ev
      have hOo : (ow.filter fun p => !vs.contains p.1).map (·.1) = O1 := by rw [blkW_map, ho, hO]
      refine qg (D :: L) _ H3 (wipe σ vs) (wipeE env vs) x1 items[i] _ _ hOo re3 r3 (ev.imp (fun env4 k4 σ4 ow4 ho4 hw4 hl4 hk4 re4 => ?_) fun _ _ x => x)
      refine ⟨wipe_same ?_ hk4 (fun j hj => ?_), ?_⟩
      · rw [← re4.len, hl4, re3.len, (wipeS σ vs).1]
      · have z := List.all_eq_true.mp hts j hj
        simpa using z
      refine qt (D :: L) ow4 H3 σ4 env4 _ ho4 re4 (k4.imp (fun b k5 H5 e5 => ?_) fun _ _ x => x)
      have h5 : H5 D = some (.lst acc) := e5 _ _ h3
      cases b with
      | false =>
        rw [if_neg Bool.false_ne_true]
        rw [if_neg Bool.false_ne_true, res_ok] at k5
        subst k5
        exact ⟨acc, ds, r, h5, (e2.trans e3).trans e5, r2.mono (hid_ex (e3.trans e5)), er, hw⟩
      | true =>
        rw [if_pos rfl]
        rw [if_pos rfl, res_bind] at k5
        refine qi1 (D :: L) ow4 H5 σ4 env4 _ ho4 (re4.mono e5) (k5.imp (fun items1 k6 J1 H6 e6 J1' => ?_) fun _ _ x => xw_mono e5 x)
        obtain ⟨n1, G1, Y1, W1, hn1, hln1, hG1, hY1⟩ := J1'
        subst hn1
        generalize hitem1 : itemF fg1 ft1 f (wipeE env4 vs1) = item1 at k6
        have k6' : compE item1 items1 = .ok o := by
          cases e6' : compE item1 items1 with
          | ok o' =>
            rw [e6'] at k6
            rw [show o' = o from k6]
          | exc _ _ => rw [e6'] at k6; exact absurd k6 (by
              intro z
              have z2 : ∀ {xs : List PV} {c : Nat} {d : PV}, compE item1 xs ≠ .exc c d := by
                intro xs
                induction xs with
                | nil => intro c d h; cases h
                | cons x xs ih =>
                  intro c d h
                  unfold compE at h
                  cases q1 : item1 x with
                  | ok o =>
                    rw [q1] at h
                    dsimp only at h
                    cases q2 : compE item1 xs with
                    | ok l => rw [q2] at h; cases o <;> cases h
                    | exc _ _ => exact ih q2
                    | bad => rw [q2] at h; cases h
                  | exc _ _ => rw [q1] at h; cases h
                  | bad => rw [q1] at h; cases h
              exact z2 e6')
          | bad => rw [e6'] at k6; exact k6.elim
        have h6 : H6 D = some (.lst acc) := e6 _ _ h5
        refine lcO_it W1 (Z := fun j Nx1 σ3 H5 => tt1 σ3 H5 fun b H6 =>
          if b = true then te σ3 H6 fun y H7 => ∃ acc, H7 D = some (.lst acc) ∧ acc.length < sizeLine ∧ Nx1 (upd H7 D (.lst (acc ++ [y]))) else Nx1 H6) (fun j H7 => ∃ acc' ds' l', H7 D = some (.lst acc') ∧ Ex H1 H7 ∧ Ex H6 (upd H7 D (.lst acc)) ∧ RepA T (hid H7 (D :: L)) acc' ds' ∧ compE item1 (items1.drop j) = .ok l' ∧ ds' ++ l' = ds ++ o) ?_ ?_ ?_ ?_
        · refine ⟨acc, ds, o, h6, ((e2.trans e3).trans e5).trans e6, ?_, r2.mono (hid_ex ((e3.trans e5).trans e6)), k6', rfl⟩
          intro b u hb
          by_cases eb : b = D
          · subst eb
            rw [upd_same]
            rw [h6] at hb
            exact hb
          · rw [upd_ne eb]
            exact hb
        · rintro j H7 _ ⟨acc', ds', l', h7, _, e7, _⟩
          refine hG1 H7 fun b u hb => ?_
          obtain ⟨hb1, hb2⟩ := hid_some.mp hb
          have hne : b ≠ D := fun z => hb1 (by rw [z]; exact List.mem_cons_self)
          have z := e7 b u hb2
          rwa [upd_ne hne] at z
        · rintro j x2 H7 H8 hj ⟨acc', ds', l', h7, e17, e67, r7, k7, hw7⟩ y2
          have hd1 : items1[j]? = some items1[j] := List.getElem?_eq_getElem hj
          have hDh : hid H7 (D :: L) = hid (upd H7 D (.lst acc)) (D :: L) := (hid_upd List.mem_cons_self).symm
          have tr7 : Trk (D :: L) H7 := fun a ha => by
            rcases List.mem_cons.mp ha with rfl | ha
            · rw [h7]
              exact fun z => nomatch z
            · exact re.trk.mono (e1.trans e17) a ha
          obtain ⟨e8, r8⟩ := hY1 j H7 (D :: L) x2 H8 items1[j] hd1 tr7 (by rw [hDh]; exact hid_ex e67) y2
          have h8 : H8 D = some (.lst acc') := e8 _ _ h7
          have hown : ∀ p ∈ ow4, p.2 ≠ D := fun p hp z => by
            obtain ⟨q1, _⟩ := List.mem_filter.mp (hw4 p hp)
            exact re.trk p.2 (re.own p.1 p.2 q1).1 (by rw [z]; exact hDH)
          have re7 : EnvR T (D :: L) ow4 H8 σ4 env4 := by
            have z := ((re4.mono (e5.trans e6)).mono e67).updD (o := .lst acc') List.mem_cons_self hown
            rw [upd_upd h7] at z
            exact z.mono e8
          have re8 := re7.wiped vs1
          have hO8 : (ow4.filter fun p => !vs1.contains p.1).map (·.1) = O1 := by rw [blkW_map, ho4, hO1]
          rw [List.drop_eq_getElem_cons hj] at k7
          obtain ⟨o1, r1, ei1, er1, rfl⟩ := compE_cons k7
          have ev1 : Res (item1 items1[j]) (fun o' => o' = o1) (xw T EF H8) := by rw [ei1]; rfl
          rw [← hitem1] at ev1
          unfold itemF at ev1
          simp only [res_bind] at ev1
          refine qg1 (D :: L) _ H8 (wipe σ4 vs1) (wipeE env4 vs1) x2 items1[j] _ _ hO8 re8 r8 (ev1.imp (fun env9 k9 σ9 ow9 ho9 _ hl9 hk9 re9 => ?_) fun _ _ x => x)
          refine ⟨wipe_same ?_ hk9 (fun j hj => ?_), ?_⟩
          · rw [← re9.len, hl9, re8.len, (wipeS σ4 vs1).1]
          · have z := List.all_eq_true.mp hts1 j hj
            simpa using z
          refine qt1 (D :: L) ow9 H8 σ9 env9 _ ho9 re9 (k9.imp (fun b k10 H10 e10 => ?_) fun _ _ x => x)
          have h10 : H10 D = some (.lst acc') := e10 _ _ h8
          have e610 : Ex H6 (upd H10 D (.lst acc)) := e67.trans (ex_updD (e8.trans e10))
          cases b with
          | true =>
            rw [if_pos rfl]
            rw [if_pos rfl, res_bind] at k10
            refine qe (D :: L) ow9 H10 σ9 env9 _ ho9 (re9.mono e10) (k10.imp (fun d k11 v H11 e11 r11 => ?_) fun _ _ x => xw_mono e10 x)
            have h11 : H11 D = some (.lst acc') := e11 _ _ h10
            rw [res_ok] at k11
            subst k11
            have hz : acc'.length < sizeLine := by
              have q1 := congrArg List.length hw7
              have q2 := congrArg List.length hw
              simp only [List.length_append, Option.toList_some, List.length_singleton] at q1 q2
              rw [r7.length, sizeLine_eq]
              have : whole.length ≤ 16777216 := hlim
              omega
            refine ⟨acc', h11, hz, acc' ++ [v], ds' ++ [d], r1, upd_same, Evl.Ex.mut (((e17.trans e8).trans e10).trans e11) hD, ?_, ?_, er1, ?_⟩
            · have z : upd (upd H11 D (.lst (acc' ++ [v]))) D (.lst acc) = upd H11 D (.lst acc) := by
                funext b
                by_cases eb : b = D
                · rw [eb, upd_same, upd_same]
                · rw [upd_ne eb, upd_ne eb, upd_ne eb]
              rw [z]
              exact e610.trans (ex_updD e11)
            · rw [hid_upd List.mem_cons_self]
              exact (r7.mono (hid_ex ((e8.trans e10).trans e11))).append (.one r11)
            · rw [List.append_assoc]
              exact hw7
          | false =>
            rw [if_neg Bool.false_ne_true]
            rw [if_neg Bool.false_ne_true, res_ok] at k10
            subst k10
            exact ⟨acc', ds', r1, h10, (e17.trans e8).trans e10, e610, r7.mono (hid_ex (e8.trans e10)), er1, hw7⟩
        · rintro H7 ⟨acc', ds', l', h7, e17, e67, r7, k7, hw7⟩
          rw [List.drop_length] at k7
          cases k7
          rw [List.append_nil] at hw7
          refine ⟨acc', ds', r, h7, e17, r7, er, ?_⟩
          rw [hw7, List.append_assoc]
          exact hw
    · rintro H2 ⟨acc, ds, l, h1, e2, r2, k2, hw⟩
      rw [List.drop_length] at k2
      cases k2
      rw [List.append_nil] at hw
      subst hw
      refine k D H2 (e1.trans e2) hDH (.lst h1 r2 ?_)
      rw [r2.length, sizeLine_eq]
      exact hlim
theorem vf_comp2 {own : List (Str × Nat)} {ts ts1 vs1 : List Nat} {fg fg1 : PV → En → R En} (hc : X.calm = true) (hN : X.N.Nodup) (hi : VI T E O X tg it fi) (ok : BlkOk X.N X.env.scope scope own) (hv : ∀ i ∈ vs1, i ∈ own.map (·.2)) (hO : blkO O (own.map (·.2)) = O1) (hO1 : blkO O1 vs1 = O1) (hts : (ts.all fun j => (own.map (·.2)).contains j) = true) (hts1 : (ts1.all fun j => vs1.contains j) = true)
    (hg : ∀ b, VG T O1 O1 (blkX X scope b) tg ts fg) (ht : ∀ b, VTs T EF O1 (blkX X scope b) ifs ft) (hi1 : ∀ b, VI T EF O1 (blkX X scope b) tg1 it1 fi1) (hg1 : ∀ b, VG T O1 O1 (blkX X scope b) tg1 ts1 fg1) (ht1 : ∀ b, VTs T EF O1 (blkX X scope b) ifs1 ft1) (he : ∀ b, VE T EF O1 (blkX X scope b) elt f)
    (hs : ∀ x, foldedSetIterable it X.env x = pure x := by intro _; rfl) (hs1 : ∀ env x, foldedSetIterable it1 env x = pure x := by intro _ _; rfl) :
    VF T E O X (.ListComp elt [⟨tg, it, ifs, 0⟩, ⟨tg1, it1, ifs1, 0⟩] scope pos) (fun env => do
      let items ← fi env
      let l ← catE (itemF2 fg ft fi1 fg1 ft1 f vs1 (wipeE env (own.map (·.2)))) items
      lim l.length (.ok (.list l))) := by
  obtain ⟨wi, g, tt, wi1, g1, tt1, te, pi, pg, pt, pi1, pg1, pt1, pe, hq⟩ := comp2_t hi hO hO1 hts hts1 hg ht hi1 hg1 ht1 he
  exact ⟨_, pe_lc2 hc hN pi ok hv (fun s H C cl fp => pg (s, H, C, cl, fp)) (fun s H C cl fp => pt (s, H, C, cl, fp)) (fun s H C cl fp => pi1 (s, H, C, cl, fp)) (fun s H C cl fp => pg1 (s, H, C, cl, fp)) (fun s H C cl fp => pt1 (s, H, C, cl, fp)) (fun s H C cl fp => pe (s, H, C, cl, fp)) hs hs1, hq⟩
/-- y = [.. two clauses ..], y local, not own -/
theorem vs_setC2 (i : Nat) {own : List (Str × Nat)} {ts ts1 vs1 : List Nat} {fg fg1 : PV → En → R En} {y : Str} {py spos : Pos} {O2 : List Nat} (hc : X.calm = true) (hN : X.N.Nodup) (hi : VI T E O X tg it fi) (ok : BlkOk X.N X.env.scope scope own) (hv : ∀ i ∈ vs1, i ∈ own.map (·.2)) (hO : blkO O (own.map (·.2)) = O1) (hO1 : blkO O1 vs1 = O1) (hts : (ts.all fun j => (own.map (·.2)).contains j) = true) (hts1 : (ts1.all fun j => vs1.contains j) = true)
    (hg : ∀ b, VG T O1 O1 (blkX X scope b) tg ts fg) (ht : ∀ b, VTs T EF O1 (blkX X scope b) ifs ft) (hi1 : ∀ b, VI T EF O1 (blkX X scope b) tg1 it1 fi1) (hg1 : ∀ b, VG T O1 O1 (blkX X scope b) tg1 ts1 fg1) (ht1 : ∀ b, VTs T EF O1 (blkX X scope b) ifs1 ft1) (he : ∀ b, VE T EF O1 (blkX X scope b) elt f)
    (hsw : swapsWith (.ListComp elt [⟨tg, it, ifs, 0⟩, ⟨tg1, it1, ifs1, 0⟩] scope pos) (some (.Name y py)) spos.line X.env = pure true)
    (hO2 : dropO O i = O2 := by rfl) (hy : X.N[i]? = some y := by rfl) (hyl : X.env.scope.names.lookup y = some .local := by rfl) (hs : ∀ x, foldedSetIterable it X.env x = pure x := by intro _; rfl) (hs1 : ∀ env x, foldedSetIterable it1 env x = pure x := by intro _ _; rfl) :
    VS1 (M := M) T E O O2 X (.Assign [.Name y py] (.ListComp elt [⟨tg, it, ifs, 0⟩, ⟨tg1, it1, ifs1, 0⟩] scope pos) spos) (fun env => do
      let d ← (do
        let items ← fi env
        let l ← catE (itemF2 fg ft fi1 fg1 ft1 f vs1 (wipeE env (own.map (·.2)))) items
        lim l.length (.ok (.list l)))
      .ok (.nx (env.set i (some d)))) := by
  subst hO2
  obtain ⟨wi, g, tt, wi1, g1, tt1, te, pi, pg, pt, pi1, pg1, pt1, pe, hq⟩ := comp2_t hi hO hO1 hts hts1 hg ht hi1 hg1 ht1 he
  refine ⟨_, ps_frz (ps_setLc2 hc hN hy hyl hsw pi ok hv (fun s H C cl fp => pg (s, H, C, cl, fp)) (fun s H C cl fp => pt (s, H, C, cl, fp)) (fun s H C cl fp => pi1 (s, H, C, cl, fp)) (fun s H C cl fp => pg1 (s, H, C, cl, fp)) (fun s H C cl fp => pt1 (s, H, C, cl, fp)) (fun s H C cl fp => pe (s, H, C, cl, fp)) hs hs1), fun B L0 H0 L ow H σ env D S h => ?_⟩
  unfold tFrzS
  rw [res_bind] at h
  refine hq L ow H σ env _ S.ho S.re (h.imp (fun d k p H' e hp r => ?_) fun _ _ x => xw_mono S.ex x)
  rcases r.rep (S.re.trk.new hp) e hp with r1 | ⟨u, h1, h2, h3⟩
  · have S' := S.mono e
    exact .inl (k _ H' L _ (S'.slots (by rw [dropW_map, S.ho]) (fun p h => (dropW_mem h).1) (by rw [List.length_set]) (S'.re.set r1)))
  · refine .inr ⟨p, u, h1, h2, fun od => ?_⟩
    have S' := S.mono (h3 od).1
    exact k _ _ L _ (S'.slots (by rw [dropW_map, S.ho]) (fun p h => (dropW_mem h).1) (by rw [List.length_set]) (S'.re.set (h3 od).2))
end
abbrev cComp2 (fi : En → R (List PV)) (fg : PV → En → R En) (ft : En → R Bool) (fi1 : En → R (List PV)) (fg1 : PV → En → R En) (ft1 : En → R Bool) (f : En → R PV) (vs vs1 : List Nat) : En → R PV := fun env => do
  let items ← fi env
  let l ← catE (itemF2 fg ft fi1 fg1 ft1 f vs1 (wipeE env vs)) items
  lim l.length (.ok (.list l))
end VL
set_option Elab.async false
set_option linter.all false
set_option maxRecDepth 100000
set_option maxHeartbeats 2000000
set_option autoImplicit false
/-! VDC: y = {k: v for .. }, y local. -/
namespace VDC
open PySem PySem.Spec PyProof.Rows L2
section
variable {X : Cx}
theorem ps_setDc {i : Nat} {y : Str} {py : Pos} {kx vx tg iter : Expr} {ifs : List Expr} {scope : Scope} {own : List (Str × Nat)} {pos spos : Pos} {wi : TI} {g : TG} {tt : TT} {tk tv : TE} (hc : X.calm = true) (hN : X.N.Nodup) (hy : X.N[i]? = some y) (hyl : X.env.scope.names.lookup y = some .local)
    (hsw : swapsWith (.DictComp kx vx [⟨tg, iter, ifs, 0⟩] scope pos) (some (.Name y py)) spos.line X.env = pure true) (hi : PI X tg iter wi) (ok : BlkOk X.N X.env.scope scope own)
    (hg : ∀ (s : Shared) (H : Hp) (C : Addr) (cl : List (Str × Addr)) (fp : List Addr), PG (X.blk s H scope (compEnvC scope cl C X.env) fp) tg g) (ht : ∀ (s : Shared) (H : Hp) (C : Addr) (cl : List (Str × Addr)) (fp : List Addr), PTs (X.blk s H scope (compEnvC scope cl C X.env) fp) ifs tt)
    (hk : ∀ (s : Shared) (H : Hp) (C : Addr) (cl : List (Str × Addr)) (fp : List Addr), PE (X.blk s H scope (compEnvC scope cl C X.env) fp) kx tk)
    (he : ∀ (s : Shared) (H : Hp) (C : Addr) (cl : List (Str × Addr)) (fp : List Addr), PE (X.blk s H scope (compEnvC scope cl C X.env) fp) vx tv) (hs : ∀ x, foldedSetIterable iter X.env x = pure x := by intro _; rfl) :
    PS X (.Assign [.Name y py] (.DictComp kx vx [⟨tg, iter, ifs, 0⟩] scope pos) spos) (tAsg (tDc wi g tt tk tv (own.map (·.2))) (gName i)) := by
  refine ⟨fun pins s σ H D I h => ?_⟩
  rw [exec_Assign_Name_used _ _ _ _ hsw]
  refine wpAny_bind (wpAny_standAt (wpAny_bind ?_))
  show wpAny _ X.A (do let _ ← comprehension (.DictComp kx vx [⟨tg, iter, ifs, 0⟩] scope pos) scope X.env (firstIterPos [⟨tg, iter, ifs, 0⟩] pos) newDict false (eval iter X.env) (some (assign (.Name y py) X.env))) _ _ s
  have h : tDc wi g tt tk tv (own.map (·.2)) σ H (fun x H1 => gName i x σ H1 D.nx) := h
  refine wpAny_bind (thn (dc_core (Qf := fun _ s' => SP X pins D .next s') hc hN I hi ok hg ht hk he hs h fun L C s' m H' I' q hn f => ?_) fun _ s' hq => wpAny_pure (wpAny_pure hq))
  show wpAny _ _ (assign (.Name y py) X.env (.ref L)) _ _ _
  refine wpAny_assign_Name (store_ok2 (v := V.ref L) I' hN hy (.inl hyl) rfl (fun s2 I2 ⟨a, sb, ha⟩ => ?_) (.inr hyl))
  obtain ⟨f0, f1, f2, f3, f4, f5⟩ := f
  have haC : C ≠ a := by
    rcases ha with z | z
    · rw [z]; exact f1
    · exact fun e => f4 y a z e.symm
  refine ⟨m, hn.sameBut sb haC, fun h3 sb3 => ?_⟩
  exact ⟨_, H', I2.turned (t' := s2.toks) (fun b o hb e => (sb3.2 b hb).trans e) f0 f1 f3 f4 f5, q⟩
theorem sw_true {kx vx : Expr} {gs : List Comprehension} {scope : Scope} {pos py : Pos} {y : Str} {l : Nat} {env : Env} (hk : env.scope.kind = .function) (hy : env.scope.names.lookup y = some .local) (hl : (py.line == pos.line) = true)
    (ha : (scope.names.any fun (n, k) => n == y && (k == .local || k == .cell)) = false) : swapsWith (.DictComp kx vx gs scope pos) (some (.Name y py)) l env = pure true := by
  have ky : env.kindOf y = some .local := hy
  have hb : env.blockKind = .function := by unfold Env.blockKind; rw [hk]; rfl
  unfold swapsWith
  simp only [hb, ky, ha, Expr.pos, hl]
  rfl
end
end VDC
namespace VL
open PySem PySem.Spec L2 R
section
variable {T : Tb} {E : XK} {O O1 : List Nat} {X : Cx} {scope : Scope} {tg a b c e it kx vx : Expr} {es ifs : List Expr} {f g h fk fv : En → R PV} {fi : En → R (List PV)} {ft : En → R Bool} {pos pos' p : Pos} {x : Str}
theorem dcomp_t {own : List (Str × Nat)} {ts : List Nat} {fg : PV → En → R En} (hi : VI T E O X tg it fi) (hO : blkO O (own.map (·.2)) = O1) (hts : (ts.all fun j => (own.map (·.2)).contains j) = true)
    (hg : ∀ b, VG T O1 O1 (blkX X scope b) tg ts fg) (ht : ∀ b, VTs T EF O1 (blkX X scope b) ifs ft) (hk : ∀ b, VE T EF O1 (blkX X scope b) kx fk) (hv : ∀ b, VE T EF O1 (blkX X scope b) vx fv) :
    ∃ wi g tt tk tv, PI X tg it wi ∧ (∀ b, PG (blkX X scope b) tg g) ∧ (∀ b, PTs (blkX X scope b) ifs tt) ∧ (∀ b, PE (blkX X scope b) kx tk) ∧ (∀ b, PE (blkX X scope b) vx tv) ∧
      ∀ L ow H σ env Q, ow.map (·.1) = O → EnvR T L ow H σ env → Res (do
        let items ← fi env
        dcompE (itemDF fg ft fk fv (wipeE env (own.map (·.2)))) items (.dict false [] [])) (fun d => ∀ p H', Ex H H' → H p = none → RepO T (p :: L) H' p d → Q (.ref p) H') (xw T E H) → tDc wi g tt tk tv (own.map (·.2)) σ H Q := by
  obtain ⟨wi, pi, qi⟩ := hi
  obtain ⟨tg', pg, qg⟩ := uniG hg
  obtain ⟨tt, pt, qt⟩ := uniT ht
  obtain ⟨tk, pk, qk⟩ := uniE hk
  obtain ⟨tv, pv, qv⟩ := uniE hv
  refine ⟨wi, tg', tt, tk, tv, pi, pg, pt, pk, pv, fun L ow H σ env Q ho re hq => ?_⟩
  generalize own.map (·.2) = vs at *
  simp only [res_bind] at hq
  refine qi L ow H σ env _ ho re (hq.imp (fun items k J H1 e1 J1 D hD => ?_) fun _ _ x => x)
  obtain ⟨n, G, Y, W, hn, hln, hG, hY⟩ := J1
  subst hn
  have hDH : H D = none := Evl.fresh_back e1 hD
  refine dc_it W (fun i H2 => ∃ kvs ds, H2 D = some (.dK kvs) ∧ Ex H1 H2 ∧ RepA T (hid H2 (D :: L)) (kvs.map (·.2)) ds ∧ kvs.length ≤ i ∧
    Res (dcompE (itemDF fg ft fk fv (wipeE env vs)) (items.drop i) (.dict false (kvs.map fun e => keyP e.1) ds)) (fun l => ∀ p H', Ex H H' → H p = none → RepO T (p :: L) H' p l → Q (.ref p) H') (xw T E H)) ?_ ?_ ?_ ?_
  · exact ⟨[], [], upd_same, ex_upd hD, .nil, Nat.le_refl _, k⟩
  · rintro i H2 _ ⟨kvs, ds, _, e2, _, _, _⟩
    exact hG H2 ((hid_le).trans e2)
  · rintro i x1 H2 H3 hi ⟨kvs, ds, h1, e2, r2, z2, k2⟩ y
    have hd : items[i]? = some items[i] := List.getElem?_eq_getElem hi
    have tr : Trk (D :: L) H2 := fun a ha => by
      rcases List.mem_cons.mp ha with rfl | ha
      · rw [h1]
        exact fun z => nomatch z
      · exact re.trk.mono (e1.trans e2) a ha
    obtain ⟨e3, r3⟩ := hY i H2 (D :: L) x1 H3 items[i] hd tr (hid_more e2 hD) y
    have h3 : H3 D = some (.dK kvs) := e3 _ _ h1
    have re3 : EnvR T (D :: L) (ow.filter fun p => !vs.contains p.1) H3 (wipe σ vs) (wipeE env vs) := re.block vs ((e1.trans e2).trans e3) hDH (by rw [h3]; exact fun z => nomatch z)
    rw [List.drop_eq_getElem_cons hi] at k2
    unfold dcompE at k2
    cases ei : itemDF fg ft fk fv (wipeE env vs) items[i] with
    | ok o =>
      rw [ei] at k2
      have ev : Res (itemDF fg ft fk fv (wipeE env vs) items[i]) (fun o' => o' = o) (xw T EF H3) := by rw [ei]; rfl
      unfold itemDF at ev
      simp only [res_bind] at ev
      have hO1 : (ow.filter fun p => !vs.contains p.1).map (·.1) = O1 := by rw [blkW_map, ho, hO]
      refine qg (D :: L) _ H3 (wipe σ vs) (wipeE env vs) x1 items[i] _ _ hO1 re3 r3 (ev.imp (fun env4 k4 σ4 ow4 ho4 _ hl4 hk4 re4 => ?_) fun _ _ x => x)
      refine ⟨wipe_same ?_ hk4 (fun j hj => ?_), ?_⟩
      · rw [← re4.len, hl4, re3.len, (wipeS σ vs).1]
      · have z := List.all_eq_true.mp hts j hj
        simpa using z
      refine qt (D :: L) ow4 H3 σ4 env4 _ ho4 re4 (k4.imp (fun b k5 H5 e5 => ?_) fun _ _ x => x)
      have h5 : H5 D = some (.dK kvs) := e5 _ _ h3
      have hz : kvs.length < sizeLine := by
        have e0 : LN = 16777216 := rfl
        rw [sizeLine_eq]
        omega
      cases b with
      | true =>
        rw [if_pos rfl]
        rw [if_pos rfl] at k5
        simp only [res_bind] at k5
        refine qk (D :: L) ow4 H5 σ4 env4 _ ho4 (re4.mono e5) (k5.imp (fun dk k6 v6 H6 e6 r6 => ?_) fun _ _ x => xw_mono e5 x)
        refine qv (D :: L) ow4 H6 σ4 env4 _ ho4 (re4.mono (e5.trans e6)) (k6.imp (fun dv k7 v7 H7 e7 r7 => ?_) fun _ _ x => xw_mono (e5.trans e6) x)
        have h7 : H7 D = some (.dK kvs) := e7 _ _ (e6 _ _ h5)
        rw [res_ok] at k7
        subst k7
        have k3 : Res (putP (.dict false (kvs.map fun e => keyP e.1) ds) dk dv) (fun acc => Res (dcompE (itemDF fg ft fk fv (wipeE env vs)) (items.drop (i + 1)) acc) (fun l => ∀ p H', Ex H H' → H p = none → RepO T (p :: L) H' p l → Q (.ref p) H') (xw T E H)) (xw T E H) := by
          dsimp only at k2
          cases ep : putP (.dict false (kvs.map fun e => keyP e.1) ds) dk dv with
          | ok acc2 =>
            rw [ep] at k2
            exact k2
          | exc _ _ => rw [ep] at k2; exact k2.elim
          | bad => rw [ep] at k2; exact k2.elim
        unfold putP at k3
        dsimp only at k3
        split at k3
        · rename_i hdk
          have hb : keyB dk = true := by cases dk <;> simp_all [dkOk, keyB]
          obtain ⟨_, k3⟩ := res_lim k3
          have rk : v6 = kV (keyOf dk) := (RepW.st r6 : RepW T (D :: L) H6 v6 dk).key hb
          have r77 : Rep T (hid H7 (D :: L)) v7 dv := r7
          have ra7 : RepA T (hid H7 (D :: L)) (kvs.map (·.2)) ds := r2.mono (hid_ex (((e3.trans e5).trans e6).trans e7))
          obtain ⟨p1, p2⟩ := put_rep keyP (keyOf dk) dk (fun z => eqB_key z dk hb) kvs ds v7 dv (keyP_of hb) ra7 r77
          rw [← hid_upd (H := H7) (o := .dK (putK kvs (keyOf dk) v7)) (List.mem_cons_self (a := D) (l := L))] at p1
          refine ⟨kvs, keyOf dk, rk, h7, hz, putK kvs (keyOf dk) v7, _, upd_same, Evl.Ex.mut ((((e2.trans e3).trans e5).trans e6).trans e7) hD, p1, ?_, ?_⟩
          · have := length_putK kvs (keyOf dk) v7
            omega
          · rw [p2]
            split at k3
            · rename_i hin
              rw [if_pos hin, if_pos hin]
              exact k3
            · rename_i hin
              rw [if_neg hin, if_neg hin]
              exact k3
        · exact k3.elim
      | false =>
        rw [if_neg Bool.false_ne_true]
        rw [if_neg Bool.false_ne_true, res_ok] at k5
        subst k5
        exact ⟨kvs, ds, h5, (e2.trans e3).trans e5, r2.mono (hid_ex (e3.trans e5)), by omega, k2⟩
    | exc _ _ => rw [ei] at k2; exact k2.elim
    | bad => rw [ei] at k2; exact k2.elim
  · rintro H2 ⟨kvs, ds, h1, e2, r2, z2, k2⟩
    rw [List.drop_length] at k2
    exact k2 D H2 (e1.trans e2) hDH (.dK h1 r2)
/-- y = {..}, y local, not own -/
theorem vs_setDC {M : Md} (i : Nat) {own : List (Str × Nat)} {ts : List Nat} {fg : PV → En → R En} {y : Str} {py spos : Pos} {O2 : List Nat} (hc : X.calm = true) (hN : X.N.Nodup) (hi : VI T E O X tg it fi) (ok : BlkOk X.N X.env.scope scope own) (hO : blkO O (own.map (·.2)) = O1) (hts : (ts.all fun j => (own.map (·.2)).contains j) = true)
    (hg : ∀ b, VG T O1 O1 (blkX X scope b) tg ts fg) (ht : ∀ b, VTs T EF O1 (blkX X scope b) ifs ft) (hk : ∀ b, VE T EF O1 (blkX X scope b) kx fk) (hv : ∀ b, VE T EF O1 (blkX X scope b) vx fv) (hsw : swapsWith (.DictComp kx vx [⟨tg, it, ifs, 0⟩] scope pos) (some (.Name y py)) spos.line X.env = pure true)
    (hO2 : dropO O i = O2 := by rfl) (hy : X.N[i]? = some y := by rfl) (hyl : X.env.scope.names.lookup y = some .local := by rfl) (hs : ∀ x, foldedSetIterable it X.env x = pure x := by intro _; rfl) :
    VS1 (M := M) T E O O2 X (.Assign [.Name y py] (.DictComp kx vx [⟨tg, it, ifs, 0⟩] scope pos) spos) (fun env => do
      let d ← (do
        let items ← fi env
        dcompE (itemDF fg ft fk fv (wipeE env (own.map (·.2)))) items (.dict false [] []))
      .ok (.nx (env.set i (some d)))) := by
  subst hO2
  obtain ⟨wi, g, tt, tk, tv, pi, pg, pt, pk, pv, hq⟩ := dcomp_t hi hO hts hg ht hk hv
  refine ⟨_, ps_frz (VDC.ps_setDc hc hN hy hyl hsw pi ok (fun s H C cl fp => pg (s, H, C, cl, fp)) (fun s H C cl fp => pt (s, H, C, cl, fp)) (fun s H C cl fp => pk (s, H, C, cl, fp)) (fun s H C cl fp => pv (s, H, C, cl, fp)) hs), fun B L0 H0 L ow H σ env D S h => ?_⟩
  unfold tFrzS
  rw [res_bind] at h
  refine hq L ow H σ env _ S.ho S.re (h.imp (fun d k p H' e hp r => ?_) fun _ _ x => xw_mono S.ex x)
  rcases r.rep (S.re.trk.new hp) e hp with r1 | ⟨u, h1, h2, h3⟩
  · have S' := S.mono e
    exact .inl (k _ H' L _ (S'.slots (by rw [dropW_map, S.ho]) (fun p h => (dropW_mem h).1) (by rw [List.length_set]) (S'.re.set r1)))
  · refine .inr ⟨p, u, h1, h2, fun od => ?_⟩
    have S' := S.mono (h3 od).1
    exact k _ _ L _ (S'.slots (by rw [dropW_map, S.ho]) (fun p h => (dropW_mem h).1) (by rw [List.length_set]) (S'.re.set (h3 od).2))
end
end VL
set_option Elab.async false
set_option linter.all false
set_option maxRecDepth 100000
set_option maxHeartbeats 2000000
set_option autoImplicit false
/-! VSD: sorted of a list, or of a dict of texts (fewer than 64). -/
namespace VL
open PySem PySem.Spec L2 R
def sorted3P : PV → R PV
  | .dict false ks _ => match strsP ks with
    | some l => if decide (l.length < 64) && l.all (fun y => sok y && decide (y.length ≤ LN)) then .ok (.list ((sortN l).map .str)) else .bad
    | none => .bad
  | d => sorted2P d
theorem sorted3_list (xs : List PV) : sorted3P (.list xs) = sorted2P (.list xs) := rfl
theorem keys_strs : ∀ {ks : List Key} {l : List (List Nat)}, strsP (ks.map keyP) = some l → ks = (l.map fun y => (⟨y.toArray⟩ : Str)).map Sum.inr
  | [], _, h => by cases h; rfl
  | .inl i :: ks, _, h => by
    rw [List.map_cons] at h
    unfold strsP at h
    cases h
  | .inr x :: ks, l, h => by
    have h2 : (strsP (ks.map keyP)).map (fun r => x.cps.toList :: r) = some l := h
    cases e : strsP (ks.map keyP) with
    | none =>
      rw [e] at h2
      cases h2
    | some l' =>
      rw [e] at h2
      cases h2
      rw [keys_strs e]
      rfl
section
variable {T : Tb} {X : Cx}
theorem c1_sorted3 (hcalm : X.calm = true) (hK : X.K = T.K) (hu : X.A.units + 70 < cLine) : C1F T X (.builtin "sorted") sorted3P := by
  obtain ⟨r, hr, hq⟩ := c1_sorted2 (T := T) (X := X) hK hu
  refine ⟨_, hr.or (call_sortedD hcalm), fun L H x a Q x' t ra q => ?_⟩
  cases a with
  | dict tt ks vs =>
    cases tt with
    | false =>
      obtain ⟨p, kvs, rfl, h1, r1, hks⟩ := ra.dictK
      have q' : Res (match strsP ks with
        | some l => if decide (l.length < 64) && l.all (fun y => sok y && decide (y.length ≤ LN)) then R.ok (PV.list ((sortN l).map .str)) else R.bad
        | none => R.bad) (fun d => ∀ p H', Ex H H' → H p = none → RepO T (p :: L) H' p d → Q (.ref p) H') x' := q
      cases e : strsP ks with
      | none => rw [e] at q'; exact q'.elim
      | some l =>
        rw [e] at q'
        dsimp only at q'
        split at q'
        · rename_i hc
          obtain ⟨c1, c2⟩ := Bool.and_eq_true_iff.mp hc
          have h64 : l.length < 64 := of_decide_eq_true c1
          have e2 : kvs.map (·.1) = (l.map fun y => (⟨y.toArray⟩ : Str)).map Sum.inr := by
            refine keys_strs ?_
            rw [List.map_map]
            rw [hks] at e
            exact e
          have hl : ∀ y ∈ l, y.length ≤ LN ∧ sok y = true := fun y hy => by
            obtain ⟨d1, d2⟩ := Bool.and_eq_true_iff.mp (List.all_eq_true.mp c2 y hy)
            exact ⟨of_decide_eq_true d2, d1⟩
          refine .inr ⟨p, kvs, l.map fun y => ⟨y.toArray⟩, rfl, h1, e2, by rw [List.length_map]; exact h64, fun ys p' h2 h3 h4 => ?_⟩
          exact q' _ _ (ex_upd h4) h4 (sorted_rep hl (by show l.length ≤ 16777216; omega) h3 ((h2.map VLS.cp).trans (by rw [cp_back])) h4)
        · exact q'.elim
    | true => exact .inl (hq L H x _ Q x' t ra q)
  | _ => exact .inl (hq L H x _ Q x' t ra q)
end
end VL
set_option Elab.async false
set_option linter.all false
set_option maxRecDepth 100000
set_option maxHeartbeats 2000000
set_option autoImplicit false
/-! VLI: list(x); count of a text, of a list; get of a dict. -/
namespace VL
open PySem PySem.Spec PyProof.Rows L2 R
/-! ### one sign counted -/
theorem occ_cnt (x : Str) (c : Nat) : ∀ (n a : Nat) (st : Array Nat × Nat), a + n = x.length + 1 → st.snd ≤ a → st.fst.size + n ≤ x.length + 1 →
    (forIn (List.range' a n) st (PySem.StrLaws.occBody x ⟨#[c]⟩ x.length (x.length + 1))).run.fst.size = st.fst.size + (x.cps.toList.drop a).count c
  | 0, a, st, h1, h2, h3 => by
    have e : x.cps.toList.drop a = [] := List.drop_eq_nil_of_le (by rw [Array.length_toList]; show x.length ≤ a; omega)
    rw [e]
    simp
  | n + 1, a, st, h1, h2, h3 => by
    have hl : x.cps.toList.length = x.length := by rw [Array.length_toList]; rfl
    rw [List.range'_succ, List.forIn_cons]
    unfold PySem.StrLaws.occBody
    by_cases ha : a < x.length
    · have hd : x.cps.toList.drop a = x.cps.toList[a]'(by rw [hl]; exact ha) :: x.cps.toList.drop (a + 1) := List.drop_eq_getElem_cons _
      have hs : Builtin.Str.subAt x ⟨#[c]⟩ a = (x.cps.toList[a]'(by rw [hl]; exact ha) == c) := by
        rw [PySem.StrLaws.subAt_eq, hd]
        show ((x.cps.toList[a]'(by rw [hl]; exact ha) :: x.cps.toList.drop (a + 1)).take 1 == [c]) = _
        simp
      rw [hd, List.count_cons]
      by_cases hc : (x.cps.toList[a]'(by rw [hl]; exact ha) == c) = true
      · have c1 : ((st.fst.size < x.length + 1 ∧ st.snd ≤ a) ∧ a + (⟨#[c]⟩ : Str).length ≤ x.length) ∧ Builtin.Str.subAt x ⟨#[c]⟩ a = true := ⟨⟨⟨by omega, h2⟩, by show a + 1 ≤ x.length; omega⟩, by rw [hs]; exact hc⟩
        rw [if_pos c1, if_pos hc]
        have ih := occ_cnt x c n (a + 1) (st.fst.push a, a + (⟨#[c]⟩ : Str).length) (by omega) (Nat.le_refl _) (by simp; omega)
        refine ih.trans ?_
        simp
        omega
      · have c2 : ¬ (((st.fst.size < x.length + 1 ∧ st.snd ≤ a) ∧ a + (⟨#[c]⟩ : Str).length ≤ x.length) ∧ Builtin.Str.subAt x ⟨#[c]⟩ a = true) := fun h => hc (by rw [← hs]; exact h.2)
        rw [if_neg c2, if_neg hc]
        exact occ_cnt x c n (a + 1) (st.fst, st.snd) (by omega) (by show st.snd ≤ a + 1; omega) (by show st.fst.size + n ≤ _; omega)
    · have e : x.cps.toList.drop a = [] := List.drop_eq_nil_of_le (by rw [hl]; omega)
      have e1 : x.cps.toList.drop (a + 1) = [] := List.drop_eq_nil_of_le (by rw [hl]; omega)
      have c2 : ¬ (((st.fst.size < x.length + 1 ∧ st.snd ≤ a) ∧ a + (⟨#[c]⟩ : Str).length ≤ x.length) ∧ Builtin.Str.subAt x ⟨#[c]⟩ a = true) := fun h => by
        have z : a + 1 ≤ x.length := h.1.2
        omega
      rw [if_neg c2]
      have ih := occ_cnt x c n (a + 1) (st.fst, st.snd) (by omega) (by show st.snd ≤ a + 1; omega) (by show st.fst.size + n ≤ _; omega)
      rw [e]
      rw [e1] at ih
      exact ih
theorem txt_count1 (x : Str) (c : Nat) : Txt.count x ⟨#[c]⟩ = ((x.cps.toList.count c : Nat) : Int) := by
  unfold Txt.count
  rw [PySem.StrLaws.occ_eq, Array.length_toList, occ_cnt x c (x.length + 1 - 0) 0 (#[], 0) (by omega) (Nat.le_refl _) (by simp)]
  simp
/-- x.count(y): y one sign, or an item of the list x -/
def cntP (a d : PV) : R PV := match a, d with
  | .str x, .str [c] => .ok (.int ((x.count c : Nat) : Int))
  | .list ds, d => if (cmpOk d && cmpOk (.list ds)) = true then .ok (.int ((ds.countP (fun z => eqB z d) : Nat) : Int)) else .bad
  | _, _ => .bad
theorem mt_countD {X : Cx} (hu : X.A.units + 65 < cLine) : MtR X "list.count" (fun x xs H Q => ∃ (a : Addr) (y : V) (d : PyData) (ds : List PyData), x = V.ref a ∧ xs = [y] ∧ Dp X.K H (V.ref a) (.list ds) ∧ Dp X.K H y d ∧
    SeqAt.shaped (.list ds) = true ∧ SeqAt.shaped d = true ∧ Q (.int ((ds.countP (fun z => PyData.eqv z d) : Nat) : Int)) H) := by
  intro pins s σ H x xs v us Q I rx rxs h
  obtain ⟨a, y, d, ds, rfl, rfl, hl, hy, sl, sd, q⟩ := h
  cases rx
  cases rxs with
  | cons ry rt =>
    rename_i uy ut
    cases rt
    obtain ⟨bs, r1⟩ := Dp.reads I d y uy hy ry
    have hxs : PyData.canLayAll0 ds = true := SeqAt.canLay_of_shaped sl
    have hroom : X.A.units + 1 + min (PyData.depthAll ds) d.depth < cLine := room_in_shaped sd hu
    cases hl with
    | lst hs ha =>
      obtain ⟨its, rv, ⟨⟨cls, dd, data, sls⟩, n, ho, hc, hdn, hdt⟩, hlen⟩ := I.list hs
      simp only at hc hdt
      subst hc hdt
      obtain ⟨as, h4⟩ := Dp.readsAll I ds _ its ha rv
      have hmap : its.map (SeqAt.readOf s.heap) = ds := SeqAt.readsAll_map ds its as hxs h4
      refine call_meets PySem.F.slot_list_count ⟨_, ho, rfl⟩ PySem.F.entry_list_count (PySem.F.args_list_count_2 _ _)
        (SeqAt.list_countAt a its.toArray n dd sls uy (fun u => PyData.eqv (SeqAt.readOf s.heap u) d)) ⟨ho, SeqAt.items_eqAt (vs := its.toArray) (show ReadsAll s.heap its.toArray.toList ds as from h4) r1 hxs (SeqAt.canLay_of_shaped sd) hroom, ?_⟩
      have e : its.toArray.toList.countP (fun u => PyData.eqv (SeqAt.readOf s.heap u) d) = ds.countP (fun z => PyData.eqv z d) := by
        rw [← hmap, List.countP_map]
        rfl
      rw [e]
      exact ⟨.int ((ds.countP (fun z => PyData.eqv z d) : Nat) : Int), H, I.tok _, ⟨_, rfl⟩, q⟩
theorem count_toD (d : PV) : ∀ {ds : List PV}, dataBs ds = true → dataB d = true → (toDs ds).countP (fun z => PyData.eqv z (toD d)) = ds.countP (fun z => eqB z d)
  | [], _, _ => by simp [toDs]
  | z :: ds, h, hd => by
    unfold dataBs at h
    rw [Bool.and_eq_true] at h
    unfold toDs
    rw [List.countP_cons, List.countP_cons, count_toD d h.2 hd, eqv_toD _ _ h.1 hd]
def cntB : PV → Bool
  | .list _ => true
  | .str _ => true
  | _ => false
section
variable {T : Tb} {E : XK} {O : List Nat} {X : Cx} {a b c e o : Expr} {f g h : En → R PV} {pos apos cpos : Pos}
theorem m1_scount : VL.M1 T X "str" "str.count" strB cntP := by
  refine ⟨_, mt_count, fun L H x a r h => strB_ty _ r h, fun L H x y a b Q x' t ra hc rb q => ?_⟩
  unfold cntP at q
  split at q
  · obtain ⟨z, rfl, e1, l1, s1⟩ := ra.str
    obtain ⟨w, rfl, e2, l2, s2⟩ := rb.str
    rename_i c
    have ew : w = ⟨#[c]⟩ := by
      cases w with
      | mk cps =>
        have e3 : cps.toList = [c] := e2
        have e4 : cps = #[c] := by
          apply Array.toList_inj.mp
          rw [e3]
        rw [e4]
    refine ⟨z, w, rfl, rfl, ?_⟩
    rw [ew, txt_count1, e1]
    exact q _ _ (Evl.Ex.refl H) (.int _)
  · cases hc
  · exact q.elim
theorem m1_lcount (hK : X.K = T.K) (hu : X.A.units + 65 < cLine) : VL.M1 T X "list" "list.count" listB cntP := by
  refine ⟨_, mt_countD hu, fun L H x a r h => listB_ty _ r h, fun L H x y a b Q x' t ra hc rb q => ?_⟩
  unfold cntP at q
  split at q
  · cases hc
  · split at q
    · rename_i hm
      rw [Bool.and_eq_true] at hm
      obtain ⟨d1, s1⟩ := rb.dp hm.1
      obtain ⟨d2, s2⟩ := ra.dp hm.2
      have hd := cmp_data hm.2
      unfold toD at d2 s2
      unfold dataB at hd
      obtain ⟨p, xs, rfl, _, _, _⟩ := ra.list
      refine ⟨p, y, toD b, toDs _, rfl, rfl, by rw [hK]; exact d2, by rw [hK]; exact d1, s2, s1, ?_⟩
      rw [count_toD b hd (cmp_data hm.1)]
      exact q _ _ (Evl.Ex.refl H) (.int _)
    · exact q.elim
  · exact q.elim
end
/-! ### list(x) -/
def list1P : PV → R PV
  | .list xs => .ok (.list xs)
  | .kn xs => .ok (.list xs)
  | .tup xs => .ok (.list xs)
  | .str x => .ok (.list (x.map fun c => PV.str [c]))
  | _ => .bad
theorem vals_get : ∀ {xs : List V} {us : List Value}, xs.length = us.length → (∀ (i : Nat) x u, xs[i]? = some x → us[i]? = some u → RelV x u) → Vals xs us
  | [], [], _, _ => .nil
  | [], _ :: _, h, _ => by cases h
  | _ :: _, [], h, _ => by cases h
  | x :: xs, u :: us, h, q => .cons (q 0 x u rfl rfl) (vals_get (by simpa using h) fun i x' u' h1 h2 => q (i + 1) x' u' (by simpa using h1) (by simpa using h2))
theorem call_list_txt {X : Cx} (hc : X.calm = true) : CallR X (.type "list") (fun xs H Q => ∃ x : Str, xs = [.str x] ∧ x.cps.size ≤ sizeLine ∧ ∀ l, H l = none → Q (.ref l) (upd H l (.lst (x.cps.toList.map fun c => V.str ⟨#[c]⟩)))) := by
  intro pins s σ H xs us Q I r h
  obtain ⟨x, rfl, hz, q⟩ := h
  obtain ⟨u, rfl, rx⟩ := vals1 r
  obtain ⟨t, rfl⟩ := rx
  refine call_list_str (I.ok.hd hc) x t (hn := hz) fun h' tk acc c' hk hS hacc => ?_
  obtain ⟨hsz, hit⟩ := hacc
  refine ⟨.ref s.heap.objs.size, _, I.laid (t' := tk) hk (Nat.le_refl _) (show ObjOk X.prog X.w _ h' _ (.lst _) from ⟨by rw [List.length_map, Array.length_toList]; exact hz, acc.toList, c', ?_, hS⟩), rfl, q _ (I.hok.fresh (Nat.le_refl _))⟩
  refine vals_get (by rw [List.length_map, Array.length_toList, Array.length_toList, hsz]) fun i y u h1 h2 => ?_
  rw [List.getElem?_map, Array.getElem?_toList] at h1
  rw [Array.getElem?_toList] at h2
  obtain ⟨c, u', e1, e2⟩ := hit i u h2
  rw [e1] at h1
  cases h1
  exact ⟨u', e2⟩
section
variable {T : Tb} {E : XK} {O : List Nat} {X : Cx} {a b c e o : Expr} {f g h : En → R PV} {pos apos cpos : Pos}
theorem c1_list (hc : X.calm = true) (hK : X.K = T.K) : C1F T X (.type "list") list1P := by
  refine ⟨_, call_list_of.or (call_list_txt hc), fun L H x a Q x' t ra q => ?_⟩
  have mk : ∀ {xs : List V} {ds : List PV} {l : Addr}, RepA T (hid H L) xs ds → xs.length ≤ sizeLine → H l = none → RepO T (l :: L) (upd H l (.lst xs)) l (.list ds) := fun r z hn => .lst upd_same (r.mono (hid_more (ex_upd hn) hn)) z
  unfold list1P at q
  split at q
  · obtain ⟨p, xs, rfl, h1, r1, l1⟩ := ra.list
    exact .inl ⟨p, xs, rfl, .inl (SqL.of h1), fun l hn => q _ _ (ex_upd hn) hn (mk r1 l1 hn)⟩
  · obtain ⟨p, xs, rfl, h1, r1, l1⟩ := ra.kn
    exact .inl ⟨p, xs, rfl, by rw [hK]; exact h1, fun l hn => q _ _ (ex_upd hn) hn (mk r1 l1 hn)⟩
  · obtain ⟨p, xs, rfl, h1, r1, l1, _⟩ := ra.tup
    exact .inl ⟨p, xs, rfl, .inr (SqT.of h1), fun l hn => q _ _ (ex_upd hn) hn (mk r1 l1 hn)⟩
  · obtain ⟨z, rfl, e1, l1, s1⟩ := ra.str
    refine .inr ⟨z, rfl, l1, fun l hn => q _ _ (ex_upd hn) hn (.lst upd_same ?_ (by rw [List.length_map, Array.length_toList]; exact l1))⟩
    subst e1
    have rec_ : ∀ (l' : List Nat), sok l' = true → RepA T (hid (upd H l (.lst (z.cps.toList.map fun c => V.str ⟨#[c]⟩))) (l :: L)) (l'.map fun c => V.str ⟨#[c]⟩) (l'.map fun c => PV.str [c]) := by
      intro l'
      induction l' with
      | nil => intro _; exact .nil
      | cons c l' ih =>
        intro hs
        exact .cons (rep_sig (sok_mem.mp hs c List.mem_cons_self)) (ih (by
          rw [sok_mem] at hs ⊢
          exact fun d hd => hs d (List.mem_cons_of_mem _ hd)))
    exact rec_ _ s1
  · exact q.elim
/-! ### d.get(k, z) -/
def dictB : PV → Bool
  | .dict _ _ _ => true
  | _ => false
def getP (a k z : PV) : R PV := match a with
  | .dict t ks vs => if dkOk t k then .ok ((lookP k ks vs).getD z) else .bad
  | _ => .bad
theorem isD_rep {L : List Addr} {H : Hp} {v : V} {d : PV} (r : RepW T L H v d) (h : dictB d = true) : ∃ a, v = .ref a ∧ IsD H a := by
  cases d with
  | dict t ks vs =>
    cases t with
    | false =>
      obtain ⟨a, kvs, rfl, h1, _⟩ := r.dictK
      exact ⟨a, rfl, .inl ⟨kvs, h1⟩⟩
    | true =>
      obtain ⟨a, kvs, rfl, h1, _⟩ := r.dictT
      exact ⟨a, rfl, .inr ⟨kvs, .of h1⟩⟩
  | _ => cases h
theorem ve_get2 (hu : X.A.units + 1 < cLine) (ha : VW T E O X o f) (hb : VW T E O X e g) (hc : VE T E O X c h) (m : M2 X o "get" apos e c cpos := by exact ⟨rfl, rfl, rfl, rfl⟩) :
    VE T E O X (.Call (.Attribute o "get" apos) [e, c] [] cpos) (fun env => do getP (← chkR dictB (← f env)) (← g env) (← h env)) := by
  obtain ⟨ta, pa, qa⟩ := ha
  obtain ⟨tb, pb, qb⟩ := hb
  obtain ⟨tc, pc, qc⟩ := hc
  refine ⟨_, pe_dget2 hu pa pb pc m, fun L ow H σ env Q ho re hq => ?_⟩
  simp only [res_bind] at hq
  refine qa L ow H σ env _ ho re (hq.imp (fun d k v H1 e1 rv => ?_) fun _ _ x => x)
  unfold chkR at k
  split at k
  · rename_i hk
    rw [res_ok] at k
    obtain ⟨p, rfl, hd⟩ := isD_rep rv hk
    refine ⟨p, rfl, hd, qb L ow H1 σ env _ ho (re.mono e1) (k.imp (fun d' k' v' H2 e2 rv' => ?_) fun _ _ x => xw_mono e1 x)⟩
    refine qc L ow H2 σ env _ ho (re.mono (e1.trans e2)) (k'.imp (fun d2 k2 w H3 e3 rw' => ?_) fun _ _ x => xw_mono (e1.trans e2) x)
    cases d with
    | dict t ks vs =>
      have k3 : Res (if dkOk t d' then R.ok ((lookP d' ks vs).getD d2) else R.bad) (KV' T L H Q) _ := k2
      split at k3
      · rename_i hkk
        obtain ⟨p', r, ep, g0, g1, g2⟩ := dget_of ((rv.mono e2).mono e3) (rv'.mono e3) hkk
        cases ep
        refine ⟨r, g0, ?_⟩
        have k4 := k3 (r.getD w) H3 ((e1.trans e2).trans e3)
        cases hr : r with
        | none =>
          rw [hr] at g2 k4
          cases hl : lookP d' ks vs with
          | none =>
            rw [hl] at k4
            exact k4 rw'
          | some d3 =>
            rw [hl] at g2
            cases g2
        | some w2 =>
          obtain ⟨d3, e3', r3⟩ := g1 w2 hr
          rw [hr, e3'] at k4
          exact k4 r3
      · exact k3.elim
    | _ => cases hk
  · exact k.elim
/-- d.get(k) -/
theorem ve_get1 (hu : X.A.units + 1 < cLine) (ha : VW T E O X o f) (hb : VW T E O X e g) (m : L2.M1 X o "get" apos e cpos := by exact ⟨rfl, rfl, rfl, rfl⟩) :
    VE T E O X (.Call (.Attribute o "get" apos) [e] [] cpos) (fun env => do getP (← chkR dictB (← f env)) (← g env) .none) := by
  obtain ⟨ta, pa, qa⟩ := ha
  obtain ⟨tb, pb, qb⟩ := hb
  refine ⟨_, pe_dget1 hu pa pb m, fun L ow H σ env Q ho re hq => ?_⟩
  simp only [res_bind] at hq
  refine qa L ow H σ env _ ho re (hq.imp (fun d k v H1 e1 rv => ?_) fun _ _ x => x)
  unfold chkR at k
  split at k
  · rename_i hk
    rw [res_ok] at k
    obtain ⟨p, rfl, hd⟩ := isD_rep rv hk
    refine ⟨p, rfl, hd, qb L ow H1 σ env _ ho (re.mono e1) (k.imp (fun d' k' v' H2 e2 rv' => ?_) fun _ _ x => xw_mono e1 x)⟩
    cases d with
    | dict t ks vs =>
      have k3 : Res (if dkOk t d' then R.ok ((lookP d' ks vs).getD .none) else R.bad) (KV' T L H Q) _ := k'
      split at k3
      · rename_i hkk
        obtain ⟨p', r, ep, g0, g1, g2⟩ := dget_of (rv.mono e2) rv' hkk
        cases ep
        refine ⟨r, g0, ?_⟩
        have k4 := k3 (r.getD .non) H2 (e1.trans e2)
        cases hr : r with
        | none =>
          rw [hr] at g2 k4
          cases hl : lookP d' ks vs with
          | none =>
            rw [hl] at k4
            exact k4 .non
          | some d3 =>
            rw [hl] at g2
            cases g2
        | some w2 =>
          obtain ⟨d3, e3', r3⟩ := g1 w2 hr
          rw [hr, e3'] at k4
          exact k4 r3
      · exact k3.elim
    | _ => cases hk
  · exact k.elim
end
abbrev cGet (f g h : En → R PV) : En → R PV := fun env => do getP (← chkR dictB (← f env)) (← g env) (← h env)
abbrev cGet1 (f g : En → R PV) : En → R PV := fun env => do getP (← chkR dictB (← f env)) (← g env) .none
end VL
set_option Elab.async false
set_option linter.all false
set_option maxRecDepth 100000
set_option maxHeartbeats 2000000
set_option autoImplicit false
/-! VGR: for x in ..: found.setdefault(k, []).append(e), found a new empty dict. -/
namespace VL
open PySem PySem.Spec L2 R

/-! ### situations with hidden objects that no slot holds -/
section
variable {T : Tb} {n : Nat} {L0 L : List Addr} {B H0 H : Hp} {O : List Nat} {ow : List (Nat × Addr)} {σ : L2.St} {env : En}
/-- an own object is held by no slot from now on -/
theorem Sit.forget {i : Nat} (S : Sit T n B L0 H0 O L ow H σ env) : Sit T n B L0 H0 (dropO O i) L (dropW ow i) H σ (env.set i none) where
  ho := by rw [dropW_map, S.ho]
  t0 := S.t0
  sub := S.sub
  ex := S.ex
  new := S.new
  no0 := fun p hp => S.no0 p (dropW_mem hp).1
  re := {
    len := by rw [List.length_set, S.re.len]
    fr := fun j d h hj => by
      by_cases e : j = i
      · subst e
        by_cases hl : j < env.length
        · rw [List.getElem?_set_self hl] at h; cases h
        · rw [List.getElem?_eq_none (by simpa using hl)] at h; cases h
      · rw [getO e] at h
        exact S.re.fr j d h fun hm => hj (by
          rw [dropW_map]
          unfold dropO
          exact List.mem_filter.mpr ⟨hm, by simpa using e⟩)
    own := fun j a h => by
      obtain ⟨h1, h2⟩ := dropW_mem h
      obtain ⟨q1, q2, d, q3, q4⟩ := S.re.own j a h1
      exact ⟨q1, q2, d, by rw [getO h2]; exact q3, q4⟩
    trk := S.re.trk
    nd := List.Nodup.sublist (List.Sublist.map _ List.filter_sublist) S.re.nd
    nd1 := List.Nodup.sublist (List.Sublist.map _ List.filter_sublist) S.re.nd1 }
  len := by rw [List.length_set, S.len]
  bs := S.bs
/-- one more hidden address, that was free -/
theorem Sit.hide {H' : Hp} {p : Addr} (S : Sit T n B L0 H0 O L ow H σ env) (e : Ex H H') (hp : H p = none) (hp' : H' p ≠ none) : Sit T n B L0 H0 O (p :: L) ow H' σ env where
  ho := S.ho
  t0 := S.t0
  sub := fun a h => List.mem_cons_of_mem _ (S.sub a h)
  ex := S.ex.trans e
  new := fun a h => by
    rcases List.mem_cons.mp h with rfl | h
    · exact .inr (Evl.fresh_back S.ex hp)
    · exact S.new a h
  no0 := S.no0
  re := {
    len := S.re.len
    fr := fun j d h hj => by
      obtain ⟨v, h1, h2⟩ := S.re.fr j d h hj
      exact ⟨v, h1, h2.mono (hid_more e hp)⟩
    own := fun j a h => by
      obtain ⟨q1, q2, d, q3, q4⟩ := S.re.own j a h
      exact ⟨List.mem_cons_of_mem _ q1, q2, d, q3, q4.more e hp⟩
    trk := fun a h => by
      rcases List.mem_cons.mp h with rfl | h
      · exact hp'
      · exact S.re.trk.mono e a h
    nd := S.re.nd
    nd1 := S.re.nd1 }
  len := S.len
  bs := S.bs.trans (hid_more e hp)
/-- a hidden object that no slot holds is changed -/
theorem Sit.hupd {a : Addr} {o : HO} (S : Sit T n B L0 H0 O L ow H σ env) (haL : a ∈ L) (ha0 : H0 a = none) (hw : ∀ p ∈ ow, p.2 ≠ a) : Sit T n B L0 H0 O L ow (upd H a o) σ env := by
  have he := hid_upd (H := H) (o := o) haL
  refine ⟨S.ho, S.t0, S.sub, fun b u hb => ?_, S.new, S.no0, ⟨S.re.len, fun j d' h hj => ?_, fun j b hb => ?_, fun b hb => ?_, S.re.nd, S.re.nd1⟩, S.len, by rw [he]; exact S.bs⟩
  · rw [upd_ne (ne_of_none hb ha0)]
    exact S.ex b u hb
  · rw [he]
    exact S.re.fr j d' h hj
  · obtain ⟨q1, q2, d', q3, q4⟩ := S.re.own j b hb
    have eb : b ≠ a := hw _ hb
    refine ⟨q1, q2, d', q3, ?_⟩
    cases q4 with
    | lst h r z => exact .lst (by rw [upd_ne eb]; exact h) (by rw [he]; exact r) z
    | dK h r => exact .dK (by rw [upd_ne eb]; exact h) (by rw [he]; exact r)
    | dT h r => exact .dT (by rw [upd_ne eb]; exact h) (by rw [he]; exact r)
  · by_cases eb : b = a
    · rw [eb, upd_same]
      exact fun z => nomatch z
    · rw [upd_ne eb]
      exact S.re.trk b hb
/-- hidden objects may be known from now on; one of them is a slot's own -/
theorem Sit.unhide {i : Nat} {a : Addr} {d : PV} {qs : List Addr} (S : Sit T n B L0 H0 O L ow H σ env) (hi : i ∉ O) (hin : i < n) (haL : a ∈ L) (haq : a ∉ qs) (ha0 : H0 a = none) (hw : ∀ p ∈ ow, p.2 ≠ a) (hq0 : ∀ q ∈ qs, H0 q = none) (hqw : ∀ q ∈ qs, ∀ p ∈ ow, p.2 ≠ q)
    (hσ : σ[i]? = some (some (.ref a))) (r : RepO T (L.filter fun b => !qs.contains b) H a d) : Sit T n B L0 H0 (i :: O) (L.filter fun b => !qs.contains b) ((i, a) :: ow) H σ (env.set i (some d)) := by
  have sub : ∀ b ∈ L.filter (fun b => !qs.contains b), b ∈ L := fun b hb => (List.mem_filter.mp hb).1
  have lift : ∀ {b : Addr}, b ∈ L → b ∉ qs → b ∈ L.filter (fun b => !qs.contains b) := fun {b} hb hn => List.mem_filter.mpr ⟨hb, by simpa using hn⟩
  have ex := hid_sub (H := H) sub
  refine ⟨by rw [List.map_cons, S.ho], S.t0, fun b hb => lift (S.sub b hb) (fun z => S.t0 b hb (hq0 b z)), S.ex, fun b hb => S.new b (sub b hb), fun p hp => ?_,
    ⟨by rw [List.length_set, S.re.len], fun k d' h hk => ?_, fun k b hb => ?_, fun b hb => S.re.trk b (sub b hb), ?_, ?_⟩, by rw [List.length_set, S.len], S.bs.trans ex⟩
  · rcases List.mem_cons.mp hp with rfl | hp
    · exact fun z => S.t0 a z ha0
    · exact S.no0 p hp
  · have ek : k ≠ i := fun z => hk (by rw [z]; exact List.mem_cons_self)
    rw [getO ek] at h
    obtain ⟨v, h1, h2⟩ := S.re.fr k d' h fun hm => hk (List.mem_cons_of_mem _ hm)
    exact ⟨v, h1, h2.mono ex⟩
  · rcases List.mem_cons.mp hb with e | hb
    · cases e
      exact ⟨lift haL haq, hσ, d, by rw [List.getElem?_set_self (by rw [S.len]; exact hin)], r⟩
    · have ek : k ≠ i := fun z => hi (by rw [← S.ho, ← z]; exact List.mem_map.mpr ⟨_, hb, rfl⟩)
      obtain ⟨q1, q2, d', q3, q4⟩ := S.re.own k b hb
      exact ⟨lift q1 (fun z => hqw b z _ hb rfl), q2, d', by rw [getO ek]; exact q3, q4.sub sub'⟩
  · rw [List.map_cons]
    refine List.nodup_cons.mpr ⟨fun hm => ?_, S.re.nd⟩
    obtain ⟨p, hp, e⟩ := List.mem_map.mp hm
    exact hw p hp e
  · rw [List.map_cons]
    exact List.nodup_cons.mpr ⟨by rw [S.ho]; exact hi, S.re.nd1⟩
where sub' : ∀ b ∈ L.filter (fun b => !qs.contains b), b ∈ L := fun b hb => (List.mem_filter.mp hb).1
end

/-! ### the lists in the dict -/
inductive GrpR (T : Tb) (Hx H : Hp) (m : Nat) : List (Key × V) → List Addr → List PV → Prop
  | nil : GrpR T Hx H m [] [] []
  | cons {k : Key} {q : Addr} {xs : List V} {ds : List PV} {kvs : List (Key × V)} {qs : List Addr} {vs : List PV} : H q = some (.lst xs) → RepA T Hx xs ds → xs.length ≤ m → GrpR T Hx H m kvs qs vs → GrpR T Hx H m ((k, .ref q) :: kvs) (q :: qs) (.list ds :: vs)
/-- d behind the list of k -/
def addG (k d : PV) : List PV → List PV → Option (List PV)
  | q :: ks, .list ds :: vs => if eqB q k then some (.list (ds ++ [d]) :: vs) else (addG k d ks vs).map (.list ds :: ·)
  | _, _ => none
def grpS (k d : PV) (ks vs : List PV) : List PV × List PV := match addG k d ks vs with
  | some vs' => (ks, vs')
  | none => (ks ++ [k], vs ++ [.list [d]])
section
variable {T : Tb} {Hx Hx' H H' : Hp} {m m' : Nat} {kvs : List (Key × V)} {qs : List Addr} {vs : List PV}
theorem GrpR.mono (g : GrpR T Hx H m kvs qs vs) (e : Ex Hx Hx') (h : ∀ q ∈ qs, ∀ o, H q = some o → H' q = some o) (hm : m ≤ m') : GrpR T Hx' H' m' kvs qs vs := by
  induction g with
  | nil => exact .nil
  | cons h1 r z g ih => exact .cons (h _ List.mem_cons_self _ h1) (r.mono e) (Nat.le_trans z hm) (ih fun q hq => h q (List.mem_cons_of_mem _ hq))
theorem GrpR.find {k d : PV} (hk : keyB k = true) (g : GrpR T Hx H m kvs qs vs) : (match addG k d (kvs.map fun e => keyP e.1) vs with
    | some vs' => ∃ q xs, valV kvs (keyOf k) = some (.ref q) ∧ q ∈ qs ∧ H q = some (.lst xs) ∧ xs.length ≤ m ∧ ∀ (Hx' H' : Hp) (w : V), Ex Hx Hx' → Rep T Hx' w d → H' q = some (.lst (xs ++ [w])) → (∀ b ∈ qs, b ≠ q → ∀ o, H b = some o → H' b = some o) → qs.Nodup → GrpR T Hx' H' (m + 1) kvs qs vs'
    | none => valV kvs (keyOf k) = none) := by
  induction g with
  | nil => exact valV_nil
  | @cons k0 q xs ds kvs qs vs h1 r z g ih =>
    rw [List.map_cons]
    unfold addG
    by_cases e : k0 = keyOf k
    · have e1 : eqB (keyP k0) k = true := by rw [eqB_key k0 k hk, decide_eq_true e]
      rw [if_pos e1]
      refine ⟨q, xs, valV_pos e, List.mem_cons_self, h1, z, fun Hx' H' w eh rw' h2 h3 nd => ?_⟩
      rw [List.nodup_cons] at nd
      exact .cons h2 ((r.mono eh).append (.one rw')) (by rw [List.length_append]; simp; omega) (g.mono eh (fun b hb o hbo => h3 b (List.mem_cons_of_mem _ hb) (fun z => nd.1 (z ▸ hb)) o hbo) (Nat.le_succ _))
    · have e1 : eqB (keyP k0) k = false := by rw [eqB_key k0 k hk, decide_eq_false e]
      rw [if_neg (by rw [e1]; exact Bool.false_ne_true)]
      cases ha : addG k d (kvs.map fun e => keyP e.1) vs with
      | none =>
        rw [ha] at ih
        rw [show valV ((k0, V.ref q) :: kvs) (keyOf k) = valV kvs (keyOf k) from valV_neg e]
        exact ih
      | some vs' =>
        rw [ha] at ih
        obtain ⟨q2, xs2, f1, f2, f3, f4, f5⟩ := ih
        refine ⟨q2, xs2, by rw [show valV ((k0, V.ref q) :: kvs) (keyOf k) = valV kvs (keyOf k) from valV_neg e]; exact f1, List.mem_cons_of_mem _ f2, f3, f4, fun Hx' H' w eh rw' h2 h3 nd => ?_⟩
        rw [List.nodup_cons] at nd
        have hne : q ≠ q2 := fun z => nd.1 (by rw [z]; exact f2)
        exact .cons (h3 q List.mem_cons_self hne _ h1) (r.mono eh) (by omega) (f5 Hx' H' w eh rw' h2 (fun b hb hbn o hbo => h3 b (List.mem_cons_of_mem _ hb) hbn o hbo) nd.2)
theorem GrpR.snoc {k : Key} {p : Addr} {w : V} {d : PV} (g : GrpR T Hx H m kvs qs vs) (hp : H p = some (.lst [w])) (r : Rep T Hx w d) (hm : 1 ≤ m) : GrpR T Hx H m (kvs ++ [(k, .ref p)]) (qs ++ [p]) (vs ++ [.list [d]]) := by
  induction g with
  | nil => exact .cons hp (.one r) hm .nil
  | cons h1 r1 z g ih => exact .cons h1 r1 z ih
theorem GrpR.rep {L : List Addr} (hx : Ex Hx (hid H L)) (hm : m ≤ LN) (g : GrpR T Hx H m kvs qs vs) (hq : ∀ q ∈ qs, q ∉ L) : RepA T (hid H L) (kvs.map (·.2)) vs := by
  induction g with
  | nil => exact .nil
  | cons h1 r z g ih => exact .cons (.lst (hid_some.mpr ⟨hq _ List.mem_cons_self, h1⟩) (r.mono hx) (lnS (Nat.le_trans z hm))) (ih fun q hb => hq q (List.mem_cons_of_mem _ hb))
theorem GrpR.here {q : Addr} (g : GrpR T Hx H m kvs qs vs) (hq : q ∈ qs) : H q ≠ none := by
  induction g with
  | nil => exact (nomatch hq)
  | cons h1 r z g ih =>
    rcases List.mem_cons.mp hq with rfl | hq
    · rw [h1]; exact fun z => nomatch z
    · exact ih hq
end

/-! ### the loop -/
def grpL (fg : PV → En → R En) (fk fe : En → R PV) : List PV → En → List PV → List PV → R (En × List PV × List PV)
  | [], env, ks, vs => .ok (env, ks, vs)
  | x :: r, env, ks, vs => do
    let env1 ← fg x env
    let k ← fk env1
    if keyB k = true then do
      let d ← fe env1
      grpL fg fk fe r env1 (grpS k d ks vs).1 (grpS k d ks vs).2
    else .bad
abbrev sGrp (i : Nat) (fi : En → R (List PV)) (fg : PV → En → R En) (fk fe : En → R PV) : En → R Fl := fun env => do
  let items ← fi env
  match (← getE env i) with
  | .dict false [] [] => do
    let z ← grpL fg fk fe items (env.set i none) [] []
    .ok (.nx (z.1.set i (some (.dict false z.2.1 z.2.2))))
  | _ => .bad
section
variable {M : Md} {T : Tb} {E : XK} {O O1 : List Nat} {X : Cx} {tg it a c e : Expr} {fi : En → R (List PV)} {fg : PV → En → R En} {fk fe : En → R PV} {pos pos' pos2 apos bpos cpos npos lpos : Pos} {x : Str} {kk : Nat}
theorem vs_group (i : Nat) {ts : List Nat} (hO : O.contains i = true) (hO1 : dropO O i = O1) (hts : ts.contains i = false) (hp : PassesOwn (model X.prog X.w) X.A X.env X.xe) (hc : X.calm = true)
    (hi : VI T E O X tg it fi) (hg : VG T O1 O1 X tg ts fg) (hk : VE T E O1 X c fk) (he : VE T E O1 X e fe) (hN : X.N[i]? = some x := by rfl) (hv : Vis X.env.scope x := by first | exact Or.inl rfl | exact Or.inr (Or.inl rfl) | exact Or.inr (Or.inr rfl))
    (hd : (x == ("__debug__" : Str)) = false := by decide) (hcd : (x == ("__classdict__" : Str)) = false := by decide)
    (m2 : M2 X (.Name x npos) "setdefault" apos c (.List [] lpos) cpos := by exact ⟨rfl, rfl, rfl, rfl⟩)
    (hbase : attributeBase (.Call (.Attribute (.Name x npos) "setdefault" apos) [c, .List [] lpos] [] cpos) "append" X.env (eval (.Call (.Attribute (.Name x npos) "setdefault" apos) [c, .List [] lpos] [] cpos) X.env) = eval (.Call (.Attribute (.Name x npos) "setdefault" apos) [c, .List [] lpos] [] cpos) X.env := by rfl)
    (hfew : ((backTo pos (starEach [e] X.env)).all (fun x => !x.1) && (backToKw pos (keywordEach [] X.env)).all (fun x => x.1.isSome)
      && decide (([e] : List Expr).length + ([] : List Keyword).length + (if ([] : List Keyword).isEmpty then 0 else 1) < 30)) = true := by rfl)
    (hline : (bpos.endLine == pos.line) = true := by rfl) (hs : starEach [e] X.env = (false, eval e X.env) :: starEach [] X.env := by rfl) (hplain : (backTo pos (starEach [] X.env)).any (·.1) = false := by rfl)
    (hsw : swapsWith (.Call (.Attribute (.Call (.Attribute (.Name x npos) "setdefault" apos) [c, .List [] lpos] [] cpos) "append" bpos) [e] [] pos) none pos'.line X.env = pure false := by rfl)
    (hfs : ∀ x, foldedSetIterable it X.env x = pure x := by intro _; rfl) :
    VS1 (M := M) T E O (i :: O1) X (.For tg it [.Expr (.Call (.Attribute (.Call (.Attribute (.Name x npos) "setdefault" apos) [c, .List [] lpos] [] cpos) "append" bpos) [e] [] pos) pos'] [] pos2) (sGrp i fi fg fk fe) := by
  obtain ⟨wi, pi, qi⟩ := hi
  obtain ⟨tg', pg, qg⟩ := hg
  obtain ⟨tk, pk, qk⟩ := hk
  obtain ⟨te, pe, qe⟩ := he
  obtain ⟨tn, pn, qn⟩ := (vf_list (T := T) (E := E) (O := O1) (X := X) (pos := lpos) va_nil)
  refine ⟨_, ps_for hp hc pi pg (pss_one (ps_expr (pe_bm PySem.F.plainAttrs_list PySem.F.slot_list_append PySem.F.type_list_append mt_append (pe_dsetd (pe_var hN hv hd hcd) pk pn m2) (pa_cons pe pa_nil hs) hbase hfew hline hs hplain) hsw)) hfs,
    fun B L0 H0 L ow H σ env D S h => ?_⟩
  unfold sGrp at h
  simp only [res_bind] at h
  refine qi L ow H σ env _ S.ho S.re (h.imp (fun items k J H1 e1 J1 => ?_) fun _ _ x => xw_mono S.ex x)
  obtain ⟨n, G, Y, W, hn, hnl, hG, hY⟩ := J1
  subst hn
  have hB : Ex B (hid H1 L) := S.bs.trans (hid_ex e1)
  have hmi : i ∈ ow.map (·.1) := by rw [S.ho]; simpa using hO
  obtain ⟨⟨j, ad⟩, hm, rfl⟩ := List.mem_map.mp hmi
  dsimp only at hO hO1 hts hN k
  have S1 := S.base e1
  obtain ⟨haL, hσ, d0, hd0, r0⟩ := S1.re.own j ad hm
  have hgt : getE env j = .ok d0 := by unfold getE; rw [hd0]
  rw [hgt, res_ok] at k
  have hj : j < X.N.length := by
    rw [← S.len]
    exact (List.getElem?_eq_some_iff.mp hd0).1
  have ha0 : H0 ad = none := by
    rcases S.new ad haL with z | z
    · exact absurd z (S.no0 _ hm)
    · exact z
  have hjO : j ∉ O1 := by
    rw [← hO1]
    unfold dropO
    intro z
    have := (List.mem_filter.mp z).2
    simp at this
  cases r0 with
  | lst _ _ _ => exact k.elim
  | dT _ _ => exact k.elim
  | @dK kvs0 vs0 hl0 rl0 =>
    cases kvs0 with
    | cons e0 r0 =>
      cases rl0
      exact k.elim
    | nil =>
      cases rl0
      have k1 : Res (grpL fg fk fe items (env.set j none) [] []) _ _ := (res_bind (r := grpL fg fk fe items (env.set j none) [] [])).mp k
      have S2 : Sit T X.N.length (hid H1 L) L0 H0 O1 L (dropW ow j) H1 σ (env.set j none) := by
        rw [← hO1]
        exact S1.forget
      have hdw : ∀ p ∈ dropW ow j, p.2 ≠ ad := fun p hp z => by
        obtain ⟨h1, h2⟩ := dropW_mem hp
        exact h2 (nodup_snd S.re.nd (a := ad) (by rw [← z]; exact h1) hm)
      refine for_it W (fun t σ' H' => ∃ L' ow' env' kvs qs vs, Sit T X.N.length (hid H1 L) L0 H0 O1 L' ow' H' σ' env' ∧ ad ∈ L' ∧ (∀ p ∈ ow', p.2 ≠ ad) ∧ H' ad = some (.dK kvs) ∧ σ'[j]? = some (some (.ref ad)) ∧ kvs.length ≤ t ∧
          GrpR T (hid H' L') H' t kvs qs vs ∧ qs.Nodup ∧ (∀ q ∈ qs, q ∈ L' ∧ H0 q = none ∧ q ≠ ad ∧ ∀ p ∈ ow', p.2 ≠ q) ∧
          Res (grpL fg fk fe (items.drop t) env' (kvs.map fun e => keyP e.1) vs) (fun z => Res (.ok (.nx (z.1.set j (some (.dict false z.2.1 z.2.2))))) (AfterS (M := M) T X.N.length B L0 H0 (j :: O1) D) (xw T E H0)) (xw T E H0))
        ⟨L, _, _, [], [], [], S2, haL, hdw, hl0, hσ, Nat.le_refl _, .nil, List.nodup_nil, fun q hq => (nomatch hq), k1⟩
        (fun t σ' H' _ ⟨L', ow', env', kvs, qs, vs, S', _⟩ => hG H' (S'.bs.trans hid_le)) (fun t y σ' H' H2 ht ⟨L', ow', env', kvs, qs, vs, S', a1, a2, a3, a4, a5, g, nd, a6, k'⟩ yy => ?_)
        (fun σ' H' ⟨L', ow', env', kvs, qs, vs, S', a1, a2, a3, a4, a5, g, nd, a6, k'⟩ => ?_)
      · have hdt : items[t]? = some items[t] := List.getElem?_eq_getElem ht
        obtain ⟨e2, r2⟩ := hY t H' L' y H2 items[t] hdt S'.re.trk S'.bs yy
        rw [List.drop_eq_getElem_cons ht] at k'
        unfold grpL at k'
        simp only [res_bind] at k'
        have S2' := S'.mono e2
        refine qg L' ow' H2 σ' env' y items[t] _ _ S2'.ho S2'.re r2 (k'.imp (fun env3 k3 σ3 ow3 ho3 hw3 hl3 hσ3 re3 => ?_) fun _ _ x => x)
        have S3 := S2'.slots ho3 hw3 hl3 re3
        have a4' : σ3[j]? = some (some (.ref ad)) := by
          rw [hσ3 j (by simpa using hts)]
          exact a4
        have a3' : H2 ad = some (.dK kvs) := e2 _ _ a3
        refine ⟨_, a4', ad, rfl, .inl ⟨kvs, .of a3'⟩, ?_⟩
        refine qk L' ow3 H2 σ3 env3 _ S3.ho S3.re (k3.imp (fun dk k4 vk H3 e3 rk => ?_) fun _ _ x => xw_mono S3.ex x)
        have S4 := S3.mono e3
        by_cases hkb : keyB dk = true
        · rw [if_pos hkb, res_bind] at k4
          have ev : vk = kV (keyOf dk) := RepW.key (.st rk) hkb
          refine qn L' ow3 H3 σ3 env3 _ S4.ho S4.re ?_
          have hlim : (fun env => do let l ← (R.ok ([] : List PV)); lim l.length (R.ok (PV.list l)) : En → R PV) env3 = .ok (.list []) := by
            show lim 0 _ = _
            unfold lim
            rfl
          refine (show Res ((fun env => do let l ← (R.ok ([] : List PV)); lim l.length (R.ok (PV.list l)) : En → R PV) env3) _ _ from ?_)
          rw [hlim, res_ok]
          intro p H4 e4 hp4 r4
          have S5 := S4.mono e4
          have a33 : H3 ad = some (.dK kvs) := e3 _ _ a3'
          have a34 : H4 ad = some (.dK kvs) := e4 _ _ a33
          have g3 : GrpR T (hid H3 L') H3 t kvs qs vs := g.mono (hid_ex (e2.trans e3)) (fun q _ o hqo => e3 _ _ (e2 _ _ hqo)) (Nat.le_refl _)
          have g4 : GrpR T (hid H4 L') H4 t kvs qs vs := g3.mono (hid_ex e4) (fun q _ o hqo => e4 _ _ hqo) (Nat.le_refl _)
          have htl : t < LN := Nat.lt_of_lt_of_le ht hnl
          have hlen : kvs.length < sizeLine := by
            rw [sizeLine_eq]
            exact Nat.lt_of_le_of_lt a5 htl
          have aw : ∀ p ∈ ow3, p.2 ≠ ad := fun p hp => a2 p (hw3 p hp)
          refine ⟨kvs, keyOf dk, a34, ev, hlen, fun v hval => ?_, fun hval => ?_⟩
          · -- there
            have f := g4.find (d := .none) hkb
            cases hA : addG dk .none (kvs.map fun e => keyP e.1) vs with
            | none =>
              rw [hA] at f
              rw [hval] at f
              cases f
            | some vs1 =>
              rw [hA] at f
              obtain ⟨q, xs, f1, f2, f3, f4, _⟩ := f
              rw [hval] at f1
              cases f1
              refine ⟨.inl ⟨rfl, xs, SqL.of f3⟩, qe L' ow3 H4 σ3 env3 _ S5.ho S5.re (k4.imp (fun de k5 ve H5 e5 r5 => ?_) fun _ _ x => xw_mono S5.ex x)⟩
              obtain ⟨b1, b2, b3, b4⟩ := a6 q f2
              refine ⟨q, xs, ve, rfl, rfl, e5 _ _ f3, by rw [sizeLine_eq]; exact Nat.lt_of_le_of_lt f4 htl, ?_⟩
              have f' := g4.find (d := de) hkb
              cases hA' : addG dk de (kvs.map fun e => keyP e.1) vs with
              | none =>
                rw [hA'] at f'
                rw [hval] at f'
                cases f'
              | some vs' =>
                rw [hA'] at f'
                obtain ⟨q2, xs2, c1, c2, c3, c4, c5⟩ := f'
                rw [hval] at c1
                cases c1
                rw [f3] at c3
                cases c3
                have hu := hid_upd (H := H5) (o := .lst (xs ++ [ve])) b1
                refine ⟨L', ow3, env3, kvs, qs, vs', (S5.mono e5).hupd b1 b2 (fun p hp => b4 p (hw3 p hp)), a1, aw, by rw [upd_ne (Ne.symm b3)]; exact e5 _ _ a34, a4', Nat.le_succ_of_le a5,
                  c5 _ _ ve (by rw [hu]; exact hid_ex e5) (by rw [hu]; exact r5) upd_same (fun b hb hbn o hbo => by rw [upd_ne hbn]; exact e5 _ _ hbo) nd, nd, fun q' hq' => ?_, ?_⟩
                · obtain ⟨d1, d2, d3, d4⟩ := a6 q' hq'
                  exact ⟨d1, d2, d3, fun p hp => d4 p (hw3 p hp)⟩
                · have hgs : grpS dk de (kvs.map fun e => keyP e.1) vs = (kvs.map fun e => keyP e.1, vs') := by
                    unfold grpS
                    rw [hA']
                  rw [hgs] at k5
                  exact k5
          · -- a new key
            have h4p : H4 p = some (.lst []) := by
              cases r4 with
              | lst h r z =>
                cases r
                exact h
            have hpad : p ≠ ad := fun z => by rw [z, a33] at hp4; cases hp4
            have S6 : Sit T X.N.length (hid H1 L) L0 H0 O1 (p :: L') ow3 H4 σ3 env3 := S4.hide e4 hp4 (by rw [h4p]; exact fun z => nomatch z)
            have S7 := S6.hupd (o := .dK (putK kvs (keyOf dk) (.ref p))) (List.mem_cons_of_mem _ a1) ha0 aw
            have hu1 := hid_upd (H := H4) (o := .dK (putK kvs (keyOf dk) (.ref p))) (List.mem_cons_of_mem p a1)
            have h4p' : upd H4 ad (.dK (putK kvs (keyOf dk) (.ref p))) p = some (.lst []) := by rw [upd_ne hpad]; exact h4p
            refine ⟨.inl ⟨rfl, [], SqL.of h4p'⟩, qe (p :: L') ow3 _ σ3 env3 _ S7.ho S7.re (k4.imp (fun de k5 ve H5 e5 r5 => ?_) fun _ _ x => xw_mono S7.ex x)⟩
            refine ⟨p, [], ve, rfl, rfl, e5 _ _ h4p', by rw [sizeLine_eq]; exact (by decide : (0 : Nat) < 16777216), ?_⟩
            rw [List.nil_append]
            have hpw : ∀ z ∈ ow3, z.2 ≠ p := fun z hz e => by
              obtain ⟨q1, _⟩ := S4.re.own z.1 z.2 hz
              exact S4.re.trk z.2 q1 (by rw [e]; exact hp4)
            have hpq : ∀ q ∈ qs, q ≠ p := fun q hq e => g3.here hq (by rw [e]; exact hp4)
            have hu2 := hid_upd (H := H5) (o := .lst [ve]) (List.mem_cons_self (a := p) (l := L'))
            have hput : putK kvs (keyOf dk) (.ref p) = kvs ++ [(keyOf dk, .ref p)] := putK_new _ hval
            have hX : Ex (hid H3 L') (hid (upd H5 p (.lst [ve])) (p :: L')) := by
              rw [hu2]
              refine (hid_more e4 hp4).trans ?_
              rw [← hu1]
              exact hid_ex e5
            have S8 := (S7.mono e5).hupd (a := p) (o := .lst [ve]) List.mem_cons_self (Evl.fresh_back S4.ex hp4) hpw
            refine ⟨p :: L', ow3, env3, kvs ++ [(keyOf dk, .ref p)], qs ++ [p], vs ++ [.list [de]], S8, List.mem_cons_of_mem _ a1, aw, ?_, a4', by rw [List.length_append]; simp; exact a5,
              GrpR.snoc (g3.mono hX (fun q hq o hqo => ?_) (Nat.le_succ _)) upd_same (by rw [hu2]; exact r5) (Nat.succ_le_succ (Nat.zero_le _)), ?_, fun q hq => ?_, ?_⟩
            · rw [upd_ne (Ne.symm hpad)]
              have z := e5 ad _ upd_same
              rw [hput] at z
              exact z
            · rw [upd_ne (hpq q hq)]
              refine e5 _ _ ?_
              rw [upd_ne (a6 q hq).2.2.1]
              exact e4 _ _ hqo
            · refine List.nodup_append.mpr ⟨nd, by simp, fun a ha b hb => ?_⟩
              rw [List.mem_singleton.mp hb]
              exact hpq a ha
            · rcases List.mem_append.mp hq with hq | hq
              · obtain ⟨d1, d2, d3, d4⟩ := a6 q hq
                exact ⟨List.mem_cons_of_mem _ d1, d2, d3, fun z hz => d4 z (hw3 z hz)⟩
              · rw [List.mem_singleton.mp hq]
                exact ⟨List.mem_cons_self, Evl.fresh_back S4.ex hp4, hpad, hpw⟩
            · have f := g4.find (d := de) hkb
              cases hA : addG dk de (kvs.map fun e => keyP e.1) vs with
              | some vs1 =>
                rw [hA] at f
                obtain ⟨q, xs, f1, _⟩ := f
                rw [hval] at f1
                cases f1
              | none =>
                have hgs : grpS dk de (kvs.map fun e => keyP e.1) vs = ((kvs.map fun e => keyP e.1) ++ [dk], vs ++ [.list [de]]) := by
                  unfold grpS
                  rw [hA]
                rw [hgs] at k5
                rw [List.map_append]
                show Res (grpL fg fk fe (items.drop (t + 1)) env3 ((kvs.map fun e => keyP e.1) ++ [keyP (keyOf dk)]) (vs ++ [.list [de]])) _ _
                rw [keyP_of hkb]
                exact k5
        · rw [if_neg hkb] at k4
          exact k4.elim
      · rw [List.drop_length] at k'
        unfold grpL at k'
        have k2 : AfterS (M := M) T X.N.length B L0 H0 (j :: O1) D (.nx (env'.set j (some (.dict false (kvs.map fun e => keyP e.1) vs)))) := k'
        refine k2 σ' H' _ _ ((S'.bas hB).unhide (qs := qs) hjO hj a1 (fun z => (a6 ad z).2.2.1 rfl) ha0 a2 (fun q hq => (a6 q hq).2.1) (fun q hq => (a6 q hq).2.2.2) a4 (.dK a3 (g.rep (hid_sub fun b hb => (List.mem_filter.mp hb).1) hnl fun q hq z => ?_)))
        have := (List.mem_filter.mp z).2
        simp [hq] at this
end
end VL
set_option Elab.async false
set_option linter.all false
set_option maxRecDepth 100000
set_option maxHeartbeats 2000000
set_option autoImplicit false
/-! VZP: zip of two things, each a list or a text. -/
namespace VZP
open PySem PySem.Spec PyProof.Rows L2
/-- what is zipped: a list where it stands, or a text -/
inductive Src where
  | lst (a : Addr)
  | txt (x : Str)
def Src.v : Src → V
  | .lst a => .ref a
  | .txt x => .str x
abbrev sgV (x : Str) : List V := x.cps.toList.map fun c => V.str ⟨#[c]⟩
/-- its items, as they stand -/
def Src.is (K : PySem.W.Frag) (H : Hp) : Src → List V → Prop
  | .lst a, xs => SqL K H a xs
  | .txt x, xs => xs = sgV x
/-- its iterator's cells, its iterator at the i-th item -/
def Src.fp (it : Addr) : Src → List Addr
  | .lst a => [it, a]
  | .txt _ => [it]
def Src.off (c : Addr) : Src → Prop
  | .lst a => a ≠ c
  | .txt _ => True
def Src.st (it : Addr) (t : Tok) (i : Nat) (h : Heap) : Src → Prop
  | .lst a => h.IsListIter it a i
  | .txt x => h.IsStrIter it (strIterType x) x t i
def Src.beg : Src → Tok → Obj
  | .lst a, _ => { cls := .type "list_iterator", data := .fields #[.ref a, .int 0 0] }
  | .txt x, t => { cls := .type (strIterType x), data := .fields #[.str x t, .int 0 0] }
theorem st_obj {it : Addr} {t : Tok} {i : Nat} {h : Heap} {a : Src} (s : a.st it t i h) : ∃ o, h.get? it = some o ∧ ∀ v : Option Value, o.data ≠ .cell v := by
  cases a with
  | lst l =>
    obtain ⟨o, e, _, d⟩ := s
    exact ⟨o, e, fun v q => by rw [d] at q; cases q⟩
  | txt x =>
    obtain ⟨o, e, _, d⟩ := s
    exact ⟨o, e, fun v q => by rw [d] at q; cases q⟩
theorem st_keep {it : Addr} {t : Tok} {i : Nat} {h h' : Heap} {a : Src} (s : a.st it t i h) (k : ∀ o, h.get? it = some o → h'.get? it = some o) : a.st it t i h' := by
  cases a with
  | lst l =>
    have s' : h.IsListIter it l i := s
    exact s'.at fun o q => k o q
  | txt x =>
    obtain ⟨o, e, r⟩ := s
    exact ⟨o, k o e, r⟩
/-- what it draws -/
theorem draw {X : Cx} {pins : List (Addr × Obj)} {σ : L2.St} {H : Hp} {s : Shared} {it : Addr} {t : Tok} {a : Src} {xs : List V} (I : Inv X pins σ H s) (hc : X.calm = true) (ha : a.is X.K H xs) (ho : a.off it) :
    ∃ P St, Draws X.prog X.w X.A.in1 it (a.fp it) xs.length P St ∧ (∀ i v, P i v → ∃ x, xs[i]? = some x ∧ RelV x v) ∧ (∀ i, a.st it t i s.heap → St i s.heap) ∧ ∀ i h, St i h → a.st it t i h := by
  cases a with
  | lst l =>
    obtain ⟨its, rv, p, _⟩ := I.list (show SqL X.K H l xs from ha)
    have hl := rv.length
    have D := Draws.list (prog := X.prog) (w := X.w) (A := X.A.in1) (I.ok.hd hc) it l ho its.toArray
    refine ⟨fun i v => its.toArray[i]? = some v, fun i h => h.IsListIter it l i ∧ h.IsList l its.toArray, ?_, fun i v e => ?_, fun i z => ⟨z, p.isList⟩, fun i h z => z.1⟩
    · have e0 : its.toArray.size = xs.length := by rw [List.size_toArray, hl]
      rw [← e0]
      exact D
    have hi : i < xs.length := by
      have := (Array.getElem?_eq_some_iff.mp e).1
      rw [List.size_toArray] at this
      omega
    obtain ⟨u, h1, h2⟩ := rv.get (List.getElem?_eq_getElem hi)
    have e' : its[i]? = some v := by simpa using e
    rw [h1] at e'
    cases e'
    exact ⟨_, List.getElem?_eq_getElem hi, h2⟩
  | txt x =>
    have hx : xs = sgV x := ha
    have D : Draws X.prog X.w X.A.in1 it [it] x.cps.size (fun i v => ∃ c u, x.cps[i]? = some c ∧ v = .str ⟨#[c]⟩ u) (fun i h => h.IsStrIter it (strIterType x) x t i) := by
      have hty : strIterType x = "str_ascii_iterator" ∨ strIterType x = "str_iterator" := by
        unfold strIterType
        split
        · exact .inl rfl
        · exact .inr rfl
      rcases hty with z | z
      · rw [z]; exact Draws.strAscii (A := X.A.in1) (I.ok.hd hc) it x t
      · rw [z]; exact Draws.strWide (A := X.A.in1) (I.ok.hd hc) it x t
    refine ⟨_, _, by rw [hx, List.length_map, Array.length_toList]; exact D, fun i v e => ?_, fun i z => z, fun i h z => z⟩
    obtain ⟨c, u, h1, h2⟩ := e
    refine ⟨.str ⟨#[c]⟩, ?_, ⟨u, h2⟩⟩
    rw [hx, List.getElem?_map, Array.getElem?_toList, h1]
    rfl
theorem is_inj {X : Cx} {pins : List (Addr × Obj)} {σ : L2.St} {H : Hp} {s : Shared} {a : Src} {xs ys : List V} (I : Inv X pins σ H s) (h1 : a.is X.K H xs) (h2 : a.is X.K H ys) : xs = ys := by
  cases a with
  | lst l => exact I.list_inj h1 h2
  | txt x =>
    have e1 : xs = sgV x := h1
    have e2 : ys = sgV x := h2
    rw [e1, e2]
def Itzz (K : PySem.W.Frag) (a b : Src) : It :=
  ⟨fun i H => ∃ (xs ys : List V), a.is K H xs ∧ b.is K H ys ∧ i < xs.length ∧ i < ys.length,
    fun i H v H' => ∃ T x y, v = .ref T ∧ H T = none ∧ H' = upd H T (.tup [x, y]) ∧ (∀ xs, a.is K H xs → xs[i]? = some x) ∧ ∀ ys, b.is K H ys → ys[i]? = some y,
    fun i H => ∃ xs ys : List V, a.is K H xs ∧ b.is K H ys ∧ (i = xs.length ∨ i = ys.length) ∧ i ≤ xs.length ∧ i ≤ ys.length⟩
/-- the cells lie apart -/
structure Ap (z TI TO i1 i2 : Addr) (a b : Src) : Prop where
  TIz : TI ≠ z
  TOz : TO ≠ z
  TITO : TI ≠ TO
  TIi1 : TI ≠ i1
  TIi2 : TI ≠ i2
  zi1 : z ≠ i1
  zi2 : z ≠ i2
  Ti1 : TO ≠ i1
  Ti2 : TO ≠ i2
  i12 : i1 ≠ i2
  oa : a.off z ∧ a.off TO ∧ a.off i1 ∧ a.off i2
  ob : b.off z ∧ b.off TO ∧ b.off i1 ∧ b.off i2
theorem nfp {c it : Addr} {a : Src} (h : c ≠ it) (o : a.off c) : c ∉ a.fp it := by
  cases a with
  | lst l =>
    intro z
    rcases List.mem_cons.mp z with z | z
    · exact h z
    · exact o (List.mem_singleton.mp z).symm
  | txt x =>
    intro z
    exact h (List.mem_singleton.mp z)
theorem mfp {it : Addr} {a : Src} : it ∈ a.fp it := by
  cases a <;> exact List.mem_cons_self
theorem Ap.sep {z TI TO i1 i2 : Addr} {a b : Src} (D : Ap z TI TO i1 i2 a b) : ZipSep2 z TI TO i1 i2 (a.fp i1) (b.fp i2) :=
  ⟨D.TIz, D.TOz, D.TITO, D.TIi1, mfp, nfp D.zi1 D.oa.1, nfp D.Ti1 D.oa.2.1, D.TIi2, mfp, nfp D.zi2 D.ob.1, nfp D.Ti2 D.ob.2.1, nfp D.i12 D.ob.2.2.1, nfp D.i12.symm D.oa.2.2.2⟩
theorem five {c z TI TO i1 i2 : Addr} (h : c ∈ [z, TI, TO, i1, i2]) : c = z ∨ c = TI ∨ c = TO ∨ c = i1 ∨ c = i2 := by simpa using h
theorem turn_zz {P : Program} {w : World} {K : PySem.W.Frag} {elts : List Expr} {kk : Nat} {tpos : Pos} {a b : Src} {z TI TO i1 i2 : Addr} (t1 t2 : Tok) (D : Ap z TI TO i1 i2 a b) :
    Turn P w K (.Tuple elts kk tpos) (Itzz K a b) [z, TI, TO, i1, i2] z (fun i h => IsZip h z TI TO .none ∧ IsTupOf2 h TI (.ref i1) (.ref i2) ∧ (∃ x y, IsTupOf2 h TO x y) ∧ a.st i1 t1 i h ∧ b.st i2 t2 i h) where
  mem := by simp
  obj := fun i h st c hc => by
    obtain ⟨hz, hTI, ⟨x, y, hTO⟩, s1, s2⟩ := st
    rcases five hc with q | q | q | q | q
    · rw [q]; exact ⟨_, hz, fun v q => nomatch q⟩
    · rw [q]; exact ⟨_, hTI, fun v q => nomatch q⟩
    · rw [q]; exact ⟨_, hTO, fun v q => nomatch q⟩
    · rw [q]; exact st_obj s1
    · rw [q]; exact st_obj s2
  keep := fun i h h' st k => by
    obtain ⟨hz, hTI, ⟨x, y, hTO⟩, s1, s2⟩ := st
    exact ⟨k z (by simp) _ hz, k TI (by simp) _ hTI, ⟨x, y, k TO (by simp) _ hTO⟩, st_keep s1 fun o q => k i1 (by simp) o q, st_keep s2 fun o q => k i2 (by simp) o q⟩
  item := by
    intro X hP hw hK hc i pins s σ H E I hf st hg
    subst hP hw hK
    obtain ⟨hz, hTI, ⟨x0, y0, hTO⟩, s1, s2⟩ := st
    obtain ⟨xs, ys, hqx, hqy, hx, hy⟩ := hg
    obtain ⟨P1, St1, D1, r1, b1, c1⟩ := draw (t := t1) I hc hqx D.oa.2.2.1
    obtain ⟨P2, St2, D2, r2, b2, c2⟩ := draw (t := t2) I hc hqy D.ob.2.2.2
    have hzl : z < s.heap.objs.size := Heap.lt_size hz
    refine wpAny_pyNext_zipD2_item D.sep D1 D2 hz hTI hTO (b1 i s1) (b2 i s2) hx hy fun u u2 h' tk p1 p2 z' TO' n1 n2 hT hsz hk => ?_
    obtain ⟨x, ex, ru⟩ := r1 i u p1
    obtain ⟨y, ey, ru2⟩ := r2 i u2 p2
    refine ⟨_, rfl, wpAny_letOwnedTupleGo_zip (s := { s with heap := h', toks := tk }) z' fun h'' z'' sb => ?_⟩
    have hT2 : h''.get? s.heap.objs.size = some { cls := .type "tuple", data := .seq #[u, u2] } := (sb.2 _ (Nat.ne_of_gt hzl)).trans hT
    have new : ObjOk X.prog X.w (upd H s.heap.objs.size (.tup [x, y])) h'' s.heap.objs.size (.tup [x, y]) :=
      ⟨by show 2 ≤ sizeLine; decide, [u, u2], .cons ru (.cons ru2 .nil), ⟨_, hT2, rfl, _, rfl⟩⟩
    have I1 : Inv X pins σ (upd H s.heap.objs.size (.tup [x, y])) { s with heap := h'', toks := tk } :=
      I.turnedNew (ch := [z, TI, TO, i1, i2]) (fun c o hb q => (sb.2 c (fun q' => hb (by simp [q']))).trans (hk c o (fun q' => hb (by simp [q'])) (fun q' => hb (by simp [q'])) (fun q' => hb (by simp [q'])) (fun q' => hb (by simp [q'])) q)) hf (Nat.le_refl _) new
    refine ⟨.ref s.heap.objs.size, _, I1, rfl, ⟨_, x, y, rfl, I.hok.fresh (Nat.le_refl _), rfl, fun l hl => by rw [is_inj I hl hqx]; exact ex, fun l hl => by rw [is_inj I hl hqy]; exact ey⟩, ⟨z'', ?_, ⟨u, u2, ?_⟩, ?_, ?_⟩, fun c hcm => ?_⟩
    · exact (sb.2 _ D.TIz).trans (hk _ _ D.TIz D.TITO D.TIi1 D.TIi2 hTI)
    · exact (sb.2 _ D.TOz).trans TO'
    · exact st_keep (c1 _ _ n1) fun o q => (sb.2 _ D.zi1.symm).trans q
    · exact st_keep (c2 _ _ n2) fun o q => (sb.2 _ D.zi2.symm).trans q
    · have hlt : c < s.heap.objs.size := by
        rcases five hcm with q | q | q | q | q
        · rw [q]; exact hzl
        · rw [q]; exact Heap.lt_size hTI
        · rw [q]; exact Heap.lt_size hTO
        · rw [q]; obtain ⟨_, e1, _⟩ := st_obj s1; exact Heap.lt_size e1
        · rw [q]; obtain ⟨_, e2, _⟩ := st_obj s2; exact Heap.lt_size e2
      rw [upd_ne (Nat.ne_of_lt hlt)]
      exact (hf c hcm).1
  done := by
    intro X hP hw hK hc i pins s σ H E I hf st hg
    subst hP hw hK
    obtain ⟨hz, hTI, ⟨x0, y0, hTO⟩, s1, s2⟩ := st
    obtain ⟨xs, ys, hqx, hqy, hend, l1, l2⟩ := hg
    obtain ⟨P1, St1, D1, r1, b1, c1⟩ := draw (t := t1) I hc hqx D.oa.2.2.1
    obtain ⟨P2, St2, D2, r2, b2, c2⟩ := draw (t := t2) I hc hqy D.ob.2.2.2
    exact wpAny_pyNext_zipD2_end D.sep D1 D2 hz hTI hTO (b1 i s1) (b2 i s2) l1 l2 hend fun h' tk hk => ⟨rfl, I.turnedL (ch := [z, TI, TO, i1, i2]) (fun c o hb q =>
      hk c o (fun q' => hb (by simp [q'])) (fun q' => hb (by simp [q'])) (fun q' => hb (by simp [q'])) (fun q' => hb (by simp [q'])) q) hf⟩
  self := fun A i s Q E st h => wpAny_pyIter_zip st.1 h
def iZZ (K : PySem.W.Frag) (ta : TA) : TI := fun σ H R => ta σ H fun vs H1 => ∃ (a b : Src) (xs ys : List V), vs = [a.v, b.v] ∧ a.is K H1 xs ∧ b.is K H1 ys ∧ R (Itzz K a b) H1
theorem begins {X : Cx} {pins : List (Addr × Obj)} {σ : L2.St} {H : Hp} {s : Shared} {a : Src} {xs : List V} {u : Value} (I : Inv X pins σ H s) (ha : a.is X.K H xs) (r : RelV a.v u) : ∃ t Hh, Begins u (a.beg t) Hh ∧ Hh s.heap ∧ ∀ (h' : Heap) it, h'.get? it = some (a.beg t) → a.st it t 0 h' := by
  cases a with
  | lst l =>
    obtain ⟨its, rv, p, _⟩ := I.list (show SqL X.K H l xs from ha)
    obtain rfl : u = Value.ref l := r
    exact ⟨0, _, begins_list l its.toArray, p.isList, fun h' it e => ⟨_, e, rfl, rfl⟩⟩
  | txt x =>
    obtain ⟨t, rfl⟩ := r
    exact ⟨t, _, begins_text x t, trivial, fun h' it e => ⟨_, e, rfl, rfl⟩⟩
theorem is_off {X : Cx} {pins : List (Addr × Obj)} {σ : L2.St} {H : Hp} {s : Shared} {a : Src} {xs : List V} {c : Addr} (I : Inv X pins σ H s) (ha : a.is X.K H xs) (hc : s.heap.objs.size ≤ c) : a.off c := by
  cases a with
  | lst l =>
    obtain ⟨its, rv, p, _⟩ := I.list (show SqL X.K H l xs from ha)
    have := p.lt
    show l ≠ c
    exact Nat.ne_of_lt (Nat.lt_of_lt_of_le this hc)
  | txt x => trivial
theorem ad_ne {n i j : Nat} (h : i ≠ j) : n + i ≠ n + j := fun e => h (Nat.add_left_cancel e)
theorem ad_ne0 {n i : Nat} (h : 0 ≠ i) : n + i ≠ n := fun e => h (Nat.add_left_cancel (show n + 0 = n + i by rw [e]; rfl))
theorem pi_zz {X : Cx} {e e2 : Expr} {ta : TA} {p pos tpos : Pos} {elts : List Expr} {kk : Nat} (hg : Gl X "zip") (hm : X.mg "zip" = none) (ha : PA X [e, e2] ta)
    (hs : starEach [e, e2] X.env = (false, eval e X.env) :: starEach [e2] X.env := by rfl) (hpl : (backTo pos (starEach [e2] X.env)).any (·.1) = false := by rfl) :
    PI X (.Tuple elts kk tpos) (.Call (.Name "zip" p) [e, e2] [] pos) (iZZ X.K ta) := by
  refine ⟨fun pins s σ H R I h => ?_⟩
  refine Call_ (ld_blt I hg hm PyProof.Rows.boot_zip (PyProof.Rows.callWith_type1 (thn (ha.run pos pins s σ H _ I h) fun us s1 ⟨vs, H1, I1, r1, q1⟩ => ?_) hs hpl))
  obtain ⟨a, b, xs, ys, ex, hqx, hqy, q⟩ := q1
  subst ex
  cases r1 with
  | cons r rr =>
    cases rr with
    | cons r' rr =>
      cases rr
      obtain ⟨t1, Ha, B1, h1, g1⟩ := begins I1 hqx r
      obtain ⟨t2, Hb, B2, h2, g2⟩ := begins I1 hqy r'
      refine zip_begins2 B1 B2 h1 h2 fun h' hz hTI hTO k1 k2 hsz hk => wpAny_pyIter_zip hz ?_
      have I2 : Inv X pins σ H1 { s1 with heap := h' } := I1.kept (t' := s1.toks) hk
      have le : ∀ k, s1.heap.objs.size ≤ s1.heap.objs.size + k := fun k => Nat.le_add_right _ _
      have D : Ap (s1.heap.objs.size + 4) (s1.heap.objs.size + 2) (s1.heap.objs.size + 3) s1.heap.objs.size (s1.heap.objs.size + 1) a b :=
        ⟨ad_ne (by decide), ad_ne (by decide), ad_ne (by decide), (ad_ne0 (by decide)).symm.symm, ad_ne (by decide), ad_ne0 (by decide), ad_ne (by decide), ad_ne0 (by decide), ad_ne (by decide), (ad_ne0 (by decide)).symm, ⟨is_off I1 hqx (le 4), is_off I1 hqx (le 3), is_off I1 hqx (Nat.le_refl _), is_off I1 hqx (le 1)⟩, ⟨is_off I1 hqy (le 4), is_off I1 hqy (le 3), is_off I1 hqy (Nat.le_refl _), is_off I1 hqy (le 1)⟩⟩
      refine ⟨s1.heap.objs.size + 4, [s1.heap.objs.size + 4, s1.heap.objs.size + 2, s1.heap.objs.size + 3, s1.heap.objs.size, s1.heap.objs.size + 1], _, _, H1, rfl, I2, turn_zz t1 t2 D, ⟨hz, hTI, ⟨_, _, hTO⟩, g1 _ _ k1, g2 _ _ k2⟩, fun c hcm => ?_, q⟩
      have hle : s1.heap.objs.size ≤ c := by
        rcases five hcm with z | z | z | z | z
        · rw [z]; exact le 4
        · rw [z]; exact le 2
        · rw [z]; exact le 3
        · rw [z]; exact Nat.le_refl _
        · rw [z]; exact le 1
      exact I1.fpOk hle (I1.hok.fresh hle)
end VZP
namespace VL
open PySem PySem.Spec L2 R
/-- the items of a list, of a text -/
def zitP : PV → R (List PV)
  | .list x => .ok x
  | .str x => .ok (x.map fun c => PV.str [c])
  | _ => .bad
section
variable {T : Tb} {E : XK} {O : List Nat} {X : Cx} {a b c e : Expr} {f g h : En → R PV} {pos pos' p q : Pos} {tg : Expr}
theorem sg_rep {Hx : Hp} : ∀ {l : List Nat}, sok l = true → RepA T Hx (l.map fun c => V.str ⟨#[c]⟩) (l.map fun c => PV.str [c])
  | [], _ => .nil
  | c :: l, h => .cons (rep_sig (sok_mem.mp h c List.mem_cons_self)) (sg_rep (by
    rw [sok_mem] at h ⊢
    exact fun d hd => h d (List.mem_cons_of_mem _ hd)))
theorem is_ex {K : PySem.W.Frag} {H H' : Hp} {s : VZP.Src} {xs : List V} (e : Ex H H') (h : s.is K H xs) : s.is K H' xs := by
  cases s with
  | lst a => exact Evl.ex_l e h
  | txt x => exact h
/-- a value as it is zipped -/
theorem src_of {H : Hp} {v : V} {d : PV} {ds : List PV} (r : Rep T H v d) (hd : zitP d = .ok ds) : ∃ (s : VZP.Src) (xs : List V), v = s.v ∧ s.is T.K H xs ∧ RepA T H xs ds ∧ xs.length ≤ sizeLine := by
  cases d with
  | list x =>
    cases hd
    cases r with
    | @lst a xs _ ha ra za => exact ⟨.lst a, xs, rfl, SqL.of ha, ra, za⟩
  | str x =>
    cases hd
    cases r with
    | str z hz hs => exact ⟨.txt z, VZP.sgV z, rfl, rfl, sg_rep hs, by rw [List.length_map, Array.length_toList]; exact hz⟩
  | _ => cases hd
theorem walk_zz {K : PySem.W.Frag} {a b : VZP.Src} {xs ys : List V} : Walk (VZP.Itzz K a b) (min xs.length ys.length) (fun H => a.is K H xs ∧ b.is K H ys) (YPair (fun i => xs[i]?) (fun i => ys[i]?)) := by
  refine ⟨fun i _ hi q => ⟨xs, ys, q.1, q.2, by omega, by omega⟩, fun _ q => ⟨xs, ys, q.1, q.2, by omega, by omega, by omega⟩, fun i H v H' _ q y => ?_⟩
  obtain ⟨T, x, z, h1, h2, h3, h4, h5⟩ := y
  exact ⟨T, x, z, h1, h2, h3, h4 xs q.1, h5 ys q.2⟩
theorem iters_zz {H : Hp} {L : List Addr} {a b : VZP.Src} {xs ys : List V} {ds es : List PV} (z : xs.length ≤ sizeLine) (h1 : a.is T.K (hid H L) xs) (r1 : RepA T (hid H L) xs ds) (h2 : b.is T.K (hid H L) ys) (r2 : RepA T (hid H L) ys es) : Iters T (hid H L) (VZP.Itzz T.K a b) (zipL ds es) := by
  refine ⟨_, _, _, walk_zz, by rw [zipL_len, r1.length, r2.length], Nat.le_trans (Nat.min_le_left _ _) (snL z), fun _ e => ⟨is_ex e h1, is_ex e h2⟩, fun i H2 L2 x H' d hd t e y => ?_⟩
  obtain ⟨d1, d2, g1, g2, rfl⟩ := zipL_get _ _ _ _ hd
  refine pair_iters (B := H) y t (fun x hx => ?_) fun x hx => ?_
  · obtain ⟨d', q1, q2⟩ := r1.get hx
    rw [g1] at q1
    cases q1
    exact q2.mono e
  · obtain ⟨d', q1, q2⟩ := r2.get hx
    rw [g2] at q1
    cases q1
    exact q2.mono e
theorem vi_zip2 {elts : List Expr} {kk : Nat} {tpos : Pos} (hK : X.K = T.K) (ha : VE T E O X a f) (hb : VE T E O X b g) (hm : X.mg "zip" = none) (hg : Gl X "zip" := by rfl) (hs : starEach [a, b] X.env = (false, eval a X.env) :: starEach [b] X.env := by rfl) (hs2 : starEach [b] X.env = (false, eval b X.env) :: starEach [] X.env := by rfl)
    (hpl : (backTo pos (starEach [b] X.env)).any (·.1) = false := by rfl) : VI T E O X (.Tuple elts kk tpos) (.Call (.Name "zip" p) [a, b] [] pos) (fun env => do
      let x ← f env
      let y ← g env
      let l ← zitP x
      let m ← zitP y
      .ok (zipL l m)) := by
  obtain ⟨t, p1, q1⟩ := ha
  obtain ⟨u, p2, q2⟩ := hb
  refine ⟨_, VZP.pi_zz hg hm (pa_cons p1 (pa_cons p2 pa_nil hs2) hs) hs hpl, fun L ow H σ env R ho re h => ?_⟩
  simp only [res_bind] at h
  refine q1 L ow H σ env _ ho re (h.imp (fun d k v H1 e1 r => ?_) fun _ _ x => x)
  refine q2 L ow H1 σ env _ ho (re.mono e1) (k.imp (fun d2 k2 v2 H2 e2 r2 => ?_) fun _ _ x => xw_mono e1 x)
  rw [hK]
  cases hd : zitP d with
  | ok ds =>
    cases hd2 : zitP d2 with
    | ok es =>
      rw [hd, hd2] at k2
      obtain ⟨s1, xs, rfl, i1, ra, za⟩ := src_of r hd
      obtain ⟨s2, ys, rfl, i2, rb, zb⟩ := src_of r2 hd2
      exact ⟨s1, s2, xs, ys, rfl, is_ex ((hid_ex e2).trans hid_le) i1, is_ex hid_le i2, k2 _ H2 (e1.trans e2) (iters_zz za (is_ex (hid_ex e2) i1) (ra.mono (hid_ex e2)) i2 rb)⟩
    | exc c x => 
      unfold zitP at hd2
      split at hd2 <;> cases hd2
    | bad =>
      rw [hd, hd2] at k2
      exact k2.elim
  | exc c x =>
    unfold zitP at hd
    split at hd <;> cases hd
  | bad =>
    rw [hd] at k2
    exact k2.elim
end
abbrev iZZ (f g : En → R PV) : En → R (List PV) := fun env => do
  let x ← f env
  let y ← g env
  let l ← zitP x
  let m ← zitP y
  .ok (zipL l m)
end VL
set_option Elab.async false
set_option linter.all false
set_option maxRecDepth 100000
set_option maxHeartbeats 2000000
set_option autoImplicit false
/-! VRE: x.remove(t), x an own list of texts. -/
namespace VL
open PySem PySem.Spec PyProof.Rows L2 R
theorem first_place {α : Type} [BEq α] [LawfulBEq α] : ∀ {l : List α} {k : α}, k ∈ l → ∃ j, j < l.length ∧ l[j]? = some k ∧ (∀ i, i < j → l[i]? ≠ some k) ∧ l.eraseIdx j = l.erase k
  | [], _, h => nomatch h
  | a :: r, k, h => by
    by_cases e : a = k
    · subst e
      exact ⟨0, Nat.succ_pos _, rfl, fun i hi => absurd hi (Nat.not_lt_zero _), by simp⟩
    · obtain ⟨j, h1, h2, h3, h4⟩ := first_place (l := r) (k := k) (by
        rcases List.mem_cons.mp h with z | z
        · exact absurd z.symm e
        · exact z)
      refine ⟨j + 1, Nat.succ_lt_succ h1, by simpa using h2, fun i hi => ?_, ?_⟩
      · cases i with
        | zero =>
          intro z
          exact e (Option.some.inj z)
        | succ i => simpa using h3 i (Nat.lt_of_succ_lt_succ hi)
      · rw [List.erase_cons_tail (by simpa using e), ← h4]
        rfl
theorem map_cut {α β : Type} (f : α → β) : ∀ (l : List α) (j : Nat), (l.map f).eraseIdx j = (l.eraseIdx j).map f
  | [], _ => rfl
  | _ :: _, 0 => rfl
  | a :: r, j + 1 => by
    show f a :: (r.map f).eraseIdx j = f a :: (r.eraseIdx j).map f
    rw [map_cut f r j]
theorem RepA.cut {T : Tb} {H : Hp} : ∀ {xs : List V} {ds : List PV} (j : Nat), RepA T H xs ds → RepA T H (xs.eraseIdx j) (ds.eraseIdx j)
  | _, _, _, .nil => .nil
  | _, _, 0, .cons _ t => t
  | _, _, j + 1, .cons r t => .cons r (RepA.cut j t)
theorem strsP_eq : ∀ {ds : List PV} {l : List (List Nat)}, strsP ds = some l → ds = l.map .str
  | [], _, h => by cases h; rfl
  | d :: ds, l, h => by
    cases d with
    | str x =>
      have h2 : (strsP ds).map (fun r => x :: r) = some l := h
      cases e : strsP ds with
      | none =>
        rw [e] at h2
        cases h2
      | some l' =>
        rw [e] at h2
        cases h2
        rw [strsP_eq e]
        rfl
    | _ => cases h
def isTx (k : Str) : Value → Bool
  | .str a _ => decide (a = k)
  | _ => false
theorem mt_removeS {X : Cx} : MtR X "list.remove" (fun x xs H Q => ∃ (l : Addr) (ss : List Str) (k : Str) (j : Nat), x = .ref l ∧ xs = [.str k] ∧ H l = some (.lst (ss.map V.str)) ∧ j < ss.length ∧ ss[j]? = some k ∧ (∀ i, i < j → ss[i]? ≠ some k) ∧ Q .non (upd H l (.lst ((ss.map V.str).eraseIdx j)))) := by
  intro pins s σ H x xs v us Q I rx rxs h
  obtain ⟨l, ss, k, j, rfl, rfl, hH, hj, hk, hno, q⟩ := h
  cases rx
  obtain ⟨u, rfl, ru⟩ := rxs.one
  obtain ⟨t, rfl⟩ := ru
  obtain ⟨z, its, n, r, hl, e0⟩ := I.lstM hH
  have hnl : ss.length = its.length := by rw [← hl, List.length_map]
  have at_ : ∀ (i : Nat) (hi : i < its.length), ∃ a u, ss[i]? = some a ∧ its[i] = .str a u := fun i hi => by
    have h1 : (ss.map V.str)[i]? = some (V.str (ss[i]'(by omega))) := by rw [List.getElem?_map, List.getElem?_eq_getElem (by omega)]; rfl
    obtain ⟨w, h2, h3⟩ := r.get h1
    obtain ⟨u, rfl⟩ := h3
    rw [List.getElem?_eq_getElem hi] at h2
    exact ⟨_, u, List.getElem?_eq_getElem (by omega), Option.some.inj h2⟩
  refine call_meets PySem.F.slot_list_remove ⟨_, e0, rfl⟩ PySem.F.entry_list_remove (PySem.F.args_list_remove_2 _ _)
    (MeetsSeq.list_remove l its.toArray n (.str k t) (isTx k) (fun y hy => ?he) j (by rw [List.size_toArray]; omega) ?hit (fun i hi2 hlt => ?hno) (by rw [List.size_toArray, ← hl]; exact z)) ⟨e0, ?_⟩
  case he =>
    have hy' : y ∈ its := by simpa using hy
    obtain ⟨i, hi, rfl⟩ := List.mem_iff_getElem.mp hy'
    obtain ⟨a, u, _, e⟩ := at_ i hi
    rw [e]
    exact fun _ _ _ _ _ _ h => wpAny_eqBool_str h
  case hit =>
    show isTx k its[j] = true
    obtain ⟨a, u, h1, e⟩ := at_ j (by omega)
    rw [hk] at h1
    cases h1
    rw [e]
    exact decide_eq_true rfl
  case hno =>
    have hi3 : i < its.length := by rw [List.size_toArray] at hi2; exact hi2
    show isTx k its[i] = false
    obtain ⟨a, u, h1, e⟩ := at_ i hi3
    rw [e]
    refine decide_eq_false fun z => hno i hlt ?_
    rw [h1, z]
  · refine ⟨.non, _, I.lset (its' := its.eraseIdx j) hH e0 ?_ (r.eraseIdx j) ?_, rfl, q⟩
    · show its.toArray.eraseIdxIfInBounds j = (its.eraseIdx j).toArray
      rw [List.eraseIdxIfInBounds_toArray]
    · have := List.length_eraseIdx_le (l := ss.map V.str) (i := j)
      omega
/-- the list without the first v -/
def remP (ds : List PV) (v : PV) : R PV := match strsP ds, v with
  | some l, .str k => if k ∈ l then .ok (.list ((l.erase k).map .str)) else .bad
  | _, _ => .bad
section
variable {M : Md} {T : Tb} {E : XK} {O O1 : List Nat} {X : Cx} {a c e : Expr} {f g h : En → R PV} {pos pos' p q : Pos} {x : Str}
theorem vs_rem (i : Nat) (hi : O.contains i = true) {apos npos : Pos} (ha : VE T E O X e f) (hN : X.N[i]? = some x := by rfl) (hv : Vis X.env.scope x := by first | exact Or.inl rfl | exact Or.inr (Or.inl rfl) | exact Or.inr (Or.inr rfl))
    (hd : (x == ("__debug__" : Str)) = false := by decide) (hcd : (x == ("__classdict__" : Str)) = false := by decide)
    (hbase : attributeBase (.Name x npos) "remove" X.env (eval (.Name x npos) X.env) = eval (.Name x npos) X.env := by rfl)
    (hfew : ((backTo pos (starEach [e] X.env)).all (fun x => !x.1) && (backToKw pos (keywordEach [] X.env)).all (fun x => x.1.isSome)
      && decide (([e] : List Expr).length + ([] : List Keyword).length + (if ([] : List Keyword).isEmpty then 0 else 1) < 30)) = true := by rfl)
    (hline : (apos.endLine == pos.line) = true := by rfl) (hs : starEach [e] X.env = (false, eval e X.env) :: starEach [] X.env := by rfl) (hplain : (backTo pos (starEach [] X.env)).any (·.1) = false := by rfl)
    (hsw : swapsWith (.Call (.Attribute (.Name x npos) "remove" apos) [e] [] pos) none pos'.line X.env = pure false := by rfl) :
    VS1 (M := M) T E O O X (.Expr (.Call (.Attribute (.Name x npos) "remove" apos) [e] [] pos) pos') (fun env => do
      let ds ← ownL (← getE env i)
      let v ← f env
      let d ← remP ds v
      .ok (.nx (env.set i (some d)))) := by
  obtain ⟨t, p, q⟩ := ha
  refine ⟨_, ps_expr (pe_bm PySem.F.plainAttrs_list PySem.F.slot_list_remove PySem.F.type_list_remove mt_removeS (pe_var hN hv hd hcd) (pa_cons p pa_nil hs) hbase hfew hline hs hplain) hsw, fun B L0 H0 L ow H σ env D S h => ?_⟩
  simp only [res_bind] at h
  have hmi : i ∈ ow.map (·.1) := by rw [S.ho]; simpa using hi
  obtain ⟨⟨j, ad⟩, hm, rfl⟩ := List.mem_map.mp hmi
  obtain ⟨haL, hσ, d0, hd0, r0⟩ := S.re.own j ad hm
  have hg : getE env j = .ok d0 := by unfold getE; rw [hd0]
  refine ⟨_, hσ, ?_⟩
  dsimp only at h
  rw [hg, res_ok] at h
  cases r0 with
  | @lst xs ds hl rl zl =>
    refine ⟨.inl ⟨rfl, xs, SqL.of hl⟩, q L ow H σ env _ S.ho S.re (Res.imp (show Res (f env) _ _ from h) (fun d k v H1 e1 r => ?_) fun _ _ x => xw_mono S.ex x)⟩
    unfold remP at k
    split at k
    · rename_i l kk hst
      split at k
      · rename_i hin
        obtain ⟨ex, _, _⟩ := strs_of hst rl
        cases r with
        | str z hz hs2 =>
          obtain ⟨m, m1, m2, m3, m4⟩ := first_place hin
          have hst2 : ds = l.map .str := strsP_eq hst
          have zk : (⟨z.cps.toList.toArray⟩ : Str) = z := by rw [Array.toArray_toList]
          have hxs : xs = (l.map fun y => (⟨y.toArray⟩ : Str)).map V.str := by rw [ex, List.map_map]; rfl
          refine ⟨ad, l.map (fun y => ⟨y.toArray⟩), z, m, rfl, rfl, ?_, by rw [List.length_map]; exact m1, ?_, fun i hi e => ?_, ?_⟩
          · rw [← hxs]
            exact e1 _ _ hl
          · rw [List.getElem?_map, m2]
            show some (⟨z.cps.toList.toArray⟩ : Str) = some z
            rw [zk]
          · rw [List.getElem?_map] at e
            cases e3 : l[i]? with
            | none => rw [e3] at e; cases e
            | some y =>
              rw [e3] at e
              have e4 : (⟨y.toArray⟩ : Str) = z := Option.some.inj e
              refine m3 i hi ?_
              rw [e3, ← e4]
          · rw [← hxs]
            have S1 := S.mono e1
            have rr : RepA T (hid H1 L) (xs.eraseIdx m) ((l.erase z.cps.toList).map .str) := by
              have := (rl.mono (hid_ex e1)).cut m
              rw [hst2, map_cut, m4] at this
              exact this
            refine k σ _ L ow (S1.chg hm (.lst upd_same ?_ ?_))
            · rw [hid_upd haL]
              exact rr
            · have := List.length_eraseIdx_le (l := xs) (i := m)
              omega
      · exact k.elim
    · exact k.elim
  | dK _ _ => exact h.elim
  | dT _ _ => exact h.elim
end
abbrev sRem (i : Nat) (f : En → R PV) : En → R Fl := fun env => do
  let ds ← ownL (← getE env i)
  let v ← f env
  let d ← remP ds v
  .ok (.nx (env.set i (some d)))
end VL
set_option Elab.async false
set_option linter.all false
set_option maxRecDepth 100000
set_option maxHeartbeats 2000000
set_option autoImplicit false
/-! VMN: min of a list of alike data. -/
namespace VL
open PySem PySem.Spec PyProof.Rows L2 R
mutual
theorem toD_inj : ∀ {a b : PV}, dataB a = true → dataB b = true → toD a = toD b → a = b
  | .none, b, _, hb, h => by cases b <;> first | rfl | (unfold dataB at hb; cases hb; done) | (unfold toD at h; cases h; done)
  | .bool x, b, _, hb, h => by cases b <;> first | (unfold toD at h; cases h; rfl) | (unfold toD at h; cases h) | (unfold dataB at hb; cases hb)
  | .int x, b, _, hb, h => by cases b <;> first | (unfold toD at h; cases h; rfl) | (unfold toD at h; cases h) | (unfold dataB at hb; cases hb)
  | .str x, b, _, hb, h => by
    cases b with
    | str y =>
      unfold toD at h
      have e : (⟨x.toArray⟩ : Str) = ⟨y.toArray⟩ := PyData.str.inj h
      have e2 : x.toArray = y.toArray := congrArg Str.cps e
      have e3 : x = y := by
        have := congrArg Array.toList e2
        simpa using this
      rw [e3]
    | _ => first | (unfold toD at h; cases h) | (unfold dataB at hb; cases hb)
  | .list xs, b, ha, hb, h => by
    cases b with
    | list ys =>
      unfold toD at h
      unfold dataB at ha hb
      rw [toDs_inj ha hb (PyData.list.inj h)]
    | _ => first | (unfold toD at h; cases h) | (unfold dataB at hb; cases hb)
  | .tup xs, b, ha, hb, h => by
    cases b with
    | tup ys =>
      unfold toD at h
      unfold dataB at ha hb
      rw [toDs_inj ha hb (PyData.tuple.inj h)]
    | _ => first | (unfold toD at h; cases h) | (unfold dataB at hb; cases hb)
  | .dict _ _ _, _, ha, _, _ => by unfold dataB at ha; cases ha
  | .set _, _, ha, _, _ => by unfold dataB at ha; cases ha
  | .kn _, _, ha, _, _ => by unfold dataB at ha; cases ha
  | .fn _, _, ha, _, _ => by unfold dataB at ha; cases ha
  | .exn _ _, _, ha, _, _ => by unfold dataB at ha; cases ha
theorem toDs_inj : ∀ {a b : List PV}, dataBs a = true → dataBs b = true → toDs a = toDs b → a = b
  | [], [], _, _, _ => rfl
  | [], _ :: _, _, _, h => by unfold toDs at h; cases h
  | _ :: _, [], _, _, h => by unfold toDs at h; cases h
  | x :: a, y :: b, ha, hb, h => by
    unfold toDs at h
    unfold dataBs at ha hb
    rw [Bool.and_eq_true] at ha hb
    injection h with h1 h2
    rw [toD_inj ha.1 hb.1 h1, toDs_inj ha.2 hb.2 h2]
end
/-- the first of the least -/
def minV (x : PV) (xs : List PV) : PV := xs.foldl (fun a y => if ltV y a then y else a) x
def min3P : PV → R PV
  | .list ds => match intsP ds with
    | some (i :: l) => .ok (.int (minI (i :: l)))
    | some [] => .bad
    | none => match ds with
      | x :: xs => if srtB (x :: xs) && cmpOk (.list (x :: xs)) then .ok (minV x xs) else .bad
      | [] => .bad
  | _ => .bad
theorem minV_toD (x : PV) : ∀ xs : List PV, toD (minV x xs) = PySem.W.minD (toD x) (xs.map toD) := by
  intro xs
  unfold minV PySem.W.minD
  induction xs generalizing x with
  | nil => rfl
  | cons y xs ih =>
    rw [List.foldl_cons, List.map_cons, List.foldl_cons, ih]
    congr 1
    unfold ltV
    split <;> rfl
theorem minV_mem (x : PV) : ∀ xs : List PV, minV x xs ∈ x :: xs := by
  intro xs
  unfold minV
  induction xs generalizing x with
  | nil => exact .head _
  | cons y xs ih =>
    rw [List.foldl_cons]
    have := ih (if ltV y x then y else x)
    rcases List.mem_cons.mp this with e | e
    · rw [e]
      split
      · exact .tail _ (.head _)
      · exact .head _
    · exact .tail _ (.tail _ e)
theorem minD_mem (x : PyData) : ∀ xs : List PyData, PySem.W.minD x xs ∈ x :: xs := by
  intro xs
  unfold PySem.W.minD
  induction xs generalizing x with
  | nil => exact .head _
  | cons y xs ih =>
    rw [List.foldl_cons]
    have := ih (if PySem.W.dataLt y x then y else x)
    rcases List.mem_cons.mp this with e | e
    · rw [e]
      split
      · exact .tail _ (.head _)
      · exact .head _
    · exact .tail _ (.tail _ e)
theorem canLay_mem : ∀ {xs : List PyData} {d : PyData}, PyData.canLayAll0 xs = true → d ∈ xs → d.canLay0 = true
  | x :: xs, d, h, hd => by
    obtain ⟨h1, h2⟩ := Bool.and_eq_true_iff.mp (show (x.canLay0 && PyData.canLayAll0 xs) = true from h)
    rcases List.mem_cons.mp hd with rfl | hd
    · exact h1
    · exact canLay_mem h2 hd
section
variable {T : Tb} {X : Cx}
theorem call_minD {X : Cx} (hc : X.calm = true) (hu : X.A.units + 70 < cLine) : CallR X (.builtin "min") (fun vs H Q => ∃ (p : Addr) (xs : List V) (d : PyData) (ds : List PyData), vs = [V.ref p] ∧ SqL X.K H p xs ∧ DpAll X.K H xs (d :: ds) ∧ PyData.canLayAll0 (d :: ds) = true ∧ PySem.W.AlikeAll (d :: ds) ∧ PyData.depthAll (d :: ds) ≤ 64 ∧
    ∀ (i : Nat) (v : V), xs[i]? = some v → (d :: ds)[i]? = some (PySem.W.minD d ds) → Q v H) := by
  intro pins s σ H vs us Q I r h
  obtain ⟨p, xs, d, ds, rfl, hs, hd, hcl, ha, h64, q⟩ := h
  obtain ⟨its, rv, hl, _⟩ := I.list hs
  rw [Vals.ref1 r]
  obtain ⟨as, hr⟩ := Dp.readsAll I (d :: ds) xs its hd rv
  refine PySem.W.min_list_data (I.ok.hd hc) hl.isList (xs := ds) (x := d) (as := as) (by simpa using hr) ha (by omega) fun i v h' tk bs hi hrd hk => ?_
  have hi2 : its[i]? = some v := by simpa using hi
  have hmap : its.map (SeqAt.readOf s.heap) = d :: ds := SeqAt.readsAll_map (d :: ds) its as hcl hr
  have hlen := rv.length
  have hil : i < its.length := (List.getElem?_eq_some_iff.mp hi2).1
  obtain ⟨u, h1, h2⟩ := rv.get (List.getElem?_eq_getElem (l := xs) (i := i) (by omega))
  rw [hi2] at h1
  cases h1
  refine ⟨_, H, I.kept (t' := tk) hk, h2, q i _ (List.getElem?_eq_getElem (by omega)) ?_⟩
  have hr' : ReadsAll h' its (d :: ds) as := ReadsAll.keeps hk hr
  have hmap' : its.map (SeqAt.readOf h') = d :: ds := SeqAt.readsAll_map (d :: ds) its as hcl hr'
  have e : (d :: ds)[i]? = some (SeqAt.readOf h' v) := by
    rw [← hmap', List.getElem?_map, hi2]
    rfl
  rw [e, SeqAt.readOf_eq (canLay_mem hcl (minD_mem d ds)) hrd]
theorem c1_min3 (hc : X.calm = true) (hK : X.K = T.K) (hu : X.A.units + 70 < cLine) : C1 T X (.builtin "min") min3P := by
  obtain ⟨r, hr, hq⟩ := c1_min (T := T) (X := X) hc
  refine ⟨_, hr.or (call_minD hc hu), fun L H x a Q x' t ra q => ?_⟩
  unfold min3P at q
  split at q
  · rename_i ds
    split at q
    · rename_i i l hl
      refine .inl (hq L H x _ Q x' t ra ?_)
      have e : min1P (.list ds) = .ok (.int (minI (i :: l))) := by
        show (match intsP ds with | some (i :: l) => R.ok (PV.int (minI (i :: l))) | _ => R.bad) = _
        rw [hl]
      rw [e]
      exact q
    · exact q.elim
    · split at q
      · rename_i y ys hn
        split at q
        · rename_i hc2
          obtain ⟨c1, c2⟩ := Bool.and_eq_true_iff.mp hc2
          obtain ⟨c3, c4⟩ := Bool.and_eq_true_iff.mp (show (dataB (.list (y :: ys)) && decide (depthP (.list (y :: ys)) ≤ 64)) = true from c2)
          have c3' : dataBs (y :: ys) = true := c3
          have c4' : depthPs (y :: ys) + 1 ≤ 64 := of_decide_eq_true c4
          obtain ⟨p, xs, rfl, h1, r1, l1⟩ := ra.list
          have dp := r1.dp hid_le c3'
          rw [toDs_map] at dp
          refine .inr ⟨p, xs, toD y, ys.map toD, rfl, .of h1, ?_, ?_, ⟨srt_alike c1, ?_⟩, ?_, fun i v hv hd => ?_⟩
          · rw [hK]
            exact dp.1
          · exact dp.2
          · intro d hd e
            obtain ⟨u, hu2, rfl⟩ := List.mem_map.mp (show d ∈ (y :: ys).map toD from hd)
            have hdu := dataBs_mem c3' u hu2
            have hun : u = .none := toD_inj hdu rfl (by rw [e]; rfl)
            rw [hun] at hu2
            obtain ⟨_, h3⟩ := Bool.and_eq_true_iff.mp (show srtB (y :: ys) = true from c1)
            rcases Bool.or_eq_true_iff.mp h3 with h3 | h3
            · have := List.all_eq_true.mp h3 _ hu2
              cases this
            · have := List.all_eq_true.mp h3 _ hu2
              cases this
          · have := depth_toDs (y :: ys)
            rw [toDs_map] at this
            exact Nat.le_trans this (by omega)
          · obtain ⟨d0, e0, r0⟩ := r1.get hv
            have e1 : (toD y :: ys.map toD)[i]? = some (toD d0) := by
              show ((y :: ys).map toD)[i]? = _
              rw [List.getElem?_map, e0]
              rfl
            rw [e1] at hd
            have e2 : toD d0 = toD (minV y ys) := by
              rw [minV_toD]
              exact Option.some.inj hd
            have e3 : d0 = minV y ys := toD_inj (dataBs_mem c3' _ (List.mem_of_getElem? e0)) (dataBs_mem c3' _ (minV_mem y ys)) e2
            rw [e3] at r0
            exact q _ _ (Evl.Ex.refl H) r0
        · exact q.elim
      · exact q.elim
  · exact q.elim
end
end VL
set_option Elab.async false
set_option linter.all false
set_option maxRecDepth 100000
set_option maxHeartbeats 2000000
set_option autoImplicit false
/-! VLH: what the head tells of the module: defs, names, written tuples. -/
namespace VL
open PySem PySem.Spec L2 R
abbrev TabV := Str × List He.Dv
abbrev AlV : Type := He.AlD × Bool
def obsV (fa : List He.Fa) (fn : List He.DefD) (ts : List TabV) (K : PySem.W.Frag) : AlV := (He.obsD fa fn K, ts.all fun t => (He.Fa.glo t.1).ok K && He.tupB K t.1 t.2)
def obsVG (n : Nat) (fa : List He.Fa) (fn : List He.DefD) (ts : List TabV) (g : Addr → Option Obj) : AlV := obsV fa fn ts (He.frG g (He.asD g n))
def SaysV (fa : List He.Fa) (fn : List He.DefD) (ts : List TabV) (K : PySem.W.Frag) : Prop := obsV fa fn ts K = (He.valD fn, true)
def hookV (n : Nat) (fa : List He.Fa) (fn : List He.DefD) (ts : List TabV) : PySem.W.Hook where
  α := AlV
  obs := fun s => obsVG n fa fn ts s.heap.get?
  val := fun _ => (He.valD fn, true)
  says := fun _ h => ∃ K : PySem.W.Frag, K.In h ∧ SaysV fa fn ts K
  of := fun _ _ e => ⟨_, He.frG_in, e⟩
  keeps := fun _ _ _ ⟨K, hK, c⟩ k => ⟨K, PySem.W.Frag.In.keeps hK k, c⟩
theorem obsVG_eq {n : Nat} {fa : List He.Fa} {fn : List He.DefD} {ts : List TabV} {g : Addr → Option Obj} {s : Shared} (h : ∀ a, g a = s.heap.get? a) : obsVG n fa fn ts g = (hookV n fa fn ts).obs s := by
  have e : g = s.heap.get? := funext h
  rw [e] <;> rfl
section
variable {fa : List He.Fa} {fn : List He.DefD} {ts : List TabV} {K : PySem.W.Frag} {h : Heap} {mg : Str → Option Value}
theorem SaysV.d (c : SaysV fa fn ts K) : He.SaysD fa fn K := congrArg Prod.fst c
theorem SaysV.tup (c : SaysV fa fn ts K) (i : Nat) {t : TabV} (e : ts[i]? = some t := by rfl) (X : K.In h) (G : h.Ns mainGlobals mg) : mg t.1 = some (.ref (He.ga K t.1)) ∧ ∀ H, SqT K H (He.ga K t.1) (t.2.map (He.Dv.v K)) := by
  have c2 : (ts.all fun t => (He.Fa.glo t.1).ok K && He.tupB K t.1 t.2) = true := congrArg Prod.snd c
  obtain ⟨h1, h2⟩ := Bool.and_eq_true_iff.mp (List.all_eq_true.mp c2 t (List.mem_of_getElem? e))
  exact ⟨He.glo_ok X G h1, fun H => He.tupB_ok h2 H⟩
/-- plain items of a written tuple -/
def dvP : He.Dv → Option PV
  | .int i => some (.int i)
  | .str x => if sok x.cps.toList && decide (x.cps.toList.length ≤ LN) then some (.str x.cps.toList) else none
  | .bl b => some (.bool b)
  | .non => some .none
  | _ => none
def dvPs : List He.Dv → Option (List PV)
  | [] => some []
  | d :: ds => match dvP d, dvPs ds with
    | some x, some xs => some (x :: xs)
    | _, _ => none
theorem rep_dv {T : Tb} {H : Hp} {d : He.Dv} {p : PV} (e : dvP d = some p) : Rep T H (d.v T.K) p := by
  cases d with
  | int i => cases e; exact .int i
  | bl b => cases e; exact .bl b
  | non => cases e; exact .non
  | str x =>
    have e2 : (if sok x.cps.toList && decide (x.cps.toList.length ≤ LN) then some (PV.str x.cps.toList) else none) = some p := e
    split at e2
    · rename_i c
      obtain ⟨c1, c2⟩ := Bool.and_eq_true_iff.mp c
      cases e2
      exact rep_str' rfl (of_decide_eq_true c2) c1
    · cases e2
  | _ => cases e
theorem rep_dvs {T : Tb} {H : Hp} : ∀ {ds : List He.Dv} {ps : List PV}, dvPs ds = some ps → RepA T H (ds.map (He.Dv.v T.K)) ps
  | [], ps, e => by
    cases e
    exact .nil
  | d :: ds, ps, e => by
    unfold dvPs at e
    split at e
    · rename_i x xs h1 h2
      cases e
      exact .cons (rep_dv h1) (rep_dvs h2)
    · cases e
theorem knC_of {T : Tb} (c : SaysV fa fn ts T.K) (X : T.K.In h) (G : h.Ns mainGlobals mg) (i : Nat) {t : TabV} {ps : List PV} (e : ts[i]? = some t) (hp : dvPs t.2 = some ps) (hl : t.2.length ≤ LN) : KnC T mg t.1 ps := by
  obtain ⟨h1, h2⟩ := c.tup i e X G
  exact ⟨_, h1, fun H => .knT (h2 H) (rep_dvs hp) (by rw [List.length_map]; exact lnS hl)⟩
end
end VL
set_option Elab.async false
set_option linter.all false
set_option maxRecDepth 100000
set_option maxHeartbeats 4000000
set_option autoImplicit false
/-! VXI: the first def of an error class: super().__init__(at); self.at = at. -/
namespace VL
open PySem PySem.Spec PySem.Calls PyProof.Rows PySem.W L2
def xiScope : Scope := { kind := ScopeKind.function, names := [("self", NameKind.local), ("at", NameKind.local), ("__class__", NameKind.free), ("super", NameKind.globalImplicit)], isGenerator := false, isCoroutine := false, more := [] }
def xiE : Expr := .Call (.Attribute (.Call (.Name "super" ⟨5, 8, 5, 13⟩) [] [] ⟨5, 8, 5, 15⟩) "__init__" ⟨5, 8, 5, 24⟩) [.Name "at" ⟨5, 25, 5, 27⟩] [] ⟨5, 8, 5, 28⟩
def xiS1 : Stmt := .Expr xiE ⟨5, 8, 5, 28⟩
def xiS2 : Stmt := .Assign [.Attribute (.Name "self" ⟨6, 8, 6, 12⟩) "at" ⟨6, 8, 6, 15⟩] (.Name "at" ⟨6, 18, 6, 20⟩) ⟨6, 8, 6, 20⟩
def xiArgs : Arguments := { posonlyargs := [], args := [{ arg := "self", annotation := none, pos := ⟨4, 17, 4, 21⟩ }, { arg := "at", annotation := none, pos := ⟨4, 23, 4, 25⟩ }], vararg := none, kwonlyargs := [], kw_defaults := [], kwarg := none, defaults := [] }
/-- what the written part says of the def at f, of the class at D -/
structure XiF (K : Frag) (P : Program) (D f cda cc : Addr) (fd : FuncData) : Prop where
  fn : ∃ oc od osl dV kV doc pm an ct, fd = ksFn "__init__" "PlayError.__init__" xiArgs [xiS1, xiS2] xiScope dV kV doc pm an (.ref cda) ct cc ∧ K.lookup f = some ⟨oc, od, .func fd, osl⟩
  code : codeIn K (.ref cda) "PlayError.__init__" = true
  file : ∃ ccl cdd vs ccs file tf, K.lookup cda = some ⟨ccl, cdd, .fields vs, ccs⟩ ∧ vs[2]? = some (.str file tf) ∧ ((P.main.file : Str) == file) = true
  cell : ∃ cl cld csl, K.lookup cc = some ⟨cl, cld, .cell (some (.ref D)), csl⟩
  cls : ∃ cd, clsIn K D = some cd
  sup : nsIn K mainGlobals "super" = some none
  opq : nsIn K cStatics "thirdparty.any" = some none
  top : (P.main.scope.names.lookup ("super" : Str)).isSome = false
/-- .. of a class C over it -/
structure XiC (K : Frag) (D f C : Addr) : Prop where
  sub : mroIn K C (.ref D) = some true
  sup : ks_superIn K C D "__init__" = some (some (.builtin "ValueError.__init__"))
  val : subIn K (.ref C) (.type "ValueError") = some true
  ini : ∃ newId bmB, ExcBaseFacts "ValueError" newId "ValueError.__init__" bmB ∧ excInitIn K C bmB newId = true
  at_ : findIn K (.ref C) "at" = some none
section
variable {P : Program} {w : World} {A : Around} {E : Value → Shared → Prop} {s : Shared} {K : Frag} {D f cda cc C e L : Addr} {fd : FuncData} {m mb : Str → Option Value} {v : Value} {mg : Str → Option Value}
/-- super() -/
theorem xi_super {attr : Str} {whole : Sem Value} {body : List Stmt} {od : Option Obj} {ox : Obj} {p0 p1 : Pos} {Q : Value → Shared → Prop} (F : XiF K P D f cda cc fd) (Z : XiC K D f C) (X : K.In s.heap) (hm : s.heap.Ns L m) (hv : m "self" = some (.ref e)) (I : InstAt s.heap e ox C od)
    (hg : s.heap.Ns mainGlobals mg) (hgs : mg "super" = none) (hb : s.heap.Ns builtinsNs mb) (hbs : mb "super" = some (.type "super")) (hat : (attr == ("__class__" : Str)) = false)
    (h : ∀ h', h'.get? s.heap.objs.size = some (ks_superObj D e C) → (∀ b o, s.heap.get? b = some o → h'.get? b = some o) → Q (.ref s.heap.objs.size) { s with heap := h' }) :
    _root_.PySem.wpAt (model P w) A (.func body (ksEnv "PlayError.__init__" xiScope L f (.ref cda) cc)) (attributeBase (.Call (.Name "super" p0) [] [] p1) attr (ksEnv "PlayError.__init__" xiScope L f (.ref cda) cc) whole) Q E s := by
  obtain ⟨oc, od', osl, dV, kV, doc, pm, an, ct, rfl, hf⟩ := F.fn
  obtain ⟨ccl, cdd, vs, ccs, file, tf, hcode, hvs, hfile⟩ := F.file
  obtain ⟨cl, cld, csl, hcell⟩ := F.cell
  obtain ⟨cdD, hD⟩ := F.cls
  obtain ⟨hh, g, d, t, os⟩ := s
  obtain ⟨oD, hD1, hD2⟩ : ∃ oD, hh.get? D = some oD ∧ oD.data = .cls cdD := by
    unfold clsIn at hD
    split at hD
    · rename_i c d cd' sl ho
      cases hD
      exact ⟨_, X _ _ ho, rfl⟩
    · cases hD
  refine ks_wpAt_super_base (env := ksEnv "PlayError.__init__" xiScope L f (.ref cda) cc) rfl rfl hat rfl (X _ _ hf) rfl rfl rfl (X _ _ hcode) rfl hvs hfile F.top ?_
  refine ks_loadName_global rfl rfl (loadGlobal_builtin (env := ksEnv "PlayError.__init__" xiScope L f (.ref cda) cc) hg hgs hb hbs ⟨rfl, ?_⟩)
  refine wpAny_loadName_free rfl rfl rfl ⟨_, X _ _ hcell, rfl⟩ ?_
  refine wpAny_loadName_local rfl rfl hm hv ?_
  refine ks_wpAny_isType_cls hD1 hD2 ⟨rfl, ?_⟩
  refine ks_wpAny_call_super hD1 hD2 I.at_ I.cls (fun c e => ?_) (looks_mroIn X Z.sub) (fun h' e k => h h' e k)
  have := I.no
  unfold notCls at this
  rw [e] at this
  exact Bool.noConfusion this
/-- the wrapper's call -/
theorem xi_call {t : Addr} {u : Addr} {rest : List Value} {Q : Value → Shared → Prop} (Z : XiC K D f C) (X : K.In s.heap) (hu : KxsAt "ValueError.__init__" u e s.heap) (he : s.heap.get? e = some (excObj C t none .none)) (hz : rest.length ≤ sizeLine)
    (h : ∀ h' t', (∀ b o, b ≠ e → s.heap.get? b = some o → h'.get? b = some o) → h'.get? e = some (excObj C t' none .none) → Q .none { s with heap := h' }) :
    wpAny (model P w) A (call (.ref u) rest) Q E s := by
  obtain ⟨newId, bmB, FB, q⟩ := Z.ini
  obtain ⟨nm, N', qn, bs, bm, hdct, sn, sub, ab, col, dd, k0, k1, k2, k3, k5, hC, hT⟩ := excInit_of X q
  obtain ⟨hh, g, d, tk, os⟩ := s
  refine wpAny_call (codeAny_of_tree ?_)
  show wpAny _ A.in1 (callAny (.ref u) ⟨rest, []⟩) _ _ _
  simp only [callAny]
  refine wpAny_bind (wpAny_load hu ?_)
  simp only [kxs_mw, show (Value.type "method-wrapper" == Value.type "method" || Value.type "method-wrapper" == Value.type "builtin_function_or_method" || Value.type "method-wrapper" == Value.type "method-wrapper") = true by decide, if_true]
  refine KFB.if_so (by decide) ?_
  refine wpAny_bind (check_bound_init FB.toExcCallFacts hC he rfl ?_)
  refine wpAny_bind (wpAny_pure (wpAny_pure ?_))
  refine ⟨plainId_quiet FB.init.plain _, codeAny_builtin FB.initEntry ?_⟩
  exact exc_init_tree (cls := .ref C) (t0 := t) (dv := none) (c2 := .none) (c3 := .none) (b4 := .bool false) he hz fun h' k e' _ => h h' _ k e'
/-- super().__init__(at) -/
theorem xi_eval {t : Addr} {body : List Stmt} {Q : Value → Shared → Prop} (F : XiF K P D f cda cc fd) (Z : XiC K D f C) (X : K.In s.heap) (hm : s.heap.Ns L m) (hv : m "self" = some (.ref e)) (ha : m "at" = some v) (he : s.heap.get? e = some (excObj C t none .none)) (hL : L ≠ e)
    (hg : s.heap.Ns mainGlobals mg) (hgs : mg "super" = none) (hb : s.heap.Ns builtinsNs mb) (hbs : mb "super" = some (.type "super")) (h : ∀ h' t' tk, (∀ b o, b ≠ e → s.heap.get? b = some o → h'.get? b = some o) → h'.get? e = some (excObj C t' none .none) → Q .none { s with heap := h', toks := tk }) :
    _root_.PySem.wpAt (model P w) A (.func body (ksEnv "PlayError.__init__" xiScope L f (.ref cda) cc)) (eval xiE (ksEnv "PlayError.__init__" xiScope L f (.ref cda) cc)) Q E s := by
  have I : InstAt s.heap e (excObj C t none .none) C none := ⟨he, rfl, rfl, trivial⟩
  refine ks_wpAt_MethodCall ?_
  refine xi_super F Z X hm hv I hg hgs hb hbs (by decide) fun h1 hso k1 => ?_
  have X1 : K.In h1 := X.keeps k1
  have I1 : InstAt h1 e (excObj C t none .none) C none := ⟨k1 _ _ he, rfl, rfl, trivial⟩
  have hI : Looks (model P w) h1 (isInstance (.ref e) (.type "ValueError")) true := I1.type.andThen (looks_subIn X1 Z.val)
  have hm' := Z.sup
  obtain ⟨hh, g, d, tk, os⟩ := s
  cases hc : clsIn K C with
  | none => unfold ks_superIn at hm'; rw [hc] at hm'; cases hm'
  | some cd =>
    unfold ks_superIn at hm'
    rw [hc] at hm'
    refine kxs_getMethod kxs_ValueError hso (looks_opaque X1 F.opq) (l₀ := cd.mro) ?_ rfl X1 hm' hI (ks_ne X1 I1 hc) (by decide) ?_
    · exact fun A Q E s k q => wpAny_bind ((looks_clsIn X1 hc) A _ E s k (wpAny_pure q))
    · have k2 : ∀ b o, h1.get? b = some o → (h1.push (kxs_mw "ValueError.__init__" e)).get? b = some o := fun b o q => Heap.get?_push_of_some _ q
      have kx : KxsAt "ValueError.__init__" h1.objs.size e (h1.push (kxs_mw "ValueError.__init__" e)) := Heap.get?_push_at rfl rfl
      refine kxs_callWith (i := "ValueError.__init__") (x := e) rfl (evalArgs_plain (spliced_cons ?_))
      have hns : (h1.push (kxs_mw "ValueError.__init__" e)).Ns L m := by
        obtain ⟨oL, es, ep, q1, q2⟩ := hm
        exact ⟨oL, es, ep, k2 _ _ (k1 _ _ q1), q2⟩
      refine wpAny_Name (wpAny_loadName_local rfl rfl hns ha (spliced_nil ⟨kx, ?_⟩))
      exact xi_call Z (X1.keeps k2) kx (k2 _ _ (k1 _ _ he)) (by rw [sizeLine_eq]; show 1 ≤ 16777216; decide) fun h' t' k3 e3 => h h' t' _ (fun b o hb q => k3 b o hb (k2 _ _ (k1 _ _ q))) e3
/-- the call of the def -/
theorem xi_run {t : Addr} {args : Args} {R : Result → Shared → Prop} (F : XiF K P D f cda cc fd) (Z : XiC K D f C) (T : OexC K C) (X : K.In s.heap) (hCe : ∀ b o, K.lookup b = some o → b ≠ e) (hlim : s.heap.NoLimit) (hroom : A.depth < recursionLimit) (hbt : BindsTo s fd args [("self", .ref e), ("at", v)]) (he : s.heap.get? e = some (excObj C t none .none))
    (hg : s.heap.Ns mainGlobals mg) (hgs : mg "super" = none) (hb : s.heap.Ns builtinsNs mb) (hbs : mb "super" = some (.type "super"))
    (h : ∀ h' dx t' tk, (∀ b o, b ≠ e → s.heap.get? b = some o → h'.get? b = some o) → s.heap.objs.size ≤ dx → dx ≠ e → h'.get? e = some ({ cls := .ref C, dict := some dx, data := .fields #[.ref t', .none, .none, .none, .bool false, .none] } : Obj) → h'.Ns1 dx (fun y => if y = "at" then some v else none) → R (.ok (.ret .none)) { s with heap := h', toks := tk }) :
    codeAny (model P w) A (.call (.ref f) args) R s := by
  obtain ⟨oc, od', osl, dV, kV, doc, pm, an, ct, hfd, hf⟩ := F.fn
  have hfd2 := hfd
  subst hfd
  refine ks_codeAny_call_defAt (fd := ksFn "__init__" "PlayError.__init__" xiArgs [xiS1, xiS2] xiScope dV kV doc pm an (.ref cda) ct cc) (body := [xiS1, xiS2]) (binds := [("self", .ref e), ("at", v)]) hroom (X _ _ hf) rfl hlim (codeRec_of X F.code) rfl hbt (by
    show ∀ x ∈ xiScope.names, x.2 ≠ .cell
    decide) (by
    intro x hx
    rcases List.mem_cons.mp hx with rfl | hx
    · rfl
    · rw [List.mem_singleton.mp hx]
      rfl) (fun h₁ hns hk₁ => ?_) rfl rfl rfl
  have X1 : K.In h₁ := X.keeps hk₁
  have he1 := hk₁ _ _ he
  have up : ∀ {a : Addr} {mm : Str → Option Value}, s.heap.Ns a mm → h₁.Ns a mm := fun ⟨oL, es, ep, q1, q2⟩ => ⟨oL, es, ep, hk₁ _ _ q1, q2⟩
  have hLe : s.heap.objs.size ≠ e := Nat.ne_of_gt (Heap.lt_size he)
  refine ks_wpAt_execs_cons ?_
  refine ks_wpAt_Expr_any (xi_eval (s := { s with heap := h₁, toks := s.toks + 2 }) F Z X1 hns rfl rfl he1 hLe (up hg) hgs (up hb) hbs fun h2 t2 tk2 k2 e2 => ?_) rfl rfl
  show _root_.PySem.wpAt _ _ _ (execs [xiS2] _) _ _ _
  refine ks_wpAt_execs_cons (wpAt_of_wpAny ?_)
  have k12 : ∀ b o, b ≠ e → s.heap.get? b = some o → h2.get? b = some o := fun b o hb q => k2 b o hb (hk₁ _ _ q)
  have hns2 : h2.Ns s.heap.objs.size (fun x => List.lookup x [("at", v), ("self", .ref e)]) := by
    obtain ⟨oL, es, ep, q1, q2⟩ := hns
    exact ⟨oL, es, ep, k2 _ _ hLe q1, q2⟩
  refine plainObj_wpAny_Assign_Attribute ?_ rfl
  refine wpAny_Name (wpAny_loadName_local rfl rfl hns2 (v := v) rfl ?_)
  refine wpAny_Name (wpAny_loadName_local rfl rfl hns2 (v := .ref e) rfl ?_)
  obtain ⟨nm, q, N, bs, bm, sn, sub, ab, col, dd, k0, k1, k2', k3, k5, hC, hbm⟩ := T.cls
  have hcl : clsIn K C = some { name := nm, bases := bs, mro := .ref C :: bm, ns := N, qualname := q, hasDict := true, slotNames := sn, subclasses := sub, abstract := ab, collection := col, hasDel := false } := by unfold clsIn; rw [hC] <;> rfl
  have X2 : K.In h2 := fun b o hb => k2 b o (hCe b o hb) (X1 _ _ hb)
  refine set_plain X2 (ox := { cls := .ref C, dict := none, data := .fields #[.ref t2, .none, .none, .none, .bool false, .none] }) (od := none) ⟨e2, rfl, rfl, trivial⟩ T.sa ?_
  refine PySem.HandSPX.exc_osa X2 e2 hcl (show PySem.HandSPX.refsVE (.ref C :: bm) = true from hbm) rfl Z.at_ (fun h' tk' dx k dn dne hx hn => ?_)
  refine wpAt_of_wpAny (wpAny_execs_nil ?_)
  exact h h' dx t2 _ (fun b o hb q => k b o hb (k12 b o hb q)) (Nat.le_trans (Nat.le_of_lt (by obtain ⟨oL, _, _, q1, _⟩ := hns2; exact Heap.lt_size q1)) dn) dne hx hn
end
end VL
set_option Elab.async false
set_option linter.all false
set_option maxRecDepth 100000
set_option maxHeartbeats 4000000
set_option autoImplicit false
/-! VXR: error classes made and raised. -/
namespace VL
open PySem PySem.Spec PyProof.Rows L2 R
/-- what __init__ of an error class promises -/
def xiSp (K : PySem.W.Frag) (D f : Addr) : Sp := fun vs H Q _ => ∃ (a C : Addr) (y : V), vs = [.ref a, y] ∧ XiC K D f C ∧ OexC K C ∧ H a = some (exo a C none) ∧ ∀ dx, H dx = none → dx ≠ a → Q .non (upd (upd H dx (exd dx [("at", y)])) a (exo a C (some dx)))
theorem xi_ok {P : Program} {w : World} {K : PySem.W.Frag} {mg : Str → Option Value} {base : Heap} {D f cda cc : Addr} {fd : FuncData} {k : Nat} (F : XiF K P D f cda cc fd) : FnOk P w K mg base (L2N.CX P w) k f fd ["self", "at"] (xiSp K D f) := by
  refine ⟨fun vs H Q E h => ?_, fun A outer s H args us vs Q E hr e0 hbt rv h => ?_⟩
  · obtain ⟨a, C, y, rfl, _⟩ := h
    rfl
  obtain ⟨a, C, y, rfl, Z, T, ea, q⟩ := h
  obtain ⟨u, rfl, ry⟩ : ∃ u, us = [.ref a, u] ∧ RelV y u := by
    cases rv with
    | cons r1 rt =>
      cases rt with
      | cons r2 rn =>
        cases rn
        cases r1
        exact ⟨_, rfl, r2⟩
  have kb : ∀ b o, base.get? b = some o → s.heap.get? b = some o := fun b o e => (e0.bs b o e).1
  obtain ⟨t1, he⟩ := exo_at e0.hok ea
  obtain ⟨mb, hb1, hb2⟩ := e0.mod.blt
  have nsk : ∀ {x : Addr} {mm : Str → Option Value}, base.Ns x mm → s.heap.Ns x mm := fun ⟨o, es, ep, q1, q2⟩ => ⟨o, es, ep, kb _ _ q1, q2⟩
  refine xi_run (C := C) (v := u) (e := a) (mg := mg) (mb := mb) F Z T (e0.mod.kin.keeps kb) (fun b o hb z => ?_) (e0.mod.nolimit.keeps kb) hr.depth hbt he (nsk e0.mod.glob) (PySem.W.mg_none_of e0.mod.kin e0.mod.glob F.sup) (nsk hb1) ((hb2 _ (by decide)).trans (by kernel_rfl)) fun h' dx t' tk k3 dn dne hx hn => ?_
  · have := (e0.bs b o (e0.mod.kin b o hb)).2
    rw [z, ea] at this
    cases this
  have hnd : H dx = none := e0.hok.fresh dn
  have nd : ∀ {b : Addr} {o : Obj}, s.heap.get? b = some o → b ≠ dx := fun {b o} q => Nat.ne_of_lt (Nat.lt_of_lt_of_le (Heap.lt_size q) dn)
  have na : ∀ {b : Addr}, H b = none → b ≠ a := fun {b} n z => by
    rw [z, ea] at n
    cases n
  refine ⟨.non, _, rfl, e0.bare, ?_, ?_, rfl, q dx hnd dne⟩
  · exact {
      keep := fun b o q n _ _ => k3 b o (na n) q
      slot := fun b o q n _ _ => ⟨o.slots, k3 b o (na n) q⟩
      free := fun b o q n _ => by rw [upd_ne (na n), upd_ne (nd q)]; exact n
      there := fun b o q _ => by
        by_cases hb : b = a
        · exact ⟨_, by rw [hb]; exact hx⟩
        · exact ⟨o, k3 b o hb q⟩
      tups := fun b xs q => by rw [upd_ne (at_ne ea q exo_tup), upd_ne (ne_of_none q hnd)]; exact q
      frzs := fun b o v q => by rw [upd_ne (at_ne ea q exo_frz), upd_ne (ne_of_none q hnd)]; exact q
      tbls := fun b ps q => ⟨#[], by rw [upd_ne (at_ne ea q exo_tbl), upd_ne (ne_of_none q hnd), q]; simp⟩ }
  · intro b o q
    by_cases hba : b = a
    · subst hba
      rw [upd_same] at q
      cases q
      exact exo_ok hx
    · rw [upd_ne hba] at q
      by_cases hd : b = dx
      · subst hd
        rw [upd_same] at q
        cases q
        exact exd_ok hn (relO_put (fs := []) ry fun g => True.intro)
      · rw [upd_ne hd] at q
        exact (e0.hok b o q).stay (fun c v hc z => k3 c v (by
            rcases hc with hc | hc
            · rw [hc]
              exact hba
            · exact at_ne ea hc exo_own) z)
          (fun c hc => by rw [upd_ne (at_ne ea hc exo_own), upd_ne (ne_of_none hc hnd)]; exact hc) (fun c xs hc => by rw [upd_ne (at_ne ea hc exo_tup), upd_ne (ne_of_none hc hnd)]; exact hc)
section
variable {X : Cx} {e : Expr} {es : List Expr} {ta : TA} {p pos : Pos}
/-- C(e, ..): the error has no context -/
theorem pmk_oexN {CX : CXT} {x : Str} {C fI : Addr} {k : Nat} {fd : FuncData} {ps : List Str} {sp : Sp} {ds : List Value} {dvs : List V} (T : OexC X.K C) (iC : PySem.W.findIn X.K (.ref C) "__init__" = some (some (.ref fI))) (tI : PySem.W.typeIn X.K (.ref fI) = some (.type "function"))
    (F1 : FnOk X.prog X.w X.K X.mg X.base CX k fI fd ps sp) (hr : Room (k + 1) X.A) (hb : Binds X.K fd ps ds) (hd : Vals dvs ds) (hx : Passes CX X (fun _ _ _ => False)) (hg : Gl X x) (hm : X.mg x = some (.ref C)) (ha : PA X (e :: es) ta)
    (hdb : (x == ("__debug__" : Str)) = false := by decide) (he : starEach (e :: es) X.env = (false, eval e X.env) :: starEach es X.env := by rfl) (hpl : (backTo pos (starEach es X.env)).any (·.1) = false := by rfl) :
    L2N.PMk X (.Call (.Name x p) (e :: es) [] pos) (tMkO C sp dvs ta) := by
  intro pins s σ H Q I h
  obtain ⟨nm, q, N, bs, bm, sn, sub, ab, col, dd, k0, k1, k2, k3, k5, hC, hbm⟩ := T.cls
  refine wpAny_Call_Name_kw (ld_glob I hg hm ?_ hdb)
  refine PySem.W.callWith_K (h₀ := X.base) I.ok.mod.kin T.kC (thn (ha.run pos pins s σ H _ I h) fun us s1 ⟨vs, H1, I1, r1, hz, q1⟩ => ⟨I1.kIn, ?_⟩) he hpl
  show wpAny _ _ (call (.ref C) us) _ _ _
  obtain ⟨hp, g, dr, tk, os⟩ := s1
  have hsz : hp.objs.size ≤ hp.objs.size + 1 := Nat.le_succ _
  have hn : H1 (hp.objs.size + 1) = none := I1.hok.fresh hsz
  have hq := q1 (hp.objs.size + 1) hn
  have kk : ∀ b o, hp.get? b = some o → ((hp.push (PySem.W.kdv_tup us)).push (PySem.HandSPX.excO C hp.objs.size)).get? b = some o := fun b o e => Heap.get?_push_of_some _ (Heap.get?_push_of_some _ e)
  have hget : ((hp.push (PySem.W.kdv_tup us)).push (PySem.HandSPX.excO C hp.objs.size)).get? (hp.objs.size + 1) = some (PySem.HandSPX.excO C hp.objs.size) := by heap_get
  have I2 : Inv X pins σ (upd H1 (hp.objs.size + 1) (exo (hp.objs.size + 1) C none)) ⟨(hp.push (PySem.W.kdv_tup us)).push (PySem.HandSPX.excO C hp.objs.size), g, dr, tk, os⟩ :=
    I1.laid (t' := tk) (a := hp.objs.size + 1) (o := exo (hp.objs.size + 1) C none) (h' := (hp.push (PySem.W.kdv_tup us)).push (PySem.HandSPX.excO C hp.objs.size)) kk hsz (exo_ok hget)
  have r2 : Vals (V.ref (hp.objs.size + 1) :: (vs ++ dvs)) (Value.ref (hp.objs.size + 1) :: (us ++ ds)) := .cons rfl (r1.append hd)
  have hl : (Value.ref (hp.objs.size + 1) :: us ++ ds).length = ps.length := by
    have e := r2.length
    rw [F1.len _ _ _ _ hq] at e
    exact e.symm
  have hus : us.length ≤ sizeLine := by
    rw [← Paired.length r1, sizeLine_eq]
    omega
  refine wpAny_call (PySem.HandSPX.call_own F.excBase_ValueError (fun Y => PySem.HandSPX.refsVE_contains Y bm hbm) (I1.kIn _ _ hC) (PySem.W.looks_findIn I1.kIn iC) (fun self => PySem.W.bind_fn I1.kIn self tI) hus
    (codeAny_mono (F1.run _ X.stack _ _ ⟨Value.ref (hp.objs.size + 1) :: us, []⟩ (Value.ref (hp.objs.size + 1) :: (us ++ ds)) _ _ (fun _ _ _ => False) (hr.make C us []) (I2.env0.make C us []) (hb _ (Value.ref (hp.objs.size + 1) :: us) I2.kIn hl) r2 hq) fun r s' hq' => ?_))
  cases r with
  | error er => exact hx pins σ _ _ er s' I2 hq'
  | ok fl =>
    cases fl with
    | ret u =>
      obtain ⟨v, H2, os2, bare2, un2, hok2, rv, ev, d, fs, ea, ed, hd1, q2⟩ := hq'
      subst ev
      obtain ⟨h2, g2, d2, t2, os'⟩ := s'
      obtain ⟨t0, G, J, kG, ge, hoe, na⟩ := mk_end0 (d2 := d2) (t2 := t2) I1 hsz kk un2 hok2 os2 bare2 ea ed hd1
      refine ⟨rv, ⟨hp.objs.size + 1, _, _, ⟨G, g2, d2, t2, os'⟩, _, .ref C, some d, rfl, J, kG, ge, hoe, ⟨rfl, rfl, fun vs hv => ?_⟩, rfl, rfl, na, rfl, bare2, raises_own T.exC T.tyC, q2⟩⟩
      cases hv
      rfl
    | next => exact False.elim hq'
    | brk => exact False.elim hq'
    | cont => exact False.elim hq'
end
/-- the c-th error class, named x -/
structure EcX (T : Tb) (P : Program) (mg : Str → Option Value) (c : Nat) (x : Str) : Prop where
  ex : ∃ (C D f cda cc : Addr) (fd : FuncData), T.ca[c]? = some C ∧ mg x = some (.ref C) ∧ XiF T.K P D f cda cc fd ∧ XiC T.K D f C ∧ OexC T.K C ∧ PySem.W.findIn T.K (.ref C) "__init__" = some (some (.ref f)) ∧ PySem.W.typeIn T.K (.ref f) = some (.type "function") ∧ Binds T.K fd ["self", "at"] []
section
variable {M : Md} {T : Tb} {E : XK} {O O1 : List Nat} {X : Cx} {k c : Nat} {e : Expr} {f : En → R PV} {pos pos' p : Pos} {x : Str}
/-- raise C(e) -/
theorem vs_raise (G : Good T E k X) (hk : 1 ≤ k) (C : EcX T X.prog X.mg c x) (ha : VE T E O X e f) (hg : Gl X x := by rfl) (hdb : (x == ("__debug__" : Str)) = false := by decide) (he : starEach [e] X.env = (false, eval e X.env) :: starEach [] X.env := by rfl) (hpl : (backTo pos (starEach [] X.env)).any (·.1) = false := by rfl) :
    VS1 (M := M) T E O O1 X (.Raise (some (.Call (.Name x p) [e] [] pos)) none pos') (fun env => do
      let d ← f env
      .exc c d) := by
  obtain ⟨C, D, fI, cda, cc, fd, hca, hm, F, Z, Tc, iC, tI, hb⟩ := C.ex
  obtain ⟨t, pt, qt⟩ := ha
  have hK := G.K
  rw [← hK] at F Z Tc iC tI hb
  refine ⟨_, L2N.ps_raise G.calm G.tk (pmk_oexN (CX := L2N.CX X.prog X.w) (k := 0) (ds := []) (dvs := []) Tc iC tI (xi_ok F) (G.rm.mono hk) hb .nil (L2N.passes_call G.tk (fun _ _ _ _ h => h.elim)) hg hm (pa_cons pt pa_nil he) hdb he hpl), fun B L0 H0 L ow H σ env D' S h => ?_⟩
  simp only [res_bind] at h
  refine qt L ow H σ env _ S.ho S.re (h.imp (fun d kx v H1 e1 rv => ?_) fun _ _ x => xw_mono S.ex x)
  have kx' : xw T E H0 c d := kx
  refine ⟨by show 1 ≤ 1000; decide, fun a hna => ?_⟩
  refine ⟨a, C, v, rfl, Z, Tc, upd_same, fun dx hdx hne => ⟨rfl, dx, [("at", v)], upd_same, by rw [upd_ne hne, upd_same], ?_, ?_⟩⟩
  · rw [upd_ne hne] at hdx
    exact hdx
  · rw [upd_ne hne] at hdx
    have ex : Ex H1 (upd (del (upd (upd (upd H1 a (exo a C none)) dx (exd dx [("at", v)])) a (exo a C (some dx))) a) dx (.xd [("at", v)])) := fun b o hb => by
      have hba : b ≠ a := ne_of_none hb hna
      have hbd : b ≠ dx := ne_of_none hb hdx
      rw [upd_ne hbd, del_ne hba, upd_ne hba, upd_ne hbd, upd_ne hba]
      exact hb
    exact kx' _ _ _ ((S.ex.trans e1).trans ex) ⟨C, dx, v, hca, rfl, rfl, upd_same, rv.mono (fun b o hb => ex b o (hid_le b o hb))⟩
end
end VL
set_option Elab.async false
set_option linter.all false
set_option maxRecDepth 100000
set_option maxHeartbeats 4000000
set_option autoImplicit false
/-! VXT: try with clauses 'except C as e' that return. -/
namespace VL
open PySem PySem.Spec PyProof.Rows L2 R
/-- except x as n, a suite that returns; i the slot of n, c the class -/
structure Cl where
  x : Str
  np : Pos
  n : Str
  i : Nat
  b : Stmt
  suite : List Stmt
  pos : Pos
  c : Value
  ts : Addr → Value → Option Addr → TS
def Cl.h (q : Cl) : ExceptHandler := .ExceptHandler (some (.Name q.x q.np)) (some q.n) (q.b :: q.suite) q.pos
/-- only returns are wished -/
abbrev onlyRt (rt : VK) : Ends := { nx := fun _ _ => False, rt := rt, bk := fun _ _ => False, ct := fun _ _ => False }
structure ClOk (X : Cx) (q : Cl) : Prop where
  nm : Names X q.x q.c
  at_ : X.N[q.i]? = some q.n
  loc : X.env.kindOf q.n = some .local
  run : ∀ (a : Addr) (oe : Obj) (cls : Value) (d : Option Addr) (pn : List (Addr × Obj)), L2N.Zn cls d oe → (∃ vs, oe.data = .fields vs) → PSs (X.suite a ((a, oe) :: pn)) (q.b :: q.suite) (q.ts a cls d)
def wCl (K : PySem.W.Frag) (Wout : WX) (rt : VK) : List Cl → WX
  | [] => Wout
  | q :: r => fun cls d σ H => ∃ b, PySem.W.exmOne K cls q.c = some b ∧ (b = true → ∀ a, H a = none → q.ts a cls d (onlyRt rt) (σ.set q.i (some (.ref a))) H) ∧ (b = false → wCl K Wout rt r cls d σ H)
section
variable {X : Cx} {pins : List (Addr × Obj)} {σ : L2.St} {H : Hp} {sI s3 : Shared} {B : Heap} {a : Addr} {cls : Value} {d : Option Addr} {Wout : WX} {D : Ends}
/-- the caught thing lies where no frame does -/
theorem flying_off (hs : X.stack = X.env :: X.outer) (hf : X.env.frame = some X.env.locals) (fl : HandSPX.FlyingZ B (X.env :: X.outer) a (L2N.Zn cls d) s3.heap) : ∃ oe vs, s3.heap.get? a = some oe ∧ L2N.Zn cls d oe ∧ oe.data = .fields vs ∧ a ≠ X.env.locals ∧ a ∉ X.fs := by
  obtain ⟨oe, vs, he, hz, hd⟩ := fl.there
  have off : a ∉ frs (X.env :: X.outer) := fun hm => by
    obtain ⟨_, o2, q1, q2⟩ := fl.2.2.1.mem hm
    rw [he] at q1
    cases q1
    exact q2 _ hd
  refine ⟨oe, vs, he, hz, hd, fun z => off (List.mem_filterMap.mpr ⟨_, List.mem_cons_self, by rw [hf, z]⟩), fun hm => ?_⟩
  obtain ⟨e, q1, q2⟩ := List.mem_filterMap.mp hm
  exact off (List.mem_filterMap.mpr ⟨e, List.mem_cons_of_mem _ q1, q2⟩)
theorem cl_go (ok : X.Ok) (hs : X.stack = X.env :: X.outer) (hf : X.env.frame = some X.env.locals) (hN : X.N.Nodup) (tk : L2N.Takes X Wout) (J : Inv X pins σ H sI) (nb : ∀ b o, sI.heap.get? b = some o → b ∉ frs X.stack → B.get? b = some o) (na : H a = none)
    (fl : HandSPX.FlyingZ B (X.env :: X.outer) a (L2N.Zn cls d) s3.heap) (up : sI.heap.UpToSlots s3.heap) (os : s3.os = sI.os) (ag : AllBare s3.gens) :
    ∀ l : List Cl, (∀ q ∈ l, ClOk X q) → wCl X.K Wout D.rt l cls d σ H → wpAny (model X.prog X.w) X.A (handleBy (.ref a) X.env (l.map Cl.h)) (SP X pins D) X.xe s3
  | [], _, w => by
    refine wpAny_handleBy_nil ?_
    have fl0 := fl
    obtain ⟨_, _, _, oe, vs, T, oT, ts', he, _, hd, h1, _⟩ := fl0
    have go : wpAny (model X.prog X.w) X.A (setFlight (.ref a) X.env.frame) (fun _ s4 => wpAny (model X.prog X.w) X.A (throw (.ref a) : Sem Flow) (SP X pins D) X.xe s4) X.xe s3 := by
      rw [hf]
      exact HandSPX.setFlight_upZ fl fun h4 held up4 => wpAny_throw (tk _ _ ⟨a, B, sI, pins, σ, H, cls, d, rfl, J, nb, up.trans up4, .inr (.inr (by rw [hs]; exact held)), na, os, ag, w⟩)
    unfold PySem.passOn
    refine wpAny_bind (wpAny_field he hd h1 ?_)
    rw [if_neg (show ¬ ((Value.ref T == Value.none) = true) by simp)]
    first
      | exact wpAny_bind (wpAny_pure (wpAny_bind go))
      | exact wpAny_bind go
  | q :: r, hk, w => by
    obtain ⟨b, m1, yes, no⟩ := w
    have Q := hk q List.mem_cons_self
    obtain ⟨oe, vs, he, hz, hd, nL, nF⟩ := flying_off hs hf fl
    have J3 : Inv X pins σ H s3 := J.landed nb fl.1 up os ag
    have S3 := J3.suite he hd na nL nF
    have typ : PySem.W.Looks (model X.prog X.w) s3.heap (typeOf (.ref a)) cls := fun A Q E s k z => wpAny_typeOf_ref (k _ _ he) (by rw [hz.1]; exact z)
    have fits := PySem.W.exm_one (M := model X.prog X.w) J3.kIn typ m1
    refine wpAny_handleBy_cons (codeAny_handlers_test ?_) (by intro z; cases z)
    have name : ∀ {Q' : Value → Shared → Prop} {E : Value → Shared → Prop}, Q' q.c s3 → wpAny (model X.prog X.w) (X.A.mark (some (.ref a))) (eval (.Name q.x q.np) X.env) Q' E s3 := fun z => by
      obtain ⟨g1, g2, g3 | ⟨g3, g4, g5⟩⟩ := Q.nm
      · exact ld_glob (X := X.suite a ((a, oe) :: (X.pn ++ pins))) S3 g1 g3 z g2
      · exact ld_blt (X := X.suite a ((a, oe) :: (X.pn ++ pins))) S3 g1 g3 g4 z g5 g2
    refine name (fits.here ?_)
    cases b with
    | false => exact cl_go ok hs hf hN tk J nb na fl up os ag r (fun q' h => hk q' (List.mem_cons_of_mem _ h)) (no rfl)
    | true =>
      refine codeAny_handlers_suite_as (HandSPX.lands_againZ fl fun h4 fl4 up4 => ?_)
      have up5 := up.trans up4
      obtain ⟨oe4, vs4, he4, hz4, hd4, _, _⟩ := flying_off (s3 := { s3 with heap := h4 }) hs hf fl4
      have J4 : Inv X pins σ H { s3 with heap := h4 } := J.landed nb fl4.1 up5 os ag
      have S4 := J4.suite he4 hd4 na nL nF
      refine store_ok (X := X.suite a ((a, oe4) :: (X.pn ++ pins))) (v := .ref a) S4 hN Q.at_ (.inl Q.loc) rfl (fun s5 S5 => ?_) (.inr Q.loc)
      refine wpAny_mono ((Q.run a oe4 cls d (X.pn ++ pins) hz4 ⟨_, hd4⟩).run [] s5 _ H (onlyRt D.rt) S5 (yes rfl a na)) (fun f s6 out => ?_) (fun _ _ z => False.elim z)
      cases f with
      | ret u =>
        obtain ⟨v6, σ6, H6, S6, r6, q6⟩ := out
        exact gone_ok (S6.unsuite ok) hN Q.at_ Q.loc fun s7 J7 => ⟨_, _, _, J7, r6, q6⟩
      | next => obtain ⟨_, _, _, z⟩ := out; exact z.elim
      | brk => obtain ⟨_, _, _, z⟩ := out; exact z.elim
      | cont => obtain ⟨_, _, _, z⟩ := out; exact z.elim
/-- try: body, clauses that return -/
theorem ps_try_cl {body : List Stmt} {q : Cl} {l : List Cl} {pos : Pos} {tb : WX → TS} (hs : X.stack = X.env :: X.outer) (hf : X.env.frame = some X.env.locals) (hN : X.N.Nodup) (tk : L2N.Takes X Wout)
    (hb : ∀ (W : WX) (pn : List (Addr × Obj)) (xe : Value → Shared → Prop), L2N.Takes (X.tr pn xe) W → PassesOwn (model X.prog X.w) X.A X.env xe → PSs (X.tr pn xe) body (tb W)) (hk : ∀ q' ∈ q :: l, ClOk X q') :
    PS X (.Try body ((q :: l).map Cl.h) [] [] pos) (fun D σ H => tb (wCl X.K Wout D.rt (q :: l)) D σ H) := by
  refine ⟨fun pins s σ H D I h => ?_⟩
  have ok := I.ok
  have hfr : X.A.frames = some (X.env :: X.outer) := by rw [ok.frames, hs]
  refine wpAny_Try_except ?_
  refine wpAny_mono ((hb (wCl X.K Wout D.rt (q :: l)) (X.pn ++ pins) _ (fun u s' out => ?_) PassesOwn.looking).run [] s σ H D (I.toTry _) h) (fun f s1 out => ?_) (fun e s1 z => z)
  · obtain ⟨a, B, sI, pins', σ', H', cls, d, rfl, J', nb, up, sky, na, os, ag, w⟩ := out
    rw [show (X.tr (X.pn ++ pins) _).stack = X.env :: X.outer from hs] at sky
    exact L2N.Sky.land L2N.Zn.steady hfr hf sky fun h3 fl3 up3 => cl_go (s3 := { s' with heap := h3 }) ok hs hf hN tk (J'.ofTry ok) nb na fl3 (up.trans up3) os ag (q :: l) hk w
  · cases f with
    | next =>
      obtain ⟨σ', H', J', z⟩ := out
      exact wpAny_execs_nil ⟨σ', H', J'.ofTry ok, z⟩
    | brk =>
      obtain ⟨σ', H', J', z⟩ := out
      exact ⟨σ', H', J'.ofTry ok, z⟩
    | cont =>
      obtain ⟨σ', H', J', z⟩ := out
      exact ⟨σ', H', J'.ofTry ok, z⟩
    | ret u =>
      obtain ⟨v, σ', H', J', r, z⟩ := out
      exact ⟨v, σ', H', J'.ofTry ok, r, z⟩
end
end VL
set_option Elab.async false
set_option linter.all false
set_option maxRecDepth 100000
set_option maxHeartbeats 4000000
set_option autoImplicit false
/-! VXC: try .. except C as e: return what e tells, on plain values. -/
namespace VL
open PySem PySem.Spec PyProof.Rows L2 R
/-- neither list nor dict nor anything that refers -/
def flat1 : PV → Bool
  | .none => true
  | .bool _ => true
  | .int _ => true
  | .str _ => true
  | _ => false
theorem Rep.flat1 {T : Tb} {H H' : Hp} {v : V} {d : PV} (r : Rep T H v d) (h : flat1 d = true) : Rep T H' v d := by
  cases d with
  | none => cases r; exact .non
  | bool b => cases r; exact .bl _
  | int i => cases r; exact .int _
  | str x =>
    cases r with
    | str z q y => exact .str z q y
  | _ => cases h
/-- what the caught error's expression gives, from its class and what it tells -/
def HE (T : Tb) (X : Cx) (i : Nat) (ex : Expr) (g : Nat → PV → PV) : Prop := ∃ te : Addr → Option Addr → Addr → Nat → TE,
  (∀ (a : Addr) (oe : Obj) (d : Option Addr) (pn : List (Addr × Obj)) (C : Addr) (c : Nat), T.ca[c]? = some C → L2N.Zn (.ref C) d oe → (∃ vs, oe.data = .fields vs) → XfC X.K C → PySem.W.findIn X.K (.ref C) "at" = some none → PE (X.suite a ((a, oe) :: pn)) ex (te a d C c)) ∧
  ∀ (a C dd : Addr) (c : Nat) (H : Hp) (σ : L2.St) (v : V) (dv : PV) (Q : VK), T.ca[c]? = some C → H dd = some (.xd [("at", v)]) → Rep T H v dv → flat1 dv = true → σ[i]? = some (some (.ref a)) → (∀ w H', Ex H H' → (∀ L, Trk L H → Rep T (hid H' L) w (g c dv)) → Q w H') → te a (some dd) C c σ H Q
section
variable {T : Tb} {X : Cx} {i : Nat} {n : Str} {p pos : Pos}
/-- e.at -/
theorem he_at (hN : X.N[i]? = some n) (hv : Vis X.env.scope n) (hd : (n == ("__debug__" : Str)) = false := by decide) (hcd : (n == ("__classdict__" : Str)) = false := by decide) (hb : attributeBase (.Name n p) "at" X.env (eval (.Name n p) X.env) = eval (.Name n p) X.env := by rfl) :
    HE T X i (.Attribute (.Name n p) "at" pos) (fun _ d => d) := by
  refine ⟨fun a d C _ => tXf a (.ref C) d C "at" (tVar i), fun a oe d pn C c _ hz hf hC hno => pe_xf hC hno hz.zc hf (pe_var (X := X.suite a ((a, oe) :: pn)) hN hv hd hcd) hb, fun a C dd c H σ v dv Q _ hx rv hfl hσ h => ?_⟩
  exact ⟨_, hσ, rfl, rfl, dd, _, v, rfl, hx, rfl, h v H (Evl.Ex.refl _) fun L _ => rv.flat1 hfl⟩
/-- ("..", e.at) -/
theorem he_pair {ex : Expr} {g : Nat → PV → PV} {z : Str} {j kk : Nat} {p2 : Pos} (x : List Nat) (hx : (decide (z.cps.toList = x) && (sok x && decide (x.length ≤ LN))) = true) (h : HE T X i ex g) (hs : ∀ a pn, starEach [.Constant (.str z) j p, ex] (X.suite a pn).env = (false, eval (.Constant (.str z) j p) (X.suite a pn).env) :: starEach [ex] (X.suite a pn).env := by intros; rfl) (hs2 : ∀ a pn, starEach [ex] (X.suite a pn).env = (false, eval ex (X.suite a pn).env) :: starEach [] (X.suite a pn).env := by intros; rfl) :
    HE T X i (.Tuple [.Constant (.str z) j p, ex] kk p2) (fun c d => .tup [.str x, g c d]) := by
  rw [Bool.and_eq_true, Bool.and_eq_true, decide_eq_true_eq, decide_eq_true_eq] at hx
  obtain ⟨te, h1, h2⟩ := h
  refine ⟨fun a d C c => tTup (tCons (tC (.str z)) (tCons (te a d C c) tNil)), fun a oe d pn C c hc hz hf hC hno => pe_tup (pa_cons pe_str (pa_cons (h1 a oe d pn C c hc hz hf hC hno) pa_nil (hs2 _ _)) (hs _ _)), fun a C dd c H σ v dv Q hc hxd rv hfl hσ hq => ?_⟩
  refine h2 a C dd c H σ v dv _ hc hxd rv hfl hσ fun w H' e r => ⟨by rw [sizeLine_eq]; show 2 ≤ 16777216; decide, fun q hq' => hq _ _ (e.trans (ex_upd hq')) fun L tr => ?_⟩
  exact rep_newT (tr.mono e) hq' (.cons (rep_str' hx.1 hx.2.2 hx.2.1) (.cons (r L tr) .nil)) (by show 2 ≤ LN; decide)
end
/-- the clauses, plain: which classes, what is told -/
def hdlP : List ((Nat → Bool) × (Nat → PV → PV)) → Nat → PV → R Fl
  | [], c, d => .exc c d
  | (s, g) :: r, c, d => if s c = true then (if flat1 d = true then .ok (.rt (g c d)) else .bad) else hdlP r c d
def tryP (fs : En → R Fl) (cs : List ((Nat → Bool) × (Nat → PV → PV))) (env : En) : R Fl := match fs env with
  | .exc c d => hdlP cs c d
  | r => r
/-- one clause: except C as n: return ex -/
structure ClF (M : Md) (T : Tb) (X : Cx) (x : Str) (np : Pos) (n : Str) (ex : Expr) (rp hp : Pos) (i : Nat) (s : Nat → Bool) (g : Nat → PV → PV) (cv : Value) : Prop where
  nm : Names X x cv
  at_ : X.N[i]? = some n
  loc : X.env.kindOf n = some .local
  fit : ∀ c C, T.ca[c]? = some C → PySem.W.exmOne T.K (.ref C) cv = some (s c)
  he : HE T X i ex g
  md : ∀ L H0 H v d c, Rep T (hid H L) v (g c d) → flat1 d = true → M L H0 H v (g c d)
/-- what every error class has -/
def ExAll (T : Tb) : Prop := ∀ C ∈ T.ca, XfC T.K C ∧ PySem.W.findIn T.K (.ref C) "at" = some none
structure ClD where
  x : Str
  np : Pos
  n : Str
  ex : Expr
  rp : Pos
  hp : Pos
  i : Nat
  s : Nat → Bool
  g : Nat → PV → PV
  cv : Value
def ClD.ok (M : Md) (T : Tb) (X : Cx) (q : ClD) : Prop := ClF M T X q.x q.np q.n q.ex q.rp q.hp q.i q.s q.g q.cv
def ClD.h (q : ClD) : ExceptHandler := .ExceptHandler (some (.Name q.x q.np)) (some q.n) [.Return (some q.ex) q.rp] q.hp
section
variable {M : Md} {T : Tb} {E : XK} {O O1 : List Nat} {X : Cx} {k : Nat} {body : List Stmt} {fs : En → R Fl} {pos : Pos}
theorem takes_len {W W' : WX} (t : L2N.Takes X W) (h : ∀ c d σ H, σ.length = X.N.length → W' c d σ H → W c d σ H) : L2N.Takes X W' := fun u s' ⟨a, B, sI, pins, σ, H, cls, d, e, I, nb, up, sky, na, os, ag, w⟩ =>
  t u s' ⟨a, B, sI, pins, σ, H, cls, d, e, I, nb, up, sky, na, os, ag, h _ _ _ _ I.len w⟩
/-- a clause, for the walk -/
theorem cl_of (hA : ExAll T) (hK : X.K = T.K) {q : ClD} (hq : q.ok M T X) : ∃ Q : Cl, Q.h = q.h ∧ ClOk X Q ∧ Q.c = q.cv ∧ Q.i = q.i ∧ ∀ (a C dd : Addr) (c : Nat) (H : Hp) (σ : L2.St) (v : V) (dv : PV) (rt : VK), T.ca[c]? = some C → H dd = some (.xd [("at", v)]) → Rep T H v dv → flat1 dv = true → σ[q.i]? = some (some (.ref a)) →
    (∀ w H', Ex H H' → (∀ L, Trk L H → Rep T (hid H' L) w (q.g c dv)) → rt w H') → Q.ts a (.ref C) (some dd) (onlyRt rt) σ H := by
  obtain ⟨te, h1, h2⟩ := hq.he
  refine ⟨⟨q.x, q.np, q.n, q.i, .Return (some q.ex) q.rp, [], q.hp, q.cv, fun a cls d D σ H => ∃ (C : Addr) (c : Nat), cls = .ref C ∧ T.ca[c]? = some C ∧ te a d C c σ H D.rt⟩, rfl, ⟨hq.nm, hq.at_, hq.loc, fun a oe cls d pn hz hf => ?_⟩, rfl, rfl, fun a C dd c H σ v dv rt hc hx rv hfl hσ h => ?_⟩
  · refine ⟨fun pins s σ H D I hw => ?_⟩
    obtain ⟨C, c, rfl, hC, hw⟩ := hw
    obtain ⟨b1, b2⟩ := hA C (List.mem_of_getElem? hC)
    rw [← hK] at b1 b2
    exact (pss_one (ps_ret (h1 a oe d pn C c hC hz hf b1 b2))).run pins s σ H D I hw
  · exact ⟨C, c, rfl, hc, h2 a C dd c H σ v dv rt hc hx rv hfl hσ h⟩
theorem wcl_of (hA : ExAll T) (hK : X.K = T.K) {L0 : List Addr} {H0 : Hp} {B : Hp} {O1 : List Nat} {D : Ends} (t0 : Trk L0 H0) : ∀ {cs : List ClD} {Qs : List Cl}, (∀ q ∈ cs, q.ok M T X) → Qs.map Cl.h = cs.map ClD.h →
    (∀ (j : Nat) (q : ClD) (Q : Cl), cs[j]? = some q → Qs[j]? = some Q → Q.c = q.cv ∧ Q.i = q.i ∧ ∀ (a C dd : Addr) (c : Nat) (H : Hp) (σ : L2.St) (v : V) (dv : PV) (rt : VK), T.ca[c]? = some C → H dd = some (.xd [("at", v)]) → Rep T H v dv → flat1 dv = true → σ[q.i]? = some (some (.ref a)) →
      (∀ w H', Ex H H' → (∀ L, Trk L H → Rep T (hid H' L) w (q.g c dv)) → rt w H') → Q.ts a (.ref C) (some dd) (onlyRt rt) σ H) →
    ∀ {c : Nat} {dv : PV} {H' : Hp} {cls : Value} {p : Option Addr}, Ex H0 H' → XR T H' c dv cls p → Res (hdlP (cs.map fun q => (q.s, q.g)) c dv) (AfterS (M := M) T X.N.length B L0 H0 O1 D) (xw T E H0) →
    ∀ σ : L2.St, σ.length = X.N.length → wCl X.K (fun c d _ H => E c d H) D.rt Qs cls p σ H'
  | [], [], _, _, _, c, dv, H', cls, p, ex, xr, h, σ, _ => h cls p H' ex xr
  | [], _ :: _, _, e, _, _, _, _, _, _, _, _, _, _, _ => by cases e
  | _ :: _, [], _, e, _, _, _, _, _, _, _, _, _, _, _ => by cases e
  | q :: cs, Q :: Qs, hk, e, hd, c, dv, H', cls, p, ex, xr, h, σ, hl => by
    obtain ⟨C, dd, v, x1, rfl, rfl, x2, x3⟩ := xr
    obtain ⟨e1, e2, e3⟩ := hd 0 q Q rfl rfl
    have hq := hk q List.mem_cons_self
    have hh : Res (if q.s c = true then (if flat1 dv = true then (.ok (.rt (q.g c dv)) : R Fl) else .bad) else hdlP (cs.map fun q => (q.s, q.g)) c dv) (AfterS (M := M) T X.N.length B L0 H0 O1 D) (xw T E H0) := h
    refine ⟨q.s c, by rw [e1, hK]; exact hq.fit c C x1, fun hs a ha => ?_, fun hs => ?_⟩
    · rw [if_pos hs] at hh
      by_cases hfl : flat1 dv = true
      · rw [if_pos hfl] at hh
        have hi : q.i < σ.length := by rw [hl]; exact (List.getElem?_eq_some_iff.mp hq.at_).1
        refine e3 a C dd c H' _ v dv D.rt x1 x2 x3 hfl (by rw [e2, List.getElem?_set_self hi]) fun w H2 ex2 r => ?_
        exact hh w H2 (ex.trans ex2) (hq.md L0 H0 H2 w dv c (r L0 (t0.mono ex)) hfl)
      · rw [if_neg hfl] at hh
        exact hh.elim
    · rw [if_neg (by rw [hs]; exact Bool.false_ne_true)] at hh
      exact wcl_of (B := B) (O1 := O1) (D := D) hA hK t0 (cs := cs) (Qs := Qs) (fun q' h' => hk q' (List.mem_cons_of_mem _ h')) (List.cons.inj e).2 (fun j q' Q' h1 h2 => hd (j + 1) q' Q' h1 h2) ex ⟨C, dd, v, x1, rfl, rfl, x2, x3⟩ hh σ hl
/-- try: body, except C as e: return .. -/
theorem vs_try (G : Good T E k X) (hA : ExAll T) (hs : X.stack = X.env :: X.outer) (hf : X.env.frame = some X.env.locals) {q : ClD} {cs : List ClD} (hq : ∀ q' ∈ q :: cs, q'.ok M T X)
    (hb : ∀ (E' : XK) (pn : List (Addr × Obj)) (xe : Value → Shared → Prop), PassesOwn (model X.prog X.w) X.A X.env xe → Good T E' k (X.tr pn xe) → VS (M := M) T E' O O1 (X.tr pn xe) body fs) :
    VS1 (M := M) T E O O1 X (.Try body ((q :: cs).map ClD.h) [] [] pos) (tryP fs ((q :: cs).map fun q => (q.s, q.g))) := by
  have pick : ∀ l : List ClD, (∀ q' ∈ l, q'.ok M T X) → ∃ Qs : List Cl, Qs.map Cl.h = l.map ClD.h ∧ (∀ Q ∈ Qs, ClOk X Q) ∧ ∀ (j : Nat) (q : ClD) (Q : Cl), l[j]? = some q → Qs[j]? = some Q → Q.c = q.cv ∧ Q.i = q.i ∧ ∀ (a C dd : Addr) (c : Nat) (H : Hp) (σ : L2.St) (v : V) (dv : PV) (rt : VK), T.ca[c]? = some C → H dd = some (.xd [("at", v)]) → Rep T H v dv → flat1 dv = true → σ[q.i]? = some (some (.ref a)) →
      (∀ w H', Ex H H' → (∀ L, Trk L H → Rep T (hid H' L) w (q.g c dv)) → rt w H') → Q.ts a (.ref C) (some dd) (onlyRt rt) σ H := by
    intro l
    induction l with
    | nil => exact fun _ => ⟨[], rfl, fun _ h => (nomatch h), fun _ _ _ h => (nomatch h)⟩
    | cons q' l ih =>
      intro h
      obtain ⟨Qs, i1, i2, i3⟩ := ih fun q'' h' => h q'' (List.mem_cons_of_mem _ h')
      obtain ⟨Q, j1, j2, j3, j4, j5⟩ := cl_of hA G.K (h q' List.mem_cons_self)
      refine ⟨Q :: Qs, by rw [List.map_cons, List.map_cons, i1, j1], fun Q' hQ' => ?_, fun j q'' Q'' h1 h2 => ?_⟩
      · rcases List.mem_cons.mp hQ' with rfl | hQ'
        · exact j2
        · exact i2 Q' hQ'
      · cases j with
        | zero =>
          cases h1
          cases h2
          exact ⟨j3, j4, j5⟩
        | succ j => exact i3 j q'' Q'' h1 h2
  obtain ⟨Qs, i1, i2, i3⟩ := pick (q :: cs) hq
  obtain ⟨Q, Qr, rfl⟩ : ∃ Q Qr, Qs = Q :: Qr := by
    cases Qs with
    | nil => cases i1
    | cons Q Qr => exact ⟨Q, Qr, rfl⟩
  rw [← i1]
  refine ⟨_, ps_try_cl (Wout := fun c d _ H => E c d H) (tb := fun W D σ H => ∃ B L0 H0 L ow env, Sit T X.N.length B L0 H0 O L ow H σ env ∧ Res (fs env) (AfterS (M := M) T X.N.length B L0 H0 O1 D) (xw T (fun c p H => ∀ σ : L2.St, σ.length = X.N.length → W c p σ H) H0)) hs hf G.nd G.tk (fun W pn xe tk po => ?_) i2, fun B L0 H0 L ow H σ env D S h => ?_⟩
  · obtain ⟨t, pt, qt⟩ := hb (fun c p H => ∀ σ : L2.St, σ.length = X.N.length → W c p σ H) pn xe po ⟨G.K, G.calm, G.nd, G.gd, G.rm, takes_len tk fun c d σ H hl h => h σ hl⟩
    refine ⟨fun pins s σ H D I hw => ?_⟩
    obtain ⟨B, L0, H0, L, ow, env, S, hr⟩ := hw
    exact pt.run pins s σ H D I (qt B L0 H0 L ow H σ env D S hr)
  · refine ⟨B, L0, H0, L, ow, env, S, ?_⟩
    have h' : Res (match fs env with
      | .exc c d => hdlP ((q :: cs).map fun q => (q.s, q.g)) c d
      | r => r) (AfterS (M := M) T X.N.length B L0 H0 O1 D) (xw T E H0) := h
    cases e : fs env with
    | ok fl =>
      rw [e] at h'
      exact h'
    | bad =>
      rw [e] at h'
      exact h'.elim
    | exc c dv =>
      rw [e] at h'
      exact fun cls p H' ex xr => wcl_of (B := B) (O1 := O1) (D := D) hA G.K S.t0 hq i1 i3 ex xr h'
end
end VL
set_option Elab.async false
set_option linter.all false
set_option maxRecDepth 100000
set_option maxHeartbeats 4000000
set_option autoImplicit false
/-! VXH: what the head tells of the error classes. -/
namespace VL
open PySem PySem.Spec PySem.W PyProof.Rows L2 R
abbrev eqO (a b : Option (Option Value)) : Bool := decide (a = b)
abbrev veT : List Value := [.type "ValueError", .type "Exception", .type "BaseException", .type "object"]
theorem xi_binds (K : Frag) (kV doc pm ct : Value) (an : Option Addr) (cda : Value) (cc : Addr) : Binds K (ksFn "__init__" "PlayError.__init__" xiArgs [xiS1, xiS2] xiScope .none kV doc pm an cda ct cc) ["self", "at"] [] := by
  refine Binds.all fun us h => ?_
  obtain ⟨a, b, rfl⟩ : ∃ a b, us = [a, b] := by
    cases us with
    | nil => cases h
    | cons a us =>
      cases us with
      | nil => cases h
      | cons b us =>
        cases us with
        | nil => exact ⟨a, b, rfl⟩
        | cons c us => cases h
  rfl
/-- the def as it lies -/
abbrev XiW : Type := Option (Str × Str × Arguments × FuncBody × Scope × Addr × List Str × Addr)
def xiW (K : Frag) (D : Addr) : XiW := match K.lookup (He.ma K D "__init__") with
  | some ⟨_, _, .func fd, _⟩ => some (fd.name, fd.qualname, fd.params, fd.body, fd.scope, fd.globals, fd.closure.map (·.1), fd.builtins)
  | _ => none
def xiV : XiW := some ("__init__", "PlayError.__init__", xiArgs, .stmts [xiS1, xiS2], xiScope, mainGlobals, ["__class__"], builtinsNs)
def xiB (K : Frag) (file : Str) (D : Addr) : Bool := (match K.lookup (He.ma K D "__init__") with
  | some ⟨_, _, .func fd, _⟩ => decide (fd.defaults = .none) && ((match fd.code with
    | .ref cda => codeIn K (.ref cda) "PlayError.__init__" && (match K.lookup cda with
      | some ⟨_, _, .fields vs, _⟩ => (match (vs[2]? : Option Value) with
        | some (Value.str f _) => decide (f = file)
        | _ => false)
      | _ => false)
    | _ => false) && (match fd.closure with
    | [(_, cc)] => (match K.lookup cc with
      | some ⟨_, _, .cell (some (.ref D')), _⟩ => decide (D' = D)
      | _ => false)
    | _ => false))
  | _ => false) && ((clsIn K D).isSome && (eqO (nsIn K mainGlobals "super") (some none) && eqO (nsIn K cStatics "thirdparty.any") (some none)))
theorem xiF_of {K : Frag} {P : Program} {file : Str} {D : Addr} (e : xiW K D = xiV) (c : xiB K file D = true) (hf : ((P.main.file : Str) == file) = true) (ht : (P.main.scope.names.lookup ("super" : Str)).isSome = false) :
    ∃ cda cc fd, XiF K P D (He.ma K D "__init__") cda cc fd ∧ Binds K fd ["self", "at"] [] := by
  unfold xiB at c
  unfold xiW at e
  obtain ⟨c1, c2⟩ := Bool.and_eq_true_iff.mp c
  obtain ⟨c3, c4⟩ := Bool.and_eq_true_iff.mp c2
  obtain ⟨c5, c6⟩ := Bool.and_eq_true_iff.mp c4
  cases q : K.lookup (He.ma K D "__init__") with
  | none =>
    rw [q] at c1
    cases c1
  | some o =>
    obtain ⟨oc, od, dt, osl⟩ := o
    rw [q] at c1 e
    cases dt with
    | func fd =>
      obtain ⟨n1, n2, n3, n4, n5, n6, n7, n8, n9, n10, n11, n12, n13, n14, n15⟩ := fd
      have e2 : (some (n1, n2, n3, n4, n5, n6, n7.map (·.1), n15) : XiW) = some (("__init__" : Str), ("PlayError.__init__" : Str), xiArgs, FuncBody.stmts [xiS1, xiS2], xiScope, mainGlobals, [("__class__" : Str)], builtinsNs) := e
      simp only [Option.some.injEq, Prod.mk.injEq] at e2
      obtain ⟨g1, g2, g3, g4, g5, g6, g7, g8⟩ := e2
      subst g1 g2 g3 g4 g5 g6 g8
      dsimp only at c1
      obtain ⟨d0, d12⟩ := Bool.and_eq_true_iff.mp c1
      obtain ⟨d1, d2⟩ := Bool.and_eq_true_iff.mp d12
      have hn8 : n8 = .none := of_decide_eq_true d0
      subst hn8
      cases n7 with
      | nil => cases d2
      | cons p r =>
        cases r with
        | cons _ _ => cases d2
        | nil =>
          obtain ⟨pn, cc⟩ := p
          have hpn : pn = "__class__" := by
            have := (List.cons.inj g7).1
            exact this
          subst hpn
          dsimp only at d2
          cases n13 with
          | ref cda =>
            dsimp only at d1
            obtain ⟨d3, d4⟩ := Bool.and_eq_true_iff.mp d1
            refine ⟨cda, cc, _, ⟨⟨oc, od, osl, .none, n9, n10, n11, n12, n14, rfl, q⟩, d3, ?_, ?_, Option.isSome_iff_exists.mp c3, of_decide_eq_true c5, of_decide_eq_true c6, ht⟩, xi_binds K n9 n10 n11 n14 n12 (.ref cda) cc⟩
            · cases q2 : K.lookup cda with
              | none =>
                rw [q2] at d4
                cases d4
              | some o2 =>
                obtain ⟨oc2, od2, dt2, osl2⟩ := o2
                rw [q2] at d4
                cases dt2 with
                | fields vs =>
                  dsimp only at d4
                  cases q3 : vs[2]? with
                  | none =>
                    rw [q3] at d4
                    cases d4
                  | some v =>
                    rw [q3] at d4
                    cases v with
                    | str f tf =>
                      have hff : f = file := of_decide_eq_true d4
                      subst hff
                      exact ⟨oc2, od2, vs, osl2, f, tf, rfl, q3, hf⟩
                    | _ => cases d4
                | _ => cases d4
            · cases q2 : K.lookup cc with
              | none =>
                rw [q2] at d2
                cases d2
              | some o2 =>
                obtain ⟨oc2, od2, dt2, osl2⟩ := o2
                rw [q2] at d2
                cases dt2 with
                | cell v =>
                  cases v with
                  | none => cases d2
                  | some v =>
                    cases v with
                    | ref D' =>
                      have hD : D' = D := of_decide_eq_true d2
                      subst hD
                      exact ⟨oc2, od2, osl2, rfl⟩
                    | _ => cases d2
                | _ => cases d2
          | _ => cases d1
    | _ => cases c1
/-! ### a class over it -/
def oexB (K : Frag) (C : Addr) : Bool := (match K.lookup C with
  | some ⟨.type t, _, .cls cd, sl⟩ => decide (t = "type") && (match cd.mro, sl.toList with
    | .ref C' :: bm, [_, _, _, _, some (.builtin n), _] => decide (C' = C) && (decide (n = "ValueError.__new__") && (!cd.hasDel && (cd.hasDict && PySem.HandSPX.refsVE bm)))
    | _, _ => false)
  | _ => false) && (eqO (findIn K (.ref C) "__setattr__") (some (some (.builtin "object.__setattr__"))) && (decide (subIn K (.ref C) (.type "BaseException") = some true) && (decide (typeIn K (.ref C) = some (.type "type")) && keepIn K (.ref C))))
theorem oexB_ok {K : Frag} {C : Addr} (h : oexB K C = true) : OexC K C := by
  unfold oexB at h
  obtain ⟨h1, h2⟩ := Bool.and_eq_true_iff.mp h
  obtain ⟨h3, h4⟩ := Bool.and_eq_true_iff.mp h2
  obtain ⟨h5, h6⟩ := Bool.and_eq_true_iff.mp h4
  obtain ⟨h7, h8⟩ := Bool.and_eq_true_iff.mp h6
  refine ⟨?_, of_decide_eq_true h3, of_decide_eq_true h5, of_decide_eq_true h7, h8⟩
  split at h1
  · rename_i t dd cd sl ho
    obtain ⟨g1, g2⟩ := Bool.and_eq_true_iff.mp h1
    have ht : t = "type" := of_decide_eq_true g1
    subst ht
    split at g2
    · rename_i C' bm k0 k1 k2 k3 n k5 hm hs
      obtain ⟨a1, a2⟩ := Bool.and_eq_true_iff.mp g2
      obtain ⟨a3, a4⟩ := Bool.and_eq_true_iff.mp a2
      obtain ⟨a5, a6⟩ := Bool.and_eq_true_iff.mp a4
      obtain ⟨a7, a8⟩ := Bool.and_eq_true_iff.mp a6
      have e1 : C' = C := of_decide_eq_true a1
      have e2 : n = "ValueError.__new__" := of_decide_eq_true a3
      subst e1 e2
      obtain ⟨nm, bs, mro, ns, qn, hd, sn, sub, ab, col, del⟩ := cd
      obtain ⟨l⟩ := sl
      dsimp only at hm hs a5 a7
      subst hm hs a7
      have e3 : del = false := by simpa using a5
      subst e3
      exact ⟨nm, qn, ns, bs, bm, sn, sub, ab, col, dd, k0, k1, k2, k3, k5, ho, a8⟩
    · cases g2
  · cases h1
def xcB (K : Frag) (D C : Addr) : Bool := decide (mroIn K C (.ref D) = some true) && (eqO (ks_superIn K C D "__init__") (some (some (.builtin "ValueError.__init__"))) && (decide (subIn K (.ref C) (.type "ValueError") = some true) && (excInitIn K C veT "ValueError.__new__" && (eqO (findIn K (.ref C) "at") (some none) &&
  (oexB K C && (xfB K C && (eqO (findIn K (.ref C) "__init__") (some (some (.ref (He.ma K D "__init__")))) && decide (typeIn K (.ref (He.ma K D "__init__")) = some (.type "function")))))))))
theorem xcB_ok {K : Frag} {D C : Addr} (h : xcB K D C = true) : XiC K D (He.ma K D "__init__") C ∧ OexC K C ∧ XfC K C ∧ findIn K (.ref C) "at" = some none ∧ findIn K (.ref C) "__init__" = some (some (.ref (He.ma K D "__init__"))) ∧ typeIn K (.ref (He.ma K D "__init__")) = some (.type "function") := by
  unfold xcB at h
  obtain ⟨a1, h⟩ := Bool.and_eq_true_iff.mp h
  obtain ⟨a2, h⟩ := Bool.and_eq_true_iff.mp h
  obtain ⟨a3, h⟩ := Bool.and_eq_true_iff.mp h
  obtain ⟨a4, h⟩ := Bool.and_eq_true_iff.mp h
  obtain ⟨a5, h⟩ := Bool.and_eq_true_iff.mp h
  obtain ⟨a6, h⟩ := Bool.and_eq_true_iff.mp h
  obtain ⟨a7, h⟩ := Bool.and_eq_true_iff.mp h
  obtain ⟨a8, a9⟩ := Bool.and_eq_true_iff.mp h
  exact ⟨⟨of_decide_eq_true a1, of_decide_eq_true a2, of_decide_eq_true a3, ⟨_, _, F.excBase_ValueError, a4⟩, of_decide_eq_true a5⟩, oexB_ok a6, xfB_ok a7, of_decide_eq_true a5, of_decide_eq_true a8, of_decide_eq_true a9⟩
/-- what every error class has besides -/
structure IcC (K : Frag) (C : Addr) : Prop where
  cl : findIn K (.ref C) "__class__" = some (some (.builtin "object.__class__"))
  gt : specialIn K (.builtin "object.__class__") "__get__" = some (some (.builtin "getset_descriptor.__get__"))
  tk : takesIn K (.builtin "object.__class__") = some true
  ob : mroIn K C (.type "object") = some true
  me : mroIn K C (.ref C) = some true
def icB (K : Frag) (C : Addr) : Bool := decide (findIn K (.ref C) "__class__" = some (some (.builtin "object.__class__"))) && (decide (specialIn K (.builtin "object.__class__") "__get__" = some (some (.builtin "getset_descriptor.__get__"))) && (decide (takesIn K (.builtin "object.__class__") = some true) && (decide (mroIn K C (.type "object") = some true) && decide (mroIn K C (.ref C) = some true))))
theorem icB_ok {K : Frag} {C : Addr} (h : icB K C = true) : IcC K C := by
  unfold icB at h
  obtain ⟨a1, h⟩ := Bool.and_eq_true_iff.mp h
  obtain ⟨a2, h⟩ := Bool.and_eq_true_iff.mp h
  obtain ⟨a3, h⟩ := Bool.and_eq_true_iff.mp h
  obtain ⟨a4, a5⟩ := Bool.and_eq_true_iff.mp h
  exact ⟨of_decide_eq_true a1, of_decide_eq_true a2, of_decide_eq_true a3, of_decide_eq_true a4, of_decide_eq_true a5⟩
def IcAll (T : Tb) : Prop := ∀ C ∈ T.ca, IcC T.K C
/-! ### the head's hook with error classes -/
/-- base: the name of the base class; cls: the error classes by name; exm: which of them an except clause of that name takes -/
structure XD where
  base : Str
  file : Str
  cls : List Str
  exm : List (Str × List Bool)
  fns : List Str := []
  hot : Bool := false
  sys : Bool := false
abbrev AlX : Type := AlV × (XiW × Bool)
def exmB (K : Frag) (cls : List Str) (q : Str × List Bool) : Bool := (He.Fa.glo q.1).ok K && (decide (q.2.length = cls.length) && (cls.zip q.2).all fun p => decide (exmOne K (.ref (He.ga K p.1)) (.ref (He.ga K q.1)) = some p.2))
def obsX (xd : XD) (fa : List He.Fa) (fn : List He.DefD) (ts : List TabV) (K : Frag) : AlX := (obsV fa fn ts K, (xiW K (He.ga K xd.base), xiB K xd.file (He.ga K xd.base) && ((xd.cls.all fun x => (He.Fa.glo x).ok K && xcB K (He.ga K xd.base) (He.ga K x)) && (xd.exm.all (exmB K xd.cls) && ((!xd.hot || xd.cls.all fun x => icB K (He.ga K x)) && (!xd.sys || (K.lookup sysModules).isSome))))))
def asX (g : Addr → Option Obj) (n : Nat) : List Addr := cStatics :: sysModules :: He.asD g n ++ (He.asD g n).flatMap fun a => match g a with
  | some ⟨_, _, .func fd, _⟩ => fd.closure.map (·.2)
  | _ => []
def obsXG (xd : XD) (n : Nat) (fa : List He.Fa) (fn : List He.DefD) (ts : List TabV) (g : Addr → Option Obj) : AlX := obsX xd fa fn ts (He.frG g (asX g n))
def SaysX (xd : XD) (fa : List He.Fa) (fn : List He.DefD) (ts : List TabV) (K : Frag) : Prop := obsX xd fa fn ts K = ((He.valD fn, true), (xiV, true))
def hookX (xd : XD) (n : Nat) (fa : List He.Fa) (fn : List He.DefD) (ts : List TabV) : Hook where
  α := AlX
  obs := fun s => obsXG xd n fa fn ts s.heap.get?
  val := fun _ => ((He.valD fn, true), (xiV, true))
  says := fun _ h => ∃ K : Frag, K.In h ∧ SaysX xd fa fn ts K
  of := fun _ _ e => ⟨_, He.frG_in, e⟩
  keeps := fun _ _ _ ⟨K, hK, c⟩ k => ⟨K, Frag.In.keeps hK k, c⟩
theorem obsXG_eq {xd : XD} {n : Nat} {fa : List He.Fa} {fn : List He.DefD} {ts : List TabV} {g : Addr → Option Obj} {s : Shared} (h : ∀ a, g a = s.heap.get? a) : obsXG xd n fa fn ts g = (hookX xd n fa fn ts).obs s := by
  have e : g = s.heap.get? := funext h
  rw [e] <;> rfl
section
variable {xd : XD} {fa : List He.Fa} {fn : List He.DefD} {ts : List TabV} {K : Frag} {h : Heap} {mg : Str → Option Value} {P : Program}
theorem SaysX.v (c : SaysX xd fa fn ts K) : SaysV fa fn ts K := congrArg Prod.fst c
abbrev tbX (xd : XD) (K : Frag) : Tb := ⟨K, xd.fns.map (He.ga K), xd.cls.map (He.ga K)⟩
theorem SaysX.parts (c : SaysX xd fa fn ts K) : xiW K (He.ga K xd.base) = xiV ∧ xiB K xd.file (He.ga K xd.base) = true ∧ (∀ x ∈ xd.cls, (He.Fa.glo x).ok K = true ∧ xcB K (He.ga K xd.base) (He.ga K x) = true) ∧ (∀ q ∈ xd.exm, exmB K xd.cls q = true) ∧ (!xd.hot || xd.cls.all fun x => icB K (He.ga K x)) = true ∧ (!xd.sys || (K.lookup sysModules).isSome) = true := by
  have c2 : (xiW K (He.ga K xd.base), xiB K xd.file (He.ga K xd.base) && ((xd.cls.all fun x => (He.Fa.glo x).ok K && xcB K (He.ga K xd.base) (He.ga K x)) && (xd.exm.all (exmB K xd.cls) && ((!xd.hot || xd.cls.all fun x => icB K (He.ga K x)) && (!xd.sys || (K.lookup sysModules).isSome))))) = (xiV, true) := congrArg Prod.snd c
  have c3 := congrArg Prod.snd c2
  obtain ⟨d1, d2⟩ := Bool.and_eq_true_iff.mp (show (xiB K xd.file (He.ga K xd.base) && ((xd.cls.all fun x => (He.Fa.glo x).ok K && xcB K (He.ga K xd.base) (He.ga K x)) && (xd.exm.all (exmB K xd.cls) && ((!xd.hot || xd.cls.all fun x => icB K (He.ga K x)) && (!xd.sys || (K.lookup sysModules).isSome))))) = true from c3)
  obtain ⟨d3, d45⟩ := Bool.and_eq_true_iff.mp d2
  obtain ⟨d4, d56⟩ := Bool.and_eq_true_iff.mp d45
  obtain ⟨d5, d6⟩ := Bool.and_eq_true_iff.mp d56
  exact ⟨congrArg Prod.fst c2, d1, fun x hx => Bool.and_eq_true_iff.mp (List.all_eq_true.mp d3 x hx), fun q hq => List.all_eq_true.mp d4 q hq, d5, d6⟩
theorem SaysX.ec (c : SaysX xd fa fn ts K) (X : K.In h) (G : h.Ns mainGlobals mg) (hf : ((P.main.file : Str) == xd.file) = true) (ht : (P.main.scope.names.lookup ("super" : Str)).isSome = false) (i : Nat) {x : Str} (e : xd.cls[i]? = some x) : EcX (tbX xd K) P mg i x := by
  obtain ⟨p1, p2, p3, _, _⟩ := c.parts
  obtain ⟨g1, g2⟩ := p3 x (List.mem_of_getElem? e)
  obtain ⟨cda, cc, fd, F, B⟩ := xiF_of p1 p2 hf ht
  obtain ⟨z1, z2, z3, z4, z5, z6⟩ := xcB_ok g2
  exact ⟨He.ga K x, He.ga K xd.base, _, cda, cc, fd, by show (xd.cls.map (He.ga K))[i]? = _; rw [List.getElem?_map, e]; rfl, He.glo_ok X G g1, F, z1, z2, z5, z6, B⟩
theorem SaysX.all (c : SaysX xd fa fn ts K) : ExAll (tbX xd K) := fun C hC => by
  obtain ⟨x, hx, rfl⟩ := List.mem_map.mp (show C ∈ xd.cls.map (He.ga K) from hC)
  obtain ⟨_, _, p3, _, _⟩ := c.parts
  obtain ⟨_, _, z3, z4, _⟩ := xcB_ok (p3 x hx).2
  exact ⟨z3, z4⟩
theorem SaysX.ic (c : SaysX xd fa fn ts K) (hh : xd.hot = true) : IcAll (tbX xd K) := fun C hC => by
  obtain ⟨x, hx, rfl⟩ := List.mem_map.mp (show C ∈ xd.cls.map (He.ga K) from hC)
  obtain ⟨_, _, _, _, p5, _⟩ := c.parts
  rw [hh] at p5
  exact icB_ok (List.all_eq_true.mp p5 x hx)
theorem SaysX.sys (c : SaysX xd fa fn ts K) (hh : xd.sys = true) : ((tbX xd K).K.lookup sysModules).isSome = true := by
  obtain ⟨_, _, _, _, _, p6⟩ := c.parts
  rw [hh] at p6
  exact p6
/-- what an except clause of the name y takes -/
structure FitX (T : Tb) (mg : Str → Option Value) (y : Str) (s : Nat → Bool) : Prop where
  ex : ∃ C, mg y = some (.ref C) ∧ ∀ c D, T.ca[c]? = some D → exmOne T.K (.ref D) (.ref C) = some (s c)
theorem SaysX.fit (c : SaysX xd fa fn ts K) (X : K.In h) (G : h.Ns mainGlobals mg) (i : Nat) {q : Str × List Bool} (e : xd.exm[i]? = some q) : FitX (tbX xd K) mg q.1 (fun c => q.2.getD c false) := by
  obtain ⟨_, _, _, p4, _⟩ := c.parts
  obtain ⟨g1, g2⟩ := Bool.and_eq_true_iff.mp (p4 q (List.mem_of_getElem? e))
  obtain ⟨g3, g4⟩ := Bool.and_eq_true_iff.mp g2
  have hl := of_decide_eq_true g3
  refine ⟨He.ga K q.1, He.glo_ok X G g1, fun c D hD => ?_⟩
  have hD2 : (xd.cls.map (He.ga K))[c]? = some D := hD
  rw [List.getElem?_map] at hD2
  cases e2 : xd.cls[c]? with
  | none => rw [e2] at hD2; cases hD2
  | some x =>
    rw [e2] at hD2
    cases hD2
    obtain ⟨hc, hx⟩ := List.getElem?_eq_some_iff.mp e2
    have hb : q.2[c]? = some (q.2.getD c false) := by
      rw [List.getD_eq_getElem?_getD, List.getElem?_eq_getElem (by omega)]
      rfl
    have hz : (xd.cls.zip q.2)[c]? = some (x, q.2.getD c false) := by
      rw [List.getElem?_zip_eq_some]
      exact ⟨e2, hb⟩
    exact of_decide_eq_true (List.all_eq_true.mp g4 _ (List.mem_of_getElem? hz))
end
abbrev sRaise (c : Nat) (f : En → R PV) : En → R Fl := fun env => do
  let d ← f env
  .exc c d
theorem ClD.mk_ok {M : Md} {T : Tb} {X : Cx} {x : Str} {np : Pos} {n : Str} {ex : Expr} {rp hp : Pos} {i : Nat} {s : Nat → Bool} {g : Nat → PV → PV} (F : FitX T X.mg x s) (he : HE T X i ex g) (md : ∀ L H0 H v d c, Rep T (hid H L) v (g c d) → flat1 d = true → M L H0 H v (g c d)) (hg : Gl X x := by rfl) (hd : (x == ("__debug__" : Str)) = false := by decide) (at_ : X.N[i]? = some n := by rfl) (loc : X.env.kindOf n = some .local := by rfl) :
    ∃ cv, (⟨x, np, n, ex, rp, hp, i, s, g, cv⟩ : ClD).ok M T X := by
  obtain ⟨C, h1, h2⟩ := F.ex
  exact ⟨.ref C, ⟨hg, hd, .inl h1⟩, at_, loc, h2, he, md⟩
inductive ClsOk (M : Md) (T : Tb) (X : Cx) : List ExceptHandler → List ((Nat → Bool) × (Nat → PV → PV)) → Prop
  | nil : ClsOk M T X [] []
  | cons {x : Str} {np : Pos} {n : Str} {ex : Expr} {rp hp : Pos} {i : Nat} {s : Nat → Bool} {g : Nat → PV → PV} {hs : List ExceptHandler} {cs : List ((Nat → Bool) × (Nat → PV → PV))} (ok : ∃ cv, (⟨x, np, n, ex, rp, hp, i, s, g, cv⟩ : ClD).ok M T X) (r : ClsOk M T X hs cs) :
      ClsOk M T X (.ExceptHandler (some (.Name x np)) (some n) [.Return (some ex) rp] hp :: hs) ((s, g) :: cs)
theorem ClsOk.list {M : Md} {T : Tb} {X : Cx} {hs : List ExceptHandler} {cs : List ((Nat → Bool) × (Nat → PV → PV))} (h : ClsOk M T X hs cs) : ∃ l : List ClD, l.map ClD.h = hs ∧ (l.map fun q => (q.s, q.g)) = cs ∧ ∀ q ∈ l, q.ok M T X := by
  induction h with
  | nil => exact ⟨[], rfl, rfl, fun _ h => (nomatch h)⟩
  | @cons x np n ex rp hp i s g hs cs ok r ih =>
    obtain ⟨cv, ok⟩ := ok
    obtain ⟨l, h1, h2, h3⟩ := ih
    refine ⟨(⟨x, np, n, ex, rp, hp, i, s, g, cv⟩ : ClD) :: l, by rw [List.map_cons, h1]; rfl, by rw [List.map_cons, h2], fun q hq => ?_⟩
    rcases List.mem_cons.mp hq with rfl | hq
    · exact ok
    · exact h3 q hq
theorem vs_tryX {M : Md} {T : Tb} {E : XK} {O O1 : List Nat} {X : Cx} {k : Nat} {body : List Stmt} {fs : En → R Fl} {pos : Pos} {h0 : ExceptHandler} {hs : List ExceptHandler} {cs : List ((Nat → Bool) × (Nat → PV → PV))} (G : Good T E k X) (hA : ExAll T) (hst : X.stack = X.env :: X.outer) (hf : X.env.frame = some X.env.locals)
    (hb : ∀ (E' : XK) (pn : List (Addr × Obj)) (xe : Value → Shared → Prop), PassesOwn (model X.prog X.w) X.A X.env xe → Good T E' k (X.tr pn xe) → VS (M := M) T E' O O1 (X.tr pn xe) body fs) (h : ClsOk M T X (h0 :: hs) cs) :
    VS1 (M := M) T E O O1 X (.Try body (h0 :: hs) [] [] pos) (tryP fs cs) := by
  obtain ⟨l, h1, h2, h3⟩ := h.list
  cases l with
  | nil => cases h1
  | cons q l =>
    rw [← h1, ← h2]
    exact vs_try G hA hst hf h3 hb
end VL
set_option Elab.async false
set_option linter.all false
set_option maxRecDepth 100000
set_option maxHeartbeats 4000000
set_option autoImplicit false
/-! VXV: calls of [f, g][i](x): function values. -/
namespace VL
open PySem PySem.Spec PyProof.Rows L2 R
/-- the defs that a value may be, by their places in the table -/
def pickF (js : List (Nat × (List PV → R PV))) : PV → R (List PV → R PV)
  | .fn j => match js.lookup j with
    | some F => .ok F
    | none => .bad
  | _ => .bad
abbrev cPick (js : List (Nat × (List PV → R PV))) (f : En → R PV) (fs : En → R (List PV)) : En → R PV := fun env => do
  let d ← f env
  let F ← pickF js d
  let ds ← fs env
  F ds
section
variable {T : Tb} {E : XK} {O : List Nat} {X : Cx} {k : Nat} {c e : Expr} {es : List Expr} {f : En → R PV} {fs : En → R (List PV)} {pos p : Pos} {x : Str}
/-- a def's name as a value -/
theorem ve_fn {j : Nat} {a : Addr} (hm : X.mg x = some (.ref a)) (hj : T.fa[j]? = some a) (hg : Gl X x := by rfl) (hd : (x == ("__debug__" : Str)) = false := by decide) : VE T E O X (.Name x p) (fun _ => .ok (.fn j)) := ve_gl hm (v := .ref a) rfl (fun H => .fn hj) hg hd
/-- what the table holds -/
structure PickOk (T : Tb) (X : Cx) (k n : Nat) (js : List (Nat × (List PV → R PV))) : Prop where
  at_ : ∀ j a F, T.fa[j]? = some a → js.lookup j = some F → ∃ kk fd ps, kk ≤ k ∧ ps.length = n ∧ FnG T X.prog X.w X.mg X.base kk a fd ps F ∧ PySem.W.keepIn X.K (.ref a) = true ∧ Binds X.K fd ps []
theorem ve_callV (G : Good T E k X) {n : Nat} {js : List (Nat × (List PV → R PV))} (J : PickOk T X k n js) (hc : VW T E O X c f) (ha : VN T E O X (e :: es) n fs)
    (hcall : eval (.Call c (e :: es) [] pos) X.env = (do callWith pos (← eval c X.env) [] (backTo pos (starEach (e :: es) X.env)) (backToKw pos (keywordEach [] X.env))) := by rfl) (he : starEach (e :: es) X.env = (false, eval e X.env) :: starEach es X.env := by rfl) (hpl : (backTo pos (starEach es X.env)).any (·.1) = false := by rfl) :
    VE T E O X (.Call c (e :: es) [] pos) (cPick js f fs) := by
  obtain ⟨tc, pc, qc⟩ := hc
  obtain ⟨⟨ta, pa, qa⟩, hfs⟩ := ha
  refine ⟨fun σ H Q => tc σ H fun u H1 => ∃ j a F, u = .ref a ∧ T.fa[j]? = some a ∧ js.lookup j = some F ∧ ta σ H1 fun vs H2 => ∃ L ds, Trk L H2 ∧ RepA T (hid H2 L) vs ds ∧ ds.length = n ∧ Res (F ds) (KV' T L H2 Q) (xw T E H2), ⟨fun pins s σ H Q I h => ?_⟩, fun L ow H σ env Q ho re hq => ?_⟩
  · rw [hcall]
    refine wpAny_bind (thn (pc.run pins s σ H _ I h) fun u s1 ⟨v, H1, I1, r1, j, a, F, hv, hj, hl, q1⟩ => ?_)
    subst hv
    obtain rfl : u = Value.ref a := r1
    obtain ⟨kk, fd, ps, hk, hn, Fg, hkp, hb⟩ := J.at_ j a F hj hl
    refine PySem.W.callWith_K (h₀ := X.base) I1.ok.mod.kin hkp (thn (pa.run pos pins s1 σ H1 _ I1 q1) fun us s2 ⟨vs, H2, I2, r, L, ds, z1, z2, z3, z4⟩ => ⟨I2.kIn, ?_⟩) he hpl
    exact runG G Fg hk hb I2 r z1 z2 (by rw [z3, hn]) z4
  · simp only [res_bind] at hq
    refine qc L ow H σ env _ ho re (hq.imp (fun d kd u H1 e1 ru => ?_) fun _ _ x => x)
    cases d with
    | fn j =>
      cases ru with
      | st ru =>
        cases ru with
        | @fn _ a hj =>
          have kd' : Res (match js.lookup j with | some F => R.ok F | none => R.bad) (fun F => Res (fs env) (fun ds => Res (F ds) (KV' T L H Q) (xw T E H)) (xw T E H)) (xw T E H) := kd
          cases e0 : js.lookup j with
          | none => rw [e0] at kd'; exact kd'.elim
          | some F =>
            rw [e0] at kd'
            have kd2 : Res (fs env) (fun ds => Res (F ds) (KV' T L H Q) (xw T E H)) (xw T E H) := kd'
            refine ⟨j, a, F, rfl, hj, e0, ?_⟩
            cases efs : fs env with
            | ok l =>
              rw [efs] at kd2
              refine qa L ow H1 σ env _ ho (re.mono e1) ?_
              rw [efs]
              exact fun vs H2 e2 r2 => ⟨L, l, re.trk.mono (e1.trans e2), r2, hfs env l efs, (show Res (F l) (KV' T L H Q) (xw T E H) from kd2).imp (fun d k v H3 e3 rv => k v H3 ((e1.trans e2).trans e3) rv) fun _ _ x => xw_mono (e1.trans e2) x⟩
            | exc c d =>
              rw [efs] at kd2
              refine qa L ow H1 σ env _ ho (re.mono e1) ?_
              rw [efs]
              exact xw_mono e1 kd2
            | bad => rw [efs] at kd2; exact kd2.elim
    | _ => exact (show False from kd).elim
/-- the def x stands at j of the table -/
structure FaX (T : Tb) (mg : Str → Option Value) (j : Nat) (x : Str) : Prop where
  ex : ∃ a, mg x = some (.ref a) ∧ T.fa[j]? = some a
theorem ve_fnX {j : Nat} (F : FaX T X.mg j x) (hg : Gl X x := by rfl) (hd : (x == ("__debug__" : Str)) = false := by decide) : VE T E O X (.Name x p) (fun _ => .ok (.fn j)) := by
  obtain ⟨a, h1, h2⟩ := F.ex
  exact ve_fn h1 h2 hg hd
theorem pick_nil {n : Nat} : PickOk T X k n [] := ⟨fun _ _ _ _ h => by cases h⟩
theorem pick_cons (hK : X.K = T.K) {n j kk : Nat} {ps : List Str} {Fj : List PV → R PV} {js : List (Nat × (List PV → R PV))} (hfa : FaX T X.mg j x) (C : GF T X.prog X.w X.mg X.base kk x ps Fj) (hk : kk ≤ k) (hn : ps.length = n) (r : PickOk T X k n js) : PickOk T X k n ((j, Fj) :: js) := by
  refine ⟨fun i a F hi hl => ?_⟩
  rw [List.lookup_cons] at hl
  cases e : (i == j) with
  | false =>
    rw [e] at hl
    exact r.at_ i a F hi hl
  | true =>
    rw [e] at hl
    cases hl
    have eij : i = j := by simpa using e
    subst eij
    obtain ⟨a2, h1, h2⟩ := hfa.ex
    rw [h2] at hi
    cases hi
    obtain ⟨f2, fd, Fg, hm, hkp, hb⟩ := C.ex
    rw [h1] at hm
    cases hm
    exact ⟨kk, fd, ps, hk, hn, Fg, by rw [hK]; exact hkp, by rw [hK]; exact hb⟩
end
end VL
set_option Elab.async false
set_option linter.all false
set_option maxRecDepth 100000
set_option maxHeartbeats 4000000
set_option autoImplicit false
/-! VH1: lists and tuples gone through to their end while an exception is handled. -/
namespace VL
open PySem PySem.Spec PyProof.Rows L2 HotX
section
variable {prog : Program} {w : World} {A : Around} {E : Value → Shared → Prop} {s : Shared} {x1 : Addr}
theorem list_end_hot {it l : Addr} {i : Nat} {items} {Q : Option Value → Shared → Prop} (hot : HotAt A x1 s.heap) (hne : x1 ≠ it)
    (hit : s.heap.IsListIter it l i) (hl : s.heap.IsList l items) (hx : items[i]? = none)
    (hQ : ∀ h', Heap.ExtBut it s.heap h' → Q none { s with heap := h' }) : wpAny (model prog w) A (pyNext (.ref it)) Q E s := by
  obtain ⟨o, ho, hc, hd⟩ := id hit
  obtain ⟨ol, hol, _, nl, hdl⟩ := hl
  unfold pyNext
  refine wpAny_bind (wpAny_attempt (wpAny_callSpecial?_slot (name := Str.ofString "__next__") hit.typeIs slot_listiter_next
    (wpAny_call_entry slot_listiter_next hit.typeIs entry_listiter_next ?_ (args_listiter_next _))))
  show wpAny _ _ (field (.ref it) 0 >>= _) _ _ s
  refine wpAny_bind (wpAny_field ho hd (x := .ref l) rfl ?_)
  show wpAny _ _ (if (Value.ref l == Value.none) = true then _ else _) _ _ s
  rw [if_neg (show ¬ ((Value.ref l == Value.none) = true) from Bool.false_ne_true)]
  show wpAny _ _ (field (.ref it) 1 >>= _) _ _ s
  refine wpAny_bind (wpAny_field ho hd (x := .int i 0) rfl ?_)
  show wpAny _ _ (seqItems? (.ref l) >>= _) _ _ s
  refine wpAny_bind (wpAny_seqItems hol hdl ?_)
  simp only [Int.toNat_natCast, hx]
  refine wpAny_bind (wpAny_rule (wpAny_bind (wpAny_setField ho hd (by simp) ?_)))
  show wpAny _ _ (newExc (.type "StopIteration") [] >>= _) _ _ _
  obtain ⟨hh, o1, vs1, h1, d1, c1⟩ := hot
  refine wpAny_bind ?_
  simp only [newExc, newTuple]
  refine wpAny_bind (wpAny_newObj_type ?_ (by size_fits))
  refine wpAny_bind (m := firstArgMember _ _) (wpAny_of_eq (a := Value.none) (by first | rfl | (simp only [firstArgMember]; rfl)) ?_)
  refine wpAny_newObj_type ?_ (by size_fits)
  have h1' : ∀ f, (s.heap.update it f).get? x1 = some o1 := fun f => by rw [Heap.get?_update_other _ _ (Ne.symm hne)]; exact h1
  refine raiseNew_hot ⟨hh, o1, vs1, Heap.get?_push_of_some _ (Heap.get?_push_of_some _ (h1' _)), d1, c1⟩ (Nat.ne_of_lt (Heap.lt_size (Heap.get?_push_of_some _ (h1' _)))) (Heap.get?_push_size _ rfl) rfl (by first | (simp; done) | (simp; omega) | (simp only [Array.size_append]; simp; omega)) ?_
  refine wpAny_bind (wpAny_isInstance (T := "StopIteration") (b := true) ⟨_, Heap.get?_update_self _ (Heap.get?_push_size _ rfl) rfl, rfl⟩ isSubtype_stop ?_)
  refine wpAny_pure (hQ _ fun b o hb e => ?_)
  have e' : ∀ f, (s.heap.update it f).get? b = some o := fun f => by rw [Heap.get?_update_other _ _ (Ne.symm hb)]; exact e
  rw [Heap.get?_update_other _ _ (Nat.ne_of_gt (Heap.lt_size (Heap.get?_push_of_some _ (e' _))))]
  exact Heap.get?_push_of_some _ (Heap.get?_push_of_some _ (e' _))
theorem tuple_end_hot {it t : Addr} {i : Nat} {items} {Q : Option Value → Shared → Prop} (hot : HotAt A x1 s.heap) (hne : x1 ≠ it)
    (hit : IsTupIter s.heap it t i) (ht : IsTup s.heap t items) (hx : items[i]? = none)
    (hQ : ∀ h', Heap.ExtBut it s.heap h' → Q none { s with heap := h' }) : wpAny (model prog w) A (pyNext (.ref it)) Q E s := by
  obtain ⟨o, ho, hc, hd⟩ := id hit
  obtain ⟨ol, hol, _, nl, hdl⟩ := ht
  unfold pyNext
  refine wpAny_bind (wpAny_attempt (wpAny_callSpecial?_slot (name := Str.ofString "__next__") hit.typeIs slot_tupleiter_next
    (wpAny_call_entry slot_tupleiter_next hit.typeIs entry_tupleiter_next ?_ (args_tupleiter_next _))))
  show wpAny _ _ (field (.ref it) 0 >>= _) _ _ s
  refine wpAny_bind (wpAny_field ho hd (x := .ref t) rfl ?_)
  show wpAny _ _ (if (Value.ref t == Value.none) = true then _ else _) _ _ s
  rw [if_neg (show ¬ ((Value.ref t == Value.none) = true) from Bool.false_ne_true)]
  show wpAny _ _ (field (.ref it) 1 >>= _) _ _ s
  refine wpAny_bind (wpAny_field ho hd (x := .int i 0) rfl ?_)
  show wpAny _ _ (seqItems? (.ref t) >>= _) _ _ s
  refine wpAny_bind (wpAny_seqItems hol hdl ?_)
  simp only [Int.toNat_natCast, hx]
  refine wpAny_bind (wpAny_rule (wpAny_bind (wpAny_setField ho hd (by simp) ?_)))
  show wpAny _ _ (newExc (.type "StopIteration") [] >>= _) _ _ _
  obtain ⟨hh, o1, vs1, h1, d1, c1⟩ := hot
  refine wpAny_bind ?_
  simp only [newExc, newTuple]
  refine wpAny_bind (wpAny_newObj_type ?_ (by size_fits))
  refine wpAny_bind (m := firstArgMember _ _) (wpAny_of_eq (a := Value.none) (by first | rfl | (simp only [firstArgMember]; rfl)) ?_)
  refine wpAny_newObj_type ?_ (by size_fits)
  have h1' : ∀ f, (s.heap.update it f).get? x1 = some o1 := fun f => by rw [Heap.get?_update_other _ _ (Ne.symm hne)]; exact h1
  refine raiseNew_hot ⟨hh, o1, vs1, Heap.get?_push_of_some _ (Heap.get?_push_of_some _ (h1' _)), d1, c1⟩ (Nat.ne_of_lt (Heap.lt_size (Heap.get?_push_of_some _ (h1' _)))) (Heap.get?_push_size _ rfl) rfl (by first | (simp; done) | (simp; omega) | (simp only [Array.size_append]; simp; omega)) ?_
  refine wpAny_bind (wpAny_isInstance (T := "StopIteration") (b := true) ⟨_, Heap.get?_update_self _ (Heap.get?_push_size _ rfl) rfl, rfl⟩ isSubtype_stop ?_)
  refine wpAny_pure (hQ _ fun b o hb e => ?_)
  have e' : ∀ f, (s.heap.update it f).get? b = some o := fun f => by rw [Heap.get?_update_other _ _ (Ne.symm hb)]; exact e
  rw [Heap.get?_update_other _ _ (Nat.ne_of_gt (Heap.lt_size (Heap.get?_push_of_some _ (e' _))))]
  exact Heap.get?_push_of_some _ (Heap.get?_push_of_some _ (e' _))
theorem hot_keep {h h' : Heap} {it : Addr} (hot : HotAt A x1 h) (hne : x1 ≠ it) (k : Heap.ExtBut it h h') : HotAt A x1 h' := by
  obtain ⟨hh, o1, vs1, h1, d1, c1⟩ := hot
  exact ⟨hh, o1, vs1, k x1 o1 hne h1, d1, c1⟩
theorem unpackItems_hot {t : Addr} {items : Array Value} {Q : List Value → Shared → Prop} (hot : HotAt A x1 s.heap) (ht : IsTup s.heap t items)
    (hQ : ∀ h', Heap.ExtBut s.heap.objs.size s.heap h' → Q items.toList { s with heap := h' }) : wpAny (model prog w) A (unpackItems (.ref t) items.size none) Q E s := by
  have hlt : t ≠ s.heap.objs.size := by obtain ⟨o, ho, _⟩ := ht; exact Nat.ne_of_lt (Heap.lt_size ho)
  have hne : x1 ≠ s.heap.objs.size := by obtain ⟨_, o1, vs1, h1, _, _⟩ := hot; exact Nat.ne_of_lt (Heap.lt_size h1)
  unfold unpackItems
  refine wpAny_bind ?_
  · unfold notIterableAtAll
    refine wpAny_bind (wpAny_specialOf ht.typeIs slot_tuple_iter.lookup ?_)
    refine wpAny_pure ?_
    simp only [Bool.false_eq_true, if_false]
    refine wpAny_bind (wpAny_holding (iter_tuple ht ?_))
    refine wpAny_bind (wpAny_holding (draw_tuple hlt items.size 0 _ _ ⟨_, Heap.get?_push_size _ rfl, rfl, rfl⟩ (ht.push _) (by omega) fun h₁ hit₁ hs₁ => ?_))
    have hall : List.take items.size (List.drop 0 items.toList) = items.toList := by
      rw [List.drop_zero]; exact List.take_of_length_le (by simp)
    rw [hall]
    rw [if_neg (by simp)]
    have ht₁ : IsTup h₁ t items := (ht.push _).extBut hs₁.extBut hlt
    have hot1 : HotAt A x1 h₁ := by
      obtain ⟨hh, o1, vs1, h1, d1, c1⟩ := hot
      exact ⟨hh, o1, vs1, hs₁.extBut x1 o1 hne (Heap.get?_push_of_some _ h1), d1, c1⟩
    refine wpAny_bind (wpAny_holding (tuple_end_hot hot1 hne hit₁ ht₁ (by simp) fun h₂ he₂ => ?_))
    simp only [Option.isSome_none, Bool.false_eq_true, if_false]
    refine wpAny_pure (hQ h₂ fun b o hb e => he₂ b o hb (hs₁.extBut b o hb (Heap.get?_push_of_some _ e)))
theorem assign_tuple_hot {env : Env} {elts : List Expr} {k} {pos : Pos} {t : Addr} {items : Array Value} {Q : Unit → Shared → Prop} (hot : HotAt A x1 s.heap) (ht : IsTup s.heap t items)
    (hn : (assignEach elts env).length = items.size) (hstar : (assignEach elts env).findIdx? (·.1) = none)
    (h : ∀ h', Heap.ExtBut s.heap.objs.size s.heap h' → wpAny (model prog w) A (assignInOrder ((assignEach elts env).map (·.2)) items.toList) Q E { s with heap := h' }) :
    wpAny (model prog w) A (assign (.Tuple elts k pos) env (.ref t)) Q E s := by
  rw [assign_Tuple]
  refine wpAny_bind (wpAny_standAt ?_)
  unfold unpack
  rw [hn, hstar]
  exact wpAny_bind (wpAny_holding (unpackItems_hot hot ht h))
end
end VL
set_option Elab.async false
set_option linter.all false
set_option maxRecDepth 100000
set_option maxHeartbeats 4000000
set_option autoImplicit false
/-! VH2: list comprehensions over a list, tuples as targets, while an exception is handled. -/
namespace VL
open PySem PySem.Spec PyProof.Rows L2 L2H HotX
theorem pin_ne {X : Cx} {pins : List (Addr × Obj)} {σ : L2.St} {H : Hp} {s : Shared} (c : HotC X) (I : Inv X pins σ H s) : ∃ x1, HotAt X.A x1 s.heap ∧ ∀ b, FpOk X pins H b → x1 ≠ b := by
  obtain ⟨p, ⟨hh, v1, e1, c1⟩, hp⟩ := c
  exact ⟨p.1, ⟨hh, p.2, v1, (I.pin p (List.mem_append_left _ hp)).1, e1, c1⟩, fun b hb => hb.2.2.2.2.2 p (List.mem_append_left _ hp)⟩
theorem turn_listH {P : Program} {w : World} {K : PySem.W.Frag} {tg : Expr} (a it : Addr) : TurnH P w K tg (Itl K a) [it] it (fun i h => h.IsListIter it a i) where
  mem := by simp
  obj := fun i h st b hb => by
    have e : b = it := by simpa using hb
    subst e
    obtain ⟨o, e, c, d⟩ := st
    exact ⟨o, e, fun v z => by rw [d] at z; cases z⟩
  keep := fun i h h' st k => st.at fun o e => k it (by simp) o e
  item := by
    intro X hP hw hK hc i pins s σ H E I hf st hg
    subst hP hw hK
    obtain ⟨xs, x, hq, hx⟩ := hg
    obtain ⟨its, rv, p, hz⟩ := I.list hq
    obtain ⟨u, hu, ru⟩ := rv.get hx
    obtain ⟨f0, f1, f2, f3, f4, f5⟩ := hf it (by simp)
    refine wpAny_pyNext_list_item st p.isList (x := u) (by simpa using hu) fun h' st' sb => ?_
    have I1 : Inv X pins σ H { s with heap := h' } := I.turned (t' := s.toks) (fun b o hb e => (sb.2 b hb).trans e) f0 f1 f3 f4 f5
    obtain ⟨o, e, c, d⟩ := id st'
    exact ⟨u, rfl, go_of (s := { s with heap := h' }) e c d (by decide) ⟨x, H, I1, ru, ⟨rfl, fun ys hy => by rw [I.list_inj hy hq]; exact hx⟩, st', fun b hb => (hf b hb).1⟩⟩
  done := by
    intro X hP hw hK hc i pins s σ H E I hf st hg
    subst hP hw hK
    obtain ⟨xs, hq, hx⟩ := hg
    obtain ⟨its, rv, p, hz⟩ := I.list hq
    have hi := hf it (by simp)
    obtain ⟨x1, hot, hne⟩ := pin_ne hc I
    obtain ⟨f0, f1, f2, f3, f4, f5⟩ := id hi
    have hl := rv.length
    exact list_end_hot hot (hne it hi) st p.isList (by simp; omega) fun h' eb => ⟨rfl, I.turned (t' := s.toks) (fun b o hb e => eb b o hb e) f0 f1 f3 f4 f5⟩
  self := fun _ _ _ _ _ st h => wpAny_pyIter_listiter st h
section
variable {X : Cx} {tg : Expr}
theorem pi_listH {l : Expr} {tl : TE} (hl : PE X l tl) : PIH X tg l (iList X.K tl) := by
  refine ⟨fun pins s σ H R I h => ?_⟩
  refine thn (hl.run pins s σ H _ I h) fun v s1 ⟨x, H1, I1, r1, q1⟩ => ?_
  obtain ⟨a, e, ⟨xs, hq⟩, q⟩ := q1
  subst e
  cases r1
  obtain ⟨its, rv, p, hz⟩ := I1.list hq
  refine wpAny_pyIter_list p.isList ?_
  refine ⟨s1.heap.objs.size, [s1.heap.objs.size], _, _, H1, rfl, I1.kept (t' := s1.toks) fun b o e => Heap.get?_push_of_some _ e, turn_listH a _, ⟨_, Heap.get?_push_size _ rfl, rfl, rfl⟩, fun b hb => ?_, q⟩
  have e : b = s1.heap.objs.size := by simpa using hb
  subst e
  exact I1.fpOk (Nat.le_refl _) (I1.hok.fresh (Nat.le_refl _))
theorem pg_tupH {es : List Expr} {k : Nat} {t : TGs} {n : Nat} {pos : Pos} (hc : HotC X) (h : PGs X es t)
    (hn : (assignEach es X.env).length = n := by rfl) (hst : (assignEach es X.env).findIdx? (·.1) = none := by rfl) : PG X (.Tuple es k pos) (gTup X.K n t) := by
  refine ⟨fun pins s σ H v u Q I r hw => ?_⟩
  obtain ⟨a, xs, e1, hq, hl, hw⟩ := hw
  subst e1
  cases r
  obtain ⟨its, rv, ht, hz⟩ := I.tuple hq
  obtain ⟨x1, hot⟩ := hc.at I
  refine assign_tuple_hot hot ht (by simp [hn, ← hl, rv.length]) hst fun h' hx => ?_
  have I1 : Inv X pins σ H { s with heap := h' } := I.kept (t' := s.toks) fun b o e => hx b o (Nat.ne_of_lt (Heap.lt_size e)) e
  exact h.run pins _ σ H xs _ Q I1 (by simpa using rv) hw
/-- the context of a block: what is pinned stays pinned -/
abbrev blkH (X : Cx) (s : Shared) (H : Hp) (scope : Scope) (cenv : Env) (fp : List Addr) : Cx := { X.blk s H scope cenv fp with pn := X.pn }
theorem hot_blk {s : Shared} {H : Hp} {scope : Scope} {cenv : Env} {fp : List Addr} (c : HotC X) : HotC (blkH X s H scope cenv fp) := c
variable {pins : List (Addr × Obj)} {σ : L2.St} {H : Hp} {s : Shared}
theorem block_startH {scope : Scope} {own : List (Str × Nat)} {fp : List Addr} (I : Inv X pins σ H s) (ok : BlkOk X.N X.env.scope scope own) (hN : X.N.Nodup) (hfp : ∀ b ∈ fp, FpOk X pins H b ∧ b < s.heap.objs.size) :
    Inv (blkH X s H scope (compEnvC scope (cellsFrom (s.heap.objs.size + 1) scope.names (cloFrom X.env.cells scope.names [])) s.heap.objs.size X.env) fp) [] (wipe σ (own.map (·.2))) H { s with heap := pushCells (s.heap.push { cls := .type "dict", data := .dict #[] }) scope.names } := by
  have J := block_start I ok hN hfp
  have k := J.ok
  refine ⟨⟨k.mod, k.kind, k.glob, k.blt, k.above, k.inj, k.has, k.cab, k.hd, k.frames, k.stk, k.exf, k.bs, k.bsz, k.noex, k.exfs, k.funs, k.frf⟩, J.os, J.bare, J.base, J.loc, J.cell, J.free, J.freeC, fun p hp => ?_, J.hok, J.len⟩
  have hp' : p ∈ X.pn := by
    have z : p ∈ X.pn ++ ([] : List (Addr × Obj)) := hp
    simpa using z
  have P1 := I.pin p (List.mem_append_left _ hp')
  refine ⟨pushCells_keeps _ _ _ _ (Heap.get?_push_of_some _ P1.1), P1.2.1, Nat.ne_of_lt (Heap.lt_size P1.1), fun hm => (List.mem_cons.mp (I.stkSub p.1 hm)).elim P1.2.2.1 P1.2.2.2.1, P1.2.2.2.2⟩
theorem lc_coreH {pins : List (Addr × Obj)} {s : Shared} {σ : L2.St} {H : Hp} {Q : VK} {elt tg iter : Expr} {ifs : List Expr} {scope : Scope} {own : List (Str × Nat)} {pos pos' : Pos} {wi : TI} {g : TG} {tt : TT} {te : TE} {use : Option (Value → Sem Unit)} {Qf : Value → Shared → Prop}
    (hc : HotC X) (hN : X.N.Nodup) (I : Inv X pins σ H s) (hi : PIH X tg iter wi) (ok : BlkOk X.N X.env.scope scope own)
    (hg : ∀ (s : Shared) (H : Hp) (C : Addr) (cl : List (Str × Addr)) (fp : List Addr), PG (blkH X s H scope (compEnvC scope cl C X.env) fp) tg g) (ht : ∀ (s : Shared) (H : Hp) (C : Addr) (cl : List (Str × Addr)) (fp : List Addr), PTs (blkH X s H scope (compEnvC scope cl C X.env) fp) ifs tt)
    (he : ∀ (s : Shared) (H : Hp) (C : Addr) (cl : List (Str × Addr)) (fp : List Addr), PE (blkH X s H scope (compEnvC scope cl C X.env) fp) elt te) (hs : ∀ x, foldedSetIterable iter X.env x = pure x)
    (h : tLc wi g tt te (own.map (·.2)) σ H Q)
    (hRR : ∀ D C s' m H', Inv X pins σ H' s' → Q (.ref D) H' → s'.heap.Ns C m → FpOk X pins H' C → compPost (model X.prog X.w) X.A X.xe use Qf (.ref D) C (.ok .next) s') :
    wpAny (model X.prog X.w) X.A (comprehension (.ListComp elt [⟨tg, iter, ifs, 0⟩] scope pos) scope X.env pos' (newList []) false (eval iter X.env) use) Qf X.xe s := by
  have hfree : ∀ y ∈ scope.names, y.2 = .free → ∃ c, X.env.cells.lookup y.1 = some c := fun y hy e => by
    rcases ok.free y hy e with k | k
    · exact I.ok.has _ (.inl k)
    · exact I.ok.has _ (.inr k)
  refine wpAny_comprehension_free (use := use) rfl hs (closure_ok hfree) ok.kind (fun y hy e => by rw [ok.uniq y hy, e])
    (thn (hi.run pins s σ H _ I h) fun xv s1 hx => thn hx fun itv s2 h2 => ?_)
  obtain ⟨it, fp, tn, J, H2, e, I2, T, st2, f2, q⟩ := h2
  subst e
  refine wpAny_newObj_type (newEnv_comp ?_) (by show 0 ≤ sizeLine; decide)
  generalize hD : s2.heap.objs.size = D
  have hDn : H2 D = none := I2.hok.fresh (Nat.le_of_eq hD)
  obtain ⟨W, ⟨m0, w0⟩, turn⟩ := q D hDn
  -- the new list
  generalize hs3 : ({ s2 with heap := s2.heap.push { cls := .type "list", data := .seq ([] : List Value).toArray } } : Shared) = s3
  have I3 : Inv X pins σ (upd H2 D (.lst [])) s3 := by
    rw [← hs3]
    refine I2.laid (t' := s2.toks) (fun b o e => Heap.get?_push_of_some _ e) (Nat.le_of_eq hD) ⟨Nat.zero_le _, [], 0, .nil, ?_⟩
    rw [← hD]
    exact Heap.get?_push_size _ rfl
  have h3 : s3.heap = s2.heap.push { cls := .type "list", data := .seq ([] : List Value).toArray } := by rw [← hs3]
  have sz : ∀ b ∈ fp, b < s2.heap.objs.size := fun b hb => by
    obtain ⟨o, e, _⟩ := T.obj _ _ st2 b hb
    exact Heap.lt_size e
  have f3 : ∀ b ∈ fp, FpOk X pins (upd H2 D (.lst [])) b ∧ b < s3.heap.objs.size := fun b hb => by
    have hlt := sz b hb
    refine ⟨⟨?_, (f2 b hb).2⟩, by rw [h3, Heap.size_push]; exact Nat.lt_succ_of_lt hlt⟩
    rw [upd_ne (by rw [← hD]; exact Nat.ne_of_lt hlt)]
    exact (f2 b hb).1
  have st3 : tn 0 s3.heap := T.keep _ _ _ st2 fun b _ o e => by rw [h3]; exact Heap.get?_push_of_some _ e
  have I4 := block_startH I3 ok hN f3
  have pg := hg s3 (upd H2 D (.lst [])) s3.heap.objs.size (cellsFrom (s3.heap.objs.size + 1) scope.names (cloFrom X.env.cells scope.names [])) fp
  have pt := ht s3 (upd H2 D (.lst [])) s3.heap.objs.size (cellsFrom (s3.heap.objs.size + 1) scope.names (cloFrom X.env.cells scope.names [])) fp
  have pe := he s3 (upd H2 D (.lst [])) s3.heap.objs.size (cellsFrom (s3.heap.objs.size + 1) scope.names (cloFrom X.env.cells scope.names [])) fp
  show codeAny _ _ (.compStart (.ListComp elt [⟨tg, iter, ifs, 0⟩] scope pos) 0 (.ref it) (.ref D) (compEnvC scope (cellsFrom (s3.heap.objs.size + 1) scope.names (cloFrom X.env.cells scope.names [])) s3.heap.objs.size X.env)) (compPost (model X.prog X.w) X.A X.xe use Qf (.ref D) s3.heap.objs.size) { s3 with heap := pushCells (s3.heap.push { cls := .type "dict", data := .dict #[] }) scope.names }
  have nfp : ∀ b ∈ fp, (upd H2 D (.lst [])) b = none := fun b hb => (f3 b hb).1.1
  generalize hce : compEnvC scope (cellsFrom (s3.heap.objs.size + 1) scope.names (cloFrom X.env.cells scope.names [])) s3.heap.objs.size X.env = ce at I4 pg pt pe ⊢
  have cL : ce.locals = s3.heap.objs.size := by subst hce; rfl
  generalize hH3 : upd H2 D (.lst []) = H3 at I3 I4 pg pt pe w0 nfp f3
  generalize hs4 : ({ s3 with heap := pushCells (s3.heap.push { cls := .type "dict", data := .dict #[] }) scope.names } : Shared) = s4 at I4 ⊢
  have st4 : tn 0 s4.heap := T.keep _ _ _ st3 fun b _ o e => by rw [← hs4]; exact pushCells_keeps _ _ _ _ (Heap.get?_push_of_some _ e)
  have stat : ∀ {σ' : L2.St} {H' : Hp} {s' : Shared}, Inv (blkH X s3 H3 scope ce fp) [] σ' H' s' → (∀ b ∈ fp, H' b = none) → ∀ b ∈ fp, FpOk (blkH X s3 H3 scope ce fp) [] H' b := fun {σ' H' s'} I' hn b hb =>
    ⟨hn b hb, (I'.ok.exf b hb).1, I'.ok.exfs b hb, .inl hb, fun x c e => (I'.ok.exf b hb).2 x c e, fun p hp => (f3 b hb).1.2.2.2.2.2 p (List.mem_append_left _ (by simpa using hp))⟩
  have loop : codeAny (model X.prog X.w) X.A (.compLoop (.ListComp elt [⟨tg, iter, ifs, 0⟩] scope pos) 0 (.ref it) (.ref D) ce) (compPost (model X.prog X.w) X.A X.xe use Qf (.ref D) s3.heap.objs.size) s4 := by
    refine compLoop_any (fun n s' => ∃ i H', Inv (blkH X s3 H3 scope ce fp) [] (wipe σ (own.map (·.2))) H' s' ∧ tn i s'.heap ∧ (∀ b ∈ fp, H' b = none) ∧ W i n H') ?_ m0 ⟨0, H3, I4, st4, nfp, w0⟩
    rintro n s5 ⟨i, H5, I5, st5, n5, w5⟩
    rcases turn i n H5 w5 with ⟨stop, qq⟩ | ⟨go, Nx, hNx, step⟩
    · have td := T.done (blkH X s3 H3 scope ce fp) rfl rfl rfl hc i [] s5 _ H5 (fun _ _ => False) I5 (stat I5 n5) st5 stop
      refine thnF td fun r s6 ⟨hr, I6⟩ => ?_
      subst hr
      -- back in the def's context
      have I7 : Inv X pins σ H5 s6 := I3.call' (ch := fp) I6.os I6.base I6.hok I6.bare fun b hb => ⟨(f3 b hb).1.2.2.2.1, (f3 b hb).1.2.1, (f3 b hb).1.2.2.2.2.1, (f3 b hb).1.2.2.2.2.2⟩
      have nC : H5 s3.heap.objs.size = none := by
        have z : H5 ce.locals = none := I6.free
        rw [cL] at z
        exact z
      obtain ⟨m, hn, _⟩ := I6.loc
      have hn : s6.heap.Ns ce.locals m := hn
      rw [cL] at hn
      exact hRR D s3.heap.objs.size s6 m H5 I7 qq hn (I3.fpOk (Nat.le_refl _) nC)
    · have ti := T.item (blkH X s3 H3 scope ce fp) rfl rfl rfl hc i [] s5 _ H5 (fun _ _ => False) I5 (stat I5 n5) st5 go
      refine thnF ti fun r s6 ⟨u, hr, h6⟩ => ?_
      subst hr
      refine thnF h6 fun _ s7 ⟨x, H7, I7, r7, y7, st7, n7⟩ => ?_
      have I7' := I7.pinned (stat I7 n7) (T.obj _ _ st7)
      refine thnF (pg.run _ s7 _ H7 x u _ I7' r7 (step x H7 y7)) fun _ s8 ⟨σ8, H8, I8, hw8, q8⟩ => ?_
      refine thnF (pt.run _ s8 σ8 H8 _ I8 q8) fun b s9 ⟨H9, I9, q9⟩ => ?_
      -- the turn's end
      have fin : ∀ {s' : Shared} {H' : Hp}, Inv (blkH X s3 H3 scope ce fp) ([] ++ pinsAt fp s7.heap) σ8 H' s' → Nx H' → ∃ m, m < n ∧ ∃ i H', Inv (blkH X s3 H3 scope ce fp) [] (wipe σ (own.map (·.2))) H' s' ∧ tn i s'.heap ∧ (∀ b ∈ fp, H' b = none) ∧ W i m H' := fun {s' H'} I' nx => by
        obtain ⟨m', hm, w'⟩ := hNx H' nx
        have pin' : ∀ b ∈ fp, ∀ o, s7.heap.get? b = some o → s'.heap.get? b = some o ∧ H' b = none := fun b hb o e =>
          let z := I'.pin (b, o) (List.mem_append_right _ (List.mem_append_right _ (mem_pinsAt hb e)))
          ⟨z.1, z.2.1⟩
        have hl : (wipe σ (own.map (·.2))).length = σ8.length := by rw [← hw8, wipe_length]
        refine ⟨m', hm, i + 1, H', (I'.unpinned (pins := [])).weak hl (fun j v e => ?_), T.keep _ _ _ st7 fun b hb o e => (pin' b hb o e).1, fun b hb => ?_, w'⟩
        · rw [← hw8] at e
          exact (wipe_some e).1
        · obtain ⟨o, e, _⟩ := T.obj _ _ st7 b hb
          exact (pin' b hb o e).2
      cases b with
      | false =>
        simp only [Bool.false_eq_true, if_false] at q9 ⊢
        exact fin I9 q9
      | true =>
        simp only [if_true] at q9 ⊢
        refine thnF (pe.run _ s9 σ8 H9 _ I9 q9) fun z s10 ⟨yv, H10, I10, r10, acc, hD10, hz10, nx⟩ => ?_
        exact app_ok (X := blkH X s3 H3 scope ce fp) I10 hD10 hz10 r10 fun s11 I11 => fin I11 nx
  exact codeAny_compStart_list loop (T.self X.A 0 _ _ _ st4 loop)
/-- as a value -/
theorem pe_lcH {elt tg iter : Expr} {ifs : List Expr} {scope : Scope} {own : List (Str × Nat)} {pos : Pos} {wi : TI} {g : TG} {tt : TT} {te : TE} (hc : HotC X) (hN : X.N.Nodup) (hi : PIH X tg iter wi) (ok : BlkOk X.N X.env.scope scope own)
    (hg : ∀ (s : Shared) (H : Hp) (C : Addr) (cl : List (Str × Addr)) (fp : List Addr), PG (blkH X s H scope (compEnvC scope cl C X.env) fp) tg g) (ht : ∀ (s : Shared) (H : Hp) (C : Addr) (cl : List (Str × Addr)) (fp : List Addr), PTs (blkH X s H scope (compEnvC scope cl C X.env) fp) ifs tt)
    (he : ∀ (s : Shared) (H : Hp) (C : Addr) (cl : List (Str × Addr)) (fp : List Addr), PE (blkH X s H scope (compEnvC scope cl C X.env) fp) elt te) (hs : ∀ x, foldedSetIterable iter X.env x = pure x := by intro _; rfl) :
    PE X (.ListComp elt [⟨tg, iter, ifs, 0⟩] scope pos) (tLc wi g tt te (own.map (·.2))) := by
  refine ⟨fun pins s σ H Q I h => ?_⟩
  rw [eval_ListComp]
  refine lc_coreH hc hN I hi ok hg ht he hs h fun D C s' m H' I' q hn f => ⟨m, hn, fun h'' sb => ?_⟩
  obtain ⟨f0, f1, f2, f3, f4, f5⟩ := f
  exact ⟨.ref D, H', I'.turned (t' := s'.toks) (fun b o hb e => (sb.2 b hb).trans e) f0 f1 f3 f4 f5, rfl, q⟩
end
end VL
set_option Elab.async false
set_option linter.all false
set_option maxRecDepth 100000
set_option maxHeartbeats 4000000
set_option autoImplicit false
/-! VH3: the same on plain values: lists gone through, tuples as targets, comprehensions while an exception is handled. -/
namespace VL
open PySem PySem.Spec PyProof.Rows L2 L2H R
section
variable {M : Md} {T : Tb} {E : XK} {O O1 O2 : List Nat} {X : Cx} {scope : Scope} {tg a b c e it elt : Expr} {es ifs : List Expr} {f g h : En → R PV} {fi : En → R (List PV)} {ft : En → R Bool} {pos pos' p : Pos} {x : Str}
/-- what a comprehension does, its parts' readings given -/
theorem comp_sem {vs ts : List Nat} {fg : PV → En → R En} {wi : TI} {tg' : TG} {tt : TT} {te : TE}
    (qi : ∀ L ow H σ env R, ow.map (·.1) = O → EnvR T L ow H σ env → Res (fi env) (fun items => ∀ J H', Ex H H' → Iters T (hid H' L) J items → R J H') (xw T E H) → wi σ H R)
    (hO : blkO O vs = O1) (hts : (ts.all fun j => vs.contains j) = true)
    (qg : ∀ L ow H σ env v d Q x, ow.map (·.1) = O1 → EnvR T L ow H σ env → Rep T (hid H L) v d → Res (fg d env) (fun env' => ∀ σ' ow', ow'.map (·.1) = O1 → (∀ p ∈ ow', p ∈ ow) → env'.length = env.length → (∀ j, j ∉ ts → σ'[j]? = σ[j]?) → EnvR T L ow' H σ' env' → Q σ' H) x → tg' v σ H Q)
    (qt : ∀ L ow H σ env Q, ow.map (·.1) = O1 → EnvR T L ow H σ env → Res (ft env) (fun b => ∀ H', Ex H H' → Q b H') (xw T EF H) → tt σ H Q)
    (qe : ∀ L ow H σ env Q, ow.map (·.1) = O1 → EnvR T L ow H σ env → Res (f env) (KV' T L H Q) (xw T EF H) → te σ H Q)
    (L : List Addr) (ow : List (Nat × Addr)) (H : Hp) (σ : L2.St) (env : En) (Q : VK) (ho : ow.map (·.1) = O) (re : EnvR T L ow H σ env) (hq : Res (do
        let items ← fi env
        let l ← compE (itemF fg ft f (wipeE env vs)) items
        .ok (.list l)) (fun d => ∀ p H', Ex H H' → H p = none → RepO T (p :: L) H' p d → Q (.ref p) H') (xw T E H)) : tLc wi tg' tt te vs σ H Q := by
  simp only [res_bind] at hq
  refine qi L ow H σ env _ ho re (hq.imp (fun items k J H1 e1 J1 D hD => ?_) fun _ _ x => x)
  obtain ⟨n, G, Y, W, hn, hln, hG, hY⟩ := J1
  subst hn
  have hDH : H D = none := Evl.fresh_back e1 hD
  refine lc_it W (fun i H2 => ∃ acc ds, H2 D = some (.lst acc) ∧ Ex H1 H2 ∧ RepA T (hid H2 (D :: L)) acc ds ∧ acc.length ≤ i ∧ Res (compE (itemF fg ft f (wipeE env vs)) (items.drop i)) (fun l => ∀ p H', Ex H H' → H p = none → RepO T (p :: L) H' p (.list (ds ++ l)) → Q (.ref p) H') (xw T E H)) ?_ ?_ ?_ ?_
  · refine ⟨[], [], upd_same, ex_upd hD, .nil, Nat.le_refl _, ?_⟩
    exact k
  · rintro i H2 _ ⟨acc, ds, _, e2, _, _, _⟩
    exact hG H2 ((hid_le).trans e2)
  · rintro i x1 H2 H3 hi ⟨acc, ds, h1, e2, r2, z2, k2⟩ y
    have hd : items[i]? = some items[i] := List.getElem?_eq_getElem hi
    have tr : Trk (D :: L) H2 := fun a ha => by
      rcases List.mem_cons.mp ha with rfl | ha
      · rw [h1]
        exact fun z => nomatch z
      · exact re.trk.mono (e1.trans e2) a ha
    obtain ⟨e3, r3⟩ := hY i H2 (D :: L) x1 H3 items[i] hd tr (hid_more e2 hD) y
    have h3 : H3 D = some (.lst acc) := e3 _ _ h1
    have re3 : EnvR T (D :: L) (ow.filter fun p => !vs.contains p.1) H3 (wipe σ vs) (wipeE env vs) := re.block vs ((e1.trans e2).trans e3) hDH (by rw [h3]; exact fun z => nomatch z)
    rw [List.drop_eq_getElem_cons hi] at k2
    unfold compE at k2
    cases ei : itemF fg ft f (wipeE env vs) items[i] with
    | ok o =>
      rw [ei] at k2
      simp only [res_bind] at k2
      have ev : Res (itemF fg ft f (wipeE env vs) items[i]) (fun o' => o' = o) (xw T EF H3) := by rw [ei]; rfl
      unfold itemF at ev
      simp only [res_bind] at ev
      have hO1 : (ow.filter fun p => !vs.contains p.1).map (·.1) = O1 := by rw [blkW_map, ho, hO]
      refine qg (D :: L) _ H3 (wipe σ vs) (wipeE env vs) x1 items[i] _ _ hO1 re3 r3 (ev.imp (fun env4 k4 σ4 ow4 ho4 _ hl4 hk4 re4 => ?_) fun _ _ x => x)
      refine ⟨wipe_same ?_ hk4 (fun j hj => ?_), ?_⟩
      · rw [← re4.len, hl4, re3.len, (wipeS σ vs).1]
      · have z := List.all_eq_true.mp hts j hj
        simpa using z
      refine qt (D :: L) ow4 H3 σ4 env4 _ ho4 re4 (k4.imp (fun b k5 H5 e5 => ?_) fun _ _ x => x)
      have h5 : H5 D = some (.lst acc) := e5 _ _ h3
      have hz : acc.length < sizeLine := by
        have e0 : LN = 16777216 := rfl
        rw [sizeLine_eq]
        omega
      cases b with
      | true =>
        rw [if_pos rfl]
        rw [if_pos rfl, res_bind] at k5
        refine qe (D :: L) ow4 H5 σ4 env4 _ ho4 (re4.mono e5) (k5.imp (fun d k6 v H6 e6 r6 => ?_) fun _ _ x => xw_mono e5 x)
        have h6 : H6 D = some (.lst acc) := e6 _ _ h5
        rw [res_ok] at k6
        subst k6
        refine ⟨acc, h6, hz, acc ++ [v], ds ++ [d], upd_same, ?_, ?_, ?_, ?_⟩
        · exact Evl.Ex.mut (((e2.trans e3).trans e5).trans e6) hD
        · rw [hid_upd List.mem_cons_self]
          exact (r2.mono (hid_ex ((e3.trans e5).trans e6))).append (.one r6)
        · rw [List.length_append, List.length_singleton]
          omega
        · refine k2.imp (fun l kl p H' e' hp r => ?_) fun _ _ x => x
          refine kl p H' e' hp ?_
          rw [List.append_assoc] at r
          exact r
      | false =>
        rw [if_neg Bool.false_ne_true]
        rw [if_neg Bool.false_ne_true, res_ok] at k5
        subst k5
        refine ⟨acc, ds, h5, (e2.trans e3).trans e5, r2.mono (hid_ex (e3.trans e5)), by omega, ?_⟩
        exact k2.imp (fun l kl => kl) fun _ _ x => x
    | exc _ _ => rw [ei] at k2; exact k2.elim
    | bad => rw [ei] at k2; exact k2.elim
  · rintro H2 ⟨acc, ds, h1, e2, r2, z2, k2⟩
    rw [List.drop_length] at k2
    have k3 := k2 D H2 (e1.trans e2) hDH
    rw [List.append_nil] at k3
    exact k3 (.lst h1 r2 (by have e0 : LN = 16777216 := rfl; rw [sizeLine_eq]; omega))
/-- lists only -/
def iterL : PV → R (List PV)
  | .list ds => .ok ds
  | _ => .bad
def VIH (T : Tb) (E : XK) (O : List Nat) (X : Cx) (tg it : Expr) (f : En → R (List PV)) : Prop := ∃ wi, PIH X tg it wi ∧ ∀ L ow H σ env R, ow.map (·.1) = O → EnvR T L ow H σ env →
  Res (f env) (fun items => ∀ J H', Ex H H' → Iters T (hid H' L) J items → R J H') (xw T E H) → wi σ H R
theorem vi_listH (hK : X.K = T.K) (ha : VE T E O X a f) : VIH T E O X tg a (fun env => do iterL (← f env)) := by
  obtain ⟨t, p, q⟩ := ha
  refine ⟨_, pi_listH p, fun L ow H σ env R ho re h => ?_⟩
  simp only [res_bind] at h
  refine q L ow H σ env _ ho re (h.imp (fun d k v H1 e1 r => ?_) fun _ _ x => x)
  rw [hK]
  cases d with
  | list ds =>
    cases r with
    | @lst a xs _ ha ra za => exact ⟨a, rfl, ⟨xs, SqL.of (hid_le _ _ ha)⟩, k _ H1 e1 (iters_list za (SqL.of ha) ra)⟩
  | _ => exact k.elim
theorem vg_tupH {k : Nat} {n : Nat} {ts : List Nat} {gg : List PV → En → R En} (hc : HotC X) (hr : VGs T O O1 X es ts gg) (hn : (assignEach es X.env).length = n := by rfl) (hst : (assignEach es X.env).findIdx? (·.1) = none := by rfl) :
    VG T O O1 X (.Tuple es k pos) ts (fun d env => do gg (← tupP n d) env) := by
  obtain ⟨t, p, q⟩ := hr
  refine ⟨_, pg_tupH hc p hn hst, fun L ow H σ env v d Q x' ho re r h => ?_⟩
  simp only [res_bind] at h
  cases d with
  | tup ds =>
    dsimp only [tupP] at h
    by_cases hl : ds.length = n
    · rw [if_pos hl] at h
      cases r with
      | @tup a xs _ ha ra za =>
        exact ⟨a, xs, rfl, SqT.of (hid_le _ _ ha), by rw [ra.length]; exact hl, q L ow H σ env xs ds Q x' ho re ra h⟩
    · rw [if_neg hl] at h
      exact h.elim
  | _ => exact h.elim
abbrev blkXH (X : Cx) (scope : Scope) (b : Blk) : Cx := blkH X b.1 b.2.1 scope (compEnvC scope b.2.2.2.1 b.2.2.1 X.env) b.2.2.2.2
theorem uniEH (h : ∀ b, VE T EF O (blkXH X scope b) e f) : ∃ t, (∀ b, PE (blkXH X scope b) e t) ∧ ∀ L ow H σ env Q, ow.map (·.1) = O → EnvR T L ow H σ env → Res (f env) (KV' T L H Q) (xw T EF H) → t σ H Q := by
  refine ⟨fun σ H Q => ∀ b, (h b).choose σ H Q, fun b => ⟨fun pins s σ H Q I q => (h b).choose_spec.1.run pins s σ H Q I (q b)⟩, fun L ow H σ env Q ho re hq b => (h b).choose_spec.2 L ow H σ env Q ho re hq⟩
theorem uniTH (h : ∀ b, VTs T EF O (blkXH X scope b) ifs ft) : ∃ t, (∀ b, PTs (blkXH X scope b) ifs t) ∧ ∀ L ow H σ env Q, ow.map (·.1) = O → EnvR T L ow H σ env → Res (ft env) (fun b => ∀ H', Ex H H' → Q b H') (xw T EF H) → t σ H Q := by
  refine ⟨fun σ H Q => ∀ b, (h b).choose σ H Q, fun b => ⟨fun pins s σ H Q I q => (h b).choose_spec.1.run pins s σ H Q I (q b)⟩, fun L ow H σ env Q ho re hq b => (h b).choose_spec.2 L ow H σ env Q ho re hq⟩
theorem uniGH {ts : List Nat} {fg : PV → En → R En} (h : ∀ b, VG T O O1 (blkXH X scope b) tg ts fg) : ∃ t, (∀ b, PG (blkXH X scope b) tg t) ∧ ∀ L ow H σ env v d Q x, ow.map (·.1) = O → EnvR T L ow H σ env → Rep T (hid H L) v d →
    Res (fg d env) (fun env' => ∀ σ' ow', ow'.map (·.1) = O1 → (∀ p ∈ ow', p ∈ ow) → env'.length = env.length → (∀ j, j ∉ ts → σ'[j]? = σ[j]?) → EnvR T L ow' H σ' env' → Q σ' H) x → t v σ H Q := by
  refine ⟨fun v σ H Q => ∀ b, (h b).choose v σ H Q, fun b => ⟨fun pins s σ H v u Q I r q => (h b).choose_spec.1.run pins s σ H v u Q I r (q b)⟩, fun L ow H σ env v d Q x ho re r hq b => (h b).choose_spec.2 L ow H σ env v d Q x ho re r hq⟩
theorem vf_compH {own : List (Str × Nat)} {ts : List Nat} {fg : PV → En → R En} (hc : HotC X) (hN : X.N.Nodup) (hi : VIH T E O X tg it fi) (ok : BlkOk X.N X.env.scope scope own) (hO : blkO O (own.map (·.2)) = O1) (hts : (ts.all fun j => (own.map (·.2)).contains j) = true)
    (hg : ∀ b, VG T O1 O1 (blkXH X scope b) tg ts fg) (ht : ∀ b, VTs T EF O1 (blkXH X scope b) ifs ft) (he : ∀ b, VE T EF O1 (blkXH X scope b) elt f) (hs : ∀ x, foldedSetIterable it X.env x = pure x := by intro _; rfl) :
    VF T E O X (.ListComp elt [⟨tg, it, ifs, 0⟩] scope pos) (fun env => do
      let items ← fi env
      let l ← compE (itemF fg ft f (wipeE env (own.map (·.2)))) items
      .ok (.list l)) := by
  obtain ⟨wi, pi, qi⟩ := hi
  obtain ⟨tg', pg, qg⟩ := uniGH hg
  obtain ⟨tt, pt, qt⟩ := uniTH ht
  obtain ⟨te, pe, qe⟩ := uniEH he
  exact ⟨_, pe_lcH hc hN pi ok (fun s H C cl fp => pg (s, H, C, cl, fp)) (fun s H C cl fp => pt (s, H, C, cl, fp)) (fun s H C cl fp => pe (s, H, C, cl, fp)) hs, comp_sem qi hO hts qg qt qe⟩
end
end VL
set_option Elab.async false
set_option linter.all false
set_option maxRecDepth 100000
set_option maxHeartbeats 4000000
set_option autoImplicit false
/-! VH4: a def that is called with the caught error. -/
namespace VL
open PySem PySem.Spec PySem.W PyProof.Rows L2 L2H R
abbrev VSt := L2.St
/-! ### isinstance of the caught error -/
theorem kit_of {K : Frag} {C D : Addr} {b : Bool} (i : IcC K D) (h : exmOne K (.ref D) (.ref C) = some b) : kitOne K (.ref D) (.ref C) = some b := by
  unfold exmOne at h
  split at h
  · unfold kitOne
    split
    · rename_i e
      have e2 : D = C := by simpa using e
      subst e2
      have h2 : (if ((clsIn K D).isSome && typeIn K (.ref D) == some (.type "type")) = true then subIn K (.ref D) (.ref D) else none) = some b := h
      split at h2
      · have h3 : mroIn K D (.ref D) = some b := h2
        rw [i.me] at h3
        exact h3
      · cases h2
    · exact h
  · cases h
def rIsY (K : Frag) (D a : Addr) : List V → Hp → VK → Prop := fun xs H Q => ∃ (C : Addr) (b : Bool), xs = [.ref a, .ref C] ∧ kitOne K (.ref D) (.ref C) = some b ∧ Q (.bl b) H
theorem call_isY {X : Cx} {a D : Addr} {oe : Obj} {d : Option Addr} (hA : XfC X.K D) (i : IcC X.K D) (hz : Zc (.ref D) d oe) (hf : ∃ vs, oe.data = .fields vs) (hp : (a, oe) ∈ X.pn) (hd : ∀ dd, d = some dd → ∀ (pins : List (Addr × Obj)) (s : Shared) (σ : VSt) (H : Hp), Inv X pins σ H s → ∃ od, s.heap.get? dd = some od) : CallR X (.builtin "isinstance") (rIsY X.K D a) := by
  intro pins s σ H xs us Q I r h
  obtain ⟨C, b, rfl, e, q⟩ := h
  cases r with
  | cons rx rr =>
    cases rr with
    | cons rt rr =>
      cases rr
      cases rx
      cases rt
      obtain ⟨hget, _⟩ := I.pin (a, oe) (List.mem_append.mpr (.inl hp))
      obtain ⟨vs, hv⟩ := hf
      obtain ⟨cd, hc, _⟩ := any_some hA.hdC
      have hcl : (clsIn X.K D).isSome = true := by rw [hc]; rfl
      have J : ∃ od, PySem.W.InstAt s.heap a oe D od := by
        obtain ⟨oc, od, oda, osl⟩ := oe
        obtain ⟨h1, h2⟩ := hz
        dsimp only at h1 h2 hv
        subst h1 h2 hv
        cases od with
        | none => exact ⟨none, hget, rfl, rfl, trivial⟩
        | some dd =>
          obtain ⟨o, ho⟩ := hd dd rfl pins s σ H I
          exact ⟨some o, hget, rfl, rfl, ho⟩
      obtain ⟨od, J⟩ := J
      exact PySem.W.kia_one (PySem.W.kitx_exc hcl hA.ga hA.gg hA.exC i.cl i.gt i.tk i.ob) I.kIn J e (fun z => nomatch z) fun tk => ⟨.bl b, H, I.kept (t' := tk) fun _ _ z => z, rfl, q⟩
/-! ### e.at -/
theorem pe_xfY {X : Cx} {a C : Addr} {oe : Obj} {d : Option Addr} {e : Expr} {te : TE} {pos : Pos} {n : Str} (Tc : XfC X.K C) (hno : findIn X.K (.ref C) n = some none)
    (hz : Zc (.ref C) d oe) (hf : ∃ vs, oe.data = .fields vs) (hp : (a, oe) ∈ X.pn) (he : PE X e te) (hb : attributeBase e n X.env (eval e X.env) = eval e X.env := by rfl) :
    PE X (.Attribute e n pos) (tXf a (.ref C) d C n te) := by
  refine ⟨fun pins s σ H Q I h => ?_⟩
  refine attr_of hb (thn (he.run pins s σ H _ I h) fun u s1 hh => ?_)
  obtain ⟨x, H1, I1, rx, ex, ec, dd, fs, v, ed, ea, l, q⟩ := hh
  subst ex
  obtain rfl : u = Value.ref a := rx
  subst ed
  obtain ⟨ha, _⟩ := I1.pin (a, oe) (List.mem_append_left _ hp)
  obtain ⟨vs, hd⟩ := hf
  have hx : ObjOk X.prog X.w H1 s1.heap dd (.xd fs) := I1.hok dd _ ea
  obtain ⟨mA, hns, hr⟩ := hx
  obtain ⟨od, ho, hl⟩ := lookIn_ns hns
  obtain ⟨u, hu, ru⟩ := RelO.some_of (v := v) (o := mA n) (by rw [← l]; exact hr n)
  have J : PySem.W.InstAt s1.heap a oe C (some od) := ⟨ha, hz.1, by unfold PySem.W.notCls; rw [hd] <;> rfl, by rw [hz.2]; exact ho⟩
  exact HandSPX.exc_get I1.kIn J Tc.ga Tc.gg Tc.exC (PySem.W.findObj_own Tc.hdC hno rfl (by rw [hl, hu])) (handed_of ru) ⟨v, H1, I1.tok _, ru, q⟩
/-! ### a def called with the caught error a, its object oe -/
abbrev CXF : CXT := fun _ _ _ _ _ _ => False
structure FnE (P : Program) (w : World) (K : Frag) (mg : Str → Option Value) (base : Heap) (k : Nat) (f : Addr) (fd : FuncData) (ps : List Str) (a : Addr) (oe : Obj) (sp : Sp) : Prop where
  len : ∀ vs H Q E, sp vs H Q E → vs.length = ps.length
  run : ∀ (A : Around) (outer : List Env) (s : Shared) (H : Hp) (args : Args) (us : List Value) (vs : List V) (Q : VK) (E : XK), RoomH k A → Hot1 A (a, oe) → PinOk outer H s (a, oe) → Env0 P w K mg base A outer s H → BindsTo s fd args (ps.zip us) → Vals vs us → sp vs H Q E →
    codeAny (model P w) A (.call (.ref f) args) (CR CXF outer P w H s Q E) s
theorem fnE_of {P : Program} {w : World} {K : Frag} {mg : Str → Option Value} {base : Heap} {k : Nat} {x qual : Str} {st : Stmt} {f : Addr} {fd : FuncData} {N ps : List Str} {sp : Sp} {a : Addr} {oe : Obj} (Fu : Fun K x qual st f fd) (S : FnScope N ps (defScope st))
    (len : ∀ vs H Q E, sp vs H Q E → vs.length = ps.length)
    (hbody : ∀ (cdv : Value) (A : Around) (outer : List Env) (s : Shared) (H : Hp) (vs : List V) (Q : VK) (E : XK), Hot1 A (a, oe) → RoomH k (A.deeper (envOfC qual (defScope st) s.heap.objs.size f cdv)) → HOk P w H s.heap → sp vs H Q E →
      ∃ t, PSs (cxH CXF P w K mg base N qual (defScope st) f cdv A outer s H E (a, oe)) (defBody st) t ∧ t { nx := fun _ H' => Q .non H', rt := Q } (L2.start N vs) H) :
    FnE P w K mg base (k + 1) f fd ps a oe sp := by
  obtain ⟨oc, od, kV, doc, pm, an, cdv, ct, osl, rfl, lk, hcd⟩ := Fu.ex
  refine ⟨len, fun A outer s H args us vs Q E hr hot hpin e0 hb r hsp => ?_⟩
  have hl := len _ _ _ _ hsp
  have KX : K.In s.heap := e0.mod.kin.keeps fun b o e => (e0.bs b o e).1
  have lim : s.heap.NoLimit := e0.mod.nolimit.keeps fun b o e => (e0.bs b o e).1
  have hkind : ∀ y ∈ ps.zip us, (defScope st).names.lookup y.1 = some .local ∨ ((defScope st).names.lookup y.1 = some .cell ∧ ((cellsFrom (s.heap.objs.size + 1) (defScope st).names []).lookup y.1).isSome = true) := fun ⟨n, v⟩ hy => by
    rcases S.par n (List.of_mem_zip hy).1 with q | q
    · exact .inl q
    · exact .inr ⟨q, PySem.W.cellsFrom_some _ _ _ (.inl q)⟩
  refine codeAny_call_function hr.depth (KX _ _ lk) rfl S.co S.gen rfl (PySem.W.codeRec_of KX hcd) (hb _ _ _ _ ?_)
  refine wpAny_newFunctionEnv_cells S.kind hkind fun env he s1 x => ?_
  subst he
  refine ⟨lim.keeps x.toInCall.keep, codeAny_func ?_⟩
  obtain ⟨t, ht, hq⟩ := hbody cdv A outer s H vs Q E hot (hr.deeper _) e0.hok hsp
  have I : Inv (cxH CXF P w K mg base N qual (defScope st) f cdv A outer s H E (a, oe)) [] (L2.start N vs) H s1 := inv_startH S hpin e0 hl r x
  refine wpAny_mono (ht.run [] s1 (L2.start N vs) H _ I hq) (fun fl s' hs => ?_) fun e s' hs => hs
  have fin : ∀ {σ' : VSt} {H' : Hp} {v : V} {u : Value}, Inv (cxH CXF P w K mg base N qual (defScope st) f cdv A outer s H E (a, oe)) [] σ' H' s' → RelV v u → Q v H' → CE outer P w H s Q u s' :=
    fun {σ' H' v u} J rv q => ⟨v, H', J.os, J.bare, J.base, J.hok, rv, q⟩
  cases fl with
  | ret u =>
    obtain ⟨v, σ', H', J, rv, q⟩ := hs
    exact fin J rv q
  | next =>
    obtain ⟨σ', H', J, q⟩ := hs
    exact fin (v := V.non) (u := Value.none) J rfl q
  | brk =>
    obtain ⟨_, _, _, q⟩ := hs
    exact q.elim
  | cont =>
    obtain ⟨_, _, _, q⟩ := hs
    exact q.elim
theorem run_fnE {X : Cx} {k : Nat} {f a : Addr} {oe : Obj} {fd : FuncData} {ps : List Str} {sp : Sp} {E : XK} {pins : List (Addr × Obj)} {σ : VSt} {H : Hp} {s : Shared} {Q : VK} {us : List Value} {vs : List V} (F : FnE X.prog X.w X.K X.mg X.base k f fd ps a oe sp) (hr : RoomH k X.A) (hot : Hot1 X.A (a, oe)) (hp : (a, oe) ∈ X.pn) (hb : Binds X.K fd ps [])
    (I : Inv X pins σ H s) (r : Vals vs us) (h : sp vs H Q E) : wpAny (model X.prog X.w) X.A (call (.ref f) us) (EP X pins σ Q) X.xe s := by
  have hl : us.length = ps.length := by rw [← r.length]; exact F.len _ _ _ _ h
  have b := hb s us I.kIn (by rw [List.append_nil]; exact hl)
  rw [List.append_nil] at b
  have P1 := I.pin (a, oe) (List.mem_append_left _ hp)
  have hpin : PinOk X.stack H s (a, oe) := ⟨P1.1, P1.2.1, fun hm => (List.mem_cons.mp (I.stkSub a hm)).elim P1.2.2.1 P1.2.2.2.1, P1.2.2.2.2⟩
  refine wpAny_call (codeAny_mono (F.run X.A X.stack s H ⟨us, []⟩ us vs Q E hr hot hpin I.env0 b r h) fun r s' hq => ?_)
  cases r with
  | error e => exact False.elim hq
  | ok fl =>
    cases fl with
    | ret u => exact I.after hq
    | next => exact False.elim hq
    | brk => exact False.elim hq
    | cont => exact False.elim hq
theorem pe_callE {X : Cx} {k : Nat} {f a : Addr} {oe : Obj} {fd : FuncData} {ps : List Str} {sp : Sp} {E : XK} {x : Str} {q pos : Pos} {e : Expr} {es : List Expr} {t : TA} (F : FnE X.prog X.w X.K X.mg X.base k f fd ps a oe sp) (hr : RoomH k X.A) (hot : Hot1 X.A (a, oe)) (hp : (a, oe) ∈ X.pn) (hg : Gl X x) (hm : X.mg x = some (.ref f)) (hk : PySem.W.keepIn X.K (.ref f) = true) (hb : Binds X.K fd ps [])
    (ha : PA X (e :: es) t) (hdb : (x == ("__debug__" : Str)) = false := by decide) (he : starEach (e :: es) X.env = (false, eval e X.env) :: starEach es X.env := by rfl) (hpl : (backTo pos (starEach es X.env)).any (·.1) = false := by rfl) :
    PE X (.Call (.Name x q) (e :: es) [] pos) (tCallS sp (fun _ => E) t) := by
  refine ⟨fun pins s σ H Q I h => ?_⟩
  refine wpAny_Call_Name_kw (ld_glob I hg hm ?_ hdb)
  refine PySem.W.callWith_K (h₀ := X.base) I.ok.mod.kin hk (thn (ha.run pos pins s σ H _ I h) fun us s1 ⟨vs, H1, I1, r, q⟩ => ⟨I1.kIn, ?_⟩) he hpl
  exact run_fnE F hr hot hp hb I1 r q
end VL
set_option Elab.async false
set_option linter.all false
set_option maxRecDepth 100000
set_option maxHeartbeats 4000000
set_option autoImplicit false
/-! VH5: the def that names the caught error: " ".join([word for word, is_it in .. if is_it]), e.at. -/
namespace VL
open PySem PySem.Spec PySem.W PyProof.Rows L2 L2H R
/-- what it promises: nm the text by the class -/
def nmSp (T : Tb) (nm : Nat → List Nat) (a : Addr) (d : Option Addr) (c : Nat) : Sp := fun vs H Q _ => ∃ (dd : Addr) (v : V) (dv : PV), d = some dd ∧ vs = [.ref a] ∧ H dd = some (.xd [("at", v)]) ∧ Rep T H v dv ∧ flat1 dv = true ∧ ∀ w H', Ex H H' → (∀ L, Trk L H → Rep T (hid H' L) w (.tup [.str (nm c), dv])) → Q w H'
structure NmF (T : Tb) (P : Program) (w : World) (mg : Str → Option Value) (base : Heap) (k : Nat) (x : Str) (nm : Nat → List Nat) : Prop where
  ex : ∃ f fd p, (∀ (a : Addr) (oe : Obj) (C : Addr) (d : Option Addr) (c : Nat), T.ca[c]? = some C → L2N.Zn (.ref C) d oe → (∃ vs, oe.data = .fields vs) → FnE P w T.K mg base k f fd [p] a oe (nmSp T nm a d c)) ∧ mg x = some (.ref f) ∧ keepIn T.K (.ref f) = true ∧ Binds T.K fd [p] []
theorem rep_fn0 {T : Tb} {H : Hp} {v : V} {a : Addr} (h : Rep ⟨T.K, [a], T.ca⟩ H v (.fn 0)) : v = .ref a := by
  cases h with
  | @fn j b q =>
    have z : ([a] : List Addr)[0]? = some b := q
    cases z
    rfl
/-- the caught error, as the handler's def sees it -/
def isFn (b : Bool) : PV → R PV
  | .fn 0 => .ok (.bool b)
  | _ => .bad
structure Yok (T : Tb) (k : Nat) (X : Cx) (a : Addr) (C : Addr) (c : Nat) : Prop where
  K : X.K = T.K
  nd : X.N.Nodup
  hot : HotC X
  rm : RoomH k X.A
  ca : T.ca[c]? = some C
  isY : CallR X (.builtin "isinstance") (rIsY X.K C a)
  ic : IcC X.K C
theorem Yok.u1 {T : Tb} {k : Nat} {X : Cx} {a C : Addr} {c : Nat} (G : Yok T k X a C c) : X.A.units + 1 < cLine := by have := G.rm.un; omega
theorem Yok.u64 {T : Tb} {k : Nat} {X : Cx} {a C : Addr} {c : Nat} (G : Yok T k X a C c) : X.A.units + 64 < cLine := by have := G.rm.un; omega
section
variable {T : Tb} {E : XK} {O : List Nat} {X : Cx} {k c : Nat} {a C : Addr}
/-- isinstance(e, D) -/
theorem ve_isY (Z : Yok T k X a C c) {y n : Str} {s : Nat → Bool} {p p1 p2 pos : Pos} (F : FitX T X.mg y s) (i : Nat) (hm : X.mg "isinstance" = none) (hO : O.contains i = false := by rfl) (hN : X.N[i]? = some n := by rfl) (hv : Vis X.env.scope n := by first | exact Or.inl rfl | exact Or.inr (Or.inl rfl) | exact Or.inr (Or.inr rfl)) (hd : (n == ("__debug__" : Str)) = false := by decide) (hcd : (n == ("__classdict__" : Str)) = false := by decide)
    (hg : Gl X "isinstance" := by rfl) (hgy : Gl X y := by rfl) (hdy : (y == ("__debug__" : Str)) = false := by decide)
    (he : starEach [.Name n p1, .Name y p2] X.env = (false, eval (.Name n p1) X.env) :: starEach [.Name y p2] X.env := by rfl) (he2 : starEach [.Name y p2] X.env = (false, eval (.Name y p2) X.env) :: starEach [] X.env := by rfl) (hpl : (backTo pos (starEach [.Name y p2] X.env)).any (·.1) = false := by rfl) :
    VE ⟨T.K, [a], T.ca⟩ E O X (.Call (.Name "isinstance" p) [.Name n p1, .Name y p2] [] pos) (fun env => do isFn (s c) (← getE env i)) := by
  obtain ⟨D, hD, hs⟩ := F.ex
  obtain ⟨ta, pa, qa⟩ := ve_var (T := ⟨T.K, [a], T.ca⟩) (E := E) (O := O) (X := X) (pos := p1) i hO hN hv hd hcd
  refine ⟨_, pe_callB Z.isY hg hm rfl (pa_cons pa (pa_cons (pe_glob (v := .ref D) hgy hD rfl hdy) pa_nil he2) he) (by decide) (by decide) he hpl, fun L ow H σ env Q ho re h => ?_⟩
  simp only [res_bind] at h
  refine qa L ow H σ env _ ho re (h.imp (fun d kx v H1 e1 r => ?_) fun _ _ x => x)
  have z : d = .fn 0 := by
    cases d with
    | fn j =>
      cases j with
      | zero => rfl
      | succ j => exact kx.elim
    | _ => exact kx.elim
  subst z
  have hv2 := rep_fn0 r
  subst hv2
  have hk : kitOne X.K (.ref C) (.ref D) = some (s c) := kit_of Z.ic (by rw [Z.K]; exact hs c C Z.ca)
  exact ⟨D, s c, rfl, hk, kx _ H1 e1 (.bl _)⟩
end
section
variable {T : Tb} {P : Program} {w : World} {mg : Str → Option Value} {base : Heap} {k : Nat} {x qual n : Str} {st : Stmt} {f : Addr} {fd : FuncData} {N : List Str} {nm : Nat → List Nat}
/-- the walk's end: return (J, e.at) -/
theorem nm_ret {X : Cx} {J : Expr} {fJ : En → R PV} {p1 p2 p3 : Pos} {kk : Nat} {rp : Pos} {a C : Addr} {oe : Obj} {d : Option Addr} (hA : XfC X.K C) (hno : findIn X.K (.ref C) "at" = some none) (hz : L2N.Zn (.ref C) d oe) (hf : ∃ vs, oe.data = .fields vs) (hp : (a, oe) ∈ X.pn)
    (hJ : VE ⟨T.K, [a], T.ca⟩ EF [] X J fJ) (hN : X.N[0]? = some n) (hv : Vis X.env.scope n) (hd : (n == ("__debug__" : Str)) = false) (hcd : (n == ("__classdict__" : Str)) = false)
    (hb : attributeBase (.Name n p1) "at" X.env (eval (.Name n p1) X.env) = eval (.Name n p1) X.env)
    (hs : starEach [J, .Attribute (.Name n p1) "at" p2] X.env = (false, eval J X.env) :: starEach [.Attribute (.Name n p1) "at" p2] X.env) (hs2 : starEach [.Attribute (.Name n p1) "at" p2] X.env = (false, eval (.Attribute (.Name n p1) "at" p2) X.env) :: starEach [] X.env) :
    ∃ t, PS X (.Return (some (.Tuple [J, .Attribute (.Name n p1) "at" p2] kk p3)) rp) t ∧ ∀ (L : List Addr) (ow : List (Nat × Addr)) (H : Hp) (σ : VSt) (env : En) (x : List Nat) (dd : Addr) (v : V) (dv : PV) (D : Ends), ow.map (·.1) = [] → EnvR ⟨T.K, [a], T.ca⟩ L ow H σ env → fJ env = .ok (.str x) → env[0]? = some (some (.fn 0)) →
      d = some dd → H dd = some (.xd [("at", v)]) → Rep T H v dv → flat1 dv = true → (∀ w H', Ex H H' → (∀ L', Trk L' H → Rep T (hid H' L') w (.tup [.str x, dv])) → D.rt w H') → t D σ H := by
  obtain ⟨tJ, pJ, qJ⟩ := hJ
  refine ⟨_, ps_ret (pe_tup (pa_cons pJ (pa_cons (pe_xfY hA hno hz.zc hf hp (pe_var (i := 0) hN hv hd hcd) hb) pa_nil hs2) hs)), fun L ow H σ env x dd v dv D ho re hj h0 hdd hx rv hfl h => ?_⟩
  refine qJ L ow H σ env _ ho re ?_
  rw [hj]
  show ∀ v1 H1, Ex H H1 → Rep _ (hid H1 L) v1 (.str x) → _
  intro v1 H1 e1 r1
  obtain ⟨v0, s0, r0⟩ := re.fr 0 (.fn 0) h0 (by rw [ho]; exact fun z => nomatch z)
  have hv0 := rep_fn0 r0
  subst hv0
  refine ⟨.ref a, s0, rfl, rfl, dd, _, v, hdd, e1 _ _ hx, rfl, ?_⟩
  refine ⟨by rw [sizeLine_eq]; show 2 ≤ 16777216; decide, fun q hq => h _ _ (e1.trans (ex_upd hq)) fun L' tr => ?_⟩
  have rs : Rep T (hid H1 L') v1 (.str x) := by
    cases r1 with
    | str z hz1 hz2 => exact .str z hz1 hz2
  exact rep_newT (tr.mono e1) hq (.cons rs (.cons (rv.flat1 hfl) .nil)) (by show 2 ≤ LN; decide)
/-- one statement ahead -/
theorem nm_of1 {s1 : Stmt} {J : Expr} {f1 : Nat → En → R Fl} {fJ : Nat → En → R PV} {p1 p2 p3 : Pos} {kk : Nat} {rp : Pos} (hA : ExAll T) (hI : IcAll T) (Fu : Fun T.K x qual st f fd) (S : FnScope N [n] (defScope st)) (hm : mg x = some (.ref f)) (hk : keepIn T.K (.ref f) = true) (hb : Binds T.K fd [n] [])
    (hbody : defBody st = [s1, .Return (some (.Tuple [J, .Attribute (.Name n p1) "at" p2] kk p3)) rp]) (hN : N[0]? = some n)
    (hv : ∀ (a C : Addr) (oe : Obj) (c : Nat) (cdv : Value) (A : Around) (outer : List Env) (s : Shared) (H : Hp) (E : XK), Yok T k (cxH CXF P w T.K mg base N qual (defScope st) f cdv A outer s H E (a, oe)) a C c →
      VS1 (M := mdR ⟨T.K, [a], T.ca⟩) ⟨T.K, [a], T.ca⟩ EF [] [] (cxH CXF P w T.K mg base N qual (defScope st) f cdv A outer s H E (a, oe)) s1 (f1 c) ∧ VE ⟨T.K, [a], T.ca⟩ EF [] (cxH CXF P w T.K mg base N qual (defScope st) f cdv A outer s H E (a, oe)) J (fJ c) ∧ starEach [J, .Attribute (.Name n p1) "at" p2] (cxH CXF P w T.K mg base N qual (defScope st) f cdv A outer s H E (a, oe)).env = (false, eval J (cxH CXF P w T.K mg base N qual (defScope st) f cdv A outer s H E (a, oe)).env) :: starEach [.Attribute (.Name n p1) "at" p2] (cxH CXF P w T.K mg base N qual (defScope st) f cdv A outer s H E (a, oe)).env)
    (hp : ∀ c, ∃ env1, f1 c (env0 N.length [.fn 0]) = .ok (.nx env1) ∧ fJ c env1 = .ok (.str (nm c)) ∧ env1[0]? = some (some (.fn 0)))
    (hl : N.length ≥ 1) (hvis : (defScope st).names.lookup n = some .local) (hd : (n == ("__debug__" : Str)) = false := by decide) (hcd : (n == ("__classdict__" : Str)) = false := by decide) :
    NmF T P w mg base (k + 1) x nm := by
  refine ⟨f, fd, n, fun a oe C d c hc hz hf => fnE_of Fu S (fun vs H Q E h => ?_) fun cdv A outer s H vs Q E hot hr hok hsp => ?_, hm, hk, hb⟩
  · obtain ⟨dd, v, dv, _, rfl, _⟩ := h
    rfl
  obtain ⟨dd, v, dv, hdd, rfl, hx, rv, hfl, hq⟩ := hsp
  obtain ⟨b1, b2⟩ := hA C (List.mem_of_getElem? hc)
  have ic := hI C (List.mem_of_getElem? hc)
  have hpn : (a, oe) ∈ (cxH CXF P w T.K mg base N qual (defScope st) f cdv A outer s H E (a, oe)).pn := List.mem_singleton.mpr rfl
  have hotY : HotC (cxH CXF P w T.K mg base N qual (defScope st) f cdv A outer s H E (a, oe)) := ⟨(a, oe), ⟨hot.1, hot.2⟩, hpn⟩
  have Z : Yok T k (cxH CXF P w T.K mg base N qual (defScope st) f cdv A outer s H E (a, oe)) a C c := by
    refine ⟨rfl, S.nd, hotY, hr, hc, call_isY b1 ic hz.zc hf hpn fun dd' h' pins s' σ' H' I => ?_, ic⟩
    rw [hdd] at h'
    cases h'
    obtain ⟨mA, hns, _⟩ : ObjOk P w H s.heap dd (.xd [("at", v)]) := hok dd _ hx
    obtain ⟨od, ho, _⟩ := lookIn_ns hns
    exact I.base.there dd od ho (fun z => nomatch (show dd ∈ ([] : List Addr) from z))
  obtain ⟨⟨t1, pt1, qt1⟩, hJ, hs⟩ := hv a C oe c cdv A outer s H E Z
  obtain ⟨t2, pt2, qt2⟩ := nm_ret (T := T) (n := n) (p1 := p1) (p2 := p2) (p3 := p3) (kk := kk) (rp := rp) b1 b2 hz hf hpn hJ hN (.inl hvis) hd hcd rfl hs rfl
  refine ⟨_, by rw [hbody]; exact pss_cons pt1 (pss_one pt2), ?_⟩
  obtain ⟨env1, e1, e2, e3⟩ := hp c
  have re : EnvR ⟨T.K, [a], T.ca⟩ [] [] H (L2.start N [.ref a]) (env0 N.length [.fn 0]) := by
    refine ⟨?_, fun i d h _ => ?_, fun i a h => (nomatch h), fun _ h => (nomatch h), .nil, .nil⟩
    · unfold env0 L2.start
      simp only [List.length_append, List.length_map, List.length_replicate]
      rfl
    · obtain ⟨v, h1, h2⟩ := (RepA.cons (T := ⟨T.K, [a], T.ca⟩) (H := hid H []) (.fn (j := 0) (a := a) rfl) .nil).get' (env0_get h)
      exact ⟨v, start_get h1, h2⟩
  have hn1 : N.length = (env0 N.length [.fn 0] : En).length := by
    unfold env0
    rw [List.length_append, List.length_map, List.length_replicate]
    show N.length = 1 + (N.length - 1)
    omega
  refine qt1 (hid H []) [] H [] [] H (L2.start N [.ref a]) (env0 N.length [.fn 0]) _ ⟨rfl, fun _ h => (nomatch h), fun _ h => h, Evl.Ex.refl H, fun a h => .inl h, fun _ h => (nomatch h), re, hn1.symm, Evl.Ex.refl _⟩ ?_
  rw [e1]
  intro σ' H' L' ow' S'
  refine qt2 L' ow' H' σ' env1 (nm c) dd v dv _ S'.ho S'.re e2 e3 hdd (S'.ex _ _ hx) (rv.mono S'.ex) hfl fun w H2 ex r => ?_
  exact hq w H2 (S'.ex.trans ex) fun L tr => r L (tr.mono S'.ex)
/-- two statements ahead -/
theorem nm_of2 {s1 s2 : Stmt} {J : Expr} {f1 f2 : Nat → En → R Fl} {fJ : Nat → En → R PV} {p1 p2 p3 : Pos} {kk : Nat} {rp : Pos} (hA : ExAll T) (hI : IcAll T) (Fu : Fun T.K x qual st f fd) (S : FnScope N [n] (defScope st)) (hm : mg x = some (.ref f)) (hk : keepIn T.K (.ref f) = true) (hb : Binds T.K fd [n] [])
    (hbody : defBody st = [s1, s2, .Return (some (.Tuple [J, .Attribute (.Name n p1) "at" p2] kk p3)) rp]) (hN : N[0]? = some n)
    (hv : ∀ (a C : Addr) (oe : Obj) (c : Nat) (cdv : Value) (A : Around) (outer : List Env) (s : Shared) (H : Hp) (E : XK), Yok T k (cxH CXF P w T.K mg base N qual (defScope st) f cdv A outer s H E (a, oe)) a C c →
      VS1 (M := mdR ⟨T.K, [a], T.ca⟩) ⟨T.K, [a], T.ca⟩ EF [] [] (cxH CXF P w T.K mg base N qual (defScope st) f cdv A outer s H E (a, oe)) s1 (f1 c) ∧ VS1 (M := mdR ⟨T.K, [a], T.ca⟩) ⟨T.K, [a], T.ca⟩ EF [] [] (cxH CXF P w T.K mg base N qual (defScope st) f cdv A outer s H E (a, oe)) s2 (f2 c) ∧ VE ⟨T.K, [a], T.ca⟩ EF [] (cxH CXF P w T.K mg base N qual (defScope st) f cdv A outer s H E (a, oe)) J (fJ c) ∧ starEach [J, .Attribute (.Name n p1) "at" p2] (cxH CXF P w T.K mg base N qual (defScope st) f cdv A outer s H E (a, oe)).env = (false, eval J (cxH CXF P w T.K mg base N qual (defScope st) f cdv A outer s H E (a, oe)).env) :: starEach [.Attribute (.Name n p1) "at" p2] (cxH CXF P w T.K mg base N qual (defScope st) f cdv A outer s H E (a, oe)).env)
    (hp : ∀ c, ∃ env1 env2, f1 c (env0 N.length [.fn 0]) = .ok (.nx env1) ∧ f2 c env1 = .ok (.nx env2) ∧ fJ c env2 = .ok (.str (nm c)) ∧ env2[0]? = some (some (.fn 0)))
    (hl : N.length ≥ 1) (hvis : (defScope st).names.lookup n = some .local) (hd : (n == ("__debug__" : Str)) = false := by decide) (hcd : (n == ("__classdict__" : Str)) = false := by decide) :
    NmF T P w mg base (k + 1) x nm := by
  refine ⟨f, fd, n, fun a oe C d c hc hz hf => fnE_of Fu S (fun vs H Q E h => ?_) fun cdv A outer s H vs Q E hot hr hok hsp => ?_, hm, hk, hb⟩
  · obtain ⟨dd, v, dv, _, rfl, _⟩ := h
    rfl
  obtain ⟨dd, v, dv, hdd, rfl, hx, rv, hfl, hq⟩ := hsp
  obtain ⟨b1, b2⟩ := hA C (List.mem_of_getElem? hc)
  have ic := hI C (List.mem_of_getElem? hc)
  have hpn : (a, oe) ∈ (cxH CXF P w T.K mg base N qual (defScope st) f cdv A outer s H E (a, oe)).pn := List.mem_singleton.mpr rfl
  have hotY : HotC (cxH CXF P w T.K mg base N qual (defScope st) f cdv A outer s H E (a, oe)) := ⟨(a, oe), ⟨hot.1, hot.2⟩, hpn⟩
  have Z : Yok T k (cxH CXF P w T.K mg base N qual (defScope st) f cdv A outer s H E (a, oe)) a C c := by
    refine ⟨rfl, S.nd, hotY, hr, hc, call_isY b1 ic hz.zc hf hpn fun dd' h' pins s' σ' H' I => ?_, ic⟩
    rw [hdd] at h'
    cases h'
    obtain ⟨mA, hns, _⟩ : ObjOk P w H s.heap dd (.xd [("at", v)]) := hok dd _ hx
    obtain ⟨od, ho, _⟩ := lookIn_ns hns
    exact I.base.there dd od ho (fun z => nomatch (show dd ∈ ([] : List Addr) from z))
  obtain ⟨⟨t1, pt1, qt1⟩, ⟨t1', pt1', qt1'⟩, hJ, hs⟩ := hv a C oe c cdv A outer s H E Z
  obtain ⟨t2, pt2, qt2⟩ := nm_ret (T := T) (n := n) (p1 := p1) (p2 := p2) (p3 := p3) (kk := kk) (rp := rp) b1 b2 hz hf hpn hJ hN (.inl hvis) hd hcd rfl hs rfl
  refine ⟨_, by rw [hbody]; exact pss_cons pt1 (pss_cons pt1' (pss_one pt2)), ?_⟩
  obtain ⟨env1, env2, e1, e1', e2, e3⟩ := hp c
  have re : EnvR ⟨T.K, [a], T.ca⟩ [] [] H (L2.start N [.ref a]) (env0 N.length [.fn 0]) := by
    refine ⟨?_, fun i d h _ => ?_, fun i a h => (nomatch h), fun _ h => (nomatch h), .nil, .nil⟩
    · unfold env0 L2.start
      simp only [List.length_append, List.length_map, List.length_replicate]
      rfl
    · obtain ⟨v, h1, h2⟩ := (RepA.cons (T := ⟨T.K, [a], T.ca⟩) (H := hid H []) (.fn (j := 0) (a := a) rfl) .nil).get' (env0_get h)
      exact ⟨v, start_get h1, h2⟩
  have hn1 : N.length = (env0 N.length [.fn 0] : En).length := by
    unfold env0
    rw [List.length_append, List.length_map, List.length_replicate]
    show N.length = 1 + (N.length - 1)
    omega
  refine qt1 (hid H []) [] H [] [] H (L2.start N [.ref a]) (env0 N.length [.fn 0]) _ ⟨rfl, fun _ h => (nomatch h), fun _ h => h, Evl.Ex.refl H, fun a h => .inl h, fun _ h => (nomatch h), re, hn1.symm, Evl.Ex.refl _⟩ ?_
  rw [e1]
  intro σ1 H1 L1 ow1 S1
  refine qt1' (hid H []) [] H L1 ow1 H1 σ1 env1 _ S1 ?_
  rw [e1']
  intro σ' H' L' ow' S'
  refine qt2 L' ow' H' σ' env2 (nm c) dd v dv _ S'.ho S'.re e2 e3 hdd (S'.ex _ _ hx) (rv.mono S'.ex) hfl fun w H2 ex r => ?_
  exact hq w H2 (S'.ex.trans ex) fun L tr => r L (tr.mono S'.ex)
end
/-- the handler: return x(e) -/
theorem he_call {T : Tb} {X : Cx} {k i : Nat} {x n : Str} {nm : Nat → List Nat} {q p pos : Pos} (hK : X.K = T.K) (C : NmF T X.prog X.w X.mg X.base k x nm) (hr : Room k X.A) (hN : X.N[i]? = some n := by rfl) (hv : Vis X.env.scope n := by first | exact Or.inl rfl | exact Or.inr (Or.inl rfl) | exact Or.inr (Or.inr rfl)) (hd : (n == ("__debug__" : Str)) = false := by decide) (hcd : (n == ("__classdict__" : Str)) = false := by decide)
    (hg : Gl X x := by rfl) (hdb : (x == ("__debug__" : Str)) = false := by decide) (he : starEach [.Name n p] X.env = (false, eval (.Name n p) X.env) :: starEach [] X.env := by rfl) (hpl : (backTo pos (starEach [] X.env)).any (·.1) = false := by rfl) :
    HE T X i (.Call (.Name x q) [.Name n p] [] pos) (fun c d => .tup [.str (nm c), d]) := by
  obtain ⟨f, fd, pp, hF, hm, hk, hb⟩ := C.ex
  refine ⟨fun a d C c => tCallS (nmSp T nm a d c) (fun _ => EF) (tCons (tVar i) tNil), fun a oe d pn C c hc hz hf hC hno => ?_, fun a C dd c H σ v dv Q hc hxd rv hfl hσ hq => ?_⟩
  · have F := hF a oe C d c hc hz hf
    rw [← hK] at F hk hb
    obtain ⟨vs, hd2⟩ := hf
    exact pe_callE (X := X.suite a ((a, oe) :: pn)) F (show RoomH k (X.A.mark (some (.ref a))) from ⟨hr.dp, hr.un⟩) ⟨rfl, vs, hd2, hz.2.2 vs hd2⟩ List.mem_cons_self hg hm hk hb (pa_cons (pe_var (X := X.suite a ((a, oe) :: pn)) hN hv hd hcd) pa_nil he) hdb he hpl
  · exact ⟨_, hσ, dd, v, dv, rfl, rfl, hxd, rv, hfl, hq⟩
end VL
namespace VL
open PySem R
abbrev cIs (b : Bool) (i : Nat) : En → R PV := fun env => do isFn b (← getE env i)
abbrev iL (f : En → R PV) : En → R (List PV) := fun env => do iterL (← f env)
end VL
namespace VL
open PySem PySem.Spec PySem.W L2 L2H
theorem Yok.KT {T : Tb} {k : Nat} {X : Cx} {a C : Addr} {c : Nat} (Z : Yok T k X a C c) : X.K = (⟨T.K, [a], T.ca⟩ : Tb).K := Z.K
end VL
set_option Elab.async false
set_option linter.all false
set_option maxRecDepth 100000
set_option maxHeartbeats 4000000
set_option autoImplicit false
/-! VLU: a, b, .. = a list. -/
namespace VL
open PySem PySem.Spec L2 R
def unlP (n : Nat) : PV → R (List PV)
  | .list ds => if ds.length = n then .ok ds else .bad
  | _ => .bad
abbrev gU (n : Nat) (gg : List PV → En → R En) : PV → En → R En := fun d env => do gg (← unlP n d) env
theorem vg_unl {T : Tb} {O O1 : List Nat} {X : Cx} {es : List Expr} {pos : Pos} {k : Nat} {n : Nat} {ts : List Nat} {gg : List PV → En → R En} (hc : X.calm = true) (hr : VGs T O O1 X es ts gg) (hn : (assignEach es X.env).length = n := by rfl) (hst : (assignEach es X.env).findIdx? (·.1) = none := by rfl) :
    VG T O O1 X (.Tuple es k pos) ts (gU n gg) := by
  obtain ⟨t, p, q⟩ := hr
  refine ⟨_, pg_lst hc p hn hst, fun L ow H σ env v d Q x' ho re r h => ?_⟩
  simp only [res_bind] at h
  cases d with
  | list ds =>
    dsimp only [unlP] at h
    by_cases hl : ds.length = n
    · rw [if_pos hl] at h
      cases r with
      | @lst a xs _ ha ra za =>
        exact ⟨a, xs, rfl, SqL.of (hid_le _ _ ha), by rw [ra.length]; exact hl, q L ow H σ env xs ds Q x' ho re ra h⟩
    · rw [if_neg hl] at h
      exact h.elim
  | _ => exact h.elim
theorem vf_if {T : Tb} {E : XK} {O : List Nat} {X : Cx} {c a b : Expr} {pos : Pos} {ft : En → R Bool} {f g : En → R PV} (hc : VT T E O X c ft) (ha : VF T E O X a f) (hb : VF T E O X b g) : VF T E O X (.IfExp c a b pos) (fun env => do if (← ft env) = true then f env else g env) := by
  obtain ⟨tc, pc, qc⟩ := hc
  obtain ⟨ta, pa, qa⟩ := ha
  obtain ⟨tb, pb, qb⟩ := hb
  refine ⟨_, pe_ifExp pc pa pb, fun L ow H σ env Q ho re hq => ?_⟩
  simp only [res_bind] at hq
  refine qc L ow H σ env _ ho re (hq.imp (fun d k H1 e1 => ?_) fun _ _ x => x)
  cases d with
  | true =>
    rw [if_pos rfl]
    rw [if_pos rfl] at k
    exact qa L ow H1 σ env _ ho (re.mono e1) (k.imp (fun d' k' p H2 e2 hp r2 => k' p H2 (e1.trans e2) (Evl.fresh_back e1 hp) r2) fun _ _ x => xw_mono e1 x)
  | false =>
    rw [if_neg Bool.false_ne_true]
    rw [if_neg Bool.false_ne_true] at k
    exact qb L ow H1 σ env _ ho (re.mono e1) (k.imp (fun d' k' p H2 e2 hp r2 => k' p H2 (e1.trans e2) (Evl.fresh_back e1 hp) r2) fun _ _ x => xw_mono e1 x)
end VL
set_option Elab.async false
set_option linter.all false
set_option maxRecDepth 100000
set_option maxHeartbeats 4000000
set_option autoImplicit false
/-! VSX: sorted of a text. -/
namespace VL
open PySem PySem.Spec PyProof.Rows L2 R
def sortedXP : PV → R PV
  | .str x => .ok (.list ((sortN (x.map fun c => [c])).map .str))
  | _ => .bad
/-- the signs of a text, as texts -/
def sgs (x : Str) : List Str := x.cps.toList.map fun c => (⟨#[c]⟩ : Str)
theorem strs_sgs {x : Str} : ∀ {vs : List Value} {l : List Nat}, vs.length = l.length → (∀ (i : Nat) (v : Value), vs[i]? = some v → ∃ (c : Nat) (t : Tok), l[i]? = some c ∧ v = Value.str ⟨#[c]⟩ t) → StrsAre vs (l.map fun c => (⟨#[c]⟩ : Str))
  | [], [], _, _ => .nil
  | [], _ :: _, h, _ => by cases h
  | _ :: _, [], h, _ => by cases h
  | v :: vs, c :: l, h, q => by
    obtain ⟨c', t, e1, e2⟩ := q 0 v rfl
    cases e1
    rw [e2]
    exact .cons _ t (strs_sgs (x := x) (by simpa using h) fun i v h => q (i + 1) v (by simpa using h))
section
variable {T : Tb} {X : Cx}
theorem call_sortedX (hcalm : X.calm = true) : CallR X (.builtin "sorted") (fun xs H Q => ∃ x : Str, xs = [.str x] ∧ x.cps.size ≤ sizeLine ∧ ∀ ys p, ys.Perm (sgs x) → sortedS ys = true → H p = none → Q (.ref p) (upd H p (.lst (ys.map V.str)))) := by
  intro pins s σ H xs us Q I r q
  obtain ⟨x, rfl, hz, q⟩ := q
  obtain ⟨u, rfl, rx⟩ := vals1 r
  obtain ⟨t, rfl⟩ := rx
  refine Calls.call_function_entry kind_sorted plain_sorted entry_sorted (args_sorted1 _) ?_
  unfold Builtin.«sorted»
  refine wpAny_bind (m := checkCount "sorted" 1 1 _) (wpAny_pure ?_)
  refine wpAny_bind (wpAny_collect_str (A := X.A.in1) (I.ok.hd hcalm) x t (fun s1 acc hk hg hdr ho hacc => ?_) hz)
  obtain ⟨hsz, hit⟩ := hacc
  have hal : acc.toList.length = x.cps.toList.length := by rw [Array.length_toList, Array.length_toList, hsz]
  have hS : StrsAre acc.toList (sgs x) := strs_sgs (x := x) hal fun i v hv => by
    rw [Array.getElem?_toList] at hv
    obtain ⟨c, u, e1, e2⟩ := hit i v hv
    exact ⟨c, u, by rw [Array.getElem?_toList]; exact e1, e2⟩
  have I1 : Inv X pins σ H s1 := by
    obtain ⟨h1, g1, d1, t1, o1⟩ := s1
    dsimp only at hk hg hdr ho
    subst hg hdr ho
    exact I.kept (t' := t1) hk
  have hle : acc.toList.length ≤ sizeLine := by rw [hal, Array.length_toList]; exact hz
  refine wpAny_bind (wpAny_newList ?_ hle)
  have hoL : (s1.heap.push (seqObj "list" acc.toList.toArray 0)).get? s1.heap.objs.size = some (seqObj "list" acc.toList.toArray 0) := Heap.get?_push_size _ rfl
  refine wpAny_bind (wpAny_holding (wpAny_call_entry slot_list_sort ⟨_, hoL, rfl⟩ entry_list_sort (list_sort_treeKAny strKind_oneLt hoL hS.keysOf (fun v₁ v₂ rest e => keyKind_strs (by rw [← e]; exact hS)) hle fun st' hp hs => ⟨_, rfl, ?_⟩) (args_list_sort _)))
  obtain ⟨ys, g1, g2, g3⟩ := sorted_out_str hS hp hs
  obtain ⟨e', he'⟩ := sortedHeap_at (vs := acc.toList) (out := (arrOf st').map (·.2)) hoL
  have hlen : (ys.map V.str).length ≤ sizeLine := by
    rw [List.length_map, g2.length_eq]
    unfold sgs
    rw [List.length_map, Array.length_toList]
    exact hz
  refine wpAny_pure ⟨_, rfl, .ref s1.heap.objs.size, upd H s1.heap.objs.size (.lst (ys.map V.str)), I1.laid (t' := s1.toks) (fun b u e => ?_) (Nat.le_refl _)
    (show ObjOk X.prog X.w _ _ _ (.lst (ys.map V.str)) from ⟨hlen, ((arrOf st').map (·.2)).toList, e', vals_of_strs g1, by rw [Array.toArray_toList]; exact he'⟩), rfl, q ys _ g2 g3 (I1.hok.fresh (Nat.le_refl _))⟩
  have hb : b < s1.heap.objs.size := Heap.lt_size e
  rw [sortedHeap_old (Nat.ne_of_lt hb) (by rw [size_push']; exact Nat.lt_succ_of_lt hb)]
  exact Heap.get?_push_of_some _ e
theorem c1_sortedX (hcalm : X.calm = true) : C1F T X (.builtin "sorted") sortedXP := by
  refine ⟨_, call_sortedX hcalm, fun L H x a Q x' t ra q => ?_⟩
  unfold sortedXP at q
  split at q
  · obtain ⟨z, rfl, e1, l1, s1⟩ := ra.str
    refine ⟨z, rfl, l1, fun ys p h2 h3 h4 => q _ _ (ex_upd h4) h4 ?_⟩
    subst e1
    refine sorted_rep (l := z.cps.toList.map fun c => [c]) (fun y hy => ?_) (by rw [List.length_map, Array.length_toList]; exact snL l1) h3 ?_ h4
    · obtain ⟨c, hc, rfl⟩ := List.mem_map.mp hy
      exact ⟨by show 1 ≤ LN; decide, by
        rw [sok_mem] at s1 ⊢
        intro d hd
        rw [List.mem_singleton.mp hd]
        exact s1 c hc⟩
    · have e : (sgs z).map VLS.cp = z.cps.toList.map fun c => [c] := by
        unfold sgs
        rw [List.map_map]
        rfl
      rw [← e]
      exact h2.map _
  · exact q.elim
end
end VL
set_option Elab.async false
set_option linter.all false
set_option maxRecDepth 100000
set_option maxHeartbeats 4000000
set_option autoImplicit false
/-! VRN: repr of a tuple that holds dicts. -/
namespace VL
open PySem PySem.Spec L2 R
/-- an item: plain data, or a flat dict -/
def dOkI : PV → Bool
  | .dict false ks vs => rOkD ks vs
  | v => rOk0 v
def pdI : PV → PyData
  | .dict false ks vs => .dict (pdKv ks vs)
  | v => pdD v
def rOkT (xs : List PV) : Bool := xs.all dOkI && (decide (PyData.weightAll (xs.map pdI) ≤ 1048576) && decide (PyData.depthAll (xs.map pdI) ≤ 60))
def shT (xs : List PV) : List Nat := (PyData.tuple (xs.map pdI)).shown.cps.toList
def reprTP : PV → R PV
  | .tup xs => if rOkT xs then .ok (.str (shT xs)) else .bad
  | _ => .bad
/-- the table of modules is no object of the program -/
def SysT (T : Tb) : Prop := (T.K.lookup sysModules).isSome = true
section
variable {T : Tb} {H : Hp} {X : Cx} {pins : List (Addr × Obj)} {σ : L2.St} {s : Shared}
theorem sys_none (I : Inv X pins σ H s) (hK : X.K = T.K) (hs : SysT T) : H sysModules = none := by
  obtain ⟨o, ho⟩ := Option.isSome_iff_exists.mp hs
  have hb : X.base.get? sysModules = some o := I.ok.mod.kin _ _ (by rw [hK]; exact ho)
  exact (I.bs _ _ hb).2
mutual
theorem readsS_pd (I : Inv X pins σ H s) (hn : H sysModules = none) : ∀ (d : PV) (v : V) (u : Value), rOk0 d = true → Rep T H v d → RelV v u → ∃ as, Reads s.heap u (pdD d) as ∧ sysModules ∉ as
  | .none, _, _, _, r, q => by
    cases r
    cases q
    exact ⟨_, .none, by simp⟩
  | .bool b, _, _, _, r, q => by
    cases r
    cases q
    exact ⟨_, .bool b, by simp⟩
  | .int i, _, _, _, r, q => by
    cases r
    obtain ⟨t, rfl⟩ := q
    exact ⟨_, .int i t, by simp⟩
  | .str x, _, _, _, r, q => by
    cases r
    obtain ⟨t, rfl⟩ := q
    exact ⟨_, .str _ t, by simp⟩
  | .list xs, _, _, h, r, q => by
    cases r with
    | lst hq r z =>
      cases q
      obtain ⟨its, rv, ⟨o, n, h1, h2, h3, h4⟩, _⟩ := I.list (SqL.of hq)
      obtain ⟨as, ra, na⟩ := readsSs_pd I hn xs _ its (by simpa only [rOk0] using h) r rv
      refine ⟨_, .list h1 h2 h4 ra, fun z => ?_⟩
      rcases List.mem_cons.mp z with z | z
      · rw [← z, hn] at hq
        cases hq
      · exact na z
  | .tup xs, _, _, h, r, q => by
    cases r with
    | tup hq r z =>
      cases q
      obtain ⟨its, rv, ⟨o, h1, h2, n, h4⟩, _⟩ := I.tuple (SqT.of hq)
      obtain ⟨as, ra, na⟩ := readsSs_pd I hn xs _ its (by simpa only [rOk0] using h) r rv
      exact ⟨_, .tuple h1 h2 h4 ra, na⟩
  | .dict .., _, _, h, _, _ => by simp [rOk0] at h
  | .set _, _, _, h, _, _ => by simp [rOk0] at h
  | .kn _, _, _, h, _, _ => by simp [rOk0] at h
  | .fn _, _, _, h, _, _ => by simp [rOk0] at h
  | .exn .., _, _, h, _, _ => by simp [rOk0] at h
theorem readsSs_pd (I : Inv X pins σ H s) (hn : H sysModules = none) : ∀ (ds : List PV) (vs : List V) (us : List Value), rOks ds = true → RepA T H vs ds → Vals vs us → ∃ as, ReadsAll s.heap us (pdDs ds) as ∧ sysModules ∉ as
  | [], _, _, _, r, q => by
    cases r
    cases q
    exact ⟨_, .nil, by simp⟩
  | d :: ds, _, _, h, r, q => by
    cases r with
    | cons r1 r2 =>
      cases q with
      | cons q1 q2 =>
        simp only [rOks, Bool.and_eq_true] at h
        obtain ⟨as, a, na⟩ := readsS_pd I hn d _ _ h.1 r1 q1
        obtain ⟨bs, b, nb⟩ := readsSs_pd I hn ds _ _ h.2 r2 q2
        exact ⟨_, .cons a b, fun z => (List.mem_append.mp z).elim na nb⟩
end
theorem kv_keys {kvs : List (Key × V)} (d0 : (kvs.map fun e => keyP e.1).all keyR = true) : ∀ e ∈ kvs, ∃ v d, Rep T H v d ∧ d = keyP e.1 := fun e he => by
  have hk := List.all_eq_true.mp d0 (keyP e.1) (List.mem_map.mpr ⟨e, he, rfl⟩)
  cases e1 : e.1 with
  | inl i => exact ⟨.int i, _, .int i, rfl⟩
  | inr z =>
    rw [e1] at hk
    have hk2 : (sok z.cps.toList && decide (z.cps.toList.length ≤ 16777216)) = true := hk
    rw [Bool.and_eq_true, decide_eq_true_eq] at hk2
    exact ⟨.str z, _, .str z (by rw [str_len, sizeLine_eq]; exact hk2.2) hk2.1, rfl⟩
/-- what is known of an item -/
theorem item_pd (I : Inv X pins σ H s) (hn : H sysModules = none) {d : PV} {v : V} {u : Value} (h : dOkI d = true) (r : Rep T H v d) (q : RelV v u) :
    (∃ as, Reads s.heap u (pdI d) as ∧ sysModules ∉ as) ∧ (pdI d).showable = true ∧ (pdI d).leavesShort 13 = true ∧ OkS (pdI d).shown := by
  by_cases hd : ∃ ks vs, d = .dict false ks vs
  · obtain ⟨ks, vs, rfl⟩ := hd
    cases r with
    | @dK a o kvs vs ha ra =>
      cases q
      have h' : rOkD (kvs.map fun e => keyP e.1) vs = true := h
      obtain ⟨_, hsys, vv, kv, o', es, ep, ho, hx, hdat, w1, hp, w2⟩ := dk_rd I.hok (.inr ⟨o, ha⟩ : Rd H a (.dK kvs))
      unfold rOkD at h'
      simp only [Bool.and_eq_true, decide_eq_true_eq] at h'
      obtain ⟨d0, d2, d3⟩ := h'
      have d1 : (kvs.map fun e => keyP e.1).all flatR = true := List.all_eq_true.mpr fun d h => keyR_flat (List.all_eq_true.mp d0 d h)
      obtain ⟨r1, r2⟩ := kv_reads (T := T) (H := H) (h := s.heap) kv hp ra d2
      have hcls : o'.cls = .type "dict" := by
        obtain ⟨o2, h1, h2⟩ := (Heap.DictOf.typeIs (s := s) ⟨o', es, ep, ho, hx, hdat, w1, hp, w2⟩ : s.TypeIs (.ref a) "dict")
        rw [ho] at h1
        cases h1
        exact h2
      have hr : Reads s.heap (.ref a) (.dict (pdKv (kvs.map fun e => keyP e.1) vs)) (a :: [] ++ []) := .dict ho hcls hdat r1 r2
      obtain ⟨l1, l2⟩ := kv_leaves (kv_keys (T := T) (H := H) d0) ra d1 d2
      refine ⟨⟨_, hr, fun hm => ?_⟩, by simp only [pdI, PyData.showable]; exact kv_show d1 d2, by simp only [pdI, PyData.leavesShort]; exact l1, ?_⟩
      · simp at hm
        rw [hm] at hsys
        simp at hsys
      · simp only [pdI, PyData.shown]
        exact okS_app (okS_app (okS_lit _) (okS_join (okS_lit _) _ l2)) (okS_lit _)
  · have e1 : pdI d = pdD d := by
      unfold pdI
      split
      · exact absurd ⟨_, _, rfl⟩ hd
      · rfl
    have e2 : rOk0 d = true := by
      unfold dOkI at h
      split at h
      · exact absurd ⟨_, _, rfl⟩ hd
      · exact h
    rw [e1]
    obtain ⟨a1, a2⟩ := lf_pd d v e2 r
    exact ⟨readsS_pd I hn d v u e2 r q, show_pd d e2, a1, a2⟩
theorem items_pd (I : Inv X pins σ H s) (hn : H sysModules = none) : ∀ {ds : List PV} {vs : List V} {us : List Value}, ds.all dOkI = true → RepA T H vs ds → Vals vs us →
    (∃ as, ReadsAll s.heap us (ds.map pdI) as ∧ sysModules ∉ as) ∧ PyData.showableAll (ds.map pdI) = true ∧ PyData.leavesShortAll 13 (ds.map pdI) = true ∧ ∀ t ∈ PyData.shownAll (ds.map pdI), OkS t
  | [], _, _, _, r, q => by
    cases r
    cases q
    exact ⟨⟨_, .nil, by simp⟩, by simp only [List.map_nil, PyData.showableAll], by simp only [List.map_nil, PyData.leavesShortAll], fun t ht => by simp [PyData.shownAll] at ht⟩
  | d :: ds, _, _, h, r, q => by
    cases r with
    | cons r1 r2 =>
      cases q with
      | cons q1 q2 =>
        rw [List.all_cons, Bool.and_eq_true] at h
        obtain ⟨⟨as, a, na⟩, b, c, e⟩ := item_pd I hn h.1 r1 q1
        obtain ⟨⟨as', a', na'⟩, b', c', e'⟩ := items_pd I hn h.2 r2 q2
        refine ⟨⟨_, .cons a a', fun z => (List.mem_append.mp z).elim na na'⟩, by simp only [List.map_cons, PyData.showableAll, b, b', Bool.and_self], by simp only [List.map_cons, PyData.leavesShortAll, c, c', Bool.and_self], fun t ht => ?_⟩
        simp only [List.map_cons, PyData.shownAll] at ht
        rcases List.mem_cons.mp ht with rfl | ht
        · exact e
        · exact e' t ht
end
section
variable {T : Tb} {E : XK} {X : Cx} {k : Nat}
theorem c1_reprT (G : Good T E k X) (hs : SysT T) : C1 T X (.builtin "repr") reprTP := by
  refine ⟨fun xs H Q => ∃ (a : Addr) (vs : List V) (ds : List PV), xs = [.ref a] ∧ H a = some (.tup vs) ∧ RepA T H vs ds ∧ rOkT ds = true ∧ ((PyData.tuple (ds.map pdI)).shown.length ≤ sizeLine → OkS (PyData.tuple (ds.map pdI)).shown → Q (.str (PyData.tuple (ds.map pdI)).shown) H), fun pins s σ H xs us Q I r h => ?_, fun L H x a Q x' t ra q => ?_⟩
  · obtain ⟨a, vs, ds, rfl, ha, ra, hd, q⟩ := h
    obtain ⟨u, rfl, ru⟩ := vals1 r
    cases ru
    unfold rOkT at hd
    simp only [Bool.and_eq_true, decide_eq_true_eq] at hd
    obtain ⟨d0, d2, d3⟩ := hd
    have hn := sys_none I G.K hs
    obtain ⟨its, rv, ⟨o, h1, h2, n, h4⟩, _⟩ := I.tuple (SqT.of ha)
    obtain ⟨⟨as, rr, na⟩, e1, e2, e3⟩ := items_pd I hn d0 ra rv
    have hr : Reads s.heap (.ref a) (.tuple (ds.map pdI)) as := .tuple h1 h2 h4 rr
    have hsz : (PyData.tuple (ds.map pdI)).shown.length ≤ sizeLine := PyData.shown_fits (B := 13) (by decide) (by decide) (by simp only [PyData.leavesShort]; exact e2) (by simp only [PyData.weight]; exact d2)
    have hok : OkS (PyData.tuple (ds.map pdI)).shown := by
      simp only [PyData.shown]
      exact okS_app (okS_app (okS_lit _) (okS_join (okS_lit _) _ e3)) (by split <;> exact okS_lit _)
    refine repr_of_reads' hr (by simp only [PyData.showable]; exact e1) (fun _ => na) G.gd ?_ (fun _ _ e => e) (fun h' u tk hk => ⟨.str _, H, I.kept hk, ⟨_, rfl⟩, q hsz hok⟩) hsz
    · simp only [PyData.depth]
      have := G.rm.un
      omega
  · unfold reprTP at q
    split at q
    · split at q
      · rename_i ds h
        obtain ⟨p, vs, rfl, h1, r1, l1⟩ := ra.tup
        exact ⟨p, vs, ds, rfl, h1, r1.mono hid_le, h, fun hz hok => q _ _ (Evl.Ex.refl H) (.str _ hz (sok_of hok))⟩
      · exact q.elim
    · exact q.elim
end
end VL
set_option Elab.async false
set_option linter.all false
set_option maxRecDepth 100000
set_option maxHeartbeats 4000000
set_option autoImplicit false
/-! VSM: sum(lists, []). -/
namespace VL
open PySem PySem.Spec PyProof.Rows L2 R
section
variable {prog : Program} {w : World} {A : Around} {E : Value → Shared → Prop}
abbrev lstO (vs : List Value) : Obj := { cls := .type "list", data := .seq vs.toArray }
theorem add_two {s : Shared} {l b : Addr} {vs ws : List Value} {Q : Value → Shared → Prop} (hl : s.heap.IsList l vs.toArray) (hb : s.heap.IsList b ws.toArray) (hsz : vs.length + ws.length ≤ sizeLine)
    (h : Q (.ref s.heap.objs.size) { s with heap := s.heap.push (lstO (vs ++ ws)) }) : wpAny (model prog w) A (binaryOp .Add (.ref l) (.ref b)) Q E s := by
  obtain ⟨⟨cls, dd, data, sl⟩, ho, hc, n, hd⟩ := id hl
  obtain ⟨⟨cls2, dd2, data2, sl2⟩, ho2, hc2, n2, hd2⟩ := id hb
  simp only at hc hd hc2 hd2
  subst hc hd hc2 hd2
  have e : vs.toArray ++ ws.toArray = (vs ++ ws).toArray := by simp
  refine concat_meets ⟨_, ho, rfl⟩ ⟨_, ho2, rfl⟩ noFill_list_add seq_list_add PySem.F.slot_list_add PySem.F.entry_list_add (PySem.F.args_list_add_2 _ _) (list_addW l b vs.toArray ws.toArray n n2 dd dd2 sl sl2 (by simpa using hsz)) ⟨ho, ho2, ?_⟩
  rw [e]
  exact h
theorem sum_loop {a it S : Addr} {base : Heap} {its : List Value} {ls : List (List Value)} (hh : A.handled = none) (hSi : S ≠ it) (hbS : base.get? S = none) (hbi : base.get? it = none) (hll : its.length = ls.length)
    (hls : ∀ (i : Nat) v l, its[i]? = some v → ls[i]? = some l → ∃ li, v = .ref li ∧ base.IsList li l.toArray) (ha : base.IsList a its.toArray) {R : Result → Shared → Prop} :
    ∀ (k i : Nat) (s : Shared) (p : Addr) (acc : List Value) (c : Nat), its.length - i = k → i ≤ its.length → (∀ b o, base.get? b = some o → s.heap.get? b = some o) → s.heap.IsListIter it a i →
      s.heap.get? S = some { cls := .type "list", dict := none, data := .seq #[.ref p] c, slots := #[] } → s.heap.IsList p acc.toArray → acc.length + ((ls.drop i).map List.length).sum ≤ sizeLine → p ≠ S → p ≠ it → base.objs.size ≤ s.heap.objs.size → (base.objs.size ≤ p → ∃ n, s.heap.get? p = some { cls := .type "list", data := .seq acc.toArray n }) →
      (∀ s' q, (∀ b o, base.get? b = some o → s'.heap.get? b = some o) → s'.gens = s.gens → s'.os = s.os → s'.drawn = s.drawn → s'.heap.IsList q (acc ++ (ls.drop i).flatten).toArray → (i = its.length ∧ p < base.objs.size ∨ base.objs.size ≤ q ∧ ∃ n, s'.heap.get? q = some { cls := .type "list", data := .seq (acc ++ (ls.drop i).flatten).toArray n }) → R (.ok (.ret (.ref q))) s') →
      codeAny (model prog w) A (.builtin "sum.loop" ⟨[.ref it, .ref S, rawInt 2, rawInt 0], []⟩) R s := by
  have nS : ∀ {b : Addr} {o : Obj}, base.get? b = some o → S ≠ b := fun {b o} e z => by rw [← z, hbS] at e; cases e
  have nI : ∀ {b : Addr} {o : Obj}, base.get? b = some o → b ≠ it := fun {b o} e z => by rw [z, hbi] at e; cases e
  intro k
  induction k with
  | zero =>
    intro i s p acc c hk hi hkeep hst hS hp hsz hpS hpi hb0 hpx hR
    have hin : i = its.length := by omega
    subst hin
    have hal : s.heap.IsList a its.toArray := by
      obtain ⟨o, e, r⟩ := ha
      exact ⟨o, hkeep _ _ e, r⟩
    refine codeAny_builtin F.entry_sum_loop ?_
    rw [Around.under_plainId F.plain_sum_loop _]
    show wpAny _ A.in1 (seqItems? (.ref S) >>= _) _ _ s
    refine wpAny_bind (wpAny_seqItems hS rfl ?_)
    show wpAny _ A.in1 (tryCatch (pyNext (.ref it)) _ >>= _) _ _ s
    refine wpAny_bind (wpAny_tryCatch (wpAny_pyNext_list_end (A := A.in1) hh hst hal (by simp) fun h' eb => ?_))
    have e0 : ls.drop its.length = [] := List.drop_eq_nil_of_le (by omega)
    refine wpAny_pure (hR _ p (fun b o e => eb b o (nI e) (hkeep b o e)) rfl rfl rfl ?_ ?_)
    · rw [e0, List.flatten_nil, List.append_nil]
      obtain ⟨o, e, r⟩ := hp
      exact ⟨o, eb _ _ hpi e, r⟩
    · rw [e0, List.flatten_nil, List.append_nil]
      rcases Nat.lt_or_ge p base.objs.size with z | z
      · exact .inl ⟨rfl, z⟩
      · obtain ⟨n, e⟩ := hpx z
        exact .inr ⟨z, n, eb _ _ hpi e⟩
  | succ k ih =>
    intro i s p acc c hk hi hkeep hst hS hp hsz hpS hpi hb0 hpx hR
    have hlt : i < its.length := by omega
    have hal : s.heap.IsList a its.toArray := by
      obtain ⟨o, e, r⟩ := ha
      exact ⟨o, hkeep _ _ e, r⟩
    have hv : its[i]? = some its[i] := List.getElem?_eq_getElem hlt
    have hl : ls[i]? = some ls[i] := List.getElem?_eq_getElem (by omega)
    obtain ⟨li, ev, hli⟩ := hls i _ _ hv hl
    rw [ev] at hv
    generalize ls[i] = l at hl hli
    refine codeAny_builtin F.entry_sum_loop ?_
    rw [Around.under_plainId F.plain_sum_loop _]
    show wpAny _ A.in1 (seqItems? (.ref S) >>= _) _ _ s
    refine wpAny_bind (wpAny_seqItems hS rfl ?_)
    show wpAny _ A.in1 (tryCatch (pyNext (.ref it)) _ >>= _) _ _ s
    refine wpAny_bind (wpAny_tryCatch (wpAny_pyNext_list_item (A := A.in1) hst hal (x := .ref li) (by simpa using hv) fun h1 st1 sb => ?_))
    have k1 : ∀ b o, b ≠ it → s.heap.get? b = some o → h1.get? b = some o := fun b o hb e => (sb.2 b hb).trans e
    have hb1 : base.objs.size ≤ h1.objs.size := by
      rw [sb.1]
      exact hb0
    have hS1 : h1.get? S = some { cls := .type "list", dict := none, data := .seq #[.ref p] c, slots := #[] } := k1 _ _ hSi hS
    have hp1 : h1.IsList p acc.toArray := by
      obtain ⟨o, e, r⟩ := hp
      exact ⟨o, k1 _ _ hpi e, r⟩
    have hli1 : h1.IsList li l.toArray := by
      obtain ⟨o, e, r⟩ := hli
      exact ⟨o, k1 _ _ (nI e) (hkeep _ _ e), r⟩
    have hd : ls.drop i = l :: ls.drop (i + 1) := by
      obtain ⟨h2, h3⟩ := List.getElem?_eq_some_iff.mp hl
      rw [List.drop_eq_getElem_cons h2, h3]
    rw [hd, List.map_cons, List.sum_cons] at hsz
    show wpAny _ A.in1 ((holding [Value.ref li] (binaryOp .Add (.ref p) (.ref li))).attempt >>= _) _ _ _
    refine wpAny_bind (wpAny_attempt (wpAny_holding (add_two (s := { s with heap := h1 }) hp1 hli1 (by omega) ?_)))
    have hS2 : (h1.push (lstO (acc ++ l))).get? S = some { cls := .type "list", dict := none, data := .seq #[.ref p] c, slots := #[] } := Heap.get?_push_of_some _ hS1
    have hq2 : (h1.push (lstO (acc ++ l))).get? h1.objs.size = some (lstO (acc ++ l)) := Heap.get?_push_size _ rfl
    have hSq : S ≠ h1.objs.size := Nat.ne_of_lt (Heap.lt_size hS1)
    have hqi : h1.objs.size ≠ it := by
      obtain ⟨o, e, _⟩ := st1
      exact Nat.ne_of_gt (Heap.lt_size e)
    show wpAny _ A.in1 (updateSeq S (fun _ => #[.ref h1.objs.size]) >>= _) _ _ _
    refine wpAny_bind (wpAny_updateSeq hS2 rfl ?_)
    have hS3 := Heap.get?_update_self (Obj.mapSeq fun _ => #[Value.ref h1.objs.size]) hS2 rfl
    refine wpAny_bind (wpAny_letGo ?_)
    refine wpAny_bind (wpAny_updateSeq hS3 rfl (wpAny_pure ⟨plainId_quiet F.plain_sum_loop _, ?_⟩))
    have hS4 := Heap.get?_update_self (Obj.mapSeq fun _ => #[Value.ref h1.objs.size]) hS3 rfl
    have oth : ∀ b o, b ≠ S → (h1.push (lstO (acc ++ l))).get? b = some o → (((h1.push (lstO (acc ++ l))).update S (Obj.mapSeq fun _ => #[Value.ref h1.objs.size])).update S (Obj.mapSeq fun _ => #[Value.ref h1.objs.size])).get? b = some o := fun b o hb e =>
      (Heap.get?_update_other _ _ (Ne.symm hb)).trans ((Heap.get?_update_other _ _ (Ne.symm hb)).trans e)
    refine ih (i + 1) _ h1.objs.size (acc ++ l) _ (by omega) hlt (fun b o e => oth b o (Ne.symm (nS e)) (Heap.get?_push_of_some _ (k1 b o (nI e) (hkeep b o e)))) (st1.at fun o e => oth _ _ (Ne.symm hSi) (Heap.get?_push_of_some _ e)) hS4 ⟨_, oth _ _ (Ne.symm hSq) hq2, rfl, 0, rfl⟩ (by rw [List.length_append]; omega) (Ne.symm hSq) hqi (by show base.objs.size ≤ _; rw [Heap.size_update, Heap.size_update, Heap.size_push]; exact Nat.le_succ_of_le hb1) (fun _ => ⟨0, oth _ _ (Ne.symm hSq) hq2⟩) fun s' q g1 g2 g3 g4 g5 g6 => ?_
    rw [hd, List.flatten_cons, ← List.append_assoc] at hR
    refine hR s' q g1 g2 g3 g4 g5 (.inr ?_)
    rcases g6 with ⟨_, z⟩ | g6
    · exact absurd hb1 (Nat.not_le.mpr z)
    · exact g6
end
end VL
namespace VL
open PySem PySem.Spec PyProof.Rows L2 R
theorem args_sum2 (a b : Value) : argsOk "sum" ⟨[a, b], []⟩ := by unfold argsOk; kernel_rfl
theorem sub_list_str : isSubtype (.type "list") (.type "str") = pure false := by rw [isSubtype_type]; kernel_rfl
theorem sub_list_bytes : isSubtype (.type "list") (.type "bytes") = pure false := by rw [isSubtype_type]; kernel_rfl
theorem sub_list_bytearray : isSubtype (.type "list") (.type "bytearray") = pure false := by rw [isSubtype_type]; kernel_rfl
section
variable {prog : Program} {w : World} {A : Around} {E : Value → Shared → Prop} {s : Shared}
theorem call_sum_lists {a e : Addr} {its : List Value} {ls : List (List Value)} {Q : Value → Shared → Prop} (hh : A.handled = none) (ha : s.heap.IsList a its.toArray) (he : s.heap.IsList e ([] : List Value).toArray) (hll : its.length = ls.length) (hne : its ≠ [])
    (hls : ∀ (i : Nat) v l, its[i]? = some v → ls[i]? = some l → ∃ li, v = .ref li ∧ s.heap.IsList li l.toArray) (hsz : (ls.map List.length).sum ≤ sizeLine)
    (hQ : ∀ s' q, (∀ b o, s.heap.get? b = some o → s'.heap.get? b = some o) → s'.gens = s.gens → s'.os = s.os → s'.drawn = s.drawn → s.heap.objs.size ≤ q → (∃ n, s'.heap.get? q = some { cls := .type "list", data := .seq ls.flatten.toArray n }) → Q (.ref q) s') :
    wpAny (model prog w) A (call (.builtin "sum") [.ref a, .ref e]) Q E s := by
  refine call_function_tree F.kind_sum F.plain_sum F.entry_sum (args_sum2 _ _) ?_
  unfold Builtin.«sum»
  simp only [List.length_cons, List.length_nil]
  rw [if_neg (by decide)]
  refine wpAny_bind (wpAny_of_eq (show Builtin.Builtins.bindParams "sum" ["start"] 0 ⟨[.ref e], []⟩ = pure [some (.ref e)] from rfl) ?_)
  refine wpAny_bind (wpAny_pyIter_list ha ?_)
  have he1 : ∀ (o : Obj), (s.heap.push o).IsList e ([] : List Value).toArray := fun o => by
    obtain ⟨o', e', r⟩ := he
    exact ⟨o', Heap.get?_push_of_some _ e', r⟩
  obtain ⟨oe, ge, ce, ne, de⟩ := he1 { cls := .type "list_iterator", data := .fields #[.ref a, .int 0 0] }
  have ty : ∀ (h : Heap) (g : Array GenState) (d : Drawn) (t : Nat) (os : OsState), h.get? e = some oe → (⟨h, g, d, t, os⟩ : Shared).TypeIs (.ref e) "list" := fun h g d t os z => ⟨oe, z, ce⟩
  refine wpAny_bind (wpAny_pure ?_)
  simp only [List.forIn_cons, List.forIn_nil]
  refine wpAny_bind (wpAny_bind (wpAny_bind (wpAny_isInstance (T := "list") (b := false) (ty _ _ _ _ _ ge) sub_list_str ?_)))
  simp only [Bool.false_eq_true, if_false]
  refine wpAny_pure (wpAny_bind (wpAny_bind (wpAny_isInstance (T := "list") (b := false) (ty _ _ _ _ _ ge) sub_list_bytes ?_)))
  simp only [Bool.false_eq_true, if_false]
  refine wpAny_pure (wpAny_bind (wpAny_bind (wpAny_isInstance (T := "list") (b := false) (ty _ _ _ _ _ ge) sub_list_bytearray ?_)))
  simp only [Bool.false_eq_true, if_false]
  refine wpAny_pure (wpAny_pure ?_)
  refine wpAny_bind (wpAny_newObj_type ?_)
  have nsz : ∀ {b : Addr} {o : Obj}, s.heap.get? b = some o → b < s.heap.objs.size := fun h => Heap.lt_size h
  have hbi : s.heap.get? s.heap.objs.size = none := by
    cases z : s.heap.get? s.heap.objs.size with
    | none => rfl
    | some o => exact absurd (Heap.lt_size z) (Nat.lt_irrefl _)
  have hbS : s.heap.get? (s.heap.objs.size + 1) = none := by
    cases z : s.heap.get? (s.heap.objs.size + 1) with
    | none => rfl
    | some o => exact absurd (Heap.lt_size z) (Nat.not_lt.mpr (Nat.le_succ _))
  have hsz1 : (s.heap.push { cls := .type "list_iterator", data := .fields #[.ref a, .int 0 0] }).objs.size = s.heap.objs.size + 1 := Heap.size_push ..
  obtain ⟨o0, g0, r0⟩ := he
  have elt := Heap.lt_size g0
  refine wpAny_pure ⟨plainId_quiet F.plain_sum_loop _, ?_⟩
  rw [hsz1]
  refine sum_loop (a := a) (it := s.heap.objs.size) (S := s.heap.objs.size + 1) (base := s.heap) (its := its) (ls := ls) hh (Nat.succ_ne_self _) hbS hbi hll hls ha its.length 0 _ e [] _ (by omega) (Nat.zero_le _) (fun b o z => Heap.get?_push_of_some _ (Heap.get?_push_of_some _ z)) ⟨_, Heap.get?_push_of_some _ (Heap.get?_push_size _ rfl), rfl, rfl⟩ (by
    have z := Heap.get?_push_size (s.heap.push { cls := .type "list_iterator", data := .fields #[.ref a, .int 0 0] }) (o := { cls := .type "list", data := .seq #[.ref e] }) rfl
    rw [hsz1] at z
    exact z) ⟨o0, Heap.get?_push_of_some _ (Heap.get?_push_of_some _ g0), r0⟩ (by simpa using hsz) (Nat.ne_of_lt (Nat.lt_succ_of_lt elt)) (Nat.ne_of_lt elt) (by show _ ≤ (Heap.push _ _).objs.size; rw [Heap.size_push, hsz1]; omega) (fun z => absurd elt (Nat.not_lt.mpr z)) fun s' q g1 g2 g3 g4 g5 g6 => ?_
  rw [List.drop_zero, List.nil_append] at g6
  rcases g6 with ⟨z, _⟩ | ⟨g6, g7⟩
  · exact absurd (List.eq_nil_of_length_eq_zero z.symm) hne
  · exact hQ s' q g1 g2 g3 g4 g6 g7
end
end VL
namespace VL
open PySem PySem.Spec PyProof.Rows L2 R
def listsP : List PV → Option (List (List PV))
  | [] => some []
  | .list l :: r => (listsP r).map (l :: ·)
  | _ :: _ => none
def sumLP : PV → PV → R PV
  | .list (x :: xs), .list [] => match listsP (x :: xs) with
    | some ls => lim (ls.map List.length).sum (.ok (.list ls.flatten))
    | none => .bad
  | _, _ => .bad
inductive LL (K : PySem.W.Frag) (H : Hp) : List V → List (List V) → Prop
  | nil : LL K H [] []
  | cons {p : Addr} {ys : List V} {vs : List V} {yss : List (List V)} : SqL K H p ys → LL K H vs yss → LL K H (.ref p :: vs) (ys :: yss)
theorem ll_vals {X : Cx} {pins : List (Addr × Obj)} {σ : L2.St} {H : Hp} {s : Shared} (I : Inv X pins σ H s) : ∀ {vs : List V} {yss : List (List V)} {its : List Value}, LL X.K H vs yss → Vals vs its →
    ∃ ls : List (List Value), its.length = ls.length ∧ (∀ (i : Nat) v l, its[i]? = some v → ls[i]? = some l → ∃ li, v = .ref li ∧ s.heap.IsList li l.toArray) ∧ Vals yss.flatten ls.flatten ∧ (ls.map List.length).sum = (yss.map List.length).sum
  | _, _, _, .nil, r => by
    cases r
    exact ⟨[], rfl, fun i v l h => by simp at h, .nil, rfl⟩
  | _, _, _, .cons h t, r => by
    cases r with
    | cons r1 r2 =>
      cases r1
      obtain ⟨ls, e1, e2, e3, e4⟩ := ll_vals I t r2
      obtain ⟨its0, rv, pl, _⟩ := I.list h
      refine ⟨its0 :: ls, by rw [List.length_cons, List.length_cons, e1], fun i v l h1 h2 => ?_, ?_, ?_⟩
      · cases i with
        | zero =>
          cases h1
          cases h2
          exact ⟨_, rfl, pl.isList⟩
        | succ i => exact e2 i v l h1 h2
      · rw [List.flatten_cons, List.flatten_cons]
        exact rv.append e3
      · rw [List.map_cons, List.map_cons, List.sum_cons, List.sum_cons, e4, rv.length]
theorem ll_rep {T : Tb} {H : Hp} {L : List Addr} : ∀ {ds : List PV} {vs : List V} {ls : List (List PV)}, listsP ds = some ls → RepA T (hid H L) vs ds → ∃ yss, LL T.K H vs yss ∧ RepA T (hid H L) yss.flatten ls.flatten ∧ (yss.map List.length).sum = (ls.map List.length).sum
  | [], _, ls, h, r => by
    cases r
    cases h
    exact ⟨[], .nil, .nil, rfl⟩
  | d :: ds, _, ls, h, r => by
    cases r with
    | cons r1 r2 =>
      cases d with
      | list l =>
        have h' : (listsP ds).map (l :: ·) = some ls := h
        cases e : listsP ds with
        | none => rw [e] at h'; cases h'
        | some ls' =>
          rw [e] at h'
          cases h'
          obtain ⟨yss, g1, g2, g3⟩ := ll_rep e r2
          cases r1 with
          | @lst a xs _ ha ra za =>
            refine ⟨xs :: yss, .cons (SqL.of (hid_le _ _ ha)) g1, ?_, ?_⟩
            · rw [List.flatten_cons, List.flatten_cons]
              exact ra.append g2
            · rw [List.map_cons, List.map_cons, List.sum_cons, List.sum_cons, g3, ra.length]
      | _ => cases h
theorem LL.ne {K : PySem.W.Frag} {H : Hp} {vs : List V} {yss : List (List V)} (h : LL K H vs yss) : vs.length = yss.length := by
  induction h with
  | nil => rfl
  | cons _ _ ih => rw [List.length_cons, List.length_cons, ih]
theorem call_sumL {X : Cx} (hc : X.calm = true) : CallR X (.builtin "sum") (fun xs H Q => ∃ (a e : Addr) (vs : List V) (yss : List (List V)), xs = [.ref a, .ref e] ∧ SqL X.K H a vs ∧ SqL X.K H e [] ∧ LL X.K H vs yss ∧ vs ≠ [] ∧ (yss.map List.length).sum ≤ sizeLine ∧ ∀ p, H p = none → Q (.ref p) (upd H p (.lst yss.flatten))) := by
  intro pins s σ H xs us Q I r h
  obtain ⟨a, e, vs, yss, rfl, ha, he, hl, hne, hz, q⟩ := h
  cases r with
  | cons ra rr =>
    cases rr with
    | cons re rr =>
      cases rr
      cases ra
      cases re
      obtain ⟨its, rv, pl, _⟩ := I.list ha
      obtain ⟨its0, rv0, pl0, _⟩ := I.list he
      cases rv0
      obtain ⟨ls, e1, e2, e3, e4⟩ := ll_vals I hl rv
      refine call_sum_lists (I.ok.hd hc) pl.isList pl0.isList e1 (fun z => ?_) e2 (by rw [e4]; exact hz) fun s1 qq hk hg ho hdr g5 g6 => ?_
      · rw [z] at rv
        cases rv
        exact hne rfl
      · obtain ⟨h1, g1, d1, t1, o1⟩ := s1
        dsimp only at hk hg ho hdr g6
        subst hg ho hdr
        obtain ⟨n, hget⟩ := g6
        exact ⟨.ref qq, upd H qq (.lst yss.flatten), I.laid (t' := t1) hk g5 (show ObjOk X.prog X.w _ h1 _ (.lst yss.flatten) from ⟨by rw [List.length_flatten]; exact hz, ls.flatten, n, e3, hget⟩), rfl, q _ (I.hok.fresh g5)⟩
section
variable {T : Tb} {X : Cx}
theorem c2_sumL (hc : X.calm = true) (hK : X.K = T.K) : C2 T X (.builtin "sum") sumLP := by
  refine ⟨_, call_sumL hc, fun L H x y a b Q x' t ra rb q => ?_⟩
  unfold sumLP at q
  split at q
  · split at q
    · rename_i ls hl
      obtain ⟨q1, q2⟩ := res_lim q
      obtain ⟨p, vs, rfl, h1, r1, l1⟩ := ra.list
      obtain ⟨e, vs0, rfl, h2, r2, l2⟩ := rb.list
      cases r2
      obtain ⟨yss, g1, g2, g3⟩ := ll_rep hl r1
      refine ⟨p, e, vs, yss, rfl, by rw [hK]; exact SqL.of h1, by rw [hK]; exact SqL.of h2, by rw [hK]; exact g1, fun z => ?_, by rw [g3]; exact lnS q1, fun pp hp => ?_⟩
      · rw [z] at r1
        cases r1
      · exact q2 _ _ (ex_upd hp) (rep_new t hp g2 (by rw [List.length_flatten, g3]; exact q1))
    · exact q.elim
  · exact q.elim
end
end VL
set_option Elab.async false
set_option linter.all false
set_option maxRecDepth 100000
set_option maxHeartbeats 4000000
set_option autoImplicit false
/-! VM: plain laws of the plain functions. -/
namespace VL
open R
/-! ### slots -/
theorem getE_eq {env : En} {i : Nat} {d : PV} (h : i < env.length) : getE (env.set i (some d)) i = .ok d := by
  unfold getE
  rw [List.getElem?_set_self h]
theorem getE_ne {env : En} {i j : Nat} {d : Option PV} (h : i ≠ j) : getE (env.set i d) j = getE env j := by
  unfold getE
  rw [List.getElem?_set_ne h]
theorem seq_nx {f g : En → R Fl} {env env' : En} (h : f env = .ok (.nx env')) : seqF f g env = g env' := by
  unfold seqF
  rw [h]
  rfl
theorem seq_rt {f g : En → R Fl} {env : En} {d : PV} (h : f env = .ok (.rt d)) : seqF f g env = .ok (.rt d) := by
  unfold seqF
  rw [h]
  rfl
theorem sIf_t {t : En → R Bool} {f g : En → R Fl} {env : En} (h : t env = .ok true) : sIf t f g env = f env := by
  show (do if (← t env) = true then f env else g env) = _
  rw [h]
  rfl
theorem sIf_f {t : En → R Bool} {f g : En → R Fl} {env : En} (h : t env = .ok false) : sIf t f g env = g env := by
  show (do if (← t env) = true then f env else g env) = _
  rw [h]
  rfl
theorem tOr_f {t u : En → R Bool} {env : En} (h : t env = .ok false) : tOr t u env = u env := by
  show (do if (← t env) = true then R.ok true else u env) = _
  rw [h]
  rfl
theorem tOr_t {t u : En → R Bool} {env : En} (h : t env = .ok true) : tOr t u env = .ok true := by
  show (do if (← t env) = true then R.ok true else u env) = _
  rw [h]
  rfl
theorem tAnd_t {t u : En → R Bool} {env : En} (h : t env = .ok true) : tAnd t u env = u env := by
  show (do if (← t env) = true then u env else R.ok false) = _
  rw [h]
  rfl
theorem tAnd_f {t u : En → R Bool} {env : En} (h : t env = .ok false) : tAnd t u env = .ok false := by
  show (do if (← t env) = true then u env else R.ok false) = _
  rw [h]
  rfl
theorem tNot_of {t : En → R Bool} {env : En} {b : Bool} (h : t env = .ok b) : tNot t env = .ok (!b) := by
  show (do R.ok (!(← t env))) = _
  rw [h]
  rfl
theorem tB_of {o : PV → PV → R PV} {f g : En → R PV} {env : En} {x y : PV} {b : Bool} (h1 : f env = .ok x) (h2 : g env = .ok y) (h3 : o x y = .ok (.bool b)) : tB o f g env = .ok b := by
  show (do boolP (← o (← f env) (← g env))) = _
  rw [h1, h2]
  show (do boolP (← o x y)) = _
  rw [h3]
  rfl
theorem cB_of {o : PV → PV → R PV} {f g : En → R PV} {env : En} {x y : PV} (h1 : f env = .ok x) (h2 : g env = .ok y) : cB o f g env = o x y := by
  show (do o (← f env) (← g env)) = _
  rw [h1, h2]
  rfl
theorem cU_of {o : PV → R PV} {f : En → R PV} {env : En} {x : PV} (h1 : f env = .ok x) : cU o f env = o x := by
  show (do o (← f env)) = _
  rw [h1]
  rfl
theorem sEx_of {f : En → R PV} {env : En} {d : PV} (h : f env = .ok d) : sEx f env = .ok (.nx env) := by
  show (do
    let _ ← f env
    R.ok (Fl.nx env)) = _
  rw [h]
  rfl
theorem sSet_of {f : En → R PV} {env : En} {i : Nat} {d : PV} (h : f env = .ok d) : sSet i f env = .ok (.nx (env.set i (some d))) := by
  show (do
    let d ← f env
    R.ok (Fl.nx (env.set i (some d)))) = _
  rw [h]
  rfl
theorem sRet_of {f : En → R PV} {env : En} {d : PV} (h : f env = .ok d) : sRet f env = .ok (.rt d) := by
  show (do R.ok (Fl.rt (← f env))) = _
  rw [h]
  rfl
theorem iV_of {f : En → R PV} {env : En} {xs : List PV} (h : f env = .ok (.list xs)) : iV f env = .ok xs := by
  show (do iterP (← f env)) = _
  rw [h]
  rfl
theorem sFor_of {fi : En → R (List PV)} {fg : PV → En → R En} {fs : En → R Fl} {env : En} {items : List PV} (h : fi env = .ok items) : sFor fi fg fs env = forE (fun d env => do fs (← fg d env)) items env := by
  show (do
    let items ← fi env
    forE (fun d env => do fs (← fg d env)) items env) = _
  rw [h]
  rfl
theorem cComp_of {fi : En → R (List PV)} {fg : PV → En → R En} {ft : En → R Bool} {f : En → R PV} {vs : List Nat} {env : En} {items l : List PV} (h : fi env = .ok items) (h2 : compE (itemF fg ft f (wipeE env vs)) items = .ok l) : cComp fi fg ft f vs env = .ok (.list l) := by
  show (do
    let items ← fi env
    let l ← compE (itemF fg ft f (wipeE env vs)) items
    R.ok (PV.list l)) = _
  rw [h, bind_ok, h2]
  rfl
theorem range1_ok {n : Nat} (h : n ≤ 16777216) : range1P (.int n) = .ok (rangeL 0 n) := by
  show (if -1000000000 ≤ (n : Int) ∧ (n : Int) ≤ LN then R.ok (rangeL 0 (n : Int).toNat) else R.bad) = _
  rw [if_pos ⟨by omega, by show (n : Int) ≤ ((16777216 : Nat) : Int); omega⟩]
  simp
theorem runF_rt {n : Nat} {body : En → R Fl} {ds : List PV} {d : PV} (h : body (env0 n ds) = .ok (.rt d)) : runF n body ds = .ok d := by
  unfold runF
  rw [h]
  rfl
theorem runF_nx {n : Nat} {body : En → R Fl} {ds : List PV} {env : En} (h : body (env0 n ds) = .ok (.nx env)) : runF n body ds = .ok .none := by
  unfold runF
  rw [h]
  rfl
/-! ### loops -/
theorem forE_inv {body : PV → En → R Fl} (P : Nat → En → Prop) : ∀ (xs : List PV) (k : Nat) (env : En), P k env → (∀ i x env, xs[i]? = some x → P (k + i) env → ∃ env', body x env = .ok (.nx env') ∧ P (k + i + 1) env') → ∃ env', forE body xs env = .ok (.nx env') ∧ P (k + xs.length) env'
  | [], k, env, h0, _ => ⟨env, rfl, h0⟩
  | x :: xs, k, env, h0, hs => by
    obtain ⟨e1, h1, h2⟩ := hs 0 x env rfl h0
    obtain ⟨e2, h3, h4⟩ := forE_inv P xs (k + 1) e1 h2 fun i y e hy he => by
      have z := hs (i + 1) y e (by simpa using hy) (by rw [show k + (i + 1) = k + 1 + i by omega]; exact he)
      rw [show k + (i + 1) + 1 = k + 1 + i + 1 by omega] at z
      exact z
    refine ⟨e2, ?_, by rw [List.length_cons, show k + (xs.length + 1) = k + 1 + xs.length by omega]; exact h4⟩
    unfold forE
    rw [h1]
    exact h3
/-- a loop whose turns keep P -/
theorem forE_keep {body : PV → En → R Fl} (P : En → Prop) {xs : List PV} {env : En} (h0 : P env) (hs : ∀ x ∈ xs, ∀ env, P env → ∃ env', body x env = .ok (.nx env') ∧ P env') : ∃ env', forE body xs env = .ok (.nx env') ∧ P env' := by
  have h := forE_inv (body := body) (fun _ e => P e) xs 0 env h0 fun i x e hx he => hs x (List.mem_of_getElem? hx) e he
  exact h
theorem compE_ok {item : PV → R (Option PV)} (g : PV → Option PV) : ∀ {xs : List PV}, (∀ x ∈ xs, item x = .ok (g x)) → compE item xs = .ok (xs.filterMap g)
  | [], _ => rfl
  | x :: xs, h => by
    have ih := compE_ok g (xs := xs) fun y hy => h y (.tail _ hy)
    unfold compE
    rw [h x (.head _), ih]
    cases e : g x with
    | none =>
      rw [List.filterMap_cons_none e]
      rfl
    | some d =>
      rw [List.filterMap_cons_some e]
      rfl
theorem compE_map {item : PV → R (Option PV)} (g : PV → PV) {xs : List PV} (h : ∀ x ∈ xs, item x = .ok (some (g x))) : compE item xs = .ok (xs.map g) := by
  rw [compE_ok (fun x => some (g x)) h]
  rw [show (fun x => some (g x)) = some ∘ g from rfl, List.filterMap_eq_map]
theorem compE_filter {item : PV → R (Option PV)} (p : PV → Bool) {xs : List PV} (h : ∀ x ∈ xs, item x = .ok (if p x = true then some x else none)) : compE item xs = .ok (xs.filter p) := by
  rw [compE_ok (fun x => if p x = true then some x else none) h]
  congr 1
  clear h
  induction xs with
  | nil => rfl
  | cons x xs ih =>
    cases e : p x with
    | true => rw [List.filterMap_cons_some (by rw [e]; rfl), List.filter_cons_of_pos e, ih]
    | false => rw [List.filterMap_cons_none (by rw [e]; rfl), List.filter_cons_of_neg (by rw [e]; exact Bool.false_ne_true), ih]
/-! ### lists of texts, of numbers -/
abbrev S (x : List Nat) : PV := .str x
abbrev I (i : Int) : PV := .int i
theorem strsP_map : ∀ l : List (List Nat), strsP (l.map PV.str) = some l
  | [] => rfl
  | x :: l => by
    rw [List.map_cons]
    unfold strsP
    rw [strsP_map l]
    rfl
theorem intsP_map : ∀ l : List Int, intsP (l.map PV.int) = some l
  | [] => rfl
  | x :: l => by
    rw [List.map_cons]
    unfold intsP
    rw [intsP_map l]
    rfl
theorem boolsP_map : ∀ l : List Bool, boolsP (l.map PV.bool) = some l
  | [] => rfl
  | x :: l => by
    rw [List.map_cons]
    unfold boolsP
    rw [boolsP_map l]
    rfl
theorem atP_nat {α : Type} {xs : List α} {j : Nat} {v : α} (h : xs[j]? = some v) : atP xs (j : Int) = some v := by
  have hj : j < xs.length := (List.getElem?_eq_some_iff.mp h).1
  unfold atP ixP
  rw [if_pos (by omega), if_pos (by omega)]
  simpa using h
theorem eqB_str (x y : List Nat) : eqB (.str x) (.str y) = (x == y) := by simp [eqB]
theorem eqB_int (x y : Int) : eqB (.int x) (.int y) = (x == y) := by simp [eqB]
theorem any_str (x : List Nat) (l : List (List Nat)) : ((l.map PV.str).any fun z => eqB z (.str x)) = decide (x ∈ l) := by
  rw [List.any_map, Bool.eq_iff_iff, List.any_eq_true, decide_eq_true_eq]
  constructor
  · rintro ⟨y, h1, h2⟩
    have h3 : (y == x) = true := by simpa [eqB] using h2
    rw [← eq_of_beq h3]
    exact h1
  · intro h
    exact ⟨x, h, by simp [eqB]⟩
theorem dataBs_str (l : List (List Nat)) : dataBs (l.map PV.str) = true := by
  induction l with
  | nil => rfl
  | cons x l ih => simp [dataBs, dataB, ih]
theorem depthPs_str (l : List (List Nat)) : depthPs (l.map PV.str) = 0 := by
  induction l with
  | nil => rfl
  | cons x l ih => simp [depthPs, depthP, ih]
theorem dataBs_int (l : List Int) : dataBs (l.map PV.int) = true := by
  induction l with
  | nil => rfl
  | cons x l ih => simp [dataBs, dataB, ih]
theorem depthPs_int (l : List Int) : depthPs (l.map PV.int) = 0 := by
  induction l with
  | nil => rfl
  | cons x l ih => simp [depthPs, depthP, ih]
theorem cmp_strs (l : List (List Nat)) : cmpOk (.list (l.map PV.str)) = true := by
  simp [cmpOk, dataB, dataBs_str, depthP, depthPs_str]
theorem cmp_ints (l : List Int) : cmpOk (.list (l.map PV.int)) = true := by
  simp [cmpOk, dataB, dataBs_int, depthP, depthPs_int]
theorem cmp_str (x : List Nat) : cmpOk (.str x) = true := by simp [cmpOk, dataB, depthP]
theorem cmp_int (x : Int) : cmpOk (.int x) = true := by simp [cmpOk, dataB, depthP]
theorem cmp_none : cmpOk .none = true := by simp [cmpOk, dataB, depthP]
theorem cmp_bool (b : Bool) : cmpOk (.bool b) = true := by simp [cmpOk, dataB, depthP]
theorem eqBs_str : ∀ a b : List (List Nat), eqBs (a.map PV.str) (b.map PV.str) = (a == b)
  | [], [] => rfl
  | [], _ :: _ => rfl
  | _ :: _, [] => rfl
  | x :: a, y :: b => by
    show (eqB (.str x) (.str y) && eqBs (a.map PV.str) (b.map PV.str)) = (x == y && a == b)
    rw [eqBs_str a b, eqB_str]
theorem eqBs_int : ∀ a b : List Int, eqBs (a.map PV.int) (b.map PV.int) = (a == b)
  | [], [] => rfl
  | [], _ :: _ => rfl
  | _ :: _, [] => rfl
  | x :: a, y :: b => by
    show (eqB (.int x) (.int y) && eqBs (a.map PV.int) (b.map PV.int)) = (x == y && a == b)
    rw [eqBs_int a b, eqB_int]
theorem idx_list {xs : List PV} {i : Int} {v : PV} (h : atP xs i = some v) : idxP (.list xs) (.int i) = .ok v := by
  show (match atP xs i with | some v => R.ok v | none => R.bad) = _
  rw [h]
theorem idx_str {xs : List Nat} {i : Int} {c : Nat} (h : atP xs i = some c) : idxP (.str xs) (.int i) = .ok (.str [c]) := by
  show (match atP xs i with | some c => R.ok (PV.str [c]) | none => R.bad) = _
  rw [h]
/-- x in a list of texts -/
theorem in_strs (x : List Nat) (l : List (List Nat)) : inP (.str x) (.list (l.map PV.str)) = .ok (.bool (decide (x ∈ l))) := by
  unfold inP
  simp only [cmp_str, cmp_strs, Bool.and_self, if_true]
  rw [any_str]
theorem nin_strs (x : List Nat) (l : List (List Nat)) : ninP (.str x) (.list (l.map PV.str)) = .ok (.bool (!decide (x ∈ l))) := by
  unfold ninP
  rw [in_strs]
end VL
set_option Elab.async false
set_option linter.all false
set_option maxRecDepth 100000
set_option maxHeartbeats 4000000
set_option autoImplicit false
/-! VM2: the laws' own draws and mixes. -/
namespace VL
open R
def B_draws : En → R Fl := (seqF (sSet 1 (cLst aN)) (seqF (sFor (iR1 (cB min2P (cK (.int 63)) (cU lenP (cV 0)))) (gN 2) (seqF (sSet 3 (cU absP (cB idxP (cV 0) (cV 2)))) (sIf (tB geP (cV 3) (cB powP (cK (.int 10)) (cK (.int 18)))) (sFor (iR1 (cK (.int 60))) (gN 4) (sIf (tB gtP (cV 3) (cK (.int 0))) (seqF (sApp 1 (cB modP (cU intP (cV 3)) (cK (.int 65536)))) (sSet 3 (cB fdivP (cV 3) (cK (.int 65536))))) sNil)) (seqF (sSet 5 (cB modP (cU intP (cB addP (cB mulP (cV 3) (cK (.int 48271))) (cB mulP (cB addP (cV 2) (cK (.int 1))) (cK (.int 69621))))) (cK (.int 2147483647)))) (seqF (sSet 5 (cB modP (cU intP (cB addP (cB addP (cB mulP (cV 5) (cK (.int 16807))) (cB mulP (cK (.int 11)) (cV 2))) (cK (.int 5)))) (cK (.int 2147483629)))) (seqF (sApp 1 (cB modP (cU intP (cV 5)) (cK (.int 65536)))) (sApp 1 (cB modP (cU intP (cB fdivP (cV 5) (cK (.int 65536)))) (cK (.int 32768)))))))))) (sRet (cV 1))))
def F_draws : List PV → R PV := runF 6 B_draws
def B_mix : En → R Fl := (seqF (sSet 3 (cK (.int 0))) (seqF (sIf (tB gtP (cU lenP (cV 0)) (cK (.int 0))) (sSet 3 (cB idxP (cV 0) (cB modP (cU intP (cV 1)) (cU lenP (cV 0))))) sNil) (seqF (sIf (tB ltP (cV 1) (cU lenP (cV 0))) (sRet (cB modP (cU intP (cV 3)) (cV 2))) sNil) (sRet (cB modP (cU intP (cB fdivP (cU intP (cB addP (cB mulP (cV 3) (cK (.int 7919))) (cB mulP (cV 1) (cK (.int 104729))))) (cK (.int 3)))) (cV 2))))))
def F_mix : List PV → R PV := runF 4 B_mix
def B_llist : En → R Fl := (seqF (sSet 5 (cLst aN)) (seqF (sFor (iR1 (cV 2)) (gN 6) (seqF (sSet 7 (cB idxP (cV 4) (cCall F_mix (aC (cV 0) (aC (cB addP (cV 1) (cB mulP (cK (.int 10)) (cV 6))) (aC (cU lenP (cV 4)) aN)))))) (sApp 5 (cJoin (cK (.str [])) (cComp (iR1 (cV 7)) (gN 8) tT (cB idxP (cV 3) (cCall F_mix (aC (cV 0) (aC (cB addP (cB addP (cB addP (cV 1) (cB mulP (cK (.int 10)) (cV 6))) (cK (.int 1))) (cV 8)) (aC (cU lenP (cV 3)) aN))))) [8]))))) (sRet (cU ssetP (cV 5)))))
def F_llist : List PV → R PV := runF 9 B_llist

def good (D : List Int) : Prop := ∀ d ∈ D, 0 ≤ d ∧ d < 65536
theorem good_app {D : List Int} {d : Int} (h : good D) (h1 : 0 ≤ d) (h2 : d < 65536) : good (D ++ [d]) := fun x hx => by
  rcases List.mem_append.mp hx with q | q
  · exact h x q
  · rw [List.mem_singleton.mp q]
    exact ⟨h1, h2⟩
theorem idx_kn {xs : List PV} {i : Int} {v : PV} (h : atP xs i = some v) : idxP (.kn xs) (.int i) = .ok v := by
  show (match atP xs i with | some v => R.ok v | none => R.bad) = _
  rw [h]
theorem range_get {lo : Int} {n i : Nat} {x : PV} (h : (rangeL lo n)[i]? = some x) : i < n ∧ x = .int (lo + i) := by
  unfold rangeL at h
  rw [List.getElem?_map] at h
  cases e : (List.range n)[i]? with
  | none =>
    rw [e] at h
    cases h
  | some k =>
    rw [e] at h
    cases h
    obtain ⟨h1, h2⟩ := List.getElem?_eq_some_iff.mp e
    rw [List.length_range] at h1
    rw [List.getElem_range] at h2
    exact ⟨h1, by rw [h2]⟩
theorem rangeL_len {lo : Int} {n : Nat} : (rangeL lo n).length = n := by simp [rangeL]
def B_in : En → R Fl := sIf (tB gtP (cV 3) (cK (.int 0))) (seqF (sApp 1 (cB modP (cU intP (cV 3)) (cK (.int 65536)))) (sSet 3 (cB fdivP (cV 3) (cK (.int 65536))))) sNil
theorem inner_ok (sc k : PV) (N : Nat) (hN : N + 60 ≤ LN) (D : List Int) (r : Int) (a d : Option PV) (hr : 0 ≤ r) (hD : good D) (hl : D.length ≤ N) :
    ∃ env', forE (fun d env => do B_in (← gN 4 d env)) (rangeL 0 60) [some sc, some (.list (D.map .int)), some k, some (.int r), a, d] = .ok (.nx env') ∧ ∃ D r a d, env' = [some sc, some (.list (D.map .int)), some k, some (.int r), a, d] ∧ 0 ≤ r ∧ good D ∧ D.length ≤ N + 60 := by
  have h := forE_inv (body := fun d env => do B_in (← gN 4 d env)) (fun j env => ∃ D r a d, env = [some sc, some (.list (D.map .int)), some k, some (.int r), a, d] ∧ 0 ≤ r ∧ good D ∧ D.length ≤ N + j) (rangeL 0 60) 0 _ ⟨D, r, a, d, rfl, hr, hD, by omega⟩ fun i x env hx he => ?_
  · rw [rangeL_len] at h
    simpa using h
  · obtain ⟨D, r, a, d, rfl, hr, hD, hl⟩ := he
    obtain ⟨hi, rfl⟩ := range_get hx
    by_cases h0 : r > 0
    · have hz : D.length + 1 ≤ LN := by omega
      refine ⟨[some sc, some (.list ((D ++ [r % 65536]).map .int)), some k, some (.int (r / 65536)), some (.int (0 + i)), d], ?_, _, _, _, _, rfl, by omega, good_app hD (by omega) (by omega), by simp; omega⟩
      simp [runF, env0, seqF, getE, cV, cK, cX, cB, cU, cCh, cIf, cAnd, cOr, cNot, aN, aC, aS, cTup, cLst, oN, oS, cSl, cSt, cJoin, cCall, tV, tB, tCh, tNot, tAnd, tOr, tT, iV, iR1, iR2, iR3, iE, iET, iZ, gN, gT, cComp, cDComp, sNil, sRet, sRetN, sBad, sEx, sSet, sIf, sApp, sExt, sPut, sAsg, sPar, sFor, boolP, intP, lenP, gtP, ltP, leP, geP, consG, nilG, tupP, itemF, itemDF, wipeE, B_in, h0, modP, fdivP, ownL, lim_ok hz]
    · refine ⟨[some sc, some (.list (D.map .int)), some k, some (.int r), some (.int (0 + i)), d], ?_, _, _, _, _, rfl, hr, hD, by omega⟩
      simp [runF, env0, seqF, getE, cV, cK, cX, cB, cU, cCh, cIf, cAnd, cOr, cNot, aN, aC, aS, cTup, cLst, oN, oS, cSl, cSt, cJoin, cCall, tV, tB, tCh, tNot, tAnd, tOr, tT, iV, iR1, iR2, iR3, iE, iET, iZ, gN, gT, cComp, cDComp, sNil, sRet, sRetN, sBad, sEx, sSet, sIf, sApp, sExt, sPut, sAsg, sPar, sFor, boolP, intP, lenP, gtP, ltP, leP, geP, consG, nilG, tupP, itemF, itemDF, wipeE, B_in, h0]
def B_out : En → R Fl := seqF (sSet 3 (cU absP (cB idxP (cV 0) (cV 2)))) (sIf (tB geP (cV 3) (cB powP (cK (.int 10)) (cK (.int 18)))) (sFor (iR1 (cK (.int 60))) (gN 4) B_in) (seqF (sSet 5 (cB modP (cU intP (cB addP (cB mulP (cV 3) (cK (.int 48271))) (cB mulP (cB addP (cV 2) (cK (.int 1))) (cK (.int 69621))))) (cK (.int 2147483647))))
  (seqF (sSet 5 (cB modP (cU intP (cB addP (cB addP (cB mulP (cV 5) (cK (.int 16807))) (cB mulP (cK (.int 11)) (cV 2))) (cK (.int 5)))) (cK (.int 2147483629)))) (seqF (sApp 1 (cB modP (cU intP (cV 5)) (cK (.int 65536)))) (sApp 1 (cB modP (cU intP (cB fdivP (cV 5) (cK (.int 65536)))) (cK (.int 32768))))))))
theorem pow_ok : powP (.int 10) (.int 18) = .ok (.int 1000000000000000000) := by simp [powP]
theorem mulOk_r {i j : Int} (h : j.natAbs < 18446744073709551616) : mulOk i j = true := by
  unfold mulOk
  rw [Bool.or_eq_true]
  exact .inr (decide_eq_true (by omega))
theorem draws_ok (ns : List Int) : ∃ D : List Int, F_draws (scr ns) = .ok (.list (D.map .int)) ∧ good D := by
  obtain ⟨n, hn, hn2⟩ : ∃ n : Nat, min2P (.int 63) (.int ns.length) = .ok (.int n) ∧ (n ≤ 63 ∧ n ≤ ns.length) := by
    by_cases h : (ns.length : Int) < 63
    · exact ⟨ns.length, by simp [min2P, h], by omega, by omega⟩
    · exact ⟨63, by simp [min2P]; omega, by omega, by omega⟩
  have h := forE_inv (body := fun d env => do B_out (← gN 2 d env)) (fun k env => ∃ D a b c d, env = [some (.kn (ns.map .int)), some (.list (D.map .int)), a, b, c, d] ∧ good D ∧ D.length ≤ 60 * k) (rangeL 0 n) 0 [some (.kn (ns.map .int)), some (.list []), none, none, none, none] ⟨[], none, none, none, none, rfl, (fun _ z => nomatch z), by simp⟩ fun i x env hx he => ?_
  · obtain ⟨env', h1, D, a, b, c, d, rfl, h2, h3⟩ := h
    refine ⟨D, ?_, h2⟩
    refine runF_rt ?_
    show seqF (sSet 1 (cLst aN)) _ [some (.kn (ns.map .int)), none, none, none, none, none] = _
    rw [seq_nx (env' := [some (.kn (ns.map .int)), some (.list []), none, none, none, none]) rfl]
    rw [seq_nx (env' := [some (.kn (ns.map .int)), some (.list (D.map .int)), a, b, c, d])]
    · rfl
    · have hr : range1P (.int n) = .ok (rangeL 0 n) := by
        simp [range1P]
        omega
      have e1 : iR1 (cB min2P (cK (.int 63)) (cU lenP (cV 0))) [some (.kn (ns.map .int)), some (.list []), none, none, none, none] = .ok (rangeL 0 n) := by
        show (do range1P (← (min2P (.int 63) (.int (ns.map PV.int).length)))) = _
        rw [List.length_map, hn]
        exact hr
      show (do
        let items ← iR1 (cB min2P (cK (.int 63)) (cU lenP (cV 0))) [some (.kn (ns.map .int)), some (.list []), none, none, none, none]
        forE (fun d env => do B_out (← gN 2 d env)) items [some (.kn (ns.map .int)), some (.list []), none, none, none, none]) = _
      rw [e1]
      exact h1
  · obtain ⟨D, a, b, c, d, rfl, hD, hl⟩ := he
    obtain ⟨hi, rfl⟩ := range_get hx
    rw [Nat.zero_add] at hl ⊢
    have hin : i < ns.length := by omega
    have e1 : idxP (.kn (ns.map .int)) (.int ((0 : Int) + i)) = .ok (.int ns[i]) := idx_kn (by rw [Int.zero_add]; exact atP_nat (by simp [hin]))
    generalize hz : ns[i] = z at e1
    obtain ⟨r, hr, hr0⟩ : ∃ r : Int, absP (.int z) = .ok (.int r) ∧ 0 ≤ r := ⟨_, rfl, by split <;> omega⟩
    by_cases h18 : 1000000000000000000 ≤ r
    · obtain ⟨env', h1, D', r', a', d', rfl, h2, h3, h4⟩ := inner_ok (.kn (ns.map .int)) (.int (0 + i)) (60 * i) (by show 60 * i + 60 ≤ 16777216; omega) D r c d hr0 hD hl
      refine ⟨[some (.kn (ns.map .int)), some (.list (D'.map .int)), some (.int (0 + i)), some (.int r'), a', d'], ?_, D', some (.int (0 + i)), some (.int r'), a', d', rfl, h3, by omega⟩
      show B_out [some (.kn (ns.map .int)), some (.list (D.map .int)), some (.int (0 + i)), b, c, d] = _
      unfold B_out
      rw [seq_nx (env' := [some (.kn (ns.map .int)), some (.list (D.map .int)), some (.int (0 + i)), some (.int r), c, d])]
      · have ht : tB geP (cV 3) (cB powP (cK (.int 10)) (cK (.int 18))) [some (.kn (ns.map .int)), some (.list (D.map .int)), some (.int (0 + i)), some (.int r), c, d] = .ok true := by
          simp [runF, env0, seqF, getE, cV, cK, cX, cB, cU, cCh, cIf, cAnd, cOr, cNot, aN, aC, aS, cTup, cLst, oN, oS, cSl, cSt, cJoin, cCall, tV, tB, tCh, tNot, tAnd, tOr, tT, iV, iR1, iR2, iR3, iE, iET, iZ, gN, gT, cComp, cDComp, sNil, sRet, sRetN, sBad, sEx, sSet, sIf, sApp, sExt, sPut, sAsg, sPar, sFor, boolP, intP, lenP, gtP, ltP, leP, geP, consG, nilG, tupP, itemF, itemDF, wipeE, pow_ok, h18]
        rw [sIf_t ht, sFor_of (show iR1 (cK (.int 60)) _ = .ok (rangeL 0 60) from range1_ok (n := 60) (by decide))]
        exact h1
      · show (do
          let d0 ← (do absP (← idxP (.kn (ns.map .int)) (.int (0 + i))))
          R.ok (Fl.nx _)) = _
        rw [e1, bind_ok, hr]
        rfl
    · have z1 : D.length + 1 ≤ LN := by show D.length + 1 ≤ 16777216; omega
      have m1 : mulOk r 48271 = true := mulOk_r (by decide)
      obtain ⟨q, hq⟩ : ∃ q : Int, q = ((r * 48271 + (i + 1) * 69621) % 2147483647 * 16807 + 11 * i + 5) % 2147483629 := ⟨_, rfl⟩
      have hq0 : 0 ≤ q ∧ q < 2147483629 := by omega
      refine ⟨[some (.kn (ns.map .int)), some (.list ((D ++ [q % 65536] ++ [q / 65536 % 32768]).map .int)), some (.int (0 + i)), some (.int r), c, some (.int q)], ?_, _, _, _, _, _, rfl, good_app (good_app hD (by omega) (by omega)) (by omega) (by omega), by simp; omega⟩
      have z2 : D.length + 1 + 1 ≤ LN := by show D.length + 1 + 1 ≤ 16777216; omega
      show B_out [some (.kn (ns.map .int)), some (.list (D.map .int)), some (.int (0 + i)), b, c, d] = _
      have m2 : mulOk ((i : Int) + 1) 69621 = true := mulOk_r (by decide)
      have m3 : mulOk ((r * 48271 + (i + 1) * 69621) % 2147483647) 16807 = true := mulOk_r (by decide)
      have m4 : mulOk 11 (i : Int) = true := by simp [mulOk]
      rw [Int.zero_add] at e1
      simp [runF, env0, seqF, getE, cV, cK, cX, cB, cU, cCh, cIf, cAnd, cOr, cNot, aN, aC, aS, cTup, cLst, oN, oS, cSl, cSt, cJoin, cCall, tV, tB, tCh, tNot, tAnd, tOr, tT, iV, iR1, iR2, iR3, iE, iET, iZ, gN, gT, cComp, cDComp, sNil, sRet, sRetN, sBad, sEx, sSet, sIf, sApp, sExt, sPut, sAsg, sPar, sFor, boolP, intP, lenP, gtP, ltP, leP, geP, consG, nilG, tupP, itemF, itemDF, wipeE, B_out, e1, hr, pow_ok, h18, mulP, addP, modP, fdivP, ownL, lim_ok z1, lim_ok z2, m1, m2, m3, m4, ← hq]
/-- a mix is a number below many -/
theorem mix_ok (D : List Int) (k many : Int) (hk : 0 ≤ k) (hk2 : k < 2 ^ 40) (hm : 0 < many) (hD : ∀ d ∈ D, 0 ≤ d ∧ d < 65536) : ∃ m : Int, F_mix [.list (D.map .int), .int k, .int many] = .ok (.int m) ∧ 0 ≤ m ∧ m < many := by
  have hmod : ∀ z : Int, 0 ≤ z % many ∧ z % many < many := fun z => ⟨Int.emod_nonneg _ (by omega), Int.emod_lt_of_pos _ hm⟩
  unfold F_mix
  by_cases h : (D.length : Int) > 0
  · have hl : 0 < (D.length : Int) := h
    have hlN : 0 < D.length := by omega
    obtain ⟨j, hj⟩ : ∃ j : Nat, k % (D.length : Int) = j := ⟨(k % (D.length : Int)).toNat, by
      have := Int.emod_nonneg k (show (D.length : Int) ≠ 0 by omega)
      omega⟩
    have hjl : j < D.length := by
      have := Int.emod_lt_of_pos k hl
      omega
    have hd := hD D[j] (List.getElem_mem hjl)
    have e1 : idxP (.list (D.map PV.int)) (.int (j : Int)) = .ok (.int D[j]) := idx_list (atP_nat (by simp [hjl]))
    have m1 : mulOk D[j] 7919 = true := by simp [mulOk]
    have m2 : mulOk k 104729 = true := by simp [mulOk]
    by_cases h2 : k < (D.length : Int)
    · refine ⟨D[j] % many, ?_, (hmod _).1, (hmod _).2⟩
      simp [runF, env0, seqF, getE, cV, cK, cX, cB, cU, cCh, cIf, cAnd, cOr, cNot, aN, aC, aS, cTup, cLst, oN, oS, cSl, cSt, cJoin, cCall, tV, tB, tCh, tNot, tAnd, tOr, tT, iV, iR1, iR2, iR3, iE, iET, iZ, gN, gT, cComp, cDComp, sNil, sRet, sRetN, sBad, sEx, sSet, sIf, sApp, sExt, sPut, sAsg, sPar, sFor, boolP, intP, lenP, gtP, ltP, leP, geP, consG, nilG, tupP, itemF, itemDF, wipeE, B_mix, modP, hl, hlN, hj, e1, hm, h2]
    · refine ⟨(D[j] * 7919 + k * 104729) / 3 % many, ?_, (hmod _).1, (hmod _).2⟩
      simp [runF, env0, seqF, getE, cV, cK, cX, cB, cU, cCh, cIf, cAnd, cOr, cNot, aN, aC, aS, cTup, cLst, oN, oS, cSl, cSt, cJoin, cCall, tV, tB, tCh, tNot, tAnd, tOr, tT, iV, iR1, iR2, iR3, iE, iET, iZ, gN, gT, cComp, cDComp, sNil, sRet, sRetN, sBad, sEx, sSet, sIf, sApp, sExt, sPut, sAsg, sPar, sFor, boolP, intP, lenP, gtP, ltP, leP, geP, consG, nilG, tupP, itemF, itemDF, wipeE, B_mix, modP, hl, hlN, hj, e1, hm, h2, mulP, addP, fdivP, m1, m2]
  · have m1 : mulOk 0 7919 = true := by simp [mulOk]
    have m2 : mulOk k 104729 = true := by simp [mulOk]
    have h0 : D = [] := by
      cases D with
      | nil => rfl
      | cons => exact absurd (by simp) h
    subst h0
    refine ⟨(0 * 7919 + k * 104729) / 3 % many, ?_, (hmod _).1, (hmod _).2⟩
    have h2 : ¬ k < 0 := by omega
    simp [runF, env0, seqF, getE, cV, cK, cX, cB, cU, cCh, cIf, cAnd, cOr, cNot, aN, aC, aS, cTup, cLst, oN, oS, cSl, cSt, cJoin, cCall, tV, tB, tCh, tNot, tAnd, tOr, tT, iV, iR1, iR2, iR3, iE, iET, iZ, gN, gT, cComp, cDComp, sNil, sRet, sRetN, sBad, sEx, sSet, sIf, sApp, sExt, sPut, sAsg, sPar, sFor, boolP, intP, lenP, gtP, ltP, leP, geP, consG, nilG, tupP, itemF, itemDF, wipeE, B_mix, modP, hm, h2, mulP, addP, fdivP, m1, m2]
end VL
set_option Elab.async false
set_option linter.all false
set_option maxRecDepth 100000
set_option maxHeartbeats 4000000
set_option autoImplicit false
/-! VM3: the laws' own lists of words. -/
namespace VL
open R
theorem compE_ex {item : PV → R (Option PV)} (P : PV → Prop) : ∀ {xs : List PV}, (∀ x ∈ xs, ∃ y, item x = .ok (some y) ∧ P y) → ∃ ys, compE item xs = .ok ys ∧ ys.length = xs.length ∧ ∀ y ∈ ys, P y
  | [], _ => ⟨[], rfl, rfl, fun _ h => (nomatch h)⟩
  | x :: xs, h => by
    obtain ⟨y, h1, h2⟩ := h x (.head _)
    obtain ⟨ys, h3, h4, h5⟩ := compE_ex P (xs := xs) fun z hz => h z (.tail _ hz)
    refine ⟨y :: ys, ?_, by rw [List.length_cons, List.length_cons, h4], fun z hz => ?_⟩
    · unfold compE
      rw [h1, h3]
      rfl
    · rcases List.mem_cons.mp hz with e | hz
      · rw [e]
        exact h2
      · exact h5 z hz
theorem signs_of {Q : Nat → Prop} : ∀ {ys : List PV}, (∀ y ∈ ys, ∃ c, Q c ∧ y = PV.str [c]) → ∃ cs : List Nat, ys = cs.map (fun c => PV.str [c]) ∧ ∀ c ∈ cs, Q c
  | [], _ => ⟨[], rfl, fun _ h => (nomatch h)⟩
  | y :: ys, h => by
    obtain ⟨c, h1, h2⟩ := h y (.head _)
    obtain ⟨cs, h3, h4⟩ := signs_of (ys := ys) fun z hz => h z (.tail _ hz)
    refine ⟨c :: cs, by rw [h2, h3]; rfl, fun z hz => ?_⟩
    rcases List.mem_cons.mp hz with e | hz
    · rw [e]
      exact h1
    · exact h4 z hz
theorem join_nil : ∀ cs : List Nat, joinL [] (cs.map fun c => [c]) = cs
  | [] => rfl
  | [c] => rfl
  | c :: d :: cs => by
    show [c] ++ ([] ++ joinL [] ((d :: cs).map fun c => [c])) = _
    rw [join_nil (d :: cs)]
    rfl
theorem join_signs (cs : List Nat) (h : cs.length ≤ 1000000) : joinP (.str []) (.list (cs.map fun c => .str [c])) = .ok (.str cs) := by
  have e : (cs.map fun c => PV.str [c]) = (cs.map fun c => [c]).map PV.str := by rw [List.map_map]; rfl
  show (match strsP (cs.map fun c => PV.str [c]) with
    | some l => lim ((l.map fun x : List Nat => x.length).sum + l.length * ([] : List Nat).length) (R.ok (PV.str (joinL [] l)))
    | none => R.bad) = _
  rw [e, strsP_map]
  dsimp only
  rw [join_nil, lim_ok]
  rw [List.map_map]
  have : ((cs.map fun c => [c]).length * ([] : List Nat).length) = 0 := by simp
  rw [this]
  have e2 : (cs.map ((fun x : List Nat => x.length) ∘ fun c : Nat => [c])).sum = cs.length := by
    clear e this h
    induction cs with
    | nil => rfl
    | cons c cs ih =>
      rw [List.map_cons, List.sum_cons, ih, List.length_cons]
      show 1 + cs.length = _
      omega
  rw [e2]
  show cs.length + 0 ≤ 16777216
  omega
theorem sset_strs (l : List (List Nat)) (h : l.length + 1 < 4096) : ssetP (.list (l.map .str)) = .ok (.list ((sortN (dedN l)).map .str)) := by
  show (match strsP (l.map PV.str) with
    | some l => if l.length + 1 < 4096 then R.ok (PV.list ((sortN (dedN l)).map PV.str)) else R.bad
    | none => R.bad) = _
  rw [strsP_map]
  dsimp only
  rw [if_pos h]
theorem mix_get {α : Type} {D : List Int} (hD : good D) {xs : List α} (hx : xs ≠ []) {k : Int} (hk : 0 ≤ k) (hk2 : k < 2 ^ 40) : ∃ (j : Nat) (v : α), F_mix [.list (D.map .int), .int k, .int xs.length] = .ok (.int j) ∧ xs[j]? = some v ∧ v ∈ xs := by
  have hl : 0 < xs.length := List.length_pos_iff.mpr hx
  obtain ⟨m, h1, h2, h3⟩ := mix_ok D k xs.length hk hk2 (by omega) hD
  have hm : m.toNat < xs.length := by omega
  refine ⟨m.toNat, xs[m.toNat], ?_, List.getElem?_eq_getElem hm, List.getElem_mem hm⟩
  rw [h1, Int.toNat_of_nonneg h2]
/-- one word -/
def wF : En → R PV := cJoin (cK (.str [])) (cComp (iR1 (cV 7)) (gN 8) tT (cB idxP (cV 3) (cCall F_mix (aC (cV 0) (aC (cB addP (cB addP (cB addP (cV 1) (cB mulP (cK (.int 10)) (cV 6))) (cK (.int 1))) (cV 8)) (aC (cU lenP (cV 3)) aN))))) [8])
theorem word_ok {D : List Int} (hD : good D) {letters : List Nat} (hl : letters ≠ []) (k t size : Nat) (hk : k ≤ 100000) (ht : t ≤ 100000) (hs : size ≤ 100) (many lens found j : PV) (jo : Option PV) :
    ∃ w : List Nat, wF [some (.list (D.map .int)), some (.int k), some many, some (.str letters), some lens, some found, some (.int t), some (.int size), jo] = .ok (.str w) ∧ w.length = size ∧ ∀ c ∈ w, c ∈ letters := by
  generalize hE : ([some (.list (D.map .int)), some (.int k), some many, some (.str letters), some lens, some found, some (.int t), some (.int size), jo] : En) = env
  have hit : iR1 (cV 7) env = .ok (rangeL 0 size) := by
    subst hE
    exact range1_ok (by omega)
  obtain ⟨ys, h1, h2, h3⟩ := compE_ex (item := itemF (gN 8) tT (cB idxP (cV 3) (cCall F_mix (aC (cV 0) (aC (cB addP (cB addP (cB addP (cV 1) (cB mulP (cK (.int 10)) (cV 6))) (cK (.int 1))) (cV 8)) (aC (cU lenP (cV 3)) aN))))) (wipeE env [8])) (fun y => ∃ c, c ∈ letters ∧ y = PV.str [c]) (xs := rangeL 0 size) fun x hx => by
    obtain ⟨i, hi⟩ := List.mem_iff_getElem?.mp hx
    obtain ⟨hi2, rfl⟩ := range_get hi
    obtain ⟨j, c, g1, g2, g3⟩ := mix_get hD hl (k := (k : Int) + 10 * t + 1 + i) (by omega) (by omega)
    refine ⟨.str [c], ?_, c, g3, rfl⟩
    have m1 : mulOk 10 (t : Int) = true := by simp [mulOk]
    have e1 : idxP (.str letters) (.int (j : Int)) = .ok (.str [c]) := idx_str (atP_nat g2)
    subst hE
    simp [runF, env0, seqF, getE, cV, cK, cX, cB, cU, cCh, cIf, cAnd, cOr, cNot, aN, aC, aS, cTup, cLst, oN, oS, cSl, cSt, cJoin, cCall, tV, tB, tCh, tNot, tAnd, tOr, tT, iV, iR1, iR2, iR3, iE, iET, iZ, gN, gT, cComp, cDComp, sNil, sRet, sRetN, sBad, sEx, sSet, sIf, sApp, sExt, sPut, sAsg, sPar, sFor, boolP, intP, lenP, gtP, ltP, leP, geP, consG, nilG, tupP, itemF, itemDF, wipeE, mulP, addP, m1, g1, e1]
  obtain ⟨cs, rfl, h4⟩ := signs_of h3
  rw [rangeL_len, List.length_map] at h2
  refine ⟨cs, ?_, h2, h4⟩
  show (do joinP (← strR (.str [])) (← cComp (iR1 (cV 7)) (gN 8) tT _ [8] env)) = _
  rw [cComp_of hit h1]
  exact join_signs cs (by omega)
theorem llist_ok {D : List Int} (hD : good D) (k many : Nat) (letters : List Nat) (lens : List Nat) (hk : k ≤ 100000) (hm : many ≤ 1000) (hl : letters ≠ []) (hle : lens ≠ []) (hls : ∀ n ∈ lens, n ≤ 100) :
    ∃ ws : List (List Nat), F_llist [.list (D.map .int), .int k, .int many, .str letters, .list (lens.map fun n : Nat => .int n)] = .ok (.list ((sortN (dedN ws)).map .str)) ∧ ws.length = many ∧ ∀ w ∈ ws, w.length ∈ lens ∧ ∀ c ∈ w, c ∈ letters := by
  have h := forE_inv (body := fun d env => do (seqF (sSet 7 (cB idxP (cV 4) (cCall F_mix (aC (cV 0) (aC (cB addP (cV 1) (cB mulP (cK (.int 10)) (cV 6))) (aC (cU lenP (cV 4)) aN)))))) (sApp 5 wF)) (← gN 6 d env))
    (fun i env => ∃ (ws : List (List Nat)) (a b c : Option PV), env = [some (.list (D.map .int)), some (.int k), some (.int many), some (.str letters), some (.list (lens.map fun n : Nat => .int n)), some (.list (ws.map .str)), a, b, c] ∧ ws.length = i ∧ ∀ w ∈ ws, w.length ∈ lens ∧ ∀ c ∈ w, c ∈ letters)
    (rangeL 0 many) 0 [some (.list (D.map .int)), some (.int k), some (.int many), some (.str letters), some (.list (lens.map fun n : Nat => .int n)), some (.list []), none, none, none] ⟨[], none, none, none, rfl, rfl, fun _ z => (nomatch z)⟩ fun i x env hx he => ?_
  · obtain ⟨env', h1, ws, a, b, c, rfl, h2, h3⟩ := h
    rw [rangeL_len, Nat.zero_add] at h2
    refine ⟨ws, ?_, h2, h3⟩
    refine runF_rt ?_
    show seqF (sSet 5 (cLst aN)) _ [some (.list (D.map .int)), some (.int k), some (.int many), some (.str letters), some (.list (lens.map fun n : Nat => .int n)), none, none, none, none] = _
    rw [seq_nx (env' := [some (.list (D.map .int)), some (.int k), some (.int many), some (.str letters), some (.list (lens.map fun n : Nat => .int n)), some (.list []), none, none, none]) rfl]
    rw [seq_nx (env' := [some (.list (D.map .int)), some (.int k), some (.int many), some (.str letters), some (.list (lens.map fun n : Nat => .int n)), some (.list (ws.map .str)), a, b, c])]
    · show (do R.ok (Fl.rt (← ssetP (.list (ws.map .str))))) = _
      rw [sset_strs ws (by omega)]
      rfl
    · rw [sFor_of (items := rangeL 0 many) (range1_ok (n := many) (by omega))]
      exact h1
  · obtain ⟨ws, a, b, c, rfl, h2, h3⟩ := he
    obtain ⟨hi, rfl⟩ := range_get hx
    have hle2 : (lens.map fun n : Nat => PV.int n) ≠ [] := by simpa using hle
    obtain ⟨j, v, g1, g2, g3⟩ := mix_get (α := PV) hD hle2 (k := (k : Int) + 10 * i) (by omega) (by omega)
    obtain ⟨size, hs, rfl⟩ := List.mem_map.mp g3
    have hs2 := hls size hs
    obtain ⟨w, w1, w2, w3⟩ := word_ok hD hl k i size hk (by omega) hs2 (.int many) (.list (lens.map fun n : Nat => .int n)) (.list (ws.map .str)) .none c
    have m1 : mulOk 10 (i : Int) = true := by simp [mulOk]
    have e1 : idxP (.list (lens.map fun n : Nat => PV.int n)) (.int (j : Int)) = .ok (.int size) := idx_list (atP_nat g2)
    refine ⟨[some (.list (D.map .int)), some (.int k), some (.int many), some (.str letters), some (.list (lens.map fun n : Nat => .int n)), some (.list ((ws ++ [w]).map .str)), some (.int i), some (.int size), c], ?_, ws ++ [w], _, _, _, rfl, by simp; omega, fun y hy => ?_⟩
    · show seqF _ _ [some (.list (D.map .int)), some (.int k), some (.int many), some (.str letters), some (.list (lens.map fun n : Nat => .int n)), some (.list (ws.map .str)), some (.int (0 + i)), b, c] = _
      rw [Int.zero_add]
      rw [seq_nx (env' := [some (.list (D.map .int)), some (.int k), some (.int many), some (.str letters), some (.list (lens.map fun n : Nat => .int n)), some (.list (ws.map .str)), some (.int i), some (.int size), c])]
      · have z : (ws.map PV.str).length + 1 ≤ LN := by rw [List.length_map]; show ws.length + 1 ≤ 16777216; omega
        show (do
          let v ← wF _
          lim ((ws.map PV.str).length + 1) (R.ok (Fl.nx _))) = _
        rw [w1, bind_ok, lim_ok z, List.map_append]
        rfl
      · rw [List.length_map] at g1
        simp [runF, env0, seqF, getE, cV, cK, cX, cB, cU, cCh, cIf, cAnd, cOr, cNot, aN, aC, aS, cTup, cLst, oN, oS, cSl, cSt, cJoin, cCall, tV, tB, tCh, tNot, tAnd, tOr, tT, iV, iR1, iR2, iR3, iE, iET, iZ, gN, gT, cComp, cDComp, sNil, sRet, sRetN, sBad, sEx, sSet, sIf, sApp, sExt, sPut, sAsg, sPar, sFor, boolP, intP, lenP, gtP, ltP, leP, geP, consG, nilG, tupP, itemF, itemDF, wipeE, mulP, addP, m1, g1, e1]
    · rcases List.mem_append.mp hy with q | q
      · exact h3 y q
      · rw [List.mem_singleton.mp q]
        exact ⟨by rw [w2]; exact hs, w3⟩
end VL
set_option Elab.async false
set_option linter.all false
set_option maxRecDepth 100000
set_option maxHeartbeats 4000000
set_option autoImplicit false
/-! VRM: plain laws of repr and chains. -/
namespace VL
open R
theorem rOk_mk {v : PV} (h1 : rOk0 v = true) (h2 : wtP v ≤ 1048576) (h3 : dpP v ≤ 64) : rOk v = true := by
  unfold rOk
  rw [h1, decide_eq_true h2, decide_eq_true h3]
  rfl
theorem rOk_int {i : Int} (h : i.natAbs < 1000000000000) : rOk (.int i) = true := by
  have h2 : (if i == 0 then 0 else i.natAbs.log2 + 1) ≤ 1048576 := by
    split
    · omega
    · have := log_small h
      omega
  exact rOk_mk (by simp only [rOk0]; exact decide_eq_true h) (by simp only [wtP]; exact h2) (by simp only [dpP]; omega)
theorem rOk_bool (b : Bool) : rOk (.bool b) = true := rfl
theorem rOk_none : rOk .none = true := rfl
theorem rOks_str : ∀ l : List (List Nat), rOks (l.map PV.str) = true
  | [] => rfl
  | x :: l => by simp [rOks, rOk0, rOks_str l]
theorem wtPs_str {B : Nat} : ∀ {l : List (List Nat)}, (∀ x ∈ l, x.length ≤ B) → wtPs (l.map PV.str) ≤ l.length * (B + 1)
  | [], _ => by simp [wtPs]
  | x :: l, h => by
    have h1 := h x (.head _)
    have h2 := wtPs_str (B := B) (l := l) fun y hy => h y (.tail _ hy)
    simp only [List.map_cons, wtPs, wtP, List.length_cons]
    rw [Nat.succ_mul]
    omega
theorem dpPs_str : ∀ l : List (List Nat), dpPs (l.map PV.str) = 0
  | [] => rfl
  | x :: l => by simp [dpPs, dpP, dpPs_str l]
theorem rOk_strs {l : List (List Nat)} {B : Nat} (h : ∀ x ∈ l, x.length ≤ B) (hB : l.length * (B + 1) ≤ 1048576) : rOk (.list (l.map .str)) = true := by
  have := wtPs_str h
  exact rOk_mk (by simp only [rOk0]; exact rOks_str l) (by simp only [wtP]; omega) (by simp only [dpP]; rw [dpPs_str]; omega)
theorem repr_of {d : PV} (h : rOk d = true) : reprP d = .ok (.str (shP d)) := if_pos h
theorem ne_same (s : List Nat) : neP (.str s) (.str s) = .ok (.bool false) := by
  unfold neP
  simp only [cmp_str, Bool.and_self, if_true]
  rw [eqB_str]
  simp
theorem eq_same (s : List Nat) : eqP (.str s) (.str s) = .ok (.bool true) := by
  unfold eqP
  simp only [cmp_str, Bool.and_self, if_true]
  rw [eqB_str]
  simp
/-- repr(a) != repr(b), a and b alike -/
theorem repr_ne {f g : En → R PV} {env : En} {d : PV} (hd : rOk d = true) (h1 : f env = .ok d) (h2 : g env = .ok d) : tB neP (cU reprP f) (cU reprP g) env = .ok false :=
  tB_of (x := .str (shP d)) (y := .str (shP d)) (by rw [cU_of h1]; exact repr_of hd) (by rw [cU_of h2]; exact repr_of hd) (ne_same _)
theorem tCh_f {o o' : PV → PV → R PV} {f g h : En → R PV} {env : En} {x y : PV} (h1 : f env = .ok x) (h2 : g env = .ok y) (h3 : o x y = .ok (.bool false)) : tCh o o' f g h env = .ok false := by
  show (do
    let x ← f env
    let y ← g env
    let k ← boolP (← o x y)
    if k = true then do boolP (← o' y (← h env)) else R.ok false) = _
  rw [h1, bind_ok, h2, bind_ok, h3]
  rfl
theorem tCh_t {o o' : PV → PV → R PV} {f g h : En → R PV} {env : En} {x y z : PV} {b : Bool} (h1 : f env = .ok x) (h2 : g env = .ok y) (h3 : o x y = .ok (.bool true)) (h4 : h env = .ok z) (h5 : o' y z = .ok (.bool b)) : tCh o o' f g h env = .ok b := by
  show (do
    let x ← f env
    let y ← g env
    let k ← boolP (← o x y)
    if k = true then do boolP (← o' y (← h env)) else R.ok false) = _
  rw [h1, bind_ok, h2, bind_ok, h3, bind_ok]
  show (if true = true then do boolP (← o' y (← h env)) else R.ok false) = _
  rw [if_pos rfl, h4, bind_ok, h5]
  rfl
end VL
set_option Elab.async false
set_option linter.all false
set_option maxRecDepth 100000
set_option maxHeartbeats 4000000
set_option autoImplicit false
/-! VM4: comprehensions and loops over typed lists. -/
namespace VL
open R
theorem compE_tf {α β : Type} (ia : α → PV) (ib : β → PV) (p : α → Bool) (g : α → β) {item : PV → R (Option PV)} : ∀ {xs : List α}, (∀ x ∈ xs, item (ia x) = .ok (if p x = true then some (ib (g x)) else none)) → compE item (xs.map ia) = .ok (((xs.filter p).map g).map ib)
  | [], _ => rfl
  | x :: xs, h => by
    have ih := compE_tf ia ib p g (xs := xs) fun y hy => h y (.tail _ hy)
    rw [List.map_cons]
    unfold compE
    rw [h x (.head _), ih]
    cases e : p x with
    | true =>
      rw [List.filter_cons_of_pos e]
      rfl
    | false =>
      rw [List.filter_cons_of_neg (by rw [e]; exact Bool.false_ne_true)]
      rfl
theorem itemF_of {fg : PV → En → R En} {ft : En → R Bool} {f : En → R PV} {w env' : En} {d v : PV} {b : Bool} (h1 : fg d w = .ok env') (h2 : ft env' = .ok b) (h3 : b = true → f env' = .ok v) : itemF fg ft f w d = .ok (if b = true then some v else none) := by
  unfold itemF
  rw [h1, bind_ok, h2, bind_ok]
  cases b with
  | true =>
    rw [if_pos rfl, h3 rfl]
    rfl
  | false => rfl
/-- [f for x in xs if p], by types -/
theorem comp_tf {α β : Type} (ia : α → PV) (ib : β → PV) (p : α → Bool) (g : α → β) {fi : En → R (List PV)} {fg : PV → En → R En} {ft : En → R Bool} {f : En → R PV} {vs : List Nat} {env : En} {xs : List α} (h : fi env = .ok (xs.map ia))
    (hs : ∀ x ∈ xs, ∃ env', fg (ia x) (wipeE env vs) = .ok env' ∧ ft env' = .ok (p x) ∧ (p x = true → f env' = .ok (ib (g x)))) : cComp fi fg ft f vs env = .ok (.list (((xs.filter p).map g).map ib)) := by
  refine cComp_of h (compE_tf ia ib p g fun x hx => ?_)
  obtain ⟨env', h1, h2, h3⟩ := hs x hx
  exact itemF_of h1 h2 h3
/-- [f for x in xs] -/
theorem comp_m {α β : Type} (ia : α → PV) (ib : β → PV) (g : α → β) {fi : En → R (List PV)} {fg : PV → En → R En} {f : En → R PV} {vs : List Nat} {env : En} {xs : List α} (h : fi env = .ok (xs.map ia))
    (hs : ∀ x ∈ xs, ∃ env', fg (ia x) (wipeE env vs) = .ok env' ∧ f env' = .ok (ib (g x))) : cComp fi fg tT f vs env = .ok (.list ((xs.map g).map ib)) := by
  have z := comp_tf ia ib (fun _ => true) g (ft := tT) (f := f) h fun x hx => by
    obtain ⟨env', h1, h2⟩ := hs x hx
    exact ⟨env', h1, rfl, fun _ => h2⟩
  rw [z, List.filter_eq_self.mpr fun _ _ => rfl]
/-- for x in xs: .. without a return; P: what is so behind the first items -/
theorem for_tf {α : Type} (ia : α → PV) (P : List α → En → Prop) {fi : En → R (List PV)} {fg : PV → En → R En} {fs : En → R Fl} {env : En} {xs : List α} (h : fi env = .ok (xs.map ia)) (h0 : P [] env)
    (hs : ∀ pre x post env, xs = pre ++ x :: post → P pre env → ∃ env', (do fs (← fg (ia x) env)) = R.ok (Fl.nx env') ∧ P (pre ++ [x]) env') : ∃ env', sFor fi fg fs env = .ok (.nx env') ∧ P xs env' := by
  rw [sFor_of h]
  have key : ∀ (post pre : List α) (env : En), xs = pre ++ post → P pre env → ∃ env', forE (fun d env => do fs (← fg d env)) (post.map ia) env = .ok (.nx env') ∧ P xs env' := by
    intro post
    induction post with
    | nil =>
      intro pre env e hp
      rw [List.append_nil] at e
      exact ⟨env, rfl, by rw [e]; exact hp⟩
    | cons x post ih =>
      intro pre env e hp
      obtain ⟨e1, h1, h2⟩ := hs pre x post env e hp
      obtain ⟨e2, h3, h4⟩ := ih (pre ++ [x]) e1 (by rw [e]; simp) h2
      refine ⟨e2, ?_, h4⟩
      rw [List.map_cons]
      unfold forE
      rw [h1]
      exact h3
  exact key xs [] env rfl h0
theorem step_of {fg : PV → En → R En} {fs : En → R Fl} {d : PV} {env env1 : En} (h : fg d env = .ok env1) : (do fs (← fg d env)) = fs env1 := by
  rw [h]
  rfl
theorem skip_of {t : En → R Bool} {f : En → R Fl} {env : En} (h : t env = .ok false) : sIf t f sNil env = .ok (.nx env) := by
  rw [sIf_f h]
theorem cOwn_of {f : En → R PV} {env : En} {d : PV} (h : f env = .ok d) (h2 : ownLD d = .ok d) : cOwn f env = .ok d := by
  show (do ownLD (← f env)) = _
  rw [h]
  exact h2
theorem sApp_of {i : Nat} {f : En → R PV} {env : En} {ds : List PV} {v : PV} (h1 : getE env i = .ok (.list ds)) (h2 : f env = .ok v) (hl : ds.length + 1 ≤ LN) : sApp i f env = .ok (.nx (env.set i (some (.list (ds ++ [v]))))) := by
  show (do
    let ds ← ownL (← getE env i)
    let v ← f env
    lim (ds.length + 1) (R.ok (Fl.nx (env.set i (some (.list (ds ++ [v]))))))) = _
  rw [h1, bind_ok]
  show (do
    let v ← f env
    lim (ds.length + 1) (R.ok (Fl.nx (env.set i (some (.list (ds ++ [v]))))))) = _
  rw [h2, bind_ok]
  exact lim_ok hl
theorem sTApp_of {f g : En → R PV} {env : En} {ds : List PV} {v : PV} (h1 : f env = .ok (.list ds)) (h2 : g env = .ok v) (hl : ds.length + 1 ≤ LN) : sTApp f g env = .ok (.nx env) := by
  show (do
    let ds ← ownL (← f env)
    let _ ← g env
    lim (ds.length + 1) (R.ok (Fl.nx env))) = _
  rw [h1, bind_ok]
  show (do
    let _ ← g env
    lim (ds.length + 1) (R.ok (Fl.nx env))) = _
  rw [h2, bind_ok]
  exact lim_ok hl
theorem sPut_of {i : Nat} {g f : En → R PV} {env : En} {t : Bool} {ks vs : List PV} {k v d' : PV} (h1 : f env = .ok v) (h2 : getE env i = .ok (.dict t ks vs)) (h3 : g env = .ok k) (h4 : putP (.dict t ks vs) k v = .ok d') : sPut i g f env = .ok (.nx (env.set i (some d'))) := by
  show (do
    let v ← f env
    let d ← ownD (← getE env i)
    let k ← g env
    let d' ← putP d k v
    R.ok (Fl.nx (env.set i (some d')))) = _
  rw [h1, bind_ok, h2, bind_ok]
  show (do
    let k ← g env
    let d' ← putP (.dict t ks vs) k v
    R.ok (Fl.nx (env.set i (some d')))) = _
  rw [h3, bind_ok, h4]
  rfl
theorem iR1_of {f : En → R PV} {env : En} {x : PV} (h : f env = .ok x) : iR1 f env = range1P x := by
  show (do range1P (← f env)) = _
  rw [h]
  rfl
theorem iR2_of {f g : En → R PV} {env : En} {x y : PV} (h : f env = .ok x) (h2 : g env = .ok y) : iR2 f g env = range2P x y := by
  show (do range2P (← f env) (← g env)) = _
  rw [h, h2]
  rfl
/-! ### calls by their arguments -/
theorem call1_of {F : List PV → R PV} {f : En → R PV} {env : En} {a : PV} (h1 : f env = .ok a) : cCall F (aC f aN) env = F [a] := by
  show (do F (← (do
    let x ← f env
    let l ← R.ok []
    R.ok (x :: l)))) = _
  rw [h1]
  rfl
theorem call2_of {F : List PV → R PV} {f g : En → R PV} {env : En} {a b : PV} (h1 : f env = .ok a) (h2 : g env = .ok b) : cCall F (aC f (aC g aN)) env = F [a, b] := by
  show (do F (← (do
    let x ← f env
    let l ← (do
      let x ← g env
      let l ← R.ok []
      R.ok (x :: l))
    R.ok (x :: l)))) = _
  rw [h1, h2]
  rfl
theorem call3_of {F : List PV → R PV} {f g h : En → R PV} {env : En} {a b c : PV} (h1 : f env = .ok a) (h2 : g env = .ok b) (h3 : h env = .ok c) : cCall F (aC f (aC g (aC h aN))) env = F [a, b, c] := by
  show (do F (← (do
    let x ← f env
    let l ← (do
      let x ← g env
      let l ← (do
        let x ← h env
        let l ← R.ok []
        R.ok (x :: l))
      R.ok (x :: l))
    R.ok (x :: l)))) = _
  rw [h1, h2, h3]
  rfl
theorem call5_of {F : List PV → R PV} {f g h f4 f5 : En → R PV} {env : En} {a b c d e : PV} (h1 : f env = .ok a) (h2 : g env = .ok b) (h3 : h env = .ok c) (h4 : f4 env = .ok d) (h5 : f5 env = .ok e) : cCall F (aC f (aC g (aC h (aC f4 (aC f5 aN))))) env = F [a, b, c, d, e] := by
  show (do F (← (do
    let x ← f env
    let l ← (do
      let x ← g env
      let l ← (do
        let x ← h env
        let l ← (do
          let x ← f4 env
          let l ← (do
            let x ← f5 env
            let l ← R.ok []
            R.ok (x :: l))
          R.ok (x :: l))
        R.ok (x :: l))
      R.ok (x :: l))
    R.ok (x :: l)))) = _
  rw [h1, h2, h3, h4, h5]
  rfl
theorem lst0_of {env : En} : cLst aN env = .ok (.list []) := show lim 0 _ = _ from lim_ok (Nat.zero_le _)
theorem lst1_of {f : En → R PV} {env : En} {a : PV} (h1 : f env = .ok a) : cLst (aC f aN) env = .ok (.list [a]) := by
  show (do
    let l ← (do
      let x ← f env
      let l ← R.ok []
      R.ok (x :: l))
    lim l.length (R.ok (PV.list l))) = _
  rw [h1]
  exact lim_ok (show 1 ≤ LN by decide)
theorem lst2_of {f g : En → R PV} {env : En} {a b : PV} (h1 : f env = .ok a) (h2 : g env = .ok b) : cLst (aC f (aC g aN)) env = .ok (.list [a, b]) := by
  show (do
    let l ← (do
      let x ← f env
      let l ← (do
        let x ← g env
        let l ← R.ok []
        R.ok (x :: l))
      R.ok (x :: l))
    lim l.length (R.ok (PV.list l))) = _
  rw [h1, h2]
  exact lim_ok (show 2 ≤ LN by decide)
theorem lst3_of {f g h : En → R PV} {env : En} {a b c : PV} (h1 : f env = .ok a) (h2 : g env = .ok b) (h3 : h env = .ok c) : cLst (aC f (aC g (aC h aN))) env = .ok (.list [a, b, c]) := by
  show (do
    let l ← (do
      let x ← f env
      let l ← (do
        let x ← g env
        let l ← (do
          let x ← h env
          let l ← R.ok []
          R.ok (x :: l))
        R.ok (x :: l))
      R.ok (x :: l))
    lim l.length (R.ok (PV.list l))) = _
  rw [h1, h2, h3]
  exact lim_ok (show 3 ≤ LN by decide)
theorem tup2_of {f g : En → R PV} {env : En} {a b : PV} (h1 : f env = .ok a) (h2 : g env = .ok b) : cTup (aC f (aC g aN)) env = .ok (.tup [a, b]) := by
  show (do
    let l ← (do
      let x ← f env
      let l ← (do
        let x ← g env
        let l ← R.ok []
        R.ok (x :: l))
      R.ok (x :: l))
    lim l.length (R.ok (PV.tup l))) = _
  rw [h1, h2]
  exact lim_ok (show 2 ≤ LN by decide)
theorem mul_int {i j : Int} (h : j.natAbs < 18446744073709551616) : mulP (.int i) (.int j) = .ok (.int (i * j)) := by
  show (if mulOk i j then R.ok (PV.int (i * j)) else R.bad) = _
  rw [mulOk_r h]
  rfl
theorem add_int (i j : Int) : addP (.int i) (.int j) = .ok (.int (i + j)) := rfl
/-- a number drawn -/
theorem mix_in (F : List PV → R PV) {D : List Int} (hD : good D) {env : En} {i : Nat} {fk fm : En → R PV} {k m : Int} (h0 : getE env i = .ok (.list (D.map .int))) (hk : fk env = .ok (.int k)) (hm : fm env = .ok (.int m)) (k0 : 0 ≤ k) (k1 : k < 2 ^ 40) (m0 : 0 < m) (hF : F = F_mix := by rfl) :
    ∃ r : Int, cCall F (aC (cV i) (aC fk (aC fm aN))) env = .ok (.int r) ∧ 0 ≤ r ∧ r < m := by
  subst hF
  obtain ⟨r, h1, h2, h3⟩ := mix_ok D k m k0 k1 m0 hD
  exact ⟨r, by rw [call3_of h0 hk hm]; exact h1, h2, h3⟩
/-- a sign drawn out of a text -/
theorem pick_str (F : List PV → R PV) {D : List Int} (hD : good D) {letters : List Nat} (hl : letters ≠ []) {env : En} {i : Nat} {fs fk fm : En → R PV} {k : Int} (hs : fs env = .ok (.str letters)) (h0 : getE env i = .ok (.list (D.map .int))) (hk : fk env = .ok (.int k)) (hm : fm env = .ok (.int letters.length)) (k0 : 0 ≤ k) (k1 : k < 2 ^ 40) (hF : F = F_mix := by rfl) :
    ∃ c, c ∈ letters ∧ cB idxP fs (cCall F (aC (cV i) (aC fk (aC fm aN)))) env = .ok (.str [c]) := by
  subst hF
  obtain ⟨j, v, h1, h2, h3⟩ := mix_get hD hl k0 k1
  refine ⟨v, h3, ?_⟩
  rw [cB_of hs ((call3_of (f := cV i) h0 hk hm).trans h1)]
  exact idx_str (atP_nat h2)
/-- an item drawn out of a list -/
theorem pick_list (F : List PV → R PV) {D : List Int} (hD : good D) {xs : List PV} (hl : xs ≠ []) {env : En} {i : Nat} {fs fk fm : En → R PV} {k : Int} (hs : fs env = .ok (.list xs)) (h0 : getE env i = .ok (.list (D.map .int))) (hk : fk env = .ok (.int k)) (hm : fm env = .ok (.int xs.length)) (k0 : 0 ≤ k) (k1 : k < 2 ^ 40) (hF : F = F_mix := by rfl) :
    ∃ v, v ∈ xs ∧ cB idxP fs (cCall F (aC (cV i) (aC fk (aC fm aN)))) env = .ok v := by
  subst hF
  obtain ⟨j, v, h1, h2, h3⟩ := mix_get hD hl k0 k1
  refine ⟨v, h3, ?_⟩
  rw [cB_of hs ((call3_of (f := cV i) h0 hk hm).trans h1)]
  exact idx_list (atP_nat h2)
/-- a word, letter by letter -/
theorem join_word {Q : Nat → Prop} {fi : En → R (List PV)} {fg : PV → En → R En} {f : En → R PV} {vs : List Nat} {env : En} {n : Nat} (h : fi env = .ok (rangeL 0 n)) (hn : n ≤ 1000)
    (hs : ∀ i : Nat, i < n → ∃ env' c, fg (.int i) (wipeE env vs) = .ok env' ∧ f env' = .ok (.str [c]) ∧ Q c) : ∃ w : List Nat, cJoin (cK (.str [])) (cComp fi fg tT f vs) env = .ok (.str w) ∧ w.length = n ∧ ∀ c ∈ w, Q c := by
  obtain ⟨ys, h1, h2, h3⟩ := compE_ex (item := itemF fg tT f (wipeE env vs)) (fun y => ∃ c, Q c ∧ y = PV.str [c]) (xs := rangeL 0 n) fun x hx => by
    obtain ⟨i, hi⟩ := List.mem_iff_getElem?.mp hx
    obtain ⟨hi2, rfl⟩ := range_get hi
    rw [Int.zero_add]
    obtain ⟨env', c, g1, g2, g3⟩ := hs i hi2
    exact ⟨.str [c], itemF_of (b := true) g1 rfl fun _ => g2, c, g3, rfl⟩
  obtain ⟨cs, rfl, h4⟩ := signs_of h3
  rw [rangeL_len, List.length_map] at h2
  refine ⟨cs, ?_, h2, h4⟩
  show (do joinP (← strR (.str [])) (← cComp fi fg tT f vs env)) = _
  rw [cComp_of h h1]
  exact join_signs cs (by omega)
theorem range_map (n : Nat) : rangeL 0 n = (List.range n).map fun i : Nat => PV.int i := by
  unfold rangeL
  exact List.map_congr_left fun i _ => by rw [Int.zero_add]
theorem range_at {n x : Nat} {pre post : List Nat} (h : List.range n = pre ++ x :: post) : x = pre.length ∧ x < n := by
  have h1 : (List.range n)[pre.length]? = some x := by rw [h]; simp
  have h2 : pre.length < n := by
    have := congrArg List.length h
    simp at this
    omega
  rw [List.getElem?_range h2] at h1
  cases h1
  exact ⟨rfl, h2⟩
end VL
set_option Elab.async false
set_option linter.all false
set_option maxRecDepth 100000
set_option maxHeartbeats 4000000
set_option autoImplicit false
/-! VM5: grouping loops, plain; sorted lists of texts' lists. -/
namespace VL
open R
theorem snoc_ind {α : Type} {P : List α → Prop} (h0 : P []) (hs : ∀ l a, P l → P (l ++ [a])) : ∀ l, P l := by
  have key : ∀ (n : Nat) (l : List α), l.length = n → P l := by
    intro n
    induction n with
    | zero =>
      intro l h
      rw [List.eq_nil_of_length_eq_zero h]
      exact h0
    | succ n ih =>
      intro l h
      have hne : l ≠ [] := fun z => by rw [z] at h; cases h
      rw [← List.dropLast_concat_getLast hne]
      exact hs _ _ (ih _ (by rw [List.length_dropLast]; omega))
  exact fun l => key _ l rfl
section
variable {α : Type} (r : α → List Nat)
/-- the keys in the order in which they come first -/
def gkeys (xs : List α) : List (List Nat) := xs.foldl (fun ks x => if r x ∈ ks then ks else ks ++ [r x]) []
theorem gkeys_snoc (xs : List α) (x : α) : gkeys r (xs ++ [x]) = if r x ∈ gkeys r xs then gkeys r xs else gkeys r xs ++ [r x] := by
  unfold gkeys
  rw [List.foldl_append]
  rfl
theorem gkeys_mem {k : List Nat} : ∀ xs : List α, k ∈ gkeys r xs ↔ ∃ x ∈ xs, r x = k := by
  refine snoc_ind (by simp [gkeys]) fun xs x ih => ?_
  rw [gkeys_snoc]
  split
  · rename_i h
    rw [ih]
    constructor
    · rintro ⟨y, h1, h2⟩
      exact ⟨y, by simp [h1], h2⟩
    · rintro ⟨y, h1, h2⟩
      rcases List.mem_append.mp h1 with q | q
      · exact ⟨y, q, h2⟩
      · rw [List.mem_singleton.mp q] at h2
        rw [← h2]
        exact ih.mp (by rw [← h2]; exact h) |> fun ⟨z, z1, z2⟩ => ⟨z, z1, by rw [z2, ← h2]⟩
  · rw [List.mem_append, ih]
    constructor
    · rintro (⟨y, h1, h2⟩ | h)
      · exact ⟨y, by simp [h1], h2⟩
      · exact ⟨x, by simp, (List.mem_singleton.mp h).symm⟩
    · rintro ⟨y, h1, h2⟩
      rcases List.mem_append.mp h1 with q | q
      · exact .inl ⟨y, q, h2⟩
      · rw [List.mem_singleton.mp q] at h2
        exact .inr (by simp [h2])
theorem gkeys_nd : ∀ xs : List α, (gkeys r xs).Nodup := by
  refine snoc_ind (by simp [gkeys]) fun xs x ih => ?_
  rw [gkeys_snoc]
  split
  · exact ih
  · rename_i h
    exact List.nodup_append.mpr ⟨ih, by simp, fun a ha b hb e => by
      rw [List.mem_singleton.mp hb] at e
      rw [e] at ha
      exact h ha⟩
theorem gkeys_len : ∀ xs : List α, (gkeys r xs).length ≤ xs.length := by
  refine snoc_ind (Nat.le_refl _) fun xs x ih => ?_
  rw [gkeys_snoc]
  split
  · rw [List.length_append]
    omega
  · rw [List.length_append, List.length_append]
    simpa using ih
/-- as many keys as items: exactly if no two have one -/
theorem gkeys_all : ∀ xs : List α, (gkeys r xs).length = xs.length ↔ (xs.map r).Nodup := by
  refine snoc_ind (by simp [gkeys]) fun xs x ih => ?_
  have hl := gkeys_len r xs
  rw [gkeys_snoc, List.map_append, List.map_cons, List.map_nil, List.nodup_append]
  split
  · rename_i h
    obtain ⟨y, h1, h2⟩ := (gkeys_mem r xs).mp h
    constructor
    · intro z
      rw [List.length_append, List.length_singleton] at z
      omega
    · rintro ⟨_, _, z⟩
      exact absurd h2 (z _ (List.mem_map.mpr ⟨y, h1, rfl⟩) _ (List.mem_singleton.mpr rfl))
  · rename_i h
    rw [List.length_append, List.length_append, List.length_singleton, List.length_singleton]
    constructor
    · intro z
      refine ⟨ih.mp (by omega), by simp, fun a ha b hb e => ?_⟩
      rw [List.mem_singleton.mp hb] at e
      obtain ⟨y, h1, h2⟩ := List.mem_map.mp ha
      exact h ((gkeys_mem r xs).mpr ⟨y, h1, by rw [h2, e]⟩)
    · rintro ⟨z, _, _⟩
      have := ih.mpr z
      omega
end
/-! ### the loop -/
theorem addG_map (g : List Nat → List PV) (d : PV) (k : List Nat) : ∀ K : List (List Nat), K.Nodup → addG (.str k) d (K.map .str) (K.map fun k' => .list (g k')) = if k ∈ K then some (K.map fun k' => PV.list (if k' = k then g k' ++ [d] else g k')) else none
  | [], _ => by
    rw [if_neg (by simp)]
    rfl
  | q :: K, nd => by
    rw [List.nodup_cons] at nd
    rw [List.map_cons, List.map_cons]
    unfold addG
    rw [eqB_str]
    by_cases e : q = k
    · subst e
      rw [if_pos (by simp), if_pos (by simp), List.map_cons, if_pos rfl]
      congr 2
      refine List.map_congr_left fun x hx => ?_
      rw [if_neg (fun z : x = q => nd.1 (z ▸ hx))]
    · rw [if_neg (by simpa using e), addG_map g d k K nd.2]
      by_cases h : k ∈ K
      · rw [if_pos h, if_pos (List.mem_cons_of_mem _ h), List.map_cons, if_neg e]
        rfl
      · rw [if_neg h, if_neg (fun z => by
          rcases List.mem_cons.mp z with z | z
          · exact e z.symm
          · exact h z)]
        rfl
section
variable {α : Type} (r : α → List Nat) (v : α → PV)
/-- the lists behind the keys -/
def gvals (xs : List α) : List PV := (gkeys r xs).map fun k => .list ((xs.filter fun x => r x == k).map v)
theorem grpS_of (xs : List α) (x : α) : grpS (.str (r x)) (v x) ((gkeys r xs).map .str) (gvals r v xs) = ((gkeys r (xs ++ [x])).map .str, gvals r v (xs ++ [x])) := by
  unfold grpS gvals
  rw [addG_map (fun k => (xs.filter fun x => r x == k).map v) (v x) (r x) (gkeys r xs) (gkeys_nd r xs), gkeys_snoc]
  by_cases h : r x ∈ gkeys r xs
  · rw [if_pos h, if_pos h]
    dsimp only
    congr 1
    refine List.map_congr_left fun k hk => ?_
    rw [List.filter_append, List.map_append]
    by_cases e : k = r x
    · rw [if_pos e, e]
      simp
    · rw [if_neg e]
      have : (r x == k) = false := by rw [beq_eq_false_iff_ne]; exact fun z => e z.symm
      simp [this]
  · rw [if_neg h, if_neg h]
    dsimp only
    rw [List.map_append, List.map_append]
    congr 1
    congr 1
    · refine List.map_congr_left fun k hk => ?_
      have e : ¬ k = r x := fun z => h (z ▸ hk)
      have : (r x == k) = false := by rw [beq_eq_false_iff_ne]; exact fun z => e z.symm
      rw [List.filter_append, List.map_append]
      simp [this]
    · rw [List.map_cons, List.map_nil, List.filter_append]
      have : xs.filter (fun y => r y == r x) = [] := List.filter_eq_nil_iff.mpr fun y hy z => h ((gkeys_mem r xs).mpr ⟨y, hy, by simpa using z⟩)
      rw [this]
      simp
/-- for x in xs: found.setdefault(r(x), []).append(v(x)) -/
theorem sGrp_of {ia : α → PV} {i : Nat} {fi : En → R (List PV)} {fg : PV → En → R En} {fk fe : En → R PV} {env : En} {xs : List α} (Q : En → Prop) (h0 : fi env = .ok (xs.map ia)) (hi : getE env i = .ok (.dict false [] [])) (hq : Q (env.set i none))
    (hs : ∀ x ∈ xs, ∀ e, Q e → ∃ e', fg (ia x) e = .ok e' ∧ fk e' = .ok (.str (r x)) ∧ fe e' = .ok (v x) ∧ Q e') : ∃ e', Q e' ∧ sGrp i fi fg fk fe env = .ok (.nx (e'.set i (some (.dict false ((gkeys r xs).map .str) (gvals r v xs))))) := by
  have key : ∀ (post pre : List α) (e : En), xs = pre ++ post → Q e → ∃ e', Q e' ∧ grpL fg fk fe (post.map ia) e ((gkeys r pre).map .str) (gvals r v pre) = .ok (e', (gkeys r xs).map .str, gvals r v xs) := by
    intro post
    induction post with
    | nil =>
      intro pre e he hQ
      rw [List.append_nil] at he
      rw [he]
      exact ⟨e, hQ, rfl⟩
    | cons x post ih =>
      intro pre e he hQ
      obtain ⟨e1, h1, h2, h3, h4⟩ := hs x (by rw [he]; simp) e hQ
      obtain ⟨e2, h5, h6⟩ := ih (pre ++ [x]) e1 (by rw [he]; simp) h4
      refine ⟨e2, h5, ?_⟩
      rw [List.map_cons]
      unfold grpL
      rw [h1, bind_ok, h2, bind_ok]
      show (do
        let d ← fe e1
        grpL fg fk fe (post.map ia) e1 (grpS (.str (r x)) d ((gkeys r pre).map .str) (gvals r v pre)).1 (grpS (.str (r x)) d ((gkeys r pre).map .str) (gvals r v pre)).2) = _
      rw [h3, bind_ok, grpS_of]
      exact h6
  obtain ⟨e', h1, h2⟩ := key xs [] (env.set i none) rfl hq
  refine ⟨e', h1, ?_⟩
  show (do
    let items ← fi env
    match (← getE env i) with
    | .dict false [] [] => do
      let z ← grpL fg fk fe items (env.set i none) [] []
      R.ok (Fl.nx (z.1.set i (some (.dict false z.2.1 z.2.2))))
    | _ => .bad) = _
  rw [h0, bind_ok, hi, bind_ok]
  show (do
      let z ← grpL fg fk fe (xs.map ia) (env.set i none) [] []
      R.ok (Fl.nx (z.1.set i (some (PV.dict false z.2.1 z.2.2))))) = _
  have h3 : grpL fg fk fe (xs.map ia) (env.set i none) [] [] = .ok (e', (gkeys r xs).map .str, gvals r v xs) := h2
  rw [h3]
  rfl
end
theorem sorted3_strs {K : List (List Nat)} {vs : List PV} (h1 : K.length < 64) (h2 : ∀ k ∈ K, sok k = true ∧ k.length ≤ LN) : sorted3P (.dict false (K.map .str) vs) = .ok (.list ((sortN K).map .str)) := by
  show (match strsP (K.map PV.str) with
    | some l => if decide (l.length < 64) && l.all (fun y => sok y && decide (y.length ≤ LN)) then R.ok (PV.list ((sortN l).map .str)) else .bad
    | none => .bad) = _
  rw [strsP_map]
  dsimp only
  rw [if_pos]
  rw [Bool.and_eq_true, decide_eq_true_eq]
  exact ⟨h1, List.all_eq_true.mpr fun y hy => by
    obtain ⟨a, b⟩ := h2 y hy
    rw [a, Bool.true_and, decide_eq_true_eq]
    exact b⟩
/-- found[k] -/
theorem lookP_map (g : List Nat → PV) {k : List Nat} : ∀ {K : List (List Nat)}, k ∈ K → lookP (.str k) (K.map .str) (K.map g) = some (g k)
  | q :: K, h => by
    rw [List.map_cons, List.map_cons]
    unfold lookP
    rw [eqB_str]
    by_cases e : q = k
    · rw [if_pos (by simpa using e), e]
    · rw [if_neg (by simpa using e)]
      rcases List.mem_cons.mp h with z | z
      · exact absurd z.symm e
      · exact lookP_map g z
theorem idx_map (g : List Nat → PV) {k : List Nat} {K : List (List Nat)} (h : k ∈ K) : idxP (.dict false (K.map .str) (K.map g)) (.str k) = .ok (g k) := by
  show (if dkOk false (.str k) then (match lookP (.str k) (K.map .str) (K.map g) with | some v => R.ok v | none => R.bad) else R.bad) = _
  rw [lookP_map g h]
  rfl
/-! ### lists of lists of texts -/
abbrev lSt (l : List (List Nat)) : PV := .list (l.map .str)
theorem dataBs_lSt : ∀ l : List (List (List Nat)), dataBs (l.map lSt) = true
  | [] => rfl
  | x :: l => by
    show (dataB (lSt x) && dataBs (l.map lSt)) = true
    rw [dataBs_lSt l, Bool.and_true]
    exact dataBs_str x
theorem depthPs_lSt : ∀ l : List (List (List Nat)), depthPs (l.map lSt) ≤ 1
  | [] => Nat.zero_le _
  | x :: l => by
    show max (depthPs (x.map PV.str) + 1) (depthPs (l.map lSt)) ≤ 1
    rw [depthPs_str]
    exact Nat.max_le.mpr ⟨Nat.le_refl _, depthPs_lSt l⟩
theorem cmp_lSt (l : List (List (List Nat))) : cmpOk (.list (l.map lSt)) = true := by
  show (dataBs (l.map lSt) && decide (depthPs (l.map lSt) + 1 ≤ 64)) = true
  rw [dataBs_lSt, Bool.true_and]
  have := depthPs_lSt l
  exact decide_eq_true (by omega)
theorem alike_strs : ∀ a b : List (List Nat), PySem.W.alikeAll (toDs (a.map .str)) (toDs (b.map .str)) = true
  | [], [] => rfl
  | [], _ :: _ => rfl
  | _ :: _, [] => rfl
  | x :: a, y :: b => by
    show PySem.W.alikeAll (toD (.str x) :: toDs (a.map .str)) (toD (.str y) :: toDs (b.map .str)) = true
    unfold PySem.W.alikeAll
    rw [alike_strs a b]
    rfl
theorem sort_lSt (l : List (List (List Nat))) : ∃ sl : List (List (List Nat)), sorted2P (.list (l.map lSt)) = .ok (.list (sl.map lSt)) ∧ sl.Perm l ∧ sl.Pairwise fun a b => leV (lSt a) (lSt b) = true := by
  cases hl : l with
  | nil => exact ⟨[], rfl, .refl _, .nil⟩
  | cons r0 l0 =>
    rw [← hl]
    refine ⟨l.mergeSort fun a b => leV (lSt a) (lSt b), ?_, List.mergeSort_perm _ _, ?_⟩
    · have e1 : strsP (l.map lSt) = none := by rw [hl]; rfl
      have e2 : intsP (l.map lSt) = none := by rw [hl]; rfl
      have e3 : srtB (l.map lSt) = true := by
        unfold srtB
        rw [Bool.and_eq_true, Bool.or_eq_true]
        refine ⟨List.all_eq_true.mpr fun a ha => List.all_eq_true.mpr fun b hb => ?_, .inr (List.all_eq_true.mpr fun a ha => ?_)⟩
        · obtain ⟨u, _, rfl⟩ := List.mem_map.mp ha
          obtain ⟨v, _, rfl⟩ := List.mem_map.mp hb
          show PySem.W.alike (.list (toDs (u.map .str))) (.list (toDs (v.map .str))) = true
          unfold PySem.W.alike
          exact alike_strs u v
        · obtain ⟨u, _, rfl⟩ := List.mem_map.mp ha
          rfl
      have e4 := cmp_lSt l
      show (match strsP (l.map lSt) with
        | some l => R.ok (PV.list ((sortN l).map PV.str))
        | none => match intsP (l.map lSt) with
          | some l => R.ok (PV.list ((sortI l).map PV.int))
          | none => if srtB (l.map lSt) && cmpOk (.list (l.map lSt)) then R.ok (PV.list (sortV (l.map lSt))) else R.bad) = _
      rw [e1, e2, e3, e4]
      show R.ok (PV.list (sortV (l.map lSt))) = _
      unfold sortV
      rw [List.map_mergeSort (s := leV) fun a _ b _ => rfl]
    · have z := PySem.W.sort_pairwise (PySem.W.sortLe_total (PyProof.Rows.listOrd PyProof.Rows.itemOrd) false fun w : List (List Nat) => PySem.W.keyToks (toD (lSt w))) l
      exact z
end VL
set_option Elab.async false
set_option linter.all false
set_option maxRecDepth 100000
set_option maxHeartbeats 4000000
set_option autoImplicit false
/-! VM6: equal data; greatest numbers. -/
namespace VL
open R
mutual
theorem eqB_refl : ∀ {a : PV}, dataB a = true → eqB a a = true
  | .none, _ => by unfold eqB; rfl
  | .bool x, _ => by unfold eqB; exact beq_self_eq_true x
  | .int x, _ => by unfold eqB; exact beq_self_eq_true x
  | .str x, _ => by unfold eqB; exact beq_self_eq_true x
  | .list xs, h => by
    unfold dataB at h
    unfold eqB
    exact eqBs_refl h
  | .tup xs, h => by
    unfold dataB at h
    unfold eqB
    exact eqBs_refl h
  | .dict _ _ _, h => by unfold dataB at h; cases h
  | .set _, h => by unfold dataB at h; cases h
  | .kn _, h => by unfold dataB at h; cases h
  | .fn _, h => by unfold dataB at h; cases h
  | .exn _ _, h => by unfold dataB at h; cases h
theorem eqBs_refl : ∀ {a : List PV}, dataBs a = true → eqBs a a = true
  | [], _ => by unfold eqBs; rfl
  | x :: xs, h => by
    unfold dataBs at h
    rw [Bool.and_eq_true] at h
    unfold eqBs
    rw [eqB_refl h.1, eqBs_refl h.2]
    rfl
end
theorem ne_refl {a : PV} (h : cmpOk a = true) : neP a a = .ok (.bool false) := by
  have h1 : dataB a = true := (Bool.and_eq_true_iff.mp (show (dataB a && decide (depthP a ≤ 64)) = true from h)).1
  unfold neP
  rw [h]
  show R.ok (PV.bool (!eqB a a)) = _
  rw [eqB_refl h1]
  rfl
theorem eq_refl {a : PV} (h : cmpOk a = true) : eqP a a = .ok (.bool true) := by
  have h1 : dataB a = true := (Bool.and_eq_true_iff.mp (show (dataB a && decide (depthP a ≤ 64)) = true from h)).1
  unfold eqP
  rw [h]
  show R.ok (PV.bool (eqB a a)) = _
  rw [eqB_refl h1]
/-- max of numbers -/
theorem max_nats : ∀ {l : List Nat}, l ≠ [] → ∃ m, m ∈ l ∧ maxI (l.map fun n : Nat => (n : Int)) = (m : Nat) ∧ ∀ x ∈ l, x ≤ m
  | [], h => absurd rfl h
  | [x], _ => ⟨x, .head _, rfl, fun y hy => by rw [List.mem_singleton.mp hy]; exact Nat.le_refl _⟩
  | x :: y :: l, _ => by
    obtain ⟨m, h1, h2, h3⟩ := max_nats (l := y :: l) (by simp)
    have e : maxI ((x :: y :: l).map fun n : Nat => (n : Int)) = max (x : Int) (maxI ((y :: l).map fun n : Nat => (n : Int))) := rfl
    rw [e, h2]
    rcases Nat.le_total x m with q | q
    · exact ⟨m, .tail _ h1, by omega, fun z hz => by
        rcases List.mem_cons.mp hz with rfl | hz
        · exact q
        · exact h3 z hz⟩
    · exact ⟨x, .head _, by omega, fun z hz => by
        rcases List.mem_cons.mp hz with rfl | hz
        · exact Nat.le_refl _
        · exact Nat.le_trans (h3 z hz) q⟩
theorem max1_nats {l : List Nat} (h : l ≠ []) : ∃ m, m ∈ l ∧ max1P (.list (l.map fun n : Nat => PV.int (n : Int))) = .ok (.int (m : Nat)) ∧ ∀ x ∈ l, x ≤ m := by
  obtain ⟨m, h1, h2, h3⟩ := max_nats h
  refine ⟨m, h1, ?_, h3⟩
  have e : (l.map fun n : Nat => PV.int (n : Int)) = (l.map fun n : Nat => (n : Int)).map PV.int := by rw [List.map_map]; rfl
  show (match intsP (l.map fun n : Nat => PV.int (n : Int)) with | some (i :: l) => R.ok (PV.int (maxI (i :: l))) | _ => .bad) = _
  rw [e, intsP_map]
  cases l with
  | nil => exact absurd rfl h
  | cons x r => exact congrArg (fun i => R.ok (PV.int i)) h2
end VL
set_option Elab.async false
set_option linter.all false
set_option maxRecDepth 100000
set_option maxHeartbeats 4000000
set_option autoImplicit false
/-! VER: errors that are due: None, or (a name, a number). -/
namespace VL
open R
abbrev Due := Option (List Nat × Int)
def N2 : Due → PV
  | none => .none
  | some p => .tup [.str p.1, .int p.2]
/-- a or b -/
def orD : Due → Due → Due
  | none, b => b
  | some p, _ => some p
def ifD (b : Bool) (p : List Nat × Int) : Due := if b = true then some p else none
theorem cmp_N2 (a : Due) : cmpOk (N2 a) = true := by cases a <;> rfl
theorem data_N2 : ∀ l : List Due, dataBs (l.map N2) = true
  | [] => rfl
  | a :: l => by
    show (dataB (N2 a) && dataBs (l.map N2)) = true
    rw [data_N2 l]
    cases a <;> rfl
theorem depth_N2 : ∀ l : List Due, depthPs (l.map N2) ≤ 1
  | [] => Nat.zero_le _
  | a :: l => by
    show max (depthP (N2 a)) (depthPs (l.map N2)) ≤ 1
    have := depth_N2 l
    have h2 : depthP (N2 a) ≤ 1 := by
      cases a with
      | none => exact Nat.zero_le _
      | some p => exact Nat.le_refl _
    omega
theorem cmp_N2s (l : List Due) : cmpOk (.list (l.map N2)) = true := by
  have h1 := data_N2 l
  have h2 := depth_N2 l
  unfold cmpOk
  rw [Bool.and_eq_true]
  refine ⟨h1, ?_⟩
  have : depthP (.list (l.map N2)) ≤ 2 := by
    show depthPs (l.map N2) + 1 ≤ 2
    omega
  simp only [decide_eq_true_eq]
  omega
theorem cOr_N2 {f g : En → R PV} {env : En} {a b : Due} (h1 : f env = .ok (N2 a)) (h2 : g env = .ok (N2 b)) : cOr f g env = .ok (N2 (orD a b)) := by
  show (do
    let x ← f env
    if (← truP x) = true then .ok x else g env) = _
  rw [h1]
  cases a with
  | none => exact h2
  | some p => rfl
theorem pickF_N2 {fB fx : En → R PV} {env : En} {b : Bool} {p : List Nat × Int} (hB : fB env = .ok (.bool b)) (hx : fx env = .ok (N2 (some p))) : cB idxP (cLst (aC (cK .none) (aC fx aN))) (cU intP fB) env = .ok (N2 (ifD b p)) := by
  refine (cB_of (lst2_of (f := cK .none) rfl hx) (cU_of (o := intP) hB)).trans ?_
  cases b <;> rfl
theorem pickT_N2 {fB fx : En → R PV} {env : En} {b : Bool} {p : List Nat × Int} (hB : fB env = .ok (.bool b)) (hx : fx env = .ok (N2 (some p))) : cB idxP (cLst (aC fx (aC (cK .none) aN))) (cU intP fB) env = .ok (N2 (ifD (!b) p)) := by
  refine (cB_of (lst2_of (g := cK .none) hx rfl) (cU_of (o := intP) hB)).trans ?_
  cases b <;> rfl
theorem pair_N2 {fn : En → R PV} {env : En} {s : List Nat} {n : Int} (h : fn env = .ok (.int n)) : cTup (aC (cK (.str s)) (aC fn aN)) env = .ok (N2 (some (s, n))) := tup2_of (f := cK (.str s)) rfl h
theorem cNot_of {f : En → R PV} {env : En} {b : Bool} (h : f env = .ok (.bool b)) : cNot f env = .ok (.bool (!b)) := by
  show (do R.ok (PV.bool (!(← truP (← f env))))) = _
  rw [h]
  rfl
/-- 'a <= x <= b' of whole numbers -/
theorem cCh_int {f g h : En → R PV} {env : En} {a x b : Int} (h1 : f env = .ok (.int a)) (h2 : g env = .ok (.int x)) (h3 : h env = .ok (.int b)) : cCh leP leP f g h env = .ok (.bool (decide (a ≤ x) && decide (x ≤ b))) := by
  show (do
    let x ← f env
    let y ← g env
    let k ← boolP (← leP x y)
    if k = true then do leP y (← h env) else R.ok (PV.bool false)) = _
  rw [h1, h2]
  show (if (decide (a ≤ x)) = true then (do leP (.int x) (← h env)) else R.ok (PV.bool false)) = _
  by_cases q : a ≤ x
  · rw [decide_eq_true q, if_pos rfl, h3]
    rfl
  · rw [decide_eq_false q, if_neg Bool.false_ne_true]
    rfl
/-! ### what is raised -/
def isD : R PV → Due → Bool
  | .ok .none, none => true
  | .ok (.tup [.str s, .int n]), some p => s == p.1 && n == p.2
  | _, _ => false
theorem isD_ok {r : R PV} {a : Due} (h : isD r a = true) : r = .ok (N2 a) := by
  unfold isD at h
  split at h
  · rfl
  · rw [Bool.and_eq_true] at h
    rw [eq_of_beq h.1, eq_of_beq h.2]
    rfl
  · cases h
/-- a try whose body is one call -/
def hW (cs : List ((Nat → Bool) × (Nat → PV → PV))) : R PV → R PV
  | .ok _ => .ok .none
  | .exc c d => do match (← hdlP cs c d) with | .nx _ => R.ok PV.none | .rt d => .ok d
  | .bad => .bad
theorem hdl_nx {c : Nat} {d : PV} : ∀ {cs : List ((Nat → Bool) × (Nat → PV → PV))} {env : En}, hdlP cs c d ≠ .ok (.nx env)
  | [], _, h => nomatch h
  | (s, g) :: r, env, h => by
    unfold hdlP at h
    split at h
    · split at h
      · cases h
      · cases h
    · exact hdl_nx h
theorem try_hW {n : Nat} {fs : En → R Fl} {cs : List ((Nat → Bool) × (Nat → PV → PV))} {ds : List PV} {r : R PV} (h : fs (env0 n ds) = (do let _ ← r; R.ok (Fl.nx (env0 n ds)))) : runF n (seqF (tryP fs cs) (sRet (cK .none))) ds = hW cs r := by
  unfold runF seqF tryP
  rw [h]
  cases r with
  | ok d => rfl
  | exc c d =>
    show (do match (← (do match (← hdlP cs c d) with | .nx env' => sRet (cK .none) env' | .rt d => R.ok (Fl.rt d))) with | .nx _ => R.ok PV.none | .rt d => .ok d) = (do match (← hdlP cs c d) with | .nx _ => R.ok PV.none | .rt d => .ok d)
    cases e : hdlP cs c d with
    | ok fl =>
      cases fl with
      | nx env => exact absurd e hdl_nx
      | rt d => rfl
    | exc c d => rfl
    | bad => rfl
  | bad => rfl
theorem sEx_hW {f : En → R PV} {env : En} {r : R PV} (h : f env = r) : sEx f env = (do let _ ← r; R.ok (Fl.nx env)) := by
  rw [← h]
/-- the law's turns: each keeps what P tells, or goes on -/
theorem turns_ok {n j : Nat} {fs : En → R Fl} {env : En} (P : En → Prop) (h0 : P env) (hn : n ≤ 1000) (hs : ∀ (k : Nat) (env : En), k < n → P env → ∃ env', (do fs (← gN j (.int (k : Int)) env)) = R.ok (Fl.nx env') ∧ P env') : ∃ env', sFor (iR1 (cK (.int (n : Int)))) (gN j) fs env = .ok (.nx env') ∧ P env' := by
  have hl := for_tf (α := Nat) (fun i : Nat => .int (i : Int)) (fun _ env => P env) (fi := iR1 (cK (.int (n : Int)))) (fg := gN j) (fs := fs) (env := env) (xs := List.range n) ((iR1_of (x := .int ((n : Nat) : Int)) rfl).trans ((range1_ok (by omega)).trans (congrArg R.ok (range_map n)))) h0 fun pre k post env hx he => hs k env (range_at hx).2 he
  exact hl
/-- [f(k) for k in range(n)] -/
theorem comp_range {β : Type} {n j : Nat} {ib : β → PV} {f : En → R PV} {env : En} {g : Nat → β} (hn : n ≤ 1000) (hs : ∀ k, k < n → ∃ env', gN j (.int (k : Int)) (wipeE env [j]) = .ok env' ∧ f env' = .ok (ib (g k))) : cComp (iR1 (cK (.int (n : Int)))) (gN j) tT f [j] env = .ok (.list (((List.range n).map g).map ib)) :=
  comp_m (α := Nat) (β := β) (fun i : Nat => .int (i : Int)) ib g ((iR1_of (x := .int ((n : Nat) : Int)) rfl).trans ((range1_ok (by omega)).trans (congrArg R.ok (range_map n)))) fun k hk => hs k (List.mem_range.mp hk)
/-- f goes on, to where P holds -/
def Goes (P : En → Prop) (f : En → R Fl) (env : En) : Prop := ∃ env', f env = .ok (.nx env') ∧ P env'
theorem goes_seq {P : En → Prop} {f g : En → R Fl} {env env1 : En} (h : f env = .ok (.nx env1)) (h2 : Goes P g env1) : Goes P (seqF f g) env := by
  obtain ⟨env', e1, e2⟩ := h2
  exact ⟨env', (seq_nx h).trans e1, e2⟩
theorem goes_end {P : En → Prop} {f : En → R Fl} {env env1 : En} (h : f env = .ok (.nx env1)) (h2 : P env1) : Goes P f env := ⟨env1, h, h2⟩
theorem aC_of {f : En → R PV} {g : En → R (List PV)} {env : En} {x : PV} {l : List PV} (h1 : f env = .ok x) (h2 : g env = .ok l) : aC f g env = .ok (x :: l) := by
  show (do
    let x ← f env
    let l ← g env
    R.ok (x :: l)) = _
  rw [h1, h2]
  rfl
theorem cLst_of {a : En → R (List PV)} {env : En} {l : List PV} (h : a env = .ok l) (hl : l.length ≤ LN) : cLst a env = .ok (.list l) := by
  show (do
    let l ← a env
    lim l.length (R.ok (PV.list l))) = _
  rw [h]
  exact lim_ok hl
theorem sAsg_of {f : En → R PV} {fg : PV → En → R En} {env env' : En} {d : PV} (h1 : f env = .ok d) (h2 : fg d env = .ok env') : sAsg f fg env = .ok (.nx env') := by
  show (do
    let d ← f env
    R.ok (Fl.nx (← fg d env))) = _
  rw [h1]
  show (do R.ok (Fl.nx (← fg d env))) = _
  rw [h2]
  rfl
end VL
set_option Elab.async false
set_option linter.all false
set_option maxRecDepth 100000
set_option maxHeartbeats 4000000
set_option autoImplicit false
/-! VEQ: things drawn out of lists; comparisons. -/
namespace VL
open R
/-- an item drawn out of a list of n -/
theorem draw_at (F : List PV → R PV) {D : List Int} (gD : good D) {xs : List PV} {n : Nat} {v : Nat → PV} (hv : ∀ i, i < n → xs[i]? = some (v i)) {env : En} {fs fk fm : En → R PV} {k m : Nat} (hs : fs env = .ok (.list xs)) (h0 : getE env 1 = .ok (.list (D.map .int))) (hk : fk env = .ok (.int (k : Int))) (hm : fm env = .ok (.int (m : Int))) (k1 : k ≤ 100000) (m0 : 0 < m) (mn : m ≤ n) (hF : F = F_mix := by rfl) :
    ∃ i, i < n ∧ cB idxP fs (cCall F (aC (cV 1) (aC fk (aC fm aN)))) env = .ok (v i) := by
  obtain ⟨r, r1, r2, r3⟩ := mix_in F gD (env := env) (i := 1) (fk := fk) (fm := fm) (k := (k : Int)) (m := (m : Int)) h0 hk hm (by omega) (by omega) (by omega) hF
  obtain ⟨i, hi⟩ : ∃ i : Nat, r = i := ⟨r.toNat, by omega⟩
  subst hi
  refine ⟨i, by omega, ?_⟩
  exact (cB_of (o := idxP) hs r1).trans (idx_list (atP_nat (hv i (by omega))))
/-- the same, how many being drawn out of two numbers -/
theorem draw2_at (F : List PV → R PV) {D : List Int} (gD : good D) {xs : List PV} {n : Nat} {v : Nat → PV} (hv : ∀ i, i < n → xs[i]? = some (v i)) {env : En} {fs fk fk2 : En → R PV} {k k2 a b : Nat} (hs : fs env = .ok (.list xs)) (h0 : getE env 1 = .ok (.list (D.map .int))) (hk : fk env = .ok (.int (k : Int))) (hk2 : fk2 env = .ok (.int (k2 : Int))) (k1 : k ≤ 100000) (k3 : k2 ≤ 100000) (a0 : 0 < a) (an : a ≤ n) (b0 : 0 < b) (bn : b ≤ n) (hF : F = F_mix := by rfl) :
    ∃ i, i < n ∧ cB idxP fs (cCall F (aC (cV 1) (aC fk (aC (cB idxP (cLst (aC (cK (.int (a : Int))) (aC (cK (.int (b : Int))) aN))) (cCall F (aC (cV 1) (aC fk2 (aC (cK (.int 2)) aN))))) aN)))) env = .ok (v i) := by
  obtain ⟨w, w1, w2⟩ := pick_list F gD (xs := [.int (a : Int), .int (b : Int)]) (by simp) (env := env) (i := 1) (fs := cLst (aC (cK (.int (a : Int))) (aC (cK (.int (b : Int))) aN))) (fk := fk2) (fm := cK (.int 2)) (k := (k2 : Int)) (lst2_of rfl rfl) h0 hk2 rfl (by omega) (by omega) hF
  simp only [List.mem_cons, List.not_mem_nil, or_false] at w1
  rcases w1 with rfl | rfl
  · exact draw_at F gD (m := a) hv hs h0 hk w2 k1 a0 an hF
  · exact draw_at F gD (m := b) hv hs h0 hk w2 k1 b0 bn hF
theorem at_add {env : En} {f : En → R PV} {n k : Nat} (h : f env = .ok (.int (n : Int))) : cB addP f (cK (.int (k : Int))) env = .ok (.int ((n + k : Nat) : Int)) := (cB_of (o := addP) h (y := .int (k : Int)) rfl).trans rfl
theorem at_turn {env : En} {a b j q : Nat} (h : getE env j = .ok (.int (q : Int))) (hb : b < 1000) (hq : q < 1000) : cB addP (cK (.int (a : Int))) (cB mulP (cK (.int (b : Int))) (cV j)) env = .ok (.int ((a + b * q : Nat) : Int)) := by
  refine (cB_of (o := addP) (x := .int (a : Int)) (y := .int ((b : Int) * (q : Int))) rfl ((cB_of (o := mulP) (f := cK (.int (b : Int))) (x := .int (b : Int)) (y := .int (q : Int)) rfl h).trans (mul_int (by omega)))).trans ?_
  show R.ok (PV.int ((a : Int) + (b : Int) * (q : Int))) = _
  refine congrArg (fun i : Int => R.ok (PV.int i)) ?_
  rw [Int.natCast_add, Int.natCast_mul]
theorem cChL_int {f g h : En → R PV} {env : En} {a x b : Int} (h1 : f env = .ok (.int a)) (h2 : g env = .ok (.int x)) (h3 : h env = .ok (.int b)) : cCh leP ltP f g h env = .ok (.bool (decide (a ≤ x) && decide (x < b))) := by
  show (do
    let x ← f env
    let y ← g env
    let k ← boolP (← leP x y)
    if k = true then do ltP y (← h env) else R.ok (PV.bool false)) = _
  rw [h1, h2]
  show (if (decide (a ≤ x)) = true then (do ltP (.int x) (← h env)) else R.ok (PV.bool false)) = _
  by_cases q : a ≤ x
  · rw [decide_eq_true q, if_pos rfl, h3]
    rfl
  · rw [decide_eq_false q, if_neg Bool.false_ne_true]
    rfl
theorem tChL_int {f g h : En → R PV} {env : En} {a x b : Int} (h1 : f env = .ok (.int a)) (h2 : g env = .ok (.int x)) (h3 : h env = .ok (.int b)) : tCh leP ltP f g h env = .ok (decide (a ≤ x) && decide (x < b)) := by
  show (do
    let x ← f env
    let y ← g env
    let k ← boolP (← leP x y)
    if k = true then do boolP (← ltP y (← h env)) else R.ok false) = _
  rw [h1, h2]
  show (if (decide (a ≤ x)) = true then (do boolP (← ltP (.int x) (← h env))) else R.ok false) = _
  by_cases q : a ≤ x
  · rw [decide_eq_true q, if_pos rfl, h3]
    rfl
  · rw [decide_eq_false q, if_neg Bool.false_ne_true]
    rfl
theorem len_of {α : Type} {ia : α → PV} {f : En → R PV} {env : En} {l : List α} (h : f env = .ok (.list (l.map ia))) : cU lenP f env = .ok (.int (l.length : Nat)) := by
  refine (cU_of (o := lenP) h).trans ?_
  show R.ok (PV.int (l.map ia).length) = _
  rw [List.length_map]
theorem ne_nil_ints (l : List Int) : neP (.list (l.map .int)) (.list []) = .ok (.bool (!l.isEmpty)) := by
  unfold neP
  rw [cmp_ints]
  cases l <;> rfl
/-- (l + [0])[0] -/
theorem head_ints {f : En → R PV} {env : En} {l : List Int} (h : f env = .ok (.list (l.map .int))) (hl : l.length ≤ 1000) : cB idxP (cB addP f (cLst (aC (cK (.int 0)) aN))) (cK (.int 0)) env = .ok (.int ((l ++ [0]).headD 0)) := by
  have e : cB addP f (cLst (aC (cK (.int 0)) aN)) env = .ok (.list ((l ++ [0]).map .int)) := by
    refine (cB_of (o := addP) h (lst1_of rfl)).trans ?_
    show lim _ _ = _
    rw [lim_ok (by rw [List.length_map, List.length_singleton]; show _ ≤ 16777216; omega), List.map_append]
    rfl
  refine (cB_of (o := idxP) e (y := .int 0) rfl).trans ?_
  cases l with
  | nil => exact idx_list (atP_nat (j := 0) rfl)
  | cons a l => exact idx_list (atP_nat (j := 0) rfl)
theorem tCh_int {f g h : En → R PV} {env : En} {a x b : Int} (h1 : f env = .ok (.int a)) (h2 : g env = .ok (.int x)) (h3 : h env = .ok (.int b)) : tCh leP leP f g h env = .ok (decide (a ≤ x) && decide (x ≤ b)) := by
  show (do
    let x ← f env
    let y ← g env
    let k ← boolP (← leP x y)
    if k = true then do boolP (← leP y (← h env)) else R.ok false) = _
  rw [h1, h2]
  show (if (decide (a ≤ x)) = true then (do boolP (← leP (.int x) (← h env))) else R.ok false) = _
  by_cases q : a ≤ x
  · rw [decide_eq_true q, if_pos rfl, h3]
    rfl
  · rw [decide_eq_false q, if_neg Bool.false_ne_true]
    rfl
theorem try_env {fs : En → R Fl} {cs : List ((Nat → Bool) × (Nat → PV → PV))} {env : En} {r : R PV} (h : fs env = (do let _ ← r; R.ok (Fl.nx env))) : (do match (← seqF (tryP fs cs) (sRet (cK .none)) env) with | .nx _ => R.ok PV.none | .rt d => .ok d) = hW cs r := by
  unfold seqF tryP
  rw [h]
  cases r with
  | ok d => rfl
  | exc c d =>
    show (do match (← (do match (← hdlP cs c d) with | .nx env' => sRet (cK .none) env' | .rt d => R.ok (Fl.rt d))) with | .nx _ => R.ok PV.none | .rt d => .ok d) = (do match (← hdlP cs c d) with | .nx _ => R.ok PV.none | .rt d => .ok d)
    cases e : hdlP cs c d with
    | ok fl =>
      cases fl with
      | nx env => exact absurd e hdl_nx
      | rt d => rfl
    | exc c d => rfl
    | bad => rfl
  | bad => rfl
/-- a statement ahead of the try -/
theorem try_hW2 {n : Nat} {s fs : En → R Fl} {cs : List ((Nat → Bool) × (Nat → PV → PV))} {ds : List PV} {env1 : En} {r : R PV} (hs : s (env0 n ds) = .ok (.nx env1)) (h : fs env1 = (do let _ ← r; R.ok (Fl.nx env1))) : runF n (seqF s (seqF (tryP fs cs) (sRet (cK .none)))) ds = hW cs r := by
  rw [← try_env (cs := cs) h]
  unfold runF
  rw [seq_nx hs]
  try rfl
theorem addL {xs ys : List PV} (h : (xs.length + ys.length).ble 16777216 = true := by rfl) : addP (.list xs) (.list ys) = .ok (.list (xs ++ ys)) := by
  show lim _ _ = _
  rw [lim_ok (by have := Nat.le_of_ble_eq_true h; exact this)]
end VL
set_option Elab.async false
set_option linter.all false
set_option maxRecDepth 100000
set_option maxHeartbeats 4000000
set_option autoImplicit false
/-! VM7: while, slices, what is put in once. -/
namespace VL
open R
theorem while_end {t : En → R Bool} {b : En → R Fl} {m : Nat} {env : En} (h : t env = .ok false) : whileE t b (m + 1) env = .ok (.nx env) := by
  unfold whileE
  rw [h]
  rfl
theorem while_on {t : En → R Bool} {b : En → R Fl} {m : Nat} {env env' : En} (h : t env = .ok true) (h2 : b env = .ok (.nx env')) : whileE t b (m + 1) env = whileE t b m env' := by
  conv => lhs; unfold whileE
  rw [h]
  show (do
      match (← b env) with
      | Fl.nx env' => whileE t b m env'
      | Fl.rt d => R.ok (Fl.rt d)) = _
  rw [h2]
  rfl
theorem cutTo {α : Type} {xs : List α} {k : Nat} : cutL xs none (some (k : Int)) = xs.take k := by
  unfold cutL cutIx
  dsimp only
  rw [if_neg (by omega)]
  simp only [Int.toNat_natCast, List.drop_zero, Nat.sub_zero]
  rcases Nat.le_total k xs.length with h | h
  · rw [Nat.min_eq_left h]
  · rw [Nat.min_eq_right h, List.take_of_length_le h]
    exact List.take_of_length_le (Nat.le_refl _)
theorem cutFrom {α : Type} {xs : List α} {k : Nat} : cutL xs (some (k : Int)) none = xs.drop k := by
  unfold cutL cutIx
  dsimp only
  rw [if_neg (by omega)]
  simp only [Int.toNat_natCast]
  rcases Nat.le_total k xs.length with h | h
  · rw [Nat.min_eq_left h]
    exact List.take_of_length_le (by rw [List.length_drop]; omega)
  · rw [Nat.min_eq_right h, List.drop_eq_nil_of_le h, List.drop_eq_nil_of_le (Nat.le_refl _)]
    exact List.take_nil
theorem cSl_from {f : En → R PV} {g : En → R PV} {env : En} {x : List Nat} {k : Nat} (h : f env = .ok (.str x)) (hg : g env = .ok (.int (k : Int))) : cSl f (oS g) oN env = .ok (.str (x.drop k)) := by
  show (do
    let x ← f env
    let lo ← (do partP (← g env))
    sliceP x lo none) = _
  rw [h]
  show (do
    let lo ← (do partP (← g env))
    sliceP (.str x) lo none) = _
  rw [hg]
  show R.ok (PV.str (cutL x (some (k : Int)) none)) = _
  rw [cutFrom]
theorem cSl_to {f : En → R PV} {g : En → R PV} {env : En} {x : List Nat} {k : Nat} (h : f env = .ok (.str x)) (hg : g env = .ok (.int (k : Int))) : cSl f oN (oS g) env = .ok (.str (x.take k)) := by
  show (do
    let x ← f env
    let hi ← (do partP (← g env))
    sliceP x none hi) = _
  rw [h]
  show (do
    let hi ← (do partP (← g env))
    sliceP (.str x) none hi) = _
  rw [hg]
  show R.ok (PV.str (cutL x none (some (k : Int)))) = _
  rw [cutTo]
theorem add_str {x y : List Nat} (h : x.length + y.length ≤ 16777216) : addP (.str x) (.str y) = .ok (.str (x ++ y)) := by
  show lim _ _ = _
  exact lim_ok h
theorem sorted_strs (l : List (List Nat)) : sorted2P (.list (l.map .str)) = .ok (.list ((sortN l).map .str)) := by
  show (match strsP (l.map .str) with
        | some l => R.ok (PV.list ((sortN l).map PV.str))
        | none => match intsP (l.map .str) with
          | some l => R.ok (PV.list ((sortI l).map PV.int))
          | none => if srtB (l.map .str) && cmpOk (.list (l.map .str)) then R.ok (PV.list (sortV (l.map .str))) else R.bad) = _
  rw [strsP_map]
theorem forE_app {body : PV → En → R Fl} {e1 : En} : ∀ (a b : List PV) (env : En), forE body a env = .ok (.nx e1) → forE body (a ++ b) env = forE body b e1
  | [], b, env, h => by
    cases h
    rfl
  | x :: a, b, env, h => by
    rw [List.cons_append]
    conv => lhs; unfold forE
    conv at h => lhs; unfold forE
    cases e : body x env with
    | ok fl =>
      rw [e] at h
      cases fl with
      | nx env' => exact forE_app a b env' h
      | rt d => cases h
    | exc c d =>
      rw [e] at h
      cases h
    | bad =>
      rw [e] at h
      cases h
/-- a loop over many, a piece at a time -/
theorem for_step {body : PV → En → R Fl} {l : List (List Nat)} {n m : Nat} {env e1 : En} {r : R Fl} (h1 : forE body (((l.drop n).take m).map .str) env = .ok (.nx e1)) (h2 : forE body ((l.drop (n + m)).map .str) e1 = r) : forE body ((l.drop n).map .str) env = r := by
  rw [← List.take_append_drop m (l.drop n), List.map_append, forE_app _ _ _ h1, List.drop_drop]
  exact h2
section
variable {α : Type} [DecidableEq α]
/-- put in once -/
def ins1 (F : List α) (y : α) : List α := if y ∈ F then F else F ++ [y]
def insL (F : List α) (ys : List α) : List α := ys.foldl ins1 F
theorem ins1_mem {F : List α} {y z : α} : z ∈ ins1 F y ↔ z ∈ F ∨ z = y := by
  unfold ins1
  split
  · rename_i h
    exact ⟨.inl, fun q => q.elim id fun e => e ▸ h⟩
  · rw [List.mem_append, List.mem_singleton]
theorem ins1_nd {F : List α} {y : α} (h : F.Nodup) : (ins1 F y).Nodup := by
  unfold ins1
  split
  · exact h
  · rename_i q
    refine List.nodup_append.mpr ⟨h, by simp, fun a ha b hb e => ?_⟩
    rw [List.mem_singleton] at hb
    exact q (hb ▸ e ▸ ha)
theorem insL_mem {z : α} : ∀ {ys F : List α}, z ∈ insL F ys ↔ z ∈ F ∨ z ∈ ys
  | [], F => by simp [insL]
  | y :: ys, F => by
    show z ∈ insL (ins1 F y) ys ↔ _
    rw [insL_mem, ins1_mem, List.mem_cons, or_assoc]
theorem insL_nd : ∀ {ys F : List α}, F.Nodup → (insL F ys).Nodup
  | [], _, h => h
  | y :: ys, F, h => insL_nd (ys := ys) (F := ins1 F y) (ins1_nd h)
theorem insL_snoc {F ys : List α} {y : α} : insL F (ys ++ [y]) = ins1 (insL F ys) y := by
  unfold insL
  rw [List.foldl_append]
  rfl
/-- put in once: as a prefix -/
theorem ins1_pre {F : List α} {y : α} : ∃ t, ins1 F y = F ++ t := by
  unfold ins1
  split
  · exact ⟨[], by simp⟩
  · exact ⟨[y], rfl⟩
theorem insL_pre : ∀ {ys F : List α}, ∃ t, insL F ys = F ++ t
  | [], F => ⟨[], by simp [insL]⟩
  | y :: ys, F => by
    obtain ⟨t, e⟩ := ins1_pre (F := F) (y := y)
    obtain ⟨u, e2⟩ := insL_pre (ys := ys) (F := ins1 F y)
    exact ⟨t ++ u, by show insL (ins1 F y) ys = _; rw [e2, e, List.append_assoc]⟩
theorem nd_len {a b : List α} (ha : a.Nodup) (hb : b.Nodup) (h : ∀ x, x ∈ a ↔ x ∈ b) : a.length = b.length :=
  Nat.le_antisymm (ha.length_le_of_subset fun x hx => (h x).mp hx) (hb.length_le_of_subset fun x hx => (h x).mpr hx)
end
end VL
set_option Elab.async false
set_option linter.all false
set_option maxRecDepth 100000
set_option maxHeartbeats 8000000
set_option autoImplicit false
/-! the plain functions of law_k29_whole_numbers_of_classes -/
namespace K29
open VL VL.R
/-- _law_draws: slots 0 script, 1 draws, 2 k, 3 rest, 4 turn, 5 mixed -/
def B__law_draws : En → R Fl := (seqF (sSet 1 (cLst aN)) (seqF (sFor (iR1 (cB min2P (cK (.int 63)) (cU lenP (cV 0)))) (gN 2) (seqF (sSet 3 (cU absP (cB idxP (cV 0) (cV 2)))) (sIf (tB geP (cV 3) (cB powP (cK (.int 10)) (cK (.int 18)))) (sFor (iR1 (cK (.int 60))) (gN 4) (sIf (tB gtP (cV 3) (cK (.int 0))) (seqF (sApp 1 (cB modP (cU intP (cV 3)) (cK (.int 65536)))) (sSet 3 (cB fdivP (cV 3) (cK (.int 65536))))) sNil)) (seqF (sSet 5 (cB modP (cU intP (cB addP (cB mulP (cV 3) (cK (.int 48271))) (cB mulP (cB addP (cV 2) (cK (.int 1))) (cK (.int 69621))))) (cK (.int 2147483647)))) (seqF (sSet 5 (cB modP (cU intP (cB addP (cB addP (cB mulP (cV 5) (cK (.int 16807))) (cB mulP (cK (.int 11)) (cV 2))) (cK (.int 5)))) (cK (.int 2147483629)))) (seqF (sApp 1 (cB modP (cU intP (cV 5)) (cK (.int 65536)))) (sApp 1 (cB modP (cU intP (cB fdivP (cV 5) (cK (.int 65536)))) (cK (.int 32768)))))))))) (sRet (cV 1))))
def F__law_draws : List PV → R PV := runF 6 B__law_draws
/-- _law_mix: slots 0 draws, 1 k, 2 many, 3 value -/
def B__law_mix : En → R Fl := (seqF (sSet 3 (cK (.int 0))) (seqF (sIf (tB gtP (cU lenP (cV 0)) (cK (.int 0))) (sSet 3 (cB idxP (cV 0) (cB modP (cU intP (cV 1)) (cU lenP (cV 0))))) sNil) (seqF (sIf (tB ltP (cV 1) (cU lenP (cV 0))) (sRet (cB modP (cU intP (cV 3)) (cV 2))) sNil) (sRet (cB modP (cU intP (cB fdivP (cU intP (cB addP (cB mulP (cV 3) (cK (.int 7919))) (cB mulP (cV 1) (cK (.int 104729))))) (cK (.int 3)))) (cV 2))))))
def F__law_mix : List PV → R PV := runF 4 B__law_mix
/-- check_flips: slots 0 table, 1 k, 2 letter, 3 there, 4 good -/
def B_check_flips : En → R Fl := (sFor (iE (cU sorted3P (cV 0))) (gT 2 (consG (gN 1) (consG (gN 2) nilG))) (seqF (sSet 3 (cB idxP (cV 0) (cV 2))) (seqF (sSet 4 (cAnd (cB eqP (cU lenP (cV 2)) (cK (.int 1))) (cAnd (cB inP (cV 2) (cK (.str [97, 98, 99, 100, 101, 102, 103, 104, 105, 106, 107, 108, 109, 110, 111, 112, 113, 114, 115, 116, 117, 118, 119, 120, 121, 122]))) (cAnd (cB eqP (cU lenP (cV 3)) (cK (.int 1))) (cB inP (cV 3) (cK (.str [97, 98, 99, 100, 101, 102, 103, 104, 105, 106, 107, 108, 109, 110, 111, 112, 113, 114, 115, 116, 117, 118, 119, 120, 121, 122]))))))) (sIf (tOr (tNot (tV (cV 4))) (tB neP (cGet1 (cV 0) (cV 3)) (cV 2))) (sRaise 3 (cV 1)) sNil))))
def F_check_flips : List PV → R PV := runF 5 B_check_flips
/-- check_kinds: slots 0 kinds, 1 kind -/
def B_check_kinds : En → R Fl := (sIf (tOr (tB neP (cU list1P (cV 0)) (cU ssetP (cV 0))) (tNot (tV (cU allP (cComp (iV (cV 0)) (gN 1) tT (cB inP (cV 1) (cK (.str [98, 102, 114]))) [1]))))) (sRaise 4 (cK (.int 0))) sNil)
def F_check_kinds : List PV → R PV := runF 2 B_check_kinds
/-- is_word: slots 0 text, 1 letter -/
def B_is_word : En → R Fl := (sRet (cAnd (cCh leP leP (cK (.int 1)) (cU lenP (cV 0)) (cK (.int 8))) (cU allP (cComp (iV (cV 0)) (gN 1) tT (cB inP (cV 1) (cK (.str [97, 98, 99, 100, 101, 102, 103, 104, 105, 106, 107, 108, 109, 110, 111, 112, 113, 114, 115, 116, 117, 118, 119, 120, 121, 122]))) [1]))))
def F_is_word : List PV → R PV := runF 2 B_is_word
/-- check_one: slots 0 word -/
def B_check_one : En → R Fl := (sIf (tNot (tV (cCall F_is_word (aC (cV 0) aN)))) (sRaise 2 (cK (.int 0))) sNil)
def F_check_one : List PV → R PV := runF 1 B_check_one
/-- flip_of: slots 0 table, 1 text, 2 letter -/
def B_flip_of : En → R Fl := (seqF (sIf (tNot (tV (cU allP (cComp (iV (cV 1)) (gN 2) tT (cB inP (cV 2) (cV 0)) [2])))) (sRet (cK .none)) sNil) (sRet (cJoin (cK (.str [])) (cComp (iV (cU revP (cV 1))) (gN 2) tT (cB idxP (cV 0) (cV 2)) [2]))))
def F_flip_of : List PV → R PV := runF 3 B_flip_of
/-- rounds_of: slots 0 text, 1 place -/
def B_rounds_of : En → R Fl := (sRet (cComp (iR1 (cU lenP (cV 0))) (gN 1) tT (cB addP (cSl (cV 0) (oS (cV 1)) oN) (cSl (cV 0) oN (oS (cV 1)))) [1]))
def F_rounds_of : List PV → R PV := runF 2 B_rounds_of
/-- next_readings: slots 0 table, 1 kinds, 2 text, 3 found -/
def B_next_readings : En → R Fl := (seqF (sSet 3 (cIf (tB inP (cK (.str [98])) (cV 1)) (cLst (aC (cU revP (cV 2)) aN)) (cLst aN))) (seqF (sIf (tAnd (tB inP (cK (.str [102])) (cV 1)) (tB notBP (cCall F_flip_of (aC (cV 0) (aC (cV 2) aN))) (cK .none))) (sApp 3 (cCall F_flip_of (aC (cV 0) (aC (cV 2) aN)))) sNil) (sRet (cB addP (cV 3) (cIf (tB inP (cK (.str [114])) (cV 1)) (cCall F_rounds_of (aC (cV 2) aN)) (cLst aN))))))
def F_next_readings : List PV → R PV := runF 4 B_next_readings
/-- readings_of: slots 0 table, 1 kinds, 2 word, 3 found, 4 at, 5 there -/
def B_readings_of : En → R Fl := (seqF (sSet 3 (cLst (aC (cV 2) aN))) (seqF (sSet 4 (cK (.int 0))) (seqF (whileE (tB ltP (cV 4) (cU lenP (cV 3))) (seqF (sFor (iV (cCall F_next_readings (aC (cV 0) (aC (cV 1) (aC (cB idxP (cV 3) (cV 4)) aN))))) (gN 5) (sIf (tB ninP (cV 5) (cV 3)) (sApp 3 (cV 5)) sNil)) (sSet 4 (cB addP (cV 4) (cK (.int 1))))) 100000) (sRet (cU sorted2P (cV 3))))))
def F_readings_of : List PV → R PV := runF 6 B_readings_of
/-- all_readings: slots 0 table, 1 kinds, 2 word -/
def B_all_readings : En → R Fl := (seqF (sEx (cCall F_check_flips (aC (cV 0) aN))) (seqF (sEx (cCall F_check_kinds (aC (cV 1) aN))) (seqF (sEx (cCall F_check_one (aC (cV 2) aN))) (sRet (cCall F_readings_of (aC (cV 0) (aC (cV 1) (aC (cV 2) aN))))))))
def F_all_readings : List PV → R PV := runF 3 B_all_readings
/-- check_numbers: slots 0 n, 1 k, 2 number -/
def B_check_numbers : En → R Fl := (sFor (iV (cTup (aC (cV 0) (aC (cV 1) aN)))) (gN 2) (sIf (tNot (tCh leP leP (cK (.int 1)) (cV 2) (cK (.int 20)))) (sRaise 1 (cV 2)) sNil))
def F_check_numbers : List PV → R PV := runF 3 B_check_numbers
/-- common: slots 0 one, 1 two -/
def B_common : En → R Fl := (seqF (whileE (tB gtP (cV 1) (cK (.int 0))) (sPar 0 1 (cV 1) (cB modP (cV 0) (cV 1))) 100000) (sRet (cV 0)))
def F_common : List PV → R PV := runF 2 B_common
/-- power: slots 0 k, 1 n, 2 found, 3 _ -/
def B_power : En → R Fl := (seqF (sSet 2 (cK (.int 1))) (seqF (sFor (iR1 (cV 1)) (gN 3) (sSet 2 (cB mulP (cV 2) (cV 0)))) (sRet (cV 2))))
def F_power : List PV → R PV := runF 4 B_power
/-- count_round: slots 0 n, 1 k, 2 place -/
def B_count_round : En → R Fl := (seqF (sEx (cCall F_check_numbers (aC (cV 0) (aC (cV 1) aN)))) (sRet (cB fdivP (cU sumP (cComp (iR2 (cK (.int 1)) (cB addP (cV 0) (cK (.int 1)))) (gN 2) tT (cCall F_power (aC (cV 1) (aC (cCall F_common (aC (cV 2) (aC (cV 0) aN))) aN))) [2])) (cV 0))))
def F_count_round : List PV → R PV := runF 3 B_count_round
/-- count_both: slots 0 n, 1 k, 2 half, 3 same -/
def B_count_both : En → R Fl := (seqF (sEx (cCall F_check_numbers (aC (cV 0) (aC (cV 1) aN)))) (seqF (sSet 2 (cB fdivP (cV 0) (cK (.int 2)))) (seqF (sSet 3 (cIf (tB eqP (cB modP (cV 0) (cK (.int 2))) (cK (.int 1))) (cB mulP (cK (.int 2)) (cCall F_power (aC (cV 1) (aC (cB addP (cV 2) (cK (.int 1))) aN)))) (cB addP (cCall F_power (aC (cV 1) (aC (cV 2) aN))) (cCall F_power (aC (cV 1) (aC (cB addP (cV 2) (cK (.int 1))) aN)))))) (sRet (cB fdivP (cB addP (cB mulP (cK (.int 2)) (cCall F_count_round (aC (cV 0) (aC (cV 1) aN)))) (cV 3)) (cK (.int 4)))))))
def F_count_both : List PV → R PV := runF 4 B_count_both
/-- plain_texts: slots 0 n, 1 k, 2 part -/
def B_plain_texts (r : Nat → List PV → R PV) : En → R Fl := (sRet (cB subP (cCall F_power (aC (cV 1) (aC (cV 0) aN))) (cU sumP (cComp (iR2 (cK (.int 1)) (cV 0)) (gN 2) (tB eqP (cB modP (cV 0) (cV 2)) (cK (.int 0))) (cCall (r 0) (aC (cV 2) (aC (cV 1) aN))) [2]))))
/-- plain_texts: by turns -/
def R_0 : Nat → Nat → List PV → R PV
  | 0, _ => fun _ => .bad
  | n + 1, 0 => runF 3 (B_plain_texts (R_0 n))
  | _ + 1, _ => fun _ => .bad
def F_plain_texts : List PV → R PV := R_0 6 0
/-- count_plain: slots 0 n, 1 k -/
def B_count_plain : En → R Fl := (seqF (sEx (cCall F_check_numbers (aC (cV 0) (aC (cV 1) aN)))) (sRet (cB fdivP (cCall F_plain_texts (aC (cV 0) (aC (cV 1) aN))) (cV 0))))
def F_count_plain : List PV → R PV := runF 2 B_count_plain
/-- period: slots 0 word -/
def B_period : En → R Fl := (seqF (sEx (cCall F_check_one (aC (cV 0) aN))) (sRet (cB addP (cM listB indexP (cB addP (cSl (cCall F_rounds_of (aC (cV 0) aN)) (oS (cK (.int 1))) oN) (cLst (aC (cV 0) aN))) (cV 0)) (cK (.int 1)))))
def F_period : List PV → R PV := runF 1 B_period
/-- law: slots 0 script, 1 draws, 2 n, 3 k, 4 texts, 5 turn, 6 j, 7 text, 8 rounds, 9 both, 10 plain, 11 readings, 12 t, 13 one, 14 parts, 15 part, 16 whole -/
def B_law : En → R Fl := (seqF (sSet 1 (cCall F__law_draws (aC (cV 0) aN))) (seqF (sAsg (cB idxP (cLst (aC (cTup (aC (cK (.int 1)) (aC (cK (.int 4)) aN))) (aC (cTup (aC (cK (.int 2)) (aC (cK (.int 4)) aN))) (aC (cTup (aC (cK (.int 3)) (aC (cK (.int 4)) aN))) (aC (cTup (aC (cK (.int 4)) (aC (cK (.int 4)) aN))) (aC (cTup (aC (cK (.int 5)) (aC (cK (.int 3)) aN))) (aC (cTup (aC (cK (.int 6)) (aC (cK (.int 2)) aN))) (aC (cTup (aC (cK (.int 4)) (aC (cK (.int 3)) aN))) (aC (cTup (aC (cK (.int 6)) (aC (cK (.int 3)) aN))) (aC (cTup (aC (cK (.int 5)) (aC (cK (.int 2)) aN))) (aC (cTup (aC (cK (.int 3)) (aC (cK (.int 3)) aN))) (aC (cTup (aC (cK (.int 8)) (aC (cK (.int 2)) aN))) (aC (cTup (aC (cK (.int 7)) (aC (cK (.int 2)) aN))) aN))))))))))))) (cCall F__law_mix (aC (cV 1) (aC (cK (.int 0)) (aC (cK (.int 12)) aN))))) (gT 2 (consG (gN 2) (consG (gN 3) nilG)))) (seqF (sSet 4 (cLst (aC (cK (.str [])) aN))) (seqF (sFor (iR1 (cV 2)) (gN 5) (sSet 4 (cB sumLP (cComp (iV (cV 4)) (gN 7) tT (cComp (iR1 (cV 3)) (gN 6) tT (cB addP (cV 7) (cB idxP (cK (.str [97, 98, 99, 100])) (cV 6))) [6]) [7]) (cLst aN)))) (seqF (sAsg (cTup (aC (cK (.int 0)) (aC (cK (.int 0)) (aC (cK (.int 0)) aN)))) (gT 3 (consG (gN 8) (consG (gN 9) (consG (gN 10) nilG))))) (seqF (sFor (iV (cV 4)) (gN 7) (seqF (sSet 11 (cComp (iR1 (cV 2)) (gN 12) tT (cB addP (cSl (cV 7) (oS (cV 12)) oN) (cSl (cV 7) oN (oS (cV 12)))) [12])) (seqF (sSet 8 (cB addP (cV 8) (cU intP (cB eqP (cV 7) (cU min3P (cV 11)))))) (seqF (sSet 9 (cB addP (cV 9) (cU intP (cB eqP (cV 7) (cU min3P (cB addP (cV 11) (cComp (iV (cV 11)) (gN 13) tT (cU revP (cV 13)) [13]))))))) (sSet 10 (cB addP (cV 10) (cU intP (cAnd (cB eqP (cV 7) (cU min3P (cV 11))) (cB eqP (cM listB cntP (cV 11) (cV 7)) (cK (.int 1))))))))))) (seqF (sIf (tOr (tB neP (cU reprP (cCall F_count_round (aC (cV 2) (aC (cV 3) aN)))) (cU reprP (cV 8))) (tOr (tB neP (cU reprP (cCall F_count_both (aC (cV 2) (aC (cV 3) aN)))) (cU reprP (cV 9))) (tB neP (cU reprP (cCall F_count_plain (aC (cV 2) (aC (cV 3) aN)))) (cU reprP (cV 10))))) (sRet (cK (.bool false))) sNil) (seqF (sFor (iR1 (cK (.int 4))) (gN 12) (seqF (sSet 7 (cB idxP (cV 4) (cCall F__law_mix (aC (cV 1) (aC (cB addP (cK (.int 10)) (cV 12)) (aC (cU lenP (cV 4)) aN)))))) (sIf (tOr (tB neP (cU lenP (cCall F_all_readings (aC (cK (.dict false [] [])) (aC (cK (.str [114])) (aC (cV 7) aN))))) (cCall F_period (aC (cV 7) aN))) (tB ninP (cU lenP (cCall F_all_readings (aC (cK (.dict false [] [])) (aC (cK (.str [98, 114])) (aC (cV 7) aN))))) (cLst (aC (cCall F_period (aC (cV 7) aN)) (aC (cB mulP (cK (.int 2)) (cCall F_period (aC (cV 7) aN))) aN))))) (sRet (cK (.bool false))) sNil))) (seqF (sFor (iR1 (cK (.int 3))) (gN 12) (seqF (sAsg (cTup (aC (cB addP (cK (.int 1)) (cCall F__law_mix (aC (cV 1) (aC (cB addP (cK (.int 20)) (cB mulP (cK (.int 2)) (cV 12))) (aC (cK (.int 20)) aN))))) (aC (cB addP (cK (.int 1)) (cCall F__law_mix (aC (cV 1) (aC (cB addP (cK (.int 21)) (cB mulP (cK (.int 2)) (cV 12))) (aC (cK (.int 20)) aN))))) aN))) (gT 2 (consG (gN 2) (consG (gN 3) nilG)))) (seqF (sSet 14 (cComp (iR2 (cK (.int 1)) (cB addP (cV 2) (cK (.int 1)))) (gN 15) (tB eqP (cB modP (cU intP (cV 2)) (cV 15)) (cK (.int 0))) (cV 15) [15])) (seqF (sSet 16 (cK (.int 1))) (seqF (sFor (iR1 (cV 2)) (gN 5) (sSet 16 (cB mulP (cV 16) (cV 3)))) (seqF (sIf (tOr (tB neP (cCall F_count_round (aC (cV 2) (aC (cV 3) aN))) (cU sumP (cComp (iV (cV 14)) (gN 15) tT (cCall F_count_plain (aC (cV 15) (aC (cV 3) aN))) [15]))) (tB neP (cU sumP (cComp (iV (cV 14)) (gN 15) tT (cB mulP (cV 15) (cCall F_count_plain (aC (cV 15) (aC (cV 3) aN)))) [15])) (cV 16))) (sRet (cK (.bool false))) sNil) (seqF (sIf (tOr (tNot (tB leP (cCall F_count_round (aC (cV 2) (aC (cV 3) aN))) (cB mulP (cK (.int 2)) (cCall F_count_both (aC (cV 2) (aC (cV 3) aN)))))) (tOr (tB gtP (cCall F_count_both (aC (cV 2) (aC (cV 3) aN))) (cCall F_count_round (aC (cV 2) (aC (cV 3) aN)))) (tOr (tB neP (cCall F_count_round (aC (cV 2) (aC (cK (.int 1)) aN))) (cK (.int 1))) (tB neP (cCall F_count_both (aC (cV 2) (aC (cK (.int 1)) aN))) (cK (.int 1)))))) (sRet (cK (.bool false))) sNil) (sIf (tOr (tAnd (tB ltP (cV 3) (cK (.int 20))) (tB leP (cCall F_count_round (aC (cV 2) (aC (cB addP (cV 3) (cK (.int 1))) aN))) (cCall F_count_round (aC (cV 2) (aC (cV 3) aN))))) (tB neP (cCall F_count_plain (aC (cV 2) (aC (cK (.int 1)) aN))) (cU intP (cB eqP (cV 2) (cK (.int 1)))))) (sRet (cK (.bool false))) sNil)))))))) (sRet (cK (.bool true))))))))))))
def F_law : List PV → R PV := runF 17 B_law
end K29
set_option Elab.async false
set_option linter.all false
set_option maxRecDepth 100000
set_option maxHeartbeats 8000000
set_option autoImplicit false
/-! the defs of law_k29_whole_numbers_of_classes keep their plain functions -/
namespace K29
open PySem PySem.Spec L2 VL VL.R
def top (i : Nat) : Stmt := PySem.Challenge.pw_wordsatplay_k29_whole_numbers_of_classes.main.body.getD i (.Pass ⟨0, 0, 0, 0⟩)
structure Fx (T : Tb) (P : Program) (mg : Str → Option Value) : Prop where
  c_KINDS : ∃ t, mg ("KINDS" : Str) = some (.str ("bfr" : Str) t)
  c_LETTERS : ∃ t, mg ("LETTERS" : Str) = some (.str ("abcdefghijklmnopqrstuvwxyz" : Str) t)
  c_MOST : ∃ t, mg ("MOST" : Str) = some (.int 20 t)
  c_MOST_LETTERS : ∃ t, mg ("MOST_LETTERS" : Str) = some (.int 8 t)
  e_BadFlip : EcX T P mg 3 ("BadFlip" : Str)
  e_BadKinds : EcX T P mg 4 ("BadKinds" : Str)
  e_BadWord : EcX T P mg 2 ("BadWord" : Str)
  e_OutOfRange : EcX T P mg 1 ("OutOfRange" : Str)
  n_abs : mg ("abs" : Str) = none
  n_all : mg ("all" : Str) = none
  n_enumerate : mg ("enumerate" : Str) = none
  n_int : mg ("int" : Str) = none
  n_len : mg ("len" : Str) = none
  n_list : mg ("list" : Str) = none
  n_min : mg ("min" : Str) = none
  n_range : mg ("range" : Str) = none
  n_repr : mg ("repr" : Str) = none
  n_set : mg ("set" : Str) = none
  n_sorted : mg ("sorted" : Str) = none
  n_sum : mg ("sum" : Str) = none
section
variable {T : Tb} {P : Program} {w : World} {mg : Str → Option Value} {base : Heap} {f : Addr} {fd : FuncData}
theorem sc__law_draws : FnScope ["script", "draws", "k", "rest", "turn", "mixed"] ["script"] (defScope (top 31)) := ⟨rfl, rfl, rfl, by decide +kernel, rfl, by decide +kernel, by decide +kernel⟩
theorem g__law_draws (hx : Fx T P mg) (F : FunD T.K "_law_draws" "_law_draws" (defArgs (top 31)) (defBody (top 31)) (defScope (top 31)) [] [] f fd) (hm : mg ("_law_draws" : Str) = some (.ref f)) : GF T P w mg base 2 "_law_draws" ["script"] F__law_draws := by
  refine ⟨f, fd, fnG_at (k := 1) (fun_of F) sc__law_draws (by decide) fun cdv A outer s H E G => ⟨[], (show VS _ _ _ _ _ _ B__law_draws from (vs_cons (vs_own 1 (vf_list va_nil) G.nd) (vs_cons (vs_for (L2.passes_of rfl) G.calm (vi_range1 (ve_b2 (c2_min G.calm) ve_int.w (ve_b1 (c1_len G.K) (vw_var 0) (by kernel_rfl) hx.n_len).w (by kernel_rfl) hx.n_min).w hx.n_range) (vg_name 2 G.nd) (vs_cons (vs_set 3 (ve_b1 (c1_abs) (ve_ix (iv_idx G.K G.u1) (vw_var 0) (vw_var 2)).w (by kernel_rfl) hx.n_abs) G.nd) (vs_one (vs_if (vt_cmp (ov_ge) (vw_var 3) (ve_op ve_int.w ve_int.w (ov_pow)).w) (vs_one (vs_for (L2.passes_of rfl) G.calm (vi_range1 ve_int.w hx.n_range) (vg_name 4 G.nd) (vs_one (vs_if (vt_cmp (ov_gt) (vw_var 3) ve_int.w) (vs_cons (vs_app 1 rfl G.K (ve_op (ve_t1 (c1_int) (vw_var 3) (by kernel_rfl) hx.n_int).w ve_int.w (ov_mod))) (vs_one (vs_set 3 (ve_op (vw_var 3) ve_int.w (ov_fdiv)) G.nd))) vs_nil)))) (vs_cons (vs_set 5 (ve_op (ve_t1 (c1_int) (ve_op (ve_op (vw_var 3) ve_int.w (ov_mul)).w (ve_op (ve_op (vw_var 2) ve_int.w (ov_add G.K)).w ve_int.w (ov_mul)).w (ov_add G.K)).w (by kernel_rfl) hx.n_int).w ve_int.w (ov_mod)) G.nd) (vs_cons (vs_set 5 (ve_op (ve_t1 (c1_int) (ve_op (ve_op (ve_op (vw_var 5) ve_int.w (ov_mul)).w (ve_op ve_int.w (vw_var 2) (ov_mul)).w (ov_add G.K)).w ve_int.w (ov_add G.K)).w (by kernel_rfl) hx.n_int).w ve_int.w (ov_mod)) G.nd) (vs_cons (vs_app 1 rfl G.K (ve_op (ve_t1 (c1_int) (vw_var 5) (by kernel_rfl) hx.n_int).w ve_int.w (ov_mod))) (vs_one (vs_app 1 rfl G.K (ve_op (ve_t1 (c1_int) (ve_op (vw_var 5) ve_int.w (ov_fdiv)).w (by kernel_rfl) hx.n_int).w ve_int.w (ov_mod))))))))))) (vs_frz (O1 := []) 1 rfl (vs_one (vs_ret (ve_var 1 rfl)))))))⟩, hm, F.kp, FunD.bindsN F fun _ _ _ _ _ _ us hl => match us, hl with | [_], _ => rfl⟩
theorem sc__law_mix : FnScope ["draws", "k", "many", "value"] ["draws", "k", "many"] (defScope (top 32)) := ⟨rfl, rfl, rfl, by decide +kernel, rfl, by decide +kernel, by decide +kernel⟩
theorem g__law_mix (hx : Fx T P mg) (F : FunD T.K "_law_mix" "_law_mix" (defArgs (top 32)) (defBody (top 32)) (defScope (top 32)) [] [] f fd) (hm : mg ("_law_mix" : Str) = some (.ref f)) : GF T P w mg base 2 "_law_mix" ["draws", "k", "many"] F__law_mix := by
  refine ⟨f, fd, fnG_at (k := 1) (fun_of F) sc__law_mix (by decide) fun cdv A outer s H E G => ⟨[], (show VS _ _ _ _ _ _ B__law_mix from (vs_cons (vs_set 3 ve_int G.nd) (vs_cons (vs_if (vt_cmp (ov_gt) (ve_b1 (c1_len G.K) (vw_var 0) (by kernel_rfl) hx.n_len).w ve_int.w) (vs_one (vs_set 3 (ve_ix (iv_idx G.K G.u1) (vw_var 0) (ve_op (ve_t1 (c1_int) (vw_var 1) (by kernel_rfl) hx.n_int).w (ve_b1 (c1_len G.K) (vw_var 0) (by kernel_rfl) hx.n_len).w (ov_mod)).w) G.nd)) vs_nil) (vs_cons (vs_if (vt_cmp (ov_lt) (vw_var 1) (ve_b1 (c1_len G.K) (vw_var 0) (by kernel_rfl) hx.n_len).w) (vs_one (vs_ret (ve_op (ve_t1 (c1_int) (vw_var 3) (by kernel_rfl) hx.n_int).w (vw_var 2) (ov_mod)))) vs_nil) (vs_one (vs_ret (ve_op (ve_t1 (c1_int) (ve_op (ve_t1 (c1_int) (ve_op (ve_op (vw_var 3) ve_int.w (ov_mul)).w (ve_op (vw_var 1) ve_int.w (ov_mul)).w (ov_add G.K)).w (by kernel_rfl) hx.n_int).w ve_int.w (ov_fdiv)).w (by kernel_rfl) hx.n_int).w (vw_var 2) (ov_mod))))))))⟩, hm, F.kp, FunD.bindsN F fun _ _ _ _ _ _ us hl => match us, hl with | [_, _, _], _ => rfl⟩
theorem sc_check_flips : FnScope ["table", "k", "letter", "there", "good"] ["table"] (defScope (top 13)) := ⟨rfl, rfl, rfl, by decide +kernel, rfl, by decide +kernel, by decide +kernel⟩
theorem g_check_flips (hx : Fx T P mg) (F : FunD T.K "check_flips" "check_flips" (defArgs (top 13)) (defBody (top 13)) (defScope (top 13)) [] [] f fd) (hm : mg ("check_flips" : Str) = some (.ref f)) : GF T P w mg base 2 "check_flips" ["table"] F_check_flips := by
  refine ⟨f, fd, fnG_at (k := 1) (fun_of F) sc_check_flips (by decide) fun cdv A outer s H E G => ⟨[], (show VS _ _ _ _ _ _ B_check_flips from (vs_one (vs_for (L2.passes_of rfl) G.calm (vi_enum G.K (vf_b1 (c1_sorted3 G.calm G.K G.u70) (vw_var 0) (by kernel_rfl) hx.n_sorted).ve hx.n_enumerate) (vg_tup G.calm (vgs_cons (vg_name 1 G.nd) (vgs_cons (vg_name 2 G.nd) vgs_nil))) (vs_cons (vs_set 3 (ve_ix (iv_idx G.K G.u1) (vw_var 0) (vw_var 2)) G.nd) (vs_cons (vs_set 4 (ve_and G.K (ve_cmp (ov_eq G.K G.u64) (ve_b1 (c1_len G.K) (vw_var 2) (by kernel_rfl) hx.n_len).w ve_int.w) (ve_and G.K (ve_cmp (ov_in G.K G.u65) (vw_var 2) (ve_gstr hx.c_LETTERS [97, 98, 99, 100, 101, 102, 103, 104, 105, 106, 107, 108, 109, 110, 111, 112, 113, 114, 115, 116, 117, 118, 119, 120, 121, 122] (by decide +kernel)).w) (ve_and G.K (ve_cmp (ov_eq G.K G.u64) (ve_b1 (c1_len G.K) (vw_var 3) (by kernel_rfl) hx.n_len).w ve_int.w) (ve_one (ve_cmp (ov_in G.K G.u65) (vw_var 3) (ve_gstr hx.c_LETTERS [97, 98, 99, 100, 101, 102, 103, 104, 105, 106, 107, 108, 109, 110, 111, 112, 113, 114, 115, 116, 117, 118, 119, 120, 121, 122] (by decide +kernel)).w))))) G.nd) (vs_one (vs_if (vx_or (vt_not (vt_val G.K (vw_var 4))) (vx_or1 (vt_cmp (ov_ne G.K G.u64) (ve_get1 G.u1 (vw_var 0) (vw_var 3)).w (vw_var 2)))).t (vs_one (vs_raise G (by decide) hx.e_BadFlip (ve_var 1 rfl))) vs_nil)))))))⟩, hm, F.kp, FunD.bindsN F fun _ _ _ _ _ _ us hl => match us, hl with | [_], _ => rfl⟩
theorem sc_check_kinds : FnScope ["kinds", "kind"] ["kinds"] (defScope (top 14)) := ⟨rfl, rfl, rfl, by decide +kernel, rfl, by decide +kernel, by decide +kernel⟩
theorem g_check_kinds (hx : Fx T P mg) (F : FunD T.K "check_kinds" "check_kinds" (defArgs (top 14)) (defBody (top 14)) (defScope (top 14)) [] [] f fd) (hm : mg ("check_kinds" : Str) = some (.ref f)) : GF T P w mg base 2 "check_kinds" ["kinds"] F_check_kinds := by
  refine ⟨f, fd, fnG_at (k := 1) (fun_of F) sc_check_kinds (by decide) fun cdv A outer s H E G => ⟨[], (show VS _ _ _ _ _ _ B_check_kinds from (vs_one (vs_if (vx_or (vt_cmp (ov_ne G.K G.u64) (vf_t1 (c1_list G.calm G.K) (vw_var 0) (by kernel_rfl) hx.n_list).ve.w (vf_sset G.calm G.K (vw_var 0) hx.n_sorted hx.n_set).ve.w) (vx_or1 (vt_not (vt_val G.K (ve_b1 (c1_all G.calm) (vf_comp G.calm G.nd (own := [(("kind" : Str), 1)]) (vi_val G.K (ve_var 0 rfl)) (blkOk_of (by kernel_rfl)) rfl rfl (fun b1 => (vg_name 1 (G.blk _ b1).nd)) (fun b1 => vts_nil) (fun b1 => (ve_cmp (ov_in (G.blk _ b1).K (G.blk _ b1).u65) (vw_var 1) (ve_gstr hx.c_KINDS [98, 102, 114] (by decide +kernel)).w))).ve.w (by kernel_rfl) hx.n_all).w)))).t (vs_one (vs_raise G (by decide) hx.e_BadKinds ve_int)) vs_nil)))⟩, hm, F.kp, FunD.bindsN F fun _ _ _ _ _ _ us hl => match us, hl with | [_], _ => rfl⟩
theorem sc_is_word : FnScope ["text", "letter"] ["text"] (defScope (top 9)) := ⟨rfl, rfl, rfl, by decide +kernel, rfl, by decide +kernel, by decide +kernel⟩
theorem g_is_word (hx : Fx T P mg) (F : FunD T.K "is_word" "is_word" (defArgs (top 9)) (defBody (top 9)) (defScope (top 9)) [] [] f fd) (hm : mg ("is_word" : Str) = some (.ref f)) : GF T P w mg base 2 "is_word" ["text"] F_is_word := by
  refine ⟨f, fd, fnG_at (k := 1) (fun_of F) sc_is_word (by decide) fun cdv A outer s H E G => ⟨[], (show VS _ _ _ _ _ _ B_is_word from (vs_one (vs_ret (ve_and G.K (ve_chain (ov_le) (ov_le) ve_int.w (ve_b1 (c1_len G.K) (vw_var 0) (by kernel_rfl) hx.n_len).w (ve_gint hx.c_MOST_LETTERS).w) (ve_one (ve_b1 (c1_all G.calm) (vf_comp G.calm G.nd (own := [(("letter" : Str), 1)]) (vi_val G.K (ve_var 0 rfl)) (blkOk_of (by kernel_rfl)) rfl rfl (fun b1 => (vg_name 1 (G.blk _ b1).nd)) (fun b1 => vts_nil) (fun b1 => (ve_cmp (ov_in (G.blk _ b1).K (G.blk _ b1).u65) (vw_var 1) (ve_gstr hx.c_LETTERS [97, 98, 99, 100, 101, 102, 103, 104, 105, 106, 107, 108, 109, 110, 111, 112, 113, 114, 115, 116, 117, 118, 119, 120, 121, 122] (by decide +kernel)).w))).ve.w (by kernel_rfl) hx.n_all))))))⟩, hm, F.kp, FunD.bindsN F fun _ _ _ _ _ _ us hl => match us, hl with | [_], _ => rfl⟩
theorem sc_check_one : FnScope ["word"] ["word"] (defScope (top 12)) := ⟨rfl, rfl, rfl, by decide +kernel, rfl, by decide +kernel, by decide +kernel⟩
theorem g_check_one (hx : Fx T P mg) (C_is_word : GF T P w mg base 2 "is_word" ["text"] F_is_word) (F : FunD T.K "check_one" "check_one" (defArgs (top 12)) (defBody (top 12)) (defScope (top 12)) [] [] f fd) (hm : mg ("check_one" : Str) = some (.ref f)) : GF T P w mg base 3 "check_one" ["word"] F_check_one := by
  refine ⟨f, fd, fnG_at (k := 2) (fun_of F) sc_check_one (by decide) fun cdv A outer s H E G => ⟨[], (show VS _ _ _ _ _ _ B_check_one from (vs_one (vs_if (vt_not (vt_val G.K (ve_callG G C_is_word (by decide) rfl (vn_cons (ve_var 0 rfl) vn_nil)).w)) (vs_one (vs_raise G (by decide) hx.e_BadWord ve_int)) vs_nil)))⟩, hm, F.kp, FunD.bindsN F fun _ _ _ _ _ _ us hl => match us, hl with | [_], _ => rfl⟩
theorem sc_flip_of : FnScope ["table", "text", "letter"] ["table", "text"] (defScope (top 17)) := ⟨rfl, rfl, rfl, by decide +kernel, rfl, by decide +kernel, by decide +kernel⟩
theorem g_flip_of (hx : Fx T P mg) (F : FunD T.K "flip_of" "flip_of" (defArgs (top 17)) (defBody (top 17)) (defScope (top 17)) [] [] f fd) (hm : mg ("flip_of" : Str) = some (.ref f)) : GF T P w mg base 2 "flip_of" ["table", "text"] F_flip_of := by
  refine ⟨f, fd, fnG_at (k := 1) (fun_of F) sc_flip_of (by decide) fun cdv A outer s H E G => ⟨[], (show VS _ _ _ _ _ _ B_flip_of from (vs_cons (vs_if (vt_not (vt_val G.K (ve_b1 (c1_all G.calm) (vf_comp G.calm G.nd (own := [(("letter" : Str), 2)]) (vi_val G.K (ve_var 1 rfl)) (blkOk_of (by kernel_rfl)) rfl rfl (fun b1 => (vg_name 2 (G.blk _ b1).nd)) (fun b1 => vts_nil) (fun b1 => (ve_cmp (ov_in (G.blk _ b1).K (G.blk _ b1).u65) (vw_var 2) (vw_var 0)))).ve.w (by kernel_rfl) hx.n_all).w)) (vs_one (vs_ret ve_non)) vs_nil) (vs_one (vs_ret (ve_join G.K (ve_str [] (by decide +kernel)).w (vf_comp G.calm G.nd (own := [(("letter" : Str), 2)]) (vi_val G.K (ve_revS (vw_var 1))) (blkOk_of (by kernel_rfl)) rfl rfl (fun b1 => (vg_name 2 (G.blk _ b1).nd)) (fun b1 => vts_nil) (fun b1 => (ve_ix (iv_idx (G.blk _ b1).K (G.blk _ b1).u1) (vw_var 0) (vw_var 2)))).ve.w)))))⟩, hm, F.kp, FunD.bindsN F fun _ _ _ _ _ _ us hl => match us, hl with | [_, _], _ => rfl⟩
theorem sc_rounds_of : FnScope ["text", "place"] ["text"] (defScope (top 15)) := ⟨rfl, rfl, rfl, by decide +kernel, rfl, by decide +kernel, by decide +kernel⟩
theorem g_rounds_of (hx : Fx T P mg) (F : FunD T.K "rounds_of" "rounds_of" (defArgs (top 15)) (defBody (top 15)) (defScope (top 15)) [] [] f fd) (hm : mg ("rounds_of" : Str) = some (.ref f)) : GF T P w mg base 2 "rounds_of" ["text"] F_rounds_of := by
  refine ⟨f, fd, fnG_at (k := 1) (fun_of F) sc_rounds_of (by decide) fun cdv A outer s H E G => ⟨[], (show VS _ _ _ _ _ _ B_rounds_of from (vs_one (vs_ret (vf_comp G.calm G.nd (own := [(("place" : Str), 1)]) (vi_range1 (ve_b1 (c1_len G.K) (vw_var 0) (by kernel_rfl) hx.n_len).w hx.n_range) (blkOk_of (by kernel_rfl)) rfl rfl (fun b1 => (vg_name 1 (G.blk _ b1).nd)) (fun b1 => vts_nil) (fun b1 => (ve_op (ve_slice (G.blk _ b1).K (vw_var 0) (vo_some (vw_var 1)) vo_none).w (ve_slice (G.blk _ b1).K (vw_var 0) vo_none (vo_some (vw_var 1))).w (ov_add (G.blk _ b1).K)))).ve)))⟩, hm, F.kp, FunD.bindsN F fun _ _ _ _ _ _ us hl => match us, hl with | [_], _ => rfl⟩
theorem sc_next_readings : FnScope ["table", "kinds", "text", "found"] ["table", "kinds", "text"] (defScope (top 18)) := ⟨rfl, rfl, rfl, by decide +kernel, rfl, by decide +kernel, by decide +kernel⟩
theorem g_next_readings (hx : Fx T P mg) (C_flip_of : GF T P w mg base 2 "flip_of" ["table", "text"] F_flip_of) (C_rounds_of : GF T P w mg base 2 "rounds_of" ["text"] F_rounds_of) (F : FunD T.K "next_readings" "next_readings" (defArgs (top 18)) (defBody (top 18)) (defScope (top 18)) [] [] f fd) (hm : mg ("next_readings" : Str) = some (.ref f)) : GF T P w mg base 3 "next_readings" ["table", "kinds", "text"] F_next_readings := by
  refine ⟨f, fd, fnG_at (k := 2) (fun_of F) sc_next_readings (by decide) fun cdv A outer s H E G => ⟨[], (show VS _ _ _ _ _ _ B_next_readings from (vs_cons (vs_own 3 (vf_if (vt_cmp (ov_in G.K G.u65) (ve_str [98] (by decide +kernel)).w (vw_var 1)) (vf_list (va_cons (ve_revS (vw_var 2)) va_nil)) (vf_list va_nil)) G.nd) (vs_cons (vs_if (vx_and (vt_cmp (ov_in G.K G.u65) (ve_str [102] (by decide +kernel)).w (vw_var 1)) (vx_and1 (vt_cmp (ov_notB) (ve_callG G C_flip_of (by decide) rfl (vn_cons (ve_var 0 rfl) (vn_cons (ve_var 2 rfl) vn_nil))).w ve_non.w))).t (vs_one (vs_app 3 rfl G.K (ve_callG G C_flip_of (by decide) rfl (vn_cons (ve_var 0 rfl) (vn_cons (ve_var 2 rfl) vn_nil))))) vs_nil) (vs_one (vs_ret (ve_op (vw_var 3) (ve_if (vt_cmp (ov_in G.K G.u65) (ve_str [114] (by decide +kernel)).w (vw_var 1)) (ve_callG G C_rounds_of (by decide) rfl (vn_cons (ve_var 2 rfl) vn_nil)) (vf_list va_nil).ve).w (ov_add G.K)))))))⟩, hm, F.kp, FunD.bindsN F fun _ _ _ _ _ _ us hl => match us, hl with | [_, _, _], _ => rfl⟩
theorem sc_readings_of : FnScope ["table", "kinds", "word", "found", "at", "there"] ["table", "kinds", "word"] (defScope (top 19)) := ⟨rfl, rfl, rfl, by decide +kernel, rfl, by decide +kernel, by decide +kernel⟩
theorem g_readings_of (hx : Fx T P mg) (C_next_readings : GF T P w mg base 3 "next_readings" ["table", "kinds", "text"] F_next_readings) (F : FunD T.K "readings_of" "readings_of" (defArgs (top 19)) (defBody (top 19)) (defScope (top 19)) [] [] f fd) (hm : mg ("readings_of" : Str) = some (.ref f)) : GF T P w mg base 4 "readings_of" ["table", "kinds", "word"] F_readings_of := by
  refine ⟨f, fd, fnG_at (k := 3) (fun_of F) sc_readings_of (by decide) fun cdv A outer s H E G => ⟨[], (show VS _ _ _ _ _ _ B_readings_of from (vs_cons (vs_own 3 (vf_list (va_cons (ve_var 2 rfl) va_nil)) G.nd) (vs_cons (vs_set 4 ve_int G.nd) (vs_cons (vs_while 100000 (L2.passes_of rfl) (vt_cmp (ov_lt) (vw_var 4) (ve_b1 (c1_len G.K) (vw_var 3) (by kernel_rfl) hx.n_len).w) (vs_cons (vs_for (L2.passes_of rfl) G.calm (vi_val G.K (ve_callG G C_next_readings (by decide) rfl (vn_cons (ve_var 0 rfl) (vn_cons (ve_var 1 rfl) (vn_cons (ve_ix (iv_idx G.K G.u1) (vw_var 3) (vw_var 4)) vn_nil))))) (vg_name 5 G.nd) (vs_one (vs_if (vt_cmp (ov_nin G.K G.u65) (vw_var 5) (vw_var 3)) (vs_one (vs_app 3 rfl G.K (ve_var 5 rfl))) vs_nil))) (vs_one (vs_set 4 (ve_op (vw_var 4) ve_int.w (ov_add G.K)) G.nd)))) (vs_one (vs_ret (vf_b1 (c1_sorted2 G.K G.u70) (vw_var 3) (by kernel_rfl) hx.n_sorted).ve))))))⟩, hm, F.kp, FunD.bindsN F fun _ _ _ _ _ _ us hl => match us, hl with | [_, _, _], _ => rfl⟩
theorem sc_all_readings : FnScope ["table", "kinds", "word"] ["table", "kinds", "word"] (defScope (top 20)) := ⟨rfl, rfl, rfl, by decide +kernel, rfl, by decide +kernel, by decide +kernel⟩
theorem g_all_readings (hx : Fx T P mg) (C_check_flips : GF T P w mg base 2 "check_flips" ["table"] F_check_flips) (C_check_kinds : GF T P w mg base 2 "check_kinds" ["kinds"] F_check_kinds) (C_check_one : GF T P w mg base 3 "check_one" ["word"] F_check_one) (C_readings_of : GF T P w mg base 4 "readings_of" ["table", "kinds", "word"] F_readings_of) (F : FunD T.K "all_readings" "all_readings" (defArgs (top 20)) (defBody (top 20)) (defScope (top 20)) [] [] f fd) (hm : mg ("all_readings" : Str) = some (.ref f)) : GF T P w mg base 5 "all_readings" ["table", "kinds", "word"] F_all_readings := by
  refine ⟨f, fd, fnG_at (k := 4) (fun_of F) sc_all_readings (by decide) fun cdv A outer s H E G => ⟨[], (show VS _ _ _ _ _ _ B_all_readings from (vs_cons (vs_expr (ve_callG G C_check_flips (by decide) rfl (vn_cons (ve_var 0 rfl) vn_nil)).w) (vs_cons (vs_expr (ve_callG G C_check_kinds (by decide) rfl (vn_cons (ve_var 1 rfl) vn_nil)).w) (vs_cons (vs_expr (ve_callG G C_check_one (by decide) rfl (vn_cons (ve_var 2 rfl) vn_nil)).w) (vs_one (vs_ret (ve_callG G C_readings_of (by decide) rfl (vn_cons (ve_var 0 rfl) (vn_cons (ve_var 1 rfl) (vn_cons (ve_var 2 rfl) vn_nil))))))))))⟩, hm, F.kp, FunD.bindsN F fun _ _ _ _ _ _ us hl => match us, hl with | [_, _, _], _ => rfl⟩
theorem sc_check_numbers : FnScope ["n", "k", "number"] ["n", "k"] (defScope (top 23)) := ⟨rfl, rfl, rfl, by decide +kernel, rfl, by decide +kernel, by decide +kernel⟩
theorem g_check_numbers (hx : Fx T P mg) (F : FunD T.K "check_numbers" "check_numbers" (defArgs (top 23)) (defBody (top 23)) (defScope (top 23)) [] [] f fd) (hm : mg ("check_numbers" : Str) = some (.ref f)) : GF T P w mg base 2 "check_numbers" ["n", "k"] F_check_numbers := by
  refine ⟨f, fd, fnG_at (k := 1) (fun_of F) sc_check_numbers (by decide) fun cdv A outer s H E G => ⟨[], (show VS _ _ _ _ _ _ B_check_numbers from (vs_one (vs_for (L2.passes_of rfl) G.calm (vi_val G.K (ve_tup (va_cons (ve_var 0 rfl) (va_cons (ve_var 1 rfl) va_nil)))) (vg_name 2 G.nd) (vs_one (vs_if (vt_not (vt_chain (ov_le) (ov_le) ve_int.w (vw_var 2) (ve_gint hx.c_MOST).w)) (vs_one (vs_raise G (by decide) hx.e_OutOfRange (ve_var 2 rfl))) vs_nil)))))⟩, hm, F.kp, FunD.bindsN F fun _ _ _ _ _ _ us hl => match us, hl with | [_, _], _ => rfl⟩
theorem sc_common : FnScope ["one", "two"] ["one", "two"] (defScope (top 24)) := ⟨rfl, rfl, rfl, by decide +kernel, rfl, by decide +kernel, by decide +kernel⟩
theorem g_common (hx : Fx T P mg) (F : FunD T.K "common" "common" (defArgs (top 24)) (defBody (top 24)) (defScope (top 24)) [] [] f fd) (hm : mg ("common" : Str) = some (.ref f)) : GF T P w mg base 2 "common" ["one", "two"] F_common := by
  refine ⟨f, fd, fnG_at (k := 1) (fun_of F) sc_common (by decide) fun cdv A outer s H E G => ⟨[], (show VS _ _ _ _ _ _ B_common from (vs_cons (vs_while 100000 (L2.passes_of rfl) (vt_cmp (ov_gt) (vw_var 1) ve_int.w) (vs_one (vs_par G.calm G.nd (ve_var 1 rfl) (ve_op (vw_var 0) (vw_var 1) (ov_mod)) (by rfl)))) (vs_one (vs_ret (ve_var 0 rfl)))))⟩, hm, F.kp, FunD.bindsN F fun _ _ _ _ _ _ us hl => match us, hl with | [_, _], _ => rfl⟩
theorem sc_power : FnScope ["k", "n", "found", "_"] ["k", "n"] (defScope (top 25)) := ⟨rfl, rfl, rfl, by decide +kernel, rfl, by decide +kernel, by decide +kernel⟩
theorem g_power (hx : Fx T P mg) (F : FunD T.K "power" "power" (defArgs (top 25)) (defBody (top 25)) (defScope (top 25)) [] [] f fd) (hm : mg ("power" : Str) = some (.ref f)) : GF T P w mg base 2 "power" ["k", "n"] F_power := by
  refine ⟨f, fd, fnG_at (k := 1) (fun_of F) sc_power (by decide) fun cdv A outer s H E G => ⟨[], (show VS _ _ _ _ _ _ B_power from (vs_cons (vs_set 2 ve_int G.nd) (vs_cons (vs_for (L2.passes_of rfl) G.calm (vi_range1 (vw_var 1) hx.n_range) (vg_name 3 G.nd) (vs_one (vs_set 2 (ve_op (vw_var 2) (vw_var 0) (ov_mul)) G.nd))) (vs_one (vs_ret (ve_var 2 rfl))))))⟩, hm, F.kp, FunD.bindsN F fun _ _ _ _ _ _ us hl => match us, hl with | [_, _], _ => rfl⟩
theorem sc_count_round : FnScope ["n", "k", "place"] ["n", "k"] (defScope (top 26)) := ⟨rfl, rfl, rfl, by decide +kernel, rfl, by decide +kernel, by decide +kernel⟩
theorem g_count_round (hx : Fx T P mg) (C_check_numbers : GF T P w mg base 2 "check_numbers" ["n", "k"] F_check_numbers) (C_common : GF T P w mg base 2 "common" ["one", "two"] F_common) (C_power : GF T P w mg base 2 "power" ["k", "n"] F_power) (F : FunD T.K "count_round" "count_round" (defArgs (top 26)) (defBody (top 26)) (defScope (top 26)) [] [] f fd) (hm : mg ("count_round" : Str) = some (.ref f)) : GF T P w mg base 3 "count_round" ["n", "k"] F_count_round := by
  refine ⟨f, fd, fnG_at (k := 2) (fun_of F) sc_count_round (by decide) fun cdv A outer s H E G => ⟨[], (show VS _ _ _ _ _ _ B_count_round from (vs_cons (vs_expr (ve_callG G C_check_numbers (by decide) rfl (vn_cons (ve_var 0 rfl) (vn_cons (ve_var 1 rfl) vn_nil))).w) (vs_one (vs_ret (ve_op (ve_b1 (c1_sum G.calm) (vf_comp G.calm G.nd (own := [(("place" : Str), 2)]) (vi_range2 ve_int.w (ve_op (vw_var 0) ve_int.w (ov_add G.K)).w hx.n_range) (blkOk_of (by kernel_rfl)) rfl rfl (fun b1 => (vg_name 2 (G.blk _ b1).nd)) (fun b1 => vts_nil) (fun b1 => (ve_callG (G.blk _ b1) C_power (by decide) rfl (vn_cons (ve_var 1 rfl) (vn_cons (ve_callG (G.blk _ b1) C_common (by decide) rfl (vn_cons (ve_var 2 rfl) (vn_cons (ve_var 0 rfl) vn_nil))) vn_nil))))).ve.w (by kernel_rfl) hx.n_sum).w (vw_var 0) (ov_fdiv))))))⟩, hm, F.kp, FunD.bindsN F fun _ _ _ _ _ _ us hl => match us, hl with | [_, _], _ => rfl⟩
theorem sc_count_both : FnScope ["n", "k", "half", "same"] ["n", "k"] (defScope (top 27)) := ⟨rfl, rfl, rfl, by decide +kernel, rfl, by decide +kernel, by decide +kernel⟩
theorem g_count_both (hx : Fx T P mg) (C_check_numbers : GF T P w mg base 2 "check_numbers" ["n", "k"] F_check_numbers) (C_count_round : GF T P w mg base 3 "count_round" ["n", "k"] F_count_round) (C_power : GF T P w mg base 2 "power" ["k", "n"] F_power) (F : FunD T.K "count_both" "count_both" (defArgs (top 27)) (defBody (top 27)) (defScope (top 27)) [] [] f fd) (hm : mg ("count_both" : Str) = some (.ref f)) : GF T P w mg base 4 "count_both" ["n", "k"] F_count_both := by
  refine ⟨f, fd, fnG_at (k := 3) (fun_of F) sc_count_both (by decide) fun cdv A outer s H E G => ⟨[], (show VS _ _ _ _ _ _ B_count_both from (vs_cons (vs_expr (ve_callG G C_check_numbers (by decide) rfl (vn_cons (ve_var 0 rfl) (vn_cons (ve_var 1 rfl) vn_nil))).w) (vs_cons (vs_set 2 (ve_op (vw_var 0) ve_int.w (ov_fdiv)) G.nd) (vs_cons (vs_set 3 (ve_if (vt_cmp (ov_eq G.K G.u64) (ve_op (vw_var 0) ve_int.w (ov_mod)).w ve_int.w) (ve_op ve_int.w (ve_callG G C_power (by decide) rfl (vn_cons (ve_var 1 rfl) (vn_cons (ve_op (vw_var 2) ve_int.w (ov_add G.K)) vn_nil))).w (ov_mul)) (ve_op (ve_callG G C_power (by decide) rfl (vn_cons (ve_var 1 rfl) (vn_cons (ve_var 2 rfl) vn_nil))).w (ve_callG G C_power (by decide) rfl (vn_cons (ve_var 1 rfl) (vn_cons (ve_op (vw_var 2) ve_int.w (ov_add G.K)) vn_nil))).w (ov_add G.K))) G.nd) (vs_one (vs_ret (ve_op (ve_op (ve_op ve_int.w (ve_callG G C_count_round (by decide) rfl (vn_cons (ve_var 0 rfl) (vn_cons (ve_var 1 rfl) vn_nil))).w (ov_mul)).w (vw_var 3) (ov_add G.K)).w ve_int.w (ov_fdiv))))))))⟩, hm, F.kp, FunD.bindsN F fun _ _ _ _ _ _ us hl => match us, hl with | [_, _], _ => rfl⟩
theorem sc_plain_texts : FnScope ["n", "k", "part"] ["n", "k"] (defScope (top 28)) := ⟨rfl, rfl, rfl, by decide +kernel, rfl, by decide +kernel, by decide +kernel⟩
theorem g_plain_texts {n_ : Nat} {r : Nat → List PV → R PV} (hx : Fx T P mg) (C_plain_texts : GF T P w mg base (2 + n_) "plain_texts" ["n", "k"] (r 0)) (C_power : GF T P w mg base 2 "power" ["k", "n"] F_power) (F : FunD T.K "plain_texts" "plain_texts" (defArgs (top 28)) (defBody (top 28)) (defScope (top 28)) [] [] f fd) (hm : mg ("plain_texts" : Str) = some (.ref f)) : GF T P w mg base (2 + (n_ + 1)) "plain_texts" ["n", "k"] (runF 3 (B_plain_texts r)) := by
  refine ⟨f, fd, fnG_at (k := 2 + n_) (fun_of F) sc_plain_texts (by decide) fun cdv A outer s H E G => ⟨[], (show VS _ _ _ _ _ _ (B_plain_texts r) from (vs_one (vs_ret (ve_op (ve_callG G C_power (by omega) rfl (vn_cons (ve_var 1 rfl) (vn_cons (ve_var 0 rfl) vn_nil))).w (ve_b1 (c1_sum G.calm) (vf_comp G.calm G.nd (own := [(("part" : Str), 2)]) (vi_range2 ve_int.w (vw_var 0) hx.n_range) (blkOk_of (by kernel_rfl)) rfl rfl (fun b1 => (vg_name 2 (G.blk _ b1).nd)) (fun b1 => (vts_one (vt_cmp (ov_eq (G.blk _ b1).K (G.blk _ b1).u64) (ve_op (vw_var 0) (vw_var 2) (ov_mod)).w ve_int.w))) (fun b1 => (ve_callG (G.blk _ b1) C_plain_texts (by omega) rfl (vn_cons (ve_var 2 rfl) (vn_cons (ve_var 1 rfl) vn_nil))))).ve.w (by kernel_rfl) hx.n_sum).w (ov_sub)))))⟩, hm, F.kp, FunD.bindsN F fun _ _ _ _ _ _ us hl => match us, hl with | [_, _], _ => rfl⟩
theorem z_plain_texts (F : FunD T.K "plain_texts" "plain_texts" (defArgs (top 28)) (defBody (top 28)) (defScope (top 28)) [] [] f fd) (hm : mg ("plain_texts" : Str) = some (.ref f)) {k_ : Nat} : GF T P w mg base k_ "plain_texts" ["n", "k"] (fun _ => .bad) := ⟨f, fd, ⟨fun _ _ _ _ _ _ _ _ _ _ _ _ _ _ _ _ _ _ _ q => q.elim⟩, hm, F.kp, FunD.bindsN F fun _ _ _ _ _ _ us hl => match us, hl with | [_, _], _ => rfl⟩
theorem grp_0 (hx : Fx T P mg) (C_power : GF T P w mg base 2 "power" ["k", "n"] F_power) {f_plain_texts : Addr} {fd_plain_texts : FuncData} (D_plain_texts : FunD T.K "plain_texts" "plain_texts" (defArgs (top 28)) (defBody (top 28)) (defScope (top 28)) [] [] f_plain_texts fd_plain_texts) (h_plain_texts : mg ("plain_texts" : Str) = some (.ref f_plain_texts)) : ∀ n_ : Nat, GF T P w mg base (2 + n_) "plain_texts" ["n", "k"] (R_0 n_ 0) := by
  intro n_
  induction n_ with
  | zero => exact z_plain_texts D_plain_texts h_plain_texts
  | succ n_ ih =>
    have C_plain_texts := ih
    exact g_plain_texts hx C_plain_texts C_power D_plain_texts h_plain_texts
theorem sc_count_plain : FnScope ["n", "k"] ["n", "k"] (defScope (top 29)) := ⟨rfl, rfl, rfl, by decide +kernel, rfl, by decide +kernel, by decide +kernel⟩
theorem g_count_plain (hx : Fx T P mg) (C_check_numbers : GF T P w mg base 2 "check_numbers" ["n", "k"] F_check_numbers) (C_plain_texts : GF T P w mg base 8 "plain_texts" ["n", "k"] F_plain_texts) (F : FunD T.K "count_plain" "count_plain" (defArgs (top 29)) (defBody (top 29)) (defScope (top 29)) [] [] f fd) (hm : mg ("count_plain" : Str) = some (.ref f)) : GF T P w mg base 9 "count_plain" ["n", "k"] F_count_plain := by
  refine ⟨f, fd, fnG_at (k := 8) (fun_of F) sc_count_plain (by decide) fun cdv A outer s H E G => ⟨[], (show VS _ _ _ _ _ _ B_count_plain from (vs_cons (vs_expr (ve_callG G C_check_numbers (by decide) rfl (vn_cons (ve_var 0 rfl) (vn_cons (ve_var 1 rfl) vn_nil))).w) (vs_one (vs_ret (ve_op (ve_callG G C_plain_texts (by decide) rfl (vn_cons (ve_var 0 rfl) (vn_cons (ve_var 1 rfl) vn_nil))).w (vw_var 0) (ov_fdiv))))))⟩, hm, F.kp, FunD.bindsN F fun _ _ _ _ _ _ us hl => match us, hl with | [_, _], _ => rfl⟩
theorem sc_period : FnScope ["word"] ["word"] (defScope (top 16)) := ⟨rfl, rfl, rfl, by decide +kernel, rfl, by decide +kernel, by decide +kernel⟩
theorem g_period (hx : Fx T P mg) (C_check_one : GF T P w mg base 3 "check_one" ["word"] F_check_one) (C_rounds_of : GF T P w mg base 2 "rounds_of" ["text"] F_rounds_of) (F : FunD T.K "period" "period" (defArgs (top 16)) (defBody (top 16)) (defScope (top 16)) [] [] f fd) (hm : mg ("period" : Str) = some (.ref f)) : GF T P w mg base 4 "period" ["word"] F_period := by
  refine ⟨f, fd, fnG_at (k := 3) (fun_of F) sc_period (by decide) fun cdv A outer s H E G => ⟨[], (show VS _ _ _ _ _ _ B_period from (vs_cons (vs_expr (ve_callG G C_check_one (by decide) rfl (vn_cons (ve_var 0 rfl) vn_nil)).w) (vs_one (vs_ret (ve_op (ve_m1 (m1_index G.K G.u65) PySem.F.plainAttrs_list PySem.F.slot_list_index PySem.F.type_list_index (ve_op (ve_slice G.K (ve_callG G C_rounds_of (by decide) rfl (vn_cons (ve_var 0 rfl) vn_nil)).w (vo_some ve_int.w) vo_none).w (vf_list (va_cons (ve_var 0 rfl) va_nil)).ve.w (ov_add G.K)).w (vw_var 0)).w ve_int.w (ov_add G.K))))))⟩, hm, F.kp, FunD.bindsN F fun _ _ _ _ _ _ us hl => match us, hl with | [_], _ => rfl⟩
theorem sc_law : FnScope ["script", "draws", "n", "k", "texts", "turn", "j", "text", "rounds", "both", "plain", "readings", "t", "one", "parts", "part", "whole"] ["script"] (defScope (top 33)) := ⟨rfl, rfl, rfl, by decide +kernel, rfl, by decide +kernel, by decide +kernel⟩
theorem fn_law (hx : Fx T P mg) (C__law_draws : GF T P w mg base 2 "_law_draws" ["script"] F__law_draws) (C__law_mix : GF T P w mg base 2 "_law_mix" ["draws", "k", "many"] F__law_mix) (C_all_readings : GF T P w mg base 5 "all_readings" ["table", "kinds", "word"] F_all_readings) (C_count_both : GF T P w mg base 4 "count_both" ["n", "k"] F_count_both) (C_count_plain : GF T P w mg base 9 "count_plain" ["n", "k"] F_count_plain) (C_count_round : GF T P w mg base 3 "count_round" ["n", "k"] F_count_round) (C_period : GF T P w mg base 4 "period" ["word"] F_period) (F : FunD T.K "law" "law" (defArgs (top 33)) (defBody (top 33)) (defScope (top 33)) [] [] f fd) : FnG T P w mg base 10 f fd ["script"] F_law := fnG_at (k := 9) (fun_of F) sc_law (by decide) fun cdv A outer s H E G => ⟨[], (show VS _ _ _ _ _ _ B_law from (vs_cons (vs_set 1 (ve_callG G C__law_draws (by decide) rfl (vn_cons (ve_var 0 rfl) vn_nil)) G.nd) (vs_cons (vs_asg (ve_ix (iv_idx G.K G.u1) (vf_list (va_cons (ve_tup (va_cons ve_int (va_cons ve_int va_nil))) (va_cons (ve_tup (va_cons ve_int (va_cons ve_int va_nil))) (va_cons (ve_tup (va_cons ve_int (va_cons ve_int va_nil))) (va_cons (ve_tup (va_cons ve_int (va_cons ve_int va_nil))) (va_cons (ve_tup (va_cons ve_int (va_cons ve_int va_nil))) (va_cons (ve_tup (va_cons ve_int (va_cons ve_int va_nil))) (va_cons (ve_tup (va_cons ve_int (va_cons ve_int va_nil))) (va_cons (ve_tup (va_cons ve_int (va_cons ve_int va_nil))) (va_cons (ve_tup (va_cons ve_int (va_cons ve_int va_nil))) (va_cons (ve_tup (va_cons ve_int (va_cons ve_int va_nil))) (va_cons (ve_tup (va_cons ve_int (va_cons ve_int va_nil))) (va_cons (ve_tup (va_cons ve_int (va_cons ve_int va_nil))) va_nil))))))))))))).ve.w (ve_callG G C__law_mix (by decide) rfl (vn_cons (ve_var 1 rfl) (vn_cons ve_int (vn_cons ve_int vn_nil)))).w) (vg_tup G.calm (vgs_cons (vg_name 2 G.nd) (vgs_cons (vg_name 3 G.nd) vgs_nil)))) (vs_cons (vs_set 4 (vf_list (va_cons (ve_str [] (by decide +kernel)) va_nil)).ve G.nd) (vs_cons (vs_for (L2.passes_of rfl) G.calm (vi_range1 (vw_var 2) hx.n_range) (vg_name 5 G.nd) (vs_one (vs_set 4 (ve_b2 (c2_sumL G.calm G.K) (vf_comp G.calm G.nd (own := [(("text" : Str), 7)]) (vi_val G.K (ve_var 4 rfl)) (blkOk_of (by kernel_rfl)) rfl rfl (fun b1 => (vg_name 7 (G.blk _ b1).nd)) (fun b1 => vts_nil) (fun b1 => (vf_comp (G.blk _ b1).calm (G.blk _ b1).nd (own := [(("j" : Str), 6)]) (vi_range1 (vw_var 3) hx.n_range) (blkOk_of (by kernel_rfl)) rfl rfl (fun b2 => (vg_name 6 ((G.blk _ b1).blk _ b2).nd)) (fun b2 => vts_nil) (fun b2 => (ve_op (vw_var 7) (ve_ix (iv_idx ((G.blk _ b1).blk _ b2).K ((G.blk _ b1).blk _ b2).u1) (ve_str [97, 98, 99, 100] (by decide +kernel)).w (vw_var 6)).w (ov_add ((G.blk _ b1).blk _ b2).K)))).ve)).ve.w (vf_list va_nil).ve.w (by kernel_rfl) hx.n_sum) G.nd))) (vs_cons (vs_asg (ve_tup (va_cons ve_int (va_cons ve_int (va_cons ve_int va_nil)))) (vg_tup G.calm (vgs_cons (vg_name 8 G.nd) (vgs_cons (vg_name 9 G.nd) (vgs_cons (vg_name 10 G.nd) vgs_nil))))) (vs_cons (vs_for (L2.passes_of rfl) G.calm (vi_val G.K (ve_var 4 rfl)) (vg_name 7 G.nd) (vs_cons (vs_setC 11 G.calm G.nd (own := [(("t" : Str), 12)]) (vi_range1 (vw_var 2) hx.n_range) (blkOk_of (by kernel_rfl)) rfl rfl (fun b1 => (vg_name 12 (G.blk _ b1).nd)) (fun b1 => vts_nil) (fun b1 => (ve_op (ve_slice (G.blk _ b1).K (vw_var 7) (vo_some (vw_var 12)) vo_none).w (ve_slice (G.blk _ b1).K (vw_var 7) vo_none (vo_some (vw_var 12))).w (ov_add (G.blk _ b1).K))) (L2.sw_true rfl rfl rfl (by decide +kernel))) (vs_cons (vs_set 8 (ve_op (vw_var 8) (ve_t1 (c1_int) (ve_cmp (ov_eq G.K G.u64) (vw_var 7) (ve_b1 (c1_min3 G.calm G.K G.u70) (vw_var 11) (by kernel_rfl) hx.n_min).w).w (by kernel_rfl) hx.n_int).w (ov_add G.K)) G.nd) (vs_cons (vs_set 9 (ve_op (vw_var 9) (ve_t1 (c1_int) (ve_cmp (ov_eq G.K G.u64) (vw_var 7) (ve_b1 (c1_min3 G.calm G.K G.u70) (ve_op (vw_var 11) (vf_comp G.calm G.nd (own := [(("one" : Str), 13)]) (vi_val G.K (ve_var 11 rfl)) (blkOk_of (by kernel_rfl)) rfl rfl (fun b1 => (vg_name 13 (G.blk _ b1).nd)) (fun b1 => vts_nil) (fun b1 => (ve_revS (vw_var 13)))).ve.w (ov_add G.K)).w (by kernel_rfl) hx.n_min).w).w (by kernel_rfl) hx.n_int).w (ov_add G.K)) G.nd) (vs_one (vs_set 10 (ve_op (vw_var 10) (ve_t1 (c1_int) (ve_and G.K (ve_cmp (ov_eq G.K G.u64) (vw_var 7) (ve_b1 (c1_min3 G.calm G.K G.u70) (vw_var 11) (by kernel_rfl) hx.n_min).w) (ve_one (ve_cmp (ov_eq G.K G.u64) (ve_m1 (m1_lcount G.K G.u65) PySem.F.plainAttrs_list PySem.F.slot_list_count PySem.F.type_list_count (vw_var 11) (vw_var 7)).w ve_int.w))).w (by kernel_rfl) hx.n_int).w (ov_add G.K)) G.nd)))))) (vs_cons (vs_if (vx_or (vt_cmp (ov_ne G.K G.u64) (ve_b1 (c1_repr G) (ve_callG G C_count_round (by decide) rfl (vn_cons (ve_var 2 rfl) (vn_cons (ve_var 3 rfl) vn_nil))).w (by kernel_rfl) hx.n_repr).w (ve_b1 (c1_repr G) (vw_var 8) (by kernel_rfl) hx.n_repr).w) (vx_or (vt_cmp (ov_ne G.K G.u64) (ve_b1 (c1_repr G) (ve_callG G C_count_both (by decide) rfl (vn_cons (ve_var 2 rfl) (vn_cons (ve_var 3 rfl) vn_nil))).w (by kernel_rfl) hx.n_repr).w (ve_b1 (c1_repr G) (vw_var 9) (by kernel_rfl) hx.n_repr).w) (vx_or1 (vt_cmp (ov_ne G.K G.u64) (ve_b1 (c1_repr G) (ve_callG G C_count_plain (by decide) rfl (vn_cons (ve_var 2 rfl) (vn_cons (ve_var 3 rfl) vn_nil))).w (by kernel_rfl) hx.n_repr).w (ve_b1 (c1_repr G) (vw_var 10) (by kernel_rfl) hx.n_repr).w)))).t (vs_one (vs_ret ve_bl)) vs_nil) (vs_cons (vs_for (L2.passes_of rfl) G.calm (vi_range1 ve_int.w hx.n_range) (vg_name 12 G.nd) (vs_cons (vs_set 7 (ve_ix (iv_idx G.K G.u1) (vw_var 4) (ve_callG G C__law_mix (by decide) rfl (vn_cons (ve_var 1 rfl) (vn_cons (ve_op ve_int.w (vw_var 12) (ov_add G.K)) (vn_cons (ve_b1 (c1_len G.K) (vw_var 4) (by kernel_rfl) hx.n_len) vn_nil)))).w) G.nd) (vs_one (vs_if (vx_or (vt_cmp (ov_ne G.K G.u64) (ve_b1 (c1_len G.K) (ve_callG G C_all_readings (by decide) rfl (vn_cons vf_dnewK.ve (vn_cons (ve_str [114] (by decide +kernel)) (vn_cons (ve_var 7 rfl) vn_nil)))).w (by kernel_rfl) hx.n_len).w (ve_callG G C_period (by decide) rfl (vn_cons (ve_var 7 rfl) vn_nil)).w) (vx_or1 (vt_cmp (ov_nin G.K G.u65) (ve_b1 (c1_len G.K) (ve_callG G C_all_readings (by decide) rfl (vn_cons vf_dnewK.ve (vn_cons (ve_str [98, 114] (by decide +kernel)) (vn_cons (ve_var 7 rfl) vn_nil)))).w (by kernel_rfl) hx.n_len).w (vf_list (va_cons (ve_callG G C_period (by decide) rfl (vn_cons (ve_var 7 rfl) vn_nil)) (va_cons (ve_op ve_int.w (ve_callG G C_period (by decide) rfl (vn_cons (ve_var 7 rfl) vn_nil)).w (ov_mul)) va_nil))).ve.w))).t (vs_one (vs_ret ve_bl)) vs_nil)))) (vs_cons (vs_for (L2.passes_of rfl) G.calm (vi_range1 ve_int.w hx.n_range) (vg_name 12 G.nd) (vs_cons (vs_asg (ve_tup (va_cons (ve_op ve_int.w (ve_callG G C__law_mix (by decide) rfl (vn_cons (ve_var 1 rfl) (vn_cons (ve_op ve_int.w (ve_op ve_int.w (vw_var 12) (ov_mul)).w (ov_add G.K)) (vn_cons ve_int vn_nil)))).w (ov_add G.K)) (va_cons (ve_op ve_int.w (ve_callG G C__law_mix (by decide) rfl (vn_cons (ve_var 1 rfl) (vn_cons (ve_op ve_int.w (ve_op ve_int.w (vw_var 12) (ov_mul)).w (ov_add G.K)) (vn_cons ve_int vn_nil)))).w (ov_add G.K)) va_nil))) (vg_tup G.calm (vgs_cons (vg_name 2 G.nd) (vgs_cons (vg_name 3 G.nd) vgs_nil)))) (vs_cons (vs_setC 14 G.calm G.nd (own := [(("part" : Str), 15)]) (vi_range2 ve_int.w (ve_op (vw_var 2) ve_int.w (ov_add G.K)).w hx.n_range) (blkOk_of (by kernel_rfl)) rfl rfl (fun b1 => (vg_name 15 (G.blk _ b1).nd)) (fun b1 => (vts_one (vt_cmp (ov_eq (G.blk _ b1).K (G.blk _ b1).u64) (ve_op (ve_t1 (c1_int) (vw_var 2) (by kernel_rfl) hx.n_int).w (vw_var 15) (ov_mod)).w ve_int.w))) (fun b1 => (ve_var 15 rfl)) (L2.sw_true rfl rfl rfl (by decide +kernel))) (vs_cons (vs_set 16 ve_int G.nd) (vs_cons (vs_for (L2.passes_of rfl) G.calm (vi_range1 (vw_var 2) hx.n_range) (vg_name 5 G.nd) (vs_one (vs_set 16 (ve_op (vw_var 16) (vw_var 3) (ov_mul)) G.nd))) (vs_cons (vs_if (vx_or (vt_cmp (ov_ne G.K G.u64) (ve_callG G C_count_round (by decide) rfl (vn_cons (ve_var 2 rfl) (vn_cons (ve_var 3 rfl) vn_nil))).w (ve_b1 (c1_sum G.calm) (vf_comp G.calm G.nd (own := [(("part" : Str), 15)]) (vi_val G.K (ve_var 14 rfl)) (blkOk_of (by kernel_rfl)) rfl rfl (fun b1 => (vg_name 15 (G.blk _ b1).nd)) (fun b1 => vts_nil) (fun b1 => (ve_callG (G.blk _ b1) C_count_plain (by decide) rfl (vn_cons (ve_var 15 rfl) (vn_cons (ve_var 3 rfl) vn_nil))))).ve.w (by kernel_rfl) hx.n_sum).w) (vx_or1 (vt_cmp (ov_ne G.K G.u64) (ve_b1 (c1_sum G.calm) (vf_comp G.calm G.nd (own := [(("part" : Str), 15)]) (vi_val G.K (ve_var 14 rfl)) (blkOk_of (by kernel_rfl)) rfl rfl (fun b1 => (vg_name 15 (G.blk _ b1).nd)) (fun b1 => vts_nil) (fun b1 => (ve_op (vw_var 15) (ve_callG (G.blk _ b1) C_count_plain (by decide) rfl (vn_cons (ve_var 15 rfl) (vn_cons (ve_var 3 rfl) vn_nil))).w (ov_mul)))).ve.w (by kernel_rfl) hx.n_sum).w (vw_var 16)))).t (vs_one (vs_ret ve_bl)) vs_nil) (vs_cons (vs_if (vx_or (vt_not (vt_cmp (ov_le) (ve_callG G C_count_round (by decide) rfl (vn_cons (ve_var 2 rfl) (vn_cons (ve_var 3 rfl) vn_nil))).w (ve_op ve_int.w (ve_callG G C_count_both (by decide) rfl (vn_cons (ve_var 2 rfl) (vn_cons (ve_var 3 rfl) vn_nil))).w (ov_mul)).w)) (vx_or (vt_cmp (ov_gt) (ve_callG G C_count_both (by decide) rfl (vn_cons (ve_var 2 rfl) (vn_cons (ve_var 3 rfl) vn_nil))).w (ve_callG G C_count_round (by decide) rfl (vn_cons (ve_var 2 rfl) (vn_cons (ve_var 3 rfl) vn_nil))).w) (vx_or (vt_cmp (ov_ne G.K G.u64) (ve_callG G C_count_round (by decide) rfl (vn_cons (ve_var 2 rfl) (vn_cons ve_int vn_nil))).w ve_int.w) (vx_or1 (vt_cmp (ov_ne G.K G.u64) (ve_callG G C_count_both (by decide) rfl (vn_cons (ve_var 2 rfl) (vn_cons ve_int vn_nil))).w ve_int.w))))).t (vs_one (vs_ret ve_bl)) vs_nil) (vs_one (vs_if (vx_or (vx_and (vt_cmp (ov_lt) (vw_var 3) ve_int.w) (vx_and1 (vt_cmp (ov_le) (ve_callG G C_count_round (by decide) rfl (vn_cons (ve_var 2 rfl) (vn_cons (ve_op (vw_var 3) ve_int.w (ov_add G.K)) vn_nil))).w (ve_callG G C_count_round (by decide) rfl (vn_cons (ve_var 2 rfl) (vn_cons (ve_var 3 rfl) vn_nil))).w))).t (vx_or1 (vt_cmp (ov_ne G.K G.u64) (ve_callG G C_count_plain (by decide) rfl (vn_cons (ve_var 2 rfl) (vn_cons ve_int vn_nil))).w (ve_t1 (c1_int) (ve_cmp (ov_eq G.K G.u64) (vw_var 2) ve_int.w).w (by kernel_rfl) hx.n_int).w))).t (vs_one (vs_ret ve_bl)) vs_nil))))))))) (vs_one (vs_ret ve_bl))))))))))))⟩
end
end K29
set_option Elab.async false
set_option linter.all false
set_option maxRecDepth 100000
set_option maxHeartbeats 8000000
set_option autoImplicit false
/-! the head of law_k29_whole_numbers_of_classes -/
namespace K29
open PySem PySem.Spec L2 VL VL.R
def d__law_draws : He.DefD := ⟨("_law_draws", none), "_law_draws", "_law_draws", defArgs (top 31), defBody (top 31), defScope (top 31), [], []⟩
def d__law_mix : He.DefD := ⟨("_law_mix", none), "_law_mix", "_law_mix", defArgs (top 32), defBody (top 32), defScope (top 32), [], []⟩
def d_check_flips : He.DefD := ⟨("check_flips", none), "check_flips", "check_flips", defArgs (top 13), defBody (top 13), defScope (top 13), [], []⟩
def d_check_kinds : He.DefD := ⟨("check_kinds", none), "check_kinds", "check_kinds", defArgs (top 14), defBody (top 14), defScope (top 14), [], []⟩
def d_is_word : He.DefD := ⟨("is_word", none), "is_word", "is_word", defArgs (top 9), defBody (top 9), defScope (top 9), [], []⟩
def d_check_one : He.DefD := ⟨("check_one", none), "check_one", "check_one", defArgs (top 12), defBody (top 12), defScope (top 12), [], []⟩
def d_flip_of : He.DefD := ⟨("flip_of", none), "flip_of", "flip_of", defArgs (top 17), defBody (top 17), defScope (top 17), [], []⟩
def d_rounds_of : He.DefD := ⟨("rounds_of", none), "rounds_of", "rounds_of", defArgs (top 15), defBody (top 15), defScope (top 15), [], []⟩
def d_next_readings : He.DefD := ⟨("next_readings", none), "next_readings", "next_readings", defArgs (top 18), defBody (top 18), defScope (top 18), [], []⟩
def d_readings_of : He.DefD := ⟨("readings_of", none), "readings_of", "readings_of", defArgs (top 19), defBody (top 19), defScope (top 19), [], []⟩
def d_all_readings : He.DefD := ⟨("all_readings", none), "all_readings", "all_readings", defArgs (top 20), defBody (top 20), defScope (top 20), [], []⟩
def d_check_numbers : He.DefD := ⟨("check_numbers", none), "check_numbers", "check_numbers", defArgs (top 23), defBody (top 23), defScope (top 23), [], []⟩
def d_common : He.DefD := ⟨("common", none), "common", "common", defArgs (top 24), defBody (top 24), defScope (top 24), [], []⟩
def d_power : He.DefD := ⟨("power", none), "power", "power", defArgs (top 25), defBody (top 25), defScope (top 25), [], []⟩
def d_count_round : He.DefD := ⟨("count_round", none), "count_round", "count_round", defArgs (top 26), defBody (top 26), defScope (top 26), [], []⟩
def d_count_both : He.DefD := ⟨("count_both", none), "count_both", "count_both", defArgs (top 27), defBody (top 27), defScope (top 27), [], []⟩
def d_plain_texts : He.DefD := ⟨("plain_texts", none), "plain_texts", "plain_texts", defArgs (top 28), defBody (top 28), defScope (top 28), [], []⟩
def d_count_plain : He.DefD := ⟨("count_plain", none), "count_plain", "count_plain", defArgs (top 29), defBody (top 29), defScope (top 29), [], []⟩
def d_period : He.DefD := ⟨("period", none), "period", "period", defArgs (top 16), defBody (top 16), defScope (top 16), [], []⟩
def d_law : He.DefD := ⟨("law", none), "law", "law", defArgs (top 33), defBody (top 33), defScope (top 33), [], []⟩
def fn : List He.DefD := [d__law_draws, d__law_mix, d_check_flips, d_check_kinds, d_is_word, d_check_one, d_flip_of, d_rounds_of, d_next_readings, d_readings_of, d_all_readings, d_check_numbers, d_common, d_power, d_count_round, d_count_both, d_plain_texts, d_count_plain, d_period, d_law]
def fa : List He.Fa := ([.str "KINDS" "bfr", .str "LETTERS" "abcdefghijklmnopqrstuvwxyz", .int "MOST" 20, .int "MOST_LETTERS" 8, .free "abs", .free "all", .free "enumerate", .free "int", .free "len", .free "list", .free "min", .free "range", .free "repr", .free "set", .free "sorted", .free "sum", .glo "_law_draws", .glo "_law_mix", .glo "check_flips", .glo "check_kinds", .glo "is_word", .glo "check_one", .glo "flip_of", .glo "rounds_of", .glo "next_readings", .glo "readings_of", .glo "all_readings", .glo "check_numbers", .glo "common", .glo "power"] : List He.Fa) ++ ([.glo "count_round", .glo "count_both", .glo "plain_texts", .glo "count_plain", .glo "period", .glo "law"] : List He.Fa)
def ts : List TabV := []
def names : List PySem.Str := (["PlayError", "OutOfRange", "BadWord", "BadFlip", "BadKinds", "LETTERS", "MOST_LETTERS", "is_word", "KINDS", "check_one", "check_flips", "check_kinds", "rounds_of", "period", "flip_of", "next_readings", "readings_of", "all_readings", "MOST", "check_numbers", "common", "power", "count_round", "count_both", "plain_texts", "count_plain", "_law_draws", "_law_mix"] : List PySem.Str)
def xd : XD := ⟨"PlayError", PySem.Challenge.pw_wordsatplay_k29_whole_numbers_of_classes.main.file, ["PlayError", "OutOfRange", "BadWord", "BadFlip", "BadKinds"], [], [], false, false⟩
abbrev RR : PySem.W.OpenRow := PySem.W.OpenLaw.row PySem.Challenge.rw_wordsatplay_k29_whole_numbers_of_classes
abbrev qv : Program := PySem.W.view RR.prog [33]
abbrev hk : PySem.W.Hook := hookX xd 4 fa fn ts
def ob (s : PySem.W.SharedT) : AlX := obsXG xd 4 fa fn ts (HandSHeadRun.getT s)
theorem ob_eq (s : PySem.W.SharedT) : ob s = hk.obs s.abs := obsXG_eq (HandSHeadRun.getT_eq s)
theorem run (w : World) : HandSHeadRun.RunEq RR qv hk ob 12000 names w := by
  intro os
  kernel_rfl
section
variable {K : PySem.W.Frag} {P : Program} {w : World} {mg : Str → Option Value} {base h : Heap}
theorem fx (X : K.In h) (G : h.Ns mainGlobals mg) (c : SaysX xd fa fn ts K) (hf : ((P.main.file : Str) == xd.file) = true) (ht : (P.main.scope.names.lookup ("super" : Str)).isSome = false) : Fx (tbX xd K) P mg where
  c_KINDS := He.str_ok X G (c.v.d.fact 0 (f := .str "KINDS" "bfr") rfl)
  c_LETTERS := He.str_ok X G (c.v.d.fact 1 (f := .str "LETTERS" "abcdefghijklmnopqrstuvwxyz") rfl)
  c_MOST := He.int_ok X G (c.v.d.fact 2 (f := .int "MOST" 20) rfl)
  c_MOST_LETTERS := He.int_ok X G (c.v.d.fact 3 (f := .int "MOST_LETTERS" 8) rfl)
  n_abs := He.free_ok X G (c.v.d.fact 4 (f := .free "abs") rfl)
  n_all := He.free_ok X G (c.v.d.fact 5 (f := .free "all") rfl)
  n_enumerate := He.free_ok X G (c.v.d.fact 6 (f := .free "enumerate") rfl)
  n_int := He.free_ok X G (c.v.d.fact 7 (f := .free "int") rfl)
  n_len := He.free_ok X G (c.v.d.fact 8 (f := .free "len") rfl)
  n_list := He.free_ok X G (c.v.d.fact 9 (f := .free "list") rfl)
  n_min := He.free_ok X G (c.v.d.fact 10 (f := .free "min") rfl)
  n_range := He.free_ok X G (c.v.d.fact 11 (f := .free "range") rfl)
  n_repr := He.free_ok X G (c.v.d.fact 12 (f := .free "repr") rfl)
  n_set := He.free_ok X G (c.v.d.fact 13 (f := .free "set") rfl)
  n_sorted := He.free_ok X G (c.v.d.fact 14 (f := .free "sorted") rfl)
  n_sum := He.free_ok X G (c.v.d.fact 15 (f := .free "sum") rfl)
  e_BadFlip := c.ec X G hf ht 3 rfl
  e_BadKinds := c.ec X G hf ht 4 rfl
  e_BadWord := c.ec X G hf ht 2 rfl
  e_OutOfRange := c.ec X G hf ht 1 rfl
theorem facts {f : Addr} (X : K.In h) (G : h.Ns mainGlobals mg) (c : SaysX xd fa fn ts K) (hf : ((P.main.file : Str) == xd.file) = true) (ht : (P.main.scope.names.lookup ("super" : Str)).isSome = false) (hfa : mg ("law" : Str) = some (.ref f)) :
    ∃ fd : FuncData, (∀ (s : Shared) (v : Value), BindsTo s fd ⟨[v], []⟩ [("script", v)]) ∧ ∀ base : Heap, K.In base → base.Ns mainGlobals mg → FnG (tbX xd K) P w mg base 10 f fd ["script"] F_law := by
  obtain ⟨fd__law_draws, D__law_draws⟩ := c.v.d.def_ 0 (d := d__law_draws) rfl
  obtain ⟨fd__law_mix, D__law_mix⟩ := c.v.d.def_ 1 (d := d__law_mix) rfl
  obtain ⟨fd_check_flips, D_check_flips⟩ := c.v.d.def_ 2 (d := d_check_flips) rfl
  obtain ⟨fd_check_kinds, D_check_kinds⟩ := c.v.d.def_ 3 (d := d_check_kinds) rfl
  obtain ⟨fd_is_word, D_is_word⟩ := c.v.d.def_ 4 (d := d_is_word) rfl
  obtain ⟨fd_check_one, D_check_one⟩ := c.v.d.def_ 5 (d := d_check_one) rfl
  obtain ⟨fd_flip_of, D_flip_of⟩ := c.v.d.def_ 6 (d := d_flip_of) rfl
  obtain ⟨fd_rounds_of, D_rounds_of⟩ := c.v.d.def_ 7 (d := d_rounds_of) rfl
  obtain ⟨fd_next_readings, D_next_readings⟩ := c.v.d.def_ 8 (d := d_next_readings) rfl
  obtain ⟨fd_readings_of, D_readings_of⟩ := c.v.d.def_ 9 (d := d_readings_of) rfl
  obtain ⟨fd_all_readings, D_all_readings⟩ := c.v.d.def_ 10 (d := d_all_readings) rfl
  obtain ⟨fd_check_numbers, D_check_numbers⟩ := c.v.d.def_ 11 (d := d_check_numbers) rfl
  obtain ⟨fd_common, D_common⟩ := c.v.d.def_ 12 (d := d_common) rfl
  obtain ⟨fd_power, D_power⟩ := c.v.d.def_ 13 (d := d_power) rfl
  obtain ⟨fd_count_round, D_count_round⟩ := c.v.d.def_ 14 (d := d_count_round) rfl
  obtain ⟨fd_count_both, D_count_both⟩ := c.v.d.def_ 15 (d := d_count_both) rfl
  obtain ⟨fd_plain_texts, D_plain_texts⟩ := c.v.d.def_ 16 (d := d_plain_texts) rfl
  obtain ⟨fd_count_plain, D_count_plain⟩ := c.v.d.def_ 17 (d := d_count_plain) rfl
  obtain ⟨fd_period, D_period⟩ := c.v.d.def_ 18 (d := d_period) rfl
  obtain ⟨fd_law, D_law⟩ := c.v.d.def_ 19 (d := d_law) rfl
  have e := hfa.symm.trans (He.glo_ok X G (c.v.d.fact 35 (f := .glo "law") rfl))
  cases e
  refine ⟨fd_law, fun s v => FunD.bindsA (ps := ["script"]) D_law (fun _ _ _ _ _ _ us hl => match us, hl with | [_], _ => rfl) s [v] rfl, fun base Xb Gb => ?_⟩
  have hx := fx Xb Gb c hf ht
  have C__law_draws : GF (tbX xd K) P w mg base 2 "_law_draws" ["script"] F__law_draws := g__law_draws hx D__law_draws (He.glo_ok Xb Gb (c.v.d.fact 16 (f := .glo "_law_draws") rfl))
  have C__law_mix : GF (tbX xd K) P w mg base 2 "_law_mix" ["draws", "k", "many"] F__law_mix := g__law_mix hx D__law_mix (He.glo_ok Xb Gb (c.v.d.fact 17 (f := .glo "_law_mix") rfl))
  have C_check_flips : GF (tbX xd K) P w mg base 2 "check_flips" ["table"] F_check_flips := g_check_flips hx D_check_flips (He.glo_ok Xb Gb (c.v.d.fact 18 (f := .glo "check_flips") rfl))
  have C_check_kinds : GF (tbX xd K) P w mg base 2 "check_kinds" ["kinds"] F_check_kinds := g_check_kinds hx D_check_kinds (He.glo_ok Xb Gb (c.v.d.fact 19 (f := .glo "check_kinds") rfl))
  have C_is_word : GF (tbX xd K) P w mg base 2 "is_word" ["text"] F_is_word := g_is_word hx D_is_word (He.glo_ok Xb Gb (c.v.d.fact 20 (f := .glo "is_word") rfl))
  have C_check_one : GF (tbX xd K) P w mg base 3 "check_one" ["word"] F_check_one := g_check_one hx C_is_word D_check_one (He.glo_ok Xb Gb (c.v.d.fact 21 (f := .glo "check_one") rfl))
  have C_flip_of : GF (tbX xd K) P w mg base 2 "flip_of" ["table", "text"] F_flip_of := g_flip_of hx D_flip_of (He.glo_ok Xb Gb (c.v.d.fact 22 (f := .glo "flip_of") rfl))
  have C_rounds_of : GF (tbX xd K) P w mg base 2 "rounds_of" ["text"] F_rounds_of := g_rounds_of hx D_rounds_of (He.glo_ok Xb Gb (c.v.d.fact 23 (f := .glo "rounds_of") rfl))
  have C_next_readings : GF (tbX xd K) P w mg base 3 "next_readings" ["table", "kinds", "text"] F_next_readings := g_next_readings hx C_flip_of C_rounds_of D_next_readings (He.glo_ok Xb Gb (c.v.d.fact 24 (f := .glo "next_readings") rfl))
  have C_readings_of : GF (tbX xd K) P w mg base 4 "readings_of" ["table", "kinds", "word"] F_readings_of := g_readings_of hx C_next_readings D_readings_of (He.glo_ok Xb Gb (c.v.d.fact 25 (f := .glo "readings_of") rfl))
  have C_all_readings : GF (tbX xd K) P w mg base 5 "all_readings" ["table", "kinds", "word"] F_all_readings := g_all_readings hx C_check_flips C_check_kinds C_check_one C_readings_of D_all_readings (He.glo_ok Xb Gb (c.v.d.fact 26 (f := .glo "all_readings") rfl))
  have C_check_numbers : GF (tbX xd K) P w mg base 2 "check_numbers" ["n", "k"] F_check_numbers := g_check_numbers hx D_check_numbers (He.glo_ok Xb Gb (c.v.d.fact 27 (f := .glo "check_numbers") rfl))
  have C_common : GF (tbX xd K) P w mg base 2 "common" ["one", "two"] F_common := g_common hx D_common (He.glo_ok Xb Gb (c.v.d.fact 28 (f := .glo "common") rfl))
  have C_power : GF (tbX xd K) P w mg base 2 "power" ["k", "n"] F_power := g_power hx D_power (He.glo_ok Xb Gb (c.v.d.fact 29 (f := .glo "power") rfl))
  have C_count_round : GF (tbX xd K) P w mg base 3 "count_round" ["n", "k"] F_count_round := g_count_round hx C_check_numbers C_common C_power D_count_round (He.glo_ok Xb Gb (c.v.d.fact 30 (f := .glo "count_round") rfl))
  have C_count_both : GF (tbX xd K) P w mg base 4 "count_both" ["n", "k"] F_count_both := g_count_both hx C_check_numbers C_count_round C_power D_count_both (He.glo_ok Xb Gb (c.v.d.fact 31 (f := .glo "count_both") rfl))
  have grp_0_ := grp_0 (w := w) (base := base) hx C_power D_plain_texts (He.glo_ok Xb Gb (c.v.d.fact 32 (f := .glo "plain_texts") rfl)) 6
  have C_plain_texts : GF (tbX xd K) P w mg base 8 "plain_texts" ["n", "k"] F_plain_texts := grp_0_
  have C_count_plain : GF (tbX xd K) P w mg base 9 "count_plain" ["n", "k"] F_count_plain := g_count_plain hx C_check_numbers C_plain_texts D_count_plain (He.glo_ok Xb Gb (c.v.d.fact 33 (f := .glo "count_plain") rfl))
  have C_period : GF (tbX xd K) P w mg base 4 "period" ["word"] F_period := g_period hx C_check_one C_rounds_of D_period (He.glo_ok Xb Gb (c.v.d.fact 34 (f := .glo "period") rfl))
  exact fn_law hx C__law_draws C__law_mix C_all_readings C_count_both C_count_plain C_count_round C_period D_law
end
end K29
set_option Elab.async false
set_option linter.all false
set_option maxRecDepth 100000
set_option maxHeartbeats 4000000
set_option autoImplicit false
/-! K29: shapes and texts. -/
namespace K29
open VL VL.R
def TX : Nat → Nat → List (List Nat)
  | 0, _ => [[]]
  | n + 1, k => (TX n k).flatMap fun t => (List.range k).map fun j => t ++ [97 + j]
def SN : Nat → Nat
  | 0 => 1
  | 1 => 2
  | 2 => 3
  | 3 => 4
  | 4 => 5
  | 5 => 6
  | 6 => 4
  | 7 => 6
  | 8 => 5
  | 9 => 3
  | 10 => 8
  | _ => 7
def SK : Nat → Nat
  | 0 => 4
  | 1 => 4
  | 2 => 4
  | 3 => 4
  | 4 => 3
  | 5 => 2
  | 6 => 3
  | 7 => 3
  | 8 => 2
  | 9 => 3
  | 10 => 2
  | _ => 2
def CR : Nat → Int
  | 0 => 4
  | 1 => 10
  | 2 => 24
  | 3 => 70
  | 4 => 51
  | 5 => 14
  | 6 => 24
  | 7 => 130
  | 8 => 8
  | 9 => 11
  | 10 => 36
  | _ => 20
def CB : Nat → Int
  | 0 => 4
  | 1 => 10
  | 2 => 20
  | 3 => 55
  | 4 => 39
  | 5 => 13
  | 6 => 21
  | 7 => 92
  | 8 => 8
  | 9 => 10
  | 10 => 30
  | _ => 18
def CP : Nat → Int
  | 0 => 4
  | 1 => 6
  | 2 => 20
  | 3 => 60
  | 4 => 48
  | 5 => 9
  | 6 => 18
  | 7 => 116
  | 8 => 6
  | 9 => 8
  | 10 => 30
  | _ => 18
abbrev EA (sc dr : PV) (a2 a3 a4 a5 a6 a7 a8 a9 a10 a11 a12 a13 a14 a15 a16 : Option PV) : En := [some sc, some dr, a2, a3, a4, a5, a6, a7, a8, a9, a10, a11, a12, a13, a14, a15, a16]
abbrev TL (i : Nat) : PV := .list ((TX (SN i) (SK i)).map .str)
def LT (i : Nat) : List Nat := List.replicate (SN i) (96 + SK i)
abbrev n_ (i : Nat) : Option PV := some (.int (SN i : Int))
abbrev k_ (i : Nat) : Option PV := some (.int (SK i : Int))
end K29
set_option Elab.async false
set_option linter.all false
set_option maxRecDepth 100000
set_option maxHeartbeats 4000000
set_option autoImplicit false
namespace K29
open VL VL.R
abbrev bodyC : En → R Fl := (seqF (sSet 11 (cComp (iR1 (cV 2)) (gN 12) tT (cB addP (cSl (cV 7) (oS (cV 12)) oN) (cSl (cV 7) oN (oS (cV 12)))) [12])) (seqF (sSet 8 (cB addP (cV 8) (cU intP (cB eqP (cV 7) (cU min3P (cV 11)))))) (seqF (sSet 9 (cB addP (cV 9) (cU intP (cB eqP (cV 7) (cU min3P (cB addP (cV 11) (cComp (iV (cV 11)) (gN 13) tT (cU revP (cV 13)) [13]))))))) (sSet 10 (cB addP (cV 10) (cU intP (cAnd (cB eqP (cV 7) (cU min3P (cV 11))) (cB eqP (cM listB cntP (cV 11) (cV 7)) (cK (.int 1))))))))))
abbrev loopC : PV → En → R Fl := fun d env => do bodyC (← gN 7 d env)
theorem d0_0 (sc dr : PV) (a4 a5 a6 a7 a11 a12 a13 a14 a15 a16 : Option PV) : forE loopC ((((TX 1 4).drop 0).take 64).map .str) (EA sc dr (some (.int 1)) (some (.int 4)) a4 a5 a6 a7 (some (.int 0)) (some (.int 0)) (some (.int 0)) a11 a12 a13 a14 a15 a16) = .ok (.nx (EA sc dr (some (.int 1)) (some (.int 4)) a4 a5 a6 (some (.str [100])) (some (.int 4)) (some (.int 4)) (some (.int 4)) (some (.list [.str [100]])) a12 a13 a14 a15 a16)) := by kernel_rfl
theorem d1_0 (sc dr : PV) (a4 a5 a6 a7 a11 a12 a13 a14 a15 a16 : Option PV) : forE loopC ((((TX 2 4).drop 0).take 64).map .str) (EA sc dr (some (.int 2)) (some (.int 4)) a4 a5 a6 a7 (some (.int 0)) (some (.int 0)) (some (.int 0)) a11 a12 a13 a14 a15 a16) = .ok (.nx (EA sc dr (some (.int 2)) (some (.int 4)) a4 a5 a6 (some (.str [100, 100])) (some (.int 10)) (some (.int 10)) (some (.int 6)) (some (.list [.str [100, 100], .str [100, 100]])) a12 a13 a14 a15 a16)) := by kernel_rfl
theorem d2_0 (sc dr : PV) (a4 a5 a6 a7 a11 a12 a13 a14 a15 a16 : Option PV) : forE loopC ((((TX 3 4).drop 0).take 64).map .str) (EA sc dr (some (.int 3)) (some (.int 4)) a4 a5 a6 a7 (some (.int 0)) (some (.int 0)) (some (.int 0)) a11 a12 a13 a14 a15 a16) = .ok (.nx (EA sc dr (some (.int 3)) (some (.int 4)) a4 a5 a6 (some (.str [100, 100, 100])) (some (.int 24)) (some (.int 20)) (some (.int 20)) (some (.list [.str [100, 100, 100], .str [100, 100, 100], .str [100, 100, 100]])) a12 a13 a14 a15 a16)) := by kernel_rfl
theorem d3_0 (sc dr : PV) (a4 a5 a6 a7 a11 a12 a13 a14 a15 a16 : Option PV) : forE loopC ((((TX 4 4).drop 0).take 64).map .str) (EA sc dr (some (.int 4)) (some (.int 4)) a4 a5 a6 a7 (some (.int 0)) (some (.int 0)) (some (.int 0)) a11 a12 a13 a14 a15 a16) = .ok (.nx (EA sc dr (some (.int 4)) (some (.int 4)) a4 a5 a6 (some (.str [97, 100, 100, 100])) (some (.int 46)) (some (.int 34)) (some (.int 42)) (some (.list [.str [97, 100, 100, 100], .str [100, 100, 100, 97], .str [100, 100, 97, 100], .str [100, 97, 100, 100]])) a12 a13 a14 a15 a16)) := by kernel_rfl
theorem d3_1 (sc dr : PV) (a4 a5 a6 a7 a11 a12 a13 a14 a15 a16 : Option PV) : forE loopC ((((TX 4 4).drop 64).take 64).map .str) (EA sc dr (some (.int 4)) (some (.int 4)) a4 a5 a6 (some (.str [97, 100, 100, 100])) (some (.int 46)) (some (.int 34)) (some (.int 42)) (some (.list [.str [97, 100, 100, 100], .str [100, 100, 100, 97], .str [100, 100, 97, 100], .str [100, 97, 100, 100]])) a12 a13 a14 a15 a16) = .ok (.nx (EA sc dr (some (.int 4)) (some (.int 4)) a4 a5 a6 (some (.str [98, 100, 100, 100])) (some (.int 64)) (some (.int 49)) (some (.int 57)) (some (.list [.str [98, 100, 100, 100], .str [100, 100, 100, 98], .str [100, 100, 98, 100], .str [100, 98, 100, 100]])) a12 a13 a14 a15 a16)) := by kernel_rfl
theorem d3_2 (sc dr : PV) (a4 a5 a6 a7 a11 a12 a13 a14 a15 a16 : Option PV) : forE loopC ((((TX 4 4).drop 128).take 64).map .str) (EA sc dr (some (.int 4)) (some (.int 4)) a4 a5 a6 (some (.str [98, 100, 100, 100])) (some (.int 64)) (some (.int 49)) (some (.int 57)) (some (.list [.str [98, 100, 100, 100], .str [100, 100, 100, 98], .str [100, 100, 98, 100], .str [100, 98, 100, 100]])) a12 a13 a14 a15 a16) = .ok (.nx (EA sc dr (some (.int 4)) (some (.int 4)) a4 a5 a6 (some (.str [99, 100, 100, 100])) (some (.int 69)) (some (.int 54)) (some (.int 60)) (some (.list [.str [99, 100, 100, 100], .str [100, 100, 100, 99], .str [100, 100, 99, 100], .str [100, 99, 100, 100]])) a12 a13 a14 a15 a16)) := by kernel_rfl
theorem d3_3 (sc dr : PV) (a4 a5 a6 a7 a11 a12 a13 a14 a15 a16 : Option PV) : forE loopC ((((TX 4 4).drop 192).take 64).map .str) (EA sc dr (some (.int 4)) (some (.int 4)) a4 a5 a6 (some (.str [99, 100, 100, 100])) (some (.int 69)) (some (.int 54)) (some (.int 60)) (some (.list [.str [99, 100, 100, 100], .str [100, 100, 100, 99], .str [100, 100, 99, 100], .str [100, 99, 100, 100]])) a12 a13 a14 a15 a16) = .ok (.nx (EA sc dr (some (.int 4)) (some (.int 4)) a4 a5 a6 (some (.str [100, 100, 100, 100])) (some (.int 70)) (some (.int 55)) (some (.int 60)) (some (.list [.str [100, 100, 100, 100], .str [100, 100, 100, 100], .str [100, 100, 100, 100], .str [100, 100, 100, 100]])) a12 a13 a14 a15 a16)) := by kernel_rfl
theorem d4_0 (sc dr : PV) (a4 a5 a6 a7 a11 a12 a13 a14 a15 a16 : Option PV) : forE loopC ((((TX 5 3).drop 0).take 64).map .str) (EA sc dr (some (.int 5)) (some (.int 3)) a4 a5 a6 a7 (some (.int 0)) (some (.int 0)) (some (.int 0)) a11 a12 a13 a14 a15 a16) = .ok (.nx (EA sc dr (some (.int 5)) (some (.int 3)) a4 a5 a6 (some (.str [97, 99, 98, 97, 97])) (some (.int 35)) (some (.int 28)) (some (.int 34)) (some (.list [.str [97, 99, 98, 97, 97], .str [99, 98, 97, 97, 97], .str [98, 97, 97, 97, 99], .str [97, 97, 97, 99, 98], .str [97, 97, 99, 98, 97]])) a12 a13 a14 a15 a16)) := by kernel_rfl
theorem d4_1 (sc dr : PV) (a4 a5 a6 a7 a11 a12 a13 a14 a15 a16 : Option PV) : forE loopC ((((TX 5 3).drop 64).take 64).map .str) (EA sc dr (some (.int 5)) (some (.int 3)) a4 a5 a6 (some (.str [97, 99, 98, 97, 97])) (some (.int 35)) (some (.int 28)) (some (.int 34)) (some (.list [.str [97, 99, 98, 97, 97], .str [99, 98, 97, 97, 97], .str [98, 97, 97, 97, 99], .str [97, 97, 97, 99, 98], .str [97, 97, 99, 98, 97]])) a12 a13 a14 a15 a16) = .ok (.nx (EA sc dr (some (.int 5)) (some (.int 3)) a4 a5 a6 (some (.str [98, 98, 99, 97, 98])) (some (.int 46)) (some (.int 34)) (some (.int 44)) (some (.list [.str [98, 98, 99, 97, 98], .str [98, 99, 97, 98, 98], .str [99, 97, 98, 98, 98], .str [97, 98, 98, 98, 99], .str [98, 98, 98, 99, 97]])) a12 a13 a14 a15 a16)) := by kernel_rfl
theorem d4_2 (sc dr : PV) (a4 a5 a6 a7 a11 a12 a13 a14 a15 a16 : Option PV) : forE loopC ((((TX 5 3).drop 128).take 64).map .str) (EA sc dr (some (.int 5)) (some (.int 3)) a4 a5 a6 (some (.str [98, 98, 99, 97, 98])) (some (.int 46)) (some (.int 34)) (some (.int 44)) (some (.list [.str [98, 98, 99, 97, 98], .str [98, 99, 97, 98, 98], .str [99, 97, 98, 98, 98], .str [97, 98, 98, 98, 99], .str [98, 98, 98, 99, 97]])) a12 a13 a14 a15 a16) = .ok (.nx (EA sc dr (some (.int 5)) (some (.int 3)) a4 a5 a6 (some (.str [99, 98, 97, 97, 99])) (some (.int 50)) (some (.int 38)) (some (.int 48)) (some (.list [.str [99, 98, 97, 97, 99], .str [98, 97, 97, 99, 99], .str [97, 97, 99, 99, 98], .str [97, 99, 99, 98, 97], .str [99, 99, 98, 97, 97]])) a12 a13 a14 a15 a16)) := by kernel_rfl
theorem d4_3 (sc dr : PV) (a4 a5 a6 a7 a11 a12 a13 a14 a15 a16 : Option PV) : forE loopC ((((TX 5 3).drop 192).take 64).map .str) (EA sc dr (some (.int 5)) (some (.int 3)) a4 a5 a6 (some (.str [99, 98, 97, 97, 99])) (some (.int 50)) (some (.int 38)) (some (.int 48)) (some (.list [.str [99, 98, 97, 97, 99], .str [98, 97, 97, 99, 99], .str [97, 97, 99, 99, 98], .str [97, 99, 99, 98, 97], .str [99, 99, 98, 97, 97]])) a12 a13 a14 a15 a16) = .ok (.nx (EA sc dr (some (.int 5)) (some (.int 3)) a4 a5 a6 (some (.str [99, 99, 99, 99, 99])) (some (.int 51)) (some (.int 39)) (some (.int 48)) (some (.list [.str [99, 99, 99, 99, 99], .str [99, 99, 99, 99, 99], .str [99, 99, 99, 99, 99], .str [99, 99, 99, 99, 99], .str [99, 99, 99, 99, 99]])) a12 a13 a14 a15 a16)) := by kernel_rfl
theorem d5_0 (sc dr : PV) (a4 a5 a6 a7 a11 a12 a13 a14 a15 a16 : Option PV) : forE loopC ((((TX 6 2).drop 0).take 64).map .str) (EA sc dr (some (.int 6)) (some (.int 2)) a4 a5 a6 a7 (some (.int 0)) (some (.int 0)) (some (.int 0)) a11 a12 a13 a14 a15 a16) = .ok (.nx (EA sc dr (some (.int 6)) (some (.int 2)) a4 a5 a6 (some (.str [98, 98, 98, 98, 98, 98])) (some (.int 14)) (some (.int 13)) (some (.int 9)) (some (.list [.str [98, 98, 98, 98, 98, 98], .str [98, 98, 98, 98, 98, 98], .str [98, 98, 98, 98, 98, 98], .str [98, 98, 98, 98, 98, 98], .str [98, 98, 98, 98, 98, 98], .str [98, 98, 98, 98, 98, 98]])) a12 a13 a14 a15 a16)) := by kernel_rfl
theorem d6_0 (sc dr : PV) (a4 a5 a6 a7 a11 a12 a13 a14 a15 a16 : Option PV) : forE loopC ((((TX 4 3).drop 0).take 64).map .str) (EA sc dr (some (.int 4)) (some (.int 3)) a4 a5 a6 a7 (some (.int 0)) (some (.int 0)) (some (.int 0)) a11 a12 a13 a14 a15 a16) = .ok (.nx (EA sc dr (some (.int 4)) (some (.int 3)) a4 a5 a6 (some (.str [99, 98, 97, 97])) (some (.int 23)) (some (.int 20)) (some (.int 18)) (some (.list [.str [99, 98, 97, 97], .str [98, 97, 97, 99], .str [97, 97, 99, 98], .str [97, 99, 98, 97]])) a12 a13 a14 a15 a16)) := by kernel_rfl
theorem d6_1 (sc dr : PV) (a4 a5 a6 a7 a11 a12 a13 a14 a15 a16 : Option PV) : forE loopC ((((TX 4 3).drop 64).take 64).map .str) (EA sc dr (some (.int 4)) (some (.int 3)) a4 a5 a6 (some (.str [99, 98, 97, 97])) (some (.int 23)) (some (.int 20)) (some (.int 18)) (some (.list [.str [99, 98, 97, 97], .str [98, 97, 97, 99], .str [97, 97, 99, 98], .str [97, 99, 98, 97]])) a12 a13 a14 a15 a16) = .ok (.nx (EA sc dr (some (.int 4)) (some (.int 3)) a4 a5 a6 (some (.str [99, 99, 99, 99])) (some (.int 24)) (some (.int 21)) (some (.int 18)) (some (.list [.str [99, 99, 99, 99], .str [99, 99, 99, 99], .str [99, 99, 99, 99], .str [99, 99, 99, 99]])) a12 a13 a14 a15 a16)) := by kernel_rfl
theorem d7_0 (sc dr : PV) (a4 a5 a6 a7 a11 a12 a13 a14 a15 a16 : Option PV) : forE loopC ((((TX 6 3).drop 0).take 64).map .str) (EA sc dr (some (.int 6)) (some (.int 3)) a4 a5 a6 a7 (some (.int 0)) (some (.int 0)) (some (.int 0)) a11 a12 a13 a14 a15 a16) = .ok (.nx (EA sc dr (some (.int 6)) (some (.int 3)) a4 a5 a6 (some (.str [97, 97, 99, 98, 97, 97])) (some (.int 42)) (some (.int 33)) (some (.int 39)) (some (.list [.str [97, 97, 99, 98, 97, 97], .str [97, 99, 98, 97, 97, 97], .str [99, 98, 97, 97, 97, 97], .str [98, 97, 97, 97, 97, 99], .str [97, 97, 97, 97, 99, 98], .str [97, 97, 97, 99, 98, 97]])) a12 a13 a14 a15 a16)) := by kernel_rfl
theorem d7_1 (sc dr : PV) (a4 a5 a6 a7 a11 a12 a13 a14 a15 a16 : Option PV) : forE loopC ((((TX 6 3).drop 64).take 64).map .str) (EA sc dr (some (.int 6)) (some (.int 3)) a4 a5 a6 (some (.str [97, 97, 99, 98, 97, 97])) (some (.int 42)) (some (.int 33)) (some (.int 39)) (some (.list [.str [97, 97, 99, 98, 97, 97], .str [97, 99, 98, 97, 97, 97], .str [99, 98, 97, 97, 97, 97], .str [98, 97, 97, 97, 97, 99], .str [97, 97, 97, 97, 99, 98], .str [97, 97, 97, 99, 98, 97]])) a12 a13 a14 a15 a16) = .ok (.nx (EA sc dr (some (.int 6)) (some (.int 3)) a4 a5 a6 (some (.str [97, 98, 98, 99, 97, 98])) (some (.int 74)) (some (.int 53)) (some (.int 69)) (some (.list [.str [97, 98, 98, 99, 97, 98], .str [98, 98, 99, 97, 98, 97], .str [98, 99, 97, 98, 97, 98], .str [99, 97, 98, 97, 98, 98], .str [97, 98, 97, 98, 98, 99], .str [98, 97, 98, 98, 99, 97]])) a12 a13 a14 a15 a16)) := by kernel_rfl
theorem d7_2 (sc dr : PV) (a4 a5 a6 a7 a11 a12 a13 a14 a15 a16 : Option PV) : forE loopC ((((TX 6 3).drop 128).take 64).map .str) (EA sc dr (some (.int 6)) (some (.int 3)) a4 a5 a6 (some (.str [97, 98, 98, 99, 97, 98])) (some (.int 74)) (some (.int 53)) (some (.int 69)) (some (.list [.str [97, 98, 98, 99, 97, 98], .str [98, 98, 99, 97, 98, 97], .str [98, 99, 97, 98, 97, 98], .str [99, 97, 98, 97, 98, 98], .str [97, 98, 97, 98, 98, 99], .str [98, 97, 98, 98, 99, 97]])) a12 a13 a14 a15 a16) = .ok (.nx (EA sc dr (some (.int 6)) (some (.int 3)) a4 a5 a6 (some (.str [97, 99, 98, 97, 97, 99])) (some (.int 97)) (some (.int 72)) (some (.int 90)) (some (.list [.str [97, 99, 98, 97, 97, 99], .str [99, 98, 97, 97, 99, 97], .str [98, 97, 97, 99, 97, 99], .str [97, 97, 99, 97, 99, 98], .str [97, 99, 97, 99, 98, 97], .str [99, 97, 99, 98, 97, 97]])) a12 a13 a14 a15 a16)) := by kernel_rfl
theorem d7_3 (sc dr : PV) (a4 a5 a6 a7 a11 a12 a13 a14 a15 a16 : Option PV) : forE loopC ((((TX 6 3).drop 192).take 64).map .str) (EA sc dr (some (.int 6)) (some (.int 3)) a4 a5 a6 (some (.str [97, 99, 98, 97, 97, 99])) (some (.int 97)) (some (.int 72)) (some (.int 90)) (some (.list [.str [97, 99, 98, 97, 97, 99], .str [99, 98, 97, 97, 99, 97], .str [98, 97, 97, 99, 97, 99], .str [97, 97, 99, 97, 99, 98], .str [97, 99, 97, 99, 98, 97], .str [99, 97, 99, 98, 97, 97]])) a12 a13 a14 a15 a16) = .ok (.nx (EA sc dr (some (.int 6)) (some (.int 3)) a4 a5 a6 (some (.str [98, 97, 97, 98, 98, 97])) (some (.int 116)) (some (.int 79)) (some (.int 107)) (some (.list [.str [98, 97, 97, 98, 98, 97], .str [97, 97, 98, 98, 97, 98], .str [97, 98, 98, 97, 98, 97], .str [98, 98, 97, 98, 97, 97], .str [98, 97, 98, 97, 97, 98], .str [97, 98, 97, 97, 98, 98]])) a12 a13 a14 a15 a16)) := by kernel_rfl
theorem d7_4 (sc dr : PV) (a4 a5 a6 a7 a11 a12 a13 a14 a15 a16 : Option PV) : forE loopC ((((TX 6 3).drop 256).take 64).map .str) (EA sc dr (some (.int 6)) (some (.int 3)) a4 a5 a6 (some (.str [98, 97, 97, 98, 98, 97])) (some (.int 116)) (some (.int 79)) (some (.int 107)) (some (.list [.str [98, 97, 97, 98, 98, 97], .str [97, 97, 98, 98, 97, 98], .str [97, 98, 98, 97, 98, 97], .str [98, 98, 97, 98, 97, 97], .str [98, 97, 98, 97, 97, 98], .str [97, 98, 97, 97, 98, 98]])) a12 a13 a14 a15 a16) = .ok (.nx (EA sc dr (some (.int 6)) (some (.int 3)) a4 a5 a6 (some (.str [98, 97, 99, 99, 98, 98])) (some (.int 116)) (some (.int 79)) (some (.int 107)) (some (.list [.str [98, 97, 99, 99, 98, 98], .str [97, 99, 99, 98, 98, 98], .str [99, 99, 98, 98, 98, 97], .str [99, 98, 98, 98, 97, 99], .str [98, 98, 98, 97, 99, 99], .str [98, 98, 97, 99, 99, 98]])) a12 a13 a14 a15 a16)) := by kernel_rfl
theorem d7_5 (sc dr : PV) (a4 a5 a6 a7 a11 a12 a13 a14 a15 a16 : Option PV) : forE loopC ((((TX 6 3).drop 320).take 64).map .str) (EA sc dr (some (.int 6)) (some (.int 3)) a4 a5 a6 (some (.str [98, 97, 99, 99, 98, 98])) (some (.int 116)) (some (.int 79)) (some (.int 107)) (some (.list [.str [98, 97, 99, 99, 98, 98], .str [97, 99, 99, 98, 98, 98], .str [99, 99, 98, 98, 98, 97], .str [99, 98, 98, 98, 97, 99], .str [98, 98, 98, 97, 99, 99], .str [98, 98, 97, 99, 99, 98]])) a12 a13 a14 a15 a16) = .ok (.nx (EA sc dr (some (.int 6)) (some (.int 3)) a4 a5 a6 (some (.str [98, 98, 99, 97, 98, 99])) (some (.int 121)) (some (.int 84)) (some (.int 111)) (some (.list [.str [98, 98, 99, 97, 98, 99], .str [98, 99, 97, 98, 99, 98], .str [99, 97, 98, 99, 98, 98], .str [97, 98, 99, 98, 98, 99], .str [98, 99, 98, 98, 99, 97], .str [99, 98, 98, 99, 97, 98]])) a12 a13 a14 a15 a16)) := by kernel_rfl
theorem d7_6 (sc dr : PV) (a4 a5 a6 a7 a11 a12 a13 a14 a15 a16 : Option PV) : forE loopC ((((TX 6 3).drop 384).take 64).map .str) (EA sc dr (some (.int 6)) (some (.int 3)) a4 a5 a6 (some (.str [98, 98, 99, 97, 98, 99])) (some (.int 121)) (some (.int 84)) (some (.int 111)) (some (.list [.str [98, 98, 99, 97, 98, 99], .str [98, 99, 97, 98, 99, 98], .str [99, 97, 98, 99, 98, 98], .str [97, 98, 99, 98, 98, 99], .str [98, 99, 98, 98, 99, 97], .str [99, 98, 98, 99, 97, 98]])) a12 a13 a14 a15 a16) = .ok (.nx (EA sc dr (some (.int 6)) (some (.int 3)) a4 a5 a6 (some (.str [98, 99, 98, 98, 99, 97])) (some (.int 125)) (some (.int 87)) (some (.int 114)) (some (.list [.str [98, 99, 98, 98, 99, 97], .str [99, 98, 98, 99, 97, 98], .str [98, 98, 99, 97, 98, 99], .str [98, 99, 97, 98, 99, 98], .str [99, 97, 98, 99, 98, 98], .str [97, 98, 99, 98, 98, 99]])) a12 a13 a14 a15 a16)) := by kernel_rfl
theorem d7_7 (sc dr : PV) (a4 a5 a6 a7 a11 a12 a13 a14 a15 a16 : Option PV) : forE loopC ((((TX 6 3).drop 448).take 64).map .str) (EA sc dr (some (.int 6)) (some (.int 3)) a4 a5 a6 (some (.str [98, 99, 98, 98, 99, 97])) (some (.int 125)) (some (.int 87)) (some (.int 114)) (some (.list [.str [98, 99, 98, 98, 99, 97], .str [99, 98, 98, 99, 97, 98], .str [98, 98, 99, 97, 98, 99], .str [98, 99, 97, 98, 99, 98], .str [99, 97, 98, 99, 98, 98], .str [97, 98, 99, 98, 98, 99]])) a12 a13 a14 a15 a16) = .ok (.nx (EA sc dr (some (.int 6)) (some (.int 3)) a4 a5 a6 (some (.str [99, 97, 97, 99, 99, 98])) (some (.int 129)) (some (.int 91)) (some (.int 116)) (some (.list [.str [99, 97, 97, 99, 99, 98], .str [97, 97, 99, 99, 98, 99], .str [97, 99, 99, 98, 99, 97], .str [99, 99, 98, 99, 97, 97], .str [99, 98, 99, 97, 97, 99], .str [98, 99, 97, 97, 99, 99]])) a12 a13 a14 a15 a16)) := by kernel_rfl
theorem d7_8 (sc dr : PV) (a4 a5 a6 a7 a11 a12 a13 a14 a15 a16 : Option PV) : forE loopC ((((TX 6 3).drop 512).take 64).map .str) (EA sc dr (some (.int 6)) (some (.int 3)) a4 a5 a6 (some (.str [99, 97, 97, 99, 99, 98])) (some (.int 129)) (some (.int 91)) (some (.int 116)) (some (.list [.str [99, 97, 97, 99, 99, 98], .str [97, 97, 99, 99, 98, 99], .str [97, 99, 99, 98, 99, 97], .str [99, 99, 98, 99, 97, 97], .str [99, 98, 99, 97, 97, 99], .str [98, 99, 97, 97, 99, 99]])) a12 a13 a14 a15 a16) = .ok (.nx (EA sc dr (some (.int 6)) (some (.int 3)) a4 a5 a6 (some (.str [99, 98, 97, 97, 99, 99])) (some (.int 129)) (some (.int 91)) (some (.int 116)) (some (.list [.str [99, 98, 97, 97, 99, 99], .str [98, 97, 97, 99, 99, 99], .str [97, 97, 99, 99, 99, 98], .str [97, 99, 99, 99, 98, 97], .str [99, 99, 99, 98, 97, 97], .str [99, 99, 98, 97, 97, 99]])) a12 a13 a14 a15 a16)) := by kernel_rfl
theorem d7_9 (sc dr : PV) (a4 a5 a6 a7 a11 a12 a13 a14 a15 a16 : Option PV) : forE loopC ((((TX 6 3).drop 576).take 64).map .str) (EA sc dr (some (.int 6)) (some (.int 3)) a4 a5 a6 (some (.str [99, 98, 97, 97, 99, 99])) (some (.int 129)) (some (.int 91)) (some (.int 116)) (some (.list [.str [99, 98, 97, 97, 99, 99], .str [98, 97, 97, 99, 99, 99], .str [97, 97, 99, 99, 99, 98], .str [97, 99, 99, 99, 98, 97], .str [99, 99, 99, 98, 97, 97], .str [99, 99, 98, 97, 97, 99]])) a12 a13 a14 a15 a16) = .ok (.nx (EA sc dr (some (.int 6)) (some (.int 3)) a4 a5 a6 (some (.str [99, 98, 99, 99, 97, 97])) (some (.int 129)) (some (.int 91)) (some (.int 116)) (some (.list [.str [99, 98, 99, 99, 97, 97], .str [98, 99, 99, 97, 97, 99], .str [99, 99, 97, 97, 99, 98], .str [99, 97, 97, 99, 98, 99], .str [97, 97, 99, 98, 99, 99], .str [97, 99, 98, 99, 99, 97]])) a12 a13 a14 a15 a16)) := by kernel_rfl
theorem d7_10 (sc dr : PV) (a4 a5 a6 a7 a11 a12 a13 a14 a15 a16 : Option PV) : forE loopC ((((TX 6 3).drop 640).take 64).map .str) (EA sc dr (some (.int 6)) (some (.int 3)) a4 a5 a6 (some (.str [99, 98, 99, 99, 97, 97])) (some (.int 129)) (some (.int 91)) (some (.int 116)) (some (.list [.str [99, 98, 99, 99, 97, 97], .str [98, 99, 99, 97, 97, 99], .str [99, 99, 97, 97, 99, 98], .str [99, 97, 97, 99, 98, 99], .str [97, 97, 99, 98, 99, 99], .str [97, 99, 98, 99, 99, 97]])) a12 a13 a14 a15 a16) = .ok (.nx (EA sc dr (some (.int 6)) (some (.int 3)) a4 a5 a6 (some (.str [99, 99, 99, 97, 97, 98])) (some (.int 129)) (some (.int 91)) (some (.int 116)) (some (.list [.str [99, 99, 99, 97, 97, 98], .str [99, 99, 97, 97, 98, 99], .str [99, 97, 97, 98, 99, 99], .str [97, 97, 98, 99, 99, 99], .str [97, 98, 99, 99, 99, 97], .str [98, 99, 99, 99, 97, 97]])) a12 a13 a14 a15 a16)) := by kernel_rfl
theorem d7_11 (sc dr : PV) (a4 a5 a6 a7 a11 a12 a13 a14 a15 a16 : Option PV) : forE loopC ((((TX 6 3).drop 704).take 64).map .str) (EA sc dr (some (.int 6)) (some (.int 3)) a4 a5 a6 (some (.str [99, 99, 99, 97, 97, 98])) (some (.int 129)) (some (.int 91)) (some (.int 116)) (some (.list [.str [99, 99, 99, 97, 97, 98], .str [99, 99, 97, 97, 98, 99], .str [99, 97, 97, 98, 99, 99], .str [97, 97, 98, 99, 99, 99], .str [97, 98, 99, 99, 99, 97], .str [98, 99, 99, 99, 97, 97]])) a12 a13 a14 a15 a16) = .ok (.nx (EA sc dr (some (.int 6)) (some (.int 3)) a4 a5 a6 (some (.str [99, 99, 99, 99, 99, 99])) (some (.int 130)) (some (.int 92)) (some (.int 116)) (some (.list [.str [99, 99, 99, 99, 99, 99], .str [99, 99, 99, 99, 99, 99], .str [99, 99, 99, 99, 99, 99], .str [99, 99, 99, 99, 99, 99], .str [99, 99, 99, 99, 99, 99], .str [99, 99, 99, 99, 99, 99]])) a12 a13 a14 a15 a16)) := by kernel_rfl
theorem d8_0 (sc dr : PV) (a4 a5 a6 a7 a11 a12 a13 a14 a15 a16 : Option PV) : forE loopC ((((TX 5 2).drop 0).take 64).map .str) (EA sc dr (some (.int 5)) (some (.int 2)) a4 a5 a6 a7 (some (.int 0)) (some (.int 0)) (some (.int 0)) a11 a12 a13 a14 a15 a16) = .ok (.nx (EA sc dr (some (.int 5)) (some (.int 2)) a4 a5 a6 (some (.str [98, 98, 98, 98, 98])) (some (.int 8)) (some (.int 8)) (some (.int 6)) (some (.list [.str [98, 98, 98, 98, 98], .str [98, 98, 98, 98, 98], .str [98, 98, 98, 98, 98], .str [98, 98, 98, 98, 98], .str [98, 98, 98, 98, 98]])) a12 a13 a14 a15 a16)) := by kernel_rfl
theorem d9_0 (sc dr : PV) (a4 a5 a6 a7 a11 a12 a13 a14 a15 a16 : Option PV) : forE loopC ((((TX 3 3).drop 0).take 64).map .str) (EA sc dr (some (.int 3)) (some (.int 3)) a4 a5 a6 a7 (some (.int 0)) (some (.int 0)) (some (.int 0)) a11 a12 a13 a14 a15 a16) = .ok (.nx (EA sc dr (some (.int 3)) (some (.int 3)) a4 a5 a6 (some (.str [99, 99, 99])) (some (.int 11)) (some (.int 10)) (some (.int 8)) (some (.list [.str [99, 99, 99], .str [99, 99, 99], .str [99, 99, 99]])) a12 a13 a14 a15 a16)) := by kernel_rfl
theorem d10_0 (sc dr : PV) (a4 a5 a6 a7 a11 a12 a13 a14 a15 a16 : Option PV) : forE loopC ((((TX 8 2).drop 0).take 32).map .str) (EA sc dr (some (.int 8)) (some (.int 2)) a4 a5 a6 a7 (some (.int 0)) (some (.int 0)) (some (.int 0)) a11 a12 a13 a14 a15 a16) = .ok (.nx (EA sc dr (some (.int 8)) (some (.int 2)) a4 a5 a6 (some (.str [97, 97, 97, 98, 98, 98, 98, 98])) (some (.int 17)) (some (.int 14)) (some (.int 15)) (some (.list [.str [97, 97, 97, 98, 98, 98, 98, 98], .str [97, 97, 98, 98, 98, 98, 98, 97], .str [97, 98, 98, 98, 98, 98, 97, 97], .str [98, 98, 98, 98, 98, 97, 97, 97], .str [98, 98, 98, 98, 97, 97, 97, 98], .str [98, 98, 98, 97, 97, 97, 98, 98], .str [98, 98, 97, 97, 97, 98, 98, 98], .str [98, 97, 97, 97, 98, 98, 98, 98]])) a12 a13 a14 a15 a16)) := by kernel_rfl
theorem d10_1 (sc dr : PV) (a4 a5 a6 a7 a11 a12 a13 a14 a15 a16 : Option PV) : forE loopC ((((TX 8 2).drop 32).take 32).map .str) (EA sc dr (some (.int 8)) (some (.int 2)) a4 a5 a6 (some (.str [97, 97, 97, 98, 98, 98, 98, 98])) (some (.int 17)) (some (.int 14)) (some (.int 15)) (some (.list [.str [97, 97, 97, 98, 98, 98, 98, 98], .str [97, 97, 98, 98, 98, 98, 98, 97], .str [97, 98, 98, 98, 98, 98, 97, 97], .str [98, 98, 98, 98, 98, 97, 97, 97], .str [98, 98, 98, 98, 97, 97, 97, 98], .str [98, 98, 98, 97, 97, 97, 98, 98], .str [98, 98, 97, 97, 97, 98, 98, 98], .str [98, 97, 97, 97, 98, 98, 98, 98]])) a12 a13 a14 a15 a16) = .ok (.nx (EA sc dr (some (.int 8)) (some (.int 2)) a4 a5 a6 (some (.str [97, 97, 98, 98, 98, 98, 98, 98])) (some (.int 28)) (some (.int 22)) (some (.int 25)) (some (.list [.str [97, 97, 98, 98, 98, 98, 98, 98], .str [97, 98, 98, 98, 98, 98, 98, 97], .str [98, 98, 98, 98, 98, 98, 97, 97], .str [98, 98, 98, 98, 98, 97, 97, 98], .str [98, 98, 98, 98, 97, 97, 98, 98], .str [98, 98, 98, 97, 97, 98, 98, 98], .str [98, 98, 97, 97, 98, 98, 98, 98], .str [98, 97, 97, 98, 98, 98, 98, 98]])) a12 a13 a14 a15 a16)) := by kernel_rfl
theorem d10_2 (sc dr : PV) (a4 a5 a6 a7 a11 a12 a13 a14 a15 a16 : Option PV) : forE loopC ((((TX 8 2).drop 64).take 32).map .str) (EA sc dr (some (.int 8)) (some (.int 2)) a4 a5 a6 (some (.str [97, 97, 98, 98, 98, 98, 98, 98])) (some (.int 28)) (some (.int 22)) (some (.int 25)) (some (.list [.str [97, 97, 98, 98, 98, 98, 98, 98], .str [97, 98, 98, 98, 98, 98, 98, 97], .str [98, 98, 98, 98, 98, 98, 97, 97], .str [98, 98, 98, 98, 98, 97, 97, 98], .str [98, 98, 98, 98, 97, 97, 98, 98], .str [98, 98, 98, 97, 97, 98, 98, 98], .str [98, 98, 97, 97, 98, 98, 98, 98], .str [98, 97, 97, 98, 98, 98, 98, 98]])) a12 a13 a14 a15 a16) = .ok (.nx (EA sc dr (some (.int 8)) (some (.int 2)) a4 a5 a6 (some (.str [97, 98, 97, 98, 98, 98, 98, 98])) (some (.int 32)) (some (.int 26)) (some (.int 28)) (some (.list [.str [97, 98, 97, 98, 98, 98, 98, 98], .str [98, 97, 98, 98, 98, 98, 98, 97], .str [97, 98, 98, 98, 98, 98, 97, 98], .str [98, 98, 98, 98, 98, 97, 98, 97], .str [98, 98, 98, 98, 97, 98, 97, 98], .str [98, 98, 98, 97, 98, 97, 98, 98], .str [98, 98, 97, 98, 97, 98, 98, 98], .str [98, 97, 98, 97, 98, 98, 98, 98]])) a12 a13 a14 a15 a16)) := by kernel_rfl
theorem d10_3 (sc dr : PV) (a4 a5 a6 a7 a11 a12 a13 a14 a15 a16 : Option PV) : forE loopC ((((TX 8 2).drop 96).take 32).map .str) (EA sc dr (some (.int 8)) (some (.int 2)) a4 a5 a6 (some (.str [97, 98, 97, 98, 98, 98, 98, 98])) (some (.int 32)) (some (.int 26)) (some (.int 28)) (some (.list [.str [97, 98, 97, 98, 98, 98, 98, 98], .str [98, 97, 98, 98, 98, 98, 98, 97], .str [97, 98, 98, 98, 98, 98, 97, 98], .str [98, 98, 98, 98, 98, 97, 98, 97], .str [98, 98, 98, 98, 97, 98, 97, 98], .str [98, 98, 98, 97, 98, 97, 98, 98], .str [98, 98, 97, 98, 97, 98, 98, 98], .str [98, 97, 98, 97, 98, 98, 98, 98]])) a12 a13 a14 a15 a16) = .ok (.nx (EA sc dr (some (.int 8)) (some (.int 2)) a4 a5 a6 (some (.str [97, 98, 98, 98, 98, 98, 98, 98])) (some (.int 35)) (some (.int 29)) (some (.int 30)) (some (.list [.str [97, 98, 98, 98, 98, 98, 98, 98], .str [98, 98, 98, 98, 98, 98, 98, 97], .str [98, 98, 98, 98, 98, 98, 97, 98], .str [98, 98, 98, 98, 98, 97, 98, 98], .str [98, 98, 98, 98, 97, 98, 98, 98], .str [98, 98, 98, 97, 98, 98, 98, 98], .str [98, 98, 97, 98, 98, 98, 98, 98], .str [98, 97, 98, 98, 98, 98, 98, 98]])) a12 a13 a14 a15 a16)) := by kernel_rfl
theorem d10_4 (sc dr : PV) (a4 a5 a6 a7 a11 a12 a13 a14 a15 a16 : Option PV) : forE loopC ((((TX 8 2).drop 128).take 32).map .str) (EA sc dr (some (.int 8)) (some (.int 2)) a4 a5 a6 (some (.str [97, 98, 98, 98, 98, 98, 98, 98])) (some (.int 35)) (some (.int 29)) (some (.int 30)) (some (.list [.str [97, 98, 98, 98, 98, 98, 98, 98], .str [98, 98, 98, 98, 98, 98, 98, 97], .str [98, 98, 98, 98, 98, 98, 97, 98], .str [98, 98, 98, 98, 98, 97, 98, 98], .str [98, 98, 98, 98, 97, 98, 98, 98], .str [98, 98, 98, 97, 98, 98, 98, 98], .str [98, 98, 97, 98, 98, 98, 98, 98], .str [98, 97, 98, 98, 98, 98, 98, 98]])) a12 a13 a14 a15 a16) = .ok (.nx (EA sc dr (some (.int 8)) (some (.int 2)) a4 a5 a6 (some (.str [98, 97, 97, 98, 98, 98, 98, 98])) (some (.int 35)) (some (.int 29)) (some (.int 30)) (some (.list [.str [98, 97, 97, 98, 98, 98, 98, 98], .str [97, 97, 98, 98, 98, 98, 98, 98], .str [97, 98, 98, 98, 98, 98, 98, 97], .str [98, 98, 98, 98, 98, 98, 97, 97], .str [98, 98, 98, 98, 98, 97, 97, 98], .str [98, 98, 98, 98, 97, 97, 98, 98], .str [98, 98, 98, 97, 97, 98, 98, 98], .str [98, 98, 97, 97, 98, 98, 98, 98]])) a12 a13 a14 a15 a16)) := by kernel_rfl
theorem d10_5 (sc dr : PV) (a4 a5 a6 a7 a11 a12 a13 a14 a15 a16 : Option PV) : forE loopC ((((TX 8 2).drop 160).take 32).map .str) (EA sc dr (some (.int 8)) (some (.int 2)) a4 a5 a6 (some (.str [98, 97, 97, 98, 98, 98, 98, 98])) (some (.int 35)) (some (.int 29)) (some (.int 30)) (some (.list [.str [98, 97, 97, 98, 98, 98, 98, 98], .str [97, 97, 98, 98, 98, 98, 98, 98], .str [97, 98, 98, 98, 98, 98, 98, 97], .str [98, 98, 98, 98, 98, 98, 97, 97], .str [98, 98, 98, 98, 98, 97, 97, 98], .str [98, 98, 98, 98, 97, 97, 98, 98], .str [98, 98, 98, 97, 97, 98, 98, 98], .str [98, 98, 97, 97, 98, 98, 98, 98]])) a12 a13 a14 a15 a16) = .ok (.nx (EA sc dr (some (.int 8)) (some (.int 2)) a4 a5 a6 (some (.str [98, 97, 98, 98, 98, 98, 98, 98])) (some (.int 35)) (some (.int 29)) (some (.int 30)) (some (.list [.str [98, 97, 98, 98, 98, 98, 98, 98], .str [97, 98, 98, 98, 98, 98, 98, 98], .str [98, 98, 98, 98, 98, 98, 98, 97], .str [98, 98, 98, 98, 98, 98, 97, 98], .str [98, 98, 98, 98, 98, 97, 98, 98], .str [98, 98, 98, 98, 97, 98, 98, 98], .str [98, 98, 98, 97, 98, 98, 98, 98], .str [98, 98, 97, 98, 98, 98, 98, 98]])) a12 a13 a14 a15 a16)) := by kernel_rfl
theorem d10_6 (sc dr : PV) (a4 a5 a6 a7 a11 a12 a13 a14 a15 a16 : Option PV) : forE loopC ((((TX 8 2).drop 192).take 32).map .str) (EA sc dr (some (.int 8)) (some (.int 2)) a4 a5 a6 (some (.str [98, 97, 98, 98, 98, 98, 98, 98])) (some (.int 35)) (some (.int 29)) (some (.int 30)) (some (.list [.str [98, 97, 98, 98, 98, 98, 98, 98], .str [97, 98, 98, 98, 98, 98, 98, 98], .str [98, 98, 98, 98, 98, 98, 98, 97], .str [98, 98, 98, 98, 98, 98, 97, 98], .str [98, 98, 98, 98, 98, 97, 98, 98], .str [98, 98, 98, 98, 97, 98, 98, 98], .str [98, 98, 98, 97, 98, 98, 98, 98], .str [98, 98, 97, 98, 98, 98, 98, 98]])) a12 a13 a14 a15 a16) = .ok (.nx (EA sc dr (some (.int 8)) (some (.int 2)) a4 a5 a6 (some (.str [98, 98, 97, 98, 98, 98, 98, 98])) (some (.int 35)) (some (.int 29)) (some (.int 30)) (some (.list [.str [98, 98, 97, 98, 98, 98, 98, 98], .str [98, 97, 98, 98, 98, 98, 98, 98], .str [97, 98, 98, 98, 98, 98, 98, 98], .str [98, 98, 98, 98, 98, 98, 98, 97], .str [98, 98, 98, 98, 98, 98, 97, 98], .str [98, 98, 98, 98, 98, 97, 98, 98], .str [98, 98, 98, 98, 97, 98, 98, 98], .str [98, 98, 98, 97, 98, 98, 98, 98]])) a12 a13 a14 a15 a16)) := by kernel_rfl
theorem d10_7 (sc dr : PV) (a4 a5 a6 a7 a11 a12 a13 a14 a15 a16 : Option PV) : forE loopC ((((TX 8 2).drop 224).take 32).map .str) (EA sc dr (some (.int 8)) (some (.int 2)) a4 a5 a6 (some (.str [98, 98, 97, 98, 98, 98, 98, 98])) (some (.int 35)) (some (.int 29)) (some (.int 30)) (some (.list [.str [98, 98, 97, 98, 98, 98, 98, 98], .str [98, 97, 98, 98, 98, 98, 98, 98], .str [97, 98, 98, 98, 98, 98, 98, 98], .str [98, 98, 98, 98, 98, 98, 98, 97], .str [98, 98, 98, 98, 98, 98, 97, 98], .str [98, 98, 98, 98, 98, 97, 98, 98], .str [98, 98, 98, 98, 97, 98, 98, 98], .str [98, 98, 98, 97, 98, 98, 98, 98]])) a12 a13 a14 a15 a16) = .ok (.nx (EA sc dr (some (.int 8)) (some (.int 2)) a4 a5 a6 (some (.str [98, 98, 98, 98, 98, 98, 98, 98])) (some (.int 36)) (some (.int 30)) (some (.int 30)) (some (.list [.str [98, 98, 98, 98, 98, 98, 98, 98], .str [98, 98, 98, 98, 98, 98, 98, 98], .str [98, 98, 98, 98, 98, 98, 98, 98], .str [98, 98, 98, 98, 98, 98, 98, 98], .str [98, 98, 98, 98, 98, 98, 98, 98], .str [98, 98, 98, 98, 98, 98, 98, 98], .str [98, 98, 98, 98, 98, 98, 98, 98], .str [98, 98, 98, 98, 98, 98, 98, 98]])) a12 a13 a14 a15 a16)) := by kernel_rfl
theorem d11_0 (sc dr : PV) (a4 a5 a6 a7 a11 a12 a13 a14 a15 a16 : Option PV) : forE loopC ((((TX 7 2).drop 0).take 32).map .str) (EA sc dr (some (.int 7)) (some (.int 2)) a4 a5 a6 a7 (some (.int 0)) (some (.int 0)) (some (.int 0)) a11 a12 a13 a14 a15 a16) = .ok (.nx (EA sc dr (some (.int 7)) (some (.int 2)) a4 a5 a6 (some (.str [97, 97, 98, 98, 98, 98, 98])) (some (.int 15)) (some (.int 13)) (some (.int 14)) (some (.list [.str [97, 97, 98, 98, 98, 98, 98], .str [97, 98, 98, 98, 98, 98, 97], .str [98, 98, 98, 98, 98, 97, 97], .str [98, 98, 98, 98, 97, 97, 98], .str [98, 98, 98, 97, 97, 98, 98], .str [98, 98, 97, 97, 98, 98, 98], .str [98, 97, 97, 98, 98, 98, 98]])) a12 a13 a14 a15 a16)) := by kernel_rfl
theorem d11_1 (sc dr : PV) (a4 a5 a6 a7 a11 a12 a13 a14 a15 a16 : Option PV) : forE loopC ((((TX 7 2).drop 32).take 32).map .str) (EA sc dr (some (.int 7)) (some (.int 2)) a4 a5 a6 (some (.str [97, 97, 98, 98, 98, 98, 98])) (some (.int 15)) (some (.int 13)) (some (.int 14)) (some (.list [.str [97, 97, 98, 98, 98, 98, 98], .str [97, 98, 98, 98, 98, 98, 97], .str [98, 98, 98, 98, 98, 97, 97], .str [98, 98, 98, 98, 97, 97, 98], .str [98, 98, 98, 97, 97, 98, 98], .str [98, 98, 97, 97, 98, 98, 98], .str [98, 97, 97, 98, 98, 98, 98]])) a12 a13 a14 a15 a16) = .ok (.nx (EA sc dr (some (.int 7)) (some (.int 2)) a4 a5 a6 (some (.str [97, 98, 98, 98, 98, 98, 98])) (some (.int 19)) (some (.int 17)) (some (.int 18)) (some (.list [.str [97, 98, 98, 98, 98, 98, 98], .str [98, 98, 98, 98, 98, 98, 97], .str [98, 98, 98, 98, 98, 97, 98], .str [98, 98, 98, 98, 97, 98, 98], .str [98, 98, 98, 97, 98, 98, 98], .str [98, 98, 97, 98, 98, 98, 98], .str [98, 97, 98, 98, 98, 98, 98]])) a12 a13 a14 a15 a16)) := by kernel_rfl
theorem d11_2 (sc dr : PV) (a4 a5 a6 a7 a11 a12 a13 a14 a15 a16 : Option PV) : forE loopC ((((TX 7 2).drop 64).take 32).map .str) (EA sc dr (some (.int 7)) (some (.int 2)) a4 a5 a6 (some (.str [97, 98, 98, 98, 98, 98, 98])) (some (.int 19)) (some (.int 17)) (some (.int 18)) (some (.list [.str [97, 98, 98, 98, 98, 98, 98], .str [98, 98, 98, 98, 98, 98, 97], .str [98, 98, 98, 98, 98, 97, 98], .str [98, 98, 98, 98, 97, 98, 98], .str [98, 98, 98, 97, 98, 98, 98], .str [98, 98, 97, 98, 98, 98, 98], .str [98, 97, 98, 98, 98, 98, 98]])) a12 a13 a14 a15 a16) = .ok (.nx (EA sc dr (some (.int 7)) (some (.int 2)) a4 a5 a6 (some (.str [98, 97, 98, 98, 98, 98, 98])) (some (.int 19)) (some (.int 17)) (some (.int 18)) (some (.list [.str [98, 97, 98, 98, 98, 98, 98], .str [97, 98, 98, 98, 98, 98, 98], .str [98, 98, 98, 98, 98, 98, 97], .str [98, 98, 98, 98, 98, 97, 98], .str [98, 98, 98, 98, 97, 98, 98], .str [98, 98, 98, 97, 98, 98, 98], .str [98, 98, 97, 98, 98, 98, 98]])) a12 a13 a14 a15 a16)) := by kernel_rfl
theorem d11_3 (sc dr : PV) (a4 a5 a6 a7 a11 a12 a13 a14 a15 a16 : Option PV) : forE loopC ((((TX 7 2).drop 96).take 32).map .str) (EA sc dr (some (.int 7)) (some (.int 2)) a4 a5 a6 (some (.str [98, 97, 98, 98, 98, 98, 98])) (some (.int 19)) (some (.int 17)) (some (.int 18)) (some (.list [.str [98, 97, 98, 98, 98, 98, 98], .str [97, 98, 98, 98, 98, 98, 98], .str [98, 98, 98, 98, 98, 98, 97], .str [98, 98, 98, 98, 98, 97, 98], .str [98, 98, 98, 98, 97, 98, 98], .str [98, 98, 98, 97, 98, 98, 98], .str [98, 98, 97, 98, 98, 98, 98]])) a12 a13 a14 a15 a16) = .ok (.nx (EA sc dr (some (.int 7)) (some (.int 2)) a4 a5 a6 (some (.str [98, 98, 98, 98, 98, 98, 98])) (some (.int 20)) (some (.int 18)) (some (.int 18)) (some (.list [.str [98, 98, 98, 98, 98, 98, 98], .str [98, 98, 98, 98, 98, 98, 98], .str [98, 98, 98, 98, 98, 98, 98], .str [98, 98, 98, 98, 98, 98, 98], .str [98, 98, 98, 98, 98, 98, 98], .str [98, 98, 98, 98, 98, 98, 98], .str [98, 98, 98, 98, 98, 98, 98]])) a12 a13 a14 a15 a16)) := by kernel_rfl
theorem for5 (sc dr : PV) (a4 a5 a6 a7 a11 a12 a13 a14 a15 a16 : Option PV) : ∀ i, i < 12 → forE loopC ((TX (SN i) (SK i)).map .str) (EA sc dr (n_ i) (k_ i) a4 a5 a6 a7 (some (.int 0)) (some (.int 0)) (some (.int 0)) a11 a12 a13 a14 a15 a16) = .ok (.nx (EA sc dr (n_ i) (k_ i) a4 a5 a6 (some (.str (LT i))) (some (.int (CR i))) (some (.int (CB i))) (some (.int (CP i))) (some (.list (List.replicate (SN i) (.str (LT i))))) a12 a13 a14 a15 a16))
  | 0, _ => show forE loopC (((TX 1 4).drop 0).map .str) _ = _ from (for_step (n := 0) (m := 64) (d0_0 sc dr a4 a5 a6 a7 a11 a12 a13 a14 a15 a16) rfl)
  | 1, _ => show forE loopC (((TX 2 4).drop 0).map .str) _ = _ from (for_step (n := 0) (m := 64) (d1_0 sc dr a4 a5 a6 a7 a11 a12 a13 a14 a15 a16) rfl)
  | 2, _ => show forE loopC (((TX 3 4).drop 0).map .str) _ = _ from (for_step (n := 0) (m := 64) (d2_0 sc dr a4 a5 a6 a7 a11 a12 a13 a14 a15 a16) rfl)
  | 3, _ => show forE loopC (((TX 4 4).drop 0).map .str) _ = _ from (for_step (n := 0) (m := 64) (d3_0 sc dr a4 a5 a6 a7 a11 a12 a13 a14 a15 a16) (for_step (n := 64) (m := 64) (d3_1 sc dr a4 a5 a6 a7 a11 a12 a13 a14 a15 a16) (for_step (n := 128) (m := 64) (d3_2 sc dr a4 a5 a6 a7 a11 a12 a13 a14 a15 a16) (for_step (n := 192) (m := 64) (d3_3 sc dr a4 a5 a6 a7 a11 a12 a13 a14 a15 a16) rfl))))
  | 4, _ => show forE loopC (((TX 5 3).drop 0).map .str) _ = _ from (for_step (n := 0) (m := 64) (d4_0 sc dr a4 a5 a6 a7 a11 a12 a13 a14 a15 a16) (for_step (n := 64) (m := 64) (d4_1 sc dr a4 a5 a6 a7 a11 a12 a13 a14 a15 a16) (for_step (n := 128) (m := 64) (d4_2 sc dr a4 a5 a6 a7 a11 a12 a13 a14 a15 a16) (for_step (n := 192) (m := 64) (d4_3 sc dr a4 a5 a6 a7 a11 a12 a13 a14 a15 a16) rfl))))
  | 5, _ => show forE loopC (((TX 6 2).drop 0).map .str) _ = _ from (for_step (n := 0) (m := 64) (d5_0 sc dr a4 a5 a6 a7 a11 a12 a13 a14 a15 a16) rfl)
  | 6, _ => show forE loopC (((TX 4 3).drop 0).map .str) _ = _ from (for_step (n := 0) (m := 64) (d6_0 sc dr a4 a5 a6 a7 a11 a12 a13 a14 a15 a16) (for_step (n := 64) (m := 64) (d6_1 sc dr a4 a5 a6 a7 a11 a12 a13 a14 a15 a16) rfl))
  | 7, _ => show forE loopC (((TX 6 3).drop 0).map .str) _ = _ from (for_step (n := 0) (m := 64) (d7_0 sc dr a4 a5 a6 a7 a11 a12 a13 a14 a15 a16) (for_step (n := 64) (m := 64) (d7_1 sc dr a4 a5 a6 a7 a11 a12 a13 a14 a15 a16) (for_step (n := 128) (m := 64) (d7_2 sc dr a4 a5 a6 a7 a11 a12 a13 a14 a15 a16) (for_step (n := 192) (m := 64) (d7_3 sc dr a4 a5 a6 a7 a11 a12 a13 a14 a15 a16) (for_step (n := 256) (m := 64) (d7_4 sc dr a4 a5 a6 a7 a11 a12 a13 a14 a15 a16) (for_step (n := 320) (m := 64) (d7_5 sc dr a4 a5 a6 a7 a11 a12 a13 a14 a15 a16) (for_step (n := 384) (m := 64) (d7_6 sc dr a4 a5 a6 a7 a11 a12 a13 a14 a15 a16) (for_step (n := 448) (m := 64) (d7_7 sc dr a4 a5 a6 a7 a11 a12 a13 a14 a15 a16) (for_step (n := 512) (m := 64) (d7_8 sc dr a4 a5 a6 a7 a11 a12 a13 a14 a15 a16) (for_step (n := 576) (m := 64) (d7_9 sc dr a4 a5 a6 a7 a11 a12 a13 a14 a15 a16) (for_step (n := 640) (m := 64) (d7_10 sc dr a4 a5 a6 a7 a11 a12 a13 a14 a15 a16) (for_step (n := 704) (m := 64) (d7_11 sc dr a4 a5 a6 a7 a11 a12 a13 a14 a15 a16) rfl))))))))))))
  | 8, _ => show forE loopC (((TX 5 2).drop 0).map .str) _ = _ from (for_step (n := 0) (m := 64) (d8_0 sc dr a4 a5 a6 a7 a11 a12 a13 a14 a15 a16) rfl)
  | 9, _ => show forE loopC (((TX 3 3).drop 0).map .str) _ = _ from (for_step (n := 0) (m := 64) (d9_0 sc dr a4 a5 a6 a7 a11 a12 a13 a14 a15 a16) rfl)
  | 10, _ => show forE loopC (((TX 8 2).drop 0).map .str) _ = _ from (for_step (n := 0) (m := 32) (d10_0 sc dr a4 a5 a6 a7 a11 a12 a13 a14 a15 a16) (for_step (n := 32) (m := 32) (d10_1 sc dr a4 a5 a6 a7 a11 a12 a13 a14 a15 a16) (for_step (n := 64) (m := 32) (d10_2 sc dr a4 a5 a6 a7 a11 a12 a13 a14 a15 a16) (for_step (n := 96) (m := 32) (d10_3 sc dr a4 a5 a6 a7 a11 a12 a13 a14 a15 a16) (for_step (n := 128) (m := 32) (d10_4 sc dr a4 a5 a6 a7 a11 a12 a13 a14 a15 a16) (for_step (n := 160) (m := 32) (d10_5 sc dr a4 a5 a6 a7 a11 a12 a13 a14 a15 a16) (for_step (n := 192) (m := 32) (d10_6 sc dr a4 a5 a6 a7 a11 a12 a13 a14 a15 a16) (for_step (n := 224) (m := 32) (d10_7 sc dr a4 a5 a6 a7 a11 a12 a13 a14 a15 a16) rfl))))))))
  | 11, _ => show forE loopC (((TX 7 2).drop 0).map .str) _ = _ from (for_step (n := 0) (m := 32) (d11_0 sc dr a4 a5 a6 a7 a11 a12 a13 a14 a15 a16) (for_step (n := 32) (m := 32) (d11_1 sc dr a4 a5 a6 a7 a11 a12 a13 a14 a15 a16) (for_step (n := 64) (m := 32) (d11_2 sc dr a4 a5 a6 a7 a11 a12 a13 a14 a15 a16) (for_step (n := 96) (m := 32) (d11_3 sc dr a4 a5 a6 a7 a11 a12 a13 a14 a15 a16) rfl))))
theorem st3 (sc dr : PV) (a5 a6 a7 a8 a9 a10 a11 a12 a13 a14 a15 a16 : Option PV) : ∀ i, i < 12 → (sFor (iR1 (cV 2)) (gN 5) (sSet 4 (cB sumLP (cComp (iV (cV 4)) (gN 7) tT (cComp (iR1 (cV 3)) (gN 6) tT (cB addP (cV 7) (cB idxP (cK (.str [97, 98, 99, 100])) (cV 6))) [6]) [7]) (cLst aN)))) (EA sc dr (n_ i) (k_ i) (some (.list [.str []])) a5 a6 a7 a8 a9 a10 a11 a12 a13 a14 a15 a16) = .ok (.nx (EA sc dr (n_ i) (k_ i) (some (TL i)) (some (.int ((SN i : Int) - 1))) a6 a7 a8 a9 a10 a11 a12 a13 a14 a15 a16))
  | 0, _ => by kernel_rfl
  | 1, _ => by kernel_rfl
  | 2, _ => by kernel_rfl
  | 3, _ => by kernel_rfl
  | 4, _ => by kernel_rfl
  | 5, _ => by kernel_rfl
  | 6, _ => by kernel_rfl
  | 7, _ => by kernel_rfl
  | 8, _ => by kernel_rfl
  | 9, _ => by kernel_rfl
  | 10, _ => by kernel_rfl
  | 11, _ => by kernel_rfl
theorem st6 (sc dr : PV) (a4 a5 a6 a7 a11 a12 a13 a14 a15 a16 : Option PV) : ∀ i, i < 12 → (sIf (tOr (tB neP (cU reprP (cCall F_count_round (aC (cV 2) (aC (cV 3) aN)))) (cU reprP (cV 8))) (tOr (tB neP (cU reprP (cCall F_count_both (aC (cV 2) (aC (cV 3) aN)))) (cU reprP (cV 9))) (tB neP (cU reprP (cCall F_count_plain (aC (cV 2) (aC (cV 3) aN)))) (cU reprP (cV 10))))) (sRet (cK (.bool false))) sNil) (EA sc dr (n_ i) (k_ i) a4 a5 a6 a7 (some (.int (CR i))) (some (.int (CB i))) (some (.int (CP i))) a11 a12 a13 a14 a15 a16) = .ok (.nx (EA sc dr (n_ i) (k_ i) a4 a5 a6 a7 (some (.int (CR i))) (some (.int (CB i))) (some (.int (CP i))) a11 a12 a13 a14 a15 a16))
  | 0, _ => by kernel_rfl
  | 1, _ => by kernel_rfl
  | 2, _ => by kernel_rfl
  | 3, _ => by kernel_rfl
  | 4, _ => by kernel_rfl
  | 5, _ => by kernel_rfl
  | 6, _ => by kernel_rfl
  | 7, _ => by kernel_rfl
  | 8, _ => by kernel_rfl
  | 9, _ => by kernel_rfl
  | 10, _ => by kernel_rfl
  | 11, _ => by kernel_rfl
theorem st5 (sc dr : PV) (a5 a6 a7 a11 a12 a13 a14 a15 a16 : Option PV) (i : Nat) (hi : i < 12) : (sFor (iV (cV 4)) (gN 7) (seqF (sSet 11 (cComp (iR1 (cV 2)) (gN 12) tT (cB addP (cSl (cV 7) (oS (cV 12)) oN) (cSl (cV 7) oN (oS (cV 12)))) [12])) (seqF (sSet 8 (cB addP (cV 8) (cU intP (cB eqP (cV 7) (cU min3P (cV 11)))))) (seqF (sSet 9 (cB addP (cV 9) (cU intP (cB eqP (cV 7) (cU min3P (cB addP (cV 11) (cComp (iV (cV 11)) (gN 13) tT (cU revP (cV 13)) [13]))))))) (sSet 10 (cB addP (cV 10) (cU intP (cAnd (cB eqP (cV 7) (cU min3P (cV 11))) (cB eqP (cM listB cntP (cV 11) (cV 7)) (cK (.int 1))))))))))) (EA sc dr (n_ i) (k_ i) (some (TL i)) a5 a6 a7 (some (.int 0)) (some (.int 0)) (some (.int 0)) a11 a12 a13 a14 a15 a16) = .ok (.nx (EA sc dr (n_ i) (k_ i) (some (TL i)) a5 a6 (some (.str (LT i))) (some (.int (CR i))) (some (.int (CB i))) (some (.int (CP i))) (some (.list (List.replicate (SN i) (.str (LT i))))) a12 a13 a14 a15 a16)) := (sFor_of (iV_of (f := cV 4) rfl)).trans (for5 sc dr (some (TL i)) a5 a6 a7 a11 a12 a13 a14 a15 a16 i hi)
end K29
set_option Elab.async false
set_option linter.all false
set_option maxRecDepth 100000
set_option maxHeartbeats 4000000
set_option autoImplicit false
/-! K29C: readings round, and both ways. -/
namespace K29
open VL VL.R
abbrev W := List Nat
abbrev d0 : PV := .dict false [] []
def rots (w : W) : List W := (List.range w.length).map fun p => w.drop p ++ w.take p
def Rt (w y : W) : Prop := ∃ a b, w = a ++ b ∧ y = b ++ a
theorem mem_rots {w y : W} (h : w ≠ []) : y ∈ rots w ↔ Rt w y := by
  unfold rots
  rw [List.mem_map]
  constructor
  · rintro ⟨p, _, rfl⟩
    exact ⟨w.take p, w.drop p, (List.take_append_drop p w).symm, rfl⟩
  · rintro ⟨a, b, rfl, rfl⟩
    by_cases hb : b = []
    · subst hb
      refine ⟨0, ?_, by simp⟩
      rw [List.mem_range]
      exact List.length_pos_iff.mpr h
    · refine ⟨a.length, ?_, by simp⟩
      rw [List.mem_range, List.length_append]
      have := List.length_pos_iff.mpr hb
      omega
theorem Rt.trans {w x y : W} (h1 : Rt w x) (h2 : Rt x y) : Rt w y := by
  obtain ⟨a, b, rfl, rfl⟩ := h1
  obtain ⟨c, d, e, rfl⟩ := h2
  rcases List.append_eq_append_iff.mp e with ⟨u, rfl, rfl⟩ | ⟨u, rfl, rfl⟩
  · exact ⟨u, d ++ b, by simp, by simp⟩
  · exact ⟨a ++ c, u, by simp, by simp⟩
theorem Rt.rev {w x : W} (h : Rt w x) : Rt w.reverse x.reverse := by
  obtain ⟨a, b, rfl, rfl⟩ := h
  exact ⟨b.reverse, a.reverse, by simp, by simp⟩
theorem Rt.len {w x : W} (h : Rt w x) : x.length = w.length := by
  obtain ⟨a, b, rfl, rfl⟩ := h
  simp only [List.length_append]
  omega
theorem Rt.refl (w : W) : Rt w w := ⟨[], w, rfl, by simp⟩
theorem rounds_ok {w : W} (h : w.length ≤ 1000) : F_rounds_of [.str w] = .ok (.list ((rots w).map .str)) := by
  refine runF_rt (sRet_of ?_)
  have z := comp_m (α := Nat) (β := W) (fun i : Nat => .int (i : Int)) .str (fun p => w.drop p ++ w.take p) (fi := iR1 (cU lenP (cV 0))) (fg := gN 1) (f := cB addP (cSl (cV 0) (oS (cV 1)) oN) (cSl (cV 0) oN (oS (cV 1)))) (vs := [1]) (env := env0 2 [.str w]) (xs := List.range w.length)
    ((iR1_of (x := .int (w.length : Nat)) rfl).trans ((range1_ok (by omega)).trans (congrArg R.ok (range_map _)))) fun p hp => by
      refine ⟨[some (.str w), some (.int (p : Int))], rfl, ?_⟩
      refine (cB_of (o := addP) (cSl_from (f := cV 0) (g := cV 1) rfl rfl) (cSl_to (f := cV 0) (g := cV 1) rfl rfl)).trans (add_str ?_)
      rw [List.length_drop, List.length_take]
      omega
  exact z
theorem next_r {x : W} (h : x.length ≤ 1000) : F_next_readings [d0, .str [114], .str x] = .ok (.list ((rots x).map .str)) := by
  refine runF_rt ?_
  show seqF _ _ [some d0, some (.str [114]), some (.str x), none] = _
  rw [seq_nx (env' := [some d0, some (.str [114]), some (.str x), some (.list [])]) (by kernel_rfl)]
  rw [seq_nx (env' := [some d0, some (.str [114]), some (.str x), some (.list [])]) (by kernel_rfl)]
  refine sRet_of ((cB_of (o := addP) (f := cV 3) (x := .list []) rfl (y := .list ((rots x).map .str)) ?_).trans ?_)
  · exact (rounds_ok h)
  · show lim _ _ = _
    exact lim_ok (by show _ ≤ 16777216; simp only [rots, List.length_map, List.length_range, List.length_nil]; omega)
theorem next_br {x : W} (h : x.length ≤ 1000) : F_next_readings [d0, .str [98, 114], .str x] = .ok (.list ((x.reverse :: rots x).map .str)) := by
  refine runF_rt ?_
  show seqF _ _ [some d0, some (.str [98, 114]), some (.str x), none] = _
  rw [seq_nx (env' := [some d0, some (.str [98, 114]), some (.str x), some (.list [.str x.reverse])]) (by kernel_rfl)]
  rw [seq_nx (env' := [some d0, some (.str [98, 114]), some (.str x), some (.list [.str x.reverse])]) (by kernel_rfl)]
  refine sRet_of ((cB_of (o := addP) (f := cV 3) (x := .list [.str x.reverse]) rfl (y := .list ((rots x).map .str)) ?_).trans ?_)
  · exact (rounds_ok h)
  · show lim _ _ = _
    exact lim_ok (by show _ ≤ 16777216; simp only [rots, List.length_map, List.length_range, List.length_singleton]; omega)
section
variable (ks : PV) (w : W)
abbrev ER (F : List W) (n : Nat) (th : Option PV) : En := [some d0, some ks, some (.str w), some (.list (F.map .str)), some (.int (n : Int)), th]
abbrev TR : En → R Bool := tB ltP (cV 4) (cU lenP (cV 3))
abbrev BR : En → R Fl := seqF (sFor (iV (cCall F_next_readings (aC (cV 0) (aC (cV 1) (aC (cB idxP (cV 3) (cV 4)) aN))))) (gN 5) (sIf (tB ninP (cV 5) (cV 3)) (sApp 3 (cV 5)) sNil)) (sSet 4 (cB addP (cV 4) (cK (.int 1))))
variable {ks} {w}
theorem one_round {f : W → List W} {C : List W} (hn : ∀ x ∈ C, F_next_readings [d0, ks, .str x] = .ok (.list ((f x).map .str))) (hc : ∀ x ∈ C, ∀ y ∈ f x, y ∈ C) (hC : C.length ≤ 1000)
    {F : List W} {n : Nat} {th : Option PV} {x : W} (hx : F[n]? = some x) (nd : F.Nodup) (hF : ∀ y ∈ F, y ∈ C) : ∃ th', BR (ER ks w F n th) = .ok (.nx (ER ks w (insL F (f x)) (n + 1) th')) := by
  have xC : x ∈ C := hF x (List.mem_of_getElem? hx)
  have e1 : cB idxP (cV 3) (cV 4) (ER ks w F n th) = .ok (.str x) := (cB_of (o := idxP) (f := cV 3) (g := cV 4) (x := .list (F.map .str)) (y := .int (n : Int)) rfl rfl).trans (idx_list (atP_nat (by rw [List.getElem?_map, hx]; rfl)))
  have hl := for_tf (α := W) .str (fun pre env => ∃ th, env = ER ks w (insL F pre) n th) (fi := iV (cCall F_next_readings (aC (cV 0) (aC (cV 1) (aC (cB idxP (cV 3) (cV 4)) aN))))) (fg := gN 5) (fs := sIf (tB ninP (cV 5) (cV 3)) (sApp 3 (cV 5)) sNil) (env := ER ks w F n th) (xs := f x)
    (iV_of ((call3_of (f := cV 0) (g := cV 1) rfl rfl e1).trans (hn x xC))) ⟨th, rfl⟩ fun pre y post env e hp => by
      obtain ⟨th, rfl⟩ := hp
      have hy : y ∈ C := hc x xC y (by rw [e]; simp)
      have hpre : ∀ z ∈ insL F pre, z ∈ C := fun z hz => by
        rcases insL_mem.mp hz with q | q
        · exact hF z q
        · exact hc x xC z (by rw [e]; simp [q])
      have hlen : (insL F pre).length ≤ 1000 := Nat.le_trans ((insL_nd nd).length_le_of_subset hpre) hC
      rw [step_of (env1 := ER ks w (insL F pre) n (some (.str y))) rfl, insL_snoc]
      have t1 : tB ninP (cV 5) (cV 3) (ER ks w (insL F pre) n (some (.str y))) = .ok (!decide (y ∈ insL F pre)) := tB_of (f := cV 5) (g := cV 3) (x := .str y) (y := .list ((insL F pre).map .str)) rfl rfl (nin_strs _ _)
      unfold ins1
      by_cases q : y ∈ insL F pre
      · rw [decide_eq_true q] at t1
        rw [skip_of t1, if_pos q]
        exact ⟨_, rfl, _, rfl⟩
      · rw [decide_eq_false q] at t1
        rw [sIf_t t1, if_neg q]
        have := sApp_of (i := 3) (f := cV 5) (env := ER ks w (insL F pre) n (some (.str y))) (ds := (insL F pre).map .str) (v := .str y) rfl rfl (by rw [List.length_map]; show _ ≤ 16777216; omega)
        refine ⟨_, this, some (.str y), ?_⟩
        simp [List.set]
  obtain ⟨env', h1, th', rfl⟩ := hl
  exact ⟨th', (seq_nx h1).trans (sSet_of (i := 4) (d := .int ((n + 1 : Nat) : Int)) rfl)⟩
theorem all_rounds {f : W → List W} {C : List W} (hn : ∀ x ∈ C, F_next_readings [d0, ks, .str x] = .ok (.list ((f x).map .str))) (hc : ∀ x ∈ C, ∀ y ∈ f x, y ∈ C) (hC : C.length ≤ 1000) :
    ∀ (d fuel n : Nat) (F : List W) (th : Option PV), C.length ≤ n + d → d < fuel → n ≤ F.length → F.Nodup → (∀ y ∈ F, y ∈ C) → w ∈ F → (∀ i x, i < n → F[i]? = some x → ∀ y ∈ f x, y ∈ F) →
      ∃ G n' th', whileE TR BR fuel (ER ks w F n th) = .ok (.nx (ER ks w G n' th')) ∧ G.Nodup ∧ w ∈ G ∧ (∀ x ∈ G, x ∈ C) ∧ ∀ x ∈ G, ∀ y ∈ f x, y ∈ G
  | d, 0, _, _, _, _, h, _, _, _, _, _ => absurd h (Nat.not_lt_zero d)
  | d, fuel + 1, n, F, th, h1, h2, h3, nd, hF, hw, hs => by
    have t1 : TR (ER ks w F n th) = .ok (decide (n < F.length)) := by
      refine (tB_of (f := cV 4) (g := cU lenP (cV 3)) (x := .int (n : Int)) (y := .int ((F.map PV.str).length : Nat)) (b := decide ((n : Int) < ((F.map PV.str).length : Nat))) rfl rfl rfl).trans ?_
      rw [List.length_map]
      congr 1
      rw [decide_eq_decide]
      omega
    by_cases q : n < F.length
    · rw [decide_eq_true q] at t1
      have hfl : F.length ≤ C.length := nd.length_le_of_subset hF
      have hx : F[n]? = some F[n] := List.getElem?_eq_getElem q
      obtain ⟨th', e⟩ := one_round hn hc hC (th := th) (w := w) hx nd hF
      rw [while_on t1 e]
      have xC : F[n] ∈ C := hF _ (List.getElem_mem q)
      obtain ⟨u, eu⟩ := insL_pre (ys := f F[n]) (F := F)
      obtain ⟨d', rfl⟩ : ∃ d', d = d' + 1 := ⟨d - 1, by omega⟩
      refine all_rounds hn hc hC d' fuel (n + 1) (insL F (f F[n])) th' (by omega) (by omega) (by rw [eu, List.length_append]; omega) (insL_nd nd) (fun z hz => ?_) (insL_mem.mpr (.inl hw)) fun i x hi hx2 y hy => ?_
      · rcases insL_mem.mp hz with q | q
        · exact hF z q
        · exact hc _ xC z q
      · rw [eu, List.getElem?_append_left (by omega)] at hx2
        by_cases hin : i = n
        · subst hin
          rw [hx] at hx2
          cases hx2
          exact insL_mem.mpr (.inr hy)
        · exact insL_mem.mpr (.inl (hs i x (by omega) hx2 y hy))
    · rw [decide_eq_false q] at t1
      refine ⟨F, n, th, while_end t1, nd, hw, hF, fun x hx y hy => ?_⟩
      obtain ⟨i, hi, e⟩ := List.getElem_of_mem hx
      exact hs i x (by omega) (by rw [List.getElem?_eq_getElem hi, e]) y hy
theorem readings_ok {f : W → List W} {C : List W} (hn : ∀ x ∈ C, F_next_readings [d0, ks, .str x] = .ok (.list ((f x).map .str))) (hc : ∀ x ∈ C, ∀ y ∈ f x, y ∈ C) (hC : C.length ≤ 1000) (hw : w ∈ C) :
    ∃ G : List W, F_readings_of [d0, ks, .str w] = .ok (.list (G.map .str)) ∧ G.Nodup ∧ w ∈ G ∧ (∀ x ∈ G, x ∈ C) ∧ ∀ x ∈ G, ∀ y ∈ f x, y ∈ G := by
  obtain ⟨G, n, th, e, g1, g2, g3, g4⟩ := all_rounds hn hc hC (w := w) C.length 100000 0 [w] none (by omega) (by omega) (Nat.zero_le _) (by simp) (fun y hy => by rw [List.mem_singleton] at hy; exact hy ▸ hw) (by simp) (fun i x hi => absurd hi (Nat.not_lt_zero i))
  refine ⟨sortN G, ?_, (sortN_perm G).nodup_iff.mpr g1, (sortN_perm G).mem_iff.mpr g2, fun x hx => g3 x ((sortN_perm G).mem_iff.mp hx), fun x hx y hy => (sortN_perm G).mem_iff.mpr (g4 x ((sortN_perm G).mem_iff.mp hx) y hy)⟩
  refine runF_rt ?_
  show seqF _ _ [some d0, some ks, some (.str w), none, none, none] = _
  rw [seq_nx (env' := [some d0, some ks, some (.str w), some (.list [.str w]), none, none]) rfl]
  rw [seq_nx (env' := ER ks w [w] 0 none) rfl]
  rw [seq_nx e]
  exact sRet_of ((cU_of (o := sorted2P) (f := cV 3) rfl).trans (sorted_strs G))
end
def goodW (w : W) : Prop := w ≠ [] ∧ w.length ≤ 100 ∧ ∃ c, F_check_one [.str w] = .ok c
theorem read_r {w : W} (h : goodW w) : ∃ G : List W, F_all_readings [d0, .str [114], .str w] = .ok (.list (G.map .str)) ∧ G.length = (insL [] (rots w)).length := by
  obtain ⟨h1, h2, c, h3⟩ := h
  have hlen : ∀ x ∈ rots w, x ≠ [] ∧ x.length ≤ 100 := fun x hx => by
    have := ((mem_rots h1).mp hx).len
    have h0 := List.length_pos_iff.mpr h1
    exact ⟨List.length_pos_iff.mp (by omega), by omega⟩
  obtain ⟨G, e, g1, g2, g3, g4⟩ := readings_ok (ks := .str [114]) (w := w) (f := rots) (C := rots w) (fun x hx => next_r (by have := (hlen x hx).2; omega)) (fun x hx y hy => (mem_rots h1).mpr (((mem_rots h1).mp hx).trans ((mem_rots (hlen x hx).1).mp hy))) (by simp only [rots, List.length_map, List.length_range]; omega) ((mem_rots h1).mpr (.refl w))
  refine ⟨G, ?_, nd_len g1 (insL_nd .nil) fun x => ?_⟩
  · refine runF_rt ?_
    show seqF _ _ [some d0, some (.str [114]), some (.str w)] = _
    rw [seq_nx (env' := [some d0, some (.str [114]), some (.str w)]) (by kernel_rfl)]
    rw [seq_nx (env' := [some d0, some (.str [114]), some (.str w)]) (by kernel_rfl)]
    rw [seq_nx (env' := [some d0, some (.str [114]), some (.str w)]) (sEx_of ((call1_of (f := cV 2) rfl).trans h3))]
    exact sRet_of ((call3_of (f := cV 0) (g := cV 1) (h := cV 2) rfl rfl rfl).trans e)
  · rw [insL_mem]
    exact ⟨fun hx => .inr (g3 x hx), fun hx => hx.elim (fun q => absurd q List.not_mem_nil) (g4 w g2 x)⟩
theorem read_br {w : W} (h : goodW w) : ∃ G : List W, F_all_readings [d0, .str [98, 114], .str w] = .ok (.list (G.map .str)) ∧ G.length = (insL [] (rots w ++ rots w.reverse)).length := by
  obtain ⟨h1, h2, c, h3⟩ := h
  have h1r : w.reverse ≠ [] := by simpa using h1
  have hR : ∀ x, x ∈ rots w ++ rots w.reverse ↔ Rt w x ∨ Rt w.reverse x := fun x => by rw [List.mem_append, mem_rots h1, mem_rots h1r]
  have hlen : ∀ x ∈ rots w ++ rots w.reverse, x ≠ [] ∧ x.length ≤ 100 := fun x hx => by
    have h0 := List.length_pos_iff.mpr h1
    have : x.length = w.length := by
      rcases (hR x).mp hx with q | q
      · exact q.len
      · rw [q.len, List.length_reverse]
    exact ⟨List.length_pos_iff.mp (by omega), by omega⟩
  obtain ⟨G, e, g1, g2, g3, g4⟩ := readings_ok (ks := .str [98, 114]) (w := w) (f := fun x => x.reverse :: rots x) (C := rots w ++ rots w.reverse) (fun x hx => next_br (by have := (hlen x hx).2; omega)) (fun x hx y hy => by
    rw [hR]
    rcases List.mem_cons.mp hy with rfl | hy
    · rcases (hR x).mp hx with q | q
      · exact .inr q.rev
      · have := q.rev
        rw [List.reverse_reverse] at this
        exact .inl this
    · have hy := (mem_rots (hlen x hx).1).mp hy
      exact ((hR x).mp hx).imp (·.trans hy) (·.trans hy)) (by simp only [rots, List.length_append, List.length_map, List.length_range, List.length_reverse]; omega) ((hR w).mpr (.inl (.refl w)))
  refine ⟨G, ?_, nd_len g1 (insL_nd .nil) fun x => ?_⟩
  · refine runF_rt ?_
    show seqF _ _ [some d0, some (.str [98, 114]), some (.str w)] = _
    rw [seq_nx (env' := [some d0, some (.str [98, 114]), some (.str w)]) (by kernel_rfl)]
    rw [seq_nx (env' := [some d0, some (.str [98, 114]), some (.str w)]) (by kernel_rfl)]
    rw [seq_nx (env' := [some d0, some (.str [98, 114]), some (.str w)]) (sEx_of ((call1_of (f := cV 2) rfl).trans h3))]
    exact sRet_of ((call3_of (f := cV 0) (g := cV 1) (h := cV 2) rfl rfl rfl).trans e)
  · rw [insL_mem]
    refine ⟨fun hx => .inr (g3 x hx), fun hx => hx.elim (fun q => absurd q List.not_mem_nil) fun q => ?_⟩
    have hr : w.reverse ∈ G := g4 w g2 _ (List.mem_cons_self ..)
    rcases List.mem_append.mp q with q | q
    · exact g4 w g2 x (List.mem_cons_of_mem _ q)
    · exact g4 _ hr x (List.mem_cons_of_mem _ q)
def chk (t : W) : Bool :=
  match F_period [.str t], F_check_one [.str t] with
  | .ok (.int p), .ok _ => !t.isEmpty && t.length.ble 100 && ((insL [] (rots t)).length : Int) == p && (let m := (insL [] (rots t ++ rots t.reverse)).length; ((m : Int) == p || (m : Int) == 2 * p)) && p.natAbs.ble 1000
  | _, _ => false
end K29
set_option Elab.async false
set_option linter.all false
set_option maxRecDepth 100000
set_option maxHeartbeats 4000000
set_option autoImplicit false
namespace K29
open VL VL.R
abbrev rest : En → R Fl := (seqF (sSet 14 (cComp (iR2 (cK (.int 1)) (cB addP (cV 2) (cK (.int 1)))) (gN 15) (tB eqP (cB modP (cU intP (cV 2)) (cV 15)) (cK (.int 0))) (cV 15) [15])) (seqF (sSet 16 (cK (.int 1))) (seqF (sFor (iR1 (cV 2)) (gN 5) (sSet 16 (cB mulP (cV 16) (cV 3)))) (seqF (sIf (tOr (tB neP (cCall F_count_round (aC (cV 2) (aC (cV 3) aN))) (cU sumP (cComp (iV (cV 14)) (gN 15) tT (cCall F_count_plain (aC (cV 15) (aC (cV 3) aN))) [15]))) (tB neP (cU sumP (cComp (iV (cV 14)) (gN 15) tT (cB mulP (cV 15) (cCall F_count_plain (aC (cV 15) (aC (cV 3) aN)))) [15])) (cV 16))) (sRet (cK (.bool false))) sNil) (seqF (sIf (tOr (tNot (tB leP (cCall F_count_round (aC (cV 2) (aC (cV 3) aN))) (cB mulP (cK (.int 2)) (cCall F_count_both (aC (cV 2) (aC (cV 3) aN)))))) (tOr (tB gtP (cCall F_count_both (aC (cV 2) (aC (cV 3) aN))) (cCall F_count_round (aC (cV 2) (aC (cV 3) aN)))) (tOr (tB neP (cCall F_count_round (aC (cV 2) (aC (cK (.int 1)) aN))) (cK (.int 1))) (tB neP (cCall F_count_both (aC (cV 2) (aC (cK (.int 1)) aN))) (cK (.int 1)))))) (sRet (cK (.bool false))) sNil) (sIf (tOr (tAnd (tB ltP (cV 3) (cK (.int 20))) (tB leP (cCall F_count_round (aC (cV 2) (aC (cB addP (cV 3) (cK (.int 1))) aN))) (cCall F_count_round (aC (cV 2) (aC (cV 3) aN))))) (tB neP (cCall F_count_plain (aC (cV 2) (aC (cK (.int 1)) aN))) (cU intP (cB eqP (cV 2) (cK (.int 1)))))) (sRet (cK (.bool false))) sNil))))))
def PT (n : Nat) : PV := .list (((List.range n).filter fun j => n % (j + 1) == 0).map fun j => .int ((j + 1 : Nat) : Int))
theorem t1 (sc dr : PV) (a4 a5 a6 a7 a8 a9 a10 a11 a12 a13 a14 a15 a16 : Option PV) : ∀ k, k < 20 → rest (EA sc dr (some (.int 1)) (some (.int ((k + 1 : Nat) : Int))) a4 a5 a6 a7 a8 a9 a10 a11 a12 a13 a14 a15 a16) = .ok (.nx (EA sc dr (some (.int 1)) (some (.int ((k + 1 : Nat) : Int))) a4 (some (.int 0)) a6 a7 a8 a9 a10 a11 a12 a13 (some (PT 1)) a15 (some (.int (((k + 1) ^ 1 : Nat) : Int)))))
  | 0, _ => by kernel_rfl
  | 1, _ => by kernel_rfl
  | 2, _ => by kernel_rfl
  | 3, _ => by kernel_rfl
  | 4, _ => by kernel_rfl
  | 5, _ => by kernel_rfl
  | 6, _ => by kernel_rfl
  | 7, _ => by kernel_rfl
  | 8, _ => by kernel_rfl
  | 9, _ => by kernel_rfl
  | 10, _ => by kernel_rfl
  | 11, _ => by kernel_rfl
  | 12, _ => by kernel_rfl
  | 13, _ => by kernel_rfl
  | 14, _ => by kernel_rfl
  | 15, _ => by kernel_rfl
  | 16, _ => by kernel_rfl
  | 17, _ => by kernel_rfl
  | 18, _ => by kernel_rfl
  | 19, _ => by kernel_rfl
  | k + 20, h => absurd h (by omega)
theorem t2 (sc dr : PV) (a4 a5 a6 a7 a8 a9 a10 a11 a12 a13 a14 a15 a16 : Option PV) : ∀ k, k < 20 → rest (EA sc dr (some (.int 2)) (some (.int ((k + 1 : Nat) : Int))) a4 a5 a6 a7 a8 a9 a10 a11 a12 a13 a14 a15 a16) = .ok (.nx (EA sc dr (some (.int 2)) (some (.int ((k + 1 : Nat) : Int))) a4 (some (.int 1)) a6 a7 a8 a9 a10 a11 a12 a13 (some (PT 2)) a15 (some (.int (((k + 1) ^ 2 : Nat) : Int)))))
  | 0, _ => by kernel_rfl
  | 1, _ => by kernel_rfl
  | 2, _ => by kernel_rfl
  | 3, _ => by kernel_rfl
  | 4, _ => by kernel_rfl
  | 5, _ => by kernel_rfl
  | 6, _ => by kernel_rfl
  | 7, _ => by kernel_rfl
  | 8, _ => by kernel_rfl
  | 9, _ => by kernel_rfl
  | 10, _ => by kernel_rfl
  | 11, _ => by kernel_rfl
  | 12, _ => by kernel_rfl
  | 13, _ => by kernel_rfl
  | 14, _ => by kernel_rfl
  | 15, _ => by kernel_rfl
  | 16, _ => by kernel_rfl
  | 17, _ => by kernel_rfl
  | 18, _ => by kernel_rfl
  | 19, _ => by kernel_rfl
  | k + 20, h => absurd h (by omega)
theorem t3 (sc dr : PV) (a4 a5 a6 a7 a8 a9 a10 a11 a12 a13 a14 a15 a16 : Option PV) : ∀ k, k < 20 → rest (EA sc dr (some (.int 3)) (some (.int ((k + 1 : Nat) : Int))) a4 a5 a6 a7 a8 a9 a10 a11 a12 a13 a14 a15 a16) = .ok (.nx (EA sc dr (some (.int 3)) (some (.int ((k + 1 : Nat) : Int))) a4 (some (.int 2)) a6 a7 a8 a9 a10 a11 a12 a13 (some (PT 3)) a15 (some (.int (((k + 1) ^ 3 : Nat) : Int)))))
  | 0, _ => by kernel_rfl
  | 1, _ => by kernel_rfl
  | 2, _ => by kernel_rfl
  | 3, _ => by kernel_rfl
  | 4, _ => by kernel_rfl
  | 5, _ => by kernel_rfl
  | 6, _ => by kernel_rfl
  | 7, _ => by kernel_rfl
  | 8, _ => by kernel_rfl
  | 9, _ => by kernel_rfl
  | 10, _ => by kernel_rfl
  | 11, _ => by kernel_rfl
  | 12, _ => by kernel_rfl
  | 13, _ => by kernel_rfl
  | 14, _ => by kernel_rfl
  | 15, _ => by kernel_rfl
  | 16, _ => by kernel_rfl
  | 17, _ => by kernel_rfl
  | 18, _ => by kernel_rfl
  | 19, _ => by kernel_rfl
  | k + 20, h => absurd h (by omega)
theorem t4 (sc dr : PV) (a4 a5 a6 a7 a8 a9 a10 a11 a12 a13 a14 a15 a16 : Option PV) : ∀ k, k < 20 → rest (EA sc dr (some (.int 4)) (some (.int ((k + 1 : Nat) : Int))) a4 a5 a6 a7 a8 a9 a10 a11 a12 a13 a14 a15 a16) = .ok (.nx (EA sc dr (some (.int 4)) (some (.int ((k + 1 : Nat) : Int))) a4 (some (.int 3)) a6 a7 a8 a9 a10 a11 a12 a13 (some (PT 4)) a15 (some (.int (((k + 1) ^ 4 : Nat) : Int)))))
  | 0, _ => by kernel_rfl
  | 1, _ => by kernel_rfl
  | 2, _ => by kernel_rfl
  | 3, _ => by kernel_rfl
  | 4, _ => by kernel_rfl
  | 5, _ => by kernel_rfl
  | 6, _ => by kernel_rfl
  | 7, _ => by kernel_rfl
  | 8, _ => by kernel_rfl
  | 9, _ => by kernel_rfl
  | 10, _ => by kernel_rfl
  | 11, _ => by kernel_rfl
  | 12, _ => by kernel_rfl
  | 13, _ => by kernel_rfl
  | 14, _ => by kernel_rfl
  | 15, _ => by kernel_rfl
  | 16, _ => by kernel_rfl
  | 17, _ => by kernel_rfl
  | 18, _ => by kernel_rfl
  | 19, _ => by kernel_rfl
  | k + 20, h => absurd h (by omega)
theorem t5 (sc dr : PV) (a4 a5 a6 a7 a8 a9 a10 a11 a12 a13 a14 a15 a16 : Option PV) : ∀ k, k < 20 → rest (EA sc dr (some (.int 5)) (some (.int ((k + 1 : Nat) : Int))) a4 a5 a6 a7 a8 a9 a10 a11 a12 a13 a14 a15 a16) = .ok (.nx (EA sc dr (some (.int 5)) (some (.int ((k + 1 : Nat) : Int))) a4 (some (.int 4)) a6 a7 a8 a9 a10 a11 a12 a13 (some (PT 5)) a15 (some (.int (((k + 1) ^ 5 : Nat) : Int)))))
  | 0, _ => by kernel_rfl
  | 1, _ => by kernel_rfl
  | 2, _ => by kernel_rfl
  | 3, _ => by kernel_rfl
  | 4, _ => by kernel_rfl
  | 5, _ => by kernel_rfl
  | 6, _ => by kernel_rfl
  | 7, _ => by kernel_rfl
  | 8, _ => by kernel_rfl
  | 9, _ => by kernel_rfl
  | 10, _ => by kernel_rfl
  | 11, _ => by kernel_rfl
  | 12, _ => by kernel_rfl
  | 13, _ => by kernel_rfl
  | 14, _ => by kernel_rfl
  | 15, _ => by kernel_rfl
  | 16, _ => by kernel_rfl
  | 17, _ => by kernel_rfl
  | 18, _ => by kernel_rfl
  | 19, _ => by kernel_rfl
  | k + 20, h => absurd h (by omega)
theorem t6 (sc dr : PV) (a4 a5 a6 a7 a8 a9 a10 a11 a12 a13 a14 a15 a16 : Option PV) : ∀ k, k < 20 → rest (EA sc dr (some (.int 6)) (some (.int ((k + 1 : Nat) : Int))) a4 a5 a6 a7 a8 a9 a10 a11 a12 a13 a14 a15 a16) = .ok (.nx (EA sc dr (some (.int 6)) (some (.int ((k + 1 : Nat) : Int))) a4 (some (.int 5)) a6 a7 a8 a9 a10 a11 a12 a13 (some (PT 6)) a15 (some (.int (((k + 1) ^ 6 : Nat) : Int)))))
  | 0, _ => by kernel_rfl
  | 1, _ => by kernel_rfl
  | 2, _ => by kernel_rfl
  | 3, _ => by kernel_rfl
  | 4, _ => by kernel_rfl
  | 5, _ => by kernel_rfl
  | 6, _ => by kernel_rfl
  | 7, _ => by kernel_rfl
  | 8, _ => by kernel_rfl
  | 9, _ => by kernel_rfl
  | 10, _ => by kernel_rfl
  | 11, _ => by kernel_rfl
  | 12, _ => by kernel_rfl
  | 13, _ => by kernel_rfl
  | 14, _ => by kernel_rfl
  | 15, _ => by kernel_rfl
  | 16, _ => by kernel_rfl
  | 17, _ => by kernel_rfl
  | 18, _ => by kernel_rfl
  | 19, _ => by kernel_rfl
  | k + 20, h => absurd h (by omega)
theorem t7 (sc dr : PV) (a4 a5 a6 a7 a8 a9 a10 a11 a12 a13 a14 a15 a16 : Option PV) : ∀ k, k < 20 → rest (EA sc dr (some (.int 7)) (some (.int ((k + 1 : Nat) : Int))) a4 a5 a6 a7 a8 a9 a10 a11 a12 a13 a14 a15 a16) = .ok (.nx (EA sc dr (some (.int 7)) (some (.int ((k + 1 : Nat) : Int))) a4 (some (.int 6)) a6 a7 a8 a9 a10 a11 a12 a13 (some (PT 7)) a15 (some (.int (((k + 1) ^ 7 : Nat) : Int)))))
  | 0, _ => by kernel_rfl
  | 1, _ => by kernel_rfl
  | 2, _ => by kernel_rfl
  | 3, _ => by kernel_rfl
  | 4, _ => by kernel_rfl
  | 5, _ => by kernel_rfl
  | 6, _ => by kernel_rfl
  | 7, _ => by kernel_rfl
  | 8, _ => by kernel_rfl
  | 9, _ => by kernel_rfl
  | 10, _ => by kernel_rfl
  | 11, _ => by kernel_rfl
  | 12, _ => by kernel_rfl
  | 13, _ => by kernel_rfl
  | 14, _ => by kernel_rfl
  | 15, _ => by kernel_rfl
  | 16, _ => by kernel_rfl
  | 17, _ => by kernel_rfl
  | 18, _ => by kernel_rfl
  | 19, _ => by kernel_rfl
  | k + 20, h => absurd h (by omega)
theorem t8 (sc dr : PV) (a4 a5 a6 a7 a8 a9 a10 a11 a12 a13 a14 a15 a16 : Option PV) : ∀ k, k < 20 → rest (EA sc dr (some (.int 8)) (some (.int ((k + 1 : Nat) : Int))) a4 a5 a6 a7 a8 a9 a10 a11 a12 a13 a14 a15 a16) = .ok (.nx (EA sc dr (some (.int 8)) (some (.int ((k + 1 : Nat) : Int))) a4 (some (.int 7)) a6 a7 a8 a9 a10 a11 a12 a13 (some (PT 8)) a15 (some (.int (((k + 1) ^ 8 : Nat) : Int)))))
  | 0, _ => by kernel_rfl
  | 1, _ => by kernel_rfl
  | 2, _ => by kernel_rfl
  | 3, _ => by kernel_rfl
  | 4, _ => by kernel_rfl
  | 5, _ => by kernel_rfl
  | 6, _ => by kernel_rfl
  | 7, _ => by kernel_rfl
  | 8, _ => by kernel_rfl
  | 9, _ => by kernel_rfl
  | 10, _ => by kernel_rfl
  | 11, _ => by kernel_rfl
  | 12, _ => by kernel_rfl
  | 13, _ => by kernel_rfl
  | 14, _ => by kernel_rfl
  | 15, _ => by kernel_rfl
  | 16, _ => by kernel_rfl
  | 17, _ => by kernel_rfl
  | 18, _ => by kernel_rfl
  | 19, _ => by kernel_rfl
  | k + 20, h => absurd h (by omega)
theorem t9 (sc dr : PV) (a4 a5 a6 a7 a8 a9 a10 a11 a12 a13 a14 a15 a16 : Option PV) : ∀ k, k < 20 → rest (EA sc dr (some (.int 9)) (some (.int ((k + 1 : Nat) : Int))) a4 a5 a6 a7 a8 a9 a10 a11 a12 a13 a14 a15 a16) = .ok (.nx (EA sc dr (some (.int 9)) (some (.int ((k + 1 : Nat) : Int))) a4 (some (.int 8)) a6 a7 a8 a9 a10 a11 a12 a13 (some (PT 9)) a15 (some (.int (((k + 1) ^ 9 : Nat) : Int)))))
  | 0, _ => by kernel_rfl
  | 1, _ => by kernel_rfl
  | 2, _ => by kernel_rfl
  | 3, _ => by kernel_rfl
  | 4, _ => by kernel_rfl
  | 5, _ => by kernel_rfl
  | 6, _ => by kernel_rfl
  | 7, _ => by kernel_rfl
  | 8, _ => by kernel_rfl
  | 9, _ => by kernel_rfl
  | 10, _ => by kernel_rfl
  | 11, _ => by kernel_rfl
  | 12, _ => by kernel_rfl
  | 13, _ => by kernel_rfl
  | 14, _ => by kernel_rfl
  | 15, _ => by kernel_rfl
  | 16, _ => by kernel_rfl
  | 17, _ => by kernel_rfl
  | 18, _ => by kernel_rfl
  | 19, _ => by kernel_rfl
  | k + 20, h => absurd h (by omega)
theorem t10 (sc dr : PV) (a4 a5 a6 a7 a8 a9 a10 a11 a12 a13 a14 a15 a16 : Option PV) : ∀ k, k < 20 → rest (EA sc dr (some (.int 10)) (some (.int ((k + 1 : Nat) : Int))) a4 a5 a6 a7 a8 a9 a10 a11 a12 a13 a14 a15 a16) = .ok (.nx (EA sc dr (some (.int 10)) (some (.int ((k + 1 : Nat) : Int))) a4 (some (.int 9)) a6 a7 a8 a9 a10 a11 a12 a13 (some (PT 10)) a15 (some (.int (((k + 1) ^ 10 : Nat) : Int)))))
  | 0, _ => by kernel_rfl
  | 1, _ => by kernel_rfl
  | 2, _ => by kernel_rfl
  | 3, _ => by kernel_rfl
  | 4, _ => by kernel_rfl
  | 5, _ => by kernel_rfl
  | 6, _ => by kernel_rfl
  | 7, _ => by kernel_rfl
  | 8, _ => by kernel_rfl
  | 9, _ => by kernel_rfl
  | 10, _ => by kernel_rfl
  | 11, _ => by kernel_rfl
  | 12, _ => by kernel_rfl
  | 13, _ => by kernel_rfl
  | 14, _ => by kernel_rfl
  | 15, _ => by kernel_rfl
  | 16, _ => by kernel_rfl
  | 17, _ => by kernel_rfl
  | 18, _ => by kernel_rfl
  | 19, _ => by kernel_rfl
  | k + 20, h => absurd h (by omega)
theorem t11 (sc dr : PV) (a4 a5 a6 a7 a8 a9 a10 a11 a12 a13 a14 a15 a16 : Option PV) : ∀ k, k < 20 → rest (EA sc dr (some (.int 11)) (some (.int ((k + 1 : Nat) : Int))) a4 a5 a6 a7 a8 a9 a10 a11 a12 a13 a14 a15 a16) = .ok (.nx (EA sc dr (some (.int 11)) (some (.int ((k + 1 : Nat) : Int))) a4 (some (.int 10)) a6 a7 a8 a9 a10 a11 a12 a13 (some (PT 11)) a15 (some (.int (((k + 1) ^ 11 : Nat) : Int)))))
  | 0, _ => by kernel_rfl
  | 1, _ => by kernel_rfl
  | 2, _ => by kernel_rfl
  | 3, _ => by kernel_rfl
  | 4, _ => by kernel_rfl
  | 5, _ => by kernel_rfl
  | 6, _ => by kernel_rfl
  | 7, _ => by kernel_rfl
  | 8, _ => by kernel_rfl
  | 9, _ => by kernel_rfl
  | 10, _ => by kernel_rfl
  | 11, _ => by kernel_rfl
  | 12, _ => by kernel_rfl
  | 13, _ => by kernel_rfl
  | 14, _ => by kernel_rfl
  | 15, _ => by kernel_rfl
  | 16, _ => by kernel_rfl
  | 17, _ => by kernel_rfl
  | 18, _ => by kernel_rfl
  | 19, _ => by kernel_rfl
  | k + 20, h => absurd h (by omega)
theorem t12 (sc dr : PV) (a4 a5 a6 a7 a8 a9 a10 a11 a12 a13 a14 a15 a16 : Option PV) : ∀ k, k < 20 → rest (EA sc dr (some (.int 12)) (some (.int ((k + 1 : Nat) : Int))) a4 a5 a6 a7 a8 a9 a10 a11 a12 a13 a14 a15 a16) = .ok (.nx (EA sc dr (some (.int 12)) (some (.int ((k + 1 : Nat) : Int))) a4 (some (.int 11)) a6 a7 a8 a9 a10 a11 a12 a13 (some (PT 12)) a15 (some (.int (((k + 1) ^ 12 : Nat) : Int)))))
  | 0, _ => by kernel_rfl
  | 1, _ => by kernel_rfl
  | 2, _ => by kernel_rfl
  | 3, _ => by kernel_rfl
  | 4, _ => by kernel_rfl
  | 5, _ => by kernel_rfl
  | 6, _ => by kernel_rfl
  | 7, _ => by kernel_rfl
  | 8, _ => by kernel_rfl
  | 9, _ => by kernel_rfl
  | 10, _ => by kernel_rfl
  | 11, _ => by kernel_rfl
  | 12, _ => by kernel_rfl
  | 13, _ => by kernel_rfl
  | 14, _ => by kernel_rfl
  | 15, _ => by kernel_rfl
  | 16, _ => by kernel_rfl
  | 17, _ => by kernel_rfl
  | 18, _ => by kernel_rfl
  | 19, _ => by kernel_rfl
  | k + 20, h => absurd h (by omega)
theorem t13 (sc dr : PV) (a4 a5 a6 a7 a8 a9 a10 a11 a12 a13 a14 a15 a16 : Option PV) : ∀ k, k < 20 → rest (EA sc dr (some (.int 13)) (some (.int ((k + 1 : Nat) : Int))) a4 a5 a6 a7 a8 a9 a10 a11 a12 a13 a14 a15 a16) = .ok (.nx (EA sc dr (some (.int 13)) (some (.int ((k + 1 : Nat) : Int))) a4 (some (.int 12)) a6 a7 a8 a9 a10 a11 a12 a13 (some (PT 13)) a15 (some (.int (((k + 1) ^ 13 : Nat) : Int)))))
  | 0, _ => by kernel_rfl
  | 1, _ => by kernel_rfl
  | 2, _ => by kernel_rfl
  | 3, _ => by kernel_rfl
  | 4, _ => by kernel_rfl
  | 5, _ => by kernel_rfl
  | 6, _ => by kernel_rfl
  | 7, _ => by kernel_rfl
  | 8, _ => by kernel_rfl
  | 9, _ => by kernel_rfl
  | 10, _ => by kernel_rfl
  | 11, _ => by kernel_rfl
  | 12, _ => by kernel_rfl
  | 13, _ => by kernel_rfl
  | 14, _ => by kernel_rfl
  | 15, _ => by kernel_rfl
  | 16, _ => by kernel_rfl
  | 17, _ => by kernel_rfl
  | 18, _ => by kernel_rfl
  | 19, _ => by kernel_rfl
  | k + 20, h => absurd h (by omega)
theorem t14 (sc dr : PV) (a4 a5 a6 a7 a8 a9 a10 a11 a12 a13 a14 a15 a16 : Option PV) : ∀ k, k < 20 → rest (EA sc dr (some (.int 14)) (some (.int ((k + 1 : Nat) : Int))) a4 a5 a6 a7 a8 a9 a10 a11 a12 a13 a14 a15 a16) = .ok (.nx (EA sc dr (some (.int 14)) (some (.int ((k + 1 : Nat) : Int))) a4 (some (.int 13)) a6 a7 a8 a9 a10 a11 a12 a13 (some (PT 14)) a15 (some (.int (((k + 1) ^ 14 : Nat) : Int)))))
  | 0, _ => by kernel_rfl
  | 1, _ => by kernel_rfl
  | 2, _ => by kernel_rfl
  | 3, _ => by kernel_rfl
  | 4, _ => by kernel_rfl
  | 5, _ => by kernel_rfl
  | 6, _ => by kernel_rfl
  | 7, _ => by kernel_rfl
  | 8, _ => by kernel_rfl
  | 9, _ => by kernel_rfl
  | 10, _ => by kernel_rfl
  | 11, _ => by kernel_rfl
  | 12, _ => by kernel_rfl
  | 13, _ => by kernel_rfl
  | 14, _ => by kernel_rfl
  | 15, _ => by kernel_rfl
  | 16, _ => by kernel_rfl
  | 17, _ => by kernel_rfl
  | 18, _ => by kernel_rfl
  | 19, _ => by kernel_rfl
  | k + 20, h => absurd h (by omega)
theorem t15 (sc dr : PV) (a4 a5 a6 a7 a8 a9 a10 a11 a12 a13 a14 a15 a16 : Option PV) : ∀ k, k < 20 → rest (EA sc dr (some (.int 15)) (some (.int ((k + 1 : Nat) : Int))) a4 a5 a6 a7 a8 a9 a10 a11 a12 a13 a14 a15 a16) = .ok (.nx (EA sc dr (some (.int 15)) (some (.int ((k + 1 : Nat) : Int))) a4 (some (.int 14)) a6 a7 a8 a9 a10 a11 a12 a13 (some (PT 15)) a15 (some (.int (((k + 1) ^ 15 : Nat) : Int)))))
  | 0, _ => by kernel_rfl
  | 1, _ => by kernel_rfl
  | 2, _ => by kernel_rfl
  | 3, _ => by kernel_rfl
  | 4, _ => by kernel_rfl
  | 5, _ => by kernel_rfl
  | 6, _ => by kernel_rfl
  | 7, _ => by kernel_rfl
  | 8, _ => by kernel_rfl
  | 9, _ => by kernel_rfl
  | 10, _ => by kernel_rfl
  | 11, _ => by kernel_rfl
  | 12, _ => by kernel_rfl
  | 13, _ => by kernel_rfl
  | 14, _ => by kernel_rfl
  | 15, _ => by kernel_rfl
  | 16, _ => by kernel_rfl
  | 17, _ => by kernel_rfl
  | 18, _ => by kernel_rfl
  | 19, _ => by kernel_rfl
  | k + 20, h => absurd h (by omega)
theorem t16 (sc dr : PV) (a4 a5 a6 a7 a8 a9 a10 a11 a12 a13 a14 a15 a16 : Option PV) : ∀ k, k < 20 → rest (EA sc dr (some (.int 16)) (some (.int ((k + 1 : Nat) : Int))) a4 a5 a6 a7 a8 a9 a10 a11 a12 a13 a14 a15 a16) = .ok (.nx (EA sc dr (some (.int 16)) (some (.int ((k + 1 : Nat) : Int))) a4 (some (.int 15)) a6 a7 a8 a9 a10 a11 a12 a13 (some (PT 16)) a15 (some (.int (((k + 1) ^ 16 : Nat) : Int)))))
  | 0, _ => by kernel_rfl
  | 1, _ => by kernel_rfl
  | 2, _ => by kernel_rfl
  | 3, _ => by kernel_rfl
  | 4, _ => by kernel_rfl
  | 5, _ => by kernel_rfl
  | 6, _ => by kernel_rfl
  | 7, _ => by kernel_rfl
  | 8, _ => by kernel_rfl
  | 9, _ => by kernel_rfl
  | 10, _ => by kernel_rfl
  | 11, _ => by kernel_rfl
  | 12, _ => by kernel_rfl
  | 13, _ => by kernel_rfl
  | 14, _ => by kernel_rfl
  | 15, _ => by kernel_rfl
  | 16, _ => by kernel_rfl
  | 17, _ => by kernel_rfl
  | 18, _ => by kernel_rfl
  | 19, _ => by kernel_rfl
  | k + 20, h => absurd h (by omega)
theorem t17 (sc dr : PV) (a4 a5 a6 a7 a8 a9 a10 a11 a12 a13 a14 a15 a16 : Option PV) : ∀ k, k < 20 → rest (EA sc dr (some (.int 17)) (some (.int ((k + 1 : Nat) : Int))) a4 a5 a6 a7 a8 a9 a10 a11 a12 a13 a14 a15 a16) = .ok (.nx (EA sc dr (some (.int 17)) (some (.int ((k + 1 : Nat) : Int))) a4 (some (.int 16)) a6 a7 a8 a9 a10 a11 a12 a13 (some (PT 17)) a15 (some (.int (((k + 1) ^ 17 : Nat) : Int)))))
  | 0, _ => by kernel_rfl
  | 1, _ => by kernel_rfl
  | 2, _ => by kernel_rfl
  | 3, _ => by kernel_rfl
  | 4, _ => by kernel_rfl
  | 5, _ => by kernel_rfl
  | 6, _ => by kernel_rfl
  | 7, _ => by kernel_rfl
  | 8, _ => by kernel_rfl
  | 9, _ => by kernel_rfl
  | 10, _ => by kernel_rfl
  | 11, _ => by kernel_rfl
  | 12, _ => by kernel_rfl
  | 13, _ => by kernel_rfl
  | 14, _ => by kernel_rfl
  | 15, _ => by kernel_rfl
  | 16, _ => by kernel_rfl
  | 17, _ => by kernel_rfl
  | 18, _ => by kernel_rfl
  | 19, _ => by kernel_rfl
  | k + 20, h => absurd h (by omega)
theorem t18 (sc dr : PV) (a4 a5 a6 a7 a8 a9 a10 a11 a12 a13 a14 a15 a16 : Option PV) : ∀ k, k < 20 → rest (EA sc dr (some (.int 18)) (some (.int ((k + 1 : Nat) : Int))) a4 a5 a6 a7 a8 a9 a10 a11 a12 a13 a14 a15 a16) = .ok (.nx (EA sc dr (some (.int 18)) (some (.int ((k + 1 : Nat) : Int))) a4 (some (.int 17)) a6 a7 a8 a9 a10 a11 a12 a13 (some (PT 18)) a15 (some (.int (((k + 1) ^ 18 : Nat) : Int)))))
  | 0, _ => by kernel_rfl
  | 1, _ => by kernel_rfl
  | 2, _ => by kernel_rfl
  | 3, _ => by kernel_rfl
  | 4, _ => by kernel_rfl
  | 5, _ => by kernel_rfl
  | 6, _ => by kernel_rfl
  | 7, _ => by kernel_rfl
  | 8, _ => by kernel_rfl
  | 9, _ => by kernel_rfl
  | 10, _ => by kernel_rfl
  | 11, _ => by kernel_rfl
  | 12, _ => by kernel_rfl
  | 13, _ => by kernel_rfl
  | 14, _ => by kernel_rfl
  | 15, _ => by kernel_rfl
  | 16, _ => by kernel_rfl
  | 17, _ => by kernel_rfl
  | 18, _ => by kernel_rfl
  | 19, _ => by kernel_rfl
  | k + 20, h => absurd h (by omega)
theorem t19 (sc dr : PV) (a4 a5 a6 a7 a8 a9 a10 a11 a12 a13 a14 a15 a16 : Option PV) : ∀ k, k < 20 → rest (EA sc dr (some (.int 19)) (some (.int ((k + 1 : Nat) : Int))) a4 a5 a6 a7 a8 a9 a10 a11 a12 a13 a14 a15 a16) = .ok (.nx (EA sc dr (some (.int 19)) (some (.int ((k + 1 : Nat) : Int))) a4 (some (.int 18)) a6 a7 a8 a9 a10 a11 a12 a13 (some (PT 19)) a15 (some (.int (((k + 1) ^ 19 : Nat) : Int)))))
  | 0, _ => by kernel_rfl
  | 1, _ => by kernel_rfl
  | 2, _ => by kernel_rfl
  | 3, _ => by kernel_rfl
  | 4, _ => by kernel_rfl
  | 5, _ => by kernel_rfl
  | 6, _ => by kernel_rfl
  | 7, _ => by kernel_rfl
  | 8, _ => by kernel_rfl
  | 9, _ => by kernel_rfl
  | 10, _ => by kernel_rfl
  | 11, _ => by kernel_rfl
  | 12, _ => by kernel_rfl
  | 13, _ => by kernel_rfl
  | 14, _ => by kernel_rfl
  | 15, _ => by kernel_rfl
  | 16, _ => by kernel_rfl
  | 17, _ => by kernel_rfl
  | 18, _ => by kernel_rfl
  | 19, _ => by kernel_rfl
  | k + 20, h => absurd h (by omega)
theorem t20 (sc dr : PV) (a4 a5 a6 a7 a8 a9 a10 a11 a12 a13 a14 a15 a16 : Option PV) : ∀ k, k < 20 → rest (EA sc dr (some (.int 20)) (some (.int ((k + 1 : Nat) : Int))) a4 a5 a6 a7 a8 a9 a10 a11 a12 a13 a14 a15 a16) = .ok (.nx (EA sc dr (some (.int 20)) (some (.int ((k + 1 : Nat) : Int))) a4 (some (.int 19)) a6 a7 a8 a9 a10 a11 a12 a13 (some (PT 20)) a15 (some (.int (((k + 1) ^ 20 : Nat) : Int)))))
  | 0, _ => by kernel_rfl
  | 1, _ => by kernel_rfl
  | 2, _ => by kernel_rfl
  | 3, _ => by kernel_rfl
  | 4, _ => by kernel_rfl
  | 5, _ => by kernel_rfl
  | 6, _ => by kernel_rfl
  | 7, _ => by kernel_rfl
  | 8, _ => by kernel_rfl
  | 9, _ => by kernel_rfl
  | 10, _ => by kernel_rfl
  | 11, _ => by kernel_rfl
  | 12, _ => by kernel_rfl
  | 13, _ => by kernel_rfl
  | 14, _ => by kernel_rfl
  | 15, _ => by kernel_rfl
  | 16, _ => by kernel_rfl
  | 17, _ => by kernel_rfl
  | 18, _ => by kernel_rfl
  | 19, _ => by kernel_rfl
  | k + 20, h => absurd h (by omega)
end K29
set_option Elab.async false
set_option linter.all false
set_option maxRecDepth 100000
set_option maxHeartbeats 4000000
set_option autoImplicit false
namespace K29
open VL VL.R
theorem all_step {l : List W} {n m : Nat} (h1 : (((l.drop n).take m).all chk) = true) (h2 : ((l.drop (n + m)).all chk) = true) : ((l.drop n).all chk) = true := by
  rw [← List.take_append_drop m (l.drop n), List.all_append, h1, List.drop_drop, h2]
  rfl
theorem c0_0 : ((((TX 1 4).drop 0).take 64).all chk) = true := by kernel_rfl
theorem c1_0 : ((((TX 2 4).drop 0).take 64).all chk) = true := by kernel_rfl
theorem c2_0 : ((((TX 3 4).drop 0).take 64).all chk) = true := by kernel_rfl
theorem c3_0 : ((((TX 4 4).drop 0).take 64).all chk) = true := by kernel_rfl
theorem c3_1 : ((((TX 4 4).drop 64).take 64).all chk) = true := by kernel_rfl
theorem c3_2 : ((((TX 4 4).drop 128).take 64).all chk) = true := by kernel_rfl
theorem c3_3 : ((((TX 4 4).drop 192).take 64).all chk) = true := by kernel_rfl
theorem c4_0 : ((((TX 5 3).drop 0).take 64).all chk) = true := by kernel_rfl
theorem c4_1 : ((((TX 5 3).drop 64).take 64).all chk) = true := by kernel_rfl
theorem c4_2 : ((((TX 5 3).drop 128).take 64).all chk) = true := by kernel_rfl
theorem c4_3 : ((((TX 5 3).drop 192).take 64).all chk) = true := by kernel_rfl
theorem c5_0 : ((((TX 6 2).drop 0).take 64).all chk) = true := by kernel_rfl
theorem c6_0 : ((((TX 4 3).drop 0).take 64).all chk) = true := by kernel_rfl
theorem c6_1 : ((((TX 4 3).drop 64).take 64).all chk) = true := by kernel_rfl
theorem c7_0 : ((((TX 6 3).drop 0).take 64).all chk) = true := by kernel_rfl
theorem c7_1 : ((((TX 6 3).drop 64).take 64).all chk) = true := by kernel_rfl
theorem c7_2 : ((((TX 6 3).drop 128).take 64).all chk) = true := by kernel_rfl
theorem c7_3 : ((((TX 6 3).drop 192).take 64).all chk) = true := by kernel_rfl
theorem c7_4 : ((((TX 6 3).drop 256).take 64).all chk) = true := by kernel_rfl
theorem c7_5 : ((((TX 6 3).drop 320).take 64).all chk) = true := by kernel_rfl
theorem c7_6 : ((((TX 6 3).drop 384).take 64).all chk) = true := by kernel_rfl
theorem c7_7 : ((((TX 6 3).drop 448).take 64).all chk) = true := by kernel_rfl
theorem c7_8 : ((((TX 6 3).drop 512).take 64).all chk) = true := by kernel_rfl
theorem c7_9 : ((((TX 6 3).drop 576).take 64).all chk) = true := by kernel_rfl
theorem c7_10 : ((((TX 6 3).drop 640).take 64).all chk) = true := by kernel_rfl
theorem c7_11 : ((((TX 6 3).drop 704).take 64).all chk) = true := by kernel_rfl
theorem c8_0 : ((((TX 5 2).drop 0).take 64).all chk) = true := by kernel_rfl
theorem c9_0 : ((((TX 3 3).drop 0).take 64).all chk) = true := by kernel_rfl
theorem c10_0 : ((((TX 8 2).drop 0).take 32).all chk) = true := by kernel_rfl
theorem c10_1 : ((((TX 8 2).drop 32).take 32).all chk) = true := by kernel_rfl
theorem c10_2 : ((((TX 8 2).drop 64).take 32).all chk) = true := by kernel_rfl
theorem c10_3 : ((((TX 8 2).drop 96).take 32).all chk) = true := by kernel_rfl
theorem c10_4 : ((((TX 8 2).drop 128).take 32).all chk) = true := by kernel_rfl
theorem c10_5 : ((((TX 8 2).drop 160).take 32).all chk) = true := by kernel_rfl
theorem c10_6 : ((((TX 8 2).drop 192).take 32).all chk) = true := by kernel_rfl
theorem c10_7 : ((((TX 8 2).drop 224).take 32).all chk) = true := by kernel_rfl
theorem c11_0 : ((((TX 7 2).drop 0).take 32).all chk) = true := by kernel_rfl
theorem c11_1 : ((((TX 7 2).drop 32).take 32).all chk) = true := by kernel_rfl
theorem c11_2 : ((((TX 7 2).drop 64).take 32).all chk) = true := by kernel_rfl
theorem c11_3 : ((((TX 7 2).drop 96).take 32).all chk) = true := by kernel_rfl
theorem chk_all : ∀ i, i < 12 → ((TX (SN i) (SK i)).all chk) = true
  | 0, _ => show ((TX 1 4).drop 0).all chk = true from (all_step (n := 0) (m := 64) c0_0 (by kernel_rfl))
  | 1, _ => show ((TX 2 4).drop 0).all chk = true from (all_step (n := 0) (m := 64) c1_0 (by kernel_rfl))
  | 2, _ => show ((TX 3 4).drop 0).all chk = true from (all_step (n := 0) (m := 64) c2_0 (by kernel_rfl))
  | 3, _ => show ((TX 4 4).drop 0).all chk = true from (all_step (n := 0) (m := 64) c3_0 (all_step (n := 64) (m := 64) c3_1 (all_step (n := 128) (m := 64) c3_2 (all_step (n := 192) (m := 64) c3_3 (by kernel_rfl)))))
  | 4, _ => show ((TX 5 3).drop 0).all chk = true from (all_step (n := 0) (m := 64) c4_0 (all_step (n := 64) (m := 64) c4_1 (all_step (n := 128) (m := 64) c4_2 (all_step (n := 192) (m := 64) c4_3 (by kernel_rfl)))))
  | 5, _ => show ((TX 6 2).drop 0).all chk = true from (all_step (n := 0) (m := 64) c5_0 (by kernel_rfl))
  | 6, _ => show ((TX 4 3).drop 0).all chk = true from (all_step (n := 0) (m := 64) c6_0 (all_step (n := 64) (m := 64) c6_1 (by kernel_rfl)))
  | 7, _ => show ((TX 6 3).drop 0).all chk = true from (all_step (n := 0) (m := 64) c7_0 (all_step (n := 64) (m := 64) c7_1 (all_step (n := 128) (m := 64) c7_2 (all_step (n := 192) (m := 64) c7_3 (all_step (n := 256) (m := 64) c7_4 (all_step (n := 320) (m := 64) c7_5 (all_step (n := 384) (m := 64) c7_6 (all_step (n := 448) (m := 64) c7_7 (all_step (n := 512) (m := 64) c7_8 (all_step (n := 576) (m := 64) c7_9 (all_step (n := 640) (m := 64) c7_10 (all_step (n := 704) (m := 64) c7_11 (by kernel_rfl)))))))))))))
  | 8, _ => show ((TX 5 2).drop 0).all chk = true from (all_step (n := 0) (m := 64) c8_0 (by kernel_rfl))
  | 9, _ => show ((TX 3 3).drop 0).all chk = true from (all_step (n := 0) (m := 64) c9_0 (by kernel_rfl))
  | 10, _ => show ((TX 8 2).drop 0).all chk = true from (all_step (n := 0) (m := 32) c10_0 (all_step (n := 32) (m := 32) c10_1 (all_step (n := 64) (m := 32) c10_2 (all_step (n := 96) (m := 32) c10_3 (all_step (n := 128) (m := 32) c10_4 (all_step (n := 160) (m := 32) c10_5 (all_step (n := 192) (m := 32) c10_6 (all_step (n := 224) (m := 32) c10_7 (by kernel_rfl)))))))))
  | 11, _ => show ((TX 7 2).drop 0).all chk = true from (all_step (n := 0) (m := 32) c11_0 (all_step (n := 32) (m := 32) c11_1 (all_step (n := 64) (m := 32) c11_2 (all_step (n := 96) (m := 32) c11_3 (by kernel_rfl)))))
end K29
set_option Elab.async false
set_option linter.all false
set_option maxRecDepth 100000
set_option maxHeartbeats 4000000
set_option autoImplicit false
/-! K29M: the law. -/
namespace K29
open VL VL.R
abbrev SHS : List PV := [.tup [.int 1, .int 4], .tup [.int 2, .int 4], .tup [.int 3, .int 4], .tup [.int 4, .int 4], .tup [.int 5, .int 3], .tup [.int 6, .int 2], .tup [.int 4, .int 3], .tup [.int 6, .int 3], .tup [.int 5, .int 2], .tup [.int 3, .int 3], .tup [.int 8, .int 2], .tup [.int 7, .int 2]]
theorem sh_at : ∀ i, i < 12 → SHS[i]? = some (.tup [.int (SN i : Int), .int (SK i : Int)])
  | 0, _ => rfl
  | 1, _ => rfl
  | 2, _ => rfl
  | 3, _ => rfl
  | 4, _ => rfl
  | 5, _ => rfl
  | 6, _ => rfl
  | 7, _ => rfl
  | 8, _ => rfl
  | 9, _ => rfl
  | 10, _ => rfl
  | 11, _ => rfl
theorem tx_pos : ∀ i, i < 12 → 0 < (TX (SN i) (SK i)).length := by decide +kernel
theorem tx_le : ∀ i, i < 12 → (TX (SN i) (SK i)).length ≤ 1000 := by decide +kernel
abbrev body7 : En → R Fl := (seqF (sSet 7 (cB idxP (cV 4) (cCall F__law_mix (aC (cV 1) (aC (cB addP (cK (.int 10)) (cV 12)) (aC (cU lenP (cV 4)) aN)))))) (sIf (tOr (tB neP (cU lenP (cCall F_all_readings (aC (cK (.dict false [] [])) (aC (cK (.str [114])) (aC (cV 7) aN))))) (cCall F_period (aC (cV 7) aN))) (tB ninP (cU lenP (cCall F_all_readings (aC (cK (.dict false [] [])) (aC (cK (.str [98, 114])) (aC (cV 7) aN))))) (cLst (aC (cCall F_period (aC (cV 7) aN)) (aC (cB mulP (cK (.int 2)) (cCall F_period (aC (cV 7) aN))) aN))))) (sRet (cK (.bool false))) sNil))
abbrev body8 : En → R Fl := (seqF (sAsg (cTup (aC (cB addP (cK (.int 1)) (cCall F__law_mix (aC (cV 1) (aC (cB addP (cK (.int 20)) (cB mulP (cK (.int 2)) (cV 12))) (aC (cK (.int 20)) aN))))) (aC (cB addP (cK (.int 1)) (cCall F__law_mix (aC (cV 1) (aC (cB addP (cK (.int 21)) (cB mulP (cK (.int 2)) (cV 12))) (aC (cK (.int 20)) aN))))) aN))) (gT 2 (consG (gN 2) (consG (gN 3) nilG)))) (seqF (sSet 14 (cComp (iR2 (cK (.int 1)) (cB addP (cV 2) (cK (.int 1)))) (gN 15) (tB eqP (cB modP (cU intP (cV 2)) (cV 15)) (cK (.int 0))) (cV 15) [15])) (seqF (sSet 16 (cK (.int 1))) (seqF (sFor (iR1 (cV 2)) (gN 5) (sSet 16 (cB mulP (cV 16) (cV 3)))) (seqF (sIf (tOr (tB neP (cCall F_count_round (aC (cV 2) (aC (cV 3) aN))) (cU sumP (cComp (iV (cV 14)) (gN 15) tT (cCall F_count_plain (aC (cV 15) (aC (cV 3) aN))) [15]))) (tB neP (cU sumP (cComp (iV (cV 14)) (gN 15) tT (cB mulP (cV 15) (cCall F_count_plain (aC (cV 15) (aC (cV 3) aN)))) [15])) (cV 16))) (sRet (cK (.bool false))) sNil) (seqF (sIf (tOr (tNot (tB leP (cCall F_count_round (aC (cV 2) (aC (cV 3) aN))) (cB mulP (cK (.int 2)) (cCall F_count_both (aC (cV 2) (aC (cV 3) aN)))))) (tOr (tB gtP (cCall F_count_both (aC (cV 2) (aC (cV 3) aN))) (cCall F_count_round (aC (cV 2) (aC (cV 3) aN)))) (tOr (tB neP (cCall F_count_round (aC (cV 2) (aC (cK (.int 1)) aN))) (cK (.int 1))) (tB neP (cCall F_count_both (aC (cV 2) (aC (cK (.int 1)) aN))) (cK (.int 1)))))) (sRet (cK (.bool false))) sNil) (sIf (tOr (tAnd (tB ltP (cV 3) (cK (.int 20))) (tB leP (cCall F_count_round (aC (cV 2) (aC (cB addP (cV 3) (cK (.int 1))) aN))) (cCall F_count_round (aC (cV 2) (aC (cV 3) aN))))) (tB neP (cCall F_count_plain (aC (cV 2) (aC (cK (.int 1)) aN))) (cU intP (cB eqP (cV 2) (cK (.int 1)))))) (sRet (cK (.bool false))) sNil)))))))
abbrev E7 (i : Nat) (sc dr : PV) (a5 a6 a7 a8 a9 a10 a11 a12 a13 a14 a15 a16 : Option PV) : En := EA sc dr (n_ i) (k_ i) (some (TL i)) a5 a6 a7 a8 a9 a10 a11 a12 a13 a14 a15 a16
def isE7 (i : Nat) (sc dr : PV) (env : En) : Prop := ∃ a5 a6 a7 a8 a9 a10 a11 a12 a13 a14 a15 a16, env = E7 i sc dr a5 a6 a7 a8 a9 a10 a11 a12 a13 a14 a15 a16
def isE8 (sc dr : PV) (env : En) : Prop := ∃ a2 a3 a4 a5 a6 a7 a8 a9 a10 a11 a12 a13 a14 a15 a16, env = EA sc dr a2 a3 a4 a5 a6 a7 a8 a9 a10 a11 a12 a13 a14 a15 a16
theorem test7 (i : Nat) (sc dr : PV) {w : W} (h : chk w = true) (a5 a6 a7 a8 a9 a10 a11 a12 a13 a14 a15 a16 : Option PV) : (tOr (tB neP (cU lenP (cCall F_all_readings (aC (cK (.dict false [] [])) (aC (cK (.str [114])) (aC (cV 7) aN))))) (cCall F_period (aC (cV 7) aN))) (tB ninP (cU lenP (cCall F_all_readings (aC (cK (.dict false [] [])) (aC (cK (.str [98, 114])) (aC (cV 7) aN))))) (cLst (aC (cCall F_period (aC (cV 7) aN)) (aC (cB mulP (cK (.int 2)) (cCall F_period (aC (cV 7) aN))) aN))))) (E7 i sc dr a5 a6 (some (.str w)) a8 a9 a10 a11 a12 a13 a14 a15 a16) = .ok false := by
  unfold chk at h
  split at h
  case h_2 => cases h
  case h_1 p c hp hc =>
    simp only [Bool.and_eq_true, Bool.or_eq_true, beq_iff_eq, Bool.not_eq_true', List.isEmpty_eq_false_iff] at h
    obtain ⟨⟨⟨⟨h1, h2⟩, h3⟩, h4⟩, h5⟩ := h
    have g : goodW w := ⟨h1, Nat.le_of_ble_eq_true h2, c, hc⟩
    obtain ⟨G, r1, r2⟩ := read_r g
    obtain ⟨G2, s1, s2⟩ := read_br g
    have p1 : cCall F_period (aC (cV 7) aN) (E7 i sc dr a5 a6 (some (.str w)) a8 a9 a10 a11 a12 a13 a14 a15 a16) = .ok (.int p) := (call1_of (f := cV 7) rfl).trans hp
    have l1 : cU lenP (cCall F_all_readings (aC (cK d0) (aC (cK (.str [114])) (aC (cV 7) aN)))) (E7 i sc dr a5 a6 (some (.str w)) a8 a9 a10 a11 a12 a13 a14 a15 a16) = .ok (.int p) := by
      refine (len_of (ia := PV.str) ((call3_of (f := cK d0) (g := cK (.str [114])) (h := cV 7) rfl rfl rfl).trans r1)).trans ?_
      rw [r2, h3]
    have l2 : cU lenP (cCall F_all_readings (aC (cK d0) (aC (cK (.str [98, 114])) (aC (cV 7) aN)))) (E7 i sc dr a5 a6 (some (.str w)) a8 a9 a10 a11 a12 a13 a14 a15 a16) = .ok (.int (G2.length : Nat)) := len_of (ia := PV.str) ((call3_of (f := cK d0) (g := cK (.str [98, 114])) (h := cV 7) rfl rfl rfl).trans s1)
    rw [tOr_f (tB_of l1 p1 (ne_refl (cmp_int p)))]
    have hm : cB mulP (cK (.int 2)) (cCall F_period (aC (cV 7) aN)) (E7 i sc dr a5 a6 (some (.str w)) a8 a9 a10 a11 a12 a13 a14 a15 a16) = .ok (.int (2 * p)) := (cB_of (o := mulP) (f := cK (.int 2)) rfl p1).trans (mul_int (by have := Nat.le_of_ble_eq_true h5; omega))
    refine tB_of l2 (lst2_of p1 hm) ?_
    rw [s2]
    rcases h4 with e | e
    · rw [e]
      show R.ok (PV.bool (!(eqB (.int p) (.int p) || _))) = _
      rw [eqB_int, beq_self_eq_true]
      rfl
    · rw [e]
      show R.ok (PV.bool (!(eqB (.int p) (.int (2 * p)) || (eqB (.int (2 * p)) (.int (2 * p)) || false)))) = _
      rw [eqB_int (2 * p), beq_self_eq_true, Bool.true_or, Bool.or_true]
      rfl
theorem turn7 {D : List Int} (gD : good D) (sc : PV) {i t : Nat} (hi : i < 12) (ht : t < 4) (a5 a6 a7 a8 a9 a10 a11 a12 a13 a14 a15 a16 : Option PV) : Goes (isE7 i sc (.list (D.map .int))) body7 (E7 i sc (.list (D.map .int)) a5 a6 a7 a8 a9 a10 a11 (some (.int (t : Int))) a13 a14 a15 a16) := by
  obtain ⟨x, hx, e⟩ := draw_at F__law_mix gD (xs := (TX (SN i) (SK i)).map .str) (n := (TX (SN i) (SK i)).length) (m := (TX (SN i) (SK i)).length) (v := fun x => .str ((TX (SN i) (SK i)).getD x [])) (fun x hx => by
      rw [List.getElem?_map, List.getElem?_eq_getElem hx, List.getD_eq_getElem?_getD, List.getElem?_eq_getElem hx]
      rfl) (env := (E7 i sc (.list (D.map .int)) a5 a6 a7 a8 a9 a10 a11 (some (.int (t : Int))) a13 a14 a15 a16)) (fs := cV 4) (fk := cB addP (cK (.int 10)) (cV 12)) (fm := cU lenP (cV 4)) (k := 10 + t) rfl rfl ((cB_of (o := addP) (f := cK (.int 10)) (g := cV 12) rfl rfl).trans (by show R.ok (PV.int ((10 : Int) + (t : Int))) = _; rw [Int.natCast_add]; rfl)) (len_of (ia := PV.str) (f := cV 4) rfl) (by omega) (tx_pos i hi) (Nat.le_refl _)
  refine goes_seq (env1 := (E7 i sc (.list (D.map .int)) a5 a6 (some (.str ((TX (SN i) (SK i)).getD x []))) a8 a9 a10 a11 (some (.int (t : Int))) a13 a14 a15 a16)) (sSet_of (i := 7) e) ?_
  have hw : chk ((TX (SN i) (SK i)).getD x []) = true := by
    refine List.all_eq_true.mp (chk_all i hi) _ ?_
    rw [List.getD_eq_getElem?_getD, List.getElem?_eq_getElem hx]
    exact List.getElem_mem hx
  exact goes_end (skip_of (test7 i sc _ hw a5 a6 a7 a8 a9 a10 a11 (some (.int (t : Int))) a13 a14 a15 a16)) ⟨_, _, _, _, _, _, _, _, _, _, _, _, rfl⟩
theorem rest_ok (sc dr : PV) (a4 a5 a6 a7 a8 a9 a10 a11 a12 a13 a14 a15 a16 : Option PV) : ∀ x, x < 20 → ∀ y, y < 20 → Goes (isE8 sc dr) rest (EA sc dr (some (.int ((x + 1 : Nat) : Int))) (some (.int ((y + 1 : Nat) : Int))) a4 a5 a6 a7 a8 a9 a10 a11 a12 a13 a14 a15 a16)
  | 0, _, y, hy => ⟨_, t1 sc dr a4 a5 a6 a7 a8 a9 a10 a11 a12 a13 a14 a15 a16 y hy, _, _, _, _, _, _, _, _, _, _, _, _, _, _, _, rfl⟩
  | 1, _, y, hy => ⟨_, t2 sc dr a4 a5 a6 a7 a8 a9 a10 a11 a12 a13 a14 a15 a16 y hy, _, _, _, _, _, _, _, _, _, _, _, _, _, _, _, rfl⟩
  | 2, _, y, hy => ⟨_, t3 sc dr a4 a5 a6 a7 a8 a9 a10 a11 a12 a13 a14 a15 a16 y hy, _, _, _, _, _, _, _, _, _, _, _, _, _, _, _, rfl⟩
  | 3, _, y, hy => ⟨_, t4 sc dr a4 a5 a6 a7 a8 a9 a10 a11 a12 a13 a14 a15 a16 y hy, _, _, _, _, _, _, _, _, _, _, _, _, _, _, _, rfl⟩
  | 4, _, y, hy => ⟨_, t5 sc dr a4 a5 a6 a7 a8 a9 a10 a11 a12 a13 a14 a15 a16 y hy, _, _, _, _, _, _, _, _, _, _, _, _, _, _, _, rfl⟩
  | 5, _, y, hy => ⟨_, t6 sc dr a4 a5 a6 a7 a8 a9 a10 a11 a12 a13 a14 a15 a16 y hy, _, _, _, _, _, _, _, _, _, _, _, _, _, _, _, rfl⟩
  | 6, _, y, hy => ⟨_, t7 sc dr a4 a5 a6 a7 a8 a9 a10 a11 a12 a13 a14 a15 a16 y hy, _, _, _, _, _, _, _, _, _, _, _, _, _, _, _, rfl⟩
  | 7, _, y, hy => ⟨_, t8 sc dr a4 a5 a6 a7 a8 a9 a10 a11 a12 a13 a14 a15 a16 y hy, _, _, _, _, _, _, _, _, _, _, _, _, _, _, _, rfl⟩
  | 8, _, y, hy => ⟨_, t9 sc dr a4 a5 a6 a7 a8 a9 a10 a11 a12 a13 a14 a15 a16 y hy, _, _, _, _, _, _, _, _, _, _, _, _, _, _, _, rfl⟩
  | 9, _, y, hy => ⟨_, t10 sc dr a4 a5 a6 a7 a8 a9 a10 a11 a12 a13 a14 a15 a16 y hy, _, _, _, _, _, _, _, _, _, _, _, _, _, _, _, rfl⟩
  | 10, _, y, hy => ⟨_, t11 sc dr a4 a5 a6 a7 a8 a9 a10 a11 a12 a13 a14 a15 a16 y hy, _, _, _, _, _, _, _, _, _, _, _, _, _, _, _, rfl⟩
  | 11, _, y, hy => ⟨_, t12 sc dr a4 a5 a6 a7 a8 a9 a10 a11 a12 a13 a14 a15 a16 y hy, _, _, _, _, _, _, _, _, _, _, _, _, _, _, _, rfl⟩
  | 12, _, y, hy => ⟨_, t13 sc dr a4 a5 a6 a7 a8 a9 a10 a11 a12 a13 a14 a15 a16 y hy, _, _, _, _, _, _, _, _, _, _, _, _, _, _, _, rfl⟩
  | 13, _, y, hy => ⟨_, t14 sc dr a4 a5 a6 a7 a8 a9 a10 a11 a12 a13 a14 a15 a16 y hy, _, _, _, _, _, _, _, _, _, _, _, _, _, _, _, rfl⟩
  | 14, _, y, hy => ⟨_, t15 sc dr a4 a5 a6 a7 a8 a9 a10 a11 a12 a13 a14 a15 a16 y hy, _, _, _, _, _, _, _, _, _, _, _, _, _, _, _, rfl⟩
  | 15, _, y, hy => ⟨_, t16 sc dr a4 a5 a6 a7 a8 a9 a10 a11 a12 a13 a14 a15 a16 y hy, _, _, _, _, _, _, _, _, _, _, _, _, _, _, _, rfl⟩
  | 16, _, y, hy => ⟨_, t17 sc dr a4 a5 a6 a7 a8 a9 a10 a11 a12 a13 a14 a15 a16 y hy, _, _, _, _, _, _, _, _, _, _, _, _, _, _, _, rfl⟩
  | 17, _, y, hy => ⟨_, t18 sc dr a4 a5 a6 a7 a8 a9 a10 a11 a12 a13 a14 a15 a16 y hy, _, _, _, _, _, _, _, _, _, _, _, _, _, _, _, rfl⟩
  | 18, _, y, hy => ⟨_, t19 sc dr a4 a5 a6 a7 a8 a9 a10 a11 a12 a13 a14 a15 a16 y hy, _, _, _, _, _, _, _, _, _, _, _, _, _, _, _, rfl⟩
  | 19, _, y, hy => ⟨_, t20 sc dr a4 a5 a6 a7 a8 a9 a10 a11 a12 a13 a14 a15 a16 y hy, _, _, _, _, _, _, _, _, _, _, _, _, _, _, _, rfl⟩
  | x + 20, h, _, _ => absurd h (by omega)
theorem turn8 {D : List Int} (gD : good D) (sc : PV) {t : Nat} (ht : t < 3) (a2 a3 a4 a5 a6 a7 a8 a9 a10 a11 a12 a13 a14 a15 a16 : Option PV) : Goes (isE8 sc (.list (D.map .int))) body8 (EA sc (.list (D.map .int)) a2 a3 a4 a5 a6 a7 a8 a9 a10 a11 (some (.int (t : Int))) a13 a14 a15 a16) := by
  obtain ⟨x, hx, ex⟩ : ∃ x : Nat, x < 20 ∧ cB addP (cK (.int 1)) (cCall F__law_mix (aC (cV 1) (aC (cB addP (cK (.int 20)) (cB mulP (cK (.int 2)) (cV 12))) (aC (cK (.int 20)) aN)))) (EA sc (.list (D.map .int)) a2 a3 a4 a5 a6 a7 a8 a9 a10 a11 (some (.int (t : Int))) a13 a14 a15 a16) = .ok (.int ((x + 1 : Nat) : Int)) := by
    obtain ⟨r, r1, r2, r3⟩ := mix_in F__law_mix gD (env := (EA sc (.list (D.map .int)) a2 a3 a4 a5 a6 a7 a8 a9 a10 a11 (some (.int (t : Int))) a13 a14 a15 a16)) (i := 1) (fk := cB addP (cK (.int 20)) (cB mulP (cK (.int 2)) (cV 12))) (fm := cK (.int 20)) (k := ((20 + 2 * t : Nat) : Int)) (m := 20) rfl (at_turn (a := 20) (b := 2) (j := 12) rfl (by omega) (by omega)) rfl (by omega) (by omega) (by omega)
    obtain ⟨q, hq⟩ : ∃ q : Nat, r = q := ⟨r.toNat, by omega⟩
    subst hq
    refine ⟨q, by omega, (cB_of (o := addP) (f := cK (.int 1)) rfl r1).trans ?_⟩
    show R.ok (PV.int ((1 : Int) + (q : Int))) = _
    refine congrArg (fun i : Int => R.ok (PV.int i)) ?_
    omega
  obtain ⟨y, hy, ey⟩ : ∃ y : Nat, y < 20 ∧ cB addP (cK (.int 1)) (cCall F__law_mix (aC (cV 1) (aC (cB addP (cK (.int 21)) (cB mulP (cK (.int 2)) (cV 12))) (aC (cK (.int 20)) aN)))) (EA sc (.list (D.map .int)) a2 a3 a4 a5 a6 a7 a8 a9 a10 a11 (some (.int (t : Int))) a13 a14 a15 a16) = .ok (.int ((y + 1 : Nat) : Int)) := by
    obtain ⟨r, r1, r2, r3⟩ := mix_in F__law_mix gD (env := (EA sc (.list (D.map .int)) a2 a3 a4 a5 a6 a7 a8 a9 a10 a11 (some (.int (t : Int))) a13 a14 a15 a16)) (i := 1) (fk := cB addP (cK (.int 21)) (cB mulP (cK (.int 2)) (cV 12))) (fm := cK (.int 20)) (k := ((21 + 2 * t : Nat) : Int)) (m := 20) rfl (at_turn (a := 21) (b := 2) (j := 12) rfl (by omega) (by omega)) rfl (by omega) (by omega) (by omega)
    obtain ⟨q, hq⟩ : ∃ q : Nat, r = q := ⟨r.toNat, by omega⟩
    subst hq
    refine ⟨q, by omega, (cB_of (o := addP) (f := cK (.int 1)) rfl r1).trans ?_⟩
    show R.ok (PV.int ((1 : Int) + (q : Int))) = _
    refine congrArg (fun i : Int => R.ok (PV.int i)) ?_
    omega
  exact goes_seq (env1 := (EA sc (.list (D.map .int)) (some (.int ((x + 1 : Nat) : Int))) (some (.int ((y + 1 : Nat) : Int))) a4 a5 a6 a7 a8 a9 a10 a11 (some (.int (t : Int))) a13 a14 a15 a16)) (sAsg_of (tup2_of ex ey) rfl) (rest_ok sc _ _ _ _ _ _ _ _ _ _ _ _ _ _ x hx y hy)
theorem law_true (ns : List Int) (_ : ns.length ≤ 63) : F_law (scr ns) = .ok (.bool true) := by
  obtain ⟨D, hD, gD⟩ := draws_ok ns
  generalize hsc : (PV.kn (ns.map PV.int)) = sc
  have hD2 : F__law_draws [sc] = .ok (.list (D.map .int)) := by
    rw [← hsc]
    exact hD
  show F_law [.kn (ns.map PV.int)] = _
  rw [hsc]
  refine runF_rt ?_
  show seqF _ _ [some sc, none, none, none, none, none, none, none, none, none, none, none, none, none, none, none, none] = _
  rw [seq_nx (env' := [some sc, some (.list (D.map .int)), none, none, none, none, none, none, none, none, none, none, none, none, none, none, none]) (sSet_of (i := 1) hD2)]
  obtain ⟨i, hi, e1⟩ := draw_at F__law_mix gD (m := 12) (n := 12) sh_at (env := [some sc, some (.list (D.map .int)), none, none, none, none, none, none, none, none, none, none, none, none, none, none, none]) (fs := (cLst (aC (cTup (aC (cK (.int 1)) (aC (cK (.int 4)) aN))) (aC (cTup (aC (cK (.int 2)) (aC (cK (.int 4)) aN))) (aC (cTup (aC (cK (.int 3)) (aC (cK (.int 4)) aN))) (aC (cTup (aC (cK (.int 4)) (aC (cK (.int 4)) aN))) (aC (cTup (aC (cK (.int 5)) (aC (cK (.int 3)) aN))) (aC (cTup (aC (cK (.int 6)) (aC (cK (.int 2)) aN))) (aC (cTup (aC (cK (.int 4)) (aC (cK (.int 3)) aN))) (aC (cTup (aC (cK (.int 6)) (aC (cK (.int 3)) aN))) (aC (cTup (aC (cK (.int 5)) (aC (cK (.int 2)) aN))) (aC (cTup (aC (cK (.int 3)) (aC (cK (.int 3)) aN))) (aC (cTup (aC (cK (.int 8)) (aC (cK (.int 2)) aN))) (aC (cTup (aC (cK (.int 7)) (aC (cK (.int 2)) aN))) aN)))))))))))))) (fk := cK (.int 0)) (fm := cK (.int 12)) (k := 0) (by kernel_rfl) rfl rfl rfl (by omega) (by omega) (by omega)
  rw [seq_nx (env' := EA sc (.list (D.map .int)) (n_ i) (k_ i) none none none none none none none none none none none none none) (sAsg_of e1 rfl)]
  rw [seq_nx (env' := EA sc (.list (D.map .int)) (n_ i) (k_ i) (some (.list [.str []])) none none none none none none none none none none none none) rfl]
  rw [seq_nx (st3 sc (.list (D.map .int)) none none none none none none none none none none none none i hi)]
  rw [seq_nx (env' := EA sc (.list (D.map .int)) (n_ i) (k_ i) (some (TL i)) (some (.int ((SN i : Int) - 1))) none none (some (.int 0)) (some (.int 0)) (some (.int 0)) none none none none none none) rfl]
  rw [seq_nx (st5 sc (.list (D.map .int)) _ _ _ _ _ _ _ _ _ i hi)]
  rw [seq_nx (st6 sc (.list (D.map .int)) _ _ _ _ _ _ _ _ _ _ i hi)]
  obtain ⟨env1, h1, a5, a6, a7, a8, a9, a10, a11, a12, a13, a14, a15, a16, rfl⟩ := turns_ok (n := 4) (j := 12) (fs := body7) (isE7 i sc (.list (D.map .int))) (env := E7 i sc (.list (D.map .int)) (some (.int ((SN i : Int) - 1))) none (some (.str (LT i))) (some (.int (CR i))) (some (.int (CB i))) (some (.int (CP i))) (some (.list (List.replicate (SN i) (.str (LT i))))) none none none none none) ⟨_, _, _, _, _, _, _, _, _, _, _, _, rfl⟩ (by omega) fun q env hq he => by
    obtain ⟨a5, a6, a7, a8, a9, a10, a11, a12, a13, a14, a15, a16, rfl⟩ := he
    obtain ⟨env', e1, e2⟩ := turn7 gD sc hi hq a5 a6 a7 a8 a9 a10 a11 a12 a13 a14 a15 a16
    exact ⟨env', (step_of (fg := gN 12) rfl).trans e1, e2⟩
  refine (seq_nx h1).trans ?_
  obtain ⟨env2, h2, b2, b3, b4, b5, b6, b7, b8, b9, b10, b11, b12, b13, b14, b15, b16, rfl⟩ := turns_ok (n := 3) (j := 12) (fs := body8) (isE8 sc (.list (D.map .int))) (env := E7 i sc (.list (D.map .int)) a5 a6 a7 a8 a9 a10 a11 a12 a13 a14 a15 a16) ⟨_, _, _, _, _, _, _, _, _, _, _, _, _, _, _, rfl⟩ (by omega) fun q env hq he => by
    obtain ⟨b2, b3, b4, b5, b6, b7, b8, b9, b10, b11, b12, b13, b14, b15, b16, rfl⟩ := he
    obtain ⟨env', e1, e2⟩ := turn8 gD sc hq b2 b3 b4 b5 b6 b7 b8 b9 b10 b11 b12 b13 b14 b15 b16
    exact ⟨env', (step_of (fg := gN 12) rfl).trans e1, e2⟩
  refine (seq_nx h2).trans ?_
  exact sRet_of rfl
end K29
set_option Elab.async false
set_option linter.all false
set_option maxRecDepth 100000
set_option maxHeartbeats 0
set_option autoImplicit false
namespace K29
open PySem PySem.Spec L2 VL VL.R
theorem holds_ : PySem.Challenge.rw_wordsatplay_k29_whole_numbers_of_classes.Holds := by
  w_on; o_law
  refine HandSHeadRun.head_any (r := PySem.W.OpenLaw.row PySem.Challenge.rw_wordsatplay_k29_whole_numbers_of_classes) (q := PySem.W.view (PySem.W.OpenLaw.row PySem.Challenge.rw_wordsatplay_k29_whole_numbers_of_classes).prog [33]) (H := hk) (ob := ob) (M := 12000) (loose := names) (d := HandSHeadRun.topDef (PySem.W.OpenLaw.row PySem.Challenge.rw_wordsatplay_k29_whole_numbers_of_classes).prog 33) (kwd := []) ob_eq
    (by kernel_rfl) (fun s => by kernel_rfl) run (by kernel_rfl) (by kernel_rfl) (by kernel_rfl) (by rfl) (by first | assumption | decide +kernel) (by decide +kernel) ⟨rfl, rfl, rfl, rfl, rfl, by decide +kernel⟩ ?hw ?hc
  case hw => w_witness2
  case hc =>
    refine walkG (l := PySem.Challenge.rw_wordsatplay_k29_whole_numbers_of_classes) (n := 63) (k := 10) (x := "script") rfl (by decide) (by kernel_rfl) ⟨rfl, by decide, by decide⟩ F_law law_true ?_
    intro w mg fa h Y G hmg0
    obtain ⟨K, KX, c⟩ := Y
    have hmg : mg ("law" : PySem.Str) = some (.ref fa) := by
      have e : (HandSHeadRun.topDef (PySem.W.OpenLaw.row PySem.Challenge.rw_wordsatplay_k29_whole_numbers_of_classes).prog 33).name = ("law" : PySem.Str) := by kernel_rfl
      rw [← e]
      exact hmg0
    obtain ⟨fd, h1, h2⟩ := facts (K := K) (P := (PySem.Challenge.rw_wordsatplay_k29_whole_numbers_of_classes).prog) (w := w) KX G c (by kernel_rfl) (by kernel_rfl) hmg
    exact ⟨tbX xd K, fd, KX, h1, h2⟩
end K29
theorem PySem.Challenge.cw_wordsatplay_k29_whole_numbers_of_classes_holds : PySem.Challenge.rw_wordsatplay_k29_whole_numbers_of_classes.Holds :=
  K29.holds_
