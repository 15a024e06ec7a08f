import PyProof.Rows.All
import Wide.All
import OpenK.AllK
import Wide.FinOn
import PyProof.EqAt
import PyProof.EqKinds
import PyProof.TupleCall
import HandS.ForMost
import HandS.ForExc
import HandS.Wide
import HandS.WideBits
import HandS.TupAny
import HandS.TupMul
import HandS.IsInst
import HandS.Property
import HandS.OwnEq
import HandS.Deep
import HandS.Zip
import HandS.Lambda
import HandS.HeadHook1
import HandS.CallSlots
import HandS.Flow
import KE.GoesEnum
import KE.GoesMore
import KE.GoesZip
import KE.KStateDown
import HandS.More
import HandS.Defaults
import HandS.Head0
import HandS.Head1
import HandS.Head2
import HandS.HeadEnd
import HandS.HeadHook2
import HandS.HeadNt
import HandS.Comp
import HandS.Style
import HandS.SetFor
import HandS.Dict
import HandS.TupLe
import PyProof.ListMulRoad
import PyProof.FactsAll.tuple_2
import HandS.TryMany
import HandS.Small
import HandS.Remove
import KE.DataFind
import KE.KEqNest
import HandS.ExcIs
import HandS.ExcField
import KE.KExcIs
import HandS.Text
import HandS.FStr
import HandS.Iter
import HandS.Rev
import HandS.ExcInit
import HandS.NoneIn
import KE.SortKeyHeap
import KE.KTupSum
import HandS.SortKw
import HandS.EndTab
import HandS.Conv
import KE.KDictDisplayH
import PySem.Challenge.RW_whichroad_k15_whole_most_in_a_walk
set_option Elab.async false
set_option linter.all false
set_option maxRecDepth 100000
set_option maxHeartbeats 1000000
/-! the functional reading: values, heaps, results; how they stand in the layer's abstract heap -/
namespace WR
open PySem PySem.Spec PyProof.Rows L2

/-- a value; lists, dicts, instances are objects of the small heap; fls: a list that is only read (the script) -/
inductive PV where
  | non | bl (b : Bool) | int (i : Int) | str (x : Str) | tup (xs : List PV) | fls (xs : List PV) | obj (n : Nat) | glo (x : Str) | ty (n : String) | key (ks : List Int)
inductive MO where
  | lst (xs : List PV)
  | ins (c : Str) (fs : List (Str × PV))
  | dct (kvs : List (List Int × PV))
  | dks (kvs : List (Str × PV))
  | tbl (x : Str)
abbrev IH := List MO
abbrev Fm := List (Option PV)
/-- an exception: its class's name, its own fields -/
structure XV where
  cls : Str
  fs : List (Str × PV)
inductive Res (α : Type) where
  | ok (a : α) (h : IH)
  | ex (x : XV) (h : IH)
  | bad
def Res.bind {α β : Type} (r : Res α) (f : α → IH → Res β) : Res β := match r with
  | .ok a h => f a h
  | .ex x h => .ex x h
  | .bad => .bad
@[simp] theorem bind_ok {α β : Type} (a : α) (h : IH) (f : α → IH → Res β) : (Res.ok a h).bind f = f a h := rfl
@[simp] theorem bind_ex {α β : Type} (x : XV) (h : IH) (f : α → IH → Res β) : (Res.ex x h : Res α).bind f = .ex x h := rfl
@[simp] theorem bind_bad {α β : Type} (f : α → IH → Res β) : (Res.bad : Res α).bind f = .bad := rfl
abbrev EX := Fm → IH → Res PV
abbrev TX := Fm → IH → Res Bool
abbrev AX := Fm → IH → Res (List PV)
inductive RS where
  | nx (r : Fm) (h : IH)
  | rt (v : PV) (h : IH)
  | bk (r : Fm) (h : IH)
  | ct (r : Fm) (h : IH)
  | ex (x : XV) (r : Fm) (h : IH)
  | bad
abbrev SX := Fm → IH → RS

/-! ### how a value stands -/
/-- a list that is read only -/
def SqF (K : PySem.W.Frag) (H : Hp) (a : Addr) (ys : List V) : Prop := (∃ o, H a = some (.frz o (.lst ys))) ∨
    ∃ (o : Obj) (its : Array Value) (n : Nat), K.lookup a = some o ∧ o.cls = .type "list" ∧ o.dict = none ∧ o.data = .seq its n ∧ its.size ≤ sizeLine ∧ Vals ys its.toList
theorem SqF.sq {K : PySem.W.Frag} {H : Hp} {a : Addr} {ys : List V} (h : SqF K H a ys) : SqL K H a ys := by
  rcases h with ⟨o, h⟩ | h
  · exact .inl (.inr ⟨o, h⟩)
  · exact .inr h
mutual
inductive RP (K : PySem.W.Frag) (mg : Str → Option Value) (H : Hp) (as : List Addr) : PV → V → Prop
  | non : RP K mg H as .non .non
  | bl (b : Bool) : RP K mg H as (.bl b) (.bl b)
  | int (i : Int) : RP K mg H as (.int i) (.int i)
  | str (x : Str) : RP K mg H as (.str x) (.str x)
  | tup {xs : List PV} {a : Addr} {ys : List V} : SqT K H a ys → RPs K mg H as xs ys → RP K mg H as (.tup xs) (.ref a)
  | fls {xs : List PV} {a : Addr} {ys : List V} : SqF K H a ys → RPs K mg H as xs ys → RP K mg H as (.fls xs) (.ref a)
  | obj {n : Nat} {a : Addr} : as[n]? = some a → RP K mg H as (.obj n) (.ref a)
  | glo {x : Str} {u : Value} {v : V} : mg x = some u → RelV v u → RP K mg H as (.glo x) v
  | ty (n : String) : RP K mg H as (.ty n) (.ty n)
  | key {ks : List Int} {a : Addr} : H a = some (.tup (ks.map V.int)) → RP K mg H as (.key ks) (.ref a)
inductive RPs (K : PySem.W.Frag) (mg : Str → Option Value) (H : Hp) (as : List Addr) : List PV → List V → Prop
  | nil : RPs K mg H as [] []
  | cons {p : PV} {ps : List PV} {v : V} {vs : List V} : RP K mg H as p v → RPs K mg H as ps vs → RPs K mg H as (p :: ps) (v :: vs)
end
/-- what a step of the code leaves -/
structure Stp (as : List Addr) (H : Hp) (as' : List Addr) (H' : Hp) : Prop where
  pre : ∃ more, as' = as ++ more ∧ ∀ b ∈ more, H b = none
  tup : ∀ b ys, H b = some (.tup ys) → H' b = some (.tup ys)
  frz : ∀ b o u, H b = some (.frz o u) → H' b = some (.frz o u)
  oth : ∀ b o, H b = some o → b ∉ as → H' b = some o
  liv : ∀ b, H b ≠ none → H' b ≠ none
theorem Stp.refl (as : List Addr) (H : Hp) : Stp as H as H := ⟨⟨[], by simp, by simp⟩, fun _ _ h => h, fun _ _ _ h => h, fun _ _ h _ => h, fun _ h => h⟩
theorem Stp.trans {as as1 as2 : List Addr} {H H1 H2 : Hp} (a : Stp as H as1 H1) (b : Stp as1 H1 as2 H2) : Stp as H as2 H2 := by
  obtain ⟨m1, e1, f1⟩ := a.pre
  obtain ⟨m2, e2, f2⟩ := b.pre
  refine ⟨⟨m1 ++ m2, by rw [e2, e1, List.append_assoc], fun c hc => ?_⟩, fun c ys h => b.tup c ys (a.tup c ys h), fun c o u h => b.frz c o u (a.frz c o u h), fun c o h hc => b.oth c o (a.oth c o h hc) fun z => ?_, fun c h => b.liv c (a.liv c h)⟩
  · rcases List.mem_append.mp hc with h | h
    · exact f1 c h
    · cases q : H c with
      | none => rfl
      | some o => exact absurd (f2 c h) (a.liv c (by rw [q]; simp))
  · rw [e1] at z
    rcases List.mem_append.mp z with z | z
    · exact hc z
    · rw [f1 c z] at h; cases h
theorem Stp.get {as as' : List Addr} {H H' : Hp} (s : Stp as H as' H') {n : Nat} {a : Addr} (h : as[n]? = some a) : as'[n]? = some a := by
  obtain ⟨m, e, _⟩ := s.pre
  rw [e, List.getElem?_append_left (List.getElem?_eq_some_iff.mp h).1]
  exact h
section
variable {K : PySem.W.Frag} {mg : Str → Option Value} {as as' : List Addr} {H H' : Hp}
theorem Stp.sqT (s : Stp as H as' H') {a : Addr} {ys : List V} (h : SqT K H a ys) : SqT K H' a ys := by
  rcases h with (h | ⟨o, h⟩) | h
  · exact .inl (.inl (s.tup _ _ h))
  · exact .inl (.inr ⟨o, s.frz _ _ _ h⟩)
  · exact .inr h
theorem Stp.sqF (s : Stp as H as' H') {a : Addr} {ys : List V} (h : SqF K H a ys) : SqF K H' a ys := by
  rcases h with ⟨o, h⟩ | h
  · exact .inl ⟨o, s.frz _ _ _ h⟩
  · exact .inr h
mutual
theorem RP.mono (s : Stp as H as' H') : ∀ {p : PV} {v : V}, RP K mg H as p v → RP K mg H' as' p v
  | _, _, .non => .non
  | _, _, .bl b => .bl b
  | _, _, .int i => .int i
  | _, _, .str x => .str x
  | _, _, .tup h r => .tup (s.sqT h) (RPs.mono s r)
  | _, _, .fls h r => .fls (s.sqF h) (RPs.mono s r)
  | _, _, .obj h => .obj (s.get h)
  | _, _, .glo h r => .glo h r
  | _, _, .ty n => .ty n
  | _, _, .key h => .key (s.tup _ _ h)
theorem RPs.mono (s : Stp as H as' H') : ∀ {ps : List PV} {vs : List V}, RPs K mg H as ps vs → RPs K mg H' as' ps vs
  | _, _, .nil => .nil
  | _, _, .cons h t => .cons (RP.mono s h) (RPs.mono s t)
end
theorem RPs.length : ∀ {ps : List PV} {vs : List V}, RPs K mg H as ps vs → ps.length = vs.length
  | _, _, .nil => rfl
  | _, _, .cons _ t => by rw [List.length_cons, List.length_cons, RPs.length t]
theorem RPs.get : ∀ {ps : List PV} {vs : List V} {i : Nat} {p : PV}, RPs K mg H as ps vs → ps[i]? = some p → ∃ v, vs[i]? = some v ∧ RP K mg H as p v
  | _, _, _, _, .nil, e => by simp at e
  | _, _, 0, _, .cons r _, e => by simp at e; subst e; exact ⟨_, rfl, r⟩
  | _, _, i + 1, p, .cons _ t, e => by
    obtain ⟨v, h1, h2⟩ := RPs.get (i := i) (p := p) t (by simpa using e)
    exact ⟨v, by simpa using h1, h2⟩
theorem RPs.append : ∀ {xs ys : List PV} {us ws : List V}, RPs K mg H as xs us → RPs K mg H as ys ws → RPs K mg H as (xs ++ ys) (us ++ ws)
  | _, _, _, _, .nil, s => s
  | _, _, _, _, .cons r t, s => .cons r (RPs.append t s)
theorem RPs.take : ∀ {xs : List PV} {us : List V} (n : Nat), RPs K mg H as xs us → RPs K mg H as (xs.take n) (us.take n)
  | _, _, 0, _ => .nil
  | _, _, _ + 1, .nil => .nil
  | _, _, n + 1, .cons r t => .cons r (RPs.take n t)
theorem RPs.drop : ∀ {xs : List PV} {us : List V} (n : Nat), RPs K mg H as xs us → RPs K mg H as (xs.drop n) (us.drop n)
  | _, _, 0, r => r
  | _, _, _ + 1, .nil => .nil
  | _, _, n + 1, .cons _ t => RPs.drop n t
theorem RPs.set {x : PV} {u : V} (r : RP K mg H as x u) : ∀ {xs : List PV} {us : List V} (i : Nat), RPs K mg H as xs us → RPs K mg H as (xs.set i x) (us.set i u)
  | _, _, _, .nil => .nil
  | _, _, 0, .cons _ t => .cons r t
  | _, _, i + 1, .cons q t => .cons q (RPs.set r i t)
theorem RPs.one {p : PV} {v : V} (h : RP K mg H as p v) : RPs K mg H as [p] [v] := .cons h .nil
theorem RPs.inv1 {p : PV} {vs : List V} (h : RPs K mg H as [p] vs) : ∃ v, vs = [v] ∧ RP K mg H as p v := by
  cases h with | cons a b => cases b; exact ⟨_, rfl, a⟩
theorem RPs.inv2 {p q : PV} {vs : List V} (h : RPs K mg H as [p, q] vs) : ∃ v w, vs = [v, w] ∧ RP K mg H as p v ∧ RP K mg H as q w := by
  cases h with | cons a b => cases b with | cons b c => cases c; exact ⟨_, _, rfl, a, b⟩
theorem RPs.reverse {xs : List PV} {us : List V} (h : RPs K mg H as xs us) : RPs K mg H as xs.reverse us.reverse := by
  induction xs generalizing us with
  | nil => cases h; exact .nil
  | cons x r ih =>
    cases h with
    | cons a b =>
      rw [List.reverse_cons, List.reverse_cons]
      exact (ih b).append (.one a)
end

/-! ### how the small heap stands -/
/-- the code object of the def x, its table -/
def cdOf (K : PySem.W.Frag) (f : Addr) : Addr := match K.lookup f with
  | some ⟨_, _, .func fd, _⟩ => (match fd.code with
    | .ref c => c
    | _ => 0)
  | _ => 0
def tbOf (K : PySem.W.Frag) (c : Addr) : Addr := match K.lookup c with
  | some ⟨_, _, .fields vs, _⟩ => (match vs.getD 11 .none with
    | .ref P => P
    | _ => 0)
  | _ => 0
abbrev cdAt (K : PySem.W.Frag) (x : Str) : Addr := cdOf K (He.ga K x)
abbrev tbAt (K : PySem.W.Frag) (x : Str) : Addr := tbOf K (cdAt K x)
def lamQ (x : Str) : Str := x ++ ".<locals>." ++ "<lambda>"
def RO (K : PySem.W.Frag) (mg : Str → Option Value) (H : Hp) (as : List Addr) (a : Addr) : MO → Prop
  | .lst xs => ∃ ys, H a = some (.lst ys) ∧ RPs K mg H as xs ys
  | .ins c fs => ∃ C dx gs, mg c = some (.ref C) ∧ H a = some (.ins C dx gs) ∧ gs.map (·.1) = fs.map (·.1) ∧ RPs K mg H as (fs.map (·.2)) (gs.map (·.2))
  | .dks kvs => ∃ gs, H a = some (.dK gs) ∧ gs.map (·.1) = kvs.map (fun q => (Sum.inr q.1 : Key)) ∧ RPs K mg H as (kvs.map (·.2)) (gs.map (·.2))
  | .tbl x => a = tbAt K x ∧ ∃ ps : Array Value, H a = some (.tbl ps) ∧ TriplesOk ps.toList ∧ ∀ (pos : Pos) (cv : Value), codeAmong pos ps.toList = some cv → ∃ c, cv = .ref c ∧ H c = some (LamX.CodeO c (lamQ x)) ∧ c ∉ as
  | .dct kvs => ∃ gs, H a = some (.dT gs) ∧ gs.map (·.1) = kvs.map (fun q => q.1.map (Sum.inl : Int → Key)) ∧ RPs K mg H as (kvs.map (·.2)) (gs.map (·.2))
structure RH (K : PySem.W.Frag) (mg : Str → Option Value) (H : Hp) (as : List Addr) (h : IH) : Prop where
  len : as.length = h.length
  nd : as.Nodup
  at_ : ∀ (n : Nat) (o : MO), h[n]? = some o → ∃ a, as[n]? = some a ∧ RO K mg H as a o
structure RF (K : PySem.W.Frag) (mg : Str → Option Value) (H : Hp) (as : List Addr) (r : Fm) (s : L2.St) : Prop where
  len : r.length = s.length
  at_ : ∀ (i : Nat) (p : PV), r[i]? = some (some p) → ∃ v, s[i]? = some (some v) ∧ RP K mg H as p v
section
variable {K : PySem.W.Frag} {mg : Str → Option Value} {as as' : List Addr} {H H' : Hp} {h : IH} {r : Fm} {s : L2.St}
theorem RF.mono (S : Stp as H as' H') (f : RF K mg H as r s) : RF K mg H' as' r s := ⟨f.len, fun i p e => by
  obtain ⟨v, h1, h2⟩ := f.at_ i p e
  exact ⟨v, h1, h2.mono S⟩⟩
theorem RF.set {i : Nat} {p : PV} {v : V} (f : RF K mg H as r s) (hp : RP K mg H as p v) : RF K mg H as (r.set i (some p)) (s.set i (some v)) := by
  refine ⟨by simp [f.len], fun j q e => ?_⟩
  by_cases hj : j = i
  · subst hj
    by_cases hl : j < r.length
    · rw [List.getElem?_set_self hl] at e
      cases e
      exact ⟨v, List.getElem?_set_self (by rw [← f.len]; exact hl), hp⟩
    · rw [List.getElem?_eq_none (by simpa using hl)] at e; cases e
  · rw [List.getElem?_set_ne (Ne.symm hj)] at e
    rw [List.getElem?_set_ne (Ne.symm hj)]
    exact f.at_ j q e
theorem RO.isS {a : Addr} {o : MO} (x : RO K mg H as a o) : ∃ u, H a = some u := by
  cases o with
  | lst xs => obtain ⟨ys, e, _⟩ := x; exact ⟨_, e⟩
  | ins c fs => obtain ⟨C, dx, gs, _, e, _⟩ := x; exact ⟨_, e⟩
  | dct kvs => obtain ⟨gs, e, _⟩ := x; exact ⟨_, e⟩
  | dks kvs => obtain ⟨gs, e, _⟩ := x; exact ⟨_, e⟩
  | tbl y => obtain ⟨_, ps, e, _⟩ := x; exact ⟨_, e⟩
theorem RH.mem (x : RH K mg H as h) {a : Addr} (ha : a ∈ as) : H a ≠ none := by
  obtain ⟨n, hn, e⟩ := List.getElem_of_mem ha
  have hn' : n < h.length := by rw [← x.len]; exact hn
  obtain ⟨b, h1, h2⟩ := x.at_ n h[n] (by simp [hn'])
  rw [List.getElem?_eq_getElem hn] at h1
  have e2 : b = a := by rw [← e]; exact (Option.some.inj h1).symm
  subst e2
  obtain ⟨u, q⟩ := h2.isS
  rw [q]; simp
theorem RO.mono {a : Addr} {o : MO} (S : Stp as H as' H') (e : H' a = H a) (x : RO K mg H as a o) : RO K mg H' as' a o := by
  cases o with
  | lst xs => obtain ⟨ys, e1, r⟩ := x; exact ⟨ys, e.trans e1, r.mono S⟩
  | ins c fs => obtain ⟨C, dx, gs, e0, e1, e2, r⟩ := x; exact ⟨C, dx, gs, e0, e.trans e1, e2, r.mono S⟩
  | dct kvs => obtain ⟨gs, e1, e2, r⟩ := x; exact ⟨gs, e.trans e1, e2, r.mono S⟩
  | dks kvs => obtain ⟨gs, e1, e2, r⟩ := x; exact ⟨gs, e.trans e1, e2, r.mono S⟩
  | tbl y =>
    obtain ⟨ea, ps, e1, e2, e3⟩ := x
    refine ⟨ea, ps, e.trans e1, e2, fun pos cv hc => ?_⟩
    obtain ⟨c, e4, e5, e6⟩ := e3 pos cv hc
    refine ⟨c, e4, S.oth _ _ e5 e6, fun z => ?_⟩
    obtain ⟨more, em, hm⟩ := S.pre
    rw [em] at z
    rcases List.mem_append.mp z with z | z
    · exact e6 z
    · rw [hm _ z] at e5; cases e5
/-- something that is no object of ours is laid -/
theorem Stp.lay {p : Addr} {o : HO} (x : RH K mg H as h) (n : H p = none) : Stp as H as (upd H p o) :=
  ⟨⟨[], by simp, by simp⟩, fun b ys e => by rw [upd_ne (ne_of_none e n)]; exact e, fun b u v e => by rw [upd_ne (ne_of_none e n)]; exact e, fun b u e _ => by rw [upd_ne (ne_of_none e n)]; exact e, fun b e z => by
    by_cases hb : b = p
    · subst hb; exact e n
    · rw [upd_ne hb] at z; exact e z⟩
theorem RH.lay {p : Addr} {o : HO} (x : RH K mg H as h) (n : H p = none) : RH K mg (upd H p o) as h :=
  ⟨x.len, x.nd, fun m q e => by
    obtain ⟨a, h1, h2⟩ := x.at_ m q e
    obtain ⟨u, hu⟩ := h2.isS
    exact ⟨a, h1, h2.mono (Stp.lay x n) (upd_ne (ne_of_none hu n))⟩⟩
/-- a new object of ours -/
theorem Stp.new {p : Addr} {o : HO} (x : RH K mg H as h) (n : H p = none) : Stp as H (as ++ [p]) (upd H p o) := by
  have q := Stp.lay (o := o) x n
  exact ⟨⟨[p], rfl, fun b hb => by rw [List.mem_singleton.mp hb]; exact n⟩, q.tup, q.frz, q.oth, q.liv⟩
theorem RH.new {p : Addr} {o : HO} {m : MO} (x : RH K mg H as h) (n : H p = none) (hm : RO K mg (upd H p o) (as ++ [p]) p m) : RH K mg (upd H p o) (as ++ [p]) (h ++ [m]) := by
  refine ⟨by simp [x.len], ?_, fun k q e => ?_⟩
  · rw [List.nodup_append]
    refine ⟨x.nd, by simp, fun a ha b hb => ?_⟩
    rw [List.mem_singleton.mp hb]
    exact fun z => x.mem ha (by rw [z]; exact n)
  · by_cases hk : k < h.length
    · rw [List.getElem?_append_left hk] at e
      obtain ⟨a, h1, h2⟩ := x.at_ k q e
      obtain ⟨u, hu⟩ := h2.isS
      exact ⟨a, (Stp.new (o := o) x n).get h1, h2.mono (Stp.new x n) (upd_ne (ne_of_none hu n))⟩
    · rw [List.getElem?_append_right (by omega)] at e
      have e0 : k - h.length = 0 := by
        cases z : k - h.length with
        | zero => rfl
        | succ y => rw [z] at e; simp at e
      rw [e0] at e
      cases e
      refine ⟨p, ?_, hm⟩
      rw [List.getElem?_append_right (by rw [x.len]; omega), x.len, e0]
      rfl
/-- an object of ours is changed -/
def isMut : HO → Bool
  | .lst _ => true
  | .ins _ _ _ => true
  | .dT _ => true
  | .dK _ => true
  | .tbl _ => true
  | _ => false
theorem RO.isM {a : Addr} {o : MO} (x : RO K mg H as a o) : ∃ u, H a = some u ∧ isMut u = true := by
  cases o with
  | lst xs => obtain ⟨ys, e, _⟩ := x; exact ⟨_, e, rfl⟩
  | ins c fs => obtain ⟨C, dx, gs, _, e, _⟩ := x; exact ⟨_, e, rfl⟩
  | dct kvs => obtain ⟨gs, e, _⟩ := x; exact ⟨_, e, rfl⟩
  | dks kvs => obtain ⟨gs, e, _⟩ := x; exact ⟨_, e, rfl⟩
  | tbl y => obtain ⟨_, ps, e, _⟩ := x; exact ⟨_, e, rfl⟩
theorem Stp.put {n : Nat} {a : Addr} {o : HO} {q : MO} (x : RH K mg H as h) (ha : as[n]? = some a) (hq : h[n]? = some q) : Stp as H as (upd H a o) := by
  obtain ⟨b, h1, h2⟩ := x.at_ n q hq
  rw [ha] at h1; cases h1
  obtain ⟨u, hu, hm⟩ := h2.isM
  refine ⟨⟨[], by simp, by simp⟩, fun b ys e => ?_, fun b v w e => ?_, fun b v e hb => ?_, fun b e z => ?_⟩
  · rw [upd_ne (fun z => by rw [z, hu] at e; cases e; cases hm)]; exact e
  · rw [upd_ne (fun z => by rw [z, hu] at e; cases e; cases hm)]; exact e
  · rw [upd_ne (fun z => hb (by rw [z]; exact List.mem_of_getElem? ha))]; exact e
  · by_cases hb : b = a
    · subst hb; rw [upd_same] at z; cases z
    · rw [upd_ne hb] at z; exact e z
theorem RH.put {n : Nat} {a : Addr} {o : HO} {q m : MO} (x : RH K mg H as h) (ha : as[n]? = some a) (hq : h[n]? = some q) (hm : RO K mg (upd H a o) as a m) : RH K mg (upd H a o) as (h.set n m) := by
  refine ⟨by simp [x.len], x.nd, fun k p e => ?_⟩
  by_cases hk : k = n
  · subst hk
    have hl : k < h.length := (List.getElem?_eq_some_iff.mp hq).1
    rw [List.getElem?_set_self hl] at e
    cases e
    exact ⟨a, ha, hm⟩
  · rw [List.getElem?_set_ne (Ne.symm hk)] at e
    obtain ⟨b, h1, h2⟩ := x.at_ k p e
    have hne : b ≠ a := fun z => by
      subst z
      obtain ⟨l1, e1⟩ := List.getElem?_eq_some_iff.mp h1
      obtain ⟨l2, e2⟩ := List.getElem?_eq_some_iff.mp ha
      exact hk ((List.getElem_inj x.nd).mp (e1.trans e2.symm))
    exact ⟨b, h1, h2.mono (Stp.put x ha hq) (upd_ne hne)⟩
end
end WR

/-! the readings that the functional code gives, and the rules: statements, loops, names, calls -/
namespace WR
open PySem PySem.Spec PyProof.Rows L2

/-- how an exception stands -/
def RX (K : PySem.W.Frag) (mg : Str → Option Value) (H : Hp) (as : List Addr) (x : XV) (cls : Value) (d : Option Addr) : Prop :=
  ∃ C, mg x.cls = some (.ref C) ∧ cls = .ref C ∧ ((x.fs = [] ∧ d = none) ∨ ∃ dd gs, x.fs ≠ [] ∧ d = some dd ∧ H dd = some (.xd gs) ∧ dd ∉ as ∧ gs.map (·.1) = x.fs.map (·.1) ∧ RPs K mg H as (x.fs.map (·.2)) (gs.map (·.2)))
def Out {α β : Type} (K : PySem.W.Frag) (mg : Str → Option Value) (R : Hp → List Addr → α → β → Prop) (W : WX) (s : L2.St) (as : List Addr) (H : Hp) (Q : β → Hp → Prop) : Res α → Prop
  | .ok a h' => ∀ b H' as', Stp as H as' H' → RH K mg H' as' h' → R H' as' a b → Q b H'
  | .ex x h' => ∀ cls d H' as', Stp as H as' H' → RH K mg H' as' h' → RX K mg H' as' x cls d → W cls d s H'
  | .bad => False
section
variable {α β γ δ : Type} {K : PySem.W.Frag} {mg : Str → Option Value} {R : Hp → List Addr → α → β → Prop} {R' : Hp → List Addr → γ → δ → Prop} {W : WX} {s : L2.St} {as as' : List Addr} {H H' : Hp} {Q Q' : β → Hp → Prop}
theorem Out.shift {r : Res α} (S : Stp as H as' H') (o : Out K mg R W s as H Q r) : Out K mg R W s as' H' Q r := by
  cases r with
  | ok a h => exact fun b H1 as1 S1 R1 r1 => o b H1 as1 (S.trans S1) R1 r1
  | ex x h => exact fun c d H1 as1 S1 R1 r1 => o c d H1 as1 (S.trans S1) R1 r1
  | bad => exact o
theorem Out.imp {r : Res α} (o : Out K mg R W s as H Q r) (h : ∀ b H', Q b H' → Q' b H') : Out K mg R W s as H Q' r := by
  cases r with
  | ok a h' => exact fun b H1 as1 S1 R1 r1 => h _ _ (o b H1 as1 S1 R1 r1)
  | ex x h' => exact o
  | bad => exact o
theorem Out.bind {Q : δ → Hp → Prop} {r : Res α} {f : α → IH → Res γ} (o : Out K mg R' W s as H Q (r.bind f)) :
    Out K mg R W s as H (fun b H1 => ∃ as1 h1 a, Stp as H as1 H1 ∧ RH K mg H1 as1 h1 ∧ R H1 as1 a b ∧ Out K mg R' W s as1 H1 Q (f a h1)) r := by
  cases r with
  | ok a h => exact fun b H1 as1 S1 R1 r1 => ⟨as1, h, a, S1, R1, r1, o.shift S1⟩
  | ex x h => exact o
  | bad => exact o
theorem Out.here {a : α} {b : β} {h : IH} (o : Out K mg R W s as H Q (.ok a h)) (x : RH K mg H as h) (r : R H as a b) : Q b H := o b H as (Stp.refl as H) x r
end
/-- the reading of an expression, a test, a list of arguments, an iterator: by its functional code -/
def IG {α β : Type} (K : PySem.W.Frag) (mg : Str → Option Value) (R : Hp → List Addr → α → β → Prop) (W : WX) (A : Fm → IH → Res α) : L2.St → Hp → (β → Hp → Prop) → Prop :=
  fun s H Q => ∃ as r h, RF K mg H as r s ∧ RH K mg H as h ∧ Out K mg R W s as H Q (A r h)
abbrev IE (K : PySem.W.Frag) (mg : Str → Option Value) (W : WX) (A : EX) : TE := IG K mg (fun H as p v => RP K mg H as p v) W A
abbrev IT (K : PySem.W.Frag) (mg : Str → Option Value) (W : WX) (A : TX) : TT := IG K mg (fun _ _ p v => p = v) W A
abbrev IA (K : PySem.W.Frag) (mg : Str → Option Value) (W : WX) (A : AX) : TA := IG K mg (fun H as p v => RPs K mg H as p v) W A
def OutS (K : PySem.W.Frag) (mg : Str → Option Value) (W : WX) (as : List Addr) (H : Hp) (D : Ends) : RS → Prop
  | .nx r h => ∀ s' H' as', Stp as H as' H' → RH K mg H' as' h → RF K mg H' as' r s' → D.nx s' H'
  | .rt v h => ∀ V H' as', Stp as H as' H' → RH K mg H' as' h → RP K mg H' as' v V → D.rt V H'
  | .bk r h => ∀ s' H' as', Stp as H as' H' → RH K mg H' as' h → RF K mg H' as' r s' → D.bk s' H'
  | .ct r h => ∀ s' H' as', Stp as H as' H' → RH K mg H' as' h → RF K mg H' as' r s' → D.ct s' H'
  | .ex x r h => ∀ cls d s' H' as', Stp as H as' H' → RH K mg H' as' h → RF K mg H' as' r s' → RX K mg H' as' x cls d → W cls d s' H'
  | .bad => False
def IS (K : PySem.W.Frag) (mg : Str → Option Value) (W : WX) (B : SX) : TS := fun D s H => ∃ as r h, RF K mg H as r s ∧ RH K mg H as h ∧ OutS K mg W as H D (B r h)
section
variable {K : PySem.W.Frag} {mg : Str → Option Value} {W : WX} {as as' : List Addr} {H H' : Hp} {D D' : Ends}
theorem OutS.shift {r : RS} (S : Stp as H as' H') (o : OutS K mg W as H D r) : OutS K mg W as' H' D r := by
  cases r with
  | nx r h => exact fun b H1 as1 S1 => o b H1 as1 (S.trans S1)
  | rt r h => exact fun b H1 as1 S1 => o b H1 as1 (S.trans S1)
  | bk r h => exact fun b H1 as1 S1 => o b H1 as1 (S.trans S1)
  | ct r h => exact fun b H1 as1 S1 => o b H1 as1 (S.trans S1)
  | ex x r h => exact fun c d s H1 as1 S1 => o c d s H1 as1 (S.trans S1)
  | bad => exact o
end
/-! ### the code -/
@[simp] def eVar (i : Nat) : EX := fun r h => match r[i]? with
  | some (some v) => .ok v h
  | _ => .bad
@[simp] def eC (v : PV) : EX := fun _ h => .ok v h
@[simp] def aNil : AX := fun _ h => .ok [] h
@[simp] def aCons (A : EX) (B : AX) : AX := fun r h => (A r h).bind fun x h1 => (B r h1).bind fun xs h2 => .ok (x :: xs) h2
@[simp] def sNil : SX := fun r h => .nx r h
@[simp] def sSeq (B C : SX) : SX := fun r h => match B r h with
  | .nx r1 h1 => C r1 h1
  | o => o
/-- an expression's end as a statement's -/
@[simp] def toS {α : Type} (o : Res α) (r : Fm) (k : α → IH → RS) : RS := match o with
  | .ok a h => k a h
  | .ex x h => .ex x r h
  | .bad => .bad
@[simp] def sSet (i : Nat) (A : EX) : SX := fun r h => toS (A r h) r fun v h1 => .nx (r.set i (some v)) h1
@[simp] def sPar (i j : Nat) (A : AX) : SX := fun r h => toS (A r h) r fun vs h1 => match vs with
  | [v, w] => .nx ((r.set i (some v)).set j (some w)) h1
  | _ => .bad
@[simp] def sExpr (A : EX) : SX := fun r h => toS (A r h) r fun _ h1 => .nx r h1
@[simp] def sRet (A : EX) : SX := fun r h => toS (A r h) r fun v h1 => .rt v h1
@[simp] def sIf (c : TX) (B C : SX) : SX := fun r h => toS (c r h) r fun b h1 => if b then B r h1 else C r h1
@[simp] def sBad : SX := fun _ _ => .bad
@[simp] def sBreak : SX := fun r h => .bk r h
/-- a function: its body over the arguments and n empty places -/
@[simp] def fn (ps n : Nat) (B : SX) : List PV → IH → Res PV := fun us h => if us.length = ps then (match B (us.map some ++ List.replicate n none) h with
  | .nx _ h1 => .ok .non h1
  | .rt v h1 => .ok v h1
  | .ex x _ h1 => .ex x h1
  | _ => .bad) else .bad
@[simp] def eCall (F : List PV → IH → Res PV) (A : AX) : EX := fun r h => (A r h).bind F
def whileL (c : TX) (B : SX) : Nat → SX
  | 0 => fun _ _ => .bad
  | n + 1 => fun r h => toS (c r h) r fun b h1 => if b then (match B r h1 with
    | .nx r2 h2 => whileL c B n r2 h2
    | .ct r2 h2 => whileL c B n r2 h2
    | .bk r2 h2 => .nx r2 h2
    | o => o) else .nx r h1
/-- what a loop walks: at turn i it yields, it stops, or we do not know -/
abbrev ItF := Nat → IH → Option (Option PV)
abbrev TgF := PV → Fm → Option Fm
def forL (it : ItF) (g : TgF) (B : SX) : Nat → Nat → SX
  | 0, _ => fun _ _ => .bad
  | n + 1, i => fun r h => match it i h with
    | none => .bad
    | some none => .nx r h
    | some (some v) => (match g v r with
      | none => .bad
      | some r1 => (match B r1 h with
        | .nx r2 h2 => forL it g B n (i + 1) r2 h2
        | .ct r2 h2 => forL it g B n (i + 1) r2 h2
        | .bk r2 h2 => .nx r2 h2
        | o => o))
def LIM : Nat := 1048576
def sWhile (c : TX) (B : SX) : SX := whileL c B LIM
def sFor (I : Fm → IH → Res ItF) (g : TgF) (B : SX) : SX := fun r h => toS (I r h) r fun it h1 => forL it g B LIM 0 r h1
@[simp] def gVar (i : Nat) : TgF := fun v r => some (r.set i (some v))
@[simp] def setAll : List Nat → List PV → Fm → Option Fm
  | [], [], r => some r
  | i :: is, v :: vs, r => setAll is vs (r.set i (some v))
  | _, _, _ => none
@[simp] def gTupF (is : List Nat) : TgF := fun v r => match v with
  | .tup vs => setAll is vs r
  | _ => none
@[simp] def sAsgT (g : TgF) (A : EX) : SX := fun r h => toS (A r h) r fun v h1 => match g v r with
  | some r1 => .nx r1 h1
  | none => .bad

/-! ### the rules -/
/-- where the code runs -/
structure Ctx (X : Cx) (W : WX) (k : Nat) : Prop where
  tk : Takes X W
  po : PassesOwn (model X.prog X.w) X.A X.env X.xe
  calm : X.calm = true
  nd : X.N.Nodup
  room : Room k X.A
section
variable {X : Cx} {W : WX} {k : Nat} {e : Expr} {es : List Expr} {pos : Pos} {A : EX} {L : AX} {c : TX} {B C : SX} {st : Stmt} {sts : List Stmt}
theorem peImp {t t' : TE} (h : PE X e t) (hi : ∀ s H Q, t' s H Q → t s H Q) : PE X e t' := ⟨fun pins s σ H Q I q => h.run pins s σ H Q I (hi σ H Q q)⟩
theorem ptImp {t t' : TT} (h : PT X e t) (hi : ∀ s H Q, t' s H Q → t s H Q) : PT X e t' := ⟨fun pins s σ H Q I q => h.run pins s σ H Q I (hi σ H Q q)⟩
theorem paImp {t t' : TA} (h : PA X es t) (hi : ∀ s H Q, t' s H Q → t s H Q) : PA X es t' := ⟨fun pos pins s σ H Q I q => h.run pos pins s σ H Q I (hi σ H Q q)⟩
theorem psImp {t t' : TS} (h : PS X st t) (hi : ∀ D s H, t' D s H → t D s H) : PS X st t' := ⟨fun pins s σ H D I q => h.run pins s σ H D I (hi D σ H q)⟩
theorem pssImp {t t' : TS} (h : PSs X sts t) (hi : ∀ D s H, t' D s H → t D s H) : PSs X sts t' := ⟨fun pins s σ H D I q => h.run pins s σ H D I (hi D σ H q)⟩
theorem piImp {tg : Expr} {t t' : TI} (h : PI X tg e t) (hi : ∀ s H Q, t' s H Q → t s H Q) : PI X tg e t' := ⟨fun pins s σ H Q I q => h.run pins s σ H Q I (hi σ H Q q)⟩

theorem ie_var (i : Nat) {x : Str} (hN : X.N[i]? = some x := by rfl) (hv : Vis X.env.scope x := by first | exact Or.inl rfl | exact Or.inr (Or.inl rfl) | exact Or.inr (Or.inr rfl)) (hd : (x == ("__debug__" : Str)) = false := by decide)
    (hcd : (x == ("__classdict__" : Str)) = false := by decide) : PE X (.Name x pos) (IE X.K X.mg W (eVar i)) := by
  refine peImp (pe_var hN hv hd hcd) fun s H Q ⟨as, r, h, f, x, o⟩ => ?_
  unfold eVar at o
  split at o
  · rename_i v e1
    obtain ⟨V, e2, rv⟩ := f.at_ i v e1
    exact ⟨V, e2, o.here x rv⟩
  · exact o.elim
/-- a constant that is a plain value -/
theorem ie_const {V : V} {p : PV} (h : PE X e (tC V)) (r : ∀ H as, RP X.K X.mg H as p V) : PE X e (IE X.K X.mg W (eC p)) :=
  peImp h fun s H Q ⟨as, _, _, _, x, o⟩ => o.here x (r H as)
theorem ie_int {i j} : PE X (.Constant (.int i) j pos) (IE X.K X.mg W (eC (.int i))) := ie_const pe_int fun _ _ => .int i
theorem ie_bl {b j} : PE X (.Constant (.bool b) j pos) (IE X.K X.mg W (eC (.bl b))) := ie_const pe_bl fun _ _ => .bl b
theorem ie_non {j} : PE X (.Constant .none j pos) (IE X.K X.mg W (eC .non)) := ie_const pe_non fun _ _ => .non
theorem ie_str {x j} : PE X (.Constant (.str x) j pos) (IE X.K X.mg W (eC (.str x))) := ie_const pe_str fun _ _ => .str x
theorem ie_gint {x : Str} {i : Int} (hg : Gl X x) (hm : ∃ t, X.mg x = some (.int i t)) (hd : (x == ("__debug__" : Str)) = false := by decide) : PE X (.Name x pos) (IE X.K X.mg W (eC (.int i))) := by
  obtain ⟨t, hm⟩ := hm
  exact ie_const (pe_glob (v := .int i) hg hm ⟨t, rfl⟩ hd) fun _ _ => .int i
/-- a tuple of the top -/
theorem ie_gtup {x : Str} {a : Addr} {ys : List V} {ps : List PV} (hg : Gl X x) (hm : X.mg x = some (.ref a)) (hs : ∀ H, SqT X.K H a ys) (hp : ∀ H as, RPs X.K X.mg H as ps ys) (hd : (x == ("__debug__" : Str)) = false := by decide) : PE X (.Name x pos) (IE X.K X.mg W (eC (.tup ps))) :=
  ie_const (pe_glob (v := .ref a) hg hm rfl hd) fun H as => .tup (hs H) (hp H as)
/-- a def or class of the top as a value -/
theorem ie_glo {x : Str} {a : Addr} (hg : Gl X x) (hm : X.mg x = some (.ref a)) (hd : (x == ("__debug__" : Str)) = false := by decide) : PE X (.Name x pos) (IE X.K X.mg W (eC (.glo x))) :=
  ie_const (pe_glob (v := .ref a) hg hm rfl hd) fun H as => .glo hm rfl
/-- a built-in type as a value -/
theorem ie_ty {x : Str} {n : String} (hg : Gl X x) (hm : X.mg x = none) (hv : bootBuiltins x = some (.type n)) (hn : x ≠ "__name__" := by decide) (hd : (x == ("__debug__" : Str)) = false := by decide) : PE X (.Name x pos) (IE X.K X.mg W (eC (.ty n))) :=
  ie_const (pe_bltn (v := .ty n) hg hm hv rfl hn hd) fun _ _ => .ty n

theorem ia_nil : PA X [] (IA X.K X.mg W aNil) := paImp pa_nil fun s H Q ⟨as, _, _, _, x, o⟩ => o.here x RPs.nil
theorem ia_cons (ha : PE X e (IE X.K X.mg W A)) (hr : PA X es (IA X.K X.mg W L)) (hs : starEach (e :: es) X.env = (false, eval e X.env) :: starEach es X.env := by rfl) : PA X (e :: es) (IA X.K X.mg W (aCons A L)) := by
  refine paImp (pa_cons ha hr hs) fun s H Q ⟨as, r, h, f, x, o⟩ => ?_
  refine ⟨as, r, h, f, x, (Out.bind o).imp fun V H1 ⟨as1, h1, p, S1, x1, r1, o1⟩ => ?_⟩
  refine ⟨as1, r, h1, f.mono S1, x1, (Out.bind o1).imp fun Vs H2 ⟨as2, h2, ps, S2, x2, r2, o2⟩ => ?_⟩
  exact o2.here x2 (RPs.cons (r1.mono S2) r2)

theorem is_nil : PSs X [] (IS X.K X.mg W sNil) := pssImp pss_nil fun D s H ⟨as, r, h, f, x, o⟩ => o s H as (Stp.refl _ _) x f
theorem is_cons (h1 : PS X st (IS X.K X.mg W B)) (h2 : PSs X sts (IS X.K X.mg W C)) : PSs X (st :: sts) (IS X.K X.mg W (sSeq B C)) := by
  refine pssImp (pss_cons h1 h2) fun D s H ⟨as, r, h, f, x, o⟩ => ?_
  refine ⟨as, r, h, f, x, ?_⟩
  unfold sSeq at o
  cases q : B r h with
  | nx r1 h1 =>
    rw [q] at o
    exact fun s' H' as' S' x' f' => ⟨as', r1, h1, f', x', o.shift S'⟩
  | rt v h1 => rw [q] at o; exact o
  | bk r1 h1 => rw [q] at o; exact o
  | ct r1 h1 => rw [q] at o; exact o
  | ex z r1 h1 => rw [q] at o; exact o
  | bad => rw [q] at o; exact o
theorem is_one (h1 : PS X st (IS X.K X.mg W B)) : PSs X [st] (IS X.K X.mg W B) := pss_one h1
/-- from an expression's end to a statement's -/
theorem outS_of {α β : Type} {K : PySem.W.Frag} {mg : Str → Option Value} {R : Hp → List Addr → α → β → Prop} {s : L2.St} {as : List Addr} {H : Hp} {D : Ends} {o : Res α} {r : Fm} {kk : α → IH → RS} (f : RF K mg H as r s) (h : OutS K mg W as H D (toS o r kk)) :
    Out K mg R W s as H (fun b H1 => ∃ as1 h1 a, Stp as H as1 H1 ∧ RH K mg H1 as1 h1 ∧ R H1 as1 a b ∧ OutS K mg W as1 H1 D (kk a h1)) o := by
  cases o with
  | ok a h1 => exact fun b H1 as1 S1 R1 r1 => ⟨as1, h1, a, S1, R1, r1, OutS.shift S1 h⟩
  | ex z h1 => exact fun c d H1 as1 S1 R1 r1 => h c d s H1 as1 S1 R1 (f.mono S1) r1
  | bad => exact h
theorem is_set {i : Nat} {x : Str} {pos' : Pos} (cx : Ctx X W k) (he : PE X e (IE X.K X.mg W A)) (hi : X.N[i]? = some x := by rfl) (hx : Loc X.env.scope x := by first | exact Or.inl rfl | exact Or.inr rfl) (hs : swapsWith e (some (.Name x pos')) pos.line X.env = pure false := by rfl)
    (hf : X.fn x = true ∨ X.env.scope.names.lookup x = some .local := by first | exact .inl rfl | exact .inr rfl | assumption) : PS X (.Assign [.Name x pos'] e pos) (IS X.K X.mg W (sSet i A)) := by
  refine psImp (ps_set cx.nd hi hx he hs hf) fun D s H ⟨as, r, h, f, x, o⟩ => ?_
  refine ⟨as, r, h, f, x, (outS_of f o).imp fun V H1 ⟨as1, h1, p, S1, x1, r1, o1⟩ => ?_⟩
  exact o1 _ H1 as1 (Stp.refl _ _) x1 ((f.mono S1).set r1)
theorem is_par {i j : Nat} {x y : Str} {a b : Expr} {px py pt : Pos} {kt k2 pt2} (cx : Ctx X W k) (ha : PA X [a, b] (IA X.K X.mg W L)) (hij : i ≠ j := by decide) (hi : X.N[i]? = some x := by rfl) (hj : X.N[j]? = some y := by rfl)
    (hx : X.env.scope.names.lookup x = some .local := by rfl) (hy : X.env.scope.names.lookup y = some .local := by rfl)
    (hw : swappedStores [.Tuple [.Name x px, .Name y py] kt pt] (.Tuple [a, b] k2 pt2) X.env = pure (some [x, y]) := by rfl)
    (hs : swapsWithSole [.Tuple [.Name x px, .Name y py] kt pt] (.Tuple [a, b] k2 pt2) pos.line X.env = pure false := by rfl) :
    PS X (.Assign [.Tuple [.Name x px, .Name y py] kt pt] (.Tuple [a, b] k2 pt2) pos) (IS X.K X.mg W (sPar i j L)) := by
  refine psImp (ps_par cx.calm cx.nd hi hj hij hx hy ha hw hs) fun D s H ⟨as, r, h, f, x, o⟩ => ?_
  refine ⟨as, r, h, f, x, (outS_of f o).imp fun Vs H1 ⟨as1, h1, ps, S1, x1, r1, o1⟩ => ?_⟩
  split at o1
  · obtain ⟨v, w, e1, rv, rw'⟩ := RPs.inv2 r1
    exact ⟨v, w, e1, o1 _ H1 as1 (Stp.refl _ _) x1 (((f.mono S1).set rv).set rw')⟩
  · exact o1.elim
theorem is_expr (he : PE X e (IE X.K X.mg W A)) (hs : swapsWith e none pos.line X.env = pure false := by rfl) : PS X (.Expr e pos) (IS X.K X.mg W (sExpr A)) := by
  refine psImp (ps_expr he hs) fun D s H ⟨as, r, h, f, x, o⟩ => ?_
  refine ⟨as, r, h, f, x, (outS_of f o).imp fun V H1 ⟨as1, h1, p, S1, x1, r1, o1⟩ => ?_⟩
  exact o1 s H1 as1 (Stp.refl _ _) x1 (f.mono S1)
theorem is_ret (he : PE X e (IE X.K X.mg W A)) : PS X (.Return (some e) pos) (IS X.K X.mg W (sRet A)) := by
  refine psImp (ps_ret he) fun D s H ⟨as, r, h, f, x, o⟩ => ?_
  refine ⟨as, r, h, f, x, (outS_of f o).imp fun V H1 ⟨as1, h1, p, S1, x1, r1, o1⟩ => ?_⟩
  exact o1 V H1 as1 (Stp.refl _ _) x1 r1
theorem is_if {t : Expr} {a b : List Stmt} (hc : PT X t (IT X.K X.mg W c)) (ha : PSs X a (IS X.K X.mg W B)) (hb : PSs X b (IS X.K X.mg W C)) : PS X (.If t a b pos) (IS X.K X.mg W (sIf c B C)) := by
  refine psImp (ps_if hc ha hb) fun D s H ⟨as, r, h, f, x, o⟩ => ?_
  refine ⟨as, r, h, f, x, (outS_of f o).imp fun d H1 ⟨as1, h1, p, S1, x1, r1, o1⟩ => ?_⟩
  obtain rfl : p = d := r1
  cases p with
  | true => exact ⟨as1, r, h1, f.mono S1, x1, o1⟩
  | false => exact ⟨as1, r, h1, f.mono S1, x1, o1⟩
theorem is_bad : PS X st (IS X.K X.mg W sBad) := psImp ps_never fun D s H ⟨as, r, h, f, x, o⟩ => o
theorem is_break : PS X (.Break pos) (IS X.K X.mg W sBreak) := psImp ps_break fun D s H ⟨as, r, h, f, x, o⟩ => o s H as (Stp.refl _ _) x f

/-! ### loops -/
theorem is_while {t : Expr} {body : List Stmt} (cx : Ctx X W k) (hc : PT X t (IT X.K X.mg W c)) (hb : PSs X body (IS X.K X.mg W B)) : PS X (.While t body [] pos) (IS X.K X.mg W (sWhile c B)) := by
  refine psImp (ps_while cx.po hc hb) fun D s H ⟨as, r, h, f, x, o⟩ => ?_
  refine ⟨fun m s1 H1 => ∃ as1 r1 h1, RF X.K X.mg H1 as1 r1 s1 ∧ RH X.K X.mg H1 as1 h1 ∧ OutS X.K X.mg W as1 H1 D (whileL c B m r1 h1), ⟨LIM, as, r, h, f, x, o⟩, ?_⟩
  rintro m s1 H1 ⟨as1, r1, h1, f1, x1, o1⟩
  cases m with
  | zero => exact o1.elim
  | succ m =>
    refine ⟨as1, r1, h1, f1, x1, (outS_of f1 o1).imp fun d H2 ⟨as2, h2, p, S2, x2, e2, o2⟩ => ?_⟩
    obtain rfl : p = d := e2
    cases p with
    | false => exact o2 s1 H2 as2 (Stp.refl _ _) x2 (f1.mono S2)
    | true =>
      refine ⟨fun s3 H3 => ∃ as3 r3 h3, RF X.K X.mg H3 as3 r3 s3 ∧ RH X.K X.mg H3 as3 h3 ∧ OutS X.K X.mg W as3 H3 D (whileL c B m r3 h3), fun s3 H3 ⟨as3, r3, h3, f3, x3, o3⟩ => ⟨m, Nat.lt_succ_self m, as3, r3, h3, f3, x3, o3⟩, ?_⟩
      refine ⟨as2, r1, h2, f1.mono S2, x2, ?_⟩
      have o2' : OutS X.K X.mg W as2 H2 D (match B r1 h2 with
        | .nx r2 h2 => whileL c B m r2 h2
        | .ct r2 h2 => whileL c B m r2 h2
        | .bk r2 h2 => .nx r2 h2
        | o => o) := o2
      cases q : B r1 h2 with
      | nx r3 h3 => rw [q] at o2'; exact fun s' H' as' S' x' f' => ⟨as', r3, h3, f', x', o2'.shift S'⟩
      | ct r3 h3 => rw [q] at o2'; exact fun s' H' as' S' x' f' => ⟨as', r3, h3, f', x', o2'.shift S'⟩
      | bk r3 h3 => rw [q] at o2'; exact o2'
      | rt v h3 => rw [q] at o2'; exact o2'
      | ex z r3 h3 => rw [q] at o2'; exact o2'
      | bad => rw [q] at o2'; exact o2'
/-- the layer's walk J does what it says, from as, H on -/
def RI (K : PySem.W.Frag) (mg : Str → Option Value) (H : Hp) (as : List Addr) (it : ItF) (J : It) : Prop :=
  ∀ i as' H' h', Stp as H as' H' → RH K mg H' as' h' → match it i h' with
    | some (some v) => J.go i H' ∧ ∀ x H'', J.yld i H' x H'' → Stp as' H' as' H'' ∧ RH K mg H'' as' h' ∧ RP K mg H'' as' v x
    | some none => J.stop i H'
    | none => True
theorem RI.mono {K : PySem.W.Frag} {mg : Str → Option Value} {as as' : List Addr} {H H' : Hp} {it : ItF} {J : It} (S : Stp as H as' H') (q : RI K mg H as it J) : RI K mg H' as' it J := fun i a h z S' x => q i a h z (S.trans S') x
abbrev II (K : PySem.W.Frag) (mg : Str → Option Value) (W : WX) (A : Fm → IH → Res ItF) : TI := IG K mg (fun H as p v => RI K mg H as p v) W A
/-- a target -/
def GI (K : PySem.W.Frag) (mg : Str → Option Value) (g : TgF) : TG := fun v s H Q => ∃ as r p r1 h, RF K mg H as r s ∧ RH K mg H as h ∧ RP K mg H as p v ∧ g p r = some r1 ∧ ∀ s1, RF K mg H as r1 s1 → Q s1 H
theorem is_for {tg it : Expr} {body : List Stmt} {I : Fm → IH → Res ItF} {g : TgF} (cx : Ctx X W k) (hi : PI X tg it (II X.K X.mg W I)) (hg : PG X tg (GI X.K X.mg g)) (hb : PSs X body (IS X.K X.mg W B))
    (hs : ∀ x, foldedSetIterable it X.env x = pure x := by intro _; rfl) : PS X (.For tg it body [] pos) (IS X.K X.mg W (sFor I g B)) := by
  refine psImp (ps_for cx.po cx.calm hi hg hb hs) fun D s H ⟨as, r, h, f, x, o⟩ => ?_
  refine ⟨as, r, h, f, x, (outS_of f o).imp fun J H1 ⟨as1, h1, itf, S1, x1, ri, o1⟩ => ?_⟩
  refine ⟨fun i m s2 H2 => ∃ as2 r2 h2, RF X.K X.mg H2 as2 r2 s2 ∧ RH X.K X.mg H2 as2 h2 ∧ RI X.K X.mg H2 as2 itf J ∧ OutS X.K X.mg W as2 H2 D (forL itf g B m i r2 h2), ⟨LIM, as1, r, h1, f.mono S1, x1, ri, o1⟩, ?_⟩
  rintro i m s2 H2 ⟨as2, r2, h2, f2, x2, ri2, o2⟩
  cases m with
  | zero => exact o2.elim
  | succ m =>
    have z := ri2 i as2 H2 h2 (Stp.refl _ _) x2
    unfold forL at o2
    cases q : itf i h2 with
    | none => rw [q] at o2; exact o2.elim
    | some w =>
      rw [q] at z o2
      cases w with
      | none => exact .inl ⟨z, o2 s2 H2 as2 (Stp.refl _ _) x2 f2⟩
      | some v =>
        refine .inr ⟨z.1, fun s3 H3 => ∃ as3 r3 h3, RF X.K X.mg H3 as3 r3 s3 ∧ RH X.K X.mg H3 as3 h3 ∧ RI X.K X.mg H3 as3 itf J ∧ OutS X.K X.mg W as3 H3 D (forL itf g B m (i + 1) r3 h3),
          fun s3 H3 ⟨as3, r3, h3, f3, x3, ri3, o3⟩ => ⟨m, Nat.lt_succ_self m, as3, r3, h3, f3, x3, ri3, o3⟩, fun y H3 hy => ?_⟩
        obtain ⟨S3, x3, rv⟩ := z.2 y H3 hy
        have o2' : OutS X.K X.mg W as2 H2 D (match g v r2 with
          | none => .bad
          | some r1 => (match B r1 h2 with
            | .nx r2 h2 => forL itf g B m (i + 1) r2 h2
            | .ct r2 h2 => forL itf g B m (i + 1) r2 h2
            | .bk r2 h2 => .nx r2 h2
            | o => o)) := o2
        cases qg : g v r2 with
        | none => rw [qg] at o2'; exact o2'.elim
        | some r3 =>
          rw [qg] at o2'
          refine ⟨as2, r2, v, r3, h2, f2.mono S3, x3, rv, qg, fun s4 f4 => ⟨as2, r3, h2, f4, x3, ?_⟩⟩
          have o3 := OutS.shift S3 o2'
          cases qb : B r3 h2 with
          | nx r5 h5 => simp only [qb] at o3; exact fun s' H' as' S' x' f' => ⟨as', r5, h5, f', x', (ri2.mono S3).mono S', o3.shift S'⟩
          | ct r5 h5 => simp only [qb] at o3; exact fun s' H' as' S' x' f' => ⟨as', r5, h5, f', x', (ri2.mono S3).mono S', o3.shift S'⟩
          | bk r5 h5 => simp only [qb] at o3; exact o3
          | rt v h5 => simp only [qb] at o3; exact o3
          | ex z r5 h5 => simp only [qb] at o3; exact o3
          | bad => simp only [qb] at o3; exact o3

/-! ### targets -/
theorem pgImp {tg : Expr} {t t' : TG} (h : PG X tg t) (hi : ∀ v s H Q, t' v s H Q → t v s H Q) : PG X tg t' := ⟨fun pins s σ H v u Q I r q => h.run pins s σ H v u Q I r (hi v σ H Q q)⟩
theorem ig_name (i : Nat) {x : Str} (hN : X.N.Nodup) (hi : X.N[i]? = some x := by rfl) (hx : Loc X.env.scope x := by first | exact Or.inl rfl | exact Or.inr rfl) (hf : X.fn x = true ∨ X.env.scope.names.lookup x = some .local := by first | exact .inl rfl | exact .inr rfl | assumption) :
    PG X (.Name x pos) (GI X.K X.mg (gVar i)) := by
  refine pgImp (pg_name hN hi hx hf) fun v s H Q ⟨as, r, p, r1, h, f, x, rp, e, q⟩ => ?_
  cases e
  exact q _ (f.set rp)
/-- several names, one after the other -/
def GIs (K : PySem.W.Frag) (mg : Str → Option Value) (is : List Nat) : TGs := fun vs s H Q => ∃ as r ps r1, RF K mg H as r s ∧ RPs K mg H as ps vs ∧ setAll is ps r = some r1 ∧ ∀ s1, RF K mg H as r1 s1 → Q s1 H
theorem igs_nil : PGs X [] (GIs X.K X.mg []) := by
  refine ⟨fun pins s σ H vs us Q I r q => pgs_nil.run pins s σ H vs us Q I r ?_⟩
  obtain ⟨as, r, ps, r1, f, rp, e, q⟩ := q
  cases ps with
  | nil => cases rp; cases e; exact ⟨rfl, q _ f⟩
  | cons p ps => cases e
theorem igs_cons (i : Nat) {is : List Nat} {x : Str} (hN : X.N.Nodup) (h2 : PGs X es (GIs X.K X.mg is)) (hi : X.N[i]? = some x := by rfl) (hx : Loc X.env.scope x := by first | exact Or.inl rfl | exact Or.inr rfl) (hf : X.fn x = true ∨ X.env.scope.names.lookup x = some .local := by first | exact .inl rfl | exact .inr rfl | assumption)
    (hs : (assignEach (.Name x pos :: es) X.env).map (·.2) = assign (.Name x pos) X.env :: (assignEach es X.env).map (·.2) := by rfl) : PGs X (.Name x pos :: es) (GIs X.K X.mg (i :: is)) := by
  refine ⟨fun pins s σ H vs us Q I r q => (pgs_cons (pg_name (pos := pos) hN hi hx hf) h2 hs).run pins s σ H vs us Q I r ?_⟩
  obtain ⟨as, r, ps, r1, f, rp, e, q⟩ := q
  cases rp with
  | nil => cases e
  | cons a b => exact ⟨_, _, rfl, as, _, _, r1, f.set a, b, e, q⟩
theorem ig_tup {is : List Nat} {kk : Nat} (cx : Ctx X W k) (h : PGs X es (GIs X.K X.mg is)) (hl : is.length = es.length := by rfl) (hn : (assignEach es X.env).length = es.length := by rfl) (hst : (assignEach es X.env).findIdx? (·.1) = none := by rfl) :
    PG X (.Tuple es kk pos) (GI X.K X.mg (gTupF is)) := by
  refine pgImp (pg_tup cx.calm h hn hst) fun v s H Q ⟨as, r, p, r1, h, f, x, rp, e, q⟩ => ?_
  cases rp with
  | tup hs rs =>
    refine ⟨_, _, rfl, hs, ?_, as, r, _, r1, f, rs, e, q⟩
    rw [← rs.length, ← hl]
    have key : ∀ (is : List Nat) (ps : List PV) (r : Fm) (r1 : Fm), setAll is ps r = some r1 → ps.length = is.length := by
      intro is
      induction is with
      | nil => intro ps r r1 e; cases ps with
        | nil => rfl
        | cons _ _ => cases e
      | cons i is ih => intro ps r r1 e; cases ps with
        | nil => cases e
        | cons p ps => rw [List.length_cons, List.length_cons, ih ps _ _ e]
    exact key _ _ _ _ e
  | non => cases e
  | bl => cases e
  | int => cases e
  | str => cases e
  | fls => cases e
  | obj => cases e
  | glo => cases e
  | ty => cases e
  | key => cases e
/-- a, b = e, by a target -/
theorem is_asgT {tg : Expr} {g : TgF} (he : PE X e (IE X.K X.mg W A)) (hg : PG X tg (GI X.K X.mg g)) (hs : swapsWithSole [tg] e pos.line X.env = pure false := by rfl) (hw : swappedStores [tg] e X.env = pure none := by rfl)
    (h1 : (assignEach [tg] X.env).map (·.2) = [assign tg X.env] := by rfl) : PS X (.Assign [tg] e pos) (IS X.K X.mg W (sAsgT g A)) := by
  refine psImp (ps_asg he hg hs hw h1) fun D s H ⟨as, r, h, f, x, o⟩ => ?_
  refine ⟨as, r, h, f, x, (outS_of f o).imp fun V H1 ⟨as1, h1, p, S1, x1, r1, o1⟩ => ?_⟩
  cases qg : g p r with
  | none => simp only [qg] at o1; exact o1.elim
  | some r2 => simp only [qg] at o1; exact ⟨as1, r, p, r2, h1, f.mono S1, x1, r1, qg, fun s1 f1 => o1 s1 H1 as1 (Stp.refl _ _) x1 f1⟩

/-! ### calls of defs -/
/-- a def's promise, by its functional code -/
def SpF (K : PySem.W.Frag) (mg : Str → Option Value) (n : Nat) (F : List PV → IH → Res PV) : Sp := fun vs H Q E => ∃ as us h, us.length = n ∧ RPs K mg H as us vs ∧ RH K mg H as h ∧ Out K mg (fun H as p v => RP K mg H as p v) (fun c d _ H' => E c d H') [] as H Q (F us h)
theorem SpF.of {K : PySem.W.Frag} {mg : Str → Option Value} {n : Nat} {F : List PV → IH → Res PV} {s : L2.St} {us : List PV} {vs : List V} {as : List Addr} {H : Hp} {h : IH} {Q : VK} (x : RH K mg H as h) (rs : RPs K mg H as us vs) (hl : us.length = n)
    (o : Out K mg (fun H as p v => RP K mg H as p v) W s as H Q (F us h)) : SpF K mg n F vs H Q (WE W s) := by
  refine ⟨as, us, h, hl, rs, x, ?_⟩
  cases q : F us h with
  | ok a h1 => rw [q] at o; exact o
  | ex z h1 => rw [q] at o; exact o
  | bad => rw [q] at o; exact o
theorem ie_call {f : Addr} {fd : FuncData} {ps : List Str} {x : Str} {p : Pos} {F : List PV → IH → Res PV} {n : Nat} {j : Nat} (cx : Ctx X W k) (G : FnOk X.prog X.w X.K X.mg X.base (L2.CX X.prog X.w) j f fd ps (SpF X.K X.mg n F)) (hj : j ≤ k) (hm : X.mg x = some (.ref f)) (hk : PySem.W.keepIn X.K (.ref f) = true)
    (hb : Binds X.K fd ps []) (ha : PA X (e :: es) (IA X.K X.mg W L)) (hF : ∀ us h, us.length ≠ n → F us h = .bad) (hg : Gl X x := by rfl) (hdb : (x == ("__debug__" : Str)) = false := by decide) (he : starEach (e :: es) X.env = (false, eval e X.env) :: starEach es X.env := by rfl) (hpl : (backTo pos (starEach es X.env)).any (·.1) = false := by rfl) :
    PE X (.Call (.Name x p) (e :: es) [] pos) (IE X.K X.mg W (eCall F L)) := by
  refine peImp (pe_callS G (cx.room.mono hj) hg hm hk hb (fun s => passAt cx.tk s) ha hdb he hpl) fun s H Q ⟨as, r, h, f, x, o⟩ => ?_
  refine ⟨as, r, h, f, x, (Out.bind o).imp fun Vs H1 ⟨as1, h1, us, S1, x1, r1, o1⟩ => ?_⟩
  refine SpF.of x1 r1 ?_ o1
  by_cases hn : us.length = n
  · exact hn
  · rw [hF us h1 hn] at o1; exact o1.elim
theorem ie_call0 {f : Addr} {fd : FuncData} {ps : List Str} {x : Str} {p : Pos} {F : List PV → IH → Res PV} {j : Nat} (cx : Ctx X W k) (G : FnOk X.prog X.w X.K X.mg X.base (L2.CX X.prog X.w) j f fd ps (SpF X.K X.mg 0 F)) (hj : j ≤ k) (hm : X.mg x = some (.ref f)) (hk : PySem.W.keepIn X.K (.ref f) = true)
    (hb : Binds X.K fd ps []) (hg : Gl X x := by rfl) (hdb : (x == ("__debug__" : Str)) = false := by decide) :
    PE X (.Call (.Name x p) [] [] pos) (IE X.K X.mg W (eCall F aNil)) := by
  have base : PE X (.Call (.Name x p) [] [] pos) (tCallS (SpF X.K X.mg 0 F) (WE W) tNil) := by
    refine ⟨fun pins s σ H Q I h => ?_⟩
    refine wpAny_Call_Name_kw (ld_glob I hg hm ?_ hdb)
    exact PySem.W.callWith_K0 I.kIn hk (run_fnS (us := []) G (cx.room.mono hj) hb (passAt cx.tk σ) I .nil h)
  refine peImp base fun s H Q ⟨as, r, h, f, x, o⟩ => ?_
  exact SpF.of x RPs.nil rfl o
theorem fn_bad {ps n : Nat} {B : SX} (us : List PV) (h : IH) (hl : us.length ≠ ps) : fn ps n B us h = .bad := if_neg hl
end
/-- what a def wishes of exceptions -/
def WD (E : XK) : WX := fun c d _ H => E c d H
theorem cdOf_eq {K : PySem.W.Frag} {f : Addr} {oc : Value} {od : Option Addr} {fd : FuncData} {osl : Array (Option Value)} {qual : Str} (l : K.lookup f = some ⟨oc, od, .func fd, osl⟩) (c : PySem.W.codeIn K fd.code qual = true) : fd.code = .ref (cdOf K f) := by
  unfold cdOf
  rw [l]
  unfold PySem.W.codeIn at c
  simp only
  split at c
  · rename_i c' e
    rw [e]
  · cases c
/-- a def by its body -/
theorem ok_of {P : Program} {w : World} {K : PySem.W.Frag} {mg : Str → Option Value} {base : Heap} {x qual : Str} {st : Stmt} {f : Addr} {fd : FuncData} {N ps : List Str} {k : Nat} {B : SX} (F : Fun K x qual st f fd) (S : FnScope N ps (defScope st)) (m : Nat) (hm : N.length = ps.length + m)
    (body : ∀ (cdv : Value), cdv = .ref (cdOf K f) → ∀ (A : Around) (outer : List Env) (s : Shared) (H : Hp) (E : XK), Ctx (cxOf (L2.CX P w) P w K mg base N qual (defScope st) f cdv A outer s H E) (WD E) k →
      PSs (cxOf (L2.CX P w) P w K mg base N qual (defScope st) f cdv A outer s H E) (defBody st) (IS K mg (WD E) B)) :
    FnOk P w K mg base (L2.CX P w) (k + 1) f fd ps (SpF K mg ps.length (fn ps.length m B)) := by
  obtain ⟨oc, od, kV, doc, pm, an, cdv, ct, osl, rfl, lk, hcd⟩ := F.ex
  have hcv : cdv = .ref (cdOf K f) := cdOf_eq lk hcd
  refine fn_of lk hcd S (fun vs H Q E h => ?_) (fun A outer s H vs Q E hr h => ?_)
  · obtain ⟨as, us, h, hl, rs, _⟩ := h
    rw [← rs.length, hl]
  · obtain ⟨as, us, h, hl, rs, x, o⟩ := h
    refine ⟨_, body cdv hcv A outer s H E ⟨takes_of rfl rfl rfl rfl, passes_of rfl, rfl, S.nd, hr⟩, ?_⟩
    refine ⟨as, us.map some ++ List.replicate m none, h, ⟨?_, fun i p e => ?_⟩, x, ?_⟩
    · unfold L2.start
      rw [List.length_append, List.length_append, List.length_map, List.length_map, List.length_replicate, List.length_replicate, rs.length]
      have := rs.length
      omega
    · by_cases hi : i < us.length
      · rw [List.getElem?_append_left (by simpa using hi), List.getElem?_map] at e
        cases q : us[i]? with
        | none => rw [q] at e; cases e
        | some p' =>
          rw [q] at e
          cases e
          obtain ⟨v, h1, h2⟩ := rs.get q
          refine ⟨v, ?_, h2⟩
          unfold L2.start
          rw [List.getElem?_append_left (by rw [List.length_map, ← rs.length]; exact hi), List.getElem?_map, h1]
          rfl
      · rw [List.getElem?_append_right (by simpa using hi), List.getElem?_replicate] at e
        split at e <;> cases e
    · unfold fn at o
      rw [if_pos hl] at o
      cases q : B (us.map some ++ List.replicate m none) h with
      | nx r1 h1 => rw [q] at o; exact fun s' H' as' S' x' f' => o .non H' as' S' x' .non
      | rt v h1 => rw [q] at o; exact o
      | ex z r1 h1 => rw [q] at o; exact fun c d s' H' as' S' x' f' rx => o c d H' as' S' x' rx
      | bk r1 h1 => rw [q] at o; exact (show False from o).elim
      | ct r1 h1 => rw [q] at o; exact (show False from o).elim
      | bad => rw [q] at o; exact o
end WR

/-! operators, tests, displays, subscripts, built-ins -/
namespace WR
open PySem PySem.Spec PyProof.Rows L2

/-! ### the code -/
@[simp] def eOp (p : PV → PV → IH → Res PV) (A B : EX) : EX := fun r h => (A r h).bind fun x h1 => (B r h1).bind fun y h2 => p x y h2
@[simp] def eUn (p : PV → IH → Res PV) (A : EX) : EX := fun r h => (A r h).bind p
@[simp] def eB (p : List PV → IH → Res PV) (L : AX) : EX := fun r h => (L r h).bind p
@[simp] def opt {α : Type} (o : Option α) (h : IH) : Res α := match o with
  | some a => .ok a h
  | none => .bad
@[simp] def mkL (xs : List PV) (h : IH) : Res PV := if xs.length ≤ 16777216 then .ok (.obj h.length) (h ++ [.lst xs]) else .bad
@[simp] def pAdd : PV → PV → IH → Res PV
  | .int i, .int j, h => .ok (.int (i + j)) h
  | .str a, .str b, h => if a.length + b.length ≤ 16777216 then .ok (.str (a ++ b)) h else .bad
  | .tup xs, .tup ys, h => if xs.length + ys.length ≤ 16777216 then .ok (.tup (xs ++ ys)) h else .bad
  | .obj m, .obj n, h => (match h[m]?, h[n]? with
    | some (.lst xs), some (.lst ys) => if xs.length + ys.length ≤ 16777216 then .ok (.obj h.length) (h ++ [.lst (xs ++ ys)]) else .bad
    | _, _ => .bad)
  | _, _, _ => .bad
@[simp] def pSub : PV → PV → IH → Res PV
  | .int i, .int j, h => .ok (.int (i - j)) h
  | _, _, _ => .bad
def mulOk (i j : Int) : Bool := decide (i.natAbs < 18446744073709551616) || decide (j.natAbs < 18446744073709551616) || decide (i.natAbs.log2 + j.natAbs.log2 < 1000000)
@[simp] def pMul : PV → PV → IH → Res PV
  | .int i, .int j, h => if mulOk i j then .ok (.int (i * j)) h else .bad
  | _, _, _ => .bad
@[simp] def pDiv : PV → PV → IH → Res PV
  | .int i, .int j, h => if 0 < j ∧ j.natAbs.log2 < 9000 then .ok (.int (i / j)) h else .bad
  | _, _, _ => .bad
@[simp] def pMod : PV → PV → IH → Res PV
  | .int i, .int j, h => if 0 < j then .ok (.int (i % j)) h else .bad
  | _, _, _ => .bad
@[simp] def pPow : PV → PV → IH → Res PV
  | .int i, .int j, h => if 0 ≤ j ∧ j ≤ 1000000 ∧ i.natAbs < 18446744073709551616 then .ok (.int (i ^ j.toNat)) h else .bad
  | _, _, _ => .bad
@[simp] def pNeg : PV → IH → Res PV
  | .int i, h => .ok (.int (-i)) h
  | _, _ => .bad
@[simp] def pCI (f : Int → Int → Bool) : PV → PV → IH → Res PV
  | .int i, .int j, h => .ok (.bl (f i j)) h
  | _, _, _ => .bad
abbrev pLt := pCI fun i j => decide (i < j)
abbrev pLe := pCI fun i j => decide (i ≤ j)
abbrev pGt := pCI fun i j => decide (j < i)
abbrev pGe := pCI fun i j => decide (j ≤ i)
@[simp] def isN : PV → Bool
  | .non => true
  | _ => false
@[simp] def pIsN : PV → PV → IH → Res PV
  | x, .non, h => (match x with
    | .glo _ => .bad
    | _ => .ok (.bl (isN x)) h)
  | _, _, _ => .bad
@[simp] def pNotN : PV → PV → IH → Res PV
  | x, .non, h => (match x with
    | .glo _ => .bad
    | _ => .ok (.bl (!isN x)) h)
  | _, _, _ => .bad
/-- data as the library has it -/
def optAll {α β : Type} (f : α → Option β) : List α → Option (List β)
  | [] => some []
  | x :: xs => (match f x, optAll f xs with
    | some y, some ys => some (y :: ys)
    | _, _ => none)
def dataOf : Nat → IH → PV → Option PyData
  | _, _, .non => some .none
  | _, _, .bl b => some (.bool b)
  | _, _, .int i => some (.int i)
  | _, _, .str x => some (.str x)
  | _, _, .key ks => some (.tuple (ks.map .int))
  | n + 1, h, .tup xs => (optAll (dataOf n h) xs).map .tuple
  | n + 1, h, .fls xs => (optAll (dataOf n h) xs).map .list
  | n + 1, h, .obj k => (match h[k]? with
    | some (.lst xs) => (optAll (dataOf n h) xs).map .list
    | _ => none)
  | _, _, _ => none
def DEP : Nat := 12
def pEqB (x y : PV) (h : IH) : Option Bool := match dataOf DEP h x, dataOf DEP h y with
  | some d, some e => if SeqAt.shaped d && SeqAt.shaped e then some (PyData.eqv d e) else none
  | _, _ => none
@[simp] def pEq (x y : PV) (h : IH) : Res PV := opt ((pEqB x y h).map .bl) h
@[simp] def pNe (x y : PV) (h : IH) : Res PV := opt ((pEqB x y h).map fun b => .bl (!b)) h
@[simp] def pIdx : PV → PV → IH → Res PV
  | .tup xs, .int i, h => opt (atI xs i) h
  | .fls xs, .int i, h => opt (atI xs i) h
  | .str z, .int i, h => if z.length ≤ 16777216 then opt ((atI z.cps.toList i).map fun c => .str ⟨#[c]⟩) h else .bad
  | .obj n, .int i, h => (match h[n]? with
    | some (.lst xs) => opt (atI xs i) h
    | _ => .bad)
  | _, _, _ => .bad
def cutA {α : Type} (xs : List α) (lo hi : Option Int) : List α := (xs.drop (HT.sIx xs.length 0 lo)).take (HT.sIx xs.length xs.length hi - HT.sIx xs.length 0 lo)
abbrev OX := Fm → IH → Res (Option Int)
@[simp] def oNone : OX := fun _ h => .ok none h
@[simp] def oSome (A : EX) : OX := fun r h => (A r h).bind fun v h1 => match v with
  | .int i => .ok (some i) h1
  | _ => .bad
@[simp] def pSl : PV → Option Int → Option Int → IH → Res PV
  | .tup xs, lo, hi, h => .ok (.tup (cutA xs lo hi)) h
  | .obj n, lo, hi, h => (match h[n]? with
    | some (.lst xs) => .ok (.obj h.length) (h ++ [.lst (cutA xs lo hi)])
    | _ => .bad)
  | _, _, _, _ => .bad
@[simp] def eSl (A : EX) (l u : OX) : EX := fun r h => (A r h).bind fun x h1 => (l r h1).bind fun lo h2 => (u r h2).bind fun hi h3 => pSl x lo hi h3
@[simp] def eTup (L : AX) : EX := fun r h => (L r h).bind fun xs h1 => if xs.length ≤ 16777216 then .ok (.tup xs) h1 else .bad
@[simp] def eLst (L : AX) : EX := fun r h => (L r h).bind mkL
@[simp] def pTru : PV → IH → Option Bool
  | .non, _ => some false
  | .bl b, _ => some b
  | .int i, _ => some (i != 0)
  | .str y, _ => if y.length ≤ 16777216 then some ((y.length : Int) != 0) else none
  | .tup xs, _ => some !xs.isEmpty
  | .fls xs, _ => some !xs.isEmpty
  | .obj n, h => (match h[n]? with
    | some (.lst xs) => some !xs.isEmpty
    | _ => none)
  | _, _ => none
@[simp] def tTru (A : EX) : TX := fun r h => (A r h).bind fun v h1 => opt (pTru v h1) h1
@[simp] def tBl (A : EX) : TX := fun r h => (A r h).bind fun v h1 => match v with
  | .bl b => .ok b h1
  | _ => .bad
@[simp] def tAndX (c d : TX) : TX := fun r h => (c r h).bind fun b h1 => if b then d r h1 else .ok false h1
@[simp] def tOrX (c d : TX) : TX := fun r h => (c r h).bind fun b h1 => if b then .ok true h1 else d r h1
@[simp] def tNotX (c : TX) : TX := fun r h => (c r h).bind fun b h1 => .ok (!b) h1
@[simp] def eAnd (A B : EX) : EX := fun r h => (A r h).bind fun v h1 => match v with
  | .bl b => if b then B r h1 else .ok (.bl false) h1
  | _ => .bad
@[simp] def eOr (A B : EX) : EX := fun r h => (A r h).bind fun v h1 => match v with
  | .bl b => if b then .ok (.bl true) h1 else B r h1
  | _ => .bad
@[simp] def eNot (A : EX) : EX := fun r h => (A r h).bind fun v h1 => opt ((pTru v h1).map fun b => .bl (!b)) h1
@[simp] def eIf (c : TX) (A B : EX) : EX := fun r h => (c r h).bind fun b h1 => if b then A r h1 else B r h1
@[simp] def eChain (p q : PV → PV → IH → Res PV) (A B C : EX) : EX := fun r h => (A r h).bind fun x h1 => (B r h1).bind fun y h2 => (p x y h2).bind fun v h3 => match v with
  | .bl b => if b then (C r h3).bind fun z h4 => q y z h4 else .ok (.bl false) h3
  | _ => .bad

/-! ### what each asks of the layer -/
section
variable {X : Cx} {W : WX} {k : Nat} {a b e : Expr} {es : List Expr} {pos : Pos} {A B C : EX} {L : AX} {c d : TX}
def Snd (K : PySem.W.Frag) (mg : Str → Option Value) (p : PV → PV → IH → Res PV) (r : R2) : Prop :=
  ∀ {W : WX} {s : L2.St} {as : List Addr} {H : Hp} {h : IH} {x y : PV} {U V : V} {Q : VK}, RH K mg H as h → RP K mg H as x U → RP K mg H as y V → Out K mg (fun H as p v => RP K mg H as p v) W s as H Q (p x y h) → r U V H Q
def SndC (K : PySem.W.Frag) (mg : Str → Option Value) (p : List PV → IH → Res PV) (r : List V → Hp → VK → Prop) : Prop :=
  ∀ {W : WX} {s : L2.St} {as : List Addr} {H : Hp} {h : IH} {xs : List PV} {Us : List V} {Q : VK}, RH K mg H as h → RPs K mg H as xs Us → Out K mg (fun H as p v => RP K mg H as p v) W s as H Q (p xs h) → r Us H Q
theorem tOp_of {p : PV → PV → IH → Res PV} {r : R2} {ta tb : TE} (hp : Snd X.K X.mg p r) {s : L2.St} {H : Hp} {Q : VK} (h : IE X.K X.mg W (eOp p A B) s H Q) : tOp r (IE X.K X.mg W A) (IE X.K X.mg W B) s H Q := by
  obtain ⟨as, ρ, hh, f, x, o⟩ := h
  refine ⟨as, ρ, hh, f, x, (Out.bind o).imp fun V H1 ⟨as1, h1, p1, S1, x1, r1, o1⟩ => ?_⟩
  refine ⟨as1, ρ, h1, f.mono S1, x1, (Out.bind o1).imp fun U H2 ⟨as2, h2, p2, S2, x2, r2, o2⟩ => ?_⟩
  exact hp x2 (r1.mono S2) r2 o2
theorem ie_op {op : Operator} {p : PV → PV → IH → Res PV} {r : R2} (ho : OpR X (binaryOp op) r) (hp : Snd X.K X.mg p r) (ha : PE X a (IE X.K X.mg W A)) (hb : PE X b (IE X.K X.mg W B)) : PE X (.BinOp a op b pos) (IE X.K X.mg W (eOp p A B)) :=
  peImp (pe_op ho ha hb) fun _ _ _ h => tOp_of (ta := IE X.K X.mg W A) (tb := IE X.K X.mg W B) hp h
theorem ie_cmp {op : CmpOp} {p : PV → PV → IH → Res PV} {r : R2} (ho : OpR X (compareOp op) r) (hp : Snd X.K X.mg p r) (ha : PE X a (IE X.K X.mg W A)) (hb : PE X b (IE X.K X.mg W B)) (hm : behindInMarks op b = false) : PE X (.Compare a [op] [b] pos) (IE X.K X.mg W (eOp p A B)) :=
  peImp (pe_cmpR ho ha hb hm) fun _ _ _ h => tOp_of (ta := IE X.K X.mg W A) (tb := IE X.K X.mg W B) hp h
theorem tTest_of {t : TE} {s : L2.St} {H : Hp} {Q : Bool → Hp → Prop} (ht : ∀ Q', IE X.K X.mg W A s H Q' → t s H Q') (h : IT X.K X.mg W (tBl A) s H Q) : tTest t s H Q := by
  obtain ⟨as, ρ, hh, f, x, o⟩ := h
  refine ht _ ⟨as, ρ, hh, f, x, (Out.bind o).imp fun V H1 ⟨as1, h1, p1, S1, x1, r1, o1⟩ => ?_⟩
  cases r1 with
  | bl q => exact ⟨q, rfl, o1.here x1 rfl⟩
  | non => exact o1.elim
  | int => exact o1.elim
  | str => exact o1.elim
  | tup => exact o1.elim
  | fls => exact o1.elim
  | obj => exact o1.elim
  | glo => exact o1.elim
  | ty => exact o1.elim
  | key => exact o1.elim
theorem it_cmp {op : CmpOp} {p : PV → PV → IH → Res PV} {r : R2} (ho : OpR X (compareOp op) r) (hp : Snd X.K X.mg p r) (ha : PE X a (IE X.K X.mg W A)) (hb : PE X b (IE X.K X.mg W B)) (hm : behindInMarks op b = false) : PT X (.Compare a [op] [b] pos) (IT X.K X.mg W (tBl (eOp p A B))) :=
  ptImp (pt_cmpR ho ha hb hm) fun _ _ _ h => tTest_of (fun Q' h => tOp_of (ta := IE X.K X.mg W A) (tb := IE X.K X.mg W B) hp h) h
theorem tru_of {v : PV} {V : V} {as : List Addr} {H : Hp} {h : IH} {q : Bool} (x : RH X.K X.mg H as h) (r : RP X.K X.mg H as v V) (e : pTru v h = some q) : TruV X.K V H q := by
  cases r with
  | non => cases e; rfl
  | bl b => cases e; rfl
  | int i => cases e; rfl
  | str y =>
    simp only [pTru] at e
    split at e
    · rename_i hl
      cases e
      exact ⟨by rw [sizeLine_eq]; exact hl, rfl⟩
    · cases e
  | tup hs rs =>
    cases e
    refine .inr (.inl ⟨_, hs, ?_⟩)
    cases rs <;> rfl
  | fls hs rs =>
    cases e
    refine .inl ⟨_, hs.sq, ?_⟩
    cases rs <;> rfl
  | obj ha =>
    simp only [pTru] at e
    split at e
    · rename_i xs hx
      obtain ⟨a, h1, ys, h2, rs⟩ := x.at_ _ _ hx
      rw [ha] at h1; cases h1
      cases e
      refine .inl ⟨_, SqL.of h2, ?_⟩
      cases rs <;> rfl
    · cases e
  | glo => cases e
  | ty => cases e
  | key => cases e
theorem it_tru (ha : PE X a (IE X.K X.mg W A)) (he : ∀ whole, isTrue a X.env whole = (do let v ← whole; standAt a.pos; holding [v] (truthy v)) := by intro _; rfl) : PT X a (IT X.K X.mg W (tTru A)) := by
  refine ptImp (pt_truth ha he) fun s H Q ⟨as, ρ, hh, f, x, o⟩ => ?_
  refine ⟨as, ρ, hh, f, x, (Out.bind o).imp fun V H1 ⟨as1, h1, p1, S1, x1, r1, o1⟩ => ?_⟩
  cases q : pTru p1 h1 with
  | none => rw [q] at o1; exact o1.elim
  | some z => rw [q] at o1; exact ⟨z, tru_of x1 r1 q, o1.here x1 rfl⟩
theorem it_not (ha : PT X a (IT X.K X.mg W c)) : PT X (.UnaryOp .Not a pos) (IT X.K X.mg W (tNotX c)) := by
  refine ptImp (pt_not ha) fun s H Q ⟨as, ρ, hh, f, x, o⟩ => ?_
  refine ⟨as, ρ, hh, f, x, (Out.bind o).imp fun V H1 ⟨as1, h1, p1, S1, x1, r1, o1⟩ => ?_⟩
  obtain rfl : p1 = V := r1
  exact o1.here x1 rfl
/-- and, or as tests: lists of at least two -/
theorem iw_and1 (ha : PT X a (IT X.K X.mg W c)) : PW X (.BoolOp .And [a] pos) (IT X.K X.mg W c) := pw_and1 ha
theorem iw_or1 (ha : PT X a (IT X.K X.mg W c)) : PW X (.BoolOp .Or [a] pos) (IT X.K X.mg W c) := pw_or1 ha
theorem pwImp {t t' : TT} (h : PW X e t) (hi : ∀ s H Q, t' s H Q → t s H Q) : PW X e t' := ⟨fun wh pins s σ H Q I q => h.run wh pins s σ H Q I (hi σ H Q q)⟩
theorem iw_and {rest : List Expr} (ha : PT X a (IT X.K X.mg W c)) (hb : PW X (.BoolOp .And (b :: rest) pos) (IT X.K X.mg W d)) : PW X (.BoolOp .And (a :: b :: rest) pos) (IT X.K X.mg W (tAndX c d)) := by
  refine pwImp (pw_and ha hb) fun s H Q ⟨as, ρ, hh, f, x, o⟩ => ?_
  refine ⟨as, ρ, hh, f, x, (Out.bind o).imp fun V H1 ⟨as1, h1, p1, S1, x1, r1, o1⟩ => ?_⟩
  obtain rfl : p1 = V := r1
  cases p1 with
  | true => exact ⟨as1, ρ, h1, f.mono S1, x1, o1⟩
  | false => exact o1.here x1 rfl
theorem iw_or {rest : List Expr} (ha : PT X a (IT X.K X.mg W c)) (hb : PW X (.BoolOp .Or (b :: rest) pos) (IT X.K X.mg W d)) : PW X (.BoolOp .Or (a :: b :: rest) pos) (IT X.K X.mg W (tOrX c d)) := by
  refine pwImp (pw_or ha hb) fun s H Q ⟨as, ρ, hh, f, x, o⟩ => ?_
  refine ⟨as, ρ, hh, f, x, (Out.bind o).imp fun V H1 ⟨as1, h1, p1, S1, x1, r1, o1⟩ => ?_⟩
  obtain rfl : p1 = V := r1
  cases p1 with
  | false => exact ⟨as1, ρ, h1, f.mono S1, x1, o1⟩
  | true => exact o1.here x1 rfl
theorem ie_one {op} (h : PE X a (IE X.K X.mg W A)) : PE X (.BoolOp op [a] pos) (IE X.K X.mg W A) := pe_one h
theorem ie_and {rest : List Expr} (ha : PE X a (IE X.K X.mg W A)) (hb : PE X (.BoolOp .And (b :: rest) pos) (IE X.K X.mg W B)) : PE X (.BoolOp .And (a :: b :: rest) pos) (IE X.K X.mg W (eAnd A B)) := by
  refine peImp (pe_and ha hb) fun s H Q ⟨as, ρ, hh, f, x, o⟩ => ?_
  refine ⟨as, ρ, hh, f, x, (Out.bind o).imp fun V H1 ⟨as1, h1, p1, S1, x1, r1, o1⟩ => ?_⟩
  cases r1 with
  | bl q =>
    refine ⟨q, rfl, ?_⟩
    cases q with
    | true => exact ⟨as1, ρ, h1, f.mono S1, x1, o1⟩
    | false => exact o1.here x1 (.bl false)
  | non => exact o1.elim
  | int => exact o1.elim
  | str => exact o1.elim
  | tup => exact o1.elim
  | fls => exact o1.elim
  | obj => exact o1.elim
  | glo => exact o1.elim
  | ty => exact o1.elim
  | key => exact o1.elim
theorem ie_or {rest : List Expr} (ha : PE X a (IE X.K X.mg W A)) (hb : PE X (.BoolOp .Or (b :: rest) pos) (IE X.K X.mg W B)) : PE X (.BoolOp .Or (a :: b :: rest) pos) (IE X.K X.mg W (eOr A B)) := by
  refine peImp (pe_or ha hb) fun s H Q ⟨as, ρ, hh, f, x, o⟩ => ?_
  refine ⟨as, ρ, hh, f, x, (Out.bind o).imp fun V H1 ⟨as1, h1, p1, S1, x1, r1, o1⟩ => ?_⟩
  cases r1 with
  | bl q =>
    refine ⟨q, rfl, ?_⟩
    cases q with
    | false => exact ⟨as1, ρ, h1, f.mono S1, x1, o1⟩
    | true => exact o1.here x1 (.bl true)
  | non => exact o1.elim
  | int => exact o1.elim
  | str => exact o1.elim
  | tup => exact o1.elim
  | fls => exact o1.elim
  | obj => exact o1.elim
  | glo => exact o1.elim
  | ty => exact o1.elim
  | key => exact o1.elim
theorem ie_not (ha : PE X a (IE X.K X.mg W A)) : PE X (.UnaryOp .Not a pos) (IE X.K X.mg W (eNot A)) := by
  refine peImp (pe_notT ha) fun s H Q ⟨as, ρ, hh, f, x, o⟩ => ?_
  refine ⟨as, ρ, hh, f, x, (Out.bind o).imp fun V H1 ⟨as1, h1, p1, S1, x1, r1, o1⟩ => ?_⟩
  cases q : pTru p1 h1 with
  | none => rw [q] at o1; exact o1.elim
  | some z => rw [q] at o1; exact ⟨z, tru_of x1 r1 q, o1.here x1 (.bl _)⟩
theorem ie_if (hc : PT X e (IT X.K X.mg W c)) (ha : PE X a (IE X.K X.mg W A)) (hb : PE X b (IE X.K X.mg W B)) : PE X (.IfExp e a b pos) (IE X.K X.mg W (eIf c A B)) := by
  refine peImp (pe_ifExp hc ha hb) fun s H Q ⟨as, ρ, hh, f, x, o⟩ => ?_
  refine ⟨as, ρ, hh, f, x, (Out.bind o).imp fun V H1 ⟨as1, h1, p1, S1, x1, r1, o1⟩ => ?_⟩
  obtain rfl : p1 = V := r1
  cases p1 with
  | true => exact ⟨as1, ρ, h1, f.mono S1, x1, o1⟩
  | false => exact ⟨as1, ρ, h1, f.mono S1, x1, o1⟩
/-! ### the numbers -/
theorem snd_add {K : PySem.W.Frag} {mg : Str → Option Value} : Snd K mg pAdd (fun x y H Q => (rI0 fun i j => .int (i + j)) x y H Q ∨ (∃ i j, x = .str i ∧ y = .str j ∧ i.length + j.length ≤ sizeLine ∧ Q (.str (i ++ j)) H) ∨ rCatA K x y H Q ∨ rCat x y H Q) := by
  intro W s as H h x y U V Q rh rx ry o
  unfold pAdd at o
  split at o
  · cases rx; cases ry; exact .inl ⟨_, _, rfl, rfl, o.here rh (.int _)⟩
  · cases rx; cases ry
    split at o
    · rename_i hl
      exact .inr (.inl ⟨_, _, rfl, rfl, by rw [sizeLine_eq]; exact hl, o.here rh (.str _)⟩)
    · exact o.elim
  · split at o
    · rename_i hl
      cases rx with
      | tup h1 r1 =>
        cases ry with
        | tup h2 r2 =>
          refine .inr (.inr (.inl ⟨_, _, _, _, rfl, rfl, h1, h2, by rw [sizeLine_eq, ← r1.length, ← r2.length]; exact hl, fun e => ?_, fun _ e => ?_, fun _ _ p np => ?_⟩))
          · subst e
            cases r1
            exact o.here rh (.tup h2 r2)
          · subst e
            cases r2
            rw [List.append_nil] at o
            exact o.here rh (.tup h1 r1)
          · exact o _ _ as (Stp.lay rh np) (rh.lay np) (.tup (SqT.of upd_same) ((r1.append r2).mono (Stp.lay rh np)))
    · exact o.elim
  · cases rx with
    | obj ha =>
      cases ry with
      | obj hb =>
        split at o
        · rename_i xs ys hx hy
          split at o
          · rename_i hl
            obtain ⟨a1, e1, us, g1, r1⟩ := rh.at_ _ _ hx
            obtain ⟨a2, e2, ws, g2, r2⟩ := rh.at_ _ _ hy
            rw [ha] at e1; cases e1
            rw [hb] at e2; cases e2
            refine .inr (.inr (.inr ⟨_, _, us, ws, rfl, rfl, g1, g2, by rw [sizeLine_eq, ← r1.length, ← r2.length]; exact hl, fun p np => ?_⟩))
            have S := Stp.new (o := .lst (us ++ ws)) rh np
            refine o _ _ _ S (rh.new np ⟨_, upd_same, (r1.append r2).mono S⟩) (.obj ?_)
            rw [List.getElem?_append_right (by rw [rh.len]; exact Nat.le_refl _), rh.len, Nat.sub_self]
            rfl
          · exact o.elim
        · exact o.elim
  · exact o.elim
theorem snd_sub {K : PySem.W.Frag} {mg : Str → Option Value} : Snd K mg pSub (rI0 fun i j => .int (i - j)) := by
  intro W s as H h x y U V Q rh rx ry o
  unfold pSub at o
  split at o
  · cases rx; cases ry; exact ⟨_, _, rfl, rfl, o.here rh (.int _)⟩
  · exact o.elim
theorem CMul.of {i : Int} (h : i.natAbs < 18446744073709551616) : -(2 ^ 64) < i ∧ i < 2 ^ 64 := by
  have e : (2 : Int) ^ 64 = 18446744073709551616 := by decide
  rw [e]
  omega
theorem snd_mul {K : PySem.W.Frag} {mg : Str → Option Value} : Snd K mg pMul (fun x y H Q => (rI CMul fun i j => .int (i * j)) x y H Q ∨ (rI CMulW fun i j => .int (i * j)) x y H Q) := by
  intro W s as H h x y U V Q rh rx ry o
  unfold pMul at o
  split at o
  · cases rx; cases ry
    split at o
    · rename_i i j hm
      have q := o.here rh (.int (i * j))
      unfold mulOk at hm
      rcases Bool.or_eq_true_iff.mp hm with hm | hm
      · rcases Bool.or_eq_true_iff.mp hm with hm | hm
        · exact .inl ⟨_, _, rfl, rfl, .inl (CMul.of (of_decide_eq_true hm)), q⟩
        · exact .inl ⟨_, _, rfl, rfl, .inr (CMul.of (of_decide_eq_true hm)), q⟩
      · have hm' : i.natAbs.log2 + j.natAbs.log2 < 1000000 := of_decide_eq_true hm
        exact .inr ⟨_, _, rfl, rfl, hm', q⟩
    · exact o.elim
  · exact o.elim
theorem snd_div {K : PySem.W.Frag} {mg : Str → Option Value} : Snd K mg pDiv (rI CDivW fun i j => .int (i / j)) := by
  intro W s as H h x y U V Q rh rx ry o
  unfold pDiv at o
  split at o
  · cases rx; cases ry
    split at o
    · rename_i hm
      exact ⟨_, _, rfl, rfl, hm, o.here rh (.int _)⟩
    · exact o.elim
  · exact o.elim
theorem snd_mod {K : PySem.W.Frag} {mg : Str → Option Value} : Snd K mg pMod (rI (fun _ j => 0 < j) fun i j => .int (i % j)) := by
  intro W s as H h x y U V Q rh rx ry o
  unfold pMod at o
  split at o
  · cases rx; cases ry
    split at o
    · rename_i hm
      exact ⟨_, _, rfl, rfl, hm, o.here rh (.int _)⟩
    · exact o.elim
  · exact o.elim
theorem snd_pow {K : PySem.W.Frag} {mg : Str → Option Value} : Snd K mg pPow (rI CPow fun i j => .int (i ^ j.toNat)) := by
  intro W s as H h x y U V Q rh rx ry o
  unfold pPow at o
  split at o
  · cases rx; cases ry
    split at o
    · rename_i hm
      exact ⟨_, _, rfl, rfl, hm, o.here rh (.int _)⟩
    · exact o.elim
  · exact o.elim
theorem ie_add (ha : PE X a (IE X.K X.mg W A)) (hb : PE X b (IE X.K X.mg W B)) : PE X (.BinOp a .Add b pos) (IE X.K X.mg W (eOp pAdd A B)) := ie_op (op_add.or (op_add_str.or (op_catA.or op_cat))) snd_add ha hb
theorem ie_sub (ha : PE X a (IE X.K X.mg W A)) (hb : PE X b (IE X.K X.mg W B)) : PE X (.BinOp a .Sub b pos) (IE X.K X.mg W (eOp pSub A B)) := ie_op op_sub snd_sub ha hb
theorem ie_mul (ha : PE X a (IE X.K X.mg W A)) (hb : PE X b (IE X.K X.mg W B)) : PE X (.BinOp a .Mult b pos) (IE X.K X.mg W (eOp pMul A B)) := ie_op (op_mul.or op_mulW) snd_mul ha hb
theorem ie_div (ha : PE X a (IE X.K X.mg W A)) (hb : PE X b (IE X.K X.mg W B)) : PE X (.BinOp a .FloorDiv b pos) (IE X.K X.mg W (eOp pDiv A B)) := ie_op op_fdivW snd_div ha hb
theorem ie_mod (ha : PE X a (IE X.K X.mg W A)) (hb : PE X b (IE X.K X.mg W B)) : PE X (.BinOp a .Mod b pos) (IE X.K X.mg W (eOp pMod A B)) := ie_op op_mod snd_mod ha hb
theorem ie_pow (ha : PE X a (IE X.K X.mg W A)) (hb : PE X b (IE X.K X.mg W B)) : PE X (.BinOp a .Pow b pos) (IE X.K X.mg W (eOp pPow A B)) := ie_op op_pow snd_pow ha hb
theorem ie_neg (ha : PE X a (IE X.K X.mg W A)) : PE X (.UnaryOp .USub a pos) (IE X.K X.mg W (eUn pNeg A)) := by
  refine peImp (pe_un un_neg ha) fun s H Q ⟨as, ρ, hh, f, x, o⟩ => ?_
  refine ⟨as, ρ, hh, f, x, (Out.bind o).imp fun V H1 ⟨as1, h1, p1, S1, x1, r1, o1⟩ => ?_⟩
  unfold pNeg at o1
  split at o1
  · cases r1; exact ⟨_, rfl, o1.here x1 (.int _)⟩
  · exact o1.elim
theorem snd_ci {K : PySem.W.Frag} {mg : Str → Option Value} {g : Int → Int → Bool} : Snd K mg (pCI g) (rI0 fun i j => .bl (g i j)) := by
  intro W s as H h x y U V Q rh rx ry o
  unfold pCI at o
  split at o
  · cases rx; cases ry; exact ⟨_, _, rfl, rfl, o.here rh (.bl _)⟩
  · exact o.elim
theorem isN_of {K : PySem.W.Frag} {mg : Str → Option Value} {as : List Addr} {H : Hp} {x : PV} {U : V} (r : RP K mg H as x U) (hg : ∀ z, x ≠ .glo z) : isN x = decide (U = .non) := by
  cases r with
  | glo => exact absurd rfl (hg _)
  | _ => rfl
theorem snd_isn {K : PySem.W.Frag} {mg : Str → Option Value} : Snd K mg pIsN (fun x y H Q => y = .non ∧ Q (.bl (decide (x = .non))) H) := by
  intro W s as H h x y U V Q rh rx ry o
  unfold pIsN at o
  split at o
  · cases ry
    split at o
    · exact o.elim
    · rename_i hg
      refine ⟨rfl, ?_⟩
      rw [← isN_of rx fun z e => hg z e]
      exact o.here rh (.bl _)
  · exact o.elim
theorem snd_notn {K : PySem.W.Frag} {mg : Str → Option Value} : Snd K mg pNotN (fun x y H Q => y = .non ∧ Q (.bl (!decide (x = .non))) H) := by
  intro W s as H h x y U V Q rh rx ry o
  unfold pNotN at o
  split at o
  · cases ry
    split at o
    · exact o.elim
    · rename_i hg
      refine ⟨rfl, ?_⟩
      rw [← isN_of rx fun z e => hg z e]
      exact o.here rh (.bl _)
  · exact o.elim
/-! ### data -/
theorem dpAll {K : PySem.W.Frag} {mg : Str → Option Value} {as : List Addr} {H : Hp} {g : PV → Option PyData} (hg : ∀ p v d, RP K mg H as p v → g p = some d → Dp K H v d) : ∀ {ps : List PV} {vs : List V} {ds : List PyData}, RPs K mg H as ps vs → optAll g ps = some ds → DpAll K H vs ds := by
  intro ps
  induction ps with
  | nil => intro vs ds r e; cases r; cases e; exact .nil
  | cons p ps ih =>
    intro vs ds r e
    cases r with
    | cons a b =>
      unfold optAll at e
      split at e
      · rename_i y ys e1 e2
        cases e
        exact .cons (hg _ _ _ a e1) (ih b e2)
      · cases e
theorem dp_ints {K : PySem.W.Frag} {H : Hp} : ∀ ks : List Int, DpAll K H (ks.map V.int) (ks.map PyData.int)
  | [] => .nil
  | k :: r => .cons (.int k) (dp_ints r)
theorem dp_of {K : PySem.W.Frag} {mg : Str → Option Value} {as : List Addr} {H : Hp} {h : IH} (x : RH K mg H as h) : ∀ (n : Nat) (p : PV) (v : V) (d : PyData), RP K mg H as p v → dataOf n h p = some d → Dp K H v d := by
  intro n
  induction n with
  | zero =>
    intro p v d r e
    cases r with
    | non => simp only [dataOf] at e; cases e; exact .non
    | bl b => simp only [dataOf] at e; cases e; exact .bl b
    | int i => simp only [dataOf] at e; cases e; exact .int i
    | str y => simp only [dataOf] at e; cases e; exact .str y
    | tup => simp only [dataOf] at e; cases e
    | fls => simp only [dataOf] at e; cases e
    | obj => simp only [dataOf] at e; cases e
    | glo => simp only [dataOf] at e; cases e
    | ty => simp only [dataOf] at e; cases e
    | key h => simp only [dataOf] at e; cases e; exact .tup (SqT.of h) (dp_ints _)
  | succ n ih =>
    intro p v d r e
    cases r with
    | non => simp only [dataOf] at e; cases e; exact .non
    | bl b => simp only [dataOf] at e; cases e; exact .bl b
    | int i => simp only [dataOf] at e; cases e; exact .int i
    | str y => simp only [dataOf] at e; cases e; exact .str y
    | tup hs rs =>
      simp only [dataOf, Option.map_eq_some_iff] at e
      obtain ⟨ds, e1, rfl⟩ := e
      exact .tup hs (dpAll ih rs e1)
    | fls hs rs =>
      simp only [dataOf, Option.map_eq_some_iff] at e
      obtain ⟨ds, e1, rfl⟩ := e
      exact .lst hs.sq (dpAll ih rs e1)
    | obj ha =>
      simp only [dataOf] at e
      split at e
      · rename_i xs hx
        obtain ⟨a, h1, ys, h2, rs⟩ := x.at_ _ _ hx
        rw [ha] at h1; cases h1
        rw [Option.map_eq_some_iff] at e
        obtain ⟨ds, e1, rfl⟩ := e
        exact .lst (SqL.of h2) (dpAll ih rs e1)
      · cases e
    | glo => simp only [dataOf] at e; cases e
    | ty => simp only [dataOf] at e; cases e
    | key h => simp only [dataOf] at e; cases e; exact .tup (SqT.of h) (dp_ints _)
theorem eqB_of {K : PySem.W.Frag} {mg : Str → Option Value} {as : List Addr} {H : Hp} {h : IH} {x y : PV} {U V : V} {q : Bool} (rh : RH K mg H as h) (rx : RP K mg H as x U) (ry : RP K mg H as y V) (e : pEqB x y h = some q) :
    ∃ d e, Dp K H U d ∧ Dp K H V e ∧ SeqAt.shaped d = true ∧ SeqAt.shaped e = true ∧ PyData.eqv d e = q := by
  unfold pEqB at e
  split at e
  · rename_i d1 d2 e1 e2
    split at e
    · rename_i hs
      obtain ⟨s1, s2⟩ := Bool.and_eq_true_iff.mp hs
      cases e
      exact ⟨d1, d2, dp_of rh _ _ _ _ rx e1, dp_of rh _ _ _ _ ry e2, s1, s2, rfl⟩
    · cases e
  · cases e
theorem snd_eq {K : PySem.W.Frag} {mg : Str → Option Value} : Snd K mg pEq (rEqD K) := by
  intro W s as H h x y U V Q rh rx ry o
  unfold pEq at o
  cases q : pEqB x y h with
  | none => rw [q] at o; exact o.elim
  | some z =>
    rw [q] at o
    obtain ⟨d, e, h1, h2, h3, h4, rfl⟩ := eqB_of rh rx ry q
    exact ⟨d, e, h1, h2, h3, h4, o.here rh (.bl _)⟩
theorem snd_ne {K : PySem.W.Frag} {mg : Str → Option Value} : Snd K mg pNe (rNeD K) := by
  intro W s as H h x y U V Q rh rx ry o
  unfold pNe at o
  cases q : pEqB x y h with
  | none => rw [q] at o; exact o.elim
  | some z =>
    rw [q] at o
    obtain ⟨d, e, h1, h2, h3, h4, rfl⟩ := eqB_of rh rx ry q
    exact ⟨d, e, h1, h2, h3, h4, o.here rh (.bl _)⟩
/-! ### subscripts -/
theorem RPs.atI {K : PySem.W.Frag} {mg : Str → Option Value} {as : List Addr} {H : Hp} {ps : List PV} {vs : List V} {i : Int} {p : PV} (r : RPs K mg H as ps vs) (e : L2.atI ps i = some p) : ∃ v, L2.atI vs i = some v ∧ RP K mg H as p v := by
  unfold L2.atI at e ⊢
  rw [← r.length]
  cases q : ixN ps.length i with
  | none => rw [q] at e; cases e
  | some j =>
    rw [q] at e
    exact r.get e
theorem snd_idx {K : PySem.W.Frag} {mg : Str → Option Value} : Snd K mg pIdx (rIx K) := by
  intro W s as H h x y U V Q rh rx ry o
  unfold pIdx at o
  split at o
  · cases rx with
    | tup hs rs =>
      cases ry
      unfold opt at o
      split at o
      · rename_i p e
        obtain ⟨v, e1, r1⟩ := rs.atI e
        exact .inr (.inl ⟨_, _, _, v, rfl, rfl, hs, e1, o.here rh r1⟩)
      · exact o.elim
  · cases rx with
    | fls hs rs =>
      cases ry
      unfold opt at o
      split at o
      · rename_i p e
        obtain ⟨v, e1, r1⟩ := rs.atI e
        exact .inl ⟨_, _, _, v, rfl, rfl, hs.sq, e1, o.here rh r1⟩
      · exact o.elim
  · cases rx
    cases ry
    split at o
    · rename_i hl
      unfold opt at o
      split at o
      · rename_i p e
        rw [Option.map_eq_some_iff] at e
        obtain ⟨c, e1, rfl⟩ := e
        exact .inr (.inr ⟨_, _, c, rfl, rfl, by rw [sizeLine_eq]; exact hl, e1, o.here rh (.str _)⟩)
      · exact o.elim
    · exact o.elim
  · cases rx with
    | obj ha =>
      cases ry
      split at o
      · rename_i xs hx
        obtain ⟨a, h1, ys, h2, rs⟩ := rh.at_ _ _ hx
        rw [ha] at h1; cases h1
        unfold opt at o
        split at o
        · rename_i p e
          obtain ⟨v, e1, r1⟩ := rs.atI e
          exact .inl ⟨_, _, _, v, rfl, rfl, SqL.of h2, e1, o.here rh r1⟩
        · exact o.elim
      · exact o.elim
  · exact o.elim
theorem ie_idx (ha : PE X a (IE X.K X.mg W A)) (hb : PE X b (IE X.K X.mg W B)) (hs : PlainIx b := by intro _ _; rfl) : PE X (.Subscript a b pos) (IE X.K X.mg W (eOp pIdx A B)) :=
  peImp (pe_ix ix_seq ha hb hs) fun _ _ _ h => tOp_of (ta := IE X.K X.mg W A) (tb := IE X.K X.mg W B) snd_idx h
abbrev IO (K : PySem.W.Frag) (mg : Str → Option Value) (W : WX) (A : OX) : TO := IG K mg (fun _ _ p v => p = v) W A
theorem poImp {oe : Option Expr} {t t' : TO} (h : PO X oe t) (hi : ∀ s H Q, t' s H Q → t s H Q) : PO X oe t' := ⟨fun pins s σ H Q I q => h.run pins s σ H Q I (hi σ H Q q)⟩
theorem io_none : PO X none (IO X.K X.mg W oNone) := poImp po_none fun s H Q ⟨as, ρ, hh, f, x, o⟩ => o.here x rfl
theorem io_some (h : PE X e (IE X.K X.mg W A)) : PO X (some e) (IO X.K X.mg W (oSome A)) := by
  refine poImp (po_some h) fun s H Q ⟨as, ρ, hh, f, x, o⟩ => ?_
  refine ⟨as, ρ, hh, f, x, (Out.bind o).imp fun V H1 ⟨as1, h1, p1, S1, x1, r1, o1⟩ => ?_⟩
  split at o1
  · cases r1; exact ⟨_, rfl, o1.here x1 rfl⟩
  · exact o1.elim
theorem RPs.cut {K : PySem.W.Frag} {mg : Str → Option Value} {as : List Addr} {H : Hp} {ps : List PV} {vs : List V} {lo hi : Option Int} (r : RPs K mg H as ps vs) : RPs K mg H as (cutA ps lo hi) (cutV vs lo hi) := by
  unfold cutA cutV
  rw [← r.length]
  exact (r.drop _).take _
theorem ie_sl {lo hi : Option Expr} {p2 : Pos} {l u : OX} (he : PE X e (IE X.K X.mg W A)) (hl : PO X lo (IO X.K X.mg W l)) (hu : PO X hi (IO X.K X.mg W u)) : PE X (.Subscript e (.Slice lo hi none p2) pos) (IE X.K X.mg W (eSl A l u)) := by
  refine peImp (pe_slice (sl_tupA.or sl_list) he hl hu) fun s H Q ⟨as, ρ, hh, f, x, o⟩ => ?_
  refine ⟨as, ρ, hh, f, x, (Out.bind o).imp fun V H1 ⟨as1, h1, p1, S1, x1, r1, o1⟩ => ?_⟩
  refine ⟨as1, ρ, h1, f.mono S1, x1, (Out.bind o1).imp fun lo' H2 ⟨as2, h2, p2, S2, x2, r2, o2⟩ => ?_⟩
  refine ⟨as2, ρ, h2, (f.mono S1).mono S2, x2, (Out.bind o2).imp fun hi' H3 ⟨as3, h3, p3, S3, x3, r3, o3⟩ => ?_⟩
  obtain rfl : p2 = lo' := r2
  obtain rfl : p3 = hi' := r3
  have r1' := (r1.mono S2).mono S3
  unfold pSl at o3
  split at o3
  · cases r1' with
    | tup hs rs =>
      refine .inl ⟨_, _, rfl, hs, fun hw => ?_, fun _ p np => ?_⟩
      · have e : ∀ {α : Type} (l : List α), HT.sIx l.length 0 p2 = 0 ∧ HT.sIx l.length l.length p3 = l.length → cutA l p2 p3 = l := fun l z => by
          unfold cutA
          rw [z.1, z.2]
          simp
        rw [← rs.length] at hw
        rw [e _ hw] at o3
        exact o3.here x3 (.tup hs rs)
      · exact o3 _ _ as3 (Stp.lay x3 np) (x3.lay np) (.tup (SqT.of upd_same) (rs.cut.mono (Stp.lay x3 np)))
  · cases r1' with
    | obj ha =>
      split at o3
      · rename_i xs hx
        obtain ⟨a, g1, ys, g2, rs⟩ := x3.at_ _ _ hx
        rw [ha] at g1; cases g1
        refine .inr ⟨_, _, rfl, SqL.of g2, fun p np => ?_⟩
        have S := Stp.new (o := .lst (cutV ys p2 p3)) x3 np
        refine o3 _ _ _ S (x3.new np ⟨_, upd_same, rs.cut.mono S⟩) (.obj ?_)
        rw [List.getElem?_append_right (by rw [x3.len]; exact Nat.le_refl _), x3.len, Nat.sub_self]
        rfl
      · exact o3.elim
  · exact o3.elim
/-! ### displays -/
theorem ie_tup {x1} (h : PA X es (IA X.K X.mg W L)) : PE X (.Tuple es x1 pos) (IE X.K X.mg W (eTup L)) := by
  refine peImp (pe_tup h) fun s H Q ⟨as, ρ, hh, f, x, o⟩ => ?_
  refine ⟨as, ρ, hh, f, x, (Out.bind o).imp fun Vs H1 ⟨as1, h1, p1, S1, x1, r1, o1⟩ => ?_⟩
  split at o1
  · rename_i hl
    refine ⟨by rw [sizeLine_eq, ← r1.length]; exact hl, fun p np => ?_⟩
    exact o1 _ _ as1 (Stp.lay x1 np) (x1.lay np) (.tup (SqT.of upd_same) (r1.mono (Stp.lay x1 np)))
  · exact o1.elim
theorem mkL_of {K : PySem.W.Frag} {mg : Str → Option Value} {s : L2.St} {as : List Addr} {H : Hp} {h : IH} {ps : List PV} {vs : List V} {Q : VK} (x : RH K mg H as h) (r : RPs K mg H as ps vs) (o : Out K mg (fun H as p v => RP K mg H as p v) W s as H Q (mkL ps h)) :
    vs.length ≤ sizeLine ∧ ∀ p, H p = none → Q (.ref p) (upd H p (.lst vs)) := by
  unfold mkL at o
  split at o
  · rename_i hl
    refine ⟨by rw [sizeLine_eq, ← r.length]; exact hl, fun p np => ?_⟩
    have S := Stp.new (o := .lst vs) x np
    refine o _ _ _ S (x.new np ⟨_, upd_same, r.mono S⟩) (.obj ?_)
    rw [List.getElem?_append_right (by rw [x.len]; exact Nat.le_refl _), x.len, Nat.sub_self]
    rfl
  · exact o.elim
theorem ie_lst (h : PA X es (IA X.K X.mg W L)) : PE X (.List es pos) (IE X.K X.mg W (eLst L)) := by
  refine peImp (pe_lst h) fun s H Q ⟨as, ρ, hh, f, x, o⟩ => ?_
  exact ⟨as, ρ, hh, f, x, (Out.bind o).imp fun Vs H1 ⟨as1, h1, p1, S1, x1, r1, o1⟩ => mkL_of x1 r1 o1⟩
end
end WR

/-! what loops walk: lists, tuples, ranges, enumerate, zip of lists and tuples in any mix -/
namespace PySem
open Builtin Builtin.Str
theorem WR_meets_enum1 {v : Value} {o : Obj} {H : Heap → Prop} (B : Begins v o H) :
    Meets (Builtin.«enumerate.__new__» ⟨[.type "enumerate", v], []⟩) (fun _ R s => H s.heap ∧
      R (.ok (.ret (.ref (s.heap.push o).objs.size))) { s with heap := (s.heap.push o).push { cls := .type "enumerate", data := .fields #[.none, .bool false, .ref s.heap.objs.size, rawInt 0, .none, .none] } }) :=
  .of_wp fun prog w A R s h => by
    obtain ⟨hp, g, d, tk, os⟩ := s; obtain ⟨h1, h⟩ := h
    have hsub := sub_enumerate
    have q1 : ∀ {A' : Around} {E : Value → Shared → Prop} {Q : Value → Shared → Prop}, Q (.ref hp.objs.size) ⟨hp.push o, g, d, tk, os⟩ → wpAny (model prog w) A' (pyIter v) Q E ⟨hp, g, d, tk, os⟩ :=
      fun q => B.iter prog w _ _ ⟨hp, g, d, tk, os⟩ _ h1 q
    wp_walk using q1
    refine wpAny_stack_any fun st => wpAny_pure ?_
    split
    · rename_i c _ _ _ _ _
      cases (c == Value.type "enumerate")
      · wp_walk using q1
        exact ⟨_, rfl, h⟩
      · wp_walk using q1
        exact ⟨_, rfl, h⟩
    · wp_walk using q1
      exact ⟨_, rfl, h⟩
theorem WR_enum1 {prog : Program} {w : World} {A : Around} {E : Value → Shared → Prop} {s : Shared} {v : Value} {o : Obj} {H : Heap → Prop} {Q : Value → Shared → Prop} (B : Begins v o H) (h1 : H s.heap)
    (h : ∀ h', IsEnum h' (s.heap.objs.size + 1) s.heap.objs.size 0 .none → h'.get? s.heap.objs.size = some o → h'.objs.size = s.heap.objs.size + 2 →
      (∀ b o, s.heap.get? b = some o → h'.get? b = some o) → Q (.ref (s.heap.objs.size + 1)) { s with heap := h' }) :
    wpAny (model prog w) A (call (.type "enumerate") [v]) Q E s := by
  refine callType_new F.called_enumerate (by decide) (F.typeCall_enumerate_1 _) (F.newCall_enumerate_1 _) (fun obj => F.args_object_init_2 obj _) F.entry_enumerate_new
    (WR_meets_enum1 B) ⟨h1, ?_⟩
  have hz : (s.heap.push o).objs.size = s.heap.objs.size + 1 := Heap.size_push ..
  show _ ∧ _
  rw [hz]
  have he : IsEnum ((s.heap.push o).push { cls := .type "enumerate", data := .fields #[.none, .bool false, .ref s.heap.objs.size, rawInt 0, .none, .none] }) (s.heap.objs.size + 1) s.heap.objs.size 0 .none := by
    have := Heap.get?_push_size (s.heap.push o) (o := { cls := .type "enumerate", data := .fields #[.none, .bool false, .ref s.heap.objs.size, rawInt 0, .none, .none] }) rfl
    rw [hz] at this; exact this
  exact ⟨⟨_, he, rfl⟩, h _ he (Heap.get?_push_of_some _ (Heap.get?_push_size _ B.free)) (by rw [Heap.size_push, hz]) fun b o x => Heap.get?_push_of_some _ (Heap.get?_push_of_some _ x)⟩
end PySem
namespace WR
open PySem PySem.Spec PyProof.Rows L2
/-! ### a list or a tuple -/
def SqK (t : Bool) (K : PySem.W.Frag) (H : Hp) (a : Addr) (xs : List V) : Prop := match t with
  | true => SqT K H a xs
  | false => SqL K H a xs
def ItAt (t : Bool) (h : Heap) (it a : Addr) (i : Nat) : Prop := match t with
  | true => h.IsTupleIter it a i
  | false => h.IsListIter it a i
def CtAt (t : Bool) (h : Heap) (a : Addr) (its : Array Value) : Prop := match t with
  | true => h.IsTuple a its
  | false => h.IsList a its
def itO (t : Bool) (a : Addr) : Obj := match t with
  | true => { cls := .type "tuple_iterator", data := .fields #[.ref a, .int 0 0] }
  | false => { cls := .type "list_iterator", data := .fields #[.ref a, .int 0 0] }
theorem ItAt.at {t : Bool} {h h' : Heap} {it a : Addr} {i : Nat} (x : ItAt t h it a i) (k : ∀ o, h.get? it = some o → h'.get? it = some o) : ItAt t h' it a i := by
  cases t with
  | true => exact Heap.IsTupleIter.at x k
  | false => exact Heap.IsListIter.at x k
theorem ItAt.obj {t : Bool} {h : Heap} {it a : Addr} {i : Nat} (x : ItAt t h it a i) : ∃ o, h.get? it = some o ∧ ∀ v, o.data ≠ .cell v := by
  cases t with
  | true => obtain ⟨o, e, _, d⟩ := x; exact ⟨o, e, fun v q => by rw [d] at q; cases q⟩
  | false => obtain ⟨o, e, _, d⟩ := x; exact ⟨o, e, fun v q => by rw [d] at q; cases q⟩
theorem ItAt.new {t : Bool} {h : Heap} {it a : Addr} (e : h.get? it = some (itO t a)) : ItAt t h it a 0 := by
  cases t with
  | true => exact ⟨_, e, rfl, rfl⟩
  | false => exact ⟨_, e, rfl, rfl⟩
theorem draws_k (t : Bool) {prog : Program} {w : World} {A : Around} (hh : A.handled = none) (it l : Addr) (hne : l ≠ it) (items : Array Value) :
    Draws prog w A it [it, l] items.size (fun i v => items[i]? = some v) (fun i h => ItAt t h it l i ∧ CtAt t h l items) := by
  cases t with
  | true => exact Draws.tuple hh it l hne items
  | false => exact Draws.list hh it l hne items
theorem begins_k (t : Bool) (l : Addr) (items : Array Value) : Begins (.ref l) (itO t l) fun h => CtAt t h l items := by
  cases t with
  | true => exact begins_tuple l items
  | false => exact begins_list l items
section
variable {X : Cx} {pins : List (Addr × Obj)} {σ : L2.St} {H : Hp} {s : Shared} {a : Addr} {xs ys : List V} {t : Bool}
theorem seqK (I : Inv X pins σ H s) (h : SqK t X.K H a xs) : ∃ its : List Value, Vals xs its ∧ CtAt t s.heap a its.toArray := by
  cases t with
  | true => obtain ⟨its, r, p, _⟩ := I.tuple h; exact ⟨its, r, p⟩
  | false => obtain ⟨its, r, p, _⟩ := I.list h; exact ⟨its, r, p.isList⟩
theorem seqK_inj (I : Inv X pins σ H s) (h : SqK t X.K H a xs) (h' : SqK t X.K H a ys) : xs = ys := by
  cases t with
  | true => exact I.tuple_inj h h'
  | false => exact I.list_inj h h'
end
/-! ### enumerate -/
def ItE (t : Bool) (K : PySem.W.Frag) (a : Addr) : It :=
  ⟨fun i H => ∃ (xs : List V) (x : V), SqK t K H a xs ∧ xs[i]? = some x, fun i H v H' => ∃ T x, v = .ref T ∧ H T = none ∧ H' = upd H T (.tup [.int (i : Nat), x]) ∧ ∀ xs, SqK t K H a xs → xs[i]? = some x, fun i H => ∃ xs : List V, SqK t K H a xs ∧ xs.length = i⟩
theorem turn_E {P : Program} {w : World} {K : PySem.W.Frag} {elts : List Expr} {kk : Nat} {tpos : Pos} (t : Bool) (a e it : Addr) (hei : e ≠ it) (hea : e ≠ a) (hai : a ≠ it) :
    Turn P w K (.Tuple elts kk tpos) (ItE t K a) [e, it] e (fun i h => (∃ old, IsEnum h e it ((i : Nat) : Int) old) ∧ ItAt t h it a i) where
  mem := by simp
  obj := fun i h st b hb => by
    obtain ⟨⟨old, he⟩, hi⟩ := st
    have e' : b = e ∨ b = it := by simpa using hb
    rcases e' with z | z
    · rw [z]; exact ⟨_, he, fun v q => nomatch q⟩
    · rw [z]; exact hi.obj
  keep := fun i h h' st k => let ⟨⟨old, he⟩, hi⟩ := st; ⟨⟨old, k e (by simp) _ he⟩, hi.at fun o q => k it (by simp) o q⟩
  item := by
    intro X hP hw hK hc i pins s σ H E I hf st hg
    subst hP hw hK
    obtain ⟨⟨old, he⟩, hit⟩ := st
    obtain ⟨xs, x, hq, hx⟩ := hg
    obtain ⟨its, rv, p⟩ := seqK I hq
    obtain ⟨u, hu, ru⟩ := rv.get hx
    have hel : e < s.heap.objs.size := Heap.lt_size he
    have hil : it < s.heap.objs.size := by obtain ⟨_, q, _⟩ := hit.obj; exact Heap.lt_size q
    have hlt : i < its.toArray.size := by
      have := (List.getElem?_eq_some_iff.mp hu).1
      simpa using this
    refine wpAny_pyNext_enum_itemD (draws_k t (A := X.A.in1) (I.ok.hd hc) it a hai its.toArray) he ⟨hit, p⟩ hlt hei (by simp [hei, hea]) fun x' h' tk hP ho hst hT hsz hk => ?_
    have ex : x' = u := by
      have h1 : its.toArray[i]? = some u := by simpa using hu
      rw [h1] at hP
      exact (Option.some.inj hP).symm
    subst ex
    refine ⟨_, rfl, wpAny_letOwnedTupleGo_enum (s := { s with heap := h', toks := tk + 1 }) ho fun h'' he' sb => ?_⟩
    have hT2 : h''.get? s.heap.objs.size = some { cls := .type "tuple", data := .seq #[.int i tk, x'] } := (sb.2 _ (Nat.ne_of_gt hel)).trans hT
    have new : ObjOk X.prog X.w (upd H s.heap.objs.size (.tup [.int (i : Nat), x])) h'' s.heap.objs.size (.tup [.int (i : Nat), x]) :=
      ⟨by show 2 ≤ sizeLine; decide, [.int i tk, x'], .cons ⟨_, rfl⟩ (.cons ru .nil), ⟨_, hT2, rfl, _, rfl⟩⟩
    have I1 : Inv X pins σ (upd H s.heap.objs.size (.tup [.int (i : Nat), x])) { s with heap := h'', toks := tk + 1 } :=
      I.turnedNew (ch := [e, it]) (fun b ob hb q => (sb.2 b (fun z => hb (by simp [z]))).trans (hk b ob (fun z => hb (by simp [z])) (fun z => hb (by simp [z])) q)) hf (Nat.le_refl _) new
    refine ⟨.ref s.heap.objs.size, _, I1, rfl, ⟨_, x, rfl, I.hok.fresh (Nat.le_refl _), rfl, fun ys hy => by rw [seqK_inj I hy hq]; exact hx⟩, ⟨⟨x', ?_⟩, hst.1.at fun o q => (sb.2 it (Ne.symm hei)).trans q⟩, fun b hb => ?_⟩
    · have e1 : ((i + 1 : Nat) : Int) = (i : Int) + 1 := by omega
      rw [e1]; exact he'
    · have hb' : b < s.heap.objs.size := by
        have e' : b = e ∨ b = it := by simpa using hb
        rcases e' with z | z
        · rw [z]; exact hel
        · rw [z]; exact hil
      rw [upd_ne (Nat.ne_of_lt hb')]
      exact (hf b hb).1
  done := by
    intro X hP hw hK hc i pins s σ H E I hf st hg
    subst hP hw hK
    obtain ⟨⟨old, he⟩, hit⟩ := st
    obtain ⟨xs, hq, hx⟩ := hg
    obtain ⟨its, rv, p⟩ := seqK I hq
    obtain ⟨f0, f1, f2, f3, f4, f5⟩ := hf it (by simp)
    have hl := rv.length
    have en : its.toArray.size = i := by simp; omega
    subst en
    exact wpAny_pyNext_enum_endD (draws_k t (A := X.A.in1) (I.ok.hd hc) it a hai its.toArray) he ⟨hit, p⟩ fun h' eb => ⟨rfl, I.turned (t' := s.toks) (fun b o hb q => eb b o hb q) f0 f1 f3 f4 f5⟩
  self := fun A i s Q E st h => let ⟨⟨_, he⟩, _⟩ := st; wpAny_pyIter_enum he h
def iE (K : PySem.W.Frag) (ta : TA) : TI := fun σ H R => ta σ H fun vs H1 => ∃ t a xs, vs = [.ref a] ∧ SqK t K H1 a xs ∧ R (ItE t K a) H1
theorem pi_E {X : Cx} {e : Expr} {ta : TA} {p pos tpos : Pos} {elts : List Expr} {kk : Nat} (hg : Gl X "enumerate") (hm : X.mg "enumerate" = none) (ha : PA X [e] ta) (hs : starEach [e] X.env = [(false, eval e X.env)] := by rfl) :
    PI X (.Tuple elts kk tpos) (.Call (.Name "enumerate" p) [e] [] pos) (iE X.K ta) := by
  refine ⟨fun pins s σ H R I h => ?_⟩
  refine Call_ (ld_blt I hg hm boot_enumerate (PyProof.Rows.callWith_type1 (thn (ha.run pos pins s σ H _ I h) fun us s1 ⟨vs, H1, I1, r1, q1⟩ => ?_) hs rfl))
  obtain ⟨t, a, xs, ex, hq, q⟩ := q1
  subst ex
  cases r1 with
  | cons r rr =>
    cases rr
    cases r
    obtain ⟨its, rv, p'⟩ := seqK I1 hq
    have hal : a < s1.heap.objs.size := by
      cases t with
      | true => obtain ⟨o, e, _⟩ := p'; exact Heap.lt_size e
      | false => obtain ⟨o, e, _⟩ := p'; exact Heap.lt_size e
    refine WR_enum1 (begins_k t a its.toArray) p' fun h' he hit hsz hk => wpAny_pyIter_enum he ?_
    have I2 : Inv X pins σ H1 { s1 with heap := h' } := I1.kept (t' := s1.toks) hk
    refine ⟨s1.heap.objs.size + 1, [s1.heap.objs.size + 1, s1.heap.objs.size], _, _, H1, rfl, I2, turn_E t a (s1.heap.objs.size + 1) s1.heap.objs.size (Nat.succ_ne_self _) (Nat.ne_of_gt (Nat.lt_succ_of_lt hal)) (Nat.ne_of_lt hal), ⟨⟨.none, he⟩, ItAt.new hit⟩, fun b hb => ?_, q⟩
    have e' : b = s1.heap.objs.size + 1 ∨ b = s1.heap.objs.size := by simpa using hb
    have hle : s1.heap.objs.size ≤ b := by
      rcases e' with z | z
      · rw [z]; exact Nat.le_add_right _ _
      · rw [z]; exact Nat.le_refl _
    exact I1.fpOk hle (I1.hok.fresh hle)
/-! ### zip -/
def ItZ (t u : Bool) (K : PySem.W.Frag) (a b : Addr) : It :=
  ⟨fun i H => ∃ (xs ys : List V) (x y : V), SqK t K H a xs ∧ SqK u K H b ys ∧ xs[i]? = some x ∧ ys[i]? = some y,
    fun i H v H' => ∃ T x y, v = .ref T ∧ H T = none ∧ H' = upd H T (.tup [x, y]) ∧ (∀ xs, SqK t K H a xs → xs[i]? = some x) ∧ ∀ ys, SqK u K H b ys → ys[i]? = some y,
    fun i H => ∃ xs ys : List V, SqK t K H a xs ∧ SqK u K H b ys ∧ i ≤ xs.length ∧ i ≤ ys.length ∧ (i = xs.length ∨ i = ys.length)⟩
theorem turn_Z {P : Program} {w : World} {K : PySem.W.Frag} {elts : List Expr} {kk : Nat} {tpos : Pos} (t u : Bool) {a b z TI TO i1 i2 : Addr} (S : ZipSep2 z TI TO i1 i2 [i1, a] [i2, b]) (ha : a ≠ i1) (hb : b ≠ i2) :
    Turn P w K (.Tuple elts kk tpos) (ItZ t u K a b) [z, TI, TO, i1, i2] z (fun i h => IsZip h z TI TO .none ∧ IsTupOf2 h TI (.ref i1) (.ref i2) ∧ (∃ x y, IsTupOf2 h TO x y) ∧ ItAt t h i1 a i ∧ ItAt u h i2 b i) where
  mem := by simp
  obj := fun i h st c hc => by
    obtain ⟨hz, hTI, ⟨x, y, hTO⟩, h1, h2⟩ := st
    have e' : c = z ∨ c = TI ∨ c = TO ∨ c = i1 ∨ c = i2 := by simpa using hc
    rcases e' with q | q | q | q | q
    · rw [q]; exact ⟨_, hz, fun v q => nomatch q⟩
    · rw [q]; exact ⟨_, hTI, fun v q => nomatch q⟩
    · rw [q]; exact ⟨_, hTO, fun v q => nomatch q⟩
    · rw [q]; exact h1.obj
    · rw [q]; exact h2.obj
  keep := fun i h h' st k => by
    obtain ⟨hz, hTI, ⟨x, y, hTO⟩, h1, h2⟩ := st
    exact ⟨k z (by simp) _ hz, k TI (by simp) _ hTI, ⟨x, y, k TO (by simp) _ hTO⟩, h1.at fun o q => k i1 (by simp) o q, h2.at fun o q => k i2 (by simp) o q⟩
  item := by
    intro X hP hw hK hc i pins s σ H E I hf st hg
    subst hP hw hK
    obtain ⟨hz, hTI, ⟨x0, y0, hTO⟩, h1, h2⟩ := st
    obtain ⟨xs, ys, x, y, hqx, hqy, hx, hy⟩ := hg
    obtain ⟨its, rv, p⟩ := seqK I hqx
    obtain ⟨its2, rv2, p2⟩ := seqK I hqy
    obtain ⟨v1, hu, ru⟩ := rv.get hx
    obtain ⟨v2, hu2, ru2⟩ := rv2.get hy
    have hzl : z < s.heap.objs.size := Heap.lt_size hz
    have l1 : i < its.toArray.size := by
      have := (List.getElem?_eq_some_iff.mp hu).1
      simpa using this
    have l2 : i < its2.toArray.size := by
      have := (List.getElem?_eq_some_iff.mp hu2).1
      simpa using this
    refine wpAny_pyNext_zipD2_item S (draws_k t (A := X.A.in1) (I.ok.hd hc) i1 a ha its.toArray) (draws_k u (A := X.A.in1) (I.ok.hd hc) i2 b hb its2.toArray) hz hTI hTO ⟨h1, p⟩ ⟨h2, p2⟩ l1 l2 fun w1 w2 h' tk hP1 hP2 z' TO' h1' h2' hT hsz hk => ?_
    have e1 : w1 = v1 := by
      have q : its.toArray[i]? = some v1 := by simpa using hu
      rw [q] at hP1
      exact (Option.some.inj hP1).symm
    have e2 : w2 = v2 := by
      have q : its2.toArray[i]? = some v2 := by simpa using hu2
      rw [q] at hP2
      exact (Option.some.inj hP2).symm
    subst e1
    subst e2
    refine ⟨_, rfl, wpAny_letOwnedTupleGo_zip (s := { s with heap := h', toks := tk }) z' fun h'' z'' sb => ?_⟩
    have hT2 : h''.get? s.heap.objs.size = some { cls := .type "tuple", data := .seq #[w1, w2] } := (sb.2 _ (Nat.ne_of_gt hzl)).trans hT
    have new : ObjOk X.prog X.w (upd H s.heap.objs.size (.tup [x, y])) h'' s.heap.objs.size (.tup [x, y]) :=
      ⟨by show 2 ≤ sizeLine; decide, [w1, w2], .cons ru (.cons ru2 .nil), ⟨_, hT2, rfl, _, rfl⟩⟩
    have I1 : Inv X pins σ (upd H s.heap.objs.size (.tup [x, y])) { s with heap := h'', toks := tk } :=
      I.turnedNew (t' := tk) (ch := [z, TI, TO, i1, i2]) (fun c o hb q => (sb.2 c (fun q' => hb (by simp [q']))).trans (hk c o (fun q' => hb (by simp [q'])) (fun q' => hb (by simp [q'])) (fun q' => hb (by simp [q'])) (fun q' => hb (by simp [q'])) q)) hf (Nat.le_refl _) new
    refine ⟨.ref s.heap.objs.size, _, I1, rfl, ⟨_, x, y, rfl, I.hok.fresh (Nat.le_refl _), rfl, fun l hl => by rw [seqK_inj I hl hqx]; exact hx, fun l hl => by rw [seqK_inj I hl hqy]; exact hy⟩, ⟨z'', ?_, ⟨w1, w2, ?_⟩, ?_, ?_⟩, fun c hcm => ?_⟩
    · exact (sb.2 _ S.TIz).trans (hk _ _ S.TIz S.TITO S.TIi1 S.TIi2 hTI)
    · exact (sb.2 _ S.TOz).trans TO'
    · exact h1'.1.at fun o q => (sb.2 _ (Ne.symm S.zi1)).trans q
    · exact h2'.1.at fun o q => (sb.2 _ (Ne.symm S.zi2)).trans q
    · have hlt : c < s.heap.objs.size := by
        have e' : c = z ∨ c = TI ∨ c = TO ∨ c = i1 ∨ c = i2 := by simpa using hcm
        rcases e' with q | q | q | q | q
        · rw [q]; exact hzl
        · rw [q]; exact Heap.lt_size hTI
        · rw [q]; exact Heap.lt_size hTO
        · rw [q]; obtain ⟨_, e1, _⟩ := h1.obj; exact Heap.lt_size e1
        · rw [q]; obtain ⟨_, e2, _⟩ := h2.obj; exact Heap.lt_size e2
      rw [upd_ne (Nat.ne_of_lt hlt)]
      exact (hf c hcm).1
  done := by
    intro X hP hw hK hc i pins s σ H E I hf st hg
    subst hP hw hK
    obtain ⟨hz, hTI, ⟨x0, y0, hTO⟩, h1, h2⟩ := st
    obtain ⟨xs, ys, hqx, hqy, g1, g2, hend⟩ := hg
    obtain ⟨its, rv, p⟩ := seqK I hqx
    obtain ⟨its2, rv2, p2⟩ := seqK I hqy
    have l1 := rv.length
    have l2 := rv2.length
    refine wpAny_pyNext_zipD2_end S (draws_k t (A := X.A.in1) (I.ok.hd hc) i1 a ha its.toArray) (draws_k u (A := X.A.in1) (I.ok.hd hc) i2 b hb its2.toArray) hz hTI hTO ⟨h1, p⟩ ⟨h2, p2⟩ (by simp; omega) (by simp; omega) (by simp; omega) fun h' tk hk => ⟨rfl, ?_⟩
    exact I.turnedL (t' := tk) (ch := [z, TI, TO, i1, i2]) (fun c o hb q =>
      hk c o (fun q' => hb (by simp [q'])) (fun q' => hb (by simp [q'])) (fun q' => hb (by simp [q'])) (fun q' => hb (by simp [q'])) q) hf
  self := fun A i s Q E st h => wpAny_pyIter_zip st.1 h
def iZ (K : PySem.W.Frag) (ta : TA) : TI := fun σ H R => ta σ H fun vs H1 => ∃ t u a b xs ys, vs = [.ref a, .ref b] ∧ SqK t K H1 a xs ∧ SqK u K H1 b ys ∧ R (ItZ t u K a b) H1
theorem pi_Z {X : Cx} {e e2 : Expr} {ta : TA} {p pos tpos : Pos} {elts : List Expr} {kk : Nat} (hg : Gl X "zip") (hm : X.mg "zip" = none) (ha : PA X [e, e2] ta)
    (hs : starEach [e, e2] X.env = (false, eval e X.env) :: starEach [e2] X.env := by rfl) (hpl : (backTo pos (starEach [e2] X.env)).any (·.1) = false := by rfl) :
    PI X (.Tuple elts kk tpos) (.Call (.Name "zip" p) [e, e2] [] pos) (iZ X.K ta) := by
  refine ⟨fun pins s σ H R I h => ?_⟩
  refine Call_ (ld_blt I hg hm PyProof.Rows.boot_zip (PyProof.Rows.callWith_type1 (thn (ha.run pos pins s σ H _ I h) fun us s1 ⟨vs, H1, I1, r1, q1⟩ => ?_) hs hpl))
  obtain ⟨t, u, a, b, xs, ys, ex, hqx, hqy, q⟩ := q1
  subst ex
  cases r1 with
  | cons r rr =>
    cases rr with
    | cons r' rr =>
      cases rr
      cases r
      cases r'
      obtain ⟨its, rv, p1⟩ := seqK I1 hqx
      obtain ⟨its2, rv2, p2⟩ := seqK I1 hqy
      have lt : ∀ {t : Bool} {a : Addr} {its : Array Value}, CtAt t s1.heap a its → a < s1.heap.objs.size := fun {t a its} p' => by
        cases t with
        | true => obtain ⟨o, e, _⟩ := p'; exact Heap.lt_size e
        | false => obtain ⟨o, e, _⟩ := p'; exact Heap.lt_size e
      have la := lt p1
      have lb := lt p2
      refine zip_begins2 (begins_k t a its.toArray) (begins_k u b its2.toArray) p1 p2 fun h' hz hTI hTO hi1 hi2 hsz hk => wpAny_pyIter_zip hz ?_
      have I2 : Inv X pins σ H1 { s1 with heap := h' } := I1.kept (t' := s1.toks) hk
      refine ⟨_, [s1.heap.objs.size + 4, s1.heap.objs.size + 2, s1.heap.objs.size + 3, s1.heap.objs.size, s1.heap.objs.size + 1], _, _, H1, rfl, I2,
        turn_Z t u (zip_sep2 (fp1 := [a]) (fp2 := [b]) (by simpa using la) (by simpa using lb)) (Nat.ne_of_lt la) (Nat.ne_of_lt (Nat.lt_succ_of_lt lb)), ⟨hz, hTI, ⟨_, _, hTO⟩, ItAt.new hi1, ItAt.new hi2⟩, fun c hc => ?_, q⟩
      have hle : s1.heap.objs.size ≤ c := by
        simp at hc
        rcases hc with z | z | z | z | z <;> rw [z] <;> omega
      exact I1.fpOk hle (I1.hok.fresh hle)
/-! ### the code of what is walked -/
@[simp] def itList (xs : List PV) : ItF := fun i _ => some xs[i]?
@[simp] def itObj (n : Nat) : ItF := fun i h => match h[n]? with
  | some (.lst xs) => some xs[i]?
  | _ => none
@[simp] def eIter (A : EX) : Fm → IH → Res ItF := fun r h => (A r h).bind fun v h1 => match v with
  | .tup xs => .ok (itList xs) h1
  | .fls xs => .ok (itList xs) h1
  | .obj n => (match h1[n]? with
    | some (.lst _) => .ok (itObj n) h1
    | _ => .bad)
  | _ => .bad
@[simp] def itRange (lo : Int) (n : Nat) : ItF := fun i _ => some (if i < n then some (.int (lo + i)) else none)
def rngOk (i : Int) : Bool := decide (i.natAbs < 4611686018427387904)
theorem rngOk_of {i : Int} (h : rngOk i = true) : -4611686018427387904 ≤ i ∧ i < 4611686018427387904 := by
  have := of_decide_eq_true h
  omega
@[simp] def eRange1 (L : AX) : Fm → IH → Res ItF := fun r h => (L r h).bind fun vs h1 => match vs with
  | [.int j] => if rngOk j then .ok (itRange 0 j.toNat) h1 else .bad
  | _ => .bad
@[simp] def eRange2 (L : AX) : Fm → IH → Res ItF := fun r h => (L r h).bind fun vs h1 => match vs with
  | [.int i, .int j] => if rngOk i && rngOk j then .ok (itRange i (j - i).toNat) h1 else .bad
  | _ => .bad
/-- the items of a list or tuple as they stand -/
@[simp] def seqOf (v : PV) (h : IH) : Option (List PV) := match v with
  | .tup xs => some xs
  | .fls xs => some xs
  | .obj n => (match h[n]? with
    | some (.lst xs) => some xs
    | _ => none)
  | _ => none
@[simp] def itEnum (v : PV) : ItF := fun i h => match seqOf v h with
  | some xs => (match xs[i]? with
    | some x => some (some (.tup [.int i, x]))
    | none => if xs.length = i then some none else none)
  | none => none
@[simp] def eEnum (L : AX) : Fm → IH → Res ItF := fun r h => (L r h).bind fun vs h1 => match vs with
  | [v] => (match seqOf v h1 with
    | some _ => .ok (itEnum v) h1
    | none => .bad)
  | _ => .bad
@[simp] def itZip (v w : PV) : ItF := fun i h => match seqOf v h, seqOf w h with
  | some xs, some ys => (match xs[i]?, ys[i]? with
    | some x, some y => some (some (.tup [x, y]))
    | _, _ => if i ≤ xs.length ∧ i ≤ ys.length then some none else none)
  | _, _ => none
@[simp] def eZip (L : AX) : Fm → IH → Res ItF := fun r h => (L r h).bind fun vs h1 => match vs with
  | [v, w] => (match seqOf v h1, seqOf w h1 with
    | some _, some _ => .ok (itZip v w) h1
    | _, _ => .bad)
  | _ => .bad
section
variable {X : Cx} {W : WX} {k : Nat} {a b e tg : Expr} {es : List Expr} {pos : Pos} {A B C : EX} {L : AX}
/-- where a value that is walked stands -/
def kindK : PV → Bool
  | .tup _ => true
  | _ => false
theorem seqOf_at {K : PySem.W.Frag} {mg : Str → Option Value} {as : List Addr} {H : Hp} {h : IH} {v : PV} {V : V} {xs : List PV} (x : RH K mg H as h) (r : RP K mg H as v V) (e : seqOf v h = some xs) :
    ∃ a ys, V = .ref a ∧ SqK (kindK v) K H a ys ∧ RPs K mg H as xs ys := by
  cases r with
  | tup hs rs => cases e; exact ⟨_, _, rfl, hs, rs⟩
  | fls hs rs => cases e; exact ⟨_, _, rfl, hs.sq, rs⟩
  | obj ha =>
    simp only [seqOf] at e
    split at e
    · rename_i zs hz
      cases e
      obtain ⟨a, h1, ys, h2, rs⟩ := x.at_ _ _ hz
      rw [ha] at h1; cases h1
      exact ⟨_, _, rfl, SqL.of h2, rs⟩
    · cases e
  | non => cases e
  | bl => cases e
  | int => cases e
  | str => cases e
  | glo => cases e
  | ty => cases e
  | key => cases e
theorem RPs.none {K : PySem.W.Frag} {mg : Str → Option Value} {as : List Addr} {H : Hp} {xs : List PV} {ys : List V} {i : Nat} (r : RPs K mg H as xs ys) (e : xs[i]? = none) : ys.length ≤ i := by
  rw [← r.length]; exact List.getElem?_eq_none_iff.mp e
theorem ri_list {K : PySem.W.Frag} {mg : Str → Option Value} {as : List Addr} {H : Hp} {a : Addr} {xs : List PV} {ys : List V} (hs : SqF K H a ys) (r : RPs K mg H as xs ys) : RI K mg H as (itList xs) (Itl K a) := by
  intro i as' H' h' S x
  have hs' := S.sqF hs
  unfold itList
  cases q : xs[i]? with
  | none => exact ⟨ys, hs'.sq, r.none q⟩
  | some p =>
    obtain ⟨v, e1, r1⟩ := r.get q
    refine ⟨⟨ys, v, hs'.sq, e1⟩, fun y H'' hy => ?_⟩
    obtain ⟨rfl, z⟩ := hy
    have : y = v := Option.some.inj ((z _ hs'.sq).symm.trans e1)
    subst this
    exact ⟨Stp.refl _ _, x, r1.mono S⟩
theorem ri_tup {K : PySem.W.Frag} {mg : Str → Option Value} {as : List Addr} {H : Hp} {a : Addr} {xs : List PV} {ys : List V} (hs : SqT K H a ys) (r : RPs K mg H as xs ys) : RI K mg H as (itList xs) (Itt K a) := by
  intro i as' H' h' S x
  have hs' := S.sqT hs
  unfold itList
  cases q : xs[i]? with
  | none => exact ⟨ys, hs', r.none q⟩
  | some p =>
    obtain ⟨v, e1, r1⟩ := r.get q
    refine ⟨⟨ys, v, hs', e1⟩, fun y H'' hy => ?_⟩
    obtain ⟨rfl, z⟩ := hy
    have : y = v := Option.some.inj ((z _ hs').symm.trans e1)
    subst this
    exact ⟨Stp.refl _ _, x, r1.mono S⟩
theorem ri_obj {K : PySem.W.Frag} {mg : Str → Option Value} {as : List Addr} {H : Hp} {a : Addr} {n : Nat} (ha : as[n]? = some a) : RI K mg H as (itObj n) (Itl K a) := by
  intro i as' H' h' S x
  unfold itObj
  cases q : h'[n]? with
  | none => trivial
  | some o =>
    cases o with
    | lst xs =>
      obtain ⟨b, e1, ys, e2, rs⟩ := x.at_ _ _ q
      rw [S.get ha] at e1; cases e1
      cases qi : xs[i]? with
      | none =>
        simp only [qi]
        exact ⟨ys, SqL.of e2, rs.none qi⟩
      | some p =>
        simp only [qi]
        obtain ⟨v, e3, r3⟩ := rs.get qi
        refine ⟨⟨ys, v, SqL.of e2, e3⟩, fun y H'' hy => ?_⟩
        obtain ⟨rfl, z⟩ := hy
        have : y = v := Option.some.inj ((z _ (SqL.of e2)).symm.trans e3)
        subst this
        exact ⟨Stp.refl _ _, x, r3⟩
    | ins => trivial
    | dct => trivial
    | dks => trivial
    | tbl => trivial
theorem ii_seq (ha : PE X a (IE X.K X.mg W A)) : PI X tg a (II X.K X.mg W (eIter A)) := by
  have base : PI X tg a (fun s H R => iList X.K (IE X.K X.mg W A) s H R ∨ iTup X.K (IE X.K X.mg W A) s H R) := by
    refine ⟨fun pins s σ H R I h => ?_⟩
    rcases h with h | h
    · exact (pi_list ha).run pins s σ H R I h
    · exact (pi_tup ha).run pins s σ H R I h
  refine piImp base fun s H Q ⟨as, ρ, hh, f, x, o⟩ => ?_
  unfold eIter at o
  cases q : A ρ hh with
  | bad => rw [q] at o; exact o.elim
  | ex z h1 => rw [q] at o; exact .inl ⟨as, ρ, hh, f, x, by rw [q]; exact o⟩
  | ok v h1 =>
    rw [q] at o
    cases v with
    | tup xs =>
      refine .inr ⟨as, ρ, hh, f, x, ?_⟩
      rw [q]
      intro V H1 as1 S1 x1 r1
      cases r1 with
      | tup hs rs => exact ⟨_, rfl, ⟨_, hs⟩, o _ _ _ S1 x1 (ri_tup hs rs)⟩
    | fls xs =>
      refine .inl ⟨as, ρ, hh, f, x, ?_⟩
      rw [q]
      intro V H1 as1 S1 x1 r1
      cases r1 with
      | fls hs rs => exact ⟨_, rfl, ⟨_, hs.sq⟩, o _ _ _ S1 x1 (ri_list hs rs)⟩
    | obj n =>
      refine .inl ⟨as, ρ, hh, f, x, ?_⟩
      rw [q]
      intro V H1 as1 S1 x1 r1
      cases r1 with
      | obj ha =>
        have o1 : Out X.K X.mg (fun H as p v => RI X.K X.mg H as p v) W s as H Q (match h1[n]? with
          | some (.lst _) => .ok (itObj n) h1
          | _ => .bad) := o
        cases qn : h1[n]? with
        | none => simp only [qn] at o1; exact o1.elim
        | some ob =>
          cases ob with
          | lst xs =>
            simp only [qn] at o1
            obtain ⟨b, e1, ys, e2, rs⟩ := x1.at_ _ _ qn
            rw [ha] at e1; cases e1
            exact ⟨_, rfl, ⟨_, SqL.of e2⟩, o1 _ _ _ S1 x1 (ri_obj ha)⟩
          | ins => simp only [qn] at o1; exact o1.elim
          | dct => simp only [qn] at o1; exact o1.elim
          | dks => simp only [qn] at o1; exact o1.elim
          | tbl => simp only [qn] at o1; exact o1.elim
    | non => exact (show False from o).elim
    | bl => exact (show False from o).elim
    | int => exact (show False from o).elim
    | str => exact (show False from o).elim
    | glo => exact (show False from o).elim
    | ty => exact (show False from o).elim
    | key => exact (show False from o).elim
theorem ri_range {K : PySem.W.Frag} {mg : Str → Option Value} {as : List Addr} {H : Hp} {lo : Int} {n : Nat} : RI K mg H as (itRange lo n) (Itr lo n) := by
  intro i as' H' h' S x
  unfold itRange
  by_cases hi : i < n
  · rw [if_pos hi]
    refine ⟨hi, fun y H'' hy => ?_⟩
    obtain ⟨rfl, rfl⟩ := hy
    exact ⟨Stp.refl _ _, x, .int _⟩
  · rw [if_neg hi]
    exact Nat.le_of_not_lt hi
theorem rng_of {i : Int} (h : rngOk i = true) : -(2 ^ 62) ≤ i ∧ i < 2 ^ 62 := by
  have q := rngOk_of h
  have e : (2 : Int) ^ 62 = 4611686018427387904 := by decide
  rw [e]
  exact q
theorem ii_range1 {p : Pos} (hm : X.mg "range" = none) (ha : PA X [e] (IA X.K X.mg W L)) (hg : Gl X "range" := by rfl) (hs : starEach [e] X.env = [(false, eval e X.env)] := by rfl) : PI X tg (.Call (.Name "range" p) [e] [] pos) (II X.K X.mg W (eRange1 L)) := by
  refine piImp (pi_range1 hg hm ha hs) fun s H Q ⟨as, ρ, hh, f, x, o⟩ => ?_
  refine ⟨as, ρ, hh, f, x, (Out.bind o).imp fun Vs H1 ⟨as1, h1, p1, S1, x1, r1, o1⟩ => ?_⟩
  split at o1
  · obtain ⟨v, rfl, rv⟩ := r1.inv1
    cases rv
    split at o1
    · rename_i hr
      obtain ⟨q1, q2⟩ := rng_of hr
      exact ⟨_, rfl, q1, q2, o1.here x1 ri_range⟩
    · exact o1.elim
  · exact o1.elim
theorem ii_range2 {p : Pos} (hm : X.mg "range" = none) (ha : PA X [a, b] (IA X.K X.mg W L)) (hg : Gl X "range" := by rfl) (hs : starEach [a, b] X.env = [(false, eval a X.env), (false, eval b X.env)] := by rfl) (hs2 : starEach [b] X.env = [(false, eval b X.env)] := by rfl) : PI X tg (.Call (.Name "range" p) [a, b] [] pos) (II X.K X.mg W (eRange2 L)) := by
  refine piImp (pi_range2 hg hm ha hs hs2) fun s H Q ⟨as, ρ, hh, f, x, o⟩ => ?_
  refine ⟨as, ρ, hh, f, x, (Out.bind o).imp fun Vs H1 ⟨as1, h1, p1, S1, x1, r1, o1⟩ => ?_⟩
  split at o1
  · obtain ⟨v, w, rfl, rv, rw'⟩ := r1.inv2
    cases rv
    cases rw'
    split at o1
    · rename_i hr
      obtain ⟨g1, g2⟩ := Bool.and_eq_true_iff.mp hr
      obtain ⟨q1, q2⟩ := rng_of g1
      obtain ⟨q3, q4⟩ := rng_of g2
      exact ⟨_, _, rfl, ⟨q1, q2, q3, q4⟩, o1.here x1 ri_range⟩
    · exact o1.elim
  · exact o1.elim
/-- a value that is walked stays where it stands -/
theorem seq_in {K : PySem.W.Frag} {mg : Str → Option Value} {as : List Addr} {H : Hp} {h : IH} {v : PV} {a : Addr} {xs : List PV} (x : RH K mg H as h) (r : RP K mg H as v (.ref a)) (e : seqOf v h = some xs) :
    ∃ ys, SqK (kindK v) K H a ys ∧ RPs K mg H as xs ys := by
  obtain ⟨b, ys, e1, h1, h2⟩ := seqOf_at x r e
  cases e1
  exact ⟨ys, h1, h2⟩
theorem ri_enum {K : PySem.W.Frag} {mg : Str → Option Value} {as : List Addr} {H : Hp} {v : PV} {a : Addr} (r : RP K mg H as v (.ref a)) : RI K mg H as (itEnum v) (ItE (kindK v) K a) := by
  intro i as' H' h' S x
  unfold itEnum
  cases q : seqOf v h' with
  | none => trivial
  | some xs =>
    obtain ⟨ys, hs, rs⟩ := seq_in x (r.mono S) q
    cases qi : xs[i]? with
    | none =>
      simp only [qi]
      by_cases hl : xs.length = i
      · rw [if_pos hl]
        exact ⟨ys, hs, by rw [← rs.length]; exact hl⟩
      · rw [if_neg hl]
        trivial
    | some p =>
      simp only [qi]
      obtain ⟨w, e3, r3⟩ := rs.get qi
      refine ⟨⟨ys, w, hs, e3⟩, fun y H'' hy => ?_⟩
      obtain ⟨T, z, rfl, nT, rfl, hz⟩ := hy
      have : z = w := Option.some.inj ((hz _ hs).symm.trans e3)
      subst this
      have S2 := Stp.lay (o := .tup [.int (i : Nat), z]) x nT
      exact ⟨S2, x.lay nT, .tup (SqT.of upd_same) (.cons (.int _) (.cons (r3.mono S2) .nil))⟩
theorem ri_zip {K : PySem.W.Frag} {mg : Str → Option Value} {as : List Addr} {H : Hp} {v w : PV} {a b : Addr} (r : RP K mg H as v (.ref a)) (r' : RP K mg H as w (.ref b)) : RI K mg H as (itZip v w) (ItZ (kindK v) (kindK w) K a b) := by
  intro i as' H' h' S x
  unfold itZip
  cases q : seqOf v h' with
  | none => trivial
  | some xs =>
    cases q' : seqOf w h' with
    | none => trivial
    | some ys =>
      obtain ⟨us, hs, rs⟩ := seq_in x (r.mono S) q
      obtain ⟨ws, hs', rs'⟩ := seq_in x (r'.mono S) q'
      have stp : ∀ (hn : xs[i]? = none ∨ ys[i]? = none), match (if i ≤ xs.length ∧ i ≤ ys.length then some none else none : Option (Option PV)) with
          | some (some v) => (ItZ (kindK v) (kindK w) K a b).go i H' ∧ ∀ x H'', (ItZ (kindK v) (kindK w) K a b).yld i H' x H'' → Stp as' H' as' H'' ∧ RH K mg H'' as' h' ∧ RP K mg H'' as' v x
          | some none => ∃ xs ys : List V, SqK (kindK v) K H' a xs ∧ SqK (kindK w) K H' b ys ∧ i ≤ xs.length ∧ i ≤ ys.length ∧ (i = xs.length ∨ i = ys.length)
          | none => True := fun hn => by
        by_cases hl : i ≤ xs.length ∧ i ≤ ys.length
        · rw [if_pos hl]
          have l1 := rs.length
          have l2 := rs'.length
          refine ⟨us, ws, hs, hs', by omega, by omega, ?_⟩
          rcases hn with hn | hn
          · have := List.getElem?_eq_none_iff.mp hn; omega
          · have := List.getElem?_eq_none_iff.mp hn; omega
        · rw [if_neg hl]
          trivial
      cases qi : xs[i]? with
      | none =>
        simp only [qi]
        have z := stp (.inl qi)
        by_cases hl : i ≤ xs.length ∧ i ≤ ys.length
        · rw [if_pos hl] at z ⊢; exact z
        · rw [if_neg hl]; trivial
      | some p =>
        cases qj : ys[i]? with
        | none =>
          simp only [qi, qj]
          have z := stp (.inr qj)
          by_cases hl : i ≤ xs.length ∧ i ≤ ys.length
          · rw [if_pos hl] at z ⊢; exact z
          · rw [if_neg hl]; trivial
        | some p' =>
          simp only [qi, qj]
          obtain ⟨c1, e3, r3⟩ := rs.get qi
          obtain ⟨c2, e4, r4⟩ := rs'.get qj
          refine ⟨⟨us, ws, c1, c2, hs, hs', e3, e4⟩, fun y H'' hy => ?_⟩
          obtain ⟨T, z1, z2, rfl, nT, rfl, g1, g2⟩ := hy
          have f1 : z1 = c1 := Option.some.inj ((g1 _ hs).symm.trans e3)
          have f2 : z2 = c2 := Option.some.inj ((g2 _ hs').symm.trans e4)
          subst f1
          subst f2
          have S2 := Stp.lay (o := .tup [z1, z2]) x nT
          exact ⟨S2, x.lay nT, .tup (SqT.of upd_same) (.cons (r3.mono S2) (.cons (r4.mono S2) .nil))⟩
theorem ii_enum {p : Pos} {elts : List Expr} {kk : Nat} {tpos : Pos} (hm : X.mg "enumerate" = none) (ha : PA X [e] (IA X.K X.mg W L)) (hg : Gl X "enumerate" := by rfl) (hs : starEach [e] X.env = [(false, eval e X.env)] := by rfl) : PI X (.Tuple elts kk tpos) (.Call (.Name "enumerate" p) [e] [] pos) (II X.K X.mg W (eEnum L)) := by
  refine piImp (pi_E hg hm ha hs) fun s H Q ⟨as, ρ, hh, f, x, o⟩ => ?_
  refine ⟨as, ρ, hh, f, x, (Out.bind o).imp fun Vs H1 ⟨as1, h1, p1, S1, x1, r1, o1⟩ => ?_⟩
  split at o1
  · obtain ⟨v, rfl, rv⟩ := r1.inv1
    split at o1
    · rename_i zs hz
      obtain ⟨a, ys, rfl, h2, _⟩ := seqOf_at x1 rv hz
      exact ⟨_, a, ys, rfl, h2, o1.here x1 (ri_enum rv)⟩
    · exact o1.elim
  · exact o1.elim
theorem ii_zip {p : Pos} {elts : List Expr} {kk : Nat} {tpos : Pos} (hm : X.mg "zip" = none) (ha : PA X [a, b] (IA X.K X.mg W L)) (hg : Gl X "zip" := by rfl) (hs : starEach [a, b] X.env = (false, eval a X.env) :: starEach [b] X.env := by rfl) (hpl : (backTo pos (starEach [b] X.env)).any (·.1) = false := by rfl) :
    PI X (.Tuple elts kk tpos) (.Call (.Name "zip" p) [a, b] [] pos) (II X.K X.mg W (eZip L)) := by
  refine piImp (pi_Z hg hm ha hs hpl) fun s H Q ⟨as, ρ, hh, f, x, o⟩ => ?_
  refine ⟨as, ρ, hh, f, x, (Out.bind o).imp fun Vs H1 ⟨as1, h1, p1, S1, x1, r1, o1⟩ => ?_⟩
  split at o1
  · obtain ⟨v, w, rfl, rv, rw'⟩ := r1.inv2
    split at o1
    · rename_i zs zs' hz hz'
      obtain ⟨a, ys, rfl, h2, _⟩ := seqOf_at x1 rv hz
      obtain ⟨b, ys', rfl, h3, _⟩ := seqOf_at x1 rw' hz'
      exact ⟨_, _, a, b, ys, ys', rfl, h2, h3, o1.here x1 (ri_zip rv rw')⟩
    · exact o1.elim
  · exact o1.elim
end
end WR

/-! built-ins, methods of lists, own classes -/
namespace WR
open PySem PySem.Spec PyProof.Rows L2
/-! ### the code -/
@[simp] def pAbs : List PV → IH → Res PV
  | [.int i], h => .ok (.int (if i < 0 then -i else i)) h
  | _, _ => .bad
@[simp] def pMax2 : List PV → IH → Res PV
  | [.int i, .int j], h => .ok (.int (if j > i then j else i)) h
  | _, _ => .bad
@[simp] def pMin2 : List PV → IH → Res PV
  | [.int i, .int j], h => .ok (.int (if j < i then j else i)) h
  | _, _ => .bad
@[simp] def pInt1 : List PV → IH → Res PV
  | [.int i], h => .ok (.int i) h
  | [.bl b], h => .ok (.int (if b then 1 else 0)) h
  | _, _ => .bad
@[simp] def pLen : List PV → IH → Res PV
  | [v], h => (match v with
    | .str y => if y.length ≤ 16777216 then .ok (.int y.length) h else .bad
    | _ => (match seqOf v h with
      | some xs => .ok (.int xs.length) h
      | none => .bad))
  | _, _ => .bad
@[simp] def pList1 : List PV → IH → Res PV
  | [v], h => (match seqOf v h with
    | some xs => .ok (.obj h.length) (h ++ [.lst xs])
    | none => .bad)
  | _, _ => .bad
@[simp] def pTuple1 : List PV → IH → Res PV
  | [v], h => (match seqOf v h with
    | some xs => .ok (.tup xs) h
    | none => .bad)
  | _, _ => .bad
/-- the type of a value: a built-in's name, or an own class's -/
@[simp] def tyOf : PV → IH → Option (String ⊕ Str)
  | .non, _ => some (.inl "NoneType")
  | .bl _, _ => some (.inl "bool")
  | .int _, _ => some (.inl "int")
  | .str _, _ => some (.inl "str")
  | .tup _, _ => some (.inl "tuple")
  | .fls _, _ => some (.inl "list")
  | .obj n, h => (match h[n]? with
    | some (.lst _) => some (.inl "list")
    | some (.ins c _) => some (.inr c)
    | some (.dct _) => some (.inl "dict")
    | _ => none)
  | _, _ => none
def tyNames : List String := ["NoneType", "bool", "int", "str", "tuple", "list", "dict"]
def subTy (a b : String) : Bool := a == b || (a == "bool" && b == "int")
/-- isinstance(x, c), the own classes being cs -/
@[simp] def pIsi (cs : List Str) : List PV → IH → Res PV
  | [x, c], h => (match tyOf x h, c with
    | some (.inl a), .ty n => if tyNames.contains n then .ok (.bl (subTy a n)) h else .bad
    | some (.inl _), .glo C => if cs.contains C then .ok (.bl false) h else .bad
    | some (.inr D), .glo C => if cs.contains C && cs.contains D then .ok (.bl (D == C)) h else .bad
    | some (.inr D), .ty n => if cs.contains D && tyNames.contains n then .ok (.bl false) h else .bad
    | _, _ => .bad)
  | _, _ => .bad
@[simp] def eAppend (A : EX) (L : AX) : EX := fun r h => (A r h).bind fun x h1 => match x with
  | .obj n => (match h1[n]? with
    | some (.lst _) => (L r h1).bind fun vs h2 => (match vs, h2[n]? with
      | [y], some (.lst xs) => if xs.length < 16777216 then .ok .non (h2.set n (.lst (xs ++ [y]))) else .bad
      | _, _ => .bad)
    | _ => .bad)
  | _ => .bad
@[simp] def sSetIx (O I V : EX) : SX := fun r h => toS ((V r h).bind fun v h1 => (O r h1).bind fun o h2 => (I r h2).bind fun i h3 => (match o, i with
    | .obj n, .int k => (match h3[n]? with
      | some (.lst xs) => (match ixN xs.length k with
        | some j => Res.ok () (h3.set n (.lst (xs.set j v)))
        | none => .bad)
      | _ => .bad)
    | _, _ => .bad)) r fun _ h1 => .nx r h1
@[simp] def putP (f : Str) (v : PV) : List (Str × PV) → List (Str × PV)
  | [] => [(f, v)]
  | (g, y) :: r => if g = f then (g, v) :: r else (g, y) :: putP f v r
@[simp] def eFld (c f : Str) (A : EX) : EX := fun r h => (A r h).bind fun x h1 => match x with
  | .obj n => (match h1[n]? with
    | some (.ins c' fs) => if c' = c then opt (fs.lookup f) h1 else .bad
    | _ => .bad)
  | _ => .bad
@[simp] def sFldX (c f : Str) (A V : EX) : SX := fun r h => toS ((V r h).bind fun v h1 => (A r h1).bind fun x h2 => (match x with
    | .obj n => (match h2[n]? with
      | some (.ins c' fs) => if c' = c ∧ fs.length < 1000 then Res.ok () (h2.set n (.ins c (putP f v fs))) else .bad
      | _ => .bad)
    | _ => .bad)) r fun _ h1 => .nx r h1
/-- C(..): a new instance, then __init__ -/
def mk (c : Str) (F : List PV → IH → Res PV) : List PV → IH → Res PV := fun us h => (F (.obj h.length :: us) (h ++ [.ins c []])).bind fun _ h1 => .ok (.obj h.length) h1
/-- o.m(..) -/
@[simp] def eMeth (c m : Str) (F : List PV → IH → Res PV) (A : EX) (L : AX) : EX := fun r h => (A r h).bind fun x h1 => match x with
  | .obj n => (match h1[n]? with
    | some (.ins c' fs) => if c' = c ∧ fs.lookup m = none then (L r h1).bind fun vs h2 => F (x :: vs) h2 else .bad
    | _ => .bad)
  | _ => .bad
/-- a call that lets no exception out -/
@[simp] def noX {α : Type} : Res α → Res α
  | .ok a h => .ok a h
  | _ => .bad
@[simp] def eProp (c : Str) (F : List PV → IH → Res PV) (A : EX) : EX := fun r h => (A r h).bind fun x h1 => match x with
  | .obj n => (match h1[n]? with
    | some (.ins c' _) => if c' = c then noX (F [x] h1) else .bad
    | _ => .bad)
  | _ => .bad
/-- len(o), == of own classes -/
@[simp] def pLenO (c : Str) (F : List PV → IH → Res PV) : List PV → IH → Res PV
  | [x], h => (match x with
    | .obj n => (match h[n]? with
      | some (.ins c' _) => if c' = c then (match F [x] h with
        | .ok (.int i) h1 => if 0 ≤ i ∧ i < 9223372036854775808 then .ok (.int i) h1 else .bad
        | _ => .bad) else .bad
      | _ => .bad)
    | _ => .bad)
  | _, _ => .bad
@[simp] def isTupOr (c : Str) (y : PV) (h : IH) : Bool := match y with
  | .tup _ => true
  | .obj n => (match h[n]? with
    | some (.ins c' _) => c' == c
    | _ => false)
  | _ => false
@[simp] def pEqO (c : Str) (F : List PV → IH → Res PV) (x y : PV) (h : IH) : Res PV := match x with
  | .obj n => (match h[n]? with
    | some (.ins c' _) => if c' = c ∧ isTupOr c y h = true then (match F [x, y] h with
      | .ok (.bl b) h1 => .ok (.bl b) h1
      | _ => .bad) else .bad
    | _ => .bad)
  | _ => .bad
/-! ### the rules -/
section
variable {X : Cx} {W : WX} {k : Nat} {a b e o : Expr} {es : List Expr} {pos : Pos} {A B C : EX} {L : AX}
theorem ie_callB {id : String} {x : Str} {p : Pos} {r : List V → Hp → VK → Prop} {f : List PV → IH → Res PV} (hc : CallR X (.builtin id) r) (hf : SndC X.K X.mg f r) (hm : X.mg x = none) (hv : bootBuiltins x = some (.builtin id)) (ha : PA X (e :: es) (IA X.K X.mg W L)) (hg : Gl X x := by rfl) (hn : x ≠ "__name__" := by decide) (hdb : (x == ("__debug__" : Str)) = false := by decide)
    (he : starEach (e :: es) X.env = (false, eval e X.env) :: starEach es X.env := by rfl) (hpl : (backTo pos (starEach es X.env)).any (·.1) = false := by rfl) : PE X (.Call (.Name x p) (e :: es) [] pos) (IE X.K X.mg W (eB f L)) := by
  refine peImp (pe_callB hc hg hm hv ha hn hdb he hpl) fun s H Q ⟨as, ρ, hh, g, z, o⟩ => ?_
  exact ⟨as, ρ, hh, g, z, (Out.bind o).imp fun Vs H1 ⟨as1, h1, p1, S1, x1, r1, o1⟩ => hf x1 r1 o1⟩
theorem ie_callT {T : String} {x : Str} {p : Pos} {r : List V → Hp → VK → Prop} {f : List PV → IH → Res PV} (hc : CallR X (.type T) r) (hf : SndC X.K X.mg f r) (hm : X.mg x = none) (hv : bootBuiltins x = some (.type T)) (ha : PA X (e :: es) (IA X.K X.mg W L)) (hg : Gl X x := by rfl) (hn : x ≠ "__name__" := by decide) (hdb : (x == ("__debug__" : Str)) = false := by decide)
    (he : starEach (e :: es) X.env = (false, eval e X.env) :: starEach es X.env := by rfl) (hpl : (backTo pos (starEach es X.env)).any (·.1) = false := by rfl) : PE X (.Call (.Name x p) (e :: es) [] pos) (IE X.K X.mg W (eB f L)) := by
  refine peImp (pe_callTy hc hg hm hv ha hn hdb he hpl) fun s H Q ⟨as, ρ, hh, g, z, o⟩ => ?_
  exact ⟨as, ρ, hh, g, z, (Out.bind o).imp fun Vs H1 ⟨as1, h1, p1, S1, x1, r1, o1⟩ => hf x1 r1 o1⟩
variable {K : PySem.W.Frag} {mg : Str → Option Value}
theorem snd_abs : SndC K mg pAbs (fun xs H Q => ∃ i, xs = [.int i] ∧ Q (.int (if i < 0 then -i else i)) H) := by
  intro W s as H h xs Us Q rh rs o
  unfold pAbs at o
  split at o
  · obtain ⟨v, rfl, rv⟩ := rs.inv1; cases rv; exact ⟨_, rfl, o.here rh (.int _)⟩
  · exact o.elim
theorem snd_max2 : SndC K mg pMax2 (fun xs H Q => ∃ i j, xs = [.int i, .int j] ∧ Q (.int (if j > i then j else i)) H) := by
  intro W s as H h xs Us Q rh rs o
  unfold pMax2 at o
  split at o
  · obtain ⟨v, w, rfl, rv, rw'⟩ := rs.inv2; cases rv; cases rw'; exact ⟨_, _, rfl, o.here rh (.int _)⟩
  · exact o.elim
theorem snd_min2 : SndC K mg pMin2 (fun xs H Q => ∃ i j, xs = [.int i, .int j] ∧ Q (.int (if j < i then j else i)) H) := by
  intro W s as H h xs Us Q rh rs o
  unfold pMin2 at o
  split at o
  · obtain ⟨v, w, rfl, rv, rw'⟩ := rs.inv2; cases rv; cases rw'; exact ⟨_, _, rfl, o.here rh (.int _)⟩
  · exact o.elim
theorem snd_int1 : SndC K mg pInt1 (fun xs H Q => (∃ i, xs = [.int i] ∧ Q (.int i) H) ∨ ∃ k, xs = [.bl k] ∧ Q (.int (if k then 1 else 0)) H) := by
  intro W s as H h xs Us Q rh rs o
  unfold pInt1 at o
  split at o
  · obtain ⟨v, rfl, rv⟩ := rs.inv1; cases rv; exact .inl ⟨_, rfl, o.here rh (.int _)⟩
  · obtain ⟨v, rfl, rv⟩ := rs.inv1; cases rv; exact .inr ⟨_, rfl, o.here rh (.int _)⟩
  · exact o.elim
theorem SqK.or {t : Bool} {H : Hp} {a : Addr} {ys : List V} (h : SqK t K H a ys) : SqL K H a ys ∨ SqT K H a ys := by
  cases t with
  | true => exact .inr h
  | false => exact .inl h
theorem snd_len : SndC K mg pLen (fun xs H Q => ∃ x n, xs = [x] ∧ LenV K x H n ∧ Q (.int n) H) := by
  intro W s as H h xs Us Q rh rs o
  unfold pLen at o
  split at o
  · obtain ⟨v, rfl, rv⟩ := rs.inv1
    split at o
    · cases rv
      split at o
      · rename_i hl
        exact ⟨_, _, rfl, ⟨by rw [sizeLine_eq]; exact hl, rfl⟩, o.here rh (.int _)⟩
      · exact o.elim
    · split at o
      · rename_i zs hz
        obtain ⟨a, ys, rfl, h1, r1⟩ := seqOf_at rh rv hz
        refine ⟨_, _, rfl, ?_, o.here rh (.int _)⟩
        rcases SqK.or h1 with h1 | h1
        · exact .inl ⟨ys, h1, r1.length⟩
        · exact .inr ⟨ys, h1, r1.length⟩
      · exact o.elim
  · exact o.elim
theorem snd_list1 : SndC K mg pList1 (fun xs H Q => ∃ p ys, xs = [.ref p] ∧ (SqL K H p ys ∨ SqT K H p ys) ∧ ∀ l, H l = none → Q (.ref l) (upd H l (.lst ys))) := by
  intro W s as H h xs Us Q rh rs o
  unfold pList1 at o
  split at o
  · obtain ⟨v, rfl, rv⟩ := rs.inv1
    split at o
    · rename_i p _ zs hz
      obtain ⟨a, ys, rfl, h1, r1⟩ := seqOf_at rh rv hz
      refine ⟨_, ys, rfl, ?_, fun l nl => ?_⟩
      · cases hk : kindK p with
        | true => rw [hk] at h1; exact .inr h1
        | false => rw [hk] at h1; exact .inl h1
      · have S := Stp.new (o := .lst ys) rh nl
        refine o _ _ _ S (rh.new nl ⟨_, upd_same, r1.mono S⟩) (.obj ?_)
        rw [List.getElem?_append_right (by rw [rh.len]; exact Nat.le_refl _), rh.len, Nat.sub_self]
        rfl
    · exact o.elim
  · exact o.elim
theorem snd_tuple1 : SndC K mg pTuple1 (fun xs H Q => ∃ p ys, xs = [.ref p] ∧ ((SqL K H p ys ∧ ∀ l, H l = none → Q (.ref l) (upd H l (.tup ys))) ∨ (SqT K H p ys ∧ Q (.ref p) H))) := by
  intro W s as H h xs Us Q rh rs o
  unfold pTuple1 at o
  split at o
  · obtain ⟨v, rfl, rv⟩ := rs.inv1
    split at o
    · rename_i p _ zs hz
      obtain ⟨a, ys, rfl, h1, r1⟩ := seqOf_at rh rv hz
      refine ⟨_, ys, rfl, ?_⟩
      cases hk : kindK p with
      | true =>
        rw [hk] at h1
        exact .inr ⟨h1, o.here rh (.tup h1 r1)⟩
      | false =>
        rw [hk] at h1
        exact .inl ⟨h1, fun l nl => o _ _ _ (Stp.lay rh nl) (rh.lay nl) (.tup (SqT.of upd_same) (r1.mono (Stp.lay rh nl)))⟩
    · exact o.elim
  · exact o.elim
/-! ### own classes -/
/-- what the top says of an own class -/
structure OwnC (K : PySem.W.Frag) (mg : Str → Option Value) (c : Str) (C : Addr) : Prop where
  gC : mg c = some (.ref C)
  cl : Cls K C
  ha : PySem.W.findIn K (.ref C) "__class__" = some (some (.builtin "object.__class__"))
  hn : PySem.W.specialIn K (.builtin "object.__class__") "__get__" = some (some (.builtin "getset_descriptor.__get__"))
  htk : PySem.W.takesIn K (.builtin "object.__class__") = some true
  hm : PySem.W.mroIn K C (.type "object") = some true
  bi : ∀ n, tyNames.contains n = true → PySem.W.kitOne K (.type n) (.ref C) = some false
  bo : ∀ n, tyNames.contains n = true → PySem.W.kitOne K (.ref C) (.type n) = some false
/-- .. and of all of them together -/
structure OwnCs (K : PySem.W.Frag) (mg : Str → Option Value) (cs : List Str) : Prop where
  one : ∀ c, cs.contains c = true → ∃ C, OwnC K mg c C
  two : ∀ c d C D, cs.contains c = true → cs.contains d = true → mg c = some (.ref C) → mg d = some (.ref D) → PySem.W.kitOne K (.ref D) (.ref C) = some (d == c)
theorem sub_kit : ∀ a ∈ tyNames, ∀ b ∈ tyNames, kitB a b = some (subTy a b) := by decide +kernel
theorem ty_in {v : PV} {h : IH} {a : String} (e : tyOf v h = some (.inl a)) : a ∈ tyNames := by
  cases v with
  | non => cases e; decide
  | bl => cases e; decide
  | int => cases e; decide
  | str => cases e; decide
  | tup => cases e; decide
  | fls => cases e; decide
  | obj n =>
    simp only [tyOf] at e
    split at e
    · cases e; decide
    · cases e
    · cases e; decide
    · cases e
  | glo => cases e
  | ty => cases e
  | key => cases e
theorem mem_of_contains {α : Type} [BEq α] [LawfulBEq α] {a : α} {l : List α} (h : l.contains a = true) : a ∈ l := by simpa using h
theorem tyX_of {as : List Addr} {H : Hp} {h : IH} {v : PV} {V : V} {cs : List Str} (O : OwnCs K mg cs) (x : RH K mg H as h) (r : RP K mg H as v V) {q : String ⊕ Str} (e : tyOf v h = some q) (hc : ∀ c, q = .inr c → cs.contains c = true) :
    ∃ t, TyX K H V t ∧ match q with
      | .inl a => t = .type a
      | .inr c => ∃ C, OwnC K mg c C ∧ t = .ref C := by
  cases r with
  | non => cases e; exact ⟨_, .base .non, rfl⟩
  | bl b => cases e; exact ⟨_, .base (.bl b), rfl⟩
  | int i => cases e; exact ⟨_, .base (.int i), rfl⟩
  | str y => cases e; exact ⟨_, .base (.str y), rfl⟩
  | tup hs rs =>
    cases e
    rcases hs with (hs | ⟨o, hs⟩) | ⟨o, its, n, h1, h2, _⟩
    · exact ⟨_, .base (.tup hs), rfl⟩
    · exact ⟨_, .fTuple hs, rfl⟩
    · exact ⟨_, .kTuple h1 h2, rfl⟩
  | fls hs rs =>
    cases e
    rcases hs with ⟨o, hs⟩ | ⟨o, its, n, h1, h2, _⟩
    · exact ⟨_, .base (.frz hs), rfl⟩
    · exact ⟨_, .kList h1 h2, rfl⟩
  | obj ha =>
    simp only [tyOf] at e
    split at e
    · rename_i zs hz
      cases e
      obtain ⟨b, e1, ys, e2, rs⟩ := x.at_ _ _ hz
      rw [ha] at e1; cases e1
      exact ⟨_, .base (.lst e2), rfl⟩
    · rename_i c fs hz
      cases e
      obtain ⟨b, e1, C, dx, gs, g0, e2, _⟩ := x.at_ _ _ hz
      rw [ha] at e1; cases e1
      obtain ⟨C', oc⟩ := O.one c (hc c rfl)
      have : C' = C := by
        have := oc.gC.symm.trans g0
        cases this
        rfl
      subst this
      exact ⟨_, .base (.ins e2 oc.cl oc.ha oc.hn oc.htk oc.hm), C', oc, rfl⟩
    · rename_i kvs hz
      cases e
      obtain ⟨b, e1, gs, e2, _⟩ := x.at_ _ _ hz
      rw [ha] at e1; cases e1
      exact ⟨_, .base (.dT e2), rfl⟩
    · cases e
  | glo => cases e
  | ty => cases e
  | key => cases e
theorem snd_isi {cs : List Str} (O : OwnCs K mg cs) : SndC K mg (pIsi cs) (rIsi K) := by
  intro W s as H h xs Us Q rh rs o
  unfold pIsi at o
  split at o
  · obtain ⟨v, w, rfl, rv, rw'⟩ := rs.inv2
    split at o
    · rename_i a n e
      split at o
      · rename_i hn
        obtain ⟨t, h1, rfl⟩ := tyX_of O rh rv e (fun c z => nomatch z)
        cases rw'
        exact ⟨_, _, _, _, _, rfl, .ty n, h1, kit_ty (sub_kit _ (ty_in e) _ (mem_of_contains hn)), o.here rh (.bl _)⟩
      · exact o.elim
    · rename_i a C e
      split at o
      · rename_i hn
        obtain ⟨t, h1, rfl⟩ := tyX_of O rh rv e (fun c z => nomatch z)
        obtain ⟨D, oc⟩ := O.one _ hn
        cases rw' with
        | glo g1 g2 =>
          rw [oc.gC] at g1
          cases g1
          have g3 : w = .ref D := by
            cases w <;> first | (obtain ⟨_, z⟩ := g2; cases z) | cases g2
            all_goals rfl
          subst g3
          exact ⟨_, _, _, _, _, rfl, .own D, h1, oc.bi _ (by simpa using ty_in e), o.here rh (.bl _)⟩
      · exact o.elim
    · rename_i D C e
      split at o
      · rename_i hn
        obtain ⟨n1, n2⟩ := Bool.and_eq_true_iff.mp hn
        obtain ⟨t, h1, E', oc, rfl⟩ := tyX_of O rh rv e (fun c z => by cases z; exact n2)
        obtain ⟨G, oc'⟩ := O.one _ n1
        cases rw' with
        | glo g1 g2 =>
          rw [oc'.gC] at g1
          cases g1
          have g3 : w = .ref G := by
            cases w <;> first | (obtain ⟨_, z⟩ := g2; cases z) | cases g2
            all_goals rfl
          subst g3
          exact ⟨_, _, _, _, _, rfl, .own G, h1, O.two _ _ _ _ n1 n2 oc'.gC oc.gC, o.here rh (.bl _)⟩
      · exact o.elim
    · rename_i D n e
      split at o
      · rename_i hn
        obtain ⟨n1, n2⟩ := Bool.and_eq_true_iff.mp hn
        obtain ⟨t, h1, E', oc, rfl⟩ := tyX_of O rh rv e (fun c z => by cases z; exact n1)
        cases rw'
        exact ⟨_, _, _, _, _, rfl, .ty n, h1, oc.bo _ n2, o.here rh (.bl _)⟩
      · exact o.elim
    · exact o.elim
  · exact o.elim

/-! ### lists, fields -/
theorem ie_append {apos : Pos} (ho : PE X o (IE X.K X.mg W A)) (ha : PA X (e :: es) (IA X.K X.mg W L)) (hbase : attributeBase o "append" X.env (eval o X.env) = eval o X.env := by rfl)
    (hfew : ((backTo pos (starEach (e :: es) X.env)).all (fun x => !x.1) && (backToKw pos (keywordEach [] X.env)).all (fun x => x.1.isSome)
      && decide ((e :: es).length + ([] : List Keyword).length + (if ([] : List Keyword).isEmpty then 0 else 1) < 30)) = true := by rfl)
    (hline : (apos.endLine == pos.line) = true := by rfl) (hs : starEach (e :: es) X.env = (false, eval e X.env) :: starEach es X.env := by rfl) (hplain : (backTo pos (starEach es X.env)).any (·.1) = false := by rfl) :
    PE X (.Call (.Attribute o "append" apos) (e :: es) [] pos) (IE X.K X.mg W (eAppend A L)) := by
  refine peImp (pe_bm PySem.F.plainAttrs_list PySem.F.slot_list_append PySem.F.type_list_append mt_append ho ha hbase hfew hline hs hplain) fun s H Q ⟨as, ρ, hh, f, x, o⟩ => ?_
  refine ⟨as, ρ, hh, f, x, (Out.bind o).imp fun V H1 ⟨as1, h1, p1, S1, x1, r1, o1⟩ => ?_⟩
  split at o1
  · rename_i n
    cases r1 with
    | obj hn =>
      split at o1
      · rename_i ys hy
        obtain ⟨b, e1, us, e2, rs⟩ := x1.at_ _ _ hy
        rw [hn] at e1; cases e1
        refine ⟨.inl ⟨rfl, _, SqL.of e2⟩, as1, ρ, h1, f.mono S1, x1, (Out.bind o1).imp fun Vs H2 ⟨as2, h2, p2, S2, x2, r2, o2⟩ => ?_⟩
        split at o2
        · rename_i y xs hx
          split at o2
          · rename_i hl
            obtain ⟨v, rfl, rv⟩ := r2.inv1
            obtain ⟨b', e3, ws, e4, rs'⟩ := x2.at_ _ _ hx
            have hn2 := S2.get hn
            rw [hn2] at e3; cases e3
            refine ⟨_, ws, v, rfl, rfl, e4, by rw [sizeLine_eq, ← rs'.length]; exact hl, ?_⟩
            have S3 := Stp.put (o := .lst (ws ++ [v])) x2 hn2 hx
            exact o2 _ _ _ S3 (x2.put hn2 hx ⟨_, upd_same, (rs'.append (.one rv)).mono S3⟩) .non
          · exact o2.elim
        · exact o2.elim
      · exact o1.elim
  · exact o1.elim
theorem is_setix {i v : Expr} {ppos : Pos} {O I V : EX} (hv : PE X v (IE X.K X.mg W V)) (ho : PE X o (IE X.K X.mg W O)) (hi : PE X i (IE X.K X.mg W I))
    (hset : ∀ v, assign (.Subscript o i ppos) X.env v = (do
      let ov ← holding [v] (eval o X.env)
      let iv ← holding [v, ov] (eval i X.env)
      standAt ppos
      holding [v, ov, iv] (setItem ov iv v)
      release [v, ov, iv] []) := by intro _; rfl)
    (hs : swapsWithSole [.Subscript o i ppos] v pos.line X.env = pure false := by rfl) (hw : swappedStores [.Subscript o i ppos] v X.env = pure none := by rfl)
    (h1 : (assignEach [.Subscript o i ppos] X.env).map (·.2) = [assign (.Subscript o i ppos) X.env] := by rfl) : PS X (.Assign [.Subscript o i ppos] v pos) (IS X.K X.mg W (sSetIx O I V)) := by
  refine psImp (ps_asg hv (pg_sub ho hi set_list hset) hs hw h1) fun D s H ⟨as, r, h, f, x, out⟩ => ?_
  have o' := outS_of (R := fun _ _ (_ : Unit) (_ : Unit) => True) f out
  refine ⟨as, r, h, f, x, (Out.bind o').imp fun U H1 ⟨as1, h1, p1, S1, x1, r1, o1⟩ => ?_⟩
  refine ⟨as1, r, h1, f.mono S1, x1, (Out.bind o1).imp fun U2 H2 ⟨as2, h2, p2, S2, x2, r2, o2⟩ => ?_⟩
  refine ⟨as2, r, h2, (f.mono S1).mono S2, x2, (Out.bind o2).imp fun U3 H3 ⟨as3, h3, p3, S3, x3, r3, o3⟩ => ?_⟩
  have r2' := r2.mono S3
  have r1' := (r1.mono S2).mono S3
  split at o3
  · cases r2' with
    | obj hn =>
      cases r3
      split at o3
      · rename_i xs hx
        split at o3
        · rename_i j hj
          obtain ⟨b, e1, us, e2, rs⟩ := x3.at_ _ _ hx
          rw [hn] at e1; cases e1
          refine ⟨_, us, _, j, rfl, rfl, e2, by rw [← rs.length]; exact hj, ?_⟩
          have S4 := Stp.put (o := .lst (us.set j U)) x3 hn hx
          obtain ⟨as5, h5, _, S5, x5, _, o5⟩ := o3 () _ _ S4 (x3.put hn hx ⟨_, upd_same, (RPs.set r1' j rs).mono S4⟩) trivial
          exact o5 s _ as5 (Stp.refl _ _) x5 (f.mono S5)
        · exact o3.elim
      · exact o3.elim
  · exact o3.elim
/-- the fields of an instance -/
theorem fld_at {as : List Addr} {H : Hp} : ∀ {fs : List (Str × PV)} {gs : List (Str × V)} {f : Str} {v : PV}, gs.map (·.1) = fs.map (·.1) → RPs K mg H as (fs.map (·.2)) (gs.map (·.2)) → fs.lookup f = some v → ∃ V, gs.lookup f = some V ∧ RP K mg H as v V
  | [], _, _, _, _, _, e => by cases e
  | _ :: _, [], _, _, h, _, _ => by cases h
  | (n, p) :: fs, (m, q) :: gs, f, v, h, r, e => by
    rw [List.map_cons, List.map_cons] at h
    injection h with h1 h2
    have h1' : m = n := h1
    subst h1'
    cases r with
    | cons a b =>
      simp only [List.lookup] at e ⊢
      split at e
      · cases e
        exact ⟨q, rfl, a⟩
      · exact fld_at h2 b e
theorem fld_none {fs : List (Str × PV)} {gs : List (Str × V)} {f : Str} (h : gs.map (·.1) = fs.map (·.1)) (e : fs.lookup f = none) : gs.lookup f = none := by
  induction fs generalizing gs with
  | nil =>
    cases gs with
    | nil => rfl
    | cons _ _ => cases h
  | cons p fs ih =>
    cases gs with
    | nil => cases h
    | cons q gs =>
      obtain ⟨n, p⟩ := p
      obtain ⟨m, q⟩ := q
      rw [List.map_cons, List.map_cons] at h
      injection h with h1 h2
      have h1' : m = n := h1
      subst h1'
      simp only [List.lookup] at e ⊢
      split at e
      · cases e
      · exact ih h2 e
theorem put_keys (f : Str) (v : PV) (V : V) : ∀ {fs : List (Str × PV)} {gs : List (Str × L2.V)}, gs.map (·.1) = fs.map (·.1) → (putF f V gs).map (·.1) = (putP f v fs).map (·.1)
  | [], [], _ => rfl
  | [], _ :: _, h => by cases h
  | _ :: _, [], h => by cases h
  | (n, p) :: fs, (m, q) :: gs, h => by
    rw [List.map_cons, List.map_cons] at h
    injection h with h1 h2
    have h1' : m = n := h1
    subst h1'
    unfold putF putP
    split
    · rw [List.map_cons, List.map_cons, h2]
    · rw [List.map_cons, List.map_cons, put_keys f v V h2]
theorem put_vals {as : List Addr} {H : Hp} {f : Str} {v : PV} {V : V} (rv : RP K mg H as v V) : ∀ {fs : List (Str × PV)} {gs : List (Str × L2.V)}, gs.map (·.1) = fs.map (·.1) → RPs K mg H as (fs.map (·.2)) (gs.map (·.2)) → RPs K mg H as ((putP f v fs).map (·.2)) ((putF f V gs).map (·.2))
  | [], [], _, _ => .one rv
  | [], _ :: _, h, _ => by cases h
  | _ :: _, [], h, _ => by cases h
  | (n, p) :: fs, (m, q) :: gs, h, r => by
    rw [List.map_cons, List.map_cons] at h
    injection h with h1 h2
    have h1' : m = n := h1
    subst h1'
    cases r with
    | cons a b =>
      unfold putF putP
      split
      · exact .cons rv b
      · exact .cons a (put_vals rv h2 b)
theorem ie_fld {c f : Str} {Cc : Addr} (gc : X.mg c = some (.ref Cc)) (cl : Cls X.K Cc) (na : NoAttr X.K Cc f) (he : PE X e (IE X.K X.mg W A)) (hb : attributeBase e f X.env (eval e X.env) = eval e X.env := by rfl) : PE X (.Attribute e f pos) (IE X.K X.mg W (eFld c f A)) := by
  refine peImp (pe_fld he hb) fun s H Q ⟨as, ρ, hh, g, x, o⟩ => ?_
  refine ⟨as, ρ, hh, g, x, (Out.bind o).imp fun V H1 ⟨as1, h1, p1, S1, x1, r1, o1⟩ => ?_⟩
  split at o1
  · cases r1 with
    | obj hn =>
      split at o1
      · rename_i c' fs hx
        split at o1
        · rename_i hc
          subst hc
          obtain ⟨b, e1, C', dx, gs, g0, e2, e3, rs⟩ := x1.at_ _ _ hx
          rw [hn] at e1; cases e1
          rw [gc] at g0; cases g0
          unfold opt at o1
          split at o1
          · rename_i v hv
            obtain ⟨V', l1, rv⟩ := fld_at e3 rs hv
            exact ⟨_, _, dx, gs, V', rfl, e2, cl, na, l1, o1.here x1 rv⟩
          · exact o1.elim
        · exact o1.elim
      · exact o1.elim
  · exact o1.elim
theorem is_fld {c f : Str} {Cc : Addr} {v : Expr} {V : EX} {ppos : Pos} (gc : X.mg c = some (.ref Cc)) (cl : Cls X.K Cc) (na : NoAttr X.K Cc f) (ha : PE X o (IE X.K X.mg W A)) (hv : PE X v (IE X.K X.mg W V)) (hs : swapsWith v (some (.Attribute o f ppos)) pos.line X.env = pure false := by rfl) :
    PS X (.Assign [.Attribute o f ppos] v pos) (IS X.K X.mg W (sFldX c f A V)) := by
  refine psImp (ps_fld ha hv hs) fun D s H ⟨as, r, h, g, x, out⟩ => ?_
  have o' := outS_of (R := fun _ _ (_ : Unit) (_ : Unit) => True) g out
  refine ⟨as, r, h, g, x, (Out.bind o').imp fun U H1 ⟨as1, h1, p1, S1, x1, r1, o1⟩ => ?_⟩
  refine ⟨as1, r, h1, g.mono S1, x1, (Out.bind o1).imp fun U2 H2 ⟨as2, h2, p2, S2, x2, r2, o2⟩ => ?_⟩
  have r1' := r1.mono S2
  split at o2
  · cases r2 with
    | obj hn =>
      split at o2
      · rename_i c' fs hx
        split at o2
        · rename_i hc
          obtain ⟨hc, hl⟩ := hc
          subst hc
          obtain ⟨b, e1, C', dx, gs, g0, e2, e3, rs⟩ := x2.at_ _ _ hx
          rw [hn] at e1; cases e1
          rw [gc] at g0; cases g0
          have el : gs.length = fs.length := by
            have := congrArg List.length e3
            simpa using this
          refine ⟨_, _, dx, gs, rfl, e2, cl, na, by rw [el]; exact hl, ?_⟩
          have S3 := Stp.put (o := .ins Cc dx (putF f U gs)) x2 hn hx
          obtain ⟨as5, h5, _, S5, x5, _, o5⟩ := o2 () _ _ S3 (x2.put hn hx ⟨Cc, dx, _, gc, upd_same, put_keys f _ U e3, put_vals (r1'.mono S3) e3 (rs.mono S3)⟩) trivial
          exact o5 s _ as5 (Stp.refl _ _) x5 (g.mono S5)
        · exact o2.elim
      · exact o2.elim
  · exact o2.elim
end
end WR

/-! instances made, methods, properties, own len and ==; chains of comparisons -/
namespace WR
open PySem PySem.Spec PyProof.Rows L2
@[simp] def mkO (c : Str) (F : List PV → IH → Res PV) : List PV → IH → Res PV := fun us h => (F (.obj h.length :: us) (h ++ [.ins c []])).bind fun v h1 => match v with
  | .non => .ok (.obj h.length) h1
  | _ => .bad
section
variable {X : Cx} {CX : CXT} {k : Nat} {f C : Addr} {fd : FuncData} {ps : List Str} {sp : Sp} {E : L2.St → XK} {x m : Str} {p pos apos : Pos} {e o : Expr} {es : List Expr} {ta : TE} {t : TA}
theorem run_makeS {pins : List (Addr × Obj)} {σ : L2.St} {H : Hp} {s : Shared} {Q : VK} {us : List Value} {vs : List V} (M : Mk X.K C f) (F : FnOk X.prog X.w X.K X.mg X.base CX k f fd ps sp) (hr : Room (k + 1) X.A) (hb : Binds X.K fd ps [])
    (hx : PassesAt CX X σ (E σ)) (I : Inv X pins σ H s) (r : Vals vs us)
    (h : ∀ x dx, H x = none → H dx = none → dx ≠ x → sp (.ref x :: vs) (upd (upd H dx (.own x)) x (.ins C dx [])) (fun v H2 => v = .non ∧ Q (.ref x) H2) (E σ)) :
    wpAny (model X.prog X.w) X.A (call (.ref C) us) (EP X pins σ Q) X.xe s := by
  have hq := h (s.heap.objs.size + 1) s.heap.objs.size (I.hok.fresh (Nat.le_succ _)) (I.hok.fresh (Nat.le_refl _)) (Nat.ne_of_lt (Nat.lt_succ_self _))
  have I2 := Inv.made (C := C) I
  have r2 : Vals (V.ref (s.heap.objs.size + 1) :: vs) (Value.ref (s.heap.objs.size + 1) :: us) := .cons rfl r
  have hl : (Value.ref (s.heap.objs.size + 1) :: us).length = ps.length := by
    have e := r2.length
    rw [F.len _ _ _ _ hq] at e
    exact e.symm
  have bb := hb _ (Value.ref (s.heap.objs.size + 1) :: us) I2.kIn (by rw [List.append_nil]; exact hl)
  rw [List.append_nil] at bb
  refine wpAny_call (make_map (f := f) I.kIn M.makes M.init (beq_iff_eq.mp M.fn) (codeAny_mono (F.run _ X.stack _ _ ⟨Value.ref (s.heap.objs.size + 1) :: us, []⟩ (Value.ref (s.heap.objs.size + 1) :: us) _ _ (E σ) (hr.make C us [])
    (I2.env0.make C us []) bb r2 hq) fun r s' hq' => ?_))
  cases r with
  | error e => exact hx pins _ _ e s' I2 hq'
  | ok fl =>
    cases fl with
    | ret u =>
      obtain ⟨v, H', I3, rv, ev, q3⟩ := I2.after hq'
      subst ev
      exact ⟨rv, ⟨V.ref (s.heap.objs.size + 1), H', I3, rfl, q3⟩⟩
    | next => exact False.elim hq'
    | brk => exact False.elim hq'
    | cont => exact False.elim hq'
def tMakeS (C : Addr) (sp : Sp) (E : L2.St → XK) (t : TA) : TE := fun σ H Q => t σ H fun vs H1 => ∀ x dx, H1 x = none → H1 dx = none → dx ≠ x →
  sp (.ref x :: vs) (upd (upd H1 dx (.own x)) x (.ins C dx [])) (fun v H2 => v = .non ∧ Q (.ref x) H2) (E σ)
theorem pe_makeS (M : Mk X.K C f) (F : FnOk X.prog X.w X.K X.mg X.base CX k f fd ps sp) (hr : Room (k + 1) X.A) (hg : Gl X x) (hm : X.mg x = some (.ref C)) (hb : Binds X.K fd ps []) (hx : ∀ σ, PassesAt CX X σ (E σ))
    (ha : PA X (e :: es) t) (hdb : (x == ("__debug__" : Str)) = false := by decide) (he : starEach (e :: es) X.env = (false, eval e X.env) :: starEach es X.env := by rfl) (hpl : (backTo pos (starEach es X.env)).any (·.1) = false := by rfl) :
    PE X (.Call (.Name x p) (e :: es) [] pos) (tMakeS C sp E t) := by
  refine ⟨fun pins s σ H Q I h => ?_⟩
  refine wpAny_Call_Name_kw (ld_glob I hg hm ?_ hdb)
  refine PySem.W.callWith_K (h₀ := X.base) I.ok.mod.kin M.kp (thn (ha.run pos pins s σ H _ I h) fun us s1 ⟨vs, H1, I1, r, q⟩ => ⟨I1.kIn, ?_⟩) he hpl
  exact run_makeS M F hr hb (hx σ) I1 r q
def tMethS (C : Addr) (m : Str) (sp : Sp) (E : L2.St → XK) (ta : TE) (t : TA) : TE := fun σ H Q => ta σ H fun x H1 => ∃ a dx fs, x = .ref a ∧ H1 a = some (.ins C dx fs) ∧ fs.lookup m = none ∧
  t σ H1 fun vs H2 => sp (x :: vs) H2 Q (E σ)
theorem pe_methS {pl : Sem Bool} (he : PE X o ta) (c : Cls X.K C) (hm : Meth X.K C m f) (F : FnOk X.prog X.w X.K X.mg X.base CX k f fd ps sp) (hr : Room k X.A) (hb : Binds X.K fd ps []) (hx : ∀ σ, PassesAt CX X σ (E σ)) (ha : PA X (e :: es) t)
    (hst : starEach (e :: es) X.env = (false, eval e X.env) :: starEach es X.env := by rfl) (hpl : (backTo pos (starEach es X.env)).any (·.1) = false := by rfl)
    (ht : eval (.Call (.Attribute o m apos) (e :: es) [] pos) X.env = (do
      let ov ← eval o X.env
      standAt apos.atName
      let (f, first) ← holding [ov] (getMethod ov m pl)
      callWith pos f first (backTo pos (starEach (e :: es) X.env)) (backToKw pos (keywordEach [] X.env))) := by rfl) :
    PE X (.Call (.Attribute o m apos) (e :: es) [] pos) (tMethS C m sp E ta t) := by
  refine ⟨fun pins s σ H Q I h => ?_⟩
  refine PySem.W.methodCall_KW (pl := pl) (thn (he.run pins s σ H _ I h) fun u s1 ⟨x, H1, I1, rx, a, dx, fs, ex, ea, l, q⟩ => ?_) ht
  subst ex
  obtain rfl : u = Value.ref a := rx
  refine getmeth_ok I1 ea c hm l ?_
  refine PySem.W.callWith_K (first := [.ref a]) (h₀ := X.base) I.ok.mod.kin hm.kp (thn (ha.run pos pins s1 σ H1 _ I1 q) fun us s2 ⟨vs, H2, I2, r, q2⟩ => ⟨I2.kIn, ?_⟩) hst hpl
  exact run_fnS (us := .ref a :: us) (vs := .ref a :: vs) F hr hb (hx σ) I2 (.cons rfl r) q2
theorem pe_methS0 {pl : Sem Bool} (he : PE X o ta) (c : Cls X.K C) (hm : Meth X.K C m f) (F : FnOk X.prog X.w X.K X.mg X.base CX k f fd ps sp) (hr : Room k X.A) (hb : Binds X.K fd ps []) (hx : ∀ σ, PassesAt CX X σ (E σ))
    (ht : eval (.Call (.Attribute o m apos) [] [] pos) X.env = (do
      let ov ← eval o X.env
      standAt apos.atName
      let (f, first) ← holding [ov] (getMethod ov m pl)
      callWith pos f first (backTo pos (starEach [] X.env)) (backToKw pos (keywordEach [] X.env))) := by rfl) :
    PE X (.Call (.Attribute o m apos) [] [] pos) (tMethS C m sp E ta tNil) := by
  refine ⟨fun pins s σ H Q I h => ?_⟩
  refine PySem.W.methodCall_KW (pl := pl) (thn (he.run pins s σ H _ I h) fun u s1 ⟨x, H1, I1, rx, a, dx, fs, ex, ea, l, q⟩ => ?_) ht
  subst ex
  obtain rfl : u = Value.ref a := rx
  refine getmeth_ok I1 ea c hm l ?_
  exact PySem.W.callWith_K0 (first := [.ref a]) I1.kIn hm.kp (run_fnS (us := [.ref a]) (vs := [.ref a]) F hr hb (hx σ) I1 (.cons rfl .nil) q)
/-- len of an own class's instance -/
def rLenO (C : Addr) (sp : Sp) : List V → Hp → VK → Prop := fun xs H Q => ∃ a dx fs, xs = [.ref a] ∧ H a = some (.ins C dx fs) ∧ sp [.ref a] H (fun v H' => ∃ n : Int, v = .int n ∧ 0 ≤ n ∧ n < 2 ^ 63 ∧ Q (.int n) H') E0
theorem call_lenO (F : FnOk X.prog X.w X.K X.mg X.base (L2.CX X.prog X.w) k f fd ps sp) (hs : PySem.W.findIn X.K (.ref C) "__len__" = some (some (.ref f))) (hf : PySem.W.isFn X.K (.ref f) = true) (hb : Binds X.K fd ps []) (hr : Room (k + 1) X.A) : CallR X (.builtin "len") (rLenO C sp) := by
  intro pins s σ H xs us Q I r h
  obtain ⟨a, dx, fs, rfl, ea, q⟩ := h
  obtain ⟨u, rfl, ru⟩ := vals1 r
  cases ru
  obtain ⟨mA, J, _⟩ := ins_get I.hok ea
  obtain ⟨od, J, _⟩ := J.look
  obtain ⟨m, hF⟩ := I.fr
  have hl := F.len _ _ _ _ q
  have bb := hb s [.ref a] I.kIn (by simpa using hl)
  refine PySem.W.len_K hF I.ok.mod.kin J hs hf ?_
  refine wpAny_call (codeAny_mono (F.run X.A.in1 X.stack s H ⟨[.ref a], []⟩ [.ref a] [.ref a] _ E0 hr.in1 I.env0.in1 (by simpa using bb) (.cons rfl .nil) q) fun r s' hq => ?_)
  cases r with
  | error er => exact (passL (X := X.nox) pins σ H s er s' (I.wish _) hq).elim
  | ok fl =>
    cases fl with
    | ret w =>
      obtain ⟨v, H', I', rv, n, rfl, h0, h1, qn⟩ := I.after hq
      obtain ⟨tk, rfl⟩ := rv
      exact ⟨⟨h0, h1⟩, ⟨.int n, H', I'.tok _, ⟨_, rfl⟩, qn⟩⟩
    | next => exact False.elim hq
    | brk => exact False.elim hq
    | cont => exact False.elim hq
/-- == of an own class's instance and another one, or a tuple -/
def rEqO (K : PySem.W.Frag) (C : Addr) (sp : Sp) : R2 := fun x y H Q => ∃ a b dx fs, x = .ref a ∧ y = .ref b ∧ H a = some (.ins C dx fs) ∧ ((∃ dy gs, H b = some (.ins C dy gs)) ∨ ∃ ys, SqT K H b ys) ∧
  sp [.ref a, .ref b] H (fun v H' => ∃ q : Bool, v = .bl q ∧ Q (.bl q) H') E0
theorem op_eqO (F : FnOk X.prog X.w X.K X.mg X.base (L2.CX X.prog X.w) k f fd ps sp) (hs : PySem.W.findIn X.K (.ref C) "__eq__" = some (some (.ref f))) (hf : PySem.W.isFn X.K (.ref f) = true) (hb : Binds X.K fd ps []) (hr : Room k X.A)
    (hn : PySem.W.notFirst X.K C (.type "tuple") = true) : OpR X (compareOp .Eq) (rEqO X.K C sp) := by
  intro pins s σ H x y v u Q I rx ry h
  obtain ⟨a, b, dx, fs, rfl, rfl, ea, eb, q⟩ := h
  cases rx
  cases ry
  obtain ⟨mA, J, _⟩ := ins_get I.hok ea
  obtain ⟨od, J, _⟩ := J.look
  obtain ⟨m, hF⟩ := I.fr
  have hl := F.len _ _ _ _ q
  have bb := hb s [.ref a, .ref b] I.kIn (by simpa using hl)
  have go : wpAny (model X.prog X.w) X.A (call (.ref f) [.ref a, .ref b]) (PySem.W.CmpBack (EP X pins σ Q)) X.xe s := by
    refine wpAny_call (codeAny_mono (F.run X.A X.stack s H ⟨[.ref a, .ref b], []⟩ [.ref a, .ref b] [.ref a, .ref b] _ E0 hr I.env0 (by simpa using bb) (.cons rfl (.cons rfl .nil)) q) fun r s' hq => ?_)
    cases r with
    | error er => exact passL pins σ H s er s' I hq
    | ok fl =>
      cases fl with
      | ret w =>
        obtain ⟨v, H', I', rv, n, rfl, qn⟩ := I.after hq
        cases rv
        exact ⟨.bl n, H', I', rfl, qn⟩
      | next => exact False.elim hq
      | brk => exact False.elim hq
      | cont => exact False.elim hq
  show wpAny (model X.prog X.w) X.A (richCompare .Eq (.ref a) (.ref b)) (EP X pins σ Q) X.xe s
  rcases eb with ⟨dy, gs, eb⟩ | ⟨ys, eb⟩
  · obtain ⟨mB, J', _⟩ := ins_get I.hok eb
    obtain ⟨od', J', _⟩ := J'.look
    exact PySem.W.cmp_K (op := .Eq) (tb := .ref C) hr.units0 hF I.ok.mod.kin J J'.type (by simp [PySem.W.notFirst]) hs hf go
  · obtain ⟨its, rv, ⟨ob, ho, hc, _⟩, _⟩ := I.tuple eb
    have L : PySem.W.Looks (model X.prog X.w) s.heap (typeOf (.ref b)) (.type "tuple") := fun A Q E s k q => wpAny_typeOf_ref (k _ _ ho) (by rw [hc]; exact q)
    exact PySem.W.cmp_K (op := .Eq) (tb := .type "tuple") hr.units0 hF I.ok.mod.kin J L hn hs hf go
end
section
variable {X : Cx} {W : WX} {k : Nat} {a b e o c : Expr} {es : List Expr} {pos : Pos} {A B C : EX} {L : AX}
theorem ie_make {f Cc : Addr} {fd : FuncData} {ps : List Str} {x : Str} {p : Pos} {F : List PV → IH → Res PV} {n j : Nat} (cx : Ctx X W k) (M : Mk X.K Cc f) (G : FnOk X.prog X.w X.K X.mg X.base (L2.CX X.prog X.w) j f fd ps (SpF X.K X.mg n F)) (hj : j + 1 ≤ k) (hm : X.mg x = some (.ref Cc)) (hb : Binds X.K fd ps [])
    (ha : PA X (e :: es) (IA X.K X.mg W L)) (hF : ∀ us h, us.length ≠ n → F us h = .bad) (hg : Gl X x := by rfl) (hdb : (x == ("__debug__" : Str)) = false := by decide) (he : starEach (e :: es) X.env = (false, eval e X.env) :: starEach es X.env := by rfl) (hpl : (backTo pos (starEach es X.env)).any (·.1) = false := by rfl) :
    PE X (.Call (.Name x p) (e :: es) [] pos) (IE X.K X.mg W (eCall (mkO x F) L)) := by
  refine peImp (pe_makeS M G (cx.room.mono hj) hg hm hb (fun s => passAt cx.tk s) ha hdb he hpl) fun s H Q ⟨as, r, h, g, z, o⟩ => ?_
  refine ⟨as, r, h, g, z, (Out.bind o).imp fun Vs H1 ⟨as1, h1, us, S1, x1, r1, o1⟩ => ?_⟩
  intro y dy ny nd hne
  have x2 : RH X.K X.mg (upd H1 dy (.own y)) as1 h1 := x1.lay nd
  have S2 : Stp as1 H1 as1 (upd H1 dy (.own y)) := Stp.lay x1 nd
  have ny' : upd H1 dy (.own y) y = none := by rw [upd_ne (Ne.symm hne)]; exact ny
  have S3 := Stp.new (o := .ins Cc dy []) x2 ny'
  have x3 : RH X.K X.mg (upd (upd H1 dy (.own y)) y (.ins Cc dy [])) (as1 ++ [y]) (h1 ++ [.ins x []]) := x2.new ny' ⟨Cc, dy, [], hm, upd_same, rfl, .nil⟩
  have ro : RP X.K X.mg (upd (upd H1 dy (.own y)) y (.ins Cc dy [])) (as1 ++ [y]) (.obj h1.length) (.ref y) := .obj (by
    rw [List.getElem?_append_right (by rw [x1.len]; exact Nat.le_refl _), x1.len, Nat.sub_self]
    rfl)
  have rs : RPs X.K X.mg (upd (upd H1 dy (.own y)) y (.ins Cc dy [])) (as1 ++ [y]) (.obj h1.length :: us) (.ref y :: Vs) := .cons ro ((r1.mono S2).mono S3)
  have o2 := Out.shift (S2.trans S3) o1
  unfold mkO at o2
  refine SpF.of (W := W) (s := s) x3 rs ?_ ((Out.bind o2).imp fun V H4 ⟨as4, h4, v, S4, x4, r4, o4⟩ => ?_)
  · by_cases hn : (PV.obj h1.length :: us).length = n
    · exact hn
    · rw [hF _ _ hn] at o2; exact o2.elim
  · cases r4 with
    | non => exact ⟨rfl, o4.here x4 (ro.mono S4)⟩
    | bl => exact o4.elim
    | int => exact o4.elim
    | str => exact o4.elim
    | tup => exact o4.elim
    | fls => exact o4.elim
    | obj => exact o4.elim
    | glo => exact o4.elim
    | ty => exact o4.elim
    | key => exact o4.elim
theorem ie_meth {f Cc : Addr} {fd : FuncData} {ps : List Str} {m cn : Str} {apos : Pos} {F : List PV → IH → Res PV} {n j : Nat} (pl : Sem Bool) (cx : Ctx X W k) (gc : X.mg cn = some (.ref Cc)) (cl : Cls X.K Cc) (hm : Meth X.K Cc m f) (G : FnOk X.prog X.w X.K X.mg X.base (L2.CX X.prog X.w) j f fd ps (SpF X.K X.mg n F)) (hj : j ≤ k) (hb : Binds X.K fd ps [])
    (ho : PE X o (IE X.K X.mg W A)) (ha : PA X (e :: es) (IA X.K X.mg W L)) (hF : ∀ us h, us.length ≠ n → F us h = .bad)
    (hst : starEach (e :: es) X.env = (false, eval e X.env) :: starEach es X.env := by rfl) (hpl : (backTo pos (starEach es X.env)).any (·.1) = false := by rfl)
    (ht : eval (.Call (.Attribute o m apos) (e :: es) [] pos) X.env = (do
      let ov ← eval o X.env
      standAt apos.atName
      let (f, first) ← holding [ov] (getMethod ov m pl)
      callWith pos f first (backTo pos (starEach (e :: es) X.env)) (backToKw pos (keywordEach [] X.env))) := by rfl) :
    PE X (.Call (.Attribute o m apos) (e :: es) [] pos) (IE X.K X.mg W (eMeth cn m F A L)) := by
  refine peImp (pe_methS ho cl hm G (cx.room.mono hj) hb (fun s => passAt cx.tk s) ha hst hpl ht) fun s H Q ⟨as, r, h, g, z, o⟩ => ?_
  refine ⟨as, r, h, g, z, (Out.bind o).imp fun V H1 ⟨as1, h1, p1, S1, x1, r1, o1⟩ => ?_⟩
  split at o1
  · cases r1 with
    | obj hn =>
      split at o1
      · rename_i c' fs hx
        split at o1
        · rename_i hc
          obtain ⟨hc, hl⟩ := hc
          subst hc
          obtain ⟨b, e1, C', dx, gs, g0, e2, e3, rs⟩ := x1.at_ _ _ hx
          rw [hn] at e1; cases e1
          rw [gc] at g0; cases g0
          refine ⟨_, dx, gs, rfl, e2, fld_none e3 hl, as1, r, h1, g.mono S1, x1, (Out.bind o1).imp fun Vs H2 ⟨as2, h2, us, S2, x2, r2, o2⟩ => ?_⟩
          refine SpF.of x2 (RPs.cons (.obj (S2.get hn)) r2) ?_ o2
          by_cases hn' : us.length + 1 = n
          · rw [List.length_cons]; exact hn'
          · rw [hF _ _ (by rw [List.length_cons]; exact hn')] at o2; exact o2.elim
        · exact o1.elim
      · exact o1.elim
  · exact o1.elim
theorem ie_meth0 {f Cc : Addr} {fd : FuncData} {ps : List Str} {m cn : Str} {apos : Pos} {F : List PV → IH → Res PV} {j : Nat} (pl : Sem Bool) (cx : Ctx X W k) (gc : X.mg cn = some (.ref Cc)) (cl : Cls X.K Cc) (hm : Meth X.K Cc m f) (G : FnOk X.prog X.w X.K X.mg X.base (L2.CX X.prog X.w) j f fd ps (SpF X.K X.mg 1 F)) (hj : j ≤ k) (hb : Binds X.K fd ps [])
    (ho : PE X o (IE X.K X.mg W A))
    (ht : eval (.Call (.Attribute o m apos) [] [] pos) X.env = (do
      let ov ← eval o X.env
      standAt apos.atName
      let (f, first) ← holding [ov] (getMethod ov m pl)
      callWith pos f first (backTo pos (starEach [] X.env)) (backToKw pos (keywordEach [] X.env))) := by rfl) :
    PE X (.Call (.Attribute o m apos) [] [] pos) (IE X.K X.mg W (eMeth cn m F A aNil)) := by
  refine peImp (pe_methS0 ho cl hm G (cx.room.mono hj) hb (fun s => passAt cx.tk s) ht) fun s H Q ⟨as, r, h, g, z, o⟩ => ?_
  refine ⟨as, r, h, g, z, (Out.bind o).imp fun V H1 ⟨as1, h1, p1, S1, x1, r1, o1⟩ => ?_⟩
  split at o1
  · cases r1 with
    | obj hn =>
      split at o1
      · rename_i c' fs hx
        split at o1
        · rename_i hc
          obtain ⟨hc, hl⟩ := hc
          subst hc
          obtain ⟨b, e1, C', dx, gs, g0, e2, e3, rs⟩ := x1.at_ _ _ hx
          rw [hn] at e1; cases e1
          rw [gc] at g0; cases g0
          exact ⟨_, dx, gs, rfl, e2, fld_none e3 hl, SpF.of x1 (RPs.one (.obj hn)) rfl o1⟩
        · exact o1.elim
      · exact o1.elim
  · exact o1.elim
theorem noX_of {K : PySem.W.Frag} {mg : Str → Option Value} {s : L2.St} {as : List Addr} {H : Hp} {Q : VK} {r : Res PV} (o : Out K mg (fun H as p v => RP K mg H as p v) W s as H Q (noX r)) : Out K mg (fun H as p v => RP K mg H as p v) (fun c d _ H' => E0 c d H') [] as H Q r := by
  cases r with
  | ok a h => exact o
  | ex z h => exact (show False from o).elim
  | bad => exact o
theorem ie_prop {f pa Cc : Addr} {fd : FuncData} {ps : List Str} {m cn : Str} {F : List PV → IH → Res PV} {j : Nat} (cx : Ctx X W k) (gc : X.mg cn = some (.ref Cc)) (cl : Cls X.K Cc) (hp : PropOf X.K Cc m pa f) (G : FnOk X.prog X.w X.K X.mg X.base (L2.CX X.prog X.w) j f fd ps (SpF X.K X.mg 1 F)) (hj : j + 1 ≤ k) (hb : Binds X.K fd ps [])
    (he : PE X e (IE X.K X.mg W A)) (hab : attributeBase e m X.env (eval e X.env) = eval e X.env := by rfl) : PE X (.Attribute e m pos) (IE X.K X.mg W (eProp cn F A)) := by
  refine peImp (pe_prop he cl hp G (cx.room.mono hj) hb .nil (passL (X := X.nox)) hab) fun s H Q ⟨as, r, h, g, z, o⟩ => ?_
  refine ⟨as, r, h, g, z, (Out.bind o).imp fun V H1 ⟨as1, h1, p1, S1, x1, r1, o1⟩ => ?_⟩
  split at o1
  · cases r1 with
    | obj hn =>
      split at o1
      · rename_i c' fs hx
        split at o1
        · rename_i hc
          subst hc
          obtain ⟨b, e1, C', dx, gs, g0, e2, e3, rs⟩ := x1.at_ _ _ hx
          rw [hn] at e1; cases e1
          rw [gc] at g0; cases g0
          exact ⟨_, dx, gs, rfl, e2, as1, _, h1, rfl, RPs.one (.obj hn), x1, noX_of o1⟩
        · exact o1.elim
      · exact o1.elim
  · exact o1.elim
theorem snd_lenO {K : PySem.W.Frag} {mg : Str → Option Value} {cn : Str} {Cc : Addr} {F : List PV → IH → Res PV} (gc : mg cn = some (.ref Cc)) : SndC K mg (pLenO cn F) (rLenO Cc (SpF K mg 1 F)) := by
  intro W s as H h xs Us Q rh rs o
  unfold pLenO at o
  split at o
  · obtain ⟨v, rfl, rv⟩ := rs.inv1
    split at o
    · cases rv with
      | obj hn =>
        split at o
        · rename_i c' fs hx
          split at o
          · rename_i hc
            subst hc
            obtain ⟨b, e1, C', dx, gs, g0, e2, e3, rs'⟩ := rh.at_ _ _ hx
            rw [hn] at e1; cases e1
            rw [gc] at g0; cases g0
            refine ⟨_, dx, gs, rfl, e2, as, _, h, rfl, RPs.one (.obj hn), rh, ?_⟩
            split at o
            · rename_i i h1 hF
              split at o
              · rename_i hi
                rw [hF]
                intro V H' as' S x' r'
                cases r'
                have e63 : (2 : Int) ^ 63 = 9223372036854775808 := by decide
                exact ⟨_, rfl, hi.1, by rw [e63]; exact hi.2, o _ _ _ S x' (.int _)⟩
              · exact o.elim
            · exact o.elim
          · exact o.elim
        · exact o.elim
    · exact o.elim
  · exact o.elim
theorem snd_eqO {K : PySem.W.Frag} {mg : Str → Option Value} {cn : Str} {Cc : Addr} {F : List PV → IH → Res PV} (gc : mg cn = some (.ref Cc)) : Snd K mg (pEqO cn F) (rEqO K Cc (SpF K mg 2 F)) := by
  intro W s as H h x y U V Q rh rx ry o
  unfold pEqO at o
  split at o
  · cases rx with
    | obj hn =>
      split at o
      · rename_i c' fs hx
        split at o
        · rename_i hc
          obtain ⟨hc, ht⟩ := hc
          subst hc
          obtain ⟨b, e1, C', dx, gs, g0, e2, e3, rs'⟩ := rh.at_ _ _ hx
          rw [hn] at e1; cases e1
          rw [gc] at g0; cases g0
          have hy : ∃ b', V = .ref b' ∧ ((∃ dy gs, H b' = some (.ins Cc dy gs)) ∨ ∃ ys, SqT K H b' ys) := by
            unfold isTupOr at ht
            split at ht
            · cases ry with
              | tup hs rs => exact ⟨_, rfl, .inr ⟨_, hs⟩⟩
            · cases ry with
              | obj hm =>
                split at ht
                · rename_i c2 fs2 hx2
                  obtain ⟨b2, e1', C2, dx2, gs2, g0', e2', _⟩ := rh.at_ _ _ hx2
                  rw [hm] at e1'; cases e1'
                  have : c2 = c' := by simpa using ht
                  subst this
                  rw [gc] at g0'; cases g0'
                  exact ⟨_, rfl, .inl ⟨_, _, e2'⟩⟩
                · cases ht
            · cases ht
          obtain ⟨b', rfl, hy⟩ := hy
          refine ⟨_, _, dx, gs, rfl, rfl, e2, hy, as, _, h, rfl, RPs.cons (.obj hn) (RPs.one ry), rh, ?_⟩
          split at o
          · rename_i q h1 hF
            rw [hF]
            intro V H' as' S x' r'
            cases r'
            exact ⟨_, rfl, o _ _ _ S x' (.bl _)⟩
          · exact o.elim
        · exact o.elim
      · exact o.elim
  · exact o.elim
theorem ie_chain {op op' : CmpOp} {p q : PV → PV → IH → Res PV} {r r' : R2} (ho : OpR X (compareOp op) r) (ho' : OpR X (compareOp op') r') (hp : Snd X.K X.mg p r) (hq : Snd X.K X.mg q r') (ha : PE X a (IE X.K X.mg W A)) (hb : PE X b (IE X.K X.mg W B)) (hc : PE X c (IE X.K X.mg W C))
    (hm : lastMarks [op, op'] [b, c] = false := by with_unfolding_all rfl) : PE X (.Compare a [op, op'] [b, c] pos) (IE X.K X.mg W (eChain p q A B C)) := by
  refine peImp (pe_chain ho ho' ha hb hc hm) fun s H Q ⟨as, ρ, h, g, z, o⟩ => ?_
  refine ⟨as, ρ, h, g, z, (Out.bind o).imp fun V1 H1 ⟨as1, h1, p1, S1, x1, r1, o1⟩ => ?_⟩
  refine ⟨as1, ρ, h1, g.mono S1, x1, (Out.bind o1).imp fun V2 H2 ⟨as2, h2, p2, S2, x2, r2, o2⟩ => ?_⟩
  refine hp x2 (r1.mono S2) r2 ((Out.bind o2).imp fun V3 H3 ⟨as3, h3, p3, S3, x3, r3, o3⟩ => ?_)
  cases r3 with
  | bl d =>
    refine ⟨d, rfl, ?_⟩
    cases d with
    | false => exact o3.here x3 (.bl false)
    | true =>
      refine ⟨as3, ρ, h3, ((g.mono S1).mono S2).mono S3, x3, (Out.bind o3).imp fun V4 H4 ⟨as4, h4, p4, S4, x4, r4, o4⟩ => ?_⟩
      exact hq x4 ((r2.mono S3).mono S4) r4 o4
  | non => exact o3.elim
  | int => exact o3.elim
  | str => exact o3.elim
  | tup => exact o3.elim
  | fls => exact o3.elim
  | obj => exact o3.elim
  | glo => exact o3.elim
  | ty => exact o3.elim
  | key => exact o3.elim
end
end WR

/-! bundles for defs, classes; the head's Hook; the law's end -/
namespace WR
open PySem PySem.Spec PyProof.Rows L2
section
variable {P : Program} {w : World} {K : PySem.W.Frag} {mg : Str → Option Value} {base : Heap}
/-- a def of the top -/
structure GF (P : Program) (w : World) (K : PySem.W.Frag) (mg : Str → Option Value) (base : Heap) (x : Str) (j n : Nat) (F : List PV → IH → Res PV) : Prop where
  bad : ∀ us h, us.length ≠ n → F us h = .bad
  ex : ∃ f fd ps, FnOk P w K mg base (L2.CX P w) j f fd ps (SpF K mg n F) ∧ mg x = some (.ref f) ∧ PySem.W.keepIn K (.ref f) = true ∧ Binds K fd ps []
/-- a def of a class, at f -/
structure GA (P : Program) (w : World) (K : PySem.W.Frag) (mg : Str → Option Value) (base : Heap) (f : Addr) (j n : Nat) (F : List PV → IH → Res PV) : Prop where
  bad : ∀ us h, us.length ≠ n → F us h = .bad
  ex : ∃ fd ps, FnOk P w K mg base (L2.CX P w) j f fd ps (SpF K mg n F) ∧ Binds K fd ps []
theorem ga_mk {x qual : Str} {st : Stmt} {f : Addr} {fd : FuncData} {N ps : List Str} {k : Nat} {B : SX} (F : Fun K x qual st f fd) (S : FnScope N ps (defScope st)) (m : Nat) (hm : N.length = ps.length + m)
    (hb : ∀ (kV doc pm : Value) (an : Option Addr) (cdv ct : Value) (us : List Value), us.length = ps.length → bindArgs (PySem.W.fnOf x qual (defArgs st) (defBody st) (defScope st) .none kV doc pm an cdv ct) ⟨us, []⟩ = pure (ps.zip us))
    (body : ∀ (cdv : Value), cdv = .ref (cdOf K f) → ∀ (A : Around) (outer : List Env) (s : Shared) (H : Hp) (E : XK), Ctx (cxOf (L2.CX P w) P w K mg base N qual (defScope st) f cdv A outer s H E) (WD E) k →
      PSs (cxOf (L2.CX P w) P w K mg base N qual (defScope st) f cdv A outer s H E) (defBody st) (IS K mg (WD E) B)) :
    GA P w K mg base f (k + 1) ps.length (fn ps.length m B) := ⟨fn_bad, fd, ps, ok_of F S m hm body, F.binds hb⟩
theorem gf_mk {x qual : Str} {st : Stmt} {f : Addr} {fd : FuncData} {N ps : List Str} {k : Nat} {B : SX} (F : Fun K x qual st f fd) (g : mg x = some (.ref f)) (S : FnScope N ps (defScope st)) (m : Nat) (hm : N.length = ps.length + m)
    (hb : ∀ (kV doc pm : Value) (an : Option Addr) (cdv ct : Value) (us : List Value), us.length = ps.length → bindArgs (PySem.W.fnOf x qual (defArgs st) (defBody st) (defScope st) .none kV doc pm an cdv ct) ⟨us, []⟩ = pure (ps.zip us))
    (body : ∀ (cdv : Value), cdv = .ref (cdOf K f) → ∀ (A : Around) (outer : List Env) (s : Shared) (H : Hp) (E : XK), Ctx (cxOf (L2.CX P w) P w K mg base N qual (defScope st) f cdv A outer s H E) (WD E) k →
      PSs (cxOf (L2.CX P w) P w K mg base N qual (defScope st) f cdv A outer s H E) (defBody st) (IS K mg (WD E) B)) :
    GF P w K mg base x (k + 1) ps.length (fn ps.length m B) := ⟨fn_bad, f, fd, ps, ok_of F S m hm body, g, F.kp, F.binds hb⟩
end
section
variable {X : Cx} {W : WX} {k : Nat} {a b e o c : Expr} {es : List Expr} {pos p apos : Pos} {A B C : EX} {L : AX} {x m cn : Str} {j n : Nat} {F : List PV → IH → Res PV} {f Cc pa : Addr}
theorem ie_callG (cx : Ctx X W k) (G : GF X.prog X.w X.K X.mg X.base x j n F) (ha : PA X (e :: es) (IA X.K X.mg W L)) (hj : j ≤ k := by decide) (hg : Gl X x := by rfl) (hdb : (x == ("__debug__" : Str)) = false := by decide) (he : starEach (e :: es) X.env = (false, eval e X.env) :: starEach es X.env := by rfl) (hpl : (backTo pos (starEach es X.env)).any (·.1) = false := by rfl) :
    PE X (.Call (.Name x p) (e :: es) [] pos) (IE X.K X.mg W (eCall F L)) := by
  obtain ⟨f, fd, ps, G1, hm, hk, hb⟩ := G.ex
  exact ie_call cx G1 hj hm hk hb ha G.bad hg hdb he hpl
theorem ie_callG0 (cx : Ctx X W k) (G : GF X.prog X.w X.K X.mg X.base x j 0 F) (hj : j ≤ k := by decide) (hg : Gl X x := by rfl) (hdb : (x == ("__debug__" : Str)) = false := by decide) : PE X (.Call (.Name x p) [] [] pos) (IE X.K X.mg W (eCall F aNil)) := by
  obtain ⟨f, fd, ps, G1, hm, hk, hb⟩ := G.ex
  exact ie_call0 cx G1 hj hm hk hb hg hdb
theorem ie_makeG (cx : Ctx X W k) (M : Mk X.K Cc f) (hm : X.mg x = some (.ref Cc)) (G : GA X.prog X.w X.K X.mg X.base f j n F) (ha : PA X (e :: es) (IA X.K X.mg W L)) (hj : j + 1 ≤ k := by decide) (hg : Gl X x := by rfl) (hdb : (x == ("__debug__" : Str)) = false := by decide) (he : starEach (e :: es) X.env = (false, eval e X.env) :: starEach es X.env := by rfl) (hpl : (backTo pos (starEach es X.env)).any (·.1) = false := by rfl) :
    PE X (.Call (.Name x p) (e :: es) [] pos) (IE X.K X.mg W (eCall (mkO x F) L)) := by
  obtain ⟨fd, ps, G1, hb⟩ := G.ex
  exact ie_make cx M G1 hj hm hb ha G.bad hg hdb he hpl
theorem ie_propG (cx : Ctx X W k) (gc : X.mg cn = some (.ref Cc)) (cl : Cls X.K Cc) (hp : PropOf X.K Cc m pa f) (G : GA X.prog X.w X.K X.mg X.base f j 1 F) (he : PE X e (IE X.K X.mg W A)) (hj : j + 1 ≤ k := by decide) (hab : attributeBase e m X.env (eval e X.env) = eval e X.env := by rfl) :
    PE X (.Attribute e m pos) (IE X.K X.mg W (eProp cn F A)) := by
  obtain ⟨fd, ps, G1, hb⟩ := G.ex
  exact ie_prop cx gc cl hp G1 hj hb he hab
theorem ie_lenG (cx : Ctx X W k) (gc : X.mg cn = some (.ref Cc)) (hs : PySem.W.findIn X.K (.ref Cc) "__len__" = some (some (.ref f))) (hf : PySem.W.isFn X.K (.ref f) = true) (G : GA X.prog X.w X.K X.mg X.base f j 1 F) (hm : X.mg "len" = none) (ha : PA X (e :: es) (IA X.K X.mg W L)) (hj : j + 1 ≤ k := by decide) (hg : Gl X "len" := by rfl)
    (he : starEach (e :: es) X.env = (false, eval e X.env) :: starEach es X.env := by rfl) (hpl : (backTo pos (starEach es X.env)).any (·.1) = false := by rfl) : PE X (.Call (.Name "len" p) (e :: es) [] pos) (IE X.K X.mg W (eB (pLenO cn F) L)) := by
  obtain ⟨fd, ps, G1, hb⟩ := G.ex
  exact ie_callB (call_lenO G1 hs hf hb (cx.room.mono hj)) (snd_lenO gc) hm PySem.boot_len ha hg (by decide) (by decide) he hpl
theorem ie_eqG (cx : Ctx X W k) (gc : X.mg cn = some (.ref Cc)) (hs : PySem.W.findIn X.K (.ref Cc) "__eq__" = some (some (.ref f))) (hf : PySem.W.isFn X.K (.ref f) = true) (hn : PySem.W.notFirst X.K Cc (.type "tuple") = true) (G : GA X.prog X.w X.K X.mg X.base f j 2 F) (ha : PE X a (IE X.K X.mg W A)) (hb' : PE X b (IE X.K X.mg W B)) (hj : j ≤ k := by decide) :
    PE X (.Compare a [.Eq] [b] pos) (IE X.K X.mg W (eOp (pEqO cn F) A B)) := by
  obtain ⟨fd, ps, G1, hb⟩ := G.ex
  exact ie_cmp (op_eqO G1 hs hf hb (cx.room.mono hj) hn) (snd_eqO gc) ha hb' (nomark _)
theorem it_eqG (cx : Ctx X W k) (gc : X.mg cn = some (.ref Cc)) (hs : PySem.W.findIn X.K (.ref Cc) "__eq__" = some (some (.ref f))) (hf : PySem.W.isFn X.K (.ref f) = true) (hn : PySem.W.notFirst X.K Cc (.type "tuple") = true) (G : GA X.prog X.w X.K X.mg X.base f j 2 F) (ha : PE X a (IE X.K X.mg W A)) (hb' : PE X b (IE X.K X.mg W B)) (hj : j ≤ k := by decide) :
    PT X (.Compare a [.Eq] [b] pos) (IT X.K X.mg W (tBl (eOp (pEqO cn F) A B))) := by
  obtain ⟨fd, ps, G1, hb⟩ := G.ex
  exact it_cmp (op_eqO G1 hs hf hb (cx.room.mono hj) hn) (snd_eqO gc) ha hb' (nomark _)
theorem ie_methG (pl : Sem Bool) (cx : Ctx X W k) (gc : X.mg cn = some (.ref Cc)) (cl : Cls X.K Cc) (hm : Meth X.K Cc m f) (G : GA X.prog X.w X.K X.mg X.base f j n F) (ho : PE X o (IE X.K X.mg W A)) (ha : PA X (e :: es) (IA X.K X.mg W L)) (hj : j ≤ k := by decide)
    (hst : starEach (e :: es) X.env = (false, eval e X.env) :: starEach es X.env := by rfl) (hpl : (backTo pos (starEach es X.env)).any (·.1) = false := by rfl)
    (ht : eval (.Call (.Attribute o m apos) (e :: es) [] pos) X.env = (do
      let ov ← eval o X.env
      standAt apos.atName
      let (f, first) ← holding [ov] (getMethod ov m pl)
      callWith pos f first (backTo pos (starEach (e :: es) X.env)) (backToKw pos (keywordEach [] X.env))) := by rfl) : PE X (.Call (.Attribute o m apos) (e :: es) [] pos) (IE X.K X.mg W (eMeth cn m F A L)) := by
  obtain ⟨fd, ps, G1, hb⟩ := G.ex
  exact ie_meth pl cx gc cl hm G1 hj hb ho ha G.bad hst hpl ht
theorem ie_methG0 (pl : Sem Bool) (cx : Ctx X W k) (gc : X.mg cn = some (.ref Cc)) (cl : Cls X.K Cc) (hm : Meth X.K Cc m f) (G : GA X.prog X.w X.K X.mg X.base f j 1 F) (ho : PE X o (IE X.K X.mg W A)) (hj : j ≤ k := by decide)
    (ht : eval (.Call (.Attribute o m apos) [] [] pos) X.env = (do
      let ov ← eval o X.env
      standAt apos.atName
      let (f, first) ← holding [ov] (getMethod ov m pl)
      callWith pos f first (backTo pos (starEach [] X.env)) (backToKw pos (keywordEach [] X.env))) := by rfl) : PE X (.Call (.Attribute o m apos) [] [] pos) (IE X.K X.mg W (eMeth cn m F A aNil)) := by
  obtain ⟨fd, ps, G1, hb⟩ := G.ex
  exact ie_meth0 pl cx gc cl hm G1 hj hb ho ht
/-! the built-ins, in short -/
theorem ie_abs (hm : X.mg "abs" = none) (ha : PA X (e :: es) (IA X.K X.mg W L)) (hg : Gl X "abs" := by rfl) (he : starEach (e :: es) X.env = (false, eval e X.env) :: starEach es X.env := by rfl) (hpl : (backTo pos (starEach es X.env)).any (·.1) = false := by rfl) : PE X (.Call (.Name "abs" p) (e :: es) [] pos) (IE X.K X.mg W (eB pAbs L)) :=
  ie_callB call_abs snd_abs hm (by decide +kernel) ha hg (by decide) (by decide) he hpl
theorem ie_max2 (cx : Ctx X W k) (hm : X.mg "max" = none) (ha : PA X (e :: es) (IA X.K X.mg W L)) (hg : Gl X "max" := by rfl) (he : starEach (e :: es) X.env = (false, eval e X.env) :: starEach es X.env := by rfl) (hpl : (backTo pos (starEach es X.env)).any (·.1) = false := by rfl) : PE X (.Call (.Name "max" p) (e :: es) [] pos) (IE X.K X.mg W (eB pMax2 L)) :=
  ie_callB (call_max2 cx.calm) snd_max2 hm (by decide +kernel) ha hg (by decide) (by decide) he hpl
theorem ie_min2 (cx : Ctx X W k) (hm : X.mg "min" = none) (ha : PA X (e :: es) (IA X.K X.mg W L)) (hg : Gl X "min" := by rfl) (he : starEach (e :: es) X.env = (false, eval e X.env) :: starEach es X.env := by rfl) (hpl : (backTo pos (starEach es X.env)).any (·.1) = false := by rfl) : PE X (.Call (.Name "min" p) (e :: es) [] pos) (IE X.K X.mg W (eB pMin2 L)) :=
  ie_callB (call_min2 cx.calm) snd_min2 hm (by decide +kernel) ha hg (by decide) (by decide) he hpl
theorem ie_int1 (hm : X.mg "int" = none) (ha : PA X (e :: es) (IA X.K X.mg W L)) (hg : Gl X "int" := by rfl) (he : starEach (e :: es) X.env = (false, eval e X.env) :: starEach es X.env := by rfl) (hpl : (backTo pos (starEach es X.env)).any (·.1) = false := by rfl) : PE X (.Call (.Name "int" p) (e :: es) [] pos) (IE X.K X.mg W (eB pInt1 L)) :=
  ie_callT call_int1 snd_int1 hm (by decide +kernel) ha hg (by decide) (by decide) he hpl
theorem ie_len (hm : X.mg "len" = none) (ha : PA X (e :: es) (IA X.K X.mg W L)) (hg : Gl X "len" := by rfl) (he : starEach (e :: es) X.env = (false, eval e X.env) :: starEach es X.env := by rfl) (hpl : (backTo pos (starEach es X.env)).any (·.1) = false := by rfl) : PE X (.Call (.Name "len" p) (e :: es) [] pos) (IE X.K X.mg W (eB pLen L)) :=
  ie_callB call_len snd_len hm (by decide +kernel) ha hg (by decide) (by decide) he hpl
theorem ie_list1 (hm : X.mg "list" = none) (ha : PA X (e :: es) (IA X.K X.mg W L)) (hg : Gl X "list" := by rfl) (he : starEach (e :: es) X.env = (false, eval e X.env) :: starEach es X.env := by rfl) (hpl : (backTo pos (starEach es X.env)).any (·.1) = false := by rfl) : PE X (.Call (.Name "list" p) (e :: es) [] pos) (IE X.K X.mg W (eB pList1 L)) :=
  ie_callT call_list_of snd_list1 hm (by decide +kernel) ha hg (by decide) (by decide) he hpl
theorem ie_tuple1 (hm : X.mg "tuple" = none) (ha : PA X (e :: es) (IA X.K X.mg W L)) (hg : Gl X "tuple" := by rfl) (he : starEach (e :: es) X.env = (false, eval e X.env) :: starEach es X.env := by rfl) (hpl : (backTo pos (starEach es X.env)).any (·.1) = false := by rfl) : PE X (.Call (.Name "tuple" p) (e :: es) [] pos) (IE X.K X.mg W (eB pTuple1 L)) :=
  ie_callT call_tuple_of snd_tuple1 hm (by decide +kernel) ha hg (by decide) (by decide) he hpl
theorem ie_isi {cs : List Str} (O : OwnCs X.K X.mg cs) (hm : X.mg "isinstance" = none) (ha : PA X (e :: es) (IA X.K X.mg W L)) (hg : Gl X "isinstance" := by rfl) (he : starEach (e :: es) X.env = (false, eval e X.env) :: starEach es X.env := by rfl) (hpl : (backTo pos (starEach es X.env)).any (·.1) = false := by rfl) : PE X (.Call (.Name "isinstance" p) (e :: es) [] pos) (IE X.K X.mg W (eB (pIsi cs) L)) :=
  ie_callB call_isi (snd_isi O) hm (by decide +kernel) ha hg (by decide) (by decide) he hpl
theorem ie_tyB {x : Str} {n : String} (hm : X.mg x = none) (hv : bootBuiltins x = some (.type n) := by decide +kernel) (hg : Gl X x := by rfl) (hn : x ≠ "__name__" := by decide) (hd : (x == ("__debug__" : Str)) = false := by decide) : PE X (.Name x pos) (IE X.K X.mg W (eC (.ty n))) := ie_ty hg hm hv hn hd
/-! comparisons, in short -/
theorem ie_lt (ha : PE X a (IE X.K X.mg W A)) (hb : PE X b (IE X.K X.mg W B)) : PE X (.Compare a [.Lt] [b] pos) (IE X.K X.mg W (eOp pLt A B)) := ie_cmp op_lt snd_ci ha hb (nomark _)
theorem ie_le (ha : PE X a (IE X.K X.mg W A)) (hb : PE X b (IE X.K X.mg W B)) : PE X (.Compare a [.LtE] [b] pos) (IE X.K X.mg W (eOp pLe A B)) := ie_cmp op_le snd_ci ha hb (nomark _)
theorem ie_gt (ha : PE X a (IE X.K X.mg W A)) (hb : PE X b (IE X.K X.mg W B)) : PE X (.Compare a [.Gt] [b] pos) (IE X.K X.mg W (eOp pGt A B)) := ie_cmp op_gt snd_ci ha hb (nomark _)
theorem ie_ge (ha : PE X a (IE X.K X.mg W A)) (hb : PE X b (IE X.K X.mg W B)) : PE X (.Compare a [.GtE] [b] pos) (IE X.K X.mg W (eOp pGe A B)) := ie_cmp op_ge snd_ci ha hb (nomark _)
theorem ie_eq (cx : Ctx X W k) (ha : PE X a (IE X.K X.mg W A)) (hb : PE X b (IE X.K X.mg W B)) : PE X (.Compare a [.Eq] [b] pos) (IE X.K X.mg W (eOp pEq A B)) := ie_cmp (op_eqD cx.room.units) snd_eq ha hb (nomark _)
theorem ie_ne (cx : Ctx X W k) (ha : PE X a (IE X.K X.mg W A)) (hb : PE X b (IE X.K X.mg W B)) : PE X (.Compare a [.NotEq] [b] pos) (IE X.K X.mg W (eOp pNe A B)) := ie_cmp (op_neD cx.room.units) snd_ne ha hb (nomark _)
theorem ie_is (ha : PE X a (IE X.K X.mg W A)) (hb : PE X b (IE X.K X.mg W B)) : PE X (.Compare a [.Is] [b] pos) (IE X.K X.mg W (eOp pIsN A B)) := ie_cmp op_isN snd_isn ha hb (nomark _)
theorem ie_isnot (ha : PE X a (IE X.K X.mg W A)) (hb : PE X b (IE X.K X.mg W B)) : PE X (.Compare a [.IsNot] [b] pos) (IE X.K X.mg W (eOp pNotN A B)) := ie_cmp op_notN snd_notn ha hb (nomark _)
theorem it_lt (ha : PE X a (IE X.K X.mg W A)) (hb : PE X b (IE X.K X.mg W B)) : PT X (.Compare a [.Lt] [b] pos) (IT X.K X.mg W (tBl (eOp pLt A B))) := it_cmp op_lt snd_ci ha hb (nomark _)
theorem it_le (ha : PE X a (IE X.K X.mg W A)) (hb : PE X b (IE X.K X.mg W B)) : PT X (.Compare a [.LtE] [b] pos) (IT X.K X.mg W (tBl (eOp pLe A B))) := it_cmp op_le snd_ci ha hb (nomark _)
theorem it_gt (ha : PE X a (IE X.K X.mg W A)) (hb : PE X b (IE X.K X.mg W B)) : PT X (.Compare a [.Gt] [b] pos) (IT X.K X.mg W (tBl (eOp pGt A B))) := it_cmp op_gt snd_ci ha hb (nomark _)
theorem it_ge (ha : PE X a (IE X.K X.mg W A)) (hb : PE X b (IE X.K X.mg W B)) : PT X (.Compare a [.GtE] [b] pos) (IT X.K X.mg W (tBl (eOp pGe A B))) := it_cmp op_ge snd_ci ha hb (nomark _)
theorem it_eq (cx : Ctx X W k) (ha : PE X a (IE X.K X.mg W A)) (hb : PE X b (IE X.K X.mg W B)) : PT X (.Compare a [.Eq] [b] pos) (IT X.K X.mg W (tBl (eOp pEq A B))) := it_cmp (op_eqD cx.room.units) snd_eq ha hb (nomark _)
theorem it_ne (cx : Ctx X W k) (ha : PE X a (IE X.K X.mg W A)) (hb : PE X b (IE X.K X.mg W B)) : PT X (.Compare a [.NotEq] [b] pos) (IT X.K X.mg W (tBl (eOp pNe A B))) := it_cmp (op_neD cx.room.units) snd_ne ha hb (nomark _)
theorem it_is (ha : PE X a (IE X.K X.mg W A)) (hb : PE X b (IE X.K X.mg W B)) : PT X (.Compare a [.Is] [b] pos) (IT X.K X.mg W (tBl (eOp pIsN A B))) := it_cmp op_isN snd_isn ha hb (nomark _)
theorem it_isnot (ha : PE X a (IE X.K X.mg W A)) (hb : PE X b (IE X.K X.mg W B)) : PT X (.Compare a [.IsNot] [b] pos) (IT X.K X.mg W (tBl (eOp pNotN A B))) := it_cmp op_notN snd_notn ha hb (nomark _)
theorem ie_lele (ha : PE X a (IE X.K X.mg W A)) (hb : PE X b (IE X.K X.mg W B)) (hc : PE X c (IE X.K X.mg W C)) (hm : lastMarks [.LtE, .LtE] [b, c] = false := by with_unfolding_all rfl) : PE X (.Compare a [.LtE, .LtE] [b, c] pos) (IE X.K X.mg W (eChain pLe pLe A B C)) := ie_chain op_le op_le snd_ci snd_ci ha hb hc hm
end
/-! ### the head's Hook -/
abbrev FrB := PySem.W.Frag → Bool
/-- what the names reach, step by step -/
def nextV (g : Addr → Option Obj) (as : List Addr) : List Addr := as.flatMap fun a => match g a with
  | some o => He.refsD o
  | none => []
def asV (g : Addr → Option Obj) : Nat → List Addr → List Addr
  | 0, as => as
  | n + 1, as => as ++ asV g n (nextV g as)
def asW (g : Addr → Option Obj) (n : Nat) : List Addr := asV g n [mainGlobals] ++ [PySem.cStatics]
def obsW (n : Nat) (ex : List FrB) (fn : List He5.DefA) (g : Addr → Option Obj) : He.AlD := ((ex.all fun f => f (He.frG g (asW g n))) && fn.all fun d => d.ok (He.frG g (asW g n)), fn.map fun d => He5.fnA (He.frG g (asW g n)) (d.at_ (He.frG g (asW g n))))
def SaysW (ex : List FrB) (fn : List He5.DefA) (K : PySem.W.Frag) : Prop := ((ex.all fun f => f K) && fn.all fun d => d.ok K, fn.map fun d => He5.fnA K (d.at_ K)) = He5.valA fn
def hookW (n : Nat) (ex : List FrB) (fn : List He5.DefA) : PySem.W.Hook where
  α := He.AlD
  obs := fun s => obsW n ex fn s.heap.get?
  val := fun _ => He5.valA fn
  says := fun _ h => ∃ K : PySem.W.Frag, K.In h ∧ SaysW ex fn K
  of := fun _ _ e => ⟨_, He.frG_in, e⟩
  keeps := fun _ _ _ ⟨K, hK, c⟩ k => ⟨K, PySem.W.Frag.In.keeps hK k, c⟩
theorem obsW_eq {n : Nat} {ex : List FrB} {fn : List He5.DefA} {g : Addr → Option Obj} {s : Shared} (h : ∀ a, g a = s.heap.get? a) : obsW n ex fn g = (hookW n ex fn).obs s := by
  have e : g = s.heap.get? := funext h
  rw [e] <;> rfl
section
variable {ex : List FrB} {fn : List He5.DefA} {K : PySem.W.Frag}
theorem SaysW.fact (c : SaysW ex fn K) {f : FrB} (h : f ∈ ex) : f K = true := by
  have c1 := (He.ba (show ((ex.all fun f => f K) && fn.all fun d => d.ok K) = true from congrArg (fun z : He.AlD => z.1) c)).1
  exact List.all_eq_true.mp c1 f h
theorem SaysW.def_ (c : SaysW ex fn K) (i : Nat) {d : He5.DefA} (h : fn[i]? = some d := by rfl) : ∃ fd, L2.FunD K d.name d.qual d.params d.body d.scope (d.dvs K) (d.kws K) (d.at_ K) fd := by
  have c2 := (He.ba (show ((ex.all fun f => f K) && fn.all fun d => d.ok K) = true from congrArg (fun z : He.AlD => z.1) c)).2
  have e : fn.map (fun d => He5.fnA K (d.at_ K)) = fn.map He5.DefA.val := congrArg (fun z : He.AlD => z.2) c
  have e2 : (fn.map fun d => He5.fnA K (d.at_ K))[i]? = (fn.map He5.DefA.val)[i]? := by rw [e]
  rw [List.getElem?_map, List.getElem?_map, h] at e2
  exact He5.DefA.funD (Option.some.inj e2) (List.all_eq_true.mp c2 d (List.mem_of_getElem? h))
end
/-- a def of the text, where it stands -/
def dA (at_ : PySem.W.Frag → Addr) (x q : Str) (st : Stmt) : He5.DefA := ⟨at_, x, q, defArgs st, defBody st, defScope st, [], []⟩
theorem SaysW.fun_ {ex : List FrB} {fn : List He5.DefA} {K : PySem.W.Frag} (c : SaysW ex fn K) (i : Nat) {at_ : PySem.W.Frag → Addr} {x q : Str} {st : Stmt} (h : fn[i]? = some (dA at_ x q st) := by rfl) : ∃ fd, Fun K x q st (at_ K) fd := by
  obtain ⟨fd, F⟩ := c.def_ i h
  exact ⟨fd, He5.fun_of F⟩
/-! facts as Bools -/
def bGlo (x : Str) : FrB := fun K => (He.Fa.glo x).ok K
def bFree (x : Str) : FrB := fun K => (He.Fa.free x).ok K
def bInt (x : Str) (i : Int) : FrB := fun K => (He.Fa.int x i).ok K
def bTup (x : Str) (vs : List He.Dv) : FrB := fun K => He.tupB K x vs
def bOwn (c : Str) : FrB := fun K => (He.Fa.cls c).ok K && (He.eqO (PySem.W.findIn K (.ref (He.ga K c)) "__class__") (some (some (.builtin "object.__class__"))) && (He.eqO (PySem.W.specialIn K (.builtin "object.__class__") "__get__") (some (some (.builtin "getset_descriptor.__get__"))) &&
  (decide (PySem.W.takesIn K (.builtin "object.__class__") = some true) && (decide (PySem.W.mroIn K (He.ga K c) (.type "object") = some true) &&
  (tyNames.all (fun n => decide (PySem.W.kitOne K (.type n) (.ref (He.ga K c)) = some false)) && tyNames.all (fun n => decide (PySem.W.kitOne K (.ref (He.ga K c)) (.type n) = some false)))))))
def bTwo (cs : List Str) : FrB := fun K => cs.all fun c => cs.all fun d => decide (PySem.W.kitOne K (.ref (He.ga K d)) (.ref (He.ga K c)) = some (d == c))
def bNoat (c f : Str) : FrB := fun K => (He.Fa.noat c f).ok K
def bMk (c : Str) : FrB := fun K => (He.Fa.mkr c).ok K
def bMeth (c m : Str) : FrB := fun K => (He.Fa.meth c m).ok K
def bProp (c m : Str) : FrB := fun K => He.eqO (PySem.W.findIn K (.ref (He.ga K c)) m) (some (some (.ref (He.ma K (He.ga K c) m)))) && (He.eqO (PySem.W.specialIn K (.ref (He.ma K (He.ga K c) m)) "__get__") (some (some (.builtin "property.__get__"))) &&
  (decide (PySem.W.takesIn K (.ref (He.ma K (He.ga K c) m)) = some true) && (match PySem.W.recIn K (He.ma K (He.ga K c) m) "property" with
    | some (.ref f :: _) => decide (f = He5.wf K (He.ga K c) "property" m)
    | _ => false)))
def bNf (c : Str) : FrB := fun K => PySem.W.notFirst K (He.ga K c) (.type "tuple")
section
variable {K : PySem.W.Frag} {mg : Str → Option Value} {h : Heap}
theorem bOwn_ok (X : K.In h) (G : h.Ns mainGlobals mg) {c : Str} (g : bGlo c K = true) (e : bOwn c K = true) : OwnC K mg c (He.ga K c) := by
  obtain ⟨e1, e⟩ := He.ba e
  obtain ⟨e2, e⟩ := He.ba e
  obtain ⟨e3, e⟩ := He.ba e
  obtain ⟨e4, e⟩ := He.ba e
  obtain ⟨e5, e⟩ := He.ba e
  obtain ⟨e6, e7⟩ := He.ba e
  exact ⟨He.glo_ok X G g, He.cls_ok e1, He.eqO_ok e2, He.eqO_ok e3, of_decide_eq_true e4, of_decide_eq_true e5,
    fun n hn => of_decide_eq_true (List.all_eq_true.mp e6 n (mem_of_contains hn)), fun n hn => of_decide_eq_true (List.all_eq_true.mp e7 n (mem_of_contains hn))⟩
theorem bTwo_ok (X : K.In h) (G : h.Ns mainGlobals mg) {cs : List Str} (o : ∀ c, cs.contains c = true → OwnC K mg c (He.ga K c)) (e : bTwo cs K = true) : OwnCs K mg cs :=
  ⟨fun c hc => ⟨_, o c hc⟩, fun c d C D hc hd gc gd => by
    have z := List.all_eq_true.mp (List.all_eq_true.mp e c (mem_of_contains hc)) d (mem_of_contains hd)
    have e1 := (o c hc).gC.symm.trans gc
    have e2 := (o d hd).gC.symm.trans gd
    cases e1
    cases e2
    exact of_decide_eq_true z⟩
theorem bProp_ok {c m : Str} (e : bProp c m K = true) : PropOf K (He.ga K c) m (He.ma K (He.ga K c) m) (He5.wf K (He.ga K c) "property" m) := by
  obtain ⟨e1, e⟩ := He.ba e
  obtain ⟨e2, e⟩ := He.ba e
  obtain ⟨e3, e4⟩ := He.ba e
  refine ⟨He.eqO_ok e1, He.eqO_ok e2, of_decide_eq_true e3, ?_⟩
  split at e4
  · rename_i f r hr
    have : f = He5.wf K (He.ga K c) "property" m := of_decide_eq_true e4
    rw [← this]
    exact ⟨r, hr⟩
  · cases e4
theorem bTup_ok {x : Str} {vs : List He.Dv} (e : bTup x vs K = true) (H : Hp) : SqT K H (He.ga K x) (vs.map (He.Dv.v K)) := He.tupB_ok e H
end
/-- the law's promise from the functional code -/
theorem law_sp {K : PySem.W.Frag} {mg : Str → Option Value} {F : List PV → IH → Res PV} (hF : ∀ ns : List Int, ns.length ≤ 63 → ∃ h, F [.fls (ns.map .int)] [] = .ok (.bl true) h) (H : Hp) (a : Addr) (ns : List Int) (hl : ns.length ≤ 63) (hO : Only H) (hS : SqL K H a (ns.map V.int)) :
    SpF K mg 1 F [.ref a] H (fun v _ => v = .bl true) fun _ _ _ => False := by
  have hf : SqF K H a (ns.map V.int) := by
    rcases hS with (hS | ⟨o, hS⟩) | hS
    · rcases hO a with z | ⟨o, xs, z⟩
      · rw [z] at hS; cases hS
      · rw [z] at hS; cases hS
    · exact .inl ⟨o, hS⟩
    · exact .inr hS
  have rs : ∀ l : List Int, RPs K mg H [] (l.map PV.int) (l.map V.int) := fun l => by
    induction l with
    | nil => exact .nil
    | cons x r ih => exact .cons (.int x) ih
  obtain ⟨h, e⟩ := hF ns hl
  refine ⟨[], [.fls (ns.map .int)], [], rfl, .one (.fls hf (rs ns)), ⟨rfl, List.nodup_nil, fun n o z => by cases z⟩, ?_⟩
  rw [e]
  intro V H' as' _ _ r
  cases r
  rfl
theorem fun_bA {K : PySem.W.Frag} {x qual : Str} {st : Stmt} {f : Addr} {fd : FuncData} {ps : List Str} (F : Fun K x qual st f fd)
    (h : ∀ (kV doc pm : Value) (an : Option Addr) (cdv ct : Value) (us : List Value), us.length = ps.length → bindArgs (PySem.W.fnOf x qual (defArgs st) (defBody st) (defScope st) .none kV doc pm an cdv ct) ⟨us, []⟩ = pure (ps.zip us)) (s : Shared) (us : List Value) (hl : us.length = ps.length) : BindsTo s fd ⟨us, []⟩ (ps.zip us) := by
  obtain ⟨oc, od, kV, doc, pm, an, cdv, ct, osl, e, _⟩ := F.ex
  rw [e]
  exact BindsTo.of_eq (h kV doc pm an cdv ct us hl)
theorem cx_none {P : Program} {w : World} {H : Hp} {s : Shared} {e : Value} {s' : Shared} (z : L2.CX P w [] H s (fun _ _ _ => False) e s') : False := by
  obtain ⟨_, _, _, _, _, _, _, _, _, _, _, _, q⟩ := z
  exact q
/-- a law from its functional code -/
theorem walk_W {l : PySem.W.OpenLaw} {k : Nat} {q : Program} {loose : List Str} {XP : (Str → Option Value) → Heap → Prop} {YP : World → Heap → Prop} {d : DefRec} {x : Str} {F : List PV → IH → Res PV}
    (hn : l.most = some 63) (hdf : d.params.defaults = []) (hr : Room k callerA)
    (hF : ∀ (w : World) (mg : Str → Option Value) (fa : Addr) (h : Heap), YP w h → h.Ns mainGlobals mg → mg d.name = some (.ref fa) →
      ∃ (K : PySem.W.Frag) (fd : FuncData), K.In h ∧ (∀ (s : Shared) (u : Value), BindsTo s fd ⟨[u], []⟩ [(x, u)]) ∧ ∀ base : Heap, K.In base → base.Ns mainGlobals mg → FnOk l.prog w K mg base (L2.CX l.prog w) k fa fd [x] (SpF K mg 1 F))
    (hl : ∀ ns : List Int, ns.length ≤ 63 → ∃ h, F [.fls (ns.map .int)] [] = .ok (.bl true) h) : PySem.W.WalkO q loose XP YP l.row.toRowW d [] (fun f vs => PySem.call f vs) := by
  refine Att.attach_call hn hdf fun w s0 s1 mg mb fa o pm cd doc a vs ns G Y ho hd hcd hmg hobj hints hlen hg => ?_
  obtain ⟨K, fd, KX, hb, hk⟩ := hF w mg fa _ Y G.T.g hmg
  exact law_call KX G.T.g G.T.b G.T.builtins G.T.nolimit hg hobj hints (by rw [sizeLine_eq]; omega) hr hk hb (fun H hO hS => law_sp hl H a ns hlen hO hS) fun H e s' z => cx_none z
end WR

/-! comprehensions -/
namespace WR
open PySem PySem.Spec PyProof.Rows L2
@[simp] def wipeF (r : Fm) : List Nat → Fm
  | [] => r
  | v :: vs => (wipeF r vs).set v none
def lcL (it : ItF) (g : TgF) (c : TX) (A : EX) (r0 : Fm) (D : Nat) : Nat → Nat → IH → Res Unit
  | 0, _, _ => .bad
  | n + 1, i, h => match it i h with
    | none => .bad
    | some none => .ok () h
    | some (some v) => (match g v r0 with
      | none => .bad
      | some r1 => (match c r1 h with
        | .ok b h2 => if b then (match A r1 h2 with
          | .ok y h3 => (match h3[D]? with
            | some (.lst acc) => if acc.length < 16777216 then lcL it g c A r0 D n (i + 1) (h3.set D (.lst (acc ++ [y]))) else .bad
            | _ => .bad)
          | _ => .bad) else lcL it g c A r0 D n (i + 1) h2
        | _ => .bad))
/-- [elt for tg in iter if c] -/
def eLc (I : Fm → IH → Res ItF) (g : TgF) (c : TX) (A : EX) (vs : List Nat) : EX := fun r h => (I r h).bind fun it h1 => (lcL it g c A (wipeF r vs) h1.length LIM 0 (h1 ++ [.lst []])).bind fun _ h2 => .ok (.obj h1.length) h2
@[simp] def tYesX : TX := fun _ h => .ok true h
section
variable {K : PySem.W.Frag} {mg : Str → Option Value} {as : List Addr} {H : Hp} {r : Fm} {s : L2.St}
theorem RF.unset {i : Nat} (f : RF K mg H as r s) : RF K mg H as (r.set i none) (s.set i none) := by
  refine ⟨by simp [f.len], fun j q e => ?_⟩
  by_cases hj : j = i
  · subst hj
    by_cases hl : j < r.length
    · rw [List.getElem?_set_self hl] at e; cases e
    · rw [List.getElem?_eq_none (by simpa using hl)] at e; cases e
  · rw [List.getElem?_set_ne (Ne.symm hj)] at e ⊢
    exact f.at_ j q e
theorem RF.wipe (f : RF K mg H as r s) : ∀ vs, RF K mg H as (wipeF r vs) (L2.wipe s vs)
  | [] => f
  | v :: vs => (RF.wipe f vs).unset
end
theorem wipe_get (s : L2.St) (j : Nat) : ∀ vs : List Nat, (L2.wipe s vs)[j]? = if j ∈ vs then s[j]?.map (fun _ => none) else s[j]?
  | [] => by simp [L2.wipe]
  | v :: vs => by
    have ih := wipe_get s j vs
    have hl := L2.wipe_length s vs
    unfold L2.wipe
    by_cases e : v = j
    · subst e
      rw [if_pos (by simp)]
      by_cases l : v < s.length
      · rw [List.getElem?_set_self (by rw [hl]; exact l), List.getElem?_eq_getElem l]; rfl
      · rw [List.getElem?_eq_none (by simp [hl]; omega), List.getElem?_eq_none (by omega)]; rfl
    · rw [List.getElem?_set_ne e, ih]
      by_cases m : j ∈ vs
      · rw [if_pos m, if_pos (by simp [m])]
      · rw [if_neg m, if_neg (by simp [m]; exact fun z => e z.symm)]
theorem wipe_set {s : L2.St} {i : Nat} {x : Option V} {vs : List Nat} (h : i ∈ vs) : L2.wipe (s.set i x) vs = L2.wipe s vs := by
  apply List.ext_getElem?
  intro j
  rw [wipe_get, wipe_get]
  by_cases m : j ∈ vs
  · rw [if_pos m, if_pos m]
    by_cases e : i = j
    · subst e
      by_cases l : i < s.length
      · rw [List.getElem?_set_self l, List.getElem?_eq_getElem l]; rfl
      · rw [List.getElem?_eq_none (by simp; omega), List.getElem?_eq_none (by omega)]
    · rw [List.getElem?_set_ne e]
  · rw [if_neg m, if_neg m, List.getElem?_set_ne (fun e : i = j => m (by rw [← e]; exact h))]
theorem wipe_wipe (s : L2.St) (vs : List Nat) : L2.wipe (L2.wipe s vs) vs = L2.wipe s vs := by
  apply List.ext_getElem?
  intro j
  rw [wipe_get, wipe_get]
  by_cases m : j ∈ vs
  · rw [if_pos m, if_pos m]; cases s[j]? <;> rfl
  · rw [if_neg m, if_neg m]
/-- a target within a block -/
def GW (K : PySem.W.Frag) (mg : Str → Option Value) (vs : List Nat) (g : TgF) : TG := fun v s H Q => ∃ as r p r1 h, RF K mg H as r s ∧ RH K mg H as h ∧ RP K mg H as p v ∧ g p r = some r1 ∧ ∀ s1, RF K mg H as r1 s1 → L2.wipe s1 vs = L2.wipe s vs → Q s1 H
def GWs (K : PySem.W.Frag) (mg : Str → Option Value) (vs is : List Nat) : TGs := fun us s H Q => ∃ as r ps r1, RF K mg H as r s ∧ RPs K mg H as ps us ∧ setAll is ps r = some r1 ∧ ∀ s1, RF K mg H as r1 s1 → L2.wipe s1 vs = L2.wipe s vs → Q s1 H
def W0 : WX := fun _ _ _ _ => False
section
variable {X : Cx} {W : WX} {k : Nat} {e : Expr} {es : List Expr} {pos : Pos}
theorem gw_name (i : Nat) {vs : List Nat} {x : Str} (hN : X.N.Nodup) (hi : X.N[i]? = some x := by rfl) (hx : Loc X.env.scope x := by first | exact Or.inl rfl | exact Or.inr rfl) (hf : X.fn x = true ∨ X.env.scope.names.lookup x = some .local := by first | exact .inl rfl | exact .inr rfl | assumption) (hv : i ∈ vs := by decide) :
    PG X (.Name x pos) (GW X.K X.mg vs (gVar i)) := by
  refine pgImp (pg_name hN hi hx hf) fun v s H Q ⟨as, r, p, r1, h, f, x, rp, e, q⟩ => ?_
  cases e
  exact q _ (f.set rp) (wipe_set hv)
theorem gws_nil {vs : List Nat} : PGs X [] (GWs X.K X.mg vs []) := by
  refine ⟨fun pins s σ H us ws Q I r q => pgs_nil.run pins s σ H us ws Q I r ?_⟩
  obtain ⟨as, r, ps, r1, f, rp, e, q⟩ := q
  cases ps with
  | nil => cases rp; cases e; exact ⟨rfl, q _ f rfl⟩
  | cons p ps => cases e
theorem gws_cons (i : Nat) {vs is : List Nat} {x : Str} (hN : X.N.Nodup) (h2 : PGs X es (GWs X.K X.mg vs is)) (hi : X.N[i]? = some x := by rfl) (hx : Loc X.env.scope x := by first | exact Or.inl rfl | exact Or.inr rfl) (hf : X.fn x = true ∨ X.env.scope.names.lookup x = some .local := by first | exact .inl rfl | exact .inr rfl | assumption) (hv : i ∈ vs := by decide)
    (hs : (assignEach (.Name x pos :: es) X.env).map (·.2) = assign (.Name x pos) X.env :: (assignEach es X.env).map (·.2) := by rfl) : PGs X (.Name x pos :: es) (GWs X.K X.mg vs (i :: is)) := by
  refine ⟨fun pins s σ H us ws Q I r q => (pgs_cons (pg_name (pos := pos) hN hi hx hf) h2 hs).run pins s σ H us ws Q I r ?_⟩
  obtain ⟨as, r, ps, r1, f, rp, e, q⟩ := q
  cases rp with
  | nil => cases e
  | cons a b => exact ⟨_, _, rfl, as, _, _, r1, f.set a, b, e, fun s1 f1 w1 => q s1 f1 (w1.trans (wipe_set hv))⟩
theorem gw_tup {vs is : List Nat} {kk : Nat} (cx : Ctx X W k) (h : PGs X es (GWs X.K X.mg vs is)) (hl : is.length = es.length := by rfl) (hn : (assignEach es X.env).length = es.length := by rfl) (hst : (assignEach es X.env).findIdx? (·.1) = none := by rfl) :
    PG X (.Tuple es kk pos) (GW X.K X.mg vs (gTupF is)) := by
  refine pgImp (pg_tup cx.calm h hn hst) fun v s H Q ⟨as, r, p, r1, h, f, x, rp, e, q⟩ => ?_
  cases rp with
  | tup hs rs =>
    refine ⟨_, _, rfl, hs, ?_, as, r, _, r1, f, rs, e, q⟩
    rw [← rs.length, ← hl]
    have key : ∀ (is : List Nat) (ps : List PV) (r : Fm) (r1 : Fm), setAll is ps r = some r1 → ps.length = is.length := by
      intro is
      induction is with
      | nil => intro ps r r1 e; cases ps with
        | nil => rfl
        | cons _ _ => cases e
      | cons i is ih => intro ps r r1 e; cases ps with
        | nil => cases e
        | cons p ps => rw [List.length_cons, List.length_cons, ih ps _ _ e]
    exact key _ _ _ _ e
  | non => cases e
  | bl => cases e
  | int => cases e
  | str => cases e
  | fls => cases e
  | obj => cases e
  | glo => cases e
  | ty => cases e
  | key => cases e
theorem Ctx.blk (cx : Ctx X W k) (s : Shared) (H : Hp) (scope : Scope) (cenv : Env) (fp : List Addr) : Ctx (X.blk s H scope cenv fp) W0 k :=
  ⟨fun u s' ⟨a, B, sI, pins, σ, H, cls, d, e, I, nb, up, sky, na, os, ag, w⟩ => w.elim, PassesOwn.never, cx.calm, cx.nd, cx.room⟩
theorem lc_sound {I : Fm → IH → Res ItF} {g : TgF} {c : TX} {A : EX} {vs : List Nat} {K : PySem.W.Frag} {mg : Str → Option Value} {s : L2.St} {H : Hp} {Q : VK} {as : List Addr} {r : Fm} {h : IH} (f : RF K mg H as r s) (x : RH K mg H as h)
    (o : Out K mg (fun H as p v => RP K mg H as p v) W s as H Q (eLc I g c A vs r h)) : tLc (II K mg W I) (GW K mg vs g) (IT K mg W0 c) (IE K mg W0 A) vs s H Q := by
  refine ⟨as, r, h, f, x, (Out.bind o).imp fun J H1 ⟨as1, h1, itf, S1, x1, ri, o1⟩ => ?_⟩
  intro D nD
  have SD := Stp.new (o := .lst []) x1 nD
  refine ⟨fun i m H2 => ∃ as2 h2, Stp as H as2 H2 ∧ RH K mg H2 as2 h2 ∧ RI K mg H2 as2 itf J ∧ as2[h1.length]? = some D ∧
    Out K mg (fun H as p v => RP K mg H as p v) W s as2 H2 Q ((lcL itf g c A (wipeF r vs) h1.length m i h2).bind fun _ h2 => .ok (.obj h1.length) h2),
    ⟨LIM, as1 ++ [D], h1 ++ [.lst []], S1.trans SD, x1.new (m := .lst []) nD ⟨_, upd_same, .nil⟩, ri.mono SD, ?_, o1.shift SD⟩, ?_⟩
  · rw [List.getElem?_append_right (by rw [x1.len]; exact Nat.le_refl _), x1.len, Nat.sub_self]; rfl
  rintro i m H2 ⟨as2, h2, S2, x2, ri2, d2, o2⟩
  cases m with
  | zero => exact o2.elim
  | succ m =>
    have z := ri2 i as2 H2 h2 (Stp.refl _ _) x2
    unfold lcL at o2
    cases q : itf i h2 with
    | none => rw [q] at o2; exact o2.elim
    | some w =>
      rw [q] at z o2
      cases w with
      | none => exact .inl ⟨z, o2.here x2 (.obj d2)⟩
      | some v =>
        refine .inr ⟨z.1, fun H3 => ∃ as3 h3, Stp as H as3 H3 ∧ RH K mg H3 as3 h3 ∧ RI K mg H3 as3 itf J ∧ as3[h1.length]? = some D ∧
          Out K mg (fun H as p v => RP K mg H as p v) W s as3 H3 Q ((lcL itf g c A (wipeF r vs) h1.length m (i + 1) h3).bind fun _ h2 => .ok (.obj h1.length) h2), fun H3 t => ⟨m, Nat.lt_succ_self m, t⟩, fun y H3 hy => ?_⟩
        obtain ⟨S3, x3, rv⟩ := z.2 y H3 hy
        cases qg : g v (wipeF r vs) with
        | none => simp only [qg] at o2; exact o2.elim
        | some r3 =>
          simp only [qg] at o2
          have S23 := S2.trans S3
          refine ⟨as2, wipeF r vs, v, r3, h2, (f.mono S23).wipe vs, x3, rv, qg, fun s4 f4 w4 => ⟨w4.trans (wipe_wipe _ _), as2, r3, h2, f4, x3, ?_⟩⟩
          have o3 := Out.shift S3 o2
          cases qc : c r3 h2 with
          | ex z r5 => simp only [qc] at o3; exact o3.elim
          | bad => simp only [qc] at o3; exact o3.elim
          | ok b h4 =>
            simp only [qc] at o3
            intro b' H4 as4 S4 x4 eb
            subst eb
            have o4 := Out.shift S4 o3
            cases b with
            | false =>
              simp only [Bool.false_eq_true, if_false] at o4 ⊢
              exact ⟨as4, h4, S23.trans S4, x4, (ri2.mono S3).mono S4, S4.get d2, o4⟩
            | true =>
              simp only [if_true] at o4 ⊢
              refine ⟨as4, r3, h4, f4.mono S4, x4, ?_⟩
              cases qa : A r3 h4 with
              | ex z r5 => simp only [qa] at o4; exact o4.elim
              | bad => simp only [qa] at o4; exact o4.elim
              | ok u h5 =>
                simp only [qa] at o4
                intro U H5 as5 S5 x5 ru
                have o5 := Out.shift S5 o4
                have d5 := S5.get (S4.get d2)
                split at o5
                · rename_i acc ha
                  split at o5
                  · rename_i hl
                    obtain ⟨b', e3, ws, e4, rs'⟩ := x5.at_ _ _ ha
                    rw [d5] at e3; cases e3
                    refine ⟨ws, e4, by rw [sizeLine_eq, ← rs'.length]; exact hl, ?_⟩
                    have S6 := Stp.put (o := .lst (ws ++ [U])) x5 d5 ha
                    exact ⟨as5, _, ((S23.trans S4).trans S5).trans S6, x5.put (m := .lst (acc ++ [u])) d5 ha ⟨_, upd_same, (rs'.append (.one ru)).mono S6⟩, (((ri2.mono S3).mono S4).mono S5).mono S6, S6.get d5, o5.shift S6⟩
                  · exact o5.elim
                · exact o5.elim
/-- as a value -/
theorem ie_lc {elt tg iter : Expr} {ifs : List Expr} {scope : Scope} {I : Fm → IH → Res ItF} {g : TgF} {c : TX} {A : EX} {vs : List Nat} (own : List (Str × Nat)) (cx : Ctx X W k) (hi : PI X tg iter (II X.K X.mg W I)) (ok : BlkOk X.N X.env.scope scope own)
    (hg : ∀ (s : Shared) (H : Hp) (C : Addr) (cl : List (Str × Addr)) (fp : List Addr), Ctx (X.blk s H scope (compEnvC scope cl C X.env) fp) W0 k → PG (X.blk s H scope (compEnvC scope cl C X.env) fp) tg (GW X.K X.mg vs g))
    (ht : ∀ (s : Shared) (H : Hp) (C : Addr) (cl : List (Str × Addr)) (fp : List Addr), Ctx (X.blk s H scope (compEnvC scope cl C X.env) fp) W0 k → PTs (X.blk s H scope (compEnvC scope cl C X.env) fp) ifs (IT X.K X.mg W0 c))
    (he : ∀ (s : Shared) (H : Hp) (C : Addr) (cl : List (Str × Addr)) (fp : List Addr), Ctx (X.blk s H scope (compEnvC scope cl C X.env) fp) W0 k → PE (X.blk s H scope (compEnvC scope cl C X.env) fp) elt (IE X.K X.mg W0 A))
    (hv : own.map (·.2) = vs := by rfl) (hs : ∀ x, foldedSetIterable iter X.env x = pure x := by intro _; rfl) : PE X (.ListComp elt [⟨tg, iter, ifs, 0⟩] scope pos) (IE X.K X.mg W (eLc I g c A vs)) := by
  subst hv
  exact peImp (pe_lc cx.calm cx.nd hi ok (fun s H C cl fp => hg s H C cl fp (cx.blk ..)) (fun s H C cl fp => ht s H C cl fp (cx.blk ..)) (fun s H C cl fp => he s H C cl fp (cx.blk ..)) hs) fun s H Q ⟨as, r, h, f, x, o⟩ => lc_sound f x o
theorem it_none : PTs X [] (IT X.K X.mg W tYesX) := ⟨fun pins s σ H Q I h => pts_nil.run pins s σ H Q I (by obtain ⟨as, r, h, f, x, o⟩ := h; exact o.here x rfl)⟩
/-- name = [..] on one line, the name a local -/
theorem is_setLc (i : Nat) {y : Str} {py spos : Pos} {elt tg iter : Expr} {ifs : List Expr} {scope : Scope} {I : Fm → IH → Res ItF} {g : TgF} {c : TX} {A : EX} {vs : List Nat} (own : List (Str × Nat)) (cx : Ctx X W k)
    (hsw : swapsWith (.ListComp elt [⟨tg, iter, ifs, 0⟩] scope pos) (some (.Name y py)) spos.line X.env = pure true) (hi : PI X tg iter (II X.K X.mg W I)) (ok : BlkOk X.N X.env.scope scope own)
    (hg : ∀ (s : Shared) (H : Hp) (C : Addr) (cl : List (Str × Addr)) (fp : List Addr), Ctx (X.blk s H scope (compEnvC scope cl C X.env) fp) W0 k → PG (X.blk s H scope (compEnvC scope cl C X.env) fp) tg (GW X.K X.mg vs g))
    (ht : ∀ (s : Shared) (H : Hp) (C : Addr) (cl : List (Str × Addr)) (fp : List Addr), Ctx (X.blk s H scope (compEnvC scope cl C X.env) fp) W0 k → PTs (X.blk s H scope (compEnvC scope cl C X.env) fp) ifs (IT X.K X.mg W0 c))
    (he : ∀ (s : Shared) (H : Hp) (C : Addr) (cl : List (Str × Addr)) (fp : List Addr), Ctx (X.blk s H scope (compEnvC scope cl C X.env) fp) W0 k → PE (X.blk s H scope (compEnvC scope cl C X.env) fp) elt (IE X.K X.mg W0 A))
    (hy : X.N[i]? = some y := by rfl) (hyl : X.env.scope.names.lookup y = some .local := by rfl)
    (hv : own.map (·.2) = vs := by rfl) (hs : ∀ x, foldedSetIterable iter X.env x = pure x := by intro _; rfl) : PS X (.Assign [.Name y py] (.ListComp elt [⟨tg, iter, ifs, 0⟩] scope pos) spos) (IS X.K X.mg W (sSet i (eLc I g c A vs))) := by
  subst hv
  refine psImp (ps_setLc cx.calm cx.nd hy hyl hsw hi ok (fun s H C cl fp => hg s H C cl fp (cx.blk ..)) (fun s H C cl fp => ht s H C cl fp (cx.blk ..)) (fun s H C cl fp => he s H C cl fp (cx.blk ..)) hs) fun D s H ⟨as, r, h, f, x, o⟩ => ?_
  refine lc_sound f x ((outS_of f o).imp fun V H1 ⟨as1, h1, p, S1, x1, r1, o1⟩ => ?_)
  exact o1 _ H1 as1 (Stp.refl _ _) x1 ((f.mono S1).set r1)
end
end WR

/-! more statements; in -/
namespace WR
open PySem PySem.Spec PyProof.Rows L2
@[simp] def sPar3 (i j l : Nat) (A : AX) : SX := fun r h => toS (A r h) r fun vs h1 => match vs with
  | [v, w, u] => .nx (((r.set i (some v)).set j (some w)).set l (some u)) h1
  | _ => .bad
@[simp] def sCont : SX := fun r h => .ct r h
@[simp] def sAugAdd (i : Nat) (A : EX) : SX := fun r h => match r[i]? with
  | some (some (.int x)) => toS (A r h) r fun v h1 => (match v with
    | .int y => .nx (r.set i (some (.int (x + y)))) h1
    | _ => .bad)
  | _ => .bad
def pInB (x y : PV) (h : IH) : Option Bool := match y with
  | .tup ys => (match x with
    | .int i => if ys.all (fun y => match y with | .int _ => true | _ => false) then some (ys.any fun y => match y with | .int j => j == i | _ => false) else none
    | _ => none)
  | _ => (match dataOf DEP h x, dataOf DEP h y with
    | some d, some (.list ds) => if SeqAt.shaped d && SeqAt.shaped (.list ds) then some (ds.any fun z => PyData.eqv z d) else none
    | _, _ => none)
@[simp] def pIn (x y : PV) (h : IH) : Res PV := opt ((pInB x y h).map .bl) h
@[simp] def pNotIn (x y : PV) (h : IH) : Res PV := opt ((pInB x y h).map fun b => .bl (!b)) h
section
variable {K : PySem.W.Frag} {mg : Str → Option Value}
theorem ints_flat {as : List Addr} {H : Hp} : ∀ {ys : List PV} {us : List V}, RPs K mg H as ys us → ys.all (fun y => match y with | .int _ => true | _ => false) = true → ∀ i : Int, us.all flatV = true ∧ inV (.int i) us = ys.any fun y => match y with | .int j => j == i | _ => false
  | [], _, .nil, _, i => ⟨rfl, rfl⟩
  | p :: ps, _, .cons r t, e, i => by
    rw [List.all_cons, Bool.and_eq_true] at e
    obtain ⟨e1, e2⟩ := e
    obtain ⟨h1, h2⟩ := ints_flat t e2 i
    cases r with
    | int j => exact ⟨by simp [flatV, h1], by unfold inV at *; rw [List.any_cons, List.any_cons, h2]; rfl⟩
    | _ => cases e1
theorem inB_of {as : List Addr} {H : Hp} {h : IH} {x y : PV} {U V : V} {q : Bool} (rh : RH K mg H as h) (rx : RP K mg H as x U) (ry : RP K mg H as y V) (e : pInB x y h = some q) :
    (∃ d ds, Dp K H U d ∧ Dp K H V (.list ds) ∧ SeqAt.shaped d = true ∧ SeqAt.shaped (.list ds) = true ∧ (ds.any fun z => PyData.eqv z d) = q) ∨
    ∃ p xs, V = .ref p ∧ (SqL K H p xs ∨ SqT K H p xs) ∧ flatV U = true ∧ xs.all flatV = true ∧ inV U xs = q := by
  unfold pInB at e
  split at e
  · split at e
    · split at e
      · rename_i hf
        cases ry with
        | tup hs rs =>
          cases rx
          cases e
          obtain ⟨h1, h2⟩ := ints_flat rs hf _
          exact .inr ⟨_, _, rfl, .inr hs, rfl, h1, h2⟩
      · cases e
    · cases e
  · split at e
    · rename_i d1 ds e1 e2
      split at e
      · rename_i hs
        obtain ⟨s1, s2⟩ := Bool.and_eq_true_iff.mp hs
        cases e
        exact .inl ⟨d1, ds, dp_of rh _ _ _ _ rx e1, dp_of rh _ _ _ _ ry e2, s1, s2, rfl⟩
      · cases e
    · cases e
theorem snd_in : Snd K mg pIn (fun x y H Q => rInD K x y H Q ∨ rIn K false x y H Q) := by
  intro W s as H h x y U V Q rh rx ry o
  unfold pIn at o
  cases q : pInB x y h with
  | none => rw [q] at o; exact o.elim
  | some z =>
    rw [q] at o
    rcases inB_of rh rx ry q with ⟨d, ds, h1, h2, h3, h4, rfl⟩ | ⟨p, xs, h1, h2, h3, h4, rfl⟩
    · exact .inl ⟨d, ds, h1, h2, h3, h4, o.here rh (.bl _)⟩
    · exact .inr ⟨p, xs, h1, h2, h3, h4, o.here rh (.bl _)⟩
theorem snd_notin : Snd K mg pNotIn (fun x y H Q => rNotInD K x y H Q ∨ rIn K true x y H Q) := by
  intro W s as H h x y U V Q rh rx ry o
  unfold pNotIn at o
  cases q : pInB x y h with
  | none => rw [q] at o; exact o.elim
  | some z =>
    rw [q] at o
    rcases inB_of rh rx ry q with ⟨d, ds, h1, h2, h3, h4, rfl⟩ | ⟨p, xs, h1, h2, h3, h4, rfl⟩
    · exact .inl ⟨d, ds, h1, h2, h3, h4, o.here rh (.bl _)⟩
    · exact .inr ⟨p, xs, h1, h2, h3, h4, o.here rh (.bl _)⟩
end
section
variable {X : Cx} {W : WX} {k : Nat} {a b e : Expr} {es : List Expr} {pos : Pos} {A B : EX} {L : AX}
theorem units65 {A : Around} (h : Room k A) : A.units + 65 < cLine := by
  have := h.un
  omega
theorem ie_in (cx : Ctx X W k) (ha : PE X a (IE X.K X.mg W A)) (hb : PE X b (IE X.K X.mg W B)) (hm : behindInMarks .In b = false := by rfl) : PE X (.Compare a [.In] [b] pos) (IE X.K X.mg W (eOp pIn A B)) := ie_cmp ((op_inD (units65 cx.room)).or op_in_seq) snd_in ha hb hm
theorem ie_notin (cx : Ctx X W k) (ha : PE X a (IE X.K X.mg W A)) (hb : PE X b (IE X.K X.mg W B)) (hm : behindInMarks .NotIn b = false := by rfl) : PE X (.Compare a [.NotIn] [b] pos) (IE X.K X.mg W (eOp pNotIn A B)) := ie_cmp ((op_notInD (units65 cx.room)).or op_notIn_seq) snd_notin ha hb hm
theorem it_in (cx : Ctx X W k) (ha : PE X a (IE X.K X.mg W A)) (hb : PE X b (IE X.K X.mg W B)) (hm : behindInMarks .In b = false := by rfl) : PT X (.Compare a [.In] [b] pos) (IT X.K X.mg W (tBl (eOp pIn A B))) := it_cmp ((op_inD (units65 cx.room)).or op_in_seq) snd_in ha hb hm
theorem it_notin (cx : Ctx X W k) (ha : PE X a (IE X.K X.mg W A)) (hb : PE X b (IE X.K X.mg W B)) (hm : behindInMarks .NotIn b = false := by rfl) : PT X (.Compare a [.NotIn] [b] pos) (IT X.K X.mg W (tBl (eOp pNotIn A B))) := it_cmp ((op_notInD (units65 cx.room)).or op_notIn_seq) snd_notin ha hb hm
theorem is_pass : PS X (.Pass pos) (IS X.K X.mg W sNil) := psImp ps_pass fun D s H ⟨as, r, h, f, x, o⟩ => o _ _ _ (Stp.refl _ _) x f
theorem is_cont : PS X (.Continue pos) (IS X.K X.mg W sCont) := psImp ps_continue fun D s H ⟨as, r, h, f, x, o⟩ => o _ _ _ (Stp.refl _ _) x f
theorem is_par3 {i j l : Nat} {x y z : Str} {a b c : Expr} {px py pz pt : Pos} {kt k2 pt2} (cx : Ctx X W k) (ha : PA X [a, b, c] (IA X.K X.mg W L)) (hi : X.N[i]? = some x := by rfl) (hj : X.N[j]? = some y := by rfl) (hl : X.N[l]? = some z := by rfl) (hij : i ≠ j := by decide) (hil : i ≠ l := by decide) (hjl : j ≠ l := by decide)
    (hx : X.env.scope.names.lookup x = some .local := by rfl) (hy : X.env.scope.names.lookup y = some .local := by rfl) (hz : X.env.scope.names.lookup z = some .local := by rfl)
    (hw : swappedStores [.Tuple [.Name x px, .Name y py, .Name z pz] kt pt] (.Tuple [a, b, c] k2 pt2) X.env = pure (some [x, y, z]) := by rfl)
    (hs : swapsWithSole [.Tuple [.Name x px, .Name y py, .Name z pz] kt pt] (.Tuple [a, b, c] k2 pt2) pos.line X.env = pure false := by rfl) :
    PS X (.Assign [.Tuple [.Name x px, .Name y py, .Name z pz] kt pt] (.Tuple [a, b, c] k2 pt2) pos) (IS X.K X.mg W (sPar3 i j l L)) := by
  refine psImp (ps_par3 cx.calm cx.nd hi hj hl hij hil hjl hx hy hz ha hw hs) fun D s H ⟨as, r, h, f, x, o⟩ => ?_
  refine ⟨as, r, h, f, x, (outS_of f o).imp fun Vs H1 ⟨as1, h1, ps, S1, x1, r1, o1⟩ => ?_⟩
  split at o1
  · cases r1 with
    | cons rv r1 => cases r1 with
      | cons rw' r1 => cases r1 with
        | cons ru r1 => cases r1; exact ⟨_, _, _, rfl, o1 _ H1 as1 (Stp.refl _ _) x1 ((((f.mono S1).set rv).set rw').set ru)⟩
  · exact o1.elim
theorem is_augAdd {i : Nat} {x : Str} {pos' : Pos} (cx : Ctx X W k) (he : PE X e (IE X.K X.mg W A)) (hi : X.N[i]? = some x := by rfl) (hx : Loc X.env.scope x := by first | exact Or.inl rfl | exact Or.inr rfl) (hf : X.fn x = true ∨ X.env.scope.names.lookup x = some .local := by first | exact .inl rfl | exact .inr rfl | assumption) :
    PS X (.AugAssign (.Name x pos') .Add e pos) (IS X.K X.mg W (sAugAdd i A)) := by
  refine psImp (ps_aug cx.nd hi hx he ip_add hf) fun D s H ⟨as, r, h, f, x, o⟩ => ?_
  unfold sAugAdd at o
  split at o
  · rename_i n e1
    obtain ⟨V, e2, rv⟩ := f.at_ i _ e1
    cases rv
    refine ⟨_, e2, as, r, h, f, x, (outS_of f o).imp fun V H1 ⟨as1, h1, p, S1, x1, r1, o1⟩ => ?_⟩
    split at o1
    · cases r1
      exact ⟨_, _, rfl, rfl, o1 _ H1 as1 (Stp.refl _ _) x1 ((f.mono S1).set (.int _))⟩
    · exact o1.elim
  · exact o.elim
end
end WR

/-! more of lists -/
namespace WR
open PySem PySem.Spec PyProof.Rows L2
@[simp] def eInsert (A : EX) (L : AX) : EX := fun r h => (A r h).bind fun x h1 => match x with
  | .obj n => (match h1[n]? with
    | some (.lst _) => (L r h1).bind fun vs h2 => (match vs, h2[n]? with
      | [.int i, y], some (.lst xs) => if xs.length < 16777216 ∧ 0 ≤ i ∧ i < 1000000000 then .ok .non (h2.set n (.lst (xs.take i.toNat ++ [y] ++ xs.drop i.toNat))) else .bad
      | _, _ => .bad)
    | _ => .bad)
  | _ => .bad
section
variable {X : Cx} {W : WX} {k : Nat} {a b e o : Expr} {es : List Expr} {pos : Pos} {A B C : EX} {L : AX}
theorem ie_insert {apos : Pos} (ho : PE X o (IE X.K X.mg W A)) (ha : PA X (e :: es) (IA X.K X.mg W L)) (hbase : attributeBase o "insert" X.env (eval o X.env) = eval o X.env := by rfl)
    (hfew : ((backTo pos (starEach (e :: es) X.env)).all (fun x => !x.1) && (backToKw pos (keywordEach [] X.env)).all (fun x => x.1.isSome)
      && decide ((e :: es).length + ([] : List Keyword).length + (if ([] : List Keyword).isEmpty then 0 else 1) < 30)) = true := by rfl)
    (hline : (apos.endLine == pos.line) = true := by rfl) (hs : starEach (e :: es) X.env = (false, eval e X.env) :: starEach es X.env := by rfl) (hplain : (backTo pos (starEach es X.env)).any (·.1) = false := by rfl) :
    PE X (.Call (.Attribute o "insert" apos) (e :: es) [] pos) (IE X.K X.mg W (eInsert A L)) := by
  refine peImp (pe_bm PySem.F.plainAttrs_list PySem.F.slot_list_insert PySem.F.type_list_insert mt_insert ho ha hbase hfew hline hs hplain) fun s H Q ⟨as, ρ, hh, f, x, o⟩ => ?_
  refine ⟨as, ρ, hh, f, x, (Out.bind o).imp fun V H1 ⟨as1, h1, p1, S1, x1, r1, o1⟩ => ?_⟩
  split at o1
  · rename_i n
    cases r1 with
    | obj hn =>
      split at o1
      · rename_i ys hy
        obtain ⟨b, e1, us, e2, rs⟩ := x1.at_ _ _ hy
        rw [hn] at e1; cases e1
        refine ⟨.inl ⟨rfl, _, SqL.of e2⟩, as1, ρ, h1, f.mono S1, x1, (Out.bind o1).imp fun Vs H2 ⟨as2, h2, p2, S2, x2, r2, o2⟩ => ?_⟩
        split at o2
        · rename_i i y xs hx
          split at o2
          · rename_i hl
            obtain ⟨v, w, rfl, rv, rw'⟩ := r2.inv2
            cases rv
            obtain ⟨b', e3, ws, e4, rs'⟩ := x2.at_ _ _ hx
            have hn2 := S2.get hn
            rw [hn2] at e3; cases e3
            refine ⟨_, ws, i, w, rfl, rfl, e4, by rw [sizeLine_eq, ← rs'.length]; exact hl.1, hl.2.1, by omega, ?_⟩
            have S3 := Stp.put (o := .lst (ws.take i.toNat ++ [w] ++ ws.drop i.toNat)) x2 hn2 hx
            exact o2 _ _ _ S3 (x2.put (m := .lst (xs.take i.toNat ++ [y] ++ xs.drop i.toNat)) hn2 hx ⟨_, upd_same, (((rs'.take _).append (.one rw')).append (rs'.drop _)).mono S3⟩) .non
          · exact o2.elim
        · exact o2.elim
      · exact o1.elim
  · exact o1.elim
end
end WR

/-! keys (tuples of ints that stand in H), dicts of them, sums, two clauses, calls of items -/
namespace WR
open PySem PySem.Spec PyProof.Rows L2
@[simp] def nrm : PV → PV
  | .key ks => .tup (ks.map .int)
  | v => v
@[simp] def eF (A : EX) : EX := fun r h => (A r h).bind fun v h1 => .ok (nrm v) h1
@[simp] def keyOf : List PV → Option (List Int)
  | [] => some []
  | .int i :: r => (keyOf r).map (i :: ·)
  | _ => none
@[simp] def eKey (L : AX) : EX := fun r h => (L r h).bind fun xs h1 => match keyOf xs with
  | some ks => if ks.length ≤ 16777216 then .ok (.key ks) h1 else .bad
  | none => .bad
@[simp] def pAddK : PV → PV → IH → Res PV
  | .key a, .key b, h => if a.length + b.length ≤ 16777216 then .ok (.key (a ++ b)) h else .bad
  | _, _, _ => .bad
@[simp] def pSlK : PV → Option Int → Option Int → IH → Res PV
  | .key ks, lo, hi, h => .ok (.key (cutA ks lo hi)) h
  | _, _, _, _ => .bad
@[simp] def eSlK (A : EX) (l u : OX) : EX := fun r h => (A r h).bind fun x h1 => (l r h1).bind fun lo h2 => (u r h2).bind fun hi h3 => pSlK x lo hi h3
section
variable {K : PySem.W.Frag} {mg : Str → Option Value} {as : List Addr} {H : Hp}
theorem RPs.ints : ∀ (ks : List Int), RPs K mg H as (ks.map .int) (ks.map V.int)
  | [] => .nil
  | k :: r => .cons (.int k) (RPs.ints r)
theorem RP.nrm {p : PV} {v : V} (r : RP K mg H as p v) : RP K mg H as (nrm p) v := by
  cases r with
  | key h => exact .tup (SqT.of h) (RPs.ints _)
  | non => exact .non
  | bl b => exact .bl b
  | int i => exact .int i
  | str x => exact .str x
  | tup a b => exact .tup a b
  | fls a b => exact .fls a b
  | obj a => exact .obj a
  | glo a b => exact .glo a b
  | ty n => exact .ty n
theorem keyOf_of : ∀ {ps : List PV} {vs : List V} {ks : List Int}, RPs K mg H as ps vs → keyOf ps = some ks → vs = ks.map V.int
  | [], _, _, .nil, e => by cases e; rfl
  | p :: ps, _, ks, .cons r t, e => by
    cases r with
    | int i =>
      simp only [keyOf, Option.map_eq_some_iff] at e
      obtain ⟨ks', e1, rfl⟩ := e
      rw [keyOf_of t e1]; rfl
    | _ => cases e
end
section
variable {X : Cx} {W : WX} {k : Nat} {a b e o : Expr} {es : List Expr} {pos p apos : Pos} {A B C : EX} {L : AX}
theorem ie_f (ha : PE X a (IE X.K X.mg W A)) : PE X a (IE X.K X.mg W (eF A)) := by
  refine peImp ha fun s H Q ⟨as, ρ, hh, f, x, o⟩ => ?_
  refine ⟨as, ρ, hh, f, x, (Out.bind o).imp fun V H1 ⟨as1, h1, p1, S1, x1, r1, o1⟩ => ?_⟩
  exact o1.here x1 r1.nrm
theorem ie_key {x1} (h : PA X es (IA X.K X.mg W L)) : PE X (.Tuple es x1 pos) (IE X.K X.mg W (eKey L)) := by
  refine peImp (pe_tup h) fun s H Q ⟨as, ρ, hh, f, x, o⟩ => ?_
  refine ⟨as, ρ, hh, f, x, (Out.bind o).imp fun Vs H1 ⟨as1, h1, p1, S1, x1, r1, o1⟩ => ?_⟩
  split at o1
  · rename_i ks hk
    have e := keyOf_of r1 hk
    subst e
    split at o1
    · rename_i hl
      refine ⟨by rw [sizeLine_eq, List.length_map]; exact hl, fun p np => ?_⟩
      exact o1 _ _ as1 (Stp.lay x1 np) (x1.lay np) (.key upd_same)
    · exact o1.elim
  · exact o1.elim
theorem snd_addK {K : PySem.W.Frag} {mg : Str → Option Value} : Snd K mg pAddK (rCatA K) := by
  intro W s as H h x y U V Q rh rx ry o
  unfold pAddK at o
  split at o
  · rename_i ks ls
    cases rx with
    | key ha => cases ry with
      | key hb =>
        split at o
        · rename_i hl
          refine ⟨_, _, _, _, rfl, rfl, SqT.of ha, SqT.of hb, by rw [sizeLine_eq, List.length_map, List.length_map]; exact hl, fun e => ?_, fun _ e => ?_, fun _ _ p np => ?_⟩
          · have e' : ks = [] := List.map_eq_nil_iff.mp e
            subst e'
            exact o.here rh (.key hb)
          · have e' : ls = [] := List.map_eq_nil_iff.mp e
            subst e'
            rw [List.append_nil] at o
            exact o.here rh (.key ha)
          · exact o _ _ as (Stp.lay rh np) (rh.lay np) (.key (by rw [upd_same, List.map_append]))
        · exact o.elim
  · exact o.elim
theorem ie_addK (ha : PE X a (IE X.K X.mg W A)) (hb : PE X b (IE X.K X.mg W B)) : PE X (.BinOp a .Add b pos) (IE X.K X.mg W (eOp pAddK A B)) := ie_op op_catA snd_addK ha hb
theorem cut_map {α β : Type} (g : α → β) (l : List α) (lo hi : Option Int) : (cutA l lo hi).map g = cutA (l.map g) lo hi := by
  unfold cutA
  rw [List.map_take, List.map_drop, List.length_map]
theorem ie_slK {lo hi : Option Expr} {p2 : Pos} {l u : OX} (he : PE X e (IE X.K X.mg W A)) (hl : PO X lo (IO X.K X.mg W l)) (hu : PO X hi (IO X.K X.mg W u)) : PE X (.Subscript e (.Slice lo hi none p2) pos) (IE X.K X.mg W (eSlK A l u)) := by
  refine peImp (pe_slice (sl_tupA.or sl_list) he hl hu) fun s H Q ⟨as, ρ, hh, f, x, o⟩ => ?_
  refine ⟨as, ρ, hh, f, x, (Out.bind o).imp fun V H1 ⟨as1, h1, p1, S1, x1, r1, o1⟩ => ?_⟩
  refine ⟨as1, ρ, h1, f.mono S1, x1, (Out.bind o1).imp fun lo' H2 ⟨as2, h2, p2, S2, x2, r2, o2⟩ => ?_⟩
  refine ⟨as2, ρ, h2, (f.mono S1).mono S2, x2, (Out.bind o2).imp fun hi' H3 ⟨as3, h3, p3, S3, x3, r3, o3⟩ => ?_⟩
  obtain rfl : p2 = lo' := r2
  obtain rfl : p3 = hi' := r3
  have r1' := (r1.mono S2).mono S3
  unfold pSlK at o3
  split at o3
  · rename_i ks
    cases r1' with
    | key hs =>
      refine .inl ⟨_, _, rfl, SqT.of hs, fun hw => ?_, fun _ p np => ?_⟩
      · have e : ∀ {α : Type} (l : List α), HT.sIx l.length 0 p2 = 0 ∧ HT.sIx l.length l.length p3 = l.length → cutA l p2 p3 = l := fun l z => by
          unfold cutA
          rw [z.1, z.2]
          simp
        rw [List.length_map] at hw
        rw [e _ hw] at o3
        exact o3.here x3 (.key hs)
      · refine o3 _ _ as3 (Stp.lay x3 np) (x3.lay np) (.key ?_)
        rw [upd_same, cut_map]; rfl
  · exact o3.elim
end
/-! ### dicts -/
def dGet (kvs : List (List Int × PV)) (k : List Int) : Option PV := (kvs.find? fun q => decide (q.1 = k)).map (·.2)
def dPut (kvs : List (List Int × PV)) (k : List Int) (v : PV) : List (List Int × PV) :=
  if (kvs.any fun q => decide (q.1 = k)) = true then kvs.map (fun q => if q.1 = k then (q.1, v) else q) else kvs ++ [(k, v)]
@[simp] def eDNew : EX := fun _ h => .ok (.obj h.length) (h ++ [.dct []])
@[simp] def pDGet (x y : PV) (h : IH) : Res PV := match x, y with
  | .obj n, .key k => (match h[n]? with
    | some (.dct kvs) => opt (dGet kvs k) h
    | _ => .bad)
  | _, _ => .bad
@[simp] def pDIn (y x : PV) (h : IH) : Res PV := match x, y with
  | .obj n, .key k => (match h[n]? with
    | some (.dct kvs) => .ok (.bl (dGet kvs k).isSome) h
    | _ => .bad)
  | _, _ => .bad
@[simp] def pDNotIn (y x : PV) (h : IH) : Res PV := match x, y with
  | .obj n, .key k => (match h[n]? with
    | some (.dct kvs) => .ok (.bl (!(dGet kvs k).isSome)) h
    | _ => .bad)
  | _, _ => .bad
/-- d[k] = v: v first -/
@[simp] def sDPutX (D Kx V : EX) : SX := fun r h => toS (V r h) r fun v h1 => toS (D r h1) r fun d h2 => toS (Kx r h2) r fun kk h3 => match d, kk with
  | .obj n, .key k => (match h3[n]? with
    | some (.dct kvs) => if kvs.length < 16777216 then .nx r (h3.set n (.dct (dPut kvs k v))) else .bad
    | _ => .bad)
  | _, _ => .bad
theorem kV_map (k : List Int) : (k.map (Sum.inl : Int → Key)).map kV = k.map V.int := by
  rw [List.map_map]; rfl
theorem inl_inj {a b : List Int} : a.map (Sum.inl : Int → Key) = b.map Sum.inl ↔ a = b := by
  constructor
  · intro h
    induction a generalizing b with
    | nil => cases b with
      | nil => rfl
      | cons _ _ => cases h
    | cons x r ih => cases b with
      | nil => cases h
      | cons y t =>
        simp only [List.map_cons, List.cons.injEq, Sum.inl.injEq] at h
        rw [h.1, ih h.2]
  · intro h; rw [h]
section
variable {K : PySem.W.Frag} {mg : Str → Option Value} {as : List Addr} {H : Hp}
theorem dGet_of (k : List Int) : ∀ {kvs : List (List Int × PV)} {gs : List (List Key × V)}, gs.map (·.1) = kvs.map (fun q => q.1.map (Sum.inl : Int → Key)) → RPs K mg H as (kvs.map (·.2)) (gs.map (·.2)) →
    (∃ p v, dGet kvs k = some p ∧ valV gs (k.map Sum.inl) = some v ∧ RP K mg H as p v) ∨ (dGet kvs k = none ∧ valV gs (k.map Sum.inl) = none)
  | [], [], _, _ => .inr ⟨rfl, rfl⟩
  | [], g :: gs, e, _ => by cases e
  | q :: kvs, [], e, _ => by cases e
  | q :: kvs, g :: gs, e, r => by
    simp only [List.map_cons, List.cons.injEq] at e
    cases r with
    | cons r1 r2 =>
      by_cases hk : q.1 = k
      · refine .inl ⟨q.2, g.2, by simp [dGet, List.find?_cons, hk], valV_pos (by rw [e.1, hk]), r1⟩
      · have hk' : ¬ g.1 = k.map (Sum.inl : Int → Key) := by rw [e.1]; exact fun z => hk (inl_inj.mp z)
        have e2 : dGet (q :: kvs) k = dGet kvs k := by simp [dGet, List.find?_cons, hk]
        rw [e2, valV_neg hk']
        exact dGet_of k e.2 r2
theorem any_of (k : List Int) {kvs : List (List Int × PV)} {gs : List (List Key × V)} (e : gs.map (·.1) = kvs.map (fun q => q.1.map (Sum.inl : Int → Key))) :
    (gs.any fun kv => decide (kv.1 = k.map Sum.inl)) = (kvs.any fun q => decide (q.1 = k)) := by
  induction kvs generalizing gs with
  | nil => cases gs with
    | nil => rfl
    | cons _ _ => cases e
  | cons q kvs ih => cases gs with
    | nil => cases e
    | cons g gs =>
      simp only [List.map_cons, List.cons.injEq] at e
      rw [List.any_cons, List.any_cons, ih e.2, e.1]
      congr 1
      rw [decide_eq_decide]
      exact inl_inj
theorem dPut_of (k : List Int) {v : PV} {u : V} (rv : RP K mg H as v u) {kvs : List (List Int × PV)} {gs : List (List Key × V)} (e : gs.map (·.1) = kvs.map (fun q => q.1.map (Sum.inl : Int → Key))) (r : RPs K mg H as (kvs.map (·.2)) (gs.map (·.2))) :
    (putK gs (k.map Sum.inl) u).map (·.1) = (dPut kvs k v).map (fun q => q.1.map (Sum.inl : Int → Key)) ∧ RPs K mg H as ((dPut kvs k v).map (·.2)) ((putK gs (k.map Sum.inl) u).map (·.2)) := by
  unfold putK dPut
  rw [any_of k e]
  split
  · rename_i hc
    clear hc
    induction kvs generalizing gs with
    | nil => cases gs with
      | nil => exact ⟨rfl, .nil⟩
      | cons _ _ => cases e
    | cons q kvs ih => cases gs with
      | nil => cases e
      | cons g gs =>
        simp only [List.map_cons, List.cons.injEq] at e
        cases r with
        | cons r1 r2 =>
          obtain ⟨i1, i2⟩ := ih e.2 r2
          by_cases hk : q.1 = k
          · have hg : g.1 = k.map (Sum.inl : Int → Key) := by rw [e.1, hk]
            simp only [List.map_cons, if_pos hk, if_pos hg]
            exact ⟨by rw [i1, hg, hk], .cons rv i2⟩
          · have hg : ¬ g.1 = k.map (Sum.inl : Int → Key) := by rw [e.1]; exact fun z => hk (inl_inj.mp z)
            simp only [List.map_cons, if_neg hk, if_neg hg]
            exact ⟨by rw [i1, e.1], .cons r1 i2⟩
  · simp only [List.map_append, List.map_cons, List.map_nil]
    exact ⟨by rw [e], r.append (.one rv)⟩
theorem dget_rel {h : IH} {n : Nat} {k : List Int} {kvs : List (List Int × PV)} {U V : V} (rh : RH K mg H as h) (rx : RP K mg H as (.obj n) U) (ry : RP K mg H as (.key k) V) (e : h[n]? = some (.dct kvs)) :
    ∃ a ov, U = .ref a ∧ DGet H a V ov ∧ ((∃ p v, dGet kvs k = some p ∧ ov = some v ∧ RP K mg H as p v) ∨ (dGet kvs k = none ∧ ov = none)) := by
  cases rx with
  | obj ha => cases ry with
    | key hb =>
      obtain ⟨a, g1, gs, g2, ek, rs⟩ := rh.at_ _ _ e
      rw [ha] at g1; cases g1
      refine ⟨_, _, rfl, DGet.t g2 (k := k.map Sum.inl) (by rw [hb, kV_map]), ?_⟩
      rcases dGet_of k ek rs with ⟨p, v, h1, h2, h3⟩ | ⟨h1, h2⟩
      · exact .inl ⟨p, v, h1, h2, h3⟩
      · exact .inr ⟨h1, h2⟩
end
section
variable {X : Cx} {W : WX} {k : Nat} {a b e o i : Expr} {es : List Expr} {pos p apos : Pos} {A B C : EX} {L : AX}
theorem ie_dnew : PE X (.Dict [] [] pos) (IE X.K X.mg W eDNew) := by
  refine peImp pe_dnewT fun s H Q ⟨as, ρ, hh, f, x, o⟩ => ?_
  intro p np
  have S := Stp.new (o := .dT []) x np
  refine o _ _ _ S (x.new np ⟨_, upd_same, rfl, .nil⟩) (.obj ?_)
  rw [List.getElem?_append_right (by rw [x.len]; exact Nat.le_refl _), x.len, Nat.sub_self]
  rfl
theorem ie_dget (cx : Ctx X W k) (ha : PE X a (IE X.K X.mg W A)) (hb : PE X b (IE X.K X.mg W B)) (hs : NoSl b := by intro _ _; rfl) : PE X (.Subscript a b pos) (IE X.K X.mg W (eOp pDGet A B)) := by
  refine peImp (pe_dget (hu_of cx.room) ha hb hs) fun s H Q ⟨as, ρ, hh, f, x, o⟩ => ?_
  refine ⟨as, ρ, hh, f, x, (Out.bind o).imp fun V H1 ⟨as1, h1, p1, S1, x1, r1, o1⟩ => ?_⟩
  refine ⟨as1, ρ, h1, f.mono S1, x1, (Out.bind o1).imp fun V2 H2 ⟨as2, h2, p2, S2, x2, r2, o2⟩ => ?_⟩
  unfold pDGet at o2
  split at o2
  · split at o2
    · rename_i kvs hk
      obtain ⟨a, ov, rfl, g, z⟩ := dget_rel x2 (r1.mono S2) r2 hk
      rcases z with ⟨p, v, h1, rfl, h3⟩ | ⟨h1, h2⟩
      · rw [h1] at o2
        exact ⟨_, _, rfl, g, o2.here x2 h3⟩
      · rw [h1] at o2; exact o2.elim
    · exact o2.elim
  · exact o2.elim
theorem op_din (hu : X.A.units + 1 < cLine) : OpR X (compareOp .In) (fun y x H Q => ∃ a o, x = .ref a ∧ DGet H a y o ∧ Q (.bl o.isSome) H) := by
  intro pins s σ H x y v u Q I rx ry h
  obtain ⟨a, o, rfl, g, q⟩ := h
  obtain rfl : u = Value.ref a := ry
  exact d_in hu I g rx fun s3 I3 => ⟨.bl o.isSome, H, I3, rfl, q⟩
theorem op_dnotin (hu : X.A.units + 1 < cLine) : OpR X (compareOp .NotIn) (fun y x H Q => ∃ a o, x = .ref a ∧ DGet H a y o ∧ Q (.bl (!o.isSome)) H) := by
  intro pins s σ H x y v u Q I rx ry h
  obtain ⟨a, o, rfl, g, q⟩ := h
  obtain rfl : u = Value.ref a := ry
  exact d_notIn hu I g rx fun s3 I3 => ⟨.bl (!o.isSome), H, I3, rfl, q⟩
theorem snd_din {K : PySem.W.Frag} {mg : Str → Option Value} : Snd K mg pDIn (fun y x H Q => ∃ a o, x = .ref a ∧ DGet H a y o ∧ Q (.bl o.isSome) H) := by
  intro W s as H h x y U V Q rh rx ry o
  unfold pDIn at o
  split at o
  · split at o
    · rename_i kvs hk
      obtain ⟨a, ov, rfl, g, z⟩ := dget_rel rh ry rx hk
      refine ⟨_, _, rfl, g, ?_⟩
      rcases z with ⟨p, v, h1, rfl, h3⟩ | ⟨h1, rfl⟩
      · rw [h1] at o; exact o.here rh (.bl _)
      · rw [h1] at o; exact o.here rh (.bl _)
    · exact o.elim
  · exact o.elim
theorem snd_dnotin {K : PySem.W.Frag} {mg : Str → Option Value} : Snd K mg pDNotIn (fun y x H Q => ∃ a o, x = .ref a ∧ DGet H a y o ∧ Q (.bl (!o.isSome)) H) := by
  intro W s as H h x y U V Q rh rx ry o
  unfold pDNotIn at o
  split at o
  · split at o
    · rename_i kvs hk
      obtain ⟨a, ov, rfl, g, z⟩ := dget_rel rh ry rx hk
      refine ⟨_, _, rfl, g, ?_⟩
      rcases z with ⟨p, v, h1, rfl, h3⟩ | ⟨h1, rfl⟩
      · rw [h1] at o; exact o.here rh (.bl _)
      · rw [h1] at o; exact o.here rh (.bl _)
    · exact o.elim
  · exact o.elim
theorem ie_din (cx : Ctx X W k) (ha : PE X a (IE X.K X.mg W A)) (hb : PE X b (IE X.K X.mg W B)) (hm : behindInMarks .In b = false := by rfl) : PE X (.Compare a [.In] [b] pos) (IE X.K X.mg W (eOp pDIn A B)) := ie_cmp (op_din (hu_of cx.room)) snd_din ha hb hm
theorem it_din (cx : Ctx X W k) (ha : PE X a (IE X.K X.mg W A)) (hb : PE X b (IE X.K X.mg W B)) (hm : behindInMarks .In b = false := by rfl) : PT X (.Compare a [.In] [b] pos) (IT X.K X.mg W (tBl (eOp pDIn A B))) := it_cmp (op_din (hu_of cx.room)) snd_din ha hb hm
theorem ie_dnotin (cx : Ctx X W k) (ha : PE X a (IE X.K X.mg W A)) (hb : PE X b (IE X.K X.mg W B)) (hm : behindInMarks .NotIn b = false := by rfl) : PE X (.Compare a [.NotIn] [b] pos) (IE X.K X.mg W (eOp pDNotIn A B)) := ie_cmp (op_dnotin (hu_of cx.room)) snd_dnotin ha hb hm
theorem it_dnotin (cx : Ctx X W k) (ha : PE X a (IE X.K X.mg W A)) (hb : PE X b (IE X.K X.mg W B)) (hm : behindInMarks .NotIn b = false := by rfl) : PT X (.Compare a [.NotIn] [b] pos) (IT X.K X.mg W (tBl (eOp pDNotIn A B))) := it_cmp (op_dnotin (hu_of cx.room)) snd_dnotin ha hb hm
theorem is_dput {value : Expr} {pos' : Pos} (cx : Ctx X W k) (hv : PE X value (IE X.K X.mg W C)) (ho : PE X o (IE X.K X.mg W A)) (hi : PE X i (IE X.K X.mg W B)) (hs : swapsWith value (some (.Subscript o i pos')) pos.line X.env = pure false := by rfl) :
    PS X (.Assign [.Subscript o i pos'] value pos) (IS X.K X.mg W (sDPutX A B C)) := by
  refine psImp (ps_dput (hu_of cx.room) ho hi hv hs) fun D s H ⟨as, r, h, f, x, o⟩ => ?_
  refine ⟨as, r, h, f, x, (outS_of f o).imp fun V H1 ⟨as1, h1, p1, S1, x1, r1, o1⟩ => ?_⟩
  refine ⟨as1, r, h1, f.mono S1, x1, (outS_of (f.mono S1) o1).imp fun V2 H2 ⟨as2, h2, p2, S2, x2, r2, o2⟩ => ?_⟩
  refine ⟨as2, r, h2, (f.mono S1).mono S2, x2, (outS_of ((f.mono S1).mono S2) o2).imp fun V3 H3 ⟨as3, h3, p3, S3, x3, r3, o3⟩ => ?_⟩
  split at o3
  · rename_i n kk _
    split at o3
    · rename_i kvs hk
      split at o3
      · rename_i hl
        have r2' := r2.mono S3
        have r1' := (r1.mono S2).mono S3
        cases r2' with
        | obj ha => cases r3 with
          | key hb =>
            obtain ⟨a, g1, gs, g2, ek, rs⟩ := x3.at_ _ _ hk
            rw [ha] at g1; cases g1
            have hlen : gs.length = kvs.length := by have := congrArg List.length ek; simpa using this
            refine ⟨_, _, rfl, DPut.t g2 (k := kk.map Sum.inl) (by rw [hb, kV_map]) (by rw [sizeLine_eq, hlen]; exact hl), ?_⟩
            have S4 := Stp.put (o := .dT (putK gs (kk.map Sum.inl) V)) x3 ha hk
            obtain ⟨q1, q2⟩ := dPut_of kk r1' ek rs
            exact o3 _ _ as3 S4 (x3.put (m := .dct (dPut kvs kk p1)) ha hk ⟨_, upd_same, q1, q2.mono S4⟩) ((((f.mono S1).mono S2).mono S3).mono S4)
      · exact o3.elim
    · exact o3.elim
  · exact o3.elim
end
/-! ### sums -/
@[simp] def pSum : List PV → IH → Res PV
  | [.obj n], h => (match h[n]? with
    | some (.lst xs) => (match keyOf xs with
      | some ns => .ok (.int ns.sum) h
      | none => .bad)
    | _ => .bad)
  | _, _ => .bad
theorem snd_sum {K : PySem.W.Frag} {mg : Str → Option Value} : SndC K mg pSum (rSum K) := by
  intro W s as H h us vs Q rh rs o
  unfold pSum at o
  split at o
  · split at o
    · rename_i xs hx
      split at o
      · rename_i ns hn
        obtain ⟨v, rfl, rv⟩ := rs.inv1
        cases rv with
        | obj ha =>
          obtain ⟨a, g1, ys, g2, r2⟩ := rh.at_ _ _ hx
          rw [ha] at g1; cases g1
          have e := keyOf_of r2 hn
          subst e
          exact ⟨_, ns, rfl, SqL.of g2, o.here rh (.int _)⟩
      · exact o.elim
    · exact o.elim
  · exact o.elim
section
variable {X : Cx} {W : WX} {k : Nat} {a b e o i : Expr} {es : List Expr} {pos p apos : Pos} {A B C : EX} {L : AX}
theorem ie_sum (cx : Ctx X W k) (hm : X.mg "sum" = none) (ha : PA X (e :: es) (IA X.K X.mg W L)) (hg : Gl X "sum" := by rfl) (he : starEach (e :: es) X.env = (false, eval e X.env) :: starEach es X.env := by rfl) (hpl : (backTo pos (starEach es X.env)).any (·.1) = false := by rfl) : PE X (.Call (.Name "sum" p) (e :: es) [] pos) (IE X.K X.mg W (eB pSum L)) :=
  ie_callB (cr_sum cx.calm) snd_sum hm (by decide +kernel) ha hg (by decide) (by decide) he hpl
end
end WR

/-! comprehensions of two clauses, calls of items, the base of a def that calls itself -/
namespace WR
open PySem PySem.Spec PyProof.Rows L2
def lc2L (it : ItF) (g : TgF) (c : TX) (I1 : Fm → IH → Res ItF) (g1 : TgF) (c1 : TX) (A : EX) (r0 : Fm) (vs1 : List Nat) (D : Nat) : Nat → Nat → IH → Res Unit
  | 0, _, _ => .bad
  | n + 1, i, h => match it i h with
    | none => .bad
    | some none => .ok () h
    | some (some v) => (match g v r0 with
      | none => .bad
      | some r1 => (match c r1 h with
        | .ok b h2 => if b then (match I1 r1 h2 with
          | .ok it1 h3 => (match lcL it1 g1 c1 A (wipeF r1 vs1) D LIM 0 h3 with
            | .ok _ h4 => lc2L it g c I1 g1 c1 A r0 vs1 D n (i + 1) h4
            | _ => .bad)
          | _ => .bad) else lc2L it g c I1 g1 c1 A r0 vs1 D n (i + 1) h2
        | _ => .bad))
def eLc2 (I : Fm → IH → Res ItF) (g : TgF) (c : TX) (I1 : Fm → IH → Res ItF) (g1 : TgF) (c1 : TX) (A : EX) (vs vs1 : List Nat) : EX := fun r h => (I r h).bind fun it h1 => (lc2L it g c I1 g1 c1 A (wipeF r vs) vs1 h1.length LIM 0 (h1 ++ [.lst []])).bind fun _ h2 => .ok (.obj h1.length) h2
section
variable {X : Cx} {W : WX} {k : Nat} {e : Expr} {es : List Expr} {pos : Pos}
theorem lc2_sound {I I1 : Fm → IH → Res ItF} {g g1 : TgF} {c c1 : TX} {A : EX} {vs vs1 : List Nat} {K : PySem.W.Frag} {mg : Str → Option Value} {s : L2.St} {H : Hp} {Q : VK} {as : List Addr} {r : Fm} {h : IH} (f : RF K mg H as r s) (x : RH K mg H as h)
    (o : Out K mg (fun H as p v => RP K mg H as p v) W s as H Q (eLc2 I g c I1 g1 c1 A vs vs1 r h)) : tLc2 (II K mg W I) (GW K mg vs g) (IT K mg W0 c) (II K mg W0 I1) (GW K mg vs1 g1) (IT K mg W0 c1) (IE K mg W0 A) vs vs1 s H Q := by
  refine ⟨as, r, h, f, x, (Out.bind o).imp fun J H1 ⟨as1, h1, itf, S1, x1, ri, o1⟩ => ?_⟩
  intro D nD
  have SD := Stp.new (o := .lst []) x1 nD
  refine ⟨fun i m H2 => ∃ as2 h2, Stp as H as2 H2 ∧ RH K mg H2 as2 h2 ∧ RI K mg H2 as2 itf J ∧ as2[h1.length]? = some D ∧
    Out K mg (fun H as p v => RP K mg H as p v) W s as2 H2 Q ((lc2L itf g c I1 g1 c1 A (wipeF r vs) vs1 h1.length m i h2).bind fun _ h2 => .ok (.obj h1.length) h2),
    ⟨LIM, as1 ++ [D], h1 ++ [.lst []], S1.trans SD, x1.new (m := .lst []) nD ⟨_, upd_same, .nil⟩, ri.mono SD, ?_, o1.shift SD⟩, ?_⟩
  · rw [List.getElem?_append_right (by rw [x1.len]; exact Nat.le_refl _), x1.len, Nat.sub_self]; rfl
  rintro i m H2 ⟨as2, h2, S2, x2, ri2, d2, o2⟩
  cases m with
  | zero => exact o2.elim
  | succ m =>
    have z := ri2 i as2 H2 h2 (Stp.refl _ _) x2
    unfold lc2L at o2
    cases q : itf i h2 with
    | none => rw [q] at o2; exact o2.elim
    | some w =>
      rw [q] at z o2
      cases w with
      | none => exact .inl ⟨z, o2.here x2 (.obj d2)⟩
      | some v =>
        refine .inr ⟨z.1, fun H3 => ∃ as3 h3, Stp as H as3 H3 ∧ RH K mg H3 as3 h3 ∧ RI K mg H3 as3 itf J ∧ as3[h1.length]? = some D ∧
          Out K mg (fun H as p v => RP K mg H as p v) W s as3 H3 Q ((lc2L itf g c I1 g1 c1 A (wipeF r vs) vs1 h1.length m (i + 1) h3).bind fun _ h2 => .ok (.obj h1.length) h2), fun H3 t => ⟨m, Nat.lt_succ_self m, t⟩, fun y H3 hy => ?_⟩
        obtain ⟨S3, x3, rv⟩ := z.2 y H3 hy
        cases qg : g v (wipeF r vs) with
        | none => simp only [qg] at o2; exact o2.elim
        | some r3 =>
          simp only [qg] at o2
          have S23 := S2.trans S3
          refine ⟨as2, wipeF r vs, v, r3, h2, (f.mono S23).wipe vs, x3, rv, qg, fun s4 f4 w4 => ⟨w4.trans (wipe_wipe _ _), as2, r3, h2, f4, x3, ?_⟩⟩
          have o3 := Out.shift S3 o2
          cases qc : c r3 h2 with
          | ex z r5 => simp only [qc] at o3; exact o3.elim
          | bad => simp only [qc] at o3; exact o3.elim
          | ok b h4 =>
            simp only [qc] at o3
            intro b' H4 as4 S4 x4 eb
            subst eb
            have o4 := Out.shift S4 o3
            cases b with
            | false =>
              simp only [Bool.false_eq_true, if_false] at o4 ⊢
              exact ⟨as4, h4, S23.trans S4, x4, (ri2.mono S3).mono S4, S4.get d2, o4⟩
            | true =>
              simp only [if_true] at o4 ⊢
              refine ⟨as4, r3, h4, f4.mono S4, x4, ?_⟩
              cases qi : I1 r3 h4 with
              | ex z r5 => simp only [qi] at o4; exact o4.elim
              | bad => simp only [qi] at o4; exact o4.elim
              | ok it1 h5 =>
                simp only [qi] at o4
                intro J1 H5 as5 S5 x5 rj
                have o5 := Out.shift S5 o4
                have d5 := S5.get (S4.get d2)
                have ri5 := ((ri2.mono S3).mono S4).mono S5
                have S05 := (S23.trans S4).trans S5
                have f5 := (f4.mono S4).mono S5
                refine ⟨fun j k' H6 => ∃ as6 h6, Stp as5 H5 as6 H6 ∧ RH K mg H6 as6 h6 ∧ RI K mg H6 as6 it1 J1 ∧
                  Out K mg (fun H as p v => RP K mg H as p v) W s as6 H6 Q ((match lcL it1 g1 c1 A (wipeF r3 vs1) h1.length k' j h6 with
                    | .ok _ h4 => lc2L itf g c I1 g1 c1 A (wipeF r vs) vs1 h1.length m (i + 1) h4
                    | _ => .bad).bind fun _ h2 => .ok (.obj h1.length) h2), ⟨LIM, as5, h5, Stp.refl _ _, x5, rj, o5⟩, ?_⟩
                rintro j k' H6 ⟨as6, h6, S6, x6, rj6, o6⟩
                cases k' with
                | zero => exact o6.elim
                | succ k' =>
                  have z6 := rj6 j as6 H6 h6 (Stp.refl _ _) x6
                  unfold lcL at o6
                  cases q6 : it1 j h6 with
                  | none => rw [q6] at o6; exact o6.elim
                  | some w6 =>
                    rw [q6] at z6 o6
                    cases w6 with
                    | none => exact .inl ⟨z6, as6, h6, S05.trans S6, x6, ri5.mono S6, S6.get d5, o6⟩
                    | some v6 =>
                      refine .inr ⟨z6.1, fun H7 => ∃ as7 h7, Stp as5 H5 as7 H7 ∧ RH K mg H7 as7 h7 ∧ RI K mg H7 as7 it1 J1 ∧
                        Out K mg (fun H as p v => RP K mg H as p v) W s as7 H7 Q ((match lcL it1 g1 c1 A (wipeF r3 vs1) h1.length k' (j + 1) h7 with
                          | .ok _ h4 => lc2L itf g c I1 g1 c1 A (wipeF r vs) vs1 h1.length m (i + 1) h4
                          | _ => .bad).bind fun _ h2 => .ok (.obj h1.length) h2), fun H7 t => ⟨k', Nat.lt_succ_self k', t⟩, fun y7 H7 hy7 => ?_⟩
                      obtain ⟨S7, x7, rv7⟩ := z6.2 y7 H7 hy7
                      cases qg7 : g1 v6 (wipeF r3 vs1) with
                      | none => simp only [qg7] at o6; exact o6.elim
                      | some r7 =>
                        simp only [qg7] at o6
                        have S67 := S6.trans S7
                        refine ⟨as6, wipeF r3 vs1, v6, r7, h6, (f5.mono S67).wipe vs1, x7, rv7, qg7, fun s8 f8 w8 => ⟨w8.trans (wipe_wipe _ _), as6, r7, h6, f8, x7, ?_⟩⟩
                        have o7 := Out.shift S7 o6
                        cases qc7 : c1 r7 h6 with
                        | ex z r5 => simp only [qc7] at o7; exact o7.elim
                        | bad => simp only [qc7] at o7; exact o7.elim
                        | ok b7 h7 =>
                          simp only [qc7] at o7
                          intro b7' H8 as8 S8 x8 eb
                          subst eb
                          have o8 := Out.shift S8 o7
                          cases b7 with
                          | false =>
                            simp only [Bool.false_eq_true, if_false] at o8 ⊢
                            exact ⟨as8, h7, S67.trans S8, x8, (rj6.mono S7).mono S8, o8⟩
                          | true =>
                            simp only [if_true] at o8 ⊢
                            refine ⟨as8, r7, h7, f8.mono S8, x8, ?_⟩
                            cases qa : A r7 h7 with
                            | ex z r5 => simp only [qa] at o8; exact o8.elim
                            | bad => simp only [qa] at o8; exact o8.elim
                            | ok u h9 =>
                              simp only [qa] at o8
                              intro U H9 as9 S9 x9 ru
                              have o9 := Out.shift S9 o8
                              have d9 := S9.get (S8.get (S67.get d5))
                              cases qd : h9[h1.length]? with
                              | none => simp only [qd] at o9; exact o9.elim
                              | some ob =>
                                cases ob with
                                | ins _ _ => simp only [qd] at o9; exact o9.elim
                                | dct _ => simp only [qd] at o9; exact o9.elim
                                | dks _ => simp only [qd] at o9; exact o9.elim
                                | tbl _ => simp only [qd] at o9; exact o9.elim
                                | lst acc =>
                                  simp only [qd] at o9
                                  by_cases hl : acc.length < 16777216
                                  · simp only [hl, if_true] at o9
                                    obtain ⟨b', e3, ws, e4, rs'⟩ := x9.at_ _ _ qd
                                    rw [d9] at e3; cases e3
                                    refine ⟨ws, e4, by rw [sizeLine_eq, ← rs'.length]; exact hl, ?_⟩
                                    have S10 := Stp.put (o := .lst (ws ++ [U])) x9 d9 qd
                                    exact ⟨as9, _, ((S67.trans S8).trans S9).trans S10, x9.put (m := .lst (acc ++ [u])) d9 qd ⟨_, upd_same, (rs'.append (.one ru)).mono S10⟩, (((rj6.mono S7).mono S8).mono S9).mono S10, o9.shift S10⟩
                                  · simp only [hl, if_false] at o9; exact o9.elim
theorem ie_lc2 {elt tg iter tg1 iter1 : Expr} {ifs ifs1 : List Expr} {scope : Scope} {I I1 : Fm → IH → Res ItF} {g g1 : TgF} {c c1 : TX} {A : EX} {vs vs1 : List Nat} (own : List (Str × Nat)) (cx : Ctx X W k) (hi : PI X tg iter (II X.K X.mg W I)) (ok : BlkOk X.N X.env.scope scope own)
    (hg : ∀ (s : Shared) (H : Hp) (C : Addr) (cl : List (Str × Addr)) (fp : List Addr), Ctx (X.blk s H scope (compEnvC scope cl C X.env) fp) W0 k → PG (X.blk s H scope (compEnvC scope cl C X.env) fp) tg (GW X.K X.mg vs g))
    (ht : ∀ (s : Shared) (H : Hp) (C : Addr) (cl : List (Str × Addr)) (fp : List Addr), Ctx (X.blk s H scope (compEnvC scope cl C X.env) fp) W0 k → PTs (X.blk s H scope (compEnvC scope cl C X.env) fp) ifs (IT X.K X.mg W0 c))
    (hi1 : ∀ (s : Shared) (H : Hp) (C : Addr) (cl : List (Str × Addr)) (fp : List Addr), Ctx (X.blk s H scope (compEnvC scope cl C X.env) fp) W0 k → PI (X.blk s H scope (compEnvC scope cl C X.env) fp) tg1 iter1 (II X.K X.mg W0 I1))
    (hg1 : ∀ (s : Shared) (H : Hp) (C : Addr) (cl : List (Str × Addr)) (fp : List Addr), Ctx (X.blk s H scope (compEnvC scope cl C X.env) fp) W0 k → PG (X.blk s H scope (compEnvC scope cl C X.env) fp) tg1 (GW X.K X.mg vs1 g1))
    (ht1 : ∀ (s : Shared) (H : Hp) (C : Addr) (cl : List (Str × Addr)) (fp : List Addr), Ctx (X.blk s H scope (compEnvC scope cl C X.env) fp) W0 k → PTs (X.blk s H scope (compEnvC scope cl C X.env) fp) ifs1 (IT X.K X.mg W0 c1))
    (he : ∀ (s : Shared) (H : Hp) (C : Addr) (cl : List (Str × Addr)) (fp : List Addr), Ctx (X.blk s H scope (compEnvC scope cl C X.env) fp) W0 k → PE (X.blk s H scope (compEnvC scope cl C X.env) fp) elt (IE X.K X.mg W0 A))
    (hv : own.map (·.2) = vs := by rfl) (hv1 : ∀ i ∈ vs1, i ∈ vs := by decide) (hs : ∀ x, foldedSetIterable iter X.env x = pure x := by intro _; rfl) (hs1 : ∀ env x, foldedSetIterable iter1 env x = pure x := by intro _ _; rfl) :
    PE X (.ListComp elt [⟨tg, iter, ifs, 0⟩, ⟨tg1, iter1, ifs1, 0⟩] scope pos) (IE X.K X.mg W (eLc2 I g c I1 g1 c1 A vs vs1)) := by
  subst hv
  exact peImp (pe_lc2 cx.calm cx.nd hi ok hv1 (fun s H C cl fp => hg s H C cl fp (cx.blk ..)) (fun s H C cl fp => ht s H C cl fp (cx.blk ..)) (fun s H C cl fp => hi1 s H C cl fp (cx.blk ..)) (fun s H C cl fp => hg1 s H C cl fp (cx.blk ..)) (fun s H C cl fp => ht1 s H C cl fp (cx.blk ..)) (fun s H C cl fp => he s H C cl fp (cx.blk ..)) hs hs1) fun s H Q ⟨as, r, h, f, x, o⟩ => lc2_sound f x o
theorem is_setLc2 (i : Nat) {y : Str} {py spos : Pos} {elt tg iter tg1 iter1 : Expr} {ifs ifs1 : List Expr} {scope : Scope} {I I1 : Fm → IH → Res ItF} {g g1 : TgF} {c c1 : TX} {A : EX} {vs vs1 : List Nat} (own : List (Str × Nat)) (cx : Ctx X W k)
    (hsw : swapsWith (.ListComp elt [⟨tg, iter, ifs, 0⟩, ⟨tg1, iter1, ifs1, 0⟩] scope pos) (some (.Name y py)) spos.line X.env = pure true) (hi : PI X tg iter (II X.K X.mg W I)) (ok : BlkOk X.N X.env.scope scope own)
    (hg : ∀ (s : Shared) (H : Hp) (C : Addr) (cl : List (Str × Addr)) (fp : List Addr), Ctx (X.blk s H scope (compEnvC scope cl C X.env) fp) W0 k → PG (X.blk s H scope (compEnvC scope cl C X.env) fp) tg (GW X.K X.mg vs g))
    (ht : ∀ (s : Shared) (H : Hp) (C : Addr) (cl : List (Str × Addr)) (fp : List Addr), Ctx (X.blk s H scope (compEnvC scope cl C X.env) fp) W0 k → PTs (X.blk s H scope (compEnvC scope cl C X.env) fp) ifs (IT X.K X.mg W0 c))
    (hi1 : ∀ (s : Shared) (H : Hp) (C : Addr) (cl : List (Str × Addr)) (fp : List Addr), Ctx (X.blk s H scope (compEnvC scope cl C X.env) fp) W0 k → PI (X.blk s H scope (compEnvC scope cl C X.env) fp) tg1 iter1 (II X.K X.mg W0 I1))
    (hg1 : ∀ (s : Shared) (H : Hp) (C : Addr) (cl : List (Str × Addr)) (fp : List Addr), Ctx (X.blk s H scope (compEnvC scope cl C X.env) fp) W0 k → PG (X.blk s H scope (compEnvC scope cl C X.env) fp) tg1 (GW X.K X.mg vs1 g1))
    (ht1 : ∀ (s : Shared) (H : Hp) (C : Addr) (cl : List (Str × Addr)) (fp : List Addr), Ctx (X.blk s H scope (compEnvC scope cl C X.env) fp) W0 k → PTs (X.blk s H scope (compEnvC scope cl C X.env) fp) ifs1 (IT X.K X.mg W0 c1))
    (he : ∀ (s : Shared) (H : Hp) (C : Addr) (cl : List (Str × Addr)) (fp : List Addr), Ctx (X.blk s H scope (compEnvC scope cl C X.env) fp) W0 k → PE (X.blk s H scope (compEnvC scope cl C X.env) fp) elt (IE X.K X.mg W0 A))
    (hy : X.N[i]? = some y := by rfl) (hyl : X.env.scope.names.lookup y = some .local := by rfl)
    (hv : own.map (·.2) = vs := by rfl) (hv1 : ∀ i ∈ vs1, i ∈ vs := by decide) (hs : ∀ x, foldedSetIterable iter X.env x = pure x := by intro _; rfl) (hs1 : ∀ env x, foldedSetIterable iter1 env x = pure x := by intro _ _; rfl) :
    PS X (.Assign [.Name y py] (.ListComp elt [⟨tg, iter, ifs, 0⟩, ⟨tg1, iter1, ifs1, 0⟩] scope pos) spos) (IS X.K X.mg W (sSet i (eLc2 I g c I1 g1 c1 A vs vs1))) := by
  subst hv
  refine psImp (ps_setLc2 cx.calm cx.nd hy hyl hsw hi ok hv1 (fun s H C cl fp => hg s H C cl fp (cx.blk ..)) (fun s H C cl fp => ht s H C cl fp (cx.blk ..)) (fun s H C cl fp => hi1 s H C cl fp (cx.blk ..)) (fun s H C cl fp => hg1 s H C cl fp (cx.blk ..)) (fun s H C cl fp => ht1 s H C cl fp (cx.blk ..)) (fun s H C cl fp => he s H C cl fp (cx.blk ..)) hs hs1) fun D s H ⟨as, r, h, f, x, o⟩ => ?_
  refine lc2_sound f x ((outS_of f o).imp fun V H1 ⟨as1, h1, p, S1, x1, r1, o1⟩ => ?_)
  exact o1 _ H1 as1 (Stp.refl _ _) x1 ((f.mono S1).set r1)
end
/-! ### calls of an item -/
abbrev FT := List (Str × (List PV → IH → Res PV))
@[simp] def eCallV (tbl : FT) (A : EX) (L : AX) : EX := fun r h => (A r h).bind fun f h1 => match f with
  | .glo x => (match tbl.lookup x with
    | some F => (L r h1).bind F
    | none => .bad)
  | _ => .bad
section
variable {X : Cx} {W : WX} {k j n : Nat} {a e fe : Expr} {es : List Expr} {pos : Pos} {A : EX} {L : AX} {tbl : FT}
def GT (X : Cx) (j n : Nat) (tbl : FT) : Prop := ∀ x F, tbl.lookup x = some F → GF X.prog X.w X.K X.mg X.base x j n F
theorem ref_of {v : V} {f : Addr} (r : RelV v (.ref f)) : v = .ref f := by
  cases v <;> first
    | (cases r; done)
    | (cases r; rfl)
    | (obtain ⟨_, e⟩ := r; cases e)
    | (obtain ⟨_, e, _⟩ := r; cases e)
theorem ie_callV (cx : Ctx X W k) (G : GT X j n tbl) (hf : PE X fe (IE X.K X.mg W A)) (ha : PA X (e :: es) (IA X.K X.mg W L)) (hj : j ≤ k := by decide)
    (hev : eval (.Call fe (e :: es) [] pos) X.env = (do callWith pos (← eval fe X.env) [] (backTo pos (starEach (e :: es) X.env)) (backToKw pos (keywordEach [] X.env))) := by rfl)
    (he : starEach (e :: es) X.env = (false, eval e X.env) :: starEach es X.env := by rfl) (hpl : (backTo pos (starEach es X.env)).any (·.1) = false := by rfl) : PE X (.Call fe (e :: es) [] pos) (IE X.K X.mg W (eCallV tbl A L)) := by
  refine ⟨fun pins s σ H Q I h => ?_⟩
  obtain ⟨as, r, h0, f, x, o⟩ := h
  rw [hev]
  refine wpAny_bind ?_
  refine thn (hf.run pins s σ H _ I ⟨as, r, h0, f, x, Out.bind o⟩) fun u s1 ⟨v, H1, I1, r1, as1, h1, p1, S1, x1, rp, o1⟩ => ?_
  split at o1
  · rename_i nm
    cases q : tbl.lookup nm with
    | none => rw [q] at o1; exact o1.elim
    | some F =>
      rw [q] at o1
      obtain ⟨ff, fd, ps, G1, hm, hk, hb⟩ := (G _ _ q).ex
      cases rp with
      | glo g1 g2 =>
        rw [hm] at g1; cases g1
        have ev := ref_of g2
        subst ev
        obtain rfl : u = Value.ref ff := r1
        refine PySem.W.callWith_K (h₀ := X.base) I.ok.mod.kin hk (thn (ha.run pos pins s1 σ H1 _ I1 ⟨as1, r, h1, f.mono S1, x1, Out.bind o1⟩) fun us s2 ⟨vs, H2, I2, r2, as2, h2, ps2, S2, x2, rs2, o2⟩ => ⟨I2.kIn, ?_⟩) he hpl
        refine run_fnS G1 (cx.room.mono hj) hb (passAt cx.tk σ) I2 r2 (SpF.of x2 rs2 ?_ o2)
        by_cases hn : ps2.length = n
        · exact hn
        · rw [(G _ _ q).bad ps2 h2 hn] at o2; exact o2.elim
  · exact o1.elim
theorem ie_callV0 (cx : Ctx X W k) (G : GT X j 0 tbl) (hf : PE X fe (IE X.K X.mg W A)) (hj : j ≤ k := by decide)
    (hev : eval (.Call fe [] [] pos) X.env = (do callWith pos (← eval fe X.env) [] (backTo pos (starEach [] X.env)) (backToKw pos (keywordEach [] X.env))) := by rfl) : PE X (.Call fe [] [] pos) (IE X.K X.mg W (eCallV tbl A aNil)) := by
  refine ⟨fun pins s σ H Q I h => ?_⟩
  obtain ⟨as, r, h0, f, x, o⟩ := h
  rw [hev]
  refine wpAny_bind ?_
  refine thn (hf.run pins s σ H _ I ⟨as, r, h0, f, x, Out.bind o⟩) fun u s1 ⟨v, H1, I1, r1, as1, h1, p1, S1, x1, rp, o1⟩ => ?_
  split at o1
  · rename_i nm
    cases q : tbl.lookup nm with
    | none => rw [q] at o1; exact o1.elim
    | some F =>
      rw [q] at o1
      obtain ⟨ff, fd, ps, G1, hm, hk, hb⟩ := (G _ _ q).ex
      cases rp with
      | glo g1 g2 =>
        rw [hm] at g1; cases g1
        have ev := ref_of g2
        subst ev
        obtain rfl : u = Value.ref ff := r1
        exact PySem.W.callWith_K0 I1.kIn hk (run_fnS (us := []) G1 (cx.room.mono hj) hb (passAt cx.tk σ) I1 .nil (SpF.of x1 RPs.nil rfl o1))
  · exact o1.elim
theorem GT.nil : GT X j n [] := fun x F e => by cases e
theorem GT.cons {x : Str} {F : List PV → IH → Res PV} {j' : Nat} (G : GF X.prog X.w X.K X.mg X.base x j' n F) (hj : j' ≤ j) (r : GT X j n tbl) : GT X j n ((x, F) :: tbl) := fun y F' e => by
  rw [List.lookup_cons] at e
  split at e
  · rename_i hy
    cases e
    have e2 : y = x := by simpa using hy
    subst e2
    obtain ⟨f, fd, ps, G1, hm, hk, hb⟩ := G.ex
    exact ⟨G.bad, f, fd, ps, G1.mono hj, hm, hk, hb⟩
  · exact r y F' e
end
/-! ### a def that calls itself: where the depth ends -/
theorem iss_bad {X : Cx} {W : WX} {sts : List Stmt} : PSs X sts (IS X.K X.mg W sBad) := ⟨fun pins s σ H D I q => by
  obtain ⟨as, r, h, f, x, o⟩ := q
  exact o.elim⟩
end WR

/-! max of two things that are compared by a rule of the heap -/
namespace PySem
open Sem (wp)
section
variable {prog : Program} {w : World} {A : Around} {R : Result → Shared → Prop} {I : Addr} {fp wr : List Addr} {P : Nat → Value → Prop} {St : Nat → Heap → Prop}
theorem wr_nm : (toString "max" ++ toString ".loop" : String) = "max.loop" := by decide
theorem wr_max_end {n c : Nat} {s : Shared} {vb : Value} (W : Walks prog w A.in1 I fp wr n P St) (S : Addr) (hf : S ∉ fp) (hst : St n s.heap) (hS : s.heap.get? S = some ⟨.type "list", none, .seq #[vb, vb] c, #[]⟩)
    (hR : ∀ h' tk, (∀ b o, b ∉ wr → b ≠ S → s.heap.get? b = some o → h'.get? b = some o) → R (.ok (.ret vb)) { s with heap := h', toks := tk }) : codeAny (model prog w) A (.builtin "max.loop" ⟨[.ref I, .none, .ref S], []⟩) R s := by
  refine codeAny_builtin F.entry_max_loop ?_; rw [Around.under_plainId F.plain_max_loop _]; show wpAny _ A.in1 (seqItems? (.ref S) >>= _) _ _ s; refine wpAny_bind (wpAny_seqItems hS rfl ?_); show wpAny _ A.in1 (tryCatch (pyNext (.ref I)) _ >>= _) _ _ s
  refine wpAny_bind (wpAny_tryCatch (W.done s _ _ hst fun h1 tk k1 => ?_)); show wpAny _ A.in1 (updateSeq S (fun _ => #[]) >>= _) _ _ _
  refine wpAny_bind (wpAny_updateSeq (k1 S _ (fun z => hf (W.sub _ z)) hS) rfl (wpAny_bind (wpAny_letGo (wpAny_pure (hR _ tk fun b o b1 b2 e => ?_)))))
  exact (Heap.get?_update_other _ _ (Ne.symm b2)).trans (k1 b o b1 e)
theorem wr_max_turn {n i c : Nat} {g : Bool} {s : Shared} {vb y : Value} (W : Walks prog w A.in1 I fp wr n P St) (S : Addr) (hf : S ∉ fp) (hi : i < n) (hst : St i s.heap) (hP : ∀ v, P i v → v = y) (hS : s.heap.get? S = some ⟨.type "list", none, .seq #[vb, vb] c, #[]⟩)
    (hc : ∀ (s' : Shared) Q E, (∀ b o, b ∉ wr → s.heap.get? b = some o → s'.heap.get? b = some o) → Q (.bool g) s' → wpAny (model prog w) A.in1 (richCompare .Gt y vb) Q E s')
    (hn : ∀ h' tk c', St (i + 1) h' → h'.get? S = some ⟨.type "list", none, .seq #[if g then y else vb, if g then y else vb] c', #[]⟩ → (∀ b o, b ∉ wr → b ≠ S → s.heap.get? b = some o → h'.get? b = some o) →
      codeAny (model prog w) A (.builtin "max.loop" ⟨[.ref I, .none, .ref S], []⟩) R { s with heap := h', toks := tk }) : codeAny (model prog w) A (.builtin "max.loop" ⟨[.ref I, .none, .ref S], []⟩) R s := by
  refine codeAny_builtin F.entry_max_loop ?_; rw [Around.under_plainId F.plain_max_loop _]; show wpAny _ A.in1 (seqItems? (.ref S) >>= _) _ _ s; refine wpAny_bind (wpAny_seqItems hS rfl ?_); show wpAny _ A.in1 (tryCatch (pyNext (.ref I)) _ >>= _) _ _ s
  refine wpAny_bind (wpAny_tryCatch (W.item i s _ _ hi hst fun v h1 tk pv st1 k1 => ?_))
  obtain rfl := hP v pv
  have S1 := k1 S _ (fun z => hf (W.sub _ z)) hS; show wpAny _ A.in1 (tryCatch (holding [v, v] (richCompare .Gt v vb >>= _)) _ >>= _) _ _ _
  refine wpAny_bind (wpAny_tryCatch (wpAny_holding (wpAny_bind (hc _ _ _ (fun b o b1 e => k1 b o b1 e) ?_))))
  refine wpAny_bind (wpAny_holding (wpAny_truthy_bool ?_)); refine wpAny_bind (wpAny_letGo (wpAny_pure ?_))
  cases g with
  | true =>
    simp only [if_true] at hn ⊢
    refine wpAny_bind (wpAny_updateSeq S1 rfl (wpAny_bind (wpAny_letGo ?_))); rw [wr_nm]
    refine wpAny_pure ⟨plainId_quiet F.plain_max_loop _, hn _ tk _ (W.frame _ _ _ st1 fun b hb o e => ?_) (Heap.get?_update_self _ S1 rfl) fun b o b1 b2 e => ?_⟩
    · exact (Heap.get?_update_other _ _ (fun z : S = b => hf (by rw [z]; exact hb))).trans e
    · exact (Heap.get?_update_other _ _ (Ne.symm b2)).trans (k1 b o b1 e)
  | false =>
    simp only [Bool.false_eq_true, if_false] at hn ⊢
    refine wpAny_bind (wpAny_letGo ?_); rw [wr_nm]
    exact wpAny_pure ⟨plainId_quiet F.plain_max_loop _, hn _ tk _ st1 S1 fun b o b1 _ e => k1 b o b1 e⟩
theorem wr_max_first {n c : Nat} {s : Shared} {x : Value} (W : Walks prog w A.in1 I fp wr n P St) (S : Addr) (hf : S ∉ fp) (hi : 0 < n) (hst : St 0 s.heap) (hP : ∀ v, P 0 v → v = x) (hS : s.heap.get? S = some ⟨.type "list", none, .seq #[] c, #[]⟩)
    (hn : ∀ h' tk c', St 1 h' → h'.get? S = some ⟨.type "list", none, .seq #[x, x] c', #[]⟩ → (∀ b o, b ∉ wr → b ≠ S → s.heap.get? b = some o → h'.get? b = some o) →
      codeAny (model prog w) A (.builtin "max.loop" ⟨[.ref I, .none, .ref S], []⟩) R { s with heap := h', toks := tk }) : codeAny (model prog w) A (.builtin "max.loop" ⟨[.ref I, .none, .ref S], []⟩) R s := by
  refine codeAny_builtin F.entry_max_loop ?_; rw [Around.under_plainId F.plain_max_loop _]; show wpAny _ A.in1 (seqItems? (.ref S) >>= _) _ _ s; refine wpAny_bind (wpAny_seqItems hS rfl ?_); show wpAny _ A.in1 (tryCatch (pyNext (.ref I)) _ >>= _) _ _ s
  refine wpAny_bind (wpAny_tryCatch (W.item 0 s _ _ hi hst fun v h1 tk pv st1 k1 => ?_))
  obtain rfl := hP v pv
  have S1 := k1 S _ (fun z => hf (W.sub _ z)) hS; show wpAny _ A.in1 (updateSeq S (fun _ => #[v, v]) >>= _) _ _ _
  refine wpAny_bind (wpAny_updateSeq S1 rfl ?_); rw [wr_nm]
  refine wpAny_pure ⟨plainId_quiet F.plain_max_loop _, hn _ tk _ (W.frame _ _ _ st1 fun b hb o e => ?_) (Heap.get?_update_self _ S1 rfl) fun b o b1 b2 e => ?_⟩
  · exact (Heap.get?_update_other _ _ (fun z : S = b => hf (by rw [z]; exact hb))).trans e
  · exact (Heap.get?_update_other _ _ (Ne.symm b2)).trans (k1 b o b1 e)
end
section
variable {prog : Program} {w : World} {A : Around} {E : Value → Shared → Prop} {s : Shared}
theorem wr_max2 {x y : Value} {g : Bool} {Q : Value → Shared → Prop} (hh : A.handled = none)
    (hc : ∀ (s' : Shared) Q E, (∀ b o, s.heap.get? b = some o → s'.heap.get? b = some o) → Q (.bool g) s' → wpAny (model prog w) A.in1 (richCompare .Gt y x) Q E s')
    (h : ∀ h' tk, (∀ b o, s.heap.get? b = some o → h'.get? b = some o) → Q (if g then y else x) { s with heap := h', toks := tk }) : wpAny (model prog w) A (call (.builtin "max") [x, y]) Q E s := by
  refine call_function_tree F.kind_max F.plain_max F.entry_max (F.args_max2 _ _) ?_
  show wpAny _ A.in1 (Builtin.Builtins.bindParams "max" ["key", "default"] 0 ⟨[], []⟩ >>= _) _ _ s; refine wpAny_bind (wpAny_of_eq (show Builtin.Builtins.bindParams "max" ["key", "default"] 0 ⟨[], []⟩ = pure [none, none] from rfl) ?_); show wpAny _ A.in1 (newTuple [x, y] >>= _) _ _ s
  refine wpAny_bind (wpAny_newObj_type ?_)
  have hT : (s.heap.push { cls := .type "tuple", data := .seq #[x, y] }).IsTuple s.heap.objs.size #[x, y] := ⟨_, Heap.get?_push_size _ rfl, rfl, 0, rfl⟩
  have z1 : (s.heap.push { cls := .type "tuple", data := .seq #[x, y] }).objs.size = s.heap.objs.size + 1 := Heap.size_push ..
  refine wpAny_bind (wpAny_pyIter_tuple hT ?_)
  generalize hh1 : s.heap.push { cls := .type "tuple", data := .seq #[x, y] } = h1 at hT z1
  have W := Walks.tuple (prog := prog) (w := w) (A := A.in1) hh h1.objs.size s.heap.objs.size (by rw [z1]; exact Nat.ne_of_lt (Nat.lt_succ_self _)) #[x, y]
  have hk1 : ∀ b o, s.heap.get? b = some o → h1.get? b = some o := fun b o e => by rw [← hh1]; exact Heap.get?_push_of_some _ e
  have hI : (h1.push { cls := .type "tuple_iterator", data := .fields #[.ref s.heap.objs.size, .int 0 0] }).IsTupleIter h1.objs.size s.heap.objs.size 0 := ⟨_, Heap.get?_push_size _ rfl, rfl, rfl⟩
  have hT2 : (h1.push { cls := .type "tuple_iterator", data := .fields #[.ref s.heap.objs.size, .int 0 0] }).IsTuple s.heap.objs.size #[x, y] := hT.push _
  have z2 : (h1.push { cls := .type "tuple_iterator", data := .fields #[.ref s.heap.objs.size, .int 0 0] }).objs.size = h1.objs.size + 1 := Heap.size_push ..
  have hk2 : ∀ b o, h1.get? b = some o → (h1.push { cls := .type "tuple_iterator", data := .fields #[.ref s.heap.objs.size, .int 0 0] }).get? b = some o := fun b o e => Heap.get?_push_of_some _ e
  generalize h1.push { cls := .type "tuple_iterator", data := .fields #[.ref s.heap.objs.size, .int 0 0] } = h2 at hI hT2 z2 hk2 ⊢
  refine wpAny_bind (wpAny_newObj_type ?_)
  have hf : h2.objs.size ∉ [h1.objs.size, s.heap.objs.size] := by
    simp only [List.mem_cons, List.not_mem_nil, or_false, not_or]
    exact ⟨by omega, by omega⟩
  rw [wr_nm]
  refine wpAny_pure ⟨plainId_quiet F.plain_max_loop _, ?_⟩
  have low : ∀ b o, s.heap.get? b = some o → b < s.heap.objs.size := fun b o e => Heap.lt_size e
  have hk3 : ∀ b o, s.heap.get? b = some o → (h2.push { cls := .type "list", data := .seq #[] }).get? b = some o := fun b o e => Heap.get?_push_of_some _ (hk2 b o (hk1 b o e))
  refine wr_max_first W h2.objs.size hf (by simp) (W.frame 0 h2 _ ⟨hI, hT2⟩ fun b _ o e => Heap.get?_push_of_some _ e) (x := x) (fun v e => by simpa using e.symm) (Heap.get?_push_size _ rfl) fun h3 tk3 c3 st3 S3 k3 => ?_
  have nw : ∀ b o, s.heap.get? b = some o → b ∉ [h1.objs.size] ∧ b ≠ h2.objs.size := fun b o e => by
    have := low b o e
    simp only [List.mem_cons, List.not_mem_nil, or_false]
    exact ⟨fun z => absurd (show h1.objs.size < s.heap.objs.size from z ▸ this) (by omega), fun z => absurd (show h2.objs.size < s.heap.objs.size from z ▸ this) (by omega)⟩
  have k03 : ∀ b o, s.heap.get? b = some o → h3.get? b = some o := fun b o e => k3 b o (nw b o e).1 (nw b o e).2 (hk3 b o e)
  refine wr_max_turn (g := g) (y := y) W h2.objs.size hf (by decide : 1 < 2) st3 (fun v e => by simpa using e.symm) S3 (fun s' Q E k q => hc s' Q E (fun b o e => k b o (nw b o e).1 (k03 b o e)) q) fun h4 tk4 c4 st4 S4 k4 => ?_
  have k04 : ∀ b o, s.heap.get? b = some o → h4.get? b = some o := fun b o e => k4 b o (nw b o e).1 (nw b o e).2 (k03 b o e)
  exact wr_max_end W h2.objs.size hf st4 S4 fun h5 tk5 k5 => h h5 tk5 fun b o e => k5 b o (nw b o e).1 (nw b o e).2 (k04 b o e)
end
end PySem
namespace WR
open PySem PySem.Spec PyProof.Rows L2
def lexGt : List Int → List Int → Bool
  | [], _ => false
  | _ :: _, [] => true
  | x :: xs, y :: ys => if x = y then lexGt xs ys else decide (y < x)
theorem lexGt_at : ∀ (ns ms : List Int) (i : Nat), i ≤ ns.length → i ≤ ms.length → Ob.lexAt (fun j => decide (ns.getD j 0 = ms.getD j 0)) (fun j => decide (ms.getD j 0 < ns.getD j 0)) (decide (ns.length > ms.length)) i (min ns.length ms.length - i) = lexGt (ns.drop i) (ms.drop i) := by
  intro ns ms i h1 h2
  generalize hk : min ns.length ms.length - i = k
  induction k generalizing i with
  | zero =>
    rw [Ob.lexAt_zero]
    by_cases a : i = ns.length
    · have e : ns.drop i = [] := List.drop_of_length_le (by omega)
      rw [e, lexGt]; exact decide_eq_false (by omega)
    · have hm : i = ms.length := by omega
      have e : ms.drop i = [] := List.drop_of_length_le (by omega)
      have hl : i < ns.length := by omega
      rw [e, List.drop_eq_getElem_cons hl, lexGt]; exact decide_eq_true (by omega)
  | succ k ih =>
    have l1 : i < ns.length := by omega
    have l2 : i < ms.length := by omega
    rw [Ob.lexAt_succ, List.drop_eq_getElem_cons l1, List.drop_eq_getElem_cons l2, lexGt]
    have e1 : ns.getD i 0 = ns[i] := by simp [List.getD, l1]
    have e2 : ms.getD i 0 = ms[i] := by simp [List.getD, l2]
    rw [e1, e2]
    by_cases q : ns[i] = ms[i]
    · rw [if_pos (decide_eq_true q), if_pos q]; exact ih (i + 1) l1 l2 (by omega)
    · rw [if_neg (by simpa using q), if_neg q]
theorem isTup_at {h h' : Heap} {a : Addr} {its : Array Value} (k : ∀ b o, h.get? b = some o → h'.get? b = some o) (p : h.IsTuple a its) : h'.IsTuple a its := let ⟨o, e, r⟩ := p; ⟨o, k a o e, r⟩
/-- > of two tuples of ints -/
theorem rc_gt {X : Cx} {pins : List (Addr × Obj)} {σ : L2.St} {H : Hp} {s s' : Shared} {A : Around} {a b : Addr} {ns ms : List Int} (I : Inv X pins σ H s) (k : ∀ b o, s.heap.get? b = some o → s'.heap.get? b = some o) (ha : SqT X.K H a (ns.map V.int)) (hb : SqT X.K H b (ms.map V.int)) (hu : A.units < cLine) :
    Ob.RcOp .Gt A s' (.ref a) (.ref b) (lexGt ns ms) := by
  obtain ⟨its, r1, p1, _⟩ := I.tuple ha
  obtain ⟨its2, r2, p2, _⟩ := I.tuple hb
  have i1 : IntsAre its ns := Vals.ints r1
  have i2 : IntsAre its2 ms := Vals.ints r2
  have e1 : its.toArray.size = ns.length := by rw [List.size_toArray]; exact i1.length
  have e2 : its2.toArray.size = ms.length := by rw [List.size_toArray]; exact i2.length
  have at1 : ∀ j (h1 : j < its.toArray.size), ∃ t, its.toArray[j] = .int (ns.getD j 0) t := fun j h1 => by exact PyProof.Rows.IntsAre.int_at i1 _ _ (by simp at h1; simp [h1])
  have at2 : ∀ j (h1 : j < its2.toArray.size), ∃ t, its2.toArray[j] = .int (ms.getD j 0) t := fun j h1 => by exact PyProof.Rows.IntsAre.int_at i2 _ _ (by simp at h1; simp [h1])
  have R := Ob.RcOp.tuples_gt (A := A) (s := s') (e := fun j => decide (ns.getD j 0 = ms.getD j 0)) (r := fun j => decide (ms.getD j 0 < ns.getD j 0)) (isTup_at k p1) (isTup_at k p2) hu (fun j h1 h2 => by
    obtain ⟨t, et⟩ := at1 j h1; obtain ⟨t', et'⟩ := at2 j h2
    rw [et, et', show decide (ns.getD j 0 = ms.getD j 0) = (ns.getD j 0 == ms.getD j 0) from by rw [Bool.eq_iff_iff]; simp]
    exact SeqAt.EqAt.int_int _ _ _ _) (fun j h1 h2 _ => by
    obtain ⟨t, et⟩ := at1 j h1; obtain ⟨t', et'⟩ := at2 j h2
    rw [et, et']; exact Ob.RcOp.gt_int _ _ _ _)
  rw [e1, e2] at R
  have z := lexGt_at ns ms 0 (Nat.zero_le _) (Nat.zero_le _)
  rw [Nat.sub_zero] at z
  rw [z] at R
  exact R
theorem all_eq : ∀ (ns ms : List Int), ((List.range (min ns.length ms.length)).all (fun j => ns.getD j 0 == ms.getD j 0) && ns.length == ms.length) = decide (ns = ms) := by
  intro ns ms
  rw [Bool.eq_iff_iff]
  simp only [Bool.and_eq_true, List.all_eq_true, List.mem_range, beq_iff_eq, decide_eq_true_eq]
  constructor
  · rintro ⟨h1, h2⟩
    apply List.ext_getElem h2
    intro i a b
    have := h1 i (by omega)
    simpa [List.getD, a, b] using this
  · rintro rfl; exact ⟨fun _ _ => rfl, rfl⟩
/-- == of two tuples of ints, as items -/
theorem eq_tt {X : Cx} {pins : List (Addr × Obj)} {σ : L2.St} {H : Hp} {s s' : Shared} {A : Around} {a b : Addr} {ns ms : List Int} (I : Inv X pins σ H s) (k : ∀ b o, s.heap.get? b = some o → s'.heap.get? b = some o) (ha : SqT X.K H a (ns.map V.int)) (hb : SqT X.K H b (ms.map V.int)) (hu : A.units < cLine) :
    SeqAt.EqAt A s' (.ref a) (.ref b) (decide (ns = ms)) := by
  by_cases q : a = b
  · subst q
    have e := I.tuple_inj ha hb
    have e2 : ns = ms := by
      have := congrArg (List.map fun v => match v with | V.int i => i | _ => 0) e
      simpa [List.map_map, Function.comp_def] using this
    rw [decide_eq_true e2]
    exact SeqAt.EqAt.same _
  · obtain ⟨its, r1, p1, _⟩ := I.tuple ha
    obtain ⟨its2, r2, p2, _⟩ := I.tuple hb
    have i1 : IntsAre its ns := Vals.ints r1
    have i2 : IntsAre its2 ms := Vals.ints r2
    have e1 : its.toArray.size = ns.length := by rw [List.size_toArray]; exact i1.length
    have e2 : its2.toArray.size = ms.length := by rw [List.size_toArray]; exact i2.length
    have g1 : ∀ j (h1 : j < its.toArray.size), ∃ t, its.toArray[j] = .int (ns.getD j 0) t := fun j h1 => by exact PyProof.Rows.IntsAre.int_at i1 _ _ (by simp at h1; simp [h1])
    have g2 : ∀ j (h1 : j < its2.toArray.size), ∃ t, its2.toArray[j] = .int (ms.getD j 0) t := fun j h1 => by exact PyProof.Rows.IntsAre.int_at i2 _ _ (by simp at h1; simp [h1])
    have R := SeqAt.RcAt.tuples (A := A) (s := s') (e := fun j => ns.getD j 0 == ms.getD j 0) (isTup_at k p1) (isTup_at k p2) hu (fun j h1 h2 => by
      obtain ⟨t, et⟩ := g1 j h1
      obtain ⟨t', et'⟩ := g2 j h2
      rw [et, et']
      exact SeqAt.EqAt.int_int _ _ _ _)
    rw [e1, e2, all_eq] at R
    exact SeqAt.EqAt.of_refs q R
/-- (j, b) > (i, a) -/
def gtP (j : Int) (ms : List Int) (i : Int) (ns : List Int) : Bool := if j = i then lexGt ms ns else decide (i < j)
theorem rc_gtP {X : Cx} {pins : List (Addr × Obj)} {σ : L2.St} {H : Hp} {s s' : Shared} {A : Around} {p q a b : Addr} {i j : Int} {ns ms : List Int} (I : Inv X pins σ H s) (k : ∀ b o, s.heap.get? b = some o → s'.heap.get? b = some o) (hp : SqT X.K H p [.int i, .ref a]) (hq : SqT X.K H q [.int j, .ref b])
    (ha : SqT X.K H a (ns.map V.int)) (hb : SqT X.K H b (ms.map V.int)) (hu : A.units + 2 < cLine) : Ob.RcOp .Gt A s' (.ref q) (.ref p) (gtP j ms i ns) := by
  obtain ⟨its, r1, p1, _⟩ := I.tuple hp
  obtain ⟨its2, r2, p2, _⟩ := I.tuple hq
  obtain ⟨u1, u2, rfl, ⟨t, rfl⟩, x2⟩ := vals2 r1
  obtain ⟨w1, w2, rfl, ⟨t', rfl⟩, y2⟩ := vals2 r2
  obtain rfl : u2 = Value.ref a := x2
  obtain rfl : w2 = Value.ref b := y2
  have hu1 : A.in1.units < cLine := by have : A.in1.units = A.units + 1 := rfl; omega
  have R := Ob.RcOp.tuples_gt (A := A) (s := s') (e := fun n => if n = 0 then decide (j = i) else decide (ms = ns)) (r := fun n => if n = 0 then decide (i < j) else lexGt ms ns) (isTup_at k p2) (isTup_at k p1) (by omega) (fun n h1 h2 => by
    have : n = 0 ∨ n = 1 := by simp at h1; omega
    rcases this with rfl | rfl
    · rw [show (if (0 : Nat) = 0 then decide (j = i) else decide (ms = ns)) = (j == i) from by rw [Bool.eq_iff_iff]; simp]
      exact SeqAt.EqAt.int_int _ _ _ _
    · exact eq_tt I k hb ha hu1) (fun n h1 h2 e => by
    have : n = 0 ∨ n = 1 := by simp at h1; omega
    rcases this with rfl | rfl
    · exact Ob.RcOp.gt_int _ _ _ _
    · exact rc_gt I k hb ha hu1)
  have e : Ob.lexAt (fun n => if n = 0 then decide (j = i) else decide (ms = ns)) (fun n => if n = 0 then decide (i < j) else lexGt ms ns) (decide ((#[Value.int j t', .ref b] : Array Value).size > (#[Value.int i t, .ref a] : Array Value).size)) 0 (min (#[Value.int j t', .ref b] : Array Value).size (#[Value.int i t, .ref a] : Array Value).size) = gtP j ms i ns := by
    show (if (decide (j = i)) = true then (if decide (ms = ns) = true then decide (2 > 2) else lexGt ms ns) else decide (i < j)) = _
    unfold gtP
    by_cases q : j = i
    · simp only [q, decide_true, if_true]
      by_cases z : ms = ns
      · subst z
        have nn : ∀ l : List Int, lexGt l l = false := fun l => by
          induction l with
          | nil => rfl
          | cons x r ih => simp [lexGt, ih]
        simp [nn]
      · simp [z]
    · simp [q]
  have R2 : Ob.RcOp .Gt A s' (.ref q) (.ref p) _ := R
  rw [← e]
  exact R2
def rMaxP (K : PySem.W.Frag) : List V → Hp → VK → Prop := fun vs H Q => ∃ (p q a b : Addr) (i j : Int) (ns ms : List Int), vs = [.ref p, .ref q] ∧ SqT K H p [.int i, .ref a] ∧ SqT K H q [.int j, .ref b] ∧ SqT K H a (ns.map V.int) ∧ SqT K H b (ms.map V.int) ∧ Q (if gtP j ms i ns then .ref q else .ref p) H
theorem cr_maxP {X : Cx} (hc : X.calm = true) (hu : X.A.units + 3 < cLine) : CallR X (.builtin "max") (rMaxP X.K) := by
  intro pins s σ H vs us Q I r h
  obtain ⟨p, q, a, b, i, j, ns, ms, rfl, hp, hq, ha, hb, z⟩ := h
  obtain ⟨u, w', rfl, r1, r2⟩ := vals2 r
  obtain rfl : u = Value.ref p := r1
  obtain rfl : w' = Value.ref q := r2
  have hu1 : X.A.in1.units + 2 < cLine := by have : X.A.in1.units = X.A.units + 1 := rfl; omega
  refine wr_max2 (g := gtP j ms i ns) (I.ok.hd hc) (fun s' Q' E' k qq => rc_gtP I k hp hq ha hb hu1 _ _ _ _ qq) fun h' tk k => ⟨_, H, I.kept k, ?_, z⟩
  split <;> rfl
@[simp] def pMaxP : List PV → IH → Res PV
  | [.tup [.int i, .key ns], .tup [.int j, .key ms]], h => .ok (if gtP j ms i ns then .tup [.int j, .key ms] else .tup [.int i, .key ns]) h
  | _, _ => .bad
theorem snd_maxP {K : PySem.W.Frag} {mg : Str → Option Value} : SndC K mg pMaxP (rMaxP K) := by
  intro W s as H h us vs Q rh rs o
  unfold pMaxP at o
  split at o
  · rename_i i ns j ms
    obtain ⟨v, w', rfl, rv, rw'⟩ := rs.inv2
    cases rv with
    | tup h1 q1 => cases rw' with
      | tup h2 q2 =>
        obtain ⟨a1, a2, rfl, b1, b2⟩ := q1.inv2
        obtain ⟨c1, c2, rfl, d1, d2⟩ := q2.inv2
        have b2' := b2
        have d2' := d2
        cases b1
        cases d1
        cases b2 with
        | key k1 => cases d2 with
          | key k2 =>
            refine ⟨_, _, _, _, i, j, ns, ms, rfl, h1, h2, SqT.of k1, SqT.of k2, ?_⟩
            cases g : gtP j ms i ns with
            | true => rw [g] at o; exact o.here rh (.tup h2 (.cons (.int _) (.one d2')))
            | false => rw [g] at o; exact o.here rh (.tup h1 (.cons (.int _) (.one b2')))
  · exact o.elim
section
variable {X : Cx} {W : WX} {k : Nat} {a b e o i : Expr} {es : List Expr} {pos p apos : Pos} {A B C : EX} {L : AX}
theorem ie_maxP (cx : Ctx X W k) (hm : X.mg "max" = none) (ha : PA X (e :: es) (IA X.K X.mg W L)) (hg : Gl X "max" := by rfl) (he : starEach (e :: es) X.env = (false, eval e X.env) :: starEach es X.env := by rfl) (hpl : (backTo pos (starEach es X.env)).any (·.1) = false := by rfl) : PE X (.Call (.Name "max" p) (e :: es) [] pos) (IE X.K X.mg W (eB pMaxP L)) :=
  ie_callB (cr_maxP cx.calm (by have := units65 cx.room; omega)) snd_maxP hm (by decide +kernel) ha hg (by decide) (by decide) he hpl
end
end WR

/-! a tuple times a number -/
namespace L2
open PySem PySem.Spec PyProof.Rows
theorem wr_tuple_mul1 (l : Addr) (its : Array Value) (n : Nat) (dd : Option Addr) (sl : Array (Option Value)) (u : Tok) : Meets (Builtin.«tuple.__mul__» ⟨[.ref l, .int 1 u], []⟩)
    (fun _ R s => s.heap.get? l = some ⟨.type "tuple", dd, .seq its n, sl⟩ ∧ R (.ok (.ret (Value.ref l))) s) :=
  .of_wp fun prog w A R s h => by
    obtain ⟨hp, g, d, tk, os⟩ := s; obtain ⟨hl, h⟩ := h; have f1 := AutoSeq1.idx_int
    wp_walk using wpAny_loadPart' hl
    repeat (first
      | (refine wpAny_ite_false (decide_eq_false (by decide)) ?_; wp_walk using wpAny_loadPart' hl)
      | (refine wpAny_ite_true (decide_eq_true (by simp)) ?_; wp_walk using wpAny_loadPart' hl))
    exact ⟨_, rfl, h⟩
def rRep1 (K : PySem.W.Frag) : R2 := fun x y H Q => ∃ l xs, x = .ref l ∧ y = .int 1 ∧ SqT K H l xs ∧ Q (.ref l) H
theorem op_rep1 {X : Cx} : OpR X (binaryOp .Mult) (rRep1 X.K) := by
  intro pins s σ H x y v u Q I rx ry h
  obtain ⟨l, xs, rfl, rfl, hT, q⟩ := h
  cases rx
  obtain ⟨t, rfl⟩ := ry
  obtain ⟨its, r, ⟨⟨cls, dd, data, sl⟩, ho, hc, n, hd⟩, hs⟩ := I.tuple hT
  simp only at hc hd
  subst hc hd
  exact wpAny_binaryOp_repeat_ref (T := "tuple") (U := "int") (by decide) ⟨_, ho, rfl⟩ (fun s' => typeIs_int s' 1 t) noFill_tuple_mul F.fills_int_mul F.slot_int_rmul repeat_tuple F.slot_int_index.lookup
    (call_meets F.slot_int_rmul (typeIs_int s 1 t) F.entry_int_rmul (F.args_int_rmul_2 _ _) (int_rmul_tuple 1 t l its.toArray n dd sl)
      ⟨ho, rfl, ⟨_, ho, rfl⟩, call_meets F.slot_tuple_mul ⟨_, ho, rfl⟩ F.entry_tuple_mul (F.args_tuple_mul_2 _ _) (wr_tuple_mul1 l its.toArray n dd sl t) ⟨ho, ⟨.ref l, H, I, rfl, q⟩⟩⟩)
end L2
namespace WR
open PySem PySem.Spec PyProof.Rows L2
@[simp] def pMulK : PV → PV → IH → Res PV
  | .key (a :: r), .int k, h => if k = 1 then .ok (.key (a :: r)) h else if 2 ≤ k ∧ k ≤ 1000 ∧ (a :: r).length ≤ 1000 then .ok (.key (List.replicate k.toNat (a :: r)).flatten) h else .bad
  | _, _, _ => .bad
theorem rep_map (n : Nat) (l : List Int) : (List.replicate n l).flatten.map V.int = (List.replicate n (l.map V.int)).flatten := by
  rw [List.map_flatten, List.map_replicate]
theorem snd_mulK {K : PySem.W.Frag} {mg : Str → Option Value} : Snd K mg pMulK (fun x y H Q => rRep1 K x y H Q ∨ rRepT K x y H Q) := by
  intro W s as H h x y U V Q rh rx ry o
  unfold pMulK at o
  split at o
  · rename_i a r k
    cases rx with
    | key ha =>
      cases ry
      split at o
      · rename_i e
        subst e
        exact .inl ⟨_, _, rfl, rfl, SqT.of ha, o.here rh (.key ha)⟩
      · split at o
        · rename_i hk
          refine .inr ⟨_, _, _, rfl, rfl, SqT.of ha, by simp, hk.1, hk.2.1, by simpa using hk.2.2, fun p np => ?_⟩
          exact o _ _ as (Stp.lay rh np) (rh.lay np) (.key (by rw [upd_same, rep_map]))
        · exact o.elim
  · exact o.elim
theorem ie_mulK {X : Cx} {W : WX} {a b : Expr} {pos : Pos} {A B : EX} (ha : PE X a (IE X.K X.mg W A)) (hb : PE X b (IE X.K X.mg W B)) : PE X (.BinOp a .Mult b pos) (IE X.K X.mg W (eOp pMulK A B)) := ie_op (op_rep1.or op_repT) snd_mulK ha hb
end WR

/-! raise and try -/
namespace WR
open PySem PySem.Spec PyProof.Rows L2
/-- an own exception class without an own __init__ -/
structure ExC (K : PySem.W.Frag) (mg : Str → Option Value) (c : Str) (C : Addr) : Prop where
  gC : mg c = some (.ref C)
  ex : PySem.W.excIn K C He.veBase "ValueError.__new__" = true
  kp : PySem.W.keepIn K (.ref C) = true
  sb : PySem.W.subIn K (.ref C) (.type "BaseException") = some true
  ty : PySem.W.typeIn K (.ref C) = some (.type "type")
def bExc (c : Str) : FrB := fun K => (He.Fa.exc c).ok K
theorem bExc_ok {K : PySem.W.Frag} {mg : Str → Option Value} {h : Heap} {c : Str} (X : K.In h) (G : h.Ns mainGlobals mg) (g : bGlo c K = true) (e : bExc c K = true) : ExC K mg c (He.ga K c) := by
  obtain ⟨a, b, c1, d⟩ := He.exc_ok e
  exact ⟨He.glo_ok X G g, a, b, c1, d⟩
/-- which class an exception is of -/
@[simp] def exSub (x y : Str) : Bool := x == y || y == "RoadError"
structure ExCs (K : PySem.W.Frag) (mg : Str → Option Value) (cs : List Str) : Prop where
  two : ∀ x y C D, cs.contains x = true → cs.contains y = true → mg x = some (.ref C) → mg y = some (.ref D) → PySem.W.exmOne K (.ref C) (.ref D) = some (exSub x y)
def bExcs (cs : List Str) : FrB := fun K => cs.all fun x => bGlo x K && cs.all fun y => (He.Fa.exm x y (exSub x y)).ok K
theorem bExcs_ok {K : PySem.W.Frag} {mg : Str → Option Value} {h : Heap} {cs : List Str} (X : K.In h) (G : h.Ns mainGlobals mg) (e : bExcs cs K = true) : ExCs K mg cs := by
  have e' := List.all_eq_true.mp e
  refine ⟨fun x y C D hx hy gx gy => ?_⟩
  have mx := mem_of_contains hx
  have my := mem_of_contains hy
  obtain ⟨a, b⟩ := He.ba (e' x mx)
  obtain ⟨c, _⟩ := He.ba (e' y my)
  have b' := List.all_eq_true.mp b y my
  rw [He.glo_ok X G a] at gx
  rw [He.glo_ok X G c] at gy
  cases gx
  cases gy
  exact He.exm_ok b'
@[simp] def sRaise (c : Str) : SX := fun r h => .ex ⟨c, []⟩ r h
@[simp] def pickH (x : XV) : List (Str × SX) → Option SX
  | [] => none
  | (c, S) :: r => if exSub x.cls c then some S else pickH x r
@[simp] def noEx : RS → RS
  | .ex _ _ _ => .bad
  | o => o
@[simp] def sTry (cs : List Str) (B : SX) (hs : List (Str × SX)) : SX := fun r h => match B r h with
  | .ex x r1 h1 => if cs.contains x.cls && hs.all (fun q => cs.contains q.1) then (match pickH x hs with
    | some S => noEx (S r1 h1)
    | none => .ex x r1 h1) else .bad
  | o => o
section
variable {X : Cx} {W : WX} {k : Nat} {c : Str} {C : Addr} {p pos pos' : Pos} {body : List Stmt} {h₀ : ExceptHandler} {hds : List ExceptHandler} {B : SX} {hs : List (Str × SX)} {cs : List Str}
theorem pmk_own0 (e : ExC X.K X.mg c C) (hg : Gl X c) (hdb : (c == ("__debug__" : Str)) = false) : PMk X (.Call (.Name c p) [] [] pos) (fun _ H Q => Q (.ref C) none H) := by
  intro pins s σ H Q I h
  refine wpAny_Call_Name_kw (ld_glob I hg e.gC ?_ hdb)
  refine PySem.W.callWith_K0 I.kIn e.kp ?_
  obtain ⟨bm, N, nm, qn, bs, hdct, sn, sub, ab, col, dd, k0, k1, k2, k3, k5, mN, hC, hN, hni, T⟩ := exc_obj I.kIn e.ex
  refine wpAny_call_exc_subT F.excBase_ValueError T hC hN hni (fun h' e' hm => ?_) (by show 0 ≤ sizeLine; omega)
  exact mk_of I hm (raises_own e.sb e.ty) h (I.hok.gone hm.new)
theorem is_raise0 (cx : Ctx X W k) (e : ExC X.K X.mg c C) (hg : Gl X c := by rfl) (hdb : (c == ("__debug__" : Str)) = false := by decide) : PS X (.Raise (some (.Call (.Name c p) [] [] pos)) none pos') (IS X.K X.mg W (sRaise c)) := by
  refine psImp (ps_raise cx.calm cx.tk (pmk_own0 e hg hdb)) fun D s H ⟨as, r, h, f, x, o⟩ => ?_
  exact o (.ref C) none s H as (Stp.refl _ _) x f ⟨C, e.gC, rfl, .inl ⟨rfl, rfl⟩⟩
inductive Mts (X : Cx) : List (Value × (Addr → Value → Option Addr → TS)) → List (Str × SX) → Prop
  | nil : Mts X [] []
  | cons {c : Str} {C : Addr} {S : SX} {l : List (Value × (Addr → Value → Option Addr → TS))} {hs : List (Str × SX)} (g : X.mg c = some (.ref C)) (r : Mts X l hs) : Mts X ((.ref C, fun _ _ _ => IS X.K X.mg W0 S) :: l) ((c, S) :: hs)
def HdR (X : Cx) (hds : List ExceptHandler) (hs : List (Str × SX)) : Prop := ∃ l, HdsOk X hds l ∧ Mts X l hs
theorem hd_nil : HdR X [] [] := ⟨[], .nil, .nil⟩
theorem hd_cons {S : SX} {b₀ : Stmt} {suite : List Stmt} {np : Pos} (gC : X.mg c = some (.ref C)) (hsu : ∀ (a : Addr) (oe : Obj) (pn : List (Addr × Obj)), PSs (X.suite a ((a, oe) :: pn)) (b₀ :: suite) (IS X.K X.mg W0 S)) (r : HdR X hds hs)
    (hg : Gl X c := by rfl) (hdb : (c == ("__debug__" : Str)) = false := by decide) : HdR X (.ExceptHandler (some (.Name c np)) none (b₀ :: suite) pos' :: hds) ((c, S) :: hs) := by
  obtain ⟨l, a, b⟩ := r
  exact ⟨_, .cons ⟨hg, hdb, .inl gC⟩ (fun a oe cls d pn _ _ => hsu a oe pn) a, .cons gC b⟩
theorem noEx_out {K : PySem.W.Frag} {mg : Str → Option Value} {W : WX} {as : List Addr} {H : Hp} {D : Ends} {o : RS} (z : OutS K mg W as H D (noEx o)) : OutS K mg W0 as H D o := by
  cases o with
  | ex x r h => exact z.elim
  | nx r h => exact z
  | rt r h => exact z
  | bk r h => exact z
  | ct r h => exact z
  | bad => exact z
theorem many_of {l : List (Value × (Addr → Value → Option Addr → TS))} (mt : Mts X l hs) (E : ExCs X.K X.mg cs) {x1 : XV} {r1 : Fm} {h1 : IH} {d : Option Addr} {s' : L2.St} {H H' : Hp} {as as' : List Addr} {D : Ends} (hc1 : cs.contains x1.cls = true) (hc2 : hs.all (fun q => cs.contains q.1) = true)
    (gC : X.mg x1.cls = some (.ref C)) (S : Stp as H as' H') (x' : RH X.K X.mg H' as' h1) (f' : RF X.K X.mg H' as' r1 s') (rx : RX X.K X.mg H' as' x1 (.ref C) d)
    (o : OutS X.K X.mg W as H D (match pickH x1 hs with
      | some S => noEx (S r1 h1)
      | none => .ex x1 r1 h1)) : wMany X.K W D l (.ref C) d s' H' := by
  induction mt with
  | nil => exact o (.ref C) d s' H' as' S x' f' rx
  | @cons c Cc Sx l hs g r' ih =>
    rw [List.all_cons, Bool.and_eq_true] at hc2
    have ee := E.two x1.cls c C Cc hc1 hc2.1 gC g
    refine ⟨_, ee, fun hb => fun a na => ?_, fun hb => ?_⟩
    · simp only [pickH, hb, if_true] at o
      exact ⟨as', r1, h1, f', x', noEx_out (o.shift S)⟩
    · refine ih hc2.2 ?_
      simp only [pickH, hb] at o
      exact o
theorem is_try (cx : Ctx X W k) (E : ExCs X.K X.mg cs) (hb : ∀ (W' : WX) (pn : List (Addr × Obj)) (xe : Value → Shared → Prop), Ctx (X.tr pn xe) W' k → PSs (X.tr pn xe) body (IS X.K X.mg W' B)) (hh : HdR X (h₀ :: hds) hs)
    (hs0 : X.stack = X.env :: X.outer := by rfl) (hf0 : X.env.frame = some X.env.locals := by rfl) : PS X (.Try body (h₀ :: hds) [] [] pos) (IS X.K X.mg W (sTry cs B hs)) := by
  obtain ⟨l, ok, mt⟩ := hh
  refine psImp (ps_try_many hs0 hf0 cx.tk (fun W' pn xe tk po => hb W' pn xe ⟨tk, po, cx.calm, cx.nd, cx.room⟩) ok) fun D s H ⟨as, r, h, f, x, o⟩ => ?_
  refine ⟨as, r, h, f, x, ?_⟩
  unfold sTry at o
  cases q : B r h with
  | nx r1 h1 => rw [q] at o; exact o
  | rt r1 h1 => rw [q] at o; exact o
  | bk r1 h1 => rw [q] at o; exact o
  | ct r1 h1 => rw [q] at o; exact o
  | bad => rw [q] at o; exact o
  | ex x1 r1 h1 =>
    rw [q] at o
    simp only at o
    split at o
    · rename_i hc
      obtain ⟨hc1, hc2⟩ := Bool.and_eq_true_iff.mp hc
      intro cls d s' H' as' S x' f' rx
      have rx' := rx
      obtain ⟨C, gC, rfl, fs⟩ := rx
      exact many_of mt E hc1 hc2 gC S x' f' rx' o
    · exact o.elim
end
end WR

/-! remove and index of data -/
namespace L2
open PySem PySem.Spec PyProof.Rows
section
variable {X : Cx}
def rRemD (K : PySem.W.Frag) : V → List V → Hp → VK → Prop := fun x xs H Q => ∃ (l : Addr) (ys : List V) (y : V) (d : PyData) (ds : List PyData) (j : Nat) (z : PyData), x = V.ref l ∧ xs = [y] ∧ H l = some (.lst ys) ∧ DpAll K H ys ds ∧ Dp K H y d ∧
  SeqAt.shaped (.list ds) = true ∧ SeqAt.shaped d = true ∧ ds[j]? = some z ∧ PyData.eqv z d = true ∧ (∀ (m : Nat) (z' : PyData), m < j → ds[m]? = some z' → PyData.eqv z' d = false) ∧ Q .non (upd H l (.lst (ys.eraseIdx j)))
theorem mt_removeD (hu : X.A.units + 65 < cLine) : MtR X "list.remove" (rRemD X.K) := by
  intro pins s σ H x xs v us Q I rx rxs h
  obtain ⟨a, ys, y, d, ds, j, z, rfl, rfl, hH, hl, hy, sl, sd, hz, hzj, hno, q⟩ := h
  cases rx
  obtain ⟨uy, rfl, ry⟩ := rxs.one
  obtain ⟨bs, r1⟩ := Dp.reads I d y uy hy ry
  have hxs : PyData.canLayAll0 ds = true := SeqAt.canLay_of_shaped sl
  have hroom : X.A.units + 1 + min (PyData.depthAll ds) d.depth < cLine := room_in_shaped sd hu
  obtain ⟨zl, its, n, r, hln, e⟩ := I.lstM hH
  obtain ⟨as, h4⟩ := Dp.readsAll I ds _ its hl r
  have hn : its.length = ds.length := SeqAt.ReadsAll.length ds its as h4
  have hmap : its.map (SeqAt.readOf s.heap) = ds := SeqAt.readsAll_map ds its as hxs h4
  have hvl := r.length
  have hsl := sizeLine_eq
  obtain ⟨hjd, _⟩ := List.getElem?_eq_some_iff.mp hz
  have hjl : j < its.length := by omega
  have hj : j < its.toArray.size := by simpa using hjl
  have at_ : ∀ (m : Nat) (hm : m < its.toArray.size) (z' : PyData), ds[m]? = some z' → SeqAt.readOf s.heap its.toArray[m] = z' := by
    intro m hm z' hz'
    have hml : m < its.length := by simpa using hm
    rw [← hmap, List.getElem?_map, List.getElem?_eq_getElem hml] at hz'
    have e1 : SeqAt.readOf s.heap its[m] = z' := Option.some.inj (show some (SeqAt.readOf s.heap its[m]) = some z' from hz')
    simpa using e1
  refine call_meets PySem.F.slot_list_remove ⟨_, e, rfl⟩ PySem.F.entry_list_remove (PySem.F.args_list_remove_2 _ _)
    (SeqAt.list_removeAt a its.toArray n none #[] uy (fun u => PyData.eqv (SeqAt.readOf s.heap u) d) j hj ?_ ?_ (by rw [List.size_toArray]; omega)) ⟨e, SeqAt.items_eqAt (vs := its.toArray) (show ReadsAll s.heap its.toArray.toList ds as from h4) r1 hxs (SeqAt.canLay_of_shaped sd) hroom, ?_⟩
  · show PyData.eqv (SeqAt.readOf s.heap its.toArray[j]) d = true
    rw [at_ j hj z hz]
    exact hzj
  · intro m hm hmj
    have hmd : m < ds.length := by omega
    have hz' : ds[m]? = some ds[m] := List.getElem?_eq_getElem hmd
    show PyData.eqv (SeqAt.readOf s.heap its.toArray[m]) d = false
    rw [at_ m hm _ hz']
    exact hno m _ hmj hz'
  · have rr := r.eraseIdx j
    refine ⟨.non, _, I.lset (its' := its.eraseIdx j) (t' := s.toks) hH e ?_ rr ?_, rfl, q⟩
    · show its.toArray.eraseIdxIfInBounds j = (its.eraseIdx j).toArray
      rw [List.eraseIdxIfInBounds_toArray]
    · have z2 := List.length_eraseIdx_le ys j
      omega
end
end L2
namespace WR
open PySem PySem.Spec PyProof.Rows L2
/-- the first place of an equal item -/
def ixAt (xs : List PV) (y : PV) (h : IH) : Option Nat := match optAll (dataOf 11 h) xs, dataOf DEP h y with
  | some ds, some d => if SeqAt.shaped (.list ds) && SeqAt.shaped d then ds.findIdx? (fun z => PyData.eqv z d) else none
  | _, _ => none
@[simp] def eRemove (A : EX) (L : AX) : EX := fun r h => (A r h).bind fun x h1 => match x with
  | .obj n => (match h1[n]? with
    | some (.lst _) => (L r h1).bind fun vs h2 => (match vs, h2[n]? with
      | [y], some (.lst xs) => (match ixAt xs y h2 with
        | some j => .ok .non (h2.set n (.lst (xs.eraseIdx j)))
        | none => .bad)
      | _, _ => .bad)
    | _ => .bad)
  | _ => .bad
@[simp] def eIndex (A : EX) (L : AX) : EX := fun r h => (A r h).bind fun x h1 => match x with
  | .obj n => (match h1[n]? with
    | some (.lst _) => (L r h1).bind fun vs h2 => (match vs, h2[n]? with
      | [y], some (.lst xs) => (match ixAt xs y h2 with
        | some j => .ok (.int j) h2
        | none => .bad)
      | _, _ => .bad)
    | _ => .bad)
  | _ => .bad
theorem ixAt_of {K : PySem.W.Frag} {mg : Str → Option Value} {as : List Addr} {H : Hp} {h : IH} {xs : List PV} {ys : List V} {y : PV} {w : V} {j : Nat} (rh : RH K mg H as h) (rs : RPs K mg H as xs ys) (ry : RP K mg H as y w) (e : ixAt xs y h = some j) :
    ∃ d ds z, DpAll K H ys ds ∧ Dp K H w d ∧ SeqAt.shaped (.list ds) = true ∧ SeqAt.shaped d = true ∧ ds[j]? = some z ∧ PyData.eqv z d = true ∧ (∀ (m : Nat) (z' : PyData), m < j → ds[m]? = some z' → PyData.eqv z' d = false) := by
  unfold ixAt at e
  split at e
  · rename_i ds d e1 e2
    split at e
    · rename_i hs
      obtain ⟨s1, s2⟩ := Bool.and_eq_true_iff.mp hs
      obtain ⟨hj, h1, h2⟩ := List.findIdx?_eq_some_iff_getElem.mp e
      refine ⟨d, ds, ds[j], dpAll (fun p v d r => dp_of rh 11 p v d r) rs e1, dp_of rh _ _ _ _ ry e2, s1, s2, List.getElem?_eq_getElem hj, h1, fun m z' hm hz => ?_⟩
      obtain ⟨hm2, rfl⟩ := List.getElem?_eq_some_iff.mp hz
      have := h2 m hm
      simpa using this
    · cases e
  · cases e
theorem RPs.eraseIdx {K : PySem.W.Frag} {mg : Str → Option Value} {as : List Addr} {H : Hp} : ∀ {xs : List PV} {us : List V} (j : Nat), RPs K mg H as xs us → RPs K mg H as (xs.eraseIdx j) (us.eraseIdx j)
  | _, _, _, .nil => by simpa using .nil
  | _, _, 0, .cons r t => by simpa using t
  | _, _, j + 1, .cons r t => by simpa using .cons r (RPs.eraseIdx j t)
section
variable {X : Cx} {W : WX} {k : Nat} {a b e o : Expr} {es : List Expr} {pos : Pos} {A B C : EX} {L : AX}
theorem ie_remove {apos : Pos} (cx : Ctx X W k) (ho : PE X o (IE X.K X.mg W A)) (ha : PA X (e :: es) (IA X.K X.mg W L)) (hbase : attributeBase o "remove" X.env (eval o X.env) = eval o X.env := by rfl)
    (hfew : ((backTo pos (starEach (e :: es) X.env)).all (fun x => !x.1) && (backToKw pos (keywordEach [] X.env)).all (fun x => x.1.isSome)
      && decide ((e :: es).length + ([] : List Keyword).length + (if ([] : List Keyword).isEmpty then 0 else 1) < 30)) = true := by rfl)
    (hline : (apos.endLine == pos.line) = true := by rfl) (hs : starEach (e :: es) X.env = (false, eval e X.env) :: starEach es X.env := by rfl) (hplain : (backTo pos (starEach es X.env)).any (·.1) = false := by rfl) :
    PE X (.Call (.Attribute o "remove" apos) (e :: es) [] pos) (IE X.K X.mg W (eRemove A L)) := by
  refine peImp (pe_bm PySem.F.plainAttrs_list PySem.F.slot_list_remove PySem.F.type_list_remove (mt_removeD (by have := units65 cx.room; omega)) ho ha hbase hfew hline hs hplain) fun s H Q ⟨as, ρ, hh, f, x, o⟩ => ?_
  refine ⟨as, ρ, hh, f, x, (Out.bind o).imp fun V H1 ⟨as1, h1, p1, S1, x1, r1, o1⟩ => ?_⟩
  split at o1
  · rename_i n
    cases r1 with
    | obj hn =>
      split at o1
      · rename_i ys hy
        obtain ⟨b, e1, us, e2, rs⟩ := x1.at_ _ _ hy
        rw [hn] at e1; cases e1
        refine ⟨.inl ⟨rfl, _, SqL.of e2⟩, as1, ρ, h1, f.mono S1, x1, (Out.bind o1).imp fun Vs H2 ⟨as2, h2, p2, S2, x2, r2, o2⟩ => ?_⟩
        split at o2
        · rename_i y xs hx
          split at o2
          · rename_i j hj
            obtain ⟨w, rfl, rw'⟩ := r2.inv1
            obtain ⟨b', e3, ws, e4, rs'⟩ := x2.at_ _ _ hx
            have hn2 := S2.get hn
            rw [hn2] at e3; cases e3
            obtain ⟨d, ds, z, q1, q2, q3, q4, q5, q6, q7⟩ := ixAt_of x2 rs' rw' hj
            refine ⟨_, ws, w, d, ds, j, z, rfl, rfl, e4, q1, q2, q3, q4, q5, q6, q7, ?_⟩
            have S3 := Stp.put (o := .lst (ws.eraseIdx j)) x2 hn2 hx
            exact o2 _ _ _ S3 (x2.put (m := .lst (xs.eraseIdx j)) hn2 hx ⟨_, upd_same, (rs'.eraseIdx j).mono S3⟩) .non
          · exact o2.elim
        · exact o2.elim
      · exact o1.elim
  · exact o1.elim
theorem ie_index {apos : Pos} (cx : Ctx X W k) (ho : PE X o (IE X.K X.mg W A)) (ha : PA X (e :: es) (IA X.K X.mg W L)) (hbase : attributeBase o "index" X.env (eval o X.env) = eval o X.env := by rfl)
    (hfew : ((backTo pos (starEach (e :: es) X.env)).all (fun x => !x.1) && (backToKw pos (keywordEach [] X.env)).all (fun x => x.1.isSome)
      && decide ((e :: es).length + ([] : List Keyword).length + (if ([] : List Keyword).isEmpty then 0 else 1) < 30)) = true := by rfl)
    (hline : (apos.endLine == pos.line) = true := by rfl) (hs : starEach (e :: es) X.env = (false, eval e X.env) :: starEach es X.env := by rfl) (hplain : (backTo pos (starEach es X.env)).any (·.1) = false := by rfl) :
    PE X (.Call (.Attribute o "index" apos) (e :: es) [] pos) (IE X.K X.mg W (eIndex A L)) := by
  refine peImp (pe_bm PySem.F.plainAttrs_list PySem.F.slot_list_index PySem.F.type_list_index (mt_indexD (by have := units65 cx.room; omega)) ho ha hbase hfew hline hs hplain) fun s H Q ⟨as, ρ, hh, f, x, o⟩ => ?_
  refine ⟨as, ρ, hh, f, x, (Out.bind o).imp fun V H1 ⟨as1, h1, p1, S1, x1, r1, o1⟩ => ?_⟩
  split at o1
  · rename_i n
    cases r1 with
    | obj hn =>
      split at o1
      · rename_i ys hy
        obtain ⟨b, e1, us, e2, rs⟩ := x1.at_ _ _ hy
        rw [hn] at e1; cases e1
        refine ⟨.inl ⟨rfl, _, SqL.of e2⟩, as1, ρ, h1, f.mono S1, x1, (Out.bind o1).imp fun Vs H2 ⟨as2, h2, p2, S2, x2, r2, o2⟩ => ?_⟩
        split at o2
        · rename_i y xs hx
          split at o2
          · rename_i j hj
            obtain ⟨w, rfl, rw'⟩ := r2.inv1
            obtain ⟨b', e3, ws, e4, rs'⟩ := x2.at_ _ _ hx
            have hn2 := S2.get hn
            rw [hn2] at e3; cases e3
            obtain ⟨d, ds, z, q1, q2, q3, q4, q5, q6, q7⟩ := ixAt_of x2 rs' rw' hj
            exact ⟨_, w, d, ds, j, z, rfl, rfl, .lst (SqL.of e4) q1, q2, q3, q4, q5, q6, q7, o2.here x2 (.int _)⟩
          · exact o2.elim
        · exact o2.elim
      · exact o1.elim
  · exact o1.elim
theorem chain_of {p q : PV → PV → IH → Res PV} {r r' : R2} {c : Expr} (hp : Snd X.K X.mg p r) (hq : Snd X.K X.mg q r') {s : L2.St} {H : Hp} {Q : VK} (h : IE X.K X.mg W (eChain p q A B C) s H Q) : tChain r r' (IE X.K X.mg W A) (IE X.K X.mg W B) (IE X.K X.mg W C) s H Q := by
  obtain ⟨as, ρ, h, g, z, o⟩ := h
  refine ⟨as, ρ, h, g, z, (Out.bind o).imp fun V1 H1 ⟨as1, h1, p1, S1, x1, r1, o1⟩ => ?_⟩
  refine ⟨as1, ρ, h1, g.mono S1, x1, (Out.bind o1).imp fun V2 H2 ⟨as2, h2, p2, S2, x2, r2, o2⟩ => ?_⟩
  refine hp x2 (r1.mono S2) r2 ((Out.bind o2).imp fun V3 H3 ⟨as3, h3, p3, S3, x3, r3, o3⟩ => ?_)
  cases r3 with
  | bl d =>
    refine ⟨d, rfl, ?_⟩
    cases d with
    | false => exact o3.here x3 (.bl false)
    | true =>
      refine ⟨as3, ρ, h3, ((g.mono S1).mono S2).mono S3, x3, (Out.bind o3).imp fun V4 H4 ⟨as4, h4, p4, S4, x4, r4, o4⟩ => ?_⟩
      exact hq x4 ((r2.mono S3).mono S4) r4 o4
  | non => exact o3.elim
  | int => exact o3.elim
  | str => exact o3.elim
  | tup => exact o3.elim
  | fls => exact o3.elim
  | obj => exact o3.elim
  | glo => exact o3.elim
  | ty => exact o3.elim
  | key => exact o3.elim
theorem it_lele {c : Expr} (ha : PE X a (IE X.K X.mg W A)) (hb : PE X b (IE X.K X.mg W B)) (hc : PE X c (IE X.K X.mg W C)) (hm : lastMarks [.LtE, .LtE] [b, c] = false := by with_unfolding_all rfl) : PT X (.Compare a [.LtE, .LtE] [b, c] pos) (IT X.K X.mg W (tBl (eChain pLe pLe A B C))) :=
  ptImp (pt_chain op_le op_le ha hb hc hm) fun _ _ _ h => tTest_of (fun Q' h => chain_of (c := c) snd_ci snd_ci h) h
end
end WR

/-! == of a pair whose second item is an own class's instance -/
namespace PySem.SeqAt
open AutoSeq1 (wpAny_loadPart')
open MeetsSeq MeetsSeq2 MeetsSeq3 SeqRoads2
section
variable {prog : Program} {w : World}
theorem wr_tuple_eq2 (l b : Addr) (v1 v2 w1 w2 : Value) (n n2 : Nat) (dd dd2 : Option Addr) (sl sl2 : Array (Option Value)) (q : Bool) :
    MeetsIn prog w (Builtin.«tuple.__eq__» ⟨[.ref l, .ref b], []⟩)
      (fun A R s => s.heap.get? l = some { cls := .type "tuple", dict := dd, data := .seq #[v1, v2] n, slots := sl } ∧ s.heap.get? b = some { cls := .type "tuple", dict := dd2, data := .seq #[w1, w2] n2, slots := sl2 } ∧
        EqIn prog w A.in1 s v1 w1 q ∧ (q = false → R (.ok (.ret (.bool false))) s) ∧
        (q = true → wpAny (model prog w) A.in1 (eqBool v2 w2) (fun r s' => R (.ok (.ret (.bool r))) s') (fun e s' => R (.error e) s') s)) :=
  .of_wp fun A R s h => by
    obtain ⟨hp, g, d, tk, os⟩ := s; obtain ⟨hl, hb, he, h0, h2⟩ := h
    have f2 := AutoSeq1.sub_tuple_tuple
    wp_walk using wpAny_loadPart' hl, wpAny_loadPart' hb, wpAny_forIn_list _ (fun rest b s' => b.1 = none ∧ ((rest = [(v1, w1), (v2, w2)] ∧ s' = ⟨hp, g, d, tk, os⟩) ∨ (rest = [(v2, w2)] ∧ q = true ∧ s' = ⟨hp, g, d, tk, os⟩) ∨ (rest = [] ∧ R (.ok (.ret (.bool true))) s'))) _
    case turn =>
      rintro ⟨y, x⟩ rest b s' ⟨hb', hz⟩
      rcases hz with ⟨hz, rfl⟩ | ⟨hz, hq, rfl⟩ | ⟨hz, _⟩
      · injection hz with e1 e2
        injection e1 with ea eb
        subst ea eb e2
        refine wpAny_bind (he _ _ ?_)
        cases hy : q with
        | true =>
          wp_walk
          exact ⟨rfl, .inr (.inl ⟨rfl, rfl, rfl⟩)⟩
        | false =>
          wp_walk
          exact ⟨_, rfl, h0 hy⟩
      · injection hz with e1 e2
        injection e1 with ea eb
        subst ea eb e2
        refine wpAny_bind (wpAny_mono (h2 hq) (fun r s1 hr => ?_) (fun _ _ x => x))
        cases r with
        | true =>
          wp_walk
          exact ⟨rfl, .inr (.inr ⟨rfl, hr⟩)⟩
        | false =>
          wp_walk
          exact ⟨_, rfl, hr⟩
      · cases hz
    case fin =>
      rintro ⟨b1, b2⟩ s' ⟨hb', hz⟩
      simp only at hb'
      subst hb'
      rcases hz with ⟨hz, _⟩ | ⟨hz, _⟩ | ⟨_, hR⟩
      · cases hz
      · cases hz
      · wp_walk
        exact ⟨_, rfl, by simpa [Builtin.Tuple.tupleCompareSizes] using hR⟩
    case h =>
      exact ⟨rfl, .inl ⟨rfl, rfl⟩⟩
end
end PySem.SeqAt
namespace WR
open PySem PySem.Spec PyProof.Rows L2 PySem.SeqAt
open MeetsSeq MeetsSeq2 MeetsSeq3 SeqRoads2
section
variable {X : Cx} {k : Nat} {f C : Addr} {fd : FuncData} {ps : List Str} {sp : Sp}
def rEqP (K : PySem.W.Frag) (C : Addr) (sp : Sp) : R2 := fun x y H Q => ∃ (p q a b : Addr) (i j : Int) (dx dy : Addr) (fs gs : List (Str × V)), x = .ref p ∧ y = .ref q ∧ SqT K H p [.int i, .ref a] ∧ SqT K H q [.int j, .ref b] ∧ a ≠ b ∧ H a = some (.ins C dx fs) ∧ H b = some (.ins C dy gs) ∧
  (i ≠ j → Q (.bl false) H) ∧ (i = j → sp [.ref a, .ref b] H (fun v H' => ∃ r : Bool, v = .bl r ∧ Q (.bl r) H') E0)
theorem op_eqP (FO : FnOk X.prog X.w X.K X.mg X.base (L2.CX X.prog X.w) k f fd ps sp) (hs : PySem.W.findIn X.K (.ref C) "__eq__" = some (some (.ref f))) (hf : PySem.W.isFn X.K (.ref f) = true) (hb : Binds X.K fd ps []) (hr : Room k X.A.in1) (hr0 : Room k X.A) :
    OpR X (compareOp .Eq) (rEqP X.K C sp) := by
  intro pins s σ H x y v u Q I rx ry h
  obtain ⟨p, q, a, b, i, j, dx, dy, fs, gs, rfl, rfl, hp, hq, hne, ea, eb, q0, q1⟩ := h
  cases rx
  cases ry
  obtain ⟨its, r1, p1, _⟩ := I.tuple hp
  obtain ⟨its2, r2, p2, _⟩ := I.tuple hq
  obtain ⟨u1, u2, rfl, ⟨t, rfl⟩, x2⟩ := vals2 r1
  obtain ⟨w1, w2, rfl, ⟨t', rfl⟩, y2⟩ := vals2 r2
  obtain rfl : u2 = Value.ref a := x2
  obtain rfl : w2 = Value.ref b := y2
  obtain ⟨⟨cls, dd, data, sl⟩, ho, hc, n, hd⟩ := id p1
  obtain ⟨⟨cls2, dd2, data2, sl2⟩, ho2, hc2, n2, hd2⟩ := id p2
  simp only at hc hd hc2 hd2
  subst hc hd hc2 hd2
  obtain ⟨mA, J, _⟩ := ins_get I.hok ea
  obtain ⟨od, J, _⟩ := J.look
  obtain ⟨mB, J', _⟩ := ins_get I.hok eb
  obtain ⟨od', J', _⟩ := J'.look
  obtain ⟨m, hF⟩ := I.fr
  show wpAny (model X.prog X.w) X.A (richCompare .Eq (.ref p) (.ref q)) (EP X pins σ Q) X.xe s
  refine wpAny_richCompare_same_room (T := "tuple") (op := .Eq) ⟨_, ho, rfl⟩ ⟨_, ho2, rfl⟩ F.slot_tuple_eq (call_meetsIn F.slot_tuple_eq ⟨_, ho, rfl⟩ F.entry_tuple_eq (F.args_tuple_eq_2 _ _) (wr_tuple_eq2 p q _ _ _ _ n n2 dd dd2 sl sl2 (i == j))
    ⟨ho, ho2, (EqAt.int_int _ _ _ _).inModel _ _, fun e => ?_, fun e => ?_⟩) hr0.units0
  · exact ⟨(fun x => nomatch x), .bl false, H, I, rfl, q0 (by simpa using e)⟩
  · have q := q1 (by simpa using e)
    have hl := FO.len _ _ _ _ q
    have bb := hb s [.ref a, .ref b] I.kIn (by simpa using hl)
    unfold eqBool
    refine wpAny_holding ?_
    refine wpAny_ite_split (fun hab => absurd (by have := eq_of_beq hab; injection this) hne) (fun _ => wpAny_bind ?_)
    refine PySem.W.cmp_K (op := .Eq) (tb := .ref C) hr.units0 hF I.ok.mod.kin J J'.type (by simp [PySem.W.notFirst]) hs hf ?_
    refine wpAny_call (codeAny_mono (FO.run X.A.in1 X.stack s H ⟨[.ref a, .ref b], []⟩ [.ref a, .ref b] [.ref a, .ref b] _ E0 hr I.env0.in1 (by simpa using bb) (.cons rfl (.cons rfl .nil)) q) fun r s' hq => ?_)
    cases r with
    | error er => exact passL pins σ H s er s' I hq
    | ok fl =>
      cases fl with
      | ret w =>
        obtain ⟨v, H', I', rv, n, rfl, qn⟩ := I.after hq
        cases rv
        exact wpAny_truthy_bool ⟨(fun x => nomatch x), .bl n, H', I', rfl, qn⟩
      | next => exact False.elim hq
      | brk => exact False.elim hq
      | cont => exact False.elim hq
end
@[simp] def isIns (c : Str) (n : Nat) (h : IH) : Bool := match h[n]? with
  | some (.ins c' _) => c' == c
  | _ => false
/-- (i, x) == (j, y), x and y of an own class -/
@[simp] def pEqP (c : Str) (F : List PV → IH → Res PV) (x y : PV) (h : IH) : Res PV := match x, y with
  | .tup [.int i, .obj m], .tup [.int j, .obj n] => if m ≠ n ∧ isIns c m h = true ∧ isIns c n h = true then (if i = j then (match F [.obj m, .obj n] h with
      | .ok (.bl b) h1 => .ok (.bl b) h1
      | _ => .bad) else .ok (.bl false) h) else .bad
  | _, _ => .bad
theorem isIns_at {K : PySem.W.Frag} {mg : Str → Option Value} {cn : Str} {Cc : Addr} (gc : mg cn = some (.ref Cc)) {H : Hp} {as : List Addr} {h : IH} (rh : RH K mg H as h) {n : Nat} {a : Addr} (hn : as[n]? = some a) (e : isIns cn n h = true) : ∃ dx gs, H a = some (.ins Cc dx gs) := by
  unfold isIns at e
  split at e
  · rename_i c' fs hx
    have : c' = cn := by simpa using e
    subst this
    obtain ⟨b, e1, C', dx, gs, g0, e2, _⟩ := rh.at_ _ _ hx
    rw [hn] at e1; cases e1
    rw [gc] at g0; cases g0
    exact ⟨_, _, e2⟩
  · cases e
theorem snd_eqP {K : PySem.W.Frag} {mg : Str → Option Value} {cn : Str} {Cc : Addr} {F : List PV → IH → Res PV} (gc : mg cn = some (.ref Cc)) : Snd K mg (pEqP cn F) (rEqP K Cc (SpF K mg 2 F)) := by
  intro W s as H h x y U V Q rh rx ry o
  unfold pEqP at o
  split at o
  · rename_i i m j n
    split at o
    · rename_i hc
      obtain ⟨hmn, hm, hn⟩ := hc
      cases rx with
      | tup h1 rs1 =>
        cases ry with
        | tup h2 rs2 =>
          cases rs1 with
          | cons ri rs1 =>
            cases ri
            cases rs1 with
            | cons ro rs1 =>
              cases rs1
              cases rs2 with
              | cons rj rs2 =>
                cases rj
                cases rs2 with
                | cons rp rs2 =>
                  cases rs2
                  cases ro with
                  | obj am =>
                    cases rp with
                    | obj an =>
                      obtain ⟨dx, fs, e1⟩ := isIns_at gc rh am hm
                      obtain ⟨dy, gs, e2⟩ := isIns_at gc rh an hn
                      refine ⟨_, _, _, _, i, j, dx, dy, fs, gs, rfl, rfl, h1, h2, fun z => hmn ?_, e1, e2, fun z => ?_, fun z => ?_⟩
                      · subst z
                        exact (List.getElem?_inj (by
                          rcases Nat.lt_or_ge m as.length with y | y
                          · exact y
                          · rw [List.getElem?_eq_none y] at am; cases am) rh.nd).mp (am.trans an.symm)
                      · rw [if_neg z] at o
                        exact o.here rh (.bl false)
                      · rw [if_pos z] at o
                        refine ⟨as, _, h, rfl, RPs.cons (.obj am) (RPs.one (.obj an)), rh, ?_⟩
                        split at o
                        · rename_i q h1 hF
                          rw [hF]
                          intro V H' as' S x' r'
                          cases r'
                          exact ⟨_, rfl, o _ _ _ S x' (.bl _)⟩
                        · exact o.elim
    · exact o.elim
  · exact o.elim
section
variable {X : Cx} {W : WX} {k : Nat} {a b : Expr} {pos : Pos} {A B : EX} {cn : Str} {Cc f : Addr} {j : Nat} {F : List PV → IH → Res PV}
theorem ie_eqP (cx : Ctx X W k) (gc : X.mg cn = some (.ref Cc)) (hs : PySem.W.findIn X.K (.ref Cc) "__eq__" = some (some (.ref f))) (hf : PySem.W.isFn X.K (.ref f) = true) (G : GA X.prog X.w X.K X.mg X.base f j 2 F) (ha : PE X a (IE X.K X.mg W A)) (hb' : PE X b (IE X.K X.mg W B)) (hj : j + 1 ≤ k := by decide) :
    PE X (.Compare a [.Eq] [b] pos) (IE X.K X.mg W (eOp (pEqP cn F) A B)) := by
  obtain ⟨fd, ps, G1, hb⟩ := G.ex
  exact ie_cmp (op_eqP G1 hs hf hb (cx.room.mono hj).in1 (cx.room.mono (Nat.le_of_succ_le hj))) (snd_eqP gc) ha hb' (nomark _)
end
end WR

/-! except C as e; dicts with texts as keys; o[i], x = a, b -/
namespace WR
open PySem PySem.Spec PyProof.Rows L2
/-! ### readings that keep a fact -/
abbrev Fac := L2.St → Hp → List Addr → Prop
def Mon (φ : Fac) : Prop := ∀ {s : L2.St} {as as' : List Addr} {H H' : Hp}, Stp as H as' H' → φ s H as → φ s H' as'
def IGf {α β : Type} (φ : Fac) (K : PySem.W.Frag) (mg : Str → Option Value) (R : Hp → List Addr → α → β → Prop) (W : WX) (A : Fm → IH → Res α) : L2.St → Hp → (β → Hp → Prop) → Prop :=
  fun s H Q => ∃ as r h, RF K mg H as r s ∧ RH K mg H as h ∧ φ s H as ∧ Out K mg R W s as H Q (A r h)
abbrev IEf (φ : Fac) (K : PySem.W.Frag) (mg : Str → Option Value) (W : WX) (A : EX) : TE := IGf φ K mg (fun H as p v => RP K mg H as p v) W A
abbrev ITf (φ : Fac) (K : PySem.W.Frag) (mg : Str → Option Value) (W : WX) (A : TX) : TT := IGf φ K mg (fun _ _ p v => p = v) W A
abbrev IAf (φ : Fac) (K : PySem.W.Frag) (mg : Str → Option Value) (W : WX) (A : AX) : TA := IGf φ K mg (fun H as p v => RPs K mg H as p v) W A
def ISf (φ : Fac) (K : PySem.W.Frag) (mg : Str → Option Value) (W : WX) (B : SX) : TS := fun D s H => ∃ as r h, RF K mg H as r s ∧ RH K mg H as h ∧ φ s H as ∧ OutS K mg W as H D (B r h)
section
variable {X : Cx} {W : WX} {k : Nat} {a b e : Expr} {es : List Expr} {pos : Pos} {A B C : EX} {L : AX} {c d : TX} {φ : Fac} {S T : SX} {st : Stmt} {sts : List Stmt}
theorem fe_of (h : PE X e (IE X.K X.mg W A)) : PE X e (IEf φ X.K X.mg W A) := peImp h fun s H Q ⟨as, r, h, f, x, _, o⟩ => ⟨as, r, h, f, x, o⟩
theorem ft_of (h : PT X e (IT X.K X.mg W c)) : PT X e (ITf φ X.K X.mg W c) := ptImp h fun s H Q ⟨as, r, h, f, x, _, o⟩ => ⟨as, r, h, f, x, o⟩
theorem fa_of (h : PA X es (IA X.K X.mg W L)) : PA X es (IAf φ X.K X.mg W L) := paImp h fun s H Q ⟨as, r, h, f, x, _, o⟩ => ⟨as, r, h, f, x, o⟩
theorem fs_of (h : PS X st (IS X.K X.mg W S)) : PS X st (ISf φ X.K X.mg W S) := psImp h fun D s H ⟨as, r, h, f, x, _, o⟩ => ⟨as, r, h, f, x, o⟩
theorem fss_of (h : PSs X sts (IS X.K X.mg W S)) : PSs X sts (ISf φ X.K X.mg W S) := pssImp h fun D s H ⟨as, r, h, f, x, _, o⟩ => ⟨as, r, h, f, x, o⟩
theorem fs_one (h : PS X st (ISf φ X.K X.mg W S)) : PSs X [st] (ISf φ X.K X.mg W S) := pss_one h
theorem fe_op {op : Operator} {p : PV → PV → IH → Res PV} {r : R2} (m : Mon φ) (ho : OpR X (binaryOp op) r) (hp : Snd X.K X.mg p r) (ha : PE X a (IEf φ X.K X.mg W A)) (hb : PE X b (IEf φ X.K X.mg W B)) : PE X (.BinOp a op b pos) (IEf φ X.K X.mg W (eOp p A B)) := by
  refine peImp (pe_op ho ha hb) fun s H Q ⟨as, ρ, hh, f, x, fx, o⟩ => ?_
  refine ⟨as, ρ, hh, f, x, fx, (Out.bind o).imp fun V H1 ⟨as1, h1, p1, S1, x1, r1, o1⟩ => ?_⟩
  refine ⟨as1, ρ, h1, f.mono S1, x1, m S1 fx, (Out.bind o1).imp fun U H2 ⟨as2, h2, p2, S2, x2, r2, o2⟩ => ?_⟩
  exact hp x2 (r1.mono S2) r2 o2
theorem fe_cmp {op : CmpOp} {p : PV → PV → IH → Res PV} {r : R2} (m : Mon φ) (ho : OpR X (compareOp op) r) (hp : Snd X.K X.mg p r) (ha : PE X a (IEf φ X.K X.mg W A)) (hb : PE X b (IEf φ X.K X.mg W B)) (hm : behindInMarks op b = false := by rfl) : PE X (.Compare a [op] [b] pos) (IEf φ X.K X.mg W (eOp p A B)) := by
  refine peImp (pe_cmpR ho ha hb hm) fun s H Q ⟨as, ρ, hh, f, x, fx, o⟩ => ?_
  refine ⟨as, ρ, hh, f, x, fx, (Out.bind o).imp fun V H1 ⟨as1, h1, p1, S1, x1, r1, o1⟩ => ?_⟩
  refine ⟨as1, ρ, h1, f.mono S1, x1, m S1 fx, (Out.bind o1).imp fun U H2 ⟨as2, h2, p2, S2, x2, r2, o2⟩ => ?_⟩
  exact hp x2 (r1.mono S2) r2 o2
theorem fe_if (m : Mon φ) (hc : PT X e (ITf φ X.K X.mg W c)) (ha : PE X a (IEf φ X.K X.mg W A)) (hb : PE X b (IEf φ X.K X.mg W B)) : PE X (.IfExp e a b pos) (IEf φ X.K X.mg W (eIf c A B)) := by
  refine peImp (pe_ifExp hc ha hb) fun s H Q ⟨as, ρ, hh, f, x, fx, o⟩ => ?_
  refine ⟨as, ρ, hh, f, x, fx, (Out.bind o).imp fun V H1 ⟨as1, h1, p1, S1, x1, r1, o1⟩ => ?_⟩
  obtain rfl : p1 = V := r1
  cases p1 with
  | true => exact ⟨as1, ρ, h1, f.mono S1, x1, m S1 fx, o1⟩
  | false => exact ⟨as1, ρ, h1, f.mono S1, x1, m S1 fx, o1⟩
theorem ft_tru (ha : PE X a (IEf φ X.K X.mg W A)) (he : ∀ whole, isTrue a X.env whole = (do let v ← whole; standAt a.pos; holding [v] (truthy v)) := by intro _; rfl) : PT X a (ITf φ X.K X.mg W (tTru A)) := by
  refine ptImp (pt_truth ha he) fun s H Q ⟨as, ρ, hh, f, x, fx, o⟩ => ?_
  refine ⟨as, ρ, hh, f, x, fx, (Out.bind o).imp fun V H1 ⟨as1, h1, p1, S1, x1, r1, o1⟩ => ?_⟩
  cases q : pTru p1 h1 with
  | none => rw [q] at o1; exact o1.elim
  | some z => rw [q] at o1; exact ⟨z, tru_of x1 r1 q, o1.here x1 rfl⟩
theorem ft_cmp {op : CmpOp} {p : PV → PV → IH → Res PV} {r : R2} (m : Mon φ) (ho : OpR X (compareOp op) r) (hp : Snd X.K X.mg p r) (ha : PE X a (IEf φ X.K X.mg W A)) (hb : PE X b (IEf φ X.K X.mg W B)) (hm : behindInMarks op b = false := by rfl) : PT X (.Compare a [op] [b] pos) (ITf φ X.K X.mg W (tBl (eOp p A B))) := by
  refine ptImp (pt_cmpR ho ha hb hm) fun s H Q ⟨as, ρ, hh, f, x, fx, o⟩ => ?_
  refine ⟨as, ρ, hh, f, x, fx, ?_⟩
  have o' : Out X.K X.mg (fun H as p v => RP X.K X.mg H as p v) W s as H (fun v H' => ∃ q : Bool, v = .bl q ∧ Q q H') (eOp p A B ρ hh) := (Out.bind o).imp fun V3 H3 ⟨as3, h3, p3, S3, x3, r3, o3⟩ => by
    cases r3 with
    | bl q => exact ⟨q, rfl, o3.here x3 rfl⟩
    | non => exact o3.elim
    | int => exact o3.elim
    | str => exact o3.elim
    | tup => exact o3.elim
    | fls => exact o3.elim
    | obj => exact o3.elim
    | glo => exact o3.elim
    | ty => exact o3.elim
    | key => exact o3.elim
  refine (Out.bind o').imp fun V H1 ⟨as1, h1, p1, S1, x1, r1, o1⟩ => ?_
  refine ⟨as1, ρ, h1, f.mono S1, x1, m S1 fx, (Out.bind o1).imp fun U H2 ⟨as2, h2, p2, S2, x2, r2, o2⟩ => ?_⟩
  exact hp x2 (r1.mono S2) r2 o2
theorem fa_cons (m : Mon φ) (ha : PE X e (IEf φ X.K X.mg W A)) (hr : PA X es (IAf φ X.K X.mg W L)) (hs : starEach (e :: es) X.env = (false, eval e X.env) :: starEach es X.env := by rfl) : PA X (e :: es) (IAf φ X.K X.mg W (aCons A L)) := by
  refine paImp (pa_cons ha hr hs) fun s H Q ⟨as, r, h, f, x, fx, o⟩ => ?_
  refine ⟨as, r, h, f, x, fx, (Out.bind o).imp fun V H1 ⟨as1, h1, p, S1, x1, r1, o1⟩ => ?_⟩
  refine ⟨as1, r, h1, f.mono S1, x1, m S1 fx, (Out.bind o1).imp fun Vs H2 ⟨as2, h2, ps, S2, x2, r2, o2⟩ => ?_⟩
  exact o2.here x2 (RPs.cons (r1.mono S2) r2)
theorem fe_tup {x1} (h : PA X es (IAf φ X.K X.mg W L)) : PE X (.Tuple es x1 pos) (IEf φ X.K X.mg W (eTup L)) := by
  refine peImp (pe_tup h) fun s H Q ⟨as, ρ, hh, f, x, fx, o⟩ => ?_
  refine ⟨as, ρ, hh, f, x, fx, (Out.bind o).imp fun Vs H1 ⟨as1, h1, p1, S1, x1, r1, o1⟩ => ?_⟩
  split at o1
  · rename_i hl
    refine ⟨by rw [sizeLine_eq, ← r1.length]; exact hl, fun p np => ?_⟩
    exact o1 _ _ as1 (Stp.lay x1 np) (x1.lay np) (.tup (SqT.of upd_same) (r1.mono (Stp.lay x1 np)))
  · exact o1.elim
theorem fs_ret (he : PE X e (IEf φ X.K X.mg W A)) : PS X (.Return (some e) pos) (ISf φ X.K X.mg W (sRet A)) := by
  refine psImp (ps_ret he) fun D s H ⟨as, r, h, f, x, fx, o⟩ => ?_
  refine ⟨as, r, h, f, x, fx, (outS_of f o).imp fun V H1 ⟨as1, h1, p, S1, x1, r1, o1⟩ => ?_⟩
  exact o1 V H1 as1 (Stp.refl _ _) x1 r1
theorem fs_if {t : Expr} {a b : List Stmt} (m : Mon φ) (hc : PT X t (ITf φ X.K X.mg W c)) (ha : PSs X a (ISf φ X.K X.mg W S)) (hb : PSs X b (ISf φ X.K X.mg W T)) : PS X (.If t a b pos) (ISf φ X.K X.mg W (sIf c S T)) := by
  refine psImp (ps_if hc ha hb) fun D s H ⟨as, r, h, f, x, fx, o⟩ => ?_
  refine ⟨as, r, h, f, x, fx, (outS_of f o).imp fun d H1 ⟨as1, h1, p, S1, x1, r1, o1⟩ => ?_⟩
  obtain rfl : p = d := r1
  cases p with
  | true => exact ⟨as1, r, h1, f.mono S1, x1, m S1 fx, o1⟩
  | false => exact ⟨as1, r, h1, f.mono S1, x1, m S1 fx, o1⟩
theorem fs_setl {j : Nat} {x : Str} {pos' : Pos} (nd : X.N.Nodup) (he : PE X e (IEf φ X.K X.mg W A)) (hi : X.N[j]? = some x := by rfl) (hx : Loc X.env.scope x := by first | exact Or.inl rfl | exact Or.inr rfl) (hs : swapsWith e (some (.Name x pos')) pos.line X.env = pure false := by rfl)
    (hf : X.fn x = true ∨ X.env.scope.names.lookup x = some .local := by first | exact .inl rfl | exact .inr rfl | assumption) : PS X (.Assign [.Name x pos'] e pos) (ISf φ X.K X.mg W (sSet j A)) := by
  refine psImp (ps_set nd hi hx he hs hf) fun D s H ⟨as, r, h, f, x, fx, o⟩ => ?_
  refine ⟨as, r, h, f, x, fx, (outS_of f o).imp fun V H1 ⟨as1, h1, p, S1, x1, r1, o1⟩ => ?_⟩
  exact o1 _ H1 as1 (Stp.refl _ _) x1 ((f.mono S1).set r1)
/-- x = e ahead of others: the fact stays -/
theorem fs_set {j : Nat} {x : Str} {pos' : Pos} (m : Mon φ) (mj : ∀ {s : L2.St} {H : Hp} {as : List Addr} (v : V), φ s H as → φ (s.set j (some v)) H as) (nd : X.N.Nodup) (he : PE X e (IEf φ X.K X.mg W A)) (h2 : PSs X sts (ISf φ X.K X.mg W T)) (hi : X.N[j]? = some x := by rfl) (hx : Loc X.env.scope x := by first | exact Or.inl rfl | exact Or.inr rfl) (hs : swapsWith e (some (.Name x pos')) pos.line X.env = pure false := by rfl)
    (hf : X.fn x = true ∨ X.env.scope.names.lookup x = some .local := by first | exact .inl rfl | exact .inr rfl | assumption) : PSs X (.Assign [.Name x pos'] e pos :: sts) (ISf φ X.K X.mg W (sSeq (sSet j A) T)) := by
  refine pssImp (pss_cons (ps_set nd hi hx he hs hf) h2) fun D s H ⟨as, r, h, f, x, fx, o⟩ => ?_
  refine ⟨as, r, h, f, x, fx, ?_⟩
  unfold sSeq sSet at o
  cases q : A r h with
  | ok v h1 =>
    rw [q] at o
    intro V H1 as1 S1 x1 r1
    exact ⟨as1, r.set j (some v), h1, (f.mono S1).set r1, x1, mj _ (m S1 fx), OutS.shift S1 o⟩
  | ex z h1 => rw [q] at o; exact fun cc d H1 as1 S1 R1 r1 => o cc d s H1 as1 S1 R1 (f.mono S1) r1
  | bad => rw [q] at o; exact o
end
/-! ### the caught exception -/
theorem RX.mono {K : PySem.W.Frag} {mg : Str → Option Value} {as as' : List Addr} {H H' : Hp} {x : XV} {cls : Value} {d : Option Addr} (S : Stp as H as' H') (q : RX K mg H as x cls d) : RX K mg H' as' x cls d := by
  obtain ⟨C, g, e, q⟩ := q
  refine ⟨C, g, e, ?_⟩
  rcases q with q | ⟨dd, gs, e0, e1, e2, e3, e4, e5⟩
  · exact .inl q
  · refine .inr ⟨dd, gs, e0, e1, S.oth _ _ e2 e3, fun z => ?_, e4, e5.mono S⟩
    obtain ⟨more, em, hm⟩ := S.pre
    rw [em] at z
    rcases List.mem_append.mp z with z | z
    · exact e3 z
    · rw [hm _ z] at e2; cases e2
/-- slot i holds the caught exception -/
def XF (K : PySem.W.Frag) (mg : Str → Option Value) (i : Nat) (a : Addr) (x : XV) (cls : Value) (d : Option Addr) : Fac := fun s H as => s[i]? = some (some (.ref a)) ∧ RX K mg H as x cls d
theorem XF.mon {K : PySem.W.Frag} {mg : Str → Option Value} {i : Nat} {a : Addr} {x : XV} {cls : Value} {d : Option Addr} : Mon (XF K mg i a x cls d) := fun S q => ⟨q.1, q.2.mono S⟩
theorem XF.set {K : PySem.W.Frag} {mg : Str → Option Value} {i j : Nat} {a : Addr} {x : XV} {cls : Value} {d : Option Addr} (hj : j ≠ i) {s : L2.St} {H : Hp} {as : List Addr} (v : V) (q : XF K mg i a x cls d s H as) : XF K mg i a x cls d (s.set j (some v)) H as :=
  ⟨by rw [List.getElem?_set_ne hj]; exact q.1, q.2⟩
@[simp] def unI (i : Nat) : RS → RS
  | .nx r h => .nx (r.set i none) h
  | .bk r h => .bk (r.set i none) h
  | .ct r h => .ct (r.set i none) h
  | .rt v h => .rt v h
  | _ => .bad
@[simp] def sTryAs (cs : List Str) (B : SX) (c : Str) (i : Nat) (S : XV → SX) : SX := fun r h => match B r h with
  | .ex x r1 h1 => if cs.contains x.cls && (cs.contains c && decide (i < r1.length)) then (if exSub x.cls c then unI i (S x (r1.set i none) h1) else .ex x r1 h1) else .bad
  | o => o
theorem RF.unsetO {K : PySem.W.Frag} {mg : Str → Option Value} {H : Hp} {as : List Addr} {r : Fm} {s : L2.St} {i : Nat} {o : Option V} (f : RF K mg H as r s) : RF K mg H as (r.set i none) (s.set i o) := by
  refine ⟨by simp [f.len], fun j q e => ?_⟩
  by_cases hj : j = i
  · subst hj
    by_cases hl : j < r.length
    · rw [List.getElem?_set_self hl] at e; cases e
    · rw [List.getElem?_eq_none (by simpa using hl)] at e; cases e
  · rw [List.getElem?_set_ne (Ne.symm hj)] at e
    rw [List.getElem?_set_ne (Ne.symm hj)]
    exact f.at_ j q e
theorem unI_out {K : PySem.W.Frag} {mg : Str → Option Value} {W : WX} {as : List Addr} {H : Hp} {D : Ends} {i : Nat} {o : RS} (z : OutS K mg W as H D (unI i o)) :
    OutS K mg W0 as H { nx := fun σ' H' => D.nx (σ'.set i none) H', rt := D.rt, bk := fun σ' H' => D.bk (σ'.set i none) H', ct := fun σ' H' => D.ct (σ'.set i none) H' } o := by
  cases o with
  | ex x r h => exact (show False from z).elim
  | nx r h => exact fun s' H' as' S x f => z _ H' as' S x f.unsetO
  | rt r h => exact z
  | bk r h => exact fun s' H' as' S x f => z _ H' as' S x f.unsetO
  | ct r h => exact fun s' H' as' S x f => z _ H' as' S x f.unsetO
  | bad => exact z
section
variable {X : Cx} {W : WX} {k : Nat} {c n : Str} {C : Addr} {p np pos pos' : Pos} {body suite : List Stmt} {b₀ : Stmt} {B : SX} {cs : List Str} {i : Nat} {S : XV → SX}
theorem is_tryAs (cx : Ctx X W k) (E : ExCs X.K X.mg cs) (gC : X.mg c = some (.ref C)) (hb : ∀ (W' : WX) (pn : List (Addr × Obj)) (xe : Value → Shared → Prop), Ctx (X.tr pn xe) W' k → PSs (X.tr pn xe) body (IS X.K X.mg W' B))
    (hsu : ∀ (x : XV) (a : Addr) (oe : Obj) (cls : Value) (d : Option Addr) (pn : List (Addr × Obj)), cs.contains x.cls = true → Zc cls d oe → (∃ vs, oe.data = .fields vs) → PSs (X.suite a ((a, oe) :: pn)) (b₀ :: suite) (ISf (XF X.K X.mg i a x cls d) X.K X.mg W0 (S x)))
    (hi : X.N[i]? = some n := by rfl) (hln : X.env.kindOf n = some .local := by rfl) (hg : Gl X c := by rfl) (hdb : (c == ("__debug__" : Str)) = false := by decide)
    (hs0 : X.stack = X.env :: X.outer := by rfl) (hf0 : X.env.frame = some X.env.locals := by rfl) : PS X (.Try body [.ExceptHandler (some (.Name c np)) (some n) (b₀ :: suite) pos'] [] [] pos) (IS X.K X.mg W (sTryAs cs B c i S)) := by
  refine psImp (ps_try_as (ts := fun a cls d D s H => ∃ x : XV, cs.contains x.cls = true ∧ ISf (XF X.K X.mg i a x cls d) X.K X.mg W0 (S x) D s H) hs0 hf0 cx.nd hi hln ⟨hg, hdb, .inl gC⟩ cx.tk (fun W' pn xe tk po => hb W' pn xe ⟨tk, po, cx.calm, cx.nd, cx.room⟩)
    (fun a oe cls d pn hz hd => ⟨fun pins s σ H D I ⟨x, hx, q⟩ => (hsu x a oe cls d pn hx hz hd).run pins s σ H D I q⟩)) fun D s H ⟨as, r, h, f, x, o⟩ => ?_
  refine ⟨as, r, h, f, x, ?_⟩
  unfold sTryAs at o
  cases q : B r h with
  | nx r1 h1 => rw [q] at o; exact o
  | rt r1 h1 => rw [q] at o; exact o
  | bk r1 h1 => rw [q] at o; exact o
  | ct r1 h1 => rw [q] at o; exact o
  | bad => rw [q] at o; exact o
  | ex x1 r1 h1 =>
    rw [q] at o
    simp only at o
    split at o
    · rename_i hc
      obtain ⟨hc1, hc2⟩ := Bool.and_eq_true_iff.mp hc
      obtain ⟨hc2, hc3⟩ := Bool.and_eq_true_iff.mp hc2
      have hc3 := of_decide_eq_true hc3
      intro cls d s' H' as' S' x' f' rx
      have rx' := rx
      obtain ⟨D1, gD, rfl, fs⟩ := rx
      refine ⟨_, E.two x1.cls c D1 C hc1 hc2 gD gC, fun hb => fun a na => ?_, fun hb => ?_⟩
      · rw [if_pos hb] at o
        refine ⟨x1, hc1, as', r1.set i none, h1, f'.unsetO, x', ⟨?_, rx'⟩, unI_out (o.shift S')⟩
        have hl : i < s'.length := by rw [← f'.len]; exact hc3
        rw [List.getElem?_set_self hl]
      · rw [if_neg (by rw [hb]; simp)] at o
        exact o (.ref D1) d s' H' as' S' x' f' rx'
    · exact o.elim
end
end WR

/-! isinstance of a caught exception, its fields; dicts with texts as keys; o[i], x = a, b -/
namespace WR
open PySem PySem.Spec PyProof.Rows L2
/-! ### what the top says of the exceptions' classes -/
structure ExIs (K : PySem.W.Frag) (mg : Str → Option Value) (cs : List Str) : Prop where
  one : ∀ x C, cs.contains x = true → mg x = some (.ref C) → ExcC K C
  two : ∀ x y C D, cs.contains x = true → cs.contains y = true → mg x = some (.ref C) → mg y = some (.ref D) → PySem.W.kitOne K (.ref C) (.ref D) = some (exSub x y)
def bExi (K : PySem.W.Frag) (C : Addr) : Bool := He.eqO (PySem.W.findIn K (.ref C) "__getattribute__") (some (some (.builtin "BaseException.__getattribute__"))) && (He.eqO (PySem.W.findIn K (.ref C) "__getattr__") (some none) && (decide (PySem.W.subIn K (.ref C) (.type "BaseException") = some true) && (PySem.W.hasDictIn K C &&
  (He.eqO (PySem.W.findIn K (.ref C) "__class__") (some (some (.builtin "object.__class__"))) && (He.eqO (PySem.W.specialIn K (.builtin "object.__class__") "__get__") (some (some (.builtin "getset_descriptor.__get__"))) && (decide (PySem.W.takesIn K (.builtin "object.__class__") = some true) && decide (PySem.W.mroIn K C (.type "object") = some true)))))))
theorem bExi_ok {K : PySem.W.Frag} {C : Addr} (e : bExi K C = true) : ExcC K C := by
  obtain ⟨e1, e⟩ := He.ba e
  obtain ⟨e2, e⟩ := He.ba e
  obtain ⟨e3, e⟩ := He.ba e
  obtain ⟨e4, e⟩ := He.ba e
  obtain ⟨e5, e⟩ := He.ba e
  obtain ⟨e6, e⟩ := He.ba e
  obtain ⟨e7, e8⟩ := He.ba e
  exact ⟨He.eqO_ok e1, He.eqO_ok e2, of_decide_eq_true e3, e4, He.eqO_ok e5, He.eqO_ok e6, of_decide_eq_true e7, of_decide_eq_true e8⟩
def bExis (cs : List Str) : FrB := fun K => cs.all fun x => bGlo x K && (bExi K (He.ga K x) && cs.all fun y => decide (PySem.W.kitOne K (.ref (He.ga K x)) (.ref (He.ga K y)) = some (exSub x y)))
theorem bExis_ok {K : PySem.W.Frag} {mg : Str → Option Value} {h : Heap} {cs : List Str} (X : K.In h) (G : h.Ns mainGlobals mg) (e : bExis cs K = true) : ExIs K mg cs := by
  have e' := List.all_eq_true.mp e
  have gl : ∀ x C, cs.contains x = true → mg x = some (.ref C) → C = He.ga K x := fun x C hx g => by
    obtain ⟨a, _⟩ := He.ba (e' x (mem_of_contains hx))
    rw [He.glo_ok X G a] at g
    cases g
    rfl
  refine ⟨fun x C hx g => ?_, fun x y C D hx hy gx gy => ?_⟩
  · obtain ⟨_, b⟩ := He.ba (e' x (mem_of_contains hx))
    obtain ⟨b, _⟩ := He.ba b
    rw [gl x C hx g]
    exact bExi_ok b
  · obtain ⟨_, b⟩ := He.ba (e' x (mem_of_contains hx))
    obtain ⟨_, b⟩ := He.ba b
    rw [gl x C hx gx, gl y D hy gy]
    exact of_decide_eq_true (List.all_eq_true.mp b y (mem_of_contains hy))
/-- isinstance(e, c) of a caught exception -/
@[simp] def eIsE (cs : List Str) (x : XV) (c : Str) : EX := fun _ h => if cs.contains c then .ok (.bl (exSub x.cls c)) h else .bad
/-- an exception that has fields -/
def rIsF (K : PySem.W.Frag) (D a dd : Addr) : List V → Hp → VK → Prop := fun xs H Q => ∃ (c : V) (cv : Value) (b : Bool) (gs : List (Str × V)), xs = [.ref a, c] ∧ (∀ u, RelV c u → u = cv) ∧ PySem.W.kitOne K (.ref D) cv = some b ∧ H dd = some (.xd gs) ∧ Q (.bl b) H
theorem call_isF {X : Cx} {a D dd : Addr} {oe : Obj} {pn : List (Addr × Obj)} (C : ExcC X.K D) (hz : Zc (.ref D) (some dd) oe) (hf : ∃ vs, oe.data = .fields vs) : CallR (X.suite a ((a, oe) :: pn)) (.builtin "isinstance") (rIsF X.K D a dd) := by
  intro pins s σ H xs us Q I r h
  obtain ⟨c, cv, b, gs, rfl, hcv, e, ea, q⟩ := h
  obtain ⟨hget, _⟩ := I.pin (a, oe) (List.mem_append_left _ List.mem_cons_self)
  obtain ⟨vs, hv⟩ := hf
  have hx : ObjOk X.prog X.w H s.heap dd (.xd gs) := I.hok dd _ ea
  obtain ⟨mA, hns, hr⟩ := hx
  obtain ⟨od, ho, hl⟩ := lookIn_ns hns
  have J : PySem.W.InstAt s.heap a oe D (some od) := ⟨hget, hz.1, by unfold PySem.W.notCls; rw [hv] <;> rfl, by rw [hz.2]; exact ho⟩
  have hcl : (PySem.W.clsIn X.K D).isSome = true := by
    obtain ⟨cd, hc, _⟩ := PySem.W.any_some C.hd
    rw [hc]; rfl
  cases r with
  | cons rx rr =>
    cases rr with
    | cons rt rr =>
      cases rr
      cases rx
      have ec := hcv _ rt
      subst ec
      exact PySem.W.kia_one (PySem.W.kitx_exc hcl C.hg C.hk C.hs C.ha C.hn C.ht C.hm) I.kIn J e (fun z => nomatch z) fun tk => ⟨.bl b, H, I.kept (t' := tk) fun _ _ z => z, rfl, q⟩
section
variable {X : Cx} {W : WX} {n c : Str} {C : Addr} {pos q q' q'' : Pos} {a : Addr} {oe : Obj} {pn : List (Addr × Obj)} {cs : List Str} {i : Nat} {x : XV} {cls : Value} {d : Option Addr}
theorem fe_isE (E : ExIs X.K X.mg cs) (gC : X.mg c = some (.ref C)) (hx : cs.contains x.cls = true) (hz : Zc cls d oe) (hd : ∃ vs, oe.data = .fields vs) (hm : X.mg "isinstance" = none) (hN : X.N[i]? = some n := by rfl) (hv : Vis X.env.scope n := by first | exact Or.inl rfl | exact Or.inr (Or.inl rfl) | exact Or.inr (Or.inr rfl)) (hdn : (n == ("__debug__" : Str)) = false := by decide) (hcd : (n == ("__classdict__" : Str)) = false := by decide)
    (hg : Gl X "isinstance" := by rfl) (hgc : Gl X c := by rfl) (hdc : (c == ("__debug__" : Str)) = false := by decide) :
    PE (X.suite a ((a, oe) :: pn)) (.Call (.Name "isinstance" q) [.Name n q', .Name c q''] [] pos) (IEf (XF X.K X.mg i a x cls d) X.K X.mg W (eIsE cs x c)) := by
  refine ⟨fun pins s σ H Q I h => ?_⟩
  obtain ⟨as, r, h, f, rh, ⟨hs, rx⟩, o⟩ := h
  unfold eIsE at o
  split at o
  · rename_i h1
    obtain ⟨D, gD, rfl, fs⟩ := rx
    rcases fs with ⟨_, e⟩ | ⟨dd, gs, e0, e1, e2, e3, e4, e5⟩
    · subst e
      have base : PE (X.suite a ((a, oe) :: pn)) (.Call (.Name "isinstance" q) [.Name n q', .Name c q''] [] pos) (tCB (rIsE X.K D a) (tCons (tVar i) (tCons (tC (.ref C)) tNil))) :=
        pe_callB (call_isE (E.one _ _ hx gD) hz hd) hg hm rfl (pa_cons (pe_var hN hv hdn hcd) (pa_cons (pe_glob (v := .ref C) hgc gC rfl hdc) pa_nil (by rfl)) (by rfl))
      exact base.run pins s σ H Q I ⟨_, hs, .ref C, .ref C, exSub x.cls c, rfl, fun u hu => hu, E.two _ _ _ _ hx h1 gD gC, o.here rh (.bl _)⟩
    · subst e1
      have base : PE (X.suite a ((a, oe) :: pn)) (.Call (.Name "isinstance" q) [.Name n q', .Name c q''] [] pos) (tCB (rIsF X.K D a dd) (tCons (tVar i) (tCons (tC (.ref C)) tNil))) :=
        pe_callB (call_isF (E.one _ _ hx gD) hz hd) hg hm rfl (pa_cons (pe_var hN hv hdn hcd) (pa_cons (pe_glob (v := .ref C) hgc gC rfl hdc) pa_nil (by rfl)) (by rfl))
      exact base.run pins s σ H Q I ⟨_, hs, .ref C, .ref C, exSub x.cls c, gs, rfl, fun u hu => hu, E.two _ _ _ _ hx h1 gD gC, e2, o.here rh (.bl _)⟩
  · exact o.elim
/-- e.f -/
@[simp] def eXf (cs fl : List Str) (x : XV) (f : Str) : EX := fun _ h => if fl.contains f && cs.contains x.cls then opt (x.fs.lookup f) h else .bad
theorem look_of {K : PySem.W.Frag} {mg : Str → Option Value} {as : List Addr} {H : Hp} {f : Str} : ∀ {fs : List (Str × PV)} {gs : List (Str × V)}, gs.map (·.1) = fs.map (·.1) → RPs K mg H as (fs.map (·.2)) (gs.map (·.2)) → ∀ {p : PV}, fs.lookup f = some p → ∃ v, gs.lookup f = some v ∧ RP K mg H as p v
  | [], _, _, _, p, e => by cases e
  | q :: fs, [], e, _, _, _ => by cases e
  | (y, v) :: fs, (y', v') :: gs, e, r, p, l => by
    simp only [List.map_cons, List.cons.injEq] at e
    obtain ⟨e1, e2⟩ := e
    subst e1
    cases r with
    | cons r1 r2 =>
      rw [List.lookup_cons] at l ⊢
      split at l
      · cases l; exact ⟨_, rfl, r1⟩
      · exact look_of e2 r2 l
theorem fe_xf {f : Str} {fl : List Str} (E : ExIs X.K X.mg cs) (hn : ∀ C, X.mg x.cls = some (.ref C) → cs.contains x.cls = true → fl.contains f = true → PySem.W.findIn X.K (.ref C) f = some none) (hz : Zc cls d oe) (hd : ∃ vs, oe.data = .fields vs)
    (hN : X.N[i]? = some n := by rfl) (hv : Vis X.env.scope n := by first | exact Or.inl rfl | exact Or.inr (Or.inl rfl) | exact Or.inr (Or.inr rfl)) (hdn : (n == ("__debug__" : Str)) = false := by decide) (hcd : (n == ("__classdict__" : Str)) = false := by decide)
    (hb : attributeBase (.Name n q) f X.env (eval (.Name n q) X.env) = eval (.Name n q) X.env := by rfl) :
    PE (X.suite a ((a, oe) :: pn)) (.Attribute (.Name n q) f pos) (IEf (XF X.K X.mg i a x cls d) X.K X.mg W (eXf cs fl x f)) := by
  refine ⟨fun pins s σ H Q I h => ?_⟩
  obtain ⟨as, r, h, g, rh, ⟨hs, rx⟩, o⟩ := h
  unfold eXf at o
  split at o
  · rename_i hc
    obtain ⟨h0, h1⟩ := Bool.and_eq_true_iff.mp hc
    obtain ⟨D, gD, rfl, fs⟩ := rx
    cases hl : x.fs.lookup f with
    | none => rw [hl] at o; exact o.elim
    | some p =>
      rw [hl] at o
      rcases fs with ⟨e, _⟩ | ⟨dd, gs, e0, e1, e2, e3, e4, e5⟩
      · rw [e] at hl; cases hl
      · obtain ⟨v, l1, l2⟩ := look_of e4 e5 hl
        have ec := E.one _ _ h1 gD
        have base := pe_xf (X := X) (a := a) (pn := pn) (pos := pos) (n := f) ⟨ec.hg, ec.hk, ec.hs, ec.hd⟩ (hn D gD h1 h0) hz hd (pe_var (X := X.suite a ((a, oe) :: pn)) (i := i) (x := n) (pos := q) hN hv hdn hcd) hb
        exact base.run pins s σ H Q I ⟨_, hs, rfl, rfl, dd, gs, v, e1, e2, l1, o.here rh l2⟩
  · exact o.elim
end
/-! ### dicts with texts as keys -/
def sGet (kvs : List (Str × PV)) (k : Str) : Option PV := (kvs.find? fun q => decide (q.1 = k)).map (·.2)
def sPut (kvs : List (Str × PV)) (k : Str) (v : PV) : List (Str × PV) :=
  if (kvs.any fun q => decide (q.1 = k)) = true then kvs.map (fun q => if q.1 = k then (q.1, v) else q) else kvs ++ [(k, v)]
@[simp] def pSGet (x y : PV) (h : IH) : Res PV := match x, y with
  | .obj n, .str k => (match h[n]? with
    | some (.dks kvs) => opt (sGet kvs k) h
    | _ => .bad)
  | _, _ => .bad
@[simp] def pSIn (y x : PV) (h : IH) : Res PV := match x, y with
  | .obj n, .str k => (match h[n]? with
    | some (.dks kvs) => .ok (.bl (sGet kvs k).isSome) h
    | _ => .bad)
  | _, _ => .bad
@[simp] def sSPutX (D Kx V : EX) : SX := fun r h => toS (V r h) r fun v h1 => toS (D r h1) r fun d h2 => toS (Kx r h2) r fun kk h3 => match d, kk with
  | .obj n, .str k => (match h3[n]? with
    | some (.dks kvs) => if kvs.length < 16777216 then .nx r (h3.set n (.dks (sPut kvs k v))) else .bad
    | _ => .bad)
  | _, _ => .bad
@[simp] def eVals : List (Str × EX) → AX
  | [] => aNil
  | q :: L => aCons q.2 (eVals L)
@[simp] def eDisp (L : List (Str × EX)) : EX := fun r h => (eVals L r (h ++ [.dks []])).bind fun vs h1 => match h1[h.length]? with
  | some (.dks []) => .ok (.obj h.length) (h1.set h.length (.dks (((L.map (·.1)).zip vs).foldl (fun acc kv => sPut acc kv.1 kv.2) [])))
  | _ => .bad
section
variable {K : PySem.W.Frag} {mg : Str → Option Value} {as : List Addr} {H : Hp}
theorem inr_inj {a b : Str} : (Sum.inr a : Key) = Sum.inr b ↔ a = b := ⟨fun h => Sum.inr.inj h, fun h => by rw [h]⟩
theorem sGet_of (k : Str) : ∀ {kvs : List (Str × PV)} {gs : List (Key × V)}, gs.map (·.1) = kvs.map (fun q => (Sum.inr q.1 : Key)) → RPs K mg H as (kvs.map (·.2)) (gs.map (·.2)) →
    (∃ p v, sGet kvs k = some p ∧ valV gs (Sum.inr k) = some v ∧ RP K mg H as p v) ∨ (sGet kvs k = none ∧ valV gs (Sum.inr k) = none)
  | [], [], _, _ => .inr ⟨rfl, rfl⟩
  | [], g :: gs, e, _ => by cases e
  | q :: kvs, [], e, _ => by cases e
  | q :: kvs, g :: gs, e, r => by
    simp only [List.map_cons, List.cons.injEq] at e
    cases r with
    | cons r1 r2 =>
      by_cases hk : q.1 = k
      · refine .inl ⟨q.2, g.2, by simp [sGet, List.find?_cons, hk], valV_pos (by rw [e.1, hk]), r1⟩
      · have hk' : ¬ g.1 = Sum.inr k := by rw [e.1]; exact fun z => hk (inr_inj.mp z)
        have e2 : sGet (q :: kvs) k = sGet kvs k := by simp [sGet, List.find?_cons, hk]
        rw [e2, valV_neg hk']
        exact sGet_of k e.2 r2
theorem anyS_of (k : Str) {kvs : List (Str × PV)} {gs : List (Key × V)} (e : gs.map (·.1) = kvs.map (fun q => (Sum.inr q.1 : Key))) :
    (gs.any fun kv => decide (kv.1 = Sum.inr k)) = (kvs.any fun q => decide (q.1 = k)) := by
  induction kvs generalizing gs with
  | nil => cases gs with
    | nil => rfl
    | cons _ _ => cases e
  | cons q kvs ih => cases gs with
    | nil => cases e
    | cons g gs =>
      simp only [List.map_cons, List.cons.injEq] at e
      rw [List.any_cons, List.any_cons, ih e.2, e.1]
      congr 1
      rw [decide_eq_decide]
      exact inr_inj
theorem sPut_of (k : Str) {v : PV} {u : V} (rv : RP K mg H as v u) {kvs : List (Str × PV)} {gs : List (Key × V)} (e : gs.map (·.1) = kvs.map (fun q => (Sum.inr q.1 : Key))) (r : RPs K mg H as (kvs.map (·.2)) (gs.map (·.2))) :
    (putK gs (Sum.inr k) u).map (·.1) = (sPut kvs k v).map (fun q => (Sum.inr q.1 : Key)) ∧ RPs K mg H as ((sPut kvs k v).map (·.2)) ((putK gs (Sum.inr k) u).map (·.2)) := by
  unfold putK sPut
  rw [anyS_of k e]
  split
  · rename_i hc
    clear hc
    induction kvs generalizing gs with
    | nil => cases gs with
      | nil => exact ⟨rfl, .nil⟩
      | cons _ _ => cases e
    | cons q kvs ih => cases gs with
      | nil => cases e
      | cons g gs =>
        simp only [List.map_cons, List.cons.injEq] at e
        cases r with
        | cons r1 r2 =>
          obtain ⟨i1, i2⟩ := ih e.2 r2
          by_cases hk : q.1 = k
          · have hg : g.1 = Sum.inr k := by rw [e.1, hk]
            simp only [List.map_cons, if_pos hk, if_pos hg]
            exact ⟨by rw [i1, hg, hk], .cons rv i2⟩
          · have hg : ¬ g.1 = Sum.inr k := by rw [e.1]; exact fun z => hk (inr_inj.mp z)
            simp only [List.map_cons, if_neg hk, if_neg hg]
            exact ⟨by rw [i1, e.1], .cons r1 i2⟩
  · simp only [List.map_append, List.map_cons, List.map_nil]
    exact ⟨by rw [e], r.append (.one rv)⟩
theorem merge_of : ∀ {ks : List Str} {ps : List PV} {vs : List V} {kvs : List (Str × PV)} {gs : List (Key × V)}, RPs K mg H as ps vs → gs.map (·.1) = kvs.map (fun q => (Sum.inr q.1 : Key)) → RPs K mg H as (kvs.map (·.2)) (gs.map (·.2)) →
    (((ks.map (Sum.inr : Str → Key)).zip vs).foldl (fun acc kv => putK acc kv.1 kv.2) gs).map (·.1) = ((ks.zip ps).foldl (fun acc kv => sPut acc kv.1 kv.2) kvs).map (fun q => (Sum.inr q.1 : Key)) ∧
    RPs K mg H as (((ks.zip ps).foldl (fun acc kv => sPut acc kv.1 kv.2) kvs).map (·.2)) ((((ks.map (Sum.inr : Str → Key)).zip vs).foldl (fun acc kv => putK acc kv.1 kv.2) gs).map (·.2))
  | [], _, _, _, _, _, e, r => by simpa using ⟨e, r⟩
  | k :: ks, _, _, _, _, .nil, e, r => by simpa using ⟨e, r⟩
  | k :: ks, _, _, _, _, .cons r1 r2, e, r => by
    obtain ⟨q1, q2⟩ := sPut_of k r1 e r
    exact merge_of (ks := ks) r2 q1 q2
theorem sget_rel {h : IH} {n : Nat} {k : Str} {kvs : List (Str × PV)} {U V : V} (rh : RH K mg H as h) (rx : RP K mg H as (.obj n) U) (ry : RP K mg H as (.str k) V) (e : h[n]? = some (.dks kvs)) :
    ∃ a ov, U = .ref a ∧ DGet H a V ov ∧ ((∃ p v, sGet kvs k = some p ∧ ov = some v ∧ RP K mg H as p v) ∨ (sGet kvs k = none ∧ ov = none)) := by
  cases rx with
  | obj ha => cases ry with
    | str _ =>
      obtain ⟨a, g1, gs, g2, ek, rs⟩ := rh.at_ _ _ e
      rw [ha] at g1; cases g1
      refine ⟨_, _, rfl, DGet.k g2 (k := Sum.inr k), ?_⟩
      rcases sGet_of k ek rs with ⟨p, v, h1, h2, h3⟩ | ⟨h1, h2⟩
      · exact .inl ⟨p, v, h1, h2, h3⟩
      · exact .inr ⟨h1, h2⟩
end
section
variable {X : Cx} {W : WX} {k : Nat} {a b e o i : Expr} {es : List Expr} {pos p apos : Pos} {A B C : EX} {L : AX}
theorem ie_sget (cx : Ctx X W k) (ha : PE X a (IE X.K X.mg W A)) (hb : PE X b (IE X.K X.mg W B)) (hs : NoSl b := by intro _ _; rfl) : PE X (.Subscript a b pos) (IE X.K X.mg W (eOp pSGet A B)) := by
  refine peImp (pe_dget (hu_of cx.room) ha hb hs) fun s H Q ⟨as, ρ, hh, f, x, o⟩ => ?_
  refine ⟨as, ρ, hh, f, x, (Out.bind o).imp fun V H1 ⟨as1, h1, p1, S1, x1, r1, o1⟩ => ?_⟩
  refine ⟨as1, ρ, h1, f.mono S1, x1, (Out.bind o1).imp fun V2 H2 ⟨as2, h2, p2, S2, x2, r2, o2⟩ => ?_⟩
  unfold pSGet at o2
  split at o2
  · split at o2
    · rename_i kvs hk
      obtain ⟨a, ov, rfl, g, z⟩ := sget_rel x2 (r1.mono S2) r2 hk
      rcases z with ⟨p, v, h1, rfl, h3⟩ | ⟨h1, h2⟩
      · rw [h1] at o2
        exact ⟨_, _, rfl, g, o2.here x2 h3⟩
      · rw [h1] at o2; exact o2.elim
    · exact o2.elim
  · exact o2.elim
theorem snd_sin {K : PySem.W.Frag} {mg : Str → Option Value} : Snd K mg pSIn (fun y x H Q => ∃ a o, x = .ref a ∧ DGet H a y o ∧ Q (.bl o.isSome) H) := by
  intro W s as H h x y U V Q rh rx ry o
  unfold pSIn at o
  split at o
  · split at o
    · rename_i kvs hk
      obtain ⟨a, ov, rfl, g, z⟩ := sget_rel rh ry rx hk
      refine ⟨_, _, rfl, g, ?_⟩
      rcases z with ⟨p, v, h1, rfl, h3⟩ | ⟨h1, rfl⟩
      · rw [h1] at o; exact o.here rh (.bl _)
      · rw [h1] at o; exact o.here rh (.bl _)
    · exact o.elim
  · exact o.elim
theorem ie_sin (cx : Ctx X W k) (ha : PE X a (IE X.K X.mg W A)) (hb : PE X b (IE X.K X.mg W B)) (hm : behindInMarks .In b = false := by rfl) : PE X (.Compare a [.In] [b] pos) (IE X.K X.mg W (eOp pSIn A B)) := ie_cmp (op_din (hu_of cx.room)) snd_sin ha hb hm
theorem it_sin (cx : Ctx X W k) (ha : PE X a (IE X.K X.mg W A)) (hb : PE X b (IE X.K X.mg W B)) (hm : behindInMarks .In b = false := by rfl) : PT X (.Compare a [.In] [b] pos) (IT X.K X.mg W (tBl (eOp pSIn A B))) := it_cmp (op_din (hu_of cx.room)) snd_sin ha hb hm
theorem is_sput {value : Expr} {pos' : Pos} (cx : Ctx X W k) (hv : PE X value (IE X.K X.mg W C)) (ho : PE X o (IE X.K X.mg W A)) (hi : PE X i (IE X.K X.mg W B)) (hs : swapsWith value (some (.Subscript o i pos')) pos.line X.env = pure false := by rfl) :
    PS X (.Assign [.Subscript o i pos'] value pos) (IS X.K X.mg W (sSPutX A B C)) := by
  refine psImp (ps_dput (hu_of cx.room) ho hi hv hs) fun D s H ⟨as, r, h, f, x, o⟩ => ?_
  refine ⟨as, r, h, f, x, (outS_of f o).imp fun V H1 ⟨as1, h1, p1, S1, x1, r1, o1⟩ => ?_⟩
  refine ⟨as1, r, h1, f.mono S1, x1, (outS_of (f.mono S1) o1).imp fun V2 H2 ⟨as2, h2, p2, S2, x2, r2, o2⟩ => ?_⟩
  refine ⟨as2, r, h2, (f.mono S1).mono S2, x2, (outS_of ((f.mono S1).mono S2) o2).imp fun V3 H3 ⟨as3, h3, p3, S3, x3, r3, o3⟩ => ?_⟩
  split at o3
  · rename_i n kk _
    split at o3
    · rename_i kvs hk
      split at o3
      · rename_i hl
        have r2' := r2.mono S3
        have r1' := (r1.mono S2).mono S3
        cases r2' with
        | obj ha => cases r3 with
          | str _ =>
            obtain ⟨a, g1, gs, g2, ek, rs⟩ := x3.at_ _ _ hk
            rw [ha] at g1; cases g1
            have hlen : gs.length = kvs.length := by have := congrArg List.length ek; simpa using this
            refine ⟨_, _, rfl, DPut.k g2 (k := Sum.inr kk) (by rw [sizeLine_eq, hlen]; exact hl), ?_⟩
            have S4 := Stp.put (o := .dK (putK gs (Sum.inr kk) V)) x3 ha hk
            obtain ⟨q1, q2⟩ := sPut_of kk r1' ek rs
            exact o3 _ _ as3 S4 (x3.put (m := .dks (sPut kvs kk p1)) ha hk ⟨_, upd_same, q1, q2.mono S4⟩) ((((f.mono S1).mono S2).mono S3).mono S4)
      · exact o3.elim
    · exact o3.elim
  · exact o3.elim
theorem pairs_of : ∀ (L : List (Str × EX)) {s : L2.St} {H : Hp} {as : List Addr} {r : Fm} {h : IH} {Q : List (V × V) → Hp → Prop}, RF X.K X.mg H as r s → RH X.K X.mg H as h →
    Out X.K X.mg (fun H as p v => RPs X.K X.mg H as p v) W s as H (fun Vs H2 => Q ((L.map fun q => V.str q.1).zip Vs) H2) (eVals L r h) → tPairs (L.map fun q => (tC (.str q.1), IE X.K X.mg W q.2)) s H Q
  | [], s, H, as, r, h, Q, f, x, o => o.here x RPs.nil
  | q :: L, s, H, as, r, h, Q, f, x, o => by
    refine ⟨as, r, h, f, x, (Out.bind o).imp fun V H1 ⟨as1, h1, p, S1, x1, r1, o1⟩ => ?_⟩
    refine pairs_of L (f.mono S1) x1 ((Out.bind o1).imp fun Vs H2 ⟨as2, h2, ps, S2, x2, r2, o2⟩ => ?_)
    exact o2.here x2 (RPs.cons (r1.mono S2) r2)
theorem ie_disp (L : List (Str × EX)) {keys : List (Option Expr)} {values : List Expr} (hp : PPs X pos keys values (L.map fun q => (tC (.str q.1), IE X.K X.mg W q.2))) (hl : keys.length = L.length := by rfl) (h15 : L.length ≤ 15 := by decide)
    (hall : keys.all (·.isSome) = true := by rfl) (hv : keys.length = values.length := by rfl) (h0 : keys ≠ [] := by intro h; cases h) : PE X (.Dict keys values pos) (IE X.K X.mg W (eDisp L)) := by
  refine peImp (pe_disp hp hall hv h0 (by rw [hl]; exact h15)) fun s H Q ⟨as, ρ, hh, f, x, o⟩ => ?_
  intro p np
  have S := Stp.new (o := .dK []) x np
  have x1 := x.new (m := .dks []) np ⟨[], upd_same, rfl, .nil⟩
  refine pairs_of L (f.mono S) x1 ((Out.bind (Out.shift S o)).imp fun Vs H2 ⟨as2, h2, ps, S2, x2, r2, o2⟩ => ?_)
  have ap : (as ++ [p])[hh.length]? = some p := by rw [List.getElem?_append_right (by rw [x.len]; exact Nat.le_refl _), x.len, Nat.sub_self]; rfl
  have ap2 := S2.get ap
  split at o2
  · rename_i hk
    obtain ⟨a, g1, gs, g2, ek, rs⟩ := x2.at_ _ _ hk
    rw [ap2] at g1; cases g1
    have eg : gs = [] := by cases gs with
      | nil => rfl
      | cons _ _ => cases ek
    subst eg
    refine ⟨g2, ((L.map fun q => (Sum.inr q.1 : Key)).zip Vs), ?_, ?_, ?_⟩
    · rw [List.map_zip_eq_zipWith, List.zip_eq_zipWith, List.zipWith_map_left, List.zipWith_map_left]
      rfl
    · rw [List.length_zip, List.length_map]; omega
    · obtain ⟨q1, q2⟩ := merge_of (ks := L.map (·.1)) (kvs := []) (gs := []) r2 rfl .nil
      rw [List.map_map] at q1 q2
      have S3 := Stp.put (o := .dK (mergeK [] ((L.map fun q => (Sum.inr q.1 : Key)).zip Vs))) x2 ap2 hk
      exact o2 _ _ as2 S3 (x2.put ap2 hk ⟨_, upd_same, q1, q2.mono S3⟩) (.obj ap2)
  · exact o2.elim
/-! ### o[i], x = a, b -/
@[simp] def sIxVar (O I : EX) (j : Nat) (L : AX) : SX := fun r h => toS (L r h) r fun vs h1 => match vs with
  | [v, w] => toS (O r h1) r fun o h2 => toS (I r h2) r fun i h3 => (match o, i with
    | .obj n, .int k => (match h3[n]? with
      | some (.lst xs) => (match ixN xs.length k with
        | some m => .nx (r.set j (some w)) (h3.set n (.lst (xs.set m v)))
        | none => .bad)
      | _ => .bad)
    | _, _ => .bad)
  | _ => .bad
theorem is_ixvar {x : Str} {px ppos pt : Pos} {kt k2 pt2} {O I : EX} {j : Nat} (cx : Ctx X W k) (ha : PA X [a, b] (IA X.K X.mg W L)) (ho : PE X o (IE X.K X.mg W O)) (hi : PE X i (IE X.K X.mg W I))
    (hset : ∀ v, assign (.Subscript o i ppos) X.env v = (do
      let ov ← holding [v] (eval o X.env)
      let iv ← holding [v, ov] (eval i X.env)
      standAt ppos
      holding [v, ov, iv] (setItem ov iv v)
      release [v, ov, iv] []) := by intro _; rfl)
    (hj : X.N[j]? = some x := by rfl) (hx : Loc X.env.scope x := by first | exact Or.inl rfl | exact Or.inr rfl) (hf : X.fn x = true ∨ X.env.scope.names.lookup x = some .local := by first | exact .inl rfl | exact .inr rfl | assumption)
    (h2 : (assignEach [.Subscript o i ppos, .Name x px] X.env).map (·.2) = assign (.Subscript o i ppos) X.env :: (assignEach [.Name x px] X.env).map (·.2) := by rfl) (h3 : (assignEach [.Name x px] X.env).map (·.2) = assign (.Name x px) X.env :: (assignEach [] X.env).map (·.2) := by rfl)
    (hn : (assignEach [.Subscript o i ppos, .Name x px] X.env).length = 2 := by rfl) (hst : (assignEach [.Subscript o i ppos, .Name x px] X.env).findIdx? (·.1) = none := by rfl)
    (hs : swapsWithSole [.Tuple [.Subscript o i ppos, .Name x px] kt pt] (.Tuple [a, b] k2 pt2) pos.line X.env = pure false := by rfl) (hw : swappedStores [.Tuple [.Subscript o i ppos, .Name x px] kt pt] (.Tuple [a, b] k2 pt2) X.env = pure none := by rfl)
    (h1 : (assignEach [.Tuple [.Subscript o i ppos, .Name x px] kt pt] X.env).map (·.2) = [assign (.Tuple [.Subscript o i ppos, .Name x px] kt pt) X.env] := by rfl) :
    PS X (.Assign [.Tuple [.Subscript o i ppos, .Name x px] kt pt] (.Tuple [a, b] k2 pt2) pos) (IS X.K X.mg W (sIxVar O I j L)) := by
  refine psImp (ps_asg (pe_tup ha) (pg_tup cx.calm (pgs_cons (pg_sub ho hi set_list hset) (pgs_cons (pg_name cx.nd hj hx hf) pgs_nil h3) h2) hn hst) hs hw h1) fun D s H ⟨as, r, h, f, x, o⟩ => ?_
  refine ⟨as, r, h, f, x, (outS_of f o).imp fun Vs H1 ⟨as1, h1, ps, S1, x1, r1, o1⟩ => ?_⟩
  split at o1
  · obtain ⟨v, w, rfl, rv, rw'⟩ := r1.inv2
    refine ⟨by rw [sizeLine_eq]; show 2 ≤ 16777216; omega, fun p np => ?_⟩
    have S2 := Stp.lay (o := .tup [v, w]) x1 np
    have x2 := x1.lay (o := .tup [v, w]) np
    refine ⟨p, _, rfl, SqT.of upd_same, rfl, _, _, rfl, as1, r, h1, (f.mono S1).mono S2, x2, (outS_of ((f.mono S1).mono S2) (OutS.shift S2 o1)).imp fun V3 H3 ⟨as3, h3, p3, S3, x3, r3, o3⟩ => ?_⟩
    refine ⟨as3, r, h3, ((f.mono S1).mono S2).mono S3, x3, (outS_of (((f.mono S1).mono S2).mono S3) o3).imp fun V4 H4 ⟨as4, h4, p4, S4, x4, r4, o4⟩ => ?_⟩
    split at o4
    · split at o4
      · rename_i xs hx
        split at o4
        · rename_i m hm
          have r3' := r3.mono S4
          cases r3' with
          | obj ha => cases r4 with
            | int kk =>
              obtain ⟨a, g1, ys, g2, rs⟩ := x4.at_ _ _ hx
              rw [ha] at g1; cases g1
              have S5 := Stp.put (o := .lst (ys.set m v)) x4 ha hx
              have q := (((rv.mono S2).mono S3).mono S4).mono S5
              have q' := (((rw'.mono S2).mono S3).mono S4).mono S5
              refine ⟨_, ys, _, m, rfl, rfl, g2, by rw [← rs.length]; exact hm, _, _, rfl, rfl, ?_⟩
              exact o4 _ _ as4 S5 (x4.put (m := .lst (xs.set m _)) ha hx ⟨_, upd_same, RPs.set q m (rs.mono S5)⟩) ((((((f.mono S1).mono S2).mono S3).mono S4).mono S5).set q')
        · exact o4.elim
      · exact o4.elim
    · exact o4.elim
  · exact o1.elim
theorem fe_add {φ : Fac} (m : Mon φ) (ha : PE X a (IEf φ X.K X.mg W A)) (hb : PE X b (IEf φ X.K X.mg W B)) : PE X (.BinOp a .Add b pos) (IEf φ X.K X.mg W (eOp pAdd A B)) := fe_op m (op_add.or (op_add_str.or (op_catA.or op_cat))) snd_add ha hb
theorem fe_eq {φ : Fac} (m : Mon φ) (hu : X.A.units + 64 < cLine) (ha : PE X a (IEf φ X.K X.mg W A)) (hb : PE X b (IEf φ X.K X.mg W B)) : PE X (.Compare a [.Eq] [b] pos) (IEf φ X.K X.mg W (eOp pEq A B)) := fe_cmp m (op_eqD hu) snd_eq ha hb (nomark _)
theorem ft_eq {φ : Fac} (m : Mon φ) (hu : X.A.units + 64 < cLine) (ha : PE X a (IEf φ X.K X.mg W A)) (hb : PE X b (IEf φ X.K X.mg W B)) : PT X (.Compare a [.Eq] [b] pos) (ITf φ X.K X.mg W (tBl (eOp pEq A B))) := ft_cmp m (op_eqD hu) snd_eq ha hb (nomark _)
theorem ft_ne {φ : Fac} (m : Mon φ) (hu : X.A.units + 64 < cLine) (ha : PE X a (IEf φ X.K X.mg W A)) (hb : PE X b (IEf φ X.K X.mg W B)) : PT X (.Compare a [.NotEq] [b] pos) (ITf φ X.K X.mg W (tBl (eOp pNe A B))) := ft_cmp m (op_neD hu) snd_ne ha hb (nomark _)
end
/-- the names of the exceptions' fields -/
def ExFl (K : PySem.W.Frag) (mg : Str → Option Value) (cs fl : List Str) : Prop := ∀ x f C, mg x = some (.ref C) → cs.contains x = true → fl.contains f = true → PySem.W.findIn K (.ref C) f = some none
def bXfl (cs fl : List Str) : FrB := fun K => cs.all fun x => bGlo x K && fl.all fun f => He.eqO (PySem.W.findIn K (.ref (He.ga K x)) f) (some none)
theorem bXfl_ok {K : PySem.W.Frag} {mg : Str → Option Value} {h : Heap} {cs fl : List Str} (X : K.In h) (G : h.Ns mainGlobals mg) (e : bXfl cs fl K = true) : ExFl K mg cs fl := by
  intro x f C g hx hf
  obtain ⟨a, b⟩ := He.ba (List.all_eq_true.mp e x (mem_of_contains hx))
  rw [He.glo_ok X G a] at g
  cases g
  exact He.eqO_ok (List.all_eq_true.mp b f (mem_of_contains hf))
end WR

/-! texts, reversed -/
namespace WR
open PySem PySem.Spec PyProof.Rows L2
/-! ### the code -/
@[simp] def pStr1 : List PV → IH → Res PV
  | [.int i], h => if i.natAbs.log2 < 1920 then .ok (.str (toString i)) h else .bad
  | _, _ => .bad
@[simp] def pIntS : List PV → IH → Res PV
  | [.str a], h => if a.length ≤ 640 then opt ((PySem.intText? a).map .int) h else .bad
  | _, _ => .bad
@[simp] def eFmt (A : EX) : EX := fun r h => (A r h).bind fun v h1 => match v with
  | .str y => if y.length ≤ 16777216 then .ok (.str y) h1 else .bad
  | .int i => if i.natAbs.log2 < 1920 then .ok (.str (toString i)) h1 else .bad
  | _ => .bad
@[simp] def eJs : List EX → Str → Fm → IH → Res PV
  | [], acc, _, h => .ok (.str acc) h
  | A :: L, acc, r, h => (A r h).bind fun v h1 => match v with
    | .str y => if (acc ++ y).length ≤ 16777216 then eJs L (acc ++ y) r h1 else .bad
    | _ => .bad
@[simp] def eJoined (L : List EX) : EX := fun r h => eJs L Str.empty r h
@[simp] def strsOf : List PV → Option (List Str)
  | [] => some []
  | .str x :: r => (strsOf r).map (x :: ·)
  | _ => none
@[simp] def eSplit (A B : EX) : EX := fun r h => (A r h).bind fun x h1 => match x with
  | .str a => (B r h1).bind fun y h2 => (match y with
    | .str b => if (b.length == 0) = false ∧ a.length + 2 ≤ 16777216 then .ok (.obj h2.length) (h2 ++ [.lst ((Txt.split a b).map .str)]) else .bad
    | _ => .bad)
  | _ => .bad
@[simp] def eJoin (A B : EX) : EX := fun r h => (A r h).bind fun x h1 => match x with
  | .str a => (B r h1).bind fun y h2 => (match seqOf y h2 with
    | some ys => (match strsOf ys with
      | some zs => if (zs.map (·.length)).sum + zs.length * a.length ≤ 16777216 then .ok (.str (Txt.join a zs)) h2 else .bad
      | none => .bad)
    | none => .bad)
  | _ => .bad
@[simp] def eRstrip (A : EX) : EX := fun r h => (A r h).bind fun x h1 => match x with
  | .str a => if a.length ≤ 16777216 then .ok (.str (Txt.rstrip a)) h1 else .bad
  | _ => .bad
@[simp] def pInT : PV → PV → IH → Res PV
  | .str x, .str z, h => (match x.cps.toList with
    | [c] => .ok (.bl (decide (c ∈ z.cps.toList))) h
    | _ => .bad)
  | _, _, _ => .bad
@[simp] def pNotInT : PV → PV → IH → Res PV
  | .str x, .str z, h => (match x.cps.toList with
    | [c] => .ok (.bl (!decide (c ∈ z.cps.toList))) h
    | _ => .bad)
  | _, _, _ => .bad
@[simp] def itStr (x : Str) : ItF := fun i _ => match x.cps.toList[i]? with
  | some c => some (some (.str ⟨#[c]⟩))
  | none => some none
@[simp] def eChars (A : EX) : Fm → IH → Res ItF := fun r h => (A r h).bind fun v h1 => match v with
  | .str x => .ok (itStr x) h1
  | _ => .bad
/-- reversed(list): the list stays as it is -/
@[simp] def itRev (m n : Nat) : ItF := fun i h => match h[m]? with
  | some (.lst xs) => if xs.length = n then (if i < n then (match xs[n - 1 - i]? with
    | some v => some (some v)
    | none => none) else some none) else none
  | _ => none
@[simp] def eRev (L : AX) : Fm → IH → Res ItF := fun r h => (L r h).bind fun vs h1 => match vs with
  | [.obj m] => (match h1[m]? with
    | some (.lst xs) => .ok (itRev m xs.length) h1
    | _ => .bad)
  | _ => .bad
section
variable {X : Cx} {W : WX} {k : Nat} {a b e o tg : Expr} {es : List Expr} {pos p apos : Pos} {A B C : EX} {L : AX}
theorem strs_rp {K : PySem.W.Frag} {mg : Str → Option Value} {H : Hp} {as : List Addr} : ∀ zs : List Str, RPs K mg H as (zs.map PV.str) (zs.map V.str)
  | [] => .nil
  | z :: zs => .cons (.str z) (strs_rp zs)
theorem ie_str1 (hm : X.mg "str" = none) (ha : PA X [e] (IA X.K X.mg W L)) (hg : Gl X "str" := by rfl) (he : starEach [e] X.env = (false, eval e X.env) :: starEach [] X.env := by rfl) : PE X (.Call (.Name "str" p) [e] [] pos) (IE X.K X.mg W (eB pStr1 L)) := by
  refine ie_callT call_str_int (fun {W s as H h xs Us Q} rh rs o => ?_) hm PyProof.Rows.Boot.«str» ha hg (by decide) (by decide) he rfl
  unfold pStr1 at o
  split at o
  · obtain ⟨v, rfl, rv⟩ := rs.inv1
    cases rv
    split at o
    · rename_i hl; exact ⟨_, rfl, hl, o.here rh (.str _)⟩
    · exact o.elim
  · exact o.elim
theorem ie_ints (hm : X.mg "int" = none) (ha : PA X [e] (IA X.K X.mg W L)) (hg : Gl X "int" := by rfl) (he : starEach [e] X.env = (false, eval e X.env) :: starEach [] X.env := by rfl) : PE X (.Call (.Name "int" p) [e] [] pos) (IE X.K X.mg W (eB pIntS L)) := by
  refine ie_callT call_int_str (fun {W s as H h xs Us Q} rh rs o => ?_) hm PyProof.Rows.Boot.«int» ha hg (by decide) (by decide) he rfl
  unfold pIntS at o
  split at o
  · obtain ⟨v, rfl, rv⟩ := rs.inv1
    cases rv
    split at o
    · rename_i x hl
      cases q : PySem.intText? x with
      | none => rw [q] at o; exact o.elim
      | some n => rw [q] at o; exact ⟨_, n, rfl, q, hl, o.here rh (.int _)⟩
    · exact o.elim
  · exact o.elim
theorem ie_fmt (ha : PE X e (IE X.K X.mg W A)) : PE X (.FormattedValue e (-1) none pos) (IE X.K X.mg W (eFmt A)) := by
  refine peImp (pe_fmt ha) fun s H Q ⟨as, ρ, hh, f, x, o⟩ => ?_
  refine ⟨as, ρ, hh, f, x, (Out.bind o).imp fun V H1 ⟨as1, h1, p1, S1, x1, r1, o1⟩ => ?_⟩
  cases r1 with
  | str y =>
    simp only at o1
    split at o1
    · rename_i hl; exact .inl ⟨y, rfl, by rw [sizeLine_eq]; exact hl, o1.here x1 (.str _)⟩
    · exact o1.elim
  | int i =>
    simp only at o1
    split at o1
    · rename_i hl; exact .inr ⟨i, rfl, hl, o1.here x1 (.str _)⟩
    · exact o1.elim
  | non => exact o1.elim
  | bl => exact o1.elim
  | tup => exact o1.elim
  | fls => exact o1.elim
  | obj => exact o1.elim
  | glo => exact o1.elim
  | ty => exact o1.elim
  | key => exact o1.elim
theorem js_of : ∀ (L : List EX) (acc : Str) {s : L2.St} {H : Hp} {as : List Addr} {r : Fm} {h : IH} {Q : VK}, RF X.K X.mg H as r s → RH X.K X.mg H as h → Out X.K X.mg (fun H as p v => RP X.K X.mg H as p v) W s as H Q (eJs L acc r h) →
    tJs (L.map fun A => IE X.K X.mg W A) acc s H fun out H1 => Q (.str out) H1
  | [], acc, s, H, as, r, h, Q, f, x, o => o.here x (.str _)
  | A :: L, acc, s, H, as, r, h, Q, f, x, o => by
    refine ⟨as, r, h, f, x, (Out.bind o).imp fun V H1 ⟨as1, h1, p1, S1, x1, r1, o1⟩ => ?_⟩
    cases r1 with
    | str y =>
      simp only at o1
      split at o1
      · rename_i hl; exact ⟨y, rfl, by rw [sizeLine_eq]; exact hl, js_of L (acc ++ y) (f.mono S1) x1 o1⟩
      · exact o1.elim
    | int i => exact o1.elim
    | non => exact o1.elim
    | bl => exact o1.elim
    | tup => exact o1.elim
    | fls => exact o1.elim
    | obj => exact o1.elim
    | glo => exact o1.elim
    | ty => exact o1.elim
    | key => exact o1.elim
theorem ie_joined (L : List EX) {v1 v2 : Expr} {rest : List Expr} (h : PJ X (v1 :: v2 :: rest) (L.map fun A => IE X.K X.mg W A)) : PE X (.JoinedStr (v1 :: v2 :: rest) pos) (IE X.K X.mg W (eJoined L)) :=
  peImp (pe_joined h) fun s H Q ⟨as, ρ, hh, f, x, o⟩ => js_of L Str.empty f x o
theorem ie_split (ho : PE X o (IE X.K X.mg W A)) (he : PE X e (IE X.K X.mg W B)) (hs : starEach [e] X.env = [(false, eval e X.env)] := by rfl) (hbase : attributeBase o "split" X.env (eval o X.env) = eval o X.env := by rfl) (hline : (apos.endLine == pos.line) = true := by rfl) :
    PE X (.Call (.Attribute o "split" apos) [e] [] pos) (IE X.K X.mg W (eSplit A B)) := by
  refine peImp (pe_split ho he hs hbase hline) fun s H Q ⟨as, ρ, hh, f, x, o⟩ => ?_
  refine ⟨as, ρ, hh, f, x, (Out.bind o).imp fun V H1 ⟨as1, h1, p1, S1, x1, r1, o1⟩ => ?_⟩
  split at o1
  · rename_i aa
    cases r1
    refine ⟨⟨_, rfl⟩, as1, ρ, h1, f.mono S1, x1, (Out.bind o1).imp fun V2 H2 ⟨as2, h2, p2, S2, x2, r2, o2⟩ => ?_⟩
    split at o2
    · rename_i bb
      cases r2
      split at o2
      · rename_i hl
        refine ⟨_, _, rfl, rfl, hl.1, by rw [sizeLine_eq]; exact hl.2, fun q nq => ?_⟩
        have S := Stp.new (o := .lst ((Txt.split aa bb).map V.str)) x2 nq
        refine o2 _ _ _ S (x2.new nq ⟨_, upd_same, ?_⟩) (.obj ?_)
        · exact strs_rp _
        · rw [List.getElem?_append_right (by rw [x2.len]; exact Nat.le_refl _), x2.len, Nat.sub_self]; rfl
      · exact o2.elim
    · exact o2.elim
  · exact o1.elim
theorem ie_rstrip (ho : PE X o (IE X.K X.mg W A)) (hbase : attributeBase o "rstrip" X.env (eval o X.env) = eval o X.env := by rfl) (hline : (apos.endLine == pos.line) = true := by rfl) : PE X (.Call (.Attribute o "rstrip" apos) [] [] pos) (IE X.K X.mg W (eRstrip A)) := by
  refine peImp (pe_m0 F.slot_str_rstrip F.type_str_rstrip mt_rstrip ho hbase hline) fun s H Q ⟨as, ρ, hh, f, x, o⟩ => ?_
  refine ⟨as, ρ, hh, f, x, (Out.bind o).imp fun V H1 ⟨as1, h1, p1, S1, x1, r1, o1⟩ => ?_⟩
  split at o1
  · rename_i aa
    cases r1
    split at o1
    · rename_i hl
      exact ⟨⟨_, rfl⟩, aa, rfl, rfl, by rw [sizeLine_eq]; exact hl, o1.here x1 (.str _)⟩
    · exact o1.elim
  · exact o1.elim
theorem strsOf_eq : ∀ {ys : List PV} {zs : List Str}, strsOf ys = some zs → ys = zs.map PV.str
  | [], zs, e => by cases e; rfl
  | .str x :: r, zs, e => by
    simp only [strsOf] at e
    cases q : strsOf r with
    | none => rw [q] at e; cases e
    | some ws => rw [q] at e; cases e; rw [strsOf_eq q]; rfl
  | .non :: r, _, e => by cases e
  | .bl _ :: r, _, e => by cases e
  | .int _ :: r, _, e => by cases e
  | .tup _ :: r, _, e => by cases e
  | .fls _ :: r, _, e => by cases e
  | .obj _ :: r, _, e => by cases e
  | .glo _ :: r, _, e => by cases e
  | .ty _ :: r, _, e => by cases e
  | .key _ :: r, _, e => by cases e
theorem strs_vals {K : PySem.W.Frag} {mg : Str → Option Value} {H : Hp} {as : List Addr} : ∀ {zs : List Str} {vs : List V}, RPs K mg H as (zs.map PV.str) vs → vs = zs.map V.str
  | [], _, .nil => rfl
  | z :: zs, _, .cons a b => by
    cases a
    rw [strs_vals b]; rfl
theorem ie_join (ho : PE X o (IE X.K X.mg W A)) (he : PE X e (IE X.K X.mg W B)) (hs : starEach [e] X.env = [(false, eval e X.env)] := by rfl) (hbase : attributeBase o "join" X.env (eval o X.env) = eval o X.env := by rfl) (hline : (apos.endLine == pos.line) = true := by rfl) :
    PE X (.Call (.Attribute o "join" apos) [e] [] pos) (IE X.K X.mg W (eJoin A B)) := by
  refine peImp (pe_join ho he hs hbase hline) fun s H Q ⟨as, ρ, hh, f, x, o⟩ => ?_
  refine ⟨as, ρ, hh, f, x, (Out.bind o).imp fun V H1 ⟨as1, h1, p1, S1, x1, r1, o1⟩ => ?_⟩
  split at o1
  · rename_i aa
    cases r1
    refine ⟨⟨_, rfl⟩, as1, ρ, h1, f.mono S1, x1, (Out.bind o1).imp fun V2 H2 ⟨as2, h2, p2, S2, x2, r2, o2⟩ => ?_⟩
    split at o2
    · rename_i ys hy
      obtain ⟨q, vs, rfl, h3, r3⟩ := seqOf_at x2 r2 hy
      split at o2
      · rename_i zs hz
        split at o2
        · rename_i hl
          rw [strsOf_eq hz] at r3
          have ev := strs_vals r3
          subst ev
          refine ⟨aa, q, zs, rfl, rfl, SqK.or h3, hl, o2.here x2 (.str _)⟩
        · exact o2.elim
      · exact o2.elim
    · exact o2.elim
  · exact o1.elim
theorem cps_one {x : Str} {c : Nat} (e : x.cps.toList = [c]) : x = ⟨#[c]⟩ := by
  obtain ⟨⟨l⟩⟩ := x
  simp only at e
  subst e
  rfl
theorem snd_inT {K : PySem.W.Frag} {mg : Str → Option Value} : Snd K mg pInT (fun x y H Q => ∃ (c : Nat) (z : Str), x = .str ⟨#[c]⟩ ∧ y = .str z ∧ Q (.bl (decide (c ∈ z.cps.toList))) H) := by
  intro W s as H h x y U V Q rh rx ry o
  unfold pInT at o
  split at o
  · cases rx
    cases ry
    split at o
    · rename_i c hc
      exact ⟨c, _, by rw [cps_one hc], rfl, o.here rh (.bl _)⟩
    · exact o.elim
  · exact o.elim
theorem snd_notInT {K : PySem.W.Frag} {mg : Str → Option Value} : Snd K mg pNotInT (fun x y H Q => ∃ (c : Nat) (z : Str), x = .str ⟨#[c]⟩ ∧ y = .str z ∧ Q (.bl (!decide (c ∈ z.cps.toList))) H) := by
  intro W s as H h x y U V Q rh rx ry o
  unfold pNotInT at o
  split at o
  · cases rx
    cases ry
    split at o
    · rename_i c hc
      exact ⟨c, _, by rw [cps_one hc], rfl, o.here rh (.bl _)⟩
    · exact o.elim
  · exact o.elim
theorem it_notInT (ha : PE X a (IE X.K X.mg W A)) (hb : PE X b (IE X.K X.mg W B)) (hm : behindInMarks .NotIn b = false := by rfl) : PT X (.Compare a [.NotIn] [b] pos) (IT X.K X.mg W (tBl (eOp pNotInT A B))) := it_cmp op_notIn_sign snd_notInT ha hb hm
theorem ri_str {K : PySem.W.Frag} {mg : Str → Option Value} {as : List Addr} {H : Hp} {x : Str} : RI K mg H as (itStr x) (Its x) := by
  intro i as' H' h' S rh
  unfold itStr
  cases q : x.cps.toList[i]? with
  | none =>
    have := List.getElem?_eq_none_iff.mp q
    show x.cps.size ≤ i
    simpa using this
  | some c =>
    have hl := (List.getElem?_eq_some_iff.mp q).1
    refine ⟨(show i < x.cps.size by simpa using hl), fun y H'' hy => ?_⟩
    obtain ⟨rfl, c', e1, rfl⟩ := hy
    have : c' = c := by
      rw [← Array.getElem?_toList, q] at e1
      exact (Option.some.inj e1).symm
    subst this
    exact ⟨Stp.refl _ _, rh, .str _⟩
theorem ii_chars (ha : PE X a (IE X.K X.mg W A)) : PI X tg a (II X.K X.mg W (eChars A)) := by
  refine piImp (pi_str ha) fun s H Q ⟨as, ρ, hh, f, x, o⟩ => ?_
  refine ⟨as, ρ, hh, f, x, (Out.bind o).imp fun V H1 ⟨as1, h1, p1, S1, x1, r1, o1⟩ => ?_⟩
  split at o1
  · cases r1
    exact ⟨_, rfl, o1.here x1 ri_str⟩
  · exact o1.elim
theorem ri_rev {K : PySem.W.Frag} {mg : Str → Option Value} {as : List Addr} {H : Hp} {c : Addr} {m n : Nat} (hm : as[m]? = some c) : RI K mg H as (itRev m n) (Itv K c n) := by
  intro i as' H' h' S x
  unfold itRev
  cases q : h'[m]? with
  | none => trivial
  | some ob =>
    cases ob with
    | lst xs =>
      obtain ⟨b, e1, ys, e2, rs⟩ := x.at_ _ _ q
      rw [S.get hm] at e1; cases e1
      simp only
      by_cases hn : xs.length = n
      · rw [if_pos hn]
        by_cases hi : i < n
        · rw [if_pos hi]
          cases qi : xs[n - 1 - i]? with
          | none => trivial
          | some p =>
            obtain ⟨v, e3, r3⟩ := rs.get qi
            simp only
            refine ⟨⟨hi, ys, v, SqL.of e2, e3⟩, fun y H'' hy => ?_⟩
            obtain ⟨rfl, z⟩ := hy
            have : y = v := Option.some.inj ((z _ (SqL.of e2)).symm.trans e3)
            subst this
            exact ⟨Stp.refl _ _, x, r3⟩
        · rw [if_neg hi]
          exact Nat.le_of_not_lt hi
      · rw [if_neg hn]; trivial
    | ins => trivial
    | dct => trivial
    | dks => trivial
    | tbl => trivial
theorem ii_rev {p : Pos} (hm : X.mg "reversed" = none) (ha : PA X [e] (IA X.K X.mg W L)) (hg : Gl X "reversed" := by rfl) (hs : starEach [e] X.env = [(false, eval e X.env)] := by rfl) : PI X tg (.Call (.Name "reversed" p) [e] [] pos) (II X.K X.mg W (eRev L)) := by
  refine piImp (pi_reversed hg hm ha hs) fun s H Q ⟨as, ρ, hh, f, x, o⟩ => ?_
  refine ⟨as, ρ, hh, f, x, (Out.bind o).imp fun Vs H1 ⟨as1, h1, p1, S1, x1, r1, o1⟩ => ?_⟩
  split at o1
  · obtain ⟨v, rfl, rv⟩ := r1.inv1
    cases rv with
    | obj hq =>
      split at o1
      · rename_i xs hx
        obtain ⟨b, e1, ys, e2, rs⟩ := x1.at_ _ _ hx
        rw [hq] at e1; cases e1
        refine ⟨_, ys, rfl, SqL.of e2, ?_⟩
        rw [← rs.length]
        exact o1.here x1 (ri_rev hq)
      · exact o1.elim
  · exact o1.elim
end
end WR

/-! raise C(a, b), C keeping them as its fields -/
namespace WR
open PySem PySem.Spec PyProof.Rows L2
def bOx (K : PySem.W.Frag) (C : Addr) : Bool := match K.lookup C with
  | some ⟨.type "type", _, .cls cd, sl⟩ => (match cd.mro with
    | .ref D :: bm => D == C && (!cd.hasDel && (cd.hasDict && (PySem.HandSPX.refsVE bm && (match sl.toList with
      | [_, _, _, _, some (.builtin n), _] => n == "ValueError.__new__"
      | _ => false))))
    | _ => false)
  | _ => false
theorem bOx_ok {K : PySem.W.Frag} {C : Addr} (e : bOx K C = true) : ∃ nm q N bs bm sn sub ab col dd k0 k1 k2 k3 k5, K.lookup C = some (excClassObj nm q C N bs bm true sn sub ab col dd k0 k1 k2 k3 k5 "ValueError.__new__") ∧ PySem.HandSPX.refsVE bm = true := by
  unfold bOx at e
  split at e
  · rename_i dd cd sl ho
    split at e
    · rename_i D bm hm
      obtain ⟨e1, e⟩ := He.ba e
      obtain ⟨e2, e⟩ := He.ba e
      obtain ⟨e3, e⟩ := He.ba e
      obtain ⟨e4, e⟩ := He.ba e
      split at e
      · rename_i k0 k1 k2 k3 n k5 hs
        have e1 : D = C := beq_iff_eq.mp e1
        have e5 : n = "ValueError.__new__" := beq_iff_eq.mp e
        subst e1 e5
        obtain ⟨nm, bs, mro, ns, qn, hd, sn, sub, ab, col, del⟩ := cd
        dsimp only at hm e2 e3
        have e2 : del = false := by simpa using e2
        subst hm e2 e3
        have hsl : sl = #[k0, k1, k2, k3, some (.builtin "ValueError.__new__"), k5] := by
          obtain ⟨l⟩ := sl
          simp only at hs
          rw [hs]
        subst hsl
        exact ⟨nm, qn, ns, bs, bm, sn, sub, ab, col, dd, k0, k1, k2, k3, k5, ho, e4⟩
      · cases e
    · cases e
  · cases e
/-- an own exception class with an own __init__ -/
structure ExI (K : PySem.W.Frag) (mg : Str → Option Value) (c : Str) (C fI : Addr) : Prop where
  gC : mg c = some (.ref C)
  ox : OexC K C
  iC : PySem.W.findIn K (.ref C) "__init__" = some (some (.ref fI))
  tI : PySem.W.typeIn K (.ref fI) = some (.type "function")
def bExn (c : Str) : FrB := fun K => bOx K (He.ga K c) && (He.eqO (PySem.W.findIn K (.ref (He.ga K c)) "__setattr__") (some (some (.builtin "object.__setattr__"))) && (decide (PySem.W.subIn K (.ref (He.ga K c)) (.type "BaseException") = some true) && (decide (PySem.W.typeIn K (.ref (He.ga K c)) = some (.type "type")) &&
  (PySem.W.keepIn K (.ref (He.ga K c)) && (He.eqO (PySem.W.findIn K (.ref (He.ga K c)) "__init__") (some (some (.ref (He.ma K (He.ga K c) "__init__")))) && decide (PySem.W.typeIn K (.ref (He.ma K (He.ga K c) "__init__")) = some (.type "function")))))))
theorem bExn_ok {K : PySem.W.Frag} {mg : Str → Option Value} {h : Heap} {c : Str} (X : K.In h) (G : h.Ns mainGlobals mg) (g : bGlo c K = true) (e : bExn c K = true) : ExI K mg c (He.ga K c) (He.ma K (He.ga K c) "__init__") := by
  obtain ⟨e1, e⟩ := He.ba e
  obtain ⟨e2, e⟩ := He.ba e
  obtain ⟨e3, e⟩ := He.ba e
  obtain ⟨e4, e⟩ := He.ba e
  obtain ⟨e5, e⟩ := He.ba e
  obtain ⟨e6, e7⟩ := He.ba e
  exact ⟨He.glo_ok X G g, ⟨bOx_ok e1, He.eqO_ok e2, of_decide_eq_true e3, of_decide_eq_true e4, e5⟩, He.eqO_ok e6, of_decide_eq_true e7⟩
/-- what such an __init__ promises: two fields, one field -/
def sp2 (C : Addr) (f g : Str) : Sp := fun vs H Q _ => ∃ a x y, vs = [.ref a, x, y] ∧ H a = some (exo a C none) ∧ ∀ d, H d = none → d ≠ a → Q .non (upd (upd (upd H d (exd d [(f, x)])) a (exo a C (some d))) d (exd d [(g, y), (f, x)]))
def sp1 (C : Addr) (f : Str) : Sp := fun vs H Q _ => ∃ a x, vs = [.ref a, x] ∧ H a = some (exo a C none) ∧ ∀ d, H d = none → d ≠ a → Q .non (upd (upd H d (exd d [(f, x)])) a (exo a C (some d)))
/-- .. in the place where it stands -/
structure GX (P : Program) (w : World) (K : PySem.W.Frag) (mg : Str → Option Value) (base : Heap) (f : Addr) (j : Nat) (n : Nat) (sp : Sp) : Prop where
  ex : ∃ fd ps, FnOk P w K mg base (L2.CX P w) j f fd ps sp ∧ Binds K fd ps [] ∧ ps.length = n
@[simp] def sRaiseN (c : Str) (fl : List Str) (L : AX) : SX := fun r h => toS (L r h) r fun vs h1 => if vs.length = fl.length then .ex ⟨c, (fl.zip vs).reverse⟩ r h1 else .bad
section
variable {X : Cx} {W : WX} {k j : Nat} {c : Str} {C fI : Addr} {p pos pos' : Pos} {e : Expr} {es : List Expr} {L : AX} {f g : Str}
theorem hp_end {H : Hp} {a d C : Addr} {o1 o2 o3 o4 o5 : HO} (na : H a = none) (da : d ≠ a) : upd (del (upd (upd (upd (upd H a o1) d o2) a o3) d o4) a) d o5 = upd H d o5 := by
  funext b
  by_cases h1 : b = d
  · subst h1; rw [upd_same, upd_same]
  · rw [upd_ne h1, upd_ne h1]
    by_cases h2 : b = a
    · subst h2; rw [del_same, na]
    · rw [del_ne h2, upd_ne h1, upd_ne h2, upd_ne h1, upd_ne h2]
theorem hp_end1 {H : Hp} {a d C : Addr} {o1 o2 o3 o5 : HO} (na : H a = none) (da : d ≠ a) : upd (del (upd (upd (upd H a o1) d o2) a o3) a) d o5 = upd H d o5 := by
  funext b
  by_cases h1 : b = d
  · subst h1; rw [upd_same, upd_same]
  · rw [upd_ne h1, upd_ne h1]
    by_cases h2 : b = a
    · subst h2; rw [del_same, na]
    · rw [del_ne h2, upd_ne h2, upd_ne h1, upd_ne h2]
theorem rx_of {K : PySem.W.Frag} {mg : Str → Option Value} {H1 : Hp} {as1 : List Addr} {h1 : IH} {d : Addr} {fs : List (Str × PV)} {gs : List (Str × V)} (gC : mg c = some (.ref C)) (x1 : RH K mg H1 as1 h1) (nd : H1 d = none) (ne : fs ≠ []) (e1 : gs.map (·.1) = fs.map (·.1)) (e2 : RPs K mg H1 as1 (fs.map (·.2)) (gs.map (·.2))) :
    RX K mg (upd H1 d (.xd gs)) as1 ⟨c, fs⟩ (.ref C) (some d) :=
  ⟨C, gC, rfl, .inr ⟨d, gs, ne, rfl, upd_same, fun z => x1.mem z nd, e1, e2.mono (Stp.lay x1 nd)⟩⟩
theorem is_raise2 {a b : Expr} (cx : Ctx X W k) (E : ExI X.K X.mg c C fI) (G : GX X.prog X.w X.K X.mg X.base fI j 3 (sp2 C f g)) (ha : PA X [a, b] (IA X.K X.mg W L)) (hj : j + 1 ≤ k := by decide) (hg : Gl X c := by rfl) (hdb : (c == ("__debug__" : Str)) = false := by decide)
    (he : starEach [a, b] X.env = (false, eval a X.env) :: starEach [b] X.env := by rfl) (hpl : (backTo pos (starEach [b] X.env)).any (·.1) = false := by rfl) : PS X (.Raise (some (.Call (.Name c p) [a, b] [] pos)) none pos') (IS X.K X.mg W (sRaiseN c [f, g] L)) := by
  obtain ⟨fd, ps, G1, hb, hl⟩ := G.ex
  refine psImp (ps_raise cx.calm cx.tk (pmk_oex E.ox E.iC E.tI G1 (cx.room.mono hj) hb .nil passL hg E.gC ha hdb he hpl)) fun D s H ⟨as, r, h, fr, x, o⟩ => ?_
  refine ⟨as, r, h, fr, x, (outS_of fr o).imp fun Vs H1 ⟨as1, h1, vs, S1, x1, r1, o1⟩ => ?_⟩
  split at o1
  · rename_i hv
    match vs, hv, r1, o1 with
    | [u, v], _, r1, o1 =>
      obtain ⟨U, V, rfl, ru, rv⟩ := r1.inv2
      refine ⟨by show 2 ≤ 1000; omega, fun a na => ⟨a, U, V, rfl, upd_same, fun d nd da => ⟨rfl, d, [(g, V), (f, U)], ?_, upd_same, ?_, ?_⟩⟩⟩
      · rw [upd_ne (Ne.symm da), upd_same]
      · rw [upd_ne da] at nd; exact nd
      · rw [upd_ne da] at nd
        rw [hp_end (C := C) na da]
        exact o1 (.ref C) (some d) s _ as1 (Stp.lay x1 nd) (x1.lay nd) ((fr.mono S1).mono (Stp.lay x1 nd)) (rx_of E.gC x1 nd (by simp) rfl (.cons rv (.one ru)))
  · exact o1.elim
theorem is_raise1 {a : Expr} (cx : Ctx X W k) (E : ExI X.K X.mg c C fI) (G : GX X.prog X.w X.K X.mg X.base fI j 2 (sp1 C f)) (ha : PA X [a] (IA X.K X.mg W L)) (hj : j + 1 ≤ k := by decide) (hg : Gl X c := by rfl) (hdb : (c == ("__debug__" : Str)) = false := by decide)
    (he : starEach [a] X.env = (false, eval a X.env) :: starEach [] X.env := by rfl) (hpl : (backTo pos (starEach [] X.env)).any (·.1) = false := by rfl) : PS X (.Raise (some (.Call (.Name c p) [a] [] pos)) none pos') (IS X.K X.mg W (sRaiseN c [f] L)) := by
  obtain ⟨fd, ps, G1, hb, hl⟩ := G.ex
  refine psImp (ps_raise cx.calm cx.tk (pmk_oex E.ox E.iC E.tI G1 (cx.room.mono hj) hb .nil passL hg E.gC ha hdb he hpl)) fun D s H ⟨as, r, h, fr, x, o⟩ => ?_
  refine ⟨as, r, h, fr, x, (outS_of fr o).imp fun Vs H1 ⟨as1, h1, vs, S1, x1, r1, o1⟩ => ?_⟩
  split at o1
  · rename_i hv
    match vs, hv, r1, o1 with
    | [u], _, r1, o1 =>
      obtain ⟨U, rfl, ru⟩ := r1.inv1
      refine ⟨by show 1 ≤ 1000; omega, fun a na => ⟨a, U, rfl, upd_same, fun d nd da => ⟨rfl, d, [(f, U)], upd_same, ?_, ?_, ?_⟩⟩⟩
      · rw [upd_ne da, upd_same]
      · rw [upd_ne da] at nd; exact nd
      · rw [upd_ne da] at nd
        rw [hp_end1 (C := C) na da]
        exact o1 (.ref C) (some d) s _ as1 (Stp.lay x1 nd) (x1.lay nd) ((fr.mono S1).mono (Stp.lay x1 nd)) (rx_of E.gC x1 nd (by simp) rfl (.one ru))
  · exact o1.elim
end
/-! ### the __init__s -/
section
variable {P : Program} {w : World} {K : PySem.W.Frag} {mg : Str → Option Value} {base : Heap} {qual : Str} {st : Stmt} {f C : Addr} {fd : FuncData} {x y g1 g2 : Str} {p1 p2 p3 p4 p5 p6 p7 p8 : Pos}
theorem gx_2 (F : Fun K "__init__" qual st f fd) (S : FnScope ["self", x, y] ["self", x, y] (defScope st)) (hb : ∀ (kV doc pm : Value) (an : Option Addr) (cdv ct : Value) (us : List Value), us.length = 3 → bindArgs (PySem.W.fnOf "__init__" qual (defArgs st) (defBody st) (defScope st) .none kV doc pm an cdv ct) ⟨us, []⟩ = pure ((["self", x, y] : List Str).zip us)) (ox : OexC K C) (n1 : PySem.W.findIn K (.ref C) g1 = some none) (n2 : PySem.W.findIn K (.ref C) g2 = some none)
    (body : ∀ (cdv : Value) (A : Around) (outer : List Env) (s : Shared) (H : Hp) (E : XK), PSs (cxOf (L2.CX P w) P w K mg base ["self", x, y] qual (defScope st) f cdv A outer s H E) (defBody st) (tSeq (tOst K g1 (tVar 0) (tVar 1)) (tOst K g2 (tVar 0) (tVar 2)))) :
    GX P w K mg base f 1 3 (sp2 C g1 g2) := by
  refine ⟨fd, ["self", x, y], F.okX S (fun vs H Q E h => ?_) (fun cdv A outer s H vs Q E hr h => ?_), F.binds hb, rfl⟩
  · obtain ⟨a, u, v, rfl, _⟩ := h; rfl
  · obtain ⟨a, u, v, rfl, ea, h⟩ := h
    refine ⟨_, body cdv A outer s H E, ?_⟩
    refine ⟨u, rfl, .ref a, rfl, a, C, rfl, ox, n1, .inl ⟨ea, fun d nd da => ?_⟩⟩
    refine ⟨v, rfl, .ref a, rfl, a, C, rfl, ox, n2, .inr ⟨d, [(g1, u)], upd_same, ?_, by show 1 ≤ 900; omega, h d nd da⟩⟩
    rw [upd_ne da, upd_same]
theorem gx_1 (F : Fun K "__init__" qual st f fd) (S : FnScope ["self", x] ["self", x] (defScope st)) (hb : ∀ (kV doc pm : Value) (an : Option Addr) (cdv ct : Value) (us : List Value), us.length = 2 → bindArgs (PySem.W.fnOf "__init__" qual (defArgs st) (defBody st) (defScope st) .none kV doc pm an cdv ct) ⟨us, []⟩ = pure ((["self", x] : List Str).zip us)) (ox : OexC K C) (n1 : PySem.W.findIn K (.ref C) g1 = some none)
    (body : ∀ (cdv : Value) (A : Around) (outer : List Env) (s : Shared) (H : Hp) (E : XK), PSs (cxOf (L2.CX P w) P w K mg base ["self", x] qual (defScope st) f cdv A outer s H E) (defBody st) (tOst K g1 (tVar 0) (tVar 1))) :
    GX P w K mg base f 1 2 (sp1 C g1) := by
  refine ⟨fd, ["self", x], F.okX S (fun vs H Q E h => ?_) (fun cdv A outer s H vs Q E hr h => ?_), F.binds hb, rfl⟩
  · obtain ⟨a, u, rfl, _⟩ := h; rfl
  · obtain ⟨a, u, rfl, ea, h⟩ := h
    refine ⟨_, body cdv A outer s H E, ?_⟩
    exact ⟨u, rfl, .ref a, rfl, a, C, rfl, ox, n1, .inl ⟨ea, fun d nd da => h d nd da⟩⟩
end
end WR

/-! a, b, .. = a list -/
namespace WR
open PySem PySem.Spec PyProof.Rows L2
@[simp] def sAsgU (is : List Nat) (A : EX) : SX := fun r h => toS (A r h) r fun v h1 => match v with
  | .obj n => (match h1[n]? with
    | some (.lst vs) => (match setAll is vs r with
      | some r1 => .nx r1 h1
      | none => .bad)
    | _ => .bad)
  | _ => .bad
theorem setAll_len : ∀ (is : List Nat) (ps : List PV) (r : Fm) (r1 : Fm), setAll is ps r = some r1 → ps.length = is.length
  | [], [], _, _, _ => rfl
  | [], _ :: _, _, _, e => by cases e
  | _ :: _, [], _, _, e => by cases e
  | i :: is, p :: ps, r, r1, e => by rw [List.length_cons, List.length_cons, setAll_len is ps _ _ e]
section
variable {X : Cx} {W : WX} {k : Nat} {pos tpos : Pos} {es : List Expr} {e : Expr} {A : EX}
theorem is_asgU {is : List Nat} {kk : Nat} (cx : Ctx X W k) (he : PE X e (IE X.K X.mg W A)) (h : PGs X es (GIs X.K X.mg is)) (hl : is.length = es.length := by rfl) (hn : (assignEach es X.env).length = es.length := by rfl) (hst : (assignEach es X.env).findIdx? (·.1) = none := by rfl)
    (hs : swapsWithSole [.Tuple es kk tpos] e pos.line X.env = pure false := by rfl) (hw : swappedStores [.Tuple es kk tpos] e X.env = pure none := by rfl)
    (h1 : (assignEach [.Tuple es kk tpos] X.env).map (·.2) = [assign (.Tuple es kk tpos) X.env] := by rfl) : PS X (.Assign [.Tuple es kk tpos] e pos) (IS X.K X.mg W (sAsgU is A)) := by
  refine psImp (ps_asg he (pg_unl cx.calm h hn hst) hs hw h1) fun D s H ⟨as, r, h, f, x, o⟩ => ?_
  refine ⟨as, r, h, f, x, (outS_of f o).imp fun V H1 ⟨as1, h1, p, S1, x1, r1, o1⟩ => ?_⟩
  cases p with
  | obj n =>
    cases qn : h1[n]? with
    | none => simp only [qn] at o1; exact o1.elim
    | some ob =>
      cases ob with
      | lst vs =>
        cases qg : setAll is vs r with
        | none => simp only [qn, qg] at o1; exact o1.elim
        | some r2 =>
          simp only [qn, qg] at o1
          obtain ⟨a, ys, e1, e2, rs⟩ := seqOf_at x1 r1 (xs := vs) (by simp only [seqOf, qn])
          refine ⟨a, ys, e1, e2, ?_, as1, r, vs, r2, f.mono S1, rs, qg, fun s1 f1 => o1 s1 H1 as1 (Stp.refl _ _) x1 f1⟩
          rw [← rs.length, ← hl]
          exact setAll_len _ _ _ _ qg
      | ins => simp only [qn] at o1; exact o1.elim
      | dct => simp only [qn] at o1; exact o1.elim
      | dks => simp only [qn] at o1; exact o1.elim
      | tbl => simp only [qn] at o1; exact o1.elim
  | non => exact o1.elim
  | bl => exact o1.elim
  | int => exact o1.elim
  | str => exact o1.elim
  | tup => exact o1.elim
  | fls => exact o1.elim
  | glo => exact o1.elim
  | ty => exact o1.elim
  | key => exact o1.elim
end
/-! a list times an int -/
@[simp] def pMulL : PV → PV → IH → Res PV
  | .obj m, .int k, h => (match h[m]? with
    | some (.lst xs) => if 0 ≤ k ∧ k ≤ 1000 ∧ xs.length ≤ 1000 then .ok (.obj h.length) (h ++ [.lst (List.replicate k.toNat xs).flatten]) else .bad
    | _ => .bad)
  | _, _, _ => .bad
theorem RPs.rep {K : PySem.W.Frag} {mg : Str → Option Value} {as : List Addr} {H : Hp} {xs : List PV} {us : List V} (r : RPs K mg H as xs us) : ∀ n : Nat, RPs K mg H as (List.replicate n xs).flatten (List.replicate n us).flatten
  | 0 => .nil
  | n + 1 => by
    rw [List.replicate_succ, List.replicate_succ, List.flatten_cons, List.flatten_cons]
    exact r.append (RPs.rep r n)
theorem snd_mulL {K : PySem.W.Frag} {mg : Str → Option Value} : Snd K mg pMulL rRep := by
  intro W s as H h x y U V Q rh rx ry o
  unfold pMulL at o
  split at o
  · rename_i m k
    cases rx with
    | obj ha =>
      cases ry
      split at o
      · rename_i xs hx
        split at o
        · rename_i hk
          obtain ⟨a1, e1, us, g1, r1⟩ := rh.at_ _ _ hx
          rw [ha] at e1; cases e1
          have hm : us.length * k.toNat ≤ 1000 * 1000 := Nat.mul_le_mul (by rw [← r1.length]; exact hk.2.2) (by omega)
          refine ⟨_, _, us, rfl, rfl, g1, by omega, by omega, by rw [sizeLine_eq]; omega, fun p np => ?_⟩
          have S := Stp.new (o := .lst (List.replicate k.toNat us).flatten) rh np
          refine o _ _ _ S (rh.new np ⟨_, upd_same, (r1.rep k.toNat).mono S⟩) (.obj ?_)
          rw [List.getElem?_append_right (by rw [rh.len]; exact Nat.le_refl _), rh.len, Nat.sub_self]
          rfl
        · exact o.elim
      · exact o.elim
  · exact o.elim
theorem ie_mulL {X : Cx} {W : WX} {a b : Expr} {pos : Pos} {A B : EX} (ha : PE X a (IE X.K X.mg W A)) (hb : PE X b (IE X.K X.mg W B)) : PE X (.BinOp a .Mult b pos) (IE X.K X.mg W (eOp pMulL A B)) := ie_op op_rep snd_mulL ha hb
end WR

/-! sorted(xs, key=lambda d: (sum(d), d)), xs a list of tuples of ints; xs[::-1]; tuple(xs) as a key -/
namespace WR
open PySem PySem.Spec PyProof.Rows L2
/-! ### the lambda is made -/
section
variable {X : Cx} {pins : List (Addr × Obj)} {σ : L2.St} {H : Hp} {s : Shared}
structure LamB (X : Cx) (y : Str) (params : Arguments) (body : Expr) (scope : Scope) : Prop where
  kind : scope.kind = .function
  co : scope.isCoroutine = false
  gen : scope.isGenerator = false
  own : scope.names.lookup y = some .local
  blt : scope.names.lookup ("sum" : Str) = some .globalImplicit
  non : ∀ z ∈ scope.names, z.2 ≠ .free ∧ z.2 ≠ .cell
  dft : defaultsOf params X.env = ([], [])
  bnd : ∀ (q : Str) (cl : List (Str × Addr)) (pm cv ctv u : Value), bindArgs (PySem.W.kla_fn "<lambda>" q params body scope cl pm cv ctv) ⟨[u], []⟩ = pure [(y, u)]
/-- what the making leaves of the abstract heap -/
def MadeH (H : Hp) (P : Addr) (ps : Array Value) (q : Str) (c : Addr) (H1 : Hp) : Prop := H1 = H ∨ ∃ more : Array Value, H c = none ∧ c ≠ P ∧ H1 = upd (upd H P (.tbl (ps ++ more))) c (LamX.CodeO c q) ∧ TriplesOk (ps ++ more).toList ∧ ∀ (pos : Pos) (cv : Value), codeAmong pos (ps ++ more).toList = some cv → codeAmong pos ps.toList = some cv ∨ cv = .ref c
theorem lam_mk {P c : Addr} {y q : Str} {params : Arguments} {body : Expr} {scope : Scope} {pos : Pos} {ps : Array Value} {E Q : Value → Shared → Prop} (I : Inv X pins σ H s) (B : LamX.TabB X.base X.mg c P) (L : LamB X y params body scope) (hc : X.env.code = .ref c) (hq : X.env.qual ++ "<lambda>" = q)
    (hP : H P = some (.tbl ps)) (ht : TriplesOk ps.toList) (hk : ∀ (pos : Pos) (cv : Value), codeAmong pos ps.toList = some cv → ∃ c, cv = .ref c ∧ H c = some (LamX.CodeO c q))
    (h : ∀ (f d : Addr) (pm ctv : Value) (H1 : Hp) (s1 : Shared), Inv X pins σ H1 s1 → MadeH H P ps q d H1 → H1 d = some (LamX.CodeO d q) → s1.heap.get? f = some (PySem.W.kla_obj "<lambda>" q params body scope (cloFrom X.env.cells scope.names []) pm d ctv) → Q (.ref f) s1) :
    wpAny (model X.prog X.w) X.A (eval (.Lambda params body scope pos) X.env) Q E s := by
  have cl := closure_ok (scope := scope) (env := X.env) fun z hz e => absurd e (L.non z hz).1
  have b1 := B.bm.keeps I.bk
  have b2 : s.heap.get? P = some { cls := .none, data := .fields ps } := I.hok P _ hP
  have b3 := I.mod.glob.keeps I.bk
  have b4 := B.code.keeps I.bk
  refine PySem.W.kla_eval L.dft ?_
  rw [hq]
  cases z : codeAmong pos ps.toList with
  | some cv =>
    obtain ⟨d, rfl, hd⟩ := hk pos cv z
    refine PySem.W.kla_makeFunctionHit (mg := X.mg) (P := P) cl I.ok.glob b3 hc b4 b2 ht z b1 fun ctv h1 tk k1 _ => ?_
    refine h _ d _ ctv H _ (I.kept (t' := tk) fun b o e => Heap.get?_push_of_some _ (k1 b o e)) (.inl rfl) hd (Heap.get?_push_size _ rfl)
  | none =>
    refine PySem.W.kla_makeFunction (mg := X.mg) (P := P) cl I.ok.glob b3 hc b4 b2 ht z B.gP b1 fun d ctv h1 tk k1 k2 k3 k4 k5 => ?_
    obtain ⟨d', oc, vs, t, e, g1, g2, g3⟩ := k4
    cases e
    have nd : H d = none := I.hok.fresh k2
    have eL : (ps ++ #[rawInt pos.line, rawInt pos.col, .ref d]).toList = ps.toList ++ [rawInt pos.line, rawInt pos.col, .ref d] := by simp
    refine h _ d _ ctv _ _ (LamX.inv_table (t' := tk) I hP (more := #[rawInt pos.line, rawInt pos.col, .ref d]) (fun b o n e => Heap.get?_push_of_some _ (k1 b o n e)) (Heap.get?_push_of_some _ k5) k2 ⟨oc, vs, t, Heap.get?_push_of_some _ g1, g2, g3⟩) (.inr ⟨_, nd, (ne_of_none hP nd).symm, rfl, ?_, fun pos cv w => ?_⟩) upd_same (Heap.get?_push_size _ rfl)
    · rw [eL]; exact PySem.TriplesOk_snoc _ _ _ _ ht
    · rw [eL] at w
      exact LamX.among_app _ ht w
end
/-! ### the key -/
def keyD (ks : List Int) : PyData := .tuple [.int ks.sum, .tuple (ks.map .int)]
theorem reads_ints {h : Heap} : ∀ {us : List Value} {ns : List Int}, IntsAre us ns → ReadsAll h us (ns.map PyData.int) []
  | [], [], _ => .nil
  | [], _ :: _, x => by cases x
  | _ :: _, [], x => by cases x
  | u :: us, n :: ns, x => by
    cases x with
    | cons _ t b => exact .cons (.int _ _) (reads_ints b)
section
variable {prog : Program} {w : World} {A : Around} {E : Value → Shared → Prop} {s : Shared}
theorem sum_tup {a : Addr} {its : List Value} {ns : List Int} {Q : Value → Shared → Prop} (hh : A.handled = none) (hl : IsTup s.heap a its.toArray) (hi : IntsAre its ns)
    (h : ∀ h1 tk t1, (∀ b o, s.heap.get? b = some o → h1.get? b = some o) → Q (.int ns.sum t1) { s with heap := h1, toks := tk }) : wpAny (model prog w) A (call (.builtin "sum") [.ref a]) Q E s := by
  obtain ⟨xs, e⟩ := hi.allInts.items
  have hn : numsOf (intItems xs).toList = ns := by rw [← e]; exact hi.numsOf
  rw [nums_intItems] at hn
  rw [e] at hl
  refine PySem.W.ktm_sumG hh hl fun h1 tk t1 hk => ?_
  have := h h1 tk t1 hk
  rw [preSum_eq, List.take_of_length_le (by simp), hn]
  exact this
/-- the lambda called -/
theorem lam_run {f d a : Addr} {y q : Str} {params : Arguments} {scope : Scope} {cl : List (Str × Addr)} {pm ctv : Value} {mg mb : Str → Option Value} {its : List Value} {ks : List Int} {p1 p2 p3 p4 p5 : Pos} {x1}
    (hh : A.handled = none) (hr : A.depth < recursionLimit) (hf : s.heap.get? f = some (PySem.W.kla_obj "<lambda>" q params (.Tuple [.Call (.Name "sum" p1) [.Name y p2] [] p3, .Name y p4] x1 p5) scope cl pm d ctv))
    (hcd : s.heap.CodeRec (.ref d) q) (lim : s.heap.NoLimit) (hg : s.heap.Ns mainGlobals mg) (hb : s.heap.Ns builtinsNs mb) (hs : mg "sum" = none) (hv : mb "sum" = some (.builtin "sum"))
    (k1 : scope.kind = .function) (k2 : scope.isCoroutine = false) (k3 : scope.isGenerator = false) (k4 : scope.names.lookup y = some .local) (k5 : scope.names.lookup ("sum" : Str) = some .globalImplicit) (k6 : ∀ z ∈ scope.names, z.2 ≠ .cell)
    (hbd : ∀ u : Value, bindArgs (PySem.W.kla_fn "<lambda>" q params (.Tuple [.Call (.Name "sum" p1) [.Name y p2] [] p3, .Name y p4] x1 p5) scope cl pm (.ref d) ctv) ⟨[u], []⟩ = pure [(y, u)]) (hy : (y == ("__debug__" : Str)) = false)
    (ht : IsTup s.heap a its.toArray) (hi : IntsAre its ks) : wpAny (model prog w) A (call (.ref f) [.ref a]) (PySem.W.KeyPure (keyD ks) s) (fun _ _ => False) s := by
  refine wpAny_call (PySem.W.kla_callFunE hr hf rfl k2 k3 rfl hcd ?_)
  rw [hbd]
  refine wpAny_pure (wpAny_newFunctionEnv k6 (fun z hz => by rw [List.mem_singleton.mp hz]; exact k4) (fun h1 n1 sb => ⟨lim.fresh _ sb, ?_⟩) k1)
  have kp : ∀ b o, s.heap.get? b = some o → h1.get? b = some o := fun b o e => sb.extBut b o (Nat.ne_of_lt (Heap.lt_size e)) (Heap.get?_push_of_some _ e)
  have var : ∀ {h2 : Heap} {tk : Nat} {p : Pos} {Q E : Value → Shared → Prop} {A' : Around}, (∀ b o, h1.get? b = some o → h2.get? b = some o) → Q (.ref a) { s with heap := h2, toks := tk } → wpAny (model prog w) A' (eval (.Name y p) (newEnv scope s.heap.objs.size mainGlobals cl (q ++ ".<locals>.") (some f) (.ref d) none builtinsNs)) Q E { s with heap := h2, toks := tk } := fun {h2 tk p Q E A'} k q => by
    refine wpAny_Name (wpAny_loadName_local k1 k4 (n1.keeps k) ?_ q) hy
    simp [List.lookup]
  refine PySem.W.kla_codeExpr ?_
  refine wpAny_Tuple_spliced ?_
  refine Calls.spliced_cons ?_
  refine wpAny_Call_Name_kw ?_
  refine Calls.Name_function_global (env := newEnv scope s.heap.objs.size mainGlobals cl (q ++ ".<locals>.") (some f) (.ref d) none builtinsNs) k1 k5 (Calls.loadGlobal_builtin (mg := mg) (mb := mb) (hg.keeps kp) hs (hb.keeps kp) hv ?_) (by decide)
  refine PyProof.Rows.callWith_builtin1 (Calls.spliced_cons (var (fun _ _ e => e) (Calls.spliced_nil ?_))) rfl rfl
  refine sum_tup hh (ht.keeps kp) hi fun h2 tk t2 k2 => ?_
  refine Calls.spliced_cons (var k2 (Calls.spliced_nil ?_))
  refine ⟨by rw [sizeLine_eq]; simp, ?_⟩
  refine ⟨_, tk, rfl, fun b o e => Heap.get?_push_of_some _ (k2 _ _ (kp _ _ e)), ?_⟩
  obtain ⟨o, g1, g2, n, g3⟩ := ht
  refine .tuple (as := [] ++ ([] ++ [])) (Heap.get?_push_size _ rfl) rfl rfl (.cons (.int _ _) (.cons (.tuple (Heap.get?_push_of_some _ (k2 _ _ (kp _ _ g1))) g2 g3 (reads_ints hi)) .nil))
end
/-! ### the rules -/
def keyL : List PV → Option (List (List Int))
  | [] => some []
  | .key ks :: r => (keyL r).map (ks :: ·)
  | _ => none
def tabOk (x : Str) : IH → Bool
  | .tbl y :: _ => y == x
  | _ => false
def sortK (kss : List (List Int)) : List (List Int) := kss.mergeSort (PySem.W.dataLe false keyD)
@[simp] def eSortK (x : Str) (A : EX) : EX := fun r h => (A r h).bind fun v h1 => match v with
  | .obj n => (match h1[n]? with
    | some (.lst xs) => (match keyL xs with
      | some kss => if tabOk x h1 = true then .ok (.obj h1.length) (h1 ++ [.lst ((sortK kss).map .key)]) else .bad
      | none => .bad)
    | _ => .bad)
  | _ => .bad
@[simp] def eRevL (A : EX) : EX := fun r h => (A r h).bind fun v h1 => match v with
  | .obj n => (match h1[n]? with
    | some (.lst xs) => .ok (.obj h1.length) (h1 ++ [.lst xs.reverse])
    | _ => .bad)
  | _ => .bad
@[simp] def pTuple1K : List PV → IH → Res PV
  | [.obj n], h => (match h[n]? with
    | some (.lst xs) => (match keyOf xs with
      | some ks => .ok (.key ks) h
      | none => .bad)
    | _ => .bad)
  | _, _ => .bad
section
variable {K : PySem.W.Frag} {mg : Str → Option Value}
theorem snd_tuple1K : SndC K mg pTuple1K (fun xs H Q => ∃ p ys, xs = [.ref p] ∧ ((SqL K H p ys ∧ ∀ l, H l = none → Q (.ref l) (upd H l (.tup ys))) ∨ (SqT K H p ys ∧ Q (.ref p) H))) := by
  intro W s as H h xs Us Q rh rs o
  unfold pTuple1K at o
  split at o
  · split at o
    · rename_i xs hx
      split at o
      · rename_i ks hn
        obtain ⟨v, rfl, rv⟩ := rs.inv1
        cases rv with
        | obj ha =>
          obtain ⟨a, g1, ys, g2, r2⟩ := rh.at_ _ _ hx
          rw [ha] at g1; cases g1
          have e := keyOf_of r2 hn
          subst e
          exact ⟨_, _, rfl, .inl ⟨SqL.of g2, fun l nl => o _ _ _ (Stp.lay rh nl) (rh.lay nl) (.key upd_same)⟩⟩
      · exact o.elim
    · exact o.elim
  · exact o.elim
/-- a table is written, a code object is laid -/
theorem stp_made {as : List Addr} {H H1 : Hp} {h : IH} {x : Str} {n : Nat} {P d : Addr} {ps : Array Value} (rh : RH K mg H as h) (h0 : h[n]? = some (.tbl x)) (hp : as[n]? = some P) (e : H P = some (.tbl ps)) (m : MadeH H P ps (lamQ x) d H1) : Stp as H as H1 ∧ RH K mg H1 as h := by
  rcases m with rfl | ⟨more, nd, ne, rfl, t1, t2⟩
  · exact ⟨Stp.refl _ _, rh⟩
  · have nm : ∀ b u, H b = some u → b ≠ d := fun b u q => ne_of_none q nd
    have S : Stp as H as (upd (upd H P (.tbl (ps ++ more))) d (LamX.CodeO d (lamQ x))) := by
      refine ⟨⟨[], by simp, by simp⟩, fun b ys q => ?_, fun b o u q => ?_, fun b o q hb => ?_, fun b q => ?_⟩
      · rw [upd_ne (nm _ _ q), upd_ne (fun z => by rw [z, e] at q; cases q)]; exact q
      · rw [upd_ne (nm _ _ q), upd_ne (fun z => by rw [z, e] at q; cases q)]; exact q
      · rw [upd_ne (nm _ _ q), upd_ne (fun z => hb (by rw [z]; exact List.mem_of_getElem? hp))]; exact q
      · by_cases z : b = d
        · subst z; exact absurd nd q
        · rw [upd_ne z]
          by_cases z2 : b = P
          · subst z2; rw [upd_same]; simp
          · rw [upd_ne z2]; exact q
    refine ⟨S, rh.len, rh.nd, fun k o q => ?_⟩
    obtain ⟨a, g1, g2⟩ := rh.at_ k o q
    by_cases hk : a = P
    · subst hk
      have ek : k = n := by
        obtain ⟨l1, e1⟩ := List.getElem?_eq_some_iff.mp g1
        obtain ⟨l2, e2⟩ := List.getElem?_eq_some_iff.mp hp
        exact (List.getElem_inj rh.nd).mp (e1.trans e2.symm)
      subst ek
      rw [h0] at q
      cases q
      obtain ⟨ea, ps', e1, e2, e3⟩ := g2
      rw [e] at e1
      cases e1
      refine ⟨a, g1, ea, ps ++ more, by rw [upd_ne ne.symm, upd_same], t1, fun pos cv hc => ?_⟩
      rcases t2 pos cv hc with hc | hc
      · obtain ⟨c, r1, r2, r3⟩ := e3 pos cv hc
        exact ⟨c, r1, by rw [upd_ne (nm _ _ r2), upd_ne (fun z => by rw [z, e] at r2; unfold LamX.CodeO at r2; cases r2)]; exact r2, r3⟩
      · exact ⟨d, hc, upd_same, fun z => rh.mem z nd⟩
    · obtain ⟨u, hu⟩ := g2.isS
      exact ⟨a, g1, g2.mono S (by rw [upd_ne (nm _ _ hu), upd_ne hk])⟩
theorem tabOk_at {x : Str} {h : IH} (e : tabOk x h = true) : h[0]? = some (.tbl x) := by
  unfold tabOk at e
  split at e
  · rename_i y t
    have := eq_of_beq e
    subst this
    rfl
  · cases e
theorem keyL_of {as : List Addr} {H : Hp} : ∀ {ps : List PV} {vs : List V} {its : List Value} {kss : List (List Int)}, RPs K mg H as ps vs → Vals vs its → keyL ps = some kss → PySem.W.EachIs (fun v ks => ∃ a, v = Value.ref a ∧ H a = some (.tup (ks.map V.int))) its kss
  | [], _, _, _, .nil, .nil, e => by cases e; exact .nil
  | p :: ps, _, _, kss, .cons r t, .cons rv tv, e => by
    cases r with
    | key hk =>
      simp only [keyL, Option.map_eq_some_iff] at e
      obtain ⟨ks', e1, rfl⟩ := e
      cases rv
      exact .cons ⟨_, rfl, hk⟩ (keyL_of t tv e1)
    | _ => cases e
theorem keyL_back {H : Hp} : ∀ {out : List Value} {kss : List (List Int)}, PySem.W.EachIs (fun v ks => ∃ a, v = Value.ref a ∧ H a = some (.tup (ks.map V.int))) out kss → ∃ vs : List V, Vals vs out ∧ ∀ (as : List Addr) (H1 : Hp), (∀ b ys, H b = some (.tup ys) → H1 b = some (.tup ys)) → RPs K mg H1 as (kss.map .key) vs
  | _, _, .nil => ⟨[], .nil, fun _ _ _ => .nil⟩
  | _, _, .cons ⟨a, e, g⟩ t => by
    obtain ⟨vs, r1, r2⟩ := keyL_back t
    subst e
    exact ⟨.ref a :: vs, .cons rfl r1, fun as H1 S => .cons (.key (S _ _ g)) (r2 as H1 S)⟩
end
section
variable {X : Cx} {W : WX} {k : Nat} {e : Expr} {es : List Expr} {pos p : Pos} {A : EX} {L : AX}
theorem ie_tuple1K (hm : X.mg "tuple" = none) (ha : PA X (e :: es) (IA X.K X.mg W L)) (hg : Gl X "tuple" := by rfl) (he : starEach (e :: es) X.env = (false, eval e X.env) :: starEach es X.env := by rfl) (hpl : (backTo pos (starEach es X.env)).any (·.1) = false := by rfl) : PE X (.Call (.Name "tuple" p) (e :: es) [] pos) (IE X.K X.mg W (eB pTuple1K L)) :=
  ie_callT call_tuple_of snd_tuple1K hm (by decide +kernel) ha hg (by decide) (by decide) he hpl
theorem ie_revL {j : Nat} {p1 p2 p3 : Pos} (ha : PE X e (IE X.K X.mg W A)) : PE X (.Subscript e (.Slice none none (some (.UnaryOp .USub (.Constant (.int 1) j p1) p2)) p3) pos) (IE X.K X.mg W (eRevL A)) := by
  refine peImp (pe_revL ha) fun s H Q ⟨as, r, h, f, x, o⟩ => ?_
  refine ⟨as, r, h, f, x, (Out.bind o).imp fun V H1 ⟨as1, h1, p1, S1, x1, r1, o1⟩ => ?_⟩
  split at o1
  · split at o1
    · rename_i xs hx
      cases r1 with
      | obj ha =>
        obtain ⟨a, g1, ys, g2, r2⟩ := x1.at_ _ _ hx
        rw [ha] at g1; cases g1
        refine ⟨_, ys, rfl, SqL.of g2, fun l nl => ?_⟩
        have S := Stp.new (o := .lst ys.reverse) x1 nl
        refine o1 _ _ _ S (x1.new nl ⟨_, upd_same, r2.reverse.mono S⟩) (.obj ?_)
        rw [List.getElem?_append_right (by rw [x1.len]; exact Nat.le_refl _), x1.len, Nat.sub_self]
        rfl
    · exact o1.elim
  · exact o1.elim
theorem ie_sortK {x y : Str} {params : Arguments} {scope : Scope} {lpos kpos p1 p2 p3 p4 p5 : Pos} {x1} (cx : Ctx X W k) (B : LamX.TabB X.base X.mg (cdAt X.K x) (tbAt X.K x)) (hc : X.env.code = .ref (cdAt X.K x)) (hm : X.mg "sorted" = none) (hs : X.mg "sum" = none)
    (Lb : LamB X y params (.Tuple [.Call (.Name "sum" p1) [.Name y p2] [] p3, .Name y p4] x1 p5) scope) (ha : PE X e (IE X.K X.mg W A)) (hg : Gl X "sorted" := by rfl) (hq : X.env.qual ++ "<lambda>" = lamQ x := by rfl) (hy : (y == ("__debug__" : Str)) = false := by decide)
    (he : starEach [e] X.env = [(false, eval e X.env)] := by rfl) :
    PE X (.Call (.Name "sorted" p) [e] [⟨some "key", .Lambda params (.Tuple [.Call (.Name "sum" p1) [.Name y p2] [] p3, .Name y p4] x1 p5) scope lpos, kpos⟩] pos) (IE X.K X.mg W (eSortK x A)) := by
  refine ⟨fun pins s σ H Q I h => ?_⟩
  obtain ⟨as, r, h, f, rh, o⟩ := h
  have hb0 : bootBuiltins "sorted" = some (.builtin "sorted") := by decide +kernel
  refine wpAny_Call_Name_kw (ld_blt I hg hm hb0 ?_ (by decide) (by decide))
  refine PyProof.Rows.callWith_kw ?_ (by rw [he]; rfl) (by rw [he]; rfl) rfl rfl
  rw [he]
  show wpAny _ _ (spliced [(false, eval e X.env)]) _ _ s
  refine Calls.spliced_cons (thn (ha.run pins s σ H _ I ⟨as, r, h, f, rh, Out.bind o⟩) fun u s1 ⟨v, H1, I1, r1, as1, h1, p1, S1, rh1, rp, o1⟩ => ?_)
  refine Calls.spliced_nil ?_
  split at o1
  case h_2 => exact o1.elim
  split at o1
  case h_2 => exact o1.elim
  rename_i n _ _ xs hx
  split at o1
  case h_2 => exact o1.elim
  rename_i kss hkl
  by_cases tb : tabOk x h1 = true
  case neg => rw [if_neg tb] at o1; exact o1.elim
  rw [if_pos tb] at o1
  have h0 := tabOk_at tb
  obtain ⟨P, g1, ea, ps, g2, g3, g4⟩ := rh1.at_ _ _ h0
  cases rp with
  | @obj _ l hl =>
  cases r1
  obtain ⟨l', q1, ys, q2, q3⟩ := rh1.at_ _ _ hx
  rw [hl] at q1
  rw [← Option.some.inj q1] at q2
  show wpAny _ _ (evalAll [(do let v ← eval (.Lambda params (.Tuple [.Call (.Name "sum" _) [.Name y p2] [] p3, .Name y p4] x1 p5) scope lpos) X.env; standAt pos; pure v)]) _ _ s1
  refine wpAny_evalAll_cons (wpAny_bind (lam_mk (P := P) (c := cdAt X.K x) (q := lamQ x) I1 (by rw [ea]; exact B) Lb hc hq g2 g3 (fun pos cv z => by obtain ⟨c, z1, z2, _⟩ := g4 pos cv z; exact ⟨c, z1, z2⟩) fun fa d pm ctv H2 s2 I2 mH hd hf => wpAny_bind (wpAny_standAt (wpAny_pure (wpAny_evalAll_nil ?_)))))
  obtain ⟨S2, rh2⟩ := stp_made rh1 h0 g1 g2 mH
  have q2' : H2 l = some (.lst ys) := by
    rcases mH with rfl | ⟨more, nd, ne, rfl, _, _⟩
    · exact q2
    · rw [upd_ne (ne_of_none q2 nd), upd_ne (fun z => by rw [z, g2] at q2; cases q2)]; exact q2
  obtain ⟨its, rv, pl, hz⟩ := I2.list (SqL.of q2')
  have ei := keyL_of (q3.mono S2) rv hkl
  have uu := cx.room.un
  show wpAny _ _ (call (.builtin "sorted") [.ref l] [(Str.ofString "key", .ref fa)]) _ _ s2
  refine PySem.W.sorted_key_data (b := false) (R := fun v ks => ∃ a, v = Value.ref a ∧ H2 a = some (.tup (ks.map V.int))) keyD pl.isList ei (PySem.W.AllAlike.of fun a b => ?_) (PySem.W.Sortable.tuples fun a => ⟨_, _, rfl⟩) (by rw [← ei.length, ← rv.length]; exact hz) (fun ks _ => ?_) (PyProof.Rows.ksk_s1 _ _) (fun _ => PyProof.Rows.ksk_l1 _ _) (fun _ => PyProof.Rows.ksk_t1 _ _) (fun v ks hR _ h3 tk k3 => ?_) fun out c h4 tk k4 fr at4 ol eo => ?_
  · have al : ∀ xs ys : List Int, PySem.W.alikeAll (xs.map PyData.int) (ys.map PyData.int) = true := by
      intro xs
      induction xs with
      | nil => intro ys; rfl
      | cons x xs ih =>
        intro ys
        cases ys with
        | nil => rfl
        | cons y ys => simp [PySem.W.alikeAll, PySem.W.alike, ih]
    simp [keyD, PySem.W.alikeAll, PySem.W.alike, al]
  · have dp : ∀ xs : List Int, PyData.depthAll (xs.map PyData.int) = 0 := by
      intro xs
      induction xs with
      | nil => rfl
      | cons x xs ih => simp [PyData.depthAll, PyData.depth, ih]
    have hd : (keyD ks).depth ≤ 2 := by simp [keyD, PyData.depth, PyData.depthAll, dp]
    omega
  · obtain ⟨a, rfl, ga⟩ := hR
    have I3 : Inv X pins σ H2 { s2 with heap := h3, toks := tk } := I2.kept k3
    obtain ⟨_, us, rus, tus⟩ := I3.hok a _ ga
    obtain ⟨⟨oc, vs, t, hoc, hdc, hvc⟩, _, _⟩ := I3.hok d _ hd
    obtain ⟨mb, b1, b2⟩ := I3.mod.blt
    exact lam_run (s := { s2 with heap := h3, toks := tk }) (A := X.A.in1.in1) cx.room.hd (show X.A.depth < recursionLimit from cx.room.depth) (k3 _ _ hf) ⟨d, oc, vs, t, rfl, hoc, hdc, hvc⟩ I3.nolimit (I3.mod.glob.keeps I3.bk) (b1.keeps I3.bk) hs ((b2 "sum" (by decide)).trans (by decide +kernel)) Lb.kind Lb.co Lb.gen Lb.own Lb.blt (fun z hz => (Lb.non z hz).2) (fun u => Lb.bnd _ _ _ _ _ u) hy tus (rus.ints)
  · obtain ⟨vs, w1, w2⟩ := keyL_back (K := X.K) (mg := X.mg) eo
    have nl : H2 (s2.heap.objs.size + 1) = none := I2.hok.fresh (Nat.le_succ _)
    have lenv : vs.length ≤ sizeLine := by
      rw [w1.length, ol, ← ei.length, ← rv.length]; exact hz
    have S3 := Stp.new (o := .lst vs) rh2 nl
    have w3 := w2 (as1 ++ [s2.heap.objs.size + 1]) (upd H2 (s2.heap.objs.size + 1) (.lst vs)) fun b ys q => by rw [upd_ne (ne_of_none q nl)]; exact q
    refine ⟨.ref _, upd H2 (s2.heap.objs.size + 1) (.lst vs), I2.laid (t' := tk) k4 (Nat.le_succ _) ⟨lenv, out, c, w1, at4⟩, rfl, ?_⟩
    refine o1 _ _ _ (S2.trans S3) (rh2.new nl ⟨_, upd_same, w3⟩) (.obj ?_)
    rw [List.getElem?_append_right (by rw [rh2.len]; exact Nat.le_refl _), rh2.len, Nat.sub_self]
    rfl
end
end WR

/-! a law with a table of code objects: its Hook, its end -/
namespace WR
open PySem PySem.Spec PyProof.Rows L2
def isTab : Option Obj → Bool
  | some ⟨.none, none, .fields vs, sl⟩ => vs.toList.isEmpty && sl.toList.isEmpty
  | _ => false
theorem isTab_ok {o : Option Obj} (e : isTab o = true) : o = some { cls := .none, data := .fields #[] } := by
  unfold isTab at e
  split at e
  · rename_i vs sl
    obtain ⟨e1, e2⟩ := Bool.and_eq_true_iff.mp e
    have h1 : vs = #[] := by
      apply Array.toList_inj.mp
      cases z : vs.toList with
      | nil => rfl
      | cons a r => rw [z] at e1; cases e1
    have h2 : sl = #[] := by
      apply Array.toList_inj.mp
      cases z : sl.toList with
      | nil => rfl
      | cons a r => rw [z] at e2; cases e2
    rw [h1, h2]
  · cases e
def codeHdB (K : PySem.W.Frag) (c P : Addr) : Bool := match K.lookup c with
  | some ⟨.type t, _, .fields vs, _⟩ => t == "code" && (match (vs[11]? : Option Value), vs.getD 18 .none, vs.getD 7 .none, vs.getD 9 .none, vs.getD 10 .none with
    | some (.ref Q), .str _ _, .int _ _, .bool _, .int _ _ => Q == P && c != P
    | _, _, _, _, _ => false)
  | _ => false
theorem codeHd_ok {K : PySem.W.Frag} {h : Heap} {c P : Addr} (X : K.In h) (e : codeHdB K c P = true) : PySem.W.CodeHd h c P := by
  unfold codeHdB at e
  split at e
  · rename_i t _ vs _ hl
    obtain ⟨e1, e2⟩ := Bool.and_eq_true_iff.mp e
    split at e2
    · rename_i Q file tf flags tg inF text tt g1 g2 g3 g4 g5
      obtain ⟨e3, e4⟩ := Bool.and_eq_true_iff.mp e2
      have hQ : Q = P := eq_of_beq e3
      subst hQ
      have ht : t = "code" := eq_of_beq e1
      subst ht
      have g6 : vs.getD 11 .none = .ref Q := by rw [Array.getD_eq_getD_getElem?, g1]; rfl
      exact ⟨_, vs, _, _, _, _, _, _, _, X _ _ hl, rfl, rfl, g1, g6, g2, g3, g4, g5, by simpa using e4⟩
    · cases e2
  · cases e
def bTab (x : Str) : FrB := fun K => (K.lookup (tbAt K x)).isNone && codeHdB K (cdAt K x) (tbAt K x)
def asT (x : Str) (g : Addr → Option Obj) (n : Nat) : List Addr := (asW g n).filter fun a => a != tbAt (He.frG g (asW g n)) x
def obsT (x : Str) (n : Nat) (ex : List FrB) (fn : List He5.DefA) (g : Addr → Option Obj) : He.AlD :=
  (isTab (g (tbAt (He.frG g (asT x g n)) x)) && ((ex.all fun f => f (He.frG g (asT x g n))) && fn.all fun d => d.ok (He.frG g (asT x g n))), fn.map fun d => He5.fnA (He.frG g (asT x g n)) (d.at_ (He.frG g (asT x g n))))
def hookT (x : Str) (n : Nat) (ex : List FrB) (fn : List He5.DefA) : PySem.W.Hook where
  α := He.AlD
  obs := fun s => obsT x n ex fn s.heap.get?
  val := fun _ => He5.valA fn
  says := fun _ h => ∃ K : PySem.W.Frag, K.In h ∧ SaysW ex fn K ∧ h.get? (tbAt K x) = some { cls := .none, data := .fields #[] }
  of := fun _ s e => by
    have e1 : (isTab (s.heap.get? (tbAt (He.frG s.heap.get? (asT x s.heap.get? n)) x)) && ((ex.all fun f => f (He.frG s.heap.get? (asT x s.heap.get? n))) && fn.all fun d => d.ok (He.frG s.heap.get? (asT x s.heap.get? n)))) = true := congrArg (fun z : He.AlD => z.1) e
    have e2 : fn.map (fun d => He5.fnA (He.frG s.heap.get? (asT x s.heap.get? n)) (d.at_ (He.frG s.heap.get? (asT x s.heap.get? n)))) = fn.map He5.DefA.val := congrArg (fun z : He.AlD => z.2) e
    obtain ⟨e3, e4⟩ := Bool.and_eq_true_iff.mp e1
    exact ⟨_, He.frG_in, Prod.ext e4 e2, isTab_ok e3⟩
  keeps := fun _ _ _ ⟨K, hK, c, t⟩ k => ⟨K, PySem.W.Frag.In.keeps hK k, c, k _ _ t⟩
theorem obsT_eq {x : Str} {n : Nat} {ex : List FrB} {fn : List He5.DefA} {g : Addr → Option Obj} {s : Shared} (h : ∀ a, g a = s.heap.get? a) : obsT x n ex fn g = (hookT x n ex fn).obs s := by
  have e : g = s.heap.get? := funext h
  rw [e] <;> rfl
/-! ### the end -/
theorem cx_no {P : Program} {w : World} {outer : List Env} {H : Hp} {s : Shared} {e : Value} {s' : Shared} (z : L2.CX P w outer H s (fun _ _ _ => False) e s') : False := by
  obtain ⟨_, _, _, _, _, _, _, _, _, _, _, _, q⟩ := z
  exact q
def SpT (K : PySem.W.Frag) (y : Str) : Sp := fun vs H Q _ => ∃ (a : Addr) (ns : List Int), vs = [.ref a] ∧ ns.length ≤ 63 ∧ H (tbAt K y) = some (.tbl #[]) ∧ SqL K H a (ns.map V.int) ∧ ∀ H1, Q (.bl true) H1
theorem law_spT {K : PySem.W.Frag} {mg : Str → Option Value} {y : Str} {F : List PV → IH → Res PV} (hF : ∀ ns : List Int, ns.length ≤ 63 → ∃ h, F [.fls (ns.map .int)] [.tbl y] = .ok (.bl true) h) {H : Hp} {a : Addr} {ns : List Int} {Q : VK} (hl : ns.length ≤ 63) (hT : H (tbAt K y) = some (.tbl #[])) (hS : SqF K H a (ns.map V.int)) (q : ∀ H1, Q (.bl true) H1) :
    SpF K mg 1 F [.ref a] H Q fun _ _ _ => False := by
  obtain ⟨h, e⟩ := hF ns hl
  refine ⟨[tbAt K y], [.fls (ns.map .int)], [.tbl y], rfl, .one (.fls hS (RPs.ints ns)), ⟨rfl, by simp, fun n o z => ?_⟩, ?_⟩
  · cases n with
    | zero =>
      cases z
      refine ⟨_, rfl, rfl, #[], hT, trivial, fun pos cv hc => ?_⟩
      have z : codeAmong pos [] = some cv := hc
      simp [codeAmong] at z
    | succ m => simp at z
  · rw [e]
    intro V H' as' _ _ r
    cases r
    exact q H'
theorem fn_T {P : Program} {w : World} {K : PySem.W.Frag} {mg : Str → Option Value} {base : Heap} {k : Nat} {fa : Addr} {fd : FuncData} {x y : Str} {F : List PV → IH → Res PV} (G : FnOk P w K mg base (L2.CX P w) k fa fd [x] (SpF K mg 1 F))
    (hF : ∀ ns : List Int, ns.length ≤ 63 → ∃ h, F [.fls (ns.map .int)] [.tbl y] = .ok (.bl true) h) : FnOk P w K mg base (L2.CX P w) k fa fd [x] (SpT K y) := by
  refine ⟨fun vs H Q E h => by obtain ⟨a, ns, rfl, _⟩ := h; rfl, fun A outer s H args us vs Q E hr e0 hb r h => ?_⟩
  obtain ⟨a, ns, rfl, hl, hT, hS, q⟩ := h
  have go : ∀ H1 : Hp, Env0 P w K mg base A outer s H1 → H1 (tbAt K y) = some (.tbl #[]) → SqF K H1 a (ns.map V.int) → (∀ H2 h2, Un (frs outer) [] H1 H2 s.heap h2 → Un (frs outer) [] H H2 s.heap h2) → codeAny (model P w) A (.call (.ref fa) args) (CR (L2.CX P w) outer P w H s Q E) s := by
    intro H1 e1 hT1 hS1 hU
    refine codeAny_mono (G.run A outer s H1 args us [.ref a] Q (fun _ _ _ => False) hr e1 hb r (law_spT hF hl hT1 hS1 q)) fun r s' z => ?_
    cases r with
    | error e => exact (cx_no z).elim
    | ok fl =>
      cases fl with
      | ret u =>
        obtain ⟨v, H2, z1, z2, z3, z4, z5, z6⟩ := z
        exact ⟨v, H2, z1, z2, hU _ _ z3, z4, z5, z6⟩
      | next => exact z
      | brk => exact z
      | cont => exact z
  rcases hS with (hS | ⟨o, hS⟩) | hS
  · obtain ⟨hz, its, n, rv, ho⟩ := e0.hok a _ hS
    have nT : a ≠ tbAt K y := fun z => by rw [z, hT] at hS; cases hS
    have at_ : ∀ b, b ≠ a → upd H a (.frz { cls := .type "list", data := .seq its.toArray n } (.lst (ns.map V.int))) b = H b := fun b hb => upd_ne hb
    have nn : ∀ b, H b = none → b ≠ a := fun b e z => by rw [z, hS] at e; cases e
    have hok1 : HOk P w (upd H a (.frz { cls := .type "list", data := .seq its.toArray n } (.lst (ns.map V.int)))) s.heap := fun b u e => by
      have ko : ∀ (c : Addr) (o : HO), ObjOk P w H s.heap c o → ObjOk P w (upd H a (.frz { cls := .type "list", data := .seq its.toArray n } (.lst (ns.map V.int)))) s.heap c o := fun c o x => x.stay (fun d v _ q => q) (fun d q => by rw [at_ d (fun z => by rw [z, hS] at q; cases q)]; exact q) fun d xs q => by rw [at_ d (fun z => by rw [z, hS] at q; cases q)]; exact q
      by_cases hb : b = a
      · subst hb
        rw [upd_same] at e
        cases e
        exact ⟨ho, ko b _ (e0.hok b _ hS)⟩
      · rw [at_ b hb] at e
        exact ko b u (e0.hok b u e)
    refine go _ ⟨e0.frames, e0.mod, fun b o e => ⟨(e0.bs b o e).1, by rw [at_ b (nn b (e0.bs b o e).2)]; exact (e0.bs b o e).2⟩, e0.bsz, e0.funs, fun b hb => by rw [at_ b (nn b (e0.frf b hb))]; exact e0.frf b hb, hok1, e0.bare⟩ (by rw [at_ _ nT.symm]; exact hT) (.inl ⟨_, upd_same⟩) fun H2 h2 u => ?_
    exact ⟨fun b o e n => u.keep b o e (by rw [at_ b (nn b n)]; exact n), fun b o e n => u.slot b o e (by rw [at_ b (nn b n)]; exact n), fun b o e n => u.free b o e (by rw [at_ b (nn b n)]; exact n), u.there,
      fun b xs e => u.tups b xs (by rw [at_ b (fun z => by rw [z, hS] at e; cases e)]; exact e), fun b o v e => u.frzs b o v (by rw [at_ b (fun z => by rw [z, hS] at e; cases e)]; exact e), fun b ps e => u.tbls b ps (by rw [at_ b (fun z => by rw [z, hS] at e; cases e)]; exact e)⟩
  · exact go H e0 hT (.inl ⟨o, hS⟩) fun _ _ u => u
  · exact go H e0 hT (.inr hS) fun _ _ u => u
theorem walk_T {l : PySem.W.OpenLaw} {k : Nat} {q : Program} {loose : List Str} {XP : (Str → Option Value) → Heap → Prop} {YP : World → Heap → Prop} {d : DefRec} {x y : Str} {F : List PV → IH → Res PV}
    (hn : l.most = some 63) (hdf : d.params.defaults = []) (hr : Room k callerA)
    (hF : ∀ (w : World) (mg : Str → Option Value) (fa : Addr) (h : Heap), YP w h → h.Ns mainGlobals mg → mg d.name = some (.ref fa) →
      ∃ (K : PySem.W.Frag) (fd : FuncData), K.In h ∧ bTab y K = true ∧ h.get? (tbAt K y) = some { cls := .none, data := .fields #[] } ∧ (∀ (s : Shared) (u : Value), BindsTo s fd ⟨[u], []⟩ [(x, u)]) ∧ ∀ base : Heap, K.In base → base.Ns mainGlobals mg → LamX.TabB base mg (cdAt K y) (tbAt K y) → FnOk l.prog w K mg base (L2.CX l.prog w) k fa fd [x] (SpF K mg 1 F))
    (hl : ∀ ns : List Int, ns.length ≤ 63 → ∃ h, F [.fls (ns.map .int)] [.tbl y] = .ok (.bl true) h) : PySem.W.WalkO q loose XP YP l.row.toRowW d [] (fun f vs => PySem.call f vs) := by
  refine Att.attach_call hn hdf fun w s0 s1 mg mb fa o pm cd doc a vs ns G Y ho hd hcd hmg hobj hints hlen hg => ?_
  obtain ⟨K, fd, KX, bt, ht, hb, hk⟩ := hF w mg fa _ Y G.T.g hmg
  obtain ⟨b1, b2⟩ := Bool.and_eq_true_iff.mp bt
  refine LamX.law_callTs (cs := [(cdAt K y, tbAt K y)]) (sp := SpT K y) KX G.T.g G.T.b G.T.builtins G.T.nolimit hg (fun p hp => ?_) (fun p hp => ?_) (fun p hp => ?_) G.T.bmain hobj hints (by rw [sizeLine_eq]; omega) hr (fun base B1 B2 B3 => fn_T (hk base B1 B2 (B3 _ (List.mem_singleton.mpr rfl))) hl) hb (fun H hT hS => ?_) fun H e s' z => cx_no z
  · rw [List.mem_singleton.mp hp]; exact ht
  · rw [List.mem_singleton.mp hp]; exact Option.isNone_iff_eq_none.mp b1
  · rw [List.mem_singleton.mp hp]; exact codeHd_ok KX b2
  · exact ⟨a, ns, rfl, hlen, hT _ (List.mem_singleton.mpr rfl), hS, fun _ => rfl⟩
/-! ### list(range(n)) -/
@[simp] def eListRg (A : EX) : EX := fun r h => (A r h).bind fun v h1 => match v with
  | .int n => if n.natAbs ≤ 16777216 ∧ 0 ≤ n then .ok (.obj h1.length) (h1 ++ [.lst ((List.range n.toNat).map fun i => .int (i : Nat))]) else .bad
  | _ => .bad
theorem rps_range {K : PySem.W.Frag} {mg : Str → Option Value} {H : Hp} {as : List Addr} : ∀ l : List Nat, RPs K mg H as (l.map fun i => PV.int (i : Nat)) (l.map fun i => V.int (0 + (i : Nat)))
  | [] => .nil
  | k :: r => by
    rw [List.map_cons, List.map_cons, Int.zero_add]
    exact .cons (.int _) (rps_range r)
section
variable {X : Cx} {W : WX} {k : Nat} {e : Expr} {pos p p2 pos2 : Pos} {A : EX}
theorem ie_listRg (cx : Ctx X W k) (hm : X.mg "list" = none) (hm2 : X.mg "range" = none) (ha : PE X e (IE X.K X.mg W A)) (hg : Gl X "list" := by rfl) (hg2 : Gl X "range" := by rfl) (he : starEach [e] X.env = (false, eval e X.env) :: starEach [] X.env := by rfl)
    (he2 : starEach [Expr.Call (.Name "range" p2) [e] [] pos2] X.env = (false, eval (Expr.Call (.Name "range" p2) [e] [] pos2) X.env) :: starEach [] X.env := by rfl) : PE X (.Call (.Name "list" p) [.Call (.Name "range" p2) [e] [] pos2] [] pos) (IE X.K X.mg W (eListRg A)) := by
  refine peImp (pe_listRg cx.calm hg hm (prg_1 hg2 hm2 ha he) he2) fun s H Q ⟨as, r, h, f, x, o⟩ => ?_
  refine ⟨as, r, h, f, x, (Out.bind o).imp fun V H1 ⟨as1, h1, p1, S1, x1, r1, o1⟩ => ?_⟩
  split at o1
  · rename_i n
    split at o1
    · rename_i hc
      cases r1
      refine ⟨n, rfl, RgOk.of_le (by omega) (by omega) (by omega) (by omega), fun l nl => ?_⟩
      have S := Stp.new (o := .lst (rgV 0 n)) x1 nl
      refine o1 _ _ _ S (x1.new nl ⟨_, upd_same, ?_⟩) (.obj ?_)
      · have q := rps_range (K := X.K) (mg := X.mg) (H := upd H1 l (.lst (rgV 0 n))) (as := as1 ++ [l]) (List.range n.toNat)
        have e : rgV 0 n = (List.range n.toNat).map fun i => V.int (0 + (i : Nat)) := by unfold rgV; rw [Int.sub_zero]
        rw [e] at q ⊢
        exact q
      · rw [List.getElem?_append_right (by rw [x1.len]; exact Nat.le_refl _), x1.len, Nat.sub_self]
        rfl
    · exact o1.elim
  · exact o1.elim
end
end WR

/-! {k: v} with one key that is a tuple of ints -/
namespace WR
open PySem PySem.Spec PyProof.Rows L2
def tDisp1 (tk tv : TE) : TE := fun σ H Q => ∀ p, H p = none → tPairs [(tk, tv)] σ (upd H p (.dT [])) fun ps H2 =>
  ∃ (b : Addr) (k : List Key) (y : V), ps = [(V.ref b, y)] ∧ H2 p = some (.dT []) ∧ H2 b = some (.tup (k.map kV)) ∧ Q (.ref p) (upd H2 p (.dT [(k, y)]))
theorem pe_disp1 {X : Cx} {pos : Pos} {ke ve : Expr} {tk tv : TE} (hu : X.A.units + 1 < cLine) (hk : PE X ke tk) (hv : PE X ve tv) : PE X (.Dict [some ke] [ve] pos) (tDisp1 tk tv) := by
  refine ⟨fun pins s σ H Q I q => ?_⟩
  have hn := I.hok.fresh (Nat.le_refl s.heap.objs.size)
  have I1 := I.laid (a := s.heap.objs.size) (o := .dT []) (h' := s.heap.push { cls := .type "dict", data := .dict #[] }) (t' := s.toks) (fun _ _ q => Heap.get?_push_of_some _ q) (Nat.le_refl _) (dt_empty s.heap I.big)
  have run := (pps_cons (pos := pos) hk hv pps_nil).run pins _ σ _ _ I1 (q _ hn)
  rw [arm_eval_Dict, zip_pairTrees [some ke] [ve] X.env pos rfl rfl, dictDisplay_pairs _ (by simp [pairTrees]) (by simp [pairTrees])]
  refine wpAny_bind (wpAny_standAt (wpAny_bind (wpAny_subDictH (knd := tupleKind (mixKind X.prog X.w)) (Q := fun d s' => wpAny (model X.prog X.w) X.A (pure (Value.ref d)) _ _ s') (show X.A.units < cLine by omega) (by simp [pairTrees]) (thn run fun vs s1 ⟨ps, H2, I2, rel, b, k, y, e, e0, eb, q2⟩ => ?_))))
  subst e
  cases rel with
  | @cons p1 q1 ps1 qs1 hr rest =>
    cases rest
    obtain ⟨u, w⟩ := q1
    obtain ⟨r1, r2⟩ := hr
    cases (show u = Value.ref b from r1)
    obtain ⟨z, hd, xs, rk, dd⟩ := dt_of I2.hok e0
    cases rk
    refine ⟨[(k, b, w)], ⟨rfl, rfl, key_of I2.hok eb, trivial⟩, dd, fun h' tk dd' hs => wpAny_pure ⟨.ref s.heap.objs.size, _, ?_, rfl, q2⟩⟩
    obtain ⟨o, es, ep, hq, h2, h3, h4, _, h5⟩ := dd'
    have sz : ([(k, y)] : List (List Key × V)).length ≤ sizeLine := by rw [sizeLine_eq]; show 1 ≤ _; decide
    refine d_write I2 (by rw [e0]; exact True.intro) hs ⟨o, hq⟩ ⟨sz, hd, [(k, b, w)], .cons ⟨rfl, ?_, r2⟩ .nil, o, es, ep, hq, h2, h3, h4, h5⟩
    rw [upd_ne (ne_of eb e0 (fun z => nomatch z))]
    exact eb
@[simp] def eDisp1 (Kx Vx : EX) : EX := fun r h => (Kx r (h ++ [.dct []])).bind fun kk h1 => (Vx r h1).bind fun v h2 => match kk with
  | .key k => (match h2[h.length]? with
    | some (.dct []) => .ok (.obj h.length) (h2.set h.length (.dct [(k, v)]))
    | _ => .bad)
  | _ => .bad
theorem ie_disp1 {X : Cx} {W : WX} {k : Nat} {a b : Expr} {pos : Pos} {A B : EX} (cx : Ctx X W k) (ha : PE X a (IE X.K X.mg W A)) (hb : PE X b (IE X.K X.mg W B)) : PE X (.Dict [some a] [b] pos) (IE X.K X.mg W (eDisp1 A B)) := by
  refine peImp (pe_disp1 (hu_of cx.room) ha hb) fun s H Q ⟨as, ρ, hh, f, x, o⟩ => ?_
  intro p np
  have S := Stp.new (o := .dT []) x np
  have x1 := x.new (m := .dct []) np ⟨[], upd_same, rfl, .nil⟩
  refine ⟨_, ρ, _, f.mono S, x1, (Out.bind (Out.shift S o)).imp fun V1 H1 ⟨as1, h1, p1, S1, x1', r1, o1⟩ => ?_⟩
  refine ⟨as1, ρ, h1, (f.mono S).mono S1, x1', (Out.bind o1).imp fun V2 H2 ⟨as2, h2, p2, S2, x2, r2, o2⟩ => ?_⟩
  have ap : (as ++ [p])[hh.length]? = some p := by rw [List.getElem?_append_right (by rw [x.len]; exact Nat.le_refl _), x.len, Nat.sub_self]; rfl
  have ap2 := S2.get (S1.get ap)
  cases p1 with
  | key kk =>
    dsimp only at o2
    split at o2
    · rename_i hk
      obtain ⟨c, g1, gs, g2, ek, rs⟩ := x2.at_ _ _ hk
      rw [ap2] at g1; cases g1
      have eg : gs = [] := by cases gs with
        | nil => rfl
        | cons _ _ => cases ek
      subst eg
      have r1' := r1.mono S2
      cases r1' with
      | key hb =>
        refine ⟨_, kk.map Sum.inl, _, rfl, g2, by rw [hb, kV_map], ?_⟩
        have S3 := Stp.put (o := .dT [(kk.map Sum.inl, V2)]) x2 ap2 hk
        exact o2 _ _ as2 S3 (x2.put ap2 hk ⟨_, upd_same, rfl, (RPs.one r2).mono S3⟩) (.obj ap2)
    · exact o2.elim
  | _ => exact o2.elim
/-! ### max of a list of ints -/
def mxL : List Int → Int
  | [] => 0
  | [i] => i
  | i :: r => max i (mxL r)
theorem mxL_spec : ∀ {ns : List Int}, ns ≠ [] → mxL ns ∈ ns ∧ ∀ y ∈ ns, y ≤ mxL ns
  | [], h => absurd rfl h
  | [i], _ => by simp [mxL]
  | i :: j :: r, _ => by
    obtain ⟨h1, h2⟩ := mxL_spec (ns := j :: r) (by simp)
    show max i (mxL (j :: r)) ∈ _ ∧ ∀ y ∈ _, y ≤ max i (mxL (j :: r))
    refine ⟨?_, fun y hy => ?_⟩
    · rcases Int.le_total i (mxL (j :: r)) with z | z
      · rw [Int.max_eq_right z]; exact List.mem_cons_of_mem _ h1
      · rw [Int.max_eq_left z]; exact List.mem_cons_self ..
    · rcases List.mem_cons.mp hy with rfl | hy
      · exact Int.le_max_left _ _
      · exact Int.le_trans (h2 y hy) (Int.le_max_right _ _)
theorem mxL_uniq {ns : List Int} {m : Int} (h1 : m ∈ ns) (h2 : ∀ y ∈ ns, y ≤ m) : mxL ns = m := by
  obtain ⟨a, b⟩ := mxL_spec (ns := ns) (fun z => by rw [z] at h1; cases h1)
  exact Int.le_antisymm (h2 _ a) (b _ h1)
@[simp] def pMaxL : List PV → IH → Res PV
  | [.obj n], h => (match h[n]? with
    | some (.lst xs) => (match keyOf xs with
      | some ns => if ns.isEmpty then .bad else .ok (.int (mxL ns)) h
      | none => .bad)
    | _ => .bad)
  | _, _ => .bad
theorem snd_maxL {K : PySem.W.Frag} {mg : Str → Option Value} : SndC K mg pMaxL (rMax K) := by
  intro W s as H h us vs Q rh rs o
  unfold pMaxL at o
  split at o
  · split at o
    · rename_i xs hx
      split at o
      · rename_i ns hn
        split at o
        · exact o.elim
        · rename_i ne
          obtain ⟨v, rfl, rv⟩ := rs.inv1
          cases rv with
          | obj ha =>
            obtain ⟨a, g1, ys, g2, r2⟩ := rh.at_ _ _ hx
            rw [ha] at g1; cases g1
            have e := keyOf_of r2 hn
            subst e
            refine ⟨_, ns, rfl, SqL.of g2, ?_, fun m m1 m2 => ?_⟩
            · cases ns with
              | nil => exact absurd rfl ne
              | cons _ _ => simp
            · rw [mxL_uniq m1 m2] at o
              exact o.here rh (.int _)
      · exact o.elim
    · exact o.elim
  · exact o.elim
theorem ie_maxL {X : Cx} {W : WX} {k : Nat} {e : Expr} {es : List Expr} {pos p : Pos} {L : AX} (cx : Ctx X W k) (hm : X.mg "max" = none) (ha : PA X (e :: es) (IA X.K X.mg W L)) (hg : Gl X "max" := by rfl) (he : starEach (e :: es) X.env = (false, eval e X.env) :: starEach es X.env := by rfl) (hpl : (backTo pos (starEach es X.env)).any (·.1) = false := by rfl) : PE X (.Call (.Name "max" p) (e :: es) [] pos) (IE X.K X.mg W (eB pMaxL L)) :=
  ie_callB (cr_max cx.calm) snd_maxL hm (by decide +kernel) ha hg (by decide) (by decide) he hpl
end WR

/-! the defs as functional code -/
namespace WR
open PySem PySem.Spec PyProof.Rows L2
def ownCs : List Str := ["Plan"]
def exCs : List Str := []
def exFl : List Str := []
def b_is_integer : SX :=
    sRet (eAnd (eB (pIsi ownCs) (aCons (eVar 0) (aCons (eC (.ty "int")) aNil))) (eNot (eB (pIsi ownCs) (aCons (eVar 0) (aCons (eC (.ty "bool")) aNil)))))
def f_is_integer : List PV → IH → Res PV := fn 1 0 b_is_integer

def b_is_from : SX :=
    sRet (eAnd (eCall f_is_integer (aCons (eVar 0) aNil)) (eChain pLe pLe (eVar 1) (eVar 0) (eVar 2)))
def f_is_from : List PV → IH → Res PV := fn 3 0 b_is_from

def b_common : SX :=
    sSeq (sPar 0 1 (aCons (eB pAbs (aCons (eVar 0) aNil)) (aCons (eB pAbs (aCons (eVar 1) aNil)) aNil)))
    (sSeq (sWhile (tTru (eVar 1)) (sPar 0 1 (aCons (eVar 1) (aCons (eOp pMod (eVar 0) (eVar 1)) aNil))))
    (sRet (eVar 0)))
def f_common : List PV → IH → Res PV := fn 2 0 b_common

def b_ratio : SX :=
    sSeq (sSet 2 (eCall f_common (aCons (eVar 0) (aCons (eVar 1) aNil))))
    (sRet (eTup (aCons (eOp pDiv (eVar 0) (eVar 2)) (aCons (eOp pDiv (eVar 1) (eVar 2)) aNil))))
def f_ratio : List PV → IH → Res PV := fn 2 1 b_ratio

def b_is_fraction : SX :=
    sSeq (sIf (tOrX (tNotX (tTru (eB (pIsi ownCs) (aCons (eVar 0) (aCons (eC (.ty "tuple")) aNil))))) (tBl (eOp pNe (eB pLen (aCons (eVar 0) aNil)) (eC (.int 2))))) (sRet (eC (.bl false))) sNil)
    (sSeq (sIf (tOrX (tNotX (tTru (eCall f_is_integer (aCons (eOp pIdx (eVar 0) (eC (.int 0))) aNil)))) (tNotX (tTru (eCall f_is_integer (aCons (eOp pIdx (eVar 0) (eC (.int 1))) aNil))))) (sRet (eC (.bl false))) sNil)
    (sRet (eAnd (eOp pGe (eOp pIdx (eVar 0) (eC (.int 1))) (eC (.int 1))) (eOp pEq (eCall f_common (aCons (eOp pIdx (eVar 0) (eC (.int 0))) (aCons (eOp pIdx (eVar 0) (eC (.int 1))) aNil))) (eC (.int 1))))))
def f_is_fraction : List PV → IH → Res PV := fn 1 0 b_is_fraction

def b_plus : SX :=
    sRet (eCall f_ratio (aCons (eOp pAdd (eOp pMul (eOp pIdx (eVar 0) (eC (.int 0))) (eOp pIdx (eVar 1) (eC (.int 1)))) (eOp pMul (eOp pIdx (eVar 1) (eC (.int 0))) (eOp pIdx (eVar 0) (eC (.int 1))))) (aCons (eOp pMul (eOp pIdx (eVar 0) (eC (.int 1))) (eOp pIdx (eVar 1) (eC (.int 1)))) aNil)))
def f_plus : List PV → IH → Res PV := fn 2 0 b_plus

def b_minus : SX :=
    sRet (eCall f_ratio (aCons (eOp pSub (eOp pMul (eOp pIdx (eVar 0) (eC (.int 0))) (eOp pIdx (eVar 1) (eC (.int 1)))) (eOp pMul (eOp pIdx (eVar 1) (eC (.int 0))) (eOp pIdx (eVar 0) (eC (.int 1))))) (aCons (eOp pMul (eOp pIdx (eVar 0) (eC (.int 1))) (eOp pIdx (eVar 1) (eC (.int 1)))) aNil)))
def f_minus : List PV → IH → Res PV := fn 2 0 b_minus

def b_times : SX :=
    sRet (eCall f_ratio (aCons (eOp pMul (eOp pIdx (eVar 0) (eC (.int 0))) (eOp pIdx (eVar 1) (eC (.int 0)))) (aCons (eOp pMul (eOp pIdx (eVar 0) (eC (.int 1))) (eOp pIdx (eVar 1) (eC (.int 1)))) aNil)))
def f_times : List PV → IH → Res PV := fn 2 0 b_times

def b_is_less : SX :=
    sRet (eOp pLt (eOp pMul (eOp pIdx (eVar 0) (eC (.int 0))) (eOp pIdx (eVar 1) (eC (.int 1)))) (eOp pMul (eOp pIdx (eVar 1) (eC (.int 0))) (eOp pIdx (eVar 0) (eC (.int 1)))))
def f_is_less : List PV → IH → Res PV := fn 2 0 b_is_less

def b_is_within : SX :=
    sSeq (sIf (tNotX (tTru (eCall f_is_fraction (aCons (eVar 0) aNil)))) (sRet (eC (.bl false))) sNil)
    (sRet (eChain pLe pLe (eOp pMul (eVar 1) (eOp pIdx (eVar 0) (eC (.int 1)))) (eOp pIdx (eVar 0) (eC (.int 0))) (eOp pMul (eVar 2) (eOp pIdx (eVar 0) (eC (.int 1))))))
def f_is_within : List PV → IH → Res PV := fn 3 0 b_is_within

def b_greatest_of : SX :=
    sSeq (sSet 1 (eOp pIdx (eVar 0) (eC (.int 0))))
    (sSeq (sFor (eIter (eVar 0)) (gVar 2) (sIf (tTru (eCall f_is_less (aCons (eVar 1) (aCons (eVar 2) aNil)))) (sSet 1 (eVar 2)) sNil))
    (sRet (eVar 1)))
def f_greatest_of : List PV → IH → Res PV := fn 1 2 b_greatest_of

def b_is_reach : SX :=
    sRet (eAnd (eCall f_is_within (aCons (eVar 0) (aCons (eC (.int 0)) (aCons (eC (.int 1000000000000)) aNil)))) (eOp pGt (eOp pIdx (eVar 0) (eC (.int 0))) (eC (.int 0))))
def f_is_reach : List PV → IH → Res PV := fn 1 0 b_is_reach

def b_is_turn : SX :=
    sSeq (sIf (tOrX (tNotX (tTru (eB (pIsi ownCs) (aCons (eVar 0) (aCons (eC (.ty "tuple")) aNil))))) (tBl (eOp pNe (eB pLen (aCons (eVar 0) aNil)) (eC (.int 2))))) (sRet (eC (.bl false))) sNil)
    (sRet (eAnd (eCall f_is_from (aCons (eOp pIdx (eVar 0) (eC (.int 0))) (aCons (eC (.int 0)) (aCons (eOp pSub (eVar 1) (eC (.int 1))) aNil)))) (eCall f_is_reach (aCons (eOp pIdx (eVar 0) (eC (.int 1))) aNil))))
def f_is_turn : List PV → IH → Res PV := fn 2 0 b_is_turn

def b_check_roads : SX :=
    sIf (tNotX (tTru (eCall f_is_from (aCons (eVar 0) (aCons (eC (.int 1)) (aCons (eC (.int 5)) aNil)))))) sBad sNil
def f_check_roads : List PV → IH → Res PV := fn 1 0 b_check_roads

def b_check_cost : SX :=
    sIf (tNotX (tTru (eCall f_is_within (aCons (eVar 0) (aCons (eC (.int 0)) (aCons (eC (.int 1000000000000)) aNil)))))) sBad sNil
def f_check_cost : List PV → IH → Res PV := fn 1 0 b_check_cost

def b_Plan___init__ : SX :=
    sSeq (sExpr (eCall f_check_roads (aCons (eVar 1) aNil)))
    (sSeq (sIf (tOrX (tNotX (tTru (eB (pIsi ownCs) (aCons (eVar 2) (aCons (eC (.ty "tuple")) aNil))))) (tBl (eOp pGt (eB pLen (aCons (eVar 2) aNil)) (eC (.int 60))))) sBad sNil)
    (sSeq (sFor (eEnum (aCons (eVar 2) aNil)) (gTupF [4, 5]) (sIf (tNotX (tTru (eCall f_is_turn (aCons (eVar 5) (aCons (eVar 1) aNil))))) sBad sNil))
    (sSeq (sExpr (eCall f_check_cost (aCons (eVar 3) aNil)))
    (sFldX "Plan" "held" (eVar 0) (eTup (aCons (eVar 1) (aCons (eVar 2) (aCons (eVar 3) aNil))))))))
def f_Plan___init__ : List PV → IH → Res PV := fn 4 2 b_Plan___init__

def b_Plan_roads : SX :=
    sRet (eOp pIdx (eFld "Plan" "held" (eVar 0)) (eC (.int 0)))
def f_Plan_roads : List PV → IH → Res PV := fn 1 0 b_Plan_roads

def b_Plan_turns : SX :=
    sRet (eOp pIdx (eFld "Plan" "held" (eVar 0)) (eC (.int 1)))
def f_Plan_turns : List PV → IH → Res PV := fn 1 0 b_Plan_turns

def b_Plan_cost : SX :=
    sRet (eOp pIdx (eFld "Plan" "held" (eVar 0)) (eC (.int 2)))
def f_Plan_cost : List PV → IH → Res PV := fn 1 0 b_Plan_cost

def b_Plan___len__ : SX :=
    sRet (eB pLen (aCons (eOp pIdx (eFld "Plan" "held" (eVar 0)) (eC (.int 1))) aNil))
def f_Plan___len__ : List PV → IH → Res PV := fn 1 0 b_Plan___len__

def b_Plan___eq__ : SX :=
    sRet (eAnd (eB (pIsi ownCs) (aCons (eVar 1) (aCons (eC (.glo "Plan")) aNil))) (eOp pEq (eFld "Plan" "held" (eVar 0)) (eFld "Plan" "held" (eVar 1))))
def f_Plan___eq__ : List PV → IH → Res PV := fn 2 0 b_Plan___eq__

def b_is_chance : SX :=
    sSeq (sIf (tOrX (tNotX (tTru (eB (pIsi ownCs) (aCons (eVar 0) (aCons (eC (.ty "tuple")) aNil))))) (tBl (eOp pNe (eB pLen (aCons (eVar 0) aNil)) (eC (.int 3))))) (sRet (eC (.bl false))) sNil)
    (sSeq (sAsgT (gTupF [2, 3, 4]) (eVar 0))
    (sRet (eAnd (eCall f_is_from (aCons (eVar 2) (aCons (eC (.int 0)) (aCons (eOp pSub (eVar 1) (eC (.int 1))) aNil)))) (eAnd (eCall f_is_within (aCons (eVar 3) (aCons (eC (.int 1)) (aCons (eC (.int 1000000)) aNil)))) (eCall f_is_from (aCons (eVar 4) (aCons (eC (.int 1)) (aCons (eC (.int 999)) aNil))))))))
def f_is_chance : List PV → IH → Res PV := fn 2 3 b_is_chance

def b_check_chances : SX :=
    sSeq (sExpr (eCall f_check_roads (aCons (eVar 0) aNil)))
    (sSeq (sIf (tOrX (tNotX (tTru (eB (pIsi ownCs) (aCons (eVar 1) (aCons (eC (.ty "tuple")) aNil))))) (tNotX (tBl (eChain pLe pLe (eC (.int 1)) (eB pLen (aCons (eVar 1) aNil)) (eC (.int 8)))))) sBad sNil)
    (sSeq (sSet 2 (eLst aNil))
    (sFor (eIter (eVar 1)) (gVar 3) (sSeq (sIf (tOrX (tNotX (tTru (eCall f_is_chance (aCons (eVar 3) (aCons (eVar 0) aNil))))) (tBl (eOp pIn (eSl (eVar 3) oNone (oSome (eC (.int 2)))) (eVar 2)))) sBad sNil)
    (sExpr (eAppend (eVar 2) (aCons (eSl (eVar 3) oNone (oSome (eC (.int 2)))) aNil)))))))
def f_check_chances : List PV → IH → Res PV := fn 2 2 b_check_chances

def b_with_place : SX :=
    sSeq (sSet 3 (eB pLen (aCons (eLc (eIter (eVar 0)) (gVar 4) (tTru (eCall f_is_less (aCons (eOp pIdx (eVar 4) (eC (.int 0))) (aCons (eVar 1) aNil)))) (eVar 4) [4]) aNil)))
    (sRet (eOp pAdd (eOp pAdd (eSl (eVar 0) oNone (oSome (eVar 3))) (eLst (aCons (eTup (aCons (eVar 1) (aCons (eVar 2) aNil))) aNil))) (eSl (eVar 0) (oSome (eVar 3)) oNone)))
def f_with_place : List PV → IH → Res PV := fn 3 2 b_with_place

def b_rows_of : SX :=
    sSeq (sSet 2 (eLc (eRange1 (aCons (eVar 0) aNil)) (gVar 3) tYesX (eLst aNil) [3]))
    (sSeq (sFor (eIter (eVar 1)) (gTupF [3, 4, 5]) (sSetIx (eVar 2) (eVar 3) (eCall f_with_place (aCons (eOp pIdx (eVar 2) (eVar 3)) (aCons (eVar 4) (aCons (eVar 5) aNil))))))
    (sRet (eVar 2)))
def f_rows_of : List PV → IH → Res PV := fn 2 4 b_rows_of

def b_standings_of : SX :=
    sSeq (sSet 1 (eLst (aCons (eKey aNil) aNil)))
    (sSeq (sFor (eIter (eVar 0)) (gVar 2) (sSet 1 (eLc2 (eIter (eVar 1)) (gVar 3) tYesX (eRange1 (aCons (eOp pAdd (eB pLen (aCons (eVar 2) aNil)) (eC (.int 1))) aNil)) (gVar 4) tYesX (eOp pAddK (eVar 3) (eKey (aCons (eVar 4) aNil))) [3, 4] [4])))
    (sRet (eVar 1)))
def f_standings_of : List PV → IH → Res PV := fn 1 4 b_standings_of

def b_walk_to : SX :=
    sSeq (sSet 2 (eOp pAdd (eLst (aCons (eC (.tup [.int 0, .int 1])) aNil)) (eLc (eZip (aCons (eVar 0) (aCons (eF (eVar 1)) aNil))) (gTupF [5, 6]) (tBl (eOp pGt (eVar 6) (eC (.int 0)))) (eOp pIdx (eOp pIdx (eVar 5) (eOp pSub (eVar 6) (eC (.int 1)))) (eC (.int 0))) [5, 6])))
    (sSeq (sSet 3 (eC (.tup [.int 0, .int 1])))
    (sSeq (sFor (eIter (eVar 2)) (gVar 4) (sSet 3 (eCall f_plus (aCons (eVar 3) (aCons (eCall f_times (aCons (eTup (aCons (eC (.int 2)) (aCons (eC (.int 1)) aNil))) (aCons (eVar 4) aNil))) aNil)))))
    (sRet (eCall f_minus (aCons (eVar 3) (aCons (eCall f_greatest_of (aCons (eVar 2) aNil)) aNil))))))
def f_walk_to : List PV → IH → Res PV := fn 2 5 b_walk_to

def b_plan_to : SX :=
    sSeq (sSet 3 (eLst aNil))
    (sSeq (sFor (eEnum (aCons (eF (eVar 2)) aNil)) (gTupF [4, 5]) (sIf (tBl (eOp pGt (eVar 5) (eC (.int 0)))) (sSeq (sSet 6 (eOp pIdx (eOp pIdx (eOp pIdx (eVar 1) (eVar 4)) (eOp pSub (eVar 5) (eC (.int 1)))) (eC (.int 0))))
    (sIf (tAndX (tTru (eVar 3)) (tTru (eCall f_is_less (aCons (eVar 6) (aCons (eOp pIdx (eOp pIdx (eVar 3) (eUn pNeg (eC (.int 1)))) (eC (.int 1))) aNil))))) (sExpr (eInsert (eVar 3) (aCons (eC (.int 0)) (aCons (eTup (aCons (eVar 4) (aCons (eVar 6) aNil))) aNil)))) (sExpr (eAppend (eVar 3) (aCons (eTup (aCons (eVar 4) (aCons (eVar 6) aNil))) aNil))))) sNil))
    (sRet (eCall (mkO "Plan" f_Plan___init__) (aCons (eVar 0) (aCons (eB pTuple1 (aCons (eVar 3) aNil)) (aCons (eC (.tup [.int 0, .int 1])) aNil))))))
def f_plan_to : List PV → IH → Res PV := fn 3 4 b_plan_to

def b_most_found : SX :=
    sSeq (sExpr (eCall f_check_chances (aCons (eVar 0) (aCons (eVar 1) aNil))))
    (sSeq (sIf (tNotX (tTru (eCall f_is_within (aCons (eVar 2) (aCons (eC (.int 1)) (aCons (eC (.int 1000000000000)) aNil)))))) sBad sNil)
    (sSeq (sSet 3 (eCall f_rows_of (aCons (eVar 0) (aCons (eVar 1) aNil))))
    (sSeq (sSet 4 (eTup (aCons (eC (.int 0)) (aCons (eOp pMulK (eKey (aCons (eC (.int 0)) aNil)) (eVar 0)) aNil))))
    (sSeq (sFor (eIter (eCall f_standings_of (aCons (eVar 3) aNil))) (gVar 5) (sIf (tNotX (tTru (eCall f_is_less (aCons (eVar 2) (aCons (eCall f_walk_to (aCons (eVar 3) (aCons (eVar 5) aNil))) aNil))))) (sSeq (sSet 6 (eB pSum (aCons (eLc (eZip (aCons (eVar 3) (aCons (eF (eVar 5)) aNil))) (gTupF [9, 10]) tYesX (eB pSum (aCons (eLc (eIter (eSl (eVar 9) oNone (oSome (eVar 10)))) (gTupF [7, 8]) tYesX (eVar 8) [7, 8]) aNil)) [9, 10]) aNil)))
    (sSet 4 (eB pMaxP (aCons (eVar 4) (aCons (eTup (aCons (eVar 6) (aCons (eVar 5) aNil))) aNil))))) sNil))
    (sRet (eTup (aCons (eOp pIdx (eVar 4) (eC (.int 0))) (aCons (eCall f_plan_to (aCons (eVar 0) (aCons (eVar 3) (aCons (eOp pIdx (eVar 4) (eC (.int 1))) aNil)))) aNil))))))))
def f_most_found : List PV → IH → Res PV := fn 3 8 b_most_found

def b__law_mix : SX :=
    sSeq (sSet 2 (eVar 1))
    (sSeq (sFor (eIter (eVar 0)) (gVar 3) (sSet 2 (eOp pMod (eB pInt1 (aCons (eOp pAdd (eOp pAdd (eOp pMul (eVar 2) (eC (.int 48271))) (eOp pMod (eB pInt1 (aCons (eVar 3) aNil)) (eC (.int 2147483629)))) (eC (.int 1))) aNil)) (eC (.int 2147483647)))))
    (sRet (eLst (aCons (eVar 2) (aCons (eB pList1 (aCons (eVar 0) aNil)) (aCons (eC (.int 0)) aNil))))))
def f__law_mix : List PV → IH → Res PV := fn 2 2 b__law_mix

def b__law_next : SX :=
    sSeq (sSet 2 (eOp pIdx (eOp pAdd (eOp pIdx (eVar 0) (eC (.int 1))) (eLst (aCons (eC (.int 0)) aNil))) (eOp pMod (eB pInt1 (aCons (eOp pIdx (eVar 0) (eC (.int 2))) aNil)) (eB pMax2 (aCons (eC (.int 1)) (aCons (eB pLen (aCons (eOp pIdx (eVar 0) (eC (.int 1))) aNil)) aNil))))))
    (sSeq (sIf (tBl (eOp pGe (eVar 2) (eOp pPow (eC (.int 10)) (eC (.int 18))))) (sSeq (sSet 3 (eOp pIdx (eVar 0) (eC (.int 1))))
    (sSeq (sSetIx (eVar 3) (eOp pMod (eB pInt1 (aCons (eOp pIdx (eVar 0) (eC (.int 2))) aNil)) (eB pLen (aCons (eVar 3) aNil))) (eOp pDiv (eVar 2) (eVar 1)))
    (sRet (eOp pMod (eB pInt1 (aCons (eVar 2) aNil)) (eVar 1))))) sNil)
    (sSeq (sSetIx (eVar 0) (eC (.int 0)) (eOp pMod (eB pInt1 (aCons (eOp pAdd (eOp pAdd (eOp pMul (eOp pIdx (eVar 0) (eC (.int 0))) (eC (.int 48271))) (eOp pMul (eVar 2) (eC (.int 69621)))) (eC (.int 11))) aNil)) (eC (.int 2147483647))))
    (sSeq (sSetIx (eVar 0) (eC (.int 2)) (eOp pAdd (eOp pIdx (eVar 0) (eC (.int 2))) (eC (.int 1))))
    (sRet (eOp pMod (eB pInt1 (aCons (eOp pDiv (eOp pIdx (eVar 0) (eC (.int 0))) (eC (.int 7))) aNil)) (eVar 1))))))
def f__law_next : List PV → IH → Res PV := fn 2 2 b__law_next

def b__law_part : SX :=
    sSeq (sPar 0 1 (aCons (eB pAbs (aCons (eVar 0) aNil)) (aCons (eB pAbs (aCons (eVar 1) aNil)) aNil)))
    (sSeq (sWhile (tBl (eOp pNe (eVar 1) (eC (.int 0)))) (sPar 0 1 (aCons (eVar 1) (aCons (eOp pSub (eVar 0) (eOp pMul (eOp pDiv (eVar 0) (eVar 1)) (eVar 1))) aNil))))
    (sRet (eVar 0)))
def f__law_part : List PV → IH → Res PV := fn 2 0 b__law_part

def b__law_f : SX :=
    sSeq (sSet 2 (eCall f__law_part (aCons (eVar 0) (aCons (eVar 1) aNil))))
    (sRet (eTup (aCons (eOp pDiv (eVar 0) (eVar 2)) (aCons (eOp pDiv (eVar 1) (eVar 2)) aNil))))
def f__law_f : List PV → IH → Res PV := fn 2 1 b__law_f

def b__law_add : SX :=
    sRet (eCall f__law_f (aCons (eOp pAdd (eOp pMul (eOp pIdx (eVar 0) (eC (.int 0))) (eOp pIdx (eVar 1) (eC (.int 1)))) (eOp pMul (eOp pIdx (eVar 1) (eC (.int 0))) (eOp pIdx (eVar 0) (eC (.int 1))))) (aCons (eOp pMul (eOp pIdx (eVar 0) (eC (.int 1))) (eOp pIdx (eVar 1) (eC (.int 1)))) aNil)))
def f__law_add : List PV → IH → Res PV := fn 2 0 b__law_add

def b__law_mul : SX :=
    sRet (eCall f__law_f (aCons (eOp pMul (eOp pIdx (eVar 0) (eC (.int 0))) (eOp pIdx (eVar 1) (eC (.int 0)))) (aCons (eOp pMul (eOp pIdx (eVar 0) (eC (.int 1))) (eOp pIdx (eVar 1) (eC (.int 1)))) aNil)))
def f__law_mul : List PV → IH → Res PV := fn 2 0 b__law_mul

def b__law_div : SX :=
    sRet (eCall f__law_f (aCons (eOp pMul (eOp pIdx (eVar 0) (eC (.int 0))) (eOp pIdx (eVar 1) (eC (.int 1)))) (aCons (eOp pMul (eOp pIdx (eVar 0) (eC (.int 1))) (eOp pIdx (eVar 1) (eC (.int 0)))) aNil)))
def f__law_div : List PV → IH → Res PV := fn 2 0 b__law_div

def b__law_under : SX :=
    sRet (eOp pLt (eOp pMul (eOp pIdx (eVar 0) (eC (.int 0))) (eOp pIdx (eVar 1) (eC (.int 1)))) (eOp pMul (eOp pIdx (eVar 1) (eC (.int 0))) (eOp pIdx (eVar 0) (eC (.int 1)))))
def f__law_under : List PV → IH → Res PV := fn 2 0 b__law_under

def b__law_reach : SX :=
    sSeq (sSet 2 (eCall f__law_next (aCons (eVar 0) (aCons (eC (.int 4)) aNil))))
    (sSeq (sIf (tBl (eOp pEq (eVar 2) (eC (.int 0)))) (sRet (eCall f__law_f (aCons (eOp pAdd (eC (.int 1)) (eCall f__law_next (aCons (eVar 0) (aCons (eC (.int 40)) aNil)))) (aCons (eOp pAdd (eC (.int 1)) (eCall f__law_next (aCons (eVar 0) (aCons (eC (.int 12)) aNil)))) aNil)))) sNil)
    (sSeq (sIf (tBl (eOp pEq (eVar 2) (eC (.int 1)))) (sRet (eCall f__law_f (aCons (eOp pAdd (eC (.int 1)) (eCall f__law_next (aCons (eVar 0) (aCons (eC (.int 9)) aNil)))) (aCons (eC (.int 1)) aNil)))) sNil)
    (sRet (eCall f__law_f (aCons (eOp pAdd (eVar 1) (eCall f__law_next (aCons (eVar 0) (aCons (eOp pAdd (eVar 1) (eC (.int 2))) aNil)))) (aCons (eOp pAdd (eC (.int 1)) (eCall f__law_next (aCons (eVar 0) (aCons (eC (.int 2)) aNil)))) aNil))))))
def f__law_reach : List PV → IH → Res PV := fn 2 1 b__law_reach

def b__law_turns : SX :=
    sSeq (sPar 3 4 (aCons (eLst aNil) (aCons (eOp pAdd (eC (.int 1)) (eCall f__law_next (aCons (eVar 0) (aCons (eC (.int 2)) aNil)))) aNil)))
    (sSeq (sFor (eRange1 (aCons (eCall f__law_next (aCons (eVar 0) (aCons (eOp pAdd (eVar 2) (eC (.int 1))) aNil))) aNil)) (gVar 5) (sSeq (sSet 6 (eIf (tBl (eOp pGt (eCall f__law_next (aCons (eVar 0) (aCons (eC (.int 4)) aNil))) (eC (.int 0)))) (eOp pSub (eVar 5) (eOp pMul (eOp pDiv (eVar 5) (eVar 1)) (eVar 1))) (eCall f__law_next (aCons (eVar 0) (aCons (eVar 1) aNil)))))
    (sSeq (sExpr (eAppend (eVar 3) (aCons (eTup (aCons (eVar 6) (aCons (eCall f__law_reach (aCons (eVar 0) (aCons (eVar 4) aNil))) aNil))) aNil)))
    (sSet 4 (eB pMin2 (aCons (eOp pPow (eC (.int 10)) (eC (.int 9))) (aCons (eOp pAdd (eVar 4) (eCall f__law_next (aCons (eVar 0) (aCons (eOp pAdd (eVar 4) (eC (.int 1))) aNil)))) aNil)))))))
    (sRet (eB pTuple1 (aCons (eVar 3) aNil))))
def f__law_turns : List PV → IH → Res PV := fn 3 4 b__law_turns

def b__law_plan : SX :=
    sSeq (sSet 2 (eOp pAdd (eC (.int 1)) (eCall f__law_next (aCons (eVar 0) (aCons (eC (.int 5)) aNil)))))
    (sSeq (sSet 3 (eIf (tBl (eOp pEq (eCall f__law_next (aCons (eVar 0) (aCons (eC (.int 2)) aNil))) (eC (.int 0)))) (eTup (aCons (eC (.int 0)) (aCons (eC (.int 1)) aNil))) (eCall f__law_f (aCons (eCall f__law_next (aCons (eVar 0) (aCons (eC (.int 9)) aNil))) (aCons (eOp pAdd (eC (.int 1)) (eCall f__law_next (aCons (eVar 0) (aCons (eC (.int 4)) aNil)))) aNil)))))
    (sRet (eLst (aCons (eVar 2) (aCons (eCall f__law_turns (aCons (eVar 0) (aCons (eVar 2) (aCons (eVar 1) aNil)))) (aCons (eVar 3) aNil))))))
def f__law_plan : List PV → IH → Res PV := fn 2 2 b__law_plan

def b__law_walked : SX :=
    sSeq (sSet 3 (eTup (aCons (eC (.int 0)) (aCons (eC (.int 1)) aNil))))
    (sSeq (sFor (eIter (eOp pIdx (eVar 0) (eC (.int 1)))) (gTupF [4, 5]) (sSeq (sIf (tAndX (tBl (eOp pEq (eVar 4) (eVar 1))) (tNotX (tTru (eCall f__law_under (aCons (eVar 5) (aCons (eVar 2) aNil)))))) (sRet (eCall f__law_add (aCons (eVar 3) (aCons (eVar 2) aNil)))) sNil)
    (sSet 3 (eCall f__law_add (aCons (eVar 3) (aCons (eCall f__law_add (aCons (eCall f__law_mul (aCons (eTup (aCons (eC (.int 2)) (aCons (eC (.int 1)) aNil))) (aCons (eVar 5) aNil))) (aCons (eOp pIdx (eVar 0) (eC (.int 2))) aNil))) aNil))))))
    (sRet (eC .non)))
def f__law_walked : List PV → IH → Res PV := fn 3 3 b__law_walked

def b__law_orders : SX :=
    sSeq (sSet 1 (eLst (aCons (eTup aNil) aNil)))
    (sSeq (sFor (eRange1 (aCons (eVar 0) aNil)) (gVar 2) (sSeq (sSet 3 (eLst aNil))
    (sSeq (sFor (eIter (eVar 1)) (gVar 4) (sFor (eRange1 (aCons (eVar 0) aNil)) (gVar 5) (sSet 3 (eOp pAdd (eVar 3) (eIf (tBl (eOp pNotIn (eVar 5) (eVar 4))) (eLst (aCons (eOp pAdd (eVar 4) (eTup (aCons (eVar 5) aNil))) aNil)) (eLst aNil))))))
    (sSet 1 (eVar 3)))))
    (sRet (eVar 1)))
def f__law_orders : List PV → IH → Res PV := fn 1 5 b__law_orders

def b__law_chances : SX :=
    sSeq (sSet 3 (eLst aNil))
    (sSeq (sFor (eRange1 (aCons (eOp pAdd (eC (.int 1)) (eCall f__law_next (aCons (eVar 0) (aCons (eVar 2) aNil)))) aNil)) (gVar 4) (sSeq (sSet 5 (eTup (aCons (eCall f__law_next (aCons (eVar 0) (aCons (eVar 1) aNil))) (aCons (eCall f__law_f (aCons (eOp pAdd (eC (.int 1)) (eCall f__law_next (aCons (eVar 0) (aCons (eC (.int 30)) aNil)))) (aCons (eC (.int 1)) aNil))) aNil))))
    (sSeq (sIf (tBl (eOp pEq (eCall f__law_next (aCons (eVar 0) (aCons (eC (.int 3)) aNil))) (eC (.int 0)))) (sSet 5 (eTup (aCons (eOp pIdx (eVar 5) (eC (.int 0))) (aCons (eCall f__law_f (aCons (eOp pAdd (eC (.int 8)) (eCall f__law_next (aCons (eVar 0) (aCons (eC (.int 60)) aNil)))) (aCons (eC (.int 8)) aNil))) aNil)))) sNil)
    (sIf (tBl (eOp pNotIn (eVar 5) (eLc (eIter (eVar 3)) (gVar 6) tYesX (eSl (eVar 6) oNone (oSome (eC (.int 2)))) [6]))) (sExpr (eAppend (eVar 3) (aCons (eOp pAdd (eVar 5) (eTup (aCons (eOp pAdd (eC (.int 1)) (eCall f__law_next (aCons (eVar 0) (aCons (eOp pIdx (eLst (aCons (eC (.int 3)) (aCons (eC (.int 999)) aNil))) (eCall f__law_next (aCons (eVar 0) (aCons (eC (.int 2)) aNil)))) aNil)))) aNil))) aNil))) sNil))))
    (sRet (eB pTuple1 (aCons (eVar 3) aNil))))
def f__law_chances : List PV → IH → Res PV := fn 3 4 b__law_chances

def b__law_turn : SX :=
    sSeq (sAsgT (gTupF [3, 4, 5]) (eOp pIdx (eVar 0) (eVar 2)))
    (sSeq (sSet 6 (eLst aNil))
    (sSeq (sFor (eRange1 (aCons (eB pLen (aCons (eVar 0) aNil)) aNil)) (gVar 7) (sSeq (sSet 8 (eAnd (eOp pEq (eOp pIdx (eOp pIdx (eVar 0) (eVar 7)) (eC (.int 0))) (eVar 3)) (eNot (eCall f__law_under (aCons (eVar 4) (aCons (eOp pIdx (eOp pIdx (eVar 0) (eVar 7)) (eC (.int 1))) aNil))))))
    (sExpr (eAppend (eVar 6) (aCons (eIf (tTru (eVar 8)) (eC (.int 1)) (eOp pIdx (eF (eVar 1)) (eVar 7))) aNil)))))
    (sRet (eB pTuple1K (aCons (eVar 6) aNil)))))
def f__law_turn : List PV → IH → Res PV := fn 3 6 b__law_turn

def b__law_standings : SX :=
    sSeq (sSet 1 (eOp pMulK (eKey (aCons (eC (.int 0)) aNil)) (eB pLen (aCons (eVar 0) aNil))))
    (sSeq (sPar 2 3 (aCons (eLst (aCons (eVar 1) aNil)) (aCons (eC (.int 0)) aNil)))
    (sSeq (sWhile (tBl (eOp pLt (eVar 3) (eB pLen (aCons (eVar 2) aNil)))) (sSeq (sFor (eRange1 (aCons (eB pLen (aCons (eVar 0) aNil)) aNil)) (gVar 4) (sSeq (sSet 5 (eCall f__law_turn (aCons (eVar 0) (aCons (eOp pIdx (eVar 2) (eVar 3)) (aCons (eVar 4) aNil)))))
    (sIf (tAndX (tBl (eOp pEq (eOp pIdx (eF (eOp pIdx (eVar 2) (eVar 3))) (eVar 4)) (eC (.int 0)))) (tBl (eOp pNotIn (eVar 5) (eVar 2)))) (sExpr (eAppend (eVar 2) (aCons (eVar 5) aNil))) sNil)))
    (sSet 3 (eOp pAdd (eVar 3) (eC (.int 1))))))
    (sRet (eSortK "_law_standings" (eVar 2)))))
def f__law_standings : List PV → IH → Res PV := fn 1 5 b__law_standings

def b__law_least : SX :=
    sSeq (sSet 2 eDNew)
    (sSeq (sFor (eIter (eRevL (eCall f__law_standings (aCons (eVar 0) aNil)))) (gVar 3) (sSeq (sSet 4 (eLst aNil))
    (sSeq (sFor (eRange1 (aCons (eB pLen (aCons (eVar 0) aNil)) aNil)) (gVar 5) (sIf (tBl (eOp pEq (eOp pIdx (eF (eVar 3)) (eVar 5)) (eC (.int 0)))) (sSeq (sPar 6 7 (aCons (eCall f__law_turn (aCons (eVar 0) (aCons (eVar 3) (aCons (eVar 5) aNil)))) (aCons (eOp pIdx (eOp pIdx (eVar 0) (eVar 5)) (eC (.int 1))) aNil)))
    (sSeq (sSet 8 (eOp pDGet (eVar 2) (eVar 6)))
    (sSeq (sFor (eRange1 (aCons (eB pLen (aCons (eVar 0) aNil)) aNil)) (gVar 9) (sIf (tBl (eOp pEq (eOp pIdx (eF (eVar 6)) (eVar 9)) (eC (.int 0)))) (sSet 8 (eCall f__law_add (aCons (eVar 8) (aCons (eCall f__law_mul (aCons (eCall f__law_mul (aCons (eTup (aCons (eC (.int 2)) (aCons (eC (.int 1)) aNil))) (aCons (eVar 7) aNil))) (aCons (eOp pIdx (eVar 1) (eVar 9)) aNil))) aNil)))) (sIf (tBl (eOp pEq (eOp pIdx (eF (eVar 3)) (eVar 9)) (eC (.int 0)))) (sSet 8 (eCall f__law_add (aCons (eVar 8) (aCons (eCall f__law_mul (aCons (eOp pIdx (eOp pIdx (eVar 0) (eVar 9)) (eC (.int 1))) (aCons (eOp pIdx (eVar 1) (eVar 9)) aNil))) aNil)))) sNil)))
    (sExpr (eAppend (eVar 4) (aCons (eVar 8) aNil)))))) sNil))
    (sSeq (sSet 10 (eIf (tBl (eOp pNe (eVar 4) (eLst aNil))) (eOp pIdx (eVar 4) (eC (.int 0))) (eTup (aCons (eC (.int 0)) (aCons (eC (.int 1)) aNil)))))
    (sSeq (sFor (eIter (eVar 4)) (gVar 11) (sSet 10 (eIf (tTru (eCall f__law_under (aCons (eVar 11) (aCons (eVar 10) aNil)))) (eVar 11) (eVar 10))))
    (sDPutX (eVar 2) (eVar 3) (eVar 10)))))))
    (sRet (eOp pDGet (eVar 2) (eOp pMulK (eKey (aCons (eC (.int 0)) aNil)) (eB pLen (aCons (eVar 0) aNil))))))
def f__law_least : List PV → IH → Res PV := fn 2 10 b__law_least

def b__law_weight : SX :=
    sSeq (sSet 3 (eC (.int 0)))
    (sSeq (sFor (eIter (eVar 1)) (gTupF [4, 5, 6]) (sSeq (sSet 7 (eCall f__law_walked (aCons (eVar 0) (aCons (eVar 4) (aCons (eVar 5) aNil)))))
    (sIf (tAndX (tBl (eOp pNotN (eVar 7) (eC .non))) (tNotX (tTru (eCall f__law_under (aCons (eVar 2) (aCons (eVar 7) aNil)))))) (sSet 3 (eOp pAdd (eVar 3) (eVar 6))) sNil)))
    (sRet (eVar 3)))
def f__law_weight : List PV → IH → Res PV := fn 3 5 b__law_weight

def b__law_most : SX :=
    sSeq (sPar 2 3 (aCons (eDisp1 (eOp pMulK (eKey (aCons (eC (.int 0)) aNil)) (eB pLen (aCons (eVar 0) aNil))) (eTup (aCons (eC (.int 0)) (aCons (eC (.int 1)) aNil)))) (aCons (eC (.int 0)) aNil)))
    (sSeq (sFor (eIter (eCall f__law_standings (aCons (eVar 0) aNil))) (gVar 4) (sFor (eRange1 (aCons (eB pLen (aCons (eVar 0) aNil)) aNil)) (gVar 5) (sIf (tBl (eOp pEq (eOp pIdx (eF (eVar 4)) (eVar 5)) (eC (.int 0)))) (sSeq (sAsgT (gTupF [6, 7]) (eTup (aCons (eCall f__law_turn (aCons (eVar 0) (aCons (eVar 4) (aCons (eVar 5) aNil)))) (aCons (eOp pIdx (eOp pIdx (eVar 0) (eVar 5)) (eC (.int 1))) aNil))))
    (sSeq (sIf (tNotX (tTru (eCall f__law_under (aCons (eVar 1) (aCons (eCall f__law_add (aCons (eOp pDGet (eVar 2) (eVar 4)) (aCons (eVar 7) aNil))) aNil))))) (sSet 3 (eB pMax2 (aCons (eVar 3) (aCons (eB pSum (aCons (eLc (eRange1 (aCons (eB pLen (aCons (eVar 0) aNil)) aNil)) (gVar 9) tYesX (eOp pMul (eOp pIdx (eOp pIdx (eVar 0) (eVar 9)) (eC (.int 2))) (eOp pIdx (eF (eVar 6)) (eVar 9))) [9]) aNil)) aNil)))) sNil)
    (sSeq (sSet 8 (eCall f__law_add (aCons (eOp pDGet (eVar 2) (eVar 4)) (aCons (eCall f__law_mul (aCons (eTup (aCons (eC (.int 2)) (aCons (eC (.int 1)) aNil))) (aCons (eVar 7) aNil))) aNil))))
    (sIf (tOrX (tBl (eOp pDNotIn (eVar 6) (eVar 2))) (tTru (eCall f__law_under (aCons (eVar 8) (aCons (eOp pDGet (eVar 2) (eVar 6)) aNil))))) (sDPutX (eVar 2) (eVar 6) (eVar 8)) sNil)))) sNil)))
    (sRet (eVar 3)))
def f__law_most : List PV → IH → Res PV := fn 2 8 b__law_most

def b__law_far : SX :=
    sSeq (sSet 1 (eOp pAdd (eC (.int 1)) (eCall f__law_next (aCons (eVar 0) (aCons (eC (.int 5)) aNil)))))
    (sSeq (sSet 2 (eCall f__law_chances (aCons (eVar 0) (aCons (eVar 1) (aCons (eC (.int 8)) aNil)))))
    (sSeq (sSet 3 (eCall f__law_f (aCons (eOp pAdd (eC (.int 8)) (eCall f__law_next (aCons (eVar 0) (aCons (eOp pIdx (eLst (aCons (eC (.int 400)) (aCons (eC (.int 2000)) aNil))) (eCall f__law_next (aCons (eVar 0) (aCons (eC (.int 2)) aNil)))) aNil)))) (aCons (eC (.int 8)) aNil))))
    (sSeq (sAsgT (gTupF [4, 5]) (eCall f_most_found (aCons (eVar 1) (aCons (eVar 2) (aCons (eVar 3) aNil)))))
    (sSeq (sIf (tBl (eOp pNe (eCall f__law_weight (aCons (eLst (aCons (eVar 1) (aCons (eProp "Plan" f_Plan_turns (eVar 5)) (aCons (eTup (aCons (eC (.int 0)) (aCons (eC (.int 1)) aNil))) aNil)))) (aCons (eVar 2) (aCons (eVar 3) aNil)))) (eVar 4))) (sRet (eC (.bl false))) sNil)
    (sRet (eOp pEq (eVar 4) (eCall f__law_most (aCons (eVar 2) (aCons (eVar 3) aNil)))))))))
def f__law_far : List PV → IH → Res PV := fn 1 5 b__law_far

def b_law : SX :=
    sSeq (sSet 1 (eCall f__law_mix (aCons (eVar 0) (aCons (eC (.int 15)) aNil))))
    (sSeq (sIf (tBl (eOp pEq (eCall f__law_next (aCons (eVar 1) (aCons (eC (.int 4)) aNil))) (eC (.int 0)))) (sRet (eCall f__law_far (aCons (eVar 1) aNil))) sNil)
    (sSeq (sSet 2 (eOp pAdd (eC (.int 1)) (eCall f__law_next (aCons (eVar 1) (aCons (eC (.int 5)) aNil)))))
    (sSeq (sSet 3 (eCall f__law_chances (aCons (eVar 1) (aCons (eVar 2) (aCons (eC (.int 5)) aNil)))))
    (sSeq (sSet 4 (eLst aNil))
    (sSeq (sFor (eIter (eCall f__law_orders (aCons (eB pLen (aCons (eVar 3) aNil)) aNil))) (gVar 5) (sExpr (eAppend (eVar 4) (aCons (eLst (aCons (eVar 2) (aCons (eB pTuple1 (aCons (eLc (eIter (eVar 5)) (gVar 11) tYesX (eSl (eOp pIdx (eVar 3) (eVar 11)) oNone (oSome (eC (.int 2)))) [11]) aNil)) (aCons (eTup (aCons (eC (.int 0)) (aCons (eC (.int 1)) aNil))) aNil)))) aNil))))
    (sSeq (sSet 6 (eOp pIdx (eVar 4) (eCall f__law_next (aCons (eVar 1) (aCons (eB pLen (aCons (eVar 4) aNil)) aNil)))))
    (sSeq (sSet 7 (eCall f__law_walked (aCons (eVar 6) (aCons (eOp pIdx (eOp pIdx (eOp pIdx (eVar 6) (eC (.int 1))) (eUn pNeg (eC (.int 1)))) (eC (.int 0))) (aCons (eOp pIdx (eOp pIdx (eOp pIdx (eVar 6) (eC (.int 1))) (eUn pNeg (eC (.int 1)))) (eC (.int 1))) aNil)))))
    (sSeq (sSet 8 (eLst (aCons (eVar 7) (aCons (eTup (aCons (eOp pAdd (eC (.int 1)) (eCall f__law_next (aCons (eVar 1) (aCons (eC (.int 40)) aNil)))) (aCons (eC (.int 1)) aNil))) (aCons (eCall f__law_f (aCons (eOp pAdd (eC (.int 8)) (eCall f__law_next (aCons (eVar 1) (aCons (eC (.int 400)) aNil)))) (aCons (eC (.int 8)) aNil))) (aCons (eTup (aCons (eOp pPow (eC (.int 10)) (eC (.int 12))) (aCons (eC (.int 1)) aNil))) aNil))))))
    (sSeq (sSet 8 (eOp pIdx (eVar 8) (eCall f__law_next (aCons (eVar 1) (aCons (eC (.int 4)) aNil)))))
    (sSeq (sAsgT (gTupF [9, 10]) (eCall f_most_found (aCons (eVar 2) (aCons (eVar 3) (aCons (eVar 8) aNil)))))
    (sSeq (sIf (tOrX (tNotX (tTru (eB (pIsi ownCs) (aCons (eVar 10) (aCons (eC (.glo "Plan")) aNil))))) (tOrX (tBl (eOp pNe (eProp "Plan" f_Plan_roads (eVar 10)) (eVar 2))) (tBl (eOp pNe (eProp "Plan" f_Plan_cost (eVar 10)) (eTup (aCons (eC (.int 0)) (aCons (eC (.int 1)) aNil))))))) (sRet (eC (.bl false))) sNil)
    (sSeq (sIf (tBl (eOp pNe (eCall f__law_weight (aCons (eLst (aCons (eVar 2) (aCons (eProp "Plan" f_Plan_turns (eVar 10)) (aCons (eTup (aCons (eC (.int 0)) (aCons (eC (.int 1)) aNil))) aNil)))) (aCons (eVar 3) (aCons (eVar 8) aNil)))) (eVar 9))) (sRet (eC (.bl false))) sNil)
    (sRet (eOp pEq (eB pMaxL (aCons (eLc (eIter (eVar 4)) (gVar 12) tYesX (eCall f__law_weight (aCons (eVar 12) (aCons (eVar 3) (aCons (eVar 8) aNil)))) [12]) aNil)) (eVar 9)))))))))))))))
def f_law : List PV → IH → Res PV := fn 1 12 b_law

end WR

namespace WR
open PySem PySem.Spec PyProof.Rows L2
/-! ### data -/
@[simp] theorem data_int (n : Nat) (h : IH) (i : Int) : dataOf n h (.int i) = some (.int i) := by cases n <;> rfl
@[simp] theorem data_bl (n : Nat) (h : IH) (b : Bool) : dataOf n h (.bl b) = some (.bool b) := by cases n <;> rfl
@[simp] theorem data_non (n : Nat) (h : IH) : dataOf n h .non = some .none := by cases n <;> rfl
@[simp] theorem data_str (n : Nat) (h : IH) (x : Str) : dataOf n h (.str x) = some (.str x) := by cases n <;> rfl
theorem shaped_int (i : Int) : SeqAt.shaped (.int i) = true := by
  simp [SeqAt.shaped, PyData.canLay0, PyData.depth]
@[simp] theorem eqB_int (i j : Int) (h : IH) : pEqB (.int i) (.int j) h = some (i == j) := by
  simp [pEqB, shaped_int, PyData.eqv]
/-! ### fractions -/
def fq (q : Rat) : PV := .tup [.int q.num, .int q.den]
/-- of at most N bits -/
def Sm (N : Nat) (q : Rat) : Prop := q.num.natAbs < 2 ^ N ∧ q.den < 2 ^ N
theorem Sm.mono {M N : Nat} {q : Rat} (h : Sm M q) (l : M ≤ N) : Sm N q := ⟨Nat.lt_of_lt_of_le h.1 (Nat.pow_le_pow_right (by decide) l), Nat.lt_of_lt_of_le h.2 (Nat.pow_le_pow_right (by decide) l)⟩
theorem log_of {n N : Nat} (h : n < 2 ^ N) (hN : 0 < N) : n.log2 < N := by
  by_cases h0 : n = 0
  · subst h0; simpa using hN
  · exact (Nat.log2_lt h0).mpr h
theorem mul_ok {i j : Int} {A B : Nat} (hi : i.natAbs < 2 ^ A) (hj : j.natAbs < 2 ^ B) (h : A + B ≤ 999990) : mulOk i j = true := by
  unfold mulOk
  have h1 : i.natAbs.log2 < A + 1 := log_of (Nat.lt_of_lt_of_le hi (Nat.pow_le_pow_right (by decide) (by omega))) (by omega)
  have h2 : j.natAbs.log2 < B + 1 := log_of (Nat.lt_of_lt_of_le hj (Nat.pow_le_pow_right (by decide) (by omega))) (by omega)
  have h3 : i.natAbs.log2 + j.natAbs.log2 < 1000000 := by omega
  rw [Bool.or_eq_true]
  exact .inr (decide_eq_true h3)
/-! ### Euclid -/
theorem euc_loop {c : TX} {B : SX} {P : Int → Int → Prop} (r : Fm) (h : IH) (hc0 : ∀ a, c (some (.int a) :: some (.int 0) :: r) h = .ok false h)
    (hc : ∀ a b, 0 < b → c (some (.int a) :: some (.int b) :: r) h = .ok true h)
    (hB : ∀ a b, 0 ≤ a → 0 < b → P a b → B (some (.int a) :: some (.int b) :: r) h = .nx (some (.int b) :: some (.int (a % b)) :: r) h ∧ P b (a % b)) :
    ∀ (n : Nat) (a b : Int), 0 ≤ a → 0 ≤ b → b < 2 ^ n → P a b → ∀ k, 2 * n + 1 ≤ k →
    ∃ z, whileL c B k (some (.int a) :: some (.int b) :: r) h = .nx (some (.int (Int.gcd a b)) :: some (.int z) :: r) h := by
  intro n
  induction n with
  | zero =>
    intro a b ha hb hl hp k hk
    have b0 : b = 0 := by omega
    subst b0
    obtain ⟨k, rfl⟩ : ∃ m, k = m + 1 := ⟨k - 1, by omega⟩
    refine ⟨0, ?_⟩
    simp [whileL, hc0, Int.natAbs_of_nonneg ha]
  | succ n ih =>
    intro a b ha hb hl hp k hk
    obtain ⟨k, rfl⟩ : ∃ m, k = m + 2 := ⟨k - 2, by omega⟩
    by_cases b0 : b = 0
    · subst b0
      refine ⟨0, ?_⟩
      simp [whileL, hc0, Int.natAbs_of_nonneg ha]
    · have bp : 0 < b := by omega
      obtain ⟨s1, p1⟩ := hB a b ha bp hp
      have e1 : whileL c B (k + 2) (some (.int a) :: some (.int b) :: r) h = whileL c B (k + 1) (some (.int b) :: some (.int (a % b)) :: r) h := by
        rw [show k + 2 = (k + 1) + 1 from rfl]
        conv => lhs; unfold whileL
        simp [hc a b bp, s1]
      have m0 := Int.emod_nonneg a b0
      have m1 := Int.emod_lt_of_pos a bp
      by_cases r0 : a % b = 0
      · refine ⟨0, ?_⟩
        rw [e1, r0]
        have g : (Int.gcd a b : Int) = b := Int.gcd_eq_right hb (Int.dvd_of_emod_eq_zero r0)
        rw [g]
        simp [whileL, hc0]
      · have rp : 0 < a % b := by omega
        obtain ⟨s2, p2⟩ := hB b (a % b) hb rp p1
        have e2 : whileL c B (k + 1) (some (.int b) :: some (.int (a % b)) :: r) h = whileL c B k (some (.int (a % b)) :: some (.int (b % (a % b))) :: r) h := by
          conv => lhs; unfold whileL
          simp [hc b (a % b) rp, s2]
        rw [e1, e2]
        have q0 := Int.emod_nonneg b r0
        have q1 := Int.emod_lt_of_pos b rp
        have half : 2 * (b % (a % b)) < b := by
          have d := Int.emod_add_mul_ediv b (a % b)
          have dp : 1 ≤ b / (a % b) := Int.le_ediv_of_mul_le rp (show 1 * (a % b) ≤ b by omega)
          have : (a % b) * 1 ≤ (a % b) * (b / (a % b)) := Int.mul_le_mul_of_nonneg_left dp m0
          omega
        have hl2 : b % (a % b) < 2 ^ n := by
          rw [Int.pow_succ] at hl
          omega
        obtain ⟨z, e⟩ := ih (a % b) (b % (a % b)) m0 q0 hl2 p2 k (by omega)
        refine ⟨z, ?_⟩
        rw [e]
        have g : Int.gcd (a % b) (b % (a % b)) = Int.gcd a b := by
          obtain ⟨m, rfl⟩ := Int.eq_ofNat_of_zero_le ha
          obtain ⟨n', rfl⟩ := Int.eq_ofNat_of_zero_le hb
          rw [← Int.natCast_emod, ← Int.natCast_emod, Int.gcd_natCast_natCast, Int.gcd_natCast_natCast, Nat.gcd_comm, ← Nat.gcd_rec, ← Nat.gcd_rec, Nat.gcd_comm]
        rw [g]
theorem cast_lt {b : Int} {N : Nat} (hb : b.natAbs < 2 ^ N) : (b.natAbs : Int) < 2 ^ N := by
  have := Int.ofNat_lt.mpr hb
  rwa [Int.natCast_pow] at this
theorem abs_eq (a : Int) : (if a < 0 then -a else a) = (a.natAbs : Int) := by omega
theorem gcd_abs (a b : Int) : Int.gcd (a.natAbs : Int) (b.natAbs : Int) = Int.gcd a b := by simp [Int.gcd]
theorem common_eq (a b : Int) (h : IH) (hb : b.natAbs < 2 ^ 9000) : f_common [.int a, .int b] h = .ok (.int (Int.gcd a b)) h := by
  obtain ⟨z, e⟩ := euc_loop (c := tTru (eVar 1)) (B := sPar 0 1 (aCons (eVar 1) (aCons (eOp pMod (eVar 0) (eVar 1)) aNil))) (P := fun _ _ => True) [] h (by intro a; simp) (by intro a b hb; simp; omega)
    (by intro a b ha hb _; simp [hb]) 9000 (a.natAbs : Int) (b.natAbs : Int) (by omega) (by omega) (cast_lt hb) trivial LIM (by decide)
  rw [gcd_abs] at e
  simp [f_common, b_common, sWhile, abs_eq, e]
/-! ### reduced fractions -/
theorem div_ok {n : Int} {d : Nat} (hd : 0 < d) (hs : d < 2 ^ 9000) : (0 : Int) < (Int.gcd n d : Int) ∧ ((Int.gcd n d : Int)).natAbs.log2 < 9000 := by
  have g0 : 0 < Int.gcd n d := Int.gcd_pos_of_ne_zero_right n (by omega)
  have g1 : Int.gcd n d ≤ d := Nat.gcd_le_right n.natAbs hd
  refine ⟨Int.natCast_pos.mpr g0, ?_⟩
  rw [Int.natAbs_natCast]
  exact log_of (Nat.lt_of_le_of_lt g1 hs) (by decide)
theorem fq_mk (n : Int) (d : Nat) (hd : 0 < d) : fq (mkRat n d) = .tup [.int (n / (Int.gcd n d : Int)), .int ((d : Int) / (Int.gcd n d : Int))] := by
  have e : Int.gcd n d = d.gcd n.natAbs := by rw [Int.gcd_comm]; rfl
  unfold fq
  rw [Rat.num_mkRat, Rat.den_mkRat, if_neg (by omega), if_neg (by omega), e]
  rw [Int.natCast_ediv]
theorem ratio_eq (n : Int) (d : Nat) (h : IH) (hd : 0 < d) (hs : d < 2 ^ 9000) : f_ratio [.int n, .int d] h = .ok (fq (mkRat n d)) h := by
  obtain ⟨q0, q1⟩ := div_ok (n := n) hd hs
  have c := common_eq n d h (by rw [Int.natAbs_natCast]; exact hs)
  rw [fq_mk n d hd]
  generalize ((Int.gcd n d : Nat) : Int) = g at c q0 q1 ⊢
  simp [f_ratio, b_ratio, c, q0, q1]
theorem add_mk (a b : Rat) : a + b = mkRat (a.num * b.den + b.num * a.den) (a.den * b.den) := by
  rw [Rat.add_def, Rat.mkRat_def, dif_neg (Nat.mul_ne_zero a.den_nz b.den_nz)]
theorem mul_mk (a b : Rat) : a * b = mkRat (a.num * b.num) (a.den * b.den) := by
  rw [Rat.mul_def, Rat.mkRat_def, dif_neg (Nat.mul_ne_zero a.den_nz b.den_nz)]
theorem den_lt {a b : Rat} {A B : Nat} (ha : Sm A a) (hb : Sm B b) : a.den * b.den < 2 ^ (A + B) := by
  rw [Nat.pow_add]; exact Nat.mul_lt_mul'' ha.2 hb.2
theorem den_pos (a : Rat) : 0 < a.den := Nat.pos_of_ne_zero a.den_nz
theorem Sm.dn {A : Nat} {a : Rat} (h : Sm A a) : (a.den : Int).natAbs < 2 ^ A := by rw [Int.natAbs_natCast]; exact h.2
theorem plus_eq {A B : Nat} {a b : Rat} (ha : Sm A a) (hb : Sm B b) (hn : A + B ≤ 9000) (h : IH) : f_plus [fq a, fq b] h = .ok (fq (a + b)) h := by
  have r := ratio_eq (a.num * b.den + b.num * a.den) (a.den * b.den) h (Nat.mul_pos (den_pos a) (den_pos b)) (Nat.lt_of_lt_of_le (den_lt ha hb) (Nat.pow_le_pow_right (by decide) hn))
  rw [Int.natCast_mul] at r
  simp [f_plus, b_plus, fq, atI, ixN, mul_ok ha.1 hb.dn (by omega), mul_ok hb.1 ha.dn (by omega), mul_ok ha.dn hb.dn (by omega), r, add_mk]
theorem times_eq {A B : Nat} {a b : Rat} (ha : Sm A a) (hb : Sm B b) (hn : A + B ≤ 9000) (h : IH) : f_times [fq a, fq b] h = .ok (fq (a * b)) h := by
  have r := ratio_eq (a.num * b.num) (a.den * b.den) h (Nat.mul_pos (den_pos a) (den_pos b)) (Nat.lt_of_lt_of_le (den_lt ha hb) (Nat.pow_le_pow_right (by decide) hn))
  rw [Int.natCast_mul] at r
  simp [f_times, b_times, fq, atI, ixN, mul_ok ha.1 hb.1 (by omega), mul_ok ha.dn hb.dn (by omega), r, mul_mk]
theorem less_eq {A B : Nat} {a b : Rat} (ha : Sm A a) (hb : Sm B b) (hn : A + B ≤ 9000) (h : IH) : f_is_less [fq a, fq b] h = .ok (.bl (decide (a < b))) h := by
  simp [f_is_less, b_is_less, fq, atI, ixN, mul_ok ha.1 hb.dn (by omega), mul_ok hb.1 ha.dn (by omega), Rat.lt_iff]
theorem num_pos {b : Rat} (hb : 0 < b) : 0 < b.num := by
  have := (Rat.lt_iff 0 b).mp hb
  simpa using this
theorem div_mk (a b : Rat) (hb : 0 < b) : a / b = mkRat (a.num * b.den) (a.den * b.num.natAbs) := by
  have p := num_pos hb
  rw [Rat.div_def, mul_mk, Rat.num_inv, Rat.den_inv, if_neg (by omega), Int.sign_eq_one_of_pos p, Int.one_mul]
/-! sizes of results -/
theorem mk_small {n : Int} {d N : Nat} (hn : n.natAbs < 2 ^ N) (hd : d < 2 ^ N) (h0 : 0 < d) : Sm N (mkRat n d) := by
  have e1 : (mkRat n d).num.natAbs ≤ n.natAbs := by
    rw [Rat.num_mkRat, if_neg (by omega)]
    exact Int.natAbs_ediv_le_natAbs _ _
  have e2 : (mkRat n d).den ≤ d := by
    rw [Rat.den_mkRat, if_neg (by omega)]
    exact Nat.div_le_self _ _
  exact ⟨Nat.lt_of_le_of_lt e1 hn, Nat.lt_of_le_of_lt e2 hd⟩
theorem Sm.add {A B : Nat} {a b : Rat} (ha : Sm A a) (hb : Sm B b) : Sm (A + B + 1) (a + b) := by
  rw [add_mk]
  refine mk_small ?_ (Nat.lt_of_lt_of_le (den_lt ha hb) (Nat.pow_le_pow_right (by decide) (by omega))) (Nat.mul_pos (den_pos a) (den_pos b))
  have x : (a.num * b.den).natAbs < 2 ^ (A + B) := by rw [Int.natAbs_mul, Nat.pow_add]; exact Nat.mul_lt_mul'' ha.1 hb.dn
  have y : (b.num * a.den).natAbs < 2 ^ (A + B) := by rw [Int.natAbs_mul, Nat.pow_add, Nat.mul_comm]; exact Nat.mul_lt_mul'' ha.dn hb.1
  have z := Int.natAbs_add_le (a.num * b.den) (b.num * a.den)
  rw [Nat.pow_succ]
  generalize 2 ^ (A + B) = M at x y ⊢
  omega
theorem Sm.mul {A B : Nat} {a b : Rat} (ha : Sm A a) (hb : Sm B b) : Sm (A + B) (a * b) := by
  rw [mul_mk]
  refine mk_small ?_ (den_lt ha hb) (Nat.mul_pos (den_pos a) (den_pos b))
  rw [Int.natAbs_mul, Nat.pow_add]; exact Nat.mul_lt_mul'' ha.1 hb.1
theorem Sm.div {A B : Nat} {a b : Rat} (ha : Sm A a) (hb : Sm B b) (hp : 0 < b) : Sm (A + B) (a / b) := by
  have p := num_pos hp
  rw [div_mk a b hp]
  refine mk_small ?_ (by rw [Nat.pow_add]; exact Nat.mul_lt_mul'' ha.2 hb.1) (Nat.mul_pos (den_pos a) (by omega))
  rw [Int.natAbs_mul, Nat.pow_add]; exact Nat.mul_lt_mul'' ha.1 hb.dn
/-! ### the law's own fractions -/
theorem part_eq (a b : Int) (h : IH) (ha : a.natAbs < 2 ^ 30000) (hb : b.natAbs < 2 ^ 9000) : f__law_part [.int a, .int b] h = .ok (.int (Int.gcd a b)) h := by
  obtain ⟨z, e⟩ := euc_loop (c := tBl (eOp pNe (eVar 1) (eC (.int 0)))) (B := sPar 0 1 (aCons (eVar 1) (aCons (eOp pSub (eVar 0) (eOp pMul (eOp pDiv (eVar 0) (eVar 1)) (eVar 1))) aNil)))
    (P := fun a b => a.natAbs < 2 ^ 30000 ∧ b.natAbs < 2 ^ 9000) [] h (by intro a; simp) (by intro a b hb; simp; omega)
    (by
      intro a b ha hb hp
      obtain ⟨p1, p2⟩ := hp
      have l : b.natAbs.log2 < 9000 := log_of p2 (by decide)
      have q : (a / b).natAbs < 2 ^ 30000 := Nat.lt_of_le_of_lt (Int.natAbs_ediv_le_natAbs _ _) p1
      have m := mul_ok q p2 (by decide)
      have e1 : a - a / b * b = a % b := by rw [Int.emod_def, Int.mul_comm]
      refine ⟨by simp [hb, l, m, e1], Nat.lt_of_lt_of_le p2 (Nat.pow_le_pow_right (by decide) (by decide)), ?_⟩
      have m0 := Int.emod_nonneg a (show b ≠ 0 by omega)
      have m1 := Int.emod_lt_of_pos a hb
      refine Nat.lt_trans ?_ p2
      omega) 9000 (a.natAbs : Int) (b.natAbs : Int) (by omega) (by omega) (cast_lt hb) (by simpa using ⟨ha, hb⟩) LIM (by decide)
  rw [gcd_abs] at e
  simp [f__law_part, b__law_part, sWhile, abs_eq, e]
theorem lf_eq (n : Int) (d : Nat) (h : IH) (hn : n.natAbs < 2 ^ 30000) (hd : 0 < d) (hs : d < 2 ^ 9000) : f__law_f [.int n, .int d] h = .ok (fq (mkRat n d)) h := by
  obtain ⟨q0, q1⟩ := div_ok (n := n) hd hs
  have c := part_eq n d h hn (by rw [Int.natAbs_natCast]; exact hs)
  rw [fq_mk n d hd]
  generalize ((Int.gcd n d : Nat) : Int) = g at c q0 q1 ⊢
  simp [f__law_f, b__law_f, c, q0, q1]
end WR

namespace WR
open PySem PySem.Spec PyProof.Rows L2
/-! ### the heap -/
theorem get_new {h : IH} {o : MO} : (h ++ [o])[h.length]? = some o := by simp
@[simp] theorem ga0 {h t : IH} : (h ++ t)[h.length]? = t[0]? := by rw [List.getElem?_append_right (Nat.le_refl _), Nat.sub_self]
@[simp] theorem ga1 {h t : IH} {k : Nat} : (h ++ t)[h.length + k]? = t[k]? := by rw [List.getElem?_append_right (by omega)]; congr 1; omega
theorem get_old {h : IH} {o : MO} {t : IH} {n : Nat} (e : h[n]? = some o) : (h ++ t)[n]? = some o := by
  rw [List.getElem?_append_left (List.getElem?_eq_some_iff.mp e).1]; exact e
theorem lt_of_get {h : IH} {o : MO} {n : Nat} (e : h[n]? = some o) : n < h.length := (List.getElem?_eq_some_iff.mp e).1
theorem atI_pos {α : Type} (xs : List α) (i : Int) (h0 : 0 ≤ i) (h1 : i < xs.length) : atI xs i = xs[i.toNat]? := by
  simp [atI, ixN, h0, h1]
@[simp] theorem atI_0 {α : Type} (x : α) (xs : List α) : atI (x :: xs) 0 = some x := by rw [atI_pos _ _ (by decide) (by simp)]; rfl
@[simp] theorem atI_1 {α : Type} (x y : α) (xs : List α) : atI (x :: y :: xs) 1 = some y := by rw [atI_pos _ _ (by decide) (by simp; omega)]; rfl
@[simp] theorem atI_2 {α : Type} (x y z : α) (xs : List α) : atI (x :: y :: z :: xs) 2 = some z := by rw [atI_pos _ _ (by decide) (by simp; omega)]; rfl
@[simp] theorem atI_m1 {α : Type} (x : α) (xs : List α) : atI (xs ++ [x]) (-1) = some x := by
  have : (1 : Int) ≤ (xs.length : Int) + 1 := by omega
  have t : (-1 + ((xs.length : Int) + 1)).toNat = xs.length := by omega
  simp [atI, ixN, this, t]
/-- the draw machine -/
structure DS (hi ci : Nat) (h : IH) : Prop where
  ne : hi ≠ ci
  st : ∃ a b : Int, h[hi]? = some (.lst [.int a, .obj ci, .int b])
  ce : ∃ cs : List Int, h[ci]? = some (.lst (cs.map .int)) ∧ cs.length ≤ 63
/-- all but the machine stays -/
structure Kp (hi ci : Nat) (h h' : IH) : Prop where
  le : h.length ≤ h'.length
  get : ∀ n o, n ≠ hi → n ≠ ci → h[n]? = some o → h'[n]? = some o
theorem Kp.refl (hi ci : Nat) (h : IH) : Kp hi ci h h := ⟨Nat.le_refl _, fun _ _ _ _ e => e⟩
theorem Kp.trans {hi ci : Nat} {h h1 h2 : IH} (a : Kp hi ci h h1) (b : Kp hi ci h1 h2) : Kp hi ci h h2 := ⟨Nat.le_trans a.le b.le, fun n o x y e => b.get n o x y (a.get n o x y e)⟩
theorem Kp.app (hi ci : Nat) (h t : IH) : Kp hi ci h (h ++ t) := ⟨by simp, fun _ _ _ _ e => get_old e⟩
theorem DS.app {hi ci : Nat} {h : IH} (d : DS hi ci h) (t : IH) : DS hi ci (h ++ t) := by
  obtain ⟨a, b, e⟩ := d.st
  obtain ⟨cs, f, l⟩ := d.ce
  exact ⟨d.ne, ⟨a, b, get_old e⟩, ⟨cs, get_old f, l⟩⟩
theorem next_eq {hi ci : Nat} {h : IH} (d : DS hi ci h) (b : Int) (h0 : 0 < b) (hs : b.natAbs.log2 < 9000) :
    ∃ r h', f__law_next [.obj hi, .int b] h = .ok (.int r) h' ∧ 0 ≤ r ∧ r < b ∧ DS hi ci h' ∧ Kp hi ci h h' := by
  obtain ⟨a, ix, e⟩ := d.st
  obtain ⟨cs, f, l⟩ := d.ce
  have hne := d.ne
  have lh := lt_of_get e
  have lc := lt_of_get f
  obtain ⟨M, hM, mb, m6, mn⟩ : ∃ M : Int, (if 1 < (cs.length : Int) then (cs.length : Int) else 1) = M ∧ 0 < M ∧ M ≤ 63 ∧ M ≤ cs.length + 1 := by
    refine ⟨_, rfl, ?_, ?_, ?_⟩ <;> split <;> omega
  have ml : M.natAbs.log2 < 9000 := log_of (Nat.lt_of_lt_of_le (show _ < 2 ^ 7 by omega) (Nat.pow_le_pow_right (by decide) (by decide))) (by decide)
  have i0 := Int.emod_nonneg ix (show M ≠ 0 by omega)
  have i1 := Int.emod_lt_of_pos ix mb
  obtain ⟨c, hc, h1⟩ : ∃ c : Int, atI (cs.map PV.int ++ [.int 0]) (ix % M) = some (.int c) ∧ (0 < c → 0 < cs.length) := by
    rw [atI_pos _ _ i0 (by simp; omega)]
    by_cases q : (ix % M).toNat < cs.length
    · exact ⟨cs[(ix % M).toNat], by rw [List.getElem?_append_left (by simpa using q)]; simp [q], fun _ => by omega⟩
    · have : (ix % M).toNat = cs.length := by omega
      exact ⟨0, by rw [this]; simp, by simp⟩
  have e1 : ∀ t, (h ++ t)[hi]? = some (.lst [.int a, .obj ci, .int ix]) := fun t => get_old e
  have f1 : ∀ t, (h ++ t)[ci]? = some (.lst (cs.map .int)) := fun t => get_old f
  have gb : (10 : Int) ^ 18 = 1000000000000000000 := by decide
  have l2 : cs.length ≤ 16777215 := by omega
  by_cases big : (1000000000000000000 : Int) ≤ c
  · have n0 : 0 < cs.length := h1 (by omega)
    have n0' : (0 : Int) < cs.length := by omega
    have nl : cs.length.log2 < 9000 := log_of (Nat.lt_of_lt_of_le (show _ < 2 ^ 7 by omega) (Nat.pow_le_pow_right (by decide) (by decide))) (by decide)
    have j0 := Int.emod_nonneg ix (show (cs.length : Int) ≠ 0 by omega)
    have j1 := Int.emod_lt_of_pos ix n0'
    simp [f__law_next, b__law_next, e, f, e1, f1, hc, hM, mb, ml, l2, big, hs, h0, hne, hne.symm, ixN, mulOk, gb, n0, nl, j0, j1]
    refine ⟨_, _, ⟨rfl, rfl⟩, Int.emod_nonneg _ (by omega), Int.emod_lt_of_pos _ h0, ⟨hne, ⟨a, ix, ?_⟩, ⟨cs.set (ix % cs.length).toNat (c / b), ?_, ?_⟩⟩, ⟨by simp, fun n o p q r => ?_⟩⟩
    · rw [List.getElem?_set_ne (Ne.symm hne)]; exact e1 _
    · rw [List.getElem?_set_self (by simp; omega), List.map_set]
    · simpa using l
    · rw [List.getElem?_set_ne (Ne.symm q)]; exact get_old r
  · have w1 : ∀ t o, ((h ++ t).set hi o)[hi]? = some o := fun t o => by rw [List.getElem?_set_self (by simp; omega)]
    simp [f__law_next, b__law_next, e, f, e1, f1, hc, hM, mb, ml, l2, big, hs, h0, hne, hne.symm, ixN, mulOk, gb, w1, show Nat.log2 7 < 9000 from by decide]
    refine ⟨_, _, ⟨rfl, rfl⟩, Int.emod_nonneg _ (by omega), Int.emod_lt_of_pos _ h0, ⟨hne, ⟨_, _, w1 _ _⟩, ⟨cs, ?_, l⟩⟩, ⟨by simp, fun n o p q r => ?_⟩⟩
    · rw [List.getElem?_set_ne hne]; exact f1 _
    · rw [List.getElem?_set_ne (Ne.symm p)]; exact get_old r
/-! ### the first state -/
theorem mix_loop (h : IH) (ns : List Int) (s : Int) (v : PV) : ∀ (k : Nat) (i : Nat) (a : Int) (c : Option PV), ns.length - i < k →
    ∃ a' c', forL (itList (ns.map PV.int)) (gVar 3) (sSet 2 (eOp pMod (eB pInt1 (aCons (eOp pAdd (eOp pAdd (eOp pMul (eVar 2) (eC (.int 48271))) (eOp pMod (eB pInt1 (aCons (eVar 3) aNil)) (eC (.int 2147483629)))) (eC (.int 1))) aNil)) (eC (.int 2147483647)))) k i [some v, some (.int s), some (.int a), c] h
      = .nx [some v, some (.int s), some (.int a'), c'] h := by
  intro k
  induction k with
  | zero => intro i a c hk; omega
  | succ k ih =>
    intro i a c hk
    by_cases q : i < ns.length
    · obtain ⟨a', c', e⟩ := ih (i + 1) ((a * 48271 + ns[i] % 2147483629 + 1) % 2147483647) (some (.int ns[i])) (by omega)
      refine ⟨a', c', ?_⟩
      rw [← e]
      conv => lhs; unfold forL
      simp [q, mulOk]
    · refine ⟨a, c, ?_⟩
      unfold forL
      simp [q]
theorem mix_eq (ns : List Int) (s : Int) (hl : ns.length ≤ 63) (h : IH) : ∃ h', f__law_mix [.fls (ns.map .int), .int s] h = .ok (.obj (h.length + 1)) h' ∧ DS (h.length + 1) h.length h' ∧ Kp (h.length + 1) h.length h h' := by
  obtain ⟨a', c', e⟩ := mix_loop h ns s (.fls (ns.map .int)) LIM 0 s none (by simp [LIM]; omega)
  refine ⟨h ++ [.lst (ns.map .int), .lst [.int a', .obj h.length, .int 0]], ?_, ⟨by omega, ⟨a', 0, by rw [ga1]; rfl⟩, ⟨ns, by rw [ga0]; rfl, hl⟩⟩, Kp.app _ _ _ _⟩
  simp [f__law_mix, b__law_mix, sFor, e, show ns.length ≤ 16777216 by omega]
end WR

namespace WR
open PySem PySem.Spec PyProof.Rows L2
/-! ### equality of data -/
structure EncOk {α : Type} [DecidableEq α] (n : Nat) (enc : α → PV) (den : α → PyData) : Prop where
  dat : ∀ m h a, n ≤ m → dataOf m h (enc a) = some (den a)
  lay : ∀ a, (den a).canLay0 = true
  dep : ∀ a, (den a).depth ≤ n + 1
  eqv : ∀ a b, PyData.eqv (den a) (den b) = decide (a = b)
theorem EncOk.eq {α : Type} [DecidableEq α] {n : Nat} {enc : α → PV} {den : α → PyData} (e : EncOk n enc den) (hn : n ≤ 12) (a b : α) (h : IH) : pEqB (enc a) (enc b) h = some (decide (a = b)) := by
  have s : ∀ a, SeqAt.shaped (den a) = true := fun a => by
    have := e.dep a
    simp [SeqAt.shaped, e.lay a]; omega
  simp [pEqB, e.dat DEP h _ hn, s, e.eqv]
theorem EncOk.int : EncOk 0 PV.int PyData.int := ⟨fun m h a _ => by simp, fun a => by simp [PyData.canLay0], fun a => by simp [PyData.depth], fun a b => by simp [PyData.eqv]; rfl⟩
theorem optAll_map {α β γ : Type} {f : β → Option γ} {g : α → β} {d : α → γ} (xs : List α) (h : ∀ a ∈ xs, f (g a) = some (d a)) : optAll f (xs.map g) = some (xs.map d) := by
  induction xs with
  | nil => rfl
  | cons x xs ih => simp only [List.map, optAll, h x (by simp), ih fun a ha => h a (by simp [ha])]
theorem canAll {α : Type} {d : α → PyData} (xs : List α) (h : ∀ a, (d a).canLay0 = true) : PyData.canLayAll0 (xs.map d) = true := by
  induction xs with
  | nil => rfl
  | cons x xs ih => simp [PyData.canLayAll0, h, ih]
theorem depAll {α : Type} {d : α → PyData} {n : Nat} (xs : List α) (h : ∀ a, (d a).depth ≤ n) : PyData.depthAll (xs.map d) ≤ n := by
  induction xs with
  | nil => simp [PyData.depthAll]
  | cons x xs ih =>
    have := h x
    simp only [List.map, PyData.depthAll]; omega
theorem eqvAll_map {α : Type} [DecidableEq α] {d : α → PyData} (h : ∀ a b, PyData.eqv (d a) (d b) = decide (a = b)) : ∀ xs ys : List α, PyData.eqvAll (xs.map d) (ys.map d) = decide (xs = ys)
  | [], [] => by simp [PyData.eqvAll]
  | [], y :: ys => by simp [PyData.eqvAll]
  | x :: xs, [] => by simp [PyData.eqvAll]
  | x :: xs, y :: ys => by simp [PyData.eqvAll, h, eqvAll_map h xs ys]
theorem EncOk.list {α : Type} [DecidableEq α] {n : Nat} {enc : α → PV} {den : α → PyData} (e : EncOk n enc den) : EncOk (n + 1) (fun xs : List α => .tup (xs.map enc)) (fun xs => .tuple (xs.map den)) := by
  refine ⟨fun m h a hm => ?_, fun a => ?_, fun a => ?_, fun a b => ?_⟩
  · obtain ⟨m, rfl⟩ : ∃ k, m = k + 1 := ⟨m - 1, by omega⟩
    simp only [dataOf, optAll_map a fun x _ => e.dat m h x (by omega), Option.map]
  · simp [PyData.canLay0, canAll a e.lay]
  · have := depAll a e.dep
    simp [PyData.depth]; omega
  · simp [PyData.eqv, eqvAll_map e.eqv]
theorem EncOk.pair {α β : Type} [DecidableEq α] [DecidableEq β] {n m : Nat} {enc : α → PV} {den : α → PyData} {enc' : β → PV} {den' : β → PyData} (e : EncOk n enc den) (f : EncOk m enc' den') :
    EncOk (n + m + 1) (fun x : α × β => .tup [enc x.1, enc' x.2]) (fun x => .tuple [den x.1, den' x.2]) := by
  refine ⟨fun k h a hm => ?_, fun a => ?_, fun a => ?_, fun a b => ?_⟩
  · obtain ⟨k, rfl⟩ : ∃ j, k = j + 1 := ⟨k - 1, by omega⟩
    simp only [dataOf, optAll, e.dat k h _ (by omega), f.dat k h _ (by omega), Option.map]
  · simp [PyData.canLay0, PyData.canLayAll0, e.lay, f.lay]
  · have := e.dep a.1
    have := f.dep a.2
    simp [PyData.depth, PyData.depthAll]; omega
  · simp [PyData.eqv, PyData.eqvAll, e.eqv, f.eqv, Prod.ext_iff]
theorem EncOk.rat : EncOk 1 fq fun q => .tuple [.int q.num, .int q.den] := by
  refine ⟨fun k h a hm => ?_, fun a => ?_, fun a => ?_, fun a b => ?_⟩
  · obtain ⟨k, rfl⟩ : ∃ j, k = j + 1 := ⟨k - 1, by omega⟩
    simp [fq, dataOf, optAll]
  · simp [PyData.canLay0, PyData.canLayAll0]
  · simp [PyData.depth, PyData.depthAll]
  · have x : (a = b) ↔ (a.num = b.num ∧ a.den = b.den) := ⟨fun h => by subst h; exact ⟨rfl, rfl⟩, fun h => Rat.ext h.1 h.2⟩
    simp only [PyData.eqv, PyData.eqvAll, decide_eq_decide.mpr x]
    simp [Int.natCast_inj, Bool.beq_eq_decide_eq]
/-- a fraction or None -/
def oq : Option Rat → PV
  | none => .non
  | some q => fq q
def oqD : Option Rat → PyData
  | none => .none
  | some q => .tuple [.int q.num, .int q.den]
theorem EncOk.opt : EncOk 1 oq oqD := by
  have e := EncOk.rat
  refine ⟨fun k h a hm => ?_, fun a => ?_, fun a => ?_, fun a b => ?_⟩
  · cases a with
    | none => simp [oq, oqD]
    | some q => exact e.dat k h q hm
  · cases a with
    | none => simp [oqD, PyData.canLay0]
    | some q => exact e.lay q
  · cases a with
    | none => simp [oqD, PyData.depth]
    | some q => exact e.dep q
  · cases a <;> cases b
    · simp [oqD, PyData.eqv]
    · simp [oqD, PyData.eqv]
    · simp [oqD, PyData.eqv]
    · rename_i a b
      have := e.eqv a b
      simp [oqD]
      rw [this]
@[simp] theorem eq_oq (a b : Option Rat) (h : IH) : pEqB (oq a) (oq b) h = some (decide (a = b)) := EncOk.opt.eq (by decide) a b h
@[simp] theorem eq_fq (a b : Rat) (h : IH) : pEqB (fq a) (fq b) h = some (decide (a = b)) := EncOk.rat.eq (by decide) a b h
/-- a turn -/
def tq (t : Int × Rat) : PV := .tup [.int t.1, fq t.2]
def tqs (T : List (Int × Rat)) : PV := .tup (T.map tq)
theorem EncOk.turn : EncOk 2 tq fun t => .tuple [.int t.1, .tuple [.int t.2.num, .int t.2.den]] := EncOk.int.pair EncOk.rat
theorem EncOk.turns : EncOk 3 tqs fun T => .tuple (T.map fun t => .tuple [.int t.1, .tuple [.int t.2.num, .int t.2.den]]) := EncOk.turn.list
/-- what a plan holds -/
def pq (x : Int × List (Int × Rat) × Rat) : PV := .tup [.int x.1, tqs x.2.1, fq x.2.2]
def pqD (x : Int × List (Int × Rat) × Rat) : PyData := .tuple [.int x.1, .tuple (x.2.1.map fun t => .tuple [.int t.1, .tuple [.int t.2.num, .int t.2.den]]), .tuple [.int x.2.2.num, .int x.2.2.den]]
theorem EncOk.plan : EncOk 4 pq pqD := by
  have e := EncOk.turns
  have f := EncOk.rat
  refine ⟨fun k h a hm => ?_, fun a => ?_, fun a => ?_, fun a b => ?_⟩
  · obtain ⟨k, rfl⟩ : ∃ j, k = j + 1 := ⟨k - 1, by omega⟩
    simp only [pq, pqD, dataOf, optAll, data_int, e.dat k h _ (by omega), f.dat k h _ (by omega), Option.map]
  · have := e.lay a.2.1
    have := f.lay a.2.2
    simp [pqD, PyData.canLay0, PyData.canLayAll0] at *; assumption
  · have := e.dep a.2.1
    simp [pqD, PyData.depth, PyData.depthAll] at *; omega
  · have := e.eqv a.2.1 b.2.1
    have g := f.eqv a.2.2 b.2.2
    simp only [pqD, PyData.eqv, PyData.eqvAll] at *
    rw [this, g]
    simp [Prod.ext_iff, Bool.beq_eq_decide_eq]
@[simp] theorem eq_pq (a b : Int × List (Int × Rat) × Rat) (h : IH) : pEqB (pq a) (pq b) h = some (decide (a = b)) := EncOk.plan.eq (by decide) a b h
@[simp] theorem eq_tqs (a b : List (Int × Rat)) (h : IH) : pEqB (tqs a) (tqs b) h = some (decide (a = b)) := EncOk.turns.eq (by decide) a b h
@[simp] theorem eq_tqs0 (a : List (Int × Rat)) (h : IH) : pEqB (tqs a) (.tup []) h = some (decide (a = [])) := EncOk.turns.eq (by decide) a [] h
/-! ### loops -/
@[simp] def stepF (it : ItF) (g : TgF) (B : SX) (i : Nat) (r : Fm) (h : IH) : RS := match it i h with
  | some (some v) => (match g v r with
    | some r1 => B r1 h
    | none => .bad)
  | _ => .bad
theorem for_nx {it : ItF} {g : TgF} {B : SX} {k i : Nat} {r r2 : Fm} {h h2 : IH} (e : stepF it g B i r h = .nx r2 h2) : forL it g B (k + 1) i r h = forL it g B k (i + 1) r2 h2 := by
  conv => lhs; unfold forL
  unfold stepF at e
  split at e
  · rename_i v q
    rw [q]
    split at e
    · rename_i r1 q1
      simp only [q1, e]
    · cases e
  · cases e
theorem for_rt {it : ItF} {g : TgF} {B : SX} {k i : Nat} {r : Fm} {h h2 : IH} {v : PV} (e : stepF it g B i r h = .rt v h2) : forL it g B (k + 1) i r h = .rt v h2 := by
  conv => lhs; unfold forL
  unfold stepF at e
  split at e
  · rename_i v q
    rw [q]
    split at e
    · rename_i r1 q1
      simp only [q1, e]
    · cases e
  · cases e
theorem for_end {it : ItF} {g : TgF} {B : SX} {k i : Nat} {r : Fm} {h : IH} (e : it i h = some none) : forL it g B (k + 1) i r h = .nx r h := by
  unfold forL
  rw [e]
theorem forE (I : Fm → IH → Res ItF) (g : TgF) (B : SX) (r : Fm) (h : IH) : sFor I g B r h = toS (I r h) r fun it h1 => forL it g B LIM 0 r h1 := rfl
/-- a loop that returns nowhere -/
theorem for_inv {it : ItF} {g : TgF} {B : SX} {n : Nat} (I : Nat → Fm → IH → Prop)
    (hs : ∀ i r h, i < n → I i r h → ∃ r2 h2, stepF it g B i r h = .nx r2 h2 ∧ I (i + 1) r2 h2)
    (he : ∀ r h, I n r h → it n h = some none) : ∀ (k i : Nat) (r : Fm) (h : IH), n - i < k → i ≤ n → I i r h → ∃ r' h', forL it g B k i r h = .nx r' h' ∧ I n r' h' := by
  intro k
  induction k with
  | zero => intro i r h hk; omega
  | succ k ih =>
    intro i r h hk hi hI
    by_cases q : i < n
    · obtain ⟨r2, h2, e3, e4⟩ := hs i r h q hI
      rw [for_nx e3]
      exact ih (i + 1) r2 h2 (by omega) (by omega) e4
    · have : i = n := by omega
      subst this
      exact ⟨r, h, for_end (he r h hI), hI⟩
/-- a loop that may return -/
theorem for_ret {it : ItF} {g : TgF} {B : SX} {n : Nat} (I : Nat → Fm → IH → Prop) (P : PV → IH → Prop)
    (hs : ∀ i r h, i < n → I i r h → (∃ r2 h2, stepF it g B i r h = .nx r2 h2 ∧ I (i + 1) r2 h2) ∨ ∃ w h2, stepF it g B i r h = .rt w h2 ∧ P w h2)
    (he : ∀ r h, I n r h → it n h = some none) : ∀ (k i : Nat) (r : Fm) (h : IH), n - i < k → i ≤ n → I i r h → (∃ r' h', forL it g B k i r h = .nx r' h' ∧ I n r' h') ∨ ∃ w h', forL it g B k i r h = .rt w h' ∧ P w h' := by
  intro k
  induction k with
  | zero => intro i r h hk; omega
  | succ k ih =>
    intro i r h hk hi hI
    by_cases q : i < n
    · rcases hs i r h q hI with ⟨r2, h2, e3, e4⟩ | ⟨w, h2, e3, e4⟩
      · rw [for_nx e3]
        exact ih (i + 1) r2 h2 (by omega) (by omega) e4
      · exact .inr ⟨w, h2, for_rt e3, e4⟩
    · have : i = n := by omega
      subst this
      exact .inl ⟨r, h, for_end (he r h hI), hI⟩
end WR

namespace WR
open PySem PySem.Spec PyProof.Rows L2
/-! ### checks -/
@[simp] theorem integer_eq (i : Int) (h : IH) : f_is_integer [.int i] h = .ok (.bl true) h := by
  simp [f_is_integer, b_is_integer, tyNames, subTy]
@[simp] theorem from_eq (v a b : Int) (h : IH) : f_is_from [.int v, .int a, .int b] h = .ok (.bl (decide (a ≤ v ∧ v ≤ b))) h := by
  by_cases q : a ≤ v <;> simp [f_is_from, b_is_from, q]
theorem gcd_q (q : Rat) : Int.gcd q.num q.den = 1 := by
  have := q.reduced
  unfold Nat.Coprime at this
  rw [Int.gcd, Int.natAbs_natCast]; exact this
theorem fraction_eq {N : Nat} {q : Rat} (s : Sm N q) (hN : N ≤ 9000) (h : IH) : f_is_fraction [fq q] h = .ok (.bl true) h := by
  have c := common_eq q.num q.den h (by rw [Int.natAbs_natCast]; exact (s.mono hN).2)
  have d := den_pos q
  rw [gcd_q] at c
  simp [f_is_fraction, b_is_fraction, fq, tyNames, subTy, c, show (1 : Int) ≤ q.den by omega]
theorem within_eq {N : Nat} {q : Rat} (s : Sm N q) (hN : N ≤ 9000) (a b : Int) (ha : a.natAbs < 2 ^ 200) (hb : b.natAbs < 2 ^ 200) (h : IH) : f_is_within [fq q, .int a, .int b] h = .ok (.bl (decide ((a : Rat) ≤ q ∧ q ≤ (b : Rat)))) h := by
  have f := fraction_eq s hN h
  have m1 := mul_ok ha s.dn (by omega)
  have m2 := mul_ok hb s.dn (by omega)
  have e1 : ((a : Rat) ≤ q) ↔ a * q.den ≤ q.num := by rw [Rat.le_iff]; simp
  have e2 : (q ≤ (b : Rat)) ↔ q.num ≤ b * q.den := by rw [Rat.le_iff]; simp
  simp only [e1, e2]
  simp only [fq] at f
  by_cases x : a * q.den ≤ q.num <;> simp [f_is_within, b_is_within, fq, f, m1, m2, x]
theorem reach_eq {N : Nat} {q : Rat} (s : Sm N q) (hN : N ≤ 9000) (h0 : 0 < q) (h1 : q ≤ 1000000000000) (h : IH) : f_is_reach [fq q] h = .ok (.bl true) h := by
  have w := within_eq s hN 0 1000000000000 (by decide) (by decide) h
  have p := num_pos h0
  have h0' : (0 : Rat) ≤ q := Rat.le_of_lt h0
  have e : decide (((0 : Int) : Rat) ≤ q ∧ q ≤ ((1000000000000 : Int) : Rat)) = true := decide_eq_true ⟨h0', h1⟩
  rw [e] at w
  simp only [fq] at w
  simp [f_is_reach, b_is_reach, fq, w, p]
/-- a turn that stands -/
structure OkT (R : Int) (t : Int × Rat) : Prop where
  lo : 0 ≤ t.1
  hi : t.1 < R
  pos : 0 < t.2
  top : t.2 ≤ 1000000000000
  sm : Sm 50 t.2
theorem turn_eq {R : Int} {t : Int × Rat} (o : OkT R t) (h : IH) : f_is_turn [tq t, .int R] h = .ok (.bl true) h := by
  have e := reach_eq o.sm (by decide) o.pos o.top h
  have := o.lo
  have := o.hi
  simp [f_is_turn, b_is_turn, tq, tyNames, subTy, e, show 0 ≤ t.1 ∧ t.1 ≤ R - 1 by omega]
/-- a plan's parts that stand -/
structure OkP (x : Int × List (Int × Rat) × Rat) : Prop where
  r1 : 1 ≤ x.1
  r2 : x.1 ≤ 5
  n : x.2.1.length ≤ 60
  t : ∀ t ∈ x.2.1, OkT x.1 t
  c0 : 0 ≤ x.2.2
  c1 : x.2.2 ≤ 1000000000000
  cs : Sm 10 x.2.2
theorem init_eq {x : Int × List (Int × Rat) × Rat} (o : OkP x) {n : Nat} {h : IH} (e : h[n]? = some (.ins "Plan" [])) :
    f_Plan___init__ [.obj n, .int x.1, tqs x.2.1, fq x.2.2] h = .ok .non (h.set n (.ins "Plan" [("held", pq x)])) := by
  have w := within_eq o.cs (by decide) 0 1000000000000 (by decide) (by decide) h
  have z : decide (((0 : Int) : Rat) ≤ x.2.2 ∧ x.2.2 ≤ ((1000000000000 : Int) : Rat)) = true := decide_eq_true ⟨o.c0, o.c1⟩
  rw [z] at w
  have l := for_inv (it := itEnum (tqs x.2.1)) (g := gTupF [4, 5]) (B := sIf (tNotX (tTru (eCall f_is_turn (aCons (eVar 5) (aCons (eVar 1) aNil))))) sBad sNil) (n := x.2.1.length)
    (fun i r h1 => h1 = h ∧ ∃ a b, r = [some (.obj n), some (.int x.1), some (tqs x.2.1), some (fq x.2.2), a, b])
    (by
      rintro i r h1 hi ⟨rfl, a, b, rfl⟩
      have t := turn_eq (o.t x.2.1[i] (List.getElem_mem hi)) h1
      simp [tqs, hi, t, and_assoc]) (by rintro r h1 ⟨rfl, a, b, rfl⟩; simp [tqs]) LIM 0 _ h (by have := o.n; simp [LIM]; omega) (by omega) ⟨rfl, none, none, rfl⟩
  obtain ⟨r', h', l, rfl, a, b, rfl⟩ := l
  have r1 := o.r1
  have r2 := o.r2
  have nn := o.n
  simp only [tqs] at l
  simp [f_Plan___init__, b_Plan___init__, f_check_roads, b_check_roads, f_check_cost, b_check_cost, r1, r2, tqs, tyNames, subTy, show ¬ (60 : Int) < x.2.1.length by omega, sFor, l, w, e, pq]
theorem mk_eq {x : Int × List (Int × Rat) × Rat} (o : OkP x) (h : IH) :
    mkO "Plan" f_Plan___init__ [.int x.1, tqs x.2.1, fq x.2.2] h = .ok (.obj h.length) (h ++ [.ins "Plan" [("held", pq x)]]) := by
  have e := init_eq o (n := h.length) (h := h ++ [.ins "Plan" []]) (by simp)
  simp [e]
@[simp] theorem proads_eq {x : Int × List (Int × Rat) × Rat} {n : Nat} {h : IH} (e : h[n]? = some (.ins "Plan" [("held", pq x)])) : f_Plan_roads [.obj n] h = .ok (.int x.1) h := by
  simp [f_Plan_roads, b_Plan_roads, e, pq]
@[simp] theorem pturns_eq {x : Int × List (Int × Rat) × Rat} {n : Nat} {h : IH} (e : h[n]? = some (.ins "Plan" [("held", pq x)])) : f_Plan_turns [.obj n] h = .ok (tqs x.2.1) h := by
  simp [f_Plan_turns, b_Plan_turns, e, pq]
@[simp] theorem pcost_eq {x : Int × List (Int × Rat) × Rat} {n : Nat} {h : IH} (e : h[n]? = some (.ins "Plan" [("held", pq x)])) : f_Plan_cost [.obj n] h = .ok (fq x.2.2) h := by
  simp [f_Plan_cost, b_Plan_cost, e, pq]
theorem plen_eq {x : Int × List (Int × Rat) × Rat} {n : Nat} {h : IH} (e : h[n]? = some (.ins "Plan" [("held", pq x)])) : f_Plan___len__ [.obj n] h = .ok (.int x.2.1.length) h := by
  simp [f_Plan___len__, b_Plan___len__, e, pq, tqs]
theorem peq_eq {x y : Int × List (Int × Rat) × Rat} {n m : Nat} {h : IH} (e : h[n]? = some (.ins "Plan" [("held", pq x)])) (f : h[m]? = some (.ins "Plan" [("held", pq y)])) : f_Plan___eq__ [.obj n, .obj m] h = .ok (.bl (decide (x = y))) h := by
  simp [f_Plan___eq__, b_Plan___eq__, e, f, ownCs]
theorem peq_tup {n : Nat} {h : IH} {xs : List PV} : f_Plan___eq__ [.obj n, .tup xs] h = .ok (.bl false) h := by
  simp [f_Plan___eq__, b_Plan___eq__, ownCs]
end WR

namespace WR
open PySem PySem.Spec PyProof.Rows L2
theorem minus_eq {A B : Nat} {a b : Rat} (ha : Sm A a) (hb : Sm B b) (hn : A + B ≤ 9000) (h : IH) : f_minus [fq a, fq b] h = .ok (fq (a - b)) h := by
  have r := ratio_eq (a.num * b.den - b.num * a.den) (a.den * b.den) h (Nat.mul_pos (den_pos a) (den_pos b)) (Nat.lt_of_lt_of_le (den_lt ha hb) (Nat.pow_le_pow_right (by decide) hn))
  rw [Int.natCast_mul] at r
  simp [f_minus, b_minus, fq, atI, ixN, mul_ok ha.1 hb.dn (by omega), mul_ok hb.1 ha.dn (by omega), mul_ok ha.dn hb.dn (by omega), r, Rat.sub_def']
theorem Sm.neg {A : Nat} {a : Rat} (h : Sm A a) : Sm A (-a) := ⟨by rw [Rat.neg_num, Int.natAbs_neg]; exact h.1, h.2⟩
theorem Sm.sub {A B : Nat} {a b : Rat} (ha : Sm A a) (hb : Sm B b) : Sm (A + B + 1) (a - b) := by
  rw [Rat.sub_eq_add_neg]; exact ha.add hb.neg
theorem s1_mk (s : Rat) : mkRat (s.num - s.den) s.den = s - 1 := by
  rw [Rat.sub_def']; simp
/-- D is a denominator of q -/
def Dn (D : Nat) (q : Rat) : Prop := ∃ n : Int, q * (D : Rat) = (n : Rat)
theorem Dn.add {D : Nat} {a b : Rat} (ha : Dn D a) (hb : Dn D b) : Dn D (a + b) := by
  obtain ⟨n, hn⟩ := ha
  obtain ⟨m, hm⟩ := hb
  exact ⟨n + m, by rw [Rat.add_mul, hn, hm, Rat.intCast_add]⟩
theorem Dn.mul {D E : Nat} {a b : Rat} (ha : Dn D a) (hb : Dn E b) : Dn (D * E) (a * b) := by
  obtain ⟨n, hn⟩ := ha
  obtain ⟨m, hm⟩ := hb
  refine ⟨n * m, ?_⟩
  rw [Rat.intCast_mul, ← hn, ← hm, Rat.natCast_mul]
  grind
theorem Dn.int {D : Nat} (i : Int) {a : Rat} (ha : Dn D a) : Dn D ((i : Rat) * a) := by
  obtain ⟨n, hn⟩ := ha
  refine ⟨i * n, ?_⟩
  rw [Rat.intCast_mul, ← hn]; grind
theorem Dn.neg {D : Nat} {a : Rat} (ha : Dn D a) : Dn D (-a) := by
  obtain ⟨n, hn⟩ := ha
  exact ⟨-n, by rw [Rat.intCast_neg, ← hn]; grind⟩
theorem Dn.sub {D : Nat} {a b : Rat} (ha : Dn D a) (hb : Dn D b) : Dn D (a - b) := by
  rw [Rat.sub_eq_add_neg]; exact ha.add hb.neg
theorem Dn.more {D : Nat} (E : Nat) {a : Rat} (ha : Dn D a) : Dn (D * E) a := by
  obtain ⟨n, hn⟩ := ha
  refine ⟨n * E, ?_⟩
  rw [Rat.natCast_mul, ← Rat.mul_assoc, hn, Rat.intCast_mul]; rfl
theorem Dn.self (q : Rat) : Dn q.den q := ⟨q.num, by
  have e : q = mkRat q.num q.den := (Rat.mkRat_self q).symm
  have := Rat.mkRat_eq_div q.num q.den
  rw [← e] at this
  have d : ((q.den : Nat) : Rat) ≠ 0 := by
    have := q.den_nz
    intro z
    exact this (by exact_mod_cast z)
  exact (congrArg (fun z => z * ((q.den : Nat) : Rat)) this).trans (Rat.div_mul_cancel d)⟩
theorem Dn.le {D : Nat} {q : Rat} (h : Dn D q) (h0 : 0 < D) : q.den ≤ D := by
  obtain ⟨n, hn⟩ := h
  have d : ((D : Nat) : Rat) ≠ 0 := by
    intro z
    have : D = 0 := by exact_mod_cast z
    omega
  have e : q = mkRat n D := by
    rw [Rat.mkRat_eq_div, ← hn, Rat.div_def, Rat.mul_assoc, Rat.mul_inv_cancel _ d, Rat.mul_one]
  rw [e, Rat.den_mkRat, if_neg (by omega)]
  exact Nat.div_le_self _ _
/-- a size by a denominator and a bound -/
theorem sm_of {q : Rat} {D V N : Nat} (hd : Dn D q) (D0 : 0 < D) (h0 : 0 ≤ q) (hv : q ≤ (V : Rat)) (h1 : V * D < 2 ^ N) (h2 : D < 2 ^ N) : Sm N q := by
  have dl := hd.le D0
  have dp := den_pos q
  refine ⟨?_, Nat.lt_of_le_of_lt dl h2⟩
  have e : q.num ≤ (V : Int) * q.den := by
    have := (Rat.le_iff q (V : Rat)).mp hv
    simpa using this
  have n0 : 0 ≤ q.num := by
    have := (Rat.le_iff 0 q).mp h0
    simpa using this
  have : q.num.natAbs ≤ V * q.den := by
    have : (q.num.natAbs : Int) ≤ ((V * q.den : Nat) : Int) := by rw [Int.natCast_mul]; omega
    exact_mod_cast this
  exact Nat.lt_of_le_of_lt (Nat.le_trans this (Nat.mul_le_mul_left V dl)) h1
end WR

namespace WR
open PySem PySem.Spec PyProof.Rows L2
/-! ### the law's own operations -/
theorem lplus_eq {A B : Nat} {a b : Rat} (ha : Sm A a) (hb : Sm B b) (hn : A + B ≤ 9000) (h : IH) : f__law_add [fq a, fq b] h = .ok (fq (a + b)) h := by
  have x : (a.num * b.den + b.num * a.den).natAbs < 2 ^ (A + B + 1) := by
    have x : (a.num * b.den).natAbs < 2 ^ (A + B) := by rw [Int.natAbs_mul, Nat.pow_add]; exact Nat.mul_lt_mul'' ha.1 hb.dn
    have y : (b.num * a.den).natAbs < 2 ^ (A + B) := by rw [Int.natAbs_mul, Nat.pow_add, Nat.mul_comm]; exact Nat.mul_lt_mul'' ha.dn hb.1
    have z := Int.natAbs_add_le (a.num * b.den) (b.num * a.den)
    rw [Nat.pow_succ]
    generalize 2 ^ (A + B) = M at x y ⊢
    omega
  have r := lf_eq (a.num * b.den + b.num * a.den) (a.den * b.den) h (Nat.lt_of_lt_of_le x (Nat.pow_le_pow_right (by decide) (by omega))) (Nat.mul_pos (den_pos a) (den_pos b)) (Nat.lt_of_lt_of_le (den_lt ha hb) (Nat.pow_le_pow_right (by decide) hn))
  rw [Int.natCast_mul] at r
  simp [f__law_add, b__law_add, fq, mul_ok ha.1 hb.dn (by omega), mul_ok hb.1 ha.dn (by omega), mul_ok ha.dn hb.dn (by omega), r, add_mk]
theorem ltimes_eq {A B : Nat} {a b : Rat} (ha : Sm A a) (hb : Sm B b) (hn : A + B ≤ 9000) (h : IH) : f__law_mul [fq a, fq b] h = .ok (fq (a * b)) h := by
  have x : (a.num * b.num).natAbs < 2 ^ (A + B) := by rw [Int.natAbs_mul, Nat.pow_add]; exact Nat.mul_lt_mul'' ha.1 hb.1
  have r := lf_eq (a.num * b.num) (a.den * b.den) h (Nat.lt_of_lt_of_le x (Nat.pow_le_pow_right (by decide) (by omega))) (Nat.mul_pos (den_pos a) (den_pos b)) (Nat.lt_of_lt_of_le (den_lt ha hb) (Nat.pow_le_pow_right (by decide) hn))
  rw [Int.natCast_mul] at r
  simp [f__law_mul, b__law_mul, fq, mul_ok ha.1 hb.1 (by omega), mul_ok ha.dn hb.dn (by omega), r, mul_mk]
theorem lover_eq {A B : Nat} {a b : Rat} (ha : Sm A a) (hb : Sm B b) (hp : 0 < b) (hn : A + B ≤ 9000) (h : IH) : f__law_div [fq a, fq b] h = .ok (fq (a / b)) h := by
  have p := num_pos hp
  have dl : a.den * b.num.natAbs < 2 ^ (A + B) := by rw [Nat.pow_add]; exact Nat.mul_lt_mul'' ha.2 hb.1
  have x : (a.num * b.den).natAbs < 2 ^ (A + B) := by rw [Int.natAbs_mul, Nat.pow_add]; exact Nat.mul_lt_mul'' ha.1 hb.dn
  have r := lf_eq (a.num * b.den) (a.den * b.num.natAbs) h (Nat.lt_of_lt_of_le x (Nat.pow_le_pow_right (by decide) (by omega))) (Nat.mul_pos (den_pos a) (by omega)) (Nat.lt_of_lt_of_le dl (Nat.pow_le_pow_right (by decide) hn))
  rw [Int.natCast_mul, Int.natAbs_of_nonneg (Int.le_of_lt p)] at r
  simp [f__law_div, b__law_div, fq, mul_ok ha.1 hb.dn (by omega), mul_ok ha.dn hb.1 (by omega), r, div_mk a b hp]
theorem lless_eq {A B : Nat} {a b : Rat} (ha : Sm A a) (hb : Sm B b) (hn : A + B ≤ 9000) (h : IH) : f__law_under [fq a, fq b] h = .ok (.bl (decide (a < b))) h := by
  simp [f__law_under, b__law_under, fq, mul_ok ha.1 hb.dn (by omega), mul_ok hb.1 ha.dn (by omega), Rat.lt_iff]
theorem fq_zero : PV.tup [.int 0, .int 1] = fq 0 := rfl
theorem fq_two : PV.tup [.int 2, .int 1] = fq 2 := rfl
theorem fq_one : PV.tup [.int 1, .int 1] = fq 1 := rfl
theorem sm0 : Sm 1 0 := by constructor <;> decide
theorem sm2 : Sm 2 2 := by constructor <;> decide
theorem sm1 : Sm 1 1 := by constructor <;> decide
/-! ### bases -/
def bs (c : Rat) (T : List (Int × Rat)) : Nat → Rat
  | 0 => 0
  | i + 1 => bs c T i + (2 * (T.getD i (0, 0)).2 + c)
theorem turn_sm {R : Int} {t : Int × Rat} {c : Rat} (o : OkT R t) (hc : Sm 10 c) : Sm 63 (2 * t.2 + c) := (sm2.mul o.sm).add hc
theorem bs_sm {x : Int × List (Int × Rat) × Rat} (o : OkP x) : ∀ i, i ≤ x.2.1.length → Sm (64 * i + 1) (bs x.2.2 x.2.1 i)
  | 0, _ => sm0
  | i + 1, h => by
    have e := bs_sm o i (by omega)
    have hi : i < x.2.1.length := by omega
    have t := turn_sm (o.t x.2.1[i] (List.getElem_mem hi)) o.cs
    have g : x.2.1.getD i (0, 0) = x.2.1[i] := by simp [hi]
    rw [bs, g]
    exact (e.add t).mono (by omega)
theorem range_snoc (f : Nat → PV) (n : Nat) : (List.range (n + 1)).map f = (List.range n).map f ++ [f n] := by rw [List.range_succ]; simp
end WR

namespace WR
open PySem PySem.Spec PyProof.Rows L2
/-- the first turn from i on that reaches the place -/
def wk (c : Rat) (T : List (Int × Rat)) (p : Int) (f : Rat) : Nat → Nat → Option Rat
  | 0, _ => none
  | k + 1, i => match T[i]? with
    | none => none
    | some t => if t.1 = p ∧ ¬ t.2 < f then some (bs c T i + f) else wk c T p f k (i + 1)
theorem walkedby_loop {x : Int × List (Int × Rat) × Rat} (o : OkP x) {n m : Nat} {h : IH} {p : Int} {f : Rat} {F : Nat} (hf : Sm F f) (hF : F ≤ 200) (e : h[m]? = some (.lst ((List.range (x.2.1.length + 1)).map fun i => fq (bs x.2.2 x.2.1 i)))) :
    ∀ k i a b, i ≤ x.2.1.length → x.2.1.length - i < k → forL (itZip (tqs x.2.1) (.obj m)) (gTupF [3, 4]) (sIf (tAndX (tBl (eOp pEq (eOp pIdx (eVar 3) (eC (.int 0))) (eVar 1))) (tNotX (tTru (eCall f_is_less (aCons (eOp pIdx (eVar 3) (eC (.int 1))) (aCons (eVar 2) aNil)))))) (sRet (eCall f_plus (aCons (eVar 4) (aCons (eVar 2) aNil)))) sNil) k i
      [some (.obj n), some (.int p), some (fq f), a, b] h = match wk x.2.2 x.2.1 p f k i with
        | some q => .rt (fq q) h
        | none => .nx [some (.obj n), some (.int p), some (fq f), if i < x.2.1.length then some (tq (x.2.1.getD (x.2.1.length - 1) (0, 0))) else a, if i < x.2.1.length then some (fq (bs x.2.2 x.2.1 (x.2.1.length - 1))) else b] h := by
  intro k
  induction k with
  | zero => intro i a b hi hk; omega
  | succ k ih =>
    intro i a b hi hk
    by_cases q : i < x.2.1.length
    · have ot := o.t x.2.1[i] (List.getElem_mem q)
      have nn := o.n
      have l := less_eq ot.sm hf (by omega) h
      have s := plus_eq (bs_sm o i (by omega)) hf (by omega) h
      have g : x.2.1[i]? = some x.2.1[i] := List.getElem?_eq_getElem q
      by_cases c : x.2.1[i].1 = p ∧ ¬ x.2.1[i].2 < f
      · rw [for_rt (v := fq (bs x.2.2 x.2.1 i + f)) (h2 := h)]
        · simp [wk, g, c]
        · simp [tqs, e, q, tq, l, c, s, show i < x.2.1.length + 1 by omega]
      · rw [for_nx (r2 := [some (.obj n), some (.int p), some (fq f), some (tq x.2.1[i]), some (fq (bs x.2.2 x.2.1 i))]) (h2 := h)]
        · rw [ih _ _ _ (by omega) (by omega)]
          have w : wk x.2.2 x.2.1 p f (k + 1) i = wk x.2.2 x.2.1 p f k (i + 1) := by conv => lhs; unfold wk; simp only [g, if_neg c]
          rw [w]
          by_cases z : i + 1 < x.2.1.length
          · simp [z, q]
          · have : x.2.1.length - 1 = i := by omega
            simp [z, q, this]
        · by_cases d : x.2.1[i].1 = p
          · have d2 : x.2.1[i].2 < f := Classical.not_not.mp fun z => c ⟨d, z⟩
            simp [tqs, e, q, tq, l, d, d2, show i < x.2.1.length + 1 by omega]
          · simp [tqs, e, q, tq, d, show i < x.2.1.length + 1 by omega]
    · have : i = x.2.1.length := by omega
      subst this
      rw [for_end]
      · simp [wk]
      · simp [tqs, e]
theorem wk_more (c : Rat) (T : List (Int × Rat)) (p : Int) (f : Rat) : ∀ k i, T.length - i < k → wk c T p f k i = wk c T p f (T.length - i + 1) i
  | 0, i, h => by omega
  | k + 1, i, h => by
    unfold wk
    by_cases q : i < T.length
    · simp only [List.getElem?_eq_getElem q]
      split
      · rfl
      · rw [wk_more c T p f k (i + 1) (by omega), show T.length - i = T.length - (i + 1) + 1 by omega]
    · simp [List.getElem?_eq_none (show T.length ≤ i by omega)]
/-- what is walked till the place -/
def wkd (x : Int × List (Int × Rat) × Rat) (p : Int) (f : Rat) : Option Rat := wk x.2.2 x.2.1 p f (x.2.1.length + 1) 0
theorem wkd_sm {x : Int × List (Int × Rat) × Rat} (o : OkP x) {p : Int} {f : Rat} {F : Nat} (hf : Sm F f) : ∀ k i q, wk x.2.2 x.2.1 p f k i = some q → Sm (64 * 60 + 2 + F) q
  | 0, i, q, h => by simp [wk] at h
  | k + 1, i, q, h => by
    unfold wk at h
    by_cases l : i < x.2.1.length
    · simp only [List.getElem?_eq_getElem l] at h
      split at h
      · cases h
        have := o.n
        exact ((bs_sm o i (by omega)).add hf).mono (by omega)
      · exact wkd_sm o hf k (i + 1) q h
    · simp [List.getElem?_eq_none (show x.2.1.length ≤ i by omega)] at h
/-- a place that stands -/
structure OkF (R : Int) (p : Int) (f : Rat) : Prop where
  lo : 0 ≤ p
  hi : p < R
  one : 1 ≤ f
  top : f ≤ 1000000000000000000000000000000
  sm : Sm 150 f
/-- the law's own walk -/
theorem lwalked_loop {x : Int × List (Int × Rat) × Rat} (o : OkP x) {n : Nat} {h : IH} {p : Int} {f : Rat} {F : Nat} (hf : Sm F f) (hF : F ≤ 200) (e : h[n]? = some (.lst [.int x.1, tqs x.2.1, fq x.2.2])) :
    ∀ k i a b, i ≤ x.2.1.length → x.2.1.length - i < k → ∃ a' b' c', forL (itList (x.2.1.map tq)) (gTupF [4, 5]) (sSeq (sIf (tAndX (tBl (eOp pEq (eVar 4) (eVar 1))) (tNotX (tTru (eCall f__law_under (aCons (eVar 5) (aCons (eVar 2) aNil)))))) (sRet (eCall f__law_add (aCons (eVar 3) (aCons (eVar 2) aNil)))) sNil)
    (sSet 3 (eCall f__law_add (aCons (eVar 3) (aCons (eCall f__law_add (aCons (eCall f__law_mul (aCons (eTup (aCons (eC (.int 2)) (aCons (eC (.int 1)) aNil))) (aCons (eVar 5) aNil))) (aCons (eOp pIdx (eVar 0) (eC (.int 2))) aNil))) aNil))))) k i
      [some (.obj n), some (.int p), some (fq f), some (fq (bs x.2.2 x.2.1 i)), a, b] h = match wk x.2.2 x.2.1 p f k i with
        | some q => .rt (fq q) h
        | none => .nx [some (.obj n), some (.int p), some (fq f), c', a', b'] h := by
  intro k
  induction k with
  | zero => intro i a b hi hk; omega
  | succ k ih =>
    intro i a b hi hk
    by_cases q : i < x.2.1.length
    · have ot := o.t x.2.1[i] (List.getElem_mem q)
      have nn := o.n
      have l := lless_eq ot.sm hf (by omega) h
      have s := lplus_eq (bs_sm o i (by omega)) hf (by omega) h
      have s1 := ltimes_eq sm2 ot.sm (by decide) h
      have s2 := lplus_eq (sm2.mul ot.sm) o.cs (by decide) h
      have s3 := lplus_eq (bs_sm o i (by omega)) (turn_sm ot o.cs) (by omega) h
      have g : x.2.1[i]? = some x.2.1[i] := List.getElem?_eq_getElem q
      have gd : x.2.1.getD i (0, 0) = x.2.1[i] := by simp [q]
      by_cases c : x.2.1[i].1 = p ∧ ¬ x.2.1[i].2 < f
      · refine ⟨a, b, none, ?_⟩
        rw [for_rt (v := fq (bs x.2.2 x.2.1 i + f)) (h2 := h)]
        · simp [wk, g, c]
        · simp [q, tq, l, c, s]
      · obtain ⟨a', b', c', r⟩ := ih (i + 1) (some (.int x.2.1[i].1)) (some (fq x.2.1[i].2)) (by omega) (by omega)
        refine ⟨a', b', c', ?_⟩
        have w : wk x.2.2 x.2.1 p f (k + 1) i = wk x.2.2 x.2.1 p f k (i + 1) := by conv => lhs; unfold wk; simp only [g, if_neg c]
        rw [w, ← r]
        apply for_nx
        rw [bs, gd]
        by_cases d : x.2.1[i].1 = p
        · have d2 : x.2.1[i].2 < f := Classical.not_not.mp fun z => c ⟨d, z⟩
          simp [q, tq, l, d, d2, e, fq_two, s1, s2, s3]
        · simp [q, tq, d, e, fq_two, s1, s2, s3]
    · have : i = x.2.1.length := by omega
      subst this
      refine ⟨a, b, some (fq (bs x.2.2 x.2.1 x.2.1.length)), ?_⟩
      rw [for_end]
      · simp [wk]
      · simp
theorem lwalked_eq {x : Int × List (Int × Rat) × Rat} (o : OkP x) {n : Nat} {h : IH} (e : h[n]? = some (.lst [.int x.1, tqs x.2.1, fq x.2.2])) (p : Int) {f : Rat} {F : Nat} (hf : Sm F f) (hF : F ≤ 200) :
    f__law_walked [.obj n, .int p, fq f] h = .ok (oq (wkd x p f)) h := by
  have nn := o.n
  obtain ⟨a', b', c', l⟩ := lwalked_loop o (p := p) hf hF e LIM 0 none none (by omega) (by simp [LIM]; omega)
  rw [wk_more _ _ _ _ LIM 0 (by simp [LIM]; omega)] at l
  simp only [Nat.sub_zero, bs] at l
  simp [f__law_walked, b__law_walked, e, tqs, fq_zero, sFor, l]
  change _ = Res.ok (oq (wk _ _ _ _ _ _)) _
  cases wk x.2.2 x.2.1 p f (x.2.1.length + 1) 0 with
  | none => simp [oq]
  | some q => simp [oq]
end WR

namespace WR
open PySem PySem.Spec PyProof.Rows L2
/-! ### what is drawn -/
theorem log_small {b : Int} (h0 : 0 < b) (h1 : b < 2 ^ 64) : b.natAbs.log2 < 9000 := by
  refine log_of (Nat.lt_of_lt_of_le (show _ < 2 ^ 64 by omega) (Nat.pow_le_pow_right (by decide) (by decide))) (by decide)
theorem draw {hi ci : Nat} {h : IH} (d : DS hi ci h) (b : Int) (h0 : 0 < b) (h1 : b < 2 ^ 64) :
    ∃ r h', f__law_next [.obj hi, .int b] h = .ok (.int r) h' ∧ 0 ≤ r ∧ r < b ∧ DS hi ci h' ∧ Kp hi ci h h' := next_eq d b h0 (log_small h0 h1)
theorem lf_eq' (n d : Int) (h : IH) (hn : n.natAbs < 2 ^ 64) (h0 : 0 < d) (hd : d < 2 ^ 64) : f__law_f [.int n, .int d] h = .ok (fq (mkRat n d.toNat)) h := by
  have := lf_eq n d.toNat h (Nat.lt_of_lt_of_le hn (Nat.pow_le_pow_right (by decide) (by decide))) (by omega) (Nat.lt_of_lt_of_le (show _ < 2 ^ 64 by omega) (Nat.pow_le_pow_right (by decide) (by decide)))
  rwa [Int.toNat_of_nonneg (by omega)] at this
theorem mk_div (n d : Int) (h0 : 0 < d) : mkRat n d.toNat = (n : Rat) / (d : Rat) := by
  rw [Rat.mkRat_eq_div]
  have : ((d.toNat : Int) : Rat) = (d : Rat) := by rw [Int.toNat_of_nonneg (by omega)]
  rw [← this]; rfl
theorem mk_lt {n d : Int} (h0 : 0 < d) (m : Int) : mkRat n d.toNat < (m : Rat) ↔ n < m * d := by
  rw [mk_div n d h0, Rat.div_lt_iff (by exact Rat.intCast_pos.mpr h0), ← Rat.intCast_mul, Rat.intCast_lt_intCast]
theorem lt_mk {n d : Int} (h0 : 0 < d) (m : Int) : (m : Rat) < mkRat n d.toNat ↔ m * d < n := by
  rw [mk_div n d h0, Rat.lt_div_iff (by exact Rat.intCast_pos.mpr h0), ← Rat.intCast_mul, Rat.intCast_lt_intCast]
theorem mk_pos {n d : Int} (h0 : 0 < n) (h1 : 0 < d) : 0 < mkRat n d.toNat := (lt_mk h1 0).mpr (by omega)
theorem mk_le {n d m : Int} (h0 : 0 < d) (h : n ≤ m * d) : mkRat n d.toNat ≤ (m : Rat) := Rat.not_lt.mp fun z => by
  have := (lt_mk h0 m).mp z
  omega
theorem mk_ge {n d m : Int} (h0 : 0 < d) (h : m * d ≤ n) : (m : Rat) ≤ mkRat n d.toNat := Rat.not_lt.mp fun z => by
  have := (mk_lt h0 m).mp z
  omega
/-- how great and how fine a drawn reach is -/
def Dr (q : Rat) : Prop := q ≤ 2000000001 ∧ q.den ≤ 12
theorem mk_dr {n d : Int} (h0 : 0 < d) (h1 : d ≤ 12) (h : n ≤ 2000000001 * d) : Dr (mkRat n d.toNat) := by
  refine ⟨mk_le (m := 2000000001) h0 h, ?_⟩
  rw [Rat.den_mkRat, if_neg (by omega)]
  exact Nat.le_trans (Nat.div_le_self _ _) (by omega)
theorem reach_draw {hi ci : Nat} {h : IH} (d : DS hi ci h) (b : Int) (h0 : 1 ≤ b) (h1 : b ≤ 1000000000) :
    ∃ q h', f__law_reach [.obj hi, .int b] h = .ok (fq q) h' ∧ 0 < q ∧ q ≤ 1000000000000 ∧ Sm 50 q ∧ Dr q ∧ DS hi ci h' ∧ Kp hi ci h h' := by
  obtain ⟨r0, g1, e1, p1, q1, d1, k1⟩ := draw d 4 (by decide) (by decide)
  by_cases c0 : r0 = 0
  · obtain ⟨r2, g2, e2, p2, q2, d2, k2⟩ := draw d1 40 (by decide) (by decide)
    obtain ⟨r3, g3, e3, p3, q3, d3, k3⟩ := draw d2 12 (by decide) (by decide)
    have f := lf_eq' (1 + r2) (1 + r3) g3 (by omega) (by omega) (by omega)
    refine ⟨_, g3, by simp [f__law_reach, b__law_reach, e1, c0, e2, e3, f]; rfl, mk_pos (by omega) (by omega), mk_le (m := 1000000000000) (by omega) (by omega), mk_small (by omega) (by omega) (by omega), mk_dr (by omega) (by omega) (by omega), d3, (k1.trans k2).trans k3⟩
  · by_cases c1 : r0 = 1
    · obtain ⟨r2, g2, e2, p2, q2, d2, k2⟩ := draw d1 9 (by decide) (by decide)
      have f := lf_eq' (1 + r2) 1 g2 (by omega) (by omega) (by omega)
      refine ⟨mkRat (1 + r2) (Int.toNat 1), g2, by simp [f__law_reach, b__law_reach, e1, c0, c1, e2, f], mk_pos (by omega) (by omega), mk_le (m := 1000000000000) (by omega) (by omega), mk_small (by omega) (by omega) (by omega), mk_dr (by omega) (by omega) (by omega), d2, (k1.trans k2)⟩
    · obtain ⟨r2, g2, e2, p2, q2, d2, k2⟩ := draw d1 (b + 2) (by omega) (by omega)
      obtain ⟨r3, g3, e3, p3, q3, d3, k3⟩ := draw d2 2 (by decide) (by decide)
      have f := lf_eq' (b + r2) (1 + r3) g3 (by omega) (by omega) (by omega)
      refine ⟨_, g3, by simp [f__law_reach, b__law_reach, e1, c0, c1, e2, e3, f]; rfl, mk_pos (by omega) (by omega), mk_le (m := 1000000000000) (by omega) (by omega), mk_small (by omega) (by omega) (by omega), mk_dr (by omega) (by omega) (by omega), d3, (k1.trans k2).trans k3⟩
theorem DS.lt {hi ci : Nat} {h : IH} (d : DS hi ci h) : hi < h.length ∧ ci < h.length := by
  obtain ⟨a, b, e⟩ := d.st
  obtain ⟨cs, f, _⟩ := d.ce
  exact ⟨lt_of_get e, lt_of_get f⟩
theorem DS.set {hi ci n : Nat} {h : IH} (d : DS hi ci h) (o : MO) (h1 : n ≠ hi) (h2 : n ≠ ci) : DS hi ci (h.set n o) := by
  obtain ⟨a, b, e⟩ := d.st
  obtain ⟨cs, f, l⟩ := d.ce
  exact ⟨d.ne, ⟨a, b, by rw [List.getElem?_set_ne h1]; exact e⟩, ⟨cs, by rw [List.getElem?_set_ne h2]; exact f, l⟩⟩
/-- what a loop of draws keeps: all of h but the machine, and a list of its own at h.length -/
structure Grow (hi ci : Nat) (h g : IH) (xs : List PV) : Prop where
  ds : DS hi ci g
  kp : Kp hi ci h g
  own : g[h.length]? = some (.lst xs)
theorem Grow.draw {hi ci : Nat} {h g g' : IH} {xs : List PV} (o : Grow hi ci h g xs) (l : hi < h.length ∧ ci < h.length) (d : DS hi ci g') (k : Kp hi ci g g') : Grow hi ci h g' xs :=
  ⟨d, o.kp.trans k, k.get _ _ (by omega) (by omega) o.own⟩
theorem Grow.push {hi ci : Nat} {h g : IH} {xs ys : List PV} (o : Grow hi ci h g xs) (l : hi < h.length ∧ ci < h.length) : Grow hi ci h (g.set h.length (.lst ys)) ys := by
  refine ⟨o.ds.set _ (by omega) (by omega), ⟨by simpa using o.kp.le, fun n u a b e => ?_⟩, ?_⟩
  · have := lt_of_get e
    rw [List.getElem?_set_ne (by omega)]
    exact o.kp.get n u a b e
  · rw [List.getElem?_set_self (lt_of_get o.own)]
theorem turns_draw {hi ci : Nat} {h : IH} (d : DS hi ci h) (R M : Int) (r1 : 1 ≤ R) (r2 : R ≤ 5) (m0 : 0 ≤ M) (m1 : M ≤ 60) :
    ∃ T h', f__law_turns [.obj hi, .int R, .int M] h = .ok (tqs T) h' ∧ T.length ≤ M.toNat ∧ (∀ t ∈ T, OkT R t ∧ Dr t.2) ∧ DS hi ci h' ∧ Kp hi ci h h' := by
  obtain ⟨b0, g1, e1, p1, q1, d1, k1⟩ := draw (d.app [.lst []]) 2 (by decide) (by decide)
  obtain ⟨n, g2, e2, p2, q2, d2, k2⟩ := draw d1 (M + 1) (by omega) (by omega)
  have hl := d.lt
  have hl' : h.length ≠ hi ∧ h.length ≠ ci := by omega
  have G0 : Grow hi ci h g2 [] := ⟨d2, ((Kp.app hi ci h _).trans k1).trans k2, k2.get _ _ (by omega) (by omega) (k1.get _ _ (by omega) (by omega) (by simp))⟩
  have l := for_inv (it := itRange 0 n.toNat) (g := gVar 5) (B := sSeq (sSet 6 (eIf (tBl (eOp pGt (eCall f__law_next (aCons (eVar 0) (aCons (eC (.int 4)) aNil))) (eC (.int 0)))) (eOp pSub (eVar 5) (eOp pMul (eOp pDiv (eVar 5) (eVar 1)) (eVar 1))) (eCall f__law_next (aCons (eVar 0) (aCons (eVar 1) aNil)))))
    (sSeq (sExpr (eAppend (eVar 3) (aCons (eTup (aCons (eVar 6) (aCons (eCall f__law_reach (aCons (eVar 0) (aCons (eVar 4) aNil))) aNil))) aNil)))
    (sSet 4 (eB pMin2 (aCons (eOp pPow (eC (.int 10)) (eC (.int 9))) (aCons (eOp pAdd (eVar 4) (eCall f__law_next (aCons (eVar 0) (aCons (eOp pAdd (eVar 4) (eC (.int 1))) aNil)))) aNil)))))) (n := n.toNat)
    (fun i r g => ∃ T b a5 a6, r = [some (.obj hi), some (.int R), some (.int M), some (.obj h.length), some (.int b), a5, a6] ∧ 1 ≤ b ∧ b ≤ 1000000000 ∧ Grow hi ci h g (T.map tq) ∧ T.length = i ∧ ∀ t ∈ T, OkT R t ∧ Dr t.2)
    (by
      rintro i r g hi' ⟨T, b, a5, a6, rfl, b0, b1, G, tl, ht⟩
      obtain ⟨k, u1, e1, p1, q1, d1, k1⟩ := draw G.ds 4 (by decide) (by decide)
      have G1 := G.draw hl d1 k1
      have key : ∃ road u2, 0 ≤ road ∧ road < R ∧ Grow hi ci h u2 (T.map tq) ∧ eIf (tBl (eOp pGt (eCall f__law_next (aCons (eVar 0) (aCons (eC (.int 4)) aNil))) (eC (.int 0)))) (eOp pSub (eVar 5) (eOp pMul (eOp pDiv (eVar 5) (eVar 1)) (eVar 1))) (eCall f__law_next (aCons (eVar 0) (aCons (eVar 1) aNil)))
          [some (.obj hi), some (.int R), some (.int M), some (.obj h.length), some (.int b), some (.int i), a6] g = .ok (.int road) u2 := by
        by_cases c : 0 < k
        · have := Int.emod_nonneg i (show R ≠ 0 by omega)
          have := Int.emod_lt_of_pos i (show 0 < R by omega)
          refine ⟨(i : Int) % R, u1, by omega, by omega, G1, ?_⟩
          simp [e1, c, show 0 < R by omega, log_small (show 0 < R by omega) (by omega), mulOk, show R.natAbs < 18446744073709551616 by omega]
          rw [Int.emod_def, Int.mul_comm]
        · obtain ⟨r, u2, e2, p2, q2, d2, k2⟩ := draw d1 R (by omega) (by omega)
          exact ⟨r, u2, p2, q2, G1.draw hl d2 k2, by simp [e1, c, e2]⟩
      obtain ⟨road, u2, y0, y1, G2, key⟩ := key
      obtain ⟨q, u3, e3, z0, z1, z2, z3, d3, k3⟩ := reach_draw G2.ds b b0 b1
      have G3 := G2.draw hl d3 k3
      have G4 := G3.push (ys := (T ++ [(road, q)]).map tq) hl
      obtain ⟨r4, u4, e4, p4, q4, d4, k4⟩ := draw G4.ds (b + 1) (by omega) (by omega)
      have G5 := G4.draw hl d4 k4
      have e4' := e4
      simp only [List.map_append, List.map, tq] at e4'
      refine ⟨_, u4, ?_, T ++ [(road, q)], min 1000000000 (b + r4), some (.int i), some (.int road), rfl, by omega, by omega, G5, by simp [tl], ?_⟩
      · revert key
        generalize eIf _ _ _ = A
        intro key
        have : T.length < 16777216 := by omega
        have mn : (if b + r4 < 1000000000 then b + r4 else (1000000000 : Int)) = min 1000000000 (b + r4) := by omega
        simp [hi', key, G2.own, e3, G3.own, this, tq, e4', mn]
      · intro t ht'
        rcases List.mem_append.mp ht' with z | z
        · exact ht t z
        · simp at z; subst z
          exact ⟨⟨y0, y1, z0, z1, z2⟩, z3⟩) (by rintro r g ⟨T, b, a5, a6, rfl, _⟩; simp) LIM 0 _ g2 (by simp [LIM]; omega) (by omega) ⟨[], 1 + b0, none, none, rfl, by omega, by omega, G0, rfl, by simp⟩
  obtain ⟨r', h', l, T, b, a5, a6, rfl, _, _, G, tl, ht⟩ := l
  have : T.length ≤ 16777216 := by omega
  refine ⟨T, h', ?_, by omega, ht, G.ds, G.kp⟩
  simp [f__law_turns, b__law_turns, e1, e2, sFor, l, G.own, tqs, rngOk, show Int.natAbs n < 4611686018427387904 by omega, this]
theorem plan_draw {hi ci : Nat} {h : IH} (d : DS hi ci h) (M : Int) (m0 : 0 ≤ M) (m1 : M ≤ 60) :
    ∃ x p h', f__law_plan [.obj hi, .int M] h = .ok (.obj p) h' ∧ h'[p]? = some (.lst [.int x.1, tqs x.2.1, fq x.2.2]) ∧ h.length ≤ p ∧ OkP x ∧ x.2.1.length ≤ M.toNat ∧ x.2.2.den ≤ 4 ∧ x.2.2 ≤ 8 ∧ (∀ t ∈ x.2.1, Dr t.2) ∧ DS hi ci h' ∧ Kp hi ci h h' := by
  obtain ⟨R, g1, e1, p1, q1, d1, k1⟩ := draw d 5 (by decide) (by decide)
  obtain ⟨b, g2, e2, p2, q2, d2, k2⟩ := draw d1 2 (by decide) (by decide)
  have key : ∃ c g3, 0 ≤ c ∧ c ≤ 1000000000000 ∧ Sm 10 c ∧ c.den ≤ 4 ∧ c ≤ 8 ∧ DS hi ci g3 ∧ Kp hi ci g1 g3 ∧ (eIf (tBl (eOp pEq (eCall f__law_next (aCons (eVar 0) (aCons (eC (.int 2)) aNil))) (eC (.int 0)))) (eTup (aCons (eC (.int 0)) (aCons (eC (.int 1)) aNil))) (eCall f__law_f (aCons (eCall f__law_next (aCons (eVar 0) (aCons (eC (.int 9)) aNil))) (aCons (eOp pAdd (eC (.int 1)) (eCall f__law_next (aCons (eVar 0) (aCons (eC (.int 4)) aNil)))) aNil))))
      [some (.obj hi), some (.int M), some (.int (1 + R)), none] g1 = .ok (fq c) g3 := by
    by_cases c : b = 0
    · exact ⟨0, g2, by decide, by decide, sm0.mono (by decide), by decide, by decide, d2, k2, by simp [e2, c, fq_zero]⟩
    · obtain ⟨u, g3, e3, p3, q3, d3, k3⟩ := draw d2 9 (by decide) (by decide)
      obtain ⟨v, g4, e4, p4, q4, d4, k4⟩ := draw d3 4 (by decide) (by decide)
      have f := lf_eq' u (1 + v) g4 (by omega) (by omega) (by omega)
      refine ⟨mkRat u (1 + v).toNat, g4, mk_ge (m := 0) (by omega) (by omega), mk_le (m := 1000000000000) (by omega) (by omega), mk_small (by omega) (by omega) (by omega), ?_, mk_le (m := 8) (by omega) (by omega), d4, (k2.trans k3).trans k4, by simp [e2, c, e3, e4, f]⟩
      have := Rat.den_mkRat u (1 + v).toNat
      rw [this, if_neg (by omega)]
      exact Nat.le_trans (Nat.div_le_self _ _) (by omega)
  obtain ⟨c, g3, c0, c1, c2, c3, c4, d3, k3, key⟩ := key
  obtain ⟨T, g4, e4, tl, ht, d4, k4⟩ := turns_draw d3 (1 + R) M (by omega) (by omega) m0 m1
  refine ⟨(1 + R, T, c), g4.length, g4 ++ [.lst [.int (1 + R), tqs T, fq c]], ?_, by simp, ((k1.trans k3).trans k4).le, ⟨by simp; omega, by simp; omega, by simp; omega, fun t q => (ht t q).1, c0, c1, c2⟩, tl, c3, c4, fun t q => (ht t q).2, d4.app _, ((k1.trans k3).trans k4).trans (Kp.app _ _ _ _)⟩
  revert key
  unfold f__law_plan b__law_plan
  generalize eIf _ _ _ = A
  intro key
  simp [e1, key, e4]
end WR

namespace WR
open PySem PySem.Spec PyProof.Rows L2
/-! ### the pieces of a road -/
theorem set_at {h r : IH} {a b : MO} : (h ++ a :: r).set h.length b = h ++ b :: r := by simp
@[simp] theorem get_at {h r : IH} {a : MO} : (h ++ a :: r)[h.length]? = some a := by simp
/-- the greater -/
def mx (a b : Rat) : Rat := if a < b then b else a
def gq (qs : List Rat) (a : Rat) : Rat := qs.foldl mx a
theorem greatest_loop (qs : List Rat) (N : Nat) (hN : N + N ≤ 9000) {n : Nat} {h : IH} (hq : ∀ q ∈ qs, Sm N q) (e : h[n]? = some (.lst (qs.map fq))) :
    ∀ (k i : Nat) (m : Rat) (c : Option PV), Sm N m → qs.length - i < k → i ≤ qs.length → ∃ c', forL (itObj n) (gVar 2) (sIf (tTru (eCall f_is_less (aCons (eVar 1) (aCons (eVar 2) aNil)))) (sSet 1 (eVar 2)) sNil) k i [some (.obj n), some (fq m), c] h
      = .nx [some (.obj n), some (fq (gq (qs.drop i) m)), c'] h := by
  intro k
  induction k with
  | zero => intro i m c _ hk; omega
  | succ k ih =>
    intro i m c hm hk hi
    by_cases q : i < qs.length
    · have sq := hq qs[i] (List.getElem_mem q)
      have l := less_eq hm sq hN h
      have sm : Sm N (mx m qs[i]) := by unfold mx; split <;> assumption
      obtain ⟨c', r⟩ := ih (i + 1) (mx m qs[i]) (some (fq qs[i])) sm (by omega) (by omega)
      refine ⟨c', ?_⟩
      have g : qs.drop i = qs[i] :: qs.drop (i + 1) := (List.getElem_cons_drop q).symm
      rw [g]
      show _ = RS.nx [some (.obj n), some (fq (gq (qs.drop (i + 1)) (mx m qs[i]))), c'] h
      rw [← r]
      apply for_nx
      by_cases d : m < qs[i]
      · simp [e, q, l, d, mx]
      · simp [e, q, l, d, mx]
    · have : i = qs.length := by omega
      subst this
      refine ⟨c, ?_⟩
      rw [for_end]
      · simp [gq]
      · simp [e]
theorem greatest_eq (q : Rat) (qs : List Rat) (N : Nat) (hN : N + N ≤ 9000) (hl : qs.length ≤ 1000) {n : Nat} {h : IH} (hq : ∀ r ∈ q :: qs, Sm N r) (e : h[n]? = some (.lst ((q :: qs).map fq))) : f_greatest_of [.obj n] h = .ok (fq (gq (q :: qs) q)) h := by
  obtain ⟨c', l⟩ := greatest_loop (q :: qs) N hN hq e LIM 0 q none (hq q (by simp)) (by simp [LIM]; omega) (by omega)
  simp only [List.drop] at l
  simp only [List.map] at e
  simp [f_greatest_of, b_greatest_of, e, sFor, l]
/-- the pieces that the first i turns give -/
def pc (c : Rat) (T : List (Int × Rat)) (p : Int) : Nat → Rat × List (Rat × Rat × Rat)
  | 0 => (0, [])
  | i + 1 => let t := T.getD i (0, 0)
    if t.1 = p ∧ (pc c T p i).1 < t.2 then (t.2, if t.2 < 1 then (pc c T p i).2 else (pc c T p i).2 ++ [(mx (pc c T p i).1 1, t.2, bs c T i)]) else pc c T p i
theorem pc_sm {x : Int × List (Int × Rat) × Rat} (o : OkP x) (p : Int) : ∀ i, i ≤ x.2.1.length → Sm 50 (pc x.2.2 x.2.1 p i).1
  | 0, _ => sm0.mono (by decide)
  | i + 1, h => by
    have hi : i < x.2.1.length := by omega
    have g : x.2.1.getD i (0, 0) = x.2.1[i] := by simp [hi]
    unfold pc
    simp only [g]
    split
    · exact (o.t _ (List.getElem_mem hi)).sm
    · exact pc_sm o p i (by omega)
/-- a piece as data -/
def tri (t : Rat × Rat × Rat) : PV := .tup [fq t.1, fq t.2.1, fq t.2.2]
def triD (t : Rat × Rat × Rat) : PyData := .tuple [.tuple [.int t.1.num, .int t.1.den], .tuple [.int t.2.1.num, .int t.2.1.den], .tuple [.int t.2.2.num, .int t.2.2.den]]
theorem EncOk.tri : EncOk 2 tri triD := by
  have f := EncOk.rat
  refine ⟨fun k h a hm => ?_, fun a => ?_, fun a => ?_, fun a b => ?_⟩
  · obtain ⟨k, rfl⟩ : ∃ j, k = j + 1 := ⟨k - 1, by omega⟩
    simp only [WR.tri, triD, dataOf, optAll, f.dat k h _ (show 1 ≤ k by omega), Option.map]
  · simp [triD, PyData.canLay0, PyData.canLayAll0]
  · simp [triD, PyData.depth, PyData.depthAll]
  · have g1 := f.eqv a.1 b.1
    have g2 := f.eqv a.2.1 b.2.1
    have g3 := f.eqv a.2.2 b.2.2
    simp only [triD, PyData.eqv, PyData.eqvAll] at *
    rw [g1, g2, g3]
    simp [Prod.ext_iff]
/-- lists of the heap -/
theorem EncOk.obj {α : Type} [DecidableEq α] {n : Nat} {enc : α → PV} {den : α → PyData} (e : EncOk n enc den) (hn : n ≤ 11) {a b : Nat} {xs ys : List α} {h : IH} (ha : h[a]? = some (.lst (xs.map enc))) (hb : h[b]? = some (.lst (ys.map enc))) : pEqB (.obj a) (.obj b) h = some (decide (xs = ys)) := by
  have x := optAll_map xs fun z _ => e.dat 11 h z hn
  have y := optAll_map ys fun z _ => e.dat 11 h z hn
  have s : ∀ zs : List α, SeqAt.shaped (.list (zs.map den)) = true := fun zs => by
    have l := canAll zs e.lay
    have d := depAll zs e.dep
    simp [SeqAt.shaped, PyData.canLay0, PyData.depth, l]; omega
  simp [pEqB, dataOf, DEP, ha, hb, x, y, s, PyData.eqv, eqvAll_map e.eqv]
end WR

namespace WR
open PySem PySem.Spec PyProof.Rows L2
/-! ### what a statement leaves -/
abbrev Pl := Int × List (Int × Rat) × Rat
def RS.Is (o : RS) (N : Fm → IH → Prop) (R : PV → IH → Prop) : Prop := match o with
  | .nx r h => N r h
  | .rt v h => R v h
  | _ => False
@[simp] theorem is_nx0 {r : Fm} {h : IH} {N : Fm → IH → Prop} {R : PV → IH → Prop} : (RS.nx r h).Is N R = N r h := rfl
@[simp] theorem is_rt0 {v : PV} {h : IH} {N : Fm → IH → Prop} {R : PV → IH → Prop} : (RS.rt v h).Is N R = R v h := rfl
theorem RS.Is.imp {o : RS} {N N' : Fm → IH → Prop} {R R' : PV → IH → Prop} (h : o.Is N R) (f : ∀ r h, N r h → N' r h) (g : ∀ v h, R v h → R' v h) : o.Is N' R' := by
  cases o with
  | nx r h1 => exact f _ _ h
  | rt v h1 => exact g _ _ h
  | _ => exact h.elim
theorem w_seq {A B : SX} {r : Fm} {h : IH} {N : Fm → IH → Prop} {R : PV → IH → Prop} (e : (A r h).Is (fun r1 h1 => (B r1 h1).Is N R) R) : (sSeq A B r h).Is N R := by
  simp only [sSeq]
  cases q : A r h with
  | nx r1 h1 => rw [q] at e; exact e
  | rt v h1 => rw [q] at e; exact e
  | bk r1 h1 => rw [q] at e; exact e.elim
  | ct r1 h1 => rw [q] at e; exact e.elim
  | ex x r1 h1 => rw [q] at e; exact e.elim
  | bad => rw [q] at e; exact e.elim
theorem w_for {I0 : Fm → IH → Res ItF} {g : TgF} {B : SX} {r : Fm} {h : IH} {N : Fm → IH → Prop} {R : PV → IH → Prop} {it : ItF} {h1 : IH} (n : Nat) (J : Nat → Fm → IH → Prop)
    (hI : I0 r h = .ok it h1) (hn : n < 1000000) (h0 : J 0 r h1)
    (hs : ∀ i r h, i < n → J i r h → ∃ v r1, it i h = some (some v) ∧ g v r = some r1 ∧ (B r1 h).Is (J (i + 1)) R)
    (he : ∀ r h, J n r h → it n h = some none ∧ N r h) : (sFor I0 g B r h).Is N R := by
  have key : ∀ k i r h, n - i < k → i ≤ n → J i r h → (forL it g B k i r h).Is N R := by
    intro k
    induction k with
    | zero => intro i r h hk; omega
    | succ k ih =>
      intro i r h hk hi hJ
      by_cases q : i < n
      · obtain ⟨v, r1, e1, e2, e3⟩ := hs i r h q hJ
        unfold forL
        simp only [e1, e2]
        cases z : B r1 h with
        | nx r2 h2 => rw [z] at e3; exact ih (i + 1) r2 h2 (by omega) (by omega) e3
        | rt v h2 => rw [z] at e3; exact e3
        | bk r1 h1 => rw [z] at e3; exact e3.elim
        | ct r1 h1 => rw [z] at e3; exact e3.elim
        | ex x r1 h1 => rw [z] at e3; exact e3.elim
        | bad => rw [z] at e3; exact e3.elim
      · have : i = n := by omega
        subst this
        obtain ⟨e1, e2⟩ := he r h hJ
        rw [for_end e1]
        exact e2
  show (toS (I0 r h) r fun it h1 => forL it g B LIM 0 r h1).Is N R
  rw [hI]
  exact key LIM 0 r h1 (by simp [LIM]; omega) (by omega) h0
theorem w_while {c : TX} {B : SX} {r : Fm} {h : IH} {N : Fm → IH → Prop} {R : PV → IH → Prop} (n : Nat) (J : Nat → Fm → IH → Prop) (hn : n < 1000000) (h0 : J n r h)
    (hs : ∀ i r h, J i r h → ∃ b h1, c r h = .ok b h1 ∧ (b = true → ∃ j, i = j + 1 ∧ (B r h1).Is (J j) R) ∧ (b = false → N r h1)) : (sWhile c B r h).Is N R := by
  have key : ∀ k i r h, i < k → J i r h → (whileL c B k r h).Is N R := by
    intro k
    induction k with
    | zero => intro i r h hk; omega
    | succ k ih =>
      intro i r h hk hJ
      obtain ⟨b, h1, e1, e2, e3⟩ := hs i r h hJ
      unfold whileL
      simp only [e1, toS]
      cases b with
      | false => exact e3 rfl
      | true =>
        obtain ⟨j, rfl, e4⟩ := e2 rfl
        simp only [if_true]
        cases z : B r h1 with
        | nx r2 h2 => rw [z] at e4; exact ih j r2 h2 (by omega) e4
        | rt v h2 => rw [z] at e4; exact e4
        | bk r1 h1 => rw [z] at e4; exact e4.elim
        | ct r1 h1 => rw [z] at e4; exact e4.elim
        | ex x r1 h1 => rw [z] at e4; exact e4.elim
        | bad => rw [z] at e4; exact e4.elim
  exact key LIM n r h (by simp [LIM]; omega) h0
theorem w_fn {ps n : Nat} {B : SX} {us : List PV} {h : IH} {P : PV → IH → Prop} (hl : us.length = ps) (e : (B (us.map some ++ List.replicate n none) h).Is (fun _ h1 => P .non h1) P) : ∃ v h1, fn ps n B us h = .ok v h1 ∧ P v h1 := by
  unfold fn
  simp only [hl, if_true]
  cases z : B (us.map some ++ List.replicate n none) h with
  | nx r2 h2 => rw [z] at e; exact ⟨_, _, rfl, e⟩
  | rt v h2 => rw [z] at e; exact ⟨_, _, rfl, e⟩
  | bk r1 h1 => rw [z] at e; exact e.elim
  | ct r1 h1 => rw [z] at e; exact e.elim
  | ex x r1 h1 => rw [z] at e; exact e.elim
  | bad => rw [z] at e; exact e.elim
theorem w_set {A : EX} {i : Nat} {r : Fm} {h h1 : IH} {v : PV} {N : Fm → IH → Prop} {R : PV → IH → Prop} (e : A r h = .ok v h1) (k : N (r.set i (some v)) h1) : (sSet i A r h).Is N R := by
  simp only [sSet, e, toS]; exact k
theorem w_nil {r : Fm} {h : IH} {N : Fm → IH → Prop} {R : PV → IH → Prop} (k : N r h) : (sNil r h).Is N R := k
theorem w_expr {A : EX} {r : Fm} {h h1 : IH} {v : PV} {N : Fm → IH → Prop} {R : PV → IH → Prop} (e : A r h = .ok v h1) (k : N r h1) : (sExpr A r h).Is N R := by
  simp only [sExpr, e, toS]; exact k
theorem w_ret {A : EX} {r : Fm} {h h1 : IH} {v : PV} {N : Fm → IH → Prop} {R : PV → IH → Prop} (e : A r h = .ok v h1) (k : R v h1) : (sRet A r h).Is N R := by
  simp only [sRet, e, toS]; exact k
theorem w_if {c : TX} {A B : SX} {r : Fm} {h h1 : IH} {b : Bool} {N : Fm → IH → Prop} {R : PV → IH → Prop} (e : c r h = .ok b h1) (k1 : b = true → (A r h1).Is N R) (k2 : b = false → (B r h1).Is N R) : (sIf c A B r h).Is N R := by
  simp only [sIf, e, toS]
  cases b with
  | true => exact k1 rfl
  | false => exact k2 rfl
/-! ### heaps that only grow -/
def Pre (h g : IH) : Prop := ∃ u, g = h ++ u
theorem Pre.refl (h : IH) : Pre h h := ⟨[], by simp⟩
theorem Pre.trans {h g k : IH} (a : Pre h g) (b : Pre g k) : Pre h k := by
  obtain ⟨u, rfl⟩ := a
  obtain ⟨v, rfl⟩ := b
  exact ⟨u ++ v, by simp⟩
theorem Pre.of (h t : IH) : Pre h (h ++ t) := ⟨t, rfl⟩
theorem Pre.app {h g : IH} (a : Pre h g) (t : IH) : Pre h (g ++ t) := a.trans (.of g t)
theorem Pre.get {h g : IH} (a : Pre h g) {n : Nat} {o : MO} (e : h[n]? = some o) : g[n]? = some o := by
  obtain ⟨u, rfl⟩ := a
  exact get_old e
theorem Pre.le {h g : IH} (a : Pre h g) : h.length ≤ g.length := by
  obtain ⟨u, rfl⟩ := a
  simp
theorem Pre.set {h g : IH} (a : Pre h g) {n : Nat} (o : MO) (hn : h.length ≤ n) : Pre h (g.set n o) := by
  obtain ⟨u, rfl⟩ := a
  rw [List.set_append_right _ _ hn]
  exact ⟨_, rfl⟩
theorem get_set_ne {g : IH} {n m : Nat} {o : MO} (h : n ≠ m) : (g.set n o)[m]? = g[m]? := List.getElem?_set_ne h
theorem get_set_eq {g : IH} {n : Nat} {o q : MO} (e : g[n]? = some q) : (g.set n o)[n]? = some o := List.getElem?_set_self (lt_of_get e)
/-! ### slices -/
theorem cut_to {α : Type} (xs : List α) (k : Int) (h0 : 0 ≤ k) : cutA xs none (some k) = xs.take k.toNat := by
  have : ¬ k < 0 := by omega
  simp only [cutA, HT.sIx, List.drop_zero, Nat.sub_zero]
  simp only [this, if_false]
  rw [List.take_eq_take_iff]
  omega
theorem cut_from {α : Type} (xs : List α) (k : Int) (h0 : 0 ≤ k) : cutA xs (some k) none = xs.drop k.toNat := by
  have : ¬ k < 0 := by omega
  simp only [cutA, HT.sIx]
  simp only [this, if_false]
  rw [List.take_of_length_le (by simp)]
  by_cases q : k.toNat ≤ xs.length
  · rw [show min k.toNat xs.length = k.toNat by omega]
  · rw [List.drop_eq_nil_of_le (by omega), List.drop_eq_nil_of_le (by omega)]
/-! ### a comprehension with a test -/
theorem lc_gen {it : ItF} {g : TgF} {c : TX} {A : EX} {r0 : Fm} {base : IH} {n : Nat} (F : Nat → PV) (b : Nat → Bool) (hn : n < 16777216)
    (hit : ∀ i t, i < n → ∃ v r1 t', it i (base ++ t) = some (some v) ∧ g v r0 = some r1 ∧ c r1 (base ++ t) = .ok (b i) (base ++ (t ++ t')) ∧ (b i = true → ∃ t2, A r1 (base ++ (t ++ t')) = .ok (F i) (base ++ (t ++ (t' ++ t2)))))
    (hend : ∀ t, it n (base ++ t) = some none) : ∀ k i t, i ≤ n → n - i < k → ∃ t', lcL it g c A r0 base.length k i (base ++ .lst (((List.range i).filter b).map F) :: t) = .ok () (base ++ .lst (((List.range n).filter b).map F) :: t') := by
  intro k
  induction k with
  | zero => intro i t _ h; omega
  | succ k ih =>
    intro i t hi hk
    by_cases q : i < n
    · obtain ⟨v, r1, t', e1, e2, e3, e4⟩ := hit i (.lst (((List.range i).filter b).map F) :: t) q
      have fl : ((List.range i).filter b).length < 16777216 := by
        have := List.length_filter_le b (List.range i)
        simp at this; omega
      cases hb : b i with
      | true =>
        obtain ⟨t2, e4⟩ := e4 hb
        obtain ⟨t3, e⟩ := ih (i + 1) (t ++ (t' ++ t2)) (by omega) (by omega)
        refine ⟨t3, ?_⟩
        rw [← e]
        conv => lhs; unfold lcL
        rw [hb] at e3
        simp only [List.cons_append] at e3 e4
        simp [e1, e2, e3, e4, fl, List.range_succ, List.filter_append, hb]
      | false =>
        obtain ⟨t3, e⟩ := ih (i + 1) (t ++ t') (by omega) (by omega)
        refine ⟨t3, ?_⟩
        rw [← e]
        conv => lhs; unfold lcL
        rw [hb] at e3
        simp only [List.cons_append] at e3
        simp [e1, e2, e3, List.range_succ, List.filter_append, hb]
    · have : i = n := by omega
      subst this
      refine ⟨t, ?_⟩
      unfold lcL
      simp [hend]
/-- the whole of it -/
theorem lc_all {I : Fm → IH → Res ItF} {it : ItF} {g : TgF} {c : TX} {A : EX} {vs : List Nat} {r : Fm} {h base : IH} {n : Nat} (F : Nat → PV) (b : Nat → Bool) (hn : n < 1000000) (hI : I r h = .ok it base)
    (hit : ∀ i t, i < n → ∃ v r1 t', it i (base ++ t) = some (some v) ∧ g v (wipeF r vs) = some r1 ∧ c r1 (base ++ t) = .ok (b i) (base ++ (t ++ t')) ∧ (b i = true → ∃ t2, A r1 (base ++ (t ++ t')) = .ok (F i) (base ++ (t ++ (t' ++ t2)))))
    (hend : ∀ t, it n (base ++ t) = some none) : ∃ t, eLc I g c A vs r h = .ok (.obj base.length) (base ++ .lst (((List.range n).filter b).map F) :: t) := by
  obtain ⟨t, e⟩ := lc_gen F b (by omega) hit hend LIM 0 [] (by omega) (by simp [LIM]; omega)
  refine ⟨t, ?_⟩
  simp only [List.range_zero, List.filter_nil, List.map_nil] at e
  simp [eLc, hI, e]
theorem filt_range {α : Type} (L : List α) (d : α) (P : α → Bool) : ((List.range L.length).filter fun i => P (L.getD i d)).map (fun i => L.getD i d) = L.filter P := by
  have e : (List.range L.length).map (fun i => L.getD i d) = L := by
    apply List.ext_getElem
    · simp
    · intro i h1 h2; simp at h1; simp [h1]
  conv => rhs; rw [← e]
  rw [List.filter_map]; rfl
theorem any_eqv {α : Type} [DecidableEq α] {n : Nat} {enc : α → PV} {den : α → PyData} (e : EncOk n enc den) (a : α) (xs : List α) : ((xs.map den).any fun z => PyData.eqv z (den a)) = decide (a ∈ xs) := by
  induction xs with
  | nil => rfl
  | cons b bs ih =>
    rw [List.map_cons, List.any_cons, ih, e.eqv]
    by_cases q : b = a
    · subst q; simp
    · have : ¬ a = b := fun z => q z.symm
      simp [q, this]
theorem EncOk.in_obj {α : Type} [DecidableEq α] {n : Nat} {enc : α → PV} {den : α → PyData} (e : EncOk n enc den) (hn : n ≤ 11) (a : α) {k : Nat} {xs : List α} {h : IH} (hk : h[k]? = some (.lst (xs.map enc))) : pInB (enc a) (.obj k) h = some (decide (a ∈ xs)) := by
  have x := optAll_map xs fun z _ => e.dat 11 h z hn
  have y := e.dat 12 h a (by omega)
  have s : SeqAt.shaped (.list (xs.map den)) = true := by
    have l := canAll xs e.lay
    have d := depAll xs e.dep
    simp [SeqAt.shaped, PyData.canLay0, PyData.depth, l]; omega
  have s2 : SeqAt.shaped (den a) = true := by
    have := e.dep a
    simp [SeqAt.shaped, e.lay a]; omega
  have z : dataOf 12 h (.obj k) = some (.list (xs.map den)) := by simp [dataOf, hk, x]
  simp only [pInB, DEP, y, z, s, s2, any_eqv e]
  rfl
end WR

namespace WR
open PySem PySem.Spec PyProof.Rows L2
/-! ### a comprehension whose code draws -/
theorem w_lc {I : Fm → IH → Res ItF} {it : ItF} {g : TgF} {c : TX} {A : EX} {vs : List Nat} {r : Fm} {h h1 : IH} (n : Nat) (J : Nat → List PV → IH → Prop) (hI : I r h = .ok it h1) (hn : n < 1000000) (h0 : J 0 [] (h1 ++ [.lst []]))
    (hs : ∀ i acc h, i < n → J i acc h → acc.length ≤ i → h[h1.length]? = some (.lst acc) → ∃ v r1 b h2, it i h = some (some v) ∧ g v (wipeF r vs) = some r1 ∧ c r1 h = .ok b h2 ∧ (b = false → h2[h1.length]? = some (.lst acc) ∧ J (i + 1) acc h2) ∧
      (b = true → ∃ y h3, A r1 h2 = .ok y h3 ∧ h3[h1.length]? = some (.lst acc) ∧ J (i + 1) (acc ++ [y]) (h3.set h1.length (.lst (acc ++ [y])))))
    (he : ∀ acc h, J n acc h → h[h1.length]? = some (.lst acc) → it n h = some none) : ∃ acc h', eLc I g c A vs r h = .ok (.obj h1.length) h' ∧ h'[h1.length]? = some (.lst acc) ∧ J n acc h' := by
  have key : ∀ k i acc h, n - i < k → i ≤ n → acc.length ≤ i → h[h1.length]? = some (.lst acc) → J i acc h → ∃ acc' h', lcL it g c A (wipeF r vs) h1.length k i h = .ok () h' ∧ h'[h1.length]? = some (.lst acc') ∧ J n acc' h' := by
    intro k
    induction k with
    | zero => intro i acc h hk; omega
    | succ k ih =>
      intro i acc h hk hi ha hD hJ
      by_cases q : i < n
      · obtain ⟨v, r1, b, h2, e1, e2, e3, e4, e5⟩ := hs i acc h q hJ ha hD
        unfold lcL
        simp only [e1, e2, e3]
        cases b with
        | false =>
          obtain ⟨x1, x2⟩ := e4 rfl
          simpa using ih (i + 1) acc h2 (by omega) (by omega) (by omega) x1 x2
        | true =>
          obtain ⟨y, h3, x1, x2, x3⟩ := e5 rfl
          have al : acc.length < 16777216 := by omega
          obtain ⟨acc', h', z1, z2⟩ := ih (i + 1) (acc ++ [y]) (h3.set h1.length (.lst (acc ++ [y]))) (by omega) (by omega) (by simp; omega) (List.getElem?_set_self (lt_of_get x2)) x3
          exact ⟨acc', h', by simp only [if_true, x1, x2, al, z1], z2⟩
      · have : i = n := by omega
        subst this
        unfold lcL
        simp only [he acc h hJ hD]
        exact ⟨acc, h, rfl, hD, hJ⟩
  obtain ⟨acc, h', e, e1, e2⟩ := key LIM 0 [] (h1 ++ [.lst []]) (by simp [LIM]; omega) (by omega) (by simp) (by simp) h0
  exact ⟨acc, h', by simp [eLc, hI, e], e1, e2⟩
end WR

namespace WR
open PySem PySem.Spec PyProof.Rows L2
/-! ### expressions step by step -/
section
variable {A B C : EX} {L : AX} {c d : TX} {r : Fm} {h h1 h2 h3 : IH} {v w u : PV} {vs ws : List PV} {p q : PV → PV → IH → Res PV} {f : List PV → IH → Res PV} {b : Bool} {i : Nat}
theorem x_var (e : r[i]? = some (some v)) : eVar i r h = .ok v h := by simp [e]
theorem x_c : eC v r h = .ok v h := rfl
theorem x_op (a : A r h = .ok v h1) (b : B r h1 = .ok w h2) (e : p v w h2 = .ok u h3) : eOp p A B r h = .ok u h3 := by simp [a, b, e]
theorem x_nil : aNil r h = .ok [] h := rfl
theorem x_cons (a : A r h = .ok v h1) (b : L r h1 = .ok vs h2) : aCons A L r h = .ok (v :: vs) h2 := by simp [a, b]
theorem x_call (a : L r h = .ok vs h1) (e : f vs h1 = .ok v h2) : eCall f L r h = .ok v h2 := by simp [a, e]
theorem x_b (a : L r h = .ok vs h1) (e : f vs h1 = .ok v h2) : eB f L r h = .ok v h2 := by simp [a, e]
theorem x_tup (a : L r h = .ok vs h1) (e : vs.length ≤ 16777216) : eTup L r h = .ok (.tup vs) h1 := by simp [a, e]
theorem x_lst (a : L r h = .ok vs h1) (e : vs.length ≤ 16777216) : eLst L r h = .ok (.obj h1.length) (h1 ++ [.lst vs]) := by simp [a, e]
theorem x_f (a : A r h = .ok v h1) : eF A r h = .ok (nrm v) h1 := by simp [a]
theorem x_key {ks : List Int} (a : L r h = .ok vs h1) (e : keyOf vs = some ks) (l : ks.length ≤ 16777216) : eKey L r h = .ok (.key ks) h1 := by simp [a, e, l]
theorem x_ifT (a : c r h = .ok true h1) (e : A r h1 = .ok v h2) : eIf c A B r h = .ok v h2 := by simp [a, e]
theorem x_ifF (a : c r h = .ok false h1) (e : B r h1 = .ok v h2) : eIf c A B r h = .ok v h2 := by simp [a, e]
theorem x_if (a : c r h = .ok b h1) (e1 : b = true → A r h1 = .ok v h2) (e2 : b = false → B r h1 = .ok v h2) : eIf c A B r h = .ok v h2 := by
  cases b with
  | true => exact x_ifT a (e1 rfl)
  | false => exact x_ifF a (e2 rfl)
theorem x_app {n : Nat} {xs : List PV} (a : A r h = .ok (.obj n) h1) (g : h1[n]? = some (.lst xs)) (e : L r h1 = .ok [w] h2) (g2 : h2[n]? = some (.lst xs)) (l : xs.length < 16777216) : eAppend A L r h = .ok .non (h2.set n (.lst (xs ++ [w]))) := by
  simp [a, g, e, g2, l]
theorem x_sl {lo hi : Option Int} {l o : OX} (a : A r h = .ok v h1) (e1 : l r h1 = .ok lo h1) (e2 : o r h1 = .ok hi h1) (e : pSl v lo hi h1 = .ok w h2) : eSl A l o r h = .ok w h2 := by
  unfold eSl; simp only [a, e1, e2, bind_ok, e]
theorem x_slK {lo hi : Option Int} {l o : OX} (a : A r h = .ok v h1) (e1 : l r h1 = .ok lo h1) (e2 : o r h1 = .ok hi h1) (e : pSlK v lo hi h1 = .ok w h2) : eSlK A l o r h = .ok w h2 := by
  unfold eSlK; simp only [a, e1, e2, bind_ok, e]
theorem o_none : oNone r h = .ok none h := rfl
theorem o_some {k : Int} (a : A r h = .ok (.int k) h1) : oSome A r h = .ok (some k) h1 := by simp [a]
theorem t_bl (a : A r h = .ok (.bl b) h1) : tBl A r h = .ok b h1 := by simp [a]
theorem t_tru (a : A r h = .ok v h1) (e : pTru v h1 = some b) : tTru A r h = .ok b h1 := by simp only [tTru, a, bind_ok, e, opt]
theorem t_not (a : c r h = .ok b h1) : tNotX c r h = .ok (!b) h1 := by simp [a]
theorem t_and {b2 : Bool} (a : c r h = .ok b h1) (e1 : b = true → d r h1 = .ok b2 h2) (e2 : b = false → b2 = false ∧ h2 = h1) : tAndX c d r h = .ok b2 h2 := by
  cases b with
  | true => simp [a, e1 rfl]
  | false => obtain ⟨rfl, rfl⟩ := e2 rfl; simp [a]
theorem t_or {b2 : Bool} (a : c r h = .ok b h1) (e1 : b = false → d r h1 = .ok b2 h2) (e2 : b = true → b2 = true ∧ h2 = h1) : tOrX c d r h = .ok b2 h2 := by
  cases b with
  | false => simp [a, e1 rfl]
  | true => obtain ⟨rfl, rfl⟩ := e2 rfl; simp [a]
/-! the operations -/
theorem p_addI {x y : Int} : pAdd (.int x) (.int y) h = .ok (.int (x + y)) h := rfl
theorem p_addT {xs ys : List PV} (l : xs.length + ys.length ≤ 16777216) : pAdd (.tup xs) (.tup ys) h = .ok (.tup (xs ++ ys)) h := by simp [l]
theorem p_addL {m n : Nat} {xs ys : List PV} (a : h[m]? = some (.lst xs)) (b : h[n]? = some (.lst ys)) (l : xs.length + ys.length ≤ 16777216) : pAdd (.obj m) (.obj n) h = .ok (.obj h.length) (h ++ [.lst (xs ++ ys)]) := by simp [a, b, l]
theorem p_slTo {n : Nat} {xs : List PV} {k : Int} (a : h[n]? = some (.lst xs)) (k0 : 0 ≤ k) : pSl (.obj n) none (some k) h = .ok (.obj h.length) (h ++ [.lst (xs.take k.toNat)]) := by simp [a, cut_to _ _ k0]
theorem p_slFrom {n : Nat} {xs : List PV} {k : Int} (a : h[n]? = some (.lst xs)) (k0 : 0 ≤ k) : pSl (.obj n) (some k) none h = .ok (.obj h.length) (h ++ [.lst (xs.drop k.toNat)]) := by simp [a, cut_from _ _ k0]
theorem p_slT {xs : List PV} {k : Int} (k0 : 0 ≤ k) : pSl (.tup xs) none (some k) h = .ok (.tup (xs.take k.toNat)) h := by simp [cut_to _ _ k0]
theorem p_idxT {xs : List PV} {k : Int} (k0 : 0 ≤ k) (e : xs[k.toNat]? = some v) : pIdx (.tup xs) (.int k) h = .ok v h := by
  have l : k.toNat < xs.length := (List.getElem?_eq_some_iff.mp e).1
  simp [atI_pos xs k k0 (by omega), e]
theorem p_idxL {n : Nat} {xs : List PV} {k : Int} (a : h[n]? = some (.lst xs)) (k0 : 0 ≤ k) (e : xs[k.toNat]? = some v) : pIdx (.obj n) (.int k) h = .ok v h := by
  have l : k.toNat < xs.length := (List.getElem?_eq_some_iff.mp e).1
  simp [a, atI_pos xs k k0 (by omega), e]
theorem p_lenL {n : Nat} {xs : List PV} (a : h[n]? = some (.lst xs)) : pLen [.obj n] h = .ok (.int xs.length) h := by simp [a]
theorem p_lenT {xs : List PV} : pLen [.tup xs] h = .ok (.int xs.length) h := by simp
theorem p_in (e : pInB v w h = some b) : pIn v w h = .ok (.bl b) h := by simp only [pIn, e, Option.map, opt]
theorem p_notin (e : pInB v w h = some b) : pNotIn v w h = .ok (.bl (!b)) h := by simp only [pNotIn, e, Option.map, opt]
theorem p_eq (e : pEqB v w h = some b) : pEq v w h = .ok (.bl b) h := by simp only [pEq, e, Option.map, opt]
theorem p_ne (e : pEqB v w h = some b) : pNe v w h = .ok (.bl (!b)) h := by simp only [pNe, e, Option.map, opt]
theorem w_par {i j : Nat} {N : Fm → IH → Prop} {R : PV → IH → Prop} (e : L r h = .ok [v, w] h1) (k : N ((r.set i (some v)).set j (some w)) h1) : (sPar i j L r h).Is N R := by
  simp only [sPar, e, toS]; exact k
theorem w_asg {is : List Nat} {r1 : Fm} {N : Fm → IH → Prop} {R : PV → IH → Prop} (e : A r h = .ok (.tup vs) h1) (s : setAll is vs r = some r1) (k : N r1 h1) : (sAsgT (gTupF is) A r h).Is N R := by
  simp only [sAsgT, e, toS, gTupF, s]; exact k
theorem w_fn2 {ps n : Nat} {Bd : SX} {us : List PV} {P : PV → IH → Prop} (hl : us.length = ps) (e : (Bd (us.map some ++ List.replicate n none) h).Is (fun _ h1 => P .non h1) P) : ∃ v h1, fn ps n Bd us h = .ok v h1 ∧ P v h1 := w_fn hl e
theorem sl1 {o o2 : MO} : (h ++ [o]).set h.length o2 = h ++ [o2] := by simp
theorem gl {o : MO} : (h ++ [o])[h.length]? = some o := by simp
theorem w_dput {n : Nat} {ks : List Int} {kvs : List (List Int × PV)} {D K V : EX} {N : Fm → IH → Prop} {R : PV → IH → Prop} (a : V r h = .ok v h1) (b : D r h1 = .ok (.obj n) h2) (e : K r h2 = .ok (.key ks) h3) (g : h3[n]? = some (.dct kvs)) (l : kvs.length < 16777216) (k : N r (h3.set n (.dct (dPut kvs ks v)))) : (sDPutX D K V r h).Is N R := by
  simp only [sDPutX, a, b, e, toS, g, l, if_true]; exact k
theorem w_setix {n : Nat} {xs : List PV} {k : Int} {O I V : EX} {N : Fm → IH → Prop} {R : PV → IH → Prop} (a : V r h = .ok v h1) (b : O r h1 = .ok (.obj n) h2) (e : I r h2 = .ok (.int k) h3) (g : h3[n]? = some (.lst xs)) (k0 : 0 ≤ k) (k1 : k.toNat < xs.length) (q : N r (h3.set n (.lst (xs.set k.toNat v)))) : (sSetIx O I V r h).Is N R := by
  have z : ixN xs.length k = some k.toNat := by simp [ixN, k0, show k < (xs.length : Int) by omega]
  simp only [sSetIx, a, b, e, bind_ok, g, z, toS]
  exact q
theorem w_aug {i : Nat} {x y : Int} {N : Fm → IH → Prop} {R : PV → IH → Prop} (g : r[i]? = some (some (.int x))) (e : A r h = .ok (.int y) h1) (k : N (r.set i (some (.int (x + y)))) h1) : (sAugAdd i A r h).Is N R := by
  simp only [sAugAdd, g, e, toS]; exact k
end
/-! ### dicts -/
theorem dGet_put_self (kvs : List (List Int × PV)) (k : List Int) (v : PV) : dGet (dPut kvs k v) k = some v := by
  unfold dPut
  split
  · rename_i hk
    induction kvs with
    | nil => simp at hk
    | cons q t ih =>
      unfold dGet
      rw [List.map_cons, List.find?_cons]
      by_cases hq : q.1 = k
      · simp [hq]
      · simp only [hq, if_false, decide_false]
        have hk' : (t.any fun q => decide (q.1 = k)) = true := by simpa [hq] using hk
        exact ih hk'
  · rename_i hk
    unfold dGet
    rw [List.find?_append]
    have : (kvs.find? fun q => decide (q.1 = k)) = none := by
      rw [List.find?_eq_none]
      intro x hx
      intro z
      exact hk (List.any_eq_true.mpr ⟨x, hx, z⟩)
    simp [this]
theorem dGet_put_ne (kvs : List (List Int × PV)) {k k' : List Int} (v : PV) (h : k' ≠ k) : dGet (dPut kvs k v) k' = dGet kvs k' := by
  unfold dPut
  split
  · rename_i hk
    clear hk
    unfold dGet
    induction kvs with
    | nil => rfl
    | cons q t ih =>
      rw [List.map_cons, List.find?_cons, List.find?_cons]
      by_cases hq : q.1 = k
      · have hn : ¬ k = k' := fun z => h z.symm
        simp only [hq, if_true, hn, decide_false]
        exact ih
      · simp only [hq, if_false]
        split
        · rfl
        · exact ih
  · unfold dGet
    rw [List.find?_append]
    cases z : kvs.find? fun q => decide (q.1 = k') with
    | some y => simp
    | none =>
      have hn : ¬ k = k' := fun z => h z.symm
      simp [hn]
theorem dPut_len (kvs : List (List Int × PV)) (k : List Int) (v : PV) : (dPut kvs k v).length ≤ kvs.length + 1 := by
  unfold dPut
  split
  · simp
  · simp
end WR

namespace WR
open PySem PySem.Spec PyProof.Rows L2
/-! ### sums -/
def sumN (f : Nat → Rat) : Nat → Rat
  | 0 => 0
  | n + 1 => sumN f n + f n
theorem sumN_congr {f g : Nat → Rat} : ∀ {n : Nat}, (∀ i, i < n → f i = g i) → sumN f n = sumN g n
  | 0, _ => rfl
  | n + 1, h => by
    simp only [sumN]
    rw [sumN_congr (n := n) fun i hi => h i (by omega), h n (by omega)]
theorem sumN_add (f g : Nat → Rat) : ∀ n, sumN (fun i => f i + g i) n = sumN f n + sumN g n
  | 0 => by simp only [sumN]; grind
  | n + 1 => by simp only [sumN]; rw [sumN_add f g n]; grind
theorem sumN_mul (c : Rat) (f : Nat → Rat) : ∀ n, sumN (fun i => c * f i) n = c * sumN f n
  | 0 => by simp [sumN]
  | n + 1 => by simp only [sumN]; rw [sumN_mul c f n]; grind
theorem sumN_nonneg {f : Nat → Rat} : ∀ {n : Nat}, (∀ i, i < n → 0 ≤ f i) → 0 ≤ sumN f n
  | 0, _ => by simp [sumN]
  | n + 1, h => by
    have a := sumN_nonneg (n := n) fun i hi => h i (by omega)
    have b := h n (by omega)
    simp only [sumN]; grind
theorem sumN_zero {f : Nat → Rat} {n : Nat} (h : ∀ i, i < n → f i = 0) : sumN f n = 0 := by
  rw [sumN_congr (g := fun _ => 0) h]
  have : ∀ n, sumN (fun _ => (0 : Rat)) n = 0 := fun n => by
    induction n with
    | zero => rfl
    | succ n ih => simp only [sumN, ih]; grind
  exact this n
/-! ### places: how many, road, distance, weight -/
structure Pls where
  n : Nat
  ro : Nat → Int
  di : Nat → Rat
  we : Nat → Rat
namespace Pls
variable (p : Pls)
/-- a turn to place j reaches place i -/
def near (j i : Nat) : Bool := decide (p.ro i = p.ro j) && decide (p.di i ≤ p.di j)
def go (D : Nat → Bool) (j : Nat) : Nat → Bool := fun i => D i || p.near j i
def cost (D : Nat → Bool) (j : Nat) : Rat := sumN (fun i => if p.go D j i then (if D i then 0 else p.di i * p.we i) else 2 * p.di j * p.we i) p.n
def tot : (Nat → Bool) → List Nat → Rat
  | _, [] => 0
  | D, j :: T => p.cost D j + tot (p.go D j) T
def aft : (Nat → Bool) → List Nat → Nat → Bool
  | D, [] => D
  | D, j :: T => aft (p.go D j) T
def Cov (D : Nat → Bool) (T : List Nat) : Prop := ∀ i, i < p.n → p.aft D T i = true
def Dc (D : Nat → Bool) : Prop := ∀ i j, i < p.n → j < p.n → D j = true → p.near j i = true → D i = true
structure Ok : Prop where
  di : ∀ i, i < p.n → 0 < p.di i
  we : ∀ i, i < p.n → 0 ≤ p.we i
def Opt (D : Nat → Bool) (v : Rat) : Prop := (∀ T : List Nat, (∀ j ∈ T, j < p.n) → p.Cov D T → v ≤ p.tot D T) ∧ ∃ T : List Nat, T.Nodup ∧ (∀ j ∈ T, j < p.n ∧ D j = false) ∧ p.Cov D T ∧ p.tot D T = v
variable {p}
theorem near_self (j : Nat) : p.near j j = true := by simp [near, Rat.le_refl]
theorem near_trans {i j k : Nat} (a : p.near k j = true) (b : p.near j i = true) : p.near k i = true := by
  simp only [near, Bool.and_eq_true, decide_eq_true_eq] at *
  exact ⟨b.1.trans a.1, Rat.le_trans b.2 a.2⟩
theorem go_self (D : Nat → Bool) (j : Nat) : p.go D j j = true := by simp [go, near_self]
theorem go_le {D : Nat → Bool} {i : Nat} (j : Nat) (h : D i = true) : p.go D j i = true := by simp [go, h]
theorem aft_le {i : Nat} : ∀ (T : List Nat) {D : Nat → Bool}, D i = true → p.aft D T i = true
  | [], _, h => h
  | j :: T, _, h => aft_le T (go_le j h)
theorem Dc.go {D : Nat → Bool} (d : p.Dc D) (j : Nat) : p.Dc (p.go D j) := fun i k hi hk h1 h2 => by
  simp only [Pls.go, Bool.or_eq_true] at *
  rcases h1 with h1 | h1
  · exact .inl (d i k hi hk h1 h2)
  · exact .inr (near_trans h1 h2)
theorem Dc.none : p.Dc fun _ => false := fun _ _ _ _ h => by cases h
theorem cost_nonneg (o : p.Ok) (D : Nat → Bool) {j : Nat} (hj : j < p.n) : 0 ≤ p.cost D j := by
  refine sumN_nonneg fun i hi => ?_
  have a := o.di i hi
  have b := o.we i hi
  have c := o.di j hj
  split
  · split
    · exact Rat.le_refl
    · exact Rat.mul_nonneg (Rat.le_of_lt a) b
  · exact Rat.mul_nonneg (by grind) b
/-- a turn to a place that is done does nothing -/
theorem go_done {D : Nat → Bool} (d : p.Dc D) {j : Nat} (hj : j < p.n) (h : D j = true) {i : Nat} (hi : i < p.n) : p.go D j i = D i := by
  simp only [go]
  cases q : p.near j i with
  | false => simp
  | true => rw [d i j hi hj h q]; rfl
theorem cost_congr {D E : Nat → Bool} (e : ∀ i, i < p.n → D i = E i) (j : Nat) : p.cost D j = p.cost E j := by
  refine sumN_congr fun i hi => ?_
  have h1 : p.go D j i = p.go E j i := by simp only [go, e i hi]
  rw [h1, e i hi]
theorem tot_congr : ∀ (T : List Nat) {D E : Nat → Bool}, (∀ i, i < p.n → D i = E i) → p.tot D T = p.tot E T
  | [], _, _, _ => rfl
  | j :: T, D, E, e => by
    simp only [tot]
    rw [cost_congr e j, tot_congr T (D := p.go D j) (E := p.go E j) fun i hi => by simp only [go, e i hi]]
theorem aft_congr : ∀ (T : List Nat) {D E : Nat → Bool}, (∀ i, i < p.n → D i = E i) → ∀ i, i < p.n → p.aft D T i = p.aft E T i
  | [], _, _, e => e
  | j :: T, D, E, e => fun i hi => aft_congr T (fun i hi => by simp only [go, e i hi]) i hi
theorem Opt.congr {D E : Nat → Bool} {v : Rat} (e : ∀ i, i < p.n → D i = E i) (o : p.Opt D v) : p.Opt E v := by
  obtain ⟨a, T, h1, h2, h3, h4⟩ := o
  refine ⟨fun T hT c => ?_, T, h1, fun j hj => ⟨(h2 j hj).1, by rw [← e j (h2 j hj).1]; exact (h2 j hj).2⟩, fun i hi => ?_, ?_⟩
  · rw [← tot_congr T e]
    exact a T hT fun i hi => by rw [aft_congr T e i hi]; exact c i hi
  · rw [← aft_congr T e i hi]; exact h3 i hi
  · rw [← tot_congr T e]; exact h4
theorem Opt.uniq {D : Nat → Bool} {v w : Rat} (a : p.Opt D v) (b : p.Opt D w) : v = w := by
  obtain ⟨a1, T, a2, a3, a4, rfl⟩ := a
  obtain ⟨b1, S, b2, b3, b4, rfl⟩ := b
  have h1 := a1 S (fun j hj => (b3 j hj).1) b4
  have h2 := b1 T (fun j hj => (a3 j hj).1) a4
  exact Rat.le_antisymm h1 h2
theorem tot_nonneg (o : p.Ok) : ∀ (T : List Nat) (D : Nat → Bool), (∀ j ∈ T, j < p.n) → 0 ≤ p.tot D T
  | [], _, _ => Rat.le_refl
  | j :: T, D, h => by
    have a := cost_nonneg o D (h j (by simp))
    have b := tot_nonneg o T (p.go D j) fun k hk => h k (by simp [hk])
    simp only [tot]; grind
theorem opt_done (o : p.Ok) {D : Nat → Bool} (h : ∀ i, i < p.n → D i = true) : p.Opt D 0 :=
  ⟨fun T hT _ => tot_nonneg o T D hT, [], by simp, by simp, h, rfl⟩
/-- Bellman -/
theorem opt_step (o : p.Ok) {D : Nat → Bool} (d : p.Dc D) {w : Nat → Rat} {v : Rat} (hw : ∀ j, j < p.n → D j = false → p.Opt (p.go D j) (w j)) (h1 : ∃ j, j < p.n ∧ D j = false ∧ v = p.cost D j + w j) (h2 : ∀ j, j < p.n → D j = false → v ≤ p.cost D j + w j) : p.Opt D v := by
  constructor
  · intro T
    induction T with
    | nil =>
      intro _ c
      obtain ⟨j, hj, hd, _⟩ := h1
      have := c j hj
      simp only [aft] at this
      rw [hd] at this; cases this
    | cons j T ih =>
      intro hT c
      have hj := hT j (by simp)
      cases q : D j with
      | false =>
        have a := (hw j hj q).1 T (fun k hk => hT k (by simp [hk])) c
        have b := h2 j hj q
        simp only [tot]; grind
      | true =>
        have e : ∀ i, i < p.n → p.go D j i = D i := fun i hi => go_done d hj q hi
        have a := ih (fun k hk => hT k (by simp [hk])) fun i hi => by rw [← aft_congr T e i hi]; exact c i hi
        have b := cost_nonneg o D hj
        simp only [tot]
        rw [tot_congr T e]
        grind
  · obtain ⟨j, hj, hd, rfl⟩ := h1
    obtain ⟨_, T, t1, t2, t3, t4⟩ := hw j hj hd
    refine ⟨j :: T, List.nodup_cons.mpr ⟨fun hm => ?_, t1⟩, fun k hk => ?_, t3, by simp only [tot]; rw [t4]⟩
    · have := (t2 j hm).2
      rw [go_self] at this; cases this
    · rcases List.mem_cons.mp hk with rfl | hk
      · exact ⟨hj, hd⟩
      · obtain ⟨z1, z2⟩ := t2 k hk
        refine ⟨z1, ?_⟩
        simp only [go, Bool.or_eq_false_iff] at z2
        exact z2.1
/-! ### what is walked until a place -/
variable (p) in
def wk : List Nat → Nat → Option Rat
  | [], _ => none
  | j :: T, i => if p.near j i then some (p.di i) else (wk T i).map fun x => 2 * p.di j + x
theorem wk_some : ∀ (T : List Nat) {D : Nat → Bool} {i : Nat}, D i = false → p.aft D T i = true → ∃ x, p.wk T i = some x
  | [], D, i, h1, h2 => by simp only [aft] at h2; rw [h1] at h2; cases h2
  | j :: T, D, i, h1, h2 => by
    simp only [wk]
    cases q : p.near j i with
    | true => exact ⟨p.di i, by simp⟩
    | false =>
      obtain ⟨x, e⟩ := wk_some T (D := p.go D j) (i := i) (by simp [go, h1, q]) h2
      exact ⟨2 * p.di j + x, by simp [e]⟩
theorem tot_wk : ∀ (T : List Nat) {D : Nat → Bool}, p.Cov D T → p.tot D T = sumN (fun i => if D i then 0 else p.we i * ((p.wk T i).getD 0)) p.n
  | [], D, c => by
    have e : sumN (fun i => if D i then 0 else p.we i * ((p.wk [] i).getD 0)) p.n = 0 := sumN_zero fun i hi => if_pos (c i hi)
    rw [e]
    rfl
  | j :: T, D, c => by
    have ih := tot_wk T (D := p.go D j) c
    simp only [tot]
    rw [ih]
    simp only [cost]
    rw [← sumN_add]
    refine sumN_congr fun i hi => ?_
    cases h1 : D i with
    | true => simp [go, h1]; grind
    | false =>
      cases h2 : p.near j i with
      | true => simp [go, h1, h2, wk]; grind
      | false =>
        obtain ⟨x, e⟩ := wk_some T (D := p.go D j) (i := i) (by simp [go, h1, h2]) (c i hi)
        simp [go, h1, h2, wk, e]; grind
end Pls
end WR

namespace WR
open PySem PySem.Spec PyProof.Rows L2
/-! ### chances -/
abbrev Ch := Int × Rat × Int
def che (c : Ch) : PV := .tup [.int c.1, fq c.2.1, .int c.2.2]
def chs (L : List Ch) : PV := .tup (L.map che)
structure OkC (R : Int) (c : Ch) : Prop where
  r0 : 0 ≤ c.1
  r1 : c.1 < R
  f1 : 1 ≤ c.2.1
  f2 : c.2.1 ≤ 30
  f8 : Dn 8 c.2.1
  w1 : 1 ≤ c.2.2
  w2 : c.2.2 ≤ 999
structure OkL (R : Int) (L : List Ch) : Prop where
  r1 : 1 ≤ R
  r5 : R ≤ 5
  n1 : 1 ≤ L.length
  n8 : L.length ≤ 8
  c : ∀ c ∈ L, OkC R c
  nd : (L.map fun c => ((c.1, c.2.1) : Int × Rat)).Nodup
def c2 (c : Ch) : Int × Rat := (c.1, c.2.1)
theorem nd_take {α : Type} {l : List α} (nd : l.Nodup) {i : Nat} (hi : i < l.length) : l[i] ∉ l.take i := fun z => by
  have e := List.take_append_drop i l
  rw [← e] at nd
  exact (List.nodup_append.mp nd).2.2 _ z _ (List.mem_drop_iff_getElem.mpr ⟨0, by omega, by simp⟩) rfl
theorem OkC.sm {R : Int} {c : Ch} (o : OkC R c) : Sm 10 c.2.1 := sm_of (V := 30) o.f8 (by decide) (by have := o.f1; grind) o.f2 (by decide) (by decide)
theorem chance_eq {R : Int} {c : Ch} (o : OkC R c) (h : IH) : f_is_chance [che c, .int R] h = .ok (.bl true) h := by
  have a := o.r0
  have b := o.r1
  have e := within_eq o.sm (by decide) 1 1000000 (by decide) (by decide) h
  have f : decide (((1 : Int) : Rat) ≤ c.2.1 ∧ c.2.1 ≤ ((1000000 : Int) : Rat)) = true := decide_eq_true ⟨o.f1, Rat.le_trans o.f2 (by decide +kernel)⟩
  rw [f] at e
  have := o.w1
  have := o.w2
  simp [f_is_chance, b_is_chance, che, tyNames, subTy, e, show 0 ≤ c.1 ∧ c.1 ≤ R - 1 by omega, show 1 ≤ c.2.2 ∧ c.2.2 ≤ 999 by omega]
theorem ckroads_eq {R : Int} (h1 : 1 ≤ R) (h2 : R ≤ 5) (h : IH) : f_check_roads [.int R] h = .ok .non h := by
  simp [f_check_roads, b_check_roads, h1, h2]
theorem cut_che (c : Ch) : cutA [PV.int c.1, fq c.2.1, .int c.2.2] none (some 2) = [.int c.1, fq c.2.1] := by
  rw [cut_to _ _ (by decide)]; rfl
theorem chances_eq {R : Int} {L : List Ch} (o : OkL R L) (h : IH) : ∃ t, f_check_chances [.int R, chs L] h = .ok .non (h ++ t) := by
  have k1 := ckroads_eq o.r1 o.r5
  have n1 := o.n1
  have n8 := o.n8
  suffices q : ∃ v h1, f_check_chances [.int R, chs L] h = .ok v h1 ∧ (v = .non ∧ ∃ t, h1 = h ++ t) by
    obtain ⟨v, h1, e, rfl, t, rfl⟩ := q
    exact ⟨t, e⟩
  refine w_fn rfl ?_
  unfold b_check_chances
  refine w_seq (w_expr (v := .non) (h1 := h) (by simp [k1]) ?_)
  have c1 : decide ((1 : Int) ≤ (L.length : Int)) = true := decide_eq_true (by omega)
  have c2' : decide ((L.length : Int) ≤ 8) = true := decide_eq_true (by omega)
  refine w_seq (w_if (b := false) (h1 := h) (by simp [chs, tyNames, subTy]; simp only [show (1 : Int) ≤ (L.length : Int) by omega, show (L.length : Int) ≤ 8 by omega, decide_true, if_true]; rfl) (by simp) fun _ => w_nil ?_)
  refine w_seq (w_set (v := .obj h.length) (h1 := h ++ [.lst []]) (by simp) ?_)
  refine w_for L.length (fun i r g => ∃ x, r = [some (.int R), some (chs L), some (.obj h.length), x] ∧ g = h ++ [.lst (((L.take i).map c2).map tq)]) (it := itList (L.map che)) (h1 := h ++ [.lst []]) (by simp [chs]) (by omega) ⟨none, by simp, by simp⟩ ?_ ?_
  · rintro i r g hi ⟨x, rfl, rfl⟩
    have oc := o.c L[i] (by simp)
    have hc := chance_eq oc
    have nin : c2 L[i] ∉ (L.take i).map c2 := by
      have z := nd_take (l := L.map c2) o.nd (i := i) (by simpa using hi)
      rw [List.getElem_map, ← List.map_take] at z
      exact z
    have hin := EncOk.turn.in_obj (by decide) (c2 L[i]) (k := h.length) (xs := (L.take i).map c2) (h := h ++ [.lst (((L.take i).map c2).map tq)]) (by simp)
    simp only [nin, decide_false] at hin
    change pInB (.tup [.int L[i].1, fq L[i].2.1]) (.obj h.length) _ = _ at hin
    refine ⟨che L[i], _, by simp [hi], rfl, ?_⟩
    have e1 : L.take (i + 1) = L.take i ++ [L[i]] := by rw [List.take_add_one]; simp [hi]
    have sl : ∀ g : IH, eSl (eVar 3) oNone (oSome (eC (.int 2))) [some (.int R), some (chs L), some (.obj h.length), some (che L[i])] g = .ok (.tup [.int L[i].1, fq L[i].2.1]) g := fun g => x_sl (x_var rfl) o_none (o_some x_c) (p_slT (by decide))
    refine w_seq (w_if (b := false) (t_or (b := false) (t_not (t_tru (x_call (x_cons (x_var rfl) (x_cons (x_var rfl) x_nil)) (hc _)) rfl)) (fun _ => t_bl (x_op (sl _) (x_var rfl) (p_in hin))) (by simp)) (by simp) fun _ => w_nil ?_)
    refine w_expr (x_app (x_var rfl) gl (x_cons (sl _) x_nil) gl (by simp; omega)) ⟨_, by simp; rfl, ?_⟩
    rw [sl1, e1, List.map_append, List.map_append]; rfl
  · rintro r g ⟨x, rfl, rfl⟩
    exact ⟨by simp, rfl, _, rfl⟩
/-! ### rows -/
abbrev Row := List (Rat × Int)
def re (e : Rat × Int) : PV := .tup [fq e.1, .int e.2]
def insR (row : Row) (e : Rat × Int) : Row := row.take (row.filter fun x => decide (x.1 < e.1)).length ++ [e] ++ row.drop (row.filter fun x => decide (x.1 < e.1)).length
theorem place_row {row : Row} {e : Rat × Int} {m : Nat} {h : IH} (hl : row.length ≤ 100) (hs : ∀ x ∈ row, Sm 100 x.1) (he : Sm 100 e.1) (hm : h[m]? = some (.lst (row.map re))) :
    ∃ n t, f_with_place [.obj m, fq e.1, .int e.2] h = .ok (.obj n) (h ++ t) ∧ h.length ≤ n ∧ (h ++ t)[n]? = some (.lst ((insR row e).map re)) := by
  have m1 : ∀ t, (h ++ t)[m]? = some (.lst (row.map re)) := fun t => get_old hm
  obtain ⟨t, le⟩ := lc_all (I := eIter (eVar 0)) (it := itObj m) (g := gVar 4) (c := tTru (eCall f_is_less (aCons (eOp pIdx (eVar 4) (eC (.int 0))) (aCons (eVar 1) aNil)))) (A := eVar 4) (vs := [4]) (r := [some (.obj m), some (fq e.1), some (.int e.2), none, none]) (h := h) (base := h) (n := row.length) (fun i => re (row.getD i (0, 0))) (fun i => decide ((row.getD i (0, 0)).1 < e.1)) (by omega)
    (by simp [hm]) (fun i t hi => by
      have l := less_eq (hs row[i] (by simp)) he (by decide) (h ++ t)
      refine ⟨re row[i], _, [], by simp [m1, hi], by simp; rfl, ?_, fun _ => ⟨[], ?_⟩⟩
      · simp [re, l, hi]
      · simp [hi]) (fun t => by simp [m1])
  have fe : ((List.range row.length).filter fun i => decide ((row.getD i (0, 0)).1 < e.1)).map (fun i => re (row.getD i (0, 0))) = (row.filter fun x => decide (x.1 < e.1)).map re := by
    rw [← filt_range row (0, 0) fun x => decide (x.1 < e.1), List.map_map]; rfl
  rw [fe] at le
  have k1 : ((row.filter fun x => decide (x.1 < e.1)).length : Int).toNat = (row.filter fun x => decide (x.1 < e.1)).length := by omega
  have k2 := List.length_filter_le (fun x : Rat × Int => decide (x.1 < e.1)) row
  generalize hk : (row.filter fun x => decide (x.1 < e.1)).length = k at *
  generalize hg : h ++ .lst ((row.filter fun x => decide (x.1 < e.1)).map re) :: t = g at *
  have pg : Pre h g := ⟨_, hg.symm⟩
  have mg : g[m]? = some (.lst (row.map re)) := pg.get hm
  have z1 : g[h.length]? = some (.lst ((row.filter fun x => decide (x.1 < e.1)).map re)) := by rw [← hg]; simp
  have fin : ∃ v h1, f_with_place [.obj m, fq e.1, .int e.2] h = .ok v h1 ∧ ∃ n, v = .obj n ∧ h.length ≤ n ∧ Pre h h1 ∧ h1[n]? = some (.lst ((insR row e).map re)) := by
    refine w_fn rfl ?_
    unfold b_with_place
    refine w_seq (w_set (x_b (x_cons le x_nil) (p_lenL z1)) ?_)
    simp only [List.length_map, hk]
    have r0 : (0 : Int) ≤ (k : Nat) := by omega
    refine w_ret (x_op (x_op (x_sl (x_var rfl) o_none (o_some (x_var rfl)) (p_slTo mg r0)) (x_lst (x_cons (x_tup (x_cons (x_var rfl) (x_cons (x_var rfl) x_nil)) (by simp)) x_nil) (by simp)) (p_addL (get_old gl) gl (by simp; omega))) (x_sl (x_var rfl) (o_some (x_var rfl)) o_none (p_slFrom (get_old (get_old (get_old mg))) r0)) (p_addL (get_old gl) gl (by simp; omega))) ⟨_, rfl, ?_, ?_, ?_⟩
    · have := pg.le; simp; omega
    · exact (((((pg.app _).app _).app _).app _).app _)
    · rw [gl]; simp [insR, hk, re]
  obtain ⟨v, h1, e1, n, rfl, e2, ⟨u, rfl⟩, e4⟩ := fin
  exact ⟨n, u, e1, e2, e4⟩
end WR

namespace WR
open PySem PySem.Spec PyProof.Rows L2
/-! ### all rows -/
def putR (rs : List Row) (c : Ch) : List Row := rs.set c.1.toNat (insR (rs.getD c.1.toNat []) (c.2.1, c.2.2))
def rowsF (R : Int) (L : List Ch) : List Row := L.foldl putR (List.replicate R.toNat [])
theorem rowsF_snoc (R : Int) (L : List Ch) (c : Ch) : rowsF R (L ++ [c]) = putR (rowsF R L) c := by simp [rowsF, List.foldl_append]
theorem foldl_len (L : List Ch) : ∀ rs : List Row, (L.foldl putR rs).length = rs.length := by
  induction L with
  | nil => intro rs; rfl
  | cons c L ih => intro rs; rw [List.foldl_cons, ih]; simp [putR]
theorem rowsF_len (R : Int) (L : List Ch) : (rowsF R L).length = R.toNat := by rw [rowsF, foldl_len]; simp
theorem insR_mem {row : Row} {e x : Rat × Int} : x ∈ insR row e ↔ x = e ∨ x ∈ row := by
  unfold insR
  generalize (row.filter fun x => decide (x.1 < e.1)).length = k
  conv => rhs; rw [← List.take_append_drop k row]
  simp only [List.mem_append, List.mem_singleton]
  constructor
  · rintro ((h | h) | h)
    · exact .inr (.inl h)
    · exact .inl h
    · exact .inr (.inr h)
  · rintro (h | h | h)
    · exact .inl (.inr h)
    · exact .inl (.inl h)
    · exact .inr h
theorem insR_len (row : Row) (e : Rat × Int) : (insR row e).length = row.length + 1 := by
  unfold insR
  have := List.length_filter_le (fun x : Rat × Int => decide (x.1 < e.1)) row
  simp; omega
structure RowsOk (L : List Ch) (rs : List Row) : Prop where
  mem : ∀ (r : Nat) (row : Row), rs[r]? = some row → ∀ x ∈ row, ∃ c ∈ L, x = (c.2.1, c.2.2)
  len : ∀ (r : Nat) (row : Row), rs[r]? = some row → row.length ≤ L.length
theorem getD_of {α : Type} {l : List α} {i : Nat} {d x : α} (h : l[i]? = some x) : l.getD i d = x := by simp [List.getD, h]
theorem rowsF_ok (R : Int) (L : List Ch) : RowsOk L (rowsF R L) := by
  have key : ∀ n, n ≤ L.length → RowsOk (L.take n) (rowsF R (L.take n)) := by
    intro n
    induction n with
    | zero =>
      intro _
      have z : ∀ (r : Nat) (row : Row), (rowsF R (L.take 0))[r]? = some row → row = [] := fun r row e => by
        simp only [List.take_zero, rowsF, List.foldl_nil] at e
        rw [List.getElem?_replicate] at e
        split at e
        · exact (Option.some.inj e).symm
        · cases e
      exact ⟨fun r row e x hx => by rw [z r row e] at hx; simp at hx, fun r row e => by rw [z r row e]; simp⟩
    | succ n ih =>
      intro hn
      have o := ih (by omega)
      have e1 : L.take (n + 1) = L.take n ++ [L[n]] := by rw [List.take_add_one]; simp [show n < L.length by omega]
      rw [e1, rowsF_snoc]
      have sub : ∀ c ∈ L.take n, c ∈ L.take n ++ [L[n]] := fun c hc => List.mem_append_left _ hc
      have g : ∀ (r : Nat) (row : Row), (putR (rowsF R (L.take n)) L[n])[r]? = some row → (rowsF R (L.take n))[r]? = some row ∨ (∃ row0, (rowsF R (L.take n)).getD r [] = row0 ∧ row = insR row0 (L[n].2.1, L[n].2.2) ∧ ∃ q, (rowsF R (L.take n))[r]? = some q) := fun r row e => by
        unfold putR at e
        by_cases hr : L[n].1.toNat = r
        · subst hr
          by_cases hl : L[n].1.toNat < (rowsF R (L.take n)).length
          · rw [List.getElem?_set_self hl] at e
            exact .inr ⟨_, rfl, (Option.some.inj e).symm, _, List.getElem?_eq_getElem hl⟩
          · rw [List.getElem?_eq_none (by simpa using hl)] at e; cases e
        · rw [List.getElem?_set_ne hr] at e
          exact .inl e
      refine ⟨fun r row e x hx => ?_, fun r row e => ?_⟩
      · rcases g r row e with e | ⟨row0, e0, rfl, q, eq⟩
        · obtain ⟨c, hc, ec⟩ := o.mem r row e x hx
          exact ⟨c, sub c hc, ec⟩
        · rw [getD_of eq] at e0
          subst e0
          rcases insR_mem.mp hx with hx | hx
          · exact ⟨L[n], List.mem_append_right _ (List.mem_singleton.mpr rfl), hx⟩
          · obtain ⟨c, hc, ec⟩ := o.mem r q eq x hx
            exact ⟨c, sub c hc, ec⟩
      · rcases g r row e with e | ⟨row0, e0, rfl, q, eq⟩
        · have := o.len r row e
          simp at this ⊢; omega
        · rw [getD_of eq] at e0
          subst e0
          have := o.len r q eq
          rw [insR_len]
          simp at this ⊢; omega
  have := key L.length (Nat.le_refl _)
  rwa [List.take_length] at this
/-! ### the rows in the heap -/
def RowsAt (g : IH) (n : Nat) (rs : List Row) : Prop := ∃ ids : List Nat, g[n]? = some (.lst (ids.map .obj)) ∧ ids.length = rs.length ∧ ∀ (r : Nat) (row : Row), rs[r]? = some row → ∃ id, ids[r]? = some id ∧ id ≠ n ∧ g[id]? = some (.lst (row.map re))
theorem RowsAt.pre {g k : IH} {n : Nat} {rs : List Row} (a : RowsAt g n rs) (p : Pre g k) : RowsAt k n rs := by
  obtain ⟨ids, e1, e2, e3⟩ := a
  refine ⟨ids, p.get e1, e2, fun r row e => ?_⟩
  obtain ⟨id, x1, x2, x3⟩ := e3 r row e
  exact ⟨id, x1, x2, p.get x3⟩
theorem rows_eq {R : Int} {L : List Ch} (o : OkL R L) (h : IH) : ∃ t, f_rows_of [.int R, chs L] h = .ok (.obj h.length) (h ++ t) ∧ RowsAt (h ++ t) h.length (rowsF R L) := by
  have r1 := o.r1
  have r5 := o.r5
  have n8 := o.n8
  suffices q : ∃ v h1, f_rows_of [.int R, chs L] h = .ok v h1 ∧ (v = .obj h.length ∧ Pre h h1 ∧ RowsAt h1 h.length (rowsF R L)) by
    obtain ⟨v, h1, e, rfl, ⟨t, rfl⟩, q⟩ := q
    exact ⟨t, e, q⟩
  refine w_fn rfl ?_
  unfold b_rows_of
  obtain ⟨acc, g, le, g1, p1, ids, a1, a2, a3⟩ := w_lc (I := eRange1 (aCons (eVar 0) aNil)) (it := itRange 0 R.toNat) (g := gVar 3) (c := tYesX) (A := eLst aNil) (vs := [3]) (r := [some (.int R), some (chs L), none, none, none, none]) (h := h) (h1 := h) R.toNat
    (fun i acc g => Pre h g ∧ ∃ ids : List Nat, acc = ids.map .obj ∧ ids.length = i ∧ ∀ id ∈ ids, id ≠ h.length ∧ g[id]? = some (.lst [])) (by simp [rngOk, show R.natAbs < 4611686018427387904 by omega]) (by omega) ⟨.of _ _, [], rfl, rfl, by simp⟩
    (fun i acc g hi hJ ha hD => by
      obtain ⟨p, ids, b1, b2, b3⟩ := hJ
      have lh : h.length < g.length := lt_of_get hD
      refine ⟨.int (0 + (i : Nat)), _, true, g, by simp [hi], rfl, rfl, by simp, fun _ => ⟨.obj g.length, g ++ [.lst []], by simp, get_old hD, (p.app _).set _ (Nat.le_refl _), ids ++ [g.length], by rw [b1]; simp, by simp [b2], fun id hid => ?_⟩⟩
      rcases List.mem_append.mp hid with hid | hid
      · obtain ⟨c1, c2⟩ := b3 id hid
        exact ⟨c1, by rw [get_set_ne (Ne.symm c1)]; exact get_old c2⟩
      · rw [List.mem_singleton.mp hid]
        exact ⟨by omega, by rw [get_set_ne (by omega)]; exact gl⟩)
    (fun acc g hJ hD => by simp)
  subst a1
  refine w_seq (w_set le ?_)
  have start : RowsAt g h.length (rowsF R (L.take 0)) := by
    refine ⟨ids, g1, by simp [a2, rowsF], fun r row e => ?_⟩
    simp only [List.take_zero, rowsF, List.foldl_nil] at e
    rw [List.getElem?_replicate] at e
    split at e
    · rename_i hr
      have hr' : r < ids.length := by omega
      obtain ⟨c1, c2⟩ := a3 ids[r] (by simp)
      cases e
      exact ⟨ids[r], by simp [hr'], c1, c2⟩
    · cases e
  refine w_seq (w_for L.length (fun i r g => ∃ x y z, r = [some (.int R), some (chs L), some (.obj h.length), x, y, z] ∧ Pre h g ∧ RowsAt g h.length (rowsF R (L.take i))) (it := itList (L.map che)) (h1 := g) (by simp [chs]) (by omega) ⟨_, _, _, rfl, p1, start⟩ ?_ ?_)
  · rintro i r g hi ⟨x, y, z, rfl, p, A⟩
    have oc := o.c L[i] (by simp)
    have c0 := oc.r0
    have c1 := oc.r1
    have e1 : L.take (i + 1) = L.take i ++ [L[i]] := by rw [List.take_add_one]; simp [hi]
    have ro := rowsF_ok R (L.take i)
    have hr : L[i].1.toNat < (rowsF R (L.take i)).length := by rw [rowsF_len]; omega
    obtain ⟨ids, b1, b2, b3⟩ := A
    obtain ⟨id, d1, d2, d3⟩ := b3 L[i].1.toNat _ (List.getElem?_eq_getElem hr)
    have len := ro.len _ _ (List.getElem?_eq_getElem hr)
    obtain ⟨m, t, f1, f2, f3⟩ := place_row (row := (rowsF R (L.take i))[L[i].1.toNat]) (e := (L[i].2.1, L[i].2.2)) (m := id) (h := g) (by simp at len; omega) (fun x hx => by
      obtain ⟨c, hc, rfl⟩ := ro.mem _ _ (List.getElem?_eq_getElem hr) x hx
      exact (o.c c (List.mem_of_mem_take hc)).sm.mono (by decide)) (oc.sm.mono (by decide)) d3
    refine ⟨che L[i], _, by simp [hi], rfl, ?_⟩
    have lh : h.length < g.length := lt_of_get b1
    refine w_setix (x_call (x_cons (x_op (x_var rfl) (x_var rfl) (p_idxL b1 c0 (v := .obj id) (by simp [d1]))) (x_cons (x_var rfl) (x_cons (x_var rfl) x_nil))) f1) (x_var rfl) (x_var rfl) (get_old b1) c0 (by simp; omega) ⟨_, _, _, rfl, (p.app _).set _ (Nat.le_refl _), ?_⟩
    rw [e1, rowsF_snoc]
    refine ⟨ids.set L[i].1.toNat m, ?_, by simp [putR, b2], fun r row e => ?_⟩
    · rw [List.getElem?_set_self (by simp; omega), List.map_set]
    · unfold putR at e
      by_cases hq : L[i].1.toNat = r
      · subst hq
        rw [List.getElem?_set_self hr] at e
        cases e
        refine ⟨m, by rw [List.getElem?_set_self (by omega)], by omega, ?_⟩
        rw [get_set_ne (by omega), f3, getD_of (List.getElem?_eq_getElem hr)]
      · rw [List.getElem?_set_ne hq] at e
        obtain ⟨id2, x1, x2, x3⟩ := b3 r row e
        exact ⟨id2, by rw [List.getElem?_set_ne hq]; exact x1, x2, by rw [get_set_ne (Ne.symm x2)]; exact get_old x3⟩
  · rintro r g ⟨x, y, z, rfl, p, A⟩
    rw [List.take_length] at A
    exact ⟨by simp, w_ret (x_var rfl) ⟨rfl, p, A⟩⟩
end WR

namespace WR
open PySem PySem.Spec PyProof.Rows L2
/-! ### the weight behind a standing -/
theorem keyOf_ints : ∀ ks : List Int, keyOf (ks.map .int) = some ks
  | [] => rfl
  | k :: r => by simp [keyOf_ints r]
theorem filt_range' (l : Row) : ((List.range l.length).filter fun _ => true).map (fun j => PV.int (l.getD j (0, 0)).2) = (l.map (·.2)).map .int := by
  rw [List.filter_eq_self.mpr (by simp), List.map_map]
  apply List.ext_getElem
  · simp
  · intro i h1 h2
    simp at h1
    simp [h1]
def rwI (row : Row) (m : Int) : Int := ((row.drop m.toNat).map (·.2)).sum
def wbP (rs : List Row) (s : List Int) : Nat → Int
  | 0 => 0
  | i + 1 => wbP rs s i + rwI (rs.getD i []) (s.getD i 0)
def wbF (rs : List Row) (s : List Int) : Int := wbP rs s rs.length
structure RowsB (rs : List Row) : Prop where
  n : rs.length ≤ 5
  l : ∀ (r : Nat) (row : Row), rs[r]? = some row → row.length ≤ 8
  e : ∀ (r : Nat) (row : Row), rs[r]? = some row → ∀ x ∈ row, Dn 8 x.1 ∧ 1 ≤ x.1 ∧ x.1 ≤ 30 ∧ 1 ≤ x.2 ∧ x.2 ≤ 999
theorem rowsF_b {R : Int} {L : List Ch} (o : OkL R L) : RowsB (rowsF R L) := by
  have r := rowsF_ok R L
  refine ⟨by rw [rowsF_len]; have := o.r5; omega, fun i row e => Nat.le_trans (r.len i row e) o.n8, fun i row e x hx => ?_⟩
  obtain ⟨c, hc, rfl⟩ := r.mem i row e x hx
  have q := o.c c hc
  exact ⟨q.f8, q.f1, q.f2, q.w1, q.w2⟩
structure StB (rs : List Row) (s : List Int) : Prop where
  l : s.length = rs.length
  p : ∀ m ∈ s, 0 ≤ m
end WR

namespace WR
open PySem PySem.Spec PyProof.Rows L2
/-! ### the turns that can be made -/
def adS (row : Row) (a : Nat) : Nat → Rat
  | 0 => 0
  | j + 1 => adS row a j + (row.getD (a + j) (0, 0)).1 * (((row.getD (a + j) (0, 0)).2 : Int) : Rat)
abbrev Opn := (Int × Rat) × List Int × Rat
def bhd (s : List Int) (r m : Nat) : List Int := s.take r ++ [(m : Int) + 1] ++ s.drop (r + 1)
def tcE (rs : List Row) (s : List Int) (r j : Nat) : Opn :=
  (((r : Int), ((rs.getD r []).getD ((s.getD r 0).toNat + j) (0, 0)).1), bhd s r ((s.getD r 0).toNat + j), adS (rs.getD r []) (s.getD r 0).toNat (j + 1) + ((rs.getD r []).getD ((s.getD r 0).toNat + j) (0, 0)).1 * ((2 * wbF rs (bhd s r ((s.getD r 0).toNat + j)) : Int) : Rat))
def tcRow (rs : List Row) (s : List Int) (r : Nat) : List Opn := (List.range ((rs.getD r []).length - (s.getD r 0).toNat)).map (tcE rs s r)
def tcP (rs : List Row) (s : List Int) (i : Nat) : List Opn := (List.range i).flatMap (tcRow rs s)
def tcF (rs : List Row) (s : List Int) : List Opn := tcP rs s rs.length
def opE (x : Opn) : PV := .tup [tq x.1, .key x.2.1, fq x.2.2]
theorem tcP_succ (rs : List Row) (s : List Int) (i : Nat) : tcP rs s (i + 1) = tcP rs s i ++ tcRow rs s i := by simp [tcP, List.range_succ, List.flatMap_append]
structure StU (rs : List Row) (s : List Int) : Prop where
  b : StB rs s
  u : ∀ (r : Nat) (row : Row), rs[r]? = some row → s.getD r 0 ≤ row.length
theorem dn1 (i : Int) : Dn 1 (i : Rat) := ⟨i, by simp⟩
theorem int_le {i : Int} {V : Nat} (h : i ≤ (V : Int)) : (i : Rat) ≤ ((V : Nat) : Rat) := by exact_mod_cast h
theorem int_nn {i : Int} (h : 0 ≤ i) : (0 : Rat) ≤ (i : Rat) := by exact_mod_cast h
theorem fq_int (i : Int) : PV.tup [.int i, .int 1] = fq (i : Rat) := rfl
theorem bhd_len {s : List Int} {r : Nat} (m : Nat) (h : r < s.length) : (bhd s r m).length = s.length := by simp [bhd]; omega
theorem bhd_b {rs : List Row} {s : List Int} (S : StB rs s) {r : Nat} (hr : r < s.length) (m : Nat) : StB rs (bhd s r m) := by
  refine ⟨by rw [bhd_len m hr]; exact S.l, fun x hx => ?_⟩
  simp only [bhd, List.mem_append, List.mem_singleton] at hx
  rcases hx with (hx | hx) | hx
  · exact S.p x (List.mem_of_mem_take hx)
  · omega
  · exact S.p x (List.mem_of_mem_drop hx)
theorem sum_b {B : Int} : ∀ l : List Int, (∀ x ∈ l, 0 ≤ x ∧ x ≤ B) → 0 ≤ l.sum ∧ l.sum ≤ B * l.length
  | [], _ => by simp
  | x :: l, h => by
    obtain ⟨a, b⟩ := sum_b l fun y hy => h y (by simp [hy])
    obtain ⟨c, d⟩ := h x (by simp)
    rw [List.sum_cons, List.length_cons, Int.natCast_succ, Int.mul_add, Int.mul_one]
    omega
theorem rwI_b {rs : List Row} (b : RowsB rs) {r : Nat} {row : Row} (e : rs[r]? = some row) (m : Int) : 0 ≤ rwI row m ∧ rwI row m ≤ 7992 := by
  obtain ⟨x, y⟩ := sum_b (B := 999) ((row.drop m.toNat).map (·.2)) fun z hz => by
    obtain ⟨w, hw, rfl⟩ := List.mem_map.mp hz
    obtain ⟨_, _, _, q1, q2⟩ := b.e r row e w (List.mem_of_mem_drop hw)
    omega
  have l := b.l r row e
  refine ⟨x, Int.le_trans y ?_⟩
  simp
  omega
theorem wbP_b {rs : List Row} (b : RowsB rs) (s : List Int) : ∀ i, i ≤ rs.length → 0 ≤ wbP rs s i ∧ wbP rs s i ≤ 7992 * i
  | 0, _ => by simp [wbP]
  | i + 1, h => by
    obtain ⟨x, y⟩ := wbP_b b s i (by omega)
    obtain ⟨z, w⟩ := rwI_b b (List.getElem?_eq_getElem (show i < rs.length by omega)) (s.getD i 0)
    simp only [wbP, getD_of (List.getElem?_eq_getElem (show i < rs.length by omega))]
    omega
theorem wbF_b {rs : List Row} (b : RowsB rs) (s : List Int) : 0 ≤ wbF rs s ∧ wbF rs s ≤ 39960 := by
  obtain ⟨x, y⟩ := wbP_b b s rs.length (Nat.le_refl _)
  have := b.n
  exact ⟨x, by unfold wbF; omega⟩
/-- a fraction of eighths, not below 0 -/
structure Fr8 (V : Nat) (q : Rat) : Prop where
  d : Dn 8 q
  p : 0 ≤ q
  u : q ≤ (V : Rat)
theorem Fr8.sm {V N : Nat} {q : Rat} (f : Fr8 V q) (h : V * 8 < 2 ^ N) (h2 : 8 < 2 ^ N) : Sm N q := sm_of f.d (by decide) f.p f.u h h2
theorem Fr8.add {V W : Nat} {a b : Rat} (f : Fr8 V a) (g : Fr8 W b) : Fr8 (V + W) (a + b) := ⟨f.d.add g.d, by have := f.p; have := g.p; grind, by have := f.u; have := g.u; rw [Rat.natCast_add]; grind⟩
theorem Fr8.muli {V : Nat} {a : Rat} (f : Fr8 V a) {i : Int} {W : Nat} (h0 : 0 ≤ i) (h1 : i ≤ W) : Fr8 (V * W) (a * (i : Rat)) := by
  have i0 : (0 : Rat) ≤ (i : Rat) := by exact_mod_cast h0
  have i1 : (i : Rat) ≤ (W : Rat) := by exact_mod_cast h1
  refine ⟨by rw [Rat.mul_comm]; exact f.d.int i, Rat.mul_nonneg f.p i0, ?_⟩
  rw [Rat.natCast_mul]
  have w0 : (0 : Rat) ≤ (W : Rat) := Rat.le_trans i0 i1
  exact Rat.le_trans (Rat.mul_le_mul_of_nonneg_left i1 f.p) (Rat.mul_le_mul_of_nonneg_right f.u w0)
theorem Fr8.mono {V W : Nat} {a : Rat} (f : Fr8 V a) (h : V ≤ W) : Fr8 W a := ⟨f.d, f.p, Rat.le_trans f.u (by exact_mod_cast h)⟩
theorem Fr8.zero : Fr8 0 0 := ⟨⟨0, by simp⟩, Rat.le_refl, Rat.le_refl⟩
theorem ent_f {rs : List Row} (b : RowsB rs) {r : Nat} {row : Row} (e : rs[r]? = some row) {x : Rat × Int} (hx : x ∈ row) : Fr8 30 x.1 := by
  obtain ⟨a, c, d, _⟩ := b.e r row e x hx
  exact ⟨a, by grind, d⟩
theorem adS_f {rs : List Row} (b : RowsB rs) {r : Nat} {row : Row} (e : rs[r]? = some row) (a : Nat) : ∀ j, a + j ≤ row.length → Fr8 (29970 * j) (adS row a j)
  | 0, _ => Fr8.zero
  | j + 1, h => by
    have ih := adS_f b e a j (by omega)
    have hx : row[a + j] ∈ row := by simp
    obtain ⟨_, _, _, q1, q2⟩ := b.e r row e _ hx
    have f := (ent_f b e hx).muli (i := row[a + j].2) (W := 999) (by omega) q2
    simp only [adS, getD_of (List.getElem?_eq_getElem (show a + j < row.length by omega))]
    exact (ih.add f).mono (by omega)
theorem tcE_f {rs : List Row} (b : RowsB rs) (s : List Int) {r : Nat} (hr : r < rs.length) {j : Nat} (hj : (s.getD r 0).toNat + j < (rs.getD r []).length) : Fr8 4000000 (tcE rs s r j).2.2 := by
  have e : rs[r]? = some (rs.getD r []) := by rw [getD_of (List.getElem?_eq_getElem hr)]; exact List.getElem?_eq_getElem hr
  have l := b.l r _ e
  have f1 := adS_f b e (s.getD r 0).toNat (j + 1) (by omega)
  have hx : (rs.getD r []).getD ((s.getD r 0).toNat + j) (0, 0) ∈ rs.getD r [] := by
    rw [getD_of (List.getElem?_eq_getElem hj)]; simp
  obtain ⟨w0, w1⟩ := wbF_b b (bhd s r ((s.getD r 0).toNat + j))
  have f2 := (ent_f b e hx).muli (i := 2 * wbF rs (bhd s r ((s.getD r 0).toNat + j))) (W := 79920) (by omega) (by omega)
  exact (f1.add f2).mono (by omega)
end WR

namespace WR
open PySem PySem.Spec PyProof.Rows L2
/-! ### comprehensions that lay nothing -/
theorem lcL_pure {it : ItF} {g : TgF} {A : EX} {r0 : Fm} {base : IH} {n : Nat} (F : Nat → PV)
    (hit : ∀ i acc, i < n → ∃ v r1, it i (base ++ [.lst acc]) = some (some v) ∧ g v r0 = some r1 ∧ A r1 (base ++ [.lst acc]) = .ok (F i) (base ++ [.lst acc])) (hend : ∀ acc, it n (base ++ [.lst acc]) = some none) :
    ∀ k i acc, i ≤ n → n - i < k → acc.length + (n - i) < 16777216 → lcL it g tYesX A r0 base.length k i (base ++ [.lst acc]) = .ok () (base ++ [.lst (acc ++ ((List.range n).drop i).map F)]) := by
  intro k
  induction k with
  | zero => intro i acc _ h; omega
  | succ k ih =>
    intro i acc hi hk hl
    unfold lcL
    by_cases q : i < n
    · obtain ⟨v, r1, e1, e2, e3⟩ := hit i acc q
      have al : acc.length < 16777216 := by omega
      have dr : (List.range n).drop i = i :: (List.range n).drop (i + 1) := by
        rw [List.drop_eq_getElem_cons (by simpa using q)]; simp
      simp only [e1, e2, tYesX, if_true, e3, gl, al, sl1]
      rw [ih (i + 1) (acc ++ [F i]) (by omega) (by omega) (by simp; omega), dr]
      simp
    · have : i = n := by omega
      subst this
      simp only [hend]
      rw [List.drop_eq_nil_of_le (by simp)]
      simp
theorem lc2_pure {I I1 : Fm → IH → Res ItF} {it : ItF} {it1 : Nat → ItF} {g g1 : TgF} {A : EX} {vs vs1 : List Nat} {r : Fm} {h base : IH} {n : Nat} (m : Nat → Nat) (F : Nat → Nat → PV) (hI : I r h = .ok it base) (hn : n < 1000000) (hm : ∀ i, i < n → m i < 1000000) (hl : ((List.range n).flatMap fun i => (List.range (m i)).map (F i)).length < 16777216)
    (hit : ∀ i acc, i < n → ∃ v r1, it i (base ++ [.lst acc]) = some (some v) ∧ g v (wipeF r vs) = some r1 ∧ I1 r1 (base ++ [.lst acc]) = .ok (it1 i) (base ++ [.lst acc]) ∧
      (∀ j acc, j < m i → ∃ v1 r2, it1 i j (base ++ [.lst acc]) = some (some v1) ∧ g1 v1 (wipeF r1 vs1) = some r2 ∧ A r2 (base ++ [.lst acc]) = .ok (F i j) (base ++ [.lst acc])) ∧ ∀ acc, it1 i (m i) (base ++ [.lst acc]) = some none)
    (hend : ∀ acc, it n (base ++ [.lst acc]) = some none) : eLc2 I g tYesX I1 g1 tYesX A vs vs1 r h = .ok (.obj base.length) (base ++ [.lst ((List.range n).flatMap fun i => (List.range (m i)).map (F i))]) := by
  have key : ∀ k i, i ≤ n → n - i < k → lc2L it g tYesX I1 g1 tYesX A (wipeF r vs) vs1 base.length k i (base ++ [.lst ((List.range i).flatMap fun i => (List.range (m i)).map (F i))]) = .ok () (base ++ [.lst ((List.range n).flatMap fun i => (List.range (m i)).map (F i))]) := by
    intro k
    induction k with
    | zero => intro i _ hk; omega
    | succ k ih =>
      intro i hi hk
      unfold lc2L
      by_cases q : i < n
      · obtain ⟨v, r1, e1, e2, e3, e4, e5⟩ := hit i ((List.range i).flatMap fun i => (List.range (m i)).map (F i)) q
        have split : (List.range n).flatMap (fun i => (List.range (m i)).map (F i)) = (List.range (i + 1)).flatMap (fun i => (List.range (m i)).map (F i)) ++ ((List.range n).drop (i + 1)).flatMap (fun i => (List.range (m i)).map (F i)) := by
          rw [← List.flatMap_append]
          congr 1
          conv => lhs; rw [← List.take_append_drop (i + 1) (List.range n)]
          rw [List.take_range, show min (i + 1) n = i + 1 by omega]
        have l2 := hl
        rw [split, List.length_append] at l2
        have s2 : (List.range (i + 1)).flatMap (fun i => (List.range (m i)).map (F i)) = (List.range i).flatMap (fun i => (List.range (m i)).map (F i)) ++ (List.range (m i)).map (F i) := by
          rw [List.range_succ, List.flatMap_append]; simp
        rw [s2, List.length_append, List.length_map, List.length_range] at l2
        have e6 := lcL_pure (F i) e4 e5 LIM 0 ((List.range i).flatMap fun i => (List.range (m i)).map (F i)) (by omega) (by have := hm i q; simp [LIM]; omega) (by omega)
        simp only [e1, e2, tYesX, if_true, e3]
        rw [e6]
        simp only [List.drop_zero]
        rw [← s2]
        exact ih (i + 1) (by omega) (by omega)
      · have : i = n := by omega
        subst this
        simp only [hend]
  have := key LIM 0 (by omega) (by simp [LIM]; omega)
  simp only [List.range_zero, List.flatMap_nil] at this
  simp only [eLc2, hI, bind_ok, this]
theorem getDa {l m : List Int} {k : Nat} (h : k < l.length) : (l ++ m).getD k 0 = l.getD k 0 := by simp only [List.getD_eq_getElem?_getD, List.getElem?_append_left h]
theorem getDb {l m : List Int} {k : Nat} (h : l.length ≤ k) : (l ++ m).getD k 0 = m.getD (k - l.length) 0 := by simp only [List.getD_eq_getElem?_getD, List.getElem?_append_right h]
/-! ### all standings -/
def endsP (rs : List Row) : Nat → List (List Int)
  | 0 => [[]]
  | i + 1 => (endsP rs i).flatMap fun one => (List.range ((rs.getD i []).length + 1)).map fun m => one ++ [((m : Nat) : Int)]
def endsF (rs : List Row) : List (List Int) := endsP rs rs.length
theorem endsP_mem {rs : List Row} : ∀ {i : Nat} {s : List Int}, s ∈ endsP rs i ↔ s.length = i ∧ ∀ r, r < i → 0 ≤ s.getD r 0 ∧ s.getD r 0 ≤ (rs.getD r []).length
  | 0, s => by
    simp only [endsP, List.mem_singleton]
    constructor
    · rintro rfl; exact ⟨rfl, fun r h => by omega⟩
    · rintro ⟨h, _⟩; exact List.length_eq_zero_iff.mp h
  | i + 1, s => by
    simp only [endsP, List.mem_flatMap, List.mem_map, List.mem_range]
    constructor
    · rintro ⟨one, h1, m, hm, rfl⟩
      obtain ⟨a, b⟩ := endsP_mem.mp h1
      refine ⟨by simp [a], fun r hr => ?_⟩
      by_cases q : r < i
      · have := b r q
        rw [getDa (by omega)]
        exact this
      · have : r = i := by omega
        subst this
        rw [getDb (by omega), a, Nat.sub_self]
        show 0 ≤ (m : Int) ∧ (m : Int) ≤ _
        omega
    · rintro ⟨h1, h2⟩
      have hl : i < s.length := by omega
      refine ⟨s.take i, endsP_mem.mpr ⟨by simp; omega, fun r hr => ?_⟩, (s.getD i 0).toNat, ?_, ?_⟩
      · have := h2 r (by omega)
        simp only [List.getD_eq_getElem?_getD, List.getElem?_take_of_lt hr] at *
        exact this
      · have := h2 i (by omega); omega
      · have q := h2 i (by omega)
        rw [getD_of (List.getElem?_eq_getElem hl)] at q ⊢
        rw [Int.toNat_of_nonneg q.1]
        conv => rhs; rw [← List.take_append_drop i s]
        congr 1
        rw [List.drop_eq_getElem_cons hl, List.drop_eq_nil_of_le (by omega)]
def code (s : List Int) : Int := s.foldl (fun a m => a * 9 + m) 0
theorem code_snoc (s : List Int) (m : Int) : code (s ++ [m]) = code s * 9 + m := by simp [code, List.foldl_append]
theorem foldl_mono (c : List Int) : ∀ {a b : Int}, a < b → c.foldl (fun a m => a * 9 + m) a < c.foldl (fun a m => a * 9 + m) b := by
  induction c with
  | nil => intro a b h; exact h
  | cons x c ih => intro a b h; exact ih (show a * 9 + x < b * 9 + x by omega)
theorem endsP_sorted {rs : List Row} (b : RowsB rs) : ∀ i, i ≤ rs.length → (endsP rs i).Pairwise fun s u => code s < code u
  | 0, _ => by simp [endsP]
  | i + 1, h => by
    have ih := endsP_sorted b i (by omega)
    have l := b.l i _ (List.getElem?_eq_getElem (show i < rs.length by omega))
    have gr : rs.getD i [] = rs[i] := getD_of (List.getElem?_eq_getElem (show i < rs.length by omega))
    simp only [endsP, gr]
    rw [List.pairwise_flatMap]
    refine ⟨fun one _ => ?_, ih.imp fun {s u} hsu => ?_⟩
    · rw [List.pairwise_map]
      refine List.pairwise_lt_range.imp fun {x y} hxy => ?_
      rw [code_snoc, code_snoc]; omega
    · intro x hx y hy
      obtain ⟨m, hm, rfl⟩ := List.mem_map.mp hx
      obtain ⟨k, hk, rfl⟩ := List.mem_map.mp hy
      rw [List.mem_range] at hm hk
      rw [code_snoc, code_snoc]; omega
theorem endsP_len {rs : List Row} (b : RowsB rs) : ∀ i, i ≤ rs.length → (endsP rs i).length ≤ 9 ^ i
  | 0, _ => by simp [endsP]
  | i + 1, h => by
    have ih := endsP_len b i (by omega)
    have l := b.l i _ (List.getElem?_eq_getElem (show i < rs.length by omega))
    have gr : rs.getD i [] = rs[i] := getD_of (List.getElem?_eq_getElem (show i < rs.length by omega))
    simp only [endsP, gr]
    have key : ∀ l : List (List Int), (l.flatMap fun one => (List.range (rs[i].length + 1)).map fun m => one ++ [((m : Nat) : Int)]).length ≤ 9 * l.length := by
      intro l
      induction l with
      | nil => simp
      | cons x l ih => rw [List.flatMap_cons, List.length_append, List.length_map, List.length_range, List.length_cons]; omega
    have := key (endsP rs i)
    rw [Nat.pow_succ]
    omega
theorem ends_lt {rs : List Row} (b : RowsB rs) {i : Nat} (h : i ≤ rs.length) : (endsP rs i).length < 100000 := by
  have a := endsP_len b i h
  have c := b.n
  have : 9 ^ i ≤ 9 ^ 5 := Nat.pow_le_pow_right (by decide) (by omega)
  omega
theorem ends_u {rs : List Row} {s : List Int} (h : s ∈ endsF rs) : StU rs s := by
  obtain ⟨a, b⟩ := endsP_mem.mp h
  refine ⟨⟨a, fun m hm => ?_⟩, fun r row e => ?_⟩
  · obtain ⟨k, hk, rfl⟩ := List.getElem_of_mem hm
    have := (b k (by omega)).1
    rwa [getD_of (List.getElem?_eq_getElem hk)] at this
  · have hr : r < rs.length := (List.getElem?_eq_some_iff.mp e).1
    have := (b r hr).2
    rwa [getD_of e] at this
theorem bhd_getD {s : List Int} {r m k : Nat} (hr : r < s.length) : (bhd s r m).getD k 0 = if k = r then (m : Int) + 1 else s.getD k 0 := by
  unfold bhd
  have lt : (s.take r).length = r := by simp; omega
  by_cases h1 : k < r
  · rw [if_neg (by omega), getDa (by simp; omega), getDa (by omega)]
    simp only [List.getD_eq_getElem?_getD, List.getElem?_take_of_lt h1]
  · by_cases h2 : k = r
    · subst h2
      rw [if_pos rfl, getDa (by simp; omega), getDb (by omega), lt]
      simp
    · rw [if_neg h2, getDb (by simp; omega)]
      simp only [List.getD_eq_getElem?_getD, List.getElem?_drop]
      congr 2
      simp; omega
theorem bhd_ends {rs : List Row} {s : List Int} (h : s ∈ endsF rs) {r m : Nat} (hr : r < rs.length) (hm : m < (rs.getD r []).length) : bhd s r m ∈ endsF rs := by
  obtain ⟨a, b⟩ := endsP_mem.mp h
  refine endsP_mem.mpr ⟨by rw [bhd_len m (by omega)]; exact a, fun k hk => ?_⟩
  rw [bhd_getD (by omega)]
  split
  · rename_i q; subst q; omega
  · exact b k hk
theorem bhd_code {s : List Int} {r m : Nat} (hr : r < s.length) (hm : s.getD r 0 ≤ m) : code s < code (bhd s r m) := by
  have e : s = s.take r ++ [s.getD r 0] ++ s.drop (r + 1) := by
    rw [getD_of (List.getElem?_eq_getElem hr)]
    conv => lhs; rw [← List.take_append_drop r s, List.drop_eq_getElem_cons hr]
    simp
  conv => lhs; rw [e]
  unfold code bhd
  rw [List.foldl_append, List.foldl_append, List.foldl_append, List.foldl_append]
  refine foldl_mono _ ?_
  simp only [List.foldl_cons, List.foldl_nil]
  omega
theorem ahead {α : Type} {f : α → Int} {E : List α} (p : E.Pairwise fun a b => f b < f a) {i : Nat} (hi : i < E.length) {b : α} (hb : b ∈ E) (h : f E[i] < f b) : b ∈ E.take i := by
  obtain ⟨k, hk, rfl⟩ := List.getElem_of_mem hb
  by_cases q : k < i
  · exact List.mem_take_iff_getElem.mpr ⟨k, by omega, rfl⟩
  · exfalso
    by_cases e : k = i
    · subst e; omega
    · have := List.pairwise_iff_getElem.mp p i k hi hk (by omega)
      omega
end WR

namespace WR
open PySem PySem.Spec PyProof.Rows L2
/-! ### the least from a standing -/
def remP (rs : List Row) (s : List Int) : Nat → Nat
  | 0 => 0
  | i + 1 => remP rs s i + ((rs.getD i []).length - (s.getD i 0).toNat)
def rem (rs : List Row) (s : List Int) : Nat := remP rs s rs.length
abbrev Bst := Option (Rat × (Int × Rat) × List Int)
def bstS (look : List Int → Rat) (b : Bst) (x : Opn) : Bst := match b with
  | none => some (x.2.2 + look x.2.1, x.1, x.2.1)
  | some y => if x.2.2 + look x.2.1 < y.1 then some (x.2.2 + look x.2.1, x.1, x.2.1) else some y
abbrev Ent := Rat × Option ((Int × Rat) × List Int)
def entO : Bst → Ent
  | none => (0, none)
  | some y => (y.1, some (y.2.1, y.2.2))
def entF (rs : List Row) (look : List Int → Rat) (s : List Int) : Ent := entO ((tcF rs s).foldl (bstS look) none)
def entN (rs : List Row) : Nat → List Int → Ent
  | 0, _ => (0, none)
  | k + 1, s => entF rs (fun b => (entN rs k b).1) s
def ent (rs : List Row) (s : List Int) : Ent := entN rs (rem rs s + 1) s
theorem tc_mem {rs : List Row} {s : List Int} {x : Opn} : x ∈ tcF rs s ↔ ∃ r j, r < rs.length ∧ (s.getD r 0).toNat + j < (rs.getD r []).length ∧ x = tcE rs s r j := by
  simp only [tcF, tcP, tcRow, List.mem_flatMap, List.mem_range, List.mem_map]
  constructor
  · rintro ⟨r, hr, j, hj, rfl⟩; exact ⟨r, j, hr, by omega, rfl⟩
  · rintro ⟨r, j, hr, hj, rfl⟩; exact ⟨r, hr, j, by omega, rfl⟩
theorem fold_congr {look look' : List Int → Rat} : ∀ (l : List Opn) (b : Bst), (∀ x ∈ l, look x.2.1 = look' x.2.1) → l.foldl (bstS look) b = l.foldl (bstS look') b
  | [], _, _ => rfl
  | x :: l, b, h => by
    rw [List.foldl_cons, List.foldl_cons]
    have e : bstS look b x = bstS look' b x := by simp only [bstS, h x (by simp)]
    rw [e]
    exact fold_congr l _ fun y hy => h y (by simp [hy])
theorem entF_congr {rs : List Row} {look look' : List Int → Rat} {s : List Int} (h : ∀ x ∈ tcF rs s, look x.2.1 = look' x.2.1) : entF rs look s = entF rs look' s := by rw [entF, entF, fold_congr _ _ h]
theorem remP_bhd {rs : List Row} {s : List Int} (hl : s.length = rs.length) {r m : Nat} (hr : r < rs.length) (h0 : (s.getD r 0).toNat ≤ m) (hm : m < (rs.getD r []).length) : ∀ i, i ≤ rs.length → (i ≤ r → remP rs (bhd s r m) i = remP rs s i) ∧ (r < i → remP rs (bhd s r m) i < remP rs s i)
  | 0, _ => ⟨fun _ => rfl, fun h => by omega⟩
  | i + 1, hi => by
    obtain ⟨a, b⟩ := remP_bhd hl hr h0 hm i (by omega)
    simp only [remP]
    rw [bhd_getD (by omega)]
    refine ⟨fun q => ?_, fun q => ?_⟩
    · rw [if_neg (by omega), a (by omega)]
    · by_cases e : i = r
      · subst e
        rw [if_pos rfl, a (Nat.le_refl _)]
        omega
      · rw [if_neg e]
        have := b (by omega)
        omega
theorem rem_bhd {rs : List Row} {s : List Int} (hl : s.length = rs.length) {r m : Nat} (hr : r < rs.length) (h0 : (s.getD r 0).toNat ≤ m) (hm : m < (rs.getD r []).length) : rem rs (bhd s r m) < rem rs s := (remP_bhd hl hr h0 hm rs.length (Nat.le_refl _)).2 hr
theorem tc_rem {rs : List Row} {s : List Int} (hl : s.length = rs.length) {x : Opn} (hx : x ∈ tcF rs s) : rem rs x.2.1 < rem rs s ∧ x.2.1.length = rs.length := by
  obtain ⟨r, j, hr, hj, rfl⟩ := tc_mem.mp hx
  exact ⟨rem_bhd hl hr (by omega) hj, by show (bhd _ _ _).length = _; rw [bhd_len _ (by omega)]; exact hl⟩
theorem entN_stable {rs : List Row} : ∀ (k k' : Nat) (s : List Int), s.length = rs.length → rem rs s < k → rem rs s < k' → entN rs k s = entN rs k' s
  | 0, _, _, _, h, _ => by omega
  | _ + 1, 0, _, _, _, h => by omega
  | k + 1, k' + 1, s, hl, h, h' => by
    simp only [entN]
    refine entF_congr fun x hx => ?_
    obtain ⟨a, b⟩ := tc_rem hl hx
    rw [entN_stable k k' x.2.1 b (by omega) (by omega)]
theorem ent_eq {rs : List Row} {s : List Int} (hl : s.length = rs.length) : ent rs s = entF rs (fun b => (ent rs b).1) s := by
  show entN rs (rem rs s + 1) s = _
  simp only [entN]
  refine entF_congr fun x hx => ?_
  obtain ⟨a, b⟩ := tc_rem hl hx
  rw [ent, entN_stable (rem rs s) (rem rs x.2.1 + 1) x.2.1 b (by omega) (by omega)]
theorem fold_spec {look : List Int → Rat} : ∀ (l : List Opn) (b : Bst), match l.foldl (bstS look) b with
    | none => b = none ∧ l = []
    | some y => (b = some y ∨ ∃ x ∈ l, y = (x.2.2 + look x.2.1, x.1, x.2.1)) ∧ (∀ z, b = some z → y.1 ≤ z.1) ∧ ∀ x ∈ l, y.1 ≤ x.2.2 + look x.2.1
  | [], b => by
    cases b with
    | none => simp
    | some y => simp [Rat.le_refl]
  | x :: l, b => by
    rw [List.foldl_cons]
    have ih := fold_spec (look := look) l (bstS look b x)
    split at ih
    · rename_i e
      obtain ⟨z, _⟩ := ih
      exfalso
      cases b with
      | none => simp [bstS] at z
      | some y => simp only [bstS] at z; split at z <;> cases z
    · rename_i y e
      obtain ⟨i1, i2, i3⟩ := ih
      cases b with
      | none =>
        simp only [bstS, Option.some.injEq] at i1 i2
        have i2' := i2 _ rfl
        refine ⟨?_, by simp, fun w hw => ?_⟩
        · rcases i1 with i1 | ⟨w, hw, i1⟩
          · exact .inr ⟨x, by simp, i1.symm⟩
          · exact .inr ⟨w, by simp [hw], i1⟩
        · rcases List.mem_cons.mp hw with rfl | hw
          · exact i2'
          · exact i3 w hw
      | some z =>
        simp only [bstS] at i1 i2
        by_cases q : x.2.2 + look x.2.1 < z.1
        · rw [if_pos q] at i1 i2
          have i2' := i2 _ rfl
          refine ⟨?_, fun u hu => ?_, fun w hw => ?_⟩
          · rcases i1 with i1 | ⟨w, hw, i1⟩
            · exact .inr ⟨x, by simp, (Option.some.inj i1).symm⟩
            · exact .inr ⟨w, by simp [hw], i1⟩
          · cases hu
            exact Rat.le_trans i2' (Rat.le_of_lt q)
          · rcases List.mem_cons.mp hw with rfl | hw
            · exact i2'
            · exact i3 w hw
        · rw [if_neg q] at i1 i2
          have i2' := i2 _ rfl
          refine ⟨?_, fun u hu => ?_, fun w hw => ?_⟩
          · rcases i1 with i1 | ⟨w, hw, i1⟩
            · exact .inl i1
            · exact .inr ⟨w, by simp [hw], i1⟩
          · cases hu; exact i2'
          · rcases List.mem_cons.mp hw with rfl | hw
            · exact Rat.le_trans i2' (Rat.not_lt.mp q)
            · exact i3 w hw
theorem remP_le {rs : List Row} (b : RowsB rs) (s : List Int) : ∀ i, i ≤ rs.length → remP rs s i ≤ 8 * i
  | 0, _ => by simp [remP]
  | i + 1, h => by
    have := remP_le b s i (by omega)
    have l := b.l i _ (List.getElem?_eq_getElem (show i < rs.length by omega))
    simp only [remP, getD_of (List.getElem?_eq_getElem (show i < rs.length by omega))]
    omega
theorem rem_le {rs : List Row} (b : RowsB rs) (s : List Int) : rem rs s ≤ 40 := by
  have := remP_le b s rs.length (Nat.le_refl _)
  have := b.n
  unfold rem; omega
theorem entV_f {rs : List Row} (b : RowsB rs) : ∀ (k : Nat) (s : List Int), s.length = rs.length → rem rs s < k → Fr8 (4000000 * rem rs s) (ent rs s).1 := by
  intro k
  induction k with
  | zero => intro s _ h; omega
  | succ k ih =>
    intro s hl hk
    rw [ent_eq hl, entF]
    have sp := fold_spec (look := fun b => (ent rs b).1) (tcF rs s) none
    split at sp
    · rename_i e
      rw [e]; exact Fr8.zero.mono (by omega)
    · rename_i y e
      rw [e]
      obtain ⟨a1, _, _⟩ := sp
      rcases a1 with a1 | ⟨x, hx, rfl⟩
      · cases a1
      · obtain ⟨c1, c2⟩ := tc_rem hl hx
        have f1 := ih x.2.1 c2 (by omega)
        obtain ⟨r, j, hr, hj, rfl⟩ := tc_mem.mp hx
        have f2 := tcE_f b s hr hj
        exact (f2.add f1).mono (by omega)
theorem ent_sm {rs : List Row} (b : RowsB rs) {s : List Int} (hl : s.length = rs.length) : Sm 60 (ent rs s).1 := ((entV_f b _ s hl (Nat.lt_succ_self _)).mono (show 4000000 * rem rs s ≤ 160000000 by have := rem_le b s; omega)).sm (by decide) (by decide)
/-! ### the dict -/
def entE (e : Ent) : PV := match e.2 with
  | none => .tup [fq e.1, .non, .non]
  | some y => .tup [fq e.1, tq y.1, .key y.2]
def bstE : Bst → PV
  | none => .non
  | some y => .tup [fq y.1, tq y.2.1, .key y.2.2]
theorem p_dget {n : Nat} {kvs : List (List Int × PV)} {k : List Int} {v : PV} {h : IH} (a : h[n]? = some (.dct kvs)) (e : dGet kvs k = some v) : pDGet (.obj n) (.key k) h = .ok v h := by simp [a, e]
theorem entE_0 (e : Ent) (h : IH) : pIdx (entE e) (.int 0) h = .ok (fq e.1) h := by
  unfold entE; cases e.2 <;> exact p_idxT (by decide) rfl
theorem flatMap_range {α β : Type} (l : List α) (d : α) (f : α → List β) : (List.range l.length).flatMap (fun i => f (l.getD i d)) = l.flatMap f := by
  have e : (List.range l.length).map (fun i => l.getD i d) = l := by
    apply List.ext_getElem
    · simp
    · intro i h1 h2; simp at h1; simp [h1]
  conv => rhs; rw [← e]
  rw [List.flatMap_map]
end WR

namespace WR
open PySem PySem.Spec PyProof.Rows L2
theorem rlt_trans {a b c : Rat} (h : a < b) (g : b < c) : a < c := by grind
theorem rlt_ne {a b : Rat} (h : a ≠ b) : a < b ∨ b < a := by grind
/-! ### sums over rows -/
def sL (f : Rat × Int → Rat) : Row → Rat
  | [] => 0
  | e :: row => f e + sL f row
theorem sL_app (f : Rat × Int → Rat) : ∀ a b : Row, sL f (a ++ b) = sL f a + sL f b
  | [], b => by simp [sL]; grind
  | e :: a, b => by simp only [List.cons_append, sL, sL_app f a b]; grind
theorem sL_congr {f g : Rat × Int → Rat} : ∀ {l : Row}, (∀ e ∈ l, f e = g e) → sL f l = sL g l
  | [], _ => rfl
  | e :: l, h => by simp only [sL]; rw [h e (by simp), sL_congr fun x hx => h x (by simp [hx])]
theorem sL_mul (c : Rat) (f : Rat × Int → Rat) : ∀ l : Row, sL (fun e => c * f e) l = c * sL f l
  | [] => by simp [sL]
  | e :: l => by simp only [sL, sL_mul c f l]; grind
theorem sL_zero {f : Rat × Int → Rat} {l : Row} (h : ∀ e ∈ l, f e = 0) : sL f l = 0 := by
  rw [sL_congr (g := fun _ => 0) h]
  induction l with
  | nil => rfl
  | cons e l ih => simp only [sL]; rw [ih fun x hx => h x (by simp [hx])]; grind
theorem sL_ins (f : Rat × Int → Rat) (row : Row) (e : Rat × Int) : sL f (insR row e) = sL f row + f e := by
  unfold insR
  generalize (row.filter fun x => decide (x.1 < e.1)).length = k
  rw [sL_app, sL_app]
  conv => rhs; rw [← List.take_append_drop k row, sL_app]
  simp only [sL]; grind
def sR (F : Nat → Rat × Int → Rat) (rs : List Row) : Nat → Rat
  | 0 => 0
  | i + 1 => sR F rs i + sL (F i) (rs.getD i [])
theorem sR_put (F : Nat → Rat × Int → Rat) (rs : List Row) (c : Ch) (hc : c.1.toNat < rs.length) : ∀ n, n ≤ rs.length → sR F (putR rs c) n = sR F rs n + if c.1.toNat < n then F c.1.toNat (c.2.1, c.2.2) else 0
  | 0, _ => by simp [sR]; grind
  | n + 1, h => by
    simp only [sR]
    rw [sR_put F rs c hc n (by omega)]
    have g : (putR rs c).getD n [] = if c.1.toNat = n then insR (rs.getD n []) (c.2.1, c.2.2) else rs.getD n [] := by
      unfold putR
      by_cases q : c.1.toNat = n
      · subst q
        rw [if_pos rfl]
        exact getD_of (List.getElem?_set_self (by omega))
      · rw [if_neg q]
        simp only [List.getD_eq_getElem?_getD, List.getElem?_set_ne q]
    rw [g]
    by_cases q : c.1.toNat = n
    · rw [if_pos q, sL_ins, if_neg (by omega), if_pos (by omega)]
      subst q; grind
    · rw [if_neg q]
      by_cases q2 : c.1.toNat < n
      · rw [if_pos q2, if_pos (by omega)]; grind
      · rw [if_neg q2, if_neg (by omega)]; grind
def cL (L : List Ch) (i : Nat) : Ch := L.getD i (0, 0, 0)
theorem cL_eq {L : List Ch} {i : Nat} (h : i < L.length) : cL L i = L[i] := getD_of (List.getElem?_eq_getElem h)
theorem sR_rows {R : Int} {L : List Ch} (o : ∀ c ∈ L, 0 ≤ c.1 ∧ c.1 < R) (F : Nat → Rat × Int → Rat) : sR F (rowsF R L) R.toNat = sumN (fun i => F (cL L i).1.toNat ((cL L i).2.1, (cL L i).2.2)) L.length := by
  have key : ∀ n, n ≤ L.length → sR F (rowsF R (L.take n)) R.toNat = sumN (fun i => F (cL L i).1.toNat ((cL L i).2.1, (cL L i).2.2)) n := by
    intro n
    induction n with
    | zero =>
      intro _
      simp only [List.take_zero, rowsF, List.foldl_nil, sumN]
      have : ∀ k, sR F (List.replicate R.toNat []) k = 0 := by
        intro k
        induction k with
        | zero => rfl
        | succ k ih =>
          simp only [sR, ih]
          have : (List.replicate R.toNat ([] : Row)).getD k [] = [] := by
            simp only [List.getD_eq_getElem?_getD, List.getElem?_replicate]
            split <;> rfl
          rw [this]; simp [sL]; grind
      exact this _
    | succ n ih =>
      intro hn
      have e1 : L.take (n + 1) = L.take n ++ [L[n]] := by rw [List.take_add_one]; simp [show n < L.length by omega]
      obtain ⟨c0, c1⟩ := o L[n] (by simp)
      rw [e1, rowsF_snoc, sR_put F _ _ (by rw [rowsF_len]; omega) _ (by rw [rowsF_len]; omega), ih (by omega), if_pos (by omega)]
      simp only [sumN, cL_eq (show n < L.length by omega)]
  have := key L.length (Nat.le_refl _)
  rwa [List.take_length] at this
/-! ### rows are in order -/
def posn (row : Row) (q : Rat) : Nat := (row.filter fun x => decide (x.1 < q)).length
abbrev Srt (row : Row) : Prop := row.Pairwise fun a b => a.1 < b.1
theorem posn_at {row : Row} (s : Srt row) {k : Nat} (hk : k < row.length) : posn row row[k].1 = k := by
  unfold posn
  have e : row = row.take k ++ row.drop k := (List.take_append_drop k row).symm
  have h1 : (row.take k).filter (fun x => decide (x.1 < row[k].1)) = row.take k := List.filter_eq_self.mpr fun x hx => by
    obtain ⟨i, hi, rfl⟩ := List.mem_take_iff_getElem.mp hx
    exact decide_eq_true (List.pairwise_iff_getElem.mp s i k (by omega) hk (by omega))
  have h2 : (row.drop k).filter (fun x => decide (x.1 < row[k].1)) = [] := List.filter_eq_nil_iff.mpr fun x hx => by
    obtain ⟨i, hi, rfl⟩ := List.mem_drop_iff_getElem.mp hx
    simp only [decide_eq_true_eq]
    intro z
    by_cases q : i = 0
    · subst q; simp at z
    · have := List.pairwise_iff_getElem.mp s k (k + i) hk (by omega) (by omega)
      exact Rat.lt_irrefl (rlt_trans this z)
  have h3 : (row.filter fun x => decide (x.1 < row[k].1)) = row.take k := by
    have f1 : row.filter (fun x => decide (x.1 < row[k].1)) = (row.take k ++ row.drop k).filter fun x => decide (x.1 < row[k].1) := by rw [List.take_append_drop]
    rw [f1, List.filter_append, h1, h2, List.append_nil]
  rw [h3]; simp; omega
theorem posn_of {row : Row} (s : Srt row) {x : Rat × Int} (hx : x ∈ row) : ∃ h : posn row x.1 < row.length, row[posn row x.1] = x := by
  obtain ⟨k, hk, rfl⟩ := List.getElem_of_mem hx
  have := posn_at s hk
  refine ⟨by omega, ?_⟩
  congr 1
theorem srt_ins {row : Row} (s : Srt row) {e : Rat × Int} (h : ∀ x ∈ row, x.1 ≠ e.1) : Srt (insR row e) := by
  unfold insR
  have hk : (row.filter fun x => decide (x.1 < e.1)).length ≤ row.length := List.length_filter_le _ _
  have split : row.filter (fun x => decide (x.1 < e.1)) = row.take (row.filter fun x => decide (x.1 < e.1)).length := by
    clear hk h
    induction row with
    | nil => rfl
    | cons a row ih =>
      obtain ⟨s1, s2⟩ := List.pairwise_cons.mp s
      by_cases q : a.1 < e.1
      · simp only [List.filter_cons, decide_eq_true q, if_true, List.length_cons, List.take_succ_cons]
        rw [← ih s2]
      · have : (a :: row).filter (fun x => decide (x.1 < e.1)) = [] := List.filter_eq_nil_iff.mpr fun x hx => by
          simp only [decide_eq_true_eq]
          intro z
          rcases List.mem_cons.mp hx with rfl | hx
          · exact q z
          · exact q (rlt_trans (s1 x hx) z)
        rw [this]; rfl
  generalize hg : (row.filter fun x => decide (x.1 < e.1)).length = k at *
  have lo : ∀ x ∈ row.take k, x.1 < e.1 := fun x hx => by
    rw [← split] at hx
    exact of_decide_eq_true (List.mem_filter.mp hx).2
  have hi : ∀ x ∈ row.drop k, e.1 < x.1 := fun x hx => by
    have nx : ¬ x.1 < e.1 := fun z => by
      have m : x ∈ row.filter fun x => decide (x.1 < e.1) := List.mem_filter.mpr ⟨List.mem_of_mem_drop hx, decide_eq_true z⟩
      rw [split] at m
      obtain ⟨i, hi, rfl⟩ := List.mem_take_iff_getElem.mp m
      obtain ⟨j, hj, ej⟩ := List.mem_drop_iff_getElem.mp hx
      have := List.pairwise_iff_getElem.mp s i (k + j) (by omega) (by omega) (by omega)
      rw [ej] at this
      exact Rat.lt_irrefl this
    have ne := h x (List.mem_of_mem_drop hx)
    rcases rlt_ne ne with z | z
    · exact absurd z nx
    · exact z
  have s1 : Srt (row.take k) := List.Pairwise.sublist (List.take_sublist _ _) s
  have s2 : Srt (row.drop k) := List.Pairwise.sublist (List.drop_sublist _ _) s
  rw [List.append_assoc]
  refine List.pairwise_append.mpr ⟨s1, List.pairwise_append.mpr ⟨List.pairwise_singleton _ _, s2, fun a ha b hb => ?_⟩, fun a ha b hb => ?_⟩
  · rw [List.mem_singleton.mp ha]; exact hi b hb
  · rcases List.mem_append.mp hb with hb | hb
    · rw [List.mem_singleton.mp hb]; exact lo a ha
    · exact rlt_trans (lo a ha) (hi b hb)
structure RowsS (R : Int) (L : List Ch) (rs : List Row) : Prop where
  srt : ∀ (r : Nat) (row : Row), rs[r]? = some row → Srt row
  mem : ∀ (r : Nat) (row : Row), rs[r]? = some row → ∀ x ∈ row, ∃ c ∈ L, c.1.toNat = r ∧ x = (c.2.1, c.2.2)
  rev : ∀ c ∈ L, ∃ row, rs[c.1.toNat]? = some row ∧ (c.2.1, c.2.2) ∈ row
theorem rowsF_s {R : Int} {L : List Ch} (o : OkL R L) : RowsS R L (rowsF R L) := by
  have key : ∀ n, n ≤ L.length → RowsS R (L.take n) (rowsF R (L.take n)) := by
    intro n
    induction n with
    | zero =>
      intro _
      have z : ∀ (r : Nat) (row : Row), (rowsF R (L.take 0))[r]? = some row → row = [] := fun r row e => by
        simp only [List.take_zero, rowsF, List.foldl_nil] at e
        rw [List.getElem?_replicate] at e
        split at e
        · exact (Option.some.inj e).symm
        · cases e
      exact ⟨fun r row e => by rw [z r row e]; exact List.Pairwise.nil, fun r row e x hx => (by rw [z r row e] at hx; simp at hx), fun c hc => by simp at hc⟩
    | succ n ih =>
      intro hn
      have q := ih (by omega)
      have e1 : L.take (n + 1) = L.take n ++ [L[n]] := by rw [List.take_add_one]; simp [show n < L.length by omega]
      have oc := o.c L[n] (by simp)
      have c0 := oc.r0
      have c1 := oc.r1
      have hl : L[n].1.toNat < (rowsF R (L.take n)).length := by rw [rowsF_len]; omega
      rw [e1, rowsF_snoc]
      have sub : ∀ c ∈ L.take n, c ∈ L.take n ++ [L[n]] := fun c hc => List.mem_append_left _ hc
      have gq : (rowsF R (L.take n)).getD L[n].1.toNat [] = (rowsF R (L.take n))[L[n].1.toNat] := getD_of (List.getElem?_eq_getElem hl)
      have at_ : (putR (rowsF R (L.take n)) L[n])[L[n].1.toNat]? = some (insR (rowsF R (L.take n))[L[n].1.toNat] (L[n].2.1, L[n].2.2)) := by
        unfold putR; rw [List.getElem?_set_self hl, gq]
      have ne_ : ∀ r, L[n].1.toNat ≠ r → (putR (rowsF R (L.take n)) L[n])[r]? = (rowsF R (L.take n))[r]? := fun r hr => by
        unfold putR; rw [List.getElem?_set_ne hr]
      have m0 := List.getElem?_eq_getElem hl
      refine ⟨fun r row e => ?_, fun r row e x hx => ?_, fun c hc => ?_⟩
      · by_cases hr : L[n].1.toNat = r
        · subst hr
          rw [at_] at e
          cases e
          refine srt_ins (q.srt _ _ m0) fun x hx z => ?_
          obtain ⟨c, hc, h1, h2⟩ := q.mem _ _ m0 x hx
          have nd := nd_take (l := L.map c2) o.nd (i := n) (by rw [List.length_map]; omega)
          refine nd ?_
          rw [List.getElem_map, ← List.map_take]
          refine List.mem_map.mpr ⟨c, hc, ?_⟩
          have oc2 := o.c c (List.mem_of_mem_take hc)
          have := oc2.r0
          rw [h2] at z
          simp only [c2]
          rw [show c.1 = L[n].1 by omega, z]
        · rw [ne_ r hr] at e
          exact q.srt r row e
      · by_cases hr : L[n].1.toNat = r
        · subst hr
          rw [at_] at e
          cases e
          rcases insR_mem.mp hx with hx | hx
          · exact ⟨L[n], List.mem_append_right _ (List.mem_singleton.mpr rfl), rfl, hx⟩
          · obtain ⟨c, hc, h1, h2⟩ := q.mem _ _ m0 x hx
            exact ⟨c, sub c hc, h1, h2⟩
        · rw [ne_ r hr] at e
          obtain ⟨c, hc, h1, h2⟩ := q.mem r row e x hx
          exact ⟨c, sub c hc, h1, h2⟩
      · rcases List.mem_append.mp hc with hc | hc
        · obtain ⟨row, h1, h2⟩ := q.rev c hc
          by_cases hr : L[n].1.toNat = c.1.toNat
          · refine ⟨_, by rw [← hr]; exact at_, insR_mem.mpr (.inr ?_)⟩
            have : row = (rowsF R (L.take n))[L[n].1.toNat] := Option.some.inj (h1.symm.trans (by rw [← hr]; exact m0))
            rw [← this]; exact h2
          · exact ⟨row, by rw [ne_ _ hr]; exact h1, h2⟩
        · rw [List.mem_singleton.mp hc]
          exact ⟨_, at_, insR_mem.mpr (.inl rfl)⟩
  have := key L.length (Nat.le_refl _)
  rwa [List.take_length] at this
end WR

namespace WR
open PySem PySem.Spec PyProof.Rows L2
/-! ### standings and places -/
def plsW (L : List Ch) (w : Rat × Int → Rat) : Pls := ⟨L.length, fun i => (cL L i).1, fun i => (cL L i).2.1, fun i => w ((cL L i).2.1, (cL L i).2.2)⟩
def Dst (rs : List Row) (L : List Ch) (s : List Int) (i : Nat) : Bool := decide ((posn (rs.getD (cL L i).1.toNat []) (cL L i).2.1 : Int) < s.getD (cL L i).1.toNat 0)
def wbW (w : Rat × Int → Rat) (rs : List Row) (s : List Int) : Nat → Rat
  | 0 => 0
  | i + 1 => wbW w rs s i + sL w ((rs.getD i []).drop (s.getD i 0).toNat)
section
variable {R : Int} {L : List Ch} (o : OkL R L)
include o
theorem rowLen : (rowsF R L).length = R.toNat := rowsF_len R L
theorem srtD (r : Nat) : Srt ((rowsF R L).getD r []) := by
  cases e : (rowsF R L)[r]? with
  | none => simp only [List.getD_eq_getElem?_getD, e]; exact List.Pairwise.nil
  | some row => rw [getD_of e]; exact (rowsF_s o).srt r row e
theorem row_of {i : Nat} (hi : i < L.length) : (cL L i).1.toNat < (rowsF R L).length ∧ ((cL L i).1.toNat : Int) = (cL L i).1 ∧ ∃ h : posn ((rowsF R L).getD (cL L i).1.toNat []) (cL L i).2.1 < ((rowsF R L).getD (cL L i).1.toNat []).length, ((rowsF R L).getD (cL L i).1.toNat [])[posn ((rowsF R L).getD (cL L i).1.toNat []) (cL L i).2.1] = ((cL L i).2.1, (cL L i).2.2) := by
  rw [cL_eq hi]
  obtain ⟨row, h1, h2⟩ := (rowsF_s o).rev L[i] (by simp)
  have oc := o.c L[i] (by simp)
  have := oc.r0
  refine ⟨(List.getElem?_eq_some_iff.mp h1).1, by omega, ?_⟩
  rw [getD_of h1]
  exact posn_of ((rowsF_s o).srt _ _ h1) h2
theorem idx_of {r k : Nat} (hk : k < ((rowsF R L).getD r []).length) : ∃ i, i < L.length ∧ cL L i = ((r : Int), ((rowsF R L).getD r [])[k].1, ((rowsF R L).getD r [])[k].2) := by
  have hr : r < (rowsF R L).length := by
    by_cases q : r < (rowsF R L).length
    · exact q
    · rw [List.getD_eq_getElem?_getD, List.getElem?_eq_none (by omega)] at hk; simp at hk
  have e := List.getElem?_eq_getElem hr
  have m : ((rowsF R L).getD r [])[k] ∈ (rowsF R L)[r] := by rw [← getD_of (d := ([] : Row)) e]; exact List.getElem_mem hk
  obtain ⟨c, hc, h1, h2⟩ := (rowsF_s o).mem r _ e _ m
  obtain ⟨i, hi, rfl⟩ := List.getElem_of_mem hc
  have := (o.c L[i] (by simp)).r0
  refine ⟨i, hi, ?_⟩
  rw [cL_eq hi, h2, ← h1]
  refine Prod.ext ?_ rfl
  show L[i].1 = (L[i].1.toNat : Int)
  omega
theorem posn_le {r : Nat} {i k : Nat} (hi : i < L.length) (hr : (cL L i).1.toNat = r) (hk : k < ((rowsF R L).getD r []).length) : posn ((rowsF R L).getD r []) (cL L i).2.1 ≤ k ↔ (cL L i).2.1 ≤ ((rowsF R L).getD r [])[k].1 := by
  obtain ⟨_, _, h1, h2⟩ := row_of o hi
  have s := srtD o r
  rw [hr] at h1
  simp only [hr] at h2
  have e : (cL L i).2.1 = ((rowsF R L).getD r [])[posn ((rowsF R L).getD r []) (cL L i).2.1].1 := by rw [h2]
  constructor
  · intro h
    rw [e]
    by_cases q : posn ((rowsF R L).getD r []) (cL L i).2.1 = k
    · simp only [q]; exact Rat.le_refl
    · exact Rat.le_of_lt (List.pairwise_iff_getElem.mp s _ k h1 hk (by omega))
  · intro h
    by_cases q : posn ((rowsF R L).getD r []) (cL L i).2.1 ≤ k
    · exact q
    · exfalso
      have z := List.pairwise_iff_getElem.mp s k _ hk h1 (by omega)
      rw [← e] at z
      exact Rat.not_lt.mpr h z
theorem Dst_dc (w : Rat × Int → Rat) (s : List Int) : (plsW L w).Dc (Dst (rowsF R L) L s) := by
  intro i j hi hj h1 h2
  have h2 : (cL L i).1 = (cL L j).1 ∧ (cL L i).2.1 ≤ (cL L j).2.1 := by
    obtain ⟨a, b⟩ := Bool.and_eq_true_iff.mp h2
    exact ⟨of_decide_eq_true a, of_decide_eq_true b⟩
  obtain ⟨_, _, p1, p2⟩ := row_of o hj
  have := (posn_le o (r := (cL L j).1.toNat) (k := posn ((rowsF R L).getD (cL L j).1.toNat []) (cL L j).2.1) hi (by rw [h2.1]) p1).mpr (by rw [p2]; exact h2.2)
  simp only [Dst, decide_eq_true_eq] at *
  rw [h2.1]
  omega
/-- a turn to the k-th place of road r -/
theorem Dst_go (w : Rat × Int → Rat) {s : List Int} (hs : s.length = (rowsF R L).length) {r k i0 : Nat} (hk : k < ((rowsF R L).getD r []).length) (hr : r < (rowsF R L).length) (h0 : s.getD r 0 ≤ k) (e0 : cL L i0 = ((r : Int), ((rowsF R L).getD r [])[k].1, ((rowsF R L).getD r [])[k].2)) {i : Nat} (hi : i < L.length) :
    Dst (rowsF R L) L (bhd s r k) i = (plsW L w).go (Dst (rowsF R L) L s) i0 i := by
  obtain ⟨_, g1, _⟩ := row_of o hi
  simp only [Dst, Pls.go, Pls.near, plsW, e0, bhd_getD (show r < s.length by omega)]
  by_cases q : (cL L i).1.toNat = r
  · have pl := posn_le o hi q hk
    rw [if_pos q]
    have e1 : (cL L i).1 = (r : Int) := by omega
    rw [decide_eq_true e1, Bool.true_and]
    simp only [q]
    by_cases z : (cL L i).2.1 ≤ ((rowsF R L).getD r [])[k].1
    · have := pl.mpr z
      rw [decide_eq_true z, decide_eq_true (show (posn ((rowsF R L).getD r []) (cL L i).2.1 : Int) < (k : Int) + 1 by omega), Bool.or_true]
    · have : ¬ posn ((rowsF R L).getD r []) (cL L i).2.1 ≤ k := fun y => z (pl.mp y)
      rw [decide_eq_false z, decide_eq_false (show ¬ (posn ((rowsF R L).getD r []) (cL L i).2.1 : Int) < (k : Int) + 1 by omega), decide_eq_false (show ¬ (posn ((rowsF R L).getD r []) (cL L i).2.1 : Int) < s.getD r 0 by omega)]
      rfl
  · rw [if_neg q]
    have e1 : ¬ (cL L i).1 = (r : Int) := by omega
    rw [decide_eq_false e1, Bool.false_and, Bool.or_false]
/-- what a turn adds -/
theorem cost_gen (w : Rat × Int → Rat) {s : List Int} (hs : s.length = (rowsF R L).length) (s0 : ∀ r, 0 ≤ s.getD r 0) {r k i0 : Nat} (hk : k < ((rowsF R L).getD r []).length) (hr : r < (rowsF R L).length) (h0 : s.getD r 0 ≤ k) (e0 : cL L i0 = ((r : Int), ((rowsF R L).getD r [])[k].1, ((rowsF R L).getD r [])[k].2)) :
    (plsW L w).cost (Dst (rowsF R L) L s) i0 = sL (fun e => e.1 * w e) ((((rowsF R L).getD r []).drop (s.getD r 0).toNat).take (k + 1 - (s.getD r 0).toNat)) + 2 * ((rowsF R L).getD r [])[k].1 * wbW w (rowsF R L) (bhd s r k) R.toNat := by
  generalize hd : ((rowsF R L).getD r [])[k].1 = d0
  generalize hF : (fun (q : Nat) (e : Rat × Int) => if (posn ((rowsF R L).getD q []) e.1 : Int) < (bhd s r k).getD q 0 then (if (posn ((rowsF R L).getD q []) e.1 : Int) < s.getD q 0 then 0 else e.1 * w e) else 2 * d0 * w e) = F
  have c1 : (plsW L w).cost (Dst (rowsF R L) L s) i0 = sR F (rowsF R L) R.toNat := by
    rw [sR_rows (fun c hc => ⟨(o.c c hc).r0, (o.c c hc).r1⟩) F]
    refine sumN_congr fun i hi => ?_
    rw [← Dst_go o w hs hk hr h0 e0 hi]
    have ed : (plsW L w).di i0 = d0 := by simp only [plsW, e0, hd]
    rw [ed, ← hF]
    simp only [Dst, plsW, decide_eq_true_eq]
  rw [c1]
  have key : ∀ n, n ≤ (rowsF R L).length → sR F (rowsF R L) n = (if r < n then sL (fun e => e.1 * w e) ((((rowsF R L).getD r []).drop (s.getD r 0).toNat).take (k + 1 - (s.getD r 0).toNat)) else 0) + 2 * d0 * wbW w (rowsF R L) (bhd s r k) n := by
    intro n
    induction n with
    | zero => intro _; simp [sR, wbW]; grind
    | succ n ih =>
      intro hn
      simp only [sR, wbW]
      rw [ih (by omega)]
      have st := srtD o n
      have s0n := s0 n
      generalize hrow : (rowsF R L).getD n [] = row at st ⊢
      have Fe : ∀ e ∈ row, F n e = if (posn row e.1 : Int) < (bhd s r k).getD n 0 then (if (posn row e.1 : Int) < s.getD n 0 then 0 else e.1 * w e) else 2 * d0 * w e := fun e _ => by rw [← hF]; simp only [hrow]
      have lo : ∀ (a : Nat) (e : Rat × Int), e ∈ row.take a → posn row e.1 < a := fun a e he => by
        obtain ⟨j, hj, rfl⟩ := List.mem_take_iff_getElem.mp he
        rw [posn_at st (by omega)]; omega
      have hi : ∀ (a : Nat) (e : Rat × Int), e ∈ row.drop a → a ≤ posn row e.1 := fun a e he => by
        obtain ⟨j, hj, rfl⟩ := List.mem_drop_iff_getElem.mp he
        rw [posn_at st (by omega)]; omega
      rw [bhd_getD (show r < s.length by omega)] at *
      by_cases q : n = r
      · subst q
        rw [if_pos rfl, if_neg (by omega), if_pos (by omega)]
        simp only [if_true] at Fe
        generalize ha : (s.getD n 0).toNat = a
        have ak : a ≤ k + 1 := by omega
        have sp : row = row.take a ++ ((row.drop a).take (k + 1 - a) ++ row.drop (k + 1)) := by
          have : row.drop (k + 1) = (row.drop a).drop (k + 1 - a) := by rw [List.drop_drop]; congr 1; omega
          rw [this, List.take_append_drop, List.take_append_drop]
        have e1 : sL (F n) row = sL (F n) (row.take a) + (sL (F n) ((row.drop a).take (k + 1 - a)) + sL (F n) (row.drop (k + 1))) := by
          conv => lhs; rw [sp]
          rw [sL_app, sL_app]
        have z1 : sL (F n) (row.take a) = 0 := sL_zero fun e he => by
          have := lo a e he
          rw [Fe e (List.mem_of_mem_take he), if_pos (by omega), if_pos (by omega)]
        have z2 : sL (F n) ((row.drop a).take (k + 1 - a)) = sL (fun e => e.1 * w e) ((row.drop a).take (k + 1 - a)) := sL_congr fun e he => by
          have m1 := List.mem_of_mem_take he
          have h1 := hi a e m1
          have h2 : e ∈ row.take (k + 1) := by
            have : row.take (k + 1) = row.take a ++ (row.drop a).take (k + 1 - a) := by
              rw [← List.take_add]; congr 1; omega
            rw [this]; exact List.mem_append_right _ he
          have h3 := lo (k + 1) e h2
          rw [Fe e (List.mem_of_mem_drop m1), if_pos (by omega), if_neg (by omega)]
        have z3 : sL (F n) (row.drop (k + 1)) = 2 * d0 * sL w (row.drop (k + 1)) := by
          rw [← sL_mul]
          refine sL_congr fun e he => ?_
          have h1 := hi (k + 1) e he
          rw [Fe e (List.mem_of_mem_drop he), if_neg (by omega)]
        have t1 : ((k : Int) + 1).toNat = k + 1 := by omega
        rw [e1, z1, z2, z3, t1, hrow]
        grind
      · rw [if_neg q]
        simp only [q, if_false] at Fe
        have sp : row = row.take (s.getD n 0).toNat ++ row.drop (s.getD n 0).toNat := (List.take_append_drop _ _).symm
        have e1 : sL (F n) row = sL (F n) (row.take (s.getD n 0).toNat) + sL (F n) (row.drop (s.getD n 0).toNat) := by
          conv => lhs; rw [sp]
          rw [sL_app]
        have z1 : sL (F n) (row.take (s.getD n 0).toNat) = 0 := sL_zero fun e he => by
          have := lo _ e he
          rw [Fe e (List.mem_of_mem_take he), if_pos (by omega), if_pos (by omega)]
        have z3 : sL (F n) (row.drop (s.getD n 0).toNat) = 2 * d0 * sL w (row.drop (s.getD n 0).toNat) := by
          rw [← sL_mul]
          refine sL_congr fun e he => ?_
          have h1 := hi _ e he
          rw [Fe e (List.mem_of_mem_drop he), if_neg (by omega)]
        rw [e1, z1, z3]
        by_cases q2 : r < n
        · rw [if_pos q2, if_pos (by omega)]; grind
        · rw [if_neg q2, if_neg (by omega)]; grind
  have kk := key R.toNat (by rw [rowsF_len]; exact Nat.le_refl _)
  rw [if_pos (by rw [rowsF_len] at hr; exact hr)] at kk
  exact kk
end
/-! ### the weights of chances -/
def wI (e : Rat × Int) : Rat := ((e.2 : Int) : Rat)
theorem rwI_sL (row : Row) (m : Int) : ((rwI row m : Int) : Rat) = sL wI (row.drop m.toNat) := by
  unfold rwI
  generalize row.drop m.toNat = l
  induction l with
  | nil => rfl
  | cons e l ih => rw [List.map_cons, List.sum_cons, Rat.intCast_add, ih]; rfl
theorem wbP_W (rs : List Row) (s : List Int) : ∀ n, ((wbP rs s n : Int) : Rat) = wbW wI rs s n
  | 0 => rfl
  | n + 1 => by simp only [wbP, wbW]; rw [Rat.intCast_add, wbP_W rs s n, rwI_sL]
theorem adS_sL (row : Row) (a : Nat) : ∀ j, a + j ≤ row.length → adS row a j = sL (fun e => e.1 * wI e) ((row.drop a).take j)
  | 0, _ => by simp [adS, sL]
  | j + 1, h => by
    have e : (row.drop a).take (j + 1) = (row.drop a).take j ++ [row[a + j]] := by
      rw [List.take_add_one, List.getElem?_drop, List.getElem?_eq_getElem (by omega)]; rfl
    rw [adS, adS_sL row a j (by omega), e, sL_app, getD_of (List.getElem?_eq_getElem (show a + j < row.length by omega))]
    simp only [sL, wI]; grind
theorem cost_tc {R : Int} {L : List Ch} (o : OkL R L) {s : List Int} (hs : s ∈ endsF (rowsF R L)) {r j i0 : Nat} (hr : r < (rowsF R L).length) (hj : (s.getD r 0).toNat + j < ((rowsF R L).getD r []).length) (e0 : cL L i0 = ((r : Int), ((rowsF R L).getD r [])[(s.getD r 0).toNat + j].1, ((rowsF R L).getD r [])[(s.getD r 0).toNat + j].2)) :
    (plsW L wI).cost (Dst (rowsF R L) L s) i0 = (tcE (rowsF R L) s r j).2.2 := by
  have su := ends_u hs
  have s0 : ∀ r, 0 ≤ s.getD r 0 := fun q => by
    cases e : s[q]? with
    | none => simp [List.getD_eq_getElem?_getD, e]
    | some v => rw [getD_of e]; exact su.b.p v (List.mem_of_getElem? e)
  have z := s0 r
  have c := cost_gen o wI su.b.l s0 hj hr (by omega) e0
  rw [c]
  simp only [tcE]
  rw [adS_sL _ _ _ (by omega), show (s.getD r 0).toNat + j + 1 - (s.getD r 0).toNat = j + 1 by omega, getD_of (List.getElem?_eq_getElem hj), Rat.intCast_mul, wbF, wbP_W, rowsF_len]
  have : ((2 : Int) : Rat) = 2 := rfl
  rw [this]
  grind
end WR

namespace WR
open PySem PySem.Spec PyProof.Rows L2
theorem Pls.opt_step2 {p : Pls} (o : p.Ok) {D : Nat → Bool} (d : p.Dc D) {v : Rat} (hw : ∀ j, j < p.n → D j = false → ∃ w, p.Opt (p.go D j) w ∧ v ≤ p.cost D j + w) (h1 : ∃ j w, j < p.n ∧ D j = false ∧ p.Opt (p.go D j) w ∧ v = p.cost D j + w) : p.Opt D v := by
  have ch : ∀ j, ∃ w, j < p.n → D j = false → p.Opt (p.go D j) w ∧ v ≤ p.cost D j + w := fun j => by
    by_cases q : j < p.n ∧ D j = false
    · obtain ⟨w, a⟩ := hw j q.1 q.2
      exact ⟨w, fun _ _ => a⟩
    · exact ⟨0, fun a b => absurd ⟨a, b⟩ q⟩
  refine Pls.opt_step o d (w := fun j => Classical.choose (ch j)) (fun j hj hd => (Classical.choose_spec (ch j) hj hd).1) ?_ fun j hj hd => (Classical.choose_spec (ch j) hj hd).2
  obtain ⟨j, w, hj, hd, a, b⟩ := h1
  refine ⟨j, hj, hd, ?_⟩
  exact b.trans (congrArg (fun z => p.cost D j + z) (((Classical.choose_spec (ch j) hj hd).1).uniq a).symm)
section
variable {R : Int} {L : List Ch} (o : OkL R L)
include o
theorem pls_ok : (plsW L wI).Ok := by
  refine ⟨fun i hi => ?_, fun i hi => ?_⟩
  · have oc := o.c L[i] (List.getElem_mem hi)
    have := oc.f1
    simp only [plsW, cL_eq hi]; grind
  · have oc := o.c L[i] (List.getElem_mem hi)
    have := oc.w1
    simp only [plsW, cL_eq hi, wI]
    exact int_nn (by omega)
theorem s_nn {s : List Int} (hs : s ∈ endsF (rowsF R L)) (r : Nat) : 0 ≤ s.getD r 0 := by
  have su := ends_u hs
  cases e : s[r]? with
  | none => simp [List.getD_eq_getElem?_getD, e]
  | some v => rw [getD_of e]; exact su.b.p v (List.mem_of_getElem? e)
theorem opt_of_place {s : List Int} (hs : s ∈ endsF (rowsF R L)) {i : Nat} (hi : i < L.length) (hd : Dst (rowsF R L) L s i = false) :
    ∃ x ∈ tcF (rowsF R L) s, x.2.1 ∈ endsF (rowsF R L) ∧ x.1 = ((cL L i).1, (cL L i).2.1) ∧ x.2.2 = (plsW L wI).cost (Dst (rowsF R L) L s) i ∧ ∀ m, m < L.length → Dst (rowsF R L) L x.2.1 m = (plsW L wI).go (Dst (rowsF R L) L s) i m := by
  have su := ends_u hs
  obtain ⟨g0, g1, g2, g3⟩ := row_of o hi
  have h0 := s_nn o hs (cL L i).1.toNat
  have hge : s.getD (cL L i).1.toNat 0 ≤ posn ((rowsF R L).getD (cL L i).1.toNat []) (cL L i).2.1 := by
    have := of_decide_eq_false hd
    omega
  generalize hr : (cL L i).1.toNat = r at *
  generalize hk : posn ((rowsF R L).getD r []) (cL L i).2.1 = k at *
  have ek : (s.getD r 0).toNat + (k - (s.getD r 0).toNat) = k := by omega
  have e0 : cL L i = ((r : Int), ((rowsF R L).getD r [])[k].1, ((rowsF R L).getD r [])[k].2) := by
    rw [g3]
    exact Prod.ext g1.symm rfl
  have e0' : cL L i = ((r : Int), ((rowsF R L).getD r [])[(s.getD r 0).toNat + (k - (s.getD r 0).toNat)].1, ((rowsF R L).getD r [])[(s.getD r 0).toNat + (k - (s.getD r 0).toNat)].2) := by simp only [ek]; exact e0
  refine ⟨tcE (rowsF R L) s r (k - (s.getD r 0).toNat), tc_mem.mpr ⟨r, _, g0, by omega, rfl⟩, ?_, ?_, (cost_tc o hs g0 (by omega) e0').symm, fun m hm => ?_⟩
  · exact bhd_ends hs g0 (by omega)
  · simp only [tcE, ek, getD_of (List.getElem?_eq_getElem g2), g3]
    rw [g1]
  · simp only [tcE, ek]
    exact Dst_go o wI su.b.l g2 g0 hge e0 hm
theorem place_of_opt {s : List Int} (hs : s ∈ endsF (rowsF R L)) {x : Opn} (hx : x ∈ tcF (rowsF R L) s) :
    ∃ i, i < L.length ∧ Dst (rowsF R L) L s i = false ∧ x.2.1 ∈ endsF (rowsF R L) ∧ x.1 = ((cL L i).1, (cL L i).2.1) ∧ x.2.2 = (plsW L wI).cost (Dst (rowsF R L) L s) i ∧ ∀ m, m < L.length → Dst (rowsF R L) L x.2.1 m = (plsW L wI).go (Dst (rowsF R L) L s) i m := by
  have su := ends_u hs
  obtain ⟨r, j, hr, hj, rfl⟩ := tc_mem.mp hx
  have h0 := s_nn o hs r
  obtain ⟨i, hi, e0⟩ := idx_of o hj
  refine ⟨i, hi, ?_, bhd_ends hs hr hj, ?_, (cost_tc o hs hr hj e0).symm, fun m hm => Dst_go o wI su.b.l hj hr (by omega) e0 hm⟩
  · have pa := posn_at (srtD o r) hj
    simp only [Dst, e0, Int.toNat_natCast]
    rw [pa]
    exact decide_eq_false (by omega)
  · simp only [tcE, e0, getD_of (List.getElem?_eq_getElem hj)]
/-! ### the best from each standing -/
theorem ent_opt : ∀ (k : Nat) (s : List Int), s ∈ endsF (rowsF R L) → rem (rowsF R L) s < k → (plsW L wI).Opt (Dst (rowsF R L) L s) (ent (rowsF R L) s).1 := by
  intro k
  induction k with
  | zero => intro s _ h; omega
  | succ k ih =>
    intro s hs hk
    have su := ends_u hs
    rw [ent_eq su.b.l, entF]
    have sp := fold_spec (look := fun b => (ent (rowsF R L) b).1) (tcF (rowsF R L) s) none
    split at sp
    · rename_i e
      rw [e]
      refine Pls.opt_done (pls_ok o) fun i hi => ?_
      cases q : Dst (rowsF R L) L s i with
      | true => rfl
      | false =>
        obtain ⟨x, hx, _⟩ := opt_of_place o hs hi q
        rw [sp.2] at hx; simp at hx
    · rename_i y e
      rw [e]
      obtain ⟨a1, _, a3⟩ := sp
      rcases a1 with a1 | ⟨x, hx, rfl⟩
      · cases a1
      refine Pls.opt_step2 (pls_ok o) (Dst_dc o wI s) (fun j hj hd => ?_) ?_
      · obtain ⟨z, hz, z1, z2, z3, z4⟩ := opt_of_place o hs hj hd
        obtain ⟨r1, r2⟩ := tc_rem su.b.l hz
        exact ⟨_, (ih z.2.1 z1 (by omega)).congr z4, by rw [← z3]; exact a3 z hz⟩
      · obtain ⟨i, hi, hd, z1, z2, z3, z4⟩ := place_of_opt o hs hx
        obtain ⟨r1, r2⟩ := tc_rem su.b.l hx
        exact ⟨i, _, hi, hd, (ih x.2.1 z1 (by omega)).congr z4, by rw [← z3]; rfl⟩
end
def chain (rs : List Row) : Nat → List Int → List (Int × Rat)
  | 0, _ => []
  | k + 1, s => match (ent rs s).2 with
    | none => []
    | some y => y.1 :: chain rs k y.2
theorem chain_ok {R : Int} {L : List Ch} (o : OkL R L) : ∀ (k : Nat) (s : List Int), s ∈ endsF (rowsF R L) → rem (rowsF R L) s < k → ∃ T : List Nat, chain (rowsF R L) k s = T.map (fun i => ((cL L i).1, (cL L i).2.1)) ∧ T.length ≤ rem (rowsF R L) s ∧ (∀ j ∈ T, j < L.length ∧ Dst (rowsF R L) L s j = false) ∧ (plsW L wI).Cov (Dst (rowsF R L) L s) T ∧ (plsW L wI).tot (Dst (rowsF R L) L s) T = (ent (rowsF R L) s).1 := by
  intro k
  induction k with
  | zero => intro s _ h; omega
  | succ k ih =>
    intro s hs hk
    have su := ends_u hs
    have ee : ent (rowsF R L) s = entO ((tcF (rowsF R L) s).foldl (bstS fun b => (ent (rowsF R L) b).1) none) := by rw [ent_eq su.b.l, entF]
    have sp := fold_spec (look := fun b => (ent (rowsF R L) b).1) (tcF (rowsF R L) s) none
    split at sp
    · rename_i e
      rw [e] at ee
      refine ⟨[], by simp [chain, ee, entO], by simp, by simp, fun i hi => ?_, by rw [ee]; rfl⟩
      cases q : Dst (rowsF R L) L s i with
      | true => exact q
      | false =>
        obtain ⟨x, hx, _⟩ := opt_of_place o hs hi q
        rw [sp.2] at hx; simp at hx
    · rename_i y e
      rw [e] at ee
      obtain ⟨a1, _, a3⟩ := sp
      rcases a1 with a1 | ⟨x, hx, rfl⟩
      · cases a1
      obtain ⟨i, hi, hd, z1, z2, z3, z4⟩ := place_of_opt o hs hx
      obtain ⟨r1, r2⟩ := tc_rem su.b.l hx
      obtain ⟨T, t1, t2, t3, t4, t5⟩ := ih x.2.1 z1 (by omega)
      refine ⟨i :: T, ?_, by simp; omega, fun j hj => ?_, fun m hm => ?_, ?_⟩
      · simp only [chain, ee, entO, List.map_cons]
        rw [t1, z2]
      · rcases List.mem_cons.mp hj with rfl | hj
        · exact ⟨hi, hd⟩
        · obtain ⟨b1, b2⟩ := t3 j hj
          refine ⟨b1, ?_⟩
          rw [z4 j b1] at b2
          simp only [Pls.go, Bool.or_eq_false_iff] at b2
          exact b2.1
      · show (plsW L wI).aft ((plsW L wI).go (Dst (rowsF R L) L s) i) T m = true
        rw [← Pls.aft_congr T z4 m hm]
        exact t4 m hm
      · show (plsW L wI).cost (Dst (rowsF R L) L s) i + (plsW L wI).tot ((plsW L wI).go (Dst (rowsF R L) L s) i) T = _
        rw [← Pls.tot_congr T z4, t5, ← z3, ee]
        rfl
end WR

namespace WR
open PySem PySem.Spec PyProof.Rows L2
/-! ### least_walk, best_plan -/
def st0 (R : Int) : List Int := List.replicate R.toNat 0
theorem flat_one (n : Nat) : (List.replicate n [(0 : Int)]).flatten = List.replicate n 0 := by
  induction n with
  | zero => rfl
  | succ n ih => rw [List.replicate_succ, List.flatten_cons, ih, List.replicate_succ]; rfl
theorem p_mulK {R : Int} (h1 : 1 ≤ R) (h2 : R ≤ 1000) (h : IH) : pMulK (.key [0]) (.int R) h = .ok (.key (st0 R)) h := by
  unfold st0
  by_cases q : R = 1
  · subst q; rfl
  · have : 2 ≤ R ∧ R ≤ 1000 ∧ ([0] : List Int).length ≤ 1000 := ⟨by omega, h2, by decide⟩
    simp only [pMulK, q, if_false, this, and_self, if_true, flat_one]
theorem st0_getD (R : Int) (r : Nat) : (st0 R).getD r 0 = 0 := by
  simp only [st0, List.getD_eq_getElem?_getD, List.getElem?_replicate]
  split <;> rfl
theorem st0_mem {R : Int} {rs : List Row} (h : rs.length = R.toNat) : st0 R ∈ endsF rs := by
  refine endsP_mem.mpr ⟨by simp [st0, h], fun r hr => ?_⟩
  rw [st0_getD]; omega
theorem wbW_st0 (w : Rat × Int → Rat) (R : Int) (rs : List Row) : ∀ n, wbW w rs (st0 R) n = sR (fun _ => w) rs n
  | 0 => rfl
  | n + 1 => by
    simp only [wbW, sR]
    rw [wbW_st0 w R rs n, st0_getD]
    rfl
theorem Dst_st0 {R : Int} (rs : List Row) (L : List Ch) (i : Nat) : Dst rs L (st0 R) i = false := by
  unfold Dst
  rw [st0_getD]
  exact decide_eq_false (by omega)
section
variable {R : Int} {L : List Ch} (o : OkL R L)
include o
theorem wb_tot : ((wbF (rowsF R L) (st0 R) : Int) : Rat) = sumN (plsW L wI).we L.length := by
  rw [wbF, wbP_W, wbW_st0, rowsF_len, sR_rows (fun c hc => ⟨(o.c c hc).r0, (o.c c hc).r1⟩)]
  rfl
theorem sumN_ge {f : Nat → Rat} : ∀ {n : Nat}, (∀ i, i < n → 1 ≤ f i) → 1 ≤ n → 1 ≤ sumN f n
  | 0, _, h => by omega
  | n + 1, h, _ => by
    have a := sumN_nonneg (f := f) (n := n) fun i hi => by have := h i (by omega); grind
    have b := h n (by omega)
    simp only [sumN]; grind
theorem wb_pos : 0 < ((wbF (rowsF R L) (st0 R) : Int) : Rat) := by
  rw [wb_tot o]
  have : 1 ≤ sumN (plsW L wI).we L.length := sumN_ge o (fun i hi => by
    have := (o.c L[i] (List.getElem_mem hi)).w1
    simp only [plsW, cL_eq hi, wI]
    exact_mod_cast this) o.n1
  grind
end
def bestT (R : Int) (L : List Ch) : List (Int × Rat) := chain (rowsF R L) (rem (rowsF R L) (st0 R) + 1) (st0 R)
theorem best_ok {R : Int} {L : List Ch} (o : OkL R L) : OkP (R, bestT R L, 0) := by
  have s0 := st0_mem (rowsF_len R L)
  obtain ⟨T, t1, t2, t3, _, _⟩ := chain_ok o _ (st0 R) s0 (Nat.lt_succ_self _)
  have rl := rem_le (rowsF_b o) (st0 R)
  refine ⟨o.r1, o.r5, ?_, fun t ht => ?_, Rat.le_refl, (show (0 : Rat) ≤ 1000000000000 by decide +kernel), sm0.mono (by decide)⟩
  · show (bestT R L).length ≤ 60
    rw [bestT, t1, List.length_map]; omega
  · have ht : t ∈ bestT R L := ht
    rw [bestT, t1] at ht
    obtain ⟨i, hi, rfl⟩ := List.mem_map.mp ht
    have h1 := (t3 i hi).1
    have oc := o.c L[i] (List.getElem_mem h1)
    rw [cL_eq h1]
    have f1 := oc.f1
    have f2 := oc.f2
    exact ⟨oc.r0, oc.r1, by show (0 : Rat) < _; grind, Rat.le_trans f2 (by decide +kernel), oc.sm.mono (by decide)⟩
end WR

namespace WR
open PySem PySem.Spec PyProof.Rows L2
/-! ### the law's own mean -/
def tnL (L : List Ch) (T : List Nat) : List (Int × Rat) := T.map fun i => ((cL L i).1, (cL L i).2.1)
theorem near_iff {L : List Ch} {w : Rat × Int → Rat} {j i : Nat} : (plsW L w).near j i = true ↔ ((cL L i).1 = (cL L j).1 ∧ (cL L i).2.1 ≤ (cL L j).2.1) :=
  ⟨fun h => ⟨of_decide_eq_true (Bool.and_eq_true_iff.mp h).1, of_decide_eq_true (Bool.and_eq_true_iff.mp h).2⟩, fun h => Bool.and_eq_true_iff.mpr ⟨decide_eq_true h.1, decide_eq_true h.2⟩⟩
theorem wk_pls {L : List Ch} (w : Rat × Int → Rat) (T : List Nat) (m : Nat) : ∀ k i, T.length - i < k → wk 0 (tnL L T) (cL L m).1 (cL L m).2.1 k i = ((plsW L w).wk (T.drop i) m).map fun x => bs 0 (tnL L T) i + x
  | 0, i, h => by omega
  | k + 1, i, h => by
    unfold wk
    by_cases q : i < T.length
    · have e1 : (tnL L T)[i]? = some ((cL L T[i]).1, (cL L T[i]).2.1) := by simp [tnL, q]
      have e2 : (tnL L T).getD i (0, 0) = ((cL L T[i]).1, (cL L T[i]).2.1) := getD_of e1
      rw [e1, List.drop_eq_getElem_cons q]
      simp only [Pls.wk]
      have nr : (plsW L w).near T[i] m = decide ((cL L T[i]).1 = (cL L m).1 ∧ ¬ (cL L T[i]).2.1 < (cL L m).2.1) := by
        refine Bool.eq_iff_iff.mpr (near_iff.trans ?_)
        rw [decide_eq_true_iff, Rat.not_lt]
        exact ⟨fun ⟨a, b⟩ => ⟨a.symm, b⟩, fun ⟨a, b⟩ => ⟨a.symm, b⟩⟩
      by_cases c : (cL L T[i]).1 = (cL L m).1 ∧ ¬ (cL L T[i]).2.1 < (cL L m).2.1
      · rw [if_pos c, nr, decide_eq_true c]; rfl
      · rw [if_neg c, nr, decide_eq_false c, wk_pls w T m k (i + 1) (by omega)]
        have ed : (plsW L w).di T[i] = (cL L T[i]).2.1 := rfl
        cases (plsW L w).wk (T.drop (i + 1)) m with
        | none => rfl
        | some x =>
          simp only [Option.map, bs, e2, ed, Bool.false_eq_true, if_false]
          congr 1
          grind
    · have e1 : (tnL L T)[i]? = none := List.getElem?_eq_none (by simp [tnL]; omega)
      rw [e1, List.drop_eq_nil_of_le (by omega)]
      rfl
theorem wkd_pls {R : Int} {L : List Ch} (w : Rat × Int → Rat) (T : List Nat) (m : Nat) : wkd (R, tnL L T, 0) (cL L m).1 (cL L m).2.1 = (plsW L w).wk T m := by
  have := wk_pls (L := L) w T m (T.length + 1) 0 (by omega)
  unfold wkd
  simp only [tnL, List.length_map]
  simp only [tnL] at this
  rw [this]
  simp only [List.drop_zero, bs]
  cases (plsW L w).wk T m with
  | none => rfl
  | some x => simp only [Option.map]; congr 1; grind
theorem wk_f {R : Int} {L : List Ch} (o : OkL R L) (w : Rat × Int → Rat) {m : Nat} (hm : m < L.length) : ∀ (T : List Nat), (∀ j ∈ T, j < L.length) → ∀ x, (plsW L w).wk T m = some x → Fr8 (60 * T.length + 30) x
  | [], _, x, h => by simp [Pls.wk] at h
  | j :: T, hT, x, h => by
    simp only [Pls.wk] at h
    have fm : Fr8 30 (cL L m).2.1 := by
      rw [cL_eq hm]
      have oc := o.c L[m] (List.getElem_mem hm)
      exact ⟨oc.f8, by have := oc.f1; grind, oc.f2⟩
    split at h
    · cases h
      exact fm.mono (by simp)
    · cases e : (plsW L w).wk T m with
      | none => rw [e] at h; cases h
      | some y =>
        rw [e] at h
        cases h
        have hj := hT j (by simp)
        have fj : Fr8 30 (cL L j).2.1 := by
          rw [cL_eq hj]
          have oc := o.c L[j] (List.getElem_mem hj)
          exact ⟨oc.f8, by have := oc.f1; grind, oc.f2⟩
        have f1 := wk_f o w hm T (fun k hk => hT k (by simp [hk])) y e
        have f2 := fj.add fj
        have : 2 * (plsW L w).di j = (cL L j).2.1 + (cL L j).2.1 := by show 2 * (cL L j).2.1 = _; grind
        rw [this]
        exact (f2.add f1).mono (by simp; omega)
def swN (L : List Ch) : Nat → Int
  | 0 => 0
  | i + 1 => swN L i + (cL L i).2.2
theorem swN_b {R : Int} {L : List Ch} (o : OkL R L) : ∀ i, i ≤ L.length → 0 ≤ swN L i ∧ swN L i ≤ 999 * i ∧ (1 ≤ i → 1 ≤ swN L i)
  | 0, _ => by simp [swN]
  | i + 1, h => by
    obtain ⟨a, b, _⟩ := swN_b o i (by omega)
    have oc := o.c L[i] (by simp)
    have := oc.w1
    have := oc.w2
    simp only [swN, cL_eq (show i < L.length by omega)]
    omega
theorem swN_sum (L : List Ch) : ∀ i, ((swN L i : Int) : Rat) = sumN (plsW L wI).we i
  | 0 => rfl
  | i + 1 => by simp only [swN, sumN]; rw [Rat.intCast_add, swN_sum L i]; rfl
def mwN (L : List Ch) (T : List Nat) : Nat → Rat
  | 0 => 0
  | i + 1 => mwN L T i + ((plsW L wI).wk T i).getD 0 * (((cL L i).2.2 : Int) : Rat)
theorem mwN_tot {L : List Ch} {T : List Nat} (c : (plsW L wI).Cov (fun _ => false) T) : mwN L T L.length = (plsW L wI).tot (fun _ => false) T := by
  rw [Pls.tot_wk T c]
  have : ∀ n, mwN L T n = sumN (fun i => if (fun _ : Nat => false) i = true then 0 else (plsW L wI).we i * ((plsW L wI).wk T i).getD 0) n := by
    intro n
    induction n with
    | zero => rfl
    | succ n ih =>
      simp only [mwN, sumN, ih]
      congr 1
      simp [plsW, wI, Rat.mul_comm]
  exact this _
end WR

namespace WR
open PySem PySem.Spec PyProof.Rows L2
/-! ### all orders -/
def extO (n : Nat) (row : List Nat) : List (List Nat) := ((List.range n).filter fun j => !(row.any fun k => k == j)).map fun j => row ++ [j]
def ordF (n : Nat) : Nat → List (List Nat)
  | 0 => [[]]
  | k + 1 => (ordF n k).flatMap (extO n)
def enR (row : List Nat) : PV := .tup (row.map fun j => .int (j : Nat))
theorem extO_len (n : Nat) (row : List Nat) : (extO n row).length ≤ n := by
  unfold extO
  rw [List.length_map]
  have := List.length_filter_le (fun j => !(row.any fun k => k == j)) (List.range n)
  simpa using this
theorem flat_len {n : Nat} (l : List (List Nat)) : (l.flatMap (extO n)).length ≤ n * l.length := by
  induction l with
  | nil => simp
  | cons x l ih => rw [List.flatMap_cons, List.length_append, List.length_cons, Nat.mul_succ]; have := extO_len n x; omega
theorem ordF_len (n : Nat) : ∀ k, (ordF n k).length ≤ n ^ k
  | 0 => by simp [ordF]
  | k + 1 => by
    have a := ordF_len n k
    have b := flat_len (n := n) (ordF n k)
    rw [Nat.pow_succ, Nat.mul_comm]
    exact Nat.le_trans b (Nat.mul_le_mul_left n a)
theorem ordF_b {n k : Nat} (hn : n ≤ 5) (hk : k ≤ 5) : (ordF n k).length ≤ 3125 := by
  have a := ordF_len n k
  have b : n ^ k ≤ 5 ^ 5 := Nat.le_trans (Nat.pow_le_pow_left hn k) (Nat.pow_le_pow_right (by decide) hk)
  omega
theorem ordF_mem {n : Nat} : ∀ {k : Nat} {row : List Nat}, row ∈ ordF n k ↔ row.length = k ∧ row.Nodup ∧ ∀ x ∈ row, x < n
  | 0, row => by
    simp only [ordF, List.mem_singleton]
    constructor
    · rintro rfl; simp
    · rintro ⟨h, _⟩; exact List.length_eq_zero_iff.mp h
  | k + 1, row => by
    simp only [ordF, List.mem_flatMap, extO, List.mem_map, List.mem_filter, List.mem_range]
    constructor
    · rintro ⟨pre, h1, j, ⟨hj, hn⟩, rfl⟩
      obtain ⟨a, b, c⟩ := ordF_mem.mp h1
      have nj : j ∉ pre := fun z => by
        have : (pre.any fun k => k == j) = true := List.any_eq_true.mpr ⟨j, z, by simp⟩
        rw [this] at hn; cases hn
      refine ⟨by simp [a], ?_, fun x hx => ?_⟩
      · rw [List.nodup_append]
        refine ⟨b, by simp, fun x hx y hy => ?_⟩
        rw [List.mem_singleton.mp hy]
        intro z; exact nj (z ▸ hx)
      · rcases List.mem_append.mp hx with hx | hx
        · exact c x hx
        · rw [List.mem_singleton.mp hx]; exact hj
    · rintro ⟨h1, h2, h3⟩
      have ne : row ≠ [] := fun z => by rw [z] at h1; cases h1
      have e : row = row.dropLast ++ [row.getLast ne] := (List.dropLast_concat_getLast ne).symm
      rw [e] at h2
      obtain ⟨n1, _, n3⟩ := List.nodup_append.mp h2
      refine ⟨row.dropLast, ordF_mem.mpr ⟨by simp [h1], n1, fun x hx => h3 x ((List.dropLast_sublist _).mem hx)⟩, row.getLast ne, ⟨h3 _ (List.getLast_mem ne), ?_⟩, e.symm⟩
      cases q : row.dropLast.any fun k => k == row.getLast ne with
      | false => rfl
      | true =>
        obtain ⟨x, hx, hx2⟩ := List.any_eq_true.mp q
        exact absurd (eq_of_beq hx2) (n3 x hx _ (by simp))
theorem all_ints (Q : PV → Bool) (h : ∀ k, Q (.int k) = true) (row : List Nat) : (row.map fun j => PV.int (j : Nat)).all Q = true := by
  rw [List.all_eq_true]
  intro y hy
  obtain ⟨k, _, rfl⟩ := List.mem_map.mp hy
  exact h _
theorem any_ints (Q : PV → Bool) (j : Nat) (h : ∀ k, Q (.int k) = (k == (j : Int))) (row : List Nat) : (row.map fun j => PV.int (j : Nat)).any Q = row.any fun k => k == j := by
  induction row with
  | nil => rfl
  | cons k row ih =>
    rw [List.map_cons, List.any_cons, List.any_cons, ih, h]
    have e : (((k : Nat) : Int) == (j : Int)) = (k == j) := by
      by_cases q : k = j
      · subst q; rw [beq_self_eq_true, beq_self_eq_true]
      · have : ¬ ((k : Nat) : Int) = (j : Int) := by omega
        rw [beq_eq_false_iff_ne.mpr this, beq_eq_false_iff_ne.mpr q]
    rw [e]
theorem in_row (j : Nat) (row : List Nat) (h : IH) : pInB (.int (j : Nat)) (enR row) h = some (row.any fun k => k == j) := by
  unfold enR pInB
  simp only
  rw [if_pos (all_ints _ (fun _ => rfl) row), any_ints _ j (fun _ => rfl) row]
end WR

namespace WR
open PySem PySem.Spec PyProof.Rows L2
/-! ### rows of 0 and 1 -/
def kb (B : List Bool) : List Int := B.map fun b => if b then 1 else 0
def DB (B : List Bool) (i : Nat) : Bool := B.getD i false
def goB (L : List Ch) (B : List Bool) (j : Nat) : List Bool := (List.range L.length).map fun i => (plsW L wI).go (DB B) j i
theorem goB_len (L : List Ch) (B : List Bool) (j : Nat) : (goB L B j).length = L.length := by simp [goB]
theorem goB_at {L : List Ch} {B : List Bool} {j i : Nat} (hi : i < L.length) : DB (goB L B j) i = (plsW L wI).go (DB B) j i := by
  unfold DB goB
  rw [getD_of (x := (plsW L wI).go (DB B) j i)]
  · rfl
  · rw [List.getElem?_map, List.getElem?_range hi]; rfl
theorem kb_inj : ∀ {A B : List Bool}, kb A = kb B → A = B
  | [], [], _ => rfl
  | [], _ :: _, h => by cases h
  | _ :: _, [], h => by cases h
  | a :: A, b :: B, h => by
    unfold kb at h
    rw [List.map_cons, List.map_cons, List.cons.injEq] at h
    have : a = b := by
      have := h.1
      cases a <;> cases b <;> simp_all
    rw [this, kb_inj h.2]
theorem kb_at {B : List Bool} {i : Nat} (hi : i < B.length) : ((kb B).map PV.int)[i]? = some (.int (if DB B i then 1 else 0)) := by
  unfold kb DB
  rw [List.map_map, List.getElem?_map, List.getElem?_eq_getElem hi, getD_of (List.getElem?_eq_getElem hi)]
  rfl
theorem x_rngC {L : List Ch} {i : Nat} {r : Fm} {h : IH} (e : r[i]? = some (some (chs L))) (l : L.length ≤ 8) : eRange1 (aCons (eB pLen (aCons (eVar i) aNil)) aNil) r h = .ok (itRange 0 L.length) h := by
  have q := x_cons (A := eB pLen (aCons (eVar i) aNil)) (L := aNil) (r := r) (h := h) (x_b (x_cons (x_var e) x_nil) p_lenT) x_nil
  rw [List.length_map] at q
  unfold eRange1
  rw [q]
  have k1 : rngOk (L.length : Int) = true := decide_eq_true (by omega)
  simp only [bind_ok, k1, if_true, Int.toNat_natCast]
theorem lturn_eq {R : Int} {L : List Ch} (o : OkL R L) {B : List Bool} (hB : B.length = L.length) {j : Nat} (hj : j < L.length) (h : IH) : ∃ t, f__law_turn [chs L, .key (kb B), .int j] h = .ok (.key (kb (goB L B j))) (h ++ t) := by
  have n8 := o.n8
  suffices q : ∃ v h1, f__law_turn [chs L, .key (kb B), .int j] h = .ok v h1 ∧ (v = .key (kb (goB L B j)) ∧ Pre h h1) by
    obtain ⟨v, h1, e, rfl, t, rfl⟩ := q
    exact ⟨t, e⟩
  have at_ : ∀ i, i < L.length → (L.map che)[((i : Nat) : Int).toNat]? = some (che (cL L i)) := fun i hi => by
    rw [Int.toNat_natCast, List.getElem?_map, List.getElem?_eq_getElem hi, cL_eq hi]; rfl
  have oj := o.c L[j] (by simp)
  refine w_fn rfl ?_
  unfold b__law_turn
  refine w_seq (w_asg (x_op (x_var rfl) (x_var rfl) (p_idxT (by omega) (at_ j hj))) rfl ?_)
  refine w_seq (w_set (x_lst x_nil (by simp)) ?_)
  refine w_seq (w_for L.length (fun i r g => ∃ x7 x8, r = [some (chs L), some (.key (kb B)), some (.int (j : Nat)), some (.int (cL L j).1), some (fq (cL L j).2.1), some (.int (cL L j).2.2), some (.obj h.length), x7, x8] ∧ Pre h g ∧ g[h.length]? = some (.lst ((kb ((goB L B j).take i)).map .int))) (it := itRange 0 L.length) (h1 := h ++ [.lst []]) ?_ (by omega) ⟨_, _, rfl, .of _ _, gl⟩ ?_ ?_)
  · exact x_rngC rfl n8
  · rintro i r g hi ⟨x7, x8, rfl, p, G⟩
    refine ⟨.int (0 + (i : Nat)), _, by simp [hi], rfl, ?_⟩
    rw [Int.zero_add]
    have oi := o.c L[i] (by simp)
    have ls := lless_eq (a := (cL L j).2.1) (b := (cL L i).2.1) (by rw [cL_eq hj]; exact oj.sm) (by rw [cL_eq hi]; exact oi.sm) (by decide) g
    have ix : pIdx (chs L) (.int (i : Nat)) g = .ok (che (cL L i)) g := p_idxT (by omega) (at_ i hi)
    have nr : eAnd (eOp pEq (eOp pIdx (eOp pIdx (eVar 0) (eVar 7)) (eC (.int 0))) (eVar 3)) (eNot (eCall f__law_under (aCons (eVar 4) (aCons (eOp pIdx (eOp pIdx (eVar 0) (eVar 7)) (eC (.int 1))) aNil)))) [some (chs L), some (.key (kb B)), some (.int (j : Nat)), some (.int (cL L j).1), some (fq (cL L j).2.1), some (.int (cL L j).2.2), some (.obj h.length), some (.int (i : Nat)), x8] g = .ok (.bl ((plsW L wI).near j i)) g := by
      have a1 : eOp pEq (eOp pIdx (eOp pIdx (eVar 0) (eVar 7)) (eC (.int 0))) (eVar 3) [some (chs L), some (.key (kb B)), some (.int (j : Nat)), some (.int (cL L j).1), some (fq (cL L j).2.1), some (.int (cL L j).2.2), some (.obj h.length), some (.int (i : Nat)), x8] g = .ok (.bl ((cL L i).1 == (cL L j).1)) g := x_op (x_op (x_op (x_var rfl) (x_var rfl) ix) x_c (p_idxT (v := .int (cL L i).1) (by decide) rfl)) (x_var rfl) (p_eq (eqB_int _ _ _))
      have a2 : eCall f__law_under (aCons (eVar 4) (aCons (eOp pIdx (eOp pIdx (eVar 0) (eVar 7)) (eC (.int 1))) aNil)) [some (chs L), some (.key (kb B)), some (.int (j : Nat)), some (.int (cL L j).1), some (fq (cL L j).2.1), some (.int (cL L j).2.2), some (.obj h.length), some (.int (i : Nat)), x8] g = .ok (.bl (decide ((cL L j).2.1 < (cL L i).2.1))) g := x_call (x_cons (x_var rfl) (x_cons (x_op (x_op (x_var rfl) (x_var rfl) ix) x_c (p_idxT (v := fq (cL L i).2.1) (by decide) rfl)) x_nil)) ls
      unfold eAnd
      rw [a1]
      simp only [bind_ok]
      by_cases q : (cL L i).1 = (cL L j).1
      · rw [beq_iff_eq.mpr q, if_pos rfl]
        unfold eNot
        rw [a2]
        simp only [bind_ok, pTru, Option.map, opt]
        congr 2
        refine Bool.eq_iff_iff.mpr (Iff.trans ?_ near_iff.symm)
        rw [Bool.not_eq_true', decide_eq_false_iff_not, Rat.not_lt]
        exact ⟨fun z => ⟨q, z⟩, fun z => z.2⟩
      · rw [beq_eq_false_iff_ne.mpr q, if_neg (by simp)]
        congr 2
        refine (Bool.eq_false_iff.mpr fun z => q (near_iff.mp z).1).symm
    refine w_seq (w_set nr ?_)
    have val : ∀ g : IH, eIf (tTru (eVar 8)) (eC (.int 1)) (eOp pIdx (eF (eVar 1)) (eVar 7)) [some (chs L), some (.key (kb B)), some (.int (j : Nat)), some (.int (cL L j).1), some (fq (cL L j).2.1), some (.int (cL L j).2.2), some (.obj h.length), some (.int (i : Nat)), some (.bl ((plsW L wI).near j i))] g = .ok (.int (if (plsW L wI).go (DB B) j i then 1 else 0)) g := fun g => by
      refine x_if (t_tru (x_var rfl) rfl) (fun q => ?_) (fun q => ?_)
      · rw [show (plsW L wI).go (DB B) j i = true by simp [Pls.go, q], if_pos rfl]; rfl
      · rw [show (plsW L wI).go (DB B) j i = DB B i by simp [Pls.go, q]]
        exact x_op (x_f (x_var rfl)) (x_var rfl) (p_idxT (by omega) (by rw [Int.toNat_natCast]; exact kb_at (by omega)))
    refine w_expr (x_app (x_var rfl) G (x_cons (val _) x_nil) G (by simp [kb, goB]; omega)) ⟨_, _, rfl, p.set _ (Nat.le_refl _), ?_⟩
    rw [get_set_eq G]
    have e1 : (goB L B j).take (i + 1) = (goB L B j).take i ++ [(plsW L wI).go (DB B) j i] := by
      rw [List.take_add_one]
      congr 1
      unfold goB
      rw [List.getElem?_map, List.getElem?_range hi]; rfl
    rw [e1]
    simp [kb]
  · rintro r g ⟨x7, x8, rfl, p, G⟩
    rw [List.take_of_length_le (by rw [goB_len]; exact Nat.le_refl _)] at G
    refine ⟨by simp, w_ret (x_b (x_cons (x_var rfl) x_nil) (v := .key (kb (goB L B j))) (h2 := g) ?_) ⟨rfl, p⟩⟩
    simp only [pTuple1K, G, keyOf_ints]
/-! ### few of them -/
def allB : Nat → List (List Bool)
  | 0 => [[]]
  | n + 1 => (allB n).map (false :: ·) ++ (allB n).map (true :: ·)
theorem allB_len : ∀ n, (allB n).length = 2 ^ n
  | 0 => rfl
  | n + 1 => by simp only [allB, List.length_append, List.length_map, allB_len n, Nat.pow_succ]; omega
theorem allB_mem : ∀ {n : Nat} {B : List Bool}, B.length = n → B ∈ allB n
  | 0, [], _ => by simp [allB]
  | n + 1, b :: B, h => by
    have := allB_mem (n := n) (B := B) (by simpa using h)
    cases b
    · exact List.mem_append_left _ (List.mem_map.mpr ⟨B, this, rfl⟩)
    · exact List.mem_append_right _ (List.mem_map.mpr ⟨B, this, rfl⟩)
theorem nd_le {α : Type} [DecidableEq α] : ∀ {l m : List α}, l.Nodup → (∀ x ∈ l, x ∈ m) → l.length ≤ m.length
  | [], _, _, _ => by simp
  | x :: l, m, nd, h => by
    obtain ⟨n1, n2⟩ := List.nodup_cons.mp nd
    have hm := h x (by simp)
    have ih := nd_le (l := l) (m := m.erase x) n2 fun y hy => (List.mem_erase_of_ne (fun z => n1 (by rw [← z]; exact hy))).mpr (h y (by simp [hy]))
    have := List.length_erase_of_mem hm
    have p := List.length_pos_of_mem hm
    simp only [List.length_cons]; omega
theorem few {n : Nat} (hn : n ≤ 8) {F : List (List Bool)} (nd : F.Nodup) (hl : ∀ B ∈ F, B.length = n) : F.length ≤ 256 := by
  have a := nd_le nd fun B hB => allB_mem (hl B hB)
  rw [allB_len] at a
  have : 2 ^ n ≤ 2 ^ 8 := Nat.pow_le_pow_right (by decide) hn
  omega
theorem EncOk.key : EncOk 1 PV.key fun ks => .tuple (ks.map .int) := by
  refine ⟨fun m h a _ => by cases m <;> rfl, fun a => ?_, fun a => ?_, fun a b => ?_⟩
  · have := canAll (d := PyData.int) a fun i => by simp [PyData.canLay0]
    simp [PyData.canLay0, this]
  · have := depAll (d := PyData.int) (n := 0) a fun i => by simp [PyData.depth]
    simp [PyData.depth]; omega
  · have := eqvAll_map (d := PyData.int) (fun a b => EncOk.int.eqv a b) a b
    simp only [PyData.eqv]
    exact this
end WR

namespace WR
open PySem PySem.Spec PyProof.Rows L2
/-! ### sorted by the sum -/
theorem le_sum {a b : List Int} (h : PySem.W.dataLe false keyD a b = true) : a.sum ≤ b.sum := by
  by_cases q : a.sum ≤ b.sum
  · exact q
  · exfalso
    have al : ∀ xs ys : List Int, PySem.W.alikeAll (xs.map PyData.int) (ys.map PyData.int) = true := by
      intro xs
      induction xs with
      | nil => intro ys; rfl
      | cons x xs ih =>
        intro ys
        cases ys with
        | nil => rfl
        | cons y ys => simp [PySem.W.alikeAll, PySem.W.alike, ih]
    have e : PySem.W.dataLe false keyD a b = !PySem.W.dataLt (keyD b) (keyD a) := rfl
    have ne : PyData.eqv (.int b.sum) (.int a.sum) = false := by
      have z := EncOk.int.eqv b.sum a.sum
      rw [z]
      exact decide_eq_false (by omega)
    rw [e, keyD, keyD, PySem.W.dataLt_pair (by simp [PySem.W.alike]) (by simp [PySem.W.alike, al]), ne, PySem.W.dataLt_int, decide_eq_true (show b.sum < a.sum by omega)] at h
    cases h
theorem sortK_sum (kss : List (List Int)) : (sortK kss).Pairwise fun a b => a.sum ≤ b.sum := (PySem.W.sort_pairwise (PySem.W.sortLe_total _ _ _) kss).imp fun h => le_sum h
theorem sortK_perm (kss : List (List Int)) : (sortK kss).Perm kss := List.mergeSort_perm _ _
def unkb (ks : List Int) : List Bool := ks.map fun k => k == 1
theorem unkb_kb (B : List Bool) : unkb (kb B) = B := by
  unfold unkb kb
  rw [List.map_map]
  conv => rhs; rw [← List.map_id B]
  refine List.map_congr_left fun b _ => ?_
  cases b <;> rfl
theorem keyL_map (kss : List (List Int)) : keyL (kss.map .key) = some kss := by
  induction kss with
  | nil => rfl
  | cons k r ih => simp [keyL, ih]
theorem tabOk_pre {x : Str} {h g : IH} (t : tabOk x h = true) (p : Pre h g) : tabOk x g = true := by
  obtain ⟨u, rfl⟩ := p
  cases h with
  | nil => cases t
  | cons a h => cases a <;> exact t
/-! ### all standings of the law -/
structure Std (L : List Ch) (F : List (List Bool)) : Prop where
  nd : F.Nodup
  len : ∀ B ∈ F, B.length = L.length
  dc : ∀ B ∈ F, (plsW L wI).Dc (DB B)
  has : List.replicate L.length false ∈ F
  pre : ∀ B ∈ F, B = List.replicate L.length false ∨ ∃ A ∈ F, ∃ j, j < L.length ∧ DB A j = false ∧ goB L A j = B
def kF (F : List (List Bool)) : List PV := (F.map kb).map .key
theorem dc_congr {p : Pls} {D E : Nat → Bool} (e : ∀ i, i < p.n → D i = E i) (d : p.Dc D) : p.Dc E := fun i j hi hj h1 h2 => by
  rw [← e i hi]; exact d i j hi hj (by rw [e j hj]; exact h1) h2
theorem Std.add {L : List Ch} {F : List (List Bool)} (s : Std L F) {B : List Bool} (hB : B ∈ F) {j : Nat} (hn : goB L B j ∉ F) (hj : j < L.length) (hd : DB B j = false) : Std L (F ++ [goB L B j]) := by
  refine ⟨?_, fun C hC => ?_, fun C hC => ?_, List.mem_append_left _ s.has, fun C hC => ?_⟩
  · rw [List.nodup_append]
    refine ⟨s.nd, by simp, fun a ha b hb => ?_⟩
    rw [List.mem_singleton.mp hb]
    intro z; exact hn (z ▸ ha)
  · rcases List.mem_append.mp hC with hC | hC
    · exact s.len C hC
    · rw [List.mem_singleton.mp hC]; exact goB_len L B j
  · rcases List.mem_append.mp hC with hC | hC
    · exact s.dc C hC
    · rw [List.mem_singleton.mp hC]
      exact dc_congr (fun i hi => (goB_at hi).symm) ((s.dc B hB).go j)
  · rcases List.mem_append.mp hC with hC | hC
    · rcases s.pre C hC with z | ⟨A, a1, k, a2, a3, a4⟩
      · exact .inl z
      · exact .inr ⟨A, List.mem_append_left _ a1, k, a2, a3, a4⟩
    · exact .inr ⟨B, List.mem_append_left _ hB, j, hj, hd, (List.mem_singleton.mp hC).symm⟩
theorem in_kF {L : List Ch} {F : List (List Bool)} {B : List Bool} {k : Nat} {h : IH} (e : h[k]? = some (.lst (kF F))) : pInB (.key (kb B)) (.obj k) h = some (decide (B ∈ F)) := by
  have q := EncOk.key.in_obj (by decide) (kb B) (k := k) (xs := F.map kb) (h := h) e
  rw [q]
  congr 1
  refine decide_eq_decide.mpr ⟨fun z => ?_, fun z => List.mem_map.mpr ⟨B, z, rfl⟩⟩
  obtain ⟨C, hC, eC⟩ := List.mem_map.mp z
  rw [← kb_inj eC]; exact hC
theorem kF_at {F : List (List Bool)} {i : Nat} (hi : i < F.length) : (kF F)[((i : Nat) : Int).toNat]? = some (.key (kb F[i])) := by
  unfold kF
  rw [Int.toNat_natCast, List.getElem?_map, List.getElem?_map, List.getElem?_eq_getElem hi]; rfl
theorem standings_eq {R : Int} {L : List Ch} (o : OkL R L) {h : IH} (tb : tabOk "_law_standings" h = true) : ∃ m t S, f__law_standings [chs L] h = .ok (.obj m) (h ++ t) ∧ (h ++ t)[m]? = some (.lst (kF S)) ∧ Std L S ∧ (∀ B ∈ S, ∀ j, j < L.length → DB B j = false → goB L B j ∈ S) ∧ S.Pairwise fun A B => (kb A).sum ≤ (kb B).sum := by
  have n8 := o.n8
  have n1 := o.n1
  suffices q : ∃ v h1, f__law_standings [chs L] h = .ok v h1 ∧ (∃ m S, v = .obj m ∧ Pre h h1 ∧ h1[m]? = some (.lst (kF S)) ∧ Std L S ∧ (∀ B ∈ S, ∀ j, j < L.length → DB B j = false → goB L B j ∈ S) ∧ S.Pairwise fun A B => (kb A).sum ≤ (kb B).sum) by
    obtain ⟨v, h1, e, m, S, rfl, ⟨t, rfl⟩, q⟩ := q
    exact ⟨m, t, S, e, q⟩
  refine w_fn rfl ?_
  unfold b__law_standings
  have k0 : st0 (L.length : Int) = kb (List.replicate L.length false) := by simp [st0, kb]
  refine w_seq (w_set (x_op (x_key (x_cons x_c x_nil) rfl (by decide)) (x_b (x_cons (x_var rfl) x_nil) p_lenT) (by rw [List.length_map]; exact p_mulK (by omega) (by omega) _)) ?_)
  rw [k0]
  refine w_seq (w_par (x_cons (x_lst (x_cons (x_var rfl) x_nil) (by simp)) (x_cons x_c x_nil)) ?_)
  have std0 : Std L [List.replicate L.length false] := by
    refine ⟨by simp, fun B hB => by rw [List.mem_singleton.mp hB]; simp, fun B hB => ?_, by simp, fun B hB => .inl (List.mem_singleton.mp hB)⟩
    rw [List.mem_singleton.mp hB]
    intro i j hi hj h1 h2
    have : DB (List.replicate L.length false) j = false := by
      unfold DB
      simp only [List.getD_eq_getElem?_getD, List.getElem?_replicate]
      split <;> rfl
    rw [this] at h1; cases h1
  refine w_seq (w_while 257 (fun i r g => ∃ F at_ x4 x5, i + at_ = 257 ∧ at_ ≤ F.length ∧ Std L F ∧ (∀ k, (hk : k < F.length) → k < at_ → ∀ j, j < L.length → DB F[k] j = false → goB L F[k] j ∈ F) ∧ r = [some (chs L), some (.key (kb (List.replicate L.length false))), some (.obj h.length), some (.int (at_ : Nat)), x4, x5] ∧ Pre h g ∧ g[h.length]? = some (.lst (kF F))) (by omega) ⟨[List.replicate L.length false], 0, none, none, by omega, by simp, std0, fun k hk h0 => by omega, rfl, .of _ _, gl⟩ ?_)
  rintro i r g ⟨F, at_, x4, x5, hi, ha, sF, cF, rfl, p, G⟩
  have fl := few n8 sF.nd sF.len
  have gl' : pLen [.obj h.length] g = .ok (.int F.length) g := by
    have := p_lenL G
    rwa [show (kF F).length = F.length by simp [kF]] at this
  refine ⟨decide ((at_ : Int) < (F.length : Int)), g, t_bl (x_op (x_var rfl) (x_b (x_cons (x_var rfl) x_nil) gl') rfl), fun q => ?_, fun q => ?_⟩
  · have q := of_decide_eq_true q
    have hat : at_ < F.length := by omega
    refine ⟨i - 1, by omega, ?_⟩
    generalize hB : F[at_] = B
    have mB : B ∈ F := by rw [← hB]; exact List.getElem_mem hat
    have lB := sF.len B mB
    refine w_seq (w_for L.length (fun j r g => ∃ more x4 x5, r = [some (chs L), some (.key (kb (List.replicate L.length false))), some (.obj h.length), some (.int (at_ : Nat)), x4, x5] ∧ Std L (F ++ more) ∧ (∀ j', j' < j → DB B j' = false → goB L B j' ∈ F ++ more) ∧ Pre h g ∧ g[h.length]? = some (.lst (kF (F ++ more)))) (it := itRange 0 L.length) (h1 := g) (x_rngC rfl n8) (by omega) ⟨[], _, _, rfl, by rw [List.append_nil]; exact sF, fun j' hj' => by omega, p, by rw [List.append_nil]; exact G⟩ ?_ ?_)
    · rintro j r g hj ⟨more, x4, x5, rfl, sM, cM, p, G⟩
      have fl2 := few n8 sM.nd sM.len
      have mB2 : B ∈ F ++ more := List.mem_append_left _ mB
      have atF : (kF (F ++ more))[((at_ : Nat) : Int).toNat]? = some (.key (kb B)) := by
        rw [kF_at (show at_ < (F ++ more).length by simp; omega), List.getElem_append_left hat, hB]
      obtain ⟨t, lt⟩ := lturn_eq o lB hj g
      refine ⟨.int (0 + (j : Nat)), _, by simp [hj], rfl, ?_⟩
      rw [Int.zero_add]
      refine w_seq (w_set (x_call (x_cons (x_var rfl) (x_cons (x_op (x_var rfl) (x_var rfl) (p_idxL G (by omega) atF)) (x_cons (x_var rfl) x_nil))) lt) ?_)
      have G2 : (g ++ t)[h.length]? = some (.lst (kF (F ++ more))) := get_old G
      have bt : eOp pEq (eOp pIdx (eF (eOp pIdx (eVar 2) (eVar 3))) (eVar 4)) (eC (.int 0)) [some (chs L), some (.key (kb (List.replicate L.length false))), some (.obj h.length), some (.int (at_ : Nat)), some (.int (j : Nat)), some (.key (kb (goB L B j)))] (g ++ t) = .ok (.bl (!DB B j)) (g ++ t) := by
        refine x_op (x_op (x_f (x_op (x_var rfl) (x_var rfl) (p_idxL G2 (by omega) atF))) (x_var rfl) (p_idxT (by omega) (by rw [Int.toNat_natCast]; exact kb_at (by omega)))) x_c (p_eq ?_)
        rw [eqB_int]
        cases DB B j <;> rfl
      refine w_if (b := !DB B j && !decide (goB L B j ∈ F ++ more)) (t_and (t_bl bt) (fun z => ?_) (fun z => ⟨by rw [z]; rfl, rfl⟩)) (fun z => ?_) (fun z => ?_)
      · rw [z, Bool.true_and]
        exact t_bl (x_op (x_var rfl) (x_var rfl) (p_notin (in_kF (L := L) G2)))
      · obtain ⟨z1, z2⟩ := Bool.and_eq_true_iff.mp z
        have nm : goB L B j ∉ F ++ more := by simpa using z2
        have sA := sM.add mB2 nm hj (by simpa using z1)
        refine w_expr (x_app (x_var rfl) G2 (x_cons (x_var rfl) x_nil) G2 (by simp [kF] at fl2 ⊢; omega)) ⟨more ++ [goB L B j], _, _, rfl, by rw [← List.append_assoc]; exact sA, fun j' hj' hd => ?_, (p.app _).set _ (Nat.le_refl _), ?_⟩
        · rw [← List.append_assoc]
          by_cases e : j' = j
          · subst e; simp
          · exact List.mem_append_left _ (cM j' (by omega) hd)
        · rw [get_set_eq G2, ← List.append_assoc]
          simp [kF]
      · refine w_nil ⟨more, _, _, rfl, sM, fun j' hj' hd => ?_, p.app _, G2⟩
        by_cases e : j' = j
        · subst e
          rw [hd, Bool.not_false, Bool.true_and] at z
          rw [Bool.not_eq_false'] at z
          exact of_decide_eq_true z
        · exact cM j' (by omega) hd
    · rintro r g ⟨more, x4, x5, rfl, sM, cM, p, G⟩
      refine ⟨by simp, w_set (x_op (x_var rfl) x_c p_addI) ⟨F ++ more, at_ + 1, _, _, by omega, by simp; omega, sM, fun k hk hk2 j hj hd => ?_, rfl, p, G⟩⟩
      by_cases e : k = at_
      · subst e
        have e2 : (F ++ more)[k] = B := by rw [List.getElem_append_left hat, hB]
        rw [e2] at hd ⊢
        exact cM j hj hd
      · have hk3 : k < F.length := by omega
        have e2 : (F ++ more)[k] = F[k] := List.getElem_append_left hk3
        rw [e2] at hd ⊢
        exact List.mem_append_left _ (cF k hk3 (by omega) j hj hd)
  · have q := of_decide_eq_false q
    have hat : at_ = F.length := by omega
    have tg := tabOk_pre tb p
    have pm : ((sortK (F.map kb)).map unkb).Perm F := by
      have := (sortK_perm (F.map kb)).map unkb
      have e : (F.map kb).map unkb = F := by
        rw [List.map_map]
        conv => rhs; rw [← List.map_id F]
        exact List.map_congr_left fun B _ => unkb_kb B
      rwa [e] at this
    have km : ((sortK (F.map kb)).map unkb).map kb = sortK (F.map kb) := by
      rw [List.map_map]
      conv => rhs; rw [← List.map_id (sortK (F.map kb))]
      refine List.map_congr_left fun ks hks => ?_
      obtain ⟨B, _, rfl⟩ := List.mem_map.mp ((sortK_perm _).mem_iff.mp hks)
      simp only [Function.comp, unkb_kb, id]
    refine w_ret (v := .obj g.length) (h1 := g ++ [.lst (kF ((sortK (F.map kb)).map unkb))]) ?_ ⟨_, (sortK (F.map kb)).map unkb, rfl, p.app _, gl, ?_, fun B hB j hj hd => ?_, ?_⟩
    · show eSortK "_law_standings" (eVar 2) [some (chs L), some (.key (kb (List.replicate L.length false))), some (.obj h.length), some (.int (at_ : Nat)), x4, x5] g = _
      unfold eSortK
      rw [x_var rfl]
      simp only [bind_ok, G, kF, keyL_map, tg, if_true, km]
    · exact ⟨pm.nodup_iff.mpr sF.nd, fun B hB => sF.len B (pm.mem_iff.mp hB), fun B hB => sF.dc B (pm.mem_iff.mp hB), pm.mem_iff.mpr sF.has, fun B hB => by
        rcases sF.pre B (pm.mem_iff.mp hB) with z | ⟨A, a1, k, a2, a3, a4⟩
        · exact .inl z
        · exact .inr ⟨A, pm.mem_iff.mpr a1, k, a2, a3, a4⟩⟩
    · have mB := pm.mem_iff.mp hB
      obtain ⟨k, hk, rfl⟩ := List.getElem_of_mem mB
      exact pm.mem_iff.mpr (cF k hk (by omega) j hj hd)
    · have z := sortK_sum (F.map kb)
      rw [← km] at z
      exact List.Pairwise.imp (fun h => h) ((List.pairwise_map (f := kb) (R := fun a b : List Int => a.sum ≤ b.sum)).mp z)
end WR

namespace WR
open PySem PySem.Spec PyProof.Rows L2
/-! ### sizes -/
structure Frd (D V : Nat) (q : Rat) : Prop where
  d : Dn D q
  p : 0 ≤ q
  u : q ≤ (V : Rat)
theorem Frd.add {D V W : Nat} {a b : Rat} (f : Frd D V a) (g : Frd D W b) : Frd D (V + W) (a + b) := ⟨f.d.add g.d, by have := f.p; have := g.p; grind, by have := f.u; have := g.u; rw [Rat.natCast_add]; grind⟩
theorem Frd.mono {D V W : Nat} {a : Rat} (f : Frd D V a) (h : V ≤ W) : Frd D W a := ⟨f.d, f.p, Rat.le_trans f.u (by exact_mod_cast h)⟩
theorem Frd.zero (D : Nat) : Frd D 0 0 := ⟨⟨0, by simp⟩, Rat.le_refl, Rat.le_refl⟩
theorem Frd.mul {D E V W : Nat} {a b : Rat} (f : Frd D V a) (g : Frd E W b) : Frd (D * E) (V * W) (a * b) := by
  refine ⟨f.d.mul g.d, Rat.mul_nonneg f.p g.p, ?_⟩
  rw [Rat.natCast_mul]
  exact Rat.le_trans (Rat.mul_le_mul_of_nonneg_left g.u f.p) (Rat.mul_le_mul_of_nonneg_right f.u (Rat.le_trans g.p g.u))
theorem Frd.sm {E V : Nat} {q : Rat} (f : Frd (8 * E) V q) (e0 : 0 < E) (e1 : E < 2 ^ 1000) (hv : V < 2 ^ 30) : Sm 1040 q := by
  have a : 8 * E < 2 ^ 1003 := by
    rw [show (2 : Nat) ^ 1003 = 8 * 2 ^ 1000 by rw [show (1003 : Nat) = 3 + 1000 from rfl, Nat.pow_add]]
    exact Nat.mul_lt_mul_of_pos_left e1 (by decide)
  have b : V * (8 * E) < 2 ^ (30 + 1003) := by rw [Nat.pow_add]; exact Nat.mul_lt_mul'' hv a
  exact sm_of f.d (by omega) f.p f.u (Nat.lt_of_lt_of_le b (Nat.pow_le_pow_right (by decide) (by decide))) (Nat.lt_of_lt_of_le a (Nat.pow_le_pow_right (by decide) (by decide)))
theorem sumN_frd {D V : Nat} {f : Nat → Rat} : ∀ {n : Nat}, (∀ i, i < n → Frd D V (f i)) → Frd D (V * n) (sumN f n)
  | 0, _ => (Frd.zero D).mono (by omega)
  | n + 1, h => by
    have a := sumN_frd (n := n) fun i hi => h i (by omega)
    exact (a.add (h n (by omega))).mono (by rw [Nat.mul_succ]; exact Nat.le_refl _)
structure WOk (E : Nat) (L : List Ch) (w : Rat × Int → Rat) : Prop where
  e0 : 0 < E
  e1 : E < 2 ^ 1000
  f : ∀ i, i < L.length → Frd E 999 ((plsW L w).we i)
section
variable {R : Int} {L : List Ch} (o : OkL R L) {E : Nat} {w : Rat × Int → Rat} (W : WOk E L w)
include o W
theorem wls_ok : (plsW L w).Ok := ⟨(pls_ok o).di, fun i hi => (W.f i hi).p⟩
omit W in
theorem di_frd {i : Nat} (hi : i < L.length) : Frd 8 30 ((plsW L w).di i) := by
  show Frd 8 30 (cL L i).2.1
  rw [cL_eq hi]
  have oc := o.c L[i] (List.getElem_mem hi)
  exact ⟨oc.f8, by have := oc.f1; grind, oc.f2⟩
theorem c2_frd {i j : Nat} (hi : i < L.length) (hj : j < L.length) : Frd (8 * E) 60000 (2 * (plsW L w).di j * (plsW L w).we i) := by
  have a := di_frd o (w := w) hj
  have b := (a.add a).mul (W.f i hi)
  have e : 2 * (plsW L w).di j * (plsW L w).we i = ((plsW L w).di j + (plsW L w).di j) * (plsW L w).we i := by grind
  rw [e]
  exact b.mono (by decide)
theorem c1_frd {i : Nat} (hi : i < L.length) : Frd (8 * E) 60000 ((plsW L w).di i * (plsW L w).we i) := ((di_frd o (w := w) hi).mul (W.f i hi)).mono (by decide)
theorem cost_frd (D : Nat → Bool) {j : Nat} (hj : j < L.length) : Frd (8 * E) 480000 ((plsW L w).cost D j) := by
  have n8 := o.n8
  have := sumN_frd (D := 8 * E) (V := 60000) (n := L.length) (f := fun i => if (plsW L w).go D j i then (if D i then 0 else (plsW L w).di i * (plsW L w).we i) else 2 * (plsW L w).di j * (plsW L w).we i) fun i hi => by
    split
    · split
      · exact (Frd.zero _).mono (by decide)
      · exact c1_frd o W hi
    · exact c2_frd o W hi hj
  exact this.mono (by omega)
theorem tot_frd : ∀ (T : List Nat) (D : Nat → Bool), (∀ j ∈ T, j < L.length) → Frd (8 * E) (480000 * T.length) ((plsW L w).tot D T)
  | [], _, _ => (Frd.zero _).mono (by omega)
  | j :: T, D, h => ((cost_frd o W D (h j (by simp))).add (tot_frd T _ fun k hk => h k (by simp [hk]))).mono (by simp; omega)
theorem opt_frd {D : Nat → Bool} {v : Rat} (q : (plsW L w).Opt D v) : Frd (8 * E) 3840000 v := by
  obtain ⟨_, T, t1, t2, _, rfl⟩ := q
  have n8 := o.n8
  have l : T.length ≤ L.length := by
    have := nd_le (m := List.range L.length) t1 fun x hx => List.mem_range.mpr (t2 x hx).1
    simpa using this
  exact (tot_frd o W T D fun j hj => (t2 j hj).1).mono (by omega)
end
/-! ### the value of a standing -/
open Classical in
noncomputable def optV (p : Pls) (D : Nat → Bool) : Rat := if h : ∃ v, p.Opt D v then Classical.choose h else 0
theorem optV_eq {p : Pls} {D : Nat → Bool} {v : Rat} (h : p.Opt D v) : optV p D = v := by
  unfold optV
  rw [dif_pos ⟨v, h⟩]
  exact (Classical.choose_spec (⟨v, h⟩ : ∃ v, p.Opt D v)).uniq h
theorem optV_ok {p : Pls} {D : Nat → Bool} {v : Rat} (h : p.Opt D v) : p.Opt D (optV p D) := by rw [optV_eq h]; exact h
theorem ahead_le {α : Type} {f : α → Int} {E : List α} (p : E.Pairwise fun a b => f b ≤ f a) {i : Nat} (hi : i < E.length) {b : α} (hb : b ∈ E) (h : f E[i] < f b) : b ∈ E.take i := by
  obtain ⟨k, hk, rfl⟩ := List.getElem_of_mem hb
  by_cases q : k < i
  · exact List.mem_take_iff_getElem.mpr ⟨k, by omega, rfl⟩
  · exfalso
    by_cases e : k = i
    · subst e; omega
    · have := List.pairwise_iff_getElem.mp p i k hi hk (by omega)
      omega
theorem sum_le_of : ∀ {A B : List Bool}, A.length = B.length → (∀ i, i < A.length → DB A i = true → DB B i = true) → (kb A).sum ≤ (kb B).sum ∧ ((∃ i, i < A.length ∧ DB A i = false ∧ DB B i = true) → (kb A).sum < (kb B).sum)
  | [], [], _, _ => ⟨by simp [kb], fun ⟨i, hi, _⟩ => by simp at hi⟩
  | [], _ :: _, h, _ => by cases h
  | _ :: _, [], h, _ => by cases h
  | a :: A, b :: B, hl, h => by
    have ih := sum_le_of (A := A) (B := B) (by simpa using hl) fun i hi hd => h (i + 1) (by simpa using hi) hd
    have h0 := h 0 (by simp)
    simp only [DB, List.getD_cons_zero] at h0
    have e1 : (kb (a :: A)).sum = (if a then 1 else 0) + (kb A).sum := by simp [kb]
    have e2 : (kb (b :: B)).sum = (if b then 1 else 0) + (kb B).sum := by simp [kb]
    have h1 : (if a = true then (1 : Int) else 0) ≤ (if b = true then 1 else 0) := by
      cases a with
      | false => cases b <;> simp
      | true => rw [h0 rfl]; exact Int.le_refl _
    rw [e1, e2]
    refine ⟨by have := ih.1; omega, fun ⟨i, hi, d1, d2⟩ => ?_⟩
    cases i with
    | zero =>
      simp only [DB, List.getD_cons_zero] at d1 d2
      rw [d1, d2]
      have := ih.1
      simp; omega
    | succ i =>
      have := ih.2 ⟨i, by simpa using hi, d1, d2⟩
      omega
theorem goB_sum {L : List Ch} {B : List Bool} (hl : B.length = L.length) {j : Nat} (hj : j < L.length) (hd : DB B j = false) : (kb B).sum < (kb (goB L B j)).sum := by
  refine (sum_le_of (by rw [goB_len]; exact hl) fun i hi h => ?_).2 ⟨j, by omega, hd, ?_⟩
  · rw [goB_at (by omega)]; exact Pls.go_le j h
  · rw [goB_at hj]; exact Pls.go_self _ _
def wList (L : List Ch) (w : Rat × Int → Rat) : List PV := (List.range L.length).map fun i => fq ((plsW L w).we i)
def trm (p : Pls) (D : Nat → Bool) (j i : Nat) : Rat := if p.go D j i then (if D i then 0 else p.di i * p.we i) else 2 * p.di j * p.we i
theorem least_law {R : Int} {L : List Ch} (o : OkL R L) {E : Nat} {w : Rat × Int → Rat} (W : WOk E L w) {h : IH} (tb : tabOk "_law_standings" h = true) {wn : Nat} (hw : h[wn]? = some (.lst (wList L w))) :
    ∃ v t, f__law_least [chs L, .obj wn] h = .ok (fq v) (h ++ t) ∧ (plsW L w).Opt (fun _ => false) v := by
  have n8 := o.n8
  have n1 := o.n1
  have pok := wls_ok o W
  generalize hp : plsW L w = p at *
  have pn : p.n = L.length := by rw [← hp]; rfl
  suffices q : ∃ v h1, f__law_least [chs L, .obj wn] h = .ok v h1 ∧ (∃ q, v = fq q ∧ Pre h h1 ∧ p.Opt (fun _ => false) q) by
    obtain ⟨v, h1, e, q, rfl, ⟨t, rfl⟩, z⟩ := q
    exact ⟨q, t, e, z⟩
  obtain ⟨m, t, S, c1, c2, c3, c4, c5⟩ := standings_eq o (h := h ++ [.dct []]) (tabOk_pre tb (.of _ _))
  have fl := few n8 c3.nd c3.len
  have srt : S.reverse.Pairwise fun a b => (kb b).sum ≤ (kb a).sum := List.pairwise_reverse.mpr c5
  have wAt : ∀ i, i < L.length → (wList L w)[((i : Nat) : Int).toNat]? = some (fq (p.we i)) := fun i hi => by
    unfold wList
    rw [Int.toNat_natCast, List.getElem?_map, List.getElem?_range hi, hp]; rfl
  have cAt : ∀ i, i < L.length → (L.map che)[((i : Nat) : Int).toNat]? = some (che (cL L i)) := fun i hi => by
    rw [Int.toNat_natCast, List.getElem?_map, List.getElem?_eq_getElem hi, cL_eq hi]; rfl
  have dcl : ∀ i, p.di i = (cL L i).2.1 := fun i => by rw [← hp]; rfl
  have goEq : ∀ (B : List Bool) (j i : Nat), i < L.length → DB (goB L B j) i = p.go (DB B) j i := fun B j i hi => by rw [goB_at hi, ← hp]; rfl
  have pPre : Pre h (h ++ [.dct []] ++ t) := (Pre.of _ _).app _
  generalize hk : h ++ [.dct []] ++ t = k at *
  refine w_fn rfl ?_
  unfold b__law_least
  refine w_seq (w_set (v := .obj h.length) (h1 := h ++ [.dct []]) rfl ?_)
  have kS : (k ++ [.lst (kF S.reverse)])[k.length]? = some (.lst (kF S.reverse)) := gl
  have dk : k[h.length]? = some (.dct []) := by rw [← hk]; exact get_old gl
  have dk2 : (k ++ [.lst (kF S.reverse)])[h.length]? = some (.dct []) := get_old dk
  refine w_seq (w_for S.reverse.length (fun i r g => ∃ x3 x4 x5 x6 x7 x8 x9 x10 x11 kvs, r = [some (chs L), some (.obj wn), some (.obj h.length), x3, x4, x5, x6, x7, x8, x9, x10, x11] ∧ Pre h g ∧ g[k.length]? = some (.lst (kF S.reverse)) ∧ g[h.length]? = some (.dct kvs) ∧ kvs.length ≤ i ∧ ∀ B ∈ S.reverse.take i, dGet kvs (kb B) = some (fq (optV p (DB B))) ∧ p.Opt (DB B) (optV p (DB B))) (it := itObj k.length) (h1 := k ++ [.lst (kF S.reverse)]) ?_ (by simp; omega) ⟨_, _, _, _, _, _, _, _, _, [], rfl, pPre.app _, kS, dk2, by simp, by simp⟩ ?_ ?_)
  · have q : eRevL (eCall f__law_standings (aCons (eVar 0) aNil)) [some (chs L), some (.obj wn), some (.obj h.length), none, none, none, none, none, none, none, none, none] (h ++ [.dct []]) = .ok (.obj k.length) (k ++ [.lst (kF S.reverse)]) := by
      unfold eRevL
      rw [x_call (x_cons (x_var rfl) x_nil) c1]
      simp only [bind_ok, c2]
      simp [kF]
    show eIter _ [some (chs L), some (.obj wn), some (.obj h.length), none, none, none, none, none, none, none, none, none] _ = _
    unfold eIter
    rw [q]
    simp only [bind_ok, kS]
  · rintro i r g hi ⟨x3, x4, x5, x6, x7, x8, x9, x10, x11, kvs, rfl, pg, Gk, Gd, kl, hd⟩
    generalize hB : S.reverse[i] = B
    have mB' : B ∈ S.reverse := by rw [← hB]; exact List.getElem_mem hi
    have mB : B ∈ S := List.mem_reverse.mp mB'
    have lB := c3.len B mB
    have look : ∀ j, j < L.length → DB B j = false → dGet kvs (kb (goB L B j)) = some (fq (optV p (DB (goB L B j)))) ∧ p.Opt (p.go (DB B) j) (optV p (DB (goB L B j))) := fun j hj hdj => by
      have z := hd _ (ahead_le (f := fun B => (kb B).sum) srt hi (List.mem_reverse.mpr (c4 B mB j hj hdj)) (by rw [hB]; exact goB_sum lB hj hdj))
      exact ⟨z.1, z.2.congr fun m hm => goEq B j m (by omega)⟩
    have Wf : ∀ {v : Rat} {D : Nat → Bool}, p.Opt D v → Frd (8 * E) 3840000 v := fun {v D} q => opt_frd o W (by rw [hp]; exact q)
    refine ⟨.key (kb B), _, ?_, rfl, ?_⟩
    · simp only [itObj, Gk]
      have := kF_at hi
      rw [Int.toNat_natCast, hB] at this
      rw [this]
    have gh := pg.le
    refine w_seq (w_set (x_lst x_nil (by simp)) ?_)
    have bitAt : ∀ (i : Nat) (C : List Bool) (r : Fm) (a b : Nat) (g : IH), i < L.length → C.length = L.length → r[a]? = some (some (.key (kb C))) → r[b]? = some (some (.int (i : Nat))) → tBl (eOp pEq (eOp pIdx (eF (eVar a)) (eVar b)) (eC (.int 0))) r g = .ok (!DB C i) g := fun i C r a b g hi hC ra rb => by
      refine t_bl (x_op (x_op (x_f (x_var ra)) (x_var rb) (p_idxT (by omega) (by rw [Int.toNat_natCast]; exact kb_at (by omega)))) x_c (p_eq ?_))
      rw [eqB_int]
      cases DB C i <;> rfl
    refine w_seq (w_for L.length (fun j r g2 => ∃ x5 x6 x7 x8 x9, r = [some (chs L), some (.obj wn), some (.obj h.length), some (.key (kb B)), some (.obj g.length), x5, x6, x7, x8, x9, x10, x11] ∧ Pre g g2 ∧ g2[g.length]? = some (.lst ((((List.range j).filter fun j => !DB B j).map fun j => optV p (DB (goB L B j)) + p.cost (DB B) j).map fq))) (it := itRange 0 L.length) (h1 := g ++ [.lst []]) (x_rngC rfl n8) (by omega) ⟨_, _, _, _, _, rfl, .of _ _, gl⟩ ?_ ?_)
    · rintro j r g2 hj ⟨x5, x6, x7, x8, x9, rfl, p2, G2⟩
      refine ⟨.int (0 + (j : Nat)), _, by simp [hj], rfl, ?_⟩
      rw [Int.zero_add]
      have rs1 : (List.range (j + 1)).filter (fun j => !DB B j) = (List.range j).filter (fun j => !DB B j) ++ if DB B j = false then [j] else [] := by
        rw [List.range_succ, List.filter_append]
        cases q : DB B j with
        | false => simp [q]
        | true => simp [q]
      refine w_if (bitAt j B _ 3 5 g2 hj lB rfl rfl) (fun z => ?_) (fun z => ?_)
      · have hdj : DB B j = false := by cases q : DB B j <;> simp_all
        obtain ⟨l1, l2⟩ := look j hj hdj
        obtain ⟨t2, lt⟩ := lturn_eq o lB hj g2
        have Gd2 : (g2 ++ t2)[h.length]? = some (.dct kvs) := get_old (p2.get Gd)
        have Gw2 : (g2 ++ t2)[wn]? = some (.lst (wList L w)) := get_old (p2.get (pg.get hw))
        have ix : ∀ (i : Nat) (hi : i < L.length) (g : IH), pIdx (chs L) (.int (i : Nat)) g = .ok (che (cL L i)) g := fun i hi g => p_idxT (by omega) (cAt i hi)
        refine w_seq (w_par (x_cons (x_call (x_cons (x_var rfl) (x_cons (x_var rfl) (x_cons (x_var rfl) x_nil))) lt) (x_cons (x_op (x_op (x_var rfl) (x_var rfl) (ix j hj _)) x_c (p_idxT (v := fq (cL L j).2.1) (by decide) rfl)) x_nil)) ?_)
        refine w_seq (w_set (x_op (x_var rfl) (x_var rfl) (p_dget Gd2 l1)) ?_)
        have lC := goB_len L B j
        have f0 := Wf l2
        have dj : p.di j = (cL L j).2.1 := dcl j
        have sdj : Sm 10 (cL L j).2.1 := by rw [cL_eq hj]; exact (o.c L[j] (List.getElem_mem hj)).sm
        have part : ∀ n, n ≤ L.length → Frd (8 * E) (3840000 + 60000 * n) (optV p (DB (goB L B j)) + sumN (trm p (DB B) j) n) := fun n hn => by
          refine f0.add (sumN_frd fun i hi => ?_)
          unfold trm
          rw [← hp]
          split
          · split
            · exact (Frd.zero _).mono (by decide)
            · exact c1_frd o W (by omega)
          · exact c2_frd o W (by omega) hj
        refine w_seq (w_for L.length (fun n r g3 => ∃ x9, r = [some (chs L), some (.obj wn), some (.obj h.length), some (.key (kb B)), some (.obj g.length), some (.int (j : Nat)), some (.key (kb (goB L B j))), some (fq (cL L j).2.1), some (fq (optV p (DB (goB L B j)) + sumN (trm p (DB B) j) n)), x9, x10, x11] ∧ g3 = g2 ++ t2) (it := itRange 0 L.length) (h1 := g2 ++ t2) (x_rngC rfl n8) (by omega) ⟨_, by simp only [sumN, Rat.add_zero]; rfl, rfl⟩ ?_ ?_)
        · rintro n r g3 hn ⟨x9, rfl, rfl⟩
          refine ⟨.int (0 + (n : Nat)), _, by simp [hn], rfl, ?_⟩
          rw [Int.zero_add]
          have sp : Sm 1040 (optV p (DB (goB L B j)) + sumN (trm p (DB B) j) n) := (part n (by omega)).sm W.e0 W.e1 (Nat.lt_of_le_of_lt (show 3840000 + 60000 * n ≤ 5000000 by omega) (by decide))
          have wix : pIdx (.obj wn) (.int (n : Nat)) (g2 ++ t2) = .ok (fq (p.we n)) (g2 ++ t2) := p_idxL Gw2 (by omega) (wAt n hn)
          have wS : Sm 1040 (p.we n) := by
            have := W.f n hn
            rw [hp] at this
            exact (show Frd (8 * E) 999 (p.we n) from ⟨by rw [Nat.mul_comm]; exact this.d.more 8, this.p, this.u⟩).sm W.e0 W.e1 (by decide)
          have sdn : Sm 10 (cL L n).2.1 := by rw [cL_eq hn]; exact (o.c L[n] (List.getElem_mem hn)).sm
          have ts : sumN (trm p (DB B) j) (n + 1) = sumN (trm p (DB B) j) n + trm p (DB B) j n := rfl
          refine w_if (bitAt n (goB L B j) _ 6 9 _ hn lC rfl rfl) (fun z => ?_) (fun z => ?_)
          · have hg : p.go (DB B) j n = false := by rw [← goEq B j n hn]; cases q : DB (goB L B j) n <;> simp_all
            have te : trm p (DB B) j n = 2 * (cL L j).2.1 * p.we n := by unfold trm; rw [hg, if_neg (by simp), dj]
            refine w_set (x_call (x_cons (x_var rfl) (x_cons (x_call (x_cons (x_call (x_cons (x_tup (x_cons x_c (x_cons x_c x_nil)) (show 2 ≤ 16777216 by decide)) (x_cons (x_var rfl) x_nil)) (by rw [fq_two]; exact ltimes_eq sm2 sdj (by decide) _)) (x_cons (x_op (x_var rfl) (x_var rfl) wix) x_nil)) (ltimes_eq (sm2.mul sdj) wS (by decide) _)) x_nil)) (lplus_eq sp ((sm2.mul sdj).mul wS) (by decide) _)) ⟨some (.int (n : Nat)), ?_, rfl⟩
            rw [ts, te, ← Rat.add_assoc]
            rfl
          · have hg : p.go (DB B) j n = true := by rw [← goEq B j n hn]; cases q : DB (goB L B j) n <;> simp_all
            refine w_if (bitAt n B _ 3 9 _ hn lB rfl rfl) (fun z => ?_) (fun z => ?_)
            · have hg2 : DB B n = false := by cases q : DB B n <;> simp_all
              have te : trm p (DB B) j n = (cL L n).2.1 * p.we n := by unfold trm; rw [hg, if_pos rfl, hg2, if_neg (by simp), dcl]
              refine w_set (x_call (x_cons (x_var rfl) (x_cons (x_call (x_cons (x_op (x_op (x_var rfl) (x_var rfl) (ix n hn _)) x_c (p_idxT (v := fq (cL L n).2.1) (by decide) rfl)) (x_cons (x_op (x_var rfl) (x_var rfl) wix) x_nil)) (ltimes_eq sdn wS (by decide) _)) x_nil)) (lplus_eq sp (sdn.mul wS) (by decide) _)) ⟨some (.int (n : Nat)), ?_, rfl⟩
              rw [ts, te, ← Rat.add_assoc]
              rfl
            · have hg2 : DB B n = true := by cases q : DB B n <;> simp_all
              have te : trm p (DB B) j n = 0 := by unfold trm; rw [hg, if_pos rfl, hg2, if_pos rfl]
              refine w_nil ⟨some (.int (n : Nat)), ?_, rfl⟩
              rw [ts, te, Rat.add_zero]
              rfl
        · rintro r g3 ⟨x9, rfl, rfl⟩
          have sc : sumN (trm p (DB B) j) L.length = p.cost (DB B) j := by rw [← pn]; rfl
          rw [sc]
          refine ⟨by simp, w_expr (x_app (x_var rfl) (get_old G2) (x_cons (x_var rfl) x_nil) (get_old G2) ?_) ⟨_, _, _, _, _, rfl, (p2.app _).set _ (Nat.le_refl _), ?_⟩⟩
          · have := List.length_filter_le (fun j => !DB B j) (List.range j)
            simp at this ⊢; omega
          · rw [get_set_eq (get_old G2), rs1, if_pos hdj]
            simp
      · have hdj : DB B j = true := by cases q : DB B j <;> simp_all
        refine w_nil ⟨_, _, _, _, _, rfl, p2, ?_⟩
        rw [rs1, if_neg (by simp [hdj]), List.append_nil]
        exact G2
    · rintro r g2 ⟨x5, x6, x7, x8, x9, rfl, p2, G2⟩
      refine ⟨by simp, ?_⟩
      generalize hU : (List.range L.length).filter (fun j => !DB B j) = U at *
      have uM : ∀ j, j ∈ U ↔ j < L.length ∧ DB B j = false := fun j => by rw [← hU]; simp
      have Gd2 : g2[h.length]? = some (.dct kvs) := p2.get Gd
      have vF : ∀ j ∈ U, Sm 1040 (optV p (DB (goB L B j)) + p.cost (DB B) j) := fun j hj => by
        obtain ⟨a1, a2⟩ := (uM j).mp hj
        have c := cost_frd o W (DB B) a1
        rw [hp] at c
        exact ((Wf (look j a1 a2).2).add c).sm W.e0 W.e1 (by decide)
      generalize hQ : (U.map fun j => optV p (DB (goB L B j)) + p.cost (DB B) j) = Q at *
      have qS : ∀ x ∈ Q, Sm 1040 x := fun x hx => by
        rw [← hQ] at hx
        obtain ⟨j, hj, rfl⟩ := List.mem_map.mp hx
        exact vF j hj
      have ql : Q.length ≤ 8 := by
        rw [← hQ, List.length_map, ← hU]
        have := List.length_filter_le (fun j => !DB B j) (List.range L.length)
        simp at this; omega
      have eqQ : pEqB (.obj g.length) (.obj g2.length) (g2 ++ [.lst []]) = some (decide (Q = [])) := EncOk.rat.obj (by decide) (xs := Q) (ys := []) (get_old G2) gl
      have tst : tBl (eOp pNe (eVar 4) (eLst aNil)) [some (chs L), some (.obj wn), some (.obj h.length), some (.key (kb B)), some (.obj g.length), x5, x6, x7, x8, x9, x10, x11] g2 = .ok (!decide (Q = [])) (g2 ++ [.lst []]) := t_bl (x_op (x_var rfl) (x_lst x_nil (by simp)) (p_ne eqQ))
      have s0 : Sm 1040 (Q.headD 0) := by
        cases Q with
        | nil => exact sm0.mono (by decide)
        | cons a r => exact qS a (by simp)
      refine w_seq (w_set (v := fq (Q.headD 0)) (h1 := g2 ++ [.lst []]) (x_if tst (fun z => ?_) (fun z => ?_)) ?_)
      · cases Q with
        | nil => simp at z
        | cons a r => exact x_op (x_var rfl) x_c (p_idxL (get_old G2) (by decide) rfl)
      · cases Q with
        | nil => exact x_tup (x_cons x_c (x_cons x_c x_nil)) (show 2 ≤ 16777216 by decide)
        | cons a r => simp at z
      have G3 : (g2 ++ [.lst []])[g.length]? = some (.lst (Q.map fq)) := get_old G2
      refine w_seq (w_for Q.length (fun n r g3 => ∃ x11, r = [some (chs L), some (.obj wn), some (.obj h.length), some (.key (kb B)), some (.obj g.length), x5, x6, x7, x8, x9, some (fq ((Q.take n).foldl (fun a b => if b < a then b else a) (Q.headD 0))), x11] ∧ g3 = g2 ++ [.lst []]) (it := itObj g.length) (h1 := g2 ++ [.lst []]) ?_ (by omega) ⟨_, rfl, rfl⟩ ?_ ?_)
      · show eIter (eVar 4) [some (chs L), some (.obj wn), some (.obj h.length), some (.key (kb B)), some (.obj g.length), x5, x6, x7, x8, x9, some (fq (Q.headD 0)), x11] _ = _
        unfold eIter
        rw [x_var rfl]
        simp only [bind_ok, G3]
      · rintro n r g3 hn ⟨x11, rfl, rfl⟩
        refine ⟨fq Q[n], _, ?_, rfl, ?_⟩
        · simp only [itObj, G3]
          rw [List.getElem?_map, List.getElem?_eq_getElem hn]; rfl
        have sA : Sm 1040 ((Q.take n).foldl (fun a b => if b < a then b else a) (Q.headD 0)) := by
          have key : ∀ (l : List Rat) (a : Rat), Sm 1040 a → (∀ x ∈ l, Sm 1040 x) → Sm 1040 (l.foldl (fun a b => if b < a then b else a) a) := by
            intro l
            induction l with
            | nil => intro a ha _; exact ha
            | cons x l ih =>
              intro a ha hl
              rw [List.foldl_cons]
              refine ih _ ?_ fun y hy => hl y (by simp [hy])
              split
              · exact hl x (by simp)
              · exact ha
          exact key _ _ s0 fun x hx => qS x (List.mem_of_mem_take hx)
        have ls := lless_eq (qS Q[n] (by simp)) sA (by decide) (g2 ++ [.lst []])
        have e7 : Q.take (n + 1) = Q.take n ++ [Q[n]] := by rw [List.take_add_one]; simp [hn]
        refine w_set (v := fq ((Q.take (n + 1)).foldl (fun a b => if b < a then b else a) (Q.headD 0))) (h1 := g2 ++ [.lst []]) (x_if (t_tru (x_call (x_cons (x_var rfl) (x_cons (x_var rfl) x_nil)) ls) rfl) (fun z => ?_) (fun z => ?_)) ⟨_, rfl, rfl⟩
        · rw [e7, List.foldl_append, List.foldl_cons, List.foldl_nil, if_pos (of_decide_eq_true z)]
          exact x_var rfl
        · rw [e7, List.foldl_append, List.foldl_cons, List.foldl_nil, if_neg (of_decide_eq_false z)]
          exact x_var rfl
      · rintro r g3 ⟨x11, rfl, rfl⟩
        rw [List.take_length]
        have val : p.Opt (DB B) (Q.foldl (fun a b => if b < a then b else a) (Q.headD 0)) := by
          have dcB : p.Dc (DB B) := by rw [← hp]; exact c3.dc B mB
          have mn : ∀ (l : List Rat) (a : Rat), (l.foldl (fun a b => if b < a then b else a) a = a ∨ l.foldl (fun a b => if b < a then b else a) a ∈ l) ∧ l.foldl (fun a b => if b < a then b else a) a ≤ a ∧ ∀ x ∈ l, l.foldl (fun a b => if b < a then b else a) a ≤ x := by
            intro l
            induction l with
            | nil => intro a; exact ⟨.inl rfl, Rat.le_refl, by simp⟩
            | cons x l ih =>
              intro a
              rw [List.foldl_cons]
              obtain ⟨i1, i2, i3⟩ := ih (if x < a then x else a)
              by_cases q : x < a
              · rw [if_pos q] at i1 i2 i3 ⊢
                refine ⟨.inr ?_, Rat.le_trans i2 (Rat.le_of_lt q), fun y hy => ?_⟩
                · rcases i1 with i1 | i1
                  · rw [i1]; simp
                  · simp [i1]
                · rcases List.mem_cons.mp hy with rfl | hy
                  · exact i2
                  · exact i3 y hy
              · rw [if_neg q] at i1 i2 i3 ⊢
                refine ⟨?_, i2, fun y hy => ?_⟩
                · rcases i1 with i1 | i1
                  · exact .inl i1
                  · exact .inr (by simp [i1])
                · rcases List.mem_cons.mp hy with rfl | hy
                  · exact Rat.le_trans i2 (Rat.not_lt.mp q)
                  · exact i3 y hy
          obtain ⟨m1, m2, m3⟩ := mn Q (Q.headD 0)
          cases hq : Q with
          | nil =>
            have un : U = [] := by
              rw [hq] at hQ
              exact List.map_eq_nil_iff.mp hQ
            refine Pls.opt_done pok fun i hi => ?_
            cases z : DB B i with
            | true => rfl
            | false =>
              have := (uM i).mpr ⟨by omega, z⟩
              rw [un] at this; simp at this
          | cons a r =>
            rw [hq] at m1 m2 m3
            have m1' : List.foldl (fun a b => if b < a then b else a) ((a :: r).headD 0) (a :: r) ∈ Q := by
              rw [hq]
              rcases m1 with m1 | m1
              · rw [m1]; simp
              · exact m1
            refine Pls.opt_step2 pok dcB (fun j hj hdj => ?_) ?_
            · have mj := (uM j).mpr ⟨by omega, hdj⟩
              refine ⟨_, (look j (by omega) hdj).2, ?_⟩
              have := m3 (optV p (DB (goB L B j)) + p.cost (DB B) j) (by rw [← hq, ← hQ]; exact List.mem_map.mpr ⟨j, mj, rfl⟩)
              grind
            · rw [← hQ] at m1'
              obtain ⟨j, mj, ej⟩ := List.mem_map.mp m1'
              obtain ⟨a1, a2⟩ := (uM j).mp mj
              exact ⟨j, _, by omega, a2, (look j a1 a2).2, by rw [← ej]; grind⟩
        refine ⟨?_, ?_⟩
        · simp only [itObj, G3]
          rw [List.getElem?_eq_none (by simp)]
        have Gd3 : (g2 ++ [.lst []])[h.length]? = some (.dct kvs) := get_old Gd2
        have ne : h.length ≠ k.length := fun z => by have := lt_of_get dk; omega
        refine w_dput (x_var rfl) (x_var rfl) (x_var rfl) Gd3 (by simp at hi; omega) ⟨_, _, _, _, _, _, _, _, _, dPut kvs (kb B) (fq (Q.foldl (fun a b => if b < a then b else a) (Q.headD 0))), rfl, ?_, ?_, get_set_eq Gd3, ?_, fun C hC => ?_⟩
        · exact ((pg.trans p2).app _).set _ (Nat.le_refl _)
        · rw [get_set_ne ne]; exact get_old (p2.get Gk)
        · have := dPut_len kvs (kb B) (fq (Q.foldl (fun a b => if b < a then b else a) (Q.headD 0))); omega
        · by_cases q : C = B
          · subst q
            rw [dGet_put_self, optV_eq val]
            exact ⟨rfl, val⟩
          · rw [dGet_put_ne _ _ (fun z => q (kb_inj z))]
            refine hd C ?_
            have e8 : S.reverse.take (i + 1) = S.reverse.take i ++ [B] := by rw [List.take_add_one, List.getElem?_eq_getElem hi, hB]; rfl
            rw [e8] at hC
            rcases List.mem_append.mp hC with hC | hC
            · exact hC
            · exact absurd (List.mem_singleton.mp hC) q
  · rintro r g ⟨x3, x4, x5, x6, x7, x8, x9, x10, x11, kvs, rfl, pg, Gk, Gd, kl, hd⟩
    refine ⟨?_, ?_⟩
    · simp only [itObj, Gk]
      rw [List.getElem?_eq_none (by simp [kF])]
    rw [List.take_length] at hd
    obtain ⟨z1, z2⟩ := hd _ (List.mem_reverse.mpr c3.has)
    have k0 : st0 (L.length : Int) = kb (List.replicate L.length false) := by simp [st0, kb]
    have mk : pMulK (.key [0]) (.int ((L.map che).length : Nat)) g = .ok (.key (kb (List.replicate L.length false))) g := by
      rw [List.length_map, ← k0]; exact p_mulK (by omega) (by omega) _
    refine w_ret (x_op (x_var rfl) (x_op (x_key (x_cons x_c x_nil) rfl (by decide)) (x_b (x_cons (x_var rfl) x_nil) p_lenT) mk) (p_dget Gd z1)) ⟨_, rfl, pg, z2.congr fun i hi => ?_⟩
    unfold DB
    simp only [List.getD_eq_getElem?_getD, List.getElem?_replicate]
    split <;> rfl
end WR

namespace WR
open PySem PySem.Spec PyProof.Rows L2
/-! ### drawn chances -/
theorem dn_mk8 (n : Int) : Dn 8 (mkRat n (8 : Int).toNat) := ⟨n, by
  rw [show (8 : Int).toNat = 8 from rfl, Rat.mkRat_eq_div]
  exact Rat.div_mul_cancel (by decide)⟩
theorem dn_mk1 (n : Int) : Dn 8 (mkRat n (1 : Int).toNat) := by
  have : mkRat n (1 : Int).toNat = (n : Rat) := by rw [show (1 : Int).toNat = 1 from rfl, Rat.mkRat_eq_div]; simp; grind
  rw [this]
  exact (dn1 n).more 8
structure Far (q : Rat) : Prop where
  a : 1 ≤ q
  b : q ≤ 30
  d : Dn 8 q
theorem far_1 {a : Int} (h0 : 0 ≤ a) (h1 : a < 30) : Far (mkRat (1 + a) (1 : Int).toNat) := ⟨mk_ge (m := 1) (by decide) (by omega), mk_le (m := 30) (by decide) (by omega), dn_mk1 _⟩
theorem far_8 {a : Int} (h0 : 0 ≤ a) (h1 : a < 60) : Far (mkRat (8 + a) (8 : Int).toNat) := ⟨mk_ge (m := 1) (by decide) (by omega), mk_le (m := 30) (by decide) (by omega), dn_mk8 _⟩
theorem in_map2 {L : List Ch} {e : Int × Rat} {k : Nat} {h : IH} (q : h[k]? = some (.lst ((L.map c2).map tq))) : pInB (tq e) (.obj k) h = some (decide (e ∈ L.map c2)) := by
  have z := EncOk.turn.in_obj (by decide) e (k := k) (xs := L.map c2) (h := h) q
  rw [z]
  congr 1
  exact decide_eq_decide.mpr Iff.rfl
theorem chances_draw {hi ci : Nat} {h : IH} (d : DS hi ci h) (R M : Int) (r1 : 1 ≤ R) (r2 : R ≤ 5) (m1 : 1 ≤ M) (m8 : M ≤ 8) :
    ∃ L h', f__law_chances [.obj hi, .int R, .int M] h = .ok (chs L) h' ∧ OkL R L ∧ L.length ≤ M.toNat ∧ DS hi ci h' ∧ Kp hi ci h h' := by
  have lt := d.lt
  suffices q : ∃ v h1, f__law_chances [.obj hi, .int R, .int M] h = .ok v h1 ∧ (∃ L, v = chs L ∧ OkL R L ∧ L.length ≤ M.toNat ∧ DS hi ci h1 ∧ Kp hi ci h h1) by
    obtain ⟨v, h1, e, L, rfl, q⟩ := q
    exact ⟨L, h1, e, q⟩
  refine w_fn rfl ?_
  unfold b__law_chances
  refine w_seq (w_set (x_lst x_nil (by simp)) ?_)
  obtain ⟨r, h1, e1, a1, a2, d1, k1⟩ := draw (d.app [.lst []]) M (by omega) (by omega)
  have g0 : Grow hi ci h h1 [] := ⟨d1, (Kp.app hi ci h _).trans k1, k1.get _ _ (by omega) (by omega) gl⟩
  have rg : eRange1 (aCons (eOp pAdd (eC (.int 1)) (eCall f__law_next (aCons (eVar 0) (aCons (eVar 2) aNil)))) aNil) [some (.obj hi), some (.int R), some (.int M), some (.obj h.length), none, none, none] (h ++ [.lst []]) = .ok (itRange 0 (1 + r).toNat) h1 := by
    have q := x_cons (A := eOp pAdd (eC (.int 1)) (eCall f__law_next (aCons (eVar 0) (aCons (eVar 2) aNil)))) (L := aNil) (r := [some (.obj hi), some (.int R), some (.int M), some (.obj h.length), none, none, none]) (h := h ++ [.lst []]) (x_op x_c (x_call (x_cons (x_var rfl) (x_cons (x_var rfl) x_nil)) e1) p_addI) x_nil
    unfold eRange1
    rw [q]
    have k1 : rngOk (1 + r) = true := decide_eq_true (by omega)
    simp only [bind_ok, k1, if_true]
  refine w_seq (w_for (1 + r).toNat (fun i r g => ∃ (L : List Ch) (x4 x5 x6 : Option PV), r = [some (.obj hi), some (.int R), some (.int M), some (.obj h.length), x4, x5, x6] ∧ Grow hi ci h g (L.map che) ∧ L.length ≤ i ∧ (1 ≤ i → 1 ≤ L.length) ∧ (∀ c ∈ L, OkC R c) ∧ (L.map c2).Nodup) (it := itRange 0 (1 + r).toNat) (h1 := h1) rg (by omega) ⟨[], _, _, _, rfl, g0, by simp, by omega, by simp, by simp⟩ ?_ ?_)
  · rintro i r' g hi' ⟨L, x4, x5, x6, rfl, G, ll, l1, oc, nd⟩
    refine ⟨.int (0 + (i : Nat)), _, by simp [hi'], rfl, ?_⟩
    obtain ⟨p1, g1, c1, c2', c3, c4, c5⟩ := draw G.ds R (by omega) (by omega)
    have G1 := G.draw lt c4 c5
    obtain ⟨p2, g2, f1, f2, f3, f4, f5⟩ := draw G1.ds 30 (by omega) (by omega)
    have G2 := G1.draw lt f4 f5
    have fq1 := lf_eq' (1 + p2) 1 g2 (by omega) (by omega) (by omega)
    refine w_seq (w_set (x_tup (x_cons (x_call (x_cons (x_var rfl) (x_cons (x_var rfl) x_nil)) c1) (x_cons (x_call (x_cons (x_op x_c (x_call (x_cons (x_var rfl) (x_cons x_c x_nil)) f1) p_addI) (x_cons x_c x_nil)) fq1) x_nil)) (show 2 ≤ 16777216 by decide)) ?_)
    obtain ⟨p3, g3, s1, s2, s3, s4, s5⟩ := draw G2.ds 3 (by omega) (by omega)
    have G3 := G2.draw lt s4 s5
    obtain ⟨p4, g4, u1, u2, u3, u4, u5⟩ := draw G3.ds 60 (by omega) (by omega)
    have G4 := G3.draw lt u4 u5
    have fq8 := lf_eq' (8 + p4) 8 g4 (by omega) (by omega) (by omega)
    -- the rest, for any place
    have rest : ∀ (q : Rat) (gg : IH), Far q → Grow hi ci h gg (L.map che) → (sIf (tBl (eOp pNotIn (eVar 5) (eLc (eIter (eVar 3)) (gVar 6) tYesX (eSl (eVar 6) oNone (oSome (eC (.int 2)))) [6]))) (sExpr (eAppend (eVar 3) (aCons (eOp pAdd (eVar 5) (eTup (aCons (eOp pAdd (eC (.int 1)) (eCall f__law_next (aCons (eVar 0) (aCons (eOp pIdx (eLst (aCons (eC (.int 3)) (aCons (eC (.int 999)) aNil))) (eCall f__law_next (aCons (eVar 0) (aCons (eC (.int 2)) aNil)))) aNil)))) aNil))) aNil))) sNil [some (.obj hi), some (.int R), some (.int M), some (.obj h.length), some (.int (0 + (i : Nat))), some (.tup [.int p1, fq q]), x6] gg).Is (fun r g => ∃ (L : List Ch) (x4 x5 x6 : Option PV), r = [some (.obj hi), some (.int R), some (.int M), some (.obj h.length), x4, x5, x6] ∧ Grow hi ci h g (L.map che) ∧ L.length ≤ i + 1 ∧ (1 ≤ i + 1 → 1 ≤ L.length) ∧ (∀ c ∈ L, OkC R c) ∧ (L.map c2).Nodup) (fun v h1 => ∃ L, v = chs L ∧ OkL R L ∧ L.length ≤ M.toNat ∧ DS hi ci h1 ∧ Kp hi ci h h1) := by
      intro q gg F Gg
      obtain ⟨t, le⟩ := lc_all (I := eIter (eVar 3)) (it := itObj h.length) (g := gVar 6) (c := tYesX) (A := eSl (eVar 6) oNone (oSome (eC (.int 2)))) (vs := [6]) (r := [some (.obj hi), some (.int R), some (.int M), some (.obj h.length), some (.int (0 + (i : Nat))), some (.tup [.int p1, fq q]), x6]) (h := gg) (base := gg) (n := L.length) (fun j => tq (c2 (cL L j))) (fun _ => true) (by omega) (by simp [Gg.own])
        (fun j t hj => by
          refine ⟨che (cL L j), _, [], ?_, rfl, by simp, fun _ => ⟨[], ?_⟩⟩
          · simp only [itObj, get_old Gg.own]
            rw [List.getElem?_map, List.getElem?_eq_getElem hj, cL_eq hj]; rfl
          · simp only [List.append_nil]
            exact x_sl (x_var rfl) o_none (o_some x_c) (p_slT (by decide)))
        (fun t => by
          simp only [itObj, get_old Gg.own]
          rw [List.getElem?_eq_none (by simp)])
      have fe : ((List.range L.length).filter fun _ => true).map (fun j => tq (c2 (cL L j))) = (L.map c2).map tq := by
        rw [List.filter_eq_self.mpr (by simp)]
        apply List.ext_getElem
        · simp
        · intro a b c
          simp at b
          simp [cL, b]
      rw [fe] at le
      have inB := in_map2 (L := L) (e := (p1, q)) (k := gg.length) (h := gg ++ .lst ((L.map c2).map tq) :: t) (by simp)
      have Gt : Grow hi ci h (gg ++ .lst ((L.map c2).map tq) :: t) (L.map che) := Gg.draw lt (Gg.ds.app _) (Kp.app _ _ _ _)
      refine w_if (t_bl (x_op (x_var rfl) le (p_notin inB))) (fun z => ?_) (fun z => ?_)
      · have nm : (p1, q) ∉ L.map c2 := by simpa using z
        obtain ⟨b1, k1, v1, v2, v3, v4, v5⟩ := draw (Gt.ds.app [.lst [.int 3, .int 999]]) 2 (by omega) (by omega)
        have kv := v5.get (gg ++ .lst ((L.map c2).map tq) :: t).length (.lst [.int 3, .int 999]) (by have := Gt.ds.lt; omega) (by have := Gt.ds.lt; omega) gl
        have Gk := Gt.draw lt v4 ((Kp.app _ _ _ _).trans v5)
        obtain ⟨bd, bdE, bd1, bd2⟩ : ∃ bd : Int, [PV.int 3, .int 999][b1.toNat]? = some (.int bd) ∧ 1 ≤ bd ∧ bd ≤ 999 := by
          have : b1 = 0 ∨ b1 = 1 := by omega
          rcases this with rfl | rfl
          · exact ⟨3, rfl, by decide, by decide⟩
          · exact ⟨999, rfl, by decide, by decide⟩
        obtain ⟨wt, k2, y1, y2, y3, y4, y5⟩ := draw Gk.ds bd (by omega) (by omega)
        have Gy := Gk.draw lt y4 y5
        have el : eOp pAdd (eVar 5) (eTup (aCons (eOp pAdd (eC (.int 1)) (eCall f__law_next (aCons (eVar 0) (aCons (eOp pIdx (eLst (aCons (eC (.int 3)) (aCons (eC (.int 999)) aNil))) (eCall f__law_next (aCons (eVar 0) (aCons (eC (.int 2)) aNil)))) aNil)))) aNil)) [some (.obj hi), some (.int R), some (.int M), some (.obj h.length), some (.int (0 + (i : Nat))), some (.tup [.int p1, fq q]), x6] (gg ++ .lst ((L.map c2).map tq) :: t) = .ok (che (p1, q, 1 + wt)) k2 :=
          x_op (x_var rfl) (x_tup (x_cons (x_op x_c (x_call (x_cons (x_var rfl) (x_cons (x_op (x_lst (x_cons x_c (x_cons x_c x_nil)) (show 2 ≤ 16777216 by decide)) (x_call (x_cons (x_var rfl) (x_cons x_c x_nil)) v1) (p_idxL kv v2 bdE)) x_nil)) y1) p_addI) x_nil) (show 1 ≤ 16777216 by decide)) (p_addT (show 3 ≤ 16777216 by decide))
        refine w_expr (x_app (x_var rfl) Gt.own (x_cons el x_nil) Gy.own (by simp; omega)) ⟨L ++ [(p1, q, 1 + wt)], _, _, _, rfl, ?_, by simp; omega, by simp, fun c hc => ?_, ?_⟩
        · have := Gy.push (ys := L.map che ++ [che (p1, q, 1 + wt)]) lt
          rw [List.map_append]; exact this
        · rcases List.mem_append.mp hc with hc | hc
          · exact oc c hc
          · rw [List.mem_singleton.mp hc]
            exact ⟨c2', c3, F.a, F.b, F.d, by show 1 ≤ 1 + wt; omega, by show 1 + wt ≤ 999; omega⟩
        · rw [List.map_append, List.nodup_append]
          refine ⟨nd, by simp, fun a ha b hb => ?_⟩
          have hb' : b = (p1, q) := by simpa [c2] using hb
          rw [hb']
          intro z2; exact nm (z2 ▸ ha)
      · have im : (p1, q) ∈ L.map c2 := by simpa using z
        have lp : 1 ≤ L.length := by
          have := List.length_pos_of_mem im
          rw [List.length_map] at this
          omega
        exact w_nil ⟨L, _, _, _, rfl, Gt, by omega, fun _ => lp, oc, nd⟩
    have te := t_bl (x_op (p := pEq) (x_call (f := f__law_next) (x_cons (A := eVar 0) (r := [some (.obj hi), some (.int R), some (.int M), some (.obj h.length), some (.int (0 + (i : Nat))), some (.tup [.int p1, fq (mkRat (1 + p2) (1 : Int).toNat)]), x6]) (h := g2) (x_var rfl) (x_cons (x_c (v := .int 3)) x_nil)) s1) (x_c (v := .int 0)) (p_eq (eqB_int p3 0 g3)))
    refine w_seq (w_if te (fun z => ?_) (fun z => ?_))
    · refine w_set (x_tup (x_cons (x_op (x_var rfl) x_c (p_idxT (v := .int p1) (by decide) rfl)) (x_cons (x_call (x_cons (x_op x_c (x_call (x_cons (x_var rfl) (x_cons x_c x_nil)) u1) p_addI) (x_cons x_c x_nil)) fq8) x_nil)) (show 2 ≤ 16777216 by decide)) ?_
      exact rest _ g4 (far_8 u2 u3) G4
    · exact w_nil (rest _ g3 (far_1 f2 f3) G3)
  · rintro r' g ⟨L, x4, x5, x6, rfl, G, ll, l1, oc, nd⟩
    refine ⟨by simp, w_ret (x_b (x_cons (x_var rfl) x_nil) (v := chs L) (h2 := g) (by simp [G.own, chs])) ⟨L, rfl, ⟨r1, r2, l1 (by omega), by omega, oc, nd⟩, by omega, G.ds, G.kp⟩⟩
end WR

namespace WR
open PySem PySem.Spec PyProof.Rows L2
/-! ### k06 -/
theorem tabOk_of {x : Str} {h : IH} (e : h[0]? = some (.tbl x)) : tabOk x h = true := by
  cases h with
  | nil => cases e
  | cons a h => cases e; simp [tabOk]
theorem wI_ok {R : Int} {L : List Ch} (o : OkL R L) : WOk 1 L wI := by
  refine ⟨by decide, Nat.one_lt_two_pow (by decide), fun i hi => ?_⟩
  have oc := o.c L[i] (List.getElem_mem hi)
  have w1 := oc.w1
  show Frd 1 999 (((cL L i).2.2 : Int) : Rat)
  rw [cL_eq hi]
  exact ⟨dn1 _, int_nn (by omega), int_le oc.w2⟩
theorem aft_mem {p : Pls} : ∀ (T : List Nat) {D : Nat → Bool} {j : Nat}, j ∈ T → p.aft D T j = true
  | k :: T, D, j, h => by
    rcases List.mem_cons.mp h with rfl | h
    · exact Pls.aft_le T (Pls.go_self D _)
    · exact aft_mem T h
theorem cov_all {p : Pls} {T : List Nat} (h : ∀ i, i < p.n → i ∈ T) (D : Nat → Bool) : p.Cov D T := fun i hi => aft_mem T (h i hi)
theorem all_of_nd {n : Nat} {T : List Nat} (nd : T.Nodup) (hl : T.length = n) (h : ∀ x ∈ T, x < n) : ∀ i, i < n → i ∈ T := fun i hi => by
  by_cases q : i ∈ T
  · exact q
  · exfalso
    have := nd_le (l := i :: T) (m := List.range n) (List.nodup_cons.mpr ⟨q, nd⟩) fun x hx => by
      rcases List.mem_cons.mp hx with rfl | hx
      · exact List.mem_range.mpr hi
      · exact List.mem_range.mpr (h x hx)
    simp at this; omega
theorem tot_app {p : Pls} : ∀ (T S : List Nat) (D : Nat → Bool), p.tot D (T ++ S) = p.tot D T + p.tot (p.aft D T) S
  | [], S, D => by simp only [List.nil_append, Pls.tot, Pls.aft]; grind
  | j :: T, S, D => by simp only [List.cons_append, Pls.tot, Pls.aft, tot_app T S]; grind
theorem tot_done {p : Pls} (o : p.Ok) : ∀ (S : List Nat) {D : Nat → Bool}, (∀ i, i < p.n → D i = true) → p.tot D S = 0
  | [], D, _ => rfl
  | j :: S, D, h => by
    have c : p.cost D j = 0 := sumN_zero fun i hi => by rw [Pls.go_le j (h i hi), if_pos rfl, h i hi, if_pos rfl]
    simp only [Pls.tot, c]
    rw [tot_done o S fun i hi => Pls.go_le j (h i hi)]
    grind
/-- an order that has the least -/
theorem opt_order {p : Pls} (o : p.Ok) {v : Rat} (q : p.Opt (fun _ => false) v) : ∃ T : List Nat, T.Nodup ∧ T.length = p.n ∧ (∀ x ∈ T, x < p.n) ∧ p.tot (fun _ => false) T = v := by
  obtain ⟨_, T, t1, t2, t3, t4⟩ := q
  have sf : ((List.range p.n).filter fun i => !(T.any fun k => k == i)).Nodup := List.nodup_range.sublist List.filter_sublist
  have dj : ∀ a ∈ T, ∀ b ∈ (List.range p.n).filter (fun i => !(T.any fun k => k == i)), a ≠ b := fun a ha b hb z => by
    subst z
    have := (List.mem_filter.mp hb).2
    have z : (T.any fun k => k == a) = true := List.any_eq_true.mpr ⟨a, ha, by simp⟩
    rw [z] at this; cases this
  have nd : (T ++ (List.range p.n).filter fun i => !(T.any fun k => k == i)).Nodup := List.nodup_append.mpr ⟨t1, sf, dj⟩
  have lt : ∀ x ∈ T ++ (List.range p.n).filter (fun i => !(T.any fun k => k == i)), x < p.n := fun x hx => by
    rcases List.mem_append.mp hx with hx | hx
    · exact (t2 x hx).1
    · exact List.mem_range.mp (List.mem_filter.mp hx).1
  refine ⟨_, nd, ?_, lt, ?_⟩
  · have a := nd_le (m := List.range p.n) nd fun x hx => List.mem_range.mpr (lt x hx)
    have b := nd_le (l := List.range p.n) (m := T ++ (List.range p.n).filter fun i => !(T.any fun k => k == i)) List.nodup_range fun x hx => by
      by_cases z : x ∈ T
      · exact List.mem_append_left _ z
      · refine List.mem_append_right _ (List.mem_filter.mpr ⟨hx, ?_⟩)
        cases y : T.any fun k => k == x with
        | false => rfl
        | true =>
          obtain ⟨k, k1, k2⟩ := List.any_eq_true.mp y
          exact absurd (eq_of_beq k2 ▸ k1) z
    simp only [List.length_range] at a b
    omega
  · rw [tot_app, t4, tot_done o _ fun i hi => t3 i hi]; grind
/-- the means of rows -/
def meanT (L : List Ch) (T : List Nat) : Rat := (plsW L wI).tot (fun _ => false) T / sumN (plsW L wI).we L.length
theorem row_turns {L : List Ch} (T : List Nat) (hT : ∀ j ∈ T, j < L.length) : tqs (tnL L T) = .tup (T.map fun j => .tup [.int (cL L j).1, fq (cL L j).2.1]) := by
  simp only [tqs, tnL, List.map_map]
  rfl
theorem rowtup_eq {L : List Ch} {T : List Nat} (hT : ∀ j ∈ T, j < L.length) (hl : T.length ≤ 8) {r : Fm} {g : IH} (r4 : r[4]? = some (some (chs L))) (r10 : r[10]? = some (some (enR T))) (rl : r.length = 16) :
    ∃ t, eB pTuple1 (aCons (eLc (eIter (eVar 10)) (gVar 11) tYesX (eSl (eOp pIdx (eVar 4) (eVar 11)) oNone (oSome (eC (.int 2)))) [11]) aNil) r g = .ok (tqs (tnL L T)) (g ++ t) := by
  have w4 : ∀ v, ((wipeF r [11]).set 11 (some v))[4]? = some (some (chs L)) := fun v => by
    simp only [wipeF]
    rw [List.getElem?_set_ne (by decide), List.getElem?_set_ne (by decide)]; exact r4
  have w11 : ∀ v, ((wipeF r [11]).set 11 (some v))[11]? = some (some v) := fun v => by
    simp only [wipeF]
    rw [List.getElem?_set_self (by simp [rl])]
  obtain ⟨t, le⟩ := lc_all (I := eIter (eVar 10)) (it := itList (T.map fun j => .int (j : Nat))) (g := gVar 11) (c := tYesX) (A := eSl (eOp pIdx (eVar 4) (eVar 11)) oNone (oSome (eC (.int 2)))) (vs := [11]) (r := r) (h := g) (base := g) (n := T.length) (fun i => tq ((cL L (T.getD i 0)).1, (cL L (T.getD i 0)).2.1)) (fun _ => true) (by omega)
    (by unfold eIter; rw [x_var r10]; rfl)
    (fun i t hi => by
      refine ⟨.int (T[i] : Nat), _, [], by simp [hi], rfl, by simp, fun _ => ⟨[], ?_⟩⟩
      simp only [List.append_nil]
      have hj := hT T[i] (List.getElem_mem hi)
      rw [getD_of (List.getElem?_eq_getElem hi)]
      refine x_sl (x_op (x_var (w4 _)) (x_var (w11 _)) (p_idxT (v := che (cL L T[i])) (by omega) ?_)) o_none (o_some x_c) (p_slT (by decide))
      rw [Int.toNat_natCast, List.getElem?_map, List.getElem?_eq_getElem hj, cL_eq hj]; rfl)
    (fun t => by simp)
  have fe : ((List.range T.length).filter fun _ => true).map (fun i => tq ((cL L (T.getD i 0)).1, (cL L (T.getD i 0)).2.1)) = (tnL L T).map tq := by
    rw [List.filter_eq_self.mpr (by simp)]
    apply List.ext_getElem
    · simp [tnL]
    · intro a b c
      simp at b
      simp [tnL, b]
  rw [fe] at le
  exact ⟨.lst ((tnL L T).map tq) :: t, x_b (x_cons le x_nil) (by simp [tqs])⟩
theorem wsum_eq {L : List Ch} {r : Fm} {g : IH} (hl : L.length ≤ 8) (r4 : r[4]? = some (some (chs L))) (rl : r.length = 16) :
    ∃ t, eB pSum (aCons (eLc (eIter (eVar 4)) (gVar 15) tYesX (eOp pIdx (eVar 15) (eC (.int 2))) [15]) aNil) r g = .ok (.int (swN L L.length)) (g ++ t) := by
  have w15 : ∀ v, ((wipeF r [15]).set 15 (some v))[15]? = some (some v) := fun v => by
    simp only [wipeF]
    rw [List.getElem?_set_self (by simp [rl])]
  obtain ⟨t, le⟩ := lc_all (I := eIter (eVar 4)) (it := itList (L.map che)) (g := gVar 15) (c := tYesX) (A := eOp pIdx (eVar 15) (eC (.int 2))) (vs := [15]) (r := r) (h := g) (base := g) (n := L.length) (fun i => .int (cL L i).2.2) (fun _ => true) (by omega)
    (by unfold eIter; rw [x_var r4]; rfl)
    (fun i t hi => by
      refine ⟨che (cL L i), _, [], by simp [hi, cL_eq hi], rfl, by simp, fun _ => ⟨[], ?_⟩⟩
      simp only [List.append_nil]
      exact x_op (x_var (w15 _)) x_c (p_idxT (by decide) rfl))
    (fun t => by simp)
  have fe : ((List.range L.length).filter fun _ => true).map (fun i => PV.int (cL L i).2.2) = ((List.range L.length).map fun i => (cL L i).2.2).map .int := by
    rw [List.filter_eq_self.mpr (by simp), List.map_map]; rfl
  rw [fe] at le
  have se : ∀ n, ((List.range n).map fun i => (cL L i).2.2).sum = swN L n := by
    intro n
    induction n with
    | zero => rfl
    | succ n ih => rw [List.range_succ, List.map_append, List.sum_append, ih]; simp [swN]
  refine ⟨.lst (((List.range L.length).map fun i => (cL L i).2.2).map .int) :: t, x_b (x_cons le x_nil) ?_⟩
  simp only [pSum, ga0, List.getElem?_cons_zero, keyOf_ints, se]
theorem wlist_eq {L : List Ch} {r : Fm} {g : IH} (hl : L.length ≤ 8) (r4 : r[4]? = some (some (chs L))) (rl : r.length = 16) :
    ∃ t, eLc (eIter (eVar 4)) (gVar 15) tYesX (eTup (aCons (eOp pIdx (eVar 15) (eC (.int 2))) (aCons (eC (.int 1)) aNil))) [15] r g = .ok (.obj g.length) (g ++ .lst (wList L wI) :: t) := by
  have w15 : ∀ v, ((wipeF r [15]).set 15 (some v))[15]? = some (some v) := fun v => by
    simp only [wipeF]
    rw [List.getElem?_set_self (by simp [rl])]
  obtain ⟨t, le⟩ := lc_all (I := eIter (eVar 4)) (it := itList (L.map che)) (g := gVar 15) (c := tYesX) (A := eTup (aCons (eOp pIdx (eVar 15) (eC (.int 2))) (aCons (eC (.int 1)) aNil))) (vs := [15]) (r := r) (h := g) (base := g) (n := L.length) (fun i => fq ((plsW L wI).we i)) (fun _ => true) (by omega)
    (by unfold eIter; rw [x_var r4]; rfl)
    (fun i t hi => by
      refine ⟨che (cL L i), _, [], by simp [hi, cL_eq hi], rfl, by simp, fun _ => ⟨[], ?_⟩⟩
      simp only [List.append_nil]
      exact x_tup (x_cons (x_op (x_var (w15 _)) x_c (p_idxT (by decide) rfl)) (x_cons x_c x_nil)) (show 2 ≤ 16777216 by decide))
    (fun t => by simp)
  rw [List.filter_eq_self.mpr (by simp)] at le
  exact ⟨t, le⟩
end WR

namespace WR
open PySem PySem.Spec PyProof.Rows L2
theorem x_prop {c : Str} {F : List PV → IH → Res PV} {A : EX} {r : Fm} {h h1 : IH} {n : Nat} {fs : List (Str × PV)} {v : PV} (a : A r h = .ok (.obj n) h1) (e : h1[n]? = some (.ins c fs)) (f : F [.obj n] h1 = .ok v h1) : eProp c F A r h = .ok v h1 := by
  simp [a, e, f]
theorem p_ne_same (q : Rat) (h : IH) : pNe (fq q) (fq q) h = .ok (.bl false) h := by rw [p_ne (eq_fq q q h)]; simp
theorem EncOk.nat : EncOk 0 (fun j : Nat => PV.int (j : Nat)) fun j => PyData.int (j : Nat) := ⟨fun m h a _ => by simp, fun a => by simp [PyData.canLay0], fun a => by simp [PyData.depth], fun a b => by
  have := EncOk.int.eqv (a : Int) (b : Int)
  rw [this]
  exact decide_eq_decide.mpr ⟨fun h => by omega, fun h => by omega⟩⟩
theorem EncOk.row : EncOk 1 enR fun xs => .tuple (xs.map fun j => PyData.int (j : Nat)) := EncOk.nat.list
/-- a row of all places -/
structure Prm (n : Nat) (P : List Nat) : Prop where
  nd : P.Nodup
  len : P.length = n
  lt : ∀ x ∈ P, x < n
theorem Prm.of_perm {n : Nat} {P Q : List Nat} (h : Prm n P) (q : Q.Perm P) : Prm n Q := ⟨q.nodup_iff.mpr h.nd, q.length_eq.trans h.len, fun x hx => h.lt x (q.mem_iff.mp hx)⟩
theorem rot_perm (P : List Nat) (t : Nat) : (P.drop t ++ P.take t).Perm P := by
  have := List.perm_append_comm (l₁ := P.drop t) (l₂ := P.take t)
  rwa [List.take_append_drop] at this
theorem mov_perm {P : List Nat} {s : Nat} (hs : s < P.length) : ([P[s]] ++ P.take s ++ P.drop (s + 1)).Perm P := by
  have e : P = P.take s ++ P[s] :: P.drop (s + 1) := by
    conv => lhs; rw [← List.take_append_drop s P, List.drop_eq_getElem_cons hs]
  have q : (P.take s ++ P[s] :: P.drop (s + 1)).Perm (P[s] :: (P.take s ++ P.drop (s + 1))) := List.perm_middle
  have q2 := q.symm
  rw [← e] at q2
  simpa using q2
theorem Prm.cov {L : List Ch} {P : List Nat} (h : Prm L.length P) : (plsW L wI).Cov (fun _ => false) P := cov_all (p := plsW L wI) (all_of_nd h.nd h.len h.lt) _
def intsL (P : List Nat) : List PV := P.map fun j => .int (j : Nat)
end WR

namespace WR
open PySem PySem.Spec PyProof.Rows L2
def exQ (row : List Nat) (q : Nat) : List (List Nat) := ((List.range q).filter fun j => !(row.any fun k => k == j)).map fun j => row ++ [j]
theorem orders2_eq {n : Nat} (hn : n ≤ 5) (h : IH) : ∃ m t, f__law_orders [.int n] h = .ok (.obj m) (h ++ t) ∧ (h ++ t)[m]? = some (.lst ((ordF n n).map enR)) ∧ h.length ≤ m := by
  suffices q : ∃ v h1, f__law_orders [.int n] h = .ok v h1 ∧ (∃ m, v = .obj m ∧ Pre h h1 ∧ h1[m]? = some (.lst ((ordF n n).map enR)) ∧ h.length ≤ m) by
    obtain ⟨v, h1, e, m, rfl, ⟨t, rfl⟩, q1, q2⟩ := q
    exact ⟨m, t, e, q1, q2⟩
  have rg : ∀ (r : Fm) (g : IH), r[0]? = some (some (.int (n : Nat))) → eRange1 (aCons (eVar 0) aNil) r g = .ok (itRange 0 n) g := fun r g e => by
    have := x_cons (A := eVar 0) (L := aNil) (r := r) (h := g) (x_var e) x_nil
    unfold eRange1
    rw [this]
    have k1 : rngOk (n : Int) = true := decide_eq_true (by omega)
    simp only [bind_ok, k1, if_true, Int.toNat_natCast]
  refine w_fn rfl ?_
  unfold b__law_orders
  refine w_seq (w_set (x_lst (x_cons (x_tup x_nil (by decide)) x_nil) (by simp)) ?_)
  refine w_seq (w_for n (fun i r g => ∃ m x2 x3 x4 x5, r = [some (.int (n : Nat)), some (.obj m), x2, x3, x4, x5] ∧ Pre h g ∧ h.length ≤ m ∧ g[m]? = some (.lst ((ordF n i).map enR))) (it := itRange 0 n) (h1 := h ++ [.lst [.tup []]]) (rg _ _ rfl) (by omega) ⟨_, _, _, _, _, rfl, .of _ _, Nat.le_refl _, gl⟩ ?_ ?_)
  · rintro i r g hi ⟨m, x2, x3, x4, x5, rfl, p, lm, G⟩
    have ol := ordF_b hn (show i ≤ 5 by omega)
    have ol2 := ordF_b hn (show i + 1 ≤ 5 by omega)
    refine ⟨.int (0 + (i : Nat)), _, by simp [hi], rfl, ?_⟩
    refine w_seq (w_set (x_lst x_nil (by simp)) ?_)
    have pg : Pre h (g ++ [.lst []]) := p.app _
    refine w_seq (w_for (ordF n i).length (fun j r k => ∃ a x4 x5, r = [some (.int (n : Nat)), some (.obj m), some (.int (0 + (i : Nat))), some (.obj a), x4, x5] ∧ Pre (g ++ [.lst []]) k ∧ g.length ≤ a ∧ k[a]? = some (.lst ((((ordF n i).take j).flatMap (extO n)).map enR))) (it := itObj m) (h1 := g ++ [.lst []]) ?_ (by omega) ⟨_, _, _, rfl, .refl _, Nat.le_refl _, gl⟩ ?_ ?_)
    · show eIter (eVar 1) [some (.int (n : Nat)), some (.obj m), some (.int (0 + (i : Nat))), some (.obj g.length), x4, x5] _ = _
      unfold eIter
      rw [x_var rfl]
      simp only [bind_ok, get_old G]
    · rintro j r k hj ⟨a, x4, x5, rfl, pk, la, GA⟩
      have e7 : (ordF n i).take (j + 1) = (ordF n i).take j ++ [(ordF n i)[j]] := by rw [List.take_add_one]; simp [hj]
      have Gk : k[m]? = some (.lst ((ordF n i).map enR)) := pk.get (get_old G)
      generalize hrow : (ordF n i)[j] = row at *
      have hm := ordF_mem.mp (hrow ▸ List.getElem_mem hj : row ∈ ordF n i)
      have el := extO_len n row
      have tl : (((ordF n i).take j).flatMap (extO n)).length ≤ 3125 := by
        have z : ((ordF n i).take (j + 1)).flatMap (extO n) = ((ordF n i).take j).flatMap (extO n) ++ extO n row := by rw [e7, List.flatMap_append]; simp
        have w : (ordF n (i + 1)) = ((ordF n i).take (j + 1)).flatMap (extO n) ++ ((ordF n i).drop (j + 1)).flatMap (extO n) := by
          simp only [ordF]; rw [← List.flatMap_append, List.take_append_drop]
        have := congrArg List.length w
        rw [List.length_append, z, List.length_append] at this
        omega
      refine ⟨enR row, _, ?_, rfl, ?_⟩
      · simp only [itObj, Gk]
        rw [List.getElem?_map, List.getElem?_eq_getElem hj, hrow]; rfl
      rw [e7, List.flatMap_append]
      generalize ((ordF n i).take j).flatMap (extO n) = F at *
      refine w_for n (fun q r k => ∃ a x5, r = [some (.int (n : Nat)), some (.obj m), some (.int (0 + (i : Nat))), some (.obj a), some (enR row), x5] ∧ Pre (g ++ [.lst []]) k ∧ g.length ≤ a ∧ k[a]? = some (.lst ((F ++ exQ row q).map enR))) (it := itRange 0 n) (h1 := k) (rg _ _ rfl) (by omega) ⟨a, x5, rfl, pk, la, by simpa [exQ] using GA⟩ ?_ ?_
      · rintro q r k hq ⟨a, x5, rfl, pk, la, GA⟩
        refine ⟨.int (0 + (q : Nat)), _, by simp [hq], rfl, ?_⟩
        rw [show (0 : Int) + (q : Nat) = (q : Nat) from Int.zero_add _]
        have fl : (exQ row q).length ≤ q := by
          rw [exQ, List.length_map]
          exact Nat.le_trans (List.length_filter_le _ _) (by simp)
        have ni := p_notin (in_row q row k)
        have tb : tBl (eOp pNotIn (eVar 5) (eVar 4)) [some (.int (n : Nat)), some (.obj m), some (.int (0 + (i : Nat))), some (.obj a), some (enR row), some (.int (q : Nat))] k = .ok (!(row.any fun k => k == q)) k := t_bl (x_op (x_var rfl) (x_var rfl) ni)
        have al : a < k.length := lt_of_get GA
        have pl := pk.le
        rw [List.length_append] at pl
        have fin : ∀ (l : List (List Nat)), l.length ≤ 1 → exQ row (q + 1) = exQ row q ++ l → eIf (tBl (eOp pNotIn (eVar 5) (eVar 4))) (eLst (aCons (eOp pAdd (eVar 4) (eTup (aCons (eVar 5) aNil))) aNil)) (eLst aNil) [some (.int (n : Nat)), some (.obj m), some (.int (0 + (i : Nat))), some (.obj a), some (enR row), some (.int (q : Nat))] k = .ok (.obj k.length) (k ++ [.lst (l.map enR)]) →
            (sSet 3 (eOp pAdd (eVar 3) (eIf (tBl (eOp pNotIn (eVar 5) (eVar 4))) (eLst (aCons (eOp pAdd (eVar 4) (eTup (aCons (eVar 5) aNil))) aNil)) (eLst aNil))) [some (.int (n : Nat)), some (.obj m), some (.int (0 + (i : Nat))), some (.obj a), some (enR row), some (.int (q : Nat))] k).Is (fun r k => ∃ a x5, r = [some (.int (n : Nat)), some (.obj m), some (.int (0 + (i : Nat))), some (.obj a), some (enR row), x5] ∧ Pre (g ++ [.lst []]) k ∧ g.length ≤ a ∧ k[a]? = some (.lst ((F ++ exQ row (q + 1)).map enR))) (fun v h1 => ∃ m, v = .obj m ∧ Pre h h1 ∧ h1[m]? = some (.lst ((ordF n n).map enR)) ∧ h.length ≤ m) := by
          intro l ll el eI
          refine w_set (x_op (x_var rfl) eI (p_addL (get_old GA) gl (by simp only [List.length_map, List.length_append]; omega))) ⟨_, _, rfl, (pk.app _).app _, ?_, ?_⟩
          · simp; omega
          · rw [gl, el, ← List.append_assoc, ← List.map_append]
        cases hb : row.any fun k => k == q with
        | true =>
          rw [hb] at tb
          exact fin [] (by simp) (by simp [exQ, List.range_succ, List.filter_append, hb]) (x_ifF tb (x_lst x_nil (by simp)))
        | false =>
          rw [hb] at tb
          refine fin [row ++ [q]] (by simp) (by simp [exQ, List.range_succ, List.filter_append, hb]) (x_ifT tb (x_lst (x_cons (x_op (x_var rfl) (x_tup (x_cons (x_var rfl) x_nil) (show 1 ≤ 16777216 by decide)) ?_) x_nil) (by simp)))
          unfold enR
          rw [p_addT (by have := hm.1; simp; omega)]
          simp
      · rintro r k ⟨a, x5, rfl, pk, la, GA⟩
        refine ⟨by simp, a, some (enR row), x5, rfl, pk, la, ?_⟩
        rw [GA]
        simp [extO, exQ]
    · rintro r k ⟨a, x4, x5, rfl, pk, la, GA⟩
      have Gk : k[m]? = some (.lst ((ordF n i).map enR)) := pk.get (get_old G)
      refine ⟨?_, ?_⟩
      · simp only [itObj, Gk]
        rw [List.getElem?_eq_none (by simp)]
      · rw [List.take_length] at GA
        refine w_set (x_var rfl) ⟨a, _, _, _, _, rfl, pg.trans pk, ?_, GA⟩
        have := p.le; omega
  · rintro r g ⟨m, x2, x3, x4, x5, rfl, p, lm, G⟩
    exact ⟨by simp, w_ret (x_var rfl) ⟨m, rfl, p, G, lm⟩⟩
end WR

namespace WR
open PySem PySem.Spec PyProof.Rows L2
/-! ### k15: how far a standing goes, and the least walk to it -/
def rch (rs : List Row) (s : List Int) (r : Nat) : Rat := if 0 < s.getD r 0 then ((rs.getD r []).getD ((s.getD r 0).toNat - 1) (0, 0)).1 else 0
def rmx (rs : List Row) (s : List Int) : Nat → Rat
  | 0 => 0
  | n + 1 => if rmx rs s n < rch rs s n then rch rs s n else rmx rs s n
def rsm (rs : List Row) (s : List Int) : Rat := sumN (rch rs s) rs.length
def wT (rs : List Row) (s : List Int) : Rat := 2 * rsm rs s - rmx rs s rs.length
theorem rmx_ge {rs : List Row} {s : List Int} : ∀ {n q : Nat}, q < n → rch rs s q ≤ rmx rs s n
  | n + 1, q, h => by
    simp only [rmx]
    by_cases e : q = n
    · subst e; split <;> grind
    · have := rmx_ge (rs := rs) (s := s) (n := n) (q := q) (by omega)
      split <;> grind
theorem rmx_nn {rs : List Row} {s : List Int} : ∀ n : Nat, 0 ≤ rmx rs s n
  | 0 => Rat.le_refl
  | n + 1 => by
    have := rmx_nn (rs := rs) (s := s) n
    simp only [rmx]; split <;> grind
theorem rmx_at {rs : List Row} {s : List Int} : ∀ n : Nat, rmx rs s n = 0 ∨ ∃ q, q < n ∧ rmx rs s n = rch rs s q ∧ 0 < rch rs s q
  | 0 => .inl rfl
  | n + 1 => by
    simp only [rmx]
    split
    · rename_i h
      exact .inr ⟨n, by omega, rfl, by have := rmx_nn (rs := rs) (s := s) n; grind⟩
    · rcases rmx_at (rs := rs) (s := s) n with h | ⟨q, h1, h2, h3⟩
      · exact .inl h
      · exact .inr ⟨q, by omega, h2, h3⟩
theorem sumN_upd {f g : Nat → Rat} {r : Nat} (e : ∀ q, q ≠ r → g q = f q) : ∀ n, sumN g n = sumN f n + if r < n then g r - f r else 0
  | 0 => by simp [sumN]; grind
  | n + 1 => by
    simp only [sumN]
    rw [sumN_upd e n]
    by_cases q : r = n
    · subst q; rw [if_neg (by omega), if_pos (by omega)]; grind
    · rw [e n (fun z => q z.symm)]
      by_cases z : r < n
      · rw [if_pos z, if_pos (by omega)]; grind
      · rw [if_neg z, if_neg (by omega)]; grind
theorem max_of {n : Nat} (f : Nat → Rat) (P : Nat → Bool) : (∀ i, i < n → P i = false) ∨ ∃ i, i < n ∧ P i = true ∧ ∀ m, m < n → P m = true → f m ≤ f i := by
  induction n with
  | zero => exact .inl fun i h => by omega
  | succ n ih =>
    cases q : P n with
    | false =>
      rcases ih with h | ⟨i, h1, h2, h3⟩
      · refine .inl fun i hi => ?_
        by_cases e : i = n
        · rw [e]; exact q
        · exact h i (by omega)
      · refine .inr ⟨i, by omega, h2, fun m hm pm => ?_⟩
        by_cases e : m = n
        · rw [e, q] at pm; cases pm
        · exact h3 m (by omega) pm
    | true =>
      rcases ih with h | ⟨i, h1, h2, h3⟩
      · refine .inr ⟨n, by omega, q, fun m hm pm => ?_⟩
        by_cases e : m = n
        · rw [e]; exact Rat.le_refl
        · rw [h m (by omega)] at pm; cases pm
      · by_cases z : f i ≤ f n
        · refine .inr ⟨n, by omega, q, fun m hm pm => ?_⟩
          by_cases e : m = n
          · rw [e]; exact Rat.le_refl
          · exact Rat.le_trans (h3 m (by omega) pm) z
        · refine .inr ⟨i, by omega, h2, fun m hm pm => ?_⟩
          by_cases e : m = n
          · rw [e]; exact Rat.le_of_lt (Rat.not_le.mp z)
          · exact h3 m (by omega) pm
section
variable {R : Int} {L : List Ch} (o : OkL R L)
include o
theorem row_pos {r k : Nat} (hk : k < ((rowsF R L).getD r []).length) : 1 ≤ ((rowsF R L).getD r [])[k].1 ∧ ((rowsF R L).getD r [])[k].1 ≤ 30 ∧ Dn 8 ((rowsF R L).getD r [])[k].1 ∧ 1 ≤ ((rowsF R L).getD r [])[k].2 ∧ ((rowsF R L).getD r [])[k].2 ≤ 999 := by
  obtain ⟨i, hi, e⟩ := idx_of o hk
  have oc := o.c L[i] (List.getElem_mem hi)
  rw [cL_eq hi] at e
  rw [e] at oc
  exact ⟨oc.f1, oc.f2, oc.f8, oc.w1, oc.w2⟩
theorem rch_at {s : List Int} (hs : s ∈ endsF (rowsF R L)) {r : Nat} (hr : r < (rowsF R L).length) (h : 0 < s.getD r 0) : ∃ hk : (s.getD r 0).toNat - 1 < ((rowsF R L).getD r []).length, rch (rowsF R L) s r = ((rowsF R L).getD r [])[(s.getD r 0).toNat - 1].1 := by
  have := (endsP_mem.mp hs).2 r hr
  have hk : (s.getD r 0).toNat - 1 < ((rowsF R L).getD r []).length := by omega
  refine ⟨hk, ?_⟩
  unfold rch
  rw [if_pos h, getD_of (List.getElem?_eq_getElem hk)]
theorem rch_b {s : List Int} (hs : s ∈ endsF (rowsF R L)) {r : Nat} (hr : r < (rowsF R L).length) : Frd 8 30 (rch (rowsF R L) s r) := by
  by_cases h : 0 < s.getD r 0
  · obtain ⟨hk, e⟩ := rch_at o hs hr h
    obtain ⟨a, b, c, _⟩ := row_pos o hk
    rw [e]
    exact ⟨c, by grind, by exact_mod_cast b⟩
  · unfold rch
    rw [if_neg h]
    exact (Frd.zero 8).mono (by decide)
theorem rch_bhd {s : List Int} (hs : s ∈ endsF (rowsF R L)) {r k : Nat} (hr : r < (rowsF R L).length) (hk : k < ((rowsF R L).getD r []).length) (q : Nat) : rch (rowsF R L) (bhd s r k) q = if q = r then ((rowsF R L).getD r [])[k].1 else rch (rowsF R L) s q := by
  have sl := (endsP_mem.mp hs).1
  unfold rch
  rw [bhd_getD (show r < s.length by omega)]
  by_cases e : q = r
  · subst e
    rw [if_pos rfl, if_pos (by omega), if_pos rfl, show ((k : Int) + 1).toNat - 1 = k by omega, getD_of (List.getElem?_eq_getElem hk)]
  · rw [if_neg e, if_neg e]
theorem rsm_bhd {s : List Int} (hs : s ∈ endsF (rowsF R L)) {r k : Nat} (hr : r < (rowsF R L).length) (hk : k < ((rowsF R L).getD r []).length) : rsm (rowsF R L) (bhd s r k) = rsm (rowsF R L) s + (((rowsF R L).getD r [])[k].1 - rch (rowsF R L) s r) := by
  unfold rsm
  rw [sumN_upd (f := rch (rowsF R L) s) (r := r) (fun q hq => by rw [rch_bhd o hs hr hk, if_neg hq]), if_pos hr, rch_bhd o hs hr hk, if_pos rfl]
/-- the place behind a standing, as a turn -/
theorem go_st {s : List Int} (hs : s ∈ endsF (rowsF R L)) {i : Nat} (hi : i < L.length) : ∃ s1 ∈ endsF (rowsF R L), (∀ m, m < L.length → Dst (rowsF R L) L s1 m = (plsW L wI).go (Dst (rowsF R L) L s) i m) ∧ 2 * rsm (rowsF R L) s1 ≤ 2 * rsm (rowsF R L) s + 2 * (cL L i).2.1 ∧ (s1 = s ∨ wT (rowsF R L) s1 ≤ 2 * rsm (rowsF R L) s + (cL L i).2.1) := by
  have f1 := (o.c L[i] (List.getElem_mem hi)).f1
  rw [← cL_eq hi] at f1
  cases hd : Dst (rowsF R L) L s i with
  | true => exact ⟨s, hs, fun m hm => (Pls.go_done (Dst_dc o wI s) hi hd hm).symm, by grind, .inl rfl⟩
  | false =>
    obtain ⟨g0, g1, g2, g3⟩ := row_of o hi
    have sl := (endsP_mem.mp hs).1
    have hge : s.getD (cL L i).1.toNat 0 ≤ posn ((rowsF R L).getD (cL L i).1.toNat []) (cL L i).2.1 := by
      have := of_decide_eq_false hd
      omega
    generalize hr : (cL L i).1.toNat = r at *
    generalize hk : posn ((rowsF R L).getD r []) (cL L i).2.1 = k at *
    have e0 : cL L i = ((r : Int), ((rowsF R L).getD r [])[k].1, ((rowsF R L).getD r [])[k].2) := by
      rw [g3]
      exact Prod.ext g1.symm rfl
    have e1 : (cL L i).2.1 = ((rowsF R L).getD r [])[k].1 := by rw [g3]
    have a := rsm_bhd o hs g0 g2
    have b := (rch_b o hs g0).p
    have c := rmx_ge (rs := rowsF R L) (s := bhd s r k) g0
    rw [rch_bhd o hs g0 g2, if_pos rfl] at c
    refine ⟨bhd s r k, bhd_ends hs g0 g2, fun m hm => Dst_go o wI sl g2 g0 hge e0 hm, ?_, .inr ?_⟩
    · rw [a, e1]; grind
    · unfold wT
      rw [a, e1]; grind
/-! ### what an order reaches within a walk -/
def hitB (b F : Rat) : Option Rat → Bool
  | some q => decide (b + q ≤ F)
  | none => false
omit o in
theorem wk_nn {p : Pls} (ok : p.Ok) {i : Nat} (hi : i < p.n) : ∀ (T : List Nat), (∀ j ∈ T, j < p.n) → ∀ q, p.wk T i = some q → 0 ≤ q
  | [], _, q, h => by simp [Pls.wk] at h
  | j :: T, hT, q, h => by
    simp only [Pls.wk] at h
    split at h
    · cases h; exact Rat.le_of_lt (ok.di i hi)
    · cases e : p.wk T i with
      | none => rw [e] at h; cases h
      | some x =>
        rw [e] at h
        simp only [Option.map, Option.some.injEq] at h
        have := wk_nn ok hi T (fun k hk => hT k (by simp [hk])) x e
        have d := ok.di j (hT j (by simp))
        grind
theorem upr {F : Rat} : ∀ (T : List Nat) (hT : ∀ j ∈ T, j < L.length) (s0 : List Int) (hs : s0 ∈ endsF (rowsF R L)) (b : Rat), 2 * rsm (rowsF R L) s0 ≤ b → wT (rowsF R L) s0 ≤ F →
    ∃ s ∈ endsF (rowsF R L), wT (rowsF R L) s ≤ F ∧ ∀ i, i < L.length → Dst (rowsF R L) L s i = (Dst (rowsF R L) L s0 i || hitB b F ((plsW L wI).wk T i))
  | [], hT, s0, hs, b, hb, hF => ⟨s0, hs, hF, fun i hi => by simp [Pls.wk, hitB]⟩
  | j :: T, hT, s0, hs, b, hb, hF => by
    have hj := hT j (by simp)
    have hT' : ∀ k ∈ T, k < L.length := fun k hk => hT k (by simp [hk])
    by_cases q : b + (cL L j).2.1 ≤ F
    · obtain ⟨s1, h1, g1, a1, w1⟩ := go_st o hs hj
      have wF : wT (rowsF R L) s1 ≤ F := by
        rcases w1 with rfl | w1
        · exact hF
        · grind
      obtain ⟨s, h2, w2, g2⟩ := upr T hT' s1 h1 (b + 2 * (cL L j).2.1) (by grind) wF
      refine ⟨s, h2, w2, fun i hi => ?_⟩
      rw [g2 i hi, g1 i hi]
      simp only [Pls.go, Pls.wk]
      cases nr : (plsW L wI).near j i with
      | true =>
        have := (near_iff.mp nr).2
        have e : (plsW L wI).di i = (cL L i).2.1 := rfl
        simp only [if_true, hitB, e, Bool.or_true, Bool.true_or]
        rw [decide_eq_true (show b + (cL L i).2.1 ≤ F by grind)]; simp
      | false =>
        have e : (plsW L wI).di j = (cL L j).2.1 := rfl
        simp only [Bool.or_false, Bool.false_eq_true, if_false, e]
        congr 1
        cases (plsW L wI).wk T i with
        | none => rfl
        | some x =>
          simp only [Option.map, hitB]
          congr 1
          rw [eq_iff_iff]
          constructor <;> intro h <;> grind
    · have late : ∀ i, i < L.length → (plsW L wI).near j i = false → hitB b F ((plsW L wI).wk (j :: T) i) = false := fun i hi nr => by
        simp only [Pls.wk, nr, Bool.false_eq_true, if_false]
        cases e : (plsW L wI).wk T i with
        | none => rfl
        | some x =>
          have := wk_nn (pls_ok o) hi T hT' x e
          have dj : (plsW L wI).di j = (cL L j).2.1 := rfl
          have pj := (pls_ok o).di j hj
          simp only [Option.map, hitB]
          refine decide_eq_false fun z => q ?_
          rw [dj] at *
          grind
      have early : ∀ i, (plsW L wI).near j i = true → hitB b F ((plsW L wI).wk (j :: T) i) = decide (b + (cL L i).2.1 ≤ F) := fun i nr => by
        simp only [Pls.wk, nr, if_true]; rfl
      rcases max_of (n := L.length) (fun i => (cL L i).2.1) (fun i => (plsW L wI).near j i && decide (b + (cL L i).2.1 ≤ F)) with h | ⟨i0, k1, k2, k3⟩
      · refine ⟨s0, hs, hF, fun i hi => ?_⟩
        have z := h i hi
        cases nr : (plsW L wI).near j i with
        | false => rw [late i hi nr]; simp
        | true =>
          rw [nr, Bool.true_and] at z
          rw [early i nr, z]; simp
      · obtain ⟨n1, n2⟩ := Bool.and_eq_true_iff.mp k2
        have n2 := of_decide_eq_true n2
        obtain ⟨s1, h1, g1, a1, w1⟩ := go_st o hs k1
        refine ⟨s1, h1, ?_, fun i hi => ?_⟩
        · rcases w1 with rfl | w1
          · exact hF
          · grind
        · rw [g1 i hi]
          simp only [Pls.go]
          congr 1
          cases nr : (plsW L wI).near j i with
          | false =>
            rw [late i hi nr]
            cases z : (plsW L wI).near i0 i with
            | false => rfl
            | true => rw [Pls.near_trans n1 z] at nr; cases nr
          | true =>
            rw [early i nr]
            by_cases z : b + (cL L i).2.1 ≤ F
            · rw [decide_eq_true z]
              have := k3 i hi (by rw [nr, decide_eq_true z]; rfl)
              exact near_iff.mpr ⟨(near_iff.mp nr).1.trans (near_iff.mp n1).1.symm, this⟩
            · rw [decide_eq_false z]
              cases y : (plsW L wI).near i0 i with
              | false => rfl
              | true =>
                have := (near_iff.mp y).2
                exact absurd (show b + (cL L i).2.1 ≤ F by grind) z
end
end WR

namespace WR
open PySem PySem.Spec PyProof.Rows L2
/-! ### k15: the plan to a standing; weights -/
def sumD (L : List Ch) : List Nat → Rat
  | [] => 0
  | j :: T => (cL L j).2.1 + sumD L T
theorem sumD_app (L : List Ch) : ∀ T S : List Nat, sumD L (T ++ S) = sumD L T + sumD L S
  | [], S => by simp only [List.nil_append, sumD]; grind
  | j :: T, S => by simp only [List.cons_append, sumD]; rw [sumD_app L T S]; grind
def lastD (L : List Ch) (T : List Nat) : Rat := match T.getLast? with
  | some j => (cL L j).2.1
  | none => 0
def plT (rs : List Row) (s : List Int) : Nat → List (Int × Rat)
  | 0 => []
  | r + 1 => if 0 < s.getD r 0 then (match (plT rs s r).getLast? with
    | some t => if rch rs s r < t.2 then ((r : Int), rch rs s r) :: plT rs s r else plT rs s r ++ [((r : Int), rch rs s r)]
    | none => plT rs s r ++ [((r : Int), rch rs s r)]) else plT rs s r
theorem wk_none_iff {p : Pls} {i : Nat} : ∀ {T : List Nat}, p.wk T i = none ↔ ∀ j ∈ T, p.near j i = false
  | [] => by simp [Pls.wk]
  | j :: T => by
    simp only [Pls.wk, List.mem_cons, forall_eq_or_imp]
    cases q : p.near j i with
    | true => simp
    | false => simp [wk_none_iff (T := T)]
theorem wk_app {p : Pls} {i : Nat} {S : List Nat} : ∀ {T : List Nat} {q : Rat}, p.wk T i = some q → p.wk (T ++ S) i = some q
  | [], q, h => by simp [Pls.wk] at h
  | j :: T, q, h => by
    simp only [Pls.wk, List.cons_append] at *
    split at h
    · rename_i z; rw [if_pos z]; exact h
    · rename_i z
      rw [if_neg z]
      cases e : p.wk T i with
      | none => rw [e] at h; cases h
      | some x => rw [e] at h; rw [wk_app (S := S) e]; exact h
def wsm (L : List Ch) (H : Nat → Bool) : Nat → Int
  | 0 => 0
  | i + 1 => wsm L H i + if H i then (cL L i).2.2 else 0
def wst (rs : List Row) (s : List Int) : Nat → Int
  | 0 => 0
  | r + 1 => wst rs s r + (((rs.getD r []).take (s.getD r 0).toNat).map (·.2)).sum
theorem wsm_congr {L : List Ch} {H G : Nat → Bool} : ∀ {n : Nat}, (∀ i, i < n → H i = G i) → wsm L H n = wsm L G n
  | 0, _ => rfl
  | n + 1, h => by
    simp only [wsm]
    rw [wsm_congr (n := n) fun i hi => h i (by omega), h n (by omega)]
theorem wsm_sum (L : List Ch) (H : Nat → Bool) : ∀ n, ((wsm L H n : Int) : Rat) = sumN (fun i => if H i then (((cL L i).2.2 : Int) : Rat) else 0) n
  | 0 => rfl
  | n + 1 => by
    simp only [wsm, sumN]
    rw [Rat.intCast_add, wsm_sum L H n]
    cases H n <;> simp
theorem sL_wI : ∀ l : Row, sL wI l = (((l.map (·.2)).sum : Int) : Rat)
  | [] => rfl
  | e :: l => by
    simp only [sL, List.map_cons, List.sum_cons]
    rw [Rat.intCast_add, sL_wI l]; rfl
section
variable {R : Int} {L : List Ch} (o : OkL R L)
include o
theorem di_p {j : Nat} (hj : j < L.length) : 0 < (cL L j).2.1 := (pls_ok o).di j hj
theorem sumD_nn : ∀ {T : List Nat}, (∀ j ∈ T, j < L.length) → 0 ≤ sumD L T ∧ lastD L T ≤ sumD L T ∧ 0 ≤ lastD L T
  | [], _ => ⟨Rat.le_refl, Rat.le_refl, Rat.le_refl⟩
  | [j], h => by
    have a := di_p o (h j (by simp))
    simp only [sumD, lastD, List.getLast?_singleton]
    grind
  | j :: k :: T, h => by
    obtain ⟨a, b, c⟩ := sumD_nn (T := k :: T) fun i hi => h i (by simp [hi])
    have d := di_p o (h j (by simp))
    have e : lastD L (j :: k :: T) = lastD L (k :: T) := by simp only [lastD, List.getLast?_cons_cons]
    rw [e]
    simp only [sumD] at *
    grind
theorem wk_le {i : Nat} : ∀ {T : List Nat}, (∀ j ∈ T, j < L.length) → ∀ {q : Rat}, (plsW L wI).wk T i = some q → q ≤ 2 * sumD L T - lastD L T
  | [], _, q, h => by simp [Pls.wk] at h
  | j :: T, hT, q, h => by
    have dj := di_p o (hT j (by simp))
    obtain ⟨a, b, c⟩ := sumD_nn o (T := T) fun i hi => hT i (by simp [hi])
    have la : lastD L (j :: T) ≤ (cL L j).2.1 + sumD L T ∧ (T ≠ [] → lastD L (j :: T) = lastD L T) ∧ (T = [] → lastD L (j :: T) = (cL L j).2.1) := by
      refine ⟨(sumD_nn o (T := j :: T) hT).2.1, fun z => ?_, fun z => by subst z; simp [lastD]⟩
      cases T with
      | nil => exact absurd rfl z
      | cons k T => simp only [lastD, List.getLast?_cons_cons]
    simp only [Pls.wk] at h
    split at h
    · rename_i nr
      have z := (near_iff.mp nr).2
      obtain rfl : (cL L i).2.1 = q := Option.some.inj h
      simp only [sumD]
      by_cases e : T = []
      · rw [la.2.2 e]; subst e; simp only [sumD]; grind
      · rw [la.2.1 e]; grind
    · cases e : (plsW L wI).wk T i with
      | none => rw [e] at h; cases h
      | some x =>
        rw [e] at h
        have ne : T ≠ [] := fun z => by subst z; simp [Pls.wk] at e
        have := wk_le (T := T) (fun i hi => hT i (by simp [hi])) e
        have ed : (plsW L wI).di j = (cL L j).2.1 := rfl
        simp only [Option.map, Option.some.injEq, ed] at h
        rw [la.2.1 ne]
        simp only [sumD]
        grind
theorem plT_ok {s : List Int} (hs : s ∈ endsF (rowsF R L)) : ∀ r, r ≤ (rowsF R L).length → ∃ T : List Nat, plT (rowsF R L) s r = tnL L T ∧ T.Nodup ∧ T.length ≤ r ∧ (∀ j ∈ T, j < L.length) ∧ (∀ i, i < L.length → ((∃ j ∈ T, (plsW L wI).near j i = true) ↔ ((cL L i).1.toNat < r ∧ Dst (rowsF R L) L s i = true))) ∧ sumD L T = sumN (rch (rowsF R L) s) r ∧ lastD L T = rmx (rowsF R L) s r
  | 0, _ => ⟨[], rfl, List.nodup_nil, by simp, by simp, by simp, rfl, rfl⟩
  | r + 1, hr => by
    obtain ⟨T, h1, h2, h3, h4, h5, h6, h7⟩ := plT_ok hs r (by omega)
    have hr' : r < (rowsF R L).length := by omega
    by_cases q : 0 < s.getD r 0
    · obtain ⟨hk, e1⟩ := rch_at o hs hr' q
      obtain ⟨j0, hj, e0⟩ := idx_of o hk
      have ej : (cL L j0).2.1 = rch (rowsF R L) s r := by rw [e0, e1]
      have er : (cL L j0).1 = (r : Int) := by rw [e0]
      have p1 := di_p o hj
      rw [ej] at p1
      have nin : j0 ∉ T := fun z => by
        have := ((h5 j0 hj).mp ⟨j0, z, Pls.near_self j0⟩).1
        rw [er] at this
        omega
      have near0 : ∀ i, i < L.length → ((plsW L wI).near j0 i = true ↔ ((cL L i).1.toNat = r ∧ Dst (rowsF R L) L s i = true)) := fun i hi => by
        obtain ⟨_, g1, _⟩ := row_of o hi
        rw [near_iff, er]
        constructor
        · rintro ⟨a, b⟩
          have ar : (cL L i).1.toNat = r := by omega
          refine ⟨ar, ?_⟩
          rw [ej, e1] at b
          have := (posn_le o hi ar hk).mpr b
          simp only [Dst, ar]
          exact decide_eq_true (by omega)
        · rintro ⟨ar, b⟩
          refine ⟨by omega, ?_⟩
          rw [ej, e1]
          refine (posn_le o hi ar hk).mp ?_
          simp only [Dst, ar] at b
          have := of_decide_eq_true b
          omega
      have mem : ∀ (T2 : List Nat), (∀ x, x ∈ T2 ↔ x = j0 ∨ x ∈ T) → ∀ i, i < L.length → ((∃ j ∈ T2, (plsW L wI).near j i = true) ↔ ((cL L i).1.toNat < r + 1 ∧ Dst (rowsF R L) L s i = true)) := fun T2 m i hi => by
        constructor
        · rintro ⟨j, hj, nr⟩
          rcases (m j).mp hj with rfl | hj
          · obtain ⟨a, b⟩ := (near0 i hi).mp nr
            exact ⟨by omega, b⟩
          · obtain ⟨a, b⟩ := (h5 i hi).mp ⟨j, hj, nr⟩
            exact ⟨by omega, b⟩
        · rintro ⟨a, b⟩
          by_cases z : (cL L i).1.toNat = r
          · exact ⟨j0, (m j0).mpr (.inl rfl), (near0 i hi).mpr ⟨z, b⟩⟩
          · obtain ⟨j, hj, nr⟩ := (h5 i hi).mpr ⟨by omega, b⟩
            exact ⟨j, (m j).mpr (.inr hj), nr⟩
      have snoc : lastD L T ≤ rch (rowsF R L) s r → plT (rowsF R L) s (r + 1) = plT (rowsF R L) s r ++ [((r : Int), rch (rowsF R L) s r)] → ∃ T : List Nat, plT (rowsF R L) s (r + 1) = tnL L T ∧ T.Nodup ∧ T.length ≤ r + 1 ∧ (∀ j ∈ T, j < L.length) ∧ (∀ i, i < L.length → ((∃ j ∈ T, (plsW L wI).near j i = true) ↔ ((cL L i).1.toNat < r + 1 ∧ Dst (rowsF R L) L s i = true))) ∧ sumD L T = sumN (rch (rowsF R L) s) (r + 1) ∧ lastD L T = rmx (rowsF R L) s (r + 1) := fun le e => by
        refine ⟨T ++ [j0], ?_, ?_, by simp; omega, ?_, mem _ (fun x => by simp [or_comm]), ?_, ?_⟩
        · rw [e, h1]; simp [tnL, er, ej]
        · exact List.nodup_append.mpr ⟨h2, by simp, fun a ha b hb => by simp at hb; subst hb; rintro rfl; exact nin ha⟩
        · intro j hj
          rcases List.mem_append.mp hj with hj | hj
          · exact h4 j hj
          · simp at hj; omega
        · rw [sumD_app]; simp only [sumD, sumN, ej, h6]; grind
        · have l : lastD L (T ++ [j0]) = rch (rowsF R L) s r := by simp [lastD, ej]
          rw [l]
          simp only [rmx]
          rw [h7] at le
          split <;> grind
      cases gl : (plT (rowsF R L) s r).getLast? with
      | none =>
        have tn : T = [] := by
          rw [h1] at gl
          cases T with
          | nil => rfl
          | cons a b => simp [tnL] at gl
        refine snoc ?_ (by simp only [plT, if_pos q, gl])
        subst tn
        simp only [lastD, List.getLast?_nil]
        exact Rat.le_of_lt p1
      | some t =>
        have tl : t.2 = lastD L T := by
          rw [h1] at gl
          simp only [tnL, List.getLast?_map] at gl
          cases z : T.getLast? with
          | none => rw [z] at gl; cases gl
          | some j =>
            rw [z] at gl
            simp only [Option.map, Option.some.injEq] at gl
            simp only [lastD, z, ← gl]
        by_cases z : rch (rowsF R L) s r < t.2
        · refine ⟨j0 :: T, ?_, List.nodup_cons.mpr ⟨nin, h2⟩, by simp; omega, ?_, mem _ (fun x => by simp), ?_, ?_⟩
          · simp only [plT, if_pos q, gl, if_pos z]
            rw [h1]; simp [tnL, er, ej]
          · intro j hj'
            rcases List.mem_cons.mp hj' with rfl | hj'
            · exact hj
            · exact h4 j hj'
          · simp only [sumD, sumN, ej, h6]; grind
          · have l : lastD L (j0 :: T) = lastD L T := by
              cases T with
              | nil => rw [h1] at gl; simp [tnL] at gl
              | cons a b => simp only [lastD, List.getLast?_cons_cons]
            rw [l, h7]
            simp only [rmx]
            rw [tl, h7] at z
            split <;> grind
        · refine snoc ?_ (by simp only [plT, if_pos q, gl, if_neg z])
          rw [← tl]
          exact Rat.not_lt.mp z
    · have r0 : rch (rowsF R L) s r = 0 := by unfold rch; rw [if_neg q]
      refine ⟨T, by simp only [plT, if_neg q]; exact h1, h2, by omega, h4, fun i hi => (h5 i hi).trans ?_, ?_, ?_⟩
      · constructor
        · rintro ⟨a, b⟩; exact ⟨by omega, b⟩
        · rintro ⟨a, b⟩
          refine ⟨?_, b⟩
          by_cases z : (cL L i).1.toNat = r
          · simp only [Dst, z] at b
            have := of_decide_eq_true b
            omega
          · omega
      · simp only [sumN, r0, h6]; grind
      · simp only [rmx, r0]
        have := rmx_nn (rs := rowsF R L) (s := s) r
        rw [h7]
        split <;> grind
/-- a standing's weight -/
theorem wst_eq {s : List Int} (hs : s ∈ endsF (rowsF R L)) : wst (rowsF R L) s (rowsF R L).length = wsm L (Dst (rowsF R L) L s) L.length := by
  have key : ∀ n, n ≤ (rowsF R L).length → ((wst (rowsF R L) s n : Int) : Rat) = sR (fun q e => if (posn ((rowsF R L).getD q []) e.1 : Int) < s.getD q 0 then ((e.2 : Int) : Rat) else 0) (rowsF R L) n := by
    intro n
    induction n with
    | zero => intro _; rfl
    | succ n ih =>
      intro hn
      have b := (endsP_mem.mp hs).2 n (by omega)
      simp only [wst, sR]
      rw [Rat.intCast_add, ih (by omega)]
      congr 1
      have srt := srtD o n
      generalize (rowsF R L).getD n [] = row at *
      generalize hm : s.getD n 0 = m at *
      conv => rhs; rw [← List.take_append_drop m.toNat row, sL_app]
      have z1 : sL (fun e => if (posn row e.1 : Int) < m then ((e.2 : Int) : Rat) else 0) (row.take m.toNat) = sL wI (row.take m.toNat) := sL_congr fun e he => by
        obtain ⟨k, hk, rfl⟩ := List.mem_take_iff_getElem.mp he
        rw [posn_at srt, if_pos (by omega)]; rfl
      have z2 : sL (fun e => if (posn row e.1 : Int) < m then ((e.2 : Int) : Rat) else 0) (row.drop m.toNat) = 0 := sL_zero fun e he => by
        obtain ⟨k, hk, rfl⟩ := List.mem_drop_iff_getElem.mp he
        rw [posn_at srt, if_neg (by omega)]
      rw [List.take_append_drop, z1, z2, sL_wI]
      grind
  have e := key _ (Nat.le_refl _)
  rw [rowLen o, sR_rows (fun c hc => ⟨(o.c c hc).r0, (o.c c hc).r1⟩)] at e
  have e2 := wsm_sum L (Dst (rowsF R L) L s) L.length
  have : ((wst (rowsF R L) s (rowsF R L).length : Int) : Rat) = ((wsm L (Dst (rowsF R L) L s) L.length : Int) : Rat) := by
    rw [rowLen o, e, e2]
    refine sumN_congr fun i hi => ?_
    simp only [Dst, decide_eq_true_eq]
  exact_mod_cast this
end
end WR

namespace WR
open PySem PySem.Spec PyProof.Rows L2
/-! ### k15: walk_to -/
theorem take_snoc {α : Type} {l : List α} {i : Nat} (hi : i < l.length) : l.take (i + 1) = l.take i ++ [l[i]] := by rw [List.take_add_one, List.getElem?_eq_getElem hi]; rfl
def rLn (rs : List Row) (s : List Int) (n : Nat) : List Rat := ((List.range n).filter fun r => decide (0 < s.getD r 0)).map (rch rs s)
theorem rLn_succ (rs : List Row) (s : List Int) (n : Nat) : rLn rs s (n + 1) = rLn rs s n ++ if 0 < s.getD n 0 then [rch rs s n] else [] := by
  unfold rLn
  rw [List.range_succ, List.filter_append, List.map_append]
  congr 1
  by_cases q : 0 < s.getD n 0
  · have : decide (0 < s.getD n 0) = true := decide_eq_true q
    rw [if_pos q]
    simp only [List.filter, this, List.map]
  · have : decide (0 < s.getD n 0) = false := decide_eq_false q
    rw [if_neg q]
    simp only [List.filter, this, List.map]
theorem rLn_gq (rs : List Row) (s : List Int) : ∀ n, gq (rLn rs s n) 0 = rmx rs s n
  | 0 => rfl
  | n + 1 => by
    have ih := rLn_gq rs s n
    rw [rLn_succ]
    unfold gq at *
    rw [List.foldl_append, ih]
    by_cases q : 0 < s.getD n 0
    · rw [if_pos q]; rfl
    · rw [if_neg q]
      have r0 : rch rs s n = 0 := by unfold rch; rw [if_neg q]
      have := rmx_nn (rs := rs) (s := s) n
      simp only [List.foldl_nil, rmx, r0]
      split <;> grind
def dq (l : List Rat) : Rat := l.foldl (fun a x => a + 2 * x) 0
theorem dq_snoc (l : List Rat) (x : Rat) : dq (l ++ [x]) = dq l + 2 * x := by simp [dq, List.foldl_append]
theorem rLn_dq (rs : List Row) (s : List Int) : ∀ n, dq ((0 : Rat) :: rLn rs s n) = 2 * sumN (rch rs s) n
  | 0 => by show (0 : Rat) + 2 * 0 = 2 * 0; grind
  | n + 1 => by
    have ih := rLn_dq rs s n
    rw [rLn_succ]
    by_cases q : 0 < s.getD n 0
    · rw [if_pos q, ← List.cons_append, dq_snoc, ih]
      simp only [sumN]; grind
    · rw [if_neg q, List.append_nil, ih]
      have r0 : rch rs s n = 0 := by unfold rch; rw [if_neg q]
      simp only [sumN, r0]; grind
theorem rLn_len (rs : List Row) (s : List Int) (n : Nat) : (rLn rs s n).length ≤ n := by
  unfold rLn
  rw [List.length_map]
  have := List.length_filter_le (fun r => decide (0 < s.getD r 0)) (List.range n)
  rwa [List.length_range] at this
theorem dq_frd {l : List Rat} (h : ∀ x ∈ l, Frd 8 30 x) : ∀ i, i ≤ l.length → Frd 8 (60 * i) (dq (l.take i))
  | 0, _ => Frd.zero 8
  | i + 1, hi => by
    have a := dq_frd h i (by omega)
    have e : l.take (i + 1) = l.take i ++ [l[i]] := by rw [List.take_add_one]; simp [show i < l.length by omega]
    have b := h l[i] (List.getElem_mem (by omega))
    rw [e, dq_snoc]
    refine (a.add (W := 60) ⟨(b.d).int 2, ?_, ?_⟩).mono (by omega)
    · have := b.p; grind
    · have := b.u
      have e : ((30 : Nat) : Rat) = 30 := rfl
      have e' : ((60 : Nat) : Rat) = 60 := rfl
      grind
theorem rmx_b {R : Int} {L : List Ch} (o : OkL R L) {s : List Int} (hs : s ∈ endsF (rowsF R L)) : ∀ n, n ≤ (rowsF R L).length → Frd 8 30 (rmx (rowsF R L) s n)
  | 0, _ => (Frd.zero 8).mono (by decide)
  | n + 1, h => by
    simp only [rmx]
    split
    · exact rch_b o hs (by omega)
    · exact rmx_b o hs n (by omega)
theorem ent_at {R : Int} {L : List Ch} (o : OkL R L) {s : List Int} (hs : s ∈ endsF (rowsF R L)) {i : Nat} (hi : i < (rowsF R L).length) (h : 0 < s.getD i 0) : ∃ hk : (s.getD i 0).toNat - 1 < ((rowsF R L)[i]).length, ((rowsF R L)[i])[(s.getD i 0).toNat - 1].1 = rch (rowsF R L) s i := by
  obtain ⟨hk, e⟩ := rch_at o hs hi h
  have g : (rowsF R L).getD i [] = (rowsF R L)[i] := getD_of (List.getElem?_eq_getElem hi)
  rw [e]
  revert hk
  rw [g]
  intro hk _
  exact ⟨hk, rfl⟩
theorem x_reach {R : Int} {L : List Ch} (o : OkL R L) {s : List Int} (hs : s ∈ endsF (rowsF R L)) {i : Nat} (hi : i < (rowsF R L).length) (q : 0 < s.getD i 0) {id : Nat} {g : IH} (gd : g[id]? = some (.lst (((rowsF R L)[i]).map re))) {r : Fm} {A B : EX} {h0 : IH} (ea : A r h0 = .ok (.obj id) g) (eb : B r g = .ok (.int (s.getD i 0)) g) :
    eOp pIdx (eOp pIdx A (eOp pSub B (eC (.int 1)))) (eC (.int 0)) r h0 = .ok (fq (rch (rowsF R L) s i)) g := by
  obtain ⟨hk, ee⟩ := ent_at o hs hi q
  refine x_op (x_op ea (x_op eb x_c rfl) (p_idxL (v := re ((rowsF R L)[i])[(s.getD i 0).toNat - 1]) gd (by omega) ?_)) x_c (p_idxT (by decide) ?_)
  · rw [show (s.getD i 0 - 1).toNat = (s.getD i 0).toNat - 1 by omega, List.getElem?_map, List.getElem?_eq_getElem hk]; rfl
  · rw [← ee]; rfl
theorem walk_eq {R : Int} {L : List Ch} (o : OkL R L) {s : List Int} (hs : s ∈ endsF (rowsF R L)) {n : Nat} {h : IH} (A : RowsAt h n (rowsF R L)) : ∃ t, f_walk_to [.obj n, .key s] h = .ok (fq (wT (rowsF R L) s)) (h ++ t) := by
  have b := rowsF_b o
  have bn := b.n
  have S := ends_u hs
  have sl := S.b.l
  obtain ⟨ids, e1, e2, e3⟩ := A
  generalize hrs : rowsF R L = rs at *
  suffices q : ∃ v h1, f_walk_to [.obj n, .key s] h = .ok v h1 ∧ (v = fq (wT rs s) ∧ Pre h h1) by
    obtain ⟨v, h1, e, rfl, t, rfl⟩ := q
    exact ⟨t, e⟩
  have base : (h ++ [MO.lst [fq 0]])[h.length]? = some (.lst [fq 0]) := gl
  obtain ⟨t, le⟩ := lc_all (I := eZip (aCons (eVar 0) (aCons (eF (eVar 1)) aNil))) (it := itZip (.obj n) (.tup (s.map .int))) (g := gTupF [5, 6]) (c := tBl (eOp pGt (eVar 6) (eC (.int 0)))) (A := eOp pIdx (eOp pIdx (eVar 5) (eOp pSub (eVar 6) (eC (.int 1)))) (eC (.int 0))) (vs := [5, 6]) (r := [some (.obj n), some (.key s), none, none, none, none, none]) (h := h ++ [.lst [fq 0]]) (base := h ++ [.lst [fq 0]]) (n := rs.length) (fun r => fq (rch rs s r)) (fun r => decide (0 < s.getD r 0)) (by omega)
    (by simp [get_old (t := [MO.lst [fq 0]]) e1])
    (fun i t hi => by
      obtain ⟨id, d1, d2, d3⟩ := e3 i rs[i] (List.getElem?_eq_getElem hi)
      have hsi : i < s.length := by omega
      have sg : s.getD i 0 = s[i] := getD_of (List.getElem?_eq_getElem hsi)
      refine ⟨.tup [.obj id, .int s[i]], [some (.obj n), some (.key s), none, none, none, some (.obj id), some (.int s[i])], [], ?_, rfl, ?_, fun q => ⟨[], ?_⟩⟩
      · have : (h ++ [MO.lst [fq 0]] ++ t)[n]? = some (.lst (ids.map .obj)) := get_old (get_old e1)
        simp only [itZip, seqOf, this, List.getElem?_map, d1, List.getElem?_eq_getElem hsi, Option.map]
      · rw [List.append_nil, sg]
        exact t_bl (x_op (x_var rfl) x_c rfl)
      · simp only [List.append_nil]
        subst hrs
        refine x_reach o hs hi (of_decide_eq_true q) (get_old (get_old d3)) (x_var rfl) ?_
        rw [sg]; exact x_var rfl)
    (fun t => by
      have : (h ++ [MO.lst [fq 0]] ++ t)[n]? = some (.lst (ids.map .obj)) := get_old (get_old e1)
      simp only [itZip, seqOf, this]
      rw [List.getElem?_eq_none (by simp; omega)]
      simp; omega)
  have ef : ((List.range rs.length).filter fun r => decide (0 < s.getD r 0)).map (fun r => fq (rch rs s r)) = (rLn rs s rs.length).map fq := by
    unfold rLn; rw [List.map_map]; rfl
  rw [ef] at le
  have ll := rLn_len rs s rs.length
  have fr : ∀ x ∈ (0 : Rat) :: rLn rs s rs.length, Frd 8 30 x := fun x hx => by
    rcases List.mem_cons.mp hx with rfl | hx
    · exact (Frd.zero 8).mono (by decide)
    · obtain ⟨r, hr, rfl⟩ := List.mem_map.mp hx
      have := List.mem_range.mp (List.mem_filter.mp hr).1
      subst hrs
      exact rch_b o hs this
  generalize hl : rLn rs s rs.length = l at *
  generalize hk : h ++ [MO.lst [fq 0]] ++ .lst (l.map fq) :: t = k at *
  have p : Pre h k := by rw [← hk]; exact (Pre.of _ _).app _
  have k1 : k[h.length]? = some (.lst [fq 0]) := by rw [← hk]; exact get_old gl
  have k2 : k[(h ++ [MO.lst [fq 0]]).length]? = some (.lst (l.map fq)) := by rw [← hk]; simp
  have ad : pAdd (.obj h.length) (.obj (h ++ [MO.lst [fq 0]]).length) k = .ok (.obj k.length) (k ++ [.lst (((0 : Rat) :: l).map fq)]) := p_addL k1 k2 (by simp; omega)
  refine w_fn rfl ?_
  unfold b_walk_to
  refine w_seq (w_set (x_op (x_lst (x_cons x_c x_nil) (show 1 ≤ 16777216 by decide)) le ad) ?_)
  refine w_seq (w_set x_c ?_)
  have G : (k ++ [MO.lst (((0 : Rat) :: l).map fq)])[k.length]? = some (.lst (((0 : Rat) :: l).map fq)) := gl
  generalize hg : k ++ [MO.lst (((0 : Rat) :: l).map fq)] = g at *
  have pg : Pre h g := by rw [← hg]; exact p.app _
  refine w_seq (w_for ((0 : Rat) :: l).length (fun i r g' => ∃ x4, r = [some (.obj n), some (.key s), some (.obj k.length), some (fq (dq (((0 : Rat) :: l).take i))), x4, none, none] ∧ g' = g) (it := itObj k.length) (h1 := g) ?_ (by simp; omega) ⟨_, rfl, rfl⟩ ?_ ?_)
  · show eIter (eVar 2) [some (.obj n), some (.key s), some (.obj k.length), some (.tup [.int 0, .int 1]), none, none, none] g = _
    unfold eIter
    rw [x_var rfl]
    simp only [bind_ok, G]
  · rintro i r g' hi ⟨x4, rfl, rfl⟩
    have e7 : ((0 : Rat) :: l).take (i + 1) = ((0 : Rat) :: l).take i ++ [((0 : Rat) :: l)[i]] := take_snoc hi
    have f1 := dq_frd fr i (by omega)
    have f2 := fr _ (List.getElem_mem hi)
    have i7 : i ≤ 7 := by simp at hi; omega
    refine ⟨fq ((0 : Rat) :: l)[i], _, ?_, rfl, ?_⟩
    · simp only [itObj, G]
      rw [List.getElem?_map, List.getElem?_eq_getElem hi]; rfl
    generalize ((0 : Rat) :: l)[i] = x at *
    have sx : Sm 1040 x := Frd.sm (E := 1) f2 (by decide) (by decide) (by decide)
    have s1 : Sm 1040 (dq (((0 : Rat) :: l).take i)) := Frd.sm (E := 1) f1 (by decide) (by decide) (by omega)
    refine w_set (x_call (x_cons (x_var rfl) (x_cons (x_call (x_cons (x_tup (x_cons x_c (x_cons x_c x_nil)) (show 2 ≤ 16777216 by decide)) (x_cons (x_var rfl) x_nil)) (times_eq sm2 sx (by decide) g')) x_nil)) (plus_eq s1 (sm2.mul sx) (by decide) g')) ⟨some (fq x), ?_, rfl⟩
    rw [e7, dq_snoc]
    rfl
  · rintro r g' ⟨x4, rfl, rfl⟩
    refine ⟨?_, ?_⟩
    · simp only [itObj, G]
      rw [List.getElem?_eq_none (by simp)]
    rw [List.take_length]
    have fl := dq_frd fr ((0 : Rat) :: l).length (Nat.le_refl _)
    rw [List.take_length] at fl
    have s1 : Sm 1040 (dq ((0 : Rat) :: l)) := Frd.sm (E := 1) fl (by decide) (by decide) (by simp; omega)
    have sm : ∀ x ∈ (0 : Rat) :: l, Sm 1040 x := fun x hx => Frd.sm (E := 1) (fr x hx) (by decide) (by decide) (by decide)
    have gr := greatest_eq 0 l 1040 (by decide) (by omega) sm G
    have e8 : gq ((0 : Rat) :: l) 0 = rmx rs s rs.length := by
      rw [← rLn_gq, hl]
      simp only [gq, List.foldl_cons]
      congr 1
    have s2 : Sm 1040 (gq ((0 : Rat) :: l) 0) := by
      rw [e8]
      subst hrs
      exact Frd.sm (E := 1) (rmx_b o hs _ (Nat.le_refl _)) (by decide) (by decide) (by decide)
    refine w_ret (x_call (x_cons (x_var rfl) (x_cons (x_call (x_cons (x_var rfl) x_nil) gr) x_nil)) (minus_eq s1 s2 (by decide) g')) ⟨?_, pg⟩
    rw [e8, ← hl, rLn_dq]
    rfl
end WR

namespace WR
open PySem PySem.Spec PyProof.Rows L2
/-! ### k15: plan_to, standings_of, most_found -/
theorem x_ins {A : EX} {L : AX} {r : Fm} {h h1 h2 : IH} {w : PV} {n : Nat} {xs : List PV} (a : A r h = .ok (.obj n) h1) (g : h1[n]? = some (.lst xs)) (e : L r h1 = .ok [.int 0, w] h2) (g2 : h2[n]? = some (.lst xs)) (l : xs.length < 16777216) : eInsert A L r h = .ok .non (h2.set n (.lst (w :: xs))) := by
  have q : xs.length < 16777216 ∧ (0 : Int) ≤ 0 ∧ (0 : Int) < 1000000000 := ⟨l, by decide, by decide⟩
  simp only [eInsert, a, bind_ok, g, e, g2, if_pos q]
  rfl
theorem plT_t {R : Int} {L : List Ch} (o : OkL R L) {s : List Int} (hs : s ∈ endsF (rowsF R L)) {r : Nat} (hr : r ≤ (rowsF R L).length) : (plT (rowsF R L) s r).length ≤ 5 ∧ ∀ t ∈ plT (rowsF R L) s r, OkT R t ∧ Sm 10 t.2 := by
  obtain ⟨T, h1, h2, h3, h4, _⟩ := plT_ok o hs r hr
  have bn := (rowsF_b o).n
  refine ⟨by rw [h1, tnL, List.length_map]; omega, fun t ht => ?_⟩
  rw [h1, tnL] at ht
  obtain ⟨i, hi, rfl⟩ := List.mem_map.mp ht
  have hi' := h4 i hi
  have oc := o.c L[i] (List.getElem_mem hi')
  rw [cL_eq hi']
  have f1 := oc.f1
  have f2 := oc.f2
  exact ⟨⟨oc.r0, oc.r1, by show (0 : Rat) < _; grind, Rat.le_trans f2 (by decide +kernel), oc.sm.mono (by decide)⟩, oc.sm⟩
theorem plT_okP {R : Int} {L : List Ch} (o : OkL R L) {s : List Int} (hs : s ∈ endsF (rowsF R L)) : OkP (R, plT (rowsF R L) s (rowsF R L).length, 0) := by
  obtain ⟨h1, h2⟩ := plT_t o hs (Nat.le_refl _)
  exact ⟨o.r1, o.r5, (show (plT (rowsF R L) s (rowsF R L).length).length ≤ 60 by omega), fun t ht => (h2 t ht).1, Rat.le_refl, (show (0 : Rat) ≤ 1000000000000 by decide +kernel), sm0.mono (by decide)⟩
theorem planTo_eq {R : Int} {L : List Ch} (o : OkL R L) {s : List Int} (hs : s ∈ endsF (rowsF R L)) {n : Nat} {h : IH} (A : RowsAt h n (rowsF R L)) : ∃ m t, f_plan_to [.int R, .obj n, .key s] h = .ok (.obj m) (h ++ t) ∧ (h ++ t)[m]? = some (.ins "Plan" [("held", pq (R, plT (rowsF R L) s (rowsF R L).length, 0))]) := by
  have b := rowsF_b o
  have bn := b.n
  have S := ends_u hs
  have sl := S.b.l
  obtain ⟨ids, e1, e2, e3⟩ := A
  suffices q : ∃ v h1, f_plan_to [.int R, .obj n, .key s] h = .ok v h1 ∧ (∃ m, v = .obj m ∧ Pre h h1 ∧ h1[m]? = some (.ins "Plan" [("held", pq (R, plT (rowsF R L) s (rowsF R L).length, 0))])) by
    obtain ⟨v, h1, e, m, rfl, ⟨t, rfl⟩, q⟩ := q
    exact ⟨m, t, e, q⟩
  have okp := plT_okP o hs
  refine w_fn rfl ?_
  unfold b_plan_to
  refine w_seq (w_set (x_lst x_nil (by simp)) ?_)
  refine w_seq (w_for (rowsF R L).length (fun i r g => ∃ x4 x5 x6, r = [some (.int R), some (.obj n), some (.key s), some (.obj h.length), x4, x5, x6] ∧ Pre h g ∧ g[h.length]? = some (.lst ((plT (rowsF R L) s i).map tq))) (it := itEnum (.tup (s.map .int))) (h1 := h ++ [.lst []]) rfl (by omega) ⟨_, _, _, rfl, .of _ _, gl⟩ ?_ ?_)
  · rintro i r g hi ⟨x4, x5, x6, rfl, p, G⟩
    obtain ⟨id, d1, d2, d3⟩ := e3 i (rowsF R L)[i] (List.getElem?_eq_getElem hi)
    have hsi : i < s.length := by omega
    have sg : s.getD i 0 = s[i] := getD_of (List.getElem?_eq_getElem hsi)
    refine ⟨.tup [.int (i : Nat), .int s[i]], [some (.int R), some (.obj n), some (.key s), some (.obj h.length), some (.int (i : Nat)), some (.int s[i]), x6], ?_, rfl, ?_⟩
    · simp only [itEnum, seqOf, List.getElem?_map, List.getElem?_eq_getElem hsi, Option.map]
    obtain ⟨l5, pt⟩ := plT_t o hs (Nat.le_of_lt hi)
    refine w_if (b := decide (0 < s[i])) (t_bl (x_op (x_var rfl) x_c rfl)) (fun q => ?_) (fun q => ?_)
    · have q := of_decide_eq_true q
      have q' : 0 < s.getD i 0 := by rw [sg]; exact q
      have er := x_reach o hs hi q' (p.get d3) (r := [some (.int R), some (.obj n), some (.key s), some (.obj h.length), some (.int (i : Nat)), some (.int s[i]), x6]) (A := eOp pIdx (eVar 1) (eVar 4)) (B := eVar 5) (h0 := g) (x_op (x_var rfl) (x_var rfl) (p_idxL (p.get e1) (by omega) (by simp [d1]))) (by rw [sg]; exact x_var rfl)
      refine w_seq (w_set er ?_)
      have sr : Sm 1040 (rch (rowsF R L) s i) := Frd.sm (E := 1) (rch_b o hs hi) (by decide) (by decide) (by decide)
      have snoc : plT (rowsF R L) s (i + 1) = plT (rowsF R L) s i ++ [((i : Int), rch (rowsF R L) s i)] → (sExpr (eAppend (eVar 3) (aCons (eTup (aCons (eVar 4) (aCons (eVar 6) aNil))) aNil)) [some (.int R), some (.obj n), some (.key s), some (.obj h.length), some (.int (i : Nat)), some (.int s[i]), some (fq (rch (rowsF R L) s i))] g).Is (fun r g => ∃ x4 x5 x6, r = [some (.int R), some (.obj n), some (.key s), some (.obj h.length), x4, x5, x6] ∧ Pre h g ∧ g[h.length]? = some (.lst ((plT (rowsF R L) s (i + 1)).map tq))) (fun v h1 => ∃ m, v = .obj m ∧ Pre h h1 ∧ h1[m]? = some (.ins "Plan" [("held", pq (R, plT (rowsF R L) s (rowsF R L).length, 0))])) := fun e => by
        refine w_expr (x_app (x_var rfl) G (x_cons (x_tup (x_cons (x_var rfl) (x_cons (x_var rfl) x_nil)) (show 2 ≤ 16777216 by decide)) x_nil) G (by simp; omega)) ⟨_, _, _, rfl, p.set _ (Nat.le_refl _), ?_⟩
        rw [get_set_eq G, e]
        simp [tq]
      cases gl' : (plT (rowsF R L) s i).getLast? with
      | none =>
        have en : plT (rowsF R L) s i = [] := List.getLast?_eq_none_iff.mp gl'
        refine w_if (b := false) (t_and (b := false) (t_tru (x_var rfl) (by simp [pTru, G, en])) (by simp) (fun _ => ⟨rfl, rfl⟩)) (by simp) fun _ => snoc ?_
        simp only [plT, if_pos q', gl']
      | some t =>
        obtain ⟨ini, en⟩ := List.getLast?_eq_some_iff.mp gl'
        have st : Sm 10 t.2 := (pt t (by rw [en]; simp)).2
        have ls := less_eq sr st (by decide) g
        have ix : pIdx (.obj h.length) (.int (-1)) g = .ok (tq t) g := by
          have e : (plT (rowsF R L) s i).map tq = ini.map tq ++ [tq t] := by rw [en]; simp
          rw [e] at G
          simp only [pIdx, G, atI_m1, opt]
        refine w_if (b := decide (rch (rowsF R L) s i < t.2)) (t_and (b := true) (t_tru (x_var rfl) (by simp [pTru, G, en])) (fun _ => t_tru (x_call (x_cons (x_var rfl) (x_cons (x_op (x_op (x_var rfl) (A := eVar 3) (B := eUn pNeg (eC (.int 1))) (w := .int (-1)) (h2 := g) rfl ix) x_c (p_idxT (by decide) rfl)) x_nil)) ls) rfl) (by simp)) (fun z => ?_) (fun z => snoc ?_)
        · have z := of_decide_eq_true z
          refine w_expr (x_ins (x_var rfl) G (x_cons x_c (x_cons (x_tup (x_cons (x_var rfl) (x_cons (x_var rfl) x_nil)) (show 2 ≤ 16777216 by decide)) x_nil)) G (by simp; omega)) ⟨_, _, _, rfl, p.set _ (Nat.le_refl _), ?_⟩
          rw [get_set_eq G]
          simp only [plT, if_pos q', gl', if_pos z]
          rfl
        · have z := of_decide_eq_false z
          simp only [plT, if_pos q', gl', if_neg z]
    · have q := of_decide_eq_false q
      refine w_nil ⟨_, _, _, rfl, p, ?_⟩
      rw [G]
      simp only [plT, sg, if_neg q]
  · rintro r g ⟨x4, x5, x6, rfl, p, G⟩
    refine ⟨?_, ?_⟩
    · simp only [itEnum, seqOf]
      rw [List.getElem?_eq_none (by simp; omega)]
      simp; omega
    refine w_ret (x_call (x_cons (x_var rfl) (x_cons (x_b (x_cons (x_var rfl) x_nil) (v := tqs (plT (rowsF R L) s (rowsF R L).length)) (h2 := g) (by simp [G, tqs])) (x_cons x_c x_nil))) (mk_eq okp g)) ⟨g.length, rfl, p.app _, gl⟩
theorem ends_eq {rs : List Row} {m : Nat} {h : IH} (A : RowsAt h m rs) (b : RowsB rs) : ∃ n t, f_standings_of [.obj m] h = .ok (.obj n) (h ++ t) ∧ (h ++ t)[n]? = some (.lst ((endsF rs).map .key)) := by
  obtain ⟨ids, e1, e2, e3⟩ := A
  have bn := b.n
  suffices q : ∃ v h1, f_standings_of [.obj m] h = .ok v h1 ∧ (∃ n, v = .obj n ∧ Pre h h1 ∧ h1[n]? = some (.lst ((endsF rs).map .key))) by
    obtain ⟨v, h1, e, n, rfl, ⟨t, rfl⟩, q1⟩ := q
    exact ⟨n, t, e, q1⟩
  refine w_fn rfl ?_
  unfold b_standings_of
  refine w_seq (w_set (x_lst (x_cons (x_key x_nil rfl (by simp)) x_nil) (by simp)) ?_)
  refine w_seq (w_for rs.length (fun i r g => ∃ e x2, r = [some (.obj m), some (.obj e), x2, none, none] ∧ Pre h g ∧ g[e]? = some (.lst ((endsP rs i).map .key))) (it := itObj m) (h1 := h ++ [.lst [.key []]]) (by simp [get_old (t := [MO.lst [.key []]]) e1]) (by omega) ⟨_, _, rfl, .of _ _, gl⟩ ?_ ?_)
  · rintro i r g hi ⟨e, x2, rfl, p, G⟩
    obtain ⟨id, d1, d2, d3⟩ := e3 i rs[i] (List.getElem?_eq_getElem hi)
    have rl := b.l i rs[i] (List.getElem?_eq_getElem hi)
    have gr : rs.getD i [] = rs[i] := getD_of (List.getElem?_eq_getElem hi)
    have el := ends_lt b (show i ≤ rs.length by omega)
    have el2 := ends_lt b (show i + 1 ≤ rs.length by omega)
    refine ⟨.obj id, _, by simp [p.get e1, d1], rfl, ?_⟩
    have fe : ((List.range (endsP rs i).length).flatMap fun k => (List.range (rs[i].length + 1)).map fun j => PV.key ((endsP rs i).getD k [] ++ [((j : Nat) : Int)])) = (endsP rs (i + 1)).map .key := by
      rw [flatMap_range (endsP rs i) [] fun one => (List.range (rs[i].length + 1)).map fun j => PV.key (one ++ [((j : Nat) : Int)])]
      simp only [endsP, gr, List.map_flatMap, List.map_map]
      rfl
    have le := lc2_pure (I := eIter (eVar 1)) (I1 := eRange1 (aCons (eOp pAdd (eB pLen (aCons (eVar 2) aNil)) (eC (.int 1))) aNil)) (it := itObj e) (it1 := fun _ => itRange 0 (rs[i].length + 1)) (g := gVar 3) (g1 := gVar 4) (A := eOp pAddK (eVar 3) (eKey (aCons (eVar 4) aNil))) (vs := [3, 4]) (vs1 := [4]) (r := [some (.obj m), some (.obj e), some (.obj id), none, none]) (h := g) (base := g) (n := (endsP rs i).length) (fun _ => rs[i].length + 1) (fun k j => .key ((endsP rs i).getD k [] ++ [((j : Nat) : Int)])) (by simp [G]) (by omega) (by intro k _; omega) (by rw [fe, List.length_map]; omega)
      (fun k acc hk => by
        refine ⟨.key (endsP rs i)[k], _, ?_, rfl, ?_, fun j acc hj => ⟨.int (0 + (j : Nat)), _, by simp [hj], rfl, ?_⟩, fun acc => by simp⟩
        · simp only [itObj, get_old G]
          rw [List.getElem?_map, List.getElem?_eq_getElem hk]; rfl
        · have q2 : eOp pAdd (eB pLen (aCons (eVar 2) aNil)) (eC (.int 1)) [some (.obj m), some (.obj e), some (.obj id), some (.key (endsP rs i)[k]), none] (g ++ [.lst acc]) = .ok (.int (rs[i].length + 1)) (g ++ [.lst acc]) := by
            have := x_op (p := pAdd) (x_b (f := pLen) (x_cons (A := eVar 2) (r := [some (.obj m), some (.obj e), some (.obj id), some (.key (endsP rs i)[k]), none]) (h := g ++ [.lst acc]) (x_var rfl) x_nil) (p_lenL (get_old (p.get d3)))) (x_c (v := .int 1)) p_addI
            rw [List.length_map] at this
            exact this
          have k1 : rngOk ((rs[i].length : Int) + 1) = true := decide_eq_true (by omega)
          have k2 : ((rs[i].length : Int) + 1).toNat = rs[i].length + 1 := by omega
          have q3 := x_cons q2 x_nil
          show eRange1 _ [some (.obj m), some (.obj e), some (.obj id), some (.key (endsP rs i)[k]), none] (g ++ [.lst acc]) = _
          unfold eRange1
          rw [q3]
          simp only [bind_ok, k1, if_true, k2]
        · rw [getD_of (List.getElem?_eq_getElem hk)]
          have hm := endsP_mem.mp (List.getElem_mem hk)
          refine x_op (x_var rfl) (x_key (x_cons (x_var rfl) x_nil) rfl (by simp)) ?_
          simp only [pAddK]
          rw [if_pos (by have := hm.1; simp; omega), Int.zero_add])
      (fun acc => by
        simp only [itObj, get_old G]
        rw [List.getElem?_eq_none (by simp)])
    rw [fe] at le
    exact w_set le ⟨_, _, rfl, p.app _, gl⟩
  · rintro r g ⟨e, x2, rfl, p, G⟩
    exact ⟨by simp [p.get e1, e2], w_ret (x_var rfl) ⟨e, rfl, p, G⟩⟩
theorem ints_sum (rs : List Row) (s : List Int) : ∀ n, ((List.range n).map fun r => (((rs.getD r []).take (s.getD r 0).toNat).map (·.2)).sum).sum = wst rs s n
  | 0 => rfl
  | n + 1 => by
    rw [List.range_succ, List.map_append, List.sum_append, ints_sum rs s n]
    simp [wst]
theorem weightS {R : Int} {L : List Ch} (o : OkL R L) {s : List Int} (hs : s ∈ endsF (rowsF R L)) {n : Nat} {g : IH} (A : RowsAt g n (rowsF R L)) (v0 v1 v2 v4 v6 : Option PV) : ∃ t, eB pSum (aCons (eLc (eZip (aCons (eVar 3) (aCons (eF (eVar 5)) aNil))) (gTupF [9, 10]) tYesX (eB pSum (aCons (eLc (eIter (eSl (eVar 9) oNone (oSome (eVar 10)))) (gTupF [7, 8]) tYesX (eVar 8) [7, 8]) aNil)) [9, 10]) aNil) [v0, v1, v2, some (.obj n), v4, some (.key s), v6, none, none, none, none] g = .ok (.int (wst (rowsF R L) s (rowsF R L).length)) (g ++ t) := by
  have b := rowsF_b o
  have bn := b.n
  have S := ends_u hs
  have sl := S.b.l
  obtain ⟨ids, e1, e2, e3⟩ := A
  obtain ⟨t, le⟩ := lc_all (I := eZip (aCons (eVar 3) (aCons (eF (eVar 5)) aNil))) (it := itZip (.obj n) (.tup (s.map .int))) (g := gTupF [9, 10]) (c := tYesX) (A := eB pSum (aCons (eLc (eIter (eSl (eVar 9) oNone (oSome (eVar 10)))) (gTupF [7, 8]) tYesX (eVar 8) [7, 8]) aNil)) (vs := [9, 10]) (r := [v0, v1, v2, some (.obj n), v4, some (.key s), v6, none, none, none, none]) (h := g) (base := g) (n := (rowsF R L).length) (fun r => .int ((((rowsF R L).getD r []).take (s.getD r 0).toNat).map (·.2)).sum) (fun _ => true) (by omega)
    (by simp [e1])
    (fun i t hi => by
      obtain ⟨id, d1, d2, d3⟩ := e3 i (rowsF R L)[i] (List.getElem?_eq_getElem hi)
      have hsi : i < s.length := by omega
      have sg : s.getD i 0 = s[i] := getD_of (List.getElem?_eq_getElem hsi)
      have gr : (rowsF R L).getD i [] = (rowsF R L)[i] := getD_of (List.getElem?_eq_getElem hi)
      have m0 := S.b.p s[i] (by simp)
      have rl := b.l i (rowsF R L)[i] (List.getElem?_eq_getElem hi)
      have gn : (g ++ t)[n]? = some (.lst (ids.map .obj)) := get_old e1
      have gd : (g ++ t)[id]? = some (.lst (((rowsF R L)[i]).map re)) := get_old d3
      refine ⟨.tup [.obj id, .int s[i]], [v0, v1, v2, some (.obj n), v4, some (.key s), v6, none, none, some (.obj id), some (.int s[i])], [], ?_, rfl, by rw [List.append_nil]; rfl, fun _ => ?_⟩
      · simp only [itZip, seqOf, gn, List.getElem?_map, d1, List.getElem?_eq_getElem hsi, Option.map]
      simp only [List.append_nil, List.nil_append, gr, sg]
      generalize hk : g ++ t = k at *
      obtain ⟨t2, le⟩ := lc_all (I := eIter (eSl (eVar 9) oNone (oSome (eVar 10)))) (it := itObj k.length) (g := gTupF [7, 8]) (c := tYesX) (A := eVar 8) (vs := [7, 8]) (r := [v0, v1, v2, some (.obj n), v4, some (.key s), v6, none, none, some (.obj id), some (.int s[i])]) (h := k) (base := k ++ [.lst ((((rowsF R L)[i]).map re).take s[i].toNat)]) (n := (((rowsF R L)[i]).take s[i].toNat).length) (fun j => .int ((((rowsF R L)[i]).take s[i].toNat).getD j (0, 0)).2) (fun _ => true) (by simp; omega)
        (by
          have q := x_sl (l := oNone) (o := oSome (eVar 10)) (A := eVar 9) (r := [v0, v1, v2, some (.obj n), v4, some (.key s), v6, none, none, some (.obj id), some (.int s[i])]) (h := k) (x_var rfl) o_none (o_some (x_var rfl)) (p_slTo gd m0)
          have base : (k ++ [MO.lst ((((rowsF R L)[i]).map re).take s[i].toNat)])[k.length]? = some (.lst ((((rowsF R L)[i]).map re).take s[i].toNat)) := gl
          simp only [eIter, q, bind_ok, base])
        (fun j t hj => by
          refine ⟨re (((rowsF R L)[i]).take s[i].toNat)[j], _, [], ?_, by simp [re]; rfl, by simp, fun _ => ⟨[], ?_⟩⟩
          · have q : (k ++ [MO.lst ((((rowsF R L)[i]).map re).take s[i].toNat)] ++ t)[k.length]? = some (.lst ((((rowsF R L)[i]).map re).take s[i].toNat)) := get_old gl
            simp only [itObj, q]
            rw [← List.map_take, List.getElem?_map, List.getElem?_eq_getElem hj]
            rfl
          · simp only [getD_of (List.getElem?_eq_getElem hj)]
            simp)
        (fun t => by
          have q : (k ++ [MO.lst ((((rowsF R L)[i]).map re).take s[i].toNat)] ++ t)[k.length]? = some (.lst ((((rowsF R L)[i]).map re).take s[i].toNat)) := get_old gl
          simp only [itObj, q]
          rw [List.getElem?_eq_none (by simp)])
      rw [filt_range' (((rowsF R L)[i]).take s[i].toNat)] at le
      have sm : pSum [.obj (k ++ [MO.lst ((((rowsF R L)[i]).map re).take s[i].toNat)]).length] (k ++ [MO.lst ((((rowsF R L)[i]).map re).take s[i].toNat)] ++ .lst (((((rowsF R L)[i]).take s[i].toNat).map (·.2)).map .int) :: t2) = .ok (.int (((((rowsF R L)[i]).take s[i].toNat).map (·.2)).sum)) (k ++ [MO.lst ((((rowsF R L)[i]).map re).take s[i].toNat)] ++ .lst (((((rowsF R L)[i]).take s[i].toNat).map (·.2)).map .int) :: t2) := by
        simp only [pSum, ga0, List.getElem?_cons_zero, keyOf_ints]
      have fin := x_b (f := pSum) (x_cons le x_nil) sm
      refine ⟨MO.lst ((((rowsF R L)[i]).map re).take s[i].toNat) :: .lst (((((rowsF R L)[i]).take s[i].toNat).map (·.2)).map .int) :: t2, ?_⟩
      rw [fin, ← hk]
      simp)
    (fun t => by
      have : (g ++ t)[n]? = some (.lst (ids.map .obj)) := get_old e1
      simp only [itZip, seqOf, this]
      rw [List.getElem?_eq_none (by simp; omega)]
      simp; omega)
  have ef : ((List.range (rowsF R L).length).filter fun _ => true).map (fun r => PV.int ((((rowsF R L).getD r []).take (s.getD r 0).toNat).map (·.2)).sum) = ((List.range (rowsF R L).length).map fun r => ((((rowsF R L).getD r []).take (s.getD r 0).toNat).map (·.2)).sum).map .int := by
    rw [List.filter_eq_self.mpr (by simp), List.map_map]; rfl
  rw [ef] at le
  have fin : pSum [.obj g.length] (g ++ .lst (((List.range (rowsF R L).length).map fun r => ((((rowsF R L).getD r []).take (s.getD r 0).toNat).map (·.2)).sum).map .int) :: t) = .ok (.int (wst (rowsF R L) s (rowsF R L).length)) (g ++ .lst (((List.range (rowsF R L).length).map fun r => ((((rowsF R L).getD r []).take (s.getD r 0).toNat).map (·.2)).sum).map .int) :: t) := by
    simp only [pSum, ga0, List.getElem?_cons_zero, keyOf_ints, ints_sum]
  exact ⟨_, x_b (x_cons le x_nil) fin⟩
theorem wT_sm {R : Int} {L : List Ch} (o : OkL R L) {s : List Int} (hs : s ∈ endsF (rowsF R L)) : Sm 2081 (wT (rowsF R L) s) := by
  have bn := (rowsF_b o).n
  have ll := rLn_len (rowsF R L) s (rowsF R L).length
  have fr : ∀ x ∈ (0 : Rat) :: rLn (rowsF R L) s (rowsF R L).length, Frd 8 30 x := fun x hx => by
    rcases List.mem_cons.mp hx with rfl | hx
    · exact (Frd.zero 8).mono (by decide)
    · obtain ⟨r, hr, rfl⟩ := List.mem_map.mp hx
      exact rch_b o hs (List.mem_range.mp (List.mem_filter.mp hr).1)
  have fl := dq_frd fr _ (Nat.le_refl _)
  rw [List.take_length, rLn_dq] at fl
  have s1 : Sm 1040 (2 * sumN (rch (rowsF R L) s) (rowsF R L).length) := Frd.sm (E := 1) fl (by decide) (by decide) (by simp; omega)
  have s2 : Sm 1040 (rmx (rowsF R L) s (rowsF R L).length) := Frd.sm (E := 1) (rmx_b o hs _ (Nat.le_refl _)) (by decide) (by decide) (by decide)
  exact s1.sub s2
theorem wT_st0 (R : Int) (rs : List Row) : wT rs (st0 R) = 0 := by
  have r0 : ∀ r, rch rs (st0 R) r = 0 := fun r => by
    unfold rch
    rw [if_neg (by rw [st0_getD]; decide)]
  have a : rsm rs (st0 R) = 0 := sumN_zero fun i _ => r0 i
  have c : ∀ n, rmx rs (st0 R) n = 0 := fun n => by
    induction n with
    | zero => rfl
    | succ n ih => simp only [rmx, ih, r0]; rfl
  unfold wT
  rw [a, c]
  grind
theorem wst_st0 (R : Int) (rs : List Row) : ∀ n, wst rs (st0 R) n = 0
  | 0 => rfl
  | n + 1 => by
    simp only [wst, wst_st0 R rs n, st0_getD]; rfl
structure MostIs (R : Int) (L : List Ch) (F : Rat) (w : Int) (sb : List Int) : Prop where
  me : sb ∈ endsF (rowsF R L)
  le : wT (rowsF R L) sb ≤ F
  eq : w = wst (rowsF R L) sb (rowsF R L).length
theorem most_eq {R : Int} {L : List Ch} (o : OkL R L) {F : Rat} {N : Nat} (sF : Sm N F) (hN : N ≤ 5000) (f1 : 1 ≤ F) (f2 : F ≤ 1000000000000) (h : IH) : ∃ w sb m t, f_most_found [.int R, chs L, fq F] h = .ok (.tup [.int w, .obj m]) (h ++ t) ∧ (h ++ t)[m]? = some (.ins "Plan" [("held", pq (R, plT (rowsF R L) sb (rowsF R L).length, 0))]) ∧ MostIs R L F w sb ∧ ∀ s ∈ endsF (rowsF R L), wT (rowsF R L) s ≤ F → wst (rowsF R L) s (rowsF R L).length ≤ w := by
  have b := rowsF_b o
  have bn := b.n
  have s0 := st0_mem (rowsF_len R L)
  suffices q : ∃ v h1, f_most_found [.int R, chs L, fq F] h = .ok v h1 ∧ (∃ w sb m, v = .tup [.int w, .obj m] ∧ Pre h h1 ∧ h1[m]? = some (.ins "Plan" [("held", pq (R, plT (rowsF R L) sb (rowsF R L).length, 0))]) ∧ MostIs R L F w sb ∧ ∀ s ∈ endsF (rowsF R L), wT (rowsF R L) s ≤ F → wst (rowsF R L) s (rowsF R L).length ≤ w) by
    obtain ⟨v, h1, e, w, sb, m, rfl, ⟨t, rfl⟩, q⟩ := q
    exact ⟨w, sb, m, t, e, q⟩
  obtain ⟨t1, c1⟩ := chances_eq o h
  obtain ⟨t2, c2, c3⟩ := rows_eq o (h ++ t1)
  obtain ⟨e, t3, c4, c5⟩ := ends_eq c3 b
  have el := ends_lt b (Nat.le_refl (rowsF R L).length)
  have wi := within_eq sF (by omega) 1 1000000000000 (by decide) (by decide) (h ++ t1)
  have wd : decide (((1 : Int) : Rat) ≤ F ∧ F ≤ ((1000000000000 : Int) : Rat)) = true := decide_eq_true ⟨f1, f2⟩
  rw [wd] at wi
  refine w_fn rfl ?_
  unfold b_most_found
  refine w_seq (w_expr (x_call (x_cons (x_var rfl) (x_cons (x_var rfl) x_nil)) c1) ?_)
  refine w_seq (w_if (b := false) (t_not (b := true) (t_tru (x_call (x_cons (x_var rfl) (x_cons x_c (x_cons x_c x_nil))) wi) rfl)) (by simp) fun _ => w_nil ?_)
  refine w_seq (w_set (x_call (x_cons (x_var rfl) (x_cons (x_var rfl) x_nil)) c2) ?_)
  refine w_seq (w_set (x_tup (x_cons x_c (x_cons (x_op (x_key (x_cons x_c x_nil) rfl (by decide)) (x_var rfl) (p_mulK o.r1 (by have := o.r5; omega) _)) x_nil)) (show 2 ≤ 16777216 by decide)) ?_)
  have pk : Pre h (h ++ t1 ++ t2) := (Pre.of _ _).app _
  have pk2 : Pre (h ++ t1 ++ t2) (h ++ t1 ++ t2 ++ t3) := .of _ _
  generalize (h ++ t1).length = n at *
  generalize h ++ t1 ++ t2 ++ t3 = k2 at *
  generalize h ++ t1 ++ t2 = k at *
  refine w_seq (w_for (endsF (rowsF R L)).length (fun i r g => ∃ w sb x5 x6, r = [some (.int R), some (chs L), some (fq F), some (.obj n), some (.tup [.int w, .key sb]), x5, x6, none, none, none, none] ∧ Pre k2 g ∧ MostIs R L F w sb ∧ ∀ s ∈ (endsF (rowsF R L)).take i, wT (rowsF R L) s ≤ F → wst (rowsF R L) s (rowsF R L).length ≤ w) (it := itObj e) (h1 := k2) ?_ (by unfold endsF; omega) ⟨0, st0 R, _, _, rfl, .refl _, ⟨s0, by rw [wT_st0]; grind, (wst_st0 _ _ _).symm⟩, by simp⟩ ?_ ?_)
  · have := x_call (f := f_standings_of) (x_cons (A := eVar 3) (r := [some (.int R), some (chs L), some (fq F), some (.obj n), some (.tup [.int 0, .key (st0 R)]), none, none, none, none, none, none]) (h := k) (x_var rfl) x_nil) c4
    show eIter _ [some (.int R), some (chs L), some (fq F), some (.obj n), some (.tup [.int 0, .key (st0 R)]), none, none, none, none, none, none] _ = _
    unfold eIter
    rw [this]
    simp only [bind_ok, c5]
  · rintro i r g hi ⟨w, sb, x5, x6, rfl, p, mi, hm⟩
    have sm : (endsF (rowsF R L))[i] ∈ endsF (rowsF R L) := List.getElem_mem hi
    have e7 : (endsF (rowsF R L)).take (i + 1) = (endsF (rowsF R L)).take i ++ [(endsF (rowsF R L))[i]] := by rw [List.take_add_one]; simp [hi]
    rw [e7]
    refine ⟨.key (endsF (rowsF R L))[i], _, ?_, rfl, ?_⟩
    · simp only [itObj, p.get c5]
      rw [List.getElem?_map, List.getElem?_eq_getElem hi]; rfl
    generalize (endsF (rowsF R L))[i] = s at *
    obtain ⟨t4, c6⟩ := walk_eq o sm ((c3.pre pk2).pre p)
    have ls := less_eq sF (wT_sm o sm) (by omega) (g ++ t4)
    refine w_if (b := !decide (F < wT (rowsF R L) s)) (t_not (t_tru (x_call (x_cons (x_var rfl) (x_cons (x_call (x_cons (x_var rfl) (x_cons (x_var rfl) x_nil)) c6) x_nil)) ls) rfl)) (fun q => ?_) (fun q => ?_)
    · have q : wT (rowsF R L) s ≤ F := Rat.not_lt.mp (by simpa using q)
      obtain ⟨t5, c7⟩ := weightS o sm (((c3.pre pk2).pre p).pre (.of _ t4)) (some (.int R)) (some (chs L)) (some (fq F)) (some (.tup [.int w, .key sb])) x6
      refine w_seq (w_set c7 ?_)
      have p2 : Pre k2 (g ++ t4 ++ t5) := (p.app _).app _
      refine w_set (x_b (f := pMaxP) (v := if gtP (wst (rowsF R L) s (rowsF R L).length) s w sb then .tup [.int (wst (rowsF R L) s (rowsF R L).length), .key s] else .tup [.int w, .key sb]) (h2 := g ++ t4 ++ t5) (x_cons (x_var rfl) (x_cons (x_tup (x_cons (x_var rfl) (x_cons (x_var rfl) x_nil)) (show 2 ≤ 16777216 by decide)) x_nil)) rfl) ?_
      cases z : gtP (wst (rowsF R L) s (rowsF R L).length) s w sb with
      | true =>
        have ge : w ≤ wst (rowsF R L) s (rowsF R L).length := by
          unfold gtP at z
          split at z
          · omega
          · have := of_decide_eq_true z; omega
        refine ⟨_, s, _, _, rfl, p2, ⟨sm, q, rfl⟩, fun u hu hw => ?_⟩
        rcases List.mem_append.mp hu with hu | hu
        · have := hm u hu hw; omega
        · rw [List.mem_singleton.mp hu]; exact Int.le_refl _
      | false =>
        have ge : wst (rowsF R L) s (rowsF R L).length ≤ w := by
          unfold gtP at z
          split at z
          · omega
          · have := of_decide_eq_false z; omega
        refine ⟨w, sb, _, _, rfl, p2, mi, fun u hu hw => ?_⟩
        rcases List.mem_append.mp hu with hu | hu
        · exact hm u hu hw
        · rw [List.mem_singleton.mp hu]; exact ge
    · have q : ¬ wT (rowsF R L) s ≤ F := Rat.not_le.mpr (by simpa using q)
      refine w_nil ⟨w, sb, _, _, rfl, p.app _, mi, fun u hu hw => ?_⟩
      rcases List.mem_append.mp hu with hu | hu
      · exact hm u hu hw
      · rw [List.mem_singleton.mp hu] at hw; exact absurd hw q
  · rintro r g ⟨w, sb, x5, x6, rfl, p, mi, hm⟩
    rw [List.take_length] at hm
    refine ⟨?_, ?_⟩
    · simp only [itObj, p.get c5]
      rw [List.getElem?_eq_none (by simp)]
    obtain ⟨m, t4, c6, c7⟩ := planTo_eq o mi.me ((c3.pre pk2).pre p)
    refine w_ret (x_tup (x_cons (x_op (x_var rfl) x_c (p_idxT (by decide) rfl)) (x_cons (x_call (x_cons (x_var rfl) (x_cons (x_var rfl) (x_cons (x_op (x_var rfl) x_c (p_idxT (v := .key sb) (by decide) rfl)) x_nil))) c6) x_nil)) (show 2 ≤ 16777216 by decide)) ⟨w, sb, m, rfl, ((pk.trans pk2).trans p).app _, c7, mi, hm⟩
end WR

namespace WR
open PySem PySem.Spec PyProof.Rows L2
/-! ### k15: what a row of places reaches within a walk -/
def hitW (L : List Ch) (F : Rat) (T : List Nat) : Int := wsm L (fun i => hitB 0 F ((plsW L wI).wk T i)) L.length
theorem wsm_mono {L : List Ch} {H G : Nat → Bool} : ∀ {n : Nat}, (∀ i, i < n → 0 ≤ (cL L i).2.2) → (∀ i, i < n → H i = true → G i = true) → wsm L H n ≤ wsm L G n
  | 0, _, _ => Int.le_refl _
  | n + 1, w, h => by
    have a := wsm_mono (n := n) (H := H) (G := G) (fun i hi => w i (by omega)) fun i hi => h i (by omega)
    have b := w n (by omega)
    have c := h n (by omega)
    simp only [wsm]
    cases z : H n with
    | true => rw [c z]; simp; omega
    | false =>
      simp only [Bool.false_eq_true, if_false]
      split <;> omega
theorem wsm_none (L : List Ch) : ∀ n, wsm L (fun _ => false) n = 0
  | 0 => rfl
  | n + 1 => by simp [wsm, wsm_none L n]
theorem aft_any {p : Pls} : ∀ (T : List Nat) (D : Nat → Bool) (i : Nat), p.aft D T i = (D i || T.any fun j => p.near j i)
  | [], D, i => by simp [Pls.aft]
  | j :: T, D, i => by
    show p.aft (p.go D j) T i = _
    rw [aft_any T, List.any_cons]
    simp only [Pls.go, Bool.or_assoc]
theorem aft_snoc {p : Pls} (T : List Nat) (D : Nat → Bool) (j i : Nat) : p.aft D (T ++ [j]) i = p.go (p.aft D T) j i := by
  rw [aft_any, List.any_append]
  simp only [Pls.go, aft_any, List.any_cons, List.any_nil, Bool.or_false, Bool.or_assoc]
theorem hitB_mono {q : Option Rat} {F : Rat} {b : Rat} (h : ∀ x, q = some x → b + x ≤ F) (n : q ≠ none) : hitB b F q = true := by
  cases q with
  | none => exact absurd rfl n
  | some x => exact decide_eq_true (h x rfl)
section
variable {R : Int} {L : List Ch} (o : OkL R L)
include o
theorem w_nn {i : Nat} (hi : i < L.length) : 0 ≤ (cL L i).2.2 := by
  have := (o.c L[i] (List.getElem_mem hi)).w1
  rw [cL_eq hi]; omega
theorem hit_all {F : Rat} {T : List Nat} (hT : ∀ j ∈ T, j < L.length) (h : 2 * sumD L T - lastD L T ≤ F) : hitW L F T = wsm L ((plsW L wI).aft (fun _ => false) T) L.length := by
  refine wsm_congr fun i hi => ?_
  cases z : (plsW L wI).aft (fun _ => false) T i with
  | true =>
    obtain ⟨x, e⟩ := Pls.wk_some T (p := plsW L wI) (D := fun _ => false) (i := i) rfl z
    rw [e]
    have := wk_le o hT e
    exact decide_eq_true (by grind)
  | false =>
    rw [aft_any, Bool.false_or] at z
    have e : (plsW L wI).wk T i = none := wk_none_iff.mpr fun j hj => by
      have := List.any_eq_false.mp z j hj
      simpa using this
    rw [e]; rfl
/-- the most that can be found -/
structure Mst (R : Int) (L : List Ch) (F : Rat) (w : Int) : Prop where
  ub : ∀ T : List Nat, (∀ j ∈ T, j < L.length) → hitW L F T ≤ w
  at_ : ∃ T : List Nat, T.Nodup ∧ (∀ j ∈ T, j < L.length) ∧ 2 * sumD L T - lastD L T ≤ F ∧ w = wsm L ((plsW L wI).aft (fun _ => false) T) L.length
theorem plT_w {F : Rat} {w : Int} {sb : List Int} (m : MostIs R L F w sb) : ∃ T : List Nat, plT (rowsF R L) sb (rowsF R L).length = tnL L T ∧ T.Nodup ∧ T.length ≤ 5 ∧ (∀ j ∈ T, j < L.length) ∧ 2 * sumD L T - lastD L T ≤ F ∧ w = wsm L ((plsW L wI).aft (fun _ => false) T) L.length := by
  obtain ⟨T, h1, h2, h3, h4, h5, h6, h7⟩ := plT_ok o m.me _ (Nat.le_refl _)
  have bn := (rowsF_b o).n
  refine ⟨T, h1, h2, by omega, h4, ?_, ?_⟩
  · rw [h6, h7]; exact m.le
  · rw [m.eq, wst_eq o m.me]
    refine wsm_congr fun i hi => ?_
    rw [aft_any, Bool.false_or]
    obtain ⟨g0, g1, _⟩ := row_of o hi
    have := h5 i hi
    cases z : Dst (rowsF R L) L sb i with
    | true =>
      obtain ⟨j, hj, nr⟩ := this.mpr ⟨g0, z⟩
      exact (List.any_eq_true.mpr ⟨j, hj, nr⟩).symm
    | false =>
      refine (List.any_eq_false.mpr fun j hj nr => ?_).symm
      have := (this.mp ⟨j, hj, nr⟩).2
      rw [z] at this; cases this
theorem mst_of {F : Rat} {w : Int} {sb : List Int} (f0 : 0 ≤ F) (m : MostIs R L F w sb) (ub : ∀ s ∈ endsF (rowsF R L), wT (rowsF R L) s ≤ F → wst (rowsF R L) s (rowsF R L).length ≤ w) : Mst R L F w := by
  refine ⟨fun T hT => ?_, ?_⟩
  · have s0 := st0_mem (rowsF_len R L)
    have r0 : rsm (rowsF R L) (st0 R) = 0 := sumN_zero fun i _ => by
      unfold rch
      rw [if_neg (by rw [st0_getD]; decide)]
    obtain ⟨s, h1, h2, h3⟩ := upr o (F := F) T hT (st0 R) s0 0 (by rw [r0]; grind) (by rw [wT_st0]; exact f0)
    have e : hitW L F T = wsm L (Dst (rowsF R L) L s) L.length := wsm_congr fun i hi => by rw [h3 i hi, Dst_st0, Bool.false_or]
    rw [e, ← wst_eq o h1]
    exact ub s h1 h2
  · obtain ⟨T, _, h2, _, h4, h5, h6⟩ := plT_w o m
    exact ⟨T, h2, h4, h5, h6⟩
end
/-! ### _law_weight -/
theorem okP_tn {R : Int} {L : List Ch} (o : OkL R L) {T : List Nat} (hl : T.length ≤ 8) (hT : ∀ j ∈ T, j < L.length) : OkP (R, tnL L T, 0) := by
  refine ⟨o.r1, o.r5, (show (tnL L T).length ≤ 60 by simp [tnL]; omega), fun t ht => ?_, Rat.le_refl, (show (0 : Rat) ≤ 1000000000000 by decide +kernel), sm0.mono (by decide)⟩
  obtain ⟨i, hi, rfl⟩ := List.mem_map.mp ht
  have hi' := hT i hi
  have oc := o.c L[i] (List.getElem_mem hi')
  rw [cL_eq hi']
  have f1 := oc.f1
  have f2 := oc.f2
  exact ⟨oc.r0, oc.r1, by show (0 : Rat) < _; grind, Rat.le_trans f2 (by decide +kernel), oc.sm.mono (by decide)⟩
theorem lweight_eq {R : Int} {L : List Ch} (o : OkL R L) {T : List Nat} (hl : T.length ≤ 8) (hT : ∀ j ∈ T, j < L.length) {F : Rat} (sF : Sm 100 F) {n : Nat} {h : IH} (e : h[n]? = some (.lst [.int R, tqs (tnL L T), fq 0])) : f__law_weight [.obj n, chs L, fq F] h = .ok (.int (hitW L F T)) h := by
  have n8 := o.n8
  have okp := okP_tn o hl hT
  suffices q : ∃ v h1, f__law_weight [.obj n, chs L, fq F] h = .ok v h1 ∧ (v = .int (hitW L F T) ∧ h1 = h) by
    obtain ⟨v, h1, e, rfl, rfl⟩ := q
    exact e
  refine w_fn rfl ?_
  unfold b__law_weight
  refine w_seq (w_set x_c ?_)
  refine w_seq (w_for L.length (fun i r g => ∃ x4 x5 x6 x7, r = [some (.obj n), some (chs L), some (fq F), some (.int (wsm L (fun i => hitB 0 F ((plsW L wI).wk T i)) i)), x4, x5, x6, x7] ∧ g = h) (it := itList (L.map che)) (h1 := h) rfl (by omega) ⟨_, _, _, _, rfl, rfl⟩ ?_ ?_)
  · rintro i r g hi ⟨x4, x5, x6, x7, rfl, rfl⟩
    refine ⟨che (cL L i), _, ?_, rfl, ?_⟩
    · simp only [itList]
      rw [List.getElem?_map, List.getElem?_eq_getElem hi, cL_eq hi]; rfl
    have oc := o.c L[i] (List.getElem_mem hi)
    have sd : Sm 10 (cL L i).2.1 := by rw [cL_eq hi]; exact oc.sm
    have lw := lwalked_eq okp e (cL L i).1 sd (by decide)
    have wq := wkd_pls (R := R) wI (L := L) T i
    rw [wq] at lw
    refine w_seq (w_set (x_call (x_cons (x_var rfl) (x_cons (x_var rfl) (x_cons (x_var rfl) x_nil))) lw) ?_)
    have ws : wsm L (fun i => hitB 0 F ((plsW L wI).wk T i)) (i + 1) = wsm L (fun i => hitB 0 F ((plsW L wI).wk T i)) i + if hitB 0 F ((plsW L wI).wk T i) then (cL L i).2.2 else 0 := rfl
    rw [ws]
    cases z : (plsW L wI).wk T i with
    | none =>
      refine w_if (b := false) (t_and (b := false) (t_bl (x_op (x_var rfl) x_c rfl)) (by simp) (fun _ => ⟨rfl, rfl⟩)) (by simp) fun _ => w_nil ⟨some (.int (cL L i).1), some (fq (cL L i).2.1), some (.int (cL L i).2.2), some (oq none), ?_, rfl⟩
      simp only [hitB, Bool.false_eq_true, if_false, Int.add_zero]
      rfl
    | some q =>
      have sq : Sm 3900 q := by
        have z' := wq.trans z
        exact (wkd_sm okp sd _ _ q z').mono (by decide)
      have ls := lless_eq sF sq (by decide) g
      refine w_if (b := !decide (F < q)) (t_and (b := true) (t_bl (x_op (x_var rfl) x_c rfl)) (fun _ => t_not (t_tru (x_call (x_cons (x_var rfl) (x_cons (x_var rfl) x_nil)) ls) rfl)) (by simp)) (fun z => ?_) (fun z => ?_)
      · have z : q ≤ F := Rat.not_lt.mp (by simpa using z)
        have hb : hitB 0 F (some q) = true := decide_eq_true (by grind)
        refine w_set (x_op (x_var rfl) (x_var rfl) p_addI) ⟨some (.int (cL L i).1), some (fq (cL L i).2.1), some (.int (cL L i).2.2), some (oq (some q)), ?_, rfl⟩
        rw [hb, if_pos rfl]
        rfl
      · have z : ¬ q ≤ F := Rat.not_le.mpr (by simpa using z)
        have hb : hitB 0 F (some q) = false := decide_eq_false fun y => z (by grind)
        refine w_nil ⟨some (.int (cL L i).1), some (fq (cL L i).2.1), some (.int (cL L i).2.2), some (oq (some q)), ?_, rfl⟩
        rw [hb, if_neg (by simp), Int.add_zero]
        rfl
  · rintro r g ⟨x4, x5, x6, x7, rfl, rfl⟩
    refine ⟨?_, w_ret (x_var rfl) ⟨rfl, rfl⟩⟩
    simp only [itList]
    rw [List.getElem?_eq_none (by simp)]
end WR

namespace WR
open PySem PySem.Spec PyProof.Rows L2
/-! ### k15: the law's own look, turn by turn -/
def zB (L : List Ch) : List Bool := List.replicate L.length false
theorem zB_DB (L : List Ch) (i : Nat) : DB (zB L) i = false := by
  unfold DB zB
  simp only [List.getD_eq_getElem?_getD, List.getElem?_replicate]
  split <;> rfl
structure PathTo (L : List Ch) (B : List Bool) (v : Rat) : Prop where
  ex : ∃ T : List Nat, T.Nodup ∧ (∀ j ∈ T, j < L.length) ∧ v = 2 * sumD L T ∧ ∀ m, m < L.length → DB B m = (plsW L wI).aft (fun _ => false) T m
theorem lastD_snoc (L : List Ch) (T : List Nat) (j : Nat) : lastD L (T ++ [j]) = (cL L j).2.1 := by simp [lastD]
theorem sumD_snoc (L : List Ch) (T : List Nat) (j : Nat) : sumD L (T ++ [j]) = sumD L T + (cL L j).2.1 := by
  rw [sumD_app]; simp only [sumD]; grind
section
variable {R : Int} {L : List Ch} (o : OkL R L)
include o
theorem sumD_frd : ∀ {T : List Nat}, (∀ j ∈ T, j < L.length) → Frd 8 (30 * T.length) (sumD L T)
  | [], _ => Frd.zero 8
  | j :: T, h => by
    have a := sumD_frd (T := T) fun i hi => h i (by simp [hi])
    have hj := h j (by simp)
    have oc := o.c L[j] (List.getElem_mem hj)
    have b : Frd 8 30 (cL L j).2.1 := by
      rw [cL_eq hj]
      exact ⟨oc.f8, by have := oc.f1; grind, oc.f2⟩
    simp only [sumD, List.length_cons]
    exact (b.add a).mono (by omega)
theorem nd8 {T : List Nat} (nd : T.Nodup) (h : ∀ j ∈ T, j < L.length) : T.length ≤ 8 := by
  have := nd_le (m := List.range L.length) nd fun x hx => List.mem_range.mpr (h x hx)
  rw [List.length_range] at this
  have := o.n8
  omega
theorem PathTo.sm {B : List Bool} {v : Rat} (p : PathTo L B v) : Sm 1040 v := by
  obtain ⟨T, nd, h, rfl, _⟩ := p.ex
  have l := nd8 o nd h
  have f := (sumD_frd o h).mono (show 30 * T.length ≤ 240 by omega)
  refine Frd.sm (E := 1) (V := 480) ⟨f.d.int 2, by have := f.p; grind, ?_⟩ (by decide) (by decide) (by decide)
  have := f.u
  have e : ((240 : Nat) : Rat) = 240 := rfl
  have e' : ((480 : Nat) : Rat) = 480 := rfl
  grind
theorem PathTo.zero : PathTo L (zB L) 0 := ⟨[], List.nodup_nil, by simp, by show (0 : Rat) = 2 * 0; grind, fun m _ => by rw [zB_DB]; rfl⟩
theorem PathTo.go {B : List Bool} {v : Rat} (p : PathTo L B v) {j : Nat} (hj : j < L.length) (hd : DB B j = false) : PathTo L (goB L B j) (v + 2 * (cL L j).2.1) := by
  obtain ⟨T, nd, h, rfl, e⟩ := p.ex
  refine ⟨T ++ [j], List.nodup_append.mpr ⟨nd, by simp, fun a ha b hb => ?_⟩, fun k hk => ?_, by rw [sumD_snoc]; grind, fun m hm => ?_⟩
  · rw [List.mem_singleton.mp hb]
    rintro rfl
    rw [e _ hj, aft_any] at hd
    have : (T.any fun j => (plsW L wI).near j a) = true := List.any_eq_true.mpr ⟨a, ha, Pls.near_self a⟩
    rw [this] at hd
    simp at hd
  · rcases List.mem_append.mp hk with hk | hk
    · exact h k hk
    · rw [List.mem_singleton.mp hk]; exact hj
  · rw [goB_at hm, aft_snoc]
    simp only [Pls.go, e m hm]
theorem PathTo.most {F : Rat} {w : Int} (M : Mst R L F w) {B : List Bool} {v : Rat} (p : PathTo L B v) {j : Nat} (hj : j < L.length) (hF : v + (cL L j).2.1 ≤ F) : wsm L (DB (goB L B j)) L.length ≤ w := by
  obtain ⟨T, nd, h, rfl, e⟩ := p.ex
  have hT : ∀ k ∈ T ++ [j], k < L.length := fun k hk => by
    rcases List.mem_append.mp hk with hk | hk
    · exact h k hk
    · rw [List.mem_singleton.mp hk]; exact hj
  have a := M.ub (T ++ [j]) hT
  rw [hit_all o hT (by rw [sumD_snoc, lastD_snoc]; grind)] at a
  have : wsm L (DB (goB L B j)) L.length = wsm L ((plsW L wI).aft (fun _ => false) (T ++ [j])) L.length := wsm_congr fun m hm => by
    rw [goB_at hm, aft_snoc]
    simp only [Pls.go, e m hm]
  rw [this]; exact a
end
/-- what stands in front of a standing -/
structure OutI (L : List Ch) (F : Rat) (w : Int) (S : List (List Bool)) (i : Nat) (av : List Bool → Option Rat) (mo : Int) : Prop where
  snd : ∀ B v, av B = some v → PathTo L B v
  zer : ∃ v, av (zB L) = some v ∧ v ≤ 0
  cmp : ∀ B ∈ S.take i, ∀ j, j < L.length → DB B j = false → ∃ a v, av B = some a ∧ av (goB L B j) = some v ∧ v ≤ a + 2 * (cL L j).2.1
  mos : ∀ B ∈ S.take i, ∀ j, j < L.length → DB B j = false → ∀ a, av B = some a → a + (cL L j).2.1 ≤ F → wsm L (DB (goB L B j)) L.length ≤ mo
  m0 : 0 ≤ mo
  m1 : mo ≤ w
structure InnI (L : List Ch) (F : Rat) (w : Int) (B : List Bool) (a0 : Rat) (av0 : List Bool → Option Rat) (m : Int) (j : Nat) (av : List Bool → Option Rat) (mo : Int) : Prop where
  snd : ∀ B v, av B = some v → PathTo L B v
  frz : ∀ C, (kb C).sum ≤ (kb B).sum → av C = av0 C
  dec : ∀ C a, av0 C = some a → ∃ v, av C = some v ∧ v ≤ a
  cmp : ∀ k, k < j → DB B k = false → ∃ v, av (goB L B k) = some v ∧ v ≤ a0 + 2 * (cL L k).2.1
  mos : ∀ k, k < j → DB B k = false → a0 + (cL L k).2.1 ≤ F → wsm L (DB (goB L B k)) L.length ≤ mo
  m0 : m ≤ mo
  m1 : mo ≤ w
theorem OutI.inn {L : List Ch} {F : Rat} {w : Int} {S : List (List Bool)} {i : Nat} {av : List Bool → Option Rat} {mo : Int} (I : OutI L F w S i av mo) (B : List Bool) (a0 : Rat) : InnI L F w B a0 av mo 0 av mo :=
  ⟨I.snd, fun _ _ => rfl, fun C a h => ⟨a, h, Rat.le_refl⟩, fun k h => by omega, fun k h => by omega, Int.le_refl _, I.m1⟩
theorem InnI.out {L : List Ch} {F : Rat} {w : Int} {S : List (List Bool)} {i : Nat} {av av' : List Bool → Option Rat} {mo mo' : Int} (I : OutI L F w S i av mo) (hi : i < S.length) {a0 : Rat} (srt : S.Pairwise fun A B => (kb A).sum ≤ (kb B).sum) (h0 : av S[i] = some a0) (J : InnI L F w S[i] a0 av mo L.length av' mo') : OutI L F w S (i + 1) av' mo' := by
  have le : ∀ C ∈ S.take i, (kb C).sum ≤ (kb S[i]).sum := fun C hC => by
    obtain ⟨k, hk, rfl⟩ := List.mem_take_iff_getElem.mp hC
    have := List.pairwise_iff_getElem.mp srt k i (by omega) hi (by omega)
    exact this
  have hB := J.frz S[i] (Int.le_refl _)
  refine ⟨J.snd, ?_, fun C hC j hj hd => ?_, fun C hC j hj hd a ha hF => ?_, Int.le_trans I.m0 J.m0, J.m1⟩
  · obtain ⟨v, h1, h2⟩ := I.zer
    obtain ⟨u, h3, h4⟩ := J.dec _ _ h1
    exact ⟨u, h3, Rat.le_trans h4 h2⟩
  · rw [take_snoc hi] at hC
    rcases List.mem_append.mp hC with hC | hC
    · obtain ⟨a, v, h1, h2, h3⟩ := I.cmp C hC j hj hd
      obtain ⟨u, h4, h5⟩ := J.dec _ _ h2
      exact ⟨a, u, by rw [J.frz C (le C hC)]; exact h1, h4, Rat.le_trans h5 h3⟩
    · rw [List.mem_singleton.mp hC] at hd ⊢
      obtain ⟨v, h1, h2⟩ := J.cmp j hj hd
      exact ⟨a0, v, by rw [hB]; exact h0, h1, h2⟩
  · rw [take_snoc hi] at hC
    rcases List.mem_append.mp hC with hC | hC
    · rw [J.frz C (le C hC)] at ha
      exact Int.le_trans (I.mos C hC j hj hd a ha hF) J.m0
    · rw [List.mem_singleton.mp hC] at hd ha ⊢
      rw [hB, h0] at ha
      cases ha
      exact J.mos j hj hd hF
theorem OutI.fin {R : Int} {L : List Ch} (o : OkL R L) {F : Rat} {w : Int} (M : Mst R L F w) {S : List (List Bool)} {av : List Bool → Option Rat} {mo : Int} (sd : Std L S) (cl : ∀ B ∈ S, ∀ j, j < L.length → DB B j = false → goB L B j ∈ S) (I : OutI L F w S S.length av mo) : mo = w := by
  have cm := I.cmp
  have ms := I.mos
  rw [List.take_length] at cm ms
  have c1 : ∀ U : List Nat, (∀ j ∈ U, j < L.length) → ∃ B ∈ S, ∃ a, av B = some a ∧ a ≤ 2 * sumD L U.reverse ∧ ∀ m, m < L.length → DB B m = (plsW L wI).aft (fun _ => false) U.reverse m := by
    intro U
    induction U with
    | nil =>
      intro _
      obtain ⟨v, h1, h2⟩ := I.zer
      exact ⟨zB L, sd.has, v, h1, by show v ≤ 2 * 0; grind, fun m _ => zB_DB L m⟩
    | cons j U ih =>
      intro hU
      have hj := hU j (by simp)
      obtain ⟨B, hB, a, h1, h2, h3⟩ := ih fun k hk => hU k (by simp [hk])
      have dj := di_p o hj
      rw [List.reverse_cons]
      cases z : DB B j with
      | true =>
        refine ⟨B, hB, a, h1, by rw [sumD_snoc]; grind, fun m hm => ?_⟩
        rw [aft_snoc, ← Pls.go_done (sd.dc B hB) hj z hm]
        simp only [Pls.go, h3 m hm]
      | false =>
        obtain ⟨a', v, g1, g2, g3⟩ := cm B hB j hj z
        rw [h1] at g1; cases g1
        refine ⟨goB L B j, cl B hB j hj z, v, g2, by rw [sumD_snoc]; grind, fun m hm => ?_⟩
        rw [goB_at hm, aft_snoc]
        simp only [Pls.go, h3 m hm]
  have c2 : ∀ U : List Nat, (∀ j ∈ U, j < L.length) → 2 * sumD L U.reverse - lastD L U.reverse ≤ F → wsm L ((plsW L wI).aft (fun _ => false) U.reverse) L.length ≤ mo := by
    intro U
    induction U with
    | nil =>
      intro _ _
      have : wsm L ((plsW L wI).aft (fun _ => false) [].reverse) L.length = 0 := wsm_none L _
      rw [this]; exact I.m0
    | cons j U ih =>
      intro hU hF
      have hj := hU j (by simp)
      have hU' : ∀ k ∈ U, k < L.length := fun k hk => hU k (by simp [hk])
      obtain ⟨B, hB, a, h1, h2, h3⟩ := c1 U hU'
      rw [List.reverse_cons] at hF ⊢
      rw [sumD_snoc, lastD_snoc] at hF
      have dj := di_p o hj
      cases z : DB B j with
      | true =>
        have l0 := (sumD_nn o (T := U.reverse) fun k hk => hU' k (List.mem_reverse.mp hk)).2.2
        have := ih hU' (by grind)
        refine Int.le_trans (Int.le_of_eq (wsm_congr fun m hm => ?_)) this
        rw [aft_snoc, ← h3 m hm, ← Pls.go_done (sd.dc B hB) hj z hm]
        simp only [Pls.go, h3 m hm]
      | false =>
        have := ms B hB j hj z a h1 (by grind)
        refine Int.le_trans (Int.le_of_eq (wsm_congr fun m hm => ?_)) this
        rw [goB_at hm, aft_snoc]
        simp only [Pls.go, h3 m hm]
  obtain ⟨T, t1, t2, t3, t4⟩ := M.at_
  have := c2 T.reverse (fun j hj => t2 j (List.mem_reverse.mp hj)) (by rw [List.reverse_reverse]; exact t3)
  rw [List.reverse_reverse, ← t4] at this
  exact Int.le_antisymm I.m1 this
/-! the code -/
theorem x_disp1 {A B : EX} {r : Fm} {h : IH} {k : List Int} {v : PV} (a : A r (h ++ [.dct []]) = .ok (.key k) (h ++ [.dct []])) (b : B r (h ++ [.dct []]) = .ok v (h ++ [.dct []])) : eDisp1 A B r h = .ok (.obj h.length) (h ++ [.dct [(k, v)]]) := by
  unfold eDisp1
  simp only [a, b, bind_ok, gl, sl1]
theorem lsum_eq {L : List Ch} {C : List Bool} (lC : C.length = L.length) (l8 : L.length ≤ 8) (v1 v2 v3 v4 v5 v7 v8 : Option PV) (g : IH) : ∃ t, eB pSum (aCons (eLc (eRange1 (aCons (eB pLen (aCons (eVar 0) aNil)) aNil)) (gVar 9) tYesX (eOp pMul (eOp pIdx (eOp pIdx (eVar 0) (eVar 9)) (eC (.int 2))) (eOp pIdx (eF (eVar 6)) (eVar 9))) [9]) aNil) [some (chs L), v1, v2, v3, v4, v5, some (.key (kb C)), v7, v8, none] g = .ok (.int (wsm L (DB C) L.length)) (g ++ t) := by
  obtain ⟨t, le⟩ := lc_all (I := eRange1 (aCons (eB pLen (aCons (eVar 0) aNil)) aNil)) (it := itRange 0 L.length) (g := gVar 9) (c := tYesX) (A := eOp pMul (eOp pIdx (eOp pIdx (eVar 0) (eVar 9)) (eC (.int 2))) (eOp pIdx (eF (eVar 6)) (eVar 9))) (vs := [9]) (r := [some (chs L), v1, v2, v3, v4, v5, some (.key (kb C)), v7, v8, none]) (h := g) (base := g) (n := L.length) (fun i => .int ((cL L i).2.2 * (if DB C i then 1 else 0))) (fun _ => true) (by omega)
    (x_rngC rfl l8)
    (fun i t hi => by
      refine ⟨.int (0 + (i : Nat)), _, [], by simp [hi], rfl, by rw [List.append_nil]; rfl, fun _ => ⟨[], ?_⟩⟩
      simp only [List.append_nil, Int.zero_add]
      have ix : pIdx (chs L) (.int (i : Nat)) (g ++ t) = .ok (che (cL L i)) (g ++ t) := p_idxT (by omega) (by rw [Int.toNat_natCast, List.getElem?_map, List.getElem?_eq_getElem hi, cL_eq hi]; rfl)
      refine x_op (x_op (x_op (x_var rfl) (x_var rfl) ix) x_c (p_idxT (v := .int (cL L i).2.2) (by decide) rfl)) (x_op (x_f (x_var rfl)) (x_var rfl) (p_idxT (by omega) (by rw [Int.toNat_natCast]; exact kb_at (by omega)))) ?_
      have m : mulOk (cL L i).2.2 (if DB C i then 1 else 0) = true := by
        unfold mulOk
        have : decide ((if DB C i = true then (1 : Int) else 0).natAbs < 18446744073709551616) = true := by
          split <;> decide
        rw [this]; simp
      simp only [pMul, m, if_true])
    (fun t => by simp)
  have ef : ((List.range L.length).filter fun _ => true).map (fun i => PV.int ((cL L i).2.2 * (if DB C i then 1 else 0))) = ((List.range L.length).map fun i => (cL L i).2.2 * (if DB C i then 1 else 0)).map .int := by
    rw [List.filter_eq_self.mpr (by simp), List.map_map]; rfl
  rw [ef] at le
  have es : ∀ n, ((List.range n).map fun i => (cL L i).2.2 * (if DB C i then 1 else 0)).sum = wsm L (DB C) n := fun n => by
    induction n with
    | zero => rfl
    | succ n ih =>
      rw [List.range_succ, List.map_append, List.sum_append, ih]
      simp only [wsm, List.map_cons, List.map_nil, List.sum_cons, List.sum_nil, Int.add_zero]
      split <;> simp
  have fin : pSum [.obj g.length] (g ++ .lst (((List.range L.length).map fun i => (cL L i).2.2 * (if DB C i then 1 else 0)).map .int) :: t) = .ok (.int (wsm L (DB C) L.length)) (g ++ .lst (((List.range L.length).map fun i => (cL L i).2.2 * (if DB C i then 1 else 0)).map .int) :: t) := by
    simp only [pSum, ga0, List.getElem?_cons_zero, keyOf_ints, es]
  exact ⟨_, x_b (x_cons le x_nil) fin⟩
def setA (av : List Bool → Option Rat) (C : List Bool) (v : Rat) : List Bool → Option Rat := fun B => if B = C then some v else av B
theorem dict_put {kvs : List (List Int × PV)} {av : List Bool → Option Rat} (h : ∀ B, dGet kvs (kb B) = (av B).map fq) (C : List Bool) (v : Rat) : ∀ B, dGet (dPut kvs (kb C) (fq v)) (kb B) = (setA av C v B).map fq := fun B => by
  unfold setA
  by_cases q : B = C
  · subst q; rw [dGet_put_self, if_pos rfl]; rfl
  · rw [dGet_put_ne _ _ (fun z => q (kb_inj z)), if_neg q, h B]
theorem InnI.skip {L : List Ch} {F : Rat} {w : Int} {B : List Bool} {a0 : Rat} {av0 av : List Bool → Option Rat} {m mo mo' : Int} {j : Nat} (J : InnI L F w B a0 av0 m j av mo) (h0 : mo ≤ mo') (h1 : mo' ≤ w) (hc : DB B j = false → ∃ v, av (goB L B j) = some v ∧ v ≤ a0 + 2 * (cL L j).2.1) (hm : DB B j = false → a0 + (cL L j).2.1 ≤ F → wsm L (DB (goB L B j)) L.length ≤ mo') : InnI L F w B a0 av0 m (j + 1) av mo' := by
  refine ⟨J.snd, J.frz, J.dec, fun k hk hd => ?_, fun k hk hd hF => ?_, Int.le_trans J.m0 h0, h1⟩
  · by_cases e : k = j
    · subst e; exact hc hd
    · exact J.cmp k (by omega) hd
  · by_cases e : k = j
    · subst e; exact hm hd hF
    · exact Int.le_trans (J.mos k (by omega) hd hF) h0
theorem InnI.put {L : List Ch} {F : Rat} {w : Int} {B : List Bool} {a0 : Rat} {av0 av : List Bool → Option Rat} {m mo : Int} {j : Nat} (J : InnI L F w B a0 av0 m j av mo) {C : List Bool} {v : Rat} (p : PathTo L C v) (hs : (kb B).sum < (kb C).sum) (hl : ∀ u, av C = some u → v ≤ u) : InnI L F w B a0 av0 m j (setA av C v) mo := by
  refine ⟨fun D u hD => ?_, fun D hD => ?_, fun D a hD => ?_, fun k hk hd => ?_, J.mos, J.m0, J.m1⟩
  · unfold setA at hD
    split at hD
    · rename_i e; subst e; cases hD; exact p
    · exact J.snd D u hD
  · unfold setA
    rw [if_neg (fun z => by subst z; omega)]
    exact J.frz D hD
  · obtain ⟨u, h1, h2⟩ := J.dec D a hD
    unfold setA
    by_cases q : D = C
    · subst q; rw [if_pos rfl]; exact ⟨v, rfl, Rat.le_trans (hl u h1) h2⟩
    · rw [if_neg q]; exact ⟨u, h1, h2⟩
  · obtain ⟨u, h1, h2⟩ := J.cmp k hk hd
    unfold setA
    by_cases q : goB L B k = C
    · rw [if_pos q]
      exact ⟨v, rfl, Rat.le_trans (hl u (by rw [← q]; exact h1)) h2⟩
    · rw [if_neg q]; exact ⟨u, h1, h2⟩
theorem lmost_eq {R : Int} {L : List Ch} (o : OkL R L) {F : Rat} (sF : Sm 100 F) {w : Int} (M : Mst R L F w) {h : IH} (tb : tabOk "_law_standings" h = true) : ∃ t, f__law_most [chs L, fq F] h = .ok (.int w) (h ++ t) := by
  have n8 := o.n8
  have n1 := o.n1
  suffices q : ∃ v h1, f__law_most [chs L, fq F] h = .ok v h1 ∧ (v = .int w ∧ Pre h h1) by
    obtain ⟨v, h1, e, rfl, t, rfl⟩ := q
    exact ⟨t, e⟩
  have w0 : 0 ≤ w := by
    have := M.ub [] (by simp)
    have e : hitW L F [] = 0 := wsm_none L _
    omega
  obtain ⟨m, t, S, c1, c2, c3, c4, c5⟩ := standings_eq o (h := h ++ [.dct [(kb (zB L), fq 0)]]) (tabOk_pre tb (.of _ _))
  have fl := few n8 c3.nd c3.len
  have cAt : ∀ i, i < L.length → (L.map che)[((i : Nat) : Int).toNat]? = some (che (cL L i)) := fun i hi => by
    rw [Int.toNat_natCast, List.getElem?_map, List.getElem?_eq_getElem hi, cL_eq hi]; rfl
  have pPre : Pre h (h ++ [.dct [(kb (zB L), fq 0)]] ++ t) := (Pre.of _ _).app _
  have dk0 : (h ++ [.dct [(kb (zB L), fq 0)]] ++ t)[h.length]? = some (.dct [(kb (zB L), fq 0)]) := get_old gl
  have k0 : st0 (L.length : Int) = kb (zB L) := by simp [st0, kb, zB]
  refine w_fn rfl ?_
  unfold b__law_most
  refine w_seq (w_par (v := .obj h.length) (w := .int 0) (h1 := h ++ [.dct [(kb (zB L), fq 0)]]) (x_cons (x_disp1 (x_op (x_key (x_cons x_c x_nil) rfl (by decide)) (x_b (x_cons (x_var rfl) x_nil) p_lenT) (by rw [List.length_map, ← k0]; exact p_mulK (by omega) (by omega) _)) (x_tup (x_cons x_c (x_cons x_c x_nil)) (show 2 ≤ 16777216 by decide))) (x_cons x_c x_nil)) ?_)
  generalize hk : h ++ [.dct [(kb (zB L), fq 0)]] ++ t = k at *
  have I0 : OutI L F w S 0 (fun B => if B = zB L then some 0 else none) 0 := by
    refine ⟨fun B v hB => ?_, ⟨0, if_pos rfl, Rat.le_refl⟩, by simp, by simp, Int.le_refl _, w0⟩
    split at hB
    · rename_i e; subst e; cases hB; exact PathTo.zero o
    · cases hB
  have D0 : ∀ B, dGet [(kb (zB L), fq 0)] (kb B) = ((fun B => if B = zB L then some (0 : Rat) else none) B).map fq := fun B => by
    unfold dGet
    by_cases q : B = zB L
    · subst q; simp
    · have : ¬ kb (zB L) = kb B := fun z => q (kb_inj z).symm
      simp [this, q]
  refine w_seq (w_for S.length (fun i r g => ∃ x4 x5 x6 x7 x8 kvs av mo, r = [some (chs L), some (fq F), some (.obj h.length), some (.int mo), x4, x5, x6, x7, x8, none] ∧ Pre h g ∧ g[m]? = some (.lst (kF S)) ∧ g[h.length]? = some (.dct kvs) ∧ kvs.length ≤ 1 + 8 * i ∧ (∀ B, dGet kvs (kb B) = (av B).map fq) ∧ OutI L F w S i av mo) (it := itObj m) (h1 := k) ?_ (by omega) ⟨_, _, _, _, _, [(kb (zB L), fq 0)], _, 0, rfl, pPre, c2, dk0, by simp, D0, I0⟩ ?_ ?_)
  · have := x_call (f := f__law_standings) (x_cons (A := eVar 0) (r := [some (chs L), some (fq F), some (.obj h.length), some (.int 0), none, none, none, none, none, none]) (h := h ++ [.dct [(kb (zB L), fq 0)]]) (x_var rfl) x_nil) c1
    show eIter _ [some (chs L), some (fq F), some (.obj h.length), some (.int 0), none, none, none, none, none, none] _ = _
    unfold eIter
    rw [this]
    simp only [bind_ok, c2]
  · rintro i r g hi ⟨x4, x5, x6, x7, x8, kvs, av, mo, rfl, pg, Gm, Gd, kl, dv, I⟩
    have mB : S[i] ∈ S := List.getElem_mem hi
    obtain ⟨a0, ha0⟩ : ∃ a0, av S[i] = some a0 := by
      rcases c3.pre S[i] mB with z | ⟨A, a1, j, a2, a3, a4⟩
      · obtain ⟨v, hv, _⟩ := I.zer
        rw [z]; exact ⟨v, hv⟩
      · have sA := goB_sum (c3.len A a1) a2 a3
        rw [a4] at sA
        have := ahead_le (f := fun B => -(kb B).sum) (E := S) (c5.imp fun h => by omega) hi a1 (by omega)
        obtain ⟨_, v, _, h2, _⟩ := I.cmp A this j a2 a3
        rw [a4] at h2
        exact ⟨v, h2⟩
    refine ⟨.key (kb S[i]), _, ?_, rfl, ?_⟩
    · simp only [itObj, Gm]
      have := kF_at hi
      rw [Int.toNat_natCast] at this
      rw [this]
    have lB := c3.len S[i] mB
    have hm : m ≠ h.length := fun z => by
      rw [z] at c2
      rw [c2] at dk0; cases dk0
    refine w_for L.length (fun j r g => ∃ x5 x6 x7 x8 kvs av' mo', r = [some (chs L), some (fq F), some (.obj h.length), some (.int mo'), some (.key (kb S[i])), x5, x6, x7, x8, none] ∧ Pre h g ∧ g[m]? = some (.lst (kF S)) ∧ g[h.length]? = some (.dct kvs) ∧ kvs.length ≤ 1 + 8 * i + j ∧ (∀ B, dGet kvs (kb B) = (av' B).map fq) ∧ InnI L F w S[i] a0 av mo j av' mo') (it := itRange 0 L.length) (h1 := g) (x_rngC rfl n8) (by omega) ⟨_, _, _, _, kvs, av, mo, rfl, pg, Gm, Gd, by omega, dv, I.inn _ _⟩ ?_ ?_
    · clear Gd Gm pg dv kl kvs
      rintro j r g hj ⟨x5, x6, x7, x8, kvs, av', mo', rfl, pg, Gm, Gd, kl, dv, J⟩
      have hb : av' S[i] = some a0 := by rw [J.frz _ (Int.le_refl _)]; exact ha0
      have pB := J.snd _ _ hb
      have gB : dGet kvs (kb S[i]) = some (fq a0) := by rw [dv, hb]; rfl
      generalize S[i] = B at *
      refine ⟨.int (0 + (j : Nat)), _, by simp [hj], rfl, ?_⟩
      rw [Int.zero_add]
      have bitAt : ∀ (r : Fm) (g : IH), r[4]? = some (some (.key (kb B))) → r[5]? = some (some (.int (j : Nat))) → tBl (eOp pEq (eOp pIdx (eF (eVar 4)) (eVar 5)) (eC (.int 0))) r g = .ok (!DB B j) g := fun r g ra rb => by
        refine t_bl (x_op (x_op (x_f (x_var ra)) (x_var rb) (p_idxT (by omega) (by rw [Int.toNat_natCast]; exact kb_at (by omega)))) x_c (p_eq ?_))
        rw [eqB_int]
        cases DB B j <;> rfl
      refine w_if (bitAt _ g rfl rfl) (fun z => ?_) (fun z => ?_)
      · have hdj : DB B j = false := by cases q : DB B j <;> simp_all
        obtain ⟨t2, lt⟩ := lturn_eq o lB hj g
        have ix : ∀ (g : IH), pIdx (chs L) (.int (j : Nat)) g = .ok (che (cL L j)) g := fun g => p_idxT (by omega) (cAt j hj)
        have lC := goB_len L B j
        have sC := goB_sum lB hj hdj
        have pC := pB.go o hj hdj
        have mC := fun q => pB.most o M hj q
        have sdj : Sm 10 (cL L j).2.1 := by rw [cL_eq hj]; exact (o.c L[j] (List.getElem_mem hj)).sm
        have s0 := pB.sm o
        refine w_seq (w_asg (x_tup (x_cons (x_call (x_cons (x_var rfl) (x_cons (x_var rfl) (x_cons (x_var rfl) x_nil))) lt) (x_cons (x_op (x_op (x_var rfl) (x_var rfl) (ix _)) x_c (p_idxT (v := fq (cL L j).2.1) (by decide) rfl)) x_nil)) (show 2 ≤ 16777216 by decide)) rfl ?_)
        have p2 : Pre h (g ++ t2) := pg.app _
        have Gm2 : (g ++ t2)[m]? = some (.lst (kF S)) := get_old Gm
        have Gd2 : (g ++ t2)[h.length]? = some (.dct kvs) := get_old Gd
        generalize g ++ t2 = g2 at *
        have sk := J.skip (mo' := mo') (Int.le_refl _) J.m1
        clear sk
        generalize hC : goB L B j = C at *
        have ad := lplus_eq s0 sdj (by decide) g2
        have ls := lless_eq sF (s0.add sdj) (by decide) g2
        have rest : ∀ (mo2 : Int) (g3 : IH), Pre g2 g3 → mo' ≤ mo2 → mo2 ≤ w → (a0 + (cL L j).2.1 ≤ F → wsm L (DB C) L.length ≤ mo2) → (sSeq (sSet 8 (eCall f__law_add (aCons (eOp pDGet (eVar 2) (eVar 4)) (aCons (eCall f__law_mul (aCons (eTup (aCons (eC (.int 2)) (aCons (eC (.int 1)) aNil))) (aCons (eVar 7) aNil))) aNil))))
            (sIf (tOrX (tBl (eOp pDNotIn (eVar 6) (eVar 2))) (tTru (eCall f__law_under (aCons (eVar 8) (aCons (eOp pDGet (eVar 2) (eVar 6)) aNil))))) (sDPutX (eVar 2) (eVar 6) (eVar 8)) sNil) [some (chs L), some (fq F), some (.obj h.length), some (.int mo2), some (.key (kb B)), some (.int (j : Nat)), some (.key (kb C)), some (fq (cL L j).2.1), x8, none] g3).Is (fun r g => ∃ x5 x6 x7 x8 kvs av' mo', r = [some (chs L), some (fq F), some (.obj h.length), some (.int mo'), some (.key (kb B)), x5, x6, x7, x8, none] ∧ Pre h g ∧ g[m]? = some (.lst (kF S)) ∧ g[h.length]? = some (.dct kvs) ∧ kvs.length ≤ 1 + 8 * i + (j + 1) ∧ (∀ B, dGet kvs (kb B) = (av' B).map fq) ∧ InnI L F w B a0 av mo (j + 1) av' mo') (fun v h1 => v = .int w ∧ Pre h h1) := by
          intro mo2 g3 pr l1 l2 l3
          have Gm3 := pr.get Gm2
          have Gd3 := pr.get Gd2
          refine w_seq (w_set (x_call (x_cons (x_op (x_var rfl) (x_var rfl) (p_dget Gd3 gB)) (x_cons (x_call (x_cons (x_tup (x_cons x_c (x_cons x_c x_nil)) (show 2 ≤ 16777216 by decide)) (x_cons (x_var rfl) x_nil)) (by rw [fq_two]; exact ltimes_eq sm2 sdj (by decide) _)) x_nil)) (lplus_eq s0 (sm2.mul sdj) (by decide) _)) ?_)
          have put : (∀ u, av' C = some u → a0 + 2 * (cL L j).2.1 ≤ u) → (sDPutX (eVar 2) (eVar 6) (eVar 8) [some (chs L), some (fq F), some (.obj h.length), some (.int mo2), some (.key (kb B)), some (.int (j : Nat)), some (.key (kb C)), some (fq (cL L j).2.1), some (fq (a0 + 2 * (cL L j).2.1)), none] g3).Is (fun r g => ∃ x5 x6 x7 x8 kvs av' mo', r = [some (chs L), some (fq F), some (.obj h.length), some (.int mo'), some (.key (kb B)), x5, x6, x7, x8, none] ∧ Pre h g ∧ g[m]? = some (.lst (kF S)) ∧ g[h.length]? = some (.dct kvs) ∧ kvs.length ≤ 1 + 8 * i + (j + 1) ∧ (∀ B, dGet kvs (kb B) = (av' B).map fq) ∧ InnI L F w B a0 av mo (j + 1) av' mo') (fun v h1 => v = .int w ∧ Pre h h1) := fun hl => by
            refine w_dput (x_var rfl) (x_var rfl) (x_var rfl) Gd3 (by omega) ⟨_, _, _, _, dPut kvs (kb C) (fq (a0 + 2 * (cL L j).2.1)), setA av' C (a0 + 2 * (cL L j).2.1), mo2, rfl, (p2.trans pr).set _ (Nat.le_refl _), ?_, get_set_eq Gd3, ?_, dict_put dv _ _, ?_⟩
            · rw [get_set_ne (fun z => hm z.symm)]; exact Gm3
            · have := dPut_len kvs (kb C) (fq (a0 + 2 * (cL L j).2.1)); omega
            · refine (J.put pC sC hl).skip l1 l2 (fun _ => ⟨a0 + 2 * (cL L j).2.1, ?_, Rat.le_refl⟩) (fun _ => by rw [hC]; exact l3)
              rw [hC]; exact if_pos rfl
          cases z : av' C with
          | none =>
            have gC : dGet kvs (kb C) = none := by rw [dv, z]; rfl
            refine w_if (b := true) (t_or (b := true) (b2 := true) (t_bl (x_op (x_var rfl) (x_var rfl) (by simp only [pDNotIn, Gd3, gC]; rfl))) (by simp) (fun _ => ⟨rfl, rfl⟩)) (fun _ => put fun u hu => by rw [z] at hu; cases hu) (by simp)
          | some u =>
            have gC : dGet kvs (kb C) = some (fq u) := by rw [dv, z]; rfl
            have su := (J.snd _ _ z).sm o
            have lu := lless_eq (s0.add (sm2.mul sdj)) su (by decide) g3
            refine w_if (b := decide (a0 + 2 * (cL L j).2.1 < u)) (t_or (b := false) (t_bl (x_op (x_var rfl) (x_var rfl) (by simp only [pDNotIn, Gd3, gC]; rfl))) (fun _ => t_tru (x_call (x_cons (x_var rfl) (x_cons (x_op (x_var rfl) (x_var rfl) (p_dget Gd3 gC)) x_nil)) lu) rfl) (by simp)) (fun q => put fun u' hu => ?_) (fun q => ?_)
            · rw [z] at hu; cases hu
              exact Rat.le_of_lt (of_decide_eq_true q)
            · refine w_nil ⟨_, _, _, _, kvs, av', mo2, rfl, p2.trans pr, Gm3, Gd3, by omega, dv, J.skip l1 l2 (fun _ => ⟨u, by rw [hC]; exact z, Rat.not_lt.mp (of_decide_eq_false q)⟩) (fun _ => by rw [hC]; exact l3)⟩
        refine w_seq (w_if (b := !decide (F < a0 + (cL L j).2.1)) (t_not (t_tru (x_call (x_cons (x_var rfl) (x_cons (x_call (x_cons (x_op (x_var rfl) (x_var rfl) (p_dget Gd2 gB)) (x_cons (x_var rfl) x_nil)) ad) x_nil)) ls) rfl)) (fun q => ?_) (fun q => ?_))
        · have q : a0 + (cL L j).2.1 ≤ F := Rat.not_lt.mp (by simpa using q)
          obtain ⟨t3, c6⟩ := lsum_eq lC n8 (some (fq F)) (some (.obj h.length)) (some (.int mo')) (some (.key (kb B))) (some (.int (j : Nat))) (some (fq (cL L j).2.1)) x8 g2
          refine w_set (x_b (f := pMax2) (v := .int (if wsm L (DB C) L.length > mo' then wsm L (DB C) L.length else mo')) (h2 := g2 ++ t3) (x_cons (x_var rfl) (x_cons c6 x_nil)) rfl) ?_
          have mq := mC q
          have mw := J.m1
          refine rest _ _ (.of _ _) ?_ ?_ fun _ => ?_
          · split <;> omega
          · split <;> omega
          · split <;> omega
        · have q : F < a0 + (cL L j).2.1 := by simpa using q
          exact w_nil (rest mo' g2 (.refl _) (Int.le_refl _) J.m1 fun z => absurd q (Rat.not_lt.mpr z))
      · have hdj : DB B j = true := by cases q : DB B j <;> simp_all
        refine w_nil ⟨_, _, _, _, kvs, av', mo', rfl, pg, Gm, Gd, by omega, dv, J.skip (Int.le_refl _) J.m1 (fun z => by rw [hdj] at z; cases z) (fun z => by rw [hdj] at z; cases z)⟩
    · rintro r g ⟨x5, x6, x7, x8, kvs, av', mo', rfl, pg, Gm, Gd, kl, dv, J⟩
      exact ⟨by simp, _, _, _, _, _, kvs, av', mo', rfl, pg, Gm, Gd, by omega, dv, J.out I hi c5 ha0⟩
  · rintro r g ⟨x4, x5, x6, x7, x8, kvs, av, mo, rfl, pg, Gm, Gd, kl, dv, I⟩
    refine ⟨?_, w_ret (x_var rfl) ⟨by rw [I.fin o M c3 c4], pg⟩⟩
    simp only [itObj, Gm]
    rw [List.getElem?_eq_none (by simp [kF])]
end WR

namespace WR
open PySem PySem.Spec PyProof.Rows L2
theorem rowtupG {L : List Ch} {T : List Nat} (hT : ∀ j ∈ T, j < L.length) (hl : T.length ≤ 8) {r : Fm} {g : IH} {c i k : Nat} (rc : r[c]? = some (some (chs L))) (ri : r[i]? = some (some (enR T))) (rl : k < r.length) (ck : k ≠ c) :
    ∃ t, eB pTuple1 (aCons (eLc (eIter (eVar i)) (gVar k) tYesX (eSl (eOp pIdx (eVar c) (eVar k)) oNone (oSome (eC (.int 2)))) [k]) aNil) r g = .ok (tqs (tnL L T)) (g ++ t) := by
  have w4 : ∀ v, ((wipeF r [k]).set k (some v))[c]? = some (some (chs L)) := fun v => by
    simp only [wipeF]
    rw [List.getElem?_set_ne ck, List.getElem?_set_ne ck]; exact rc
  have w11 : ∀ v, ((wipeF r [k]).set k (some v))[k]? = some (some v) := fun v => by
    simp only [wipeF]
    rw [List.getElem?_set_self (by simpa using rl)]
  obtain ⟨t, le⟩ := lc_all (I := eIter (eVar i)) (it := itList (T.map fun j => .int (j : Nat))) (g := gVar k) (c := tYesX) (A := eSl (eOp pIdx (eVar c) (eVar k)) oNone (oSome (eC (.int 2)))) (vs := [k]) (r := r) (h := g) (base := g) (n := T.length) (fun i => tq ((cL L (T.getD i 0)).1, (cL L (T.getD i 0)).2.1)) (fun _ => true) (by omega)
    (by unfold eIter; rw [x_var ri]; rfl)
    (fun i t hi => by
      refine ⟨.int (T[i] : Nat), _, [], by simp [hi], rfl, by simp, fun _ => ⟨[], ?_⟩⟩
      simp only [List.append_nil]
      have hj := hT T[i] (List.getElem_mem hi)
      rw [getD_of (List.getElem?_eq_getElem hi)]
      refine x_sl (x_op (x_var (w4 _)) (x_var (w11 _)) (p_idxT (v := che (cL L T[i])) (by omega) ?_)) o_none (o_some x_c) (p_slT (by decide))
      rw [Int.toNat_natCast, List.getElem?_map, List.getElem?_eq_getElem hj, cL_eq hj]; rfl)
    (fun t => by simp)
  have fe : ((List.range T.length).filter fun _ => true).map (fun i => tq ((cL L (T.getD i 0)).1, (cL L (T.getD i 0)).2.1)) = (tnL L T).map tq := by
    rw [List.filter_eq_self.mpr (by simp)]
    apply List.ext_getElem
    · simp [tnL]
    · intro a b c
      simp at b
      simp [tnL, b]
  rw [fe] at le
  exact ⟨.lst ((tnL L T).map tq) :: t, x_b (x_cons le x_nil) (by simp [tqs])⟩
structure FarOk (F : Rat) : Prop where
  f1 : 1 ≤ F
  f2 : F ≤ 1000000000000
  sm : Sm 100 F
theorem farK {k n : Int} (h0 : 8 ≤ k) (h1 : k ≤ 4000) : FarOk (mkRat k (8 : Int).toNat) := by
  have a : ((1 : Int) : Rat) ≤ mkRat k (8 : Int).toNat := mk_ge (m := 1) (by decide) (by omega)
  have b : mkRat k (8 : Int).toNat ≤ ((500 : Int) : Rat) := mk_le (m := 500) (by decide) (by omega)
  have a' : (1 : Rat) ≤ mkRat k (8 : Int).toNat := a
  refine ⟨a', Rat.le_trans b (by decide +kernel), sm_of (D := 8) (V := 500) (dn_mk8 k) (by decide) (by grind) b (by decide) (by decide)⟩
theorem farI {k : Int} (h0 : 1 ≤ k) (h1 : k ≤ 1000000000000) : FarOk ((k : Int) : Rat) := by
  have a : ((1 : Int) : Rat) ≤ (k : Rat) := Rat.intCast_le_intCast.mpr h0
  have b : (k : Rat) ≤ ((1000000000000 : Int) : Rat) := Rat.intCast_le_intCast.mpr h1
  exact ⟨a, Rat.le_trans b (by decide +kernel), sm_of (D := 1) (V := 1000000000000) (dn1 _) (by decide) (int_nn (by omega)) (Rat.le_trans b (by decide +kernel)) (by decide) (by decide)⟩
theorem wk_ge {p : Pls} (ok : p.Ok) {i : Nat} (hi : i < p.n) : ∀ (T : List Nat), (∀ j ∈ T, j < p.n) → ∀ q, p.wk T i = some q → p.di i ≤ q
  | [], _, q, h => by simp [Pls.wk] at h
  | j :: T, hT, q, h => by
    simp only [Pls.wk] at h
    split at h
    · cases h; exact Rat.le_refl
    · cases e : p.wk T i with
      | none => rw [e] at h; cases h
      | some x =>
        rw [e] at h
        simp only [Option.map, Option.some.injEq] at h
        have := wk_ge ok hi T (fun k hk => hT k (by simp [hk])) x e
        have d := ok.di j (hT j (by simp))
        grind
theorem farW {R : Int} {L : List Ch} (o : OkL R L) {T : List Nat} (hl : T.length ≤ 5) (hT : ∀ j ∈ T, j < L.length) {i : Nat} (hi : i < L.length) {q : Rat} (e : (plsW L wI).wk T i = some q) : FarOk q := by
  have f := (wk_f o wI hi T hT q e).mono (show 60 * T.length + 30 ≤ 330 by omega)
  have g := wk_ge (pls_ok o) hi T hT q e
  have f1 := (o.c L[i] (List.getElem_mem hi)).f1
  rw [← cL_eq hi] at f1
  have g' : (cL L i).2.1 ≤ q := g
  exact ⟨Rat.le_trans f1 g', Rat.le_trans f.u (by decide +kernel), f.sm (by decide) (by decide)⟩
/-- an order that finds the most -/
theorem mst_order {R : Int} {L : List Ch} (o : OkL R L) {F : Rat} {w : Int} (M : Mst R L F w) : ∃ T ∈ ordF L.length L.length, hitW L F T = w := by
  obtain ⟨T, t1, t2, t3, t4⟩ := M.at_
  have sf : ((List.range L.length).filter fun i => !(T.any fun k => k == i)).Nodup := List.nodup_range.sublist List.filter_sublist
  have dj : ∀ a ∈ T, ∀ b ∈ (List.range L.length).filter (fun i => !(T.any fun k => k == i)), a ≠ b := fun a ha b hb z => by
    subst z
    have := (List.mem_filter.mp hb).2
    have z : (T.any fun k => k == a) = true := List.any_eq_true.mpr ⟨a, ha, by simp⟩
    rw [z] at this; cases this
  have nd : (T ++ (List.range L.length).filter fun i => !(T.any fun k => k == i)).Nodup := List.nodup_append.mpr ⟨t1, sf, dj⟩
  have lt : ∀ x ∈ T ++ (List.range L.length).filter (fun i => !(T.any fun k => k == i)), x < L.length := fun x hx => by
    rcases List.mem_append.mp hx with hx | hx
    · exact t2 x hx
    · exact List.mem_range.mp (List.mem_filter.mp hx).1
  refine ⟨_, ordF_mem.mpr ⟨?_, nd, lt⟩, Int.le_antisymm (M.ub _ lt) ?_⟩
  · have a := nd_le (m := List.range L.length) nd fun x hx => List.mem_range.mpr (lt x hx)
    have b := nd_le (l := List.range L.length) (m := T ++ (List.range L.length).filter fun i => !(T.any fun k => k == i)) List.nodup_range fun x hx => by
      by_cases z : x ∈ T
      · exact List.mem_append_left _ z
      · refine List.mem_append_right _ (List.mem_filter.mpr ⟨hx, ?_⟩)
        cases y : T.any fun k => k == x with
        | false => rfl
        | true =>
          obtain ⟨k, k1, k2⟩ := List.any_eq_true.mp y
          exact absurd (eq_of_beq k2 ▸ k1) z
    simp only [List.length_range] at a b
    omega
  · rw [t4]
    refine wsm_mono (fun i hi => w_nn o hi) fun i hi h => ?_
    obtain ⟨x, e⟩ := Pls.wk_some T (p := plsW L wI) (D := fun _ => false) (i := i) rfl h
    have := wk_le o t2 e
    rw [wk_app e]
    exact decide_eq_true (by grind)
theorem ne_int (i : Int) (h : IH) : pNe (.int i) (.int i) h = .ok (.bl false) h := by rw [p_ne (eqB_int i i h)]; simp
theorem eq_int (i : Int) (h : IH) : pEq (.int i) (.int i) h = .ok (.bl true) h := by rw [p_eq (eqB_int i i h)]; simp
theorem lfar_eq {hi ci : Nat} {h : IH} (d : DS hi ci h) (z : h[0]? = some (.tbl "_law_standings")) (hi0 : 0 ≠ hi) (ci0 : 0 ≠ ci) : ∃ h', f__law_far [.obj hi] h = .ok (.bl true) h' := by
  suffices q : ∃ v h1, f__law_far [.obj hi] h = .ok v h1 ∧ v = .bl true by
    obtain ⟨v, h1, e, rfl⟩ := q
    exact ⟨h1, e⟩
  obtain ⟨a, h1, e1, a1, a2, d1, k1⟩ := draw d 5 (by omega) (by omega)
  have z1 := k1.get 0 _ hi0 ci0 z
  obtain ⟨L, h2, e2, o, ll, d2, k2⟩ := chances_draw d1 (1 + a) 8 (by omega) (by omega) (by decide) (by decide)
  have z2 := k2.get 0 _ hi0 ci0 z1
  generalize hR : 1 + a = R at *
  have d2' := d2.app [MO.lst [.int 400, .int 2000]]
  have z2' : (h2 ++ [MO.lst [.int 400, .int 2000]])[0]? = some (.tbl "_law_standings") := get_old z2
  have l2 : (h2 ++ [MO.lst [.int 400, .int 2000]])[h2.length]? = some (.lst [.int 400, .int 2000]) := gl
  have lt2 := d2.lt
  obtain ⟨b, h3, e3, b1, b2, d3, k3⟩ := draw d2' 2 (by omega) (by omega)
  have z3 := k3.get 0 _ hi0 ci0 z2'
  have l3 := k3.get h2.length _ (by omega) (by omega) l2
  obtain ⟨M, hM, m1, m8⟩ : ∃ M : Int, [PV.int 400, .int 2000][b.toNat]? = some (.int M) ∧ 1 ≤ M ∧ M ≤ 2000 := by
    have : b = 0 ∨ b = 1 := by omega
    rcases this with rfl | rfl
    · exact ⟨400, rfl, by decide, by decide⟩
    · exact ⟨2000, rfl, by decide, by decide⟩
  obtain ⟨c, h4, e4, c1, c2, d4, k4⟩ := draw d3 M (by omega) (by omega)
  have z4 := k4.get 0 _ hi0 ci0 z3
  have f4 := lf_eq' (8 + c) 8 h4 (by omega) (by omega) (by omega)
  have fo : FarOk (mkRat (8 + c) (8 : Int).toNat) := farK (n := 0) (by omega) (by omega)
  generalize mkRat (8 + c) (8 : Int).toNat = F at *
  have sF := fo.sm
  have F1 := fo.f1
  obtain ⟨w, sb, m, t, e5, E5, mi, ub⟩ := most_eq o sF (by decide) fo.f1 fo.f2 h4
  have M := mst_of o (by grind) mi ub
  obtain ⟨T, p1, p2, p3, p4, p5, p6⟩ := plT_w o mi
  rw [p1] at E5
  have hw : hitW L F T = w := by rw [hit_all o p4 p5, p6]
  have z5 : (h4 ++ t)[0]? = some (.tbl "_law_standings") := get_old z4
  refine w_fn rfl ?_
  unfold b__law_far
  refine w_seq (w_set (x_op x_c (x_call (x_cons (x_var rfl) (x_cons x_c x_nil)) e1) p_addI) ?_)
  rw [hR]
  refine w_seq (w_set (x_call (x_cons (x_var rfl) (x_cons (x_var rfl) (x_cons x_c x_nil))) e2) ?_)
  refine w_seq (w_set (x_call (x_cons (x_op x_c (x_call (x_cons (x_var rfl) (x_cons (x_op (x_lst (x_cons x_c (x_cons x_c x_nil)) (show 2 ≤ 16777216 by decide)) (x_call (x_cons (x_var rfl) (x_cons x_c x_nil)) e3) (p_idxL l3 b1 hM)) x_nil)) e4) p_addI) (x_cons x_c x_nil)) f4) ?_)
  refine w_seq (w_asg (x_call (x_cons (x_var rfl) (x_cons (x_var rfl) (x_cons (x_var rfl) x_nil))) e5) rfl ?_)
  generalize h4 ++ t = g at *
  have lw := lweight_eq o (show T.length ≤ 8 by omega) p4 sF (n := g.length) (h := g ++ [MO.lst [.int R, tqs (tnL L T), .tup [.int 0, .int 1]]]) gl
  rw [hw] at lw
  refine w_seq (w_if (b := false) (t_bl (x_op (x_call (x_cons (x_lst (x_cons (x_var rfl) (x_cons (x_prop (x_var rfl) E5 (pturns_eq E5)) (x_cons (x_tup (x_cons x_c (x_cons x_c x_nil)) (show 2 ≤ 16777216 by decide)) x_nil))) (show 3 ≤ 16777216 by decide)) (x_cons (x_var rfl) (x_cons (x_var rfl) x_nil))) lw) (x_var rfl) (ne_int _ _))) (by simp) fun _ => w_nil ?_)
  obtain ⟨t6, e6⟩ := lmost_eq o sF M (h := g ++ [MO.lst [.int R, tqs (tnL L T), .tup [.int 0, .int 1]]]) (tabOk_of (get_old z5))
  refine w_ret (x_op (x_var rfl) (x_call (x_cons (x_var rfl) (x_cons (x_var rfl) x_nil)) e6) (eq_int _ _)) rfl
end WR

namespace WR
open PySem PySem.Spec PyProof.Rows L2
/-- the list of plans stands -/
structure Pls5 (R : Int) (L : List Ch) (P : Nat) (n : Nat) (g : IH) : Prop where
  ex : ∃ ids : List Nat, g[P]? = some (.lst (ids.map .obj)) ∧ ids.length = n ∧ ∀ (k id : Nat), ids[k]? = some id → P < id ∧ ∃ T, (ordF L.length L.length)[k]? = some T ∧ g[id]? = some (.lst [.int R, tqs (tnL L T), fq 0])
theorem Pls5.draw {R : Int} {L : List Ch} {P n hi ci : Nat} {g g' : IH} (p : Pls5 R L P n g) (h1 : hi < P) (h2 : ci < P) (k : Kp hi ci g g') : Pls5 R L P n g' := by
  obtain ⟨ids, e1, e2, e3⟩ := p.ex
  refine ⟨ids, k.get _ _ (by omega) (by omega) e1, e2, fun i id hid => ?_⟩
  obtain ⟨z1, T, z2, z3⟩ := e3 i id hid
  exact ⟨z1, T, z2, k.get _ _ (by omega) (by omega) z3⟩
theorem Pls5.app {R : Int} {L : List Ch} {P n : Nat} {g : IH} (p : Pls5 R L P n g) (t : IH) : Pls5 R L P n (g ++ t) := by
  obtain ⟨ids, e1, e2, e3⟩ := p.ex
  refine ⟨ids, get_old e1, e2, fun i id hid => ?_⟩
  obtain ⟨z1, T, z2, z3⟩ := e3 i id hid
  exact ⟨z1, T, z2, get_old z3⟩
set_option maxHeartbeats 4000000 in
theorem law_true (ns : List Int) (hl : ns.length ≤ 63) : ∃ h, f_law [.fls (ns.map .int)] [.tbl "_law_standings"] = .ok (.bl true) h := by
  suffices q : ∃ v h1, f_law [.fls (ns.map .int)] [.tbl "_law_standings"] = .ok v h1 ∧ v = .bl true by
    obtain ⟨v, h1, e, rfl⟩ := q
    exact ⟨h1, e⟩
  obtain ⟨h1, e1, d1, k1⟩ := mix_eq ns 15 hl [.tbl "_law_standings"]
  generalize hhi : [MO.tbl "_law_standings"].length + 1 = hi at *
  generalize hci : [MO.tbl "_law_standings"].length = ci at *
  have hi0 : 0 ≠ hi := by rw [← hhi]; simp
  have ci0 : 0 ≠ ci := by rw [← hci]; simp
  have z1 : h1[0]? = some (.tbl "_law_standings") := k1.get 0 _ hi0 ci0 rfl
  obtain ⟨a, h2, e2, a1, a2, d2, k2⟩ := draw d1 4 (by omega) (by omega)
  have z2 := k2.get 0 _ hi0 ci0 z1
  refine w_fn rfl ?_
  unfold b_law
  refine w_seq (w_set (x_call (x_cons (x_var rfl) (x_cons x_c x_nil)) e1) ?_)
  refine w_seq (w_if (b := a == 0) (t_bl (x_op (x_call (x_cons (x_var rfl) (x_cons x_c x_nil)) e2) x_c (p_eq (eqB_int a 0 h2)))) (fun q => ?_) (fun q => w_nil ?_))
  · obtain ⟨h', e⟩ := lfar_eq d2 z2 hi0 ci0
    exact w_ret (x_call (x_cons (x_var rfl) x_nil) e) rfl
  clear q a1 a2 e1
  obtain ⟨a, h3, e3, a1, a2, d3, k3⟩ := draw d2 5 (by omega) (by omega)
  have z3 := k3.get 0 _ hi0 ci0 z2
  obtain ⟨L, h4, e4, o, ll, d4, k4⟩ := chances_draw d3 (1 + a) 5 (by omega) (by omega) (by decide) (by decide)
  have z4 := k4.get 0 _ hi0 ci0 z3
  refine w_seq (w_set (x_op x_c (x_call (x_cons (x_var rfl) (x_cons x_c x_nil)) e3) p_addI) ?_)
  generalize hR : 1 + a = R at *
  refine w_seq (w_set (x_call (x_cons (x_var rfl) (x_cons (x_var rfl) (x_cons x_c x_nil))) e4) ?_)
  have l5 : L.length ≤ 5 := ll
  have n1 := o.n1
  clear e2 e3 e4 k1 k2 k3 k4 d1 d2 d3 z1 z2 z3 h1 h2 h3
  refine w_seq (w_set (x_lst x_nil (by simp)) ?_)
  have lt4 := d4.lt
  obtain ⟨m, t5, e5, om, lm⟩ := orders2_eq (n := L.length) l5 (h4 ++ [.lst []])
  have ol := ordF_b (n := L.length) (k := L.length) l5 l5
  have mP : m ≠ h4.length := by simp at lm; omega
  have G0 : (h4 ++ [.lst []] ++ t5)[h4.length]? = some (.lst []) := get_old gl
  have lenC : ∀ (r : Fm) (g : IH), r[3]? = some (some (chs L)) → eB pLen (aCons (eVar 3) aNil) r g = .ok (.int L.length) g := fun r g e => by
    have := x_b (f := pLen) (x_cons (A := eVar 3) (L := aNil) (r := r) (h := g) (x_var e) x_nil) p_lenT
    rwa [List.length_map] at this
  refine w_seq (w_for (ordF L.length L.length).length (fun i r g => ∃ x5, r = [some (.fls (ns.map .int)), some (.obj hi), some (.int R), some (chs L), some (.obj h4.length), x5, none, none, none, none, none, none, none] ∧ h4.length < g.length ∧ DS hi ci g ∧ g[0]? = some (.tbl "_law_standings") ∧ g[m]? = some (.lst ((ordF L.length L.length).map enR)) ∧ Pls5 R L h4.length i g) (it := itObj m) (h1 := h4 ++ [.lst []] ++ t5) ?_ (by omega) ⟨_, rfl, by simp, (d4.app _).app _, get_old (get_old z4), om, ⟨[], G0, rfl, fun k id hid => by simp at hid⟩⟩ ?_ ?_)
  · have := x_call (f := f__law_orders) (x_cons (lenC [some (.fls (ns.map .int)), some (.obj hi), some (.int R), some (chs L), some (.obj h4.length), none, none, none, none, none, none, none, none] (h4 ++ [.lst []]) rfl) x_nil) e5
    show eIter _ [some (.fls (ns.map .int)), some (.obj hi), some (.int R), some (chs L), some (.obj h4.length), none, none, none, none, none, none, none, none] _ = _
    unfold eIter
    rw [this]
    simp only [bind_ok, om]
  · rintro i r g hi' ⟨x5, rfl, hg, dg, zg, Gm, p5⟩
    obtain ⟨ids, i1, i2, i3⟩ := p5.ex
    have hm := ordF_mem.mp (List.getElem_mem hi')
    have gT : (ordF L.length L.length)[i]? = some (ordF L.length L.length)[i] := List.getElem?_eq_getElem hi'
    refine ⟨enR (ordF L.length L.length)[i], _, ?_, rfl, ?_⟩
    · simp only [itObj, Gm]
      rw [List.getElem?_map, gT]; rfl
    generalize (ordF L.length L.length)[i] = T at *
    obtain ⟨t6, te⟩ := rowtupG (L := L) (T := T) hm.2.2 (by omega) (r := [some (.fls (ns.map .int)), some (.obj hi), some (.int R), some (chs L), some (.obj h4.length), some (enR T), none, none, none, none, none, none, none]) (g := g) (c := 3) (i := 5) (k := 11) rfl rfl (by simp) (by decide)
    have G6 : (g ++ t6 ++ [MO.lst [.int R, tqs (tnL L T), .tup [.int 0, .int 1]]])[h4.length]? = some (.lst (ids.map .obj)) := get_old (get_old i1)
    refine w_expr (x_app (x_var rfl) i1 (x_cons (x_lst (x_cons (x_var rfl) (x_cons te (x_cons (x_tup (x_cons x_c (x_cons x_c x_nil)) (show 2 ≤ 16777216 by decide)) x_nil))) (show 3 ≤ 16777216 by decide)) x_nil) G6 (by simp; omega)) ⟨some (enR T), rfl, by simp; omega, ?_, ?_, ?_, ⟨ids ++ [(g ++ t6).length], ?_, by simp [i2], fun k id hid => ?_⟩⟩
    · exact ((dg.app _).app _).set _ (by omega) (by omega)
    · rw [get_set_ne (by omega)]; exact get_old (get_old zg)
    · rw [get_set_ne (fun z => mP z.symm)]; exact get_old (get_old Gm)
    · rw [get_set_eq G6]; simp
    · by_cases q : k < ids.length
      · rw [List.getElem?_append_left q] at hid
        obtain ⟨y1, T', y2, y3⟩ := i3 k id hid
        exact ⟨y1, T', y2, by rw [get_set_ne (by omega)]; exact get_old (get_old y3)⟩
      · have hk : k = ids.length := by
          have := (List.getElem?_eq_some_iff.mp hid).1
          simp at this; omega
        subst hk
        simp at hid
        subst hid
        refine ⟨by omega, T, by rw [i2]; exact gT, ?_⟩
        rw [get_set_ne (by simp; omega)]
        have := gl (h := g ++ t6) (o := MO.lst [.int R, tqs (tnL L T), .tup [.int 0, .int 1]])
        rw [List.length_append] at this
        exact this
  · rintro r g ⟨x5, rfl, hg, dg, zg, Gm, p5⟩
    refine ⟨?_, ?_⟩
    · simp only [itObj, Gm]
      rw [List.getElem?_eq_none (by simp)]
    clear e5 om G0 d4 z4 Gm lm mP
    have o1 : 1 ≤ (ordF L.length L.length).length := by
      have : List.range L.length ∈ ordF L.length L.length := ordF_mem.mpr ⟨by simp, List.nodup_range, fun x hx => List.mem_range.mp hx⟩
      exact List.length_pos_of_mem this
    obtain ⟨ids, i1, i2, i3⟩ := p5.ex
    obtain ⟨b, h5, e5, b1, b2, d5, k5⟩ := draw dg (ids.length : Nat) (by omega) (by omega)
    have z5 := k5.get 0 _ hi0 ci0 zg
    have p5' := p5.draw (by omega) (by omega) k5
    have P5 := k5.get h4.length _ (by omega) (by omega) i1
    have hb : b.toNat < ids.length := by omega
    obtain ⟨y1, T, y2, y3⟩ := i3 b.toNat _ (List.getElem?_eq_getElem hb)
    have Y := k5.get _ _ (by omega) (by omega) y3
    have hT := ordF_mem.mp (List.mem_of_getElem? y2)
    have lenP : eB pLen (aCons (eVar 4) aNil) [some (.fls (ns.map .int)), some (.obj hi), some (.int R), some (chs L), some (.obj h4.length), x5, none, none, none, none, none, none, none] g = .ok (.int (ids.length : Nat)) g := by
      have := x_b (f := pLen) (x_cons (A := eVar 4) (L := aNil) (r := [some (.fls (ns.map .int)), some (.obj hi), some (.int R), some (chs L), some (.obj h4.length), x5, none, none, none, none, none, none, none]) (h := g) (x_var rfl) x_nil) (p_lenL i1)
      rwa [List.length_map] at this
    refine w_seq (w_set (x_op (x_var rfl) (x_call (x_cons (x_var rfl) (x_cons lenP x_nil)) e5) (p_idxL P5 b1 (by rw [List.getElem?_map, List.getElem?_eq_getElem hb]; rfl))) ?_)
    generalize ids[b.toNat] = ow at *
    have p6 := p5'
    clear p5 p5' i1 i2 i3 e5 P5 lenP k5 y1 y3 hb b1 b2 hg dg zg
    -- the last turn of the own plan
    obtain ⟨T0, j, rfl⟩ : ∃ T0 j, T = T0 ++ [j] := by
      have : T ≠ [] := fun z => by subst z; simp at hT; omega
      exact ⟨T.dropLast, T.getLast this, (List.dropLast_concat_getLast this).symm⟩
    have hj : j < L.length := hT.2.2 j (by simp)
    have tl : (T0 ++ [j]).length ≤ 5 := by omega
    obtain ⟨q, wq⟩ := Pls.wk_some (T0 ++ [j]) (p := plsW L wI) (D := fun _ => false) (i := j) rfl (by rw [aft_any, Bool.false_or]; exact List.any_eq_true.mpr ⟨j, by simp, Pls.near_self j⟩)
    have fW := farW o tl hT.2.2 hj wq
    have okp := okP_tn o (T := T0 ++ [j]) (by omega) hT.2.2
    have sdj : Sm 10 (cL L j).2.1 := by rw [cL_eq hj]; exact (o.c L[j] (List.getElem_mem hj)).sm
    have lw := lwalked_eq okp Y (cL L j).1 sdj (by decide)
    rw [wkd_pls (R := R) wI (L := L) (T0 ++ [j]) j, wq] at lw
    have ixT : ∀ (r : Fm), r[6]? = some (some (.obj ow)) → eOp pIdx (eOp pIdx (eVar 6) (eC (.int 1))) (eUn pNeg (eC (.int 1))) r h5 = .ok (tq ((cL L j).1, (cL L j).2.1)) h5 := fun r e => by
      refine x_op (x_op (x_var e) x_c (p_idxL Y (by decide) rfl)) (w := .int (-1)) (h2 := h5) rfl ?_
      have : (tnL L (T0 ++ [j])).map tq = (tnL L T0).map tq ++ [tq ((cL L j).1, (cL L j).2.1)] := by simp [tnL]
      unfold tqs
      rw [this]
      simp only [pIdx, atI_m1, opt]
    refine w_seq (w_set (x_call (x_cons (x_var rfl) (x_cons (x_op (ixT _ rfl) x_c (p_idxT (v := .int (cL L j).1) (by decide) rfl)) (x_cons (x_op (ixT _ rfl) x_c (p_idxT (v := fq (cL L j).2.1) (by decide) rfl)) x_nil))) lw) ?_)
    clear ixT lw okp
    obtain ⟨b, h6, e6, b1, b2, d6, k6⟩ := draw d5 40 (by omega) (by omega)
    obtain ⟨c, h7, e7, c1, c2, d7, k7⟩ := draw d6 400 (by omega) (by omega)
    have f7 := lf_eq' (8 + c) 8 h7 (by omega) (by omega) (by omega)
    have k67 := k6.trans k7
    have p7 := p6.draw (by omega) (by omega) k67
    have z7 := k67.get 0 _ hi0 ci0 z5
    have pw : pPow (.int 10) (.int 12) h7 = .ok (.int 1000000000000) h7 := by
      have e : (0 : Int) ≤ 12 ∧ (12 : Int) ≤ 1000000 ∧ (10 : Int).natAbs < 18446744073709551616 := by decide
      have e2 : (10 : Int) ^ (12 : Int).toNat = 1000000000000 := by decide
      simp only [pPow, if_pos e, e2]
    refine w_seq (w_set (x_lst (x_cons (x_var rfl) (x_cons (x_tup (x_cons (x_op x_c (x_call (x_cons (x_var rfl) (x_cons x_c x_nil)) e6) p_addI) (x_cons x_c x_nil)) (show 2 ≤ 16777216 by decide)) (x_cons (x_call (x_cons (x_op x_c (x_call (x_cons (x_var rfl) (x_cons x_c x_nil)) e7) p_addI) (x_cons x_c x_nil)) f7) (x_cons (x_tup (x_cons (x_op x_c x_c pw) (x_cons x_c x_nil)) (show 2 ≤ 16777216 by decide)) x_nil)))) (show 4 ≤ 16777216 by decide)) ?_)
    have F2 := farI (k := 1 + b) (by omega) (by omega)
    have F3 := farK (k := 8 + c) (n := 0) (by omega) (by omega)
    have F4 := farI (k := 1000000000000) (by decide) (by decide)
    have G8 : (h7 ++ [MO.lst [oq (some q), .tup [.int (1 + b), .int 1], fq (mkRat (8 + c) (8 : Int).toNat), .tup [.int 1000000000000, .int 1]]])[h7.length]? = some (.lst [oq (some q), .tup [.int (1 + b), .int 1], fq (mkRat (8 + c) (8 : Int).toNat), .tup [.int 1000000000000, .int 1]]) := gl
    have d8 := d7.app [MO.lst [oq (some q), .tup [.int (1 + b), .int 1], fq (mkRat (8 + c) (8 : Int).toNat), .tup [.int 1000000000000, .int 1]]]
    have p8 := p7.app [MO.lst [oq (some q), .tup [.int (1 + b), .int 1], fq (mkRat (8 + c) (8 : Int).toNat), .tup [.int 1000000000000, .int 1]]]
    have z8 : (h7 ++ [MO.lst [oq (some q), .tup [.int (1 + b), .int 1], fq (mkRat (8 + c) (8 : Int).toNat), .tup [.int 1000000000000, .int 1]]])[0]? = some (.tbl "_law_standings") := get_old z7
    have lt7 := d7.lt
    obtain ⟨v, h9, e9, v1, v2, d9, k9⟩ := draw d8 4 (by omega) (by omega)
    have p9 := p8.draw (by omega) (by omega) k9
    have z9 := k9.get 0 _ hi0 ci0 z8
    have G9 := k9.get _ _ (by omega) (by omega) G8
    obtain ⟨F, hF, fo⟩ : ∃ F : Rat, [oq (some q), .tup [.int (1 + b), .int 1], fq (mkRat (8 + c) (8 : Int).toNat), .tup [.int 1000000000000, .int 1]][v.toNat]? = some (fq F) ∧ FarOk F := by
      have : v = 0 ∨ v = 1 ∨ v = 2 ∨ v = 3 := by omega
      rcases this with rfl | rfl | rfl | rfl
      · exact ⟨_, rfl, fW⟩
      · exact ⟨_, rfl, F2⟩
      · exact ⟨_, rfl, F3⟩
      · exact ⟨_, rfl, F4⟩
    refine w_seq (w_set (x_op (x_var rfl) (x_call (x_cons (x_var rfl) (x_cons x_c x_nil)) e9) (p_idxL G9 v1 hF)) ?_)
    have sF := fo.sm
    have f1 := fo.f1
    obtain ⟨w, sb, mm, t, e10, E10, mi, ub⟩ := most_eq o sF (by decide) fo.f1 fo.f2 h9
    have M := mst_of o (by grind) mi ub
    obtain ⟨T1, q1, q2, q3, q4, q5, q6⟩ := plT_w o mi
    rw [q1] at E10
    have hw : hitW L F T1 = w := by rw [hit_all o q4 q5, q6]
    refine w_seq (w_asg (x_call (x_cons (x_var rfl) (x_cons (x_var rfl) (x_cons (x_var rfl) x_nil))) e10) rfl ?_)
    have p10 := p9.app t
    generalize h9 ++ t = g at *
    refine w_seq (w_if (b := false) (h1 := g) (t_or (b := false) (t_not (b := true) (t_tru (x_b (x_cons (x_var rfl) (x_cons x_c x_nil)) (v := .bl true) (h2 := g) (by simp [E10, ownCs])) rfl)) (fun _ => t_or (b := false) (t_bl (x_op (x_prop (x_var rfl) E10 (proads_eq E10)) (x_var rfl) (by rw [p_ne (eqB_int _ _ _)]; simp))) (fun _ => t_bl (x_op (x_prop (x_var rfl) E10 (pcost_eq E10)) (x_tup (x_cons x_c (x_cons x_c x_nil)) (show 2 ≤ 16777216 by decide)) (by rw [fq_zero, p_ne (eq_fq _ _ _)]; simp))) (by simp)) (by simp)) (by simp) fun _ => w_nil ?_)
    have lw := lweight_eq o (show T1.length ≤ 8 by omega) q4 sF (n := g.length) (h := g ++ [MO.lst [.int R, tqs (tnL L T1), .tup [.int 0, .int 1]]]) gl
    rw [hw] at lw
    refine w_seq (w_if (b := false) (t_bl (x_op (x_call (x_cons (x_lst (x_cons (x_var rfl) (x_cons (x_prop (x_var rfl) E10 (pturns_eq E10)) (x_cons (x_tup (x_cons x_c (x_cons x_c x_nil)) (show 2 ≤ 16777216 by decide)) x_nil))) (show 3 ≤ 16777216 by decide)) (x_cons (x_var rfl) (x_cons (x_var rfl) x_nil))) lw) (x_var rfl) (ne_int _ _))) (by simp) fun _ => w_nil ?_)
    have p11 := p10.app [MO.lst [.int R, tqs (tnL L T1), .tup [.int 0, .int 1]]]
    generalize g ++ [MO.lst [.int R, tqs (tnL L T1), .tup [.int 0, .int 1]]] = k at *
    obtain ⟨ids, i1, i2, i3⟩ := p11.ex
    generalize hOs : ordF L.length L.length = Os at *
    obtain ⟨t12, le⟩ := lc_all (I := eIter (eVar 4)) (it := itObj h4.length) (g := gVar 12) (c := tYesX) (A := eCall f__law_weight (aCons (eVar 12) (aCons (eVar 3) (aCons (eVar 8) aNil)))) (vs := [12]) (r := [some (.fls (ns.map .int)), some (.obj hi), some (.int R), some (chs L), some (.obj h4.length), x5, some (.obj ow), some (oq (some q)), some (fq F), some (.int w), some (.obj mm), none, none]) (h := k) (base := k) (n := Os.length) (fun i => .int (hitW L F (Os.getD i []))) (fun _ => true) (by omega)
      (by unfold eIter; rw [x_var rfl]; simp only [bind_ok, i1])
      (fun i t hi' => by
        have hi2 : i < ids.length := by omega
        obtain ⟨y1, T, y2, y3⟩ := i3 i _ (List.getElem?_eq_getElem hi2)
        have hT := ordF_mem.mp (by rw [hOs]; exact List.mem_of_getElem? y2 : T ∈ ordF L.length L.length)
        refine ⟨.obj ids[i], _, [], ?_, rfl, by rw [List.append_nil]; rfl, fun _ => ⟨[], ?_⟩⟩
        · have : (k ++ t)[h4.length]? = some (.lst (ids.map .obj)) := get_old i1
          simp only [itObj, this]
          rw [List.getElem?_map, List.getElem?_eq_getElem hi2]; rfl
        · simp only [List.append_nil]
          rw [getD_of y2]
          exact x_call (x_cons (x_var rfl) (x_cons (x_var rfl) (x_cons (x_var rfl) x_nil))) (lweight_eq o (by omega) hT.2.2 sF (get_old y3)))
      (fun t => by
        have : (k ++ t)[h4.length]? = some (.lst (ids.map .obj)) := get_old i1
        simp only [itObj, this]
        rw [List.getElem?_eq_none (by simp; omega)])
    have ef : ((List.range Os.length).filter fun _ => true).map (fun i => PV.int (hitW L F (Os.getD i []))) = (Os.map fun T => hitW L F T).map .int := by
      rw [List.filter_eq_self.mpr (by simp)]
      apply List.ext_getElem
      · simp
      · intro a b c
        simp at b
        simp [b]
    rw [ef] at le
    have mw : mxL (Os.map fun T => hitW L F T) = w := by
      refine mxL_uniq ?_ fun y hy => ?_
      · obtain ⟨T, hT, eT⟩ := mst_order o M
        rw [hOs] at hT
        exact List.mem_map.mpr ⟨T, hT, eT⟩
      · obtain ⟨T, hT, rfl⟩ := List.mem_map.mp hy
        rw [← hOs] at hT
        exact M.ub T (ordF_mem.mp hT).2.2
    have ne : (Os.map fun T => hitW L F T).isEmpty = false := by
      cases Os with
      | nil => simp at o1
      | cons _ _ => rfl
    have fin : pMaxL [.obj k.length] (k ++ .lst ((Os.map fun T => hitW L F T).map .int) :: t12) = .ok (.int w) (k ++ .lst ((Os.map fun T => hitW L F T).map .int) :: t12) := by
      simp only [pMaxL, ga0, List.getElem?_cons_zero, keyOf_ints, ne, mw]
      rfl
    refine w_ret (x_op (x_b (x_cons le x_nil) fin) (x_var rfl) (eq_int _ _)) rfl
end WR

/-! each def does what its code says -/
namespace WR
open PySem PySem.Spec PyProof.Rows L2
def topS (i : Nat) : Stmt := PySem.Challenge.pw_whichroad_k15_whole_most_in_a_walk.main.body.getD i (.Pass ⟨0, 0, 0, 0⟩)
structure Txt (K : PySem.W.Frag) (mg : Str → Option Value) : Prop where
  d_is_integer : ∃ fd, Fun K "is_integer" "is_integer" (topS 9) (He.ga K "is_integer") fd
  g_is_integer : mg "is_integer" = some (.ref (He.ga K "is_integer"))
  d_is_from : ∃ fd, Fun K "is_from" "is_from" (topS 10) (He.ga K "is_from") fd
  g_is_from : mg "is_from" = some (.ref (He.ga K "is_from"))
  d_common : ∃ fd, Fun K "common" "common" (topS 11) (He.ga K "common") fd
  g_common : mg "common" = some (.ref (He.ga K "common"))
  d_ratio : ∃ fd, Fun K "ratio" "ratio" (topS 12) (He.ga K "ratio") fd
  g_ratio : mg "ratio" = some (.ref (He.ga K "ratio"))
  d_is_fraction : ∃ fd, Fun K "is_fraction" "is_fraction" (topS 13) (He.ga K "is_fraction") fd
  g_is_fraction : mg "is_fraction" = some (.ref (He.ga K "is_fraction"))
  d_plus : ∃ fd, Fun K "plus" "plus" (topS 14) (He.ga K "plus") fd
  g_plus : mg "plus" = some (.ref (He.ga K "plus"))
  d_minus : ∃ fd, Fun K "minus" "minus" (topS 15) (He.ga K "minus") fd
  g_minus : mg "minus" = some (.ref (He.ga K "minus"))
  d_times : ∃ fd, Fun K "times" "times" (topS 16) (He.ga K "times") fd
  g_times : mg "times" = some (.ref (He.ga K "times"))
  d_is_less : ∃ fd, Fun K "is_less" "is_less" (topS 17) (He.ga K "is_less") fd
  g_is_less : mg "is_less" = some (.ref (He.ga K "is_less"))
  d_is_within : ∃ fd, Fun K "is_within" "is_within" (topS 18) (He.ga K "is_within") fd
  g_is_within : mg "is_within" = some (.ref (He.ga K "is_within"))
  d_greatest_of : ∃ fd, Fun K "greatest_of" "greatest_of" (topS 19) (He.ga K "greatest_of") fd
  g_greatest_of : mg "greatest_of" = some (.ref (He.ga K "greatest_of"))
  d_is_reach : ∃ fd, Fun K "is_reach" "is_reach" (topS 24) (He.ga K "is_reach") fd
  g_is_reach : mg "is_reach" = some (.ref (He.ga K "is_reach"))
  d_is_turn : ∃ fd, Fun K "is_turn" "is_turn" (topS 25) (He.ga K "is_turn") fd
  g_is_turn : mg "is_turn" = some (.ref (He.ga K "is_turn"))
  d_check_roads : ∃ fd, Fun K "check_roads" "check_roads" (topS 26) (He.ga K "check_roads") fd
  g_check_roads : mg "check_roads" = some (.ref (He.ga K "check_roads"))
  d_check_cost : ∃ fd, Fun K "check_cost" "check_cost" (topS 27) (He.ga K "check_cost") fd
  g_check_cost : mg "check_cost" = some (.ref (He.ga K "check_cost"))
  d_Plan___init__ : ∃ fd, Fun K "__init__" "Plan.__init__" (inClass (topS 28) 0) (He.ma K (He.ga K "Plan") "__init__") fd
  d_Plan_roads : ∃ fd, Fun K "roads" "Plan.roads" (inClass (topS 28) 1) (He5.wf K (He.ga K "Plan") "property" "roads") fd
  d_Plan_turns : ∃ fd, Fun K "turns" "Plan.turns" (inClass (topS 28) 2) (He5.wf K (He.ga K "Plan") "property" "turns") fd
  d_Plan_cost : ∃ fd, Fun K "cost" "Plan.cost" (inClass (topS 28) 3) (He5.wf K (He.ga K "Plan") "property" "cost") fd
  d_Plan___len__ : ∃ fd, Fun K "__len__" "Plan.__len__" (inClass (topS 28) 4) (He.ma K (He.ga K "Plan") "__len__") fd
  d_Plan___eq__ : ∃ fd, Fun K "__eq__" "Plan.__eq__" (inClass (topS 28) 5) (He.ma K (He.ga K "Plan") "__eq__") fd
  d_is_chance : ∃ fd, Fun K "is_chance" "is_chance" (topS 33) (He.ga K "is_chance") fd
  g_is_chance : mg "is_chance" = some (.ref (He.ga K "is_chance"))
  d_check_chances : ∃ fd, Fun K "check_chances" "check_chances" (topS 34) (He.ga K "check_chances") fd
  g_check_chances : mg "check_chances" = some (.ref (He.ga K "check_chances"))
  d_with_place : ∃ fd, Fun K "with_place" "with_place" (topS 35) (He.ga K "with_place") fd
  g_with_place : mg "with_place" = some (.ref (He.ga K "with_place"))
  d_rows_of : ∃ fd, Fun K "rows_of" "rows_of" (topS 36) (He.ga K "rows_of") fd
  g_rows_of : mg "rows_of" = some (.ref (He.ga K "rows_of"))
  d_standings_of : ∃ fd, Fun K "standings_of" "standings_of" (topS 38) (He.ga K "standings_of") fd
  g_standings_of : mg "standings_of" = some (.ref (He.ga K "standings_of"))
  d_walk_to : ∃ fd, Fun K "walk_to" "walk_to" (topS 39) (He.ga K "walk_to") fd
  g_walk_to : mg "walk_to" = some (.ref (He.ga K "walk_to"))
  d_plan_to : ∃ fd, Fun K "plan_to" "plan_to" (topS 40) (He.ga K "plan_to") fd
  g_plan_to : mg "plan_to" = some (.ref (He.ga K "plan_to"))
  d_most_found : ∃ fd, Fun K "most_found" "most_found" (topS 41) (He.ga K "most_found") fd
  g_most_found : mg "most_found" = some (.ref (He.ga K "most_found"))
  d__law_mix : ∃ fd, Fun K "_law_mix" "_law_mix" (topS 43) (He.ga K "_law_mix") fd
  g__law_mix : mg "_law_mix" = some (.ref (He.ga K "_law_mix"))
  d__law_next : ∃ fd, Fun K "_law_next" "_law_next" (topS 44) (He.ga K "_law_next") fd
  g__law_next : mg "_law_next" = some (.ref (He.ga K "_law_next"))
  d__law_part : ∃ fd, Fun K "_law_part" "_law_part" (topS 45) (He.ga K "_law_part") fd
  g__law_part : mg "_law_part" = some (.ref (He.ga K "_law_part"))
  d__law_f : ∃ fd, Fun K "_law_f" "_law_f" (topS 46) (He.ga K "_law_f") fd
  g__law_f : mg "_law_f" = some (.ref (He.ga K "_law_f"))
  d__law_add : ∃ fd, Fun K "_law_add" "_law_add" (topS 47) (He.ga K "_law_add") fd
  g__law_add : mg "_law_add" = some (.ref (He.ga K "_law_add"))
  d__law_mul : ∃ fd, Fun K "_law_mul" "_law_mul" (topS 48) (He.ga K "_law_mul") fd
  g__law_mul : mg "_law_mul" = some (.ref (He.ga K "_law_mul"))
  d__law_div : ∃ fd, Fun K "_law_div" "_law_div" (topS 49) (He.ga K "_law_div") fd
  g__law_div : mg "_law_div" = some (.ref (He.ga K "_law_div"))
  d__law_under : ∃ fd, Fun K "_law_under" "_law_under" (topS 50) (He.ga K "_law_under") fd
  g__law_under : mg "_law_under" = some (.ref (He.ga K "_law_under"))
  d__law_reach : ∃ fd, Fun K "_law_reach" "_law_reach" (topS 51) (He.ga K "_law_reach") fd
  g__law_reach : mg "_law_reach" = some (.ref (He.ga K "_law_reach"))
  d__law_turns : ∃ fd, Fun K "_law_turns" "_law_turns" (topS 52) (He.ga K "_law_turns") fd
  g__law_turns : mg "_law_turns" = some (.ref (He.ga K "_law_turns"))
  d__law_plan : ∃ fd, Fun K "_law_plan" "_law_plan" (topS 53) (He.ga K "_law_plan") fd
  g__law_plan : mg "_law_plan" = some (.ref (He.ga K "_law_plan"))
  d__law_walked : ∃ fd, Fun K "_law_walked" "_law_walked" (topS 54) (He.ga K "_law_walked") fd
  g__law_walked : mg "_law_walked" = some (.ref (He.ga K "_law_walked"))
  d__law_orders : ∃ fd, Fun K "_law_orders" "_law_orders" (topS 55) (He.ga K "_law_orders") fd
  g__law_orders : mg "_law_orders" = some (.ref (He.ga K "_law_orders"))
  d__law_chances : ∃ fd, Fun K "_law_chances" "_law_chances" (topS 56) (He.ga K "_law_chances") fd
  g__law_chances : mg "_law_chances" = some (.ref (He.ga K "_law_chances"))
  d__law_turn : ∃ fd, Fun K "_law_turn" "_law_turn" (topS 57) (He.ga K "_law_turn") fd
  g__law_turn : mg "_law_turn" = some (.ref (He.ga K "_law_turn"))
  d__law_standings : ∃ fd, Fun K "_law_standings" "_law_standings" (topS 58) (He.ga K "_law_standings") fd
  g__law_standings : mg "_law_standings" = some (.ref (He.ga K "_law_standings"))
  d__law_least : ∃ fd, Fun K "_law_least" "_law_least" (topS 59) (He.ga K "_law_least") fd
  g__law_least : mg "_law_least" = some (.ref (He.ga K "_law_least"))
  d__law_weight : ∃ fd, Fun K "_law_weight" "_law_weight" (topS 60) (He.ga K "_law_weight") fd
  g__law_weight : mg "_law_weight" = some (.ref (He.ga K "_law_weight"))
  d__law_most : ∃ fd, Fun K "_law_most" "_law_most" (topS 61) (He.ga K "_law_most") fd
  g__law_most : mg "_law_most" = some (.ref (He.ga K "_law_most"))
  d__law_far : ∃ fd, Fun K "_law_far" "_law_far" (topS 62) (He.ga K "_law_far") fd
  g__law_far : mg "_law_far" = some (.ref (He.ga K "_law_far"))
  d_law : ∃ fd, Fun K "law" "law" (topS 63) (He.ga K "law") fd
  g_law : mg "law" = some (.ref (He.ga K "law"))
  c_MOST_FAR : ∃ t, mg "MOST_FAR" = some (.int 1000000 t)
  c_MOST_PLACES : ∃ t, mg "MOST_PLACES" = some (.int 8 t)
  c_MOST_REACH : ∃ t, mg "MOST_REACH" = some (.int 1000000000000 t)
  c_MOST_ROADS : ∃ t, mg "MOST_ROADS" = some (.int 5 t)
  c_MOST_TURNS : ∃ t, mg "MOST_TURNS" = some (.int 60 t)
  c_MOST_WEIGHT : ∃ t, mg "MOST_WEIGHT" = some (.int 999 t)
  g_ZERO : mg "ZERO" = some (.ref (He.ga K "ZERO"))
  c_ZERO : ∀ H, SqT K H (He.ga K "ZERO") [.int 0, .int 1]
  z_int : mg "int" = none
  z_isinstance : mg "isinstance" = none
  z_bool : mg "bool" = none
  z_abs : mg "abs" = none
  z_tuple : mg "tuple" = none
  z_len : mg "len" = none
  z_enumerate : mg "enumerate" = none
  z_range : mg "range" = none
  z_zip : mg "zip" = none
  z_sum : mg "sum" = none
  z_max : mg "max" = none
  z_list : mg "list" = none
  z_min : mg "min" = none
  z_sorted : mg "sorted" = none
  gc_Plan : bGlo "Plan" K = true
  o_Plan : OwnC K mg "Plan" (He.ga K "Plan")
  na_Plan_held : NoAttr K (He.ga K "Plan") "held"
  mk_Plan : Mk K (He.ga K "Plan") (He.ma K (He.ga K "Plan") "__init__")
  p_Plan_roads : PropOf K (He.ga K "Plan") "roads" (He.ma K (He.ga K "Plan") "roads") (He5.wf K (He.ga K "Plan") "property" "roads")
  p_Plan_turns : PropOf K (He.ga K "Plan") "turns" (He.ma K (He.ga K "Plan") "turns") (He5.wf K (He.ga K "Plan") "property" "turns")
  p_Plan_cost : PropOf K (He.ga K "Plan") "cost" (He.ma K (He.ga K "Plan") "cost") (He5.wf K (He.ga K "Plan") "property" "cost")
  ln_Plan : PySem.W.findIn K (.ref (He.ga K "Plan")) "__len__" = some (some (.ref (He.ma K (He.ga K "Plan") "__len__"))) ∧ PySem.W.isFn K (.ref (He.ma K (He.ga K "Plan") "__len__")) = true
  eq_Plan : PySem.W.findIn K (.ref (He.ga K "Plan")) "__eq__" = some (some (.ref (He.ma K (He.ga K "Plan") "__eq__"))) ∧ PySem.W.isFn K (.ref (He.ma K (He.ga K "Plan") "__eq__")) = true
  nf_Plan : PySem.W.notFirst K (He.ga K "Plan") (.type "tuple") = true
  os : OwnCs K mg ownCs
section
variable {P : Program} {w : World} {K : PySem.W.Frag} {mg : Str → Option Value} {base : Heap}
theorem sc_is_integer : FnScope ["value"] ["value"] (defScope (topS 9)) := ⟨rfl, rfl, rfl, by decide +kernel, rfl, by decide +kernel, by decide +kernel⟩
theorem ok_is_integer (T : Txt K mg) (B : LamX.TabB base mg (cdAt K "_law_standings") (tbAt K "_law_standings")) : GF P w K mg base "is_integer" 1 1 f_is_integer := by
  obtain ⟨fd, F⟩ := T.d_is_integer
  refine gf_mk F T.g_is_integer sc_is_integer 0 rfl (fun _ _ _ _ _ _ us hl => match us, hl with | [_], _ => rfl) fun cdv hcv A outer s H E cx => ?_
  exact is_one (is_ret (ie_and (ie_isi T.os T.z_isinstance (ia_cons (ie_var 0) (ia_cons (ie_tyB T.z_int) ia_nil))) (ie_one (ie_not (ie_isi T.os T.z_isinstance (ia_cons (ie_var 0) (ia_cons (ie_tyB T.z_bool) ia_nil)))))))

theorem sc_is_from : FnScope ["value", "low", "high"] ["value", "low", "high"] (defScope (topS 10)) := ⟨rfl, rfl, rfl, by decide +kernel, rfl, by decide +kernel, by decide +kernel⟩
theorem ok_is_from (T : Txt K mg) (B : LamX.TabB base mg (cdAt K "_law_standings") (tbAt K "_law_standings")) : GF P w K mg base "is_from" 2 3 f_is_from := by
  obtain ⟨fd, F⟩ := T.d_is_from
  have G_is_integer := ok_is_integer (P := P) (w := w) (base := base) T B
  refine gf_mk F T.g_is_from sc_is_from 0 rfl (fun _ _ _ _ _ _ us hl => match us, hl with | [_, _, _], _ => rfl) fun cdv hcv A outer s H E cx => ?_
  exact is_one (is_ret (ie_and (ie_callG cx G_is_integer (ia_cons (ie_var 0) ia_nil)) (ie_one (ie_lele (ie_var 1) (ie_var 0) (ie_var 2)))))

theorem sc_common : FnScope ["one", "other"] ["one", "other"] (defScope (topS 11)) := ⟨rfl, rfl, rfl, by decide +kernel, rfl, by decide +kernel, by decide +kernel⟩
theorem ok_common (T : Txt K mg) (B : LamX.TabB base mg (cdAt K "_law_standings") (tbAt K "_law_standings")) : GF P w K mg base "common" 1 2 f_common := by
  obtain ⟨fd, F⟩ := T.d_common
  refine gf_mk F T.g_common sc_common 0 rfl (fun _ _ _ _ _ _ us hl => match us, hl with | [_, _], _ => rfl) fun cdv hcv A outer s H E cx => ?_
  exact is_cons (is_par (i := 0) (j := 1) cx (ia_cons (ie_abs T.z_abs (ia_cons (ie_var 0) ia_nil)) (ia_cons (ie_abs T.z_abs (ia_cons (ie_var 1) ia_nil)) ia_nil)))
    (is_cons (is_while cx (it_tru (ie_var 1)) (is_one (is_par (i := 0) (j := 1) cx (ia_cons (ie_var 1) (ia_cons (ie_mod (ie_var 0) (ie_var 1)) ia_nil)))))
    (is_one (is_ret (ie_var 0))))

theorem sc_ratio : FnScope ["n", "d", "part"] ["n", "d"] (defScope (topS 12)) := ⟨rfl, rfl, rfl, by decide +kernel, rfl, by decide +kernel, by decide +kernel⟩
theorem ok_ratio (T : Txt K mg) (B : LamX.TabB base mg (cdAt K "_law_standings") (tbAt K "_law_standings")) : GF P w K mg base "ratio" 2 2 f_ratio := by
  obtain ⟨fd, F⟩ := T.d_ratio
  have G_common := ok_common (P := P) (w := w) (base := base) T B
  refine gf_mk F T.g_ratio sc_ratio 1 rfl (fun _ _ _ _ _ _ us hl => match us, hl with | [_, _], _ => rfl) fun cdv hcv A outer s H E cx => ?_
  exact is_cons (is_set (i := 2) cx (ie_callG cx G_common (ia_cons (ie_var 0) (ia_cons (ie_var 1) ia_nil))))
    (is_one (is_ret (ie_tup (ia_cons (ie_div (ie_var 0) (ie_var 2)) (ia_cons (ie_div (ie_var 1) (ie_var 2)) ia_nil)))))

theorem sc_is_fraction : FnScope ["value"] ["value"] (defScope (topS 13)) := ⟨rfl, rfl, rfl, by decide +kernel, rfl, by decide +kernel, by decide +kernel⟩
theorem ok_is_fraction (T : Txt K mg) (B : LamX.TabB base mg (cdAt K "_law_standings") (tbAt K "_law_standings")) : GF P w K mg base "is_fraction" 2 1 f_is_fraction := by
  obtain ⟨fd, F⟩ := T.d_is_fraction
  have G_common := ok_common (P := P) (w := w) (base := base) T B
  have G_is_integer := ok_is_integer (P := P) (w := w) (base := base) T B
  refine gf_mk F T.g_is_fraction sc_is_fraction 0 rfl (fun _ _ _ _ _ _ us hl => match us, hl with | [_], _ => rfl) fun cdv hcv A outer s H E cx => ?_
  exact is_cons (is_if (PW.pt (iw_or (it_not (it_tru (ie_isi T.os T.z_isinstance (ia_cons (ie_var 0) (ia_cons (ie_tyB T.z_tuple) ia_nil))))) (iw_or1 (it_ne cx (ie_len T.z_len (ia_cons (ie_var 0) ia_nil)) ie_int)))) (is_one (is_ret ie_bl)) is_nil)
    (is_cons (is_if (PW.pt (iw_or (it_not (it_tru (ie_callG cx G_is_integer (ia_cons (ie_idx (ie_var 0) ie_int) ia_nil)))) (iw_or1 (it_not (it_tru (ie_callG cx G_is_integer (ia_cons (ie_idx (ie_var 0) ie_int) ia_nil))))))) (is_one (is_ret ie_bl)) is_nil)
    (is_one (is_ret (ie_and (ie_ge (ie_idx (ie_var 0) ie_int) ie_int) (ie_one (ie_eq cx (ie_callG cx G_common (ia_cons (ie_idx (ie_var 0) ie_int) (ia_cons (ie_idx (ie_var 0) ie_int) ia_nil))) ie_int))))))

theorem sc_plus : FnScope ["one", "other"] ["one", "other"] (defScope (topS 14)) := ⟨rfl, rfl, rfl, by decide +kernel, rfl, by decide +kernel, by decide +kernel⟩
theorem ok_plus (T : Txt K mg) (B : LamX.TabB base mg (cdAt K "_law_standings") (tbAt K "_law_standings")) : GF P w K mg base "plus" 3 2 f_plus := by
  obtain ⟨fd, F⟩ := T.d_plus
  have G_ratio := ok_ratio (P := P) (w := w) (base := base) T B
  refine gf_mk F T.g_plus sc_plus 0 rfl (fun _ _ _ _ _ _ us hl => match us, hl with | [_, _], _ => rfl) fun cdv hcv A outer s H E cx => ?_
  exact is_one (is_ret (ie_callG cx G_ratio (ia_cons (ie_add (ie_mul (ie_idx (ie_var 0) ie_int) (ie_idx (ie_var 1) ie_int)) (ie_mul (ie_idx (ie_var 1) ie_int) (ie_idx (ie_var 0) ie_int))) (ia_cons (ie_mul (ie_idx (ie_var 0) ie_int) (ie_idx (ie_var 1) ie_int)) ia_nil))))

theorem sc_minus : FnScope ["one", "other"] ["one", "other"] (defScope (topS 15)) := ⟨rfl, rfl, rfl, by decide +kernel, rfl, by decide +kernel, by decide +kernel⟩
theorem ok_minus (T : Txt K mg) (B : LamX.TabB base mg (cdAt K "_law_standings") (tbAt K "_law_standings")) : GF P w K mg base "minus" 3 2 f_minus := by
  obtain ⟨fd, F⟩ := T.d_minus
  have G_ratio := ok_ratio (P := P) (w := w) (base := base) T B
  refine gf_mk F T.g_minus sc_minus 0 rfl (fun _ _ _ _ _ _ us hl => match us, hl with | [_, _], _ => rfl) fun cdv hcv A outer s H E cx => ?_
  exact is_one (is_ret (ie_callG cx G_ratio (ia_cons (ie_sub (ie_mul (ie_idx (ie_var 0) ie_int) (ie_idx (ie_var 1) ie_int)) (ie_mul (ie_idx (ie_var 1) ie_int) (ie_idx (ie_var 0) ie_int))) (ia_cons (ie_mul (ie_idx (ie_var 0) ie_int) (ie_idx (ie_var 1) ie_int)) ia_nil))))

theorem sc_times : FnScope ["one", "other"] ["one", "other"] (defScope (topS 16)) := ⟨rfl, rfl, rfl, by decide +kernel, rfl, by decide +kernel, by decide +kernel⟩
theorem ok_times (T : Txt K mg) (B : LamX.TabB base mg (cdAt K "_law_standings") (tbAt K "_law_standings")) : GF P w K mg base "times" 3 2 f_times := by
  obtain ⟨fd, F⟩ := T.d_times
  have G_ratio := ok_ratio (P := P) (w := w) (base := base) T B
  refine gf_mk F T.g_times sc_times 0 rfl (fun _ _ _ _ _ _ us hl => match us, hl with | [_, _], _ => rfl) fun cdv hcv A outer s H E cx => ?_
  exact is_one (is_ret (ie_callG cx G_ratio (ia_cons (ie_mul (ie_idx (ie_var 0) ie_int) (ie_idx (ie_var 1) ie_int)) (ia_cons (ie_mul (ie_idx (ie_var 0) ie_int) (ie_idx (ie_var 1) ie_int)) ia_nil))))

theorem sc_is_less : FnScope ["one", "other"] ["one", "other"] (defScope (topS 17)) := ⟨rfl, rfl, rfl, by decide +kernel, rfl, by decide +kernel, by decide +kernel⟩
theorem ok_is_less (T : Txt K mg) (B : LamX.TabB base mg (cdAt K "_law_standings") (tbAt K "_law_standings")) : GF P w K mg base "is_less" 1 2 f_is_less := by
  obtain ⟨fd, F⟩ := T.d_is_less
  refine gf_mk F T.g_is_less sc_is_less 0 rfl (fun _ _ _ _ _ _ us hl => match us, hl with | [_, _], _ => rfl) fun cdv hcv A outer s H E cx => ?_
  exact is_one (is_ret (ie_lt (ie_mul (ie_idx (ie_var 0) ie_int) (ie_idx (ie_var 1) ie_int)) (ie_mul (ie_idx (ie_var 1) ie_int) (ie_idx (ie_var 0) ie_int))))

theorem sc_is_within : FnScope ["value", "low", "high"] ["value", "low", "high"] (defScope (topS 18)) := ⟨rfl, rfl, rfl, by decide +kernel, rfl, by decide +kernel, by decide +kernel⟩
theorem ok_is_within (T : Txt K mg) (B : LamX.TabB base mg (cdAt K "_law_standings") (tbAt K "_law_standings")) : GF P w K mg base "is_within" 3 3 f_is_within := by
  obtain ⟨fd, F⟩ := T.d_is_within
  have G_is_fraction := ok_is_fraction (P := P) (w := w) (base := base) T B
  refine gf_mk F T.g_is_within sc_is_within 0 rfl (fun _ _ _ _ _ _ us hl => match us, hl with | [_, _, _], _ => rfl) fun cdv hcv A outer s H E cx => ?_
  exact is_cons (is_if (it_not (it_tru (ie_callG cx G_is_fraction (ia_cons (ie_var 0) ia_nil)))) (is_one (is_ret ie_bl)) is_nil)
    (is_one (is_ret (ie_lele (ie_mul (ie_var 1) (ie_idx (ie_var 0) ie_int)) (ie_idx (ie_var 0) ie_int) (ie_mul (ie_var 2) (ie_idx (ie_var 0) ie_int)))))

theorem sc_greatest_of : FnScope ["fractions", "found", "one"] ["fractions"] (defScope (topS 19)) := ⟨rfl, rfl, rfl, by decide +kernel, rfl, by decide +kernel, by decide +kernel⟩
theorem ok_greatest_of (T : Txt K mg) (B : LamX.TabB base mg (cdAt K "_law_standings") (tbAt K "_law_standings")) : GF P w K mg base "greatest_of" 2 1 f_greatest_of := by
  obtain ⟨fd, F⟩ := T.d_greatest_of
  have G_is_less := ok_is_less (P := P) (w := w) (base := base) T B
  refine gf_mk F T.g_greatest_of sc_greatest_of 2 rfl (fun _ _ _ _ _ _ us hl => match us, hl with | [_], _ => rfl) fun cdv hcv A outer s H E cx => ?_
  exact is_cons (is_set (i := 1) cx (ie_idx (ie_var 0) ie_int))
    (is_cons (is_for cx (ii_seq (ie_var 0)) (ig_name 2 cx.nd) (is_one (is_if (it_tru (ie_callG cx G_is_less (ia_cons (ie_var 1) (ia_cons (ie_var 2) ia_nil)))) (is_one (is_set (i := 1) cx (ie_var 2))) is_nil)))
    (is_one (is_ret (ie_var 1))))

theorem sc_is_reach : FnScope ["value"] ["value"] (defScope (topS 24)) := ⟨rfl, rfl, rfl, by decide +kernel, rfl, by decide +kernel, by decide +kernel⟩
theorem ok_is_reach (T : Txt K mg) (B : LamX.TabB base mg (cdAt K "_law_standings") (tbAt K "_law_standings")) : GF P w K mg base "is_reach" 4 1 f_is_reach := by
  obtain ⟨fd, F⟩ := T.d_is_reach
  have G_is_within := ok_is_within (P := P) (w := w) (base := base) T B
  refine gf_mk F T.g_is_reach sc_is_reach 0 rfl (fun _ _ _ _ _ _ us hl => match us, hl with | [_], _ => rfl) fun cdv hcv A outer s H E cx => ?_
  exact is_one (is_ret (ie_and (ie_callG cx G_is_within (ia_cons (ie_var 0) (ia_cons ie_int (ia_cons (ie_gint rfl T.c_MOST_REACH) ia_nil)))) (ie_one (ie_gt (ie_idx (ie_var 0) ie_int) ie_int))))

theorem sc_is_turn : FnScope ["value", "roads"] ["value", "roads"] (defScope (topS 25)) := ⟨rfl, rfl, rfl, by decide +kernel, rfl, by decide +kernel, by decide +kernel⟩
theorem ok_is_turn (T : Txt K mg) (B : LamX.TabB base mg (cdAt K "_law_standings") (tbAt K "_law_standings")) : GF P w K mg base "is_turn" 5 2 f_is_turn := by
  obtain ⟨fd, F⟩ := T.d_is_turn
  have G_is_from := ok_is_from (P := P) (w := w) (base := base) T B
  have G_is_reach := ok_is_reach (P := P) (w := w) (base := base) T B
  refine gf_mk F T.g_is_turn sc_is_turn 0 rfl (fun _ _ _ _ _ _ us hl => match us, hl with | [_, _], _ => rfl) fun cdv hcv A outer s H E cx => ?_
  exact is_cons (is_if (PW.pt (iw_or (it_not (it_tru (ie_isi T.os T.z_isinstance (ia_cons (ie_var 0) (ia_cons (ie_tyB T.z_tuple) ia_nil))))) (iw_or1 (it_ne cx (ie_len T.z_len (ia_cons (ie_var 0) ia_nil)) ie_int)))) (is_one (is_ret ie_bl)) is_nil)
    (is_one (is_ret (ie_and (ie_callG cx G_is_from (ia_cons (ie_idx (ie_var 0) ie_int) (ia_cons ie_int (ia_cons (ie_sub (ie_var 1) ie_int) ia_nil)))) (ie_one (ie_callG cx G_is_reach (ia_cons (ie_idx (ie_var 0) ie_int) ia_nil))))))

theorem sc_check_roads : FnScope ["value"] ["value"] (defScope (topS 26)) := ⟨rfl, rfl, rfl, by decide +kernel, rfl, by decide +kernel, by decide +kernel⟩
theorem ok_check_roads (T : Txt K mg) (B : LamX.TabB base mg (cdAt K "_law_standings") (tbAt K "_law_standings")) : GF P w K mg base "check_roads" 3 1 f_check_roads := by
  obtain ⟨fd, F⟩ := T.d_check_roads
  have G_is_from := ok_is_from (P := P) (w := w) (base := base) T B
  refine gf_mk F T.g_check_roads sc_check_roads 0 rfl (fun _ _ _ _ _ _ us hl => match us, hl with | [_], _ => rfl) fun cdv hcv A outer s H E cx => ?_
  exact is_one (is_if (it_not (it_tru (ie_callG cx G_is_from (ia_cons (ie_var 0) (ia_cons ie_int (ia_cons (ie_gint rfl T.c_MOST_ROADS) ia_nil)))))) (is_one is_bad) is_nil)

theorem sc_check_cost : FnScope ["value"] ["value"] (defScope (topS 27)) := ⟨rfl, rfl, rfl, by decide +kernel, rfl, by decide +kernel, by decide +kernel⟩
theorem ok_check_cost (T : Txt K mg) (B : LamX.TabB base mg (cdAt K "_law_standings") (tbAt K "_law_standings")) : GF P w K mg base "check_cost" 4 1 f_check_cost := by
  obtain ⟨fd, F⟩ := T.d_check_cost
  have G_is_within := ok_is_within (P := P) (w := w) (base := base) T B
  refine gf_mk F T.g_check_cost sc_check_cost 0 rfl (fun _ _ _ _ _ _ us hl => match us, hl with | [_], _ => rfl) fun cdv hcv A outer s H E cx => ?_
  exact is_one (is_if (it_not (it_tru (ie_callG cx G_is_within (ia_cons (ie_var 0) (ia_cons ie_int (ia_cons (ie_gint rfl T.c_MOST_REACH) ia_nil)))))) (is_one is_bad) is_nil)

theorem sc_Plan___init__ : FnScope ["self", "roads", "turns", "cost", "index", "turn"] ["self", "roads", "turns", "cost"] (defScope (inClass (topS 28) 0)) := ⟨rfl, rfl, rfl, by decide +kernel, rfl, by decide +kernel, by decide +kernel⟩
theorem ok_Plan___init__ (T : Txt K mg) (B : LamX.TabB base mg (cdAt K "_law_standings") (tbAt K "_law_standings")) : GA P w K mg base (He.ma K (He.ga K "Plan") "__init__") 6 4 f_Plan___init__ := by
  obtain ⟨fd, F⟩ := T.d_Plan___init__
  have G_check_cost := ok_check_cost (P := P) (w := w) (base := base) T B
  have G_check_roads := ok_check_roads (P := P) (w := w) (base := base) T B
  have G_is_turn := ok_is_turn (P := P) (w := w) (base := base) T B
  refine ga_mk F sc_Plan___init__ 2 rfl (fun _ _ _ _ _ _ us hl => match us, hl with | [_, _, _, _], _ => rfl) fun cdv hcv A outer s H E cx => ?_
  exact is_cons (is_expr (ie_callG cx G_check_roads (ia_cons (ie_var 1) ia_nil)))
    (is_cons (is_if (PW.pt (iw_or (it_not (it_tru (ie_isi T.os T.z_isinstance (ia_cons (ie_var 2) (ia_cons (ie_tyB T.z_tuple) ia_nil))))) (iw_or1 (it_gt (ie_len T.z_len (ia_cons (ie_var 2) ia_nil)) (ie_gint rfl T.c_MOST_TURNS))))) (is_one is_bad) is_nil)
    (is_cons (is_for cx (ii_enum T.z_enumerate (ia_cons (ie_var 2) ia_nil)) (ig_tup cx (igs_cons 4 cx.nd (igs_cons 5 cx.nd igs_nil))) (is_one (is_if (it_not (it_tru (ie_callG cx G_is_turn (ia_cons (ie_var 5) (ia_cons (ie_var 1) ia_nil))))) (is_one is_bad) is_nil)))
    (is_cons (is_expr (ie_callG cx G_check_cost (ia_cons (ie_var 3) ia_nil)))
    (is_one (is_fld T.o_Plan.gC T.o_Plan.cl T.na_Plan_held (ie_var 0) (ie_tup (ia_cons (ie_var 1) (ia_cons (ie_var 2) (ia_cons (ie_var 3) ia_nil)))))))))

theorem sc_Plan_roads : FnScope ["self"] ["self"] (defScope (inClass (topS 28) 1)) := ⟨rfl, rfl, rfl, by decide +kernel, rfl, by decide +kernel, by decide +kernel⟩
theorem ok_Plan_roads (T : Txt K mg) (B : LamX.TabB base mg (cdAt K "_law_standings") (tbAt K "_law_standings")) : GA P w K mg base (He5.wf K (He.ga K "Plan") "property" "roads") 1 1 f_Plan_roads := by
  obtain ⟨fd, F⟩ := T.d_Plan_roads
  refine ga_mk F sc_Plan_roads 0 rfl (fun _ _ _ _ _ _ us hl => match us, hl with | [_], _ => rfl) fun cdv hcv A outer s H E cx => ?_
  exact is_one (is_ret (ie_idx (ie_fld T.o_Plan.gC T.o_Plan.cl T.na_Plan_held (ie_var 0)) ie_int))

theorem sc_Plan_turns : FnScope ["self"] ["self"] (defScope (inClass (topS 28) 2)) := ⟨rfl, rfl, rfl, by decide +kernel, rfl, by decide +kernel, by decide +kernel⟩
theorem ok_Plan_turns (T : Txt K mg) (B : LamX.TabB base mg (cdAt K "_law_standings") (tbAt K "_law_standings")) : GA P w K mg base (He5.wf K (He.ga K "Plan") "property" "turns") 1 1 f_Plan_turns := by
  obtain ⟨fd, F⟩ := T.d_Plan_turns
  refine ga_mk F sc_Plan_turns 0 rfl (fun _ _ _ _ _ _ us hl => match us, hl with | [_], _ => rfl) fun cdv hcv A outer s H E cx => ?_
  exact is_one (is_ret (ie_idx (ie_fld T.o_Plan.gC T.o_Plan.cl T.na_Plan_held (ie_var 0)) ie_int))

theorem sc_Plan_cost : FnScope ["self"] ["self"] (defScope (inClass (topS 28) 3)) := ⟨rfl, rfl, rfl, by decide +kernel, rfl, by decide +kernel, by decide +kernel⟩
theorem ok_Plan_cost (T : Txt K mg) (B : LamX.TabB base mg (cdAt K "_law_standings") (tbAt K "_law_standings")) : GA P w K mg base (He5.wf K (He.ga K "Plan") "property" "cost") 1 1 f_Plan_cost := by
  obtain ⟨fd, F⟩ := T.d_Plan_cost
  refine ga_mk F sc_Plan_cost 0 rfl (fun _ _ _ _ _ _ us hl => match us, hl with | [_], _ => rfl) fun cdv hcv A outer s H E cx => ?_
  exact is_one (is_ret (ie_idx (ie_fld T.o_Plan.gC T.o_Plan.cl T.na_Plan_held (ie_var 0)) ie_int))

theorem sc_Plan___len__ : FnScope ["self"] ["self"] (defScope (inClass (topS 28) 4)) := ⟨rfl, rfl, rfl, by decide +kernel, rfl, by decide +kernel, by decide +kernel⟩
theorem ok_Plan___len__ (T : Txt K mg) (B : LamX.TabB base mg (cdAt K "_law_standings") (tbAt K "_law_standings")) : GA P w K mg base (He.ma K (He.ga K "Plan") "__len__") 1 1 f_Plan___len__ := by
  obtain ⟨fd, F⟩ := T.d_Plan___len__
  refine ga_mk F sc_Plan___len__ 0 rfl (fun _ _ _ _ _ _ us hl => match us, hl with | [_], _ => rfl) fun cdv hcv A outer s H E cx => ?_
  exact is_one (is_ret (ie_len T.z_len (ia_cons (ie_idx (ie_fld T.o_Plan.gC T.o_Plan.cl T.na_Plan_held (ie_var 0)) ie_int) ia_nil)))

theorem sc_Plan___eq__ : FnScope ["self", "other"] ["self", "other"] (defScope (inClass (topS 28) 5)) := ⟨rfl, rfl, rfl, by decide +kernel, rfl, by decide +kernel, by decide +kernel⟩
theorem ok_Plan___eq__ (T : Txt K mg) (B : LamX.TabB base mg (cdAt K "_law_standings") (tbAt K "_law_standings")) : GA P w K mg base (He.ma K (He.ga K "Plan") "__eq__") 1 2 f_Plan___eq__ := by
  obtain ⟨fd, F⟩ := T.d_Plan___eq__
  refine ga_mk F sc_Plan___eq__ 0 rfl (fun _ _ _ _ _ _ us hl => match us, hl with | [_, _], _ => rfl) fun cdv hcv A outer s H E cx => ?_
  exact is_one (is_ret (ie_and (ie_isi T.os T.z_isinstance (ia_cons (ie_var 1) (ia_cons (ie_glo rfl T.o_Plan.gC) ia_nil))) (ie_one (ie_eq cx (ie_fld T.o_Plan.gC T.o_Plan.cl T.na_Plan_held (ie_var 0)) (ie_fld T.o_Plan.gC T.o_Plan.cl T.na_Plan_held (ie_var 1))))))

theorem sc_is_chance : FnScope ["value", "roads", "road", "far", "weight"] ["value", "roads"] (defScope (topS 33)) := ⟨rfl, rfl, rfl, by decide +kernel, rfl, by decide +kernel, by decide +kernel⟩
theorem ok_is_chance (T : Txt K mg) (B : LamX.TabB base mg (cdAt K "_law_standings") (tbAt K "_law_standings")) : GF P w K mg base "is_chance" 4 2 f_is_chance := by
  obtain ⟨fd, F⟩ := T.d_is_chance
  have G_is_from := ok_is_from (P := P) (w := w) (base := base) T B
  have G_is_within := ok_is_within (P := P) (w := w) (base := base) T B
  refine gf_mk F T.g_is_chance sc_is_chance 3 rfl (fun _ _ _ _ _ _ us hl => match us, hl with | [_, _], _ => rfl) fun cdv hcv A outer s H E cx => ?_
  exact is_cons (is_if (PW.pt (iw_or (it_not (it_tru (ie_isi T.os T.z_isinstance (ia_cons (ie_var 0) (ia_cons (ie_tyB T.z_tuple) ia_nil))))) (iw_or1 (it_ne cx (ie_len T.z_len (ia_cons (ie_var 0) ia_nil)) ie_int)))) (is_one (is_ret ie_bl)) is_nil)
    (is_cons (is_asgT (ie_var 0) (ig_tup cx (igs_cons 2 cx.nd (igs_cons 3 cx.nd (igs_cons 4 cx.nd igs_nil)))))
    (is_one (is_ret (ie_and (ie_callG cx G_is_from (ia_cons (ie_var 2) (ia_cons ie_int (ia_cons (ie_sub (ie_var 1) ie_int) ia_nil)))) (ie_and (ie_callG cx G_is_within (ia_cons (ie_var 3) (ia_cons ie_int (ia_cons (ie_gint rfl T.c_MOST_FAR) ia_nil)))) (ie_one (ie_callG cx G_is_from (ia_cons (ie_var 4) (ia_cons ie_int (ia_cons (ie_gint rfl T.c_MOST_WEIGHT) ia_nil))))))))))

theorem sc_check_chances : FnScope ["roads", "value", "seen", "one"] ["roads", "value"] (defScope (topS 34)) := ⟨rfl, rfl, rfl, by decide +kernel, rfl, by decide +kernel, by decide +kernel⟩
theorem ok_check_chances (T : Txt K mg) (B : LamX.TabB base mg (cdAt K "_law_standings") (tbAt K "_law_standings")) : GF P w K mg base "check_chances" 5 2 f_check_chances := by
  obtain ⟨fd, F⟩ := T.d_check_chances
  have G_check_roads := ok_check_roads (P := P) (w := w) (base := base) T B
  have G_is_chance := ok_is_chance (P := P) (w := w) (base := base) T B
  refine gf_mk F T.g_check_chances sc_check_chances 2 rfl (fun _ _ _ _ _ _ us hl => match us, hl with | [_, _], _ => rfl) fun cdv hcv A outer s H E cx => ?_
  exact is_cons (is_expr (ie_callG cx G_check_roads (ia_cons (ie_var 0) ia_nil)))
    (is_cons (is_if (PW.pt (iw_or (it_not (it_tru (ie_isi T.os T.z_isinstance (ia_cons (ie_var 1) (ia_cons (ie_tyB T.z_tuple) ia_nil))))) (iw_or1 (it_not (it_lele ie_int (ie_len T.z_len (ia_cons (ie_var 1) ia_nil)) (ie_gint rfl T.c_MOST_PLACES)))))) (is_one is_bad) is_nil)
    (is_cons (is_set (i := 2) cx (ie_lst ia_nil))
    (is_one (is_for cx (ii_seq (ie_var 1)) (ig_name 3 cx.nd) (is_cons (is_if (PW.pt (iw_or (it_not (it_tru (ie_callG cx G_is_chance (ia_cons (ie_var 3) (ia_cons (ie_var 0) ia_nil))))) (iw_or1 (it_in cx (ie_sl (ie_var 3) io_none (io_some ie_int)) (ie_var 2))))) (is_one is_bad) is_nil)
    (is_one (is_expr (ie_append (ie_var 2) (ia_cons (ie_sl (ie_var 3) io_none (io_some ie_int)) ia_nil)))))))))

theorem sc_with_place : FnScope ["rows", "far", "weight", "place", "row"] ["rows", "far", "weight"] (defScope (topS 35)) := ⟨rfl, rfl, rfl, by decide +kernel, rfl, by decide +kernel, by decide +kernel⟩
theorem ok_with_place (T : Txt K mg) (B : LamX.TabB base mg (cdAt K "_law_standings") (tbAt K "_law_standings")) : GF P w K mg base "with_place" 2 3 f_with_place := by
  obtain ⟨fd, F⟩ := T.d_with_place
  have G_is_less := ok_is_less (P := P) (w := w) (base := base) T B
  refine gf_mk F T.g_with_place sc_with_place 2 rfl (fun _ _ _ _ _ _ us hl => match us, hl with | [_, _, _], _ => rfl) fun cdv hcv A outer s H E cx => ?_
  exact is_cons (is_set (i := 3) cx (ie_len T.z_len (ia_cons (ie_lc [("row", 4)] cx (ii_seq (ie_var 0)) (blkOk_by (by rfl)) (fun _ _ _ _ _ cx => gw_name 4 cx.nd) (fun _ _ _ _ _ cx => pts_one (it_tru (ie_callG cx G_is_less (ia_cons (ie_idx (ie_var 4) ie_int) (ia_cons (ie_var 1) ia_nil))))) (fun _ _ _ _ _ cx => ie_var 4)) ia_nil)))
    (is_one (is_ret (ie_add (ie_add (ie_sl (ie_var 0) io_none (io_some (ie_var 3))) (ie_lst (ia_cons (ie_tup (ia_cons (ie_var 1) (ia_cons (ie_var 2) ia_nil))) ia_nil))) (ie_sl (ie_var 0) (io_some (ie_var 3)) io_none))))

theorem sc_rows_of : FnScope ["roads", "chances", "found", "road", "far", "weight"] ["roads", "chances"] (defScope (topS 36)) := ⟨rfl, rfl, rfl, by decide +kernel, rfl, by decide +kernel, by decide +kernel⟩
theorem ok_rows_of (T : Txt K mg) (B : LamX.TabB base mg (cdAt K "_law_standings") (tbAt K "_law_standings")) : GF P w K mg base "rows_of" 3 2 f_rows_of := by
  obtain ⟨fd, F⟩ := T.d_rows_of
  have G_with_place := ok_with_place (P := P) (w := w) (base := base) T B
  refine gf_mk F T.g_rows_of sc_rows_of 4 rfl (fun _ _ _ _ _ _ us hl => match us, hl with | [_, _], _ => rfl) fun cdv hcv A outer s H E cx => ?_
  exact is_cons (is_setLc 2 [("road", 3)] cx (sw_true rfl rfl rfl (by decide +kernel)) (ii_range1 T.z_range (ia_cons (ie_var 0) ia_nil)) (blkOk_by (by rfl)) (fun _ _ _ _ _ cx => gw_name 3 cx.nd) (fun _ _ _ _ _ cx => it_none) (fun _ _ _ _ _ cx => ie_lst ia_nil))
    (is_cons (is_for cx (ii_seq (ie_var 1)) (ig_tup cx (igs_cons 3 cx.nd (igs_cons 4 cx.nd (igs_cons 5 cx.nd igs_nil)))) (is_one (is_setix (ie_callG cx G_with_place (ia_cons (ie_idx (ie_var 2) (ie_var 3)) (ia_cons (ie_var 4) (ia_cons (ie_var 5) ia_nil)))) (ie_var 2) (ie_var 3))))
    (is_one (is_ret (ie_var 2))))

theorem sc_standings_of : FnScope ["rows", "found", "row", "one", "many"] ["rows"] (defScope (topS 38)) := ⟨rfl, rfl, rfl, by decide +kernel, rfl, by decide +kernel, by decide +kernel⟩
theorem ok_standings_of (T : Txt K mg) (B : LamX.TabB base mg (cdAt K "_law_standings") (tbAt K "_law_standings")) : GF P w K mg base "standings_of" 1 1 f_standings_of := by
  obtain ⟨fd, F⟩ := T.d_standings_of
  refine gf_mk F T.g_standings_of sc_standings_of 4 rfl (fun _ _ _ _ _ _ us hl => match us, hl with | [_], _ => rfl) fun cdv hcv A outer s H E cx => ?_
  exact is_cons (is_set (i := 1) cx (ie_lst (ia_cons (ie_key ia_nil) ia_nil)))
    (is_cons (is_for cx (ii_seq (ie_var 0)) (ig_name 2 cx.nd) (is_one (is_setLc2 1 [("one", 3), ("many", 4)] cx (sw_true rfl rfl rfl (by decide +kernel)) (ii_seq (ie_var 1)) (blkOk_by (by rfl)) (fun _ _ _ _ _ cx => gw_name 3 cx.nd) (fun _ _ _ _ _ cx => it_none) (fun _ _ _ _ _ cx => ii_range1 T.z_range (ia_cons (ie_add (ie_len T.z_len (ia_cons (ie_var 2) ia_nil)) ie_int) ia_nil)) (fun _ _ _ _ _ cx => gw_name 4 cx.nd) (fun _ _ _ _ _ cx => it_none) (fun _ _ _ _ _ cx => ie_addK (ie_var 3) (ie_key (ia_cons (ie_var 4) ia_nil))))))
    (is_one (is_ret (ie_var 1))))

theorem sc_walk_to : FnScope ["rows", "standing", "reaches", "found", "reach", "row", "many"] ["rows", "standing"] (defScope (topS 39)) := ⟨rfl, rfl, rfl, by decide +kernel, rfl, by decide +kernel, by decide +kernel⟩
theorem ok_walk_to (T : Txt K mg) (B : LamX.TabB base mg (cdAt K "_law_standings") (tbAt K "_law_standings")) : GF P w K mg base "walk_to" 4 2 f_walk_to := by
  obtain ⟨fd, F⟩ := T.d_walk_to
  have G_greatest_of := ok_greatest_of (P := P) (w := w) (base := base) T B
  have G_minus := ok_minus (P := P) (w := w) (base := base) T B
  have G_plus := ok_plus (P := P) (w := w) (base := base) T B
  have G_times := ok_times (P := P) (w := w) (base := base) T B
  refine gf_mk F T.g_walk_to sc_walk_to 5 rfl (fun _ _ _ _ _ _ us hl => match us, hl with | [_, _], _ => rfl) fun cdv hcv A outer s H E cx => ?_
  exact is_cons (is_set (i := 2) cx (ie_add (ie_lst (ia_cons (ie_gtup rfl T.g_ZERO T.c_ZERO (fun _ _ => .cons (.int 0) (.cons (.int 1) (.nil)))) ia_nil)) (ie_lc [("row", 5), ("many", 6)] cx (ii_zip T.z_zip (ia_cons (ie_var 0) (ia_cons (ie_f (ie_var 1)) ia_nil))) (blkOk_by (by rfl)) (fun _ _ _ _ _ cx => gw_tup cx (gws_cons 5 cx.nd (gws_cons 6 cx.nd gws_nil))) (fun _ _ _ _ _ cx => pts_one (it_gt (ie_var 6) ie_int)) (fun _ _ _ _ _ cx => ie_idx (ie_idx (ie_var 5) (ie_sub (ie_var 6) ie_int)) ie_int))))
    (is_cons (is_set (i := 3) cx (ie_gtup rfl T.g_ZERO T.c_ZERO (fun _ _ => .cons (.int 0) (.cons (.int 1) (.nil)))))
    (is_cons (is_for cx (ii_seq (ie_var 2)) (ig_name 4 cx.nd) (is_one (is_set (i := 3) cx (ie_callG cx G_plus (ia_cons (ie_var 3) (ia_cons (ie_callG cx G_times (ia_cons (ie_tup (ia_cons ie_int (ia_cons ie_int ia_nil))) (ia_cons (ie_var 4) ia_nil))) ia_nil))))))
    (is_one (is_ret (ie_callG cx G_minus (ia_cons (ie_var 3) (ia_cons (ie_callG cx G_greatest_of (ia_cons (ie_var 2) ia_nil)) ia_nil)))))))

theorem sc_plan_to : FnScope ["roads", "rows", "standing", "turns", "road", "many", "reach"] ["roads", "rows", "standing"] (defScope (topS 40)) := ⟨rfl, rfl, rfl, by decide +kernel, rfl, by decide +kernel, by decide +kernel⟩
theorem ok_plan_to (T : Txt K mg) (B : LamX.TabB base mg (cdAt K "_law_standings") (tbAt K "_law_standings")) : GF P w K mg base "plan_to" 8 3 f_plan_to := by
  obtain ⟨fd, F⟩ := T.d_plan_to
  have G_Plan___init__ := ok_Plan___init__ (P := P) (w := w) (base := base) T B
  have G_is_less := ok_is_less (P := P) (w := w) (base := base) T B
  refine gf_mk F T.g_plan_to sc_plan_to 4 rfl (fun _ _ _ _ _ _ us hl => match us, hl with | [_, _, _], _ => rfl) fun cdv hcv A outer s H E cx => ?_
  exact is_cons (is_set (i := 3) cx (ie_lst ia_nil))
    (is_cons (is_for cx (ii_enum T.z_enumerate (ia_cons (ie_f (ie_var 2)) ia_nil)) (ig_tup cx (igs_cons 4 cx.nd (igs_cons 5 cx.nd igs_nil))) (is_one (is_if (it_gt (ie_var 5) ie_int) (is_cons (is_set (i := 6) cx (ie_idx (ie_idx (ie_idx (ie_var 1) (ie_var 4)) (ie_sub (ie_var 5) ie_int)) ie_int))
    (is_one (is_if (PW.pt (iw_and (it_tru (ie_var 3)) (iw_and1 (it_tru (ie_callG cx G_is_less (ia_cons (ie_var 6) (ia_cons (ie_idx (ie_idx (ie_var 3) (ie_neg ie_int)) ie_int) ia_nil))))))) (is_one (is_expr (ie_insert (ie_var 3) (ia_cons ie_int (ia_cons (ie_tup (ia_cons (ie_var 4) (ia_cons (ie_var 6) ia_nil))) ia_nil))))) (is_one (is_expr (ie_append (ie_var 3) (ia_cons (ie_tup (ia_cons (ie_var 4) (ia_cons (ie_var 6) ia_nil))) ia_nil))))))) is_nil)))
    (is_one (is_ret (ie_makeG cx T.mk_Plan T.o_Plan.gC G_Plan___init__ (ia_cons (ie_var 0) (ia_cons (ie_tuple1 T.z_tuple (ia_cons (ie_var 3) ia_nil)) (ia_cons (ie_gtup rfl T.g_ZERO T.c_ZERO (fun _ _ => .cons (.int 0) (.cons (.int 1) (.nil)))) ia_nil)))))))

theorem sc_most_found : FnScope ["roads", "chances", "far", "rows", "best", "standing", "weight", "place", "own", "row", "many"] ["roads", "chances", "far"] (defScope (topS 41)) := ⟨rfl, rfl, rfl, by decide +kernel, rfl, by decide +kernel, by decide +kernel⟩
theorem ok_most_found (T : Txt K mg) (B : LamX.TabB base mg (cdAt K "_law_standings") (tbAt K "_law_standings")) : GF P w K mg base "most_found" 9 3 f_most_found := by
  obtain ⟨fd, F⟩ := T.d_most_found
  have G_check_chances := ok_check_chances (P := P) (w := w) (base := base) T B
  have G_is_less := ok_is_less (P := P) (w := w) (base := base) T B
  have G_is_within := ok_is_within (P := P) (w := w) (base := base) T B
  have G_plan_to := ok_plan_to (P := P) (w := w) (base := base) T B
  have G_rows_of := ok_rows_of (P := P) (w := w) (base := base) T B
  have G_standings_of := ok_standings_of (P := P) (w := w) (base := base) T B
  have G_walk_to := ok_walk_to (P := P) (w := w) (base := base) T B
  refine gf_mk F T.g_most_found sc_most_found 8 rfl (fun _ _ _ _ _ _ us hl => match us, hl with | [_, _, _], _ => rfl) fun cdv hcv A outer s H E cx => ?_
  exact is_cons (is_expr (ie_callG cx G_check_chances (ia_cons (ie_var 0) (ia_cons (ie_var 1) ia_nil))))
    (is_cons (is_if (it_not (it_tru (ie_callG cx G_is_within (ia_cons (ie_var 2) (ia_cons ie_int (ia_cons (ie_gint rfl T.c_MOST_REACH) ia_nil)))))) (is_one is_bad) is_nil)
    (is_cons (is_set (i := 3) cx (ie_callG cx G_rows_of (ia_cons (ie_var 0) (ia_cons (ie_var 1) ia_nil))))
    (is_cons (is_set (i := 4) cx (ie_tup (ia_cons ie_int (ia_cons (ie_mulK (ie_key (ia_cons ie_int ia_nil)) (ie_var 0)) ia_nil))))
    (is_cons (is_for cx (ii_seq (ie_callG cx G_standings_of (ia_cons (ie_var 3) ia_nil))) (ig_name 5 cx.nd) (is_one (is_if (it_not (it_tru (ie_callG cx G_is_less (ia_cons (ie_var 2) (ia_cons (ie_callG cx G_walk_to (ia_cons (ie_var 3) (ia_cons (ie_var 5) ia_nil))) ia_nil))))) (is_cons (is_set (i := 6) cx (ie_sum cx T.z_sum (ia_cons (ie_lc [("row", 9), ("many", 10)] cx (ii_zip T.z_zip (ia_cons (ie_var 3) (ia_cons (ie_f (ie_var 5)) ia_nil))) (blkOk_by (by rfl)) (fun _ _ _ _ _ cx => gw_tup cx (gws_cons 9 cx.nd (gws_cons 10 cx.nd gws_nil))) (fun _ _ _ _ _ cx => it_none) (fun _ _ _ _ _ cx => ie_sum cx T.z_sum (ia_cons (ie_lc [("place", 7), ("own", 8)] cx (ii_seq (ie_sl (ie_var 9) io_none (io_some (ie_var 10)))) (blkOk_by (by rfl)) (fun _ _ _ _ _ cx => gw_tup cx (gws_cons 7 cx.nd (gws_cons 8 cx.nd gws_nil))) (fun _ _ _ _ _ cx => it_none) (fun _ _ _ _ _ cx => ie_var 8)) ia_nil))) ia_nil)))
    (is_one (is_set (i := 4) cx (ie_maxP cx T.z_max (ia_cons (ie_var 4) (ia_cons (ie_tup (ia_cons (ie_var 6) (ia_cons (ie_var 5) ia_nil))) ia_nil)))))) is_nil)))
    (is_one (is_ret (ie_tup (ia_cons (ie_idx (ie_var 4) ie_int) (ia_cons (ie_callG cx G_plan_to (ia_cons (ie_var 0) (ia_cons (ie_var 3) (ia_cons (ie_idx (ie_var 4) ie_int) ia_nil)))) ia_nil)))))))))

theorem sc__law_mix : FnScope ["_law_script", "_law_seed", "_law_state", "_law_cell"] ["_law_script", "_law_seed"] (defScope (topS 43)) := ⟨rfl, rfl, rfl, by decide +kernel, rfl, by decide +kernel, by decide +kernel⟩
theorem ok__law_mix (T : Txt K mg) (B : LamX.TabB base mg (cdAt K "_law_standings") (tbAt K "_law_standings")) : GF P w K mg base "_law_mix" 1 2 f__law_mix := by
  obtain ⟨fd, F⟩ := T.d__law_mix
  refine gf_mk F T.g__law_mix sc__law_mix 2 rfl (fun _ _ _ _ _ _ us hl => match us, hl with | [_, _], _ => rfl) fun cdv hcv A outer s H E cx => ?_
  exact is_cons (is_set (i := 2) cx (ie_var 1))
    (is_cons (is_for cx (ii_seq (ie_var 0)) (ig_name 3 cx.nd) (is_one (is_set (i := 2) cx (ie_mod (ie_int1 T.z_int (ia_cons (ie_add (ie_add (ie_mul (ie_var 2) ie_int) (ie_mod (ie_int1 T.z_int (ia_cons (ie_var 3) ia_nil)) ie_int)) ie_int) ia_nil)) ie_int))))
    (is_one (is_ret (ie_lst (ia_cons (ie_var 2) (ia_cons (ie_list1 T.z_list (ia_cons (ie_var 0) ia_nil)) (ia_cons ie_int ia_nil)))))))

theorem sc__law_next : FnScope ["_law_h", "_law_bound", "_law_cell", "_law_cells"] ["_law_h", "_law_bound"] (defScope (topS 44)) := ⟨rfl, rfl, rfl, by decide +kernel, rfl, by decide +kernel, by decide +kernel⟩
theorem ok__law_next (T : Txt K mg) (B : LamX.TabB base mg (cdAt K "_law_standings") (tbAt K "_law_standings")) : GF P w K mg base "_law_next" 1 2 f__law_next := by
  obtain ⟨fd, F⟩ := T.d__law_next
  refine gf_mk F T.g__law_next sc__law_next 2 rfl (fun _ _ _ _ _ _ us hl => match us, hl with | [_, _], _ => rfl) fun cdv hcv A outer s H E cx => ?_
  exact is_cons (is_set (i := 2) cx (ie_idx (ie_add (ie_idx (ie_var 0) ie_int) (ie_lst (ia_cons ie_int ia_nil))) (ie_mod (ie_int1 T.z_int (ia_cons (ie_idx (ie_var 0) ie_int) ia_nil)) (ie_max2 cx T.z_max (ia_cons ie_int (ia_cons (ie_len T.z_len (ia_cons (ie_idx (ie_var 0) ie_int) ia_nil)) ia_nil))))))
    (is_cons (is_if (it_ge (ie_var 2) (ie_pow ie_int ie_int)) (is_cons (is_set (i := 3) cx (ie_idx (ie_var 0) ie_int))
    (is_cons (is_setix (ie_div (ie_var 2) (ie_var 1)) (ie_var 3) (ie_mod (ie_int1 T.z_int (ia_cons (ie_idx (ie_var 0) ie_int) ia_nil)) (ie_len T.z_len (ia_cons (ie_var 3) ia_nil))))
    (is_one (is_ret (ie_mod (ie_int1 T.z_int (ia_cons (ie_var 2) ia_nil)) (ie_var 1)))))) is_nil)
    (is_cons (is_setix (ie_mod (ie_int1 T.z_int (ia_cons (ie_add (ie_add (ie_mul (ie_idx (ie_var 0) ie_int) ie_int) (ie_mul (ie_var 2) ie_int)) ie_int) ia_nil)) ie_int) (ie_var 0) ie_int)
    (is_cons (is_setix (ie_add (ie_idx (ie_var 0) ie_int) ie_int) (ie_var 0) ie_int)
    (is_one (is_ret (ie_mod (ie_int1 T.z_int (ia_cons (ie_div (ie_idx (ie_var 0) ie_int) ie_int) ia_nil)) (ie_var 1)))))))

theorem sc__law_part : FnScope ["_law_one", "_law_other"] ["_law_one", "_law_other"] (defScope (topS 45)) := ⟨rfl, rfl, rfl, by decide +kernel, rfl, by decide +kernel, by decide +kernel⟩
theorem ok__law_part (T : Txt K mg) (B : LamX.TabB base mg (cdAt K "_law_standings") (tbAt K "_law_standings")) : GF P w K mg base "_law_part" 1 2 f__law_part := by
  obtain ⟨fd, F⟩ := T.d__law_part
  refine gf_mk F T.g__law_part sc__law_part 0 rfl (fun _ _ _ _ _ _ us hl => match us, hl with | [_, _], _ => rfl) fun cdv hcv A outer s H E cx => ?_
  exact is_cons (is_par (i := 0) (j := 1) cx (ia_cons (ie_abs T.z_abs (ia_cons (ie_var 0) ia_nil)) (ia_cons (ie_abs T.z_abs (ia_cons (ie_var 1) ia_nil)) ia_nil)))
    (is_cons (is_while cx (it_ne cx (ie_var 1) ie_int) (is_one (is_par (i := 0) (j := 1) cx (ia_cons (ie_var 1) (ia_cons (ie_sub (ie_var 0) (ie_mul (ie_div (ie_var 0) (ie_var 1)) (ie_var 1))) ia_nil)))))
    (is_one (is_ret (ie_var 0))))

theorem sc__law_f : FnScope ["_law_n", "_law_d", "_law_part_here"] ["_law_n", "_law_d"] (defScope (topS 46)) := ⟨rfl, rfl, rfl, by decide +kernel, rfl, by decide +kernel, by decide +kernel⟩
theorem ok__law_f (T : Txt K mg) (B : LamX.TabB base mg (cdAt K "_law_standings") (tbAt K "_law_standings")) : GF P w K mg base "_law_f" 2 2 f__law_f := by
  obtain ⟨fd, F⟩ := T.d__law_f
  have G__law_part := ok__law_part (P := P) (w := w) (base := base) T B
  refine gf_mk F T.g__law_f sc__law_f 1 rfl (fun _ _ _ _ _ _ us hl => match us, hl with | [_, _], _ => rfl) fun cdv hcv A outer s H E cx => ?_
  exact is_cons (is_set (i := 2) cx (ie_callG cx G__law_part (ia_cons (ie_var 0) (ia_cons (ie_var 1) ia_nil))))
    (is_one (is_ret (ie_tup (ia_cons (ie_div (ie_var 0) (ie_var 2)) (ia_cons (ie_div (ie_var 1) (ie_var 2)) ia_nil)))))

theorem sc__law_add : FnScope ["_law_one", "_law_other"] ["_law_one", "_law_other"] (defScope (topS 47)) := ⟨rfl, rfl, rfl, by decide +kernel, rfl, by decide +kernel, by decide +kernel⟩
theorem ok__law_add (T : Txt K mg) (B : LamX.TabB base mg (cdAt K "_law_standings") (tbAt K "_law_standings")) : GF P w K mg base "_law_add" 3 2 f__law_add := by
  obtain ⟨fd, F⟩ := T.d__law_add
  have G__law_f := ok__law_f (P := P) (w := w) (base := base) T B
  refine gf_mk F T.g__law_add sc__law_add 0 rfl (fun _ _ _ _ _ _ us hl => match us, hl with | [_, _], _ => rfl) fun cdv hcv A outer s H E cx => ?_
  exact is_one (is_ret (ie_callG cx G__law_f (ia_cons (ie_add (ie_mul (ie_idx (ie_var 0) ie_int) (ie_idx (ie_var 1) ie_int)) (ie_mul (ie_idx (ie_var 1) ie_int) (ie_idx (ie_var 0) ie_int))) (ia_cons (ie_mul (ie_idx (ie_var 0) ie_int) (ie_idx (ie_var 1) ie_int)) ia_nil))))

theorem sc__law_mul : FnScope ["_law_one", "_law_other"] ["_law_one", "_law_other"] (defScope (topS 48)) := ⟨rfl, rfl, rfl, by decide +kernel, rfl, by decide +kernel, by decide +kernel⟩
theorem ok__law_mul (T : Txt K mg) (B : LamX.TabB base mg (cdAt K "_law_standings") (tbAt K "_law_standings")) : GF P w K mg base "_law_mul" 3 2 f__law_mul := by
  obtain ⟨fd, F⟩ := T.d__law_mul
  have G__law_f := ok__law_f (P := P) (w := w) (base := base) T B
  refine gf_mk F T.g__law_mul sc__law_mul 0 rfl (fun _ _ _ _ _ _ us hl => match us, hl with | [_, _], _ => rfl) fun cdv hcv A outer s H E cx => ?_
  exact is_one (is_ret (ie_callG cx G__law_f (ia_cons (ie_mul (ie_idx (ie_var 0) ie_int) (ie_idx (ie_var 1) ie_int)) (ia_cons (ie_mul (ie_idx (ie_var 0) ie_int) (ie_idx (ie_var 1) ie_int)) ia_nil))))

theorem sc__law_div : FnScope ["_law_one", "_law_other"] ["_law_one", "_law_other"] (defScope (topS 49)) := ⟨rfl, rfl, rfl, by decide +kernel, rfl, by decide +kernel, by decide +kernel⟩
theorem ok__law_div (T : Txt K mg) (B : LamX.TabB base mg (cdAt K "_law_standings") (tbAt K "_law_standings")) : GF P w K mg base "_law_div" 3 2 f__law_div := by
  obtain ⟨fd, F⟩ := T.d__law_div
  have G__law_f := ok__law_f (P := P) (w := w) (base := base) T B
  refine gf_mk F T.g__law_div sc__law_div 0 rfl (fun _ _ _ _ _ _ us hl => match us, hl with | [_, _], _ => rfl) fun cdv hcv A outer s H E cx => ?_
  exact is_one (is_ret (ie_callG cx G__law_f (ia_cons (ie_mul (ie_idx (ie_var 0) ie_int) (ie_idx (ie_var 1) ie_int)) (ia_cons (ie_mul (ie_idx (ie_var 0) ie_int) (ie_idx (ie_var 1) ie_int)) ia_nil))))

theorem sc__law_under : FnScope ["_law_one", "_law_other"] ["_law_one", "_law_other"] (defScope (topS 50)) := ⟨rfl, rfl, rfl, by decide +kernel, rfl, by decide +kernel, by decide +kernel⟩
theorem ok__law_under (T : Txt K mg) (B : LamX.TabB base mg (cdAt K "_law_standings") (tbAt K "_law_standings")) : GF P w K mg base "_law_under" 1 2 f__law_under := by
  obtain ⟨fd, F⟩ := T.d__law_under
  refine gf_mk F T.g__law_under sc__law_under 0 rfl (fun _ _ _ _ _ _ us hl => match us, hl with | [_, _], _ => rfl) fun cdv hcv A outer s H E cx => ?_
  exact is_one (is_ret (ie_lt (ie_mul (ie_idx (ie_var 0) ie_int) (ie_idx (ie_var 1) ie_int)) (ie_mul (ie_idx (ie_var 1) ie_int) (ie_idx (ie_var 0) ie_int))))

theorem sc__law_reach : FnScope ["_law_h", "_law_base", "_law_kind"] ["_law_h", "_law_base"] (defScope (topS 51)) := ⟨rfl, rfl, rfl, by decide +kernel, rfl, by decide +kernel, by decide +kernel⟩
theorem ok__law_reach (T : Txt K mg) (B : LamX.TabB base mg (cdAt K "_law_standings") (tbAt K "_law_standings")) : GF P w K mg base "_law_reach" 3 2 f__law_reach := by
  obtain ⟨fd, F⟩ := T.d__law_reach
  have G__law_f := ok__law_f (P := P) (w := w) (base := base) T B
  have G__law_next := ok__law_next (P := P) (w := w) (base := base) T B
  refine gf_mk F T.g__law_reach sc__law_reach 1 rfl (fun _ _ _ _ _ _ us hl => match us, hl with | [_, _], _ => rfl) fun cdv hcv A outer s H E cx => ?_
  exact is_cons (is_set (i := 2) cx (ie_callG cx G__law_next (ia_cons (ie_var 0) (ia_cons ie_int ia_nil))))
    (is_cons (is_if (it_eq cx (ie_var 2) ie_int) (is_one (is_ret (ie_callG cx G__law_f (ia_cons (ie_add ie_int (ie_callG cx G__law_next (ia_cons (ie_var 0) (ia_cons ie_int ia_nil)))) (ia_cons (ie_add ie_int (ie_callG cx G__law_next (ia_cons (ie_var 0) (ia_cons ie_int ia_nil)))) ia_nil))))) is_nil)
    (is_cons (is_if (it_eq cx (ie_var 2) ie_int) (is_one (is_ret (ie_callG cx G__law_f (ia_cons (ie_add ie_int (ie_callG cx G__law_next (ia_cons (ie_var 0) (ia_cons ie_int ia_nil)))) (ia_cons ie_int ia_nil))))) is_nil)
    (is_one (is_ret (ie_callG cx G__law_f (ia_cons (ie_add (ie_var 1) (ie_callG cx G__law_next (ia_cons (ie_var 0) (ia_cons (ie_add (ie_var 1) ie_int) ia_nil)))) (ia_cons (ie_add ie_int (ie_callG cx G__law_next (ia_cons (ie_var 0) (ia_cons ie_int ia_nil)))) ia_nil)))))))

theorem sc__law_turns : FnScope ["_law_h", "_law_roads", "_law_most_here", "_law_found", "_law_base", "_law_k", "_law_road"] ["_law_h", "_law_roads", "_law_most_here"] (defScope (topS 52)) := ⟨rfl, rfl, rfl, by decide +kernel, rfl, by decide +kernel, by decide +kernel⟩
theorem ok__law_turns (T : Txt K mg) (B : LamX.TabB base mg (cdAt K "_law_standings") (tbAt K "_law_standings")) : GF P w K mg base "_law_turns" 4 3 f__law_turns := by
  obtain ⟨fd, F⟩ := T.d__law_turns
  have G__law_next := ok__law_next (P := P) (w := w) (base := base) T B
  have G__law_reach := ok__law_reach (P := P) (w := w) (base := base) T B
  refine gf_mk F T.g__law_turns sc__law_turns 4 rfl (fun _ _ _ _ _ _ us hl => match us, hl with | [_, _, _], _ => rfl) fun cdv hcv A outer s H E cx => ?_
  exact is_cons (is_par (i := 3) (j := 4) cx (ia_cons (ie_lst ia_nil) (ia_cons (ie_add ie_int (ie_callG cx G__law_next (ia_cons (ie_var 0) (ia_cons ie_int ia_nil)))) ia_nil)))
    (is_cons (is_for cx (ii_range1 T.z_range (ia_cons (ie_callG cx G__law_next (ia_cons (ie_var 0) (ia_cons (ie_add (ie_var 2) ie_int) ia_nil))) ia_nil)) (ig_name 5 cx.nd) (is_cons (is_set (i := 6) cx (ie_if (it_gt (ie_callG cx G__law_next (ia_cons (ie_var 0) (ia_cons ie_int ia_nil))) ie_int) (ie_sub (ie_var 5) (ie_mul (ie_div (ie_var 5) (ie_var 1)) (ie_var 1))) (ie_callG cx G__law_next (ia_cons (ie_var 0) (ia_cons (ie_var 1) ia_nil)))))
    (is_cons (is_expr (ie_append (ie_var 3) (ia_cons (ie_tup (ia_cons (ie_var 6) (ia_cons (ie_callG cx G__law_reach (ia_cons (ie_var 0) (ia_cons (ie_var 4) ia_nil))) ia_nil))) ia_nil)))
    (is_one (is_set (i := 4) cx (ie_min2 cx T.z_min (ia_cons (ie_pow ie_int ie_int) (ia_cons (ie_add (ie_var 4) (ie_callG cx G__law_next (ia_cons (ie_var 0) (ia_cons (ie_add (ie_var 4) ie_int) ia_nil)))) ia_nil))))))))
    (is_one (is_ret (ie_tuple1 T.z_tuple (ia_cons (ie_var 3) ia_nil)))))

theorem sc__law_plan : FnScope ["_law_h", "_law_most_here", "_law_roads", "_law_cost"] ["_law_h", "_law_most_here"] (defScope (topS 53)) := ⟨rfl, rfl, rfl, by decide +kernel, rfl, by decide +kernel, by decide +kernel⟩
theorem ok__law_plan (T : Txt K mg) (B : LamX.TabB base mg (cdAt K "_law_standings") (tbAt K "_law_standings")) : GF P w K mg base "_law_plan" 5 2 f__law_plan := by
  obtain ⟨fd, F⟩ := T.d__law_plan
  have G__law_f := ok__law_f (P := P) (w := w) (base := base) T B
  have G__law_next := ok__law_next (P := P) (w := w) (base := base) T B
  have G__law_turns := ok__law_turns (P := P) (w := w) (base := base) T B
  refine gf_mk F T.g__law_plan sc__law_plan 2 rfl (fun _ _ _ _ _ _ us hl => match us, hl with | [_, _], _ => rfl) fun cdv hcv A outer s H E cx => ?_
  exact is_cons (is_set (i := 2) cx (ie_add ie_int (ie_callG cx G__law_next (ia_cons (ie_var 0) (ia_cons ie_int ia_nil)))))
    (is_cons (is_set (i := 3) cx (ie_if (it_eq cx (ie_callG cx G__law_next (ia_cons (ie_var 0) (ia_cons ie_int ia_nil))) ie_int) (ie_tup (ia_cons ie_int (ia_cons ie_int ia_nil))) (ie_callG cx G__law_f (ia_cons (ie_callG cx G__law_next (ia_cons (ie_var 0) (ia_cons ie_int ia_nil))) (ia_cons (ie_add ie_int (ie_callG cx G__law_next (ia_cons (ie_var 0) (ia_cons ie_int ia_nil)))) ia_nil)))))
    (is_one (is_ret (ie_lst (ia_cons (ie_var 2) (ia_cons (ie_callG cx G__law_turns (ia_cons (ie_var 0) (ia_cons (ie_var 2) (ia_cons (ie_var 1) ia_nil)))) (ia_cons (ie_var 3) ia_nil)))))))

theorem sc__law_walked : FnScope ["_law_t", "_law_road", "_law_far_here", "_law_base", "_law_own", "_law_reach_here"] ["_law_t", "_law_road", "_law_far_here"] (defScope (topS 54)) := ⟨rfl, rfl, rfl, by decide +kernel, rfl, by decide +kernel, by decide +kernel⟩
theorem ok__law_walked (T : Txt K mg) (B : LamX.TabB base mg (cdAt K "_law_standings") (tbAt K "_law_standings")) : GF P w K mg base "_law_walked" 4 3 f__law_walked := by
  obtain ⟨fd, F⟩ := T.d__law_walked
  have G__law_add := ok__law_add (P := P) (w := w) (base := base) T B
  have G__law_mul := ok__law_mul (P := P) (w := w) (base := base) T B
  have G__law_under := ok__law_under (P := P) (w := w) (base := base) T B
  refine gf_mk F T.g__law_walked sc__law_walked 3 rfl (fun _ _ _ _ _ _ us hl => match us, hl with | [_, _, _], _ => rfl) fun cdv hcv A outer s H E cx => ?_
  exact is_cons (is_set (i := 3) cx (ie_tup (ia_cons ie_int (ia_cons ie_int ia_nil))))
    (is_cons (is_for cx (ii_seq (ie_idx (ie_var 0) ie_int)) (ig_tup cx (igs_cons 4 cx.nd (igs_cons 5 cx.nd igs_nil))) (is_cons (is_if (PW.pt (iw_and (it_eq cx (ie_var 4) (ie_var 1)) (iw_and1 (it_not (it_tru (ie_callG cx G__law_under (ia_cons (ie_var 5) (ia_cons (ie_var 2) ia_nil)))))))) (is_one (is_ret (ie_callG cx G__law_add (ia_cons (ie_var 3) (ia_cons (ie_var 2) ia_nil))))) is_nil)
    (is_one (is_set (i := 3) cx (ie_callG cx G__law_add (ia_cons (ie_var 3) (ia_cons (ie_callG cx G__law_add (ia_cons (ie_callG cx G__law_mul (ia_cons (ie_tup (ia_cons ie_int (ia_cons ie_int ia_nil))) (ia_cons (ie_var 5) ia_nil))) (ia_cons (ie_idx (ie_var 0) ie_int) ia_nil))) ia_nil)))))))
    (is_one (is_ret ie_non)))

theorem sc__law_orders : FnScope ["_law_size", "_law_found", "_law_k", "_law_longer", "_law_row", "_law_j"] ["_law_size"] (defScope (topS 55)) := ⟨rfl, rfl, rfl, by decide +kernel, rfl, by decide +kernel, by decide +kernel⟩
theorem ok__law_orders (T : Txt K mg) (B : LamX.TabB base mg (cdAt K "_law_standings") (tbAt K "_law_standings")) : GF P w K mg base "_law_orders" 1 1 f__law_orders := by
  obtain ⟨fd, F⟩ := T.d__law_orders
  refine gf_mk F T.g__law_orders sc__law_orders 5 rfl (fun _ _ _ _ _ _ us hl => match us, hl with | [_], _ => rfl) fun cdv hcv A outer s H E cx => ?_
  exact is_cons (is_set (i := 1) cx (ie_lst (ia_cons (ie_tup ia_nil) ia_nil)))
    (is_cons (is_for cx (ii_range1 T.z_range (ia_cons (ie_var 0) ia_nil)) (ig_name 2 cx.nd) (is_cons (is_set (i := 3) cx (ie_lst ia_nil))
    (is_cons (is_for cx (ii_seq (ie_var 1)) (ig_name 4 cx.nd) (is_one (is_for cx (ii_range1 T.z_range (ia_cons (ie_var 0) ia_nil)) (ig_name 5 cx.nd) (is_one (is_set (i := 3) cx (ie_add (ie_var 3) (ie_if (it_notin cx (ie_var 5) (ie_var 4)) (ie_lst (ia_cons (ie_add (ie_var 4) (ie_tup (ia_cons (ie_var 5) ia_nil))) ia_nil)) (ie_lst ia_nil))))))))
    (is_one (is_set (i := 1) cx (ie_var 3))))))
    (is_one (is_ret (ie_var 1))))

theorem sc__law_chances : FnScope ["_law_h", "_law_roads", "_law_most_here", "_law_found", "_law_k", "_law_place", "_law_one"] ["_law_h", "_law_roads", "_law_most_here"] (defScope (topS 56)) := ⟨rfl, rfl, rfl, by decide +kernel, rfl, by decide +kernel, by decide +kernel⟩
theorem ok__law_chances (T : Txt K mg) (B : LamX.TabB base mg (cdAt K "_law_standings") (tbAt K "_law_standings")) : GF P w K mg base "_law_chances" 3 3 f__law_chances := by
  obtain ⟨fd, F⟩ := T.d__law_chances
  have G__law_f := ok__law_f (P := P) (w := w) (base := base) T B
  have G__law_next := ok__law_next (P := P) (w := w) (base := base) T B
  refine gf_mk F T.g__law_chances sc__law_chances 4 rfl (fun _ _ _ _ _ _ us hl => match us, hl with | [_, _, _], _ => rfl) fun cdv hcv A outer s H E cx => ?_
  exact is_cons (is_set (i := 3) cx (ie_lst ia_nil))
    (is_cons (is_for cx (ii_range1 T.z_range (ia_cons (ie_add ie_int (ie_callG cx G__law_next (ia_cons (ie_var 0) (ia_cons (ie_var 2) ia_nil)))) ia_nil)) (ig_name 4 cx.nd) (is_cons (is_set (i := 5) cx (ie_tup (ia_cons (ie_callG cx G__law_next (ia_cons (ie_var 0) (ia_cons (ie_var 1) ia_nil))) (ia_cons (ie_callG cx G__law_f (ia_cons (ie_add ie_int (ie_callG cx G__law_next (ia_cons (ie_var 0) (ia_cons ie_int ia_nil)))) (ia_cons ie_int ia_nil))) ia_nil))))
    (is_cons (is_if (it_eq cx (ie_callG cx G__law_next (ia_cons (ie_var 0) (ia_cons ie_int ia_nil))) ie_int) (is_one (is_set (i := 5) cx (ie_tup (ia_cons (ie_idx (ie_var 5) ie_int) (ia_cons (ie_callG cx G__law_f (ia_cons (ie_add ie_int (ie_callG cx G__law_next (ia_cons (ie_var 0) (ia_cons ie_int ia_nil)))) (ia_cons ie_int ia_nil))) ia_nil))))) is_nil)
    (is_one (is_if (it_notin cx (ie_var 5) (ie_lc [("_law_one", 6)] cx (ii_seq (ie_var 3)) (blkOk_by (by rfl)) (fun _ _ _ _ _ cx => gw_name 6 cx.nd) (fun _ _ _ _ _ cx => it_none) (fun _ _ _ _ _ cx => ie_sl (ie_var 6) io_none (io_some ie_int)))) (is_one (is_expr (ie_append (ie_var 3) (ia_cons (ie_add (ie_var 5) (ie_tup (ia_cons (ie_add ie_int (ie_callG cx G__law_next (ia_cons (ie_var 0) (ia_cons (ie_idx (ie_lst (ia_cons ie_int (ia_cons ie_int ia_nil))) (ie_callG cx G__law_next (ia_cons (ie_var 0) (ia_cons ie_int ia_nil)))) ia_nil)))) ia_nil))) ia_nil)))) is_nil)))))
    (is_one (is_ret (ie_tuple1 T.z_tuple (ia_cons (ie_var 3) ia_nil)))))

theorem sc__law_turn : FnScope ["_law_chances_here", "_law_done", "_law_j", "_law_road", "_law_far_here", "_law_weight_here", "_law_found", "_law_i", "_law_near"] ["_law_chances_here", "_law_done", "_law_j"] (defScope (topS 57)) := ⟨rfl, rfl, rfl, by decide +kernel, rfl, by decide +kernel, by decide +kernel⟩
theorem ok__law_turn (T : Txt K mg) (B : LamX.TabB base mg (cdAt K "_law_standings") (tbAt K "_law_standings")) : GF P w K mg base "_law_turn" 2 3 f__law_turn := by
  obtain ⟨fd, F⟩ := T.d__law_turn
  have G__law_under := ok__law_under (P := P) (w := w) (base := base) T B
  refine gf_mk F T.g__law_turn sc__law_turn 6 rfl (fun _ _ _ _ _ _ us hl => match us, hl with | [_, _, _], _ => rfl) fun cdv hcv A outer s H E cx => ?_
  exact is_cons (is_asgT (ie_idx (ie_var 0) (ie_var 2)) (ig_tup cx (igs_cons 3 cx.nd (igs_cons 4 cx.nd (igs_cons 5 cx.nd igs_nil)))))
    (is_cons (is_set (i := 6) cx (ie_lst ia_nil))
    (is_cons (is_for cx (ii_range1 T.z_range (ia_cons (ie_len T.z_len (ia_cons (ie_var 0) ia_nil)) ia_nil)) (ig_name 7 cx.nd) (is_cons (is_set (i := 8) cx (ie_and (ie_eq cx (ie_idx (ie_idx (ie_var 0) (ie_var 7)) ie_int) (ie_var 3)) (ie_one (ie_not (ie_callG cx G__law_under (ia_cons (ie_var 4) (ia_cons (ie_idx (ie_idx (ie_var 0) (ie_var 7)) ie_int) ia_nil)))))))
    (is_one (is_expr (ie_append (ie_var 6) (ia_cons (ie_if (it_tru (ie_var 8)) ie_int (ie_idx (ie_f (ie_var 1)) (ie_var 7))) ia_nil))))))
    (is_one (is_ret (ie_tuple1K T.z_tuple (ia_cons (ie_var 6) ia_nil))))))

theorem sc__law_standings : FnScope ["_law_chances_here", "_law_begin", "_law_found", "_law_at", "_law_j", "_law_new"] ["_law_chances_here"] (defScope (topS 58)) := ⟨rfl, rfl, rfl, by decide +kernel, rfl, by decide +kernel, by decide +kernel⟩
theorem ok__law_standings (T : Txt K mg) (B : LamX.TabB base mg (cdAt K "_law_standings") (tbAt K "_law_standings")) : GF P w K mg base "_law_standings" 3 1 f__law_standings := by
  obtain ⟨fd, F⟩ := T.d__law_standings
  have G__law_turn := ok__law_turn (P := P) (w := w) (base := base) T B
  refine gf_mk F T.g__law_standings sc__law_standings 5 rfl (fun _ _ _ _ _ _ us hl => match us, hl with | [_], _ => rfl) fun cdv hcv A outer s H E cx => ?_
  exact is_cons (is_set (i := 1) cx (ie_mulK (ie_key (ia_cons ie_int ia_nil)) (ie_len T.z_len (ia_cons (ie_var 0) ia_nil))))
    (is_cons (is_par (i := 2) (j := 3) cx (ia_cons (ie_lst (ia_cons (ie_var 1) ia_nil)) (ia_cons ie_int ia_nil)))
    (is_cons (is_while cx (it_lt (ie_var 3) (ie_len T.z_len (ia_cons (ie_var 2) ia_nil))) (is_cons (is_for cx (ii_range1 T.z_range (ia_cons (ie_len T.z_len (ia_cons (ie_var 0) ia_nil)) ia_nil)) (ig_name 4 cx.nd) (is_cons (is_set (i := 5) cx (ie_callG cx G__law_turn (ia_cons (ie_var 0) (ia_cons (ie_idx (ie_var 2) (ie_var 3)) (ia_cons (ie_var 4) ia_nil)))))
    (is_one (is_if (PW.pt (iw_and (it_eq cx (ie_idx (ie_f (ie_idx (ie_var 2) (ie_var 3))) (ie_var 4)) ie_int) (iw_and1 (it_notin cx (ie_var 5) (ie_var 2))))) (is_one (is_expr (ie_append (ie_var 2) (ia_cons (ie_var 5) ia_nil)))) is_nil))))
    (is_one (is_set (i := 3) cx (ie_add (ie_var 3) ie_int)))))
    (is_one (is_ret (ie_sortK (x := "_law_standings") (y := "_law_done") cx B hcv T.z_sorted T.z_sum ⟨rfl, rfl, rfl, rfl, rfl, by decide +kernel, rfl, fun _ _ _ _ _ _ => rfl⟩ (ie_var 2))))))

theorem sc__law_least : FnScope ["_law_chances_here", "_law_weights", "_law_best", "_law_done", "_law_ways", "_law_j", "_law_new", "_law_far_here", "_law_whole", "_law_i", "_law_least_here", "_law_one"] ["_law_chances_here", "_law_weights"] (defScope (topS 59)) := ⟨rfl, rfl, rfl, by decide +kernel, rfl, by decide +kernel, by decide +kernel⟩
theorem ok__law_least (T : Txt K mg) (B : LamX.TabB base mg (cdAt K "_law_standings") (tbAt K "_law_standings")) : GF P w K mg base "_law_least" 4 2 f__law_least := by
  obtain ⟨fd, F⟩ := T.d__law_least
  have G__law_add := ok__law_add (P := P) (w := w) (base := base) T B
  have G__law_mul := ok__law_mul (P := P) (w := w) (base := base) T B
  have G__law_standings := ok__law_standings (P := P) (w := w) (base := base) T B
  have G__law_turn := ok__law_turn (P := P) (w := w) (base := base) T B
  have G__law_under := ok__law_under (P := P) (w := w) (base := base) T B
  refine gf_mk F T.g__law_least sc__law_least 10 rfl (fun _ _ _ _ _ _ us hl => match us, hl with | [_, _], _ => rfl) fun cdv hcv A outer s H E cx => ?_
  exact is_cons (is_set (i := 2) cx ie_dnew)
    (is_cons (is_for cx (ii_seq (ie_revL (ie_callG cx G__law_standings (ia_cons (ie_var 0) ia_nil)))) (ig_name 3 cx.nd) (is_cons (is_set (i := 4) cx (ie_lst ia_nil))
    (is_cons (is_for cx (ii_range1 T.z_range (ia_cons (ie_len T.z_len (ia_cons (ie_var 0) ia_nil)) ia_nil)) (ig_name 5 cx.nd) (is_one (is_if (it_eq cx (ie_idx (ie_f (ie_var 3)) (ie_var 5)) ie_int) (is_cons (is_par (i := 6) (j := 7) cx (ia_cons (ie_callG cx G__law_turn (ia_cons (ie_var 0) (ia_cons (ie_var 3) (ia_cons (ie_var 5) ia_nil)))) (ia_cons (ie_idx (ie_idx (ie_var 0) (ie_var 5)) ie_int) ia_nil)))
    (is_cons (is_set (i := 8) cx (ie_dget cx (ie_var 2) (ie_var 6)))
    (is_cons (is_for cx (ii_range1 T.z_range (ia_cons (ie_len T.z_len (ia_cons (ie_var 0) ia_nil)) ia_nil)) (ig_name 9 cx.nd) (is_one (is_if (it_eq cx (ie_idx (ie_f (ie_var 6)) (ie_var 9)) ie_int) (is_one (is_set (i := 8) cx (ie_callG cx G__law_add (ia_cons (ie_var 8) (ia_cons (ie_callG cx G__law_mul (ia_cons (ie_callG cx G__law_mul (ia_cons (ie_tup (ia_cons ie_int (ia_cons ie_int ia_nil))) (ia_cons (ie_var 7) ia_nil))) (ia_cons (ie_idx (ie_var 1) (ie_var 9)) ia_nil))) ia_nil))))) (is_one (is_if (it_eq cx (ie_idx (ie_f (ie_var 3)) (ie_var 9)) ie_int) (is_one (is_set (i := 8) cx (ie_callG cx G__law_add (ia_cons (ie_var 8) (ia_cons (ie_callG cx G__law_mul (ia_cons (ie_idx (ie_idx (ie_var 0) (ie_var 9)) ie_int) (ia_cons (ie_idx (ie_var 1) (ie_var 9)) ia_nil))) ia_nil))))) is_nil)))))
    (is_one (is_expr (ie_append (ie_var 4) (ia_cons (ie_var 8) ia_nil))))))) is_nil)))
    (is_cons (is_set (i := 10) cx (ie_if (it_ne cx (ie_var 4) (ie_lst ia_nil)) (ie_idx (ie_var 4) ie_int) (ie_tup (ia_cons ie_int (ia_cons ie_int ia_nil)))))
    (is_cons (is_for cx (ii_seq (ie_var 4)) (ig_name 11 cx.nd) (is_one (is_set (i := 10) cx (ie_if (it_tru (ie_callG cx G__law_under (ia_cons (ie_var 11) (ia_cons (ie_var 10) ia_nil)))) (ie_var 11) (ie_var 10)))))
    (is_one (is_dput cx (ie_var 10) (ie_var 2) (ie_var 3))))))))
    (is_one (is_ret (ie_dget cx (ie_var 2) (ie_mulK (ie_key (ia_cons ie_int ia_nil)) (ie_len T.z_len (ia_cons (ie_var 0) ia_nil)))))))

theorem sc__law_weight : FnScope ["_law_t", "_law_chances_here", "_law_far_here", "_law_found", "_law_road", "_law_away", "_law_weight_here", "_law_own"] ["_law_t", "_law_chances_here", "_law_far_here"] (defScope (topS 60)) := ⟨rfl, rfl, rfl, by decide +kernel, rfl, by decide +kernel, by decide +kernel⟩
theorem ok__law_weight (T : Txt K mg) (B : LamX.TabB base mg (cdAt K "_law_standings") (tbAt K "_law_standings")) : GF P w K mg base "_law_weight" 5 3 f__law_weight := by
  obtain ⟨fd, F⟩ := T.d__law_weight
  have G__law_under := ok__law_under (P := P) (w := w) (base := base) T B
  have G__law_walked := ok__law_walked (P := P) (w := w) (base := base) T B
  refine gf_mk F T.g__law_weight sc__law_weight 5 rfl (fun _ _ _ _ _ _ us hl => match us, hl with | [_, _, _], _ => rfl) fun cdv hcv A outer s H E cx => ?_
  exact is_cons (is_set (i := 3) cx ie_int)
    (is_cons (is_for cx (ii_seq (ie_var 1)) (ig_tup cx (igs_cons 4 cx.nd (igs_cons 5 cx.nd (igs_cons 6 cx.nd igs_nil)))) (is_cons (is_set (i := 7) cx (ie_callG cx G__law_walked (ia_cons (ie_var 0) (ia_cons (ie_var 4) (ia_cons (ie_var 5) ia_nil)))))
    (is_one (is_if (PW.pt (iw_and (it_isnot (ie_var 7) ie_non) (iw_and1 (it_not (it_tru (ie_callG cx G__law_under (ia_cons (ie_var 2) (ia_cons (ie_var 7) ia_nil)))))))) (is_one (is_set (i := 3) cx (ie_add (ie_var 3) (ie_var 6)))) is_nil))))
    (is_one (is_ret (ie_var 3))))

theorem sc__law_most : FnScope ["_law_chances_here", "_law_far_here", "_law_ahead", "_law_most_here", "_law_done", "_law_j", "_law_new", "_law_away", "_law_back", "_law_i"] ["_law_chances_here", "_law_far_here"] (defScope (topS 61)) := ⟨rfl, rfl, rfl, by decide +kernel, rfl, by decide +kernel, by decide +kernel⟩
theorem ok__law_most (T : Txt K mg) (B : LamX.TabB base mg (cdAt K "_law_standings") (tbAt K "_law_standings")) : GF P w K mg base "_law_most" 4 2 f__law_most := by
  obtain ⟨fd, F⟩ := T.d__law_most
  have G__law_add := ok__law_add (P := P) (w := w) (base := base) T B
  have G__law_mul := ok__law_mul (P := P) (w := w) (base := base) T B
  have G__law_standings := ok__law_standings (P := P) (w := w) (base := base) T B
  have G__law_turn := ok__law_turn (P := P) (w := w) (base := base) T B
  have G__law_under := ok__law_under (P := P) (w := w) (base := base) T B
  refine gf_mk F T.g__law_most sc__law_most 8 rfl (fun _ _ _ _ _ _ us hl => match us, hl with | [_, _], _ => rfl) fun cdv hcv A outer s H E cx => ?_
  exact is_cons (is_par (i := 2) (j := 3) cx (ia_cons (ie_disp1 cx (ie_mulK (ie_key (ia_cons ie_int ia_nil)) (ie_len T.z_len (ia_cons (ie_var 0) ia_nil))) (ie_tup (ia_cons ie_int (ia_cons ie_int ia_nil)))) (ia_cons ie_int ia_nil)))
    (is_cons (is_for cx (ii_seq (ie_callG cx G__law_standings (ia_cons (ie_var 0) ia_nil))) (ig_name 4 cx.nd) (is_one (is_for cx (ii_range1 T.z_range (ia_cons (ie_len T.z_len (ia_cons (ie_var 0) ia_nil)) ia_nil)) (ig_name 5 cx.nd) (is_one (is_if (it_eq cx (ie_idx (ie_f (ie_var 4)) (ie_var 5)) ie_int) (is_cons (is_asgT (ie_tup (ia_cons (ie_callG cx G__law_turn (ia_cons (ie_var 0) (ia_cons (ie_var 4) (ia_cons (ie_var 5) ia_nil)))) (ia_cons (ie_idx (ie_idx (ie_var 0) (ie_var 5)) ie_int) ia_nil))) (ig_tup cx (igs_cons 6 cx.nd (igs_cons 7 cx.nd igs_nil))))
    (is_cons (is_if (it_not (it_tru (ie_callG cx G__law_under (ia_cons (ie_var 1) (ia_cons (ie_callG cx G__law_add (ia_cons (ie_dget cx (ie_var 2) (ie_var 4)) (ia_cons (ie_var 7) ia_nil))) ia_nil))))) (is_one (is_set (i := 3) cx (ie_max2 cx T.z_max (ia_cons (ie_var 3) (ia_cons (ie_sum cx T.z_sum (ia_cons (ie_lc [("_law_i", 9)] cx (ii_range1 T.z_range (ia_cons (ie_len T.z_len (ia_cons (ie_var 0) ia_nil)) ia_nil)) (blkOk_by (by rfl)) (fun _ _ _ _ _ cx => gw_name 9 cx.nd) (fun _ _ _ _ _ cx => it_none) (fun _ _ _ _ _ cx => ie_mul (ie_idx (ie_idx (ie_var 0) (ie_var 9)) ie_int) (ie_idx (ie_f (ie_var 6)) (ie_var 9)))) ia_nil)) ia_nil))))) is_nil)
    (is_cons (is_set (i := 8) cx (ie_callG cx G__law_add (ia_cons (ie_dget cx (ie_var 2) (ie_var 4)) (ia_cons (ie_callG cx G__law_mul (ia_cons (ie_tup (ia_cons ie_int (ia_cons ie_int ia_nil))) (ia_cons (ie_var 7) ia_nil))) ia_nil))))
    (is_one (is_if (PW.pt (iw_or (it_dnotin cx (ie_var 6) (ie_var 2)) (iw_or1 (it_tru (ie_callG cx G__law_under (ia_cons (ie_var 8) (ia_cons (ie_dget cx (ie_var 2) (ie_var 6)) ia_nil))))))) (is_one (is_dput cx (ie_var 8) (ie_var 2) (ie_var 6))) is_nil))))) is_nil)))))
    (is_one (is_ret (ie_var 3))))

theorem sc__law_far : FnScope ["_law_h", "_law_roads", "_law_chances_here", "_law_far_here", "_law_weight_here", "_law_made"] ["_law_h"] (defScope (topS 62)) := ⟨rfl, rfl, rfl, by decide +kernel, rfl, by decide +kernel, by decide +kernel⟩
theorem ok__law_far (T : Txt K mg) (B : LamX.TabB base mg (cdAt K "_law_standings") (tbAt K "_law_standings")) : GF P w K mg base "_law_far" 10 1 f__law_far := by
  obtain ⟨fd, F⟩ := T.d__law_far
  have G_Plan_turns := ok_Plan_turns (P := P) (w := w) (base := base) T B
  have G__law_chances := ok__law_chances (P := P) (w := w) (base := base) T B
  have G__law_f := ok__law_f (P := P) (w := w) (base := base) T B
  have G__law_most := ok__law_most (P := P) (w := w) (base := base) T B
  have G__law_next := ok__law_next (P := P) (w := w) (base := base) T B
  have G__law_weight := ok__law_weight (P := P) (w := w) (base := base) T B
  have G_most_found := ok_most_found (P := P) (w := w) (base := base) T B
  refine gf_mk F T.g__law_far sc__law_far 5 rfl (fun _ _ _ _ _ _ us hl => match us, hl with | [_], _ => rfl) fun cdv hcv A outer s H E cx => ?_
  exact is_cons (is_set (i := 1) cx (ie_add ie_int (ie_callG cx G__law_next (ia_cons (ie_var 0) (ia_cons ie_int ia_nil)))))
    (is_cons (is_set (i := 2) cx (ie_callG cx G__law_chances (ia_cons (ie_var 0) (ia_cons (ie_var 1) (ia_cons ie_int ia_nil)))))
    (is_cons (is_set (i := 3) cx (ie_callG cx G__law_f (ia_cons (ie_add ie_int (ie_callG cx G__law_next (ia_cons (ie_var 0) (ia_cons (ie_idx (ie_lst (ia_cons ie_int (ia_cons ie_int ia_nil))) (ie_callG cx G__law_next (ia_cons (ie_var 0) (ia_cons ie_int ia_nil)))) ia_nil)))) (ia_cons ie_int ia_nil))))
    (is_cons (is_asgT (ie_callG cx G_most_found (ia_cons (ie_var 1) (ia_cons (ie_var 2) (ia_cons (ie_var 3) ia_nil)))) (ig_tup cx (igs_cons 4 cx.nd (igs_cons 5 cx.nd igs_nil))))
    (is_cons (is_if (it_ne cx (ie_callG cx G__law_weight (ia_cons (ie_lst (ia_cons (ie_var 1) (ia_cons (ie_propG cx T.o_Plan.gC T.o_Plan.cl T.p_Plan_turns G_Plan_turns (ie_var 5)) (ia_cons (ie_tup (ia_cons ie_int (ia_cons ie_int ia_nil))) ia_nil)))) (ia_cons (ie_var 2) (ia_cons (ie_var 3) ia_nil)))) (ie_var 4)) (is_one (is_ret ie_bl)) is_nil)
    (is_one (is_ret (ie_eq cx (ie_var 4) (ie_callG cx G__law_most (ia_cons (ie_var 2) (ia_cons (ie_var 3) ia_nil))))))))))

theorem sc_law : FnScope ["_law_script", "_law_h", "_law_roads", "_law_chances_here", "_law_plans", "_law_order", "_law_own", "_law_away", "_law_far_here", "_law_weight_here", "_law_made", "_law_k", "_law_one"] ["_law_script"] (defScope (topS 63)) := ⟨rfl, rfl, rfl, by decide +kernel, rfl, by decide +kernel, by decide +kernel⟩
theorem ok_law (T : Txt K mg) (B : LamX.TabB base mg (cdAt K "_law_standings") (tbAt K "_law_standings")) {f : Addr} {fd : FuncData} (F : Fun K "law" "law" (topS 63) f fd) : FnOk P w K mg base (L2.CX P w) 11 f fd ["_law_script"] (SpF K mg 1 f_law) := by
  have G_Plan_cost := ok_Plan_cost (P := P) (w := w) (base := base) T B
  have G_Plan_roads := ok_Plan_roads (P := P) (w := w) (base := base) T B
  have G_Plan_turns := ok_Plan_turns (P := P) (w := w) (base := base) T B
  have G__law_chances := ok__law_chances (P := P) (w := w) (base := base) T B
  have G__law_f := ok__law_f (P := P) (w := w) (base := base) T B
  have G__law_far := ok__law_far (P := P) (w := w) (base := base) T B
  have G__law_mix := ok__law_mix (P := P) (w := w) (base := base) T B
  have G__law_next := ok__law_next (P := P) (w := w) (base := base) T B
  have G__law_orders := ok__law_orders (P := P) (w := w) (base := base) T B
  have G__law_walked := ok__law_walked (P := P) (w := w) (base := base) T B
  have G__law_weight := ok__law_weight (P := P) (w := w) (base := base) T B
  have G_most_found := ok_most_found (P := P) (w := w) (base := base) T B
  exact ok_of F sc_law 12 rfl fun cdv hcv A outer s H E cx => (is_cons (is_set (i := 1) cx (ie_callG cx G__law_mix (ia_cons (ie_var 0) (ia_cons ie_int ia_nil))))
    (is_cons (is_if (it_eq cx (ie_callG cx G__law_next (ia_cons (ie_var 1) (ia_cons ie_int ia_nil))) ie_int) (is_one (is_ret (ie_callG cx G__law_far (ia_cons (ie_var 1) ia_nil)))) is_nil)
    (is_cons (is_set (i := 2) cx (ie_add ie_int (ie_callG cx G__law_next (ia_cons (ie_var 1) (ia_cons ie_int ia_nil)))))
    (is_cons (is_set (i := 3) cx (ie_callG cx G__law_chances (ia_cons (ie_var 1) (ia_cons (ie_var 2) (ia_cons ie_int ia_nil)))))
    (is_cons (is_set (i := 4) cx (ie_lst ia_nil))
    (is_cons (is_for cx (ii_seq (ie_callG cx G__law_orders (ia_cons (ie_len T.z_len (ia_cons (ie_var 3) ia_nil)) ia_nil))) (ig_name 5 cx.nd) (is_one (is_expr (ie_append (ie_var 4) (ia_cons (ie_lst (ia_cons (ie_var 2) (ia_cons (ie_tuple1 T.z_tuple (ia_cons (ie_lc [("_law_k", 11)] cx (ii_seq (ie_var 5)) (blkOk_by (by rfl)) (fun _ _ _ _ _ cx => gw_name 11 cx.nd) (fun _ _ _ _ _ cx => it_none) (fun _ _ _ _ _ cx => ie_sl (ie_idx (ie_var 3) (ie_var 11)) io_none (io_some ie_int))) ia_nil)) (ia_cons (ie_tup (ia_cons ie_int (ia_cons ie_int ia_nil))) ia_nil)))) ia_nil)))))
    (is_cons (is_set (i := 6) cx (ie_idx (ie_var 4) (ie_callG cx G__law_next (ia_cons (ie_var 1) (ia_cons (ie_len T.z_len (ia_cons (ie_var 4) ia_nil)) ia_nil)))))
    (is_cons (is_set (i := 7) cx (ie_callG cx G__law_walked (ia_cons (ie_var 6) (ia_cons (ie_idx (ie_idx (ie_idx (ie_var 6) ie_int) (ie_neg ie_int)) ie_int) (ia_cons (ie_idx (ie_idx (ie_idx (ie_var 6) ie_int) (ie_neg ie_int)) ie_int) ia_nil)))))
    (is_cons (is_set (i := 8) cx (ie_lst (ia_cons (ie_var 7) (ia_cons (ie_tup (ia_cons (ie_add ie_int (ie_callG cx G__law_next (ia_cons (ie_var 1) (ia_cons ie_int ia_nil)))) (ia_cons ie_int ia_nil))) (ia_cons (ie_callG cx G__law_f (ia_cons (ie_add ie_int (ie_callG cx G__law_next (ia_cons (ie_var 1) (ia_cons ie_int ia_nil)))) (ia_cons ie_int ia_nil))) (ia_cons (ie_tup (ia_cons (ie_pow ie_int ie_int) (ia_cons ie_int ia_nil))) ia_nil))))))
    (is_cons (is_set (i := 8) cx (ie_idx (ie_var 8) (ie_callG cx G__law_next (ia_cons (ie_var 1) (ia_cons ie_int ia_nil)))))
    (is_cons (is_asgT (ie_callG cx G_most_found (ia_cons (ie_var 2) (ia_cons (ie_var 3) (ia_cons (ie_var 8) ia_nil)))) (ig_tup cx (igs_cons 9 cx.nd (igs_cons 10 cx.nd igs_nil))))
    (is_cons (is_if (PW.pt (iw_or (it_not (it_tru (ie_isi T.os T.z_isinstance (ia_cons (ie_var 10) (ia_cons (ie_glo rfl T.o_Plan.gC) ia_nil))))) (iw_or (it_ne cx (ie_propG cx T.o_Plan.gC T.o_Plan.cl T.p_Plan_roads G_Plan_roads (ie_var 10)) (ie_var 2)) (iw_or1 (it_ne cx (ie_propG cx T.o_Plan.gC T.o_Plan.cl T.p_Plan_cost G_Plan_cost (ie_var 10)) (ie_tup (ia_cons ie_int (ia_cons ie_int ia_nil)))))))) (is_one (is_ret ie_bl)) is_nil)
    (is_cons (is_if (it_ne cx (ie_callG cx G__law_weight (ia_cons (ie_lst (ia_cons (ie_var 2) (ia_cons (ie_propG cx T.o_Plan.gC T.o_Plan.cl T.p_Plan_turns G_Plan_turns (ie_var 10)) (ia_cons (ie_tup (ia_cons ie_int (ia_cons ie_int ia_nil))) ia_nil)))) (ia_cons (ie_var 3) (ia_cons (ie_var 8) ia_nil)))) (ie_var 9)) (is_one (is_ret ie_bl)) is_nil)
    (is_one (is_ret (ie_eq cx (ie_maxL cx T.z_max (ia_cons (ie_lc [("_law_one", 12)] cx (ii_seq (ie_var 4)) (blkOk_by (by rfl)) (fun _ _ _ _ _ cx => gw_name 12 cx.nd) (fun _ _ _ _ _ cx => it_none) (fun _ _ _ _ _ cx => ie_callG cx G__law_weight (ia_cons (ie_var 12) (ia_cons (ie_var 3) (ia_cons (ie_var 8) ia_nil))))) ia_nil)) (ie_var 9)))))))))))))))))

end
end WR

/-! the head: what the top leaves, by one run of the kernel -/
namespace WR
open PySem PySem.Spec PyProof.Rows L2
theorem meth2 {K : PySem.W.Frag} {c m : Str} (e : bMeth c m K = true) : PySem.W.findIn K (.ref (He.ga K c)) m = some (some (.ref (He.ma K (He.ga K c) m))) ∧ PySem.W.isFn K (.ref (He.ma K (He.ga K c) m)) = true := by
  obtain ⟨e1, e⟩ := He.ba e
  exact ⟨He.eqO_ok e1, (He.ba e).1⟩
def exF0 : List FrB := [bGlo "is_integer",
  bGlo "is_from",
  bGlo "common",
  bGlo "ratio",
  bGlo "is_fraction",
  bGlo "plus",
  bGlo "minus",
  bGlo "times",
  bGlo "is_less",
  bGlo "is_within",
  bGlo "greatest_of",
  bGlo "is_reach",
  bGlo "is_turn",
  bGlo "check_roads",
  bGlo "check_cost",
  bGlo "is_chance",
  bGlo "check_chances",
  bGlo "with_place",
  bGlo "rows_of",
  bGlo "standings_of",
  bGlo "walk_to",
  bGlo "plan_to",
  bGlo "most_found",
  bGlo "_law_mix",
  bGlo "_law_next",
  bGlo "_law_part",
  bGlo "_law_f",
  bGlo "_law_add",
  bGlo "_law_mul",
  bGlo "_law_div",
  bGlo "_law_under",
  bGlo "_law_reach",
  bGlo "_law_turns",
  bGlo "_law_plan",
  bGlo "_law_walked",
  bGlo "_law_orders",
  bGlo "_law_chances",
  bGlo "_law_turn",
  bGlo "_law_standings",
  bGlo "_law_least",
  bGlo "_law_weight",
  bGlo "_law_most",
  bGlo "_law_far",
  bGlo "law",
  bInt "MOST_FAR" 1000000,
  bInt "MOST_PLACES" 8,
  bInt "MOST_REACH" 1000000000000,
  bInt "MOST_ROADS" 5,
  bInt "MOST_TURNS" 60,
  bInt "MOST_WEIGHT" 999,
  bGlo "ZERO",
  bTup "ZERO" [.int 0, .int 1],
  bFree "int",
  bFree "isinstance",
  bFree "bool",
  bFree "abs",
  bFree "tuple",
  bFree "len",
  bFree "enumerate",
  bFree "range",
  bFree "zip",
  bFree "sum",
  bFree "max",
  bFree "list",
  bFree "min",
  bFree "sorted",
  bGlo "Plan",
  bOwn "Plan",
  bNoat "Plan" "held",
  bMk "Plan",
  bProp "Plan" "roads",
  bProp "Plan" "turns",
  bProp "Plan" "cost",
  bMeth "Plan" "__len__",
  bMeth "Plan" "__eq__",
  bNf "Plan",
  bTwo ownCs,
  bTab "_law_standings"]
def fnF0 : List He5.DefA := [dA (fun K => (He.ga K "is_integer")) "is_integer" "is_integer" (topS 9),
  dA (fun K => (He.ga K "is_from")) "is_from" "is_from" (topS 10),
  dA (fun K => (He.ga K "common")) "common" "common" (topS 11),
  dA (fun K => (He.ga K "ratio")) "ratio" "ratio" (topS 12),
  dA (fun K => (He.ga K "is_fraction")) "is_fraction" "is_fraction" (topS 13),
  dA (fun K => (He.ga K "plus")) "plus" "plus" (topS 14),
  dA (fun K => (He.ga K "minus")) "minus" "minus" (topS 15),
  dA (fun K => (He.ga K "times")) "times" "times" (topS 16),
  dA (fun K => (He.ga K "is_less")) "is_less" "is_less" (topS 17),
  dA (fun K => (He.ga K "is_within")) "is_within" "is_within" (topS 18),
  dA (fun K => (He.ga K "greatest_of")) "greatest_of" "greatest_of" (topS 19),
  dA (fun K => (He.ga K "is_reach")) "is_reach" "is_reach" (topS 24),
  dA (fun K => (He.ga K "is_turn")) "is_turn" "is_turn" (topS 25),
  dA (fun K => (He.ga K "check_roads")) "check_roads" "check_roads" (topS 26),
  dA (fun K => (He.ga K "check_cost")) "check_cost" "check_cost" (topS 27),
  dA (fun K => (He.ma K (He.ga K "Plan") "__init__")) "__init__" "Plan.__init__" (inClass (topS 28) 0),
  dA (fun K => (He5.wf K (He.ga K "Plan") "property" "roads")) "roads" "Plan.roads" (inClass (topS 28) 1),
  dA (fun K => (He5.wf K (He.ga K "Plan") "property" "turns")) "turns" "Plan.turns" (inClass (topS 28) 2),
  dA (fun K => (He5.wf K (He.ga K "Plan") "property" "cost")) "cost" "Plan.cost" (inClass (topS 28) 3),
  dA (fun K => (He.ma K (He.ga K "Plan") "__len__")) "__len__" "Plan.__len__" (inClass (topS 28) 4),
  dA (fun K => (He.ma K (He.ga K "Plan") "__eq__")) "__eq__" "Plan.__eq__" (inClass (topS 28) 5),
  dA (fun K => (He.ga K "is_chance")) "is_chance" "is_chance" (topS 33),
  dA (fun K => (He.ga K "check_chances")) "check_chances" "check_chances" (topS 34),
  dA (fun K => (He.ga K "with_place")) "with_place" "with_place" (topS 35),
  dA (fun K => (He.ga K "rows_of")) "rows_of" "rows_of" (topS 36),
  dA (fun K => (He.ga K "standings_of")) "standings_of" "standings_of" (topS 38),
  dA (fun K => (He.ga K "walk_to")) "walk_to" "walk_to" (topS 39),
  dA (fun K => (He.ga K "plan_to")) "plan_to" "plan_to" (topS 40),
  dA (fun K => (He.ga K "most_found")) "most_found" "most_found" (topS 41),
  dA (fun K => (He.ga K "_law_mix")) "_law_mix" "_law_mix" (topS 43),
  dA (fun K => (He.ga K "_law_next")) "_law_next" "_law_next" (topS 44),
  dA (fun K => (He.ga K "_law_part")) "_law_part" "_law_part" (topS 45),
  dA (fun K => (He.ga K "_law_f")) "_law_f" "_law_f" (topS 46),
  dA (fun K => (He.ga K "_law_add")) "_law_add" "_law_add" (topS 47),
  dA (fun K => (He.ga K "_law_mul")) "_law_mul" "_law_mul" (topS 48),
  dA (fun K => (He.ga K "_law_div")) "_law_div" "_law_div" (topS 49),
  dA (fun K => (He.ga K "_law_under")) "_law_under" "_law_under" (topS 50),
  dA (fun K => (He.ga K "_law_reach")) "_law_reach" "_law_reach" (topS 51),
  dA (fun K => (He.ga K "_law_turns")) "_law_turns" "_law_turns" (topS 52),
  dA (fun K => (He.ga K "_law_plan")) "_law_plan" "_law_plan" (topS 53),
  dA (fun K => (He.ga K "_law_walked")) "_law_walked" "_law_walked" (topS 54),
  dA (fun K => (He.ga K "_law_orders")) "_law_orders" "_law_orders" (topS 55),
  dA (fun K => (He.ga K "_law_chances")) "_law_chances" "_law_chances" (topS 56),
  dA (fun K => (He.ga K "_law_turn")) "_law_turn" "_law_turn" (topS 57),
  dA (fun K => (He.ga K "_law_standings")) "_law_standings" "_law_standings" (topS 58),
  dA (fun K => (He.ga K "_law_least")) "_law_least" "_law_least" (topS 59),
  dA (fun K => (He.ga K "_law_weight")) "_law_weight" "_law_weight" (topS 60),
  dA (fun K => (He.ga K "_law_most")) "_law_most" "_law_most" (topS 61),
  dA (fun K => (He.ga K "_law_far")) "_law_far" "_law_far" (topS 62),
  dA (fun K => (He.ga K "law")) "law" "law" (topS 63)]
def exF : List FrB := exF0
def fnF : List He5.DefA := fnF0
def looseF : List Str := (["RoadError", "BadRoads", "BadTurns", "BadCost", "BadFar", "BadChances", "ZERO", "is_integer", "is_from", "common", "ratio", "is_fraction", "plus", "minus", "times", "is_less"] : List Str) ++ (["is_within", "greatest_of", "MOST_ROADS", "MOST_TURNS", "MOST_REACH", "is_reach", "is_turn", "check_roads", "check_cost", "Plan", "MOST_PLACES", "MOST_FAR", "MOST_WEIGHT", "is_chance", "check_chances", "with_place"] : List Str) ++ (["rows_of", "standings_of", "walk_to", "plan_to", "most_found", "_law_mix", "_law_next", "_law_part", "_law_f", "_law_add", "_law_mul", "_law_div", "_law_under", "_law_reach", "_law_turns", "_law_plan"] : List Str) ++ (["_law_walked", "_law_orders", "_law_chances", "_law_turn", "_law_standings", "_law_least", "_law_weight", "_law_most", "_law_far"] : List Str)
theorem txt_of {K : PySem.W.Frag} {mg : Str → Option Value} {h : Heap} (X : K.In h) (G : h.Ns mainGlobals mg) (c : SaysW exF fnF K) : Txt K mg :=
  {
    d_is_integer := c.fun_ 0
    g_is_integer := He.glo_ok X G (c.fact (f := bGlo "is_integer") (List.mem_of_getElem? (i := 0) rfl))
    d_is_from := c.fun_ 1
    g_is_from := He.glo_ok X G (c.fact (f := bGlo "is_from") (List.mem_of_getElem? (i := 1) rfl))
    d_common := c.fun_ 2
    g_common := He.glo_ok X G (c.fact (f := bGlo "common") (List.mem_of_getElem? (i := 2) rfl))
    d_ratio := c.fun_ 3
    g_ratio := He.glo_ok X G (c.fact (f := bGlo "ratio") (List.mem_of_getElem? (i := 3) rfl))
    d_is_fraction := c.fun_ 4
    g_is_fraction := He.glo_ok X G (c.fact (f := bGlo "is_fraction") (List.mem_of_getElem? (i := 4) rfl))
    d_plus := c.fun_ 5
    g_plus := He.glo_ok X G (c.fact (f := bGlo "plus") (List.mem_of_getElem? (i := 5) rfl))
    d_minus := c.fun_ 6
    g_minus := He.glo_ok X G (c.fact (f := bGlo "minus") (List.mem_of_getElem? (i := 6) rfl))
    d_times := c.fun_ 7
    g_times := He.glo_ok X G (c.fact (f := bGlo "times") (List.mem_of_getElem? (i := 7) rfl))
    d_is_less := c.fun_ 8
    g_is_less := He.glo_ok X G (c.fact (f := bGlo "is_less") (List.mem_of_getElem? (i := 8) rfl))
    d_is_within := c.fun_ 9
    g_is_within := He.glo_ok X G (c.fact (f := bGlo "is_within") (List.mem_of_getElem? (i := 9) rfl))
    d_greatest_of := c.fun_ 10
    g_greatest_of := He.glo_ok X G (c.fact (f := bGlo "greatest_of") (List.mem_of_getElem? (i := 10) rfl))
    d_is_reach := c.fun_ 11
    g_is_reach := He.glo_ok X G (c.fact (f := bGlo "is_reach") (List.mem_of_getElem? (i := 11) rfl))
    d_is_turn := c.fun_ 12
    g_is_turn := He.glo_ok X G (c.fact (f := bGlo "is_turn") (List.mem_of_getElem? (i := 12) rfl))
    d_check_roads := c.fun_ 13
    g_check_roads := He.glo_ok X G (c.fact (f := bGlo "check_roads") (List.mem_of_getElem? (i := 13) rfl))
    d_check_cost := c.fun_ 14
    g_check_cost := He.glo_ok X G (c.fact (f := bGlo "check_cost") (List.mem_of_getElem? (i := 14) rfl))
    d_Plan___init__ := c.fun_ 15
    d_Plan_roads := c.fun_ 16
    d_Plan_turns := c.fun_ 17
    d_Plan_cost := c.fun_ 18
    d_Plan___len__ := c.fun_ 19
    d_Plan___eq__ := c.fun_ 20
    d_is_chance := c.fun_ 21
    g_is_chance := He.glo_ok X G (c.fact (f := bGlo "is_chance") (List.mem_of_getElem? (i := 15) rfl))
    d_check_chances := c.fun_ 22
    g_check_chances := He.glo_ok X G (c.fact (f := bGlo "check_chances") (List.mem_of_getElem? (i := 16) rfl))
    d_with_place := c.fun_ 23
    g_with_place := He.glo_ok X G (c.fact (f := bGlo "with_place") (List.mem_of_getElem? (i := 17) rfl))
    d_rows_of := c.fun_ 24
    g_rows_of := He.glo_ok X G (c.fact (f := bGlo "rows_of") (List.mem_of_getElem? (i := 18) rfl))
    d_standings_of := c.fun_ 25
    g_standings_of := He.glo_ok X G (c.fact (f := bGlo "standings_of") (List.mem_of_getElem? (i := 19) rfl))
    d_walk_to := c.fun_ 26
    g_walk_to := He.glo_ok X G (c.fact (f := bGlo "walk_to") (List.mem_of_getElem? (i := 20) rfl))
    d_plan_to := c.fun_ 27
    g_plan_to := He.glo_ok X G (c.fact (f := bGlo "plan_to") (List.mem_of_getElem? (i := 21) rfl))
    d_most_found := c.fun_ 28
    g_most_found := He.glo_ok X G (c.fact (f := bGlo "most_found") (List.mem_of_getElem? (i := 22) rfl))
    d__law_mix := c.fun_ 29
    g__law_mix := He.glo_ok X G (c.fact (f := bGlo "_law_mix") (List.mem_of_getElem? (i := 23) rfl))
    d__law_next := c.fun_ 30
    g__law_next := He.glo_ok X G (c.fact (f := bGlo "_law_next") (List.mem_of_getElem? (i := 24) rfl))
    d__law_part := c.fun_ 31
    g__law_part := He.glo_ok X G (c.fact (f := bGlo "_law_part") (List.mem_of_getElem? (i := 25) rfl))
    d__law_f := c.fun_ 32
    g__law_f := He.glo_ok X G (c.fact (f := bGlo "_law_f") (List.mem_of_getElem? (i := 26) rfl))
    d__law_add := c.fun_ 33
    g__law_add := He.glo_ok X G (c.fact (f := bGlo "_law_add") (List.mem_of_getElem? (i := 27) rfl))
    d__law_mul := c.fun_ 34
    g__law_mul := He.glo_ok X G (c.fact (f := bGlo "_law_mul") (List.mem_of_getElem? (i := 28) rfl))
    d__law_div := c.fun_ 35
    g__law_div := He.glo_ok X G (c.fact (f := bGlo "_law_div") (List.mem_of_getElem? (i := 29) rfl))
    d__law_under := c.fun_ 36
    g__law_under := He.glo_ok X G (c.fact (f := bGlo "_law_under") (List.mem_of_getElem? (i := 30) rfl))
    d__law_reach := c.fun_ 37
    g__law_reach := He.glo_ok X G (c.fact (f := bGlo "_law_reach") (List.mem_of_getElem? (i := 31) rfl))
    d__law_turns := c.fun_ 38
    g__law_turns := He.glo_ok X G (c.fact (f := bGlo "_law_turns") (List.mem_of_getElem? (i := 32) rfl))
    d__law_plan := c.fun_ 39
    g__law_plan := He.glo_ok X G (c.fact (f := bGlo "_law_plan") (List.mem_of_getElem? (i := 33) rfl))
    d__law_walked := c.fun_ 40
    g__law_walked := He.glo_ok X G (c.fact (f := bGlo "_law_walked") (List.mem_of_getElem? (i := 34) rfl))
    d__law_orders := c.fun_ 41
    g__law_orders := He.glo_ok X G (c.fact (f := bGlo "_law_orders") (List.mem_of_getElem? (i := 35) rfl))
    d__law_chances := c.fun_ 42
    g__law_chances := He.glo_ok X G (c.fact (f := bGlo "_law_chances") (List.mem_of_getElem? (i := 36) rfl))
    d__law_turn := c.fun_ 43
    g__law_turn := He.glo_ok X G (c.fact (f := bGlo "_law_turn") (List.mem_of_getElem? (i := 37) rfl))
    d__law_standings := c.fun_ 44
    g__law_standings := He.glo_ok X G (c.fact (f := bGlo "_law_standings") (List.mem_of_getElem? (i := 38) rfl))
    d__law_least := c.fun_ 45
    g__law_least := He.glo_ok X G (c.fact (f := bGlo "_law_least") (List.mem_of_getElem? (i := 39) rfl))
    d__law_weight := c.fun_ 46
    g__law_weight := He.glo_ok X G (c.fact (f := bGlo "_law_weight") (List.mem_of_getElem? (i := 40) rfl))
    d__law_most := c.fun_ 47
    g__law_most := He.glo_ok X G (c.fact (f := bGlo "_law_most") (List.mem_of_getElem? (i := 41) rfl))
    d__law_far := c.fun_ 48
    g__law_far := He.glo_ok X G (c.fact (f := bGlo "_law_far") (List.mem_of_getElem? (i := 42) rfl))
    d_law := c.fun_ 49
    g_law := He.glo_ok X G (c.fact (f := bGlo "law") (List.mem_of_getElem? (i := 43) rfl))
    c_MOST_FAR := He.int_ok X G (c.fact (f := bInt "MOST_FAR" 1000000) (List.mem_of_getElem? (i := 44) rfl))
    c_MOST_PLACES := He.int_ok X G (c.fact (f := bInt "MOST_PLACES" 8) (List.mem_of_getElem? (i := 45) rfl))
    c_MOST_REACH := He.int_ok X G (c.fact (f := bInt "MOST_REACH" 1000000000000) (List.mem_of_getElem? (i := 46) rfl))
    c_MOST_ROADS := He.int_ok X G (c.fact (f := bInt "MOST_ROADS" 5) (List.mem_of_getElem? (i := 47) rfl))
    c_MOST_TURNS := He.int_ok X G (c.fact (f := bInt "MOST_TURNS" 60) (List.mem_of_getElem? (i := 48) rfl))
    c_MOST_WEIGHT := He.int_ok X G (c.fact (f := bInt "MOST_WEIGHT" 999) (List.mem_of_getElem? (i := 49) rfl))
    g_ZERO := He.glo_ok X G (c.fact (f := bGlo "ZERO") (List.mem_of_getElem? (i := 50) rfl))
    c_ZERO := (bTup_ok (c.fact (f := bTup "ZERO" [.int 0, .int 1]) (List.mem_of_getElem? (i := 51) rfl)))
    z_int := He.free_ok X G (c.fact (f := bFree "int") (List.mem_of_getElem? (i := 52) rfl))
    z_isinstance := He.free_ok X G (c.fact (f := bFree "isinstance") (List.mem_of_getElem? (i := 53) rfl))
    z_bool := He.free_ok X G (c.fact (f := bFree "bool") (List.mem_of_getElem? (i := 54) rfl))
    z_abs := He.free_ok X G (c.fact (f := bFree "abs") (List.mem_of_getElem? (i := 55) rfl))
    z_tuple := He.free_ok X G (c.fact (f := bFree "tuple") (List.mem_of_getElem? (i := 56) rfl))
    z_len := He.free_ok X G (c.fact (f := bFree "len") (List.mem_of_getElem? (i := 57) rfl))
    z_enumerate := He.free_ok X G (c.fact (f := bFree "enumerate") (List.mem_of_getElem? (i := 58) rfl))
    z_range := He.free_ok X G (c.fact (f := bFree "range") (List.mem_of_getElem? (i := 59) rfl))
    z_zip := He.free_ok X G (c.fact (f := bFree "zip") (List.mem_of_getElem? (i := 60) rfl))
    z_sum := He.free_ok X G (c.fact (f := bFree "sum") (List.mem_of_getElem? (i := 61) rfl))
    z_max := He.free_ok X G (c.fact (f := bFree "max") (List.mem_of_getElem? (i := 62) rfl))
    z_list := He.free_ok X G (c.fact (f := bFree "list") (List.mem_of_getElem? (i := 63) rfl))
    z_min := He.free_ok X G (c.fact (f := bFree "min") (List.mem_of_getElem? (i := 64) rfl))
    z_sorted := He.free_ok X G (c.fact (f := bFree "sorted") (List.mem_of_getElem? (i := 65) rfl))
    gc_Plan := (c.fact (f := bGlo "Plan") (List.mem_of_getElem? (i := 66) rfl))
    o_Plan := bOwn_ok X G (c.fact (f := bGlo "Plan") (List.mem_of_getElem? (i := 66) rfl)) (c.fact (f := bOwn "Plan") (List.mem_of_getElem? (i := 67) rfl))
    na_Plan_held := He.noat_ok (c.fact (f := bNoat "Plan" "held") (List.mem_of_getElem? (i := 68) rfl))
    mk_Plan := He.mkr_ok (c.fact (f := bMk "Plan") (List.mem_of_getElem? (i := 69) rfl))
    p_Plan_roads := bProp_ok (c.fact (f := bProp "Plan" "roads") (List.mem_of_getElem? (i := 70) rfl))
    p_Plan_turns := bProp_ok (c.fact (f := bProp "Plan" "turns") (List.mem_of_getElem? (i := 71) rfl))
    p_Plan_cost := bProp_ok (c.fact (f := bProp "Plan" "cost") (List.mem_of_getElem? (i := 72) rfl))
    ln_Plan := meth2 (c.fact (f := bMeth "Plan" "__len__") (List.mem_of_getElem? (i := 73) rfl))
    eq_Plan := meth2 (c.fact (f := bMeth "Plan" "__eq__") (List.mem_of_getElem? (i := 74) rfl))
    nf_Plan := (c.fact (f := bNf "Plan") (List.mem_of_getElem? (i := 75) rfl))
    os := bTwo_ok X G (fun d hd => by
      have h := mem_of_contains hd
      simp only [ownCs, List.mem_cons, List.not_mem_nil, or_false] at h
      subst h; exact bOwn_ok X G (c.fact (f := bGlo "Plan") (List.mem_of_getElem? (i := 66) rfl)) (c.fact (f := bOwn "Plan") (List.mem_of_getElem? (i := 67) rfl))) (c.fact (f := bTwo ownCs) (List.mem_of_getElem? (i := 76) rfl)) }
abbrev RW : PySem.W.OpenRow := PySem.W.OpenLaw.row PySem.Challenge.rw_whichroad_k15_whole_most_in_a_walk
abbrev hkF : PySem.W.Hook := hookT "_law_standings" 6 exF fnF
def obF (s : PySem.W.SharedT) : He.AlD := obsT "_law_standings" 6 exF fnF (HandSHeadRun.getT s)
theorem obF_eq (s : PySem.W.SharedT) : obF s = hkF.obs s.abs := obsT_eq (HandSHeadRun.getT_eq s)
theorem run_of {S A B D : Type} {o : Option S} {f : S → A} {g : S → B} {h : S → D} {a : A} {b : B} {d : D} (p : o.map f = some a) (q : o.map g = some b) (r : o.map h = some d) : o.map (fun s => (f s, g s, h s)) = some (a, b, d) := by
  cases o with
  | none => cases p
  | some s => cases p; cases q; cases r; rfl
abbrev frK (s : PySem.W.SharedT) : PySem.W.Frag := He.frG (HandSHeadRun.getT s) (asT "_law_standings" (HandSHeadRun.getT s) 6)
theorem all_app {S A : Type} {o : Option S} {l m : List A} {p : S → A → Bool} (a : o.map (fun s => l.all (p s)) = some true) (b : o.map (fun s => m.all (p s)) = some true) : o.map (fun s => (l ++ m).all (p s)) = some true := by
  cases o with
  | none => cases a
  | some s => simp only [Option.map_some, Option.some.injEq] at a b ⊢; rw [List.all_append, a, b]; rfl
theorem map_app {S A B : Type} {o : Option S} {l m : List A} {f : S → A → B} {x y : List B} (a : o.map (fun s => l.map (f s)) = some x) (b : o.map (fun s => m.map (f s)) = some y) : o.map (fun s => (l ++ m).map (f s)) = some (x ++ y) := by
  cases o with
  | none => cases a
  | some s => simp only [Option.map_some, Option.some.injEq] at a b ⊢; rw [List.map_append, a, b]
theorem ob_of {o : Option PySem.W.SharedT} {w : World} (t : o.map (fun s => isTab (HandSHeadRun.getT s (tbAt (frK s) "_law_standings"))) = some true) (a : o.map (fun s => exF.all fun f => f (frK s)) = some true) (b : o.map (fun s => fnF.all fun d => d.ok (frK s)) = some true) (c : o.map (fun s => fnF.map fun d => He5.fnA (frK s) (d.at_ (frK s))) = some (fnF.map He5.DefA.val)) : o.map obF = some (hkF.val w) := by
  cases o with
  | none => cases a
  | some s =>
    simp only [Option.map_some, Option.some.injEq] at t a b c ⊢
    have e : obF s = (isTab (HandSHeadRun.getT s (tbAt (frK s) "_law_standings")) && ((exF.all fun f => f (frK s)) && fnF.all fun d => d.ok (frK s)), fnF.map fun d => He5.fnA (frK s) (d.at_ (frK s))) := rfl
    rw [e, t, a, b, c]; rfl
end WR
section
open PySem PySem.W PySem.Calls PyProof.Rows HandSHeadRun WR
theorem WR.run1 (w : World) (os : OsState) : (endF (stepQ (denQ tabQ) RW.prog w) 12000 RW.prog w os).map (fun s => looksF RW.prog (boot_heap w.params) s.abs) = some true := by
  kernel_rfl
theorem WR.run2 (w : World) (os : OsState) : (endF (stepQ (denQ tabQ) RW.prog w) 12000 RW.prog w os).map (fun s => seenQ (view RW.prog [63]) looseF (importedModules RW.prog.main.body) (fun s => xlAt (view RW.prog [63]) [] s && recOk RW.toRowW.records s) s.abs) = some (openGood (view RW.prog [63]) looseF) := by
  kernel_rfl
theorem WR.run_xe0 (w : World) (os : OsState) : (endF (stepQ (denQ tabQ) RW.prog w) 12000 RW.prog w os).map (fun s => exF0.all fun f => f (frK s)) = some true := by
  kernel_rfl
theorem WR.run_fa0 (w : World) (os : OsState) : (endF (stepQ (denQ tabQ) RW.prog w) 12000 RW.prog w os).map (fun s => fnF0.all fun d => d.ok (frK s)) = some true := by
  kernel_rfl
theorem WR.run_fm0 (w : World) (os : OsState) : (endF (stepQ (denQ tabQ) RW.prog w) 12000 RW.prog w os).map (fun s => fnF0.map fun d => He5.fnA (frK s) (d.at_ (frK s))) = some (fnF0.map He5.DefA.val) := by
  kernel_rfl
theorem WR.run_tb (w : World) (os : OsState) : (endF (stepQ (denQ tabQ) RW.prog w) 12000 RW.prog w os).map (fun s => isTab (getT s (tbAt (frK s) "_law_standings"))) = some true := by
  kernel_rfl
theorem WR.run3 (w : World) (os : OsState) : (endF (stepQ (denQ tabQ) RW.prog w) 12000 RW.prog w os).map obF = some (hkF.val w) := ob_of (run_tb w os) (run_xe0 w os) (run_fa0 w os) ((run_fm0 w os).trans (congrArg some (by simp only [fnF, List.map_append])))
theorem WR.runF (w : World) : RunEq RW (view RW.prog [63]) hkF obF 12000 looseF w := fun os => run_of (run1 w os) (run2 w os) (run3 w os)
end

open PySem PySem.W PySem.Calls PyProof.Rows
set_option maxHeartbeats 0 in
theorem PySem.Challenge.cw_whichroad_k15_whole_most_in_a_walk_holds : PySem.Challenge.rw_whichroad_k15_whole_most_in_a_walk.Holds := by
  w_on; o_law
  refine HandSHeadRun.head_any (r := OpenLaw.row PySem.Challenge.rw_whichroad_k15_whole_most_in_a_walk) (q := view (OpenLaw.row PySem.Challenge.rw_whichroad_k15_whole_most_in_a_walk).prog [63]) (H := WR.hkF) (ob := WR.obF) (M := 12000) (loose := WR.looseF) (d := HandSHeadRun.topDef (OpenLaw.row PySem.Challenge.rw_whichroad_k15_whole_most_in_a_walk).prog 63) (kwd := []) WR.obF_eq
    (by kernel_rfl) (fun s => by kernel_rfl) WR.runF (by kernel_rfl) (by kernel_rfl) (by kernel_rfl) (by rfl) (by first | assumption | decide +kernel) (by decide +kernel) ⟨rfl, rfl, rfl, rfl, rfl, by decide +kernel⟩ ?hw ?hc
  case hw => w_witness2
  case hc =>
    refine WR.walk_T (y := "_law_standings") (l := PySem.Challenge.rw_whichroad_k15_whole_most_in_a_walk) (k := 11) (x := "_law_script") (F := WR.f_law) rfl (by kernel_rfl) ⟨rfl, by decide, by decide⟩ ?F WR.law_true
    intro w mg fa h Y G hmg0
    obtain ⟨K, KX, c, tb⟩ := Y
    have T := WR.txt_of KX G c
    have hmg : mg ("law" : PySem.Str) = some (.ref fa) := by
      have e : (HandSHeadRun.topDef (OpenLaw.row PySem.Challenge.rw_whichroad_k15_whole_most_in_a_walk).prog 63).name = ("law" : PySem.Str) := by kernel_rfl
      rw [← e]
      exact hmg0
    obtain ⟨fd, F⟩ := T.d_law
    have e := hmg.symm.trans T.g_law
    cases e
    exact ⟨K, fd, KX, c.fact (f := WR.bTab "_law_standings") (by unfold WR.exF; simp [WR.exF0]), tb, fun s v => WR.fun_bA (ps := ["_law_script"]) F (fun _ _ _ _ _ _ us hl => match us, hl with | [_], _ => rfl) s [v] rfl, fun base _ _ B => WR.ok_law T B F⟩


