import PyProof.Rows.All
import Wide.All
import OpenK.AllK
import Wide.FinOn
import PyProof.EqAt
import PyProof.EqKinds
import PyProof.TupleCall
import HandS.ForMost
import HandS.ForExc
import HandS.Wide
import HandS.WideBits
import HandS.TupAny
import HandS.TupMul
import HandS.IsInst
import HandS.Property
import HandS.OwnEq
import HandS.Deep
import HandS.Zip
import HandS.CallSlots
import HandS.Flow
import KE.GoesEnum
import KE.GoesMore
import KE.GoesZip
import KE.KStateDown
import HandS.More
import HandS.Defaults
import HandS.Head0
import HandS.Head1
import HandS.Head2
import HandS.HeadEnd
import HandS.HeadHook1
import HandS.HeadHook2
import HandS.HeadNt
import HandS.Comp
import HandS.Style
import HandS.SetFor
import HandS.Dict
import HandS.TupLe
import PyProof.ListMulRoad
import PyProof.FactsAll.tuple_2
import HandS.TryMany
import HandS.Small
import HandS.Remove
import KE.DataFind
import PySem.Challenge.RW_whichroad_k05_whole_teams
set_option Elab.async false
set_option linter.all false
set_option maxRecDepth 100000
set_option maxHeartbeats 1000000
/-! the functional reading: values, heaps, results; how they stand in the layer's abstract heap -/
namespace WR
open PySem PySem.Spec PyProof.Rows L2

/-- a value; lists, dicts, instances are objects of the small heap; fls: a list that is only read (the script) -/
inductive PV where
  | non | bl (b : Bool) | int (i : Int) | str (x : Str) | tup (xs : List PV) | fls (xs : List PV) | obj (n : Nat) | glo (x : Str) | ty (n : String) | key (ks : List Int)
inductive MO where
  | lst (xs : List PV)
  | ins (c : Str) (fs : List (Str × PV))
  | dct (kvs : List (List Int × PV))
abbrev IH := List MO
abbrev Fm := List (Option PV)
/-- an exception: its class's name, its own fields -/
structure XV where
  cls : Str
  fs : List (Str × PV)
inductive Res (α : Type) where
  | ok (a : α) (h : IH)
  | ex (x : XV) (h : IH)
  | bad
def Res.bind {α β : Type} (r : Res α) (f : α → IH → Res β) : Res β := match r with
  | .ok a h => f a h
  | .ex x h => .ex x h
  | .bad => .bad
@[simp] theorem bind_ok {α β : Type} (a : α) (h : IH) (f : α → IH → Res β) : (Res.ok a h).bind f = f a h := rfl
@[simp] theorem bind_ex {α β : Type} (x : XV) (h : IH) (f : α → IH → Res β) : (Res.ex x h : Res α).bind f = .ex x h := rfl
@[simp] theorem bind_bad {α β : Type} (f : α → IH → Res β) : (Res.bad : Res α).bind f = .bad := rfl
abbrev EX := Fm → IH → Res PV
abbrev TX := Fm → IH → Res Bool
abbrev AX := Fm → IH → Res (List PV)
inductive RS where
  | nx (r : Fm) (h : IH)
  | rt (v : PV) (h : IH)
  | bk (r : Fm) (h : IH)
  | ct (r : Fm) (h : IH)
  | ex (x : XV) (r : Fm) (h : IH)
  | bad
abbrev SX := Fm → IH → RS

/-! ### how a value stands -/
/-- a list that is read only -/
def SqF (K : PySem.W.Frag) (H : Hp) (a : Addr) (ys : List V) : Prop := (∃ o, H a = some (.frz o (.lst ys))) ∨
    ∃ (o : Obj) (its : Array Value) (n : Nat), K.lookup a = some o ∧ o.cls = .type "list" ∧ o.dict = none ∧ o.data = .seq its n ∧ its.size ≤ sizeLine ∧ Vals ys its.toList
theorem SqF.sq {K : PySem.W.Frag} {H : Hp} {a : Addr} {ys : List V} (h : SqF K H a ys) : SqL K H a ys := by
  rcases h with ⟨o, h⟩ | h
  · exact .inl (.inr ⟨o, h⟩)
  · exact .inr h
mutual
inductive RP (K : PySem.W.Frag) (mg : Str → Option Value) (H : Hp) (as : List Addr) : PV → V → Prop
  | non : RP K mg H as .non .non
  | bl (b : Bool) : RP K mg H as (.bl b) (.bl b)
  | int (i : Int) : RP K mg H as (.int i) (.int i)
  | str (x : Str) : RP K mg H as (.str x) (.str x)
  | tup {xs : List PV} {a : Addr} {ys : List V} : SqT K H a ys → RPs K mg H as xs ys → RP K mg H as (.tup xs) (.ref a)
  | fls {xs : List PV} {a : Addr} {ys : List V} : SqF K H a ys → RPs K mg H as xs ys → RP K mg H as (.fls xs) (.ref a)
  | obj {n : Nat} {a : Addr} : as[n]? = some a → RP K mg H as (.obj n) (.ref a)
  | glo {x : Str} {u : Value} {v : V} : mg x = some u → RelV v u → RP K mg H as (.glo x) v
  | ty (n : String) : RP K mg H as (.ty n) (.ty n)
  | key {ks : List Int} {a : Addr} : H a = some (.tup (ks.map V.int)) → RP K mg H as (.key ks) (.ref a)
inductive RPs (K : PySem.W.Frag) (mg : Str → Option Value) (H : Hp) (as : List Addr) : List PV → List V → Prop
  | nil : RPs K mg H as [] []
  | cons {p : PV} {ps : List PV} {v : V} {vs : List V} : RP K mg H as p v → RPs K mg H as ps vs → RPs K mg H as (p :: ps) (v :: vs)
end
/-- what a step of the code leaves -/
structure Stp (as : List Addr) (H : Hp) (as' : List Addr) (H' : Hp) : Prop where
  pre : ∃ more, as' = as ++ more ∧ ∀ b ∈ more, H b = none
  tup : ∀ b ys, H b = some (.tup ys) → H' b = some (.tup ys)
  frz : ∀ b o u, H b = some (.frz o u) → H' b = some (.frz o u)
  oth : ∀ b o, H b = some o → b ∉ as → H' b = some o
  liv : ∀ b, H b ≠ none → H' b ≠ none
theorem Stp.refl (as : List Addr) (H : Hp) : Stp as H as H := ⟨⟨[], by simp, by simp⟩, fun _ _ h => h, fun _ _ _ h => h, fun _ _ h _ => h, fun _ h => h⟩
theorem Stp.trans {as as1 as2 : List Addr} {H H1 H2 : Hp} (a : Stp as H as1 H1) (b : Stp as1 H1 as2 H2) : Stp as H as2 H2 := by
  obtain ⟨m1, e1, f1⟩ := a.pre
  obtain ⟨m2, e2, f2⟩ := b.pre
  refine ⟨⟨m1 ++ m2, by rw [e2, e1, List.append_assoc], fun c hc => ?_⟩, fun c ys h => b.tup c ys (a.tup c ys h), fun c o u h => b.frz c o u (a.frz c o u h), fun c o h hc => b.oth c o (a.oth c o h hc) fun z => ?_, fun c h => b.liv c (a.liv c h)⟩
  · rcases List.mem_append.mp hc with h | h
    · exact f1 c h
    · cases q : H c with
      | none => rfl
      | some o => exact absurd (f2 c h) (a.liv c (by rw [q]; simp))
  · rw [e1] at z
    rcases List.mem_append.mp z with z | z
    · exact hc z
    · rw [f1 c z] at h; cases h
theorem Stp.get {as as' : List Addr} {H H' : Hp} (s : Stp as H as' H') {n : Nat} {a : Addr} (h : as[n]? = some a) : as'[n]? = some a := by
  obtain ⟨m, e, _⟩ := s.pre
  rw [e, List.getElem?_append_left (List.getElem?_eq_some_iff.mp h).1]
  exact h
section
variable {K : PySem.W.Frag} {mg : Str → Option Value} {as as' : List Addr} {H H' : Hp}
theorem Stp.sqT (s : Stp as H as' H') {a : Addr} {ys : List V} (h : SqT K H a ys) : SqT K H' a ys := by
  rcases h with (h | ⟨o, h⟩) | h
  · exact .inl (.inl (s.tup _ _ h))
  · exact .inl (.inr ⟨o, s.frz _ _ _ h⟩)
  · exact .inr h
theorem Stp.sqF (s : Stp as H as' H') {a : Addr} {ys : List V} (h : SqF K H a ys) : SqF K H' a ys := by
  rcases h with ⟨o, h⟩ | h
  · exact .inl ⟨o, s.frz _ _ _ h⟩
  · exact .inr h
mutual
theorem RP.mono (s : Stp as H as' H') : ∀ {p : PV} {v : V}, RP K mg H as p v → RP K mg H' as' p v
  | _, _, .non => .non
  | _, _, .bl b => .bl b
  | _, _, .int i => .int i
  | _, _, .str x => .str x
  | _, _, .tup h r => .tup (s.sqT h) (RPs.mono s r)
  | _, _, .fls h r => .fls (s.sqF h) (RPs.mono s r)
  | _, _, .obj h => .obj (s.get h)
  | _, _, .glo h r => .glo h r
  | _, _, .ty n => .ty n
  | _, _, .key h => .key (s.tup _ _ h)
theorem RPs.mono (s : Stp as H as' H') : ∀ {ps : List PV} {vs : List V}, RPs K mg H as ps vs → RPs K mg H' as' ps vs
  | _, _, .nil => .nil
  | _, _, .cons h t => .cons (RP.mono s h) (RPs.mono s t)
end
theorem RPs.length : ∀ {ps : List PV} {vs : List V}, RPs K mg H as ps vs → ps.length = vs.length
  | _, _, .nil => rfl
  | _, _, .cons _ t => by rw [List.length_cons, List.length_cons, RPs.length t]
theorem RPs.get : ∀ {ps : List PV} {vs : List V} {i : Nat} {p : PV}, RPs K mg H as ps vs → ps[i]? = some p → ∃ v, vs[i]? = some v ∧ RP K mg H as p v
  | _, _, _, _, .nil, e => by simp at e
  | _, _, 0, _, .cons r _, e => by simp at e; subst e; exact ⟨_, rfl, r⟩
  | _, _, i + 1, p, .cons _ t, e => by
    obtain ⟨v, h1, h2⟩ := RPs.get (i := i) (p := p) t (by simpa using e)
    exact ⟨v, by simpa using h1, h2⟩
theorem RPs.append : ∀ {xs ys : List PV} {us ws : List V}, RPs K mg H as xs us → RPs K mg H as ys ws → RPs K mg H as (xs ++ ys) (us ++ ws)
  | _, _, _, _, .nil, s => s
  | _, _, _, _, .cons r t, s => .cons r (RPs.append t s)
theorem RPs.take : ∀ {xs : List PV} {us : List V} (n : Nat), RPs K mg H as xs us → RPs K mg H as (xs.take n) (us.take n)
  | _, _, 0, _ => .nil
  | _, _, _ + 1, .nil => .nil
  | _, _, n + 1, .cons r t => .cons r (RPs.take n t)
theorem RPs.drop : ∀ {xs : List PV} {us : List V} (n : Nat), RPs K mg H as xs us → RPs K mg H as (xs.drop n) (us.drop n)
  | _, _, 0, r => r
  | _, _, _ + 1, .nil => .nil
  | _, _, n + 1, .cons _ t => RPs.drop n t
theorem RPs.set {x : PV} {u : V} (r : RP K mg H as x u) : ∀ {xs : List PV} {us : List V} (i : Nat), RPs K mg H as xs us → RPs K mg H as (xs.set i x) (us.set i u)
  | _, _, _, .nil => .nil
  | _, _, 0, .cons _ t => .cons r t
  | _, _, i + 1, .cons q t => .cons q (RPs.set r i t)
theorem RPs.one {p : PV} {v : V} (h : RP K mg H as p v) : RPs K mg H as [p] [v] := .cons h .nil
theorem RPs.inv1 {p : PV} {vs : List V} (h : RPs K mg H as [p] vs) : ∃ v, vs = [v] ∧ RP K mg H as p v := by
  cases h with | cons a b => cases b; exact ⟨_, rfl, a⟩
theorem RPs.inv2 {p q : PV} {vs : List V} (h : RPs K mg H as [p, q] vs) : ∃ v w, vs = [v, w] ∧ RP K mg H as p v ∧ RP K mg H as q w := by
  cases h with | cons a b => cases b with | cons b c => cases c; exact ⟨_, _, rfl, a, b⟩
theorem RPs.reverse {xs : List PV} {us : List V} (h : RPs K mg H as xs us) : RPs K mg H as xs.reverse us.reverse := by
  induction xs generalizing us with
  | nil => cases h; exact .nil
  | cons x r ih =>
    cases h with
    | cons a b =>
      rw [List.reverse_cons, List.reverse_cons]
      exact (ih b).append (.one a)
end

/-! ### how the small heap stands -/
def RO (K : PySem.W.Frag) (mg : Str → Option Value) (H : Hp) (as : List Addr) (a : Addr) : MO → Prop
  | .lst xs => ∃ ys, H a = some (.lst ys) ∧ RPs K mg H as xs ys
  | .ins c fs => ∃ C dx gs, mg c = some (.ref C) ∧ H a = some (.ins C dx gs) ∧ gs.map (·.1) = fs.map (·.1) ∧ RPs K mg H as (fs.map (·.2)) (gs.map (·.2))
  | .dct kvs => ∃ gs, H a = some (.dT gs) ∧ gs.map (·.1) = kvs.map (fun q => q.1.map (Sum.inl : Int → Key)) ∧ RPs K mg H as (kvs.map (·.2)) (gs.map (·.2))
structure RH (K : PySem.W.Frag) (mg : Str → Option Value) (H : Hp) (as : List Addr) (h : IH) : Prop where
  len : as.length = h.length
  nd : as.Nodup
  at_ : ∀ (n : Nat) (o : MO), h[n]? = some o → ∃ a, as[n]? = some a ∧ RO K mg H as a o
structure RF (K : PySem.W.Frag) (mg : Str → Option Value) (H : Hp) (as : List Addr) (r : Fm) (s : L2.St) : Prop where
  len : r.length = s.length
  at_ : ∀ (i : Nat) (p : PV), r[i]? = some (some p) → ∃ v, s[i]? = some (some v) ∧ RP K mg H as p v
section
variable {K : PySem.W.Frag} {mg : Str → Option Value} {as as' : List Addr} {H H' : Hp} {h : IH} {r : Fm} {s : L2.St}
theorem RF.mono (S : Stp as H as' H') (f : RF K mg H as r s) : RF K mg H' as' r s := ⟨f.len, fun i p e => by
  obtain ⟨v, h1, h2⟩ := f.at_ i p e
  exact ⟨v, h1, h2.mono S⟩⟩
theorem RF.set {i : Nat} {p : PV} {v : V} (f : RF K mg H as r s) (hp : RP K mg H as p v) : RF K mg H as (r.set i (some p)) (s.set i (some v)) := by
  refine ⟨by simp [f.len], fun j q e => ?_⟩
  by_cases hj : j = i
  · subst hj
    by_cases hl : j < r.length
    · rw [List.getElem?_set_self hl] at e
      cases e
      exact ⟨v, List.getElem?_set_self (by rw [← f.len]; exact hl), hp⟩
    · rw [List.getElem?_eq_none (by simpa using hl)] at e; cases e
  · rw [List.getElem?_set_ne (Ne.symm hj)] at e
    rw [List.getElem?_set_ne (Ne.symm hj)]
    exact f.at_ j q e
theorem RO.isS {a : Addr} {o : MO} (x : RO K mg H as a o) : ∃ u, H a = some u := by
  cases o with
  | lst xs => obtain ⟨ys, e, _⟩ := x; exact ⟨_, e⟩
  | ins c fs => obtain ⟨C, dx, gs, _, e, _⟩ := x; exact ⟨_, e⟩
  | dct kvs => obtain ⟨gs, e, _⟩ := x; exact ⟨_, e⟩
theorem RH.mem (x : RH K mg H as h) {a : Addr} (ha : a ∈ as) : H a ≠ none := by
  obtain ⟨n, hn, e⟩ := List.getElem_of_mem ha
  have hn' : n < h.length := by rw [← x.len]; exact hn
  obtain ⟨b, h1, h2⟩ := x.at_ n h[n] (by simp [hn'])
  rw [List.getElem?_eq_getElem hn] at h1
  have e2 : b = a := by rw [← e]; exact (Option.some.inj h1).symm
  subst e2
  obtain ⟨u, q⟩ := h2.isS
  rw [q]; simp
theorem RO.mono {a : Addr} {o : MO} (S : Stp as H as' H') (e : H' a = H a) (x : RO K mg H as a o) : RO K mg H' as' a o := by
  cases o with
  | lst xs => obtain ⟨ys, e1, r⟩ := x; exact ⟨ys, e.trans e1, r.mono S⟩
  | ins c fs => obtain ⟨C, dx, gs, e0, e1, e2, r⟩ := x; exact ⟨C, dx, gs, e0, e.trans e1, e2, r.mono S⟩
  | dct kvs => obtain ⟨gs, e1, e2, r⟩ := x; exact ⟨gs, e.trans e1, e2, r.mono S⟩
/-- something that is no object of ours is laid -/
theorem Stp.lay {p : Addr} {o : HO} (x : RH K mg H as h) (n : H p = none) : Stp as H as (upd H p o) :=
  ⟨⟨[], by simp, by simp⟩, fun b ys e => by rw [upd_ne (ne_of_none e n)]; exact e, fun b u v e => by rw [upd_ne (ne_of_none e n)]; exact e, fun b u e _ => by rw [upd_ne (ne_of_none e n)]; exact e, fun b e z => by
    by_cases hb : b = p
    · subst hb; exact e n
    · rw [upd_ne hb] at z; exact e z⟩
theorem RH.lay {p : Addr} {o : HO} (x : RH K mg H as h) (n : H p = none) : RH K mg (upd H p o) as h :=
  ⟨x.len, x.nd, fun m q e => by
    obtain ⟨a, h1, h2⟩ := x.at_ m q e
    obtain ⟨u, hu⟩ := h2.isS
    exact ⟨a, h1, h2.mono (Stp.lay x n) (upd_ne (ne_of_none hu n))⟩⟩
/-- a new object of ours -/
theorem Stp.new {p : Addr} {o : HO} (x : RH K mg H as h) (n : H p = none) : Stp as H (as ++ [p]) (upd H p o) := by
  have q := Stp.lay (o := o) x n
  exact ⟨⟨[p], rfl, fun b hb => by rw [List.mem_singleton.mp hb]; exact n⟩, q.tup, q.frz, q.oth, q.liv⟩
theorem RH.new {p : Addr} {o : HO} {m : MO} (x : RH K mg H as h) (n : H p = none) (hm : RO K mg (upd H p o) (as ++ [p]) p m) : RH K mg (upd H p o) (as ++ [p]) (h ++ [m]) := by
  refine ⟨by simp [x.len], ?_, fun k q e => ?_⟩
  · rw [List.nodup_append]
    refine ⟨x.nd, by simp, fun a ha b hb => ?_⟩
    rw [List.mem_singleton.mp hb]
    exact fun z => x.mem ha (by rw [z]; exact n)
  · by_cases hk : k < h.length
    · rw [List.getElem?_append_left hk] at e
      obtain ⟨a, h1, h2⟩ := x.at_ k q e
      obtain ⟨u, hu⟩ := h2.isS
      exact ⟨a, (Stp.new (o := o) x n).get h1, h2.mono (Stp.new x n) (upd_ne (ne_of_none hu n))⟩
    · rw [List.getElem?_append_right (by omega)] at e
      have e0 : k - h.length = 0 := by
        cases z : k - h.length with
        | zero => rfl
        | succ y => rw [z] at e; simp at e
      rw [e0] at e
      cases e
      refine ⟨p, ?_, hm⟩
      rw [List.getElem?_append_right (by rw [x.len]; omega), x.len, e0]
      rfl
/-- an object of ours is changed -/
def isMut : HO → Bool
  | .lst _ => true
  | .ins _ _ _ => true
  | .dT _ => true
  | _ => false
theorem RO.isM {a : Addr} {o : MO} (x : RO K mg H as a o) : ∃ u, H a = some u ∧ isMut u = true := by
  cases o with
  | lst xs => obtain ⟨ys, e, _⟩ := x; exact ⟨_, e, rfl⟩
  | ins c fs => obtain ⟨C, dx, gs, _, e, _⟩ := x; exact ⟨_, e, rfl⟩
  | dct kvs => obtain ⟨gs, e, _⟩ := x; exact ⟨_, e, rfl⟩
theorem Stp.put {n : Nat} {a : Addr} {o : HO} {q : MO} (x : RH K mg H as h) (ha : as[n]? = some a) (hq : h[n]? = some q) : Stp as H as (upd H a o) := by
  obtain ⟨b, h1, h2⟩ := x.at_ n q hq
  rw [ha] at h1; cases h1
  obtain ⟨u, hu, hm⟩ := h2.isM
  refine ⟨⟨[], by simp, by simp⟩, fun b ys e => ?_, fun b v w e => ?_, fun b v e hb => ?_, fun b e z => ?_⟩
  · rw [upd_ne (fun z => by rw [z, hu] at e; cases e; cases hm)]; exact e
  · rw [upd_ne (fun z => by rw [z, hu] at e; cases e; cases hm)]; exact e
  · rw [upd_ne (fun z => hb (by rw [z]; exact List.mem_of_getElem? ha))]; exact e
  · by_cases hb : b = a
    · subst hb; rw [upd_same] at z; cases z
    · rw [upd_ne hb] at z; exact e z
theorem RH.put {n : Nat} {a : Addr} {o : HO} {q m : MO} (x : RH K mg H as h) (ha : as[n]? = some a) (hq : h[n]? = some q) (hm : RO K mg (upd H a o) as a m) : RH K mg (upd H a o) as (h.set n m) := by
  refine ⟨by simp [x.len], x.nd, fun k p e => ?_⟩
  by_cases hk : k = n
  · subst hk
    have hl : k < h.length := (List.getElem?_eq_some_iff.mp hq).1
    rw [List.getElem?_set_self hl] at e
    cases e
    exact ⟨a, ha, hm⟩
  · rw [List.getElem?_set_ne (Ne.symm hk)] at e
    obtain ⟨b, h1, h2⟩ := x.at_ k p e
    have hne : b ≠ a := fun z => by
      subst z
      obtain ⟨l1, e1⟩ := List.getElem?_eq_some_iff.mp h1
      obtain ⟨l2, e2⟩ := List.getElem?_eq_some_iff.mp ha
      exact hk ((List.getElem_inj x.nd).mp (e1.trans e2.symm))
    exact ⟨b, h1, h2.mono (Stp.put x ha hq) (upd_ne hne)⟩
end
end WR

/-! the readings that the functional code gives, and the rules: statements, loops, names, calls -/
namespace WR
open PySem PySem.Spec PyProof.Rows L2

/-- how an exception stands -/
def RX (K : PySem.W.Frag) (mg : Str → Option Value) (H : Hp) (as : List Addr) (x : XV) (cls : Value) (d : Option Addr) : Prop :=
  ∃ C, mg x.cls = some (.ref C) ∧ cls = .ref C ∧ (x.fs = [] ∨ ∃ dd gs, d = some dd ∧ H dd = some (.xd gs) ∧ dd ∉ as ∧ gs.map (·.1) = x.fs.map (·.1) ∧ RPs K mg H as (x.fs.map (·.2)) (gs.map (·.2)))
def Out {α β : Type} (K : PySem.W.Frag) (mg : Str → Option Value) (R : Hp → List Addr → α → β → Prop) (W : WX) (s : L2.St) (as : List Addr) (H : Hp) (Q : β → Hp → Prop) : Res α → Prop
  | .ok a h' => ∀ b H' as', Stp as H as' H' → RH K mg H' as' h' → R H' as' a b → Q b H'
  | .ex x h' => ∀ cls d H' as', Stp as H as' H' → RH K mg H' as' h' → RX K mg H' as' x cls d → W cls d s H'
  | .bad => False
section
variable {α β γ δ : Type} {K : PySem.W.Frag} {mg : Str → Option Value} {R : Hp → List Addr → α → β → Prop} {R' : Hp → List Addr → γ → δ → Prop} {W : WX} {s : L2.St} {as as' : List Addr} {H H' : Hp} {Q Q' : β → Hp → Prop}
theorem Out.shift {r : Res α} (S : Stp as H as' H') (o : Out K mg R W s as H Q r) : Out K mg R W s as' H' Q r := by
  cases r with
  | ok a h => exact fun b H1 as1 S1 R1 r1 => o b H1 as1 (S.trans S1) R1 r1
  | ex x h => exact fun c d H1 as1 S1 R1 r1 => o c d H1 as1 (S.trans S1) R1 r1
  | bad => exact o
theorem Out.imp {r : Res α} (o : Out K mg R W s as H Q r) (h : ∀ b H', Q b H' → Q' b H') : Out K mg R W s as H Q' r := by
  cases r with
  | ok a h' => exact fun b H1 as1 S1 R1 r1 => h _ _ (o b H1 as1 S1 R1 r1)
  | ex x h' => exact o
  | bad => exact o
theorem Out.bind {Q : δ → Hp → Prop} {r : Res α} {f : α → IH → Res γ} (o : Out K mg R' W s as H Q (r.bind f)) :
    Out K mg R W s as H (fun b H1 => ∃ as1 h1 a, Stp as H as1 H1 ∧ RH K mg H1 as1 h1 ∧ R H1 as1 a b ∧ Out K mg R' W s as1 H1 Q (f a h1)) r := by
  cases r with
  | ok a h => exact fun b H1 as1 S1 R1 r1 => ⟨as1, h, a, S1, R1, r1, o.shift S1⟩
  | ex x h => exact o
  | bad => exact o
theorem Out.here {a : α} {b : β} {h : IH} (o : Out K mg R W s as H Q (.ok a h)) (x : RH K mg H as h) (r : R H as a b) : Q b H := o b H as (Stp.refl as H) x r
end
/-- the reading of an expression, a test, a list of arguments, an iterator: by its functional code -/
def IG {α β : Type} (K : PySem.W.Frag) (mg : Str → Option Value) (R : Hp → List Addr → α → β → Prop) (W : WX) (A : Fm → IH → Res α) : L2.St → Hp → (β → Hp → Prop) → Prop :=
  fun s H Q => ∃ as r h, RF K mg H as r s ∧ RH K mg H as h ∧ Out K mg R W s as H Q (A r h)
abbrev IE (K : PySem.W.Frag) (mg : Str → Option Value) (W : WX) (A : EX) : TE := IG K mg (fun H as p v => RP K mg H as p v) W A
abbrev IT (K : PySem.W.Frag) (mg : Str → Option Value) (W : WX) (A : TX) : TT := IG K mg (fun _ _ p v => p = v) W A
abbrev IA (K : PySem.W.Frag) (mg : Str → Option Value) (W : WX) (A : AX) : TA := IG K mg (fun H as p v => RPs K mg H as p v) W A
def OutS (K : PySem.W.Frag) (mg : Str → Option Value) (W : WX) (as : List Addr) (H : Hp) (D : Ends) : RS → Prop
  | .nx r h => ∀ s' H' as', Stp as H as' H' → RH K mg H' as' h → RF K mg H' as' r s' → D.nx s' H'
  | .rt v h => ∀ V H' as', Stp as H as' H' → RH K mg H' as' h → RP K mg H' as' v V → D.rt V H'
  | .bk r h => ∀ s' H' as', Stp as H as' H' → RH K mg H' as' h → RF K mg H' as' r s' → D.bk s' H'
  | .ct r h => ∀ s' H' as', Stp as H as' H' → RH K mg H' as' h → RF K mg H' as' r s' → D.ct s' H'
  | .ex x r h => ∀ cls d s' H' as', Stp as H as' H' → RH K mg H' as' h → RF K mg H' as' r s' → RX K mg H' as' x cls d → W cls d s' H'
  | .bad => False
def IS (K : PySem.W.Frag) (mg : Str → Option Value) (W : WX) (B : SX) : TS := fun D s H => ∃ as r h, RF K mg H as r s ∧ RH K mg H as h ∧ OutS K mg W as H D (B r h)
section
variable {K : PySem.W.Frag} {mg : Str → Option Value} {W : WX} {as as' : List Addr} {H H' : Hp} {D D' : Ends}
theorem OutS.shift {r : RS} (S : Stp as H as' H') (o : OutS K mg W as H D r) : OutS K mg W as' H' D r := by
  cases r with
  | nx r h => exact fun b H1 as1 S1 => o b H1 as1 (S.trans S1)
  | rt r h => exact fun b H1 as1 S1 => o b H1 as1 (S.trans S1)
  | bk r h => exact fun b H1 as1 S1 => o b H1 as1 (S.trans S1)
  | ct r h => exact fun b H1 as1 S1 => o b H1 as1 (S.trans S1)
  | ex x r h => exact fun c d s H1 as1 S1 => o c d s H1 as1 (S.trans S1)
  | bad => exact o
end
/-! ### the code -/
@[simp] def eVar (i : Nat) : EX := fun r h => match r[i]? with
  | some (some v) => .ok v h
  | _ => .bad
@[simp] def eC (v : PV) : EX := fun _ h => .ok v h
@[simp] def aNil : AX := fun _ h => .ok [] h
@[simp] def aCons (A : EX) (B : AX) : AX := fun r h => (A r h).bind fun x h1 => (B r h1).bind fun xs h2 => .ok (x :: xs) h2
@[simp] def sNil : SX := fun r h => .nx r h
@[simp] def sSeq (B C : SX) : SX := fun r h => match B r h with
  | .nx r1 h1 => C r1 h1
  | o => o
/-- an expression's end as a statement's -/
@[simp] def toS {α : Type} (o : Res α) (r : Fm) (k : α → IH → RS) : RS := match o with
  | .ok a h => k a h
  | .ex x h => .ex x r h
  | .bad => .bad
@[simp] def sSet (i : Nat) (A : EX) : SX := fun r h => toS (A r h) r fun v h1 => .nx (r.set i (some v)) h1
@[simp] def sPar (i j : Nat) (A : AX) : SX := fun r h => toS (A r h) r fun vs h1 => match vs with
  | [v, w] => .nx ((r.set i (some v)).set j (some w)) h1
  | _ => .bad
@[simp] def sExpr (A : EX) : SX := fun r h => toS (A r h) r fun _ h1 => .nx r h1
@[simp] def sRet (A : EX) : SX := fun r h => toS (A r h) r fun v h1 => .rt v h1
@[simp] def sIf (c : TX) (B C : SX) : SX := fun r h => toS (c r h) r fun b h1 => if b then B r h1 else C r h1
@[simp] def sBad : SX := fun _ _ => .bad
@[simp] def sBreak : SX := fun r h => .bk r h
/-- a function: its body over the arguments and n empty places -/
@[simp] def fn (ps n : Nat) (B : SX) : List PV → IH → Res PV := fun us h => if us.length = ps then (match B (us.map some ++ List.replicate n none) h with
  | .nx _ h1 => .ok .non h1
  | .rt v h1 => .ok v h1
  | .ex x _ h1 => .ex x h1
  | _ => .bad) else .bad
@[simp] def eCall (F : List PV → IH → Res PV) (A : AX) : EX := fun r h => (A r h).bind F
def whileL (c : TX) (B : SX) : Nat → SX
  | 0 => fun _ _ => .bad
  | n + 1 => fun r h => toS (c r h) r fun b h1 => if b then (match B r h1 with
    | .nx r2 h2 => whileL c B n r2 h2
    | .ct r2 h2 => whileL c B n r2 h2
    | .bk r2 h2 => .nx r2 h2
    | o => o) else .nx r h1
/-- what a loop walks: at turn i it yields, it stops, or we do not know -/
abbrev ItF := Nat → IH → Option (Option PV)
abbrev TgF := PV → Fm → Option Fm
def forL (it : ItF) (g : TgF) (B : SX) : Nat → Nat → SX
  | 0, _ => fun _ _ => .bad
  | n + 1, i => fun r h => match it i h with
    | none => .bad
    | some none => .nx r h
    | some (some v) => (match g v r with
      | none => .bad
      | some r1 => (match B r1 h with
        | .nx r2 h2 => forL it g B n (i + 1) r2 h2
        | .ct r2 h2 => forL it g B n (i + 1) r2 h2
        | .bk r2 h2 => .nx r2 h2
        | o => o))
def LIM : Nat := 1048576
def sWhile (c : TX) (B : SX) : SX := whileL c B LIM
def sFor (I : Fm → IH → Res ItF) (g : TgF) (B : SX) : SX := fun r h => toS (I r h) r fun it h1 => forL it g B LIM 0 r h1
@[simp] def gVar (i : Nat) : TgF := fun v r => some (r.set i (some v))
@[simp] def setAll : List Nat → List PV → Fm → Option Fm
  | [], [], r => some r
  | i :: is, v :: vs, r => setAll is vs (r.set i (some v))
  | _, _, _ => none
@[simp] def gTupF (is : List Nat) : TgF := fun v r => match v with
  | .tup vs => setAll is vs r
  | _ => none
@[simp] def sAsgT (g : TgF) (A : EX) : SX := fun r h => toS (A r h) r fun v h1 => match g v r with
  | some r1 => .nx r1 h1
  | none => .bad

/-! ### the rules -/
/-- where the code runs -/
structure Ctx (X : Cx) (W : WX) (k : Nat) : Prop where
  tk : Takes X W
  po : PassesOwn (model X.prog X.w) X.A X.env X.xe
  calm : X.calm = true
  nd : X.N.Nodup
  room : Room k X.A
section
variable {X : Cx} {W : WX} {k : Nat} {e : Expr} {es : List Expr} {pos : Pos} {A : EX} {L : AX} {c : TX} {B C : SX} {st : Stmt} {sts : List Stmt}
theorem peImp {t t' : TE} (h : PE X e t) (hi : ∀ s H Q, t' s H Q → t s H Q) : PE X e t' := ⟨fun pins s σ H Q I q => h.run pins s σ H Q I (hi σ H Q q)⟩
theorem ptImp {t t' : TT} (h : PT X e t) (hi : ∀ s H Q, t' s H Q → t s H Q) : PT X e t' := ⟨fun pins s σ H Q I q => h.run pins s σ H Q I (hi σ H Q q)⟩
theorem paImp {t t' : TA} (h : PA X es t) (hi : ∀ s H Q, t' s H Q → t s H Q) : PA X es t' := ⟨fun pos pins s σ H Q I q => h.run pos pins s σ H Q I (hi σ H Q q)⟩
theorem psImp {t t' : TS} (h : PS X st t) (hi : ∀ D s H, t' D s H → t D s H) : PS X st t' := ⟨fun pins s σ H D I q => h.run pins s σ H D I (hi D σ H q)⟩
theorem pssImp {t t' : TS} (h : PSs X sts t) (hi : ∀ D s H, t' D s H → t D s H) : PSs X sts t' := ⟨fun pins s σ H D I q => h.run pins s σ H D I (hi D σ H q)⟩
theorem piImp {tg : Expr} {t t' : TI} (h : PI X tg e t) (hi : ∀ s H Q, t' s H Q → t s H Q) : PI X tg e t' := ⟨fun pins s σ H Q I q => h.run pins s σ H Q I (hi σ H Q q)⟩

theorem ie_var (i : Nat) {x : Str} (hN : X.N[i]? = some x := by rfl) (hv : Vis X.env.scope x := by first | exact Or.inl rfl | exact Or.inr (Or.inl rfl) | exact Or.inr (Or.inr rfl)) (hd : (x == ("__debug__" : Str)) = false := by decide)
    (hcd : (x == ("__classdict__" : Str)) = false := by decide) : PE X (.Name x pos) (IE X.K X.mg W (eVar i)) := by
  refine peImp (pe_var hN hv hd hcd) fun s H Q ⟨as, r, h, f, x, o⟩ => ?_
  unfold eVar at o
  split at o
  · rename_i v e1
    obtain ⟨V, e2, rv⟩ := f.at_ i v e1
    exact ⟨V, e2, o.here x rv⟩
  · exact o.elim
/-- a constant that is a plain value -/
theorem ie_const {V : V} {p : PV} (h : PE X e (tC V)) (r : ∀ H as, RP X.K X.mg H as p V) : PE X e (IE X.K X.mg W (eC p)) :=
  peImp h fun s H Q ⟨as, _, _, _, x, o⟩ => o.here x (r H as)
theorem ie_int {i j} : PE X (.Constant (.int i) j pos) (IE X.K X.mg W (eC (.int i))) := ie_const pe_int fun _ _ => .int i
theorem ie_bl {b j} : PE X (.Constant (.bool b) j pos) (IE X.K X.mg W (eC (.bl b))) := ie_const pe_bl fun _ _ => .bl b
theorem ie_non {j} : PE X (.Constant .none j pos) (IE X.K X.mg W (eC .non)) := ie_const pe_non fun _ _ => .non
theorem ie_str {x j} : PE X (.Constant (.str x) j pos) (IE X.K X.mg W (eC (.str x))) := ie_const pe_str fun _ _ => .str x
theorem ie_gint {x : Str} {i : Int} (hg : Gl X x) (hm : ∃ t, X.mg x = some (.int i t)) (hd : (x == ("__debug__" : Str)) = false := by decide) : PE X (.Name x pos) (IE X.K X.mg W (eC (.int i))) := by
  obtain ⟨t, hm⟩ := hm
  exact ie_const (pe_glob (v := .int i) hg hm ⟨t, rfl⟩ hd) fun _ _ => .int i
/-- a tuple of the top -/
theorem ie_gtup {x : Str} {a : Addr} {ys : List V} {ps : List PV} (hg : Gl X x) (hm : X.mg x = some (.ref a)) (hs : ∀ H, SqT X.K H a ys) (hp : ∀ H as, RPs X.K X.mg H as ps ys) (hd : (x == ("__debug__" : Str)) = false := by decide) : PE X (.Name x pos) (IE X.K X.mg W (eC (.tup ps))) :=
  ie_const (pe_glob (v := .ref a) hg hm rfl hd) fun H as => .tup (hs H) (hp H as)
/-- a def or class of the top as a value -/
theorem ie_glo {x : Str} {a : Addr} (hg : Gl X x) (hm : X.mg x = some (.ref a)) (hd : (x == ("__debug__" : Str)) = false := by decide) : PE X (.Name x pos) (IE X.K X.mg W (eC (.glo x))) :=
  ie_const (pe_glob (v := .ref a) hg hm rfl hd) fun H as => .glo hm rfl
/-- a built-in type as a value -/
theorem ie_ty {x : Str} {n : String} (hg : Gl X x) (hm : X.mg x = none) (hv : bootBuiltins x = some (.type n)) (hn : x ≠ "__name__" := by decide) (hd : (x == ("__debug__" : Str)) = false := by decide) : PE X (.Name x pos) (IE X.K X.mg W (eC (.ty n))) :=
  ie_const (pe_bltn (v := .ty n) hg hm hv rfl hn hd) fun _ _ => .ty n

theorem ia_nil : PA X [] (IA X.K X.mg W aNil) := paImp pa_nil fun s H Q ⟨as, _, _, _, x, o⟩ => o.here x RPs.nil
theorem ia_cons (ha : PE X e (IE X.K X.mg W A)) (hr : PA X es (IA X.K X.mg W L)) (hs : starEach (e :: es) X.env = (false, eval e X.env) :: starEach es X.env := by rfl) : PA X (e :: es) (IA X.K X.mg W (aCons A L)) := by
  refine paImp (pa_cons ha hr hs) fun s H Q ⟨as, r, h, f, x, o⟩ => ?_
  refine ⟨as, r, h, f, x, (Out.bind o).imp fun V H1 ⟨as1, h1, p, S1, x1, r1, o1⟩ => ?_⟩
  refine ⟨as1, r, h1, f.mono S1, x1, (Out.bind o1).imp fun Vs H2 ⟨as2, h2, ps, S2, x2, r2, o2⟩ => ?_⟩
  exact o2.here x2 (RPs.cons (r1.mono S2) r2)

theorem is_nil : PSs X [] (IS X.K X.mg W sNil) := pssImp pss_nil fun D s H ⟨as, r, h, f, x, o⟩ => o s H as (Stp.refl _ _) x f
theorem is_cons (h1 : PS X st (IS X.K X.mg W B)) (h2 : PSs X sts (IS X.K X.mg W C)) : PSs X (st :: sts) (IS X.K X.mg W (sSeq B C)) := by
  refine pssImp (pss_cons h1 h2) fun D s H ⟨as, r, h, f, x, o⟩ => ?_
  refine ⟨as, r, h, f, x, ?_⟩
  unfold sSeq at o
  cases q : B r h with
  | nx r1 h1 =>
    rw [q] at o
    exact fun s' H' as' S' x' f' => ⟨as', r1, h1, f', x', o.shift S'⟩
  | rt v h1 => rw [q] at o; exact o
  | bk r1 h1 => rw [q] at o; exact o
  | ct r1 h1 => rw [q] at o; exact o
  | ex z r1 h1 => rw [q] at o; exact o
  | bad => rw [q] at o; exact o
theorem is_one (h1 : PS X st (IS X.K X.mg W B)) : PSs X [st] (IS X.K X.mg W B) := pss_one h1
/-- from an expression's end to a statement's -/
theorem outS_of {α β : Type} {K : PySem.W.Frag} {mg : Str → Option Value} {R : Hp → List Addr → α → β → Prop} {s : L2.St} {as : List Addr} {H : Hp} {D : Ends} {o : Res α} {r : Fm} {kk : α → IH → RS} (f : RF K mg H as r s) (h : OutS K mg W as H D (toS o r kk)) :
    Out K mg R W s as H (fun b H1 => ∃ as1 h1 a, Stp as H as1 H1 ∧ RH K mg H1 as1 h1 ∧ R H1 as1 a b ∧ OutS K mg W as1 H1 D (kk a h1)) o := by
  cases o with
  | ok a h1 => exact fun b H1 as1 S1 R1 r1 => ⟨as1, h1, a, S1, R1, r1, OutS.shift S1 h⟩
  | ex z h1 => exact fun c d H1 as1 S1 R1 r1 => h c d s H1 as1 S1 R1 (f.mono S1) r1
  | bad => exact h
theorem is_set {i : Nat} {x : Str} {pos' : Pos} (cx : Ctx X W k) (he : PE X e (IE X.K X.mg W A)) (hi : X.N[i]? = some x := by rfl) (hx : Loc X.env.scope x := by first | exact Or.inl rfl | exact Or.inr rfl) (hs : swapsWith e (some (.Name x pos')) pos.line X.env = pure false := by rfl)
    (hf : X.fn x = true ∨ X.env.scope.names.lookup x = some .local := by first | exact .inl rfl | exact .inr rfl | assumption) : PS X (.Assign [.Name x pos'] e pos) (IS X.K X.mg W (sSet i A)) := by
  refine psImp (ps_set cx.nd hi hx he hs hf) fun D s H ⟨as, r, h, f, x, o⟩ => ?_
  refine ⟨as, r, h, f, x, (outS_of f o).imp fun V H1 ⟨as1, h1, p, S1, x1, r1, o1⟩ => ?_⟩
  exact o1 _ H1 as1 (Stp.refl _ _) x1 ((f.mono S1).set r1)
theorem is_par {i j : Nat} {x y : Str} {a b : Expr} {px py pt : Pos} {kt k2 pt2} (cx : Ctx X W k) (ha : PA X [a, b] (IA X.K X.mg W L)) (hij : i ≠ j := by decide) (hi : X.N[i]? = some x := by rfl) (hj : X.N[j]? = some y := by rfl)
    (hx : X.env.scope.names.lookup x = some .local := by rfl) (hy : X.env.scope.names.lookup y = some .local := by rfl)
    (hw : swappedStores [.Tuple [.Name x px, .Name y py] kt pt] (.Tuple [a, b] k2 pt2) X.env = pure (some [x, y]) := by rfl)
    (hs : swapsWithSole [.Tuple [.Name x px, .Name y py] kt pt] (.Tuple [a, b] k2 pt2) pos.line X.env = pure false := by rfl) :
    PS X (.Assign [.Tuple [.Name x px, .Name y py] kt pt] (.Tuple [a, b] k2 pt2) pos) (IS X.K X.mg W (sPar i j L)) := by
  refine psImp (ps_par cx.calm cx.nd hi hj hij hx hy ha hw hs) fun D s H ⟨as, r, h, f, x, o⟩ => ?_
  refine ⟨as, r, h, f, x, (outS_of f o).imp fun Vs H1 ⟨as1, h1, ps, S1, x1, r1, o1⟩ => ?_⟩
  split at o1
  · obtain ⟨v, w, e1, rv, rw'⟩ := RPs.inv2 r1
    exact ⟨v, w, e1, o1 _ H1 as1 (Stp.refl _ _) x1 (((f.mono S1).set rv).set rw')⟩
  · exact o1.elim
theorem is_expr (he : PE X e (IE X.K X.mg W A)) (hs : swapsWith e none pos.line X.env = pure false := by rfl) : PS X (.Expr e pos) (IS X.K X.mg W (sExpr A)) := by
  refine psImp (ps_expr he hs) fun D s H ⟨as, r, h, f, x, o⟩ => ?_
  refine ⟨as, r, h, f, x, (outS_of f o).imp fun V H1 ⟨as1, h1, p, S1, x1, r1, o1⟩ => ?_⟩
  exact o1 s H1 as1 (Stp.refl _ _) x1 (f.mono S1)
theorem is_ret (he : PE X e (IE X.K X.mg W A)) : PS X (.Return (some e) pos) (IS X.K X.mg W (sRet A)) := by
  refine psImp (ps_ret he) fun D s H ⟨as, r, h, f, x, o⟩ => ?_
  refine ⟨as, r, h, f, x, (outS_of f o).imp fun V H1 ⟨as1, h1, p, S1, x1, r1, o1⟩ => ?_⟩
  exact o1 V H1 as1 (Stp.refl _ _) x1 r1
theorem is_if {t : Expr} {a b : List Stmt} (hc : PT X t (IT X.K X.mg W c)) (ha : PSs X a (IS X.K X.mg W B)) (hb : PSs X b (IS X.K X.mg W C)) : PS X (.If t a b pos) (IS X.K X.mg W (sIf c B C)) := by
  refine psImp (ps_if hc ha hb) fun D s H ⟨as, r, h, f, x, o⟩ => ?_
  refine ⟨as, r, h, f, x, (outS_of f o).imp fun d H1 ⟨as1, h1, p, S1, x1, r1, o1⟩ => ?_⟩
  obtain rfl : p = d := r1
  cases p with
  | true => exact ⟨as1, r, h1, f.mono S1, x1, o1⟩
  | false => exact ⟨as1, r, h1, f.mono S1, x1, o1⟩
theorem is_bad : PS X st (IS X.K X.mg W sBad) := psImp ps_never fun D s H ⟨as, r, h, f, x, o⟩ => o
theorem is_break : PS X (.Break pos) (IS X.K X.mg W sBreak) := psImp ps_break fun D s H ⟨as, r, h, f, x, o⟩ => o s H as (Stp.refl _ _) x f

/-! ### loops -/
theorem is_while {t : Expr} {body : List Stmt} (cx : Ctx X W k) (hc : PT X t (IT X.K X.mg W c)) (hb : PSs X body (IS X.K X.mg W B)) : PS X (.While t body [] pos) (IS X.K X.mg W (sWhile c B)) := by
  refine psImp (ps_while cx.po hc hb) fun D s H ⟨as, r, h, f, x, o⟩ => ?_
  refine ⟨fun m s1 H1 => ∃ as1 r1 h1, RF X.K X.mg H1 as1 r1 s1 ∧ RH X.K X.mg H1 as1 h1 ∧ OutS X.K X.mg W as1 H1 D (whileL c B m r1 h1), ⟨LIM, as, r, h, f, x, o⟩, ?_⟩
  rintro m s1 H1 ⟨as1, r1, h1, f1, x1, o1⟩
  cases m with
  | zero => exact o1.elim
  | succ m =>
    refine ⟨as1, r1, h1, f1, x1, (outS_of f1 o1).imp fun d H2 ⟨as2, h2, p, S2, x2, e2, o2⟩ => ?_⟩
    obtain rfl : p = d := e2
    cases p with
    | false => exact o2 s1 H2 as2 (Stp.refl _ _) x2 (f1.mono S2)
    | true =>
      refine ⟨fun s3 H3 => ∃ as3 r3 h3, RF X.K X.mg H3 as3 r3 s3 ∧ RH X.K X.mg H3 as3 h3 ∧ OutS X.K X.mg W as3 H3 D (whileL c B m r3 h3), fun s3 H3 ⟨as3, r3, h3, f3, x3, o3⟩ => ⟨m, Nat.lt_succ_self m, as3, r3, h3, f3, x3, o3⟩, ?_⟩
      refine ⟨as2, r1, h2, f1.mono S2, x2, ?_⟩
      have o2' : OutS X.K X.mg W as2 H2 D (match B r1 h2 with
        | .nx r2 h2 => whileL c B m r2 h2
        | .ct r2 h2 => whileL c B m r2 h2
        | .bk r2 h2 => .nx r2 h2
        | o => o) := o2
      cases q : B r1 h2 with
      | nx r3 h3 => rw [q] at o2'; exact fun s' H' as' S' x' f' => ⟨as', r3, h3, f', x', o2'.shift S'⟩
      | ct r3 h3 => rw [q] at o2'; exact fun s' H' as' S' x' f' => ⟨as', r3, h3, f', x', o2'.shift S'⟩
      | bk r3 h3 => rw [q] at o2'; exact o2'
      | rt v h3 => rw [q] at o2'; exact o2'
      | ex z r3 h3 => rw [q] at o2'; exact o2'
      | bad => rw [q] at o2'; exact o2'
/-- the layer's walk J does what it says, from as, H on -/
def RI (K : PySem.W.Frag) (mg : Str → Option Value) (H : Hp) (as : List Addr) (it : ItF) (J : It) : Prop :=
  ∀ i as' H' h', Stp as H as' H' → RH K mg H' as' h' → match it i h' with
    | some (some v) => J.go i H' ∧ ∀ x H'', J.yld i H' x H'' → Stp as' H' as' H'' ∧ RH K mg H'' as' h' ∧ RP K mg H'' as' v x
    | some none => J.stop i H'
    | none => True
theorem RI.mono {K : PySem.W.Frag} {mg : Str → Option Value} {as as' : List Addr} {H H' : Hp} {it : ItF} {J : It} (S : Stp as H as' H') (q : RI K mg H as it J) : RI K mg H' as' it J := fun i a h z S' x => q i a h z (S.trans S') x
abbrev II (K : PySem.W.Frag) (mg : Str → Option Value) (W : WX) (A : Fm → IH → Res ItF) : TI := IG K mg (fun H as p v => RI K mg H as p v) W A
/-- a target -/
def GI (K : PySem.W.Frag) (mg : Str → Option Value) (g : TgF) : TG := fun v s H Q => ∃ as r p r1 h, RF K mg H as r s ∧ RH K mg H as h ∧ RP K mg H as p v ∧ g p r = some r1 ∧ ∀ s1, RF K mg H as r1 s1 → Q s1 H
theorem is_for {tg it : Expr} {body : List Stmt} {I : Fm → IH → Res ItF} {g : TgF} (cx : Ctx X W k) (hi : PI X tg it (II X.K X.mg W I)) (hg : PG X tg (GI X.K X.mg g)) (hb : PSs X body (IS X.K X.mg W B))
    (hs : ∀ x, foldedSetIterable it X.env x = pure x := by intro _; rfl) : PS X (.For tg it body [] pos) (IS X.K X.mg W (sFor I g B)) := by
  refine psImp (ps_for cx.po cx.calm hi hg hb hs) fun D s H ⟨as, r, h, f, x, o⟩ => ?_
  refine ⟨as, r, h, f, x, (outS_of f o).imp fun J H1 ⟨as1, h1, itf, S1, x1, ri, o1⟩ => ?_⟩
  refine ⟨fun i m s2 H2 => ∃ as2 r2 h2, RF X.K X.mg H2 as2 r2 s2 ∧ RH X.K X.mg H2 as2 h2 ∧ RI X.K X.mg H2 as2 itf J ∧ OutS X.K X.mg W as2 H2 D (forL itf g B m i r2 h2), ⟨LIM, as1, r, h1, f.mono S1, x1, ri, o1⟩, ?_⟩
  rintro i m s2 H2 ⟨as2, r2, h2, f2, x2, ri2, o2⟩
  cases m with
  | zero => exact o2.elim
  | succ m =>
    have z := ri2 i as2 H2 h2 (Stp.refl _ _) x2
    unfold forL at o2
    cases q : itf i h2 with
    | none => rw [q] at o2; exact o2.elim
    | some w =>
      rw [q] at z o2
      cases w with
      | none => exact .inl ⟨z, o2 s2 H2 as2 (Stp.refl _ _) x2 f2⟩
      | some v =>
        refine .inr ⟨z.1, fun s3 H3 => ∃ as3 r3 h3, RF X.K X.mg H3 as3 r3 s3 ∧ RH X.K X.mg H3 as3 h3 ∧ RI X.K X.mg H3 as3 itf J ∧ OutS X.K X.mg W as3 H3 D (forL itf g B m (i + 1) r3 h3),
          fun s3 H3 ⟨as3, r3, h3, f3, x3, ri3, o3⟩ => ⟨m, Nat.lt_succ_self m, as3, r3, h3, f3, x3, ri3, o3⟩, fun y H3 hy => ?_⟩
        obtain ⟨S3, x3, rv⟩ := z.2 y H3 hy
        have o2' : OutS X.K X.mg W as2 H2 D (match g v r2 with
          | none => .bad
          | some r1 => (match B r1 h2 with
            | .nx r2 h2 => forL itf g B m (i + 1) r2 h2
            | .ct r2 h2 => forL itf g B m (i + 1) r2 h2
            | .bk r2 h2 => .nx r2 h2
            | o => o)) := o2
        cases qg : g v r2 with
        | none => rw [qg] at o2'; exact o2'.elim
        | some r3 =>
          rw [qg] at o2'
          refine ⟨as2, r2, v, r3, h2, f2.mono S3, x3, rv, qg, fun s4 f4 => ⟨as2, r3, h2, f4, x3, ?_⟩⟩
          have o3 := OutS.shift S3 o2'
          cases qb : B r3 h2 with
          | nx r5 h5 => simp only [qb] at o3; exact fun s' H' as' S' x' f' => ⟨as', r5, h5, f', x', (ri2.mono S3).mono S', o3.shift S'⟩
          | ct r5 h5 => simp only [qb] at o3; exact fun s' H' as' S' x' f' => ⟨as', r5, h5, f', x', (ri2.mono S3).mono S', o3.shift S'⟩
          | bk r5 h5 => simp only [qb] at o3; exact o3
          | rt v h5 => simp only [qb] at o3; exact o3
          | ex z r5 h5 => simp only [qb] at o3; exact o3
          | bad => simp only [qb] at o3; exact o3

/-! ### targets -/
theorem pgImp {tg : Expr} {t t' : TG} (h : PG X tg t) (hi : ∀ v s H Q, t' v s H Q → t v s H Q) : PG X tg t' := ⟨fun pins s σ H v u Q I r q => h.run pins s σ H v u Q I r (hi v σ H Q q)⟩
theorem ig_name (i : Nat) {x : Str} (hN : X.N.Nodup) (hi : X.N[i]? = some x := by rfl) (hx : Loc X.env.scope x := by first | exact Or.inl rfl | exact Or.inr rfl) (hf : X.fn x = true ∨ X.env.scope.names.lookup x = some .local := by first | exact .inl rfl | exact .inr rfl | assumption) :
    PG X (.Name x pos) (GI X.K X.mg (gVar i)) := by
  refine pgImp (pg_name hN hi hx hf) fun v s H Q ⟨as, r, p, r1, h, f, x, rp, e, q⟩ => ?_
  cases e
  exact q _ (f.set rp)
/-- several names, one after the other -/
def GIs (K : PySem.W.Frag) (mg : Str → Option Value) (is : List Nat) : TGs := fun vs s H Q => ∃ as r ps r1, RF K mg H as r s ∧ RPs K mg H as ps vs ∧ setAll is ps r = some r1 ∧ ∀ s1, RF K mg H as r1 s1 → Q s1 H
theorem igs_nil : PGs X [] (GIs X.K X.mg []) := by
  refine ⟨fun pins s σ H vs us Q I r q => pgs_nil.run pins s σ H vs us Q I r ?_⟩
  obtain ⟨as, r, ps, r1, f, rp, e, q⟩ := q
  cases ps with
  | nil => cases rp; cases e; exact ⟨rfl, q _ f⟩
  | cons p ps => cases e
theorem igs_cons (i : Nat) {is : List Nat} {x : Str} (hN : X.N.Nodup) (h2 : PGs X es (GIs X.K X.mg is)) (hi : X.N[i]? = some x := by rfl) (hx : Loc X.env.scope x := by first | exact Or.inl rfl | exact Or.inr rfl) (hf : X.fn x = true ∨ X.env.scope.names.lookup x = some .local := by first | exact .inl rfl | exact .inr rfl | assumption)
    (hs : (assignEach (.Name x pos :: es) X.env).map (·.2) = assign (.Name x pos) X.env :: (assignEach es X.env).map (·.2) := by rfl) : PGs X (.Name x pos :: es) (GIs X.K X.mg (i :: is)) := by
  refine ⟨fun pins s σ H vs us Q I r q => (pgs_cons (pg_name (pos := pos) hN hi hx hf) h2 hs).run pins s σ H vs us Q I r ?_⟩
  obtain ⟨as, r, ps, r1, f, rp, e, q⟩ := q
  cases rp with
  | nil => cases e
  | cons a b => exact ⟨_, _, rfl, as, _, _, r1, f.set a, b, e, q⟩
theorem ig_tup {is : List Nat} {kk : Nat} (cx : Ctx X W k) (h : PGs X es (GIs X.K X.mg is)) (hl : is.length = es.length := by rfl) (hn : (assignEach es X.env).length = es.length := by rfl) (hst : (assignEach es X.env).findIdx? (·.1) = none := by rfl) :
    PG X (.Tuple es kk pos) (GI X.K X.mg (gTupF is)) := by
  refine pgImp (pg_tup cx.calm h hn hst) fun v s H Q ⟨as, r, p, r1, h, f, x, rp, e, q⟩ => ?_
  cases rp with
  | tup hs rs =>
    refine ⟨_, _, rfl, hs, ?_, as, r, _, r1, f, rs, e, q⟩
    rw [← rs.length, ← hl]
    have key : ∀ (is : List Nat) (ps : List PV) (r : Fm) (r1 : Fm), setAll is ps r = some r1 → ps.length = is.length := by
      intro is
      induction is with
      | nil => intro ps r r1 e; cases ps with
        | nil => rfl
        | cons _ _ => cases e
      | cons i is ih => intro ps r r1 e; cases ps with
        | nil => cases e
        | cons p ps => rw [List.length_cons, List.length_cons, ih ps _ _ e]
    exact key _ _ _ _ e
  | non => cases e
  | bl => cases e
  | int => cases e
  | str => cases e
  | fls => cases e
  | obj => cases e
  | glo => cases e
  | ty => cases e
  | key => cases e
/-- a, b = e, by a target -/
theorem is_asgT {tg : Expr} {g : TgF} (he : PE X e (IE X.K X.mg W A)) (hg : PG X tg (GI X.K X.mg g)) (hs : swapsWithSole [tg] e pos.line X.env = pure false := by rfl) (hw : swappedStores [tg] e X.env = pure none := by rfl)
    (h1 : (assignEach [tg] X.env).map (·.2) = [assign tg X.env] := by rfl) : PS X (.Assign [tg] e pos) (IS X.K X.mg W (sAsgT g A)) := by
  refine psImp (ps_asg he hg hs hw h1) fun D s H ⟨as, r, h, f, x, o⟩ => ?_
  refine ⟨as, r, h, f, x, (outS_of f o).imp fun V H1 ⟨as1, h1, p, S1, x1, r1, o1⟩ => ?_⟩
  cases qg : g p r with
  | none => simp only [qg] at o1; exact o1.elim
  | some r2 => simp only [qg] at o1; exact ⟨as1, r, p, r2, h1, f.mono S1, x1, r1, qg, fun s1 f1 => o1 s1 H1 as1 (Stp.refl _ _) x1 f1⟩

/-! ### calls of defs -/
/-- a def's promise, by its functional code -/
def SpF (K : PySem.W.Frag) (mg : Str → Option Value) (n : Nat) (F : List PV → IH → Res PV) : Sp := fun vs H Q E => ∃ as us h, us.length = n ∧ RPs K mg H as us vs ∧ RH K mg H as h ∧ Out K mg (fun H as p v => RP K mg H as p v) (fun c d _ H' => E c d H') [] as H Q (F us h)
theorem SpF.of {K : PySem.W.Frag} {mg : Str → Option Value} {n : Nat} {F : List PV → IH → Res PV} {s : L2.St} {us : List PV} {vs : List V} {as : List Addr} {H : Hp} {h : IH} {Q : VK} (x : RH K mg H as h) (rs : RPs K mg H as us vs) (hl : us.length = n)
    (o : Out K mg (fun H as p v => RP K mg H as p v) W s as H Q (F us h)) : SpF K mg n F vs H Q (WE W s) := by
  refine ⟨as, us, h, hl, rs, x, ?_⟩
  cases q : F us h with
  | ok a h1 => rw [q] at o; exact o
  | ex z h1 => rw [q] at o; exact o
  | bad => rw [q] at o; exact o
theorem ie_call {f : Addr} {fd : FuncData} {ps : List Str} {x : Str} {p : Pos} {F : List PV → IH → Res PV} {n : Nat} {j : Nat} (cx : Ctx X W k) (G : FnOk X.prog X.w X.K X.mg X.base (L2.CX X.prog X.w) j f fd ps (SpF X.K X.mg n F)) (hj : j ≤ k) (hm : X.mg x = some (.ref f)) (hk : PySem.W.keepIn X.K (.ref f) = true)
    (hb : Binds X.K fd ps []) (ha : PA X (e :: es) (IA X.K X.mg W L)) (hF : ∀ us h, us.length ≠ n → F us h = .bad) (hg : Gl X x := by rfl) (hdb : (x == ("__debug__" : Str)) = false := by decide) (he : starEach (e :: es) X.env = (false, eval e X.env) :: starEach es X.env := by rfl) (hpl : (backTo pos (starEach es X.env)).any (·.1) = false := by rfl) :
    PE X (.Call (.Name x p) (e :: es) [] pos) (IE X.K X.mg W (eCall F L)) := by
  refine peImp (pe_callS G (cx.room.mono hj) hg hm hk hb (fun s => passAt cx.tk s) ha hdb he hpl) fun s H Q ⟨as, r, h, f, x, o⟩ => ?_
  refine ⟨as, r, h, f, x, (Out.bind o).imp fun Vs H1 ⟨as1, h1, us, S1, x1, r1, o1⟩ => ?_⟩
  refine SpF.of x1 r1 ?_ o1
  by_cases hn : us.length = n
  · exact hn
  · rw [hF us h1 hn] at o1; exact o1.elim
theorem ie_call0 {f : Addr} {fd : FuncData} {ps : List Str} {x : Str} {p : Pos} {F : List PV → IH → Res PV} {j : Nat} (cx : Ctx X W k) (G : FnOk X.prog X.w X.K X.mg X.base (L2.CX X.prog X.w) j f fd ps (SpF X.K X.mg 0 F)) (hj : j ≤ k) (hm : X.mg x = some (.ref f)) (hk : PySem.W.keepIn X.K (.ref f) = true)
    (hb : Binds X.K fd ps []) (hg : Gl X x := by rfl) (hdb : (x == ("__debug__" : Str)) = false := by decide) :
    PE X (.Call (.Name x p) [] [] pos) (IE X.K X.mg W (eCall F aNil)) := by
  have base : PE X (.Call (.Name x p) [] [] pos) (tCallS (SpF X.K X.mg 0 F) (WE W) tNil) := by
    refine ⟨fun pins s σ H Q I h => ?_⟩
    refine wpAny_Call_Name_kw (ld_glob I hg hm ?_ hdb)
    exact PySem.W.callWith_K0 I.kIn hk (run_fnS (us := []) G (cx.room.mono hj) hb (passAt cx.tk σ) I .nil h)
  refine peImp base fun s H Q ⟨as, r, h, f, x, o⟩ => ?_
  exact SpF.of x RPs.nil rfl o
theorem fn_bad {ps n : Nat} {B : SX} (us : List PV) (h : IH) (hl : us.length ≠ ps) : fn ps n B us h = .bad := if_neg hl
end
/-- what a def wishes of exceptions -/
def WD (E : XK) : WX := fun c d _ H => E c d H
/-- a def by its body -/
theorem ok_of {P : Program} {w : World} {K : PySem.W.Frag} {mg : Str → Option Value} {base : Heap} {x qual : Str} {st : Stmt} {f : Addr} {fd : FuncData} {N ps : List Str} {k : Nat} {B : SX} (F : Fun K x qual st f fd) (S : FnScope N ps (defScope st)) (m : Nat) (hm : N.length = ps.length + m)
    (body : ∀ (cdv : Value) (A : Around) (outer : List Env) (s : Shared) (H : Hp) (E : XK), Ctx (cxOf (L2.CX P w) P w K mg base N qual (defScope st) f cdv A outer s H E) (WD E) k →
      PSs (cxOf (L2.CX P w) P w K mg base N qual (defScope st) f cdv A outer s H E) (defBody st) (IS K mg (WD E) B)) :
    FnOk P w K mg base (L2.CX P w) (k + 1) f fd ps (SpF K mg ps.length (fn ps.length m B)) := by
  refine F.okX S (fun vs H Q E h => ?_) (fun cdv A outer s H vs Q E hr h => ?_)
  · obtain ⟨as, us, h, hl, rs, _⟩ := h
    rw [← rs.length, hl]
  · obtain ⟨as, us, h, hl, rs, x, o⟩ := h
    refine ⟨_, body cdv A outer s H E ⟨takes_of rfl rfl rfl rfl, passes_of rfl, rfl, S.nd, hr⟩, ?_⟩
    refine ⟨as, us.map some ++ List.replicate m none, h, ⟨?_, fun i p e => ?_⟩, x, ?_⟩
    · unfold L2.start
      rw [List.length_append, List.length_append, List.length_map, List.length_map, List.length_replicate, List.length_replicate, rs.length]
      have := rs.length
      omega
    · by_cases hi : i < us.length
      · rw [List.getElem?_append_left (by simpa using hi), List.getElem?_map] at e
        cases q : us[i]? with
        | none => rw [q] at e; cases e
        | some p' =>
          rw [q] at e
          cases e
          obtain ⟨v, h1, h2⟩ := rs.get q
          refine ⟨v, ?_, h2⟩
          unfold L2.start
          rw [List.getElem?_append_left (by rw [List.length_map, ← rs.length]; exact hi), List.getElem?_map, h1]
          rfl
      · rw [List.getElem?_append_right (by simpa using hi), List.getElem?_replicate] at e
        split at e <;> cases e
    · unfold fn at o
      rw [if_pos hl] at o
      cases q : B (us.map some ++ List.replicate m none) h with
      | nx r1 h1 => rw [q] at o; exact fun s' H' as' S' x' f' => o .non H' as' S' x' .non
      | rt v h1 => rw [q] at o; exact o
      | ex z r1 h1 => rw [q] at o; exact fun c d s' H' as' S' x' f' rx => o c d H' as' S' x' rx
      | bk r1 h1 => rw [q] at o; exact (show False from o).elim
      | ct r1 h1 => rw [q] at o; exact (show False from o).elim
      | bad => rw [q] at o; exact o
end WR

/-! operators, tests, displays, subscripts, built-ins -/
namespace WR
open PySem PySem.Spec PyProof.Rows L2

/-! ### the code -/
@[simp] def eOp (p : PV → PV → IH → Res PV) (A B : EX) : EX := fun r h => (A r h).bind fun x h1 => (B r h1).bind fun y h2 => p x y h2
@[simp] def eUn (p : PV → IH → Res PV) (A : EX) : EX := fun r h => (A r h).bind p
@[simp] def eB (p : List PV → IH → Res PV) (L : AX) : EX := fun r h => (L r h).bind p
@[simp] def opt {α : Type} (o : Option α) (h : IH) : Res α := match o with
  | some a => .ok a h
  | none => .bad
@[simp] def mkL (xs : List PV) (h : IH) : Res PV := if xs.length ≤ 16777216 then .ok (.obj h.length) (h ++ [.lst xs]) else .bad
@[simp] def pAdd : PV → PV → IH → Res PV
  | .int i, .int j, h => .ok (.int (i + j)) h
  | .str a, .str b, h => if a.length + b.length ≤ 16777216 then .ok (.str (a ++ b)) h else .bad
  | .tup xs, .tup ys, h => if xs.length + ys.length ≤ 16777216 then .ok (.tup (xs ++ ys)) h else .bad
  | .obj m, .obj n, h => (match h[m]?, h[n]? with
    | some (.lst xs), some (.lst ys) => if xs.length + ys.length ≤ 16777216 then .ok (.obj h.length) (h ++ [.lst (xs ++ ys)]) else .bad
    | _, _ => .bad)
  | _, _, _ => .bad
@[simp] def pSub : PV → PV → IH → Res PV
  | .int i, .int j, h => .ok (.int (i - j)) h
  | _, _, _ => .bad
def mulOk (i j : Int) : Bool := decide (i.natAbs < 18446744073709551616) || decide (j.natAbs < 18446744073709551616) || decide (i.natAbs.log2 + j.natAbs.log2 < 1000000)
@[simp] def pMul : PV → PV → IH → Res PV
  | .int i, .int j, h => if mulOk i j then .ok (.int (i * j)) h else .bad
  | _, _, _ => .bad
@[simp] def pDiv : PV → PV → IH → Res PV
  | .int i, .int j, h => if 0 < j ∧ j.natAbs.log2 < 9000 then .ok (.int (i / j)) h else .bad
  | _, _, _ => .bad
@[simp] def pMod : PV → PV → IH → Res PV
  | .int i, .int j, h => if 0 < j then .ok (.int (i % j)) h else .bad
  | _, _, _ => .bad
@[simp] def pPow : PV → PV → IH → Res PV
  | .int i, .int j, h => if 0 ≤ j ∧ j ≤ 1000000 ∧ i.natAbs < 18446744073709551616 then .ok (.int (i ^ j.toNat)) h else .bad
  | _, _, _ => .bad
@[simp] def pNeg : PV → IH → Res PV
  | .int i, h => .ok (.int (-i)) h
  | _, _ => .bad
@[simp] def pCI (f : Int → Int → Bool) : PV → PV → IH → Res PV
  | .int i, .int j, h => .ok (.bl (f i j)) h
  | _, _, _ => .bad
abbrev pLt := pCI fun i j => decide (i < j)
abbrev pLe := pCI fun i j => decide (i ≤ j)
abbrev pGt := pCI fun i j => decide (j < i)
abbrev pGe := pCI fun i j => decide (j ≤ i)
@[simp] def isN : PV → Bool
  | .non => true
  | _ => false
@[simp] def pIsN : PV → PV → IH → Res PV
  | x, .non, h => (match x with
    | .glo _ => .bad
    | _ => .ok (.bl (isN x)) h)
  | _, _, _ => .bad
@[simp] def pNotN : PV → PV → IH → Res PV
  | x, .non, h => (match x with
    | .glo _ => .bad
    | _ => .ok (.bl (!isN x)) h)
  | _, _, _ => .bad
/-- data as the library has it -/
def optAll {α β : Type} (f : α → Option β) : List α → Option (List β)
  | [] => some []
  | x :: xs => (match f x, optAll f xs with
    | some y, some ys => some (y :: ys)
    | _, _ => none)
def dataOf : Nat → IH → PV → Option PyData
  | _, _, .non => some .none
  | _, _, .bl b => some (.bool b)
  | _, _, .int i => some (.int i)
  | _, _, .str x => some (.str x)
  | n + 1, h, .tup xs => (optAll (dataOf n h) xs).map .tuple
  | n + 1, h, .fls xs => (optAll (dataOf n h) xs).map .list
  | n + 1, h, .obj k => (match h[k]? with
    | some (.lst xs) => (optAll (dataOf n h) xs).map .list
    | _ => none)
  | _, _, _ => none
def DEP : Nat := 12
def pEqB (x y : PV) (h : IH) : Option Bool := match dataOf DEP h x, dataOf DEP h y with
  | some d, some e => if SeqAt.shaped d && SeqAt.shaped e then some (PyData.eqv d e) else none
  | _, _ => none
@[simp] def pEq (x y : PV) (h : IH) : Res PV := opt ((pEqB x y h).map .bl) h
@[simp] def pNe (x y : PV) (h : IH) : Res PV := opt ((pEqB x y h).map fun b => .bl (!b)) h
@[simp] def pIdx : PV → PV → IH → Res PV
  | .tup xs, .int i, h => opt (atI xs i) h
  | .fls xs, .int i, h => opt (atI xs i) h
  | .str z, .int i, h => if z.length ≤ 16777216 then opt ((atI z.cps.toList i).map fun c => .str ⟨#[c]⟩) h else .bad
  | .obj n, .int i, h => (match h[n]? with
    | some (.lst xs) => opt (atI xs i) h
    | _ => .bad)
  | _, _, _ => .bad
def cutA {α : Type} (xs : List α) (lo hi : Option Int) : List α := (xs.drop (HT.sIx xs.length 0 lo)).take (HT.sIx xs.length xs.length hi - HT.sIx xs.length 0 lo)
abbrev OX := Fm → IH → Res (Option Int)
@[simp] def oNone : OX := fun _ h => .ok none h
@[simp] def oSome (A : EX) : OX := fun r h => (A r h).bind fun v h1 => match v with
  | .int i => .ok (some i) h1
  | _ => .bad
@[simp] def pSl : PV → Option Int → Option Int → IH → Res PV
  | .tup xs, lo, hi, h => .ok (.tup (cutA xs lo hi)) h
  | .obj n, lo, hi, h => (match h[n]? with
    | some (.lst xs) => .ok (.obj h.length) (h ++ [.lst (cutA xs lo hi)])
    | _ => .bad)
  | _, _, _, _ => .bad
@[simp] def eSl (A : EX) (l u : OX) : EX := fun r h => (A r h).bind fun x h1 => (l r h1).bind fun lo h2 => (u r h2).bind fun hi h3 => pSl x lo hi h3
@[simp] def eTup (L : AX) : EX := fun r h => (L r h).bind fun xs h1 => if xs.length ≤ 16777216 then .ok (.tup xs) h1 else .bad
@[simp] def eLst (L : AX) : EX := fun r h => (L r h).bind mkL
@[simp] def pTru : PV → IH → Option Bool
  | .non, _ => some false
  | .bl b, _ => some b
  | .int i, _ => some (i != 0)
  | .str y, _ => if y.length ≤ 16777216 then some ((y.length : Int) != 0) else none
  | .tup xs, _ => some !xs.isEmpty
  | .fls xs, _ => some !xs.isEmpty
  | .obj n, h => (match h[n]? with
    | some (.lst xs) => some !xs.isEmpty
    | _ => none)
  | _, _ => none
@[simp] def tTru (A : EX) : TX := fun r h => (A r h).bind fun v h1 => opt (pTru v h1) h1
@[simp] def tBl (A : EX) : TX := fun r h => (A r h).bind fun v h1 => match v with
  | .bl b => .ok b h1
  | _ => .bad
@[simp] def tAndX (c d : TX) : TX := fun r h => (c r h).bind fun b h1 => if b then d r h1 else .ok false h1
@[simp] def tOrX (c d : TX) : TX := fun r h => (c r h).bind fun b h1 => if b then .ok true h1 else d r h1
@[simp] def tNotX (c : TX) : TX := fun r h => (c r h).bind fun b h1 => .ok (!b) h1
@[simp] def eAnd (A B : EX) : EX := fun r h => (A r h).bind fun v h1 => match v with
  | .bl b => if b then B r h1 else .ok (.bl false) h1
  | _ => .bad
@[simp] def eOr (A B : EX) : EX := fun r h => (A r h).bind fun v h1 => match v with
  | .bl b => if b then .ok (.bl true) h1 else B r h1
  | _ => .bad
@[simp] def eNot (A : EX) : EX := fun r h => (A r h).bind fun v h1 => opt ((pTru v h1).map fun b => .bl (!b)) h1
@[simp] def eIf (c : TX) (A B : EX) : EX := fun r h => (c r h).bind fun b h1 => if b then A r h1 else B r h1
@[simp] def eChain (p q : PV → PV → IH → Res PV) (A B C : EX) : EX := fun r h => (A r h).bind fun x h1 => (B r h1).bind fun y h2 => (p x y h2).bind fun v h3 => match v with
  | .bl b => if b then (C r h3).bind fun z h4 => q y z h4 else .ok (.bl false) h3
  | _ => .bad

/-! ### what each asks of the layer -/
section
variable {X : Cx} {W : WX} {k : Nat} {a b e : Expr} {es : List Expr} {pos : Pos} {A B C : EX} {L : AX} {c d : TX}
def Snd (K : PySem.W.Frag) (mg : Str → Option Value) (p : PV → PV → IH → Res PV) (r : R2) : Prop :=
  ∀ {W : WX} {s : L2.St} {as : List Addr} {H : Hp} {h : IH} {x y : PV} {U V : V} {Q : VK}, RH K mg H as h → RP K mg H as x U → RP K mg H as y V → Out K mg (fun H as p v => RP K mg H as p v) W s as H Q (p x y h) → r U V H Q
def SndC (K : PySem.W.Frag) (mg : Str → Option Value) (p : List PV → IH → Res PV) (r : List V → Hp → VK → Prop) : Prop :=
  ∀ {W : WX} {s : L2.St} {as : List Addr} {H : Hp} {h : IH} {xs : List PV} {Us : List V} {Q : VK}, RH K mg H as h → RPs K mg H as xs Us → Out K mg (fun H as p v => RP K mg H as p v) W s as H Q (p xs h) → r Us H Q
theorem tOp_of {p : PV → PV → IH → Res PV} {r : R2} {ta tb : TE} (hp : Snd X.K X.mg p r) {s : L2.St} {H : Hp} {Q : VK} (h : IE X.K X.mg W (eOp p A B) s H Q) : tOp r (IE X.K X.mg W A) (IE X.K X.mg W B) s H Q := by
  obtain ⟨as, ρ, hh, f, x, o⟩ := h
  refine ⟨as, ρ, hh, f, x, (Out.bind o).imp fun V H1 ⟨as1, h1, p1, S1, x1, r1, o1⟩ => ?_⟩
  refine ⟨as1, ρ, h1, f.mono S1, x1, (Out.bind o1).imp fun U H2 ⟨as2, h2, p2, S2, x2, r2, o2⟩ => ?_⟩
  exact hp x2 (r1.mono S2) r2 o2
theorem ie_op {op : Operator} {p : PV → PV → IH → Res PV} {r : R2} (ho : OpR X (binaryOp op) r) (hp : Snd X.K X.mg p r) (ha : PE X a (IE X.K X.mg W A)) (hb : PE X b (IE X.K X.mg W B)) : PE X (.BinOp a op b pos) (IE X.K X.mg W (eOp p A B)) :=
  peImp (pe_op ho ha hb) fun _ _ _ h => tOp_of (ta := IE X.K X.mg W A) (tb := IE X.K X.mg W B) hp h
theorem ie_cmp {op : CmpOp} {p : PV → PV → IH → Res PV} {r : R2} (ho : OpR X (compareOp op) r) (hp : Snd X.K X.mg p r) (ha : PE X a (IE X.K X.mg W A)) (hb : PE X b (IE X.K X.mg W B)) (hm : behindInMarks op b = false) : PE X (.Compare a [op] [b] pos) (IE X.K X.mg W (eOp p A B)) :=
  peImp (pe_cmpR ho ha hb hm) fun _ _ _ h => tOp_of (ta := IE X.K X.mg W A) (tb := IE X.K X.mg W B) hp h
theorem tTest_of {t : TE} {s : L2.St} {H : Hp} {Q : Bool → Hp → Prop} (ht : ∀ Q', IE X.K X.mg W A s H Q' → t s H Q') (h : IT X.K X.mg W (tBl A) s H Q) : tTest t s H Q := by
  obtain ⟨as, ρ, hh, f, x, o⟩ := h
  refine ht _ ⟨as, ρ, hh, f, x, (Out.bind o).imp fun V H1 ⟨as1, h1, p1, S1, x1, r1, o1⟩ => ?_⟩
  cases r1 with
  | bl q => exact ⟨q, rfl, o1.here x1 rfl⟩
  | non => exact o1.elim
  | int => exact o1.elim
  | str => exact o1.elim
  | tup => exact o1.elim
  | fls => exact o1.elim
  | obj => exact o1.elim
  | glo => exact o1.elim
  | ty => exact o1.elim
  | key => exact o1.elim
theorem it_cmp {op : CmpOp} {p : PV → PV → IH → Res PV} {r : R2} (ho : OpR X (compareOp op) r) (hp : Snd X.K X.mg p r) (ha : PE X a (IE X.K X.mg W A)) (hb : PE X b (IE X.K X.mg W B)) (hm : behindInMarks op b = false) : PT X (.Compare a [op] [b] pos) (IT X.K X.mg W (tBl (eOp p A B))) :=
  ptImp (pt_cmpR ho ha hb hm) fun _ _ _ h => tTest_of (fun Q' h => tOp_of (ta := IE X.K X.mg W A) (tb := IE X.K X.mg W B) hp h) h
theorem tru_of {v : PV} {V : V} {as : List Addr} {H : Hp} {h : IH} {q : Bool} (x : RH X.K X.mg H as h) (r : RP X.K X.mg H as v V) (e : pTru v h = some q) : TruV X.K V H q := by
  cases r with
  | non => cases e; rfl
  | bl b => cases e; rfl
  | int i => cases e; rfl
  | str y =>
    simp only [pTru] at e
    split at e
    · rename_i hl
      cases e
      exact ⟨by rw [sizeLine_eq]; exact hl, rfl⟩
    · cases e
  | tup hs rs =>
    cases e
    refine .inr (.inl ⟨_, hs, ?_⟩)
    cases rs <;> rfl
  | fls hs rs =>
    cases e
    refine .inl ⟨_, hs.sq, ?_⟩
    cases rs <;> rfl
  | obj ha =>
    simp only [pTru] at e
    split at e
    · rename_i xs hx
      obtain ⟨a, h1, ys, h2, rs⟩ := x.at_ _ _ hx
      rw [ha] at h1; cases h1
      cases e
      refine .inl ⟨_, SqL.of h2, ?_⟩
      cases rs <;> rfl
    · cases e
  | glo => cases e
  | ty => cases e
  | key => cases e
theorem it_tru (ha : PE X a (IE X.K X.mg W A)) (he : ∀ whole, isTrue a X.env whole = (do let v ← whole; standAt a.pos; holding [v] (truthy v)) := by intro _; rfl) : PT X a (IT X.K X.mg W (tTru A)) := by
  refine ptImp (pt_truth ha he) fun s H Q ⟨as, ρ, hh, f, x, o⟩ => ?_
  refine ⟨as, ρ, hh, f, x, (Out.bind o).imp fun V H1 ⟨as1, h1, p1, S1, x1, r1, o1⟩ => ?_⟩
  cases q : pTru p1 h1 with
  | none => rw [q] at o1; exact o1.elim
  | some z => rw [q] at o1; exact ⟨z, tru_of x1 r1 q, o1.here x1 rfl⟩
theorem it_not (ha : PT X a (IT X.K X.mg W c)) : PT X (.UnaryOp .Not a pos) (IT X.K X.mg W (tNotX c)) := by
  refine ptImp (pt_not ha) fun s H Q ⟨as, ρ, hh, f, x, o⟩ => ?_
  refine ⟨as, ρ, hh, f, x, (Out.bind o).imp fun V H1 ⟨as1, h1, p1, S1, x1, r1, o1⟩ => ?_⟩
  obtain rfl : p1 = V := r1
  exact o1.here x1 rfl
/-- and, or as tests: lists of at least two -/
theorem iw_and1 (ha : PT X a (IT X.K X.mg W c)) : PW X (.BoolOp .And [a] pos) (IT X.K X.mg W c) := pw_and1 ha
theorem iw_or1 (ha : PT X a (IT X.K X.mg W c)) : PW X (.BoolOp .Or [a] pos) (IT X.K X.mg W c) := pw_or1 ha
theorem pwImp {t t' : TT} (h : PW X e t) (hi : ∀ s H Q, t' s H Q → t s H Q) : PW X e t' := ⟨fun wh pins s σ H Q I q => h.run wh pins s σ H Q I (hi σ H Q q)⟩
theorem iw_and {rest : List Expr} (ha : PT X a (IT X.K X.mg W c)) (hb : PW X (.BoolOp .And (b :: rest) pos) (IT X.K X.mg W d)) : PW X (.BoolOp .And (a :: b :: rest) pos) (IT X.K X.mg W (tAndX c d)) := by
  refine pwImp (pw_and ha hb) fun s H Q ⟨as, ρ, hh, f, x, o⟩ => ?_
  refine ⟨as, ρ, hh, f, x, (Out.bind o).imp fun V H1 ⟨as1, h1, p1, S1, x1, r1, o1⟩ => ?_⟩
  obtain rfl : p1 = V := r1
  cases p1 with
  | true => exact ⟨as1, ρ, h1, f.mono S1, x1, o1⟩
  | false => exact o1.here x1 rfl
theorem iw_or {rest : List Expr} (ha : PT X a (IT X.K X.mg W c)) (hb : PW X (.BoolOp .Or (b :: rest) pos) (IT X.K X.mg W d)) : PW X (.BoolOp .Or (a :: b :: rest) pos) (IT X.K X.mg W (tOrX c d)) := by
  refine pwImp (pw_or ha hb) fun s H Q ⟨as, ρ, hh, f, x, o⟩ => ?_
  refine ⟨as, ρ, hh, f, x, (Out.bind o).imp fun V H1 ⟨as1, h1, p1, S1, x1, r1, o1⟩ => ?_⟩
  obtain rfl : p1 = V := r1
  cases p1 with
  | false => exact ⟨as1, ρ, h1, f.mono S1, x1, o1⟩
  | true => exact o1.here x1 rfl
theorem ie_one {op} (h : PE X a (IE X.K X.mg W A)) : PE X (.BoolOp op [a] pos) (IE X.K X.mg W A) := pe_one h
theorem ie_and {rest : List Expr} (ha : PE X a (IE X.K X.mg W A)) (hb : PE X (.BoolOp .And (b :: rest) pos) (IE X.K X.mg W B)) : PE X (.BoolOp .And (a :: b :: rest) pos) (IE X.K X.mg W (eAnd A B)) := by
  refine peImp (pe_and ha hb) fun s H Q ⟨as, ρ, hh, f, x, o⟩ => ?_
  refine ⟨as, ρ, hh, f, x, (Out.bind o).imp fun V H1 ⟨as1, h1, p1, S1, x1, r1, o1⟩ => ?_⟩
  cases r1 with
  | bl q =>
    refine ⟨q, rfl, ?_⟩
    cases q with
    | true => exact ⟨as1, ρ, h1, f.mono S1, x1, o1⟩
    | false => exact o1.here x1 (.bl false)
  | non => exact o1.elim
  | int => exact o1.elim
  | str => exact o1.elim
  | tup => exact o1.elim
  | fls => exact o1.elim
  | obj => exact o1.elim
  | glo => exact o1.elim
  | ty => exact o1.elim
  | key => exact o1.elim
theorem ie_or {rest : List Expr} (ha : PE X a (IE X.K X.mg W A)) (hb : PE X (.BoolOp .Or (b :: rest) pos) (IE X.K X.mg W B)) : PE X (.BoolOp .Or (a :: b :: rest) pos) (IE X.K X.mg W (eOr A B)) := by
  refine peImp (pe_or ha hb) fun s H Q ⟨as, ρ, hh, f, x, o⟩ => ?_
  refine ⟨as, ρ, hh, f, x, (Out.bind o).imp fun V H1 ⟨as1, h1, p1, S1, x1, r1, o1⟩ => ?_⟩
  cases r1 with
  | bl q =>
    refine ⟨q, rfl, ?_⟩
    cases q with
    | false => exact ⟨as1, ρ, h1, f.mono S1, x1, o1⟩
    | true => exact o1.here x1 (.bl true)
  | non => exact o1.elim
  | int => exact o1.elim
  | str => exact o1.elim
  | tup => exact o1.elim
  | fls => exact o1.elim
  | obj => exact o1.elim
  | glo => exact o1.elim
  | ty => exact o1.elim
  | key => exact o1.elim
theorem ie_not (ha : PE X a (IE X.K X.mg W A)) : PE X (.UnaryOp .Not a pos) (IE X.K X.mg W (eNot A)) := by
  refine peImp (pe_notT ha) fun s H Q ⟨as, ρ, hh, f, x, o⟩ => ?_
  refine ⟨as, ρ, hh, f, x, (Out.bind o).imp fun V H1 ⟨as1, h1, p1, S1, x1, r1, o1⟩ => ?_⟩
  cases q : pTru p1 h1 with
  | none => rw [q] at o1; exact o1.elim
  | some z => rw [q] at o1; exact ⟨z, tru_of x1 r1 q, o1.here x1 (.bl _)⟩
theorem ie_if (hc : PT X e (IT X.K X.mg W c)) (ha : PE X a (IE X.K X.mg W A)) (hb : PE X b (IE X.K X.mg W B)) : PE X (.IfExp e a b pos) (IE X.K X.mg W (eIf c A B)) := by
  refine peImp (pe_ifExp hc ha hb) fun s H Q ⟨as, ρ, hh, f, x, o⟩ => ?_
  refine ⟨as, ρ, hh, f, x, (Out.bind o).imp fun V H1 ⟨as1, h1, p1, S1, x1, r1, o1⟩ => ?_⟩
  obtain rfl : p1 = V := r1
  cases p1 with
  | true => exact ⟨as1, ρ, h1, f.mono S1, x1, o1⟩
  | false => exact ⟨as1, ρ, h1, f.mono S1, x1, o1⟩
/-! ### the numbers -/
theorem snd_add {K : PySem.W.Frag} {mg : Str → Option Value} : Snd K mg pAdd (fun x y H Q => (rI0 fun i j => .int (i + j)) x y H Q ∨ (∃ i j, x = .str i ∧ y = .str j ∧ i.length + j.length ≤ sizeLine ∧ Q (.str (i ++ j)) H) ∨ rCatA K x y H Q ∨ rCat x y H Q) := by
  intro W s as H h x y U V Q rh rx ry o
  unfold pAdd at o
  split at o
  · cases rx; cases ry; exact .inl ⟨_, _, rfl, rfl, o.here rh (.int _)⟩
  · cases rx; cases ry
    split at o
    · rename_i hl
      exact .inr (.inl ⟨_, _, rfl, rfl, by rw [sizeLine_eq]; exact hl, o.here rh (.str _)⟩)
    · exact o.elim
  · split at o
    · rename_i hl
      cases rx with
      | tup h1 r1 =>
        cases ry with
        | tup h2 r2 =>
          refine .inr (.inr (.inl ⟨_, _, _, _, rfl, rfl, h1, h2, by rw [sizeLine_eq, ← r1.length, ← r2.length]; exact hl, fun e => ?_, fun _ e => ?_, fun _ _ p np => ?_⟩))
          · subst e
            cases r1
            exact o.here rh (.tup h2 r2)
          · subst e
            cases r2
            rw [List.append_nil] at o
            exact o.here rh (.tup h1 r1)
          · exact o _ _ as (Stp.lay rh np) (rh.lay np) (.tup (SqT.of upd_same) ((r1.append r2).mono (Stp.lay rh np)))
    · exact o.elim
  · cases rx with
    | obj ha =>
      cases ry with
      | obj hb =>
        split at o
        · rename_i xs ys hx hy
          split at o
          · rename_i hl
            obtain ⟨a1, e1, us, g1, r1⟩ := rh.at_ _ _ hx
            obtain ⟨a2, e2, ws, g2, r2⟩ := rh.at_ _ _ hy
            rw [ha] at e1; cases e1
            rw [hb] at e2; cases e2
            refine .inr (.inr (.inr ⟨_, _, us, ws, rfl, rfl, g1, g2, by rw [sizeLine_eq, ← r1.length, ← r2.length]; exact hl, fun p np => ?_⟩))
            have S := Stp.new (o := .lst (us ++ ws)) rh np
            refine o _ _ _ S (rh.new np ⟨_, upd_same, (r1.append r2).mono S⟩) (.obj ?_)
            rw [List.getElem?_append_right (by rw [rh.len]; exact Nat.le_refl _), rh.len, Nat.sub_self]
            rfl
          · exact o.elim
        · exact o.elim
  · exact o.elim
theorem snd_sub {K : PySem.W.Frag} {mg : Str → Option Value} : Snd K mg pSub (rI0 fun i j => .int (i - j)) := by
  intro W s as H h x y U V Q rh rx ry o
  unfold pSub at o
  split at o
  · cases rx; cases ry; exact ⟨_, _, rfl, rfl, o.here rh (.int _)⟩
  · exact o.elim
theorem CMul.of {i : Int} (h : i.natAbs < 18446744073709551616) : -(2 ^ 64) < i ∧ i < 2 ^ 64 := by
  have e : (2 : Int) ^ 64 = 18446744073709551616 := by decide
  rw [e]
  omega
theorem snd_mul {K : PySem.W.Frag} {mg : Str → Option Value} : Snd K mg pMul (fun x y H Q => (rI CMul fun i j => .int (i * j)) x y H Q ∨ (rI CMulW fun i j => .int (i * j)) x y H Q) := by
  intro W s as H h x y U V Q rh rx ry o
  unfold pMul at o
  split at o
  · cases rx; cases ry
    split at o
    · rename_i i j hm
      have q := o.here rh (.int (i * j))
      unfold mulOk at hm
      rcases Bool.or_eq_true_iff.mp hm with hm | hm
      · rcases Bool.or_eq_true_iff.mp hm with hm | hm
        · exact .inl ⟨_, _, rfl, rfl, .inl (CMul.of (of_decide_eq_true hm)), q⟩
        · exact .inl ⟨_, _, rfl, rfl, .inr (CMul.of (of_decide_eq_true hm)), q⟩
      · have hm' : i.natAbs.log2 + j.natAbs.log2 < 1000000 := of_decide_eq_true hm
        exact .inr ⟨_, _, rfl, rfl, hm', q⟩
    · exact o.elim
  · exact o.elim
theorem snd_div {K : PySem.W.Frag} {mg : Str → Option Value} : Snd K mg pDiv (rI CDivW fun i j => .int (i / j)) := by
  intro W s as H h x y U V Q rh rx ry o
  unfold pDiv at o
  split at o
  · cases rx; cases ry
    split at o
    · rename_i hm
      exact ⟨_, _, rfl, rfl, hm, o.here rh (.int _)⟩
    · exact o.elim
  · exact o.elim
theorem snd_mod {K : PySem.W.Frag} {mg : Str → Option Value} : Snd K mg pMod (rI (fun _ j => 0 < j) fun i j => .int (i % j)) := by
  intro W s as H h x y U V Q rh rx ry o
  unfold pMod at o
  split at o
  · cases rx; cases ry
    split at o
    · rename_i hm
      exact ⟨_, _, rfl, rfl, hm, o.here rh (.int _)⟩
    · exact o.elim
  · exact o.elim
theorem snd_pow {K : PySem.W.Frag} {mg : Str → Option Value} : Snd K mg pPow (rI CPow fun i j => .int (i ^ j.toNat)) := by
  intro W s as H h x y U V Q rh rx ry o
  unfold pPow at o
  split at o
  · cases rx; cases ry
    split at o
    · rename_i hm
      exact ⟨_, _, rfl, rfl, hm, o.here rh (.int _)⟩
    · exact o.elim
  · exact o.elim
theorem ie_add (ha : PE X a (IE X.K X.mg W A)) (hb : PE X b (IE X.K X.mg W B)) : PE X (.BinOp a .Add b pos) (IE X.K X.mg W (eOp pAdd A B)) := ie_op (op_add.or (op_add_str.or (op_catA.or op_cat))) snd_add ha hb
theorem ie_sub (ha : PE X a (IE X.K X.mg W A)) (hb : PE X b (IE X.K X.mg W B)) : PE X (.BinOp a .Sub b pos) (IE X.K X.mg W (eOp pSub A B)) := ie_op op_sub snd_sub ha hb
theorem ie_mul (ha : PE X a (IE X.K X.mg W A)) (hb : PE X b (IE X.K X.mg W B)) : PE X (.BinOp a .Mult b pos) (IE X.K X.mg W (eOp pMul A B)) := ie_op (op_mul.or op_mulW) snd_mul ha hb
theorem ie_div (ha : PE X a (IE X.K X.mg W A)) (hb : PE X b (IE X.K X.mg W B)) : PE X (.BinOp a .FloorDiv b pos) (IE X.K X.mg W (eOp pDiv A B)) := ie_op op_fdivW snd_div ha hb
theorem ie_mod (ha : PE X a (IE X.K X.mg W A)) (hb : PE X b (IE X.K X.mg W B)) : PE X (.BinOp a .Mod b pos) (IE X.K X.mg W (eOp pMod A B)) := ie_op op_mod snd_mod ha hb
theorem ie_pow (ha : PE X a (IE X.K X.mg W A)) (hb : PE X b (IE X.K X.mg W B)) : PE X (.BinOp a .Pow b pos) (IE X.K X.mg W (eOp pPow A B)) := ie_op op_pow snd_pow ha hb
theorem ie_neg (ha : PE X a (IE X.K X.mg W A)) : PE X (.UnaryOp .USub a pos) (IE X.K X.mg W (eUn pNeg A)) := by
  refine peImp (pe_un un_neg ha) fun s H Q ⟨as, ρ, hh, f, x, o⟩ => ?_
  refine ⟨as, ρ, hh, f, x, (Out.bind o).imp fun V H1 ⟨as1, h1, p1, S1, x1, r1, o1⟩ => ?_⟩
  unfold pNeg at o1
  split at o1
  · cases r1; exact ⟨_, rfl, o1.here x1 (.int _)⟩
  · exact o1.elim
theorem snd_ci {K : PySem.W.Frag} {mg : Str → Option Value} {g : Int → Int → Bool} : Snd K mg (pCI g) (rI0 fun i j => .bl (g i j)) := by
  intro W s as H h x y U V Q rh rx ry o
  unfold pCI at o
  split at o
  · cases rx; cases ry; exact ⟨_, _, rfl, rfl, o.here rh (.bl _)⟩
  · exact o.elim
theorem isN_of {K : PySem.W.Frag} {mg : Str → Option Value} {as : List Addr} {H : Hp} {x : PV} {U : V} (r : RP K mg H as x U) (hg : ∀ z, x ≠ .glo z) : isN x = decide (U = .non) := by
  cases r with
  | glo => exact absurd rfl (hg _)
  | _ => rfl
theorem snd_isn {K : PySem.W.Frag} {mg : Str → Option Value} : Snd K mg pIsN (fun x y H Q => y = .non ∧ Q (.bl (decide (x = .non))) H) := by
  intro W s as H h x y U V Q rh rx ry o
  unfold pIsN at o
  split at o
  · cases ry
    split at o
    · exact o.elim
    · rename_i hg
      refine ⟨rfl, ?_⟩
      rw [← isN_of rx fun z e => hg z e]
      exact o.here rh (.bl _)
  · exact o.elim
theorem snd_notn {K : PySem.W.Frag} {mg : Str → Option Value} : Snd K mg pNotN (fun x y H Q => y = .non ∧ Q (.bl (!decide (x = .non))) H) := by
  intro W s as H h x y U V Q rh rx ry o
  unfold pNotN at o
  split at o
  · cases ry
    split at o
    · exact o.elim
    · rename_i hg
      refine ⟨rfl, ?_⟩
      rw [← isN_of rx fun z e => hg z e]
      exact o.here rh (.bl _)
  · exact o.elim
/-! ### data -/
theorem dpAll {K : PySem.W.Frag} {mg : Str → Option Value} {as : List Addr} {H : Hp} {g : PV → Option PyData} (hg : ∀ p v d, RP K mg H as p v → g p = some d → Dp K H v d) : ∀ {ps : List PV} {vs : List V} {ds : List PyData}, RPs K mg H as ps vs → optAll g ps = some ds → DpAll K H vs ds := by
  intro ps
  induction ps with
  | nil => intro vs ds r e; cases r; cases e; exact .nil
  | cons p ps ih =>
    intro vs ds r e
    cases r with
    | cons a b =>
      unfold optAll at e
      split at e
      · rename_i y ys e1 e2
        cases e
        exact .cons (hg _ _ _ a e1) (ih b e2)
      · cases e
theorem dp_of {K : PySem.W.Frag} {mg : Str → Option Value} {as : List Addr} {H : Hp} {h : IH} (x : RH K mg H as h) : ∀ (n : Nat) (p : PV) (v : V) (d : PyData), RP K mg H as p v → dataOf n h p = some d → Dp K H v d := by
  intro n
  induction n with
  | zero =>
    intro p v d r e
    cases r with
    | non => simp only [dataOf] at e; cases e; exact .non
    | bl b => simp only [dataOf] at e; cases e; exact .bl b
    | int i => simp only [dataOf] at e; cases e; exact .int i
    | str y => simp only [dataOf] at e; cases e; exact .str y
    | tup => simp only [dataOf] at e; cases e
    | fls => simp only [dataOf] at e; cases e
    | obj => simp only [dataOf] at e; cases e
    | glo => simp only [dataOf] at e; cases e
    | ty => simp only [dataOf] at e; cases e
    | key => simp only [dataOf] at e; cases e
  | succ n ih =>
    intro p v d r e
    cases r with
    | non => simp only [dataOf] at e; cases e; exact .non
    | bl b => simp only [dataOf] at e; cases e; exact .bl b
    | int i => simp only [dataOf] at e; cases e; exact .int i
    | str y => simp only [dataOf] at e; cases e; exact .str y
    | tup hs rs =>
      simp only [dataOf, Option.map_eq_some_iff] at e
      obtain ⟨ds, e1, rfl⟩ := e
      exact .tup hs (dpAll ih rs e1)
    | fls hs rs =>
      simp only [dataOf, Option.map_eq_some_iff] at e
      obtain ⟨ds, e1, rfl⟩ := e
      exact .lst hs.sq (dpAll ih rs e1)
    | obj ha =>
      simp only [dataOf] at e
      split at e
      · rename_i xs hx
        obtain ⟨a, h1, ys, h2, rs⟩ := x.at_ _ _ hx
        rw [ha] at h1; cases h1
        rw [Option.map_eq_some_iff] at e
        obtain ⟨ds, e1, rfl⟩ := e
        exact .lst (SqL.of h2) (dpAll ih rs e1)
      · cases e
    | glo => simp only [dataOf] at e; cases e
    | ty => simp only [dataOf] at e; cases e
    | key => simp only [dataOf] at e; cases e
theorem eqB_of {K : PySem.W.Frag} {mg : Str → Option Value} {as : List Addr} {H : Hp} {h : IH} {x y : PV} {U V : V} {q : Bool} (rh : RH K mg H as h) (rx : RP K mg H as x U) (ry : RP K mg H as y V) (e : pEqB x y h = some q) :
    ∃ d e, Dp K H U d ∧ Dp K H V e ∧ SeqAt.shaped d = true ∧ SeqAt.shaped e = true ∧ PyData.eqv d e = q := by
  unfold pEqB at e
  split at e
  · rename_i d1 d2 e1 e2
    split at e
    · rename_i hs
      obtain ⟨s1, s2⟩ := Bool.and_eq_true_iff.mp hs
      cases e
      exact ⟨d1, d2, dp_of rh _ _ _ _ rx e1, dp_of rh _ _ _ _ ry e2, s1, s2, rfl⟩
    · cases e
  · cases e
theorem snd_eq {K : PySem.W.Frag} {mg : Str → Option Value} : Snd K mg pEq (rEqD K) := by
  intro W s as H h x y U V Q rh rx ry o
  unfold pEq at o
  cases q : pEqB x y h with
  | none => rw [q] at o; exact o.elim
  | some z =>
    rw [q] at o
    obtain ⟨d, e, h1, h2, h3, h4, rfl⟩ := eqB_of rh rx ry q
    exact ⟨d, e, h1, h2, h3, h4, o.here rh (.bl _)⟩
theorem snd_ne {K : PySem.W.Frag} {mg : Str → Option Value} : Snd K mg pNe (rNeD K) := by
  intro W s as H h x y U V Q rh rx ry o
  unfold pNe at o
  cases q : pEqB x y h with
  | none => rw [q] at o; exact o.elim
  | some z =>
    rw [q] at o
    obtain ⟨d, e, h1, h2, h3, h4, rfl⟩ := eqB_of rh rx ry q
    exact ⟨d, e, h1, h2, h3, h4, o.here rh (.bl _)⟩
/-! ### subscripts -/
theorem RPs.atI {K : PySem.W.Frag} {mg : Str → Option Value} {as : List Addr} {H : Hp} {ps : List PV} {vs : List V} {i : Int} {p : PV} (r : RPs K mg H as ps vs) (e : L2.atI ps i = some p) : ∃ v, L2.atI vs i = some v ∧ RP K mg H as p v := by
  unfold L2.atI at e ⊢
  rw [← r.length]
  cases q : ixN ps.length i with
  | none => rw [q] at e; cases e
  | some j =>
    rw [q] at e
    exact r.get e
theorem snd_idx {K : PySem.W.Frag} {mg : Str → Option Value} : Snd K mg pIdx (rIx K) := by
  intro W s as H h x y U V Q rh rx ry o
  unfold pIdx at o
  split at o
  · cases rx with
    | tup hs rs =>
      cases ry
      unfold opt at o
      split at o
      · rename_i p e
        obtain ⟨v, e1, r1⟩ := rs.atI e
        exact .inr (.inl ⟨_, _, _, v, rfl, rfl, hs, e1, o.here rh r1⟩)
      · exact o.elim
  · cases rx with
    | fls hs rs =>
      cases ry
      unfold opt at o
      split at o
      · rename_i p e
        obtain ⟨v, e1, r1⟩ := rs.atI e
        exact .inl ⟨_, _, _, v, rfl, rfl, hs.sq, e1, o.here rh r1⟩
      · exact o.elim
  · cases rx
    cases ry
    split at o
    · rename_i hl
      unfold opt at o
      split at o
      · rename_i p e
        rw [Option.map_eq_some_iff] at e
        obtain ⟨c, e1, rfl⟩ := e
        exact .inr (.inr ⟨_, _, c, rfl, rfl, by rw [sizeLine_eq]; exact hl, e1, o.here rh (.str _)⟩)
      · exact o.elim
    · exact o.elim
  · cases rx with
    | obj ha =>
      cases ry
      split at o
      · rename_i xs hx
        obtain ⟨a, h1, ys, h2, rs⟩ := rh.at_ _ _ hx
        rw [ha] at h1; cases h1
        unfold opt at o
        split at o
        · rename_i p e
          obtain ⟨v, e1, r1⟩ := rs.atI e
          exact .inl ⟨_, _, _, v, rfl, rfl, SqL.of h2, e1, o.here rh r1⟩
        · exact o.elim
      · exact o.elim
  · exact o.elim
theorem ie_idx (ha : PE X a (IE X.K X.mg W A)) (hb : PE X b (IE X.K X.mg W B)) (hs : PlainIx b := by intro _ _; rfl) : PE X (.Subscript a b pos) (IE X.K X.mg W (eOp pIdx A B)) :=
  peImp (pe_ix ix_seq ha hb hs) fun _ _ _ h => tOp_of (ta := IE X.K X.mg W A) (tb := IE X.K X.mg W B) snd_idx h
abbrev IO (K : PySem.W.Frag) (mg : Str → Option Value) (W : WX) (A : OX) : TO := IG K mg (fun _ _ p v => p = v) W A
theorem poImp {oe : Option Expr} {t t' : TO} (h : PO X oe t) (hi : ∀ s H Q, t' s H Q → t s H Q) : PO X oe t' := ⟨fun pins s σ H Q I q => h.run pins s σ H Q I (hi σ H Q q)⟩
theorem io_none : PO X none (IO X.K X.mg W oNone) := poImp po_none fun s H Q ⟨as, ρ, hh, f, x, o⟩ => o.here x rfl
theorem io_some (h : PE X e (IE X.K X.mg W A)) : PO X (some e) (IO X.K X.mg W (oSome A)) := by
  refine poImp (po_some h) fun s H Q ⟨as, ρ, hh, f, x, o⟩ => ?_
  refine ⟨as, ρ, hh, f, x, (Out.bind o).imp fun V H1 ⟨as1, h1, p1, S1, x1, r1, o1⟩ => ?_⟩
  split at o1
  · cases r1; exact ⟨_, rfl, o1.here x1 rfl⟩
  · exact o1.elim
theorem RPs.cut {K : PySem.W.Frag} {mg : Str → Option Value} {as : List Addr} {H : Hp} {ps : List PV} {vs : List V} {lo hi : Option Int} (r : RPs K mg H as ps vs) : RPs K mg H as (cutA ps lo hi) (cutV vs lo hi) := by
  unfold cutA cutV
  rw [← r.length]
  exact (r.drop _).take _
theorem ie_sl {lo hi : Option Expr} {p2 : Pos} {l u : OX} (he : PE X e (IE X.K X.mg W A)) (hl : PO X lo (IO X.K X.mg W l)) (hu : PO X hi (IO X.K X.mg W u)) : PE X (.Subscript e (.Slice lo hi none p2) pos) (IE X.K X.mg W (eSl A l u)) := by
  refine peImp (pe_slice (sl_tupA.or sl_list) he hl hu) fun s H Q ⟨as, ρ, hh, f, x, o⟩ => ?_
  refine ⟨as, ρ, hh, f, x, (Out.bind o).imp fun V H1 ⟨as1, h1, p1, S1, x1, r1, o1⟩ => ?_⟩
  refine ⟨as1, ρ, h1, f.mono S1, x1, (Out.bind o1).imp fun lo' H2 ⟨as2, h2, p2, S2, x2, r2, o2⟩ => ?_⟩
  refine ⟨as2, ρ, h2, (f.mono S1).mono S2, x2, (Out.bind o2).imp fun hi' H3 ⟨as3, h3, p3, S3, x3, r3, o3⟩ => ?_⟩
  obtain rfl : p2 = lo' := r2
  obtain rfl : p3 = hi' := r3
  have r1' := (r1.mono S2).mono S3
  unfold pSl at o3
  split at o3
  · cases r1' with
    | tup hs rs =>
      refine .inl ⟨_, _, rfl, hs, fun hw => ?_, fun _ p np => ?_⟩
      · have e : ∀ {α : Type} (l : List α), HT.sIx l.length 0 p2 = 0 ∧ HT.sIx l.length l.length p3 = l.length → cutA l p2 p3 = l := fun l z => by
          unfold cutA
          rw [z.1, z.2]
          simp
        rw [← rs.length] at hw
        rw [e _ hw] at o3
        exact o3.here x3 (.tup hs rs)
      · exact o3 _ _ as3 (Stp.lay x3 np) (x3.lay np) (.tup (SqT.of upd_same) (rs.cut.mono (Stp.lay x3 np)))
  · cases r1' with
    | obj ha =>
      split at o3
      · rename_i xs hx
        obtain ⟨a, g1, ys, g2, rs⟩ := x3.at_ _ _ hx
        rw [ha] at g1; cases g1
        refine .inr ⟨_, _, rfl, SqL.of g2, fun p np => ?_⟩
        have S := Stp.new (o := .lst (cutV ys p2 p3)) x3 np
        refine o3 _ _ _ S (x3.new np ⟨_, upd_same, rs.cut.mono S⟩) (.obj ?_)
        rw [List.getElem?_append_right (by rw [x3.len]; exact Nat.le_refl _), x3.len, Nat.sub_self]
        rfl
      · exact o3.elim
  · exact o3.elim
/-! ### displays -/
theorem ie_tup {x1} (h : PA X es (IA X.K X.mg W L)) : PE X (.Tuple es x1 pos) (IE X.K X.mg W (eTup L)) := by
  refine peImp (pe_tup h) fun s H Q ⟨as, ρ, hh, f, x, o⟩ => ?_
  refine ⟨as, ρ, hh, f, x, (Out.bind o).imp fun Vs H1 ⟨as1, h1, p1, S1, x1, r1, o1⟩ => ?_⟩
  split at o1
  · rename_i hl
    refine ⟨by rw [sizeLine_eq, ← r1.length]; exact hl, fun p np => ?_⟩
    exact o1 _ _ as1 (Stp.lay x1 np) (x1.lay np) (.tup (SqT.of upd_same) (r1.mono (Stp.lay x1 np)))
  · exact o1.elim
theorem mkL_of {K : PySem.W.Frag} {mg : Str → Option Value} {s : L2.St} {as : List Addr} {H : Hp} {h : IH} {ps : List PV} {vs : List V} {Q : VK} (x : RH K mg H as h) (r : RPs K mg H as ps vs) (o : Out K mg (fun H as p v => RP K mg H as p v) W s as H Q (mkL ps h)) :
    vs.length ≤ sizeLine ∧ ∀ p, H p = none → Q (.ref p) (upd H p (.lst vs)) := by
  unfold mkL at o
  split at o
  · rename_i hl
    refine ⟨by rw [sizeLine_eq, ← r.length]; exact hl, fun p np => ?_⟩
    have S := Stp.new (o := .lst vs) x np
    refine o _ _ _ S (x.new np ⟨_, upd_same, r.mono S⟩) (.obj ?_)
    rw [List.getElem?_append_right (by rw [x.len]; exact Nat.le_refl _), x.len, Nat.sub_self]
    rfl
  · exact o.elim
theorem ie_lst (h : PA X es (IA X.K X.mg W L)) : PE X (.List es pos) (IE X.K X.mg W (eLst L)) := by
  refine peImp (pe_lst h) fun s H Q ⟨as, ρ, hh, f, x, o⟩ => ?_
  exact ⟨as, ρ, hh, f, x, (Out.bind o).imp fun Vs H1 ⟨as1, h1, p1, S1, x1, r1, o1⟩ => mkL_of x1 r1 o1⟩
end
end WR

/-! what loops walk: lists, tuples, ranges, enumerate, zip of lists and tuples in any mix -/
namespace PySem
open Builtin Builtin.Str
theorem WR_meets_enum1 {v : Value} {o : Obj} {H : Heap → Prop} (B : Begins v o H) :
    Meets (Builtin.«enumerate.__new__» ⟨[.type "enumerate", v], []⟩) (fun _ R s => H s.heap ∧
      R (.ok (.ret (.ref (s.heap.push o).objs.size))) { s with heap := (s.heap.push o).push { cls := .type "enumerate", data := .fields #[.none, .bool false, .ref s.heap.objs.size, rawInt 0, .none, .none] } }) :=
  .of_wp fun prog w A R s h => by
    obtain ⟨hp, g, d, tk, os⟩ := s; obtain ⟨h1, h⟩ := h
    have hsub := sub_enumerate
    have q1 : ∀ {A' : Around} {E : Value → Shared → Prop} {Q : Value → Shared → Prop}, Q (.ref hp.objs.size) ⟨hp.push o, g, d, tk, os⟩ → wpAny (model prog w) A' (pyIter v) Q E ⟨hp, g, d, tk, os⟩ :=
      fun q => B.iter prog w _ _ ⟨hp, g, d, tk, os⟩ _ h1 q
    wp_walk using q1
    refine wpAny_stack_any fun st => wpAny_pure ?_
    split
    · rename_i c _ _ _ _ _
      cases (c == Value.type "enumerate")
      · wp_walk using q1
        exact ⟨_, rfl, h⟩
      · wp_walk using q1
        exact ⟨_, rfl, h⟩
    · wp_walk using q1
      exact ⟨_, rfl, h⟩
theorem WR_enum1 {prog : Program} {w : World} {A : Around} {E : Value → Shared → Prop} {s : Shared} {v : Value} {o : Obj} {H : Heap → Prop} {Q : Value → Shared → Prop} (B : Begins v o H) (h1 : H s.heap)
    (h : ∀ h', IsEnum h' (s.heap.objs.size + 1) s.heap.objs.size 0 .none → h'.get? s.heap.objs.size = some o → h'.objs.size = s.heap.objs.size + 2 →
      (∀ b o, s.heap.get? b = some o → h'.get? b = some o) → Q (.ref (s.heap.objs.size + 1)) { s with heap := h' }) :
    wpAny (model prog w) A (call (.type "enumerate") [v]) Q E s := by
  refine callType_new F.called_enumerate (by decide) (F.typeCall_enumerate_1 _) (F.newCall_enumerate_1 _) (fun obj => F.args_object_init_2 obj _) F.entry_enumerate_new
    (WR_meets_enum1 B) ⟨h1, ?_⟩
  have hz : (s.heap.push o).objs.size = s.heap.objs.size + 1 := Heap.size_push ..
  show _ ∧ _
  rw [hz]
  have he : IsEnum ((s.heap.push o).push { cls := .type "enumerate", data := .fields #[.none, .bool false, .ref s.heap.objs.size, rawInt 0, .none, .none] }) (s.heap.objs.size + 1) s.heap.objs.size 0 .none := by
    have := Heap.get?_push_size (s.heap.push o) (o := { cls := .type "enumerate", data := .fields #[.none, .bool false, .ref s.heap.objs.size, rawInt 0, .none, .none] }) rfl
    rw [hz] at this; exact this
  exact ⟨⟨_, he, rfl⟩, h _ he (Heap.get?_push_of_some _ (Heap.get?_push_size _ B.free)) (by rw [Heap.size_push, hz]) fun b o x => Heap.get?_push_of_some _ (Heap.get?_push_of_some _ x)⟩
end PySem
namespace WR
open PySem PySem.Spec PyProof.Rows L2
/-! ### a list or a tuple -/
def SqK (t : Bool) (K : PySem.W.Frag) (H : Hp) (a : Addr) (xs : List V) : Prop := match t with
  | true => SqT K H a xs
  | false => SqL K H a xs
def ItAt (t : Bool) (h : Heap) (it a : Addr) (i : Nat) : Prop := match t with
  | true => h.IsTupleIter it a i
  | false => h.IsListIter it a i
def CtAt (t : Bool) (h : Heap) (a : Addr) (its : Array Value) : Prop := match t with
  | true => h.IsTuple a its
  | false => h.IsList a its
def itO (t : Bool) (a : Addr) : Obj := match t with
  | true => { cls := .type "tuple_iterator", data := .fields #[.ref a, .int 0 0] }
  | false => { cls := .type "list_iterator", data := .fields #[.ref a, .int 0 0] }
theorem ItAt.at {t : Bool} {h h' : Heap} {it a : Addr} {i : Nat} (x : ItAt t h it a i) (k : ∀ o, h.get? it = some o → h'.get? it = some o) : ItAt t h' it a i := by
  cases t with
  | true => exact Heap.IsTupleIter.at x k
  | false => exact Heap.IsListIter.at x k
theorem ItAt.obj {t : Bool} {h : Heap} {it a : Addr} {i : Nat} (x : ItAt t h it a i) : ∃ o, h.get? it = some o ∧ ∀ v, o.data ≠ .cell v := by
  cases t with
  | true => obtain ⟨o, e, _, d⟩ := x; exact ⟨o, e, fun v q => by rw [d] at q; cases q⟩
  | false => obtain ⟨o, e, _, d⟩ := x; exact ⟨o, e, fun v q => by rw [d] at q; cases q⟩
theorem ItAt.new {t : Bool} {h : Heap} {it a : Addr} (e : h.get? it = some (itO t a)) : ItAt t h it a 0 := by
  cases t with
  | true => exact ⟨_, e, rfl, rfl⟩
  | false => exact ⟨_, e, rfl, rfl⟩
theorem draws_k (t : Bool) {prog : Program} {w : World} {A : Around} (hh : A.handled = none) (it l : Addr) (hne : l ≠ it) (items : Array Value) :
    Draws prog w A it [it, l] items.size (fun i v => items[i]? = some v) (fun i h => ItAt t h it l i ∧ CtAt t h l items) := by
  cases t with
  | true => exact Draws.tuple hh it l hne items
  | false => exact Draws.list hh it l hne items
theorem begins_k (t : Bool) (l : Addr) (items : Array Value) : Begins (.ref l) (itO t l) fun h => CtAt t h l items := by
  cases t with
  | true => exact begins_tuple l items
  | false => exact begins_list l items
section
variable {X : Cx} {pins : List (Addr × Obj)} {σ : L2.St} {H : Hp} {s : Shared} {a : Addr} {xs ys : List V} {t : Bool}
theorem seqK (I : Inv X pins σ H s) (h : SqK t X.K H a xs) : ∃ its : List Value, Vals xs its ∧ CtAt t s.heap a its.toArray := by
  cases t with
  | true => obtain ⟨its, r, p, _⟩ := I.tuple h; exact ⟨its, r, p⟩
  | false => obtain ⟨its, r, p, _⟩ := I.list h; exact ⟨its, r, p.isList⟩
theorem seqK_inj (I : Inv X pins σ H s) (h : SqK t X.K H a xs) (h' : SqK t X.K H a ys) : xs = ys := by
  cases t with
  | true => exact I.tuple_inj h h'
  | false => exact I.list_inj h h'
end
/-! ### enumerate -/
def ItE (t : Bool) (K : PySem.W.Frag) (a : Addr) : It :=
  ⟨fun i H => ∃ (xs : List V) (x : V), SqK t K H a xs ∧ xs[i]? = some x, fun i H v H' => ∃ T x, v = .ref T ∧ H T = none ∧ H' = upd H T (.tup [.int (i : Nat), x]) ∧ ∀ xs, SqK t K H a xs → xs[i]? = some x, fun i H => ∃ xs : List V, SqK t K H a xs ∧ xs.length = i⟩
theorem turn_E {P : Program} {w : World} {K : PySem.W.Frag} {elts : List Expr} {kk : Nat} {tpos : Pos} (t : Bool) (a e it : Addr) (hei : e ≠ it) (hea : e ≠ a) (hai : a ≠ it) :
    Turn P w K (.Tuple elts kk tpos) (ItE t K a) [e, it] e (fun i h => (∃ old, IsEnum h e it ((i : Nat) : Int) old) ∧ ItAt t h it a i) where
  mem := by simp
  obj := fun i h st b hb => by
    obtain ⟨⟨old, he⟩, hi⟩ := st
    have e' : b = e ∨ b = it := by simpa using hb
    rcases e' with z | z
    · rw [z]; exact ⟨_, he, fun v q => nomatch q⟩
    · rw [z]; exact hi.obj
  keep := fun i h h' st k => let ⟨⟨old, he⟩, hi⟩ := st; ⟨⟨old, k e (by simp) _ he⟩, hi.at fun o q => k it (by simp) o q⟩
  item := by
    intro X hP hw hK hc i pins s σ H E I hf st hg
    subst hP hw hK
    obtain ⟨⟨old, he⟩, hit⟩ := st
    obtain ⟨xs, x, hq, hx⟩ := hg
    obtain ⟨its, rv, p⟩ := seqK I hq
    obtain ⟨u, hu, ru⟩ := rv.get hx
    have hel : e < s.heap.objs.size := Heap.lt_size he
    have hil : it < s.heap.objs.size := by obtain ⟨_, q, _⟩ := hit.obj; exact Heap.lt_size q
    have hlt : i < its.toArray.size := by
      have := (List.getElem?_eq_some_iff.mp hu).1
      simpa using this
    refine wpAny_pyNext_enum_itemD (draws_k t (A := X.A.in1) (I.ok.hd hc) it a hai its.toArray) he ⟨hit, p⟩ hlt hei (by simp [hei, hea]) fun x' h' tk hP ho hst hT hsz hk => ?_
    have ex : x' = u := by
      have h1 : its.toArray[i]? = some u := by simpa using hu
      rw [h1] at hP
      exact (Option.some.inj hP).symm
    subst ex
    refine ⟨_, rfl, wpAny_letOwnedTupleGo_enum (s := { s with heap := h', toks := tk + 1 }) ho fun h'' he' sb => ?_⟩
    have hT2 : h''.get? s.heap.objs.size = some { cls := .type "tuple", data := .seq #[.int i tk, x'] } := (sb.2 _ (Nat.ne_of_gt hel)).trans hT
    have new : ObjOk X.prog X.w (upd H s.heap.objs.size (.tup [.int (i : Nat), x])) h'' s.heap.objs.size (.tup [.int (i : Nat), x]) :=
      ⟨by show 2 ≤ sizeLine; decide, [.int i tk, x'], .cons ⟨_, rfl⟩ (.cons ru .nil), ⟨_, hT2, rfl, _, rfl⟩⟩
    have I1 : Inv X pins σ (upd H s.heap.objs.size (.tup [.int (i : Nat), x])) { s with heap := h'', toks := tk + 1 } :=
      I.turnedNew (ch := [e, it]) (fun b ob hb q => (sb.2 b (fun z => hb (by simp [z]))).trans (hk b ob (fun z => hb (by simp [z])) (fun z => hb (by simp [z])) q)) hf (Nat.le_refl _) new
    refine ⟨.ref s.heap.objs.size, _, I1, rfl, ⟨_, x, rfl, I.hok.fresh (Nat.le_refl _), rfl, fun ys hy => by rw [seqK_inj I hy hq]; exact hx⟩, ⟨⟨x', ?_⟩, hst.1.at fun o q => (sb.2 it (Ne.symm hei)).trans q⟩, fun b hb => ?_⟩
    · have e1 : ((i + 1 : Nat) : Int) = (i : Int) + 1 := by omega
      rw [e1]; exact he'
    · have hb' : b < s.heap.objs.size := by
        have e' : b = e ∨ b = it := by simpa using hb
        rcases e' with z | z
        · rw [z]; exact hel
        · rw [z]; exact hil
      rw [upd_ne (Nat.ne_of_lt hb')]
      exact (hf b hb).1
  done := by
    intro X hP hw hK hc i pins s σ H E I hf st hg
    subst hP hw hK
    obtain ⟨⟨old, he⟩, hit⟩ := st
    obtain ⟨xs, hq, hx⟩ := hg
    obtain ⟨its, rv, p⟩ := seqK I hq
    obtain ⟨f0, f1, f2, f3, f4, f5⟩ := hf it (by simp)
    have hl := rv.length
    have en : its.toArray.size = i := by simp; omega
    subst en
    exact wpAny_pyNext_enum_endD (draws_k t (A := X.A.in1) (I.ok.hd hc) it a hai its.toArray) he ⟨hit, p⟩ fun h' eb => ⟨rfl, I.turned (t' := s.toks) (fun b o hb q => eb b o hb q) f0 f1 f3 f4 f5⟩
  self := fun A i s Q E st h => let ⟨⟨_, he⟩, _⟩ := st; wpAny_pyIter_enum he h
def iE (K : PySem.W.Frag) (ta : TA) : TI := fun σ H R => ta σ H fun vs H1 => ∃ t a xs, vs = [.ref a] ∧ SqK t K H1 a xs ∧ R (ItE t K a) H1
theorem pi_E {X : Cx} {e : Expr} {ta : TA} {p pos tpos : Pos} {elts : List Expr} {kk : Nat} (hg : Gl X "enumerate") (hm : X.mg "enumerate" = none) (ha : PA X [e] ta) (hs : starEach [e] X.env = [(false, eval e X.env)] := by rfl) :
    PI X (.Tuple elts kk tpos) (.Call (.Name "enumerate" p) [e] [] pos) (iE X.K ta) := by
  refine ⟨fun pins s σ H R I h => ?_⟩
  refine Call_ (ld_blt I hg hm boot_enumerate (PyProof.Rows.callWith_type1 (thn (ha.run pos pins s σ H _ I h) fun us s1 ⟨vs, H1, I1, r1, q1⟩ => ?_) hs rfl))
  obtain ⟨t, a, xs, ex, hq, q⟩ := q1
  subst ex
  cases r1 with
  | cons r rr =>
    cases rr
    cases r
    obtain ⟨its, rv, p'⟩ := seqK I1 hq
    have hal : a < s1.heap.objs.size := by
      cases t with
      | true => obtain ⟨o, e, _⟩ := p'; exact Heap.lt_size e
      | false => obtain ⟨o, e, _⟩ := p'; exact Heap.lt_size e
    refine WR_enum1 (begins_k t a its.toArray) p' fun h' he hit hsz hk => wpAny_pyIter_enum he ?_
    have I2 : Inv X pins σ H1 { s1 with heap := h' } := I1.kept (t' := s1.toks) hk
    refine ⟨s1.heap.objs.size + 1, [s1.heap.objs.size + 1, s1.heap.objs.size], _, _, H1, rfl, I2, turn_E t a (s1.heap.objs.size + 1) s1.heap.objs.size (Nat.succ_ne_self _) (Nat.ne_of_gt (Nat.lt_succ_of_lt hal)) (Nat.ne_of_lt hal), ⟨⟨.none, he⟩, ItAt.new hit⟩, fun b hb => ?_, q⟩
    have e' : b = s1.heap.objs.size + 1 ∨ b = s1.heap.objs.size := by simpa using hb
    have hle : s1.heap.objs.size ≤ b := by
      rcases e' with z | z
      · rw [z]; exact Nat.le_add_right _ _
      · rw [z]; exact Nat.le_refl _
    exact I1.fpOk hle (I1.hok.fresh hle)
/-! ### zip -/
def ItZ (t u : Bool) (K : PySem.W.Frag) (a b : Addr) : It :=
  ⟨fun i H => ∃ (xs ys : List V) (x y : V), SqK t K H a xs ∧ SqK u K H b ys ∧ xs[i]? = some x ∧ ys[i]? = some y,
    fun i H v H' => ∃ T x y, v = .ref T ∧ H T = none ∧ H' = upd H T (.tup [x, y]) ∧ (∀ xs, SqK t K H a xs → xs[i]? = some x) ∧ ∀ ys, SqK u K H b ys → ys[i]? = some y,
    fun i H => ∃ xs ys : List V, SqK t K H a xs ∧ SqK u K H b ys ∧ i ≤ xs.length ∧ i ≤ ys.length ∧ (i = xs.length ∨ i = ys.length)⟩
theorem turn_Z {P : Program} {w : World} {K : PySem.W.Frag} {elts : List Expr} {kk : Nat} {tpos : Pos} (t u : Bool) {a b z TI TO i1 i2 : Addr} (S : ZipSep2 z TI TO i1 i2 [i1, a] [i2, b]) (ha : a ≠ i1) (hb : b ≠ i2) :
    Turn P w K (.Tuple elts kk tpos) (ItZ t u K a b) [z, TI, TO, i1, i2] z (fun i h => IsZip h z TI TO .none ∧ IsTupOf2 h TI (.ref i1) (.ref i2) ∧ (∃ x y, IsTupOf2 h TO x y) ∧ ItAt t h i1 a i ∧ ItAt u h i2 b i) where
  mem := by simp
  obj := fun i h st c hc => by
    obtain ⟨hz, hTI, ⟨x, y, hTO⟩, h1, h2⟩ := st
    have e' : c = z ∨ c = TI ∨ c = TO ∨ c = i1 ∨ c = i2 := by simpa using hc
    rcases e' with q | q | q | q | q
    · rw [q]; exact ⟨_, hz, fun v q => nomatch q⟩
    · rw [q]; exact ⟨_, hTI, fun v q => nomatch q⟩
    · rw [q]; exact ⟨_, hTO, fun v q => nomatch q⟩
    · rw [q]; exact h1.obj
    · rw [q]; exact h2.obj
  keep := fun i h h' st k => by
    obtain ⟨hz, hTI, ⟨x, y, hTO⟩, h1, h2⟩ := st
    exact ⟨k z (by simp) _ hz, k TI (by simp) _ hTI, ⟨x, y, k TO (by simp) _ hTO⟩, h1.at fun o q => k i1 (by simp) o q, h2.at fun o q => k i2 (by simp) o q⟩
  item := by
    intro X hP hw hK hc i pins s σ H E I hf st hg
    subst hP hw hK
    obtain ⟨hz, hTI, ⟨x0, y0, hTO⟩, h1, h2⟩ := st
    obtain ⟨xs, ys, x, y, hqx, hqy, hx, hy⟩ := hg
    obtain ⟨its, rv, p⟩ := seqK I hqx
    obtain ⟨its2, rv2, p2⟩ := seqK I hqy
    obtain ⟨v1, hu, ru⟩ := rv.get hx
    obtain ⟨v2, hu2, ru2⟩ := rv2.get hy
    have hzl : z < s.heap.objs.size := Heap.lt_size hz
    have l1 : i < its.toArray.size := by
      have := (List.getElem?_eq_some_iff.mp hu).1
      simpa using this
    have l2 : i < its2.toArray.size := by
      have := (List.getElem?_eq_some_iff.mp hu2).1
      simpa using this
    refine wpAny_pyNext_zipD2_item S (draws_k t (A := X.A.in1) (I.ok.hd hc) i1 a ha its.toArray) (draws_k u (A := X.A.in1) (I.ok.hd hc) i2 b hb its2.toArray) hz hTI hTO ⟨h1, p⟩ ⟨h2, p2⟩ l1 l2 fun w1 w2 h' tk hP1 hP2 z' TO' h1' h2' hT hsz hk => ?_
    have e1 : w1 = v1 := by
      have q : its.toArray[i]? = some v1 := by simpa using hu
      rw [q] at hP1
      exact (Option.some.inj hP1).symm
    have e2 : w2 = v2 := by
      have q : its2.toArray[i]? = some v2 := by simpa using hu2
      rw [q] at hP2
      exact (Option.some.inj hP2).symm
    subst e1
    subst e2
    refine ⟨_, rfl, wpAny_letOwnedTupleGo_zip (s := { s with heap := h', toks := tk }) z' fun h'' z'' sb => ?_⟩
    have hT2 : h''.get? s.heap.objs.size = some { cls := .type "tuple", data := .seq #[w1, w2] } := (sb.2 _ (Nat.ne_of_gt hzl)).trans hT
    have new : ObjOk X.prog X.w (upd H s.heap.objs.size (.tup [x, y])) h'' s.heap.objs.size (.tup [x, y]) :=
      ⟨by show 2 ≤ sizeLine; decide, [w1, w2], .cons ru (.cons ru2 .nil), ⟨_, hT2, rfl, _, rfl⟩⟩
    have I1 : Inv X pins σ (upd H s.heap.objs.size (.tup [x, y])) { s with heap := h'', toks := tk } :=
      I.turnedNew (t' := tk) (ch := [z, TI, TO, i1, i2]) (fun c o hb q => (sb.2 c (fun q' => hb (by simp [q']))).trans (hk c o (fun q' => hb (by simp [q'])) (fun q' => hb (by simp [q'])) (fun q' => hb (by simp [q'])) (fun q' => hb (by simp [q'])) q)) hf (Nat.le_refl _) new
    refine ⟨.ref s.heap.objs.size, _, I1, rfl, ⟨_, x, y, rfl, I.hok.fresh (Nat.le_refl _), rfl, fun l hl => by rw [seqK_inj I hl hqx]; exact hx, fun l hl => by rw [seqK_inj I hl hqy]; exact hy⟩, ⟨z'', ?_, ⟨w1, w2, ?_⟩, ?_, ?_⟩, fun c hcm => ?_⟩
    · exact (sb.2 _ S.TIz).trans (hk _ _ S.TIz S.TITO S.TIi1 S.TIi2 hTI)
    · exact (sb.2 _ S.TOz).trans TO'
    · exact h1'.1.at fun o q => (sb.2 _ (Ne.symm S.zi1)).trans q
    · exact h2'.1.at fun o q => (sb.2 _ (Ne.symm S.zi2)).trans q
    · have hlt : c < s.heap.objs.size := by
        have e' : c = z ∨ c = TI ∨ c = TO ∨ c = i1 ∨ c = i2 := by simpa using hcm
        rcases e' with q | q | q | q | q
        · rw [q]; exact hzl
        · rw [q]; exact Heap.lt_size hTI
        · rw [q]; exact Heap.lt_size hTO
        · rw [q]; obtain ⟨_, e1, _⟩ := h1.obj; exact Heap.lt_size e1
        · rw [q]; obtain ⟨_, e2, _⟩ := h2.obj; exact Heap.lt_size e2
      rw [upd_ne (Nat.ne_of_lt hlt)]
      exact (hf c hcm).1
  done := by
    intro X hP hw hK hc i pins s σ H E I hf st hg
    subst hP hw hK
    obtain ⟨hz, hTI, ⟨x0, y0, hTO⟩, h1, h2⟩ := st
    obtain ⟨xs, ys, hqx, hqy, g1, g2, hend⟩ := hg
    obtain ⟨its, rv, p⟩ := seqK I hqx
    obtain ⟨its2, rv2, p2⟩ := seqK I hqy
    have l1 := rv.length
    have l2 := rv2.length
    refine wpAny_pyNext_zipD2_end S (draws_k t (A := X.A.in1) (I.ok.hd hc) i1 a ha its.toArray) (draws_k u (A := X.A.in1) (I.ok.hd hc) i2 b hb its2.toArray) hz hTI hTO ⟨h1, p⟩ ⟨h2, p2⟩ (by simp; omega) (by simp; omega) (by simp; omega) fun h' tk hk => ⟨rfl, ?_⟩
    exact I.turnedL (t' := tk) (ch := [z, TI, TO, i1, i2]) (fun c o hb q =>
      hk c o (fun q' => hb (by simp [q'])) (fun q' => hb (by simp [q'])) (fun q' => hb (by simp [q'])) (fun q' => hb (by simp [q'])) q) hf
  self := fun A i s Q E st h => wpAny_pyIter_zip st.1 h
def iZ (K : PySem.W.Frag) (ta : TA) : TI := fun σ H R => ta σ H fun vs H1 => ∃ t u a b xs ys, vs = [.ref a, .ref b] ∧ SqK t K H1 a xs ∧ SqK u K H1 b ys ∧ R (ItZ t u K a b) H1
theorem pi_Z {X : Cx} {e e2 : Expr} {ta : TA} {p pos tpos : Pos} {elts : List Expr} {kk : Nat} (hg : Gl X "zip") (hm : X.mg "zip" = none) (ha : PA X [e, e2] ta)
    (hs : starEach [e, e2] X.env = (false, eval e X.env) :: starEach [e2] X.env := by rfl) (hpl : (backTo pos (starEach [e2] X.env)).any (·.1) = false := by rfl) :
    PI X (.Tuple elts kk tpos) (.Call (.Name "zip" p) [e, e2] [] pos) (iZ X.K ta) := by
  refine ⟨fun pins s σ H R I h => ?_⟩
  refine Call_ (ld_blt I hg hm PyProof.Rows.boot_zip (PyProof.Rows.callWith_type1 (thn (ha.run pos pins s σ H _ I h) fun us s1 ⟨vs, H1, I1, r1, q1⟩ => ?_) hs hpl))
  obtain ⟨t, u, a, b, xs, ys, ex, hqx, hqy, q⟩ := q1
  subst ex
  cases r1 with
  | cons r rr =>
    cases rr with
    | cons r' rr =>
      cases rr
      cases r
      cases r'
      obtain ⟨its, rv, p1⟩ := seqK I1 hqx
      obtain ⟨its2, rv2, p2⟩ := seqK I1 hqy
      have lt : ∀ {t : Bool} {a : Addr} {its : Array Value}, CtAt t s1.heap a its → a < s1.heap.objs.size := fun {t a its} p' => by
        cases t with
        | true => obtain ⟨o, e, _⟩ := p'; exact Heap.lt_size e
        | false => obtain ⟨o, e, _⟩ := p'; exact Heap.lt_size e
      have la := lt p1
      have lb := lt p2
      refine zip_begins2 (begins_k t a its.toArray) (begins_k u b its2.toArray) p1 p2 fun h' hz hTI hTO hi1 hi2 hsz hk => wpAny_pyIter_zip hz ?_
      have I2 : Inv X pins σ H1 { s1 with heap := h' } := I1.kept (t' := s1.toks) hk
      refine ⟨_, [s1.heap.objs.size + 4, s1.heap.objs.size + 2, s1.heap.objs.size + 3, s1.heap.objs.size, s1.heap.objs.size + 1], _, _, H1, rfl, I2,
        turn_Z t u (zip_sep2 (fp1 := [a]) (fp2 := [b]) (by simpa using la) (by simpa using lb)) (Nat.ne_of_lt la) (Nat.ne_of_lt (Nat.lt_succ_of_lt lb)), ⟨hz, hTI, ⟨_, _, hTO⟩, ItAt.new hi1, ItAt.new hi2⟩, fun c hc => ?_, q⟩
      have hle : s1.heap.objs.size ≤ c := by
        simp at hc
        rcases hc with z | z | z | z | z <;> rw [z] <;> omega
      exact I1.fpOk hle (I1.hok.fresh hle)
/-! ### the code of what is walked -/
@[simp] def itList (xs : List PV) : ItF := fun i _ => some xs[i]?
@[simp] def itObj (n : Nat) : ItF := fun i h => match h[n]? with
  | some (.lst xs) => some xs[i]?
  | _ => none
@[simp] def eIter (A : EX) : Fm → IH → Res ItF := fun r h => (A r h).bind fun v h1 => match v with
  | .tup xs => .ok (itList xs) h1
  | .fls xs => .ok (itList xs) h1
  | .obj n => (match h1[n]? with
    | some (.lst _) => .ok (itObj n) h1
    | _ => .bad)
  | _ => .bad
@[simp] def itRange (lo : Int) (n : Nat) : ItF := fun i _ => some (if i < n then some (.int (lo + i)) else none)
def rngOk (i : Int) : Bool := decide (i.natAbs < 4611686018427387904)
theorem rngOk_of {i : Int} (h : rngOk i = true) : -4611686018427387904 ≤ i ∧ i < 4611686018427387904 := by
  have := of_decide_eq_true h
  omega
@[simp] def eRange1 (L : AX) : Fm → IH → Res ItF := fun r h => (L r h).bind fun vs h1 => match vs with
  | [.int j] => if rngOk j then .ok (itRange 0 j.toNat) h1 else .bad
  | _ => .bad
@[simp] def eRange2 (L : AX) : Fm → IH → Res ItF := fun r h => (L r h).bind fun vs h1 => match vs with
  | [.int i, .int j] => if rngOk i && rngOk j then .ok (itRange i (j - i).toNat) h1 else .bad
  | _ => .bad
/-- the items of a list or tuple as they stand -/
@[simp] def seqOf (v : PV) (h : IH) : Option (List PV) := match v with
  | .tup xs => some xs
  | .fls xs => some xs
  | .obj n => (match h[n]? with
    | some (.lst xs) => some xs
    | _ => none)
  | _ => none
@[simp] def itEnum (v : PV) : ItF := fun i h => match seqOf v h with
  | some xs => (match xs[i]? with
    | some x => some (some (.tup [.int i, x]))
    | none => if xs.length = i then some none else none)
  | none => none
@[simp] def eEnum (L : AX) : Fm → IH → Res ItF := fun r h => (L r h).bind fun vs h1 => match vs with
  | [v] => (match seqOf v h1 with
    | some _ => .ok (itEnum v) h1
    | none => .bad)
  | _ => .bad
@[simp] def itZip (v w : PV) : ItF := fun i h => match seqOf v h, seqOf w h with
  | some xs, some ys => (match xs[i]?, ys[i]? with
    | some x, some y => some (some (.tup [x, y]))
    | _, _ => if i ≤ xs.length ∧ i ≤ ys.length then some none else none)
  | _, _ => none
@[simp] def eZip (L : AX) : Fm → IH → Res ItF := fun r h => (L r h).bind fun vs h1 => match vs with
  | [v, w] => (match seqOf v h1, seqOf w h1 with
    | some _, some _ => .ok (itZip v w) h1
    | _, _ => .bad)
  | _ => .bad
section
variable {X : Cx} {W : WX} {k : Nat} {a b e tg : Expr} {es : List Expr} {pos : Pos} {A B C : EX} {L : AX}
/-- where a value that is walked stands -/
def kindK : PV → Bool
  | .tup _ => true
  | _ => false
theorem seqOf_at {K : PySem.W.Frag} {mg : Str → Option Value} {as : List Addr} {H : Hp} {h : IH} {v : PV} {V : V} {xs : List PV} (x : RH K mg H as h) (r : RP K mg H as v V) (e : seqOf v h = some xs) :
    ∃ a ys, V = .ref a ∧ SqK (kindK v) K H a ys ∧ RPs K mg H as xs ys := by
  cases r with
  | tup hs rs => cases e; exact ⟨_, _, rfl, hs, rs⟩
  | fls hs rs => cases e; exact ⟨_, _, rfl, hs.sq, rs⟩
  | obj ha =>
    simp only [seqOf] at e
    split at e
    · rename_i zs hz
      cases e
      obtain ⟨a, h1, ys, h2, rs⟩ := x.at_ _ _ hz
      rw [ha] at h1; cases h1
      exact ⟨_, _, rfl, SqL.of h2, rs⟩
    · cases e
  | non => cases e
  | bl => cases e
  | int => cases e
  | str => cases e
  | glo => cases e
  | ty => cases e
  | key => cases e
theorem RPs.none {K : PySem.W.Frag} {mg : Str → Option Value} {as : List Addr} {H : Hp} {xs : List PV} {ys : List V} {i : Nat} (r : RPs K mg H as xs ys) (e : xs[i]? = none) : ys.length ≤ i := by
  rw [← r.length]; exact List.getElem?_eq_none_iff.mp e
theorem ri_list {K : PySem.W.Frag} {mg : Str → Option Value} {as : List Addr} {H : Hp} {a : Addr} {xs : List PV} {ys : List V} (hs : SqF K H a ys) (r : RPs K mg H as xs ys) : RI K mg H as (itList xs) (Itl K a) := by
  intro i as' H' h' S x
  have hs' := S.sqF hs
  unfold itList
  cases q : xs[i]? with
  | none => exact ⟨ys, hs'.sq, r.none q⟩
  | some p =>
    obtain ⟨v, e1, r1⟩ := r.get q
    refine ⟨⟨ys, v, hs'.sq, e1⟩, fun y H'' hy => ?_⟩
    obtain ⟨rfl, z⟩ := hy
    have : y = v := Option.some.inj ((z _ hs'.sq).symm.trans e1)
    subst this
    exact ⟨Stp.refl _ _, x, r1.mono S⟩
theorem ri_tup {K : PySem.W.Frag} {mg : Str → Option Value} {as : List Addr} {H : Hp} {a : Addr} {xs : List PV} {ys : List V} (hs : SqT K H a ys) (r : RPs K mg H as xs ys) : RI K mg H as (itList xs) (Itt K a) := by
  intro i as' H' h' S x
  have hs' := S.sqT hs
  unfold itList
  cases q : xs[i]? with
  | none => exact ⟨ys, hs', r.none q⟩
  | some p =>
    obtain ⟨v, e1, r1⟩ := r.get q
    refine ⟨⟨ys, v, hs', e1⟩, fun y H'' hy => ?_⟩
    obtain ⟨rfl, z⟩ := hy
    have : y = v := Option.some.inj ((z _ hs').symm.trans e1)
    subst this
    exact ⟨Stp.refl _ _, x, r1.mono S⟩
theorem ri_obj {K : PySem.W.Frag} {mg : Str → Option Value} {as : List Addr} {H : Hp} {a : Addr} {n : Nat} (ha : as[n]? = some a) : RI K mg H as (itObj n) (Itl K a) := by
  intro i as' H' h' S x
  unfold itObj
  cases q : h'[n]? with
  | none => trivial
  | some o =>
    cases o with
    | lst xs =>
      obtain ⟨b, e1, ys, e2, rs⟩ := x.at_ _ _ q
      rw [S.get ha] at e1; cases e1
      cases qi : xs[i]? with
      | none =>
        simp only [qi]
        exact ⟨ys, SqL.of e2, rs.none qi⟩
      | some p =>
        simp only [qi]
        obtain ⟨v, e3, r3⟩ := rs.get qi
        refine ⟨⟨ys, v, SqL.of e2, e3⟩, fun y H'' hy => ?_⟩
        obtain ⟨rfl, z⟩ := hy
        have : y = v := Option.some.inj ((z _ (SqL.of e2)).symm.trans e3)
        subst this
        exact ⟨Stp.refl _ _, x, r3⟩
    | ins => trivial
    | dct => trivial
theorem ii_seq (ha : PE X a (IE X.K X.mg W A)) : PI X tg a (II X.K X.mg W (eIter A)) := by
  have base : PI X tg a (fun s H R => iList X.K (IE X.K X.mg W A) s H R ∨ iTup X.K (IE X.K X.mg W A) s H R) := by
    refine ⟨fun pins s σ H R I h => ?_⟩
    rcases h with h | h
    · exact (pi_list ha).run pins s σ H R I h
    · exact (pi_tup ha).run pins s σ H R I h
  refine piImp base fun s H Q ⟨as, ρ, hh, f, x, o⟩ => ?_
  unfold eIter at o
  cases q : A ρ hh with
  | bad => rw [q] at o; exact o.elim
  | ex z h1 => rw [q] at o; exact .inl ⟨as, ρ, hh, f, x, by rw [q]; exact o⟩
  | ok v h1 =>
    rw [q] at o
    cases v with
    | tup xs =>
      refine .inr ⟨as, ρ, hh, f, x, ?_⟩
      rw [q]
      intro V H1 as1 S1 x1 r1
      cases r1 with
      | tup hs rs => exact ⟨_, rfl, ⟨_, hs⟩, o _ _ _ S1 x1 (ri_tup hs rs)⟩
    | fls xs =>
      refine .inl ⟨as, ρ, hh, f, x, ?_⟩
      rw [q]
      intro V H1 as1 S1 x1 r1
      cases r1 with
      | fls hs rs => exact ⟨_, rfl, ⟨_, hs.sq⟩, o _ _ _ S1 x1 (ri_list hs rs)⟩
    | obj n =>
      refine .inl ⟨as, ρ, hh, f, x, ?_⟩
      rw [q]
      intro V H1 as1 S1 x1 r1
      cases r1 with
      | obj ha =>
        have o1 : Out X.K X.mg (fun H as p v => RI X.K X.mg H as p v) W s as H Q (match h1[n]? with
          | some (.lst _) => .ok (itObj n) h1
          | _ => .bad) := o
        cases qn : h1[n]? with
        | none => simp only [qn] at o1; exact o1.elim
        | some ob =>
          cases ob with
          | lst xs =>
            simp only [qn] at o1
            obtain ⟨b, e1, ys, e2, rs⟩ := x1.at_ _ _ qn
            rw [ha] at e1; cases e1
            exact ⟨_, rfl, ⟨_, SqL.of e2⟩, o1 _ _ _ S1 x1 (ri_obj ha)⟩
          | ins => simp only [qn] at o1; exact o1.elim
          | dct => simp only [qn] at o1; exact o1.elim
    | non => exact (show False from o).elim
    | bl => exact (show False from o).elim
    | int => exact (show False from o).elim
    | str => exact (show False from o).elim
    | glo => exact (show False from o).elim
    | ty => exact (show False from o).elim
    | key => exact (show False from o).elim
theorem ri_range {K : PySem.W.Frag} {mg : Str → Option Value} {as : List Addr} {H : Hp} {lo : Int} {n : Nat} : RI K mg H as (itRange lo n) (Itr lo n) := by
  intro i as' H' h' S x
  unfold itRange
  by_cases hi : i < n
  · rw [if_pos hi]
    refine ⟨hi, fun y H'' hy => ?_⟩
    obtain ⟨rfl, rfl⟩ := hy
    exact ⟨Stp.refl _ _, x, .int _⟩
  · rw [if_neg hi]
    exact Nat.le_of_not_lt hi
theorem rng_of {i : Int} (h : rngOk i = true) : -(2 ^ 62) ≤ i ∧ i < 2 ^ 62 := by
  have q := rngOk_of h
  have e : (2 : Int) ^ 62 = 4611686018427387904 := by decide
  rw [e]
  exact q
theorem ii_range1 {p : Pos} (hm : X.mg "range" = none) (ha : PA X [e] (IA X.K X.mg W L)) (hg : Gl X "range" := by rfl) (hs : starEach [e] X.env = [(false, eval e X.env)] := by rfl) : PI X tg (.Call (.Name "range" p) [e] [] pos) (II X.K X.mg W (eRange1 L)) := by
  refine piImp (pi_range1 hg hm ha hs) fun s H Q ⟨as, ρ, hh, f, x, o⟩ => ?_
  refine ⟨as, ρ, hh, f, x, (Out.bind o).imp fun Vs H1 ⟨as1, h1, p1, S1, x1, r1, o1⟩ => ?_⟩
  split at o1
  · obtain ⟨v, rfl, rv⟩ := r1.inv1
    cases rv
    split at o1
    · rename_i hr
      obtain ⟨q1, q2⟩ := rng_of hr
      exact ⟨_, rfl, q1, q2, o1.here x1 ri_range⟩
    · exact o1.elim
  · exact o1.elim
theorem ii_range2 {p : Pos} (hm : X.mg "range" = none) (ha : PA X [a, b] (IA X.K X.mg W L)) (hg : Gl X "range" := by rfl) (hs : starEach [a, b] X.env = [(false, eval a X.env), (false, eval b X.env)] := by rfl) (hs2 : starEach [b] X.env = [(false, eval b X.env)] := by rfl) : PI X tg (.Call (.Name "range" p) [a, b] [] pos) (II X.K X.mg W (eRange2 L)) := by
  refine piImp (pi_range2 hg hm ha hs hs2) fun s H Q ⟨as, ρ, hh, f, x, o⟩ => ?_
  refine ⟨as, ρ, hh, f, x, (Out.bind o).imp fun Vs H1 ⟨as1, h1, p1, S1, x1, r1, o1⟩ => ?_⟩
  split at o1
  · obtain ⟨v, w, rfl, rv, rw'⟩ := r1.inv2
    cases rv
    cases rw'
    split at o1
    · rename_i hr
      obtain ⟨g1, g2⟩ := Bool.and_eq_true_iff.mp hr
      obtain ⟨q1, q2⟩ := rng_of g1
      obtain ⟨q3, q4⟩ := rng_of g2
      exact ⟨_, _, rfl, ⟨q1, q2, q3, q4⟩, o1.here x1 ri_range⟩
    · exact o1.elim
  · exact o1.elim
/-- a value that is walked stays where it stands -/
theorem seq_in {K : PySem.W.Frag} {mg : Str → Option Value} {as : List Addr} {H : Hp} {h : IH} {v : PV} {a : Addr} {xs : List PV} (x : RH K mg H as h) (r : RP K mg H as v (.ref a)) (e : seqOf v h = some xs) :
    ∃ ys, SqK (kindK v) K H a ys ∧ RPs K mg H as xs ys := by
  obtain ⟨b, ys, e1, h1, h2⟩ := seqOf_at x r e
  cases e1
  exact ⟨ys, h1, h2⟩
theorem ri_enum {K : PySem.W.Frag} {mg : Str → Option Value} {as : List Addr} {H : Hp} {v : PV} {a : Addr} (r : RP K mg H as v (.ref a)) : RI K mg H as (itEnum v) (ItE (kindK v) K a) := by
  intro i as' H' h' S x
  unfold itEnum
  cases q : seqOf v h' with
  | none => trivial
  | some xs =>
    obtain ⟨ys, hs, rs⟩ := seq_in x (r.mono S) q
    cases qi : xs[i]? with
    | none =>
      simp only [qi]
      by_cases hl : xs.length = i
      · rw [if_pos hl]
        exact ⟨ys, hs, by rw [← rs.length]; exact hl⟩
      · rw [if_neg hl]
        trivial
    | some p =>
      simp only [qi]
      obtain ⟨w, e3, r3⟩ := rs.get qi
      refine ⟨⟨ys, w, hs, e3⟩, fun y H'' hy => ?_⟩
      obtain ⟨T, z, rfl, nT, rfl, hz⟩ := hy
      have : z = w := Option.some.inj ((hz _ hs).symm.trans e3)
      subst this
      have S2 := Stp.lay (o := .tup [.int (i : Nat), z]) x nT
      exact ⟨S2, x.lay nT, .tup (SqT.of upd_same) (.cons (.int _) (.cons (r3.mono S2) .nil))⟩
theorem ri_zip {K : PySem.W.Frag} {mg : Str → Option Value} {as : List Addr} {H : Hp} {v w : PV} {a b : Addr} (r : RP K mg H as v (.ref a)) (r' : RP K mg H as w (.ref b)) : RI K mg H as (itZip v w) (ItZ (kindK v) (kindK w) K a b) := by
  intro i as' H' h' S x
  unfold itZip
  cases q : seqOf v h' with
  | none => trivial
  | some xs =>
    cases q' : seqOf w h' with
    | none => trivial
    | some ys =>
      obtain ⟨us, hs, rs⟩ := seq_in x (r.mono S) q
      obtain ⟨ws, hs', rs'⟩ := seq_in x (r'.mono S) q'
      have stp : ∀ (hn : xs[i]? = none ∨ ys[i]? = none), match (if i ≤ xs.length ∧ i ≤ ys.length then some none else none : Option (Option PV)) with
          | some (some v) => (ItZ (kindK v) (kindK w) K a b).go i H' ∧ ∀ x H'', (ItZ (kindK v) (kindK w) K a b).yld i H' x H'' → Stp as' H' as' H'' ∧ RH K mg H'' as' h' ∧ RP K mg H'' as' v x
          | some none => ∃ xs ys : List V, SqK (kindK v) K H' a xs ∧ SqK (kindK w) K H' b ys ∧ i ≤ xs.length ∧ i ≤ ys.length ∧ (i = xs.length ∨ i = ys.length)
          | none => True := fun hn => by
        by_cases hl : i ≤ xs.length ∧ i ≤ ys.length
        · rw [if_pos hl]
          have l1 := rs.length
          have l2 := rs'.length
          refine ⟨us, ws, hs, hs', by omega, by omega, ?_⟩
          rcases hn with hn | hn
          · have := List.getElem?_eq_none_iff.mp hn; omega
          · have := List.getElem?_eq_none_iff.mp hn; omega
        · rw [if_neg hl]
          trivial
      cases qi : xs[i]? with
      | none =>
        simp only [qi]
        have z := stp (.inl qi)
        by_cases hl : i ≤ xs.length ∧ i ≤ ys.length
        · rw [if_pos hl] at z ⊢; exact z
        · rw [if_neg hl]; trivial
      | some p =>
        cases qj : ys[i]? with
        | none =>
          simp only [qi, qj]
          have z := stp (.inr qj)
          by_cases hl : i ≤ xs.length ∧ i ≤ ys.length
          · rw [if_pos hl] at z ⊢; exact z
          · rw [if_neg hl]; trivial
        | some p' =>
          simp only [qi, qj]
          obtain ⟨c1, e3, r3⟩ := rs.get qi
          obtain ⟨c2, e4, r4⟩ := rs'.get qj
          refine ⟨⟨us, ws, c1, c2, hs, hs', e3, e4⟩, fun y H'' hy => ?_⟩
          obtain ⟨T, z1, z2, rfl, nT, rfl, g1, g2⟩ := hy
          have f1 : z1 = c1 := Option.some.inj ((g1 _ hs).symm.trans e3)
          have f2 : z2 = c2 := Option.some.inj ((g2 _ hs').symm.trans e4)
          subst f1
          subst f2
          have S2 := Stp.lay (o := .tup [z1, z2]) x nT
          exact ⟨S2, x.lay nT, .tup (SqT.of upd_same) (.cons (r3.mono S2) (.cons (r4.mono S2) .nil))⟩
theorem ii_enum {p : Pos} {elts : List Expr} {kk : Nat} {tpos : Pos} (hm : X.mg "enumerate" = none) (ha : PA X [e] (IA X.K X.mg W L)) (hg : Gl X "enumerate" := by rfl) (hs : starEach [e] X.env = [(false, eval e X.env)] := by rfl) : PI X (.Tuple elts kk tpos) (.Call (.Name "enumerate" p) [e] [] pos) (II X.K X.mg W (eEnum L)) := by
  refine piImp (pi_E hg hm ha hs) fun s H Q ⟨as, ρ, hh, f, x, o⟩ => ?_
  refine ⟨as, ρ, hh, f, x, (Out.bind o).imp fun Vs H1 ⟨as1, h1, p1, S1, x1, r1, o1⟩ => ?_⟩
  split at o1
  · obtain ⟨v, rfl, rv⟩ := r1.inv1
    split at o1
    · rename_i zs hz
      obtain ⟨a, ys, rfl, h2, _⟩ := seqOf_at x1 rv hz
      exact ⟨_, a, ys, rfl, h2, o1.here x1 (ri_enum rv)⟩
    · exact o1.elim
  · exact o1.elim
theorem ii_zip {p : Pos} {elts : List Expr} {kk : Nat} {tpos : Pos} (hm : X.mg "zip" = none) (ha : PA X [a, b] (IA X.K X.mg W L)) (hg : Gl X "zip" := by rfl) (hs : starEach [a, b] X.env = (false, eval a X.env) :: starEach [b] X.env := by rfl) (hpl : (backTo pos (starEach [b] X.env)).any (·.1) = false := by rfl) :
    PI X (.Tuple elts kk tpos) (.Call (.Name "zip" p) [a, b] [] pos) (II X.K X.mg W (eZip L)) := by
  refine piImp (pi_Z hg hm ha hs hpl) fun s H Q ⟨as, ρ, hh, f, x, o⟩ => ?_
  refine ⟨as, ρ, hh, f, x, (Out.bind o).imp fun Vs H1 ⟨as1, h1, p1, S1, x1, r1, o1⟩ => ?_⟩
  split at o1
  · obtain ⟨v, w, rfl, rv, rw'⟩ := r1.inv2
    split at o1
    · rename_i zs zs' hz hz'
      obtain ⟨a, ys, rfl, h2, _⟩ := seqOf_at x1 rv hz
      obtain ⟨b, ys', rfl, h3, _⟩ := seqOf_at x1 rw' hz'
      exact ⟨_, _, a, b, ys, ys', rfl, h2, h3, o1.here x1 (ri_zip rv rw')⟩
    · exact o1.elim
  · exact o1.elim
end
end WR

/-! built-ins, methods of lists, own classes -/
namespace WR
open PySem PySem.Spec PyProof.Rows L2
/-! ### the code -/
@[simp] def pAbs : List PV → IH → Res PV
  | [.int i], h => .ok (.int (if i < 0 then -i else i)) h
  | _, _ => .bad
@[simp] def pMax2 : List PV → IH → Res PV
  | [.int i, .int j], h => .ok (.int (if j > i then j else i)) h
  | _, _ => .bad
@[simp] def pMin2 : List PV → IH → Res PV
  | [.int i, .int j], h => .ok (.int (if j < i then j else i)) h
  | _, _ => .bad
@[simp] def pInt1 : List PV → IH → Res PV
  | [.int i], h => .ok (.int i) h
  | [.bl b], h => .ok (.int (if b then 1 else 0)) h
  | _, _ => .bad
@[simp] def pLen : List PV → IH → Res PV
  | [v], h => (match v with
    | .str y => if y.length ≤ 16777216 then .ok (.int y.length) h else .bad
    | _ => (match seqOf v h with
      | some xs => .ok (.int xs.length) h
      | none => .bad))
  | _, _ => .bad
@[simp] def pList1 : List PV → IH → Res PV
  | [v], h => (match seqOf v h with
    | some xs => .ok (.obj h.length) (h ++ [.lst xs])
    | none => .bad)
  | _, _ => .bad
@[simp] def pTuple1 : List PV → IH → Res PV
  | [v], h => (match seqOf v h with
    | some xs => .ok (.tup xs) h
    | none => .bad)
  | _, _ => .bad
/-- the type of a value: a built-in's name, or an own class's -/
@[simp] def tyOf : PV → IH → Option (String ⊕ Str)
  | .non, _ => some (.inl "NoneType")
  | .bl _, _ => some (.inl "bool")
  | .int _, _ => some (.inl "int")
  | .str _, _ => some (.inl "str")
  | .tup _, _ => some (.inl "tuple")
  | .fls _, _ => some (.inl "list")
  | .obj n, h => (match h[n]? with
    | some (.lst _) => some (.inl "list")
    | some (.ins c _) => some (.inr c)
    | some (.dct _) => some (.inl "dict")
    | none => none)
  | _, _ => none
def tyNames : List String := ["NoneType", "bool", "int", "str", "tuple", "list", "dict"]
def subTy (a b : String) : Bool := a == b || (a == "bool" && b == "int")
/-- isinstance(x, c), the own classes being cs -/
@[simp] def pIsi (cs : List Str) : List PV → IH → Res PV
  | [x, c], h => (match tyOf x h, c with
    | some (.inl a), .ty n => if tyNames.contains n then .ok (.bl (subTy a n)) h else .bad
    | some (.inl _), .glo C => if cs.contains C then .ok (.bl false) h else .bad
    | some (.inr D), .glo C => if cs.contains C && cs.contains D then .ok (.bl (D == C)) h else .bad
    | some (.inr D), .ty n => if cs.contains D && tyNames.contains n then .ok (.bl false) h else .bad
    | _, _ => .bad)
  | _, _ => .bad
@[simp] def eAppend (A : EX) (L : AX) : EX := fun r h => (A r h).bind fun x h1 => match x with
  | .obj n => (match h1[n]? with
    | some (.lst _) => (L r h1).bind fun vs h2 => (match vs, h2[n]? with
      | [y], some (.lst xs) => if xs.length < 16777216 then .ok .non (h2.set n (.lst (xs ++ [y]))) else .bad
      | _, _ => .bad)
    | _ => .bad)
  | _ => .bad
@[simp] def sSetIx (O I V : EX) : SX := fun r h => toS ((V r h).bind fun v h1 => (O r h1).bind fun o h2 => (I r h2).bind fun i h3 => (match o, i with
    | .obj n, .int k => (match h3[n]? with
      | some (.lst xs) => (match ixN xs.length k with
        | some j => Res.ok () (h3.set n (.lst (xs.set j v)))
        | none => .bad)
      | _ => .bad)
    | _, _ => .bad)) r fun _ h1 => .nx r h1
@[simp] def putP (f : Str) (v : PV) : List (Str × PV) → List (Str × PV)
  | [] => [(f, v)]
  | (g, y) :: r => if g = f then (g, v) :: r else (g, y) :: putP f v r
@[simp] def eFld (c f : Str) (A : EX) : EX := fun r h => (A r h).bind fun x h1 => match x with
  | .obj n => (match h1[n]? with
    | some (.ins c' fs) => if c' = c then opt (fs.lookup f) h1 else .bad
    | _ => .bad)
  | _ => .bad
@[simp] def sFldX (c f : Str) (A V : EX) : SX := fun r h => toS ((V r h).bind fun v h1 => (A r h1).bind fun x h2 => (match x with
    | .obj n => (match h2[n]? with
      | some (.ins c' fs) => if c' = c ∧ fs.length < 1000 then Res.ok () (h2.set n (.ins c (putP f v fs))) else .bad
      | _ => .bad)
    | _ => .bad)) r fun _ h1 => .nx r h1
/-- C(..): a new instance, then __init__ -/
def mk (c : Str) (F : List PV → IH → Res PV) : List PV → IH → Res PV := fun us h => (F (.obj h.length :: us) (h ++ [.ins c []])).bind fun _ h1 => .ok (.obj h.length) h1
/-- o.m(..) -/
@[simp] def eMeth (c m : Str) (F : List PV → IH → Res PV) (A : EX) (L : AX) : EX := fun r h => (A r h).bind fun x h1 => match x with
  | .obj n => (match h1[n]? with
    | some (.ins c' fs) => if c' = c ∧ fs.lookup m = none then (L r h1).bind fun vs h2 => F (x :: vs) h2 else .bad
    | _ => .bad)
  | _ => .bad
/-- a call that lets no exception out -/
@[simp] def noX {α : Type} : Res α → Res α
  | .ok a h => .ok a h
  | _ => .bad
@[simp] def eProp (c : Str) (F : List PV → IH → Res PV) (A : EX) : EX := fun r h => (A r h).bind fun x h1 => match x with
  | .obj n => (match h1[n]? with
    | some (.ins c' _) => if c' = c then noX (F [x] h1) else .bad
    | _ => .bad)
  | _ => .bad
/-- len(o), == of own classes -/
@[simp] def pLenO (c : Str) (F : List PV → IH → Res PV) : List PV → IH → Res PV
  | [x], h => (match x with
    | .obj n => (match h[n]? with
      | some (.ins c' _) => if c' = c then (match F [x] h with
        | .ok (.int i) h1 => if 0 ≤ i ∧ i < 9223372036854775808 then .ok (.int i) h1 else .bad
        | _ => .bad) else .bad
      | _ => .bad)
    | _ => .bad)
  | _, _ => .bad
@[simp] def isTupOr (c : Str) (y : PV) (h : IH) : Bool := match y with
  | .tup _ => true
  | .obj n => (match h[n]? with
    | some (.ins c' _) => c' == c
    | _ => false)
  | _ => false
@[simp] def pEqO (c : Str) (F : List PV → IH → Res PV) (x y : PV) (h : IH) : Res PV := match x with
  | .obj n => (match h[n]? with
    | some (.ins c' _) => if c' = c ∧ isTupOr c y h = true then (match F [x, y] h with
      | .ok (.bl b) h1 => .ok (.bl b) h1
      | _ => .bad) else .bad
    | _ => .bad)
  | _ => .bad
/-! ### the rules -/
section
variable {X : Cx} {W : WX} {k : Nat} {a b e o : Expr} {es : List Expr} {pos : Pos} {A B C : EX} {L : AX}
theorem ie_callB {id : String} {x : Str} {p : Pos} {r : List V → Hp → VK → Prop} {f : List PV → IH → Res PV} (hc : CallR X (.builtin id) r) (hf : SndC X.K X.mg f r) (hm : X.mg x = none) (hv : bootBuiltins x = some (.builtin id)) (ha : PA X (e :: es) (IA X.K X.mg W L)) (hg : Gl X x := by rfl) (hn : x ≠ "__name__" := by decide) (hdb : (x == ("__debug__" : Str)) = false := by decide)
    (he : starEach (e :: es) X.env = (false, eval e X.env) :: starEach es X.env := by rfl) (hpl : (backTo pos (starEach es X.env)).any (·.1) = false := by rfl) : PE X (.Call (.Name x p) (e :: es) [] pos) (IE X.K X.mg W (eB f L)) := by
  refine peImp (pe_callB hc hg hm hv ha hn hdb he hpl) fun s H Q ⟨as, ρ, hh, g, z, o⟩ => ?_
  exact ⟨as, ρ, hh, g, z, (Out.bind o).imp fun Vs H1 ⟨as1, h1, p1, S1, x1, r1, o1⟩ => hf x1 r1 o1⟩
theorem ie_callT {T : String} {x : Str} {p : Pos} {r : List V → Hp → VK → Prop} {f : List PV → IH → Res PV} (hc : CallR X (.type T) r) (hf : SndC X.K X.mg f r) (hm : X.mg x = none) (hv : bootBuiltins x = some (.type T)) (ha : PA X (e :: es) (IA X.K X.mg W L)) (hg : Gl X x := by rfl) (hn : x ≠ "__name__" := by decide) (hdb : (x == ("__debug__" : Str)) = false := by decide)
    (he : starEach (e :: es) X.env = (false, eval e X.env) :: starEach es X.env := by rfl) (hpl : (backTo pos (starEach es X.env)).any (·.1) = false := by rfl) : PE X (.Call (.Name x p) (e :: es) [] pos) (IE X.K X.mg W (eB f L)) := by
  refine peImp (pe_callTy hc hg hm hv ha hn hdb he hpl) fun s H Q ⟨as, ρ, hh, g, z, o⟩ => ?_
  exact ⟨as, ρ, hh, g, z, (Out.bind o).imp fun Vs H1 ⟨as1, h1, p1, S1, x1, r1, o1⟩ => hf x1 r1 o1⟩
variable {K : PySem.W.Frag} {mg : Str → Option Value}
theorem snd_abs : SndC K mg pAbs (fun xs H Q => ∃ i, xs = [.int i] ∧ Q (.int (if i < 0 then -i else i)) H) := by
  intro W s as H h xs Us Q rh rs o
  unfold pAbs at o
  split at o
  · obtain ⟨v, rfl, rv⟩ := rs.inv1; cases rv; exact ⟨_, rfl, o.here rh (.int _)⟩
  · exact o.elim
theorem snd_max2 : SndC K mg pMax2 (fun xs H Q => ∃ i j, xs = [.int i, .int j] ∧ Q (.int (if j > i then j else i)) H) := by
  intro W s as H h xs Us Q rh rs o
  unfold pMax2 at o
  split at o
  · obtain ⟨v, w, rfl, rv, rw'⟩ := rs.inv2; cases rv; cases rw'; exact ⟨_, _, rfl, o.here rh (.int _)⟩
  · exact o.elim
theorem snd_min2 : SndC K mg pMin2 (fun xs H Q => ∃ i j, xs = [.int i, .int j] ∧ Q (.int (if j < i then j else i)) H) := by
  intro W s as H h xs Us Q rh rs o
  unfold pMin2 at o
  split at o
  · obtain ⟨v, w, rfl, rv, rw'⟩ := rs.inv2; cases rv; cases rw'; exact ⟨_, _, rfl, o.here rh (.int _)⟩
  · exact o.elim
theorem snd_int1 : SndC K mg pInt1 (fun xs H Q => (∃ i, xs = [.int i] ∧ Q (.int i) H) ∨ ∃ k, xs = [.bl k] ∧ Q (.int (if k then 1 else 0)) H) := by
  intro W s as H h xs Us Q rh rs o
  unfold pInt1 at o
  split at o
  · obtain ⟨v, rfl, rv⟩ := rs.inv1; cases rv; exact .inl ⟨_, rfl, o.here rh (.int _)⟩
  · obtain ⟨v, rfl, rv⟩ := rs.inv1; cases rv; exact .inr ⟨_, rfl, o.here rh (.int _)⟩
  · exact o.elim
theorem SqK.or {t : Bool} {H : Hp} {a : Addr} {ys : List V} (h : SqK t K H a ys) : SqL K H a ys ∨ SqT K H a ys := by
  cases t with
  | true => exact .inr h
  | false => exact .inl h
theorem snd_len : SndC K mg pLen (fun xs H Q => ∃ x n, xs = [x] ∧ LenV K x H n ∧ Q (.int n) H) := by
  intro W s as H h xs Us Q rh rs o
  unfold pLen at o
  split at o
  · obtain ⟨v, rfl, rv⟩ := rs.inv1
    split at o
    · cases rv
      split at o
      · rename_i hl
        exact ⟨_, _, rfl, ⟨by rw [sizeLine_eq]; exact hl, rfl⟩, o.here rh (.int _)⟩
      · exact o.elim
    · split at o
      · rename_i zs hz
        obtain ⟨a, ys, rfl, h1, r1⟩ := seqOf_at rh rv hz
        refine ⟨_, _, rfl, ?_, o.here rh (.int _)⟩
        rcases SqK.or h1 with h1 | h1
        · exact .inl ⟨ys, h1, r1.length⟩
        · exact .inr ⟨ys, h1, r1.length⟩
      · exact o.elim
  · exact o.elim
theorem snd_list1 : SndC K mg pList1 (fun xs H Q => ∃ p ys, xs = [.ref p] ∧ (SqL K H p ys ∨ SqT K H p ys) ∧ ∀ l, H l = none → Q (.ref l) (upd H l (.lst ys))) := by
  intro W s as H h xs Us Q rh rs o
  unfold pList1 at o
  split at o
  · obtain ⟨v, rfl, rv⟩ := rs.inv1
    split at o
    · rename_i p _ zs hz
      obtain ⟨a, ys, rfl, h1, r1⟩ := seqOf_at rh rv hz
      refine ⟨_, ys, rfl, ?_, fun l nl => ?_⟩
      · cases hk : kindK p with
        | true => rw [hk] at h1; exact .inr h1
        | false => rw [hk] at h1; exact .inl h1
      · have S := Stp.new (o := .lst ys) rh nl
        refine o _ _ _ S (rh.new nl ⟨_, upd_same, r1.mono S⟩) (.obj ?_)
        rw [List.getElem?_append_right (by rw [rh.len]; exact Nat.le_refl _), rh.len, Nat.sub_self]
        rfl
    · exact o.elim
  · exact o.elim
theorem snd_tuple1 : SndC K mg pTuple1 (fun xs H Q => ∃ p ys, xs = [.ref p] ∧ ((SqL K H p ys ∧ ∀ l, H l = none → Q (.ref l) (upd H l (.tup ys))) ∨ (SqT K H p ys ∧ Q (.ref p) H))) := by
  intro W s as H h xs Us Q rh rs o
  unfold pTuple1 at o
  split at o
  · obtain ⟨v, rfl, rv⟩ := rs.inv1
    split at o
    · rename_i p _ zs hz
      obtain ⟨a, ys, rfl, h1, r1⟩ := seqOf_at rh rv hz
      refine ⟨_, ys, rfl, ?_⟩
      cases hk : kindK p with
      | true =>
        rw [hk] at h1
        exact .inr ⟨h1, o.here rh (.tup h1 r1)⟩
      | false =>
        rw [hk] at h1
        exact .inl ⟨h1, fun l nl => o _ _ _ (Stp.lay rh nl) (rh.lay nl) (.tup (SqT.of upd_same) (r1.mono (Stp.lay rh nl)))⟩
    · exact o.elim
  · exact o.elim
/-! ### own classes -/
/-- what the top says of an own class -/
structure OwnC (K : PySem.W.Frag) (mg : Str → Option Value) (c : Str) (C : Addr) : Prop where
  gC : mg c = some (.ref C)
  cl : Cls K C
  ha : PySem.W.findIn K (.ref C) "__class__" = some (some (.builtin "object.__class__"))
  hn : PySem.W.specialIn K (.builtin "object.__class__") "__get__" = some (some (.builtin "getset_descriptor.__get__"))
  htk : PySem.W.takesIn K (.builtin "object.__class__") = some true
  hm : PySem.W.mroIn K C (.type "object") = some true
  bi : ∀ n, tyNames.contains n = true → PySem.W.kitOne K (.type n) (.ref C) = some false
  bo : ∀ n, tyNames.contains n = true → PySem.W.kitOne K (.ref C) (.type n) = some false
/-- .. and of all of them together -/
structure OwnCs (K : PySem.W.Frag) (mg : Str → Option Value) (cs : List Str) : Prop where
  one : ∀ c, cs.contains c = true → ∃ C, OwnC K mg c C
  two : ∀ c d C D, cs.contains c = true → cs.contains d = true → mg c = some (.ref C) → mg d = some (.ref D) → PySem.W.kitOne K (.ref D) (.ref C) = some (d == c)
theorem sub_kit : ∀ a ∈ tyNames, ∀ b ∈ tyNames, kitB a b = some (subTy a b) := by decide +kernel
theorem ty_in {v : PV} {h : IH} {a : String} (e : tyOf v h = some (.inl a)) : a ∈ tyNames := by
  cases v with
  | non => cases e; decide
  | bl => cases e; decide
  | int => cases e; decide
  | str => cases e; decide
  | tup => cases e; decide
  | fls => cases e; decide
  | obj n =>
    simp only [tyOf] at e
    split at e
    · cases e; decide
    · cases e
    · cases e; decide
    · cases e
  | glo => cases e
  | ty => cases e
  | key => cases e
theorem mem_of_contains {α : Type} [BEq α] [LawfulBEq α] {a : α} {l : List α} (h : l.contains a = true) : a ∈ l := by simpa using h
theorem tyX_of {as : List Addr} {H : Hp} {h : IH} {v : PV} {V : V} {cs : List Str} (O : OwnCs K mg cs) (x : RH K mg H as h) (r : RP K mg H as v V) {q : String ⊕ Str} (e : tyOf v h = some q) (hc : ∀ c, q = .inr c → cs.contains c = true) :
    ∃ t, TyX K H V t ∧ match q with
      | .inl a => t = .type a
      | .inr c => ∃ C, OwnC K mg c C ∧ t = .ref C := by
  cases r with
  | non => cases e; exact ⟨_, .base .non, rfl⟩
  | bl b => cases e; exact ⟨_, .base (.bl b), rfl⟩
  | int i => cases e; exact ⟨_, .base (.int i), rfl⟩
  | str y => cases e; exact ⟨_, .base (.str y), rfl⟩
  | tup hs rs =>
    cases e
    rcases hs with (hs | ⟨o, hs⟩) | ⟨o, its, n, h1, h2, _⟩
    · exact ⟨_, .base (.tup hs), rfl⟩
    · exact ⟨_, .fTuple hs, rfl⟩
    · exact ⟨_, .kTuple h1 h2, rfl⟩
  | fls hs rs =>
    cases e
    rcases hs with ⟨o, hs⟩ | ⟨o, its, n, h1, h2, _⟩
    · exact ⟨_, .base (.frz hs), rfl⟩
    · exact ⟨_, .kList h1 h2, rfl⟩
  | obj ha =>
    simp only [tyOf] at e
    split at e
    · rename_i zs hz
      cases e
      obtain ⟨b, e1, ys, e2, rs⟩ := x.at_ _ _ hz
      rw [ha] at e1; cases e1
      exact ⟨_, .base (.lst e2), rfl⟩
    · rename_i c fs hz
      cases e
      obtain ⟨b, e1, C, dx, gs, g0, e2, _⟩ := x.at_ _ _ hz
      rw [ha] at e1; cases e1
      obtain ⟨C', oc⟩ := O.one c (hc c rfl)
      have : C' = C := by
        have := oc.gC.symm.trans g0
        cases this
        rfl
      subst this
      exact ⟨_, .base (.ins e2 oc.cl oc.ha oc.hn oc.htk oc.hm), C', oc, rfl⟩
    · rename_i kvs hz
      cases e
      obtain ⟨b, e1, gs, e2, _⟩ := x.at_ _ _ hz
      rw [ha] at e1; cases e1
      exact ⟨_, .base (.dT e2), rfl⟩
    · cases e
  | glo => cases e
  | ty => cases e
  | key => cases e
theorem snd_isi {cs : List Str} (O : OwnCs K mg cs) : SndC K mg (pIsi cs) (rIsi K) := by
  intro W s as H h xs Us Q rh rs o
  unfold pIsi at o
  split at o
  · obtain ⟨v, w, rfl, rv, rw'⟩ := rs.inv2
    split at o
    · rename_i a n e
      split at o
      · rename_i hn
        obtain ⟨t, h1, rfl⟩ := tyX_of O rh rv e (fun c z => nomatch z)
        cases rw'
        exact ⟨_, _, _, _, _, rfl, .ty n, h1, kit_ty (sub_kit _ (ty_in e) _ (mem_of_contains hn)), o.here rh (.bl _)⟩
      · exact o.elim
    · rename_i a C e
      split at o
      · rename_i hn
        obtain ⟨t, h1, rfl⟩ := tyX_of O rh rv e (fun c z => nomatch z)
        obtain ⟨D, oc⟩ := O.one _ hn
        cases rw' with
        | glo g1 g2 =>
          rw [oc.gC] at g1
          cases g1
          have g3 : w = .ref D := by
            cases w <;> first | (obtain ⟨_, z⟩ := g2; cases z) | cases g2
            all_goals rfl
          subst g3
          exact ⟨_, _, _, _, _, rfl, .own D, h1, oc.bi _ (by simpa using ty_in e), o.here rh (.bl _)⟩
      · exact o.elim
    · rename_i D C e
      split at o
      · rename_i hn
        obtain ⟨n1, n2⟩ := Bool.and_eq_true_iff.mp hn
        obtain ⟨t, h1, E', oc, rfl⟩ := tyX_of O rh rv e (fun c z => by cases z; exact n2)
        obtain ⟨G, oc'⟩ := O.one _ n1
        cases rw' with
        | glo g1 g2 =>
          rw [oc'.gC] at g1
          cases g1
          have g3 : w = .ref G := by
            cases w <;> first | (obtain ⟨_, z⟩ := g2; cases z) | cases g2
            all_goals rfl
          subst g3
          exact ⟨_, _, _, _, _, rfl, .own G, h1, O.two _ _ _ _ n1 n2 oc'.gC oc.gC, o.here rh (.bl _)⟩
      · exact o.elim
    · rename_i D n e
      split at o
      · rename_i hn
        obtain ⟨n1, n2⟩ := Bool.and_eq_true_iff.mp hn
        obtain ⟨t, h1, E', oc, rfl⟩ := tyX_of O rh rv e (fun c z => by cases z; exact n1)
        cases rw'
        exact ⟨_, _, _, _, _, rfl, .ty n, h1, oc.bo _ n2, o.here rh (.bl _)⟩
      · exact o.elim
    · exact o.elim
  · exact o.elim

/-! ### lists, fields -/
theorem ie_append {apos : Pos} (ho : PE X o (IE X.K X.mg W A)) (ha : PA X (e :: es) (IA X.K X.mg W L)) (hbase : attributeBase o "append" X.env (eval o X.env) = eval o X.env := by rfl)
    (hfew : ((backTo pos (starEach (e :: es) X.env)).all (fun x => !x.1) && (backToKw pos (keywordEach [] X.env)).all (fun x => x.1.isSome)
      && decide ((e :: es).length + ([] : List Keyword).length + (if ([] : List Keyword).isEmpty then 0 else 1) < 30)) = true := by rfl)
    (hline : (apos.endLine == pos.line) = true := by rfl) (hs : starEach (e :: es) X.env = (false, eval e X.env) :: starEach es X.env := by rfl) (hplain : (backTo pos (starEach es X.env)).any (·.1) = false := by rfl) :
    PE X (.Call (.Attribute o "append" apos) (e :: es) [] pos) (IE X.K X.mg W (eAppend A L)) := by
  refine peImp (pe_bm PySem.F.plainAttrs_list PySem.F.slot_list_append PySem.F.type_list_append mt_append ho ha hbase hfew hline hs hplain) fun s H Q ⟨as, ρ, hh, f, x, o⟩ => ?_
  refine ⟨as, ρ, hh, f, x, (Out.bind o).imp fun V H1 ⟨as1, h1, p1, S1, x1, r1, o1⟩ => ?_⟩
  split at o1
  · rename_i n
    cases r1 with
    | obj hn =>
      split at o1
      · rename_i ys hy
        obtain ⟨b, e1, us, e2, rs⟩ := x1.at_ _ _ hy
        rw [hn] at e1; cases e1
        refine ⟨.inl ⟨rfl, _, SqL.of e2⟩, as1, ρ, h1, f.mono S1, x1, (Out.bind o1).imp fun Vs H2 ⟨as2, h2, p2, S2, x2, r2, o2⟩ => ?_⟩
        split at o2
        · rename_i y xs hx
          split at o2
          · rename_i hl
            obtain ⟨v, rfl, rv⟩ := r2.inv1
            obtain ⟨b', e3, ws, e4, rs'⟩ := x2.at_ _ _ hx
            have hn2 := S2.get hn
            rw [hn2] at e3; cases e3
            refine ⟨_, ws, v, rfl, rfl, e4, by rw [sizeLine_eq, ← rs'.length]; exact hl, ?_⟩
            have S3 := Stp.put (o := .lst (ws ++ [v])) x2 hn2 hx
            exact o2 _ _ _ S3 (x2.put hn2 hx ⟨_, upd_same, (rs'.append (.one rv)).mono S3⟩) .non
          · exact o2.elim
        · exact o2.elim
      · exact o1.elim
  · exact o1.elim
theorem is_setix {i v : Expr} {ppos : Pos} {O I V : EX} (hv : PE X v (IE X.K X.mg W V)) (ho : PE X o (IE X.K X.mg W O)) (hi : PE X i (IE X.K X.mg W I))
    (hset : ∀ v, assign (.Subscript o i ppos) X.env v = (do
      let ov ← holding [v] (eval o X.env)
      let iv ← holding [v, ov] (eval i X.env)
      standAt ppos
      holding [v, ov, iv] (setItem ov iv v)
      release [v, ov, iv] []) := by intro _; rfl)
    (hs : swapsWithSole [.Subscript o i ppos] v pos.line X.env = pure false := by rfl) (hw : swappedStores [.Subscript o i ppos] v X.env = pure none := by rfl)
    (h1 : (assignEach [.Subscript o i ppos] X.env).map (·.2) = [assign (.Subscript o i ppos) X.env] := by rfl) : PS X (.Assign [.Subscript o i ppos] v pos) (IS X.K X.mg W (sSetIx O I V)) := by
  refine psImp (ps_asg hv (pg_sub ho hi set_list hset) hs hw h1) fun D s H ⟨as, r, h, f, x, out⟩ => ?_
  have o' := outS_of (R := fun _ _ (_ : Unit) (_ : Unit) => True) f out
  refine ⟨as, r, h, f, x, (Out.bind o').imp fun U H1 ⟨as1, h1, p1, S1, x1, r1, o1⟩ => ?_⟩
  refine ⟨as1, r, h1, f.mono S1, x1, (Out.bind o1).imp fun U2 H2 ⟨as2, h2, p2, S2, x2, r2, o2⟩ => ?_⟩
  refine ⟨as2, r, h2, (f.mono S1).mono S2, x2, (Out.bind o2).imp fun U3 H3 ⟨as3, h3, p3, S3, x3, r3, o3⟩ => ?_⟩
  have r2' := r2.mono S3
  have r1' := (r1.mono S2).mono S3
  split at o3
  · cases r2' with
    | obj hn =>
      cases r3
      split at o3
      · rename_i xs hx
        split at o3
        · rename_i j hj
          obtain ⟨b, e1, us, e2, rs⟩ := x3.at_ _ _ hx
          rw [hn] at e1; cases e1
          refine ⟨_, us, _, j, rfl, rfl, e2, by rw [← rs.length]; exact hj, ?_⟩
          have S4 := Stp.put (o := .lst (us.set j U)) x3 hn hx
          obtain ⟨as5, h5, _, S5, x5, _, o5⟩ := o3 () _ _ S4 (x3.put hn hx ⟨_, upd_same, (RPs.set r1' j rs).mono S4⟩) trivial
          exact o5 s _ as5 (Stp.refl _ _) x5 (f.mono S5)
        · exact o3.elim
      · exact o3.elim
  · exact o3.elim
/-- the fields of an instance -/
theorem fld_at {as : List Addr} {H : Hp} : ∀ {fs : List (Str × PV)} {gs : List (Str × V)} {f : Str} {v : PV}, gs.map (·.1) = fs.map (·.1) → RPs K mg H as (fs.map (·.2)) (gs.map (·.2)) → fs.lookup f = some v → ∃ V, gs.lookup f = some V ∧ RP K mg H as v V
  | [], _, _, _, _, _, e => by cases e
  | _ :: _, [], _, _, h, _, _ => by cases h
  | (n, p) :: fs, (m, q) :: gs, f, v, h, r, e => by
    rw [List.map_cons, List.map_cons] at h
    injection h with h1 h2
    have h1' : m = n := h1
    subst h1'
    cases r with
    | cons a b =>
      simp only [List.lookup] at e ⊢
      split at e
      · cases e
        exact ⟨q, rfl, a⟩
      · exact fld_at h2 b e
theorem fld_none {fs : List (Str × PV)} {gs : List (Str × V)} {f : Str} (h : gs.map (·.1) = fs.map (·.1)) (e : fs.lookup f = none) : gs.lookup f = none := by
  induction fs generalizing gs with
  | nil =>
    cases gs with
    | nil => rfl
    | cons _ _ => cases h
  | cons p fs ih =>
    cases gs with
    | nil => cases h
    | cons q gs =>
      obtain ⟨n, p⟩ := p
      obtain ⟨m, q⟩ := q
      rw [List.map_cons, List.map_cons] at h
      injection h with h1 h2
      have h1' : m = n := h1
      subst h1'
      simp only [List.lookup] at e ⊢
      split at e
      · cases e
      · exact ih h2 e
theorem put_keys (f : Str) (v : PV) (V : V) : ∀ {fs : List (Str × PV)} {gs : List (Str × L2.V)}, gs.map (·.1) = fs.map (·.1) → (putF f V gs).map (·.1) = (putP f v fs).map (·.1)
  | [], [], _ => rfl
  | [], _ :: _, h => by cases h
  | _ :: _, [], h => by cases h
  | (n, p) :: fs, (m, q) :: gs, h => by
    rw [List.map_cons, List.map_cons] at h
    injection h with h1 h2
    have h1' : m = n := h1
    subst h1'
    unfold putF putP
    split
    · rw [List.map_cons, List.map_cons, h2]
    · rw [List.map_cons, List.map_cons, put_keys f v V h2]
theorem put_vals {as : List Addr} {H : Hp} {f : Str} {v : PV} {V : V} (rv : RP K mg H as v V) : ∀ {fs : List (Str × PV)} {gs : List (Str × L2.V)}, gs.map (·.1) = fs.map (·.1) → RPs K mg H as (fs.map (·.2)) (gs.map (·.2)) → RPs K mg H as ((putP f v fs).map (·.2)) ((putF f V gs).map (·.2))
  | [], [], _, _ => .one rv
  | [], _ :: _, h, _ => by cases h
  | _ :: _, [], h, _ => by cases h
  | (n, p) :: fs, (m, q) :: gs, h, r => by
    rw [List.map_cons, List.map_cons] at h
    injection h with h1 h2
    have h1' : m = n := h1
    subst h1'
    cases r with
    | cons a b =>
      unfold putF putP
      split
      · exact .cons rv b
      · exact .cons a (put_vals rv h2 b)
theorem ie_fld {c f : Str} {Cc : Addr} (gc : X.mg c = some (.ref Cc)) (cl : Cls X.K Cc) (na : NoAttr X.K Cc f) (he : PE X e (IE X.K X.mg W A)) (hb : attributeBase e f X.env (eval e X.env) = eval e X.env := by rfl) : PE X (.Attribute e f pos) (IE X.K X.mg W (eFld c f A)) := by
  refine peImp (pe_fld he hb) fun s H Q ⟨as, ρ, hh, g, x, o⟩ => ?_
  refine ⟨as, ρ, hh, g, x, (Out.bind o).imp fun V H1 ⟨as1, h1, p1, S1, x1, r1, o1⟩ => ?_⟩
  split at o1
  · cases r1 with
    | obj hn =>
      split at o1
      · rename_i c' fs hx
        split at o1
        · rename_i hc
          subst hc
          obtain ⟨b, e1, C', dx, gs, g0, e2, e3, rs⟩ := x1.at_ _ _ hx
          rw [hn] at e1; cases e1
          rw [gc] at g0; cases g0
          unfold opt at o1
          split at o1
          · rename_i v hv
            obtain ⟨V', l1, rv⟩ := fld_at e3 rs hv
            exact ⟨_, _, dx, gs, V', rfl, e2, cl, na, l1, o1.here x1 rv⟩
          · exact o1.elim
        · exact o1.elim
      · exact o1.elim
  · exact o1.elim
theorem is_fld {c f : Str} {Cc : Addr} {v : Expr} {V : EX} {ppos : Pos} (gc : X.mg c = some (.ref Cc)) (cl : Cls X.K Cc) (na : NoAttr X.K Cc f) (ha : PE X o (IE X.K X.mg W A)) (hv : PE X v (IE X.K X.mg W V)) (hs : swapsWith v (some (.Attribute o f ppos)) pos.line X.env = pure false := by rfl) :
    PS X (.Assign [.Attribute o f ppos] v pos) (IS X.K X.mg W (sFldX c f A V)) := by
  refine psImp (ps_fld ha hv hs) fun D s H ⟨as, r, h, g, x, out⟩ => ?_
  have o' := outS_of (R := fun _ _ (_ : Unit) (_ : Unit) => True) g out
  refine ⟨as, r, h, g, x, (Out.bind o').imp fun U H1 ⟨as1, h1, p1, S1, x1, r1, o1⟩ => ?_⟩
  refine ⟨as1, r, h1, g.mono S1, x1, (Out.bind o1).imp fun U2 H2 ⟨as2, h2, p2, S2, x2, r2, o2⟩ => ?_⟩
  have r1' := r1.mono S2
  split at o2
  · cases r2 with
    | obj hn =>
      split at o2
      · rename_i c' fs hx
        split at o2
        · rename_i hc
          obtain ⟨hc, hl⟩ := hc
          subst hc
          obtain ⟨b, e1, C', dx, gs, g0, e2, e3, rs⟩ := x2.at_ _ _ hx
          rw [hn] at e1; cases e1
          rw [gc] at g0; cases g0
          have el : gs.length = fs.length := by
            have := congrArg List.length e3
            simpa using this
          refine ⟨_, _, dx, gs, rfl, e2, cl, na, by rw [el]; exact hl, ?_⟩
          have S3 := Stp.put (o := .ins Cc dx (putF f U gs)) x2 hn hx
          obtain ⟨as5, h5, _, S5, x5, _, o5⟩ := o2 () _ _ S3 (x2.put hn hx ⟨Cc, dx, _, gc, upd_same, put_keys f _ U e3, put_vals (r1'.mono S3) e3 (rs.mono S3)⟩) trivial
          exact o5 s _ as5 (Stp.refl _ _) x5 (g.mono S5)
        · exact o2.elim
      · exact o2.elim
  · exact o2.elim
end
end WR

/-! instances made, methods, properties, own len and ==; chains of comparisons -/
namespace WR
open PySem PySem.Spec PyProof.Rows L2
@[simp] def mkO (c : Str) (F : List PV → IH → Res PV) : List PV → IH → Res PV := fun us h => (F (.obj h.length :: us) (h ++ [.ins c []])).bind fun v h1 => match v with
  | .non => .ok (.obj h.length) h1
  | _ => .bad
section
variable {X : Cx} {CX : CXT} {k : Nat} {f C : Addr} {fd : FuncData} {ps : List Str} {sp : Sp} {E : L2.St → XK} {x m : Str} {p pos apos : Pos} {e o : Expr} {es : List Expr} {ta : TE} {t : TA}
theorem run_makeS {pins : List (Addr × Obj)} {σ : L2.St} {H : Hp} {s : Shared} {Q : VK} {us : List Value} {vs : List V} (M : Mk X.K C f) (F : FnOk X.prog X.w X.K X.mg X.base CX k f fd ps sp) (hr : Room (k + 1) X.A) (hb : Binds X.K fd ps [])
    (hx : PassesAt CX X σ (E σ)) (I : Inv X pins σ H s) (r : Vals vs us)
    (h : ∀ x dx, H x = none → H dx = none → dx ≠ x → sp (.ref x :: vs) (upd (upd H dx (.own x)) x (.ins C dx [])) (fun v H2 => v = .non ∧ Q (.ref x) H2) (E σ)) :
    wpAny (model X.prog X.w) X.A (call (.ref C) us) (EP X pins σ Q) X.xe s := by
  have hq := h (s.heap.objs.size + 1) s.heap.objs.size (I.hok.fresh (Nat.le_succ _)) (I.hok.fresh (Nat.le_refl _)) (Nat.ne_of_lt (Nat.lt_succ_self _))
  have I2 := Inv.made (C := C) I
  have r2 : Vals (V.ref (s.heap.objs.size + 1) :: vs) (Value.ref (s.heap.objs.size + 1) :: us) := .cons rfl r
  have hl : (Value.ref (s.heap.objs.size + 1) :: us).length = ps.length := by
    have e := r2.length
    rw [F.len _ _ _ _ hq] at e
    exact e.symm
  have bb := hb _ (Value.ref (s.heap.objs.size + 1) :: us) I2.kIn (by rw [List.append_nil]; exact hl)
  rw [List.append_nil] at bb
  refine wpAny_call (make_map (f := f) I.kIn M.makes M.init (beq_iff_eq.mp M.fn) (codeAny_mono (F.run _ X.stack _ _ ⟨Value.ref (s.heap.objs.size + 1) :: us, []⟩ (Value.ref (s.heap.objs.size + 1) :: us) _ _ (E σ) (hr.make C us [])
    (I2.env0.make C us []) bb r2 hq) fun r s' hq' => ?_))
  cases r with
  | error e => exact hx pins _ _ e s' I2 hq'
  | ok fl =>
    cases fl with
    | ret u =>
      obtain ⟨v, H', I3, rv, ev, q3⟩ := I2.after hq'
      subst ev
      exact ⟨rv, ⟨V.ref (s.heap.objs.size + 1), H', I3, rfl, q3⟩⟩
    | next => exact False.elim hq'
    | brk => exact False.elim hq'
    | cont => exact False.elim hq'
def tMakeS (C : Addr) (sp : Sp) (E : L2.St → XK) (t : TA) : TE := fun σ H Q => t σ H fun vs H1 => ∀ x dx, H1 x = none → H1 dx = none → dx ≠ x →
  sp (.ref x :: vs) (upd (upd H1 dx (.own x)) x (.ins C dx [])) (fun v H2 => v = .non ∧ Q (.ref x) H2) (E σ)
theorem pe_makeS (M : Mk X.K C f) (F : FnOk X.prog X.w X.K X.mg X.base CX k f fd ps sp) (hr : Room (k + 1) X.A) (hg : Gl X x) (hm : X.mg x = some (.ref C)) (hb : Binds X.K fd ps []) (hx : ∀ σ, PassesAt CX X σ (E σ))
    (ha : PA X (e :: es) t) (hdb : (x == ("__debug__" : Str)) = false := by decide) (he : starEach (e :: es) X.env = (false, eval e X.env) :: starEach es X.env := by rfl) (hpl : (backTo pos (starEach es X.env)).any (·.1) = false := by rfl) :
    PE X (.Call (.Name x p) (e :: es) [] pos) (tMakeS C sp E t) := by
  refine ⟨fun pins s σ H Q I h => ?_⟩
  refine wpAny_Call_Name_kw (ld_glob I hg hm ?_ hdb)
  refine PySem.W.callWith_K (h₀ := X.base) I.ok.mod.kin M.kp (thn (ha.run pos pins s σ H _ I h) fun us s1 ⟨vs, H1, I1, r, q⟩ => ⟨I1.kIn, ?_⟩) he hpl
  exact run_makeS M F hr hb (hx σ) I1 r q
def tMethS (C : Addr) (m : Str) (sp : Sp) (E : L2.St → XK) (ta : TE) (t : TA) : TE := fun σ H Q => ta σ H fun x H1 => ∃ a dx fs, x = .ref a ∧ H1 a = some (.ins C dx fs) ∧ fs.lookup m = none ∧
  t σ H1 fun vs H2 => sp (x :: vs) H2 Q (E σ)
theorem pe_methS {pl : Sem Bool} (he : PE X o ta) (c : Cls X.K C) (hm : Meth X.K C m f) (F : FnOk X.prog X.w X.K X.mg X.base CX k f fd ps sp) (hr : Room k X.A) (hb : Binds X.K fd ps []) (hx : ∀ σ, PassesAt CX X σ (E σ)) (ha : PA X (e :: es) t)
    (hst : starEach (e :: es) X.env = (false, eval e X.env) :: starEach es X.env := by rfl) (hpl : (backTo pos (starEach es X.env)).any (·.1) = false := by rfl)
    (ht : eval (.Call (.Attribute o m apos) (e :: es) [] pos) X.env = (do
      let ov ← eval o X.env
      standAt apos.atName
      let (f, first) ← holding [ov] (getMethod ov m pl)
      callWith pos f first (backTo pos (starEach (e :: es) X.env)) (backToKw pos (keywordEach [] X.env))) := by rfl) :
    PE X (.Call (.Attribute o m apos) (e :: es) [] pos) (tMethS C m sp E ta t) := by
  refine ⟨fun pins s σ H Q I h => ?_⟩
  refine PySem.W.methodCall_KW (pl := pl) (thn (he.run pins s σ H _ I h) fun u s1 ⟨x, H1, I1, rx, a, dx, fs, ex, ea, l, q⟩ => ?_) ht
  subst ex
  obtain rfl : u = Value.ref a := rx
  refine getmeth_ok I1 ea c hm l ?_
  refine PySem.W.callWith_K (first := [.ref a]) (h₀ := X.base) I.ok.mod.kin hm.kp (thn (ha.run pos pins s1 σ H1 _ I1 q) fun us s2 ⟨vs, H2, I2, r, q2⟩ => ⟨I2.kIn, ?_⟩) hst hpl
  exact run_fnS (us := .ref a :: us) (vs := .ref a :: vs) F hr hb (hx σ) I2 (.cons rfl r) q2
theorem pe_methS0 {pl : Sem Bool} (he : PE X o ta) (c : Cls X.K C) (hm : Meth X.K C m f) (F : FnOk X.prog X.w X.K X.mg X.base CX k f fd ps sp) (hr : Room k X.A) (hb : Binds X.K fd ps []) (hx : ∀ σ, PassesAt CX X σ (E σ))
    (ht : eval (.Call (.Attribute o m apos) [] [] pos) X.env = (do
      let ov ← eval o X.env
      standAt apos.atName
      let (f, first) ← holding [ov] (getMethod ov m pl)
      callWith pos f first (backTo pos (starEach [] X.env)) (backToKw pos (keywordEach [] X.env))) := by rfl) :
    PE X (.Call (.Attribute o m apos) [] [] pos) (tMethS C m sp E ta tNil) := by
  refine ⟨fun pins s σ H Q I h => ?_⟩
  refine PySem.W.methodCall_KW (pl := pl) (thn (he.run pins s σ H _ I h) fun u s1 ⟨x, H1, I1, rx, a, dx, fs, ex, ea, l, q⟩ => ?_) ht
  subst ex
  obtain rfl : u = Value.ref a := rx
  refine getmeth_ok I1 ea c hm l ?_
  exact PySem.W.callWith_K0 (first := [.ref a]) I1.kIn hm.kp (run_fnS (us := [.ref a]) (vs := [.ref a]) F hr hb (hx σ) I1 (.cons rfl .nil) q)
/-- len of an own class's instance -/
def rLenO (C : Addr) (sp : Sp) : List V → Hp → VK → Prop := fun xs H Q => ∃ a dx fs, xs = [.ref a] ∧ H a = some (.ins C dx fs) ∧ sp [.ref a] H (fun v H' => ∃ n : Int, v = .int n ∧ 0 ≤ n ∧ n < 2 ^ 63 ∧ Q (.int n) H') E0
theorem call_lenO (F : FnOk X.prog X.w X.K X.mg X.base (L2.CX X.prog X.w) k f fd ps sp) (hs : PySem.W.findIn X.K (.ref C) "__len__" = some (some (.ref f))) (hf : PySem.W.isFn X.K (.ref f) = true) (hb : Binds X.K fd ps []) (hr : Room (k + 1) X.A) : CallR X (.builtin "len") (rLenO C sp) := by
  intro pins s σ H xs us Q I r h
  obtain ⟨a, dx, fs, rfl, ea, q⟩ := h
  obtain ⟨u, rfl, ru⟩ := vals1 r
  cases ru
  obtain ⟨mA, J, _⟩ := ins_get I.hok ea
  obtain ⟨od, J, _⟩ := J.look
  obtain ⟨m, hF⟩ := I.fr
  have hl := F.len _ _ _ _ q
  have bb := hb s [.ref a] I.kIn (by simpa using hl)
  refine PySem.W.len_K hF I.ok.mod.kin J hs hf ?_
  refine wpAny_call (codeAny_mono (F.run X.A.in1 X.stack s H ⟨[.ref a], []⟩ [.ref a] [.ref a] _ E0 hr.in1 I.env0.in1 (by simpa using bb) (.cons rfl .nil) q) fun r s' hq => ?_)
  cases r with
  | error er => exact (passL (X := X.nox) pins σ H s er s' (I.wish _) hq).elim
  | ok fl =>
    cases fl with
    | ret w =>
      obtain ⟨v, H', I', rv, n, rfl, h0, h1, qn⟩ := I.after hq
      obtain ⟨tk, rfl⟩ := rv
      exact ⟨⟨h0, h1⟩, ⟨.int n, H', I'.tok _, ⟨_, rfl⟩, qn⟩⟩
    | next => exact False.elim hq
    | brk => exact False.elim hq
    | cont => exact False.elim hq
/-- == of an own class's instance and another one, or a tuple -/
def rEqO (K : PySem.W.Frag) (C : Addr) (sp : Sp) : R2 := fun x y H Q => ∃ a b dx fs, x = .ref a ∧ y = .ref b ∧ H a = some (.ins C dx fs) ∧ ((∃ dy gs, H b = some (.ins C dy gs)) ∨ ∃ ys, SqT K H b ys) ∧
  sp [.ref a, .ref b] H (fun v H' => ∃ q : Bool, v = .bl q ∧ Q (.bl q) H') E0
theorem op_eqO (F : FnOk X.prog X.w X.K X.mg X.base (L2.CX X.prog X.w) k f fd ps sp) (hs : PySem.W.findIn X.K (.ref C) "__eq__" = some (some (.ref f))) (hf : PySem.W.isFn X.K (.ref f) = true) (hb : Binds X.K fd ps []) (hr : Room k X.A)
    (hn : PySem.W.notFirst X.K C (.type "tuple") = true) : OpR X (compareOp .Eq) (rEqO X.K C sp) := by
  intro pins s σ H x y v u Q I rx ry h
  obtain ⟨a, b, dx, fs, rfl, rfl, ea, eb, q⟩ := h
  cases rx
  cases ry
  obtain ⟨mA, J, _⟩ := ins_get I.hok ea
  obtain ⟨od, J, _⟩ := J.look
  obtain ⟨m, hF⟩ := I.fr
  have hl := F.len _ _ _ _ q
  have bb := hb s [.ref a, .ref b] I.kIn (by simpa using hl)
  have go : wpAny (model X.prog X.w) X.A (call (.ref f) [.ref a, .ref b]) (PySem.W.CmpBack (EP X pins σ Q)) X.xe s := by
    refine wpAny_call (codeAny_mono (F.run X.A X.stack s H ⟨[.ref a, .ref b], []⟩ [.ref a, .ref b] [.ref a, .ref b] _ E0 hr I.env0 (by simpa using bb) (.cons rfl (.cons rfl .nil)) q) fun r s' hq => ?_)
    cases r with
    | error er => exact passL pins σ H s er s' I hq
    | ok fl =>
      cases fl with
      | ret w =>
        obtain ⟨v, H', I', rv, n, rfl, qn⟩ := I.after hq
        cases rv
        exact ⟨.bl n, H', I', rfl, qn⟩
      | next => exact False.elim hq
      | brk => exact False.elim hq
      | cont => exact False.elim hq
  show wpAny (model X.prog X.w) X.A (richCompare .Eq (.ref a) (.ref b)) (EP X pins σ Q) X.xe s
  rcases eb with ⟨dy, gs, eb⟩ | ⟨ys, eb⟩
  · obtain ⟨mB, J', _⟩ := ins_get I.hok eb
    obtain ⟨od', J', _⟩ := J'.look
    exact PySem.W.cmp_K (op := .Eq) (tb := .ref C) hr.units0 hF I.ok.mod.kin J J'.type (by simp [PySem.W.notFirst]) hs hf go
  · obtain ⟨its, rv, ⟨ob, ho, hc, _⟩, _⟩ := I.tuple eb
    have L : PySem.W.Looks (model X.prog X.w) s.heap (typeOf (.ref b)) (.type "tuple") := fun A Q E s k q => wpAny_typeOf_ref (k _ _ ho) (by rw [hc]; exact q)
    exact PySem.W.cmp_K (op := .Eq) (tb := .type "tuple") hr.units0 hF I.ok.mod.kin J L hn hs hf go
end
section
variable {X : Cx} {W : WX} {k : Nat} {a b e o c : Expr} {es : List Expr} {pos : Pos} {A B C : EX} {L : AX}
theorem ie_make {f Cc : Addr} {fd : FuncData} {ps : List Str} {x : Str} {p : Pos} {F : List PV → IH → Res PV} {n j : Nat} (cx : Ctx X W k) (M : Mk X.K Cc f) (G : FnOk X.prog X.w X.K X.mg X.base (L2.CX X.prog X.w) j f fd ps (SpF X.K X.mg n F)) (hj : j + 1 ≤ k) (hm : X.mg x = some (.ref Cc)) (hb : Binds X.K fd ps [])
    (ha : PA X (e :: es) (IA X.K X.mg W L)) (hF : ∀ us h, us.length ≠ n → F us h = .bad) (hg : Gl X x := by rfl) (hdb : (x == ("__debug__" : Str)) = false := by decide) (he : starEach (e :: es) X.env = (false, eval e X.env) :: starEach es X.env := by rfl) (hpl : (backTo pos (starEach es X.env)).any (·.1) = false := by rfl) :
    PE X (.Call (.Name x p) (e :: es) [] pos) (IE X.K X.mg W (eCall (mkO x F) L)) := by
  refine peImp (pe_makeS M G (cx.room.mono hj) hg hm hb (fun s => passAt cx.tk s) ha hdb he hpl) fun s H Q ⟨as, r, h, g, z, o⟩ => ?_
  refine ⟨as, r, h, g, z, (Out.bind o).imp fun Vs H1 ⟨as1, h1, us, S1, x1, r1, o1⟩ => ?_⟩
  intro y dy ny nd hne
  have x2 : RH X.K X.mg (upd H1 dy (.own y)) as1 h1 := x1.lay nd
  have S2 : Stp as1 H1 as1 (upd H1 dy (.own y)) := Stp.lay x1 nd
  have ny' : upd H1 dy (.own y) y = none := by rw [upd_ne (Ne.symm hne)]; exact ny
  have S3 := Stp.new (o := .ins Cc dy []) x2 ny'
  have x3 : RH X.K X.mg (upd (upd H1 dy (.own y)) y (.ins Cc dy [])) (as1 ++ [y]) (h1 ++ [.ins x []]) := x2.new ny' ⟨Cc, dy, [], hm, upd_same, rfl, .nil⟩
  have ro : RP X.K X.mg (upd (upd H1 dy (.own y)) y (.ins Cc dy [])) (as1 ++ [y]) (.obj h1.length) (.ref y) := .obj (by
    rw [List.getElem?_append_right (by rw [x1.len]; exact Nat.le_refl _), x1.len, Nat.sub_self]
    rfl)
  have rs : RPs X.K X.mg (upd (upd H1 dy (.own y)) y (.ins Cc dy [])) (as1 ++ [y]) (.obj h1.length :: us) (.ref y :: Vs) := .cons ro ((r1.mono S2).mono S3)
  have o2 := Out.shift (S2.trans S3) o1
  unfold mkO at o2
  refine SpF.of (W := W) (s := s) x3 rs ?_ ((Out.bind o2).imp fun V H4 ⟨as4, h4, v, S4, x4, r4, o4⟩ => ?_)
  · by_cases hn : (PV.obj h1.length :: us).length = n
    · exact hn
    · rw [hF _ _ hn] at o2; exact o2.elim
  · cases r4 with
    | non => exact ⟨rfl, o4.here x4 (ro.mono S4)⟩
    | bl => exact o4.elim
    | int => exact o4.elim
    | str => exact o4.elim
    | tup => exact o4.elim
    | fls => exact o4.elim
    | obj => exact o4.elim
    | glo => exact o4.elim
    | ty => exact o4.elim
    | key => exact o4.elim
theorem ie_meth {f Cc : Addr} {fd : FuncData} {ps : List Str} {m cn : Str} {apos : Pos} {F : List PV → IH → Res PV} {n j : Nat} (pl : Sem Bool) (cx : Ctx X W k) (gc : X.mg cn = some (.ref Cc)) (cl : Cls X.K Cc) (hm : Meth X.K Cc m f) (G : FnOk X.prog X.w X.K X.mg X.base (L2.CX X.prog X.w) j f fd ps (SpF X.K X.mg n F)) (hj : j ≤ k) (hb : Binds X.K fd ps [])
    (ho : PE X o (IE X.K X.mg W A)) (ha : PA X (e :: es) (IA X.K X.mg W L)) (hF : ∀ us h, us.length ≠ n → F us h = .bad)
    (hst : starEach (e :: es) X.env = (false, eval e X.env) :: starEach es X.env := by rfl) (hpl : (backTo pos (starEach es X.env)).any (·.1) = false := by rfl)
    (ht : eval (.Call (.Attribute o m apos) (e :: es) [] pos) X.env = (do
      let ov ← eval o X.env
      standAt apos.atName
      let (f, first) ← holding [ov] (getMethod ov m pl)
      callWith pos f first (backTo pos (starEach (e :: es) X.env)) (backToKw pos (keywordEach [] X.env))) := by rfl) :
    PE X (.Call (.Attribute o m apos) (e :: es) [] pos) (IE X.K X.mg W (eMeth cn m F A L)) := by
  refine peImp (pe_methS ho cl hm G (cx.room.mono hj) hb (fun s => passAt cx.tk s) ha hst hpl ht) fun s H Q ⟨as, r, h, g, z, o⟩ => ?_
  refine ⟨as, r, h, g, z, (Out.bind o).imp fun V H1 ⟨as1, h1, p1, S1, x1, r1, o1⟩ => ?_⟩
  split at o1
  · cases r1 with
    | obj hn =>
      split at o1
      · rename_i c' fs hx
        split at o1
        · rename_i hc
          obtain ⟨hc, hl⟩ := hc
          subst hc
          obtain ⟨b, e1, C', dx, gs, g0, e2, e3, rs⟩ := x1.at_ _ _ hx
          rw [hn] at e1; cases e1
          rw [gc] at g0; cases g0
          refine ⟨_, dx, gs, rfl, e2, fld_none e3 hl, as1, r, h1, g.mono S1, x1, (Out.bind o1).imp fun Vs H2 ⟨as2, h2, us, S2, x2, r2, o2⟩ => ?_⟩
          refine SpF.of x2 (RPs.cons (.obj (S2.get hn)) r2) ?_ o2
          by_cases hn' : us.length + 1 = n
          · rw [List.length_cons]; exact hn'
          · rw [hF _ _ (by rw [List.length_cons]; exact hn')] at o2; exact o2.elim
        · exact o1.elim
      · exact o1.elim
  · exact o1.elim
theorem ie_meth0 {f Cc : Addr} {fd : FuncData} {ps : List Str} {m cn : Str} {apos : Pos} {F : List PV → IH → Res PV} {j : Nat} (pl : Sem Bool) (cx : Ctx X W k) (gc : X.mg cn = some (.ref Cc)) (cl : Cls X.K Cc) (hm : Meth X.K Cc m f) (G : FnOk X.prog X.w X.K X.mg X.base (L2.CX X.prog X.w) j f fd ps (SpF X.K X.mg 1 F)) (hj : j ≤ k) (hb : Binds X.K fd ps [])
    (ho : PE X o (IE X.K X.mg W A))
    (ht : eval (.Call (.Attribute o m apos) [] [] pos) X.env = (do
      let ov ← eval o X.env
      standAt apos.atName
      let (f, first) ← holding [ov] (getMethod ov m pl)
      callWith pos f first (backTo pos (starEach [] X.env)) (backToKw pos (keywordEach [] X.env))) := by rfl) :
    PE X (.Call (.Attribute o m apos) [] [] pos) (IE X.K X.mg W (eMeth cn m F A aNil)) := by
  refine peImp (pe_methS0 ho cl hm G (cx.room.mono hj) hb (fun s => passAt cx.tk s) ht) fun s H Q ⟨as, r, h, g, z, o⟩ => ?_
  refine ⟨as, r, h, g, z, (Out.bind o).imp fun V H1 ⟨as1, h1, p1, S1, x1, r1, o1⟩ => ?_⟩
  split at o1
  · cases r1 with
    | obj hn =>
      split at o1
      · rename_i c' fs hx
        split at o1
        · rename_i hc
          obtain ⟨hc, hl⟩ := hc
          subst hc
          obtain ⟨b, e1, C', dx, gs, g0, e2, e3, rs⟩ := x1.at_ _ _ hx
          rw [hn] at e1; cases e1
          rw [gc] at g0; cases g0
          exact ⟨_, dx, gs, rfl, e2, fld_none e3 hl, SpF.of x1 (RPs.one (.obj hn)) rfl o1⟩
        · exact o1.elim
      · exact o1.elim
  · exact o1.elim
theorem noX_of {K : PySem.W.Frag} {mg : Str → Option Value} {s : L2.St} {as : List Addr} {H : Hp} {Q : VK} {r : Res PV} (o : Out K mg (fun H as p v => RP K mg H as p v) W s as H Q (noX r)) : Out K mg (fun H as p v => RP K mg H as p v) (fun c d _ H' => E0 c d H') [] as H Q r := by
  cases r with
  | ok a h => exact o
  | ex z h => exact (show False from o).elim
  | bad => exact o
theorem ie_prop {f pa Cc : Addr} {fd : FuncData} {ps : List Str} {m cn : Str} {F : List PV → IH → Res PV} {j : Nat} (cx : Ctx X W k) (gc : X.mg cn = some (.ref Cc)) (cl : Cls X.K Cc) (hp : PropOf X.K Cc m pa f) (G : FnOk X.prog X.w X.K X.mg X.base (L2.CX X.prog X.w) j f fd ps (SpF X.K X.mg 1 F)) (hj : j + 1 ≤ k) (hb : Binds X.K fd ps [])
    (he : PE X e (IE X.K X.mg W A)) (hab : attributeBase e m X.env (eval e X.env) = eval e X.env := by rfl) : PE X (.Attribute e m pos) (IE X.K X.mg W (eProp cn F A)) := by
  refine peImp (pe_prop he cl hp G (cx.room.mono hj) hb .nil (passL (X := X.nox)) hab) fun s H Q ⟨as, r, h, g, z, o⟩ => ?_
  refine ⟨as, r, h, g, z, (Out.bind o).imp fun V H1 ⟨as1, h1, p1, S1, x1, r1, o1⟩ => ?_⟩
  split at o1
  · cases r1 with
    | obj hn =>
      split at o1
      · rename_i c' fs hx
        split at o1
        · rename_i hc
          subst hc
          obtain ⟨b, e1, C', dx, gs, g0, e2, e3, rs⟩ := x1.at_ _ _ hx
          rw [hn] at e1; cases e1
          rw [gc] at g0; cases g0
          exact ⟨_, dx, gs, rfl, e2, as1, _, h1, rfl, RPs.one (.obj hn), x1, noX_of o1⟩
        · exact o1.elim
      · exact o1.elim
  · exact o1.elim
theorem snd_lenO {K : PySem.W.Frag} {mg : Str → Option Value} {cn : Str} {Cc : Addr} {F : List PV → IH → Res PV} (gc : mg cn = some (.ref Cc)) : SndC K mg (pLenO cn F) (rLenO Cc (SpF K mg 1 F)) := by
  intro W s as H h xs Us Q rh rs o
  unfold pLenO at o
  split at o
  · obtain ⟨v, rfl, rv⟩ := rs.inv1
    split at o
    · cases rv with
      | obj hn =>
        split at o
        · rename_i c' fs hx
          split at o
          · rename_i hc
            subst hc
            obtain ⟨b, e1, C', dx, gs, g0, e2, e3, rs'⟩ := rh.at_ _ _ hx
            rw [hn] at e1; cases e1
            rw [gc] at g0; cases g0
            refine ⟨_, dx, gs, rfl, e2, as, _, h, rfl, RPs.one (.obj hn), rh, ?_⟩
            split at o
            · rename_i i h1 hF
              split at o
              · rename_i hi
                rw [hF]
                intro V H' as' S x' r'
                cases r'
                have e63 : (2 : Int) ^ 63 = 9223372036854775808 := by decide
                exact ⟨_, rfl, hi.1, by rw [e63]; exact hi.2, o _ _ _ S x' (.int _)⟩
              · exact o.elim
            · exact o.elim
          · exact o.elim
        · exact o.elim
    · exact o.elim
  · exact o.elim
theorem snd_eqO {K : PySem.W.Frag} {mg : Str → Option Value} {cn : Str} {Cc : Addr} {F : List PV → IH → Res PV} (gc : mg cn = some (.ref Cc)) : Snd K mg (pEqO cn F) (rEqO K Cc (SpF K mg 2 F)) := by
  intro W s as H h x y U V Q rh rx ry o
  unfold pEqO at o
  split at o
  · cases rx with
    | obj hn =>
      split at o
      · rename_i c' fs hx
        split at o
        · rename_i hc
          obtain ⟨hc, ht⟩ := hc
          subst hc
          obtain ⟨b, e1, C', dx, gs, g0, e2, e3, rs'⟩ := rh.at_ _ _ hx
          rw [hn] at e1; cases e1
          rw [gc] at g0; cases g0
          have hy : ∃ b', V = .ref b' ∧ ((∃ dy gs, H b' = some (.ins Cc dy gs)) ∨ ∃ ys, SqT K H b' ys) := by
            unfold isTupOr at ht
            split at ht
            · cases ry with
              | tup hs rs => exact ⟨_, rfl, .inr ⟨_, hs⟩⟩
            · cases ry with
              | obj hm =>
                split at ht
                · rename_i c2 fs2 hx2
                  obtain ⟨b2, e1', C2, dx2, gs2, g0', e2', _⟩ := rh.at_ _ _ hx2
                  rw [hm] at e1'; cases e1'
                  have : c2 = c' := by simpa using ht
                  subst this
                  rw [gc] at g0'; cases g0'
                  exact ⟨_, rfl, .inl ⟨_, _, e2'⟩⟩
                · cases ht
            · cases ht
          obtain ⟨b', rfl, hy⟩ := hy
          refine ⟨_, _, dx, gs, rfl, rfl, e2, hy, as, _, h, rfl, RPs.cons (.obj hn) (RPs.one ry), rh, ?_⟩
          split at o
          · rename_i q h1 hF
            rw [hF]
            intro V H' as' S x' r'
            cases r'
            exact ⟨_, rfl, o _ _ _ S x' (.bl _)⟩
          · exact o.elim
        · exact o.elim
      · exact o.elim
  · exact o.elim
theorem ie_chain {op op' : CmpOp} {p q : PV → PV → IH → Res PV} {r r' : R2} (ho : OpR X (compareOp op) r) (ho' : OpR X (compareOp op') r') (hp : Snd X.K X.mg p r) (hq : Snd X.K X.mg q r') (ha : PE X a (IE X.K X.mg W A)) (hb : PE X b (IE X.K X.mg W B)) (hc : PE X c (IE X.K X.mg W C))
    (hm : lastMarks [op, op'] [b, c] = false := by with_unfolding_all rfl) : PE X (.Compare a [op, op'] [b, c] pos) (IE X.K X.mg W (eChain p q A B C)) := by
  refine peImp (pe_chain ho ho' ha hb hc hm) fun s H Q ⟨as, ρ, h, g, z, o⟩ => ?_
  refine ⟨as, ρ, h, g, z, (Out.bind o).imp fun V1 H1 ⟨as1, h1, p1, S1, x1, r1, o1⟩ => ?_⟩
  refine ⟨as1, ρ, h1, g.mono S1, x1, (Out.bind o1).imp fun V2 H2 ⟨as2, h2, p2, S2, x2, r2, o2⟩ => ?_⟩
  refine hp x2 (r1.mono S2) r2 ((Out.bind o2).imp fun V3 H3 ⟨as3, h3, p3, S3, x3, r3, o3⟩ => ?_)
  cases r3 with
  | bl d =>
    refine ⟨d, rfl, ?_⟩
    cases d with
    | false => exact o3.here x3 (.bl false)
    | true =>
      refine ⟨as3, ρ, h3, ((g.mono S1).mono S2).mono S3, x3, (Out.bind o3).imp fun V4 H4 ⟨as4, h4, p4, S4, x4, r4, o4⟩ => ?_⟩
      exact hq x4 ((r2.mono S3).mono S4) r4 o4
  | non => exact o3.elim
  | int => exact o3.elim
  | str => exact o3.elim
  | tup => exact o3.elim
  | fls => exact o3.elim
  | obj => exact o3.elim
  | glo => exact o3.elim
  | ty => exact o3.elim
  | key => exact o3.elim
end
end WR

/-! bundles for defs, classes; the head's Hook; the law's end -/
namespace WR
open PySem PySem.Spec PyProof.Rows L2
section
variable {P : Program} {w : World} {K : PySem.W.Frag} {mg : Str → Option Value} {base : Heap}
/-- a def of the top -/
structure GF (P : Program) (w : World) (K : PySem.W.Frag) (mg : Str → Option Value) (base : Heap) (x : Str) (j n : Nat) (F : List PV → IH → Res PV) : Prop where
  bad : ∀ us h, us.length ≠ n → F us h = .bad
  ex : ∃ f fd ps, FnOk P w K mg base (L2.CX P w) j f fd ps (SpF K mg n F) ∧ mg x = some (.ref f) ∧ PySem.W.keepIn K (.ref f) = true ∧ Binds K fd ps []
/-- a def of a class, at f -/
structure GA (P : Program) (w : World) (K : PySem.W.Frag) (mg : Str → Option Value) (base : Heap) (f : Addr) (j n : Nat) (F : List PV → IH → Res PV) : Prop where
  bad : ∀ us h, us.length ≠ n → F us h = .bad
  ex : ∃ fd ps, FnOk P w K mg base (L2.CX P w) j f fd ps (SpF K mg n F) ∧ Binds K fd ps []
theorem ga_mk {x qual : Str} {st : Stmt} {f : Addr} {fd : FuncData} {N ps : List Str} {k : Nat} {B : SX} (F : Fun K x qual st f fd) (S : FnScope N ps (defScope st)) (m : Nat) (hm : N.length = ps.length + m)
    (hb : ∀ (kV doc pm : Value) (an : Option Addr) (cdv ct : Value) (us : List Value), us.length = ps.length → bindArgs (PySem.W.fnOf x qual (defArgs st) (defBody st) (defScope st) .none kV doc pm an cdv ct) ⟨us, []⟩ = pure (ps.zip us))
    (body : ∀ (cdv : Value) (A : Around) (outer : List Env) (s : Shared) (H : Hp) (E : XK), Ctx (cxOf (L2.CX P w) P w K mg base N qual (defScope st) f cdv A outer s H E) (WD E) k →
      PSs (cxOf (L2.CX P w) P w K mg base N qual (defScope st) f cdv A outer s H E) (defBody st) (IS K mg (WD E) B)) :
    GA P w K mg base f (k + 1) ps.length (fn ps.length m B) := ⟨fn_bad, fd, ps, ok_of F S m hm body, F.binds hb⟩
theorem gf_mk {x qual : Str} {st : Stmt} {f : Addr} {fd : FuncData} {N ps : List Str} {k : Nat} {B : SX} (F : Fun K x qual st f fd) (g : mg x = some (.ref f)) (S : FnScope N ps (defScope st)) (m : Nat) (hm : N.length = ps.length + m)
    (hb : ∀ (kV doc pm : Value) (an : Option Addr) (cdv ct : Value) (us : List Value), us.length = ps.length → bindArgs (PySem.W.fnOf x qual (defArgs st) (defBody st) (defScope st) .none kV doc pm an cdv ct) ⟨us, []⟩ = pure (ps.zip us))
    (body : ∀ (cdv : Value) (A : Around) (outer : List Env) (s : Shared) (H : Hp) (E : XK), Ctx (cxOf (L2.CX P w) P w K mg base N qual (defScope st) f cdv A outer s H E) (WD E) k →
      PSs (cxOf (L2.CX P w) P w K mg base N qual (defScope st) f cdv A outer s H E) (defBody st) (IS K mg (WD E) B)) :
    GF P w K mg base x (k + 1) ps.length (fn ps.length m B) := ⟨fn_bad, f, fd, ps, ok_of F S m hm body, g, F.kp, F.binds hb⟩
end
section
variable {X : Cx} {W : WX} {k : Nat} {a b e o c : Expr} {es : List Expr} {pos p apos : Pos} {A B C : EX} {L : AX} {x m cn : Str} {j n : Nat} {F : List PV → IH → Res PV} {f Cc pa : Addr}
theorem ie_callG (cx : Ctx X W k) (G : GF X.prog X.w X.K X.mg X.base x j n F) (ha : PA X (e :: es) (IA X.K X.mg W L)) (hj : j ≤ k := by decide) (hg : Gl X x := by rfl) (hdb : (x == ("__debug__" : Str)) = false := by decide) (he : starEach (e :: es) X.env = (false, eval e X.env) :: starEach es X.env := by rfl) (hpl : (backTo pos (starEach es X.env)).any (·.1) = false := by rfl) :
    PE X (.Call (.Name x p) (e :: es) [] pos) (IE X.K X.mg W (eCall F L)) := by
  obtain ⟨f, fd, ps, G1, hm, hk, hb⟩ := G.ex
  exact ie_call cx G1 hj hm hk hb ha G.bad hg hdb he hpl
theorem ie_callG0 (cx : Ctx X W k) (G : GF X.prog X.w X.K X.mg X.base x j 0 F) (hj : j ≤ k := by decide) (hg : Gl X x := by rfl) (hdb : (x == ("__debug__" : Str)) = false := by decide) : PE X (.Call (.Name x p) [] [] pos) (IE X.K X.mg W (eCall F aNil)) := by
  obtain ⟨f, fd, ps, G1, hm, hk, hb⟩ := G.ex
  exact ie_call0 cx G1 hj hm hk hb hg hdb
theorem ie_makeG (cx : Ctx X W k) (M : Mk X.K Cc f) (hm : X.mg x = some (.ref Cc)) (G : GA X.prog X.w X.K X.mg X.base f j n F) (ha : PA X (e :: es) (IA X.K X.mg W L)) (hj : j + 1 ≤ k := by decide) (hg : Gl X x := by rfl) (hdb : (x == ("__debug__" : Str)) = false := by decide) (he : starEach (e :: es) X.env = (false, eval e X.env) :: starEach es X.env := by rfl) (hpl : (backTo pos (starEach es X.env)).any (·.1) = false := by rfl) :
    PE X (.Call (.Name x p) (e :: es) [] pos) (IE X.K X.mg W (eCall (mkO x F) L)) := by
  obtain ⟨fd, ps, G1, hb⟩ := G.ex
  exact ie_make cx M G1 hj hm hb ha G.bad hg hdb he hpl
theorem ie_propG (cx : Ctx X W k) (gc : X.mg cn = some (.ref Cc)) (cl : Cls X.K Cc) (hp : PropOf X.K Cc m pa f) (G : GA X.prog X.w X.K X.mg X.base f j 1 F) (he : PE X e (IE X.K X.mg W A)) (hj : j + 1 ≤ k := by decide) (hab : attributeBase e m X.env (eval e X.env) = eval e X.env := by rfl) :
    PE X (.Attribute e m pos) (IE X.K X.mg W (eProp cn F A)) := by
  obtain ⟨fd, ps, G1, hb⟩ := G.ex
  exact ie_prop cx gc cl hp G1 hj hb he hab
theorem ie_lenG (cx : Ctx X W k) (gc : X.mg cn = some (.ref Cc)) (hs : PySem.W.findIn X.K (.ref Cc) "__len__" = some (some (.ref f))) (hf : PySem.W.isFn X.K (.ref f) = true) (G : GA X.prog X.w X.K X.mg X.base f j 1 F) (hm : X.mg "len" = none) (ha : PA X (e :: es) (IA X.K X.mg W L)) (hj : j + 1 ≤ k := by decide) (hg : Gl X "len" := by rfl)
    (he : starEach (e :: es) X.env = (false, eval e X.env) :: starEach es X.env := by rfl) (hpl : (backTo pos (starEach es X.env)).any (·.1) = false := by rfl) : PE X (.Call (.Name "len" p) (e :: es) [] pos) (IE X.K X.mg W (eB (pLenO cn F) L)) := by
  obtain ⟨fd, ps, G1, hb⟩ := G.ex
  exact ie_callB (call_lenO G1 hs hf hb (cx.room.mono hj)) (snd_lenO gc) hm PySem.boot_len ha hg (by decide) (by decide) he hpl
theorem ie_eqG (cx : Ctx X W k) (gc : X.mg cn = some (.ref Cc)) (hs : PySem.W.findIn X.K (.ref Cc) "__eq__" = some (some (.ref f))) (hf : PySem.W.isFn X.K (.ref f) = true) (hn : PySem.W.notFirst X.K Cc (.type "tuple") = true) (G : GA X.prog X.w X.K X.mg X.base f j 2 F) (ha : PE X a (IE X.K X.mg W A)) (hb' : PE X b (IE X.K X.mg W B)) (hj : j ≤ k := by decide) :
    PE X (.Compare a [.Eq] [b] pos) (IE X.K X.mg W (eOp (pEqO cn F) A B)) := by
  obtain ⟨fd, ps, G1, hb⟩ := G.ex
  exact ie_cmp (op_eqO G1 hs hf hb (cx.room.mono hj) hn) (snd_eqO gc) ha hb' (nomark _)
theorem it_eqG (cx : Ctx X W k) (gc : X.mg cn = some (.ref Cc)) (hs : PySem.W.findIn X.K (.ref Cc) "__eq__" = some (some (.ref f))) (hf : PySem.W.isFn X.K (.ref f) = true) (hn : PySem.W.notFirst X.K Cc (.type "tuple") = true) (G : GA X.prog X.w X.K X.mg X.base f j 2 F) (ha : PE X a (IE X.K X.mg W A)) (hb' : PE X b (IE X.K X.mg W B)) (hj : j ≤ k := by decide) :
    PT X (.Compare a [.Eq] [b] pos) (IT X.K X.mg W (tBl (eOp (pEqO cn F) A B))) := by
  obtain ⟨fd, ps, G1, hb⟩ := G.ex
  exact it_cmp (op_eqO G1 hs hf hb (cx.room.mono hj) hn) (snd_eqO gc) ha hb' (nomark _)
theorem ie_methG (pl : Sem Bool) (cx : Ctx X W k) (gc : X.mg cn = some (.ref Cc)) (cl : Cls X.K Cc) (hm : Meth X.K Cc m f) (G : GA X.prog X.w X.K X.mg X.base f j n F) (ho : PE X o (IE X.K X.mg W A)) (ha : PA X (e :: es) (IA X.K X.mg W L)) (hj : j ≤ k := by decide)
    (hst : starEach (e :: es) X.env = (false, eval e X.env) :: starEach es X.env := by rfl) (hpl : (backTo pos (starEach es X.env)).any (·.1) = false := by rfl)
    (ht : eval (.Call (.Attribute o m apos) (e :: es) [] pos) X.env = (do
      let ov ← eval o X.env
      standAt apos.atName
      let (f, first) ← holding [ov] (getMethod ov m pl)
      callWith pos f first (backTo pos (starEach (e :: es) X.env)) (backToKw pos (keywordEach [] X.env))) := by rfl) : PE X (.Call (.Attribute o m apos) (e :: es) [] pos) (IE X.K X.mg W (eMeth cn m F A L)) := by
  obtain ⟨fd, ps, G1, hb⟩ := G.ex
  exact ie_meth pl cx gc cl hm G1 hj hb ho ha G.bad hst hpl ht
theorem ie_methG0 (pl : Sem Bool) (cx : Ctx X W k) (gc : X.mg cn = some (.ref Cc)) (cl : Cls X.K Cc) (hm : Meth X.K Cc m f) (G : GA X.prog X.w X.K X.mg X.base f j 1 F) (ho : PE X o (IE X.K X.mg W A)) (hj : j ≤ k := by decide)
    (ht : eval (.Call (.Attribute o m apos) [] [] pos) X.env = (do
      let ov ← eval o X.env
      standAt apos.atName
      let (f, first) ← holding [ov] (getMethod ov m pl)
      callWith pos f first (backTo pos (starEach [] X.env)) (backToKw pos (keywordEach [] X.env))) := by rfl) : PE X (.Call (.Attribute o m apos) [] [] pos) (IE X.K X.mg W (eMeth cn m F A aNil)) := by
  obtain ⟨fd, ps, G1, hb⟩ := G.ex
  exact ie_meth0 pl cx gc cl hm G1 hj hb ho ht
/-! the built-ins, in short -/
theorem ie_abs (hm : X.mg "abs" = none) (ha : PA X (e :: es) (IA X.K X.mg W L)) (hg : Gl X "abs" := by rfl) (he : starEach (e :: es) X.env = (false, eval e X.env) :: starEach es X.env := by rfl) (hpl : (backTo pos (starEach es X.env)).any (·.1) = false := by rfl) : PE X (.Call (.Name "abs" p) (e :: es) [] pos) (IE X.K X.mg W (eB pAbs L)) :=
  ie_callB call_abs snd_abs hm (by decide +kernel) ha hg (by decide) (by decide) he hpl
theorem ie_max2 (cx : Ctx X W k) (hm : X.mg "max" = none) (ha : PA X (e :: es) (IA X.K X.mg W L)) (hg : Gl X "max" := by rfl) (he : starEach (e :: es) X.env = (false, eval e X.env) :: starEach es X.env := by rfl) (hpl : (backTo pos (starEach es X.env)).any (·.1) = false := by rfl) : PE X (.Call (.Name "max" p) (e :: es) [] pos) (IE X.K X.mg W (eB pMax2 L)) :=
  ie_callB (call_max2 cx.calm) snd_max2 hm (by decide +kernel) ha hg (by decide) (by decide) he hpl
theorem ie_min2 (cx : Ctx X W k) (hm : X.mg "min" = none) (ha : PA X (e :: es) (IA X.K X.mg W L)) (hg : Gl X "min" := by rfl) (he : starEach (e :: es) X.env = (false, eval e X.env) :: starEach es X.env := by rfl) (hpl : (backTo pos (starEach es X.env)).any (·.1) = false := by rfl) : PE X (.Call (.Name "min" p) (e :: es) [] pos) (IE X.K X.mg W (eB pMin2 L)) :=
  ie_callB (call_min2 cx.calm) snd_min2 hm (by decide +kernel) ha hg (by decide) (by decide) he hpl
theorem ie_int1 (hm : X.mg "int" = none) (ha : PA X (e :: es) (IA X.K X.mg W L)) (hg : Gl X "int" := by rfl) (he : starEach (e :: es) X.env = (false, eval e X.env) :: starEach es X.env := by rfl) (hpl : (backTo pos (starEach es X.env)).any (·.1) = false := by rfl) : PE X (.Call (.Name "int" p) (e :: es) [] pos) (IE X.K X.mg W (eB pInt1 L)) :=
  ie_callT call_int1 snd_int1 hm (by decide +kernel) ha hg (by decide) (by decide) he hpl
theorem ie_len (hm : X.mg "len" = none) (ha : PA X (e :: es) (IA X.K X.mg W L)) (hg : Gl X "len" := by rfl) (he : starEach (e :: es) X.env = (false, eval e X.env) :: starEach es X.env := by rfl) (hpl : (backTo pos (starEach es X.env)).any (·.1) = false := by rfl) : PE X (.Call (.Name "len" p) (e :: es) [] pos) (IE X.K X.mg W (eB pLen L)) :=
  ie_callB call_len snd_len hm (by decide +kernel) ha hg (by decide) (by decide) he hpl
theorem ie_list1 (hm : X.mg "list" = none) (ha : PA X (e :: es) (IA X.K X.mg W L)) (hg : Gl X "list" := by rfl) (he : starEach (e :: es) X.env = (false, eval e X.env) :: starEach es X.env := by rfl) (hpl : (backTo pos (starEach es X.env)).any (·.1) = false := by rfl) : PE X (.Call (.Name "list" p) (e :: es) [] pos) (IE X.K X.mg W (eB pList1 L)) :=
  ie_callT call_list_of snd_list1 hm (by decide +kernel) ha hg (by decide) (by decide) he hpl
theorem ie_tuple1 (hm : X.mg "tuple" = none) (ha : PA X (e :: es) (IA X.K X.mg W L)) (hg : Gl X "tuple" := by rfl) (he : starEach (e :: es) X.env = (false, eval e X.env) :: starEach es X.env := by rfl) (hpl : (backTo pos (starEach es X.env)).any (·.1) = false := by rfl) : PE X (.Call (.Name "tuple" p) (e :: es) [] pos) (IE X.K X.mg W (eB pTuple1 L)) :=
  ie_callT call_tuple_of snd_tuple1 hm (by decide +kernel) ha hg (by decide) (by decide) he hpl
theorem ie_isi {cs : List Str} (O : OwnCs X.K X.mg cs) (hm : X.mg "isinstance" = none) (ha : PA X (e :: es) (IA X.K X.mg W L)) (hg : Gl X "isinstance" := by rfl) (he : starEach (e :: es) X.env = (false, eval e X.env) :: starEach es X.env := by rfl) (hpl : (backTo pos (starEach es X.env)).any (·.1) = false := by rfl) : PE X (.Call (.Name "isinstance" p) (e :: es) [] pos) (IE X.K X.mg W (eB (pIsi cs) L)) :=
  ie_callB call_isi (snd_isi O) hm (by decide +kernel) ha hg (by decide) (by decide) he hpl
theorem ie_tyB {x : Str} {n : String} (hm : X.mg x = none) (hv : bootBuiltins x = some (.type n) := by decide +kernel) (hg : Gl X x := by rfl) (hn : x ≠ "__name__" := by decide) (hd : (x == ("__debug__" : Str)) = false := by decide) : PE X (.Name x pos) (IE X.K X.mg W (eC (.ty n))) := ie_ty hg hm hv hn hd
/-! comparisons, in short -/
theorem ie_lt (ha : PE X a (IE X.K X.mg W A)) (hb : PE X b (IE X.K X.mg W B)) : PE X (.Compare a [.Lt] [b] pos) (IE X.K X.mg W (eOp pLt A B)) := ie_cmp op_lt snd_ci ha hb (nomark _)
theorem ie_le (ha : PE X a (IE X.K X.mg W A)) (hb : PE X b (IE X.K X.mg W B)) : PE X (.Compare a [.LtE] [b] pos) (IE X.K X.mg W (eOp pLe A B)) := ie_cmp op_le snd_ci ha hb (nomark _)
theorem ie_gt (ha : PE X a (IE X.K X.mg W A)) (hb : PE X b (IE X.K X.mg W B)) : PE X (.Compare a [.Gt] [b] pos) (IE X.K X.mg W (eOp pGt A B)) := ie_cmp op_gt snd_ci ha hb (nomark _)
theorem ie_ge (ha : PE X a (IE X.K X.mg W A)) (hb : PE X b (IE X.K X.mg W B)) : PE X (.Compare a [.GtE] [b] pos) (IE X.K X.mg W (eOp pGe A B)) := ie_cmp op_ge snd_ci ha hb (nomark _)
theorem ie_eq (cx : Ctx X W k) (ha : PE X a (IE X.K X.mg W A)) (hb : PE X b (IE X.K X.mg W B)) : PE X (.Compare a [.Eq] [b] pos) (IE X.K X.mg W (eOp pEq A B)) := ie_cmp (op_eqD cx.room.units) snd_eq ha hb (nomark _)
theorem ie_ne (cx : Ctx X W k) (ha : PE X a (IE X.K X.mg W A)) (hb : PE X b (IE X.K X.mg W B)) : PE X (.Compare a [.NotEq] [b] pos) (IE X.K X.mg W (eOp pNe A B)) := ie_cmp (op_neD cx.room.units) snd_ne ha hb (nomark _)
theorem ie_is (ha : PE X a (IE X.K X.mg W A)) (hb : PE X b (IE X.K X.mg W B)) : PE X (.Compare a [.Is] [b] pos) (IE X.K X.mg W (eOp pIsN A B)) := ie_cmp op_isN snd_isn ha hb (nomark _)
theorem ie_isnot (ha : PE X a (IE X.K X.mg W A)) (hb : PE X b (IE X.K X.mg W B)) : PE X (.Compare a [.IsNot] [b] pos) (IE X.K X.mg W (eOp pNotN A B)) := ie_cmp op_notN snd_notn ha hb (nomark _)
theorem it_lt (ha : PE X a (IE X.K X.mg W A)) (hb : PE X b (IE X.K X.mg W B)) : PT X (.Compare a [.Lt] [b] pos) (IT X.K X.mg W (tBl (eOp pLt A B))) := it_cmp op_lt snd_ci ha hb (nomark _)
theorem it_le (ha : PE X a (IE X.K X.mg W A)) (hb : PE X b (IE X.K X.mg W B)) : PT X (.Compare a [.LtE] [b] pos) (IT X.K X.mg W (tBl (eOp pLe A B))) := it_cmp op_le snd_ci ha hb (nomark _)
theorem it_gt (ha : PE X a (IE X.K X.mg W A)) (hb : PE X b (IE X.K X.mg W B)) : PT X (.Compare a [.Gt] [b] pos) (IT X.K X.mg W (tBl (eOp pGt A B))) := it_cmp op_gt snd_ci ha hb (nomark _)
theorem it_ge (ha : PE X a (IE X.K X.mg W A)) (hb : PE X b (IE X.K X.mg W B)) : PT X (.Compare a [.GtE] [b] pos) (IT X.K X.mg W (tBl (eOp pGe A B))) := it_cmp op_ge snd_ci ha hb (nomark _)
theorem it_eq (cx : Ctx X W k) (ha : PE X a (IE X.K X.mg W A)) (hb : PE X b (IE X.K X.mg W B)) : PT X (.Compare a [.Eq] [b] pos) (IT X.K X.mg W (tBl (eOp pEq A B))) := it_cmp (op_eqD cx.room.units) snd_eq ha hb (nomark _)
theorem it_ne (cx : Ctx X W k) (ha : PE X a (IE X.K X.mg W A)) (hb : PE X b (IE X.K X.mg W B)) : PT X (.Compare a [.NotEq] [b] pos) (IT X.K X.mg W (tBl (eOp pNe A B))) := it_cmp (op_neD cx.room.units) snd_ne ha hb (nomark _)
theorem it_is (ha : PE X a (IE X.K X.mg W A)) (hb : PE X b (IE X.K X.mg W B)) : PT X (.Compare a [.Is] [b] pos) (IT X.K X.mg W (tBl (eOp pIsN A B))) := it_cmp op_isN snd_isn ha hb (nomark _)
theorem it_isnot (ha : PE X a (IE X.K X.mg W A)) (hb : PE X b (IE X.K X.mg W B)) : PT X (.Compare a [.IsNot] [b] pos) (IT X.K X.mg W (tBl (eOp pNotN A B))) := it_cmp op_notN snd_notn ha hb (nomark _)
theorem ie_lele (ha : PE X a (IE X.K X.mg W A)) (hb : PE X b (IE X.K X.mg W B)) (hc : PE X c (IE X.K X.mg W C)) (hm : lastMarks [.LtE, .LtE] [b, c] = false := by with_unfolding_all rfl) : PE X (.Compare a [.LtE, .LtE] [b, c] pos) (IE X.K X.mg W (eChain pLe pLe A B C)) := ie_chain op_le op_le snd_ci snd_ci ha hb hc hm
end
/-! ### the head's Hook -/
abbrev FrB := PySem.W.Frag → Bool
def obsW (n : Nat) (ex : List FrB) (fn : List He5.DefA) (g : Addr → Option Obj) : He.AlD := ((ex.all fun f => f (He.frG g (He5.asA g n))) && fn.all fun d => d.ok (He.frG g (He5.asA g n)), fn.map fun d => He5.fnA (He.frG g (He5.asA g n)) (d.at_ (He.frG g (He5.asA g n))))
def SaysW (ex : List FrB) (fn : List He5.DefA) (K : PySem.W.Frag) : Prop := ((ex.all fun f => f K) && fn.all fun d => d.ok K, fn.map fun d => He5.fnA K (d.at_ K)) = He5.valA fn
def hookW (n : Nat) (ex : List FrB) (fn : List He5.DefA) : PySem.W.Hook where
  α := He.AlD
  obs := fun s => obsW n ex fn s.heap.get?
  val := fun _ => He5.valA fn
  says := fun _ h => ∃ K : PySem.W.Frag, K.In h ∧ SaysW ex fn K
  of := fun _ _ e => ⟨_, He.frG_in, e⟩
  keeps := fun _ _ _ ⟨K, hK, c⟩ k => ⟨K, PySem.W.Frag.In.keeps hK k, c⟩
theorem obsW_eq {n : Nat} {ex : List FrB} {fn : List He5.DefA} {g : Addr → Option Obj} {s : Shared} (h : ∀ a, g a = s.heap.get? a) : obsW n ex fn g = (hookW n ex fn).obs s := by
  have e : g = s.heap.get? := funext h
  rw [e] <;> rfl
section
variable {ex : List FrB} {fn : List He5.DefA} {K : PySem.W.Frag}
theorem SaysW.fact (c : SaysW ex fn K) {f : FrB} (h : f ∈ ex) : f K = true := by
  have c1 := (He.ba (show ((ex.all fun f => f K) && fn.all fun d => d.ok K) = true from congrArg (fun z : He.AlD => z.1) c)).1
  exact List.all_eq_true.mp c1 f h
theorem SaysW.def_ (c : SaysW ex fn K) (i : Nat) {d : He5.DefA} (h : fn[i]? = some d := by rfl) : ∃ fd, L2.FunD K d.name d.qual d.params d.body d.scope (d.dvs K) (d.kws K) (d.at_ K) fd := by
  have c2 := (He.ba (show ((ex.all fun f => f K) && fn.all fun d => d.ok K) = true from congrArg (fun z : He.AlD => z.1) c)).2
  have e : fn.map (fun d => He5.fnA K (d.at_ K)) = fn.map He5.DefA.val := congrArg (fun z : He.AlD => z.2) c
  have e2 : (fn.map fun d => He5.fnA K (d.at_ K))[i]? = (fn.map He5.DefA.val)[i]? := by rw [e]
  rw [List.getElem?_map, List.getElem?_map, h] at e2
  exact He5.DefA.funD (Option.some.inj e2) (List.all_eq_true.mp c2 d (List.mem_of_getElem? h))
end
/-- a def of the text, where it stands -/
def dA (at_ : PySem.W.Frag → Addr) (x q : Str) (st : Stmt) : He5.DefA := ⟨at_, x, q, defArgs st, defBody st, defScope st, [], []⟩
theorem SaysW.fun_ {ex : List FrB} {fn : List He5.DefA} {K : PySem.W.Frag} (c : SaysW ex fn K) (i : Nat) {at_ : PySem.W.Frag → Addr} {x q : Str} {st : Stmt} (h : fn[i]? = some (dA at_ x q st) := by rfl) : ∃ fd, Fun K x q st (at_ K) fd := by
  obtain ⟨fd, F⟩ := c.def_ i h
  exact ⟨fd, He5.fun_of F⟩
/-! facts as Bools -/
def bGlo (x : Str) : FrB := fun K => (He.Fa.glo x).ok K
def bFree (x : Str) : FrB := fun K => (He.Fa.free x).ok K
def bInt (x : Str) (i : Int) : FrB := fun K => (He.Fa.int x i).ok K
def bTup (x : Str) (vs : List He.Dv) : FrB := fun K => He.tupB K x vs
def bOwn (c : Str) : FrB := fun K => (He.Fa.cls c).ok K && (He.eqO (PySem.W.findIn K (.ref (He.ga K c)) "__class__") (some (some (.builtin "object.__class__"))) && (He.eqO (PySem.W.specialIn K (.builtin "object.__class__") "__get__") (some (some (.builtin "getset_descriptor.__get__"))) &&
  (decide (PySem.W.takesIn K (.builtin "object.__class__") = some true) && (decide (PySem.W.mroIn K (He.ga K c) (.type "object") = some true) &&
  (tyNames.all (fun n => decide (PySem.W.kitOne K (.type n) (.ref (He.ga K c)) = some false)) && tyNames.all (fun n => decide (PySem.W.kitOne K (.ref (He.ga K c)) (.type n) = some false)))))))
def bTwo (cs : List Str) : FrB := fun K => cs.all fun c => cs.all fun d => decide (PySem.W.kitOne K (.ref (He.ga K d)) (.ref (He.ga K c)) = some (d == c))
def bNoat (c f : Str) : FrB := fun K => (He.Fa.noat c f).ok K
def bMk (c : Str) : FrB := fun K => (He.Fa.mkr c).ok K
def bMeth (c m : Str) : FrB := fun K => (He.Fa.meth c m).ok K
def bProp (c m : Str) : FrB := fun K => He.eqO (PySem.W.findIn K (.ref (He.ga K c)) m) (some (some (.ref (He.ma K (He.ga K c) m)))) && (He.eqO (PySem.W.specialIn K (.ref (He.ma K (He.ga K c) m)) "__get__") (some (some (.builtin "property.__get__"))) &&
  (decide (PySem.W.takesIn K (.ref (He.ma K (He.ga K c) m)) = some true) && (match PySem.W.recIn K (He.ma K (He.ga K c) m) "property" with
    | some (.ref f :: _) => decide (f = He5.wf K (He.ga K c) "property" m)
    | _ => false)))
def bNf (c : Str) : FrB := fun K => PySem.W.notFirst K (He.ga K c) (.type "tuple")
section
variable {K : PySem.W.Frag} {mg : Str → Option Value} {h : Heap}
theorem bOwn_ok (X : K.In h) (G : h.Ns mainGlobals mg) {c : Str} (g : bGlo c K = true) (e : bOwn c K = true) : OwnC K mg c (He.ga K c) := by
  obtain ⟨e1, e⟩ := He.ba e
  obtain ⟨e2, e⟩ := He.ba e
  obtain ⟨e3, e⟩ := He.ba e
  obtain ⟨e4, e⟩ := He.ba e
  obtain ⟨e5, e⟩ := He.ba e
  obtain ⟨e6, e7⟩ := He.ba e
  exact ⟨He.glo_ok X G g, He.cls_ok e1, He.eqO_ok e2, He.eqO_ok e3, of_decide_eq_true e4, of_decide_eq_true e5,
    fun n hn => of_decide_eq_true (List.all_eq_true.mp e6 n (mem_of_contains hn)), fun n hn => of_decide_eq_true (List.all_eq_true.mp e7 n (mem_of_contains hn))⟩
theorem bTwo_ok (X : K.In h) (G : h.Ns mainGlobals mg) {cs : List Str} (o : ∀ c, cs.contains c = true → OwnC K mg c (He.ga K c)) (e : bTwo cs K = true) : OwnCs K mg cs :=
  ⟨fun c hc => ⟨_, o c hc⟩, fun c d C D hc hd gc gd => by
    have z := List.all_eq_true.mp (List.all_eq_true.mp e c (mem_of_contains hc)) d (mem_of_contains hd)
    have e1 := (o c hc).gC.symm.trans gc
    have e2 := (o d hd).gC.symm.trans gd
    cases e1
    cases e2
    exact of_decide_eq_true z⟩
theorem bProp_ok {c m : Str} (e : bProp c m K = true) : PropOf K (He.ga K c) m (He.ma K (He.ga K c) m) (He5.wf K (He.ga K c) "property" m) := by
  obtain ⟨e1, e⟩ := He.ba e
  obtain ⟨e2, e⟩ := He.ba e
  obtain ⟨e3, e4⟩ := He.ba e
  refine ⟨He.eqO_ok e1, He.eqO_ok e2, of_decide_eq_true e3, ?_⟩
  split at e4
  · rename_i f r hr
    have : f = He5.wf K (He.ga K c) "property" m := of_decide_eq_true e4
    rw [← this]
    exact ⟨r, hr⟩
  · cases e4
theorem bTup_ok {x : Str} {vs : List He.Dv} (e : bTup x vs K = true) (H : Hp) : SqT K H (He.ga K x) (vs.map (He.Dv.v K)) := He.tupB_ok e H
end
/-- the law's promise from the functional code -/
theorem law_sp {K : PySem.W.Frag} {mg : Str → Option Value} {F : List PV → IH → Res PV} (hF : ∀ ns : List Int, ns.length ≤ 63 → ∃ h, F [.fls (ns.map .int)] [] = .ok (.bl true) h) (H : Hp) (a : Addr) (ns : List Int) (hl : ns.length ≤ 63) (hO : Only H) (hS : SqL K H a (ns.map V.int)) :
    SpF K mg 1 F [.ref a] H (fun v _ => v = .bl true) fun _ _ _ => False := by
  have hf : SqF K H a (ns.map V.int) := by
    rcases hS with (hS | ⟨o, hS⟩) | hS
    · rcases hO a with z | ⟨o, xs, z⟩
      · rw [z] at hS; cases hS
      · rw [z] at hS; cases hS
    · exact .inl ⟨o, hS⟩
    · exact .inr hS
  have rs : ∀ l : List Int, RPs K mg H [] (l.map PV.int) (l.map V.int) := fun l => by
    induction l with
    | nil => exact .nil
    | cons x r ih => exact .cons (.int x) ih
  obtain ⟨h, e⟩ := hF ns hl
  refine ⟨[], [.fls (ns.map .int)], [], rfl, .one (.fls hf (rs ns)), ⟨rfl, List.nodup_nil, fun n o z => by cases z⟩, ?_⟩
  rw [e]
  intro V H' as' _ _ r
  cases r
  rfl
theorem fun_bA {K : PySem.W.Frag} {x qual : Str} {st : Stmt} {f : Addr} {fd : FuncData} {ps : List Str} (F : Fun K x qual st f fd)
    (h : ∀ (kV doc pm : Value) (an : Option Addr) (cdv ct : Value) (us : List Value), us.length = ps.length → bindArgs (PySem.W.fnOf x qual (defArgs st) (defBody st) (defScope st) .none kV doc pm an cdv ct) ⟨us, []⟩ = pure (ps.zip us)) (s : Shared) (us : List Value) (hl : us.length = ps.length) : BindsTo s fd ⟨us, []⟩ (ps.zip us) := by
  obtain ⟨oc, od, kV, doc, pm, an, cdv, ct, osl, e, _⟩ := F.ex
  rw [e]
  exact BindsTo.of_eq (h kV doc pm an cdv ct us hl)
theorem cx_none {P : Program} {w : World} {H : Hp} {s : Shared} {e : Value} {s' : Shared} (z : L2.CX P w [] H s (fun _ _ _ => False) e s') : False := by
  obtain ⟨_, _, _, _, _, _, _, _, _, _, _, _, q⟩ := z
  exact q
/-- a law from its functional code -/
theorem walk_W {l : PySem.W.OpenLaw} {k : Nat} {q : Program} {loose : List Str} {XP : (Str → Option Value) → Heap → Prop} {YP : World → Heap → Prop} {d : DefRec} {x : Str} {F : List PV → IH → Res PV}
    (hn : l.most = some 63) (hdf : d.params.defaults = []) (hr : Room k callerA)
    (hF : ∀ (w : World) (mg : Str → Option Value) (fa : Addr) (h : Heap), YP w h → h.Ns mainGlobals mg → mg d.name = some (.ref fa) →
      ∃ (K : PySem.W.Frag) (fd : FuncData), K.In h ∧ (∀ (s : Shared) (u : Value), BindsTo s fd ⟨[u], []⟩ [(x, u)]) ∧ ∀ base : Heap, K.In base → base.Ns mainGlobals mg → FnOk l.prog w K mg base (L2.CX l.prog w) k fa fd [x] (SpF K mg 1 F))
    (hl : ∀ ns : List Int, ns.length ≤ 63 → ∃ h, F [.fls (ns.map .int)] [] = .ok (.bl true) h) : PySem.W.WalkO q loose XP YP l.row.toRowW d [] (fun f vs => PySem.call f vs) := by
  refine Att.attach_call hn hdf fun w s0 s1 mg mb fa o pm cd doc a vs ns G Y ho hd hcd hmg hobj hints hlen hg => ?_
  obtain ⟨K, fd, KX, hb, hk⟩ := hF w mg fa _ Y G.T.g hmg
  exact law_call KX G.T.g G.T.b G.T.builtins G.T.nolimit hg hobj hints (by rw [sizeLine_eq]; omega) hr hk hb (fun H hO hS => law_sp hl H a ns hlen hO hS) fun H e s' z => cx_none z
end WR

/-! comprehensions -/
namespace WR
open PySem PySem.Spec PyProof.Rows L2
@[simp] def wipeF (r : Fm) : List Nat → Fm
  | [] => r
  | v :: vs => (wipeF r vs).set v none
def lcL (it : ItF) (g : TgF) (c : TX) (A : EX) (r0 : Fm) (D : Nat) : Nat → Nat → IH → Res Unit
  | 0, _, _ => .bad
  | n + 1, i, h => match it i h with
    | none => .bad
    | some none => .ok () h
    | some (some v) => (match g v r0 with
      | none => .bad
      | some r1 => (match c r1 h with
        | .ok b h2 => if b then (match A r1 h2 with
          | .ok y h3 => (match h3[D]? with
            | some (.lst acc) => if acc.length < 16777216 then lcL it g c A r0 D n (i + 1) (h3.set D (.lst (acc ++ [y]))) else .bad
            | _ => .bad)
          | _ => .bad) else lcL it g c A r0 D n (i + 1) h2
        | _ => .bad))
/-- [elt for tg in iter if c] -/
def eLc (I : Fm → IH → Res ItF) (g : TgF) (c : TX) (A : EX) (vs : List Nat) : EX := fun r h => (I r h).bind fun it h1 => (lcL it g c A (wipeF r vs) h1.length LIM 0 (h1 ++ [.lst []])).bind fun _ h2 => .ok (.obj h1.length) h2
@[simp] def tYesX : TX := fun _ h => .ok true h
section
variable {K : PySem.W.Frag} {mg : Str → Option Value} {as : List Addr} {H : Hp} {r : Fm} {s : L2.St}
theorem RF.unset {i : Nat} (f : RF K mg H as r s) : RF K mg H as (r.set i none) (s.set i none) := by
  refine ⟨by simp [f.len], fun j q e => ?_⟩
  by_cases hj : j = i
  · subst hj
    by_cases hl : j < r.length
    · rw [List.getElem?_set_self hl] at e; cases e
    · rw [List.getElem?_eq_none (by simpa using hl)] at e; cases e
  · rw [List.getElem?_set_ne (Ne.symm hj)] at e ⊢
    exact f.at_ j q e
theorem RF.wipe (f : RF K mg H as r s) : ∀ vs, RF K mg H as (wipeF r vs) (L2.wipe s vs)
  | [] => f
  | v :: vs => (RF.wipe f vs).unset
end
theorem wipe_get (s : L2.St) (j : Nat) : ∀ vs : List Nat, (L2.wipe s vs)[j]? = if j ∈ vs then s[j]?.map (fun _ => none) else s[j]?
  | [] => by simp [L2.wipe]
  | v :: vs => by
    have ih := wipe_get s j vs
    have hl := L2.wipe_length s vs
    unfold L2.wipe
    by_cases e : v = j
    · subst e
      rw [if_pos (by simp)]
      by_cases l : v < s.length
      · rw [List.getElem?_set_self (by rw [hl]; exact l), List.getElem?_eq_getElem l]; rfl
      · rw [List.getElem?_eq_none (by simp [hl]; omega), List.getElem?_eq_none (by omega)]; rfl
    · rw [List.getElem?_set_ne e, ih]
      by_cases m : j ∈ vs
      · rw [if_pos m, if_pos (by simp [m])]
      · rw [if_neg m, if_neg (by simp [m]; exact fun z => e z.symm)]
theorem wipe_set {s : L2.St} {i : Nat} {x : Option V} {vs : List Nat} (h : i ∈ vs) : L2.wipe (s.set i x) vs = L2.wipe s vs := by
  apply List.ext_getElem?
  intro j
  rw [wipe_get, wipe_get]
  by_cases m : j ∈ vs
  · rw [if_pos m, if_pos m]
    by_cases e : i = j
    · subst e
      by_cases l : i < s.length
      · rw [List.getElem?_set_self l, List.getElem?_eq_getElem l]; rfl
      · rw [List.getElem?_eq_none (by simp; omega), List.getElem?_eq_none (by omega)]
    · rw [List.getElem?_set_ne e]
  · rw [if_neg m, if_neg m, List.getElem?_set_ne (fun e : i = j => m (by rw [← e]; exact h))]
theorem wipe_wipe (s : L2.St) (vs : List Nat) : L2.wipe (L2.wipe s vs) vs = L2.wipe s vs := by
  apply List.ext_getElem?
  intro j
  rw [wipe_get, wipe_get]
  by_cases m : j ∈ vs
  · rw [if_pos m, if_pos m]; cases s[j]? <;> rfl
  · rw [if_neg m, if_neg m]
/-- a target within a block -/
def GW (K : PySem.W.Frag) (mg : Str → Option Value) (vs : List Nat) (g : TgF) : TG := fun v s H Q => ∃ as r p r1 h, RF K mg H as r s ∧ RH K mg H as h ∧ RP K mg H as p v ∧ g p r = some r1 ∧ ∀ s1, RF K mg H as r1 s1 → L2.wipe s1 vs = L2.wipe s vs → Q s1 H
def GWs (K : PySem.W.Frag) (mg : Str → Option Value) (vs is : List Nat) : TGs := fun us s H Q => ∃ as r ps r1, RF K mg H as r s ∧ RPs K mg H as ps us ∧ setAll is ps r = some r1 ∧ ∀ s1, RF K mg H as r1 s1 → L2.wipe s1 vs = L2.wipe s vs → Q s1 H
def W0 : WX := fun _ _ _ _ => False
section
variable {X : Cx} {W : WX} {k : Nat} {e : Expr} {es : List Expr} {pos : Pos}
theorem gw_name (i : Nat) {vs : List Nat} {x : Str} (hN : X.N.Nodup) (hi : X.N[i]? = some x := by rfl) (hx : Loc X.env.scope x := by first | exact Or.inl rfl | exact Or.inr rfl) (hf : X.fn x = true ∨ X.env.scope.names.lookup x = some .local := by first | exact .inl rfl | exact .inr rfl | assumption) (hv : i ∈ vs := by decide) :
    PG X (.Name x pos) (GW X.K X.mg vs (gVar i)) := by
  refine pgImp (pg_name hN hi hx hf) fun v s H Q ⟨as, r, p, r1, h, f, x, rp, e, q⟩ => ?_
  cases e
  exact q _ (f.set rp) (wipe_set hv)
theorem gws_nil {vs : List Nat} : PGs X [] (GWs X.K X.mg vs []) := by
  refine ⟨fun pins s σ H us ws Q I r q => pgs_nil.run pins s σ H us ws Q I r ?_⟩
  obtain ⟨as, r, ps, r1, f, rp, e, q⟩ := q
  cases ps with
  | nil => cases rp; cases e; exact ⟨rfl, q _ f rfl⟩
  | cons p ps => cases e
theorem gws_cons (i : Nat) {vs is : List Nat} {x : Str} (hN : X.N.Nodup) (h2 : PGs X es (GWs X.K X.mg vs is)) (hi : X.N[i]? = some x := by rfl) (hx : Loc X.env.scope x := by first | exact Or.inl rfl | exact Or.inr rfl) (hf : X.fn x = true ∨ X.env.scope.names.lookup x = some .local := by first | exact .inl rfl | exact .inr rfl | assumption) (hv : i ∈ vs := by decide)
    (hs : (assignEach (.Name x pos :: es) X.env).map (·.2) = assign (.Name x pos) X.env :: (assignEach es X.env).map (·.2) := by rfl) : PGs X (.Name x pos :: es) (GWs X.K X.mg vs (i :: is)) := by
  refine ⟨fun pins s σ H us ws Q I r q => (pgs_cons (pg_name (pos := pos) hN hi hx hf) h2 hs).run pins s σ H us ws Q I r ?_⟩
  obtain ⟨as, r, ps, r1, f, rp, e, q⟩ := q
  cases rp with
  | nil => cases e
  | cons a b => exact ⟨_, _, rfl, as, _, _, r1, f.set a, b, e, fun s1 f1 w1 => q s1 f1 (w1.trans (wipe_set hv))⟩
theorem gw_tup {vs is : List Nat} {kk : Nat} (cx : Ctx X W k) (h : PGs X es (GWs X.K X.mg vs is)) (hl : is.length = es.length := by rfl) (hn : (assignEach es X.env).length = es.length := by rfl) (hst : (assignEach es X.env).findIdx? (·.1) = none := by rfl) :
    PG X (.Tuple es kk pos) (GW X.K X.mg vs (gTupF is)) := by
  refine pgImp (pg_tup cx.calm h hn hst) fun v s H Q ⟨as, r, p, r1, h, f, x, rp, e, q⟩ => ?_
  cases rp with
  | tup hs rs =>
    refine ⟨_, _, rfl, hs, ?_, as, r, _, r1, f, rs, e, q⟩
    rw [← rs.length, ← hl]
    have key : ∀ (is : List Nat) (ps : List PV) (r : Fm) (r1 : Fm), setAll is ps r = some r1 → ps.length = is.length := by
      intro is
      induction is with
      | nil => intro ps r r1 e; cases ps with
        | nil => rfl
        | cons _ _ => cases e
      | cons i is ih => intro ps r r1 e; cases ps with
        | nil => cases e
        | cons p ps => rw [List.length_cons, List.length_cons, ih ps _ _ e]
    exact key _ _ _ _ e
  | non => cases e
  | bl => cases e
  | int => cases e
  | str => cases e
  | fls => cases e
  | obj => cases e
  | glo => cases e
  | ty => cases e
  | key => cases e
theorem Ctx.blk (cx : Ctx X W k) (s : Shared) (H : Hp) (scope : Scope) (cenv : Env) (fp : List Addr) : Ctx (X.blk s H scope cenv fp) W0 k :=
  ⟨fun u s' ⟨a, B, sI, pins, σ, H, cls, d, e, I, nb, up, sky, na, os, ag, w⟩ => w.elim, PassesOwn.never, cx.calm, cx.nd, cx.room⟩
theorem lc_sound {I : Fm → IH → Res ItF} {g : TgF} {c : TX} {A : EX} {vs : List Nat} {K : PySem.W.Frag} {mg : Str → Option Value} {s : L2.St} {H : Hp} {Q : VK} {as : List Addr} {r : Fm} {h : IH} (f : RF K mg H as r s) (x : RH K mg H as h)
    (o : Out K mg (fun H as p v => RP K mg H as p v) W s as H Q (eLc I g c A vs r h)) : tLc (II K mg W I) (GW K mg vs g) (IT K mg W0 c) (IE K mg W0 A) vs s H Q := by
  refine ⟨as, r, h, f, x, (Out.bind o).imp fun J H1 ⟨as1, h1, itf, S1, x1, ri, o1⟩ => ?_⟩
  intro D nD
  have SD := Stp.new (o := .lst []) x1 nD
  refine ⟨fun i m H2 => ∃ as2 h2, Stp as H as2 H2 ∧ RH K mg H2 as2 h2 ∧ RI K mg H2 as2 itf J ∧ as2[h1.length]? = some D ∧
    Out K mg (fun H as p v => RP K mg H as p v) W s as2 H2 Q ((lcL itf g c A (wipeF r vs) h1.length m i h2).bind fun _ h2 => .ok (.obj h1.length) h2),
    ⟨LIM, as1 ++ [D], h1 ++ [.lst []], S1.trans SD, x1.new (m := .lst []) nD ⟨_, upd_same, .nil⟩, ri.mono SD, ?_, o1.shift SD⟩, ?_⟩
  · rw [List.getElem?_append_right (by rw [x1.len]; exact Nat.le_refl _), x1.len, Nat.sub_self]; rfl
  rintro i m H2 ⟨as2, h2, S2, x2, ri2, d2, o2⟩
  cases m with
  | zero => exact o2.elim
  | succ m =>
    have z := ri2 i as2 H2 h2 (Stp.refl _ _) x2
    unfold lcL at o2
    cases q : itf i h2 with
    | none => rw [q] at o2; exact o2.elim
    | some w =>
      rw [q] at z o2
      cases w with
      | none => exact .inl ⟨z, o2.here x2 (.obj d2)⟩
      | some v =>
        refine .inr ⟨z.1, fun H3 => ∃ as3 h3, Stp as H as3 H3 ∧ RH K mg H3 as3 h3 ∧ RI K mg H3 as3 itf J ∧ as3[h1.length]? = some D ∧
          Out K mg (fun H as p v => RP K mg H as p v) W s as3 H3 Q ((lcL itf g c A (wipeF r vs) h1.length m (i + 1) h3).bind fun _ h2 => .ok (.obj h1.length) h2), fun H3 t => ⟨m, Nat.lt_succ_self m, t⟩, fun y H3 hy => ?_⟩
        obtain ⟨S3, x3, rv⟩ := z.2 y H3 hy
        cases qg : g v (wipeF r vs) with
        | none => simp only [qg] at o2; exact o2.elim
        | some r3 =>
          simp only [qg] at o2
          have S23 := S2.trans S3
          refine ⟨as2, wipeF r vs, v, r3, h2, (f.mono S23).wipe vs, x3, rv, qg, fun s4 f4 w4 => ⟨w4.trans (wipe_wipe _ _), as2, r3, h2, f4, x3, ?_⟩⟩
          have o3 := Out.shift S3 o2
          cases qc : c r3 h2 with
          | ex z r5 => simp only [qc] at o3; exact o3.elim
          | bad => simp only [qc] at o3; exact o3.elim
          | ok b h4 =>
            simp only [qc] at o3
            intro b' H4 as4 S4 x4 eb
            subst eb
            have o4 := Out.shift S4 o3
            cases b with
            | false =>
              simp only [Bool.false_eq_true, if_false] at o4 ⊢
              exact ⟨as4, h4, S23.trans S4, x4, (ri2.mono S3).mono S4, S4.get d2, o4⟩
            | true =>
              simp only [if_true] at o4 ⊢
              refine ⟨as4, r3, h4, f4.mono S4, x4, ?_⟩
              cases qa : A r3 h4 with
              | ex z r5 => simp only [qa] at o4; exact o4.elim
              | bad => simp only [qa] at o4; exact o4.elim
              | ok u h5 =>
                simp only [qa] at o4
                intro U H5 as5 S5 x5 ru
                have o5 := Out.shift S5 o4
                have d5 := S5.get (S4.get d2)
                split at o5
                · rename_i acc ha
                  split at o5
                  · rename_i hl
                    obtain ⟨b', e3, ws, e4, rs'⟩ := x5.at_ _ _ ha
                    rw [d5] at e3; cases e3
                    refine ⟨ws, e4, by rw [sizeLine_eq, ← rs'.length]; exact hl, ?_⟩
                    have S6 := Stp.put (o := .lst (ws ++ [U])) x5 d5 ha
                    exact ⟨as5, _, ((S23.trans S4).trans S5).trans S6, x5.put (m := .lst (acc ++ [u])) d5 ha ⟨_, upd_same, (rs'.append (.one ru)).mono S6⟩, (((ri2.mono S3).mono S4).mono S5).mono S6, S6.get d5, o5.shift S6⟩
                  · exact o5.elim
                · exact o5.elim
/-- as a value -/
theorem ie_lc {elt tg iter : Expr} {ifs : List Expr} {scope : Scope} {I : Fm → IH → Res ItF} {g : TgF} {c : TX} {A : EX} {vs : List Nat} (own : List (Str × Nat)) (cx : Ctx X W k) (hi : PI X tg iter (II X.K X.mg W I)) (ok : BlkOk X.N X.env.scope scope own)
    (hg : ∀ (s : Shared) (H : Hp) (C : Addr) (cl : List (Str × Addr)) (fp : List Addr), Ctx (X.blk s H scope (compEnvC scope cl C X.env) fp) W0 k → PG (X.blk s H scope (compEnvC scope cl C X.env) fp) tg (GW X.K X.mg vs g))
    (ht : ∀ (s : Shared) (H : Hp) (C : Addr) (cl : List (Str × Addr)) (fp : List Addr), Ctx (X.blk s H scope (compEnvC scope cl C X.env) fp) W0 k → PTs (X.blk s H scope (compEnvC scope cl C X.env) fp) ifs (IT X.K X.mg W0 c))
    (he : ∀ (s : Shared) (H : Hp) (C : Addr) (cl : List (Str × Addr)) (fp : List Addr), Ctx (X.blk s H scope (compEnvC scope cl C X.env) fp) W0 k → PE (X.blk s H scope (compEnvC scope cl C X.env) fp) elt (IE X.K X.mg W0 A))
    (hv : own.map (·.2) = vs := by rfl) (hs : ∀ x, foldedSetIterable iter X.env x = pure x := by intro _; rfl) : PE X (.ListComp elt [⟨tg, iter, ifs, 0⟩] scope pos) (IE X.K X.mg W (eLc I g c A vs)) := by
  subst hv
  exact peImp (pe_lc cx.calm cx.nd hi ok (fun s H C cl fp => hg s H C cl fp (cx.blk ..)) (fun s H C cl fp => ht s H C cl fp (cx.blk ..)) (fun s H C cl fp => he s H C cl fp (cx.blk ..)) hs) fun s H Q ⟨as, r, h, f, x, o⟩ => lc_sound f x o
theorem it_none : PTs X [] (IT X.K X.mg W tYesX) := ⟨fun pins s σ H Q I h => pts_nil.run pins s σ H Q I (by obtain ⟨as, r, h, f, x, o⟩ := h; exact o.here x rfl)⟩
/-- name = [..] on one line, the name a local -/
theorem is_setLc (i : Nat) {y : Str} {py spos : Pos} {elt tg iter : Expr} {ifs : List Expr} {scope : Scope} {I : Fm → IH → Res ItF} {g : TgF} {c : TX} {A : EX} {vs : List Nat} (own : List (Str × Nat)) (cx : Ctx X W k)
    (hsw : swapsWith (.ListComp elt [⟨tg, iter, ifs, 0⟩] scope pos) (some (.Name y py)) spos.line X.env = pure true) (hi : PI X tg iter (II X.K X.mg W I)) (ok : BlkOk X.N X.env.scope scope own)
    (hg : ∀ (s : Shared) (H : Hp) (C : Addr) (cl : List (Str × Addr)) (fp : List Addr), Ctx (X.blk s H scope (compEnvC scope cl C X.env) fp) W0 k → PG (X.blk s H scope (compEnvC scope cl C X.env) fp) tg (GW X.K X.mg vs g))
    (ht : ∀ (s : Shared) (H : Hp) (C : Addr) (cl : List (Str × Addr)) (fp : List Addr), Ctx (X.blk s H scope (compEnvC scope cl C X.env) fp) W0 k → PTs (X.blk s H scope (compEnvC scope cl C X.env) fp) ifs (IT X.K X.mg W0 c))
    (he : ∀ (s : Shared) (H : Hp) (C : Addr) (cl : List (Str × Addr)) (fp : List Addr), Ctx (X.blk s H scope (compEnvC scope cl C X.env) fp) W0 k → PE (X.blk s H scope (compEnvC scope cl C X.env) fp) elt (IE X.K X.mg W0 A))
    (hy : X.N[i]? = some y := by rfl) (hyl : X.env.scope.names.lookup y = some .local := by rfl)
    (hv : own.map (·.2) = vs := by rfl) (hs : ∀ x, foldedSetIterable iter X.env x = pure x := by intro _; rfl) : PS X (.Assign [.Name y py] (.ListComp elt [⟨tg, iter, ifs, 0⟩] scope pos) spos) (IS X.K X.mg W (sSet i (eLc I g c A vs))) := by
  subst hv
  refine psImp (ps_setLc cx.calm cx.nd hy hyl hsw hi ok (fun s H C cl fp => hg s H C cl fp (cx.blk ..)) (fun s H C cl fp => ht s H C cl fp (cx.blk ..)) (fun s H C cl fp => he s H C cl fp (cx.blk ..)) hs) fun D s H ⟨as, r, h, f, x, o⟩ => ?_
  refine lc_sound f x ((outS_of f o).imp fun V H1 ⟨as1, h1, p, S1, x1, r1, o1⟩ => ?_)
  exact o1 _ H1 as1 (Stp.refl _ _) x1 ((f.mono S1).set r1)
end
end WR

/-! more statements; in -/
namespace WR
open PySem PySem.Spec PyProof.Rows L2
@[simp] def sPar3 (i j l : Nat) (A : AX) : SX := fun r h => toS (A r h) r fun vs h1 => match vs with
  | [v, w, u] => .nx (((r.set i (some v)).set j (some w)).set l (some u)) h1
  | _ => .bad
@[simp] def sCont : SX := fun r h => .ct r h
@[simp] def sAugAdd (i : Nat) (A : EX) : SX := fun r h => match r[i]? with
  | some (some (.int x)) => toS (A r h) r fun v h1 => (match v with
    | .int y => .nx (r.set i (some (.int (x + y)))) h1
    | _ => .bad)
  | _ => .bad
def pInB (x y : PV) (h : IH) : Option Bool := match y with
  | .tup ys => (match x with
    | .int i => if ys.all (fun y => match y with | .int _ => true | _ => false) then some (ys.any fun y => match y with | .int j => j == i | _ => false) else none
    | _ => none)
  | _ => (match dataOf DEP h x, dataOf DEP h y with
    | some d, some (.list ds) => if SeqAt.shaped d && SeqAt.shaped (.list ds) then some (ds.any fun z => PyData.eqv z d) else none
    | _, _ => none)
@[simp] def pIn (x y : PV) (h : IH) : Res PV := opt ((pInB x y h).map .bl) h
@[simp] def pNotIn (x y : PV) (h : IH) : Res PV := opt ((pInB x y h).map fun b => .bl (!b)) h
section
variable {K : PySem.W.Frag} {mg : Str → Option Value}
theorem ints_flat {as : List Addr} {H : Hp} : ∀ {ys : List PV} {us : List V}, RPs K mg H as ys us → ys.all (fun y => match y with | .int _ => true | _ => false) = true → ∀ i : Int, us.all flatV = true ∧ inV (.int i) us = ys.any fun y => match y with | .int j => j == i | _ => false
  | [], _, .nil, _, i => ⟨rfl, rfl⟩
  | p :: ps, _, .cons r t, e, i => by
    rw [List.all_cons, Bool.and_eq_true] at e
    obtain ⟨e1, e2⟩ := e
    obtain ⟨h1, h2⟩ := ints_flat t e2 i
    cases r with
    | int j => exact ⟨by simp [flatV, h1], by unfold inV at *; rw [List.any_cons, List.any_cons, h2]; rfl⟩
    | _ => cases e1
theorem inB_of {as : List Addr} {H : Hp} {h : IH} {x y : PV} {U V : V} {q : Bool} (rh : RH K mg H as h) (rx : RP K mg H as x U) (ry : RP K mg H as y V) (e : pInB x y h = some q) :
    (∃ d ds, Dp K H U d ∧ Dp K H V (.list ds) ∧ SeqAt.shaped d = true ∧ SeqAt.shaped (.list ds) = true ∧ (ds.any fun z => PyData.eqv z d) = q) ∨
    ∃ p xs, V = .ref p ∧ (SqL K H p xs ∨ SqT K H p xs) ∧ flatV U = true ∧ xs.all flatV = true ∧ inV U xs = q := by
  unfold pInB at e
  split at e
  · split at e
    · split at e
      · rename_i hf
        cases ry with
        | tup hs rs =>
          cases rx
          cases e
          obtain ⟨h1, h2⟩ := ints_flat rs hf _
          exact .inr ⟨_, _, rfl, .inr hs, rfl, h1, h2⟩
      · cases e
    · cases e
  · split at e
    · rename_i d1 ds e1 e2
      split at e
      · rename_i hs
        obtain ⟨s1, s2⟩ := Bool.and_eq_true_iff.mp hs
        cases e
        exact .inl ⟨d1, ds, dp_of rh _ _ _ _ rx e1, dp_of rh _ _ _ _ ry e2, s1, s2, rfl⟩
      · cases e
    · cases e
theorem snd_in : Snd K mg pIn (fun x y H Q => rInD K x y H Q ∨ rIn K false x y H Q) := by
  intro W s as H h x y U V Q rh rx ry o
  unfold pIn at o
  cases q : pInB x y h with
  | none => rw [q] at o; exact o.elim
  | some z =>
    rw [q] at o
    rcases inB_of rh rx ry q with ⟨d, ds, h1, h2, h3, h4, rfl⟩ | ⟨p, xs, h1, h2, h3, h4, rfl⟩
    · exact .inl ⟨d, ds, h1, h2, h3, h4, o.here rh (.bl _)⟩
    · exact .inr ⟨p, xs, h1, h2, h3, h4, o.here rh (.bl _)⟩
theorem snd_notin : Snd K mg pNotIn (fun x y H Q => rNotInD K x y H Q ∨ rIn K true x y H Q) := by
  intro W s as H h x y U V Q rh rx ry o
  unfold pNotIn at o
  cases q : pInB x y h with
  | none => rw [q] at o; exact o.elim
  | some z =>
    rw [q] at o
    rcases inB_of rh rx ry q with ⟨d, ds, h1, h2, h3, h4, rfl⟩ | ⟨p, xs, h1, h2, h3, h4, rfl⟩
    · exact .inl ⟨d, ds, h1, h2, h3, h4, o.here rh (.bl _)⟩
    · exact .inr ⟨p, xs, h1, h2, h3, h4, o.here rh (.bl _)⟩
end
section
variable {X : Cx} {W : WX} {k : Nat} {a b e : Expr} {es : List Expr} {pos : Pos} {A B : EX} {L : AX}
theorem units65 {A : Around} (h : Room k A) : A.units + 65 < cLine := by
  have := h.un
  omega
theorem ie_in (cx : Ctx X W k) (ha : PE X a (IE X.K X.mg W A)) (hb : PE X b (IE X.K X.mg W B)) (hm : behindInMarks .In b = false := by rfl) : PE X (.Compare a [.In] [b] pos) (IE X.K X.mg W (eOp pIn A B)) := ie_cmp ((op_inD (units65 cx.room)).or op_in_seq) snd_in ha hb hm
theorem ie_notin (cx : Ctx X W k) (ha : PE X a (IE X.K X.mg W A)) (hb : PE X b (IE X.K X.mg W B)) (hm : behindInMarks .NotIn b = false := by rfl) : PE X (.Compare a [.NotIn] [b] pos) (IE X.K X.mg W (eOp pNotIn A B)) := ie_cmp ((op_notInD (units65 cx.room)).or op_notIn_seq) snd_notin ha hb hm
theorem it_in (cx : Ctx X W k) (ha : PE X a (IE X.K X.mg W A)) (hb : PE X b (IE X.K X.mg W B)) (hm : behindInMarks .In b = false := by rfl) : PT X (.Compare a [.In] [b] pos) (IT X.K X.mg W (tBl (eOp pIn A B))) := it_cmp ((op_inD (units65 cx.room)).or op_in_seq) snd_in ha hb hm
theorem it_notin (cx : Ctx X W k) (ha : PE X a (IE X.K X.mg W A)) (hb : PE X b (IE X.K X.mg W B)) (hm : behindInMarks .NotIn b = false := by rfl) : PT X (.Compare a [.NotIn] [b] pos) (IT X.K X.mg W (tBl (eOp pNotIn A B))) := it_cmp ((op_notInD (units65 cx.room)).or op_notIn_seq) snd_notin ha hb hm
theorem is_pass : PS X (.Pass pos) (IS X.K X.mg W sNil) := psImp ps_pass fun D s H ⟨as, r, h, f, x, o⟩ => o _ _ _ (Stp.refl _ _) x f
theorem is_cont : PS X (.Continue pos) (IS X.K X.mg W sCont) := psImp ps_continue fun D s H ⟨as, r, h, f, x, o⟩ => o _ _ _ (Stp.refl _ _) x f
theorem is_par3 {i j l : Nat} {x y z : Str} {a b c : Expr} {px py pz pt : Pos} {kt k2 pt2} (cx : Ctx X W k) (ha : PA X [a, b, c] (IA X.K X.mg W L)) (hi : X.N[i]? = some x := by rfl) (hj : X.N[j]? = some y := by rfl) (hl : X.N[l]? = some z := by rfl) (hij : i ≠ j := by decide) (hil : i ≠ l := by decide) (hjl : j ≠ l := by decide)
    (hx : X.env.scope.names.lookup x = some .local := by rfl) (hy : X.env.scope.names.lookup y = some .local := by rfl) (hz : X.env.scope.names.lookup z = some .local := by rfl)
    (hw : swappedStores [.Tuple [.Name x px, .Name y py, .Name z pz] kt pt] (.Tuple [a, b, c] k2 pt2) X.env = pure (some [x, y, z]) := by rfl)
    (hs : swapsWithSole [.Tuple [.Name x px, .Name y py, .Name z pz] kt pt] (.Tuple [a, b, c] k2 pt2) pos.line X.env = pure false := by rfl) :
    PS X (.Assign [.Tuple [.Name x px, .Name y py, .Name z pz] kt pt] (.Tuple [a, b, c] k2 pt2) pos) (IS X.K X.mg W (sPar3 i j l L)) := by
  refine psImp (ps_par3 cx.calm cx.nd hi hj hl hij hil hjl hx hy hz ha hw hs) fun D s H ⟨as, r, h, f, x, o⟩ => ?_
  refine ⟨as, r, h, f, x, (outS_of f o).imp fun Vs H1 ⟨as1, h1, ps, S1, x1, r1, o1⟩ => ?_⟩
  split at o1
  · cases r1 with
    | cons rv r1 => cases r1 with
      | cons rw' r1 => cases r1 with
        | cons ru r1 => cases r1; exact ⟨_, _, _, rfl, o1 _ H1 as1 (Stp.refl _ _) x1 ((((f.mono S1).set rv).set rw').set ru)⟩
  · exact o1.elim
theorem is_augAdd {i : Nat} {x : Str} {pos' : Pos} (cx : Ctx X W k) (he : PE X e (IE X.K X.mg W A)) (hi : X.N[i]? = some x := by rfl) (hx : Loc X.env.scope x := by first | exact Or.inl rfl | exact Or.inr rfl) (hf : X.fn x = true ∨ X.env.scope.names.lookup x = some .local := by first | exact .inl rfl | exact .inr rfl | assumption) :
    PS X (.AugAssign (.Name x pos') .Add e pos) (IS X.K X.mg W (sAugAdd i A)) := by
  refine psImp (ps_aug cx.nd hi hx he ip_add hf) fun D s H ⟨as, r, h, f, x, o⟩ => ?_
  unfold sAugAdd at o
  split at o
  · rename_i n e1
    obtain ⟨V, e2, rv⟩ := f.at_ i _ e1
    cases rv
    refine ⟨_, e2, as, r, h, f, x, (outS_of f o).imp fun V H1 ⟨as1, h1, p, S1, x1, r1, o1⟩ => ?_⟩
    split at o1
    · cases r1
      exact ⟨_, _, rfl, rfl, o1 _ H1 as1 (Stp.refl _ _) x1 ((f.mono S1).set (.int _))⟩
    · exact o1.elim
  · exact o.elim
end
end WR

/-! more of lists -/
namespace WR
open PySem PySem.Spec PyProof.Rows L2
@[simp] def eInsert (A : EX) (L : AX) : EX := fun r h => (A r h).bind fun x h1 => match x with
  | .obj n => (match h1[n]? with
    | some (.lst _) => (L r h1).bind fun vs h2 => (match vs, h2[n]? with
      | [.int i, y], some (.lst xs) => if xs.length < 16777216 ∧ 0 ≤ i ∧ i < 1000000000 then .ok .non (h2.set n (.lst (xs.take i.toNat ++ [y] ++ xs.drop i.toNat))) else .bad
      | _, _ => .bad)
    | _ => .bad)
  | _ => .bad
section
variable {X : Cx} {W : WX} {k : Nat} {a b e o : Expr} {es : List Expr} {pos : Pos} {A B C : EX} {L : AX}
theorem ie_insert {apos : Pos} (ho : PE X o (IE X.K X.mg W A)) (ha : PA X (e :: es) (IA X.K X.mg W L)) (hbase : attributeBase o "insert" X.env (eval o X.env) = eval o X.env := by rfl)
    (hfew : ((backTo pos (starEach (e :: es) X.env)).all (fun x => !x.1) && (backToKw pos (keywordEach [] X.env)).all (fun x => x.1.isSome)
      && decide ((e :: es).length + ([] : List Keyword).length + (if ([] : List Keyword).isEmpty then 0 else 1) < 30)) = true := by rfl)
    (hline : (apos.endLine == pos.line) = true := by rfl) (hs : starEach (e :: es) X.env = (false, eval e X.env) :: starEach es X.env := by rfl) (hplain : (backTo pos (starEach es X.env)).any (·.1) = false := by rfl) :
    PE X (.Call (.Attribute o "insert" apos) (e :: es) [] pos) (IE X.K X.mg W (eInsert A L)) := by
  refine peImp (pe_bm PySem.F.plainAttrs_list PySem.F.slot_list_insert PySem.F.type_list_insert mt_insert ho ha hbase hfew hline hs hplain) fun s H Q ⟨as, ρ, hh, f, x, o⟩ => ?_
  refine ⟨as, ρ, hh, f, x, (Out.bind o).imp fun V H1 ⟨as1, h1, p1, S1, x1, r1, o1⟩ => ?_⟩
  split at o1
  · rename_i n
    cases r1 with
    | obj hn =>
      split at o1
      · rename_i ys hy
        obtain ⟨b, e1, us, e2, rs⟩ := x1.at_ _ _ hy
        rw [hn] at e1; cases e1
        refine ⟨.inl ⟨rfl, _, SqL.of e2⟩, as1, ρ, h1, f.mono S1, x1, (Out.bind o1).imp fun Vs H2 ⟨as2, h2, p2, S2, x2, r2, o2⟩ => ?_⟩
        split at o2
        · rename_i i y xs hx
          split at o2
          · rename_i hl
            obtain ⟨v, w, rfl, rv, rw'⟩ := r2.inv2
            cases rv
            obtain ⟨b', e3, ws, e4, rs'⟩ := x2.at_ _ _ hx
            have hn2 := S2.get hn
            rw [hn2] at e3; cases e3
            refine ⟨_, ws, i, w, rfl, rfl, e4, by rw [sizeLine_eq, ← rs'.length]; exact hl.1, hl.2.1, by omega, ?_⟩
            have S3 := Stp.put (o := .lst (ws.take i.toNat ++ [w] ++ ws.drop i.toNat)) x2 hn2 hx
            exact o2 _ _ _ S3 (x2.put (m := .lst (xs.take i.toNat ++ [y] ++ xs.drop i.toNat)) hn2 hx ⟨_, upd_same, (((rs'.take _).append (.one rw')).append (rs'.drop _)).mono S3⟩) .non
          · exact o2.elim
        · exact o2.elim
      · exact o1.elim
  · exact o1.elim
end
end WR

/-! keys (tuples of ints that stand in H), dicts of them, sums, two clauses, calls of items -/
namespace WR
open PySem PySem.Spec PyProof.Rows L2
@[simp] def nrm : PV → PV
  | .key ks => .tup (ks.map .int)
  | v => v
@[simp] def eF (A : EX) : EX := fun r h => (A r h).bind fun v h1 => .ok (nrm v) h1
@[simp] def keyOf : List PV → Option (List Int)
  | [] => some []
  | .int i :: r => (keyOf r).map (i :: ·)
  | _ => none
@[simp] def eKey (L : AX) : EX := fun r h => (L r h).bind fun xs h1 => match keyOf xs with
  | some ks => if ks.length ≤ 16777216 then .ok (.key ks) h1 else .bad
  | none => .bad
@[simp] def pAddK : PV → PV → IH → Res PV
  | .key a, .key b, h => if a.length + b.length ≤ 16777216 then .ok (.key (a ++ b)) h else .bad
  | _, _, _ => .bad
@[simp] def pSlK : PV → Option Int → Option Int → IH → Res PV
  | .key ks, lo, hi, h => .ok (.key (cutA ks lo hi)) h
  | _, _, _, _ => .bad
@[simp] def eSlK (A : EX) (l u : OX) : EX := fun r h => (A r h).bind fun x h1 => (l r h1).bind fun lo h2 => (u r h2).bind fun hi h3 => pSlK x lo hi h3
section
variable {K : PySem.W.Frag} {mg : Str → Option Value} {as : List Addr} {H : Hp}
theorem RPs.ints : ∀ (ks : List Int), RPs K mg H as (ks.map .int) (ks.map V.int)
  | [] => .nil
  | k :: r => .cons (.int k) (RPs.ints r)
theorem RP.nrm {p : PV} {v : V} (r : RP K mg H as p v) : RP K mg H as (nrm p) v := by
  cases r with
  | key h => exact .tup (SqT.of h) (RPs.ints _)
  | non => exact .non
  | bl b => exact .bl b
  | int i => exact .int i
  | str x => exact .str x
  | tup a b => exact .tup a b
  | fls a b => exact .fls a b
  | obj a => exact .obj a
  | glo a b => exact .glo a b
  | ty n => exact .ty n
theorem keyOf_of : ∀ {ps : List PV} {vs : List V} {ks : List Int}, RPs K mg H as ps vs → keyOf ps = some ks → vs = ks.map V.int
  | [], _, _, .nil, e => by cases e; rfl
  | p :: ps, _, ks, .cons r t, e => by
    cases r with
    | int i =>
      simp only [keyOf, Option.map_eq_some_iff] at e
      obtain ⟨ks', e1, rfl⟩ := e
      rw [keyOf_of t e1]; rfl
    | _ => cases e
end
section
variable {X : Cx} {W : WX} {k : Nat} {a b e o : Expr} {es : List Expr} {pos p apos : Pos} {A B C : EX} {L : AX}
theorem ie_f (ha : PE X a (IE X.K X.mg W A)) : PE X a (IE X.K X.mg W (eF A)) := by
  refine peImp ha fun s H Q ⟨as, ρ, hh, f, x, o⟩ => ?_
  refine ⟨as, ρ, hh, f, x, (Out.bind o).imp fun V H1 ⟨as1, h1, p1, S1, x1, r1, o1⟩ => ?_⟩
  exact o1.here x1 r1.nrm
theorem ie_key {x1} (h : PA X es (IA X.K X.mg W L)) : PE X (.Tuple es x1 pos) (IE X.K X.mg W (eKey L)) := by
  refine peImp (pe_tup h) fun s H Q ⟨as, ρ, hh, f, x, o⟩ => ?_
  refine ⟨as, ρ, hh, f, x, (Out.bind o).imp fun Vs H1 ⟨as1, h1, p1, S1, x1, r1, o1⟩ => ?_⟩
  split at o1
  · rename_i ks hk
    have e := keyOf_of r1 hk
    subst e
    split at o1
    · rename_i hl
      refine ⟨by rw [sizeLine_eq, List.length_map]; exact hl, fun p np => ?_⟩
      exact o1 _ _ as1 (Stp.lay x1 np) (x1.lay np) (.key upd_same)
    · exact o1.elim
  · exact o1.elim
theorem snd_addK {K : PySem.W.Frag} {mg : Str → Option Value} : Snd K mg pAddK (rCatA K) := by
  intro W s as H h x y U V Q rh rx ry o
  unfold pAddK at o
  split at o
  · rename_i ks ls
    cases rx with
    | key ha => cases ry with
      | key hb =>
        split at o
        · rename_i hl
          refine ⟨_, _, _, _, rfl, rfl, SqT.of ha, SqT.of hb, by rw [sizeLine_eq, List.length_map, List.length_map]; exact hl, fun e => ?_, fun _ e => ?_, fun _ _ p np => ?_⟩
          · have e' : ks = [] := List.map_eq_nil_iff.mp e
            subst e'
            exact o.here rh (.key hb)
          · have e' : ls = [] := List.map_eq_nil_iff.mp e
            subst e'
            rw [List.append_nil] at o
            exact o.here rh (.key ha)
          · exact o _ _ as (Stp.lay rh np) (rh.lay np) (.key (by rw [upd_same, List.map_append]))
        · exact o.elim
  · exact o.elim
theorem ie_addK (ha : PE X a (IE X.K X.mg W A)) (hb : PE X b (IE X.K X.mg W B)) : PE X (.BinOp a .Add b pos) (IE X.K X.mg W (eOp pAddK A B)) := ie_op op_catA snd_addK ha hb
theorem cut_map {α β : Type} (g : α → β) (l : List α) (lo hi : Option Int) : (cutA l lo hi).map g = cutA (l.map g) lo hi := by
  unfold cutA
  rw [List.map_take, List.map_drop, List.length_map]
theorem ie_slK {lo hi : Option Expr} {p2 : Pos} {l u : OX} (he : PE X e (IE X.K X.mg W A)) (hl : PO X lo (IO X.K X.mg W l)) (hu : PO X hi (IO X.K X.mg W u)) : PE X (.Subscript e (.Slice lo hi none p2) pos) (IE X.K X.mg W (eSlK A l u)) := by
  refine peImp (pe_slice (sl_tupA.or sl_list) he hl hu) fun s H Q ⟨as, ρ, hh, f, x, o⟩ => ?_
  refine ⟨as, ρ, hh, f, x, (Out.bind o).imp fun V H1 ⟨as1, h1, p1, S1, x1, r1, o1⟩ => ?_⟩
  refine ⟨as1, ρ, h1, f.mono S1, x1, (Out.bind o1).imp fun lo' H2 ⟨as2, h2, p2, S2, x2, r2, o2⟩ => ?_⟩
  refine ⟨as2, ρ, h2, (f.mono S1).mono S2, x2, (Out.bind o2).imp fun hi' H3 ⟨as3, h3, p3, S3, x3, r3, o3⟩ => ?_⟩
  obtain rfl : p2 = lo' := r2
  obtain rfl : p3 = hi' := r3
  have r1' := (r1.mono S2).mono S3
  unfold pSlK at o3
  split at o3
  · rename_i ks
    cases r1' with
    | key hs =>
      refine .inl ⟨_, _, rfl, SqT.of hs, fun hw => ?_, fun _ p np => ?_⟩
      · have e : ∀ {α : Type} (l : List α), HT.sIx l.length 0 p2 = 0 ∧ HT.sIx l.length l.length p3 = l.length → cutA l p2 p3 = l := fun l z => by
          unfold cutA
          rw [z.1, z.2]
          simp
        rw [List.length_map] at hw
        rw [e _ hw] at o3
        exact o3.here x3 (.key hs)
      · refine o3 _ _ as3 (Stp.lay x3 np) (x3.lay np) (.key ?_)
        rw [upd_same, cut_map]; rfl
  · exact o3.elim
end
/-! ### dicts -/
def dGet (kvs : List (List Int × PV)) (k : List Int) : Option PV := (kvs.find? fun q => decide (q.1 = k)).map (·.2)
def dPut (kvs : List (List Int × PV)) (k : List Int) (v : PV) : List (List Int × PV) :=
  if (kvs.any fun q => decide (q.1 = k)) = true then kvs.map (fun q => if q.1 = k then (q.1, v) else q) else kvs ++ [(k, v)]
@[simp] def eDNew : EX := fun _ h => .ok (.obj h.length) (h ++ [.dct []])
@[simp] def pDGet (x y : PV) (h : IH) : Res PV := match x, y with
  | .obj n, .key k => (match h[n]? with
    | some (.dct kvs) => opt (dGet kvs k) h
    | _ => .bad)
  | _, _ => .bad
@[simp] def pDIn (y x : PV) (h : IH) : Res PV := match x, y with
  | .obj n, .key k => (match h[n]? with
    | some (.dct kvs) => .ok (.bl (dGet kvs k).isSome) h
    | _ => .bad)
  | _, _ => .bad
@[simp] def pDNotIn (y x : PV) (h : IH) : Res PV := match x, y with
  | .obj n, .key k => (match h[n]? with
    | some (.dct kvs) => .ok (.bl (!(dGet kvs k).isSome)) h
    | _ => .bad)
  | _, _ => .bad
/-- d[k] = v: v first -/
@[simp] def sDPutX (D Kx V : EX) : SX := fun r h => toS (V r h) r fun v h1 => toS (D r h1) r fun d h2 => toS (Kx r h2) r fun kk h3 => match d, kk with
  | .obj n, .key k => (match h3[n]? with
    | some (.dct kvs) => if kvs.length < 16777216 then .nx r (h3.set n (.dct (dPut kvs k v))) else .bad
    | _ => .bad)
  | _, _ => .bad
theorem kV_map (k : List Int) : (k.map (Sum.inl : Int → Key)).map kV = k.map V.int := by
  rw [List.map_map]; rfl
theorem inl_inj {a b : List Int} : a.map (Sum.inl : Int → Key) = b.map Sum.inl ↔ a = b := by
  constructor
  · intro h
    induction a generalizing b with
    | nil => cases b with
      | nil => rfl
      | cons _ _ => cases h
    | cons x r ih => cases b with
      | nil => cases h
      | cons y t =>
        simp only [List.map_cons, List.cons.injEq, Sum.inl.injEq] at h
        rw [h.1, ih h.2]
  · intro h; rw [h]
section
variable {K : PySem.W.Frag} {mg : Str → Option Value} {as : List Addr} {H : Hp}
theorem dGet_of (k : List Int) : ∀ {kvs : List (List Int × PV)} {gs : List (List Key × V)}, gs.map (·.1) = kvs.map (fun q => q.1.map (Sum.inl : Int → Key)) → RPs K mg H as (kvs.map (·.2)) (gs.map (·.2)) →
    (∃ p v, dGet kvs k = some p ∧ valV gs (k.map Sum.inl) = some v ∧ RP K mg H as p v) ∨ (dGet kvs k = none ∧ valV gs (k.map Sum.inl) = none)
  | [], [], _, _ => .inr ⟨rfl, rfl⟩
  | [], g :: gs, e, _ => by cases e
  | q :: kvs, [], e, _ => by cases e
  | q :: kvs, g :: gs, e, r => by
    simp only [List.map_cons, List.cons.injEq] at e
    cases r with
    | cons r1 r2 =>
      by_cases hk : q.1 = k
      · refine .inl ⟨q.2, g.2, by simp [dGet, List.find?_cons, hk], valV_pos (by rw [e.1, hk]), r1⟩
      · have hk' : ¬ g.1 = k.map (Sum.inl : Int → Key) := by rw [e.1]; exact fun z => hk (inl_inj.mp z)
        have e2 : dGet (q :: kvs) k = dGet kvs k := by simp [dGet, List.find?_cons, hk]
        rw [e2, valV_neg hk']
        exact dGet_of k e.2 r2
theorem any_of (k : List Int) {kvs : List (List Int × PV)} {gs : List (List Key × V)} (e : gs.map (·.1) = kvs.map (fun q => q.1.map (Sum.inl : Int → Key))) :
    (gs.any fun kv => decide (kv.1 = k.map Sum.inl)) = (kvs.any fun q => decide (q.1 = k)) := by
  induction kvs generalizing gs with
  | nil => cases gs with
    | nil => rfl
    | cons _ _ => cases e
  | cons q kvs ih => cases gs with
    | nil => cases e
    | cons g gs =>
      simp only [List.map_cons, List.cons.injEq] at e
      rw [List.any_cons, List.any_cons, ih e.2, e.1]
      congr 1
      rw [decide_eq_decide]
      exact inl_inj
theorem dPut_of (k : List Int) {v : PV} {u : V} (rv : RP K mg H as v u) {kvs : List (List Int × PV)} {gs : List (List Key × V)} (e : gs.map (·.1) = kvs.map (fun q => q.1.map (Sum.inl : Int → Key))) (r : RPs K mg H as (kvs.map (·.2)) (gs.map (·.2))) :
    (putK gs (k.map Sum.inl) u).map (·.1) = (dPut kvs k v).map (fun q => q.1.map (Sum.inl : Int → Key)) ∧ RPs K mg H as ((dPut kvs k v).map (·.2)) ((putK gs (k.map Sum.inl) u).map (·.2)) := by
  unfold putK dPut
  rw [any_of k e]
  split
  · rename_i hc
    clear hc
    induction kvs generalizing gs with
    | nil => cases gs with
      | nil => exact ⟨rfl, .nil⟩
      | cons _ _ => cases e
    | cons q kvs ih => cases gs with
      | nil => cases e
      | cons g gs =>
        simp only [List.map_cons, List.cons.injEq] at e
        cases r with
        | cons r1 r2 =>
          obtain ⟨i1, i2⟩ := ih e.2 r2
          by_cases hk : q.1 = k
          · have hg : g.1 = k.map (Sum.inl : Int → Key) := by rw [e.1, hk]
            simp only [List.map_cons, if_pos hk, if_pos hg]
            exact ⟨by rw [i1, hg, hk], .cons rv i2⟩
          · have hg : ¬ g.1 = k.map (Sum.inl : Int → Key) := by rw [e.1]; exact fun z => hk (inl_inj.mp z)
            simp only [List.map_cons, if_neg hk, if_neg hg]
            exact ⟨by rw [i1, e.1], .cons r1 i2⟩
  · simp only [List.map_append, List.map_cons, List.map_nil]
    exact ⟨by rw [e], r.append (.one rv)⟩
theorem dget_rel {h : IH} {n : Nat} {k : List Int} {kvs : List (List Int × PV)} {U V : V} (rh : RH K mg H as h) (rx : RP K mg H as (.obj n) U) (ry : RP K mg H as (.key k) V) (e : h[n]? = some (.dct kvs)) :
    ∃ a ov, U = .ref a ∧ DGet H a V ov ∧ ((∃ p v, dGet kvs k = some p ∧ ov = some v ∧ RP K mg H as p v) ∨ (dGet kvs k = none ∧ ov = none)) := by
  cases rx with
  | obj ha => cases ry with
    | key hb =>
      obtain ⟨a, g1, gs, g2, ek, rs⟩ := rh.at_ _ _ e
      rw [ha] at g1; cases g1
      refine ⟨_, _, rfl, DGet.t g2 (k := k.map Sum.inl) (by rw [hb, kV_map]), ?_⟩
      rcases dGet_of k ek rs with ⟨p, v, h1, h2, h3⟩ | ⟨h1, h2⟩
      · exact .inl ⟨p, v, h1, h2, h3⟩
      · exact .inr ⟨h1, h2⟩
end
section
variable {X : Cx} {W : WX} {k : Nat} {a b e o i : Expr} {es : List Expr} {pos p apos : Pos} {A B C : EX} {L : AX}
theorem ie_dnew : PE X (.Dict [] [] pos) (IE X.K X.mg W eDNew) := by
  refine peImp pe_dnewT fun s H Q ⟨as, ρ, hh, f, x, o⟩ => ?_
  intro p np
  have S := Stp.new (o := .dT []) x np
  refine o _ _ _ S (x.new np ⟨_, upd_same, rfl, .nil⟩) (.obj ?_)
  rw [List.getElem?_append_right (by rw [x.len]; exact Nat.le_refl _), x.len, Nat.sub_self]
  rfl
theorem ie_dget (cx : Ctx X W k) (ha : PE X a (IE X.K X.mg W A)) (hb : PE X b (IE X.K X.mg W B)) (hs : NoSl b := by intro _ _; rfl) : PE X (.Subscript a b pos) (IE X.K X.mg W (eOp pDGet A B)) := by
  refine peImp (pe_dget (hu_of cx.room) ha hb hs) fun s H Q ⟨as, ρ, hh, f, x, o⟩ => ?_
  refine ⟨as, ρ, hh, f, x, (Out.bind o).imp fun V H1 ⟨as1, h1, p1, S1, x1, r1, o1⟩ => ?_⟩
  refine ⟨as1, ρ, h1, f.mono S1, x1, (Out.bind o1).imp fun V2 H2 ⟨as2, h2, p2, S2, x2, r2, o2⟩ => ?_⟩
  unfold pDGet at o2
  split at o2
  · split at o2
    · rename_i kvs hk
      obtain ⟨a, ov, rfl, g, z⟩ := dget_rel x2 (r1.mono S2) r2 hk
      rcases z with ⟨p, v, h1, rfl, h3⟩ | ⟨h1, h2⟩
      · rw [h1] at o2
        exact ⟨_, _, rfl, g, o2.here x2 h3⟩
      · rw [h1] at o2; exact o2.elim
    · exact o2.elim
  · exact o2.elim
theorem op_din (hu : X.A.units + 1 < cLine) : OpR X (compareOp .In) (fun y x H Q => ∃ a o, x = .ref a ∧ DGet H a y o ∧ Q (.bl o.isSome) H) := by
  intro pins s σ H x y v u Q I rx ry h
  obtain ⟨a, o, rfl, g, q⟩ := h
  obtain rfl : u = Value.ref a := ry
  exact d_in hu I g rx fun s3 I3 => ⟨.bl o.isSome, H, I3, rfl, q⟩
theorem op_dnotin (hu : X.A.units + 1 < cLine) : OpR X (compareOp .NotIn) (fun y x H Q => ∃ a o, x = .ref a ∧ DGet H a y o ∧ Q (.bl (!o.isSome)) H) := by
  intro pins s σ H x y v u Q I rx ry h
  obtain ⟨a, o, rfl, g, q⟩ := h
  obtain rfl : u = Value.ref a := ry
  exact d_notIn hu I g rx fun s3 I3 => ⟨.bl (!o.isSome), H, I3, rfl, q⟩
theorem snd_din {K : PySem.W.Frag} {mg : Str → Option Value} : Snd K mg pDIn (fun y x H Q => ∃ a o, x = .ref a ∧ DGet H a y o ∧ Q (.bl o.isSome) H) := by
  intro W s as H h x y U V Q rh rx ry o
  unfold pDIn at o
  split at o
  · split at o
    · rename_i kvs hk
      obtain ⟨a, ov, rfl, g, z⟩ := dget_rel rh ry rx hk
      refine ⟨_, _, rfl, g, ?_⟩
      rcases z with ⟨p, v, h1, rfl, h3⟩ | ⟨h1, rfl⟩
      · rw [h1] at o; exact o.here rh (.bl _)
      · rw [h1] at o; exact o.here rh (.bl _)
    · exact o.elim
  · exact o.elim
theorem snd_dnotin {K : PySem.W.Frag} {mg : Str → Option Value} : Snd K mg pDNotIn (fun y x H Q => ∃ a o, x = .ref a ∧ DGet H a y o ∧ Q (.bl (!o.isSome)) H) := by
  intro W s as H h x y U V Q rh rx ry o
  unfold pDNotIn at o
  split at o
  · split at o
    · rename_i kvs hk
      obtain ⟨a, ov, rfl, g, z⟩ := dget_rel rh ry rx hk
      refine ⟨_, _, rfl, g, ?_⟩
      rcases z with ⟨p, v, h1, rfl, h3⟩ | ⟨h1, rfl⟩
      · rw [h1] at o; exact o.here rh (.bl _)
      · rw [h1] at o; exact o.here rh (.bl _)
    · exact o.elim
  · exact o.elim
theorem ie_din (cx : Ctx X W k) (ha : PE X a (IE X.K X.mg W A)) (hb : PE X b (IE X.K X.mg W B)) (hm : behindInMarks .In b = false := by rfl) : PE X (.Compare a [.In] [b] pos) (IE X.K X.mg W (eOp pDIn A B)) := ie_cmp (op_din (hu_of cx.room)) snd_din ha hb hm
theorem it_din (cx : Ctx X W k) (ha : PE X a (IE X.K X.mg W A)) (hb : PE X b (IE X.K X.mg W B)) (hm : behindInMarks .In b = false := by rfl) : PT X (.Compare a [.In] [b] pos) (IT X.K X.mg W (tBl (eOp pDIn A B))) := it_cmp (op_din (hu_of cx.room)) snd_din ha hb hm
theorem ie_dnotin (cx : Ctx X W k) (ha : PE X a (IE X.K X.mg W A)) (hb : PE X b (IE X.K X.mg W B)) (hm : behindInMarks .NotIn b = false := by rfl) : PE X (.Compare a [.NotIn] [b] pos) (IE X.K X.mg W (eOp pDNotIn A B)) := ie_cmp (op_dnotin (hu_of cx.room)) snd_dnotin ha hb hm
theorem it_dnotin (cx : Ctx X W k) (ha : PE X a (IE X.K X.mg W A)) (hb : PE X b (IE X.K X.mg W B)) (hm : behindInMarks .NotIn b = false := by rfl) : PT X (.Compare a [.NotIn] [b] pos) (IT X.K X.mg W (tBl (eOp pDNotIn A B))) := it_cmp (op_dnotin (hu_of cx.room)) snd_dnotin ha hb hm
theorem is_dput {value : Expr} {pos' : Pos} (cx : Ctx X W k) (hv : PE X value (IE X.K X.mg W C)) (ho : PE X o (IE X.K X.mg W A)) (hi : PE X i (IE X.K X.mg W B)) (hs : swapsWith value (some (.Subscript o i pos')) pos.line X.env = pure false := by rfl) :
    PS X (.Assign [.Subscript o i pos'] value pos) (IS X.K X.mg W (sDPutX A B C)) := by
  refine psImp (ps_dput (hu_of cx.room) ho hi hv hs) fun D s H ⟨as, r, h, f, x, o⟩ => ?_
  refine ⟨as, r, h, f, x, (outS_of f o).imp fun V H1 ⟨as1, h1, p1, S1, x1, r1, o1⟩ => ?_⟩
  refine ⟨as1, r, h1, f.mono S1, x1, (outS_of (f.mono S1) o1).imp fun V2 H2 ⟨as2, h2, p2, S2, x2, r2, o2⟩ => ?_⟩
  refine ⟨as2, r, h2, (f.mono S1).mono S2, x2, (outS_of ((f.mono S1).mono S2) o2).imp fun V3 H3 ⟨as3, h3, p3, S3, x3, r3, o3⟩ => ?_⟩
  split at o3
  · rename_i n kk _
    split at o3
    · rename_i kvs hk
      split at o3
      · rename_i hl
        have r2' := r2.mono S3
        have r1' := (r1.mono S2).mono S3
        cases r2' with
        | obj ha => cases r3 with
          | key hb =>
            obtain ⟨a, g1, gs, g2, ek, rs⟩ := x3.at_ _ _ hk
            rw [ha] at g1; cases g1
            have hlen : gs.length = kvs.length := by have := congrArg List.length ek; simpa using this
            refine ⟨_, _, rfl, DPut.t g2 (k := kk.map Sum.inl) (by rw [hb, kV_map]) (by rw [sizeLine_eq, hlen]; exact hl), ?_⟩
            have S4 := Stp.put (o := .dT (putK gs (kk.map Sum.inl) V)) x3 ha hk
            obtain ⟨q1, q2⟩ := dPut_of kk r1' ek rs
            exact o3 _ _ as3 S4 (x3.put (m := .dct (dPut kvs kk p1)) ha hk ⟨_, upd_same, q1, q2.mono S4⟩) ((((f.mono S1).mono S2).mono S3).mono S4)
      · exact o3.elim
    · exact o3.elim
  · exact o3.elim
end
/-! ### sums -/
@[simp] def pSum : List PV → IH → Res PV
  | [.obj n], h => (match h[n]? with
    | some (.lst xs) => (match keyOf xs with
      | some ns => .ok (.int ns.sum) h
      | none => .bad)
    | _ => .bad)
  | _, _ => .bad
theorem snd_sum {K : PySem.W.Frag} {mg : Str → Option Value} : SndC K mg pSum (rSum K) := by
  intro W s as H h us vs Q rh rs o
  unfold pSum at o
  split at o
  · split at o
    · rename_i xs hx
      split at o
      · rename_i ns hn
        obtain ⟨v, rfl, rv⟩ := rs.inv1
        cases rv with
        | obj ha =>
          obtain ⟨a, g1, ys, g2, r2⟩ := rh.at_ _ _ hx
          rw [ha] at g1; cases g1
          have e := keyOf_of r2 hn
          subst e
          exact ⟨_, ns, rfl, SqL.of g2, o.here rh (.int _)⟩
      · exact o.elim
    · exact o.elim
  · exact o.elim
section
variable {X : Cx} {W : WX} {k : Nat} {a b e o i : Expr} {es : List Expr} {pos p apos : Pos} {A B C : EX} {L : AX}
theorem ie_sum (cx : Ctx X W k) (hm : X.mg "sum" = none) (ha : PA X (e :: es) (IA X.K X.mg W L)) (hg : Gl X "sum" := by rfl) (he : starEach (e :: es) X.env = (false, eval e X.env) :: starEach es X.env := by rfl) (hpl : (backTo pos (starEach es X.env)).any (·.1) = false := by rfl) : PE X (.Call (.Name "sum" p) (e :: es) [] pos) (IE X.K X.mg W (eB pSum L)) :=
  ie_callB (cr_sum cx.calm) snd_sum hm (by decide +kernel) ha hg (by decide) (by decide) he hpl
end
end WR

/-! comprehensions of two clauses, calls of items, the base of a def that calls itself -/
namespace WR
open PySem PySem.Spec PyProof.Rows L2
def lc2L (it : ItF) (g : TgF) (c : TX) (I1 : Fm → IH → Res ItF) (g1 : TgF) (c1 : TX) (A : EX) (r0 : Fm) (vs1 : List Nat) (D : Nat) : Nat → Nat → IH → Res Unit
  | 0, _, _ => .bad
  | n + 1, i, h => match it i h with
    | none => .bad
    | some none => .ok () h
    | some (some v) => (match g v r0 with
      | none => .bad
      | some r1 => (match c r1 h with
        | .ok b h2 => if b then (match I1 r1 h2 with
          | .ok it1 h3 => (match lcL it1 g1 c1 A (wipeF r1 vs1) D LIM 0 h3 with
            | .ok _ h4 => lc2L it g c I1 g1 c1 A r0 vs1 D n (i + 1) h4
            | _ => .bad)
          | _ => .bad) else lc2L it g c I1 g1 c1 A r0 vs1 D n (i + 1) h2
        | _ => .bad))
def eLc2 (I : Fm → IH → Res ItF) (g : TgF) (c : TX) (I1 : Fm → IH → Res ItF) (g1 : TgF) (c1 : TX) (A : EX) (vs vs1 : List Nat) : EX := fun r h => (I r h).bind fun it h1 => (lc2L it g c I1 g1 c1 A (wipeF r vs) vs1 h1.length LIM 0 (h1 ++ [.lst []])).bind fun _ h2 => .ok (.obj h1.length) h2
section
variable {X : Cx} {W : WX} {k : Nat} {e : Expr} {es : List Expr} {pos : Pos}
theorem lc2_sound {I I1 : Fm → IH → Res ItF} {g g1 : TgF} {c c1 : TX} {A : EX} {vs vs1 : List Nat} {K : PySem.W.Frag} {mg : Str → Option Value} {s : L2.St} {H : Hp} {Q : VK} {as : List Addr} {r : Fm} {h : IH} (f : RF K mg H as r s) (x : RH K mg H as h)
    (o : Out K mg (fun H as p v => RP K mg H as p v) W s as H Q (eLc2 I g c I1 g1 c1 A vs vs1 r h)) : tLc2 (II K mg W I) (GW K mg vs g) (IT K mg W0 c) (II K mg W0 I1) (GW K mg vs1 g1) (IT K mg W0 c1) (IE K mg W0 A) vs vs1 s H Q := by
  refine ⟨as, r, h, f, x, (Out.bind o).imp fun J H1 ⟨as1, h1, itf, S1, x1, ri, o1⟩ => ?_⟩
  intro D nD
  have SD := Stp.new (o := .lst []) x1 nD
  refine ⟨fun i m H2 => ∃ as2 h2, Stp as H as2 H2 ∧ RH K mg H2 as2 h2 ∧ RI K mg H2 as2 itf J ∧ as2[h1.length]? = some D ∧
    Out K mg (fun H as p v => RP K mg H as p v) W s as2 H2 Q ((lc2L itf g c I1 g1 c1 A (wipeF r vs) vs1 h1.length m i h2).bind fun _ h2 => .ok (.obj h1.length) h2),
    ⟨LIM, as1 ++ [D], h1 ++ [.lst []], S1.trans SD, x1.new (m := .lst []) nD ⟨_, upd_same, .nil⟩, ri.mono SD, ?_, o1.shift SD⟩, ?_⟩
  · rw [List.getElem?_append_right (by rw [x1.len]; exact Nat.le_refl _), x1.len, Nat.sub_self]; rfl
  rintro i m H2 ⟨as2, h2, S2, x2, ri2, d2, o2⟩
  cases m with
  | zero => exact o2.elim
  | succ m =>
    have z := ri2 i as2 H2 h2 (Stp.refl _ _) x2
    unfold lc2L at o2
    cases q : itf i h2 with
    | none => rw [q] at o2; exact o2.elim
    | some w =>
      rw [q] at z o2
      cases w with
      | none => exact .inl ⟨z, o2.here x2 (.obj d2)⟩
      | some v =>
        refine .inr ⟨z.1, fun H3 => ∃ as3 h3, Stp as H as3 H3 ∧ RH K mg H3 as3 h3 ∧ RI K mg H3 as3 itf J ∧ as3[h1.length]? = some D ∧
          Out K mg (fun H as p v => RP K mg H as p v) W s as3 H3 Q ((lc2L itf g c I1 g1 c1 A (wipeF r vs) vs1 h1.length m (i + 1) h3).bind fun _ h2 => .ok (.obj h1.length) h2), fun H3 t => ⟨m, Nat.lt_succ_self m, t⟩, fun y H3 hy => ?_⟩
        obtain ⟨S3, x3, rv⟩ := z.2 y H3 hy
        cases qg : g v (wipeF r vs) with
        | none => simp only [qg] at o2; exact o2.elim
        | some r3 =>
          simp only [qg] at o2
          have S23 := S2.trans S3
          refine ⟨as2, wipeF r vs, v, r3, h2, (f.mono S23).wipe vs, x3, rv, qg, fun s4 f4 w4 => ⟨w4.trans (wipe_wipe _ _), as2, r3, h2, f4, x3, ?_⟩⟩
          have o3 := Out.shift S3 o2
          cases qc : c r3 h2 with
          | ex z r5 => simp only [qc] at o3; exact o3.elim
          | bad => simp only [qc] at o3; exact o3.elim
          | ok b h4 =>
            simp only [qc] at o3
            intro b' H4 as4 S4 x4 eb
            subst eb
            have o4 := Out.shift S4 o3
            cases b with
            | false =>
              simp only [Bool.false_eq_true, if_false] at o4 ⊢
              exact ⟨as4, h4, S23.trans S4, x4, (ri2.mono S3).mono S4, S4.get d2, o4⟩
            | true =>
              simp only [if_true] at o4 ⊢
              refine ⟨as4, r3, h4, f4.mono S4, x4, ?_⟩
              cases qi : I1 r3 h4 with
              | ex z r5 => simp only [qi] at o4; exact o4.elim
              | bad => simp only [qi] at o4; exact o4.elim
              | ok it1 h5 =>
                simp only [qi] at o4
                intro J1 H5 as5 S5 x5 rj
                have o5 := Out.shift S5 o4
                have d5 := S5.get (S4.get d2)
                have ri5 := ((ri2.mono S3).mono S4).mono S5
                have S05 := (S23.trans S4).trans S5
                have f5 := (f4.mono S4).mono S5
                refine ⟨fun j k' H6 => ∃ as6 h6, Stp as5 H5 as6 H6 ∧ RH K mg H6 as6 h6 ∧ RI K mg H6 as6 it1 J1 ∧
                  Out K mg (fun H as p v => RP K mg H as p v) W s as6 H6 Q ((match lcL it1 g1 c1 A (wipeF r3 vs1) h1.length k' j h6 with
                    | .ok _ h4 => lc2L itf g c I1 g1 c1 A (wipeF r vs) vs1 h1.length m (i + 1) h4
                    | _ => .bad).bind fun _ h2 => .ok (.obj h1.length) h2), ⟨LIM, as5, h5, Stp.refl _ _, x5, rj, o5⟩, ?_⟩
                rintro j k' H6 ⟨as6, h6, S6, x6, rj6, o6⟩
                cases k' with
                | zero => exact o6.elim
                | succ k' =>
                  have z6 := rj6 j as6 H6 h6 (Stp.refl _ _) x6
                  unfold lcL at o6
                  cases q6 : it1 j h6 with
                  | none => rw [q6] at o6; exact o6.elim
                  | some w6 =>
                    rw [q6] at z6 o6
                    cases w6 with
                    | none => exact .inl ⟨z6, as6, h6, S05.trans S6, x6, ri5.mono S6, S6.get d5, o6⟩
                    | some v6 =>
                      refine .inr ⟨z6.1, fun H7 => ∃ as7 h7, Stp as5 H5 as7 H7 ∧ RH K mg H7 as7 h7 ∧ RI K mg H7 as7 it1 J1 ∧
                        Out K mg (fun H as p v => RP K mg H as p v) W s as7 H7 Q ((match lcL it1 g1 c1 A (wipeF r3 vs1) h1.length k' (j + 1) h7 with
                          | .ok _ h4 => lc2L itf g c I1 g1 c1 A (wipeF r vs) vs1 h1.length m (i + 1) h4
                          | _ => .bad).bind fun _ h2 => .ok (.obj h1.length) h2), fun H7 t => ⟨k', Nat.lt_succ_self k', t⟩, fun y7 H7 hy7 => ?_⟩
                      obtain ⟨S7, x7, rv7⟩ := z6.2 y7 H7 hy7
                      cases qg7 : g1 v6 (wipeF r3 vs1) with
                      | none => simp only [qg7] at o6; exact o6.elim
                      | some r7 =>
                        simp only [qg7] at o6
                        have S67 := S6.trans S7
                        refine ⟨as6, wipeF r3 vs1, v6, r7, h6, (f5.mono S67).wipe vs1, x7, rv7, qg7, fun s8 f8 w8 => ⟨w8.trans (wipe_wipe _ _), as6, r7, h6, f8, x7, ?_⟩⟩
                        have o7 := Out.shift S7 o6
                        cases qc7 : c1 r7 h6 with
                        | ex z r5 => simp only [qc7] at o7; exact o7.elim
                        | bad => simp only [qc7] at o7; exact o7.elim
                        | ok b7 h7 =>
                          simp only [qc7] at o7
                          intro b7' H8 as8 S8 x8 eb
                          subst eb
                          have o8 := Out.shift S8 o7
                          cases b7 with
                          | false =>
                            simp only [Bool.false_eq_true, if_false] at o8 ⊢
                            exact ⟨as8, h7, S67.trans S8, x8, (rj6.mono S7).mono S8, o8⟩
                          | true =>
                            simp only [if_true] at o8 ⊢
                            refine ⟨as8, r7, h7, f8.mono S8, x8, ?_⟩
                            cases qa : A r7 h7 with
                            | ex z r5 => simp only [qa] at o8; exact o8.elim
                            | bad => simp only [qa] at o8; exact o8.elim
                            | ok u h9 =>
                              simp only [qa] at o8
                              intro U H9 as9 S9 x9 ru
                              have o9 := Out.shift S9 o8
                              have d9 := S9.get (S8.get (S67.get d5))
                              cases qd : h9[h1.length]? with
                              | none => simp only [qd] at o9; exact o9.elim
                              | some ob =>
                                cases ob with
                                | ins _ _ => simp only [qd] at o9; exact o9.elim
                                | dct _ => simp only [qd] at o9; exact o9.elim
                                | lst acc =>
                                  simp only [qd] at o9
                                  by_cases hl : acc.length < 16777216
                                  · simp only [hl, if_true] at o9
                                    obtain ⟨b', e3, ws, e4, rs'⟩ := x9.at_ _ _ qd
                                    rw [d9] at e3; cases e3
                                    refine ⟨ws, e4, by rw [sizeLine_eq, ← rs'.length]; exact hl, ?_⟩
                                    have S10 := Stp.put (o := .lst (ws ++ [U])) x9 d9 qd
                                    exact ⟨as9, _, ((S67.trans S8).trans S9).trans S10, x9.put (m := .lst (acc ++ [u])) d9 qd ⟨_, upd_same, (rs'.append (.one ru)).mono S10⟩, (((rj6.mono S7).mono S8).mono S9).mono S10, o9.shift S10⟩
                                  · simp only [hl, if_false] at o9; exact o9.elim
theorem ie_lc2 {elt tg iter tg1 iter1 : Expr} {ifs ifs1 : List Expr} {scope : Scope} {I I1 : Fm → IH → Res ItF} {g g1 : TgF} {c c1 : TX} {A : EX} {vs vs1 : List Nat} (own : List (Str × Nat)) (cx : Ctx X W k) (hi : PI X tg iter (II X.K X.mg W I)) (ok : BlkOk X.N X.env.scope scope own)
    (hg : ∀ (s : Shared) (H : Hp) (C : Addr) (cl : List (Str × Addr)) (fp : List Addr), Ctx (X.blk s H scope (compEnvC scope cl C X.env) fp) W0 k → PG (X.blk s H scope (compEnvC scope cl C X.env) fp) tg (GW X.K X.mg vs g))
    (ht : ∀ (s : Shared) (H : Hp) (C : Addr) (cl : List (Str × Addr)) (fp : List Addr), Ctx (X.blk s H scope (compEnvC scope cl C X.env) fp) W0 k → PTs (X.blk s H scope (compEnvC scope cl C X.env) fp) ifs (IT X.K X.mg W0 c))
    (hi1 : ∀ (s : Shared) (H : Hp) (C : Addr) (cl : List (Str × Addr)) (fp : List Addr), Ctx (X.blk s H scope (compEnvC scope cl C X.env) fp) W0 k → PI (X.blk s H scope (compEnvC scope cl C X.env) fp) tg1 iter1 (II X.K X.mg W0 I1))
    (hg1 : ∀ (s : Shared) (H : Hp) (C : Addr) (cl : List (Str × Addr)) (fp : List Addr), Ctx (X.blk s H scope (compEnvC scope cl C X.env) fp) W0 k → PG (X.blk s H scope (compEnvC scope cl C X.env) fp) tg1 (GW X.K X.mg vs1 g1))
    (ht1 : ∀ (s : Shared) (H : Hp) (C : Addr) (cl : List (Str × Addr)) (fp : List Addr), Ctx (X.blk s H scope (compEnvC scope cl C X.env) fp) W0 k → PTs (X.blk s H scope (compEnvC scope cl C X.env) fp) ifs1 (IT X.K X.mg W0 c1))
    (he : ∀ (s : Shared) (H : Hp) (C : Addr) (cl : List (Str × Addr)) (fp : List Addr), Ctx (X.blk s H scope (compEnvC scope cl C X.env) fp) W0 k → PE (X.blk s H scope (compEnvC scope cl C X.env) fp) elt (IE X.K X.mg W0 A))
    (hv : own.map (·.2) = vs := by rfl) (hv1 : ∀ i ∈ vs1, i ∈ vs := by decide) (hs : ∀ x, foldedSetIterable iter X.env x = pure x := by intro _; rfl) (hs1 : ∀ env x, foldedSetIterable iter1 env x = pure x := by intro _ _; rfl) :
    PE X (.ListComp elt [⟨tg, iter, ifs, 0⟩, ⟨tg1, iter1, ifs1, 0⟩] scope pos) (IE X.K X.mg W (eLc2 I g c I1 g1 c1 A vs vs1)) := by
  subst hv
  exact peImp (pe_lc2 cx.calm cx.nd hi ok hv1 (fun s H C cl fp => hg s H C cl fp (cx.blk ..)) (fun s H C cl fp => ht s H C cl fp (cx.blk ..)) (fun s H C cl fp => hi1 s H C cl fp (cx.blk ..)) (fun s H C cl fp => hg1 s H C cl fp (cx.blk ..)) (fun s H C cl fp => ht1 s H C cl fp (cx.blk ..)) (fun s H C cl fp => he s H C cl fp (cx.blk ..)) hs hs1) fun s H Q ⟨as, r, h, f, x, o⟩ => lc2_sound f x o
theorem is_setLc2 (i : Nat) {y : Str} {py spos : Pos} {elt tg iter tg1 iter1 : Expr} {ifs ifs1 : List Expr} {scope : Scope} {I I1 : Fm → IH → Res ItF} {g g1 : TgF} {c c1 : TX} {A : EX} {vs vs1 : List Nat} (own : List (Str × Nat)) (cx : Ctx X W k)
    (hsw : swapsWith (.ListComp elt [⟨tg, iter, ifs, 0⟩, ⟨tg1, iter1, ifs1, 0⟩] scope pos) (some (.Name y py)) spos.line X.env = pure true) (hi : PI X tg iter (II X.K X.mg W I)) (ok : BlkOk X.N X.env.scope scope own)
    (hg : ∀ (s : Shared) (H : Hp) (C : Addr) (cl : List (Str × Addr)) (fp : List Addr), Ctx (X.blk s H scope (compEnvC scope cl C X.env) fp) W0 k → PG (X.blk s H scope (compEnvC scope cl C X.env) fp) tg (GW X.K X.mg vs g))
    (ht : ∀ (s : Shared) (H : Hp) (C : Addr) (cl : List (Str × Addr)) (fp : List Addr), Ctx (X.blk s H scope (compEnvC scope cl C X.env) fp) W0 k → PTs (X.blk s H scope (compEnvC scope cl C X.env) fp) ifs (IT X.K X.mg W0 c))
    (hi1 : ∀ (s : Shared) (H : Hp) (C : Addr) (cl : List (Str × Addr)) (fp : List Addr), Ctx (X.blk s H scope (compEnvC scope cl C X.env) fp) W0 k → PI (X.blk s H scope (compEnvC scope cl C X.env) fp) tg1 iter1 (II X.K X.mg W0 I1))
    (hg1 : ∀ (s : Shared) (H : Hp) (C : Addr) (cl : List (Str × Addr)) (fp : List Addr), Ctx (X.blk s H scope (compEnvC scope cl C X.env) fp) W0 k → PG (X.blk s H scope (compEnvC scope cl C X.env) fp) tg1 (GW X.K X.mg vs1 g1))
    (ht1 : ∀ (s : Shared) (H : Hp) (C : Addr) (cl : List (Str × Addr)) (fp : List Addr), Ctx (X.blk s H scope (compEnvC scope cl C X.env) fp) W0 k → PTs (X.blk s H scope (compEnvC scope cl C X.env) fp) ifs1 (IT X.K X.mg W0 c1))
    (he : ∀ (s : Shared) (H : Hp) (C : Addr) (cl : List (Str × Addr)) (fp : List Addr), Ctx (X.blk s H scope (compEnvC scope cl C X.env) fp) W0 k → PE (X.blk s H scope (compEnvC scope cl C X.env) fp) elt (IE X.K X.mg W0 A))
    (hy : X.N[i]? = some y := by rfl) (hyl : X.env.scope.names.lookup y = some .local := by rfl)
    (hv : own.map (·.2) = vs := by rfl) (hv1 : ∀ i ∈ vs1, i ∈ vs := by decide) (hs : ∀ x, foldedSetIterable iter X.env x = pure x := by intro _; rfl) (hs1 : ∀ env x, foldedSetIterable iter1 env x = pure x := by intro _ _; rfl) :
    PS X (.Assign [.Name y py] (.ListComp elt [⟨tg, iter, ifs, 0⟩, ⟨tg1, iter1, ifs1, 0⟩] scope pos) spos) (IS X.K X.mg W (sSet i (eLc2 I g c I1 g1 c1 A vs vs1))) := by
  subst hv
  refine psImp (ps_setLc2 cx.calm cx.nd hy hyl hsw hi ok hv1 (fun s H C cl fp => hg s H C cl fp (cx.blk ..)) (fun s H C cl fp => ht s H C cl fp (cx.blk ..)) (fun s H C cl fp => hi1 s H C cl fp (cx.blk ..)) (fun s H C cl fp => hg1 s H C cl fp (cx.blk ..)) (fun s H C cl fp => ht1 s H C cl fp (cx.blk ..)) (fun s H C cl fp => he s H C cl fp (cx.blk ..)) hs hs1) fun D s H ⟨as, r, h, f, x, o⟩ => ?_
  refine lc2_sound f x ((outS_of f o).imp fun V H1 ⟨as1, h1, p, S1, x1, r1, o1⟩ => ?_)
  exact o1 _ H1 as1 (Stp.refl _ _) x1 ((f.mono S1).set r1)
end
/-! ### calls of an item -/
abbrev FT := List (Str × (List PV → IH → Res PV))
@[simp] def eCallV (tbl : FT) (A : EX) (L : AX) : EX := fun r h => (A r h).bind fun f h1 => match f with
  | .glo x => (match tbl.lookup x with
    | some F => (L r h1).bind F
    | none => .bad)
  | _ => .bad
section
variable {X : Cx} {W : WX} {k j n : Nat} {a e fe : Expr} {es : List Expr} {pos : Pos} {A : EX} {L : AX} {tbl : FT}
def GT (X : Cx) (j n : Nat) (tbl : FT) : Prop := ∀ x F, tbl.lookup x = some F → GF X.prog X.w X.K X.mg X.base x j n F
theorem ref_of {v : V} {f : Addr} (r : RelV v (.ref f)) : v = .ref f := by
  cases v <;> first
    | (cases r; done)
    | (cases r; rfl)
    | (obtain ⟨_, e⟩ := r; cases e)
    | (obtain ⟨_, e, _⟩ := r; cases e)
theorem ie_callV (cx : Ctx X W k) (G : GT X j n tbl) (hf : PE X fe (IE X.K X.mg W A)) (ha : PA X (e :: es) (IA X.K X.mg W L)) (hj : j ≤ k := by decide)
    (hev : eval (.Call fe (e :: es) [] pos) X.env = (do callWith pos (← eval fe X.env) [] (backTo pos (starEach (e :: es) X.env)) (backToKw pos (keywordEach [] X.env))) := by rfl)
    (he : starEach (e :: es) X.env = (false, eval e X.env) :: starEach es X.env := by rfl) (hpl : (backTo pos (starEach es X.env)).any (·.1) = false := by rfl) : PE X (.Call fe (e :: es) [] pos) (IE X.K X.mg W (eCallV tbl A L)) := by
  refine ⟨fun pins s σ H Q I h => ?_⟩
  obtain ⟨as, r, h0, f, x, o⟩ := h
  rw [hev]
  refine wpAny_bind ?_
  refine thn (hf.run pins s σ H _ I ⟨as, r, h0, f, x, Out.bind o⟩) fun u s1 ⟨v, H1, I1, r1, as1, h1, p1, S1, x1, rp, o1⟩ => ?_
  split at o1
  · rename_i nm
    cases q : tbl.lookup nm with
    | none => rw [q] at o1; exact o1.elim
    | some F =>
      rw [q] at o1
      obtain ⟨ff, fd, ps, G1, hm, hk, hb⟩ := (G _ _ q).ex
      cases rp with
      | glo g1 g2 =>
        rw [hm] at g1; cases g1
        have ev := ref_of g2
        subst ev
        obtain rfl : u = Value.ref ff := r1
        refine PySem.W.callWith_K (h₀ := X.base) I.ok.mod.kin hk (thn (ha.run pos pins s1 σ H1 _ I1 ⟨as1, r, h1, f.mono S1, x1, Out.bind o1⟩) fun us s2 ⟨vs, H2, I2, r2, as2, h2, ps2, S2, x2, rs2, o2⟩ => ⟨I2.kIn, ?_⟩) he hpl
        refine run_fnS G1 (cx.room.mono hj) hb (passAt cx.tk σ) I2 r2 (SpF.of x2 rs2 ?_ o2)
        by_cases hn : ps2.length = n
        · exact hn
        · rw [(G _ _ q).bad ps2 h2 hn] at o2; exact o2.elim
  · exact o1.elim
theorem ie_callV0 (cx : Ctx X W k) (G : GT X j 0 tbl) (hf : PE X fe (IE X.K X.mg W A)) (hj : j ≤ k := by decide)
    (hev : eval (.Call fe [] [] pos) X.env = (do callWith pos (← eval fe X.env) [] (backTo pos (starEach [] X.env)) (backToKw pos (keywordEach [] X.env))) := by rfl) : PE X (.Call fe [] [] pos) (IE X.K X.mg W (eCallV tbl A aNil)) := by
  refine ⟨fun pins s σ H Q I h => ?_⟩
  obtain ⟨as, r, h0, f, x, o⟩ := h
  rw [hev]
  refine wpAny_bind ?_
  refine thn (hf.run pins s σ H _ I ⟨as, r, h0, f, x, Out.bind o⟩) fun u s1 ⟨v, H1, I1, r1, as1, h1, p1, S1, x1, rp, o1⟩ => ?_
  split at o1
  · rename_i nm
    cases q : tbl.lookup nm with
    | none => rw [q] at o1; exact o1.elim
    | some F =>
      rw [q] at o1
      obtain ⟨ff, fd, ps, G1, hm, hk, hb⟩ := (G _ _ q).ex
      cases rp with
      | glo g1 g2 =>
        rw [hm] at g1; cases g1
        have ev := ref_of g2
        subst ev
        obtain rfl : u = Value.ref ff := r1
        exact PySem.W.callWith_K0 I1.kIn hk (run_fnS (us := []) G1 (cx.room.mono hj) hb (passAt cx.tk σ) I1 .nil (SpF.of x1 RPs.nil rfl o1))
  · exact o1.elim
theorem GT.nil : GT X j n [] := fun x F e => by cases e
theorem GT.cons {x : Str} {F : List PV → IH → Res PV} {j' : Nat} (G : GF X.prog X.w X.K X.mg X.base x j' n F) (hj : j' ≤ j) (r : GT X j n tbl) : GT X j n ((x, F) :: tbl) := fun y F' e => by
  rw [List.lookup_cons] at e
  split at e
  · rename_i hy
    cases e
    have e2 : y = x := by simpa using hy
    subst e2
    obtain ⟨f, fd, ps, G1, hm, hk, hb⟩ := G.ex
    exact ⟨G.bad, f, fd, ps, G1.mono hj, hm, hk, hb⟩
  · exact r y F' e
end
/-! ### a def that calls itself: where the depth ends -/
theorem iss_bad {X : Cx} {W : WX} {sts : List Stmt} : PSs X sts (IS X.K X.mg W sBad) := ⟨fun pins s σ H D I q => by
  obtain ⟨as, r, h, f, x, o⟩ := q
  exact o.elim⟩
end WR

/-! max of two things that are compared by a rule of the heap -/
namespace PySem
open Sem (wp)
section
variable {prog : Program} {w : World} {A : Around} {R : Result → Shared → Prop} {I : Addr} {fp wr : List Addr} {P : Nat → Value → Prop} {St : Nat → Heap → Prop}
theorem wr_nm : (toString "max" ++ toString ".loop" : String) = "max.loop" := by decide
theorem wr_max_end {n c : Nat} {s : Shared} {vb : Value} (W : Walks prog w A.in1 I fp wr n P St) (S : Addr) (hf : S ∉ fp) (hst : St n s.heap) (hS : s.heap.get? S = some ⟨.type "list", none, .seq #[vb, vb] c, #[]⟩)
    (hR : ∀ h' tk, (∀ b o, b ∉ wr → b ≠ S → s.heap.get? b = some o → h'.get? b = some o) → R (.ok (.ret vb)) { s with heap := h', toks := tk }) : codeAny (model prog w) A (.builtin "max.loop" ⟨[.ref I, .none, .ref S], []⟩) R s := by
  refine codeAny_builtin F.entry_max_loop ?_; rw [Around.under_plainId F.plain_max_loop _]; show wpAny _ A.in1 (seqItems? (.ref S) >>= _) _ _ s; refine wpAny_bind (wpAny_seqItems hS rfl ?_); show wpAny _ A.in1 (tryCatch (pyNext (.ref I)) _ >>= _) _ _ s
  refine wpAny_bind (wpAny_tryCatch (W.done s _ _ hst fun h1 tk k1 => ?_)); show wpAny _ A.in1 (updateSeq S (fun _ => #[]) >>= _) _ _ _
  refine wpAny_bind (wpAny_updateSeq (k1 S _ (fun z => hf (W.sub _ z)) hS) rfl (wpAny_bind (wpAny_letGo (wpAny_pure (hR _ tk fun b o b1 b2 e => ?_)))))
  exact (Heap.get?_update_other _ _ (Ne.symm b2)).trans (k1 b o b1 e)
theorem wr_max_turn {n i c : Nat} {g : Bool} {s : Shared} {vb y : Value} (W : Walks prog w A.in1 I fp wr n P St) (S : Addr) (hf : S ∉ fp) (hi : i < n) (hst : St i s.heap) (hP : ∀ v, P i v → v = y) (hS : s.heap.get? S = some ⟨.type "list", none, .seq #[vb, vb] c, #[]⟩)
    (hc : ∀ (s' : Shared) Q E, (∀ b o, b ∉ wr → s.heap.get? b = some o → s'.heap.get? b = some o) → Q (.bool g) s' → wpAny (model prog w) A.in1 (richCompare .Gt y vb) Q E s')
    (hn : ∀ h' tk c', St (i + 1) h' → h'.get? S = some ⟨.type "list", none, .seq #[if g then y else vb, if g then y else vb] c', #[]⟩ → (∀ b o, b ∉ wr → b ≠ S → s.heap.get? b = some o → h'.get? b = some o) →
      codeAny (model prog w) A (.builtin "max.loop" ⟨[.ref I, .none, .ref S], []⟩) R { s with heap := h', toks := tk }) : codeAny (model prog w) A (.builtin "max.loop" ⟨[.ref I, .none, .ref S], []⟩) R s := by
  refine codeAny_builtin F.entry_max_loop ?_; rw [Around.under_plainId F.plain_max_loop _]; show wpAny _ A.in1 (seqItems? (.ref S) >>= _) _ _ s; refine wpAny_bind (wpAny_seqItems hS rfl ?_); show wpAny _ A.in1 (tryCatch (pyNext (.ref I)) _ >>= _) _ _ s
  refine wpAny_bind (wpAny_tryCatch (W.item i s _ _ hi hst fun v h1 tk pv st1 k1 => ?_))
  obtain rfl := hP v pv
  have S1 := k1 S _ (fun z => hf (W.sub _ z)) hS; show wpAny _ A.in1 (tryCatch (holding [v, v] (richCompare .Gt v vb >>= _)) _ >>= _) _ _ _
  refine wpAny_bind (wpAny_tryCatch (wpAny_holding (wpAny_bind (hc _ _ _ (fun b o b1 e => k1 b o b1 e) ?_))))
  refine wpAny_bind (wpAny_holding (wpAny_truthy_bool ?_)); refine wpAny_bind (wpAny_letGo (wpAny_pure ?_))
  cases g with
  | true =>
    simp only [if_true] at hn ⊢
    refine wpAny_bind (wpAny_updateSeq S1 rfl (wpAny_bind (wpAny_letGo ?_))); rw [wr_nm]
    refine wpAny_pure ⟨plainId_quiet F.plain_max_loop _, hn _ tk _ (W.frame _ _ _ st1 fun b hb o e => ?_) (Heap.get?_update_self _ S1 rfl) fun b o b1 b2 e => ?_⟩
    · exact (Heap.get?_update_other _ _ (fun z : S = b => hf (by rw [z]; exact hb))).trans e
    · exact (Heap.get?_update_other _ _ (Ne.symm b2)).trans (k1 b o b1 e)
  | false =>
    simp only [Bool.false_eq_true, if_false] at hn ⊢
    refine wpAny_bind (wpAny_letGo ?_); rw [wr_nm]
    exact wpAny_pure ⟨plainId_quiet F.plain_max_loop _, hn _ tk _ st1 S1 fun b o b1 _ e => k1 b o b1 e⟩
theorem wr_max_first {n c : Nat} {s : Shared} {x : Value} (W : Walks prog w A.in1 I fp wr n P St) (S : Addr) (hf : S ∉ fp) (hi : 0 < n) (hst : St 0 s.heap) (hP : ∀ v, P 0 v → v = x) (hS : s.heap.get? S = some ⟨.type "list", none, .seq #[] c, #[]⟩)
    (hn : ∀ h' tk c', St 1 h' → h'.get? S = some ⟨.type "list", none, .seq #[x, x] c', #[]⟩ → (∀ b o, b ∉ wr → b ≠ S → s.heap.get? b = some o → h'.get? b = some o) →
      codeAny (model prog w) A (.builtin "max.loop" ⟨[.ref I, .none, .ref S], []⟩) R { s with heap := h', toks := tk }) : codeAny (model prog w) A (.builtin "max.loop" ⟨[.ref I, .none, .ref S], []⟩) R s := by
  refine codeAny_builtin F.entry_max_loop ?_; rw [Around.under_plainId F.plain_max_loop _]; show wpAny _ A.in1 (seqItems? (.ref S) >>= _) _ _ s; refine wpAny_bind (wpAny_seqItems hS rfl ?_); show wpAny _ A.in1 (tryCatch (pyNext (.ref I)) _ >>= _) _ _ s
  refine wpAny_bind (wpAny_tryCatch (W.item 0 s _ _ hi hst fun v h1 tk pv st1 k1 => ?_))
  obtain rfl := hP v pv
  have S1 := k1 S _ (fun z => hf (W.sub _ z)) hS; show wpAny _ A.in1 (updateSeq S (fun _ => #[v, v]) >>= _) _ _ _
  refine wpAny_bind (wpAny_updateSeq S1 rfl ?_); rw [wr_nm]
  refine wpAny_pure ⟨plainId_quiet F.plain_max_loop _, hn _ tk _ (W.frame _ _ _ st1 fun b hb o e => ?_) (Heap.get?_update_self _ S1 rfl) fun b o b1 b2 e => ?_⟩
  · exact (Heap.get?_update_other _ _ (fun z : S = b => hf (by rw [z]; exact hb))).trans e
  · exact (Heap.get?_update_other _ _ (Ne.symm b2)).trans (k1 b o b1 e)
end
section
variable {prog : Program} {w : World} {A : Around} {E : Value → Shared → Prop} {s : Shared}
theorem wr_max2 {x y : Value} {g : Bool} {Q : Value → Shared → Prop} (hh : A.handled = none)
    (hc : ∀ (s' : Shared) Q E, (∀ b o, s.heap.get? b = some o → s'.heap.get? b = some o) → Q (.bool g) s' → wpAny (model prog w) A.in1 (richCompare .Gt y x) Q E s')
    (h : ∀ h' tk, (∀ b o, s.heap.get? b = some o → h'.get? b = some o) → Q (if g then y else x) { s with heap := h', toks := tk }) : wpAny (model prog w) A (call (.builtin "max") [x, y]) Q E s := by
  refine call_function_tree F.kind_max F.plain_max F.entry_max (F.args_max2 _ _) ?_
  show wpAny _ A.in1 (Builtin.Builtins.bindParams "max" ["key", "default"] 0 ⟨[], []⟩ >>= _) _ _ s; refine wpAny_bind (wpAny_of_eq (show Builtin.Builtins.bindParams "max" ["key", "default"] 0 ⟨[], []⟩ = pure [none, none] from rfl) ?_); show wpAny _ A.in1 (newTuple [x, y] >>= _) _ _ s
  refine wpAny_bind (wpAny_newObj_type ?_)
  have hT : (s.heap.push { cls := .type "tuple", data := .seq #[x, y] }).IsTuple s.heap.objs.size #[x, y] := ⟨_, Heap.get?_push_size _ rfl, rfl, 0, rfl⟩
  have z1 : (s.heap.push { cls := .type "tuple", data := .seq #[x, y] }).objs.size = s.heap.objs.size + 1 := Heap.size_push ..
  refine wpAny_bind (wpAny_pyIter_tuple hT ?_)
  generalize hh1 : s.heap.push { cls := .type "tuple", data := .seq #[x, y] } = h1 at hT z1
  have W := Walks.tuple (prog := prog) (w := w) (A := A.in1) hh h1.objs.size s.heap.objs.size (by rw [z1]; exact Nat.ne_of_lt (Nat.lt_succ_self _)) #[x, y]
  have hk1 : ∀ b o, s.heap.get? b = some o → h1.get? b = some o := fun b o e => by rw [← hh1]; exact Heap.get?_push_of_some _ e
  have hI : (h1.push { cls := .type "tuple_iterator", data := .fields #[.ref s.heap.objs.size, .int 0 0] }).IsTupleIter h1.objs.size s.heap.objs.size 0 := ⟨_, Heap.get?_push_size _ rfl, rfl, rfl⟩
  have hT2 : (h1.push { cls := .type "tuple_iterator", data := .fields #[.ref s.heap.objs.size, .int 0 0] }).IsTuple s.heap.objs.size #[x, y] := hT.push _
  have z2 : (h1.push { cls := .type "tuple_iterator", data := .fields #[.ref s.heap.objs.size, .int 0 0] }).objs.size = h1.objs.size + 1 := Heap.size_push ..
  have hk2 : ∀ b o, h1.get? b = some o → (h1.push { cls := .type "tuple_iterator", data := .fields #[.ref s.heap.objs.size, .int 0 0] }).get? b = some o := fun b o e => Heap.get?_push_of_some _ e
  generalize h1.push { cls := .type "tuple_iterator", data := .fields #[.ref s.heap.objs.size, .int 0 0] } = h2 at hI hT2 z2 hk2 ⊢
  refine wpAny_bind (wpAny_newObj_type ?_)
  have hf : h2.objs.size ∉ [h1.objs.size, s.heap.objs.size] := by
    simp only [List.mem_cons, List.not_mem_nil, or_false, not_or]
    exact ⟨by omega, by omega⟩
  rw [wr_nm]
  refine wpAny_pure ⟨plainId_quiet F.plain_max_loop _, ?_⟩
  have low : ∀ b o, s.heap.get? b = some o → b < s.heap.objs.size := fun b o e => Heap.lt_size e
  have hk3 : ∀ b o, s.heap.get? b = some o → (h2.push { cls := .type "list", data := .seq #[] }).get? b = some o := fun b o e => Heap.get?_push_of_some _ (hk2 b o (hk1 b o e))
  refine wr_max_first W h2.objs.size hf (by simp) (W.frame 0 h2 _ ⟨hI, hT2⟩ fun b _ o e => Heap.get?_push_of_some _ e) (x := x) (fun v e => by simpa using e.symm) (Heap.get?_push_size _ rfl) fun h3 tk3 c3 st3 S3 k3 => ?_
  have nw : ∀ b o, s.heap.get? b = some o → b ∉ [h1.objs.size] ∧ b ≠ h2.objs.size := fun b o e => by
    have := low b o e
    simp only [List.mem_cons, List.not_mem_nil, or_false]
    exact ⟨fun z => absurd (show h1.objs.size < s.heap.objs.size from z ▸ this) (by omega), fun z => absurd (show h2.objs.size < s.heap.objs.size from z ▸ this) (by omega)⟩
  have k03 : ∀ b o, s.heap.get? b = some o → h3.get? b = some o := fun b o e => k3 b o (nw b o e).1 (nw b o e).2 (hk3 b o e)
  refine wr_max_turn (g := g) (y := y) W h2.objs.size hf (by decide : 1 < 2) st3 (fun v e => by simpa using e.symm) S3 (fun s' Q E k q => hc s' Q E (fun b o e => k b o (nw b o e).1 (k03 b o e)) q) fun h4 tk4 c4 st4 S4 k4 => ?_
  have k04 : ∀ b o, s.heap.get? b = some o → h4.get? b = some o := fun b o e => k4 b o (nw b o e).1 (nw b o e).2 (k03 b o e)
  exact wr_max_end W h2.objs.size hf st4 S4 fun h5 tk5 k5 => h h5 tk5 fun b o e => k5 b o (nw b o e).1 (nw b o e).2 (k04 b o e)
end
end PySem
namespace WR
open PySem PySem.Spec PyProof.Rows L2
def lexGt : List Int → List Int → Bool
  | [], _ => false
  | _ :: _, [] => true
  | x :: xs, y :: ys => if x = y then lexGt xs ys else decide (y < x)
theorem lexGt_at : ∀ (ns ms : List Int) (i : Nat), i ≤ ns.length → i ≤ ms.length → Ob.lexAt (fun j => decide (ns.getD j 0 = ms.getD j 0)) (fun j => decide (ms.getD j 0 < ns.getD j 0)) (decide (ns.length > ms.length)) i (min ns.length ms.length - i) = lexGt (ns.drop i) (ms.drop i) := by
  intro ns ms i h1 h2
  generalize hk : min ns.length ms.length - i = k
  induction k generalizing i with
  | zero =>
    rw [Ob.lexAt_zero]
    by_cases a : i = ns.length
    · have e : ns.drop i = [] := List.drop_of_length_le (by omega)
      rw [e, lexGt]; exact decide_eq_false (by omega)
    · have hm : i = ms.length := by omega
      have e : ms.drop i = [] := List.drop_of_length_le (by omega)
      have hl : i < ns.length := by omega
      rw [e, List.drop_eq_getElem_cons hl, lexGt]; exact decide_eq_true (by omega)
  | succ k ih =>
    have l1 : i < ns.length := by omega
    have l2 : i < ms.length := by omega
    rw [Ob.lexAt_succ, List.drop_eq_getElem_cons l1, List.drop_eq_getElem_cons l2, lexGt]
    have e1 : ns.getD i 0 = ns[i] := by simp [List.getD, l1]
    have e2 : ms.getD i 0 = ms[i] := by simp [List.getD, l2]
    rw [e1, e2]
    by_cases q : ns[i] = ms[i]
    · rw [if_pos (decide_eq_true q), if_pos q]; exact ih (i + 1) l1 l2 (by omega)
    · rw [if_neg (by simpa using q), if_neg q]
theorem isTup_at {h h' : Heap} {a : Addr} {its : Array Value} (k : ∀ b o, h.get? b = some o → h'.get? b = some o) (p : h.IsTuple a its) : h'.IsTuple a its := let ⟨o, e, r⟩ := p; ⟨o, k a o e, r⟩
/-- > of two tuples of ints -/
theorem rc_gt {X : Cx} {pins : List (Addr × Obj)} {σ : L2.St} {H : Hp} {s s' : Shared} {A : Around} {a b : Addr} {ns ms : List Int} (I : Inv X pins σ H s) (k : ∀ b o, s.heap.get? b = some o → s'.heap.get? b = some o) (ha : SqT X.K H a (ns.map V.int)) (hb : SqT X.K H b (ms.map V.int)) (hu : A.units < cLine) :
    Ob.RcOp .Gt A s' (.ref a) (.ref b) (lexGt ns ms) := by
  obtain ⟨its, r1, p1, _⟩ := I.tuple ha
  obtain ⟨its2, r2, p2, _⟩ := I.tuple hb
  have i1 : IntsAre its ns := Vals.ints r1
  have i2 : IntsAre its2 ms := Vals.ints r2
  have e1 : its.toArray.size = ns.length := by rw [List.size_toArray]; exact i1.length
  have e2 : its2.toArray.size = ms.length := by rw [List.size_toArray]; exact i2.length
  have at1 : ∀ j (h1 : j < its.toArray.size), ∃ t, its.toArray[j] = .int (ns.getD j 0) t := fun j h1 => by exact PyProof.Rows.IntsAre.int_at i1 _ _ (by simp at h1; simp [h1])
  have at2 : ∀ j (h1 : j < its2.toArray.size), ∃ t, its2.toArray[j] = .int (ms.getD j 0) t := fun j h1 => by exact PyProof.Rows.IntsAre.int_at i2 _ _ (by simp at h1; simp [h1])
  have R := Ob.RcOp.tuples_gt (A := A) (s := s') (e := fun j => decide (ns.getD j 0 = ms.getD j 0)) (r := fun j => decide (ms.getD j 0 < ns.getD j 0)) (isTup_at k p1) (isTup_at k p2) hu (fun j h1 h2 => by
    obtain ⟨t, et⟩ := at1 j h1; obtain ⟨t', et'⟩ := at2 j h2
    rw [et, et', show decide (ns.getD j 0 = ms.getD j 0) = (ns.getD j 0 == ms.getD j 0) from by rw [Bool.eq_iff_iff]; simp]
    exact SeqAt.EqAt.int_int _ _ _ _) (fun j h1 h2 _ => by
    obtain ⟨t, et⟩ := at1 j h1; obtain ⟨t', et'⟩ := at2 j h2
    rw [et, et']; exact Ob.RcOp.gt_int _ _ _ _)
  rw [e1, e2] at R
  have z := lexGt_at ns ms 0 (Nat.zero_le _) (Nat.zero_le _)
  rw [Nat.sub_zero] at z
  rw [z] at R
  exact R
theorem all_eq : ∀ (ns ms : List Int), ((List.range (min ns.length ms.length)).all (fun j => ns.getD j 0 == ms.getD j 0) && ns.length == ms.length) = decide (ns = ms) := by
  intro ns ms
  rw [Bool.eq_iff_iff]
  simp only [Bool.and_eq_true, List.all_eq_true, List.mem_range, beq_iff_eq, decide_eq_true_eq]
  constructor
  · rintro ⟨h1, h2⟩
    apply List.ext_getElem h2
    intro i a b
    have := h1 i (by omega)
    simpa [List.getD, a, b] using this
  · rintro rfl; exact ⟨fun _ _ => rfl, rfl⟩
/-- == of two tuples of ints, as items -/
theorem eq_tt {X : Cx} {pins : List (Addr × Obj)} {σ : L2.St} {H : Hp} {s s' : Shared} {A : Around} {a b : Addr} {ns ms : List Int} (I : Inv X pins σ H s) (k : ∀ b o, s.heap.get? b = some o → s'.heap.get? b = some o) (ha : SqT X.K H a (ns.map V.int)) (hb : SqT X.K H b (ms.map V.int)) (hu : A.units < cLine) :
    SeqAt.EqAt A s' (.ref a) (.ref b) (decide (ns = ms)) := by
  by_cases q : a = b
  · subst q
    have e := I.tuple_inj ha hb
    have e2 : ns = ms := by
      have := congrArg (List.map fun v => match v with | V.int i => i | _ => 0) e
      simpa [List.map_map, Function.comp_def] using this
    rw [decide_eq_true e2]
    exact SeqAt.EqAt.same _
  · obtain ⟨its, r1, p1, _⟩ := I.tuple ha
    obtain ⟨its2, r2, p2, _⟩ := I.tuple hb
    have i1 : IntsAre its ns := Vals.ints r1
    have i2 : IntsAre its2 ms := Vals.ints r2
    have e1 : its.toArray.size = ns.length := by rw [List.size_toArray]; exact i1.length
    have e2 : its2.toArray.size = ms.length := by rw [List.size_toArray]; exact i2.length
    have g1 : ∀ j (h1 : j < its.toArray.size), ∃ t, its.toArray[j] = .int (ns.getD j 0) t := fun j h1 => by exact PyProof.Rows.IntsAre.int_at i1 _ _ (by simp at h1; simp [h1])
    have g2 : ∀ j (h1 : j < its2.toArray.size), ∃ t, its2.toArray[j] = .int (ms.getD j 0) t := fun j h1 => by exact PyProof.Rows.IntsAre.int_at i2 _ _ (by simp at h1; simp [h1])
    have R := SeqAt.RcAt.tuples (A := A) (s := s') (e := fun j => ns.getD j 0 == ms.getD j 0) (isTup_at k p1) (isTup_at k p2) hu (fun j h1 h2 => by
      obtain ⟨t, et⟩ := g1 j h1
      obtain ⟨t', et'⟩ := g2 j h2
      rw [et, et']
      exact SeqAt.EqAt.int_int _ _ _ _)
    rw [e1, e2, all_eq] at R
    exact SeqAt.EqAt.of_refs q R
/-- (j, b) > (i, a) -/
def gtP (j : Int) (ms : List Int) (i : Int) (ns : List Int) : Bool := if j = i then lexGt ms ns else decide (i < j)
theorem rc_gtP {X : Cx} {pins : List (Addr × Obj)} {σ : L2.St} {H : Hp} {s s' : Shared} {A : Around} {p q a b : Addr} {i j : Int} {ns ms : List Int} (I : Inv X pins σ H s) (k : ∀ b o, s.heap.get? b = some o → s'.heap.get? b = some o) (hp : SqT X.K H p [.int i, .ref a]) (hq : SqT X.K H q [.int j, .ref b])
    (ha : SqT X.K H a (ns.map V.int)) (hb : SqT X.K H b (ms.map V.int)) (hu : A.units + 2 < cLine) : Ob.RcOp .Gt A s' (.ref q) (.ref p) (gtP j ms i ns) := by
  obtain ⟨its, r1, p1, _⟩ := I.tuple hp
  obtain ⟨its2, r2, p2, _⟩ := I.tuple hq
  obtain ⟨u1, u2, rfl, ⟨t, rfl⟩, x2⟩ := vals2 r1
  obtain ⟨w1, w2, rfl, ⟨t', rfl⟩, y2⟩ := vals2 r2
  obtain rfl : u2 = Value.ref a := x2
  obtain rfl : w2 = Value.ref b := y2
  have hu1 : A.in1.units < cLine := by have : A.in1.units = A.units + 1 := rfl; omega
  have R := Ob.RcOp.tuples_gt (A := A) (s := s') (e := fun n => if n = 0 then decide (j = i) else decide (ms = ns)) (r := fun n => if n = 0 then decide (i < j) else lexGt ms ns) (isTup_at k p2) (isTup_at k p1) (by omega) (fun n h1 h2 => by
    have : n = 0 ∨ n = 1 := by simp at h1; omega
    rcases this with rfl | rfl
    · rw [show (if (0 : Nat) = 0 then decide (j = i) else decide (ms = ns)) = (j == i) from by rw [Bool.eq_iff_iff]; simp]
      exact SeqAt.EqAt.int_int _ _ _ _
    · exact eq_tt I k hb ha hu1) (fun n h1 h2 e => by
    have : n = 0 ∨ n = 1 := by simp at h1; omega
    rcases this with rfl | rfl
    · exact Ob.RcOp.gt_int _ _ _ _
    · exact rc_gt I k hb ha hu1)
  have e : Ob.lexAt (fun n => if n = 0 then decide (j = i) else decide (ms = ns)) (fun n => if n = 0 then decide (i < j) else lexGt ms ns) (decide ((#[Value.int j t', .ref b] : Array Value).size > (#[Value.int i t, .ref a] : Array Value).size)) 0 (min (#[Value.int j t', .ref b] : Array Value).size (#[Value.int i t, .ref a] : Array Value).size) = gtP j ms i ns := by
    show (if (decide (j = i)) = true then (if decide (ms = ns) = true then decide (2 > 2) else lexGt ms ns) else decide (i < j)) = _
    unfold gtP
    by_cases q : j = i
    · simp only [q, decide_true, if_true]
      by_cases z : ms = ns
      · subst z
        have nn : ∀ l : List Int, lexGt l l = false := fun l => by
          induction l with
          | nil => rfl
          | cons x r ih => simp [lexGt, ih]
        simp [nn]
      · simp [z]
    · simp [q]
  have R2 : Ob.RcOp .Gt A s' (.ref q) (.ref p) _ := R
  rw [← e]
  exact R2
def rMaxP (K : PySem.W.Frag) : List V → Hp → VK → Prop := fun vs H Q => ∃ (p q a b : Addr) (i j : Int) (ns ms : List Int), vs = [.ref p, .ref q] ∧ SqT K H p [.int i, .ref a] ∧ SqT K H q [.int j, .ref b] ∧ SqT K H a (ns.map V.int) ∧ SqT K H b (ms.map V.int) ∧ Q (if gtP j ms i ns then .ref q else .ref p) H
theorem cr_maxP {X : Cx} (hc : X.calm = true) (hu : X.A.units + 3 < cLine) : CallR X (.builtin "max") (rMaxP X.K) := by
  intro pins s σ H vs us Q I r h
  obtain ⟨p, q, a, b, i, j, ns, ms, rfl, hp, hq, ha, hb, z⟩ := h
  obtain ⟨u, w', rfl, r1, r2⟩ := vals2 r
  obtain rfl : u = Value.ref p := r1
  obtain rfl : w' = Value.ref q := r2
  have hu1 : X.A.in1.units + 2 < cLine := by have : X.A.in1.units = X.A.units + 1 := rfl; omega
  refine wr_max2 (g := gtP j ms i ns) (I.ok.hd hc) (fun s' Q' E' k qq => rc_gtP I k hp hq ha hb hu1 _ _ _ _ qq) fun h' tk k => ⟨_, H, I.kept k, ?_, z⟩
  split <;> rfl
@[simp] def pMaxP : List PV → IH → Res PV
  | [.tup [.int i, .key ns], .tup [.int j, .key ms]], h => .ok (if gtP j ms i ns then .tup [.int j, .key ms] else .tup [.int i, .key ns]) h
  | _, _ => .bad
theorem snd_maxP {K : PySem.W.Frag} {mg : Str → Option Value} : SndC K mg pMaxP (rMaxP K) := by
  intro W s as H h us vs Q rh rs o
  unfold pMaxP at o
  split at o
  · rename_i i ns j ms
    obtain ⟨v, w', rfl, rv, rw'⟩ := rs.inv2
    cases rv with
    | tup h1 q1 => cases rw' with
      | tup h2 q2 =>
        obtain ⟨a1, a2, rfl, b1, b2⟩ := q1.inv2
        obtain ⟨c1, c2, rfl, d1, d2⟩ := q2.inv2
        have b2' := b2
        have d2' := d2
        cases b1
        cases d1
        cases b2 with
        | key k1 => cases d2 with
          | key k2 =>
            refine ⟨_, _, _, _, i, j, ns, ms, rfl, h1, h2, SqT.of k1, SqT.of k2, ?_⟩
            cases g : gtP j ms i ns with
            | true => rw [g] at o; exact o.here rh (.tup h2 (.cons (.int _) (.one d2')))
            | false => rw [g] at o; exact o.here rh (.tup h1 (.cons (.int _) (.one b2')))
  · exact o.elim
section
variable {X : Cx} {W : WX} {k : Nat} {a b e o i : Expr} {es : List Expr} {pos p apos : Pos} {A B C : EX} {L : AX}
theorem ie_maxP (cx : Ctx X W k) (hm : X.mg "max" = none) (ha : PA X (e :: es) (IA X.K X.mg W L)) (hg : Gl X "max" := by rfl) (he : starEach (e :: es) X.env = (false, eval e X.env) :: starEach es X.env := by rfl) (hpl : (backTo pos (starEach es X.env)).any (·.1) = false := by rfl) : PE X (.Call (.Name "max" p) (e :: es) [] pos) (IE X.K X.mg W (eB pMaxP L)) :=
  ie_callB (cr_maxP cx.calm (by have := units65 cx.room; omega)) snd_maxP hm (by decide +kernel) ha hg (by decide) (by decide) he hpl
end
end WR

/-! a tuple times a number -/
namespace L2
open PySem PySem.Spec PyProof.Rows
theorem wr_tuple_mul1 (l : Addr) (its : Array Value) (n : Nat) (dd : Option Addr) (sl : Array (Option Value)) (u : Tok) : Meets (Builtin.«tuple.__mul__» ⟨[.ref l, .int 1 u], []⟩)
    (fun _ R s => s.heap.get? l = some ⟨.type "tuple", dd, .seq its n, sl⟩ ∧ R (.ok (.ret (Value.ref l))) s) :=
  .of_wp fun prog w A R s h => by
    obtain ⟨hp, g, d, tk, os⟩ := s; obtain ⟨hl, h⟩ := h; have f1 := AutoSeq1.idx_int
    wp_walk using wpAny_loadPart' hl
    repeat (first
      | (refine wpAny_ite_false (decide_eq_false (by decide)) ?_; wp_walk using wpAny_loadPart' hl)
      | (refine wpAny_ite_true (decide_eq_true (by simp)) ?_; wp_walk using wpAny_loadPart' hl))
    exact ⟨_, rfl, h⟩
def rRep1 (K : PySem.W.Frag) : R2 := fun x y H Q => ∃ l xs, x = .ref l ∧ y = .int 1 ∧ SqT K H l xs ∧ Q (.ref l) H
theorem op_rep1 {X : Cx} : OpR X (binaryOp .Mult) (rRep1 X.K) := by
  intro pins s σ H x y v u Q I rx ry h
  obtain ⟨l, xs, rfl, rfl, hT, q⟩ := h
  cases rx
  obtain ⟨t, rfl⟩ := ry
  obtain ⟨its, r, ⟨⟨cls, dd, data, sl⟩, ho, hc, n, hd⟩, hs⟩ := I.tuple hT
  simp only at hc hd
  subst hc hd
  exact wpAny_binaryOp_repeat_ref (T := "tuple") (U := "int") (by decide) ⟨_, ho, rfl⟩ (fun s' => typeIs_int s' 1 t) noFill_tuple_mul F.fills_int_mul F.slot_int_rmul repeat_tuple F.slot_int_index.lookup
    (call_meets F.slot_int_rmul (typeIs_int s 1 t) F.entry_int_rmul (F.args_int_rmul_2 _ _) (int_rmul_tuple 1 t l its.toArray n dd sl)
      ⟨ho, rfl, ⟨_, ho, rfl⟩, call_meets F.slot_tuple_mul ⟨_, ho, rfl⟩ F.entry_tuple_mul (F.args_tuple_mul_2 _ _) (wr_tuple_mul1 l its.toArray n dd sl t) ⟨ho, ⟨.ref l, H, I, rfl, q⟩⟩⟩)
end L2
namespace WR
open PySem PySem.Spec PyProof.Rows L2
@[simp] def pMulK : PV → PV → IH → Res PV
  | .key (a :: r), .int k, h => if k = 1 then .ok (.key (a :: r)) h else if 2 ≤ k ∧ k ≤ 1000 ∧ (a :: r).length ≤ 1000 then .ok (.key (List.replicate k.toNat (a :: r)).flatten) h else .bad
  | _, _, _ => .bad
theorem rep_map (n : Nat) (l : List Int) : (List.replicate n l).flatten.map V.int = (List.replicate n (l.map V.int)).flatten := by
  rw [List.map_flatten, List.map_replicate]
theorem snd_mulK {K : PySem.W.Frag} {mg : Str → Option Value} : Snd K mg pMulK (fun x y H Q => rRep1 K x y H Q ∨ rRepT K x y H Q) := by
  intro W s as H h x y U V Q rh rx ry o
  unfold pMulK at o
  split at o
  · rename_i a r k
    cases rx with
    | key ha =>
      cases ry
      split at o
      · rename_i e
        subst e
        exact .inl ⟨_, _, rfl, rfl, SqT.of ha, o.here rh (.key ha)⟩
      · split at o
        · rename_i hk
          refine .inr ⟨_, _, _, rfl, rfl, SqT.of ha, by simp, hk.1, hk.2.1, by simpa using hk.2.2, fun p np => ?_⟩
          exact o _ _ as (Stp.lay rh np) (rh.lay np) (.key (by rw [upd_same, rep_map]))
        · exact o.elim
  · exact o.elim
theorem ie_mulK {X : Cx} {W : WX} {a b : Expr} {pos : Pos} {A B : EX} (ha : PE X a (IE X.K X.mg W A)) (hb : PE X b (IE X.K X.mg W B)) : PE X (.BinOp a .Mult b pos) (IE X.K X.mg W (eOp pMulK A B)) := ie_op (op_rep1.or op_repT) snd_mulK ha hb
end WR

/-! raise and try -/
namespace WR
open PySem PySem.Spec PyProof.Rows L2
/-- an own exception class without an own __init__ -/
structure ExC (K : PySem.W.Frag) (mg : Str → Option Value) (c : Str) (C : Addr) : Prop where
  gC : mg c = some (.ref C)
  ex : PySem.W.excIn K C He.veBase "ValueError.__new__" = true
  kp : PySem.W.keepIn K (.ref C) = true
  sb : PySem.W.subIn K (.ref C) (.type "BaseException") = some true
  ty : PySem.W.typeIn K (.ref C) = some (.type "type")
def bExc (c : Str) : FrB := fun K => (He.Fa.exc c).ok K
theorem bExc_ok {K : PySem.W.Frag} {mg : Str → Option Value} {h : Heap} {c : Str} (X : K.In h) (G : h.Ns mainGlobals mg) (g : bGlo c K = true) (e : bExc c K = true) : ExC K mg c (He.ga K c) := by
  obtain ⟨a, b, c1, d⟩ := He.exc_ok e
  exact ⟨He.glo_ok X G g, a, b, c1, d⟩
/-- which class an exception is of -/
@[simp] def exSub (x y : Str) : Bool := x == y || y == "RoadError"
structure ExCs (K : PySem.W.Frag) (mg : Str → Option Value) (cs : List Str) : Prop where
  two : ∀ x y C D, cs.contains x = true → cs.contains y = true → mg x = some (.ref C) → mg y = some (.ref D) → PySem.W.exmOne K (.ref C) (.ref D) = some (exSub x y)
def bExcs (cs : List Str) : FrB := fun K => cs.all fun x => bGlo x K && cs.all fun y => (He.Fa.exm x y (exSub x y)).ok K
theorem bExcs_ok {K : PySem.W.Frag} {mg : Str → Option Value} {h : Heap} {cs : List Str} (X : K.In h) (G : h.Ns mainGlobals mg) (e : bExcs cs K = true) : ExCs K mg cs := by
  have e' := List.all_eq_true.mp e
  refine ⟨fun x y C D hx hy gx gy => ?_⟩
  have mx := mem_of_contains hx
  have my := mem_of_contains hy
  obtain ⟨a, b⟩ := He.ba (e' x mx)
  obtain ⟨c, _⟩ := He.ba (e' y my)
  have b' := List.all_eq_true.mp b y my
  rw [He.glo_ok X G a] at gx
  rw [He.glo_ok X G c] at gy
  cases gx
  cases gy
  exact He.exm_ok b'
@[simp] def sRaise (c : Str) : SX := fun r h => .ex ⟨c, []⟩ r h
@[simp] def pickH (x : XV) : List (Str × SX) → Option SX
  | [] => none
  | (c, S) :: r => if exSub x.cls c then some S else pickH x r
@[simp] def noEx : RS → RS
  | .ex _ _ _ => .bad
  | o => o
@[simp] def sTry (cs : List Str) (B : SX) (hs : List (Str × SX)) : SX := fun r h => match B r h with
  | .ex x r1 h1 => if cs.contains x.cls && hs.all (fun q => cs.contains q.1) then (match pickH x hs with
    | some S => noEx (S r1 h1)
    | none => .ex x r1 h1) else .bad
  | o => o
section
variable {X : Cx} {W : WX} {k : Nat} {c : Str} {C : Addr} {p pos pos' : Pos} {body : List Stmt} {h₀ : ExceptHandler} {hds : List ExceptHandler} {B : SX} {hs : List (Str × SX)} {cs : List Str}
theorem pmk_own0 (e : ExC X.K X.mg c C) (hg : Gl X c) (hdb : (c == ("__debug__" : Str)) = false) : PMk X (.Call (.Name c p) [] [] pos) (fun _ H Q => Q (.ref C) none H) := by
  intro pins s σ H Q I h
  refine wpAny_Call_Name_kw (ld_glob I hg e.gC ?_ hdb)
  refine PySem.W.callWith_K0 I.kIn e.kp ?_
  obtain ⟨bm, N, nm, qn, bs, hdct, sn, sub, ab, col, dd, k0, k1, k2, k3, k5, mN, hC, hN, hni, T⟩ := exc_obj I.kIn e.ex
  refine wpAny_call_exc_subT F.excBase_ValueError T hC hN hni (fun h' e' hm => ?_) (by show 0 ≤ sizeLine; omega)
  exact mk_of I hm (raises_own e.sb e.ty) h (I.hok.gone hm.new)
theorem is_raise0 (cx : Ctx X W k) (e : ExC X.K X.mg c C) (hg : Gl X c := by rfl) (hdb : (c == ("__debug__" : Str)) = false := by decide) : PS X (.Raise (some (.Call (.Name c p) [] [] pos)) none pos') (IS X.K X.mg W (sRaise c)) := by
  refine psImp (ps_raise cx.calm cx.tk (pmk_own0 e hg hdb)) fun D s H ⟨as, r, h, f, x, o⟩ => ?_
  exact o (.ref C) none s H as (Stp.refl _ _) x f ⟨C, e.gC, rfl, .inl rfl⟩
inductive Mts (X : Cx) : List (Value × (Addr → Value → Option Addr → TS)) → List (Str × SX) → Prop
  | nil : Mts X [] []
  | cons {c : Str} {C : Addr} {S : SX} {l : List (Value × (Addr → Value → Option Addr → TS))} {hs : List (Str × SX)} (g : X.mg c = some (.ref C)) (r : Mts X l hs) : Mts X ((.ref C, fun _ _ _ => IS X.K X.mg W0 S) :: l) ((c, S) :: hs)
def HdR (X : Cx) (hds : List ExceptHandler) (hs : List (Str × SX)) : Prop := ∃ l, HdsOk X hds l ∧ Mts X l hs
theorem hd_nil : HdR X [] [] := ⟨[], .nil, .nil⟩
theorem hd_cons {S : SX} {b₀ : Stmt} {suite : List Stmt} {np : Pos} (gC : X.mg c = some (.ref C)) (hsu : ∀ (a : Addr) (oe : Obj) (pn : List (Addr × Obj)), PSs (X.suite a ((a, oe) :: pn)) (b₀ :: suite) (IS X.K X.mg W0 S)) (r : HdR X hds hs)
    (hg : Gl X c := by rfl) (hdb : (c == ("__debug__" : Str)) = false := by decide) : HdR X (.ExceptHandler (some (.Name c np)) none (b₀ :: suite) pos' :: hds) ((c, S) :: hs) := by
  obtain ⟨l, a, b⟩ := r
  exact ⟨_, .cons ⟨hg, hdb, .inl gC⟩ (fun a oe cls d pn _ _ => hsu a oe pn) a, .cons gC b⟩
theorem noEx_out {K : PySem.W.Frag} {mg : Str → Option Value} {W : WX} {as : List Addr} {H : Hp} {D : Ends} {o : RS} (z : OutS K mg W as H D (noEx o)) : OutS K mg W0 as H D o := by
  cases o with
  | ex x r h => exact z.elim
  | nx r h => exact z
  | rt r h => exact z
  | bk r h => exact z
  | ct r h => exact z
  | bad => exact z
theorem many_of {l : List (Value × (Addr → Value → Option Addr → TS))} (mt : Mts X l hs) (E : ExCs X.K X.mg cs) {x1 : XV} {r1 : Fm} {h1 : IH} {d : Option Addr} {s' : L2.St} {H H' : Hp} {as as' : List Addr} {D : Ends} (hc1 : cs.contains x1.cls = true) (hc2 : hs.all (fun q => cs.contains q.1) = true)
    (gC : X.mg x1.cls = some (.ref C)) (S : Stp as H as' H') (x' : RH X.K X.mg H' as' h1) (f' : RF X.K X.mg H' as' r1 s') (rx : RX X.K X.mg H' as' x1 (.ref C) d)
    (o : OutS X.K X.mg W as H D (match pickH x1 hs with
      | some S => noEx (S r1 h1)
      | none => .ex x1 r1 h1)) : wMany X.K W D l (.ref C) d s' H' := by
  induction mt with
  | nil => exact o (.ref C) d s' H' as' S x' f' rx
  | @cons c Cc Sx l hs g r' ih =>
    rw [List.all_cons, Bool.and_eq_true] at hc2
    have ee := E.two x1.cls c C Cc hc1 hc2.1 gC g
    refine ⟨_, ee, fun hb => fun a na => ?_, fun hb => ?_⟩
    · simp only [pickH, hb, if_true] at o
      exact ⟨as', r1, h1, f', x', noEx_out (o.shift S)⟩
    · refine ih hc2.2 ?_
      simp only [pickH, hb] at o
      exact o
theorem is_try (cx : Ctx X W k) (E : ExCs X.K X.mg cs) (hb : ∀ (W' : WX) (pn : List (Addr × Obj)) (xe : Value → Shared → Prop), Ctx (X.tr pn xe) W' k → PSs (X.tr pn xe) body (IS X.K X.mg W' B)) (hh : HdR X (h₀ :: hds) hs)
    (hs0 : X.stack = X.env :: X.outer := by rfl) (hf0 : X.env.frame = some X.env.locals := by rfl) : PS X (.Try body (h₀ :: hds) [] [] pos) (IS X.K X.mg W (sTry cs B hs)) := by
  obtain ⟨l, ok, mt⟩ := hh
  refine psImp (ps_try_many hs0 hf0 cx.tk (fun W' pn xe tk po => hb W' pn xe ⟨tk, po, cx.calm, cx.nd, cx.room⟩) ok) fun D s H ⟨as, r, h, f, x, o⟩ => ?_
  refine ⟨as, r, h, f, x, ?_⟩
  unfold sTry at o
  cases q : B r h with
  | nx r1 h1 => rw [q] at o; exact o
  | rt r1 h1 => rw [q] at o; exact o
  | bk r1 h1 => rw [q] at o; exact o
  | ct r1 h1 => rw [q] at o; exact o
  | bad => rw [q] at o; exact o
  | ex x1 r1 h1 =>
    rw [q] at o
    simp only at o
    split at o
    · rename_i hc
      obtain ⟨hc1, hc2⟩ := Bool.and_eq_true_iff.mp hc
      intro cls d s' H' as' S x' f' rx
      have rx' := rx
      obtain ⟨C, gC, rfl, fs⟩ := rx
      exact many_of mt E hc1 hc2 gC S x' f' rx' o
    · exact o.elim
end
end WR

/-! remove and index of data -/
namespace L2
open PySem PySem.Spec PyProof.Rows
section
variable {X : Cx}
def rRemD (K : PySem.W.Frag) : V → List V → Hp → VK → Prop := fun x xs H Q => ∃ (l : Addr) (ys : List V) (y : V) (d : PyData) (ds : List PyData) (j : Nat) (z : PyData), x = V.ref l ∧ xs = [y] ∧ H l = some (.lst ys) ∧ DpAll K H ys ds ∧ Dp K H y d ∧
  SeqAt.shaped (.list ds) = true ∧ SeqAt.shaped d = true ∧ ds[j]? = some z ∧ PyData.eqv z d = true ∧ (∀ (m : Nat) (z' : PyData), m < j → ds[m]? = some z' → PyData.eqv z' d = false) ∧ Q .non (upd H l (.lst (ys.eraseIdx j)))
theorem mt_removeD (hu : X.A.units + 65 < cLine) : MtR X "list.remove" (rRemD X.K) := by
  intro pins s σ H x xs v us Q I rx rxs h
  obtain ⟨a, ys, y, d, ds, j, z, rfl, rfl, hH, hl, hy, sl, sd, hz, hzj, hno, q⟩ := h
  cases rx
  obtain ⟨uy, rfl, ry⟩ := rxs.one
  obtain ⟨bs, r1⟩ := Dp.reads I d y uy hy ry
  have hxs : PyData.canLayAll0 ds = true := SeqAt.canLay_of_shaped sl
  have hroom : X.A.units + 1 + min (PyData.depthAll ds) d.depth < cLine := room_in_shaped sd hu
  obtain ⟨zl, its, n, r, hln, e⟩ := I.lstM hH
  obtain ⟨as, h4⟩ := Dp.readsAll I ds _ its hl r
  have hn : its.length = ds.length := SeqAt.ReadsAll.length ds its as h4
  have hmap : its.map (SeqAt.readOf s.heap) = ds := SeqAt.readsAll_map ds its as hxs h4
  have hvl := r.length
  have hsl := sizeLine_eq
  obtain ⟨hjd, _⟩ := List.getElem?_eq_some_iff.mp hz
  have hjl : j < its.length := by omega
  have hj : j < its.toArray.size := by simpa using hjl
  have at_ : ∀ (m : Nat) (hm : m < its.toArray.size) (z' : PyData), ds[m]? = some z' → SeqAt.readOf s.heap its.toArray[m] = z' := by
    intro m hm z' hz'
    have hml : m < its.length := by simpa using hm
    rw [← hmap, List.getElem?_map, List.getElem?_eq_getElem hml] at hz'
    have e1 : SeqAt.readOf s.heap its[m] = z' := Option.some.inj (show some (SeqAt.readOf s.heap its[m]) = some z' from hz')
    simpa using e1
  refine call_meets PySem.F.slot_list_remove ⟨_, e, rfl⟩ PySem.F.entry_list_remove (PySem.F.args_list_remove_2 _ _)
    (SeqAt.list_removeAt a its.toArray n none #[] uy (fun u => PyData.eqv (SeqAt.readOf s.heap u) d) j hj ?_ ?_ (by rw [List.size_toArray]; omega)) ⟨e, SeqAt.items_eqAt (vs := its.toArray) (show ReadsAll s.heap its.toArray.toList ds as from h4) r1 hxs (SeqAt.canLay_of_shaped sd) hroom, ?_⟩
  · show PyData.eqv (SeqAt.readOf s.heap its.toArray[j]) d = true
    rw [at_ j hj z hz]
    exact hzj
  · intro m hm hmj
    have hmd : m < ds.length := by omega
    have hz' : ds[m]? = some ds[m] := List.getElem?_eq_getElem hmd
    show PyData.eqv (SeqAt.readOf s.heap its.toArray[m]) d = false
    rw [at_ m hm _ hz']
    exact hno m _ hmj hz'
  · have rr := r.eraseIdx j
    refine ⟨.non, _, I.lset (its' := its.eraseIdx j) (t' := s.toks) hH e ?_ rr ?_, rfl, q⟩
    · show its.toArray.eraseIdxIfInBounds j = (its.eraseIdx j).toArray
      rw [List.eraseIdxIfInBounds_toArray]
    · have z2 := List.length_eraseIdx_le ys j
      omega
end
end L2
namespace WR
open PySem PySem.Spec PyProof.Rows L2
/-- the first place of an equal item -/
def ixAt (xs : List PV) (y : PV) (h : IH) : Option Nat := match optAll (dataOf 11 h) xs, dataOf DEP h y with
  | some ds, some d => if SeqAt.shaped (.list ds) && SeqAt.shaped d then ds.findIdx? (fun z => PyData.eqv z d) else none
  | _, _ => none
@[simp] def eRemove (A : EX) (L : AX) : EX := fun r h => (A r h).bind fun x h1 => match x with
  | .obj n => (match h1[n]? with
    | some (.lst _) => (L r h1).bind fun vs h2 => (match vs, h2[n]? with
      | [y], some (.lst xs) => (match ixAt xs y h2 with
        | some j => .ok .non (h2.set n (.lst (xs.eraseIdx j)))
        | none => .bad)
      | _, _ => .bad)
    | _ => .bad)
  | _ => .bad
@[simp] def eIndex (A : EX) (L : AX) : EX := fun r h => (A r h).bind fun x h1 => match x with
  | .obj n => (match h1[n]? with
    | some (.lst _) => (L r h1).bind fun vs h2 => (match vs, h2[n]? with
      | [y], some (.lst xs) => (match ixAt xs y h2 with
        | some j => .ok (.int j) h2
        | none => .bad)
      | _, _ => .bad)
    | _ => .bad)
  | _ => .bad
theorem ixAt_of {K : PySem.W.Frag} {mg : Str → Option Value} {as : List Addr} {H : Hp} {h : IH} {xs : List PV} {ys : List V} {y : PV} {w : V} {j : Nat} (rh : RH K mg H as h) (rs : RPs K mg H as xs ys) (ry : RP K mg H as y w) (e : ixAt xs y h = some j) :
    ∃ d ds z, DpAll K H ys ds ∧ Dp K H w d ∧ SeqAt.shaped (.list ds) = true ∧ SeqAt.shaped d = true ∧ ds[j]? = some z ∧ PyData.eqv z d = true ∧ (∀ (m : Nat) (z' : PyData), m < j → ds[m]? = some z' → PyData.eqv z' d = false) := by
  unfold ixAt at e
  split at e
  · rename_i ds d e1 e2
    split at e
    · rename_i hs
      obtain ⟨s1, s2⟩ := Bool.and_eq_true_iff.mp hs
      obtain ⟨hj, h1, h2⟩ := List.findIdx?_eq_some_iff_getElem.mp e
      refine ⟨d, ds, ds[j], dpAll (fun p v d r => dp_of rh 11 p v d r) rs e1, dp_of rh _ _ _ _ ry e2, s1, s2, List.getElem?_eq_getElem hj, h1, fun m z' hm hz => ?_⟩
      obtain ⟨hm2, rfl⟩ := List.getElem?_eq_some_iff.mp hz
      have := h2 m hm
      simpa using this
    · cases e
  · cases e
theorem RPs.eraseIdx {K : PySem.W.Frag} {mg : Str → Option Value} {as : List Addr} {H : Hp} : ∀ {xs : List PV} {us : List V} (j : Nat), RPs K mg H as xs us → RPs K mg H as (xs.eraseIdx j) (us.eraseIdx j)
  | _, _, _, .nil => by simpa using .nil
  | _, _, 0, .cons r t => by simpa using t
  | _, _, j + 1, .cons r t => by simpa using .cons r (RPs.eraseIdx j t)
section
variable {X : Cx} {W : WX} {k : Nat} {a b e o : Expr} {es : List Expr} {pos : Pos} {A B C : EX} {L : AX}
theorem ie_remove {apos : Pos} (cx : Ctx X W k) (ho : PE X o (IE X.K X.mg W A)) (ha : PA X (e :: es) (IA X.K X.mg W L)) (hbase : attributeBase o "remove" X.env (eval o X.env) = eval o X.env := by rfl)
    (hfew : ((backTo pos (starEach (e :: es) X.env)).all (fun x => !x.1) && (backToKw pos (keywordEach [] X.env)).all (fun x => x.1.isSome)
      && decide ((e :: es).length + ([] : List Keyword).length + (if ([] : List Keyword).isEmpty then 0 else 1) < 30)) = true := by rfl)
    (hline : (apos.endLine == pos.line) = true := by rfl) (hs : starEach (e :: es) X.env = (false, eval e X.env) :: starEach es X.env := by rfl) (hplain : (backTo pos (starEach es X.env)).any (·.1) = false := by rfl) :
    PE X (.Call (.Attribute o "remove" apos) (e :: es) [] pos) (IE X.K X.mg W (eRemove A L)) := by
  refine peImp (pe_bm PySem.F.plainAttrs_list PySem.F.slot_list_remove PySem.F.type_list_remove (mt_removeD (by have := units65 cx.room; omega)) ho ha hbase hfew hline hs hplain) fun s H Q ⟨as, ρ, hh, f, x, o⟩ => ?_
  refine ⟨as, ρ, hh, f, x, (Out.bind o).imp fun V H1 ⟨as1, h1, p1, S1, x1, r1, o1⟩ => ?_⟩
  split at o1
  · rename_i n
    cases r1 with
    | obj hn =>
      split at o1
      · rename_i ys hy
        obtain ⟨b, e1, us, e2, rs⟩ := x1.at_ _ _ hy
        rw [hn] at e1; cases e1
        refine ⟨.inl ⟨rfl, _, SqL.of e2⟩, as1, ρ, h1, f.mono S1, x1, (Out.bind o1).imp fun Vs H2 ⟨as2, h2, p2, S2, x2, r2, o2⟩ => ?_⟩
        split at o2
        · rename_i y xs hx
          split at o2
          · rename_i j hj
            obtain ⟨w, rfl, rw'⟩ := r2.inv1
            obtain ⟨b', e3, ws, e4, rs'⟩ := x2.at_ _ _ hx
            have hn2 := S2.get hn
            rw [hn2] at e3; cases e3
            obtain ⟨d, ds, z, q1, q2, q3, q4, q5, q6, q7⟩ := ixAt_of x2 rs' rw' hj
            refine ⟨_, ws, w, d, ds, j, z, rfl, rfl, e4, q1, q2, q3, q4, q5, q6, q7, ?_⟩
            have S3 := Stp.put (o := .lst (ws.eraseIdx j)) x2 hn2 hx
            exact o2 _ _ _ S3 (x2.put (m := .lst (xs.eraseIdx j)) hn2 hx ⟨_, upd_same, (rs'.eraseIdx j).mono S3⟩) .non
          · exact o2.elim
        · exact o2.elim
      · exact o1.elim
  · exact o1.elim
theorem ie_index {apos : Pos} (cx : Ctx X W k) (ho : PE X o (IE X.K X.mg W A)) (ha : PA X (e :: es) (IA X.K X.mg W L)) (hbase : attributeBase o "index" X.env (eval o X.env) = eval o X.env := by rfl)
    (hfew : ((backTo pos (starEach (e :: es) X.env)).all (fun x => !x.1) && (backToKw pos (keywordEach [] X.env)).all (fun x => x.1.isSome)
      && decide ((e :: es).length + ([] : List Keyword).length + (if ([] : List Keyword).isEmpty then 0 else 1) < 30)) = true := by rfl)
    (hline : (apos.endLine == pos.line) = true := by rfl) (hs : starEach (e :: es) X.env = (false, eval e X.env) :: starEach es X.env := by rfl) (hplain : (backTo pos (starEach es X.env)).any (·.1) = false := by rfl) :
    PE X (.Call (.Attribute o "index" apos) (e :: es) [] pos) (IE X.K X.mg W (eIndex A L)) := by
  refine peImp (pe_bm PySem.F.plainAttrs_list PySem.F.slot_list_index PySem.F.type_list_index (mt_indexD (by have := units65 cx.room; omega)) ho ha hbase hfew hline hs hplain) fun s H Q ⟨as, ρ, hh, f, x, o⟩ => ?_
  refine ⟨as, ρ, hh, f, x, (Out.bind o).imp fun V H1 ⟨as1, h1, p1, S1, x1, r1, o1⟩ => ?_⟩
  split at o1
  · rename_i n
    cases r1 with
    | obj hn =>
      split at o1
      · rename_i ys hy
        obtain ⟨b, e1, us, e2, rs⟩ := x1.at_ _ _ hy
        rw [hn] at e1; cases e1
        refine ⟨.inl ⟨rfl, _, SqL.of e2⟩, as1, ρ, h1, f.mono S1, x1, (Out.bind o1).imp fun Vs H2 ⟨as2, h2, p2, S2, x2, r2, o2⟩ => ?_⟩
        split at o2
        · rename_i y xs hx
          split at o2
          · rename_i j hj
            obtain ⟨w, rfl, rw'⟩ := r2.inv1
            obtain ⟨b', e3, ws, e4, rs'⟩ := x2.at_ _ _ hx
            have hn2 := S2.get hn
            rw [hn2] at e3; cases e3
            obtain ⟨d, ds, z, q1, q2, q3, q4, q5, q6, q7⟩ := ixAt_of x2 rs' rw' hj
            exact ⟨_, w, d, ds, j, z, rfl, rfl, .lst (SqL.of e4) q1, q2, q3, q4, q5, q6, q7, o2.here x2 (.int _)⟩
          · exact o2.elim
        · exact o2.elim
      · exact o1.elim
  · exact o1.elim
theorem chain_of {p q : PV → PV → IH → Res PV} {r r' : R2} {c : Expr} (hp : Snd X.K X.mg p r) (hq : Snd X.K X.mg q r') {s : L2.St} {H : Hp} {Q : VK} (h : IE X.K X.mg W (eChain p q A B C) s H Q) : tChain r r' (IE X.K X.mg W A) (IE X.K X.mg W B) (IE X.K X.mg W C) s H Q := by
  obtain ⟨as, ρ, h, g, z, o⟩ := h
  refine ⟨as, ρ, h, g, z, (Out.bind o).imp fun V1 H1 ⟨as1, h1, p1, S1, x1, r1, o1⟩ => ?_⟩
  refine ⟨as1, ρ, h1, g.mono S1, x1, (Out.bind o1).imp fun V2 H2 ⟨as2, h2, p2, S2, x2, r2, o2⟩ => ?_⟩
  refine hp x2 (r1.mono S2) r2 ((Out.bind o2).imp fun V3 H3 ⟨as3, h3, p3, S3, x3, r3, o3⟩ => ?_)
  cases r3 with
  | bl d =>
    refine ⟨d, rfl, ?_⟩
    cases d with
    | false => exact o3.here x3 (.bl false)
    | true =>
      refine ⟨as3, ρ, h3, ((g.mono S1).mono S2).mono S3, x3, (Out.bind o3).imp fun V4 H4 ⟨as4, h4, p4, S4, x4, r4, o4⟩ => ?_⟩
      exact hq x4 ((r2.mono S3).mono S4) r4 o4
  | non => exact o3.elim
  | int => exact o3.elim
  | str => exact o3.elim
  | tup => exact o3.elim
  | fls => exact o3.elim
  | obj => exact o3.elim
  | glo => exact o3.elim
  | ty => exact o3.elim
  | key => exact o3.elim
theorem it_lele {c : Expr} (ha : PE X a (IE X.K X.mg W A)) (hb : PE X b (IE X.K X.mg W B)) (hc : PE X c (IE X.K X.mg W C)) (hm : lastMarks [.LtE, .LtE] [b, c] = false := by with_unfolding_all rfl) : PT X (.Compare a [.LtE, .LtE] [b, c] pos) (IT X.K X.mg W (tBl (eChain pLe pLe A B C))) :=
  ptImp (pt_chain op_le op_le ha hb hc hm) fun _ _ _ h => tTest_of (fun Q' h => chain_of (c := c) snd_ci snd_ci h) h
end
end WR

/-! the defs as functional code -/
namespace WR
open PySem PySem.Spec PyProof.Rows L2
def ownCs : List Str := ["Plan"]
def exCs : List Str := []
def b_is_integer : SX :=
    sRet (eAnd (eB (pIsi ownCs) (aCons (eVar 0) (aCons (eC (.ty "int")) aNil))) (eNot (eB (pIsi ownCs) (aCons (eVar 0) (aCons (eC (.ty "bool")) aNil)))))
def f_is_integer : List PV → IH → Res PV := fn 1 0 b_is_integer

def b_is_from : SX :=
    sRet (eAnd (eCall f_is_integer (aCons (eVar 0) aNil)) (eChain pLe pLe (eVar 1) (eVar 0) (eVar 2)))
def f_is_from : List PV → IH → Res PV := fn 3 0 b_is_from

def b_common : SX :=
    sSeq (sPar 0 1 (aCons (eB pAbs (aCons (eVar 0) aNil)) (aCons (eB pAbs (aCons (eVar 1) aNil)) aNil)))
    (sSeq (sWhile (tTru (eVar 1)) (sPar 0 1 (aCons (eVar 1) (aCons (eOp pMod (eVar 0) (eVar 1)) aNil))))
    (sRet (eVar 0)))
def f_common : List PV → IH → Res PV := fn 2 0 b_common

def b_ratio : SX :=
    sSeq (sSet 2 (eCall f_common (aCons (eVar 0) (aCons (eVar 1) aNil))))
    (sRet (eTup (aCons (eOp pDiv (eVar 0) (eVar 2)) (aCons (eOp pDiv (eVar 1) (eVar 2)) aNil))))
def f_ratio : List PV → IH → Res PV := fn 2 1 b_ratio

def b_is_fraction : SX :=
    sSeq (sIf (tOrX (tNotX (tTru (eB (pIsi ownCs) (aCons (eVar 0) (aCons (eC (.ty "tuple")) aNil))))) (tBl (eOp pNe (eB pLen (aCons (eVar 0) aNil)) (eC (.int 2))))) (sRet (eC (.bl false))) sNil)
    (sSeq (sIf (tOrX (tNotX (tTru (eCall f_is_integer (aCons (eOp pIdx (eVar 0) (eC (.int 0))) aNil)))) (tNotX (tTru (eCall f_is_integer (aCons (eOp pIdx (eVar 0) (eC (.int 1))) aNil))))) (sRet (eC (.bl false))) sNil)
    (sRet (eAnd (eOp pGe (eOp pIdx (eVar 0) (eC (.int 1))) (eC (.int 1))) (eOp pEq (eCall f_common (aCons (eOp pIdx (eVar 0) (eC (.int 0))) (aCons (eOp pIdx (eVar 0) (eC (.int 1))) aNil))) (eC (.int 1))))))
def f_is_fraction : List PV → IH → Res PV := fn 1 0 b_is_fraction

def b_plus : SX :=
    sRet (eCall f_ratio (aCons (eOp pAdd (eOp pMul (eOp pIdx (eVar 0) (eC (.int 0))) (eOp pIdx (eVar 1) (eC (.int 1)))) (eOp pMul (eOp pIdx (eVar 1) (eC (.int 0))) (eOp pIdx (eVar 0) (eC (.int 1))))) (aCons (eOp pMul (eOp pIdx (eVar 0) (eC (.int 1))) (eOp pIdx (eVar 1) (eC (.int 1)))) aNil)))
def f_plus : List PV → IH → Res PV := fn 2 0 b_plus

def b_times : SX :=
    sRet (eCall f_ratio (aCons (eOp pMul (eOp pIdx (eVar 0) (eC (.int 0))) (eOp pIdx (eVar 1) (eC (.int 0)))) (aCons (eOp pMul (eOp pIdx (eVar 0) (eC (.int 1))) (eOp pIdx (eVar 1) (eC (.int 1)))) aNil)))
def f_times : List PV → IH → Res PV := fn 2 0 b_times

def b_over : SX :=
    sRet (eCall f_ratio (aCons (eOp pMul (eOp pIdx (eVar 0) (eC (.int 0))) (eOp pIdx (eVar 1) (eC (.int 1)))) (aCons (eOp pMul (eOp pIdx (eVar 0) (eC (.int 1))) (eOp pIdx (eVar 1) (eC (.int 0)))) aNil)))
def f_over : List PV → IH → Res PV := fn 2 0 b_over

def b_is_less : SX :=
    sRet (eOp pLt (eOp pMul (eOp pIdx (eVar 0) (eC (.int 0))) (eOp pIdx (eVar 1) (eC (.int 1)))) (eOp pMul (eOp pIdx (eVar 1) (eC (.int 0))) (eOp pIdx (eVar 0) (eC (.int 1)))))
def f_is_less : List PV → IH → Res PV := fn 2 0 b_is_less

def b_is_within : SX :=
    sSeq (sIf (tNotX (tTru (eCall f_is_fraction (aCons (eVar 0) aNil)))) (sRet (eC (.bl false))) sNil)
    (sRet (eChain pLe pLe (eOp pMul (eVar 1) (eOp pIdx (eVar 0) (eC (.int 1)))) (eOp pIdx (eVar 0) (eC (.int 0))) (eOp pMul (eVar 2) (eOp pIdx (eVar 0) (eC (.int 1))))))
def f_is_within : List PV → IH → Res PV := fn 3 0 b_is_within

def b_greatest_of : SX :=
    sSeq (sSet 1 (eOp pIdx (eVar 0) (eC (.int 0))))
    (sSeq (sFor (eIter (eVar 0)) (gVar 2) (sIf (tTru (eCall f_is_less (aCons (eVar 1) (aCons (eVar 2) aNil)))) (sSet 1 (eVar 2)) sNil))
    (sRet (eVar 1)))
def f_greatest_of : List PV → IH → Res PV := fn 1 2 b_greatest_of

def b_is_reach : SX :=
    sRet (eAnd (eCall f_is_within (aCons (eVar 0) (aCons (eC (.int 0)) (aCons (eC (.int 1000000000000)) aNil)))) (eOp pGt (eOp pIdx (eVar 0) (eC (.int 0))) (eC (.int 0))))
def f_is_reach : List PV → IH → Res PV := fn 1 0 b_is_reach

def b_is_turn : SX :=
    sSeq (sIf (tOrX (tNotX (tTru (eB (pIsi ownCs) (aCons (eVar 0) (aCons (eC (.ty "tuple")) aNil))))) (tBl (eOp pNe (eB pLen (aCons (eVar 0) aNil)) (eC (.int 2))))) (sRet (eC (.bl false))) sNil)
    (sRet (eAnd (eCall f_is_from (aCons (eOp pIdx (eVar 0) (eC (.int 0))) (aCons (eC (.int 0)) (aCons (eOp pSub (eVar 1) (eC (.int 1))) aNil)))) (eCall f_is_reach (aCons (eOp pIdx (eVar 0) (eC (.int 1))) aNil))))
def f_is_turn : List PV → IH → Res PV := fn 2 0 b_is_turn

def b_check_roads : SX :=
    sIf (tNotX (tTru (eCall f_is_from (aCons (eVar 0) (aCons (eC (.int 1)) (aCons (eC (.int 5)) aNil)))))) sBad sNil
def f_check_roads : List PV → IH → Res PV := fn 1 0 b_check_roads

def b_check_cost : SX :=
    sIf (tNotX (tTru (eCall f_is_within (aCons (eVar 0) (aCons (eC (.int 0)) (aCons (eC (.int 1000000000000)) aNil)))))) sBad sNil
def f_check_cost : List PV → IH → Res PV := fn 1 0 b_check_cost

def b_Plan___init__ : SX :=
    sSeq (sExpr (eCall f_check_roads (aCons (eVar 1) aNil)))
    (sSeq (sIf (tOrX (tNotX (tTru (eB (pIsi ownCs) (aCons (eVar 2) (aCons (eC (.ty "tuple")) aNil))))) (tBl (eOp pGt (eB pLen (aCons (eVar 2) aNil)) (eC (.int 60))))) sBad sNil)
    (sSeq (sFor (eEnum (aCons (eVar 2) aNil)) (gTupF [4, 5]) (sIf (tNotX (tTru (eCall f_is_turn (aCons (eVar 5) (aCons (eVar 1) aNil))))) sBad sNil))
    (sSeq (sExpr (eCall f_check_cost (aCons (eVar 3) aNil)))
    (sFldX "Plan" "held" (eVar 0) (eTup (aCons (eVar 1) (aCons (eVar 2) (aCons (eVar 3) aNil))))))))
def f_Plan___init__ : List PV → IH → Res PV := fn 4 2 b_Plan___init__

def b_Plan_roads : SX :=
    sRet (eOp pIdx (eFld "Plan" "held" (eVar 0)) (eC (.int 0)))
def f_Plan_roads : List PV → IH → Res PV := fn 1 0 b_Plan_roads

def b_Plan_turns : SX :=
    sRet (eOp pIdx (eFld "Plan" "held" (eVar 0)) (eC (.int 1)))
def f_Plan_turns : List PV → IH → Res PV := fn 1 0 b_Plan_turns

def b_Plan_cost : SX :=
    sRet (eOp pIdx (eFld "Plan" "held" (eVar 0)) (eC (.int 2)))
def f_Plan_cost : List PV → IH → Res PV := fn 1 0 b_Plan_cost

def b_Plan___len__ : SX :=
    sRet (eB pLen (aCons (eOp pIdx (eFld "Plan" "held" (eVar 0)) (eC (.int 1))) aNil))
def f_Plan___len__ : List PV → IH → Res PV := fn 1 0 b_Plan___len__

def b_Plan___eq__ : SX :=
    sRet (eAnd (eB (pIsi ownCs) (aCons (eVar 1) (aCons (eC (.glo "Plan")) aNil))) (eOp pEq (eFld "Plan" "held" (eVar 0)) (eFld "Plan" "held" (eVar 1))))
def f_Plan___eq__ : List PV → IH → Res PV := fn 2 0 b_Plan___eq__

def b_check_road : SX :=
    sIf (tNotX (tTru (eCall f_is_from (aCons (eVar 1) (aCons (eC (.int 0)) (aCons (eOp pSub (eVar 0) (eC (.int 1))) aNil)))))) sBad sNil
def f_check_road : List PV → IH → Res PV := fn 2 0 b_check_road

def b_is_far : SX :=
    sRet (eCall f_is_within (aCons (eVar 0) (aCons (eC (.int 1)) (aCons (eC (.int 1000000000000000000000000000000)) aNil))))
def f_is_far : List PV → IH → Res PV := fn 1 0 b_is_far

def b_check_far : SX :=
    sIf (tNotX (tTru (eCall f_is_far (aCons (eVar 0) aNil)))) sBad sNil
def f_check_far : List PV → IH → Res PV := fn 1 0 b_check_far

def b_bases_of : SX :=
    sSeq (sSet 1 (eLst (aCons (eC (.tup [.int 0, .int 1])) aNil)))
    (sSeq (sFor (eIter (eOp pIdx (eFld "Plan" "held" (eVar 0)) (eC (.int 1)))) (gTupF [2, 3]) (sExpr (eAppend (eVar 1) (aCons (eCall f_plus (aCons (eOp pIdx (eVar 1) (eUn pNeg (eC (.int 1)))) (aCons (eCall f_plus (aCons (eCall f_times (aCons (eTup (aCons (eC (.int 2)) (aCons (eC (.int 1)) aNil))) (aCons (eVar 3) aNil))) (aCons (eOp pIdx (eFld "Plan" "held" (eVar 0)) (eC (.int 2))) aNil))) aNil))) aNil))))
    (sRet (eVar 1)))
def f_bases_of : List PV → IH → Res PV := fn 1 3 b_bases_of

def b_walked_by : SX :=
    sSeq (sFor (eZip (aCons (eOp pIdx (eFld "Plan" "held" (eVar 0)) (eC (.int 1))) (aCons (eCall f_bases_of (aCons (eVar 0) aNil)) aNil))) (gTupF [3, 4]) (sIf (tAndX (tBl (eOp pEq (eOp pIdx (eVar 3) (eC (.int 0))) (eVar 1))) (tNotX (tTru (eCall f_is_less (aCons (eOp pIdx (eVar 3) (eC (.int 1))) (aCons (eVar 2) aNil)))))) (sRet (eCall f_plus (aCons (eVar 4) (aCons (eVar 2) aNil)))) sNil))
    (sRet (eC .non))
def f_walked_by : List PV → IH → Res PV := fn 3 2 b_walked_by

def b_pieces_of : SX :=
    sSeq (sSet 2 (eLst aNil))
    (sSeq (sSet 3 (eC (.tup [.int 0, .int 1])))
    (sSeq (sFor (eZip (aCons (eOp pIdx (eFld "Plan" "held" (eVar 0)) (eC (.int 1))) (aCons (eCall f_bases_of (aCons (eVar 0) aNil)) aNil))) (gTupF [4, 5]) (sSeq (sAsgT (gTupF [6, 7]) (eVar 4))
    (sIf (tAndX (tBl (eOp pEq (eVar 6) (eVar 1))) (tTru (eCall f_is_less (aCons (eVar 3) (aCons (eVar 7) aNil))))) (sSeq (sIf (tNotX (tTru (eCall f_is_less (aCons (eVar 7) (aCons (eC (.tup [.int 1, .int 1])) aNil))))) (sExpr (eAppend (eVar 2) (aCons (eTup (aCons (eCall f_greatest_of (aCons (eLst (aCons (eVar 3) (aCons (eC (.tup [.int 1, .int 1])) aNil))) aNil)) (aCons (eVar 7) (aCons (eVar 5) aNil)))) aNil))) sNil)
    (sSet 3 (eVar 7))) sNil)))
    (sRet (eVar 2))))
def f_pieces_of : List PV → IH → Res PV := fn 2 6 b_pieces_of

def b_check_team : SX :=
    sSeq (sIf (tOrX (tNotX (tTru (eB (pIsi ownCs) (aCons (eVar 0) (aCons (eC (.ty "tuple")) aNil))))) (tNotX (tBl (eChain pLe pLe (eC (.int 1)) (eB pLen (aCons (eVar 0) aNil)) (eC (.int 4)))))) sBad sNil)
    (sSeq (sFor (eIter (eVar 0)) (gVar 2) (sIf (tOrX (tNotX (tTru (eB (pIsi ownCs) (aCons (eVar 2) (aCons (eC (.glo "Plan")) aNil))))) (tBl (eOp pNe (eOp pIdx (eFld "Plan" "held" (eVar 2)) (eC (.int 0))) (eOp pIdx (eFld "Plan" "held" (eOp pIdx (eVar 0) (eC (.int 0)))) (eC (.int 0)))))) sBad sNil))
    (sIf (tNotX (tTru (eCall f_is_from (aCons (eVar 1) (aCons (eC (.int 0)) (aCons (eOp pSub (eB pLen (aCons (eVar 0) aNil)) (eC (.int 1))) aNil)))))) sBad sNil))
def f_check_team : List PV → IH → Res PV := fn 2 1 b_check_team

def b_in_order : SX :=
    sSeq (sSet 1 (eLst aNil))
    (sSeq (sFor (eIter (eVar 0)) (gVar 2) (sSeq (sSet 3 (eB pLen (aCons (eLc (eIter (eVar 1)) (gVar 4) (tNotX (tTru (eCall f_is_less (aCons (eVar 2) (aCons (eVar 4) aNil))))) (eVar 4) [4]) aNil)))
    (sExpr (eInsert (eVar 1) (aCons (eVar 3) (aCons (eVar 2) aNil))))))
    (sRet (eVar 1)))
def f_in_order : List PV → IH → Res PV := fn 1 4 b_in_order

def b_team_time : SX :=
    sSeq (sSet 4 (eLc (eIter (eVar 0)) (gVar 6) tYesX (eCall f_walked_by (aCons (eVar 6) (aCons (eVar 2) (aCons (eVar 3) aNil)))) [6]))
    (sSeq (sSet 5 (eCall f_in_order (aCons (eLc (eIter (eVar 4)) (gVar 7) (tBl (eOp pNotN (eVar 7) (eC .non))) (eVar 7) [7]) aNil)))
    (sSeq (sIf (tBl (eOp pLe (eB pLen (aCons (eVar 5) aNil)) (eVar 1))) (sRet (eC .non)) sNil)
    (sRet (eOp pIdx (eVar 5) (eVar 1)))))
def f_team_time : List PV → IH → Res PV := fn 4 4 b_team_time

def b_team_walked : SX :=
    sSeq (sExpr (eCall f_check_team (aCons (eVar 0) (aCons (eVar 1) aNil))))
    (sSeq (sExpr (eCall f_check_road (aCons (eOp pIdx (eFld "Plan" "held" (eOp pIdx (eVar 0) (eC (.int 0)))) (eC (.int 0))) (aCons (eVar 2) aNil))))
    (sSeq (sExpr (eCall f_check_far (aCons (eVar 3) aNil)))
    (sRet (eCall f_team_time (aCons (eVar 0) (aCons (eVar 1) (aCons (eVar 2) (aCons (eVar 3) aNil))))))))
def f_team_walked : List PV → IH → Res PV := fn 4 0 b_team_walked

def b_bases_behind : SX :=
    sSeq (sSet 3 (eLst aNil))
    (sSeq (sFor (eIter (eVar 0)) (gVar 4) (sFor (eIter (eCall f_pieces_of (aCons (eVar 4) (aCons (eVar 1) aNil)))) (gTupF [5, 6, 7]) (sIf (tAndX (tNotX (tTru (eCall f_is_less (aCons (eVar 2) (aCons (eVar 5) aNil))))) (tTru (eCall f_is_less (aCons (eVar 2) (aCons (eVar 6) aNil))))) (sExpr (eAppend (eVar 3) (aCons (eVar 7) aNil))) sNil)))
    (sRet (eCall f_in_order (aCons (eVar 3) aNil))))
def f_bases_behind : List PV → IH → Res PV := fn 3 5 b_bases_behind

def b_lows_of : SX :=
    sSeq (sSet 2 (eLst (aCons (eC (.tup [.int 1, .int 1])) aNil)))
    (sSeq (sFor (eIter (eVar 0)) (gVar 3) (sFor (eIter (eCall f_pieces_of (aCons (eVar 3) (aCons (eVar 1) aNil)))) (gTupF [4, 5, 6]) (sFor (eIter (eTup (aCons (eVar 4) (aCons (eVar 5) aNil)))) (gVar 7) (sIf (tBl (eOp pNotIn (eVar 7) (eVar 2))) (sExpr (eAppend (eVar 2) (aCons (eVar 7) aNil))) sNil))))
    (sRet (eCall f_in_order (aCons (eVar 2) aNil))))
def f_lows_of : List PV → IH → Res PV := fn 2 6 b_lows_of

def b_share_at : SX :=
    sSeq (sSet 4 (eCall f_team_time (aCons (eVar 0) (aCons (eVar 1) (aCons (eVar 2) (aCons (eVar 3) aNil))))))
    (sSeq (sIf (tBl (eOp pNotN (eVar 4) (eC .non))) (sSet 4 (eCall f_over (aCons (eVar 4) (aCons (eVar 3) aNil)))) sNil)
    (sSeq (sSet 5 (eCall f_bases_behind (aCons (eVar 0) (aCons (eVar 2) (aCons (eVar 3) aNil)))))
    (sSeq (sSet 6 (eC .non))
    (sSeq (sIf (tBl (eOp pGt (eB pLen (aCons (eVar 5) aNil)) (eVar 1))) (sSet 6 (eCall f_plus (aCons (eC (.tup [.int 1, .int 1])) (aCons (eCall f_over (aCons (eOp pIdx (eVar 5) (eVar 1)) (aCons (eVar 3) aNil))) aNil)))) sNil)
    (sSeq (sIf (tAndX (tBl (eOp pEq (eVar 3) (eC (.tup [.int 1, .int 1])))) (tAndX (tBl (eOp pNotN (eVar 4) (eC .non))) (tOrX (tBl (eOp pIsN (eVar 6) (eC .non))) (tTru (eCall f_is_less (aCons (eVar 6) (aCons (eVar 4) aNil))))))) (sSet 6 (eVar 4)) sNil)
    (sRet (eTup (aCons (eVar 6) (aCons (eOp pEq (eVar 6) (eVar 4)) aNil)))))))))
def f_share_at : List PV → IH → Res PV := fn 4 3 b_share_at

def b_team_worst : SX :=
    sSeq (sExpr (eCall f_check_team (aCons (eVar 0) (aCons (eVar 1) aNil))))
    (sSeq (sSet 2 (eC .non))
    (sSeq (sFor (eRange1 (aCons (eOp pIdx (eFld "Plan" "held" (eOp pIdx (eVar 0) (eC (.int 0)))) (eC (.int 0))) aNil)) (gVar 3) (sFor (eIter (eCall f_lows_of (aCons (eVar 0) (aCons (eVar 3) aNil)))) (gVar 4) (sSeq (sAsgT (gTupF [5, 6]) (eCall f_share_at (aCons (eVar 0) (aCons (eVar 1) (aCons (eVar 3) (aCons (eVar 4) aNil))))))
    (sIf (tAndX (tBl (eOp pNotN (eVar 5) (eC .non))) (tOrX (tBl (eOp pIsN (eVar 2) (eC .non))) (tTru (eCall f_is_less (aCons (eOp pIdx (eVar 2) (eC (.int 0))) (aCons (eVar 5) aNil)))))) (sSet 2 (eTup (aCons (eVar 5) (aCons (eVar 3) (aCons (eVar 4) (aCons (eVar 6) aNil)))))) sNil))))
    (sRet (eVar 2))))
def f_team_worst : List PV → IH → Res PV := fn 2 5 b_team_worst

def b__law_mix : SX :=
    sSeq (sSet 2 (eVar 1))
    (sSeq (sFor (eIter (eVar 0)) (gVar 3) (sSet 2 (eOp pMod (eB pInt1 (aCons (eOp pAdd (eOp pAdd (eOp pMul (eVar 2) (eC (.int 48271))) (eOp pMod (eB pInt1 (aCons (eVar 3) aNil)) (eC (.int 2147483629)))) (eC (.int 1))) aNil)) (eC (.int 2147483647)))))
    (sRet (eLst (aCons (eVar 2) (aCons (eB pList1 (aCons (eVar 0) aNil)) (aCons (eC (.int 0)) aNil))))))
def f__law_mix : List PV → IH → Res PV := fn 2 2 b__law_mix

def b__law_next : SX :=
    sSeq (sSet 2 (eOp pIdx (eOp pAdd (eOp pIdx (eVar 0) (eC (.int 1))) (eLst (aCons (eC (.int 0)) aNil))) (eOp pMod (eB pInt1 (aCons (eOp pIdx (eVar 0) (eC (.int 2))) aNil)) (eB pMax2 (aCons (eC (.int 1)) (aCons (eB pLen (aCons (eOp pIdx (eVar 0) (eC (.int 1))) aNil)) aNil))))))
    (sSeq (sIf (tBl (eOp pGe (eVar 2) (eOp pPow (eC (.int 10)) (eC (.int 18))))) (sSeq (sSet 3 (eOp pIdx (eVar 0) (eC (.int 1))))
    (sSeq (sSetIx (eVar 3) (eOp pMod (eB pInt1 (aCons (eOp pIdx (eVar 0) (eC (.int 2))) aNil)) (eB pLen (aCons (eVar 3) aNil))) (eOp pDiv (eVar 2) (eVar 1)))
    (sRet (eOp pMod (eB pInt1 (aCons (eVar 2) aNil)) (eVar 1))))) sNil)
    (sSeq (sSetIx (eVar 0) (eC (.int 0)) (eOp pMod (eB pInt1 (aCons (eOp pAdd (eOp pAdd (eOp pMul (eOp pIdx (eVar 0) (eC (.int 0))) (eC (.int 48271))) (eOp pMul (eVar 2) (eC (.int 69621)))) (eC (.int 11))) aNil)) (eC (.int 2147483647))))
    (sSeq (sSetIx (eVar 0) (eC (.int 2)) (eOp pAdd (eOp pIdx (eVar 0) (eC (.int 2))) (eC (.int 1))))
    (sRet (eOp pMod (eB pInt1 (aCons (eOp pDiv (eOp pIdx (eVar 0) (eC (.int 0))) (eC (.int 7))) aNil)) (eVar 1))))))
def f__law_next : List PV → IH → Res PV := fn 2 2 b__law_next

def b__law_part : SX :=
    sSeq (sPar 0 1 (aCons (eB pAbs (aCons (eVar 0) aNil)) (aCons (eB pAbs (aCons (eVar 1) aNil)) aNil)))
    (sSeq (sWhile (tBl (eOp pNe (eVar 1) (eC (.int 0)))) (sPar 0 1 (aCons (eVar 1) (aCons (eOp pSub (eVar 0) (eOp pMul (eOp pDiv (eVar 0) (eVar 1)) (eVar 1))) aNil))))
    (sRet (eVar 0)))
def f__law_part : List PV → IH → Res PV := fn 2 0 b__law_part

def b__law_f : SX :=
    sSeq (sSet 2 (eCall f__law_part (aCons (eVar 0) (aCons (eVar 1) aNil))))
    (sRet (eTup (aCons (eOp pDiv (eVar 0) (eVar 2)) (aCons (eOp pDiv (eVar 1) (eVar 2)) aNil))))
def f__law_f : List PV → IH → Res PV := fn 2 1 b__law_f

def b__law_add : SX :=
    sRet (eCall f__law_f (aCons (eOp pAdd (eOp pMul (eOp pIdx (eVar 0) (eC (.int 0))) (eOp pIdx (eVar 1) (eC (.int 1)))) (eOp pMul (eOp pIdx (eVar 1) (eC (.int 0))) (eOp pIdx (eVar 0) (eC (.int 1))))) (aCons (eOp pMul (eOp pIdx (eVar 0) (eC (.int 1))) (eOp pIdx (eVar 1) (eC (.int 1)))) aNil)))
def f__law_add : List PV → IH → Res PV := fn 2 0 b__law_add

def b__law_mul : SX :=
    sRet (eCall f__law_f (aCons (eOp pMul (eOp pIdx (eVar 0) (eC (.int 0))) (eOp pIdx (eVar 1) (eC (.int 0)))) (aCons (eOp pMul (eOp pIdx (eVar 0) (eC (.int 1))) (eOp pIdx (eVar 1) (eC (.int 1)))) aNil)))
def f__law_mul : List PV → IH → Res PV := fn 2 0 b__law_mul

def b__law_div : SX :=
    sRet (eCall f__law_f (aCons (eOp pMul (eOp pIdx (eVar 0) (eC (.int 0))) (eOp pIdx (eVar 1) (eC (.int 1)))) (aCons (eOp pMul (eOp pIdx (eVar 0) (eC (.int 1))) (eOp pIdx (eVar 1) (eC (.int 0)))) aNil)))
def f__law_div : List PV → IH → Res PV := fn 2 0 b__law_div

def b__law_under : SX :=
    sRet (eOp pLt (eOp pMul (eOp pIdx (eVar 0) (eC (.int 0))) (eOp pIdx (eVar 1) (eC (.int 1)))) (eOp pMul (eOp pIdx (eVar 1) (eC (.int 0))) (eOp pIdx (eVar 0) (eC (.int 1)))))
def f__law_under : List PV → IH → Res PV := fn 2 0 b__law_under

def b__law_reach : SX :=
    sSeq (sSet 2 (eCall f__law_next (aCons (eVar 0) (aCons (eC (.int 4)) aNil))))
    (sSeq (sIf (tBl (eOp pEq (eVar 2) (eC (.int 0)))) (sRet (eCall f__law_f (aCons (eOp pAdd (eC (.int 1)) (eCall f__law_next (aCons (eVar 0) (aCons (eC (.int 40)) aNil)))) (aCons (eOp pAdd (eC (.int 1)) (eCall f__law_next (aCons (eVar 0) (aCons (eC (.int 12)) aNil)))) aNil)))) sNil)
    (sSeq (sIf (tBl (eOp pEq (eVar 2) (eC (.int 1)))) (sRet (eCall f__law_f (aCons (eOp pAdd (eC (.int 1)) (eCall f__law_next (aCons (eVar 0) (aCons (eC (.int 9)) aNil)))) (aCons (eC (.int 1)) aNil)))) sNil)
    (sRet (eCall f__law_f (aCons (eOp pAdd (eVar 1) (eCall f__law_next (aCons (eVar 0) (aCons (eOp pAdd (eVar 1) (eC (.int 2))) aNil)))) (aCons (eOp pAdd (eC (.int 1)) (eCall f__law_next (aCons (eVar 0) (aCons (eC (.int 2)) aNil)))) aNil))))))
def f__law_reach : List PV → IH → Res PV := fn 2 1 b__law_reach

def b__law_turns : SX :=
    sSeq (sPar 3 4 (aCons (eLst aNil) (aCons (eOp pAdd (eC (.int 1)) (eCall f__law_next (aCons (eVar 0) (aCons (eC (.int 2)) aNil)))) aNil)))
    (sSeq (sFor (eRange1 (aCons (eCall f__law_next (aCons (eVar 0) (aCons (eOp pAdd (eVar 2) (eC (.int 1))) aNil))) aNil)) (gVar 5) (sSeq (sSet 6 (eIf (tBl (eOp pGt (eCall f__law_next (aCons (eVar 0) (aCons (eC (.int 4)) aNil))) (eC (.int 0)))) (eOp pSub (eVar 5) (eOp pMul (eOp pDiv (eVar 5) (eVar 1)) (eVar 1))) (eCall f__law_next (aCons (eVar 0) (aCons (eVar 1) aNil)))))
    (sSeq (sExpr (eAppend (eVar 3) (aCons (eTup (aCons (eVar 6) (aCons (eCall f__law_reach (aCons (eVar 0) (aCons (eVar 4) aNil))) aNil))) aNil)))
    (sSet 4 (eB pMin2 (aCons (eOp pPow (eC (.int 10)) (eC (.int 9))) (aCons (eOp pAdd (eVar 4) (eCall f__law_next (aCons (eVar 0) (aCons (eOp pAdd (eVar 4) (eC (.int 1))) aNil)))) aNil)))))))
    (sRet (eB pTuple1 (aCons (eVar 3) aNil))))
def f__law_turns : List PV → IH → Res PV := fn 3 4 b__law_turns

def b__law_plan : SX :=
    sSeq (sSet 2 (eOp pAdd (eC (.int 1)) (eCall f__law_next (aCons (eVar 0) (aCons (eC (.int 5)) aNil)))))
    (sSeq (sSet 3 (eIf (tBl (eOp pEq (eCall f__law_next (aCons (eVar 0) (aCons (eC (.int 2)) aNil))) (eC (.int 0)))) (eTup (aCons (eC (.int 0)) (aCons (eC (.int 1)) aNil))) (eCall f__law_f (aCons (eCall f__law_next (aCons (eVar 0) (aCons (eC (.int 9)) aNil))) (aCons (eOp pAdd (eC (.int 1)) (eCall f__law_next (aCons (eVar 0) (aCons (eC (.int 4)) aNil)))) aNil)))))
    (sRet (eLst (aCons (eVar 2) (aCons (eCall f__law_turns (aCons (eVar 0) (aCons (eVar 2) (aCons (eVar 1) aNil)))) (aCons (eVar 3) aNil))))))
def f__law_plan : List PV → IH → Res PV := fn 2 2 b__law_plan

def b__law_walked : SX :=
    sSeq (sSet 3 (eTup (aCons (eC (.int 0)) (aCons (eC (.int 1)) aNil))))
    (sSeq (sFor (eIter (eOp pIdx (eVar 0) (eC (.int 1)))) (gTupF [4, 5]) (sSeq (sIf (tAndX (tBl (eOp pEq (eVar 4) (eVar 1))) (tNotX (tTru (eCall f__law_under (aCons (eVar 5) (aCons (eVar 2) aNil)))))) (sRet (eCall f__law_add (aCons (eVar 3) (aCons (eVar 2) aNil)))) sNil)
    (sSet 3 (eCall f__law_add (aCons (eVar 3) (aCons (eCall f__law_add (aCons (eCall f__law_mul (aCons (eTup (aCons (eC (.int 2)) (aCons (eC (.int 1)) aNil))) (aCons (eVar 5) aNil))) (aCons (eOp pIdx (eVar 0) (eC (.int 2))) aNil))) aNil))))))
    (sRet (eC .non)))
def f__law_walked : List PV → IH → Res PV := fn 3 3 b__law_walked

def b__law_time : SX :=
    sSeq (sSet 4 (eLc (eIter (eVar 0)) (gVar 9) tYesX (eCall f__law_walked (aCons (eVar 9) (aCons (eVar 2) (aCons (eVar 3) aNil)))) [9]))
    (sSeq (sSet 5 (eLc (eIter (eVar 4)) (gVar 8) (tBl (eOp pNotN (eVar 8) (eC .non))) (eVar 8) [8]))
    (sSeq (sFor (eRange1 (aCons (eVar 1) aNil)) (gVar 6) (sIf (tBl (eOp pNe (eVar 5) (eLst aNil))) (sSeq (sSet 7 (eOp pIdx (eVar 5) (eC (.int 0))))
    (sSeq (sFor (eIter (eVar 5)) (gVar 8) (sSet 7 (eIf (tTru (eCall f__law_under (aCons (eVar 8) (aCons (eVar 7) aNil)))) (eVar 8) (eVar 7))))
    (sExpr (eRemove (eVar 5) (aCons (eVar 7) aNil))))) sNil))
    (sSeq (sIf (tBl (eOp pEq (eVar 5) (eLst aNil))) (sRet (eC .non)) sNil)
    (sSeq (sSet 7 (eOp pIdx (eVar 5) (eC (.int 0))))
    (sSeq (sFor (eIter (eVar 5)) (gVar 8) (sSet 7 (eIf (tTru (eCall f__law_under (aCons (eVar 8) (aCons (eVar 7) aNil)))) (eVar 8) (eVar 7))))
    (sRet (eVar 7)))))))
def f__law_time : List PV → IH → Res PV := fn 4 6 b__law_time

def b__law_ends : SX :=
    sSeq (sSet 2 (eLst (aCons (eTup (aCons (eC (.int 1)) (aCons (eC (.int 1)) aNil))) aNil)))
    (sSeq (sFor (eIter (eVar 0)) (gVar 3) (sFor (eIter (eOp pIdx (eVar 3) (eC (.int 1)))) (gTupF [4, 5]) (sIf (tAndX (tBl (eOp pEq (eVar 4) (eVar 1))) (tAndX (tNotX (tTru (eCall f__law_under (aCons (eVar 5) (aCons (eTup (aCons (eC (.int 1)) (aCons (eC (.int 1)) aNil))) aNil))))) (tBl (eOp pNotIn (eVar 5) (eVar 2))))) (sSeq (sSet 6 (eB pLen (aCons (eLc (eIter (eVar 2)) (gVar 7) (tTru (eCall f__law_under (aCons (eVar 7) (aCons (eVar 5) aNil)))) (eVar 7) [7]) aNil)))
    (sSet 2 (eOp pAdd (eOp pAdd (eSl (eVar 2) oNone (oSome (eVar 6))) (eLst (aCons (eVar 5) aNil))) (eSl (eVar 2) (oSome (eVar 6)) oNone)))) sNil)))
    (sRet (eVar 2)))
def f__law_ends : List PV → IH → Res PV := fn 2 6 b__law_ends

def b_law : SX :=
    sSeq (sSet 1 (eCall f__law_mix (aCons (eVar 0) (aCons (eC (.int 5)) aNil))))
    (sSeq (sPar 2 3 (aCons (eOp pAdd (eC (.int 1)) (eCall f__law_next (aCons (eVar 1) (aCons (eOp pIdx (eLst (aCons (eC (.int 3)) (aCons (eC (.int 5)) aNil))) (eCall f__law_next (aCons (eVar 1) (aCons (eC (.int 2)) aNil)))) aNil)))) (aCons (eLst aNil) aNil)))
    (sSeq (sSet 4 (eOp pIdx (eLst (aCons (eC (.int 7)) (aCons (eC (.int 7)) (aCons (eC (.int 7)) (aCons (eC (.int 60)) aNil))))) (eCall f__law_next (aCons (eVar 1) (aCons (eC (.int 4)) aNil)))))
    (sSeq (sFor (eRange1 (aCons (eOp pAdd (eC (.int 1)) (eCall f__law_next (aCons (eVar 1) (aCons (eC (.int 4)) aNil)))) aNil)) (gVar 5) (sSeq (sSet 6 (eIf (tBl (eOp pEq (eCall f__law_next (aCons (eVar 1) (aCons (eC (.int 2)) aNil))) (eC (.int 0)))) (eTup (aCons (eC (.int 0)) (aCons (eC (.int 1)) aNil))) (eCall f__law_f (aCons (eCall f__law_next (aCons (eVar 1) (aCons (eC (.int 9)) aNil))) (aCons (eOp pAdd (eC (.int 1)) (eCall f__law_next (aCons (eVar 1) (aCons (eC (.int 4)) aNil)))) aNil)))))
    (sExpr (eAppend (eVar 3) (aCons (eLst (aCons (eVar 2) (aCons (eCall f__law_turns (aCons (eVar 1) (aCons (eVar 2) (aCons (eVar 4) aNil)))) (aCons (eVar 6) aNil)))) aNil)))))
    (sSeq (sPar 7 8 (aCons (eB pTuple1 (aCons (eLc (eIter (eVar 3)) (gVar 19) tYesX (eCall (mkO "Plan" f_Plan___init__) (aCons (eOp pIdx (eVar 19) (eC (.int 0))) (aCons (eOp pIdx (eVar 19) (eC (.int 1))) (aCons (eOp pIdx (eVar 19) (eC (.int 2))) aNil)))) [19]) aNil)) (aCons (eCall f__law_next (aCons (eVar 1) (aCons (eB pLen (aCons (eVar 3) aNil)) aNil))) aNil)))
    (sSeq (sSet 9 (eTup (aCons (eC (.int 1)) (aCons (eOp pPow (eC (.int 10)) (eC (.int 15))) aNil))))
    (sSeq (sSet 10 (eC .non))
    (sSeq (sFor (eRange1 (aCons (eVar 2) aNil)) (gVar 11) (sFor (eIter (eCall f__law_ends (aCons (eVar 3) (aCons (eVar 11) aNil)))) (gVar 12) (sSeq (sSet 13 (eCall f__law_time (aCons (eVar 3) (aCons (eVar 8) (aCons (eVar 11) (aCons (eVar 12) aNil))))))
    (sSeq (sIf (tBl (eOp pNe (eCall f_team_walked (aCons (eVar 7) (aCons (eVar 8) (aCons (eVar 11) (aCons (eVar 12) aNil))))) (eVar 13))) (sRet (eC (.bl false))) sNil)
    (sSeq (sSet 14 (eCall f__law_time (aCons (eVar 3) (aCons (eVar 8) (aCons (eVar 11) (aCons (eCall f__law_add (aCons (eVar 12) (aCons (eVar 9) aNil))) aNil))))))
    (sSeq (sSet 15 (eIf (tBl (eOp pIsN (eVar 14) (eC .non))) (eC .non) (eCall f__law_div (aCons (eCall f__law_add (aCons (eVar 14) (aCons (eTup (aCons (eUn pNeg (eOp pIdx (eVar 9) (eC (.int 0)))) (aCons (eOp pIdx (eVar 9) (eC (.int 1))) aNil))) aNil))) (aCons (eVar 12) aNil)))))
    (sSeq (sSet 16 (eIf (tBl (eOp pIsN (eVar 13) (eC .non))) (eC .non) (eCall f__law_div (aCons (eVar 13) (aCons (eVar 12) aNil)))))
    (sSeq (sIf (tAndX (tBl (eOp pNotN (eVar 16) (eC .non))) (tOrX (tBl (eOp pIsN (eVar 15) (eC .non))) (tTru (eCall f__law_under (aCons (eVar 15) (aCons (eVar 16) aNil)))))) (sSet 15 (eVar 16)) sNil)
    (sIf (tAndX (tBl (eOp pNotN (eVar 15) (eC .non))) (tOrX (tBl (eOp pIsN (eVar 10) (eC .non))) (tTru (eCall f__law_under (aCons (eOp pIdx (eVar 10) (eC (.int 0))) (aCons (eVar 15) aNil)))))) (sSet 10 (eTup (aCons (eVar 15) (aCons (eVar 11) (aCons (eVar 12) (aCons (eOp pEq (eVar 15) (eVar 16)) aNil)))))) sNil)))))))))
    (sSeq (sSet 17 (eCall f_team_worst (aCons (eVar 7) (aCons (eVar 8) aNil))))
    (sSeq (sIf (tOrX (tBl (eOp pIsN (eVar 17) (eC .non))) (tBl (eOp pIsN (eVar 10) (eC .non)))) (sRet (eAnd (eOp pIsN (eVar 17) (eC .non)) (eOp pIsN (eVar 10) (eC .non)))) sNil)
    (sSeq (sSet 13 (eCall f__law_time (aCons (eVar 3) (aCons (eVar 8) (aCons (eOp pIdx (eVar 17) (eC (.int 1))) (aCons (eOp pIdx (eVar 17) (eC (.int 2))) aNil))))))
    (sSeq (sIf (tOrX (tBl (eOp pNe (eOp pIdx (eVar 17) (eC (.int 0))) (eOp pIdx (eVar 10) (eC (.int 0))))) (tBl (eOp pNe (eOp pIdx (eVar 17) (eC (.int 3))) (eOp pEq (eVar 13) (eCall f__law_mul (aCons (eOp pIdx (eVar 17) (eC (.int 0))) (aCons (eOp pIdx (eVar 17) (eC (.int 2))) aNil))))))) (sRet (eC (.bl false))) sNil)
    (sSeq (sSet 18 (eCall f__law_f (aCons (eOp pAdd (eC (.int 9)) (eCall f__law_next (aCons (eVar 1) (aCons (eC (.int 200)) aNil)))) (aCons (eC (.int 9)) aNil))))
    (sSeq (sSet 13 (eCall f__law_time (aCons (eVar 3) (aCons (eVar 8) (aCons (eOp pIdx (eVar 10) (eC (.int 1))) (aCons (eVar 18) aNil))))))
    (sSeq (sIf (tAndX (tBl (eOp pNotN (eVar 13) (eC .non))) (tTru (eCall f__law_under (aCons (eOp pIdx (eVar 17) (eC (.int 0))) (aCons (eCall f__law_div (aCons (eVar 13) (aCons (eVar 18) aNil))) aNil))))) (sRet (eC (.bl false))) sNil)
    (sRet (eOp pEq (eSl (eVar 17) (oSome (eC (.int 1))) (oSome (eC (.int 3)))) (eSl (eVar 10) (oSome (eC (.int 1))) (oSome (eC (.int 3))))))))))))))))))))
def f_law : List PV → IH → Res PV := fn 1 19 b_law

end WR

namespace WR
open PySem PySem.Spec PyProof.Rows L2
/-! ### data -/
@[simp] theorem data_int (n : Nat) (h : IH) (i : Int) : dataOf n h (.int i) = some (.int i) := by cases n <;> rfl
@[simp] theorem data_bl (n : Nat) (h : IH) (b : Bool) : dataOf n h (.bl b) = some (.bool b) := by cases n <;> rfl
@[simp] theorem data_non (n : Nat) (h : IH) : dataOf n h .non = some .none := by cases n <;> rfl
@[simp] theorem data_str (n : Nat) (h : IH) (x : Str) : dataOf n h (.str x) = some (.str x) := by cases n <;> rfl
theorem shaped_int (i : Int) : SeqAt.shaped (.int i) = true := by
  simp [SeqAt.shaped, PyData.canLay0, PyData.depth]
@[simp] theorem eqB_int (i j : Int) (h : IH) : pEqB (.int i) (.int j) h = some (i == j) := by
  simp [pEqB, shaped_int, PyData.eqv]
/-! ### fractions -/
def fq (q : Rat) : PV := .tup [.int q.num, .int q.den]
/-- of at most N bits -/
def Sm (N : Nat) (q : Rat) : Prop := q.num.natAbs < 2 ^ N ∧ q.den < 2 ^ N
theorem Sm.mono {M N : Nat} {q : Rat} (h : Sm M q) (l : M ≤ N) : Sm N q := ⟨Nat.lt_of_lt_of_le h.1 (Nat.pow_le_pow_right (by decide) l), Nat.lt_of_lt_of_le h.2 (Nat.pow_le_pow_right (by decide) l)⟩
theorem log_of {n N : Nat} (h : n < 2 ^ N) (hN : 0 < N) : n.log2 < N := by
  by_cases h0 : n = 0
  · subst h0; simpa using hN
  · exact (Nat.log2_lt h0).mpr h
theorem mul_ok {i j : Int} {A B : Nat} (hi : i.natAbs < 2 ^ A) (hj : j.natAbs < 2 ^ B) (h : A + B ≤ 999990) : mulOk i j = true := by
  unfold mulOk
  have h1 : i.natAbs.log2 < A + 1 := log_of (Nat.lt_of_lt_of_le hi (Nat.pow_le_pow_right (by decide) (by omega))) (by omega)
  have h2 : j.natAbs.log2 < B + 1 := log_of (Nat.lt_of_lt_of_le hj (Nat.pow_le_pow_right (by decide) (by omega))) (by omega)
  have h3 : i.natAbs.log2 + j.natAbs.log2 < 1000000 := by omega
  rw [Bool.or_eq_true]
  exact .inr (decide_eq_true h3)
/-! ### Euclid -/
theorem euc_loop {c : TX} {B : SX} {P : Int → Int → Prop} (r : Fm) (h : IH) (hc0 : ∀ a, c (some (.int a) :: some (.int 0) :: r) h = .ok false h)
    (hc : ∀ a b, 0 < b → c (some (.int a) :: some (.int b) :: r) h = .ok true h)
    (hB : ∀ a b, 0 ≤ a → 0 < b → P a b → B (some (.int a) :: some (.int b) :: r) h = .nx (some (.int b) :: some (.int (a % b)) :: r) h ∧ P b (a % b)) :
    ∀ (n : Nat) (a b : Int), 0 ≤ a → 0 ≤ b → b < 2 ^ n → P a b → ∀ k, 2 * n + 1 ≤ k →
    ∃ z, whileL c B k (some (.int a) :: some (.int b) :: r) h = .nx (some (.int (Int.gcd a b)) :: some (.int z) :: r) h := by
  intro n
  induction n with
  | zero =>
    intro a b ha hb hl hp k hk
    have b0 : b = 0 := by omega
    subst b0
    obtain ⟨k, rfl⟩ : ∃ m, k = m + 1 := ⟨k - 1, by omega⟩
    refine ⟨0, ?_⟩
    simp [whileL, hc0, Int.natAbs_of_nonneg ha]
  | succ n ih =>
    intro a b ha hb hl hp k hk
    obtain ⟨k, rfl⟩ : ∃ m, k = m + 2 := ⟨k - 2, by omega⟩
    by_cases b0 : b = 0
    · subst b0
      refine ⟨0, ?_⟩
      simp [whileL, hc0, Int.natAbs_of_nonneg ha]
    · have bp : 0 < b := by omega
      obtain ⟨s1, p1⟩ := hB a b ha bp hp
      have e1 : whileL c B (k + 2) (some (.int a) :: some (.int b) :: r) h = whileL c B (k + 1) (some (.int b) :: some (.int (a % b)) :: r) h := by
        rw [show k + 2 = (k + 1) + 1 from rfl]
        conv => lhs; unfold whileL
        simp [hc a b bp, s1]
      have m0 := Int.emod_nonneg a b0
      have m1 := Int.emod_lt_of_pos a bp
      by_cases r0 : a % b = 0
      · refine ⟨0, ?_⟩
        rw [e1, r0]
        have g : (Int.gcd a b : Int) = b := Int.gcd_eq_right hb (Int.dvd_of_emod_eq_zero r0)
        rw [g]
        simp [whileL, hc0]
      · have rp : 0 < a % b := by omega
        obtain ⟨s2, p2⟩ := hB b (a % b) hb rp p1
        have e2 : whileL c B (k + 1) (some (.int b) :: some (.int (a % b)) :: r) h = whileL c B k (some (.int (a % b)) :: some (.int (b % (a % b))) :: r) h := by
          conv => lhs; unfold whileL
          simp [hc b (a % b) rp, s2]
        rw [e1, e2]
        have q0 := Int.emod_nonneg b r0
        have q1 := Int.emod_lt_of_pos b rp
        have half : 2 * (b % (a % b)) < b := by
          have d := Int.emod_add_mul_ediv b (a % b)
          have dp : 1 ≤ b / (a % b) := Int.le_ediv_of_mul_le rp (show 1 * (a % b) ≤ b by omega)
          have : (a % b) * 1 ≤ (a % b) * (b / (a % b)) := Int.mul_le_mul_of_nonneg_left dp m0
          omega
        have hl2 : b % (a % b) < 2 ^ n := by
          rw [Int.pow_succ] at hl
          omega
        obtain ⟨z, e⟩ := ih (a % b) (b % (a % b)) m0 q0 hl2 p2 k (by omega)
        refine ⟨z, ?_⟩
        rw [e]
        have g : Int.gcd (a % b) (b % (a % b)) = Int.gcd a b := by
          obtain ⟨m, rfl⟩ := Int.eq_ofNat_of_zero_le ha
          obtain ⟨n', rfl⟩ := Int.eq_ofNat_of_zero_le hb
          rw [← Int.natCast_emod, ← Int.natCast_emod, Int.gcd_natCast_natCast, Int.gcd_natCast_natCast, Nat.gcd_comm, ← Nat.gcd_rec, ← Nat.gcd_rec, Nat.gcd_comm]
        rw [g]
theorem cast_lt {b : Int} {N : Nat} (hb : b.natAbs < 2 ^ N) : (b.natAbs : Int) < 2 ^ N := by
  have := Int.ofNat_lt.mpr hb
  rwa [Int.natCast_pow] at this
theorem abs_eq (a : Int) : (if a < 0 then -a else a) = (a.natAbs : Int) := by omega
theorem gcd_abs (a b : Int) : Int.gcd (a.natAbs : Int) (b.natAbs : Int) = Int.gcd a b := by simp [Int.gcd]
theorem common_eq (a b : Int) (h : IH) (hb : b.natAbs < 2 ^ 9000) : f_common [.int a, .int b] h = .ok (.int (Int.gcd a b)) h := by
  obtain ⟨z, e⟩ := euc_loop (c := tTru (eVar 1)) (B := sPar 0 1 (aCons (eVar 1) (aCons (eOp pMod (eVar 0) (eVar 1)) aNil))) (P := fun _ _ => True) [] h (by intro a; simp) (by intro a b hb; simp; omega)
    (by intro a b ha hb _; simp [hb]) 9000 (a.natAbs : Int) (b.natAbs : Int) (by omega) (by omega) (cast_lt hb) trivial LIM (by decide)
  rw [gcd_abs] at e
  simp [f_common, b_common, sWhile, abs_eq, e]
/-! ### reduced fractions -/
theorem div_ok {n : Int} {d : Nat} (hd : 0 < d) (hs : d < 2 ^ 9000) : (0 : Int) < (Int.gcd n d : Int) ∧ ((Int.gcd n d : Int)).natAbs.log2 < 9000 := by
  have g0 : 0 < Int.gcd n d := Int.gcd_pos_of_ne_zero_right n (by omega)
  have g1 : Int.gcd n d ≤ d := Nat.gcd_le_right n.natAbs hd
  refine ⟨Int.natCast_pos.mpr g0, ?_⟩
  rw [Int.natAbs_natCast]
  exact log_of (Nat.lt_of_le_of_lt g1 hs) (by decide)
theorem fq_mk (n : Int) (d : Nat) (hd : 0 < d) : fq (mkRat n d) = .tup [.int (n / (Int.gcd n d : Int)), .int ((d : Int) / (Int.gcd n d : Int))] := by
  have e : Int.gcd n d = d.gcd n.natAbs := by rw [Int.gcd_comm]; rfl
  unfold fq
  rw [Rat.num_mkRat, Rat.den_mkRat, if_neg (by omega), if_neg (by omega), e]
  rw [Int.natCast_ediv]
theorem ratio_eq (n : Int) (d : Nat) (h : IH) (hd : 0 < d) (hs : d < 2 ^ 9000) : f_ratio [.int n, .int d] h = .ok (fq (mkRat n d)) h := by
  obtain ⟨q0, q1⟩ := div_ok (n := n) hd hs
  have c := common_eq n d h (by rw [Int.natAbs_natCast]; exact hs)
  rw [fq_mk n d hd]
  generalize ((Int.gcd n d : Nat) : Int) = g at c q0 q1 ⊢
  simp [f_ratio, b_ratio, c, q0, q1]
theorem add_mk (a b : Rat) : a + b = mkRat (a.num * b.den + b.num * a.den) (a.den * b.den) := by
  rw [Rat.add_def, Rat.mkRat_def, dif_neg (Nat.mul_ne_zero a.den_nz b.den_nz)]
theorem mul_mk (a b : Rat) : a * b = mkRat (a.num * b.num) (a.den * b.den) := by
  rw [Rat.mul_def, Rat.mkRat_def, dif_neg (Nat.mul_ne_zero a.den_nz b.den_nz)]
theorem den_lt {a b : Rat} {A B : Nat} (ha : Sm A a) (hb : Sm B b) : a.den * b.den < 2 ^ (A + B) := by
  rw [Nat.pow_add]; exact Nat.mul_lt_mul'' ha.2 hb.2
theorem den_pos (a : Rat) : 0 < a.den := Nat.pos_of_ne_zero a.den_nz
theorem Sm.dn {A : Nat} {a : Rat} (h : Sm A a) : (a.den : Int).natAbs < 2 ^ A := by rw [Int.natAbs_natCast]; exact h.2
theorem plus_eq {A B : Nat} {a b : Rat} (ha : Sm A a) (hb : Sm B b) (hn : A + B ≤ 9000) (h : IH) : f_plus [fq a, fq b] h = .ok (fq (a + b)) h := by
  have r := ratio_eq (a.num * b.den + b.num * a.den) (a.den * b.den) h (Nat.mul_pos (den_pos a) (den_pos b)) (Nat.lt_of_lt_of_le (den_lt ha hb) (Nat.pow_le_pow_right (by decide) hn))
  rw [Int.natCast_mul] at r
  simp [f_plus, b_plus, fq, atI, ixN, mul_ok ha.1 hb.dn (by omega), mul_ok hb.1 ha.dn (by omega), mul_ok ha.dn hb.dn (by omega), r, add_mk]
theorem times_eq {A B : Nat} {a b : Rat} (ha : Sm A a) (hb : Sm B b) (hn : A + B ≤ 9000) (h : IH) : f_times [fq a, fq b] h = .ok (fq (a * b)) h := by
  have r := ratio_eq (a.num * b.num) (a.den * b.den) h (Nat.mul_pos (den_pos a) (den_pos b)) (Nat.lt_of_lt_of_le (den_lt ha hb) (Nat.pow_le_pow_right (by decide) hn))
  rw [Int.natCast_mul] at r
  simp [f_times, b_times, fq, atI, ixN, mul_ok ha.1 hb.1 (by omega), mul_ok ha.dn hb.dn (by omega), r, mul_mk]
theorem less_eq {A B : Nat} {a b : Rat} (ha : Sm A a) (hb : Sm B b) (hn : A + B ≤ 9000) (h : IH) : f_is_less [fq a, fq b] h = .ok (.bl (decide (a < b))) h := by
  simp [f_is_less, b_is_less, fq, atI, ixN, mul_ok ha.1 hb.dn (by omega), mul_ok hb.1 ha.dn (by omega), Rat.lt_iff]
theorem num_pos {b : Rat} (hb : 0 < b) : 0 < b.num := by
  have := (Rat.lt_iff 0 b).mp hb
  simpa using this
theorem div_mk (a b : Rat) (hb : 0 < b) : a / b = mkRat (a.num * b.den) (a.den * b.num.natAbs) := by
  have p := num_pos hb
  rw [Rat.div_def, mul_mk, Rat.num_inv, Rat.den_inv, if_neg (by omega), Int.sign_eq_one_of_pos p, Int.one_mul]
theorem over_eq {A B : Nat} {a b : Rat} (ha : Sm A a) (hb : Sm B b) (hp : 0 < b) (hn : A + B ≤ 9000) (h : IH) : f_over [fq a, fq b] h = .ok (fq (a / b)) h := by
  have p := num_pos hp
  have dl : a.den * b.num.natAbs < 2 ^ (A + B) := by rw [Nat.pow_add]; exact Nat.mul_lt_mul'' ha.2 hb.1
  have r := ratio_eq (a.num * b.den) (a.den * b.num.natAbs) h (Nat.mul_pos (den_pos a) (by omega)) (Nat.lt_of_lt_of_le dl (Nat.pow_le_pow_right (by decide) hn))
  rw [Int.natCast_mul, Int.natAbs_of_nonneg (Int.le_of_lt p)] at r
  simp [f_over, b_over, fq, atI, ixN, mul_ok ha.1 hb.dn (by omega), mul_ok ha.dn hb.1 (by omega), r, div_mk a b hp]
/-! sizes of results -/
theorem mk_small {n : Int} {d N : Nat} (hn : n.natAbs < 2 ^ N) (hd : d < 2 ^ N) (h0 : 0 < d) : Sm N (mkRat n d) := by
  have e1 : (mkRat n d).num.natAbs ≤ n.natAbs := by
    rw [Rat.num_mkRat, if_neg (by omega)]
    exact Int.natAbs_ediv_le_natAbs _ _
  have e2 : (mkRat n d).den ≤ d := by
    rw [Rat.den_mkRat, if_neg (by omega)]
    exact Nat.div_le_self _ _
  exact ⟨Nat.lt_of_le_of_lt e1 hn, Nat.lt_of_le_of_lt e2 hd⟩
theorem Sm.add {A B : Nat} {a b : Rat} (ha : Sm A a) (hb : Sm B b) : Sm (A + B + 1) (a + b) := by
  rw [add_mk]
  refine mk_small ?_ (Nat.lt_of_lt_of_le (den_lt ha hb) (Nat.pow_le_pow_right (by decide) (by omega))) (Nat.mul_pos (den_pos a) (den_pos b))
  have x : (a.num * b.den).natAbs < 2 ^ (A + B) := by rw [Int.natAbs_mul, Nat.pow_add]; exact Nat.mul_lt_mul'' ha.1 hb.dn
  have y : (b.num * a.den).natAbs < 2 ^ (A + B) := by rw [Int.natAbs_mul, Nat.pow_add, Nat.mul_comm]; exact Nat.mul_lt_mul'' ha.dn hb.1
  have z := Int.natAbs_add_le (a.num * b.den) (b.num * a.den)
  rw [Nat.pow_succ]
  generalize 2 ^ (A + B) = M at x y ⊢
  omega
theorem Sm.mul {A B : Nat} {a b : Rat} (ha : Sm A a) (hb : Sm B b) : Sm (A + B) (a * b) := by
  rw [mul_mk]
  refine mk_small ?_ (den_lt ha hb) (Nat.mul_pos (den_pos a) (den_pos b))
  rw [Int.natAbs_mul, Nat.pow_add]; exact Nat.mul_lt_mul'' ha.1 hb.1
theorem Sm.div {A B : Nat} {a b : Rat} (ha : Sm A a) (hb : Sm B b) (hp : 0 < b) : Sm (A + B) (a / b) := by
  have p := num_pos hp
  rw [div_mk a b hp]
  refine mk_small ?_ (by rw [Nat.pow_add]; exact Nat.mul_lt_mul'' ha.2 hb.1) (Nat.mul_pos (den_pos a) (by omega))
  rw [Int.natAbs_mul, Nat.pow_add]; exact Nat.mul_lt_mul'' ha.1 hb.dn
/-! ### the law's own fractions -/
theorem part_eq (a b : Int) (h : IH) (ha : a.natAbs < 2 ^ 30000) (hb : b.natAbs < 2 ^ 9000) : f__law_part [.int a, .int b] h = .ok (.int (Int.gcd a b)) h := by
  obtain ⟨z, e⟩ := euc_loop (c := tBl (eOp pNe (eVar 1) (eC (.int 0)))) (B := sPar 0 1 (aCons (eVar 1) (aCons (eOp pSub (eVar 0) (eOp pMul (eOp pDiv (eVar 0) (eVar 1)) (eVar 1))) aNil)))
    (P := fun a b => a.natAbs < 2 ^ 30000 ∧ b.natAbs < 2 ^ 9000) [] h (by intro a; simp) (by intro a b hb; simp; omega)
    (by
      intro a b ha hb hp
      obtain ⟨p1, p2⟩ := hp
      have l : b.natAbs.log2 < 9000 := log_of p2 (by decide)
      have q : (a / b).natAbs < 2 ^ 30000 := Nat.lt_of_le_of_lt (Int.natAbs_ediv_le_natAbs _ _) p1
      have m := mul_ok q p2 (by decide)
      have e1 : a - a / b * b = a % b := by rw [Int.emod_def, Int.mul_comm]
      refine ⟨by simp [hb, l, m, e1], Nat.lt_of_lt_of_le p2 (Nat.pow_le_pow_right (by decide) (by decide)), ?_⟩
      have m0 := Int.emod_nonneg a (show b ≠ 0 by omega)
      have m1 := Int.emod_lt_of_pos a hb
      refine Nat.lt_trans ?_ p2
      omega) 9000 (a.natAbs : Int) (b.natAbs : Int) (by omega) (by omega) (cast_lt hb) (by simpa using ⟨ha, hb⟩) LIM (by decide)
  rw [gcd_abs] at e
  simp [f__law_part, b__law_part, sWhile, abs_eq, e]
theorem lf_eq (n : Int) (d : Nat) (h : IH) (hn : n.natAbs < 2 ^ 30000) (hd : 0 < d) (hs : d < 2 ^ 9000) : f__law_f [.int n, .int d] h = .ok (fq (mkRat n d)) h := by
  obtain ⟨q0, q1⟩ := div_ok (n := n) hd hs
  have c := part_eq n d h hn (by rw [Int.natAbs_natCast]; exact hs)
  rw [fq_mk n d hd]
  generalize ((Int.gcd n d : Nat) : Int) = g at c q0 q1 ⊢
  simp [f__law_f, b__law_f, c, q0, q1]
end WR

namespace WR
open PySem PySem.Spec PyProof.Rows L2
/-! ### the heap -/
theorem get_new {h : IH} {o : MO} : (h ++ [o])[h.length]? = some o := by simp
@[simp] theorem ga0 {h t : IH} : (h ++ t)[h.length]? = t[0]? := by rw [List.getElem?_append_right (Nat.le_refl _), Nat.sub_self]
@[simp] theorem ga1 {h t : IH} {k : Nat} : (h ++ t)[h.length + k]? = t[k]? := by rw [List.getElem?_append_right (by omega)]; congr 1; omega
theorem get_old {h : IH} {o : MO} {t : IH} {n : Nat} (e : h[n]? = some o) : (h ++ t)[n]? = some o := by
  rw [List.getElem?_append_left (List.getElem?_eq_some_iff.mp e).1]; exact e
theorem lt_of_get {h : IH} {o : MO} {n : Nat} (e : h[n]? = some o) : n < h.length := (List.getElem?_eq_some_iff.mp e).1
theorem atI_pos {α : Type} (xs : List α) (i : Int) (h0 : 0 ≤ i) (h1 : i < xs.length) : atI xs i = xs[i.toNat]? := by
  simp [atI, ixN, h0, h1]
@[simp] theorem atI_0 {α : Type} (x : α) (xs : List α) : atI (x :: xs) 0 = some x := by rw [atI_pos _ _ (by decide) (by simp)]; rfl
@[simp] theorem atI_1 {α : Type} (x y : α) (xs : List α) : atI (x :: y :: xs) 1 = some y := by rw [atI_pos _ _ (by decide) (by simp; omega)]; rfl
@[simp] theorem atI_2 {α : Type} (x y z : α) (xs : List α) : atI (x :: y :: z :: xs) 2 = some z := by rw [atI_pos _ _ (by decide) (by simp; omega)]; rfl
@[simp] theorem atI_m1 {α : Type} (x : α) (xs : List α) : atI (xs ++ [x]) (-1) = some x := by
  have : (1 : Int) ≤ (xs.length : Int) + 1 := by omega
  have t : (-1 + ((xs.length : Int) + 1)).toNat = xs.length := by omega
  simp [atI, ixN, this, t]
/-- the draw machine -/
structure DS (hi ci : Nat) (h : IH) : Prop where
  ne : hi ≠ ci
  st : ∃ a b : Int, h[hi]? = some (.lst [.int a, .obj ci, .int b])
  ce : ∃ cs : List Int, h[ci]? = some (.lst (cs.map .int)) ∧ cs.length ≤ 63
/-- all but the machine stays -/
structure Kp (hi ci : Nat) (h h' : IH) : Prop where
  le : h.length ≤ h'.length
  get : ∀ n o, n ≠ hi → n ≠ ci → h[n]? = some o → h'[n]? = some o
theorem Kp.refl (hi ci : Nat) (h : IH) : Kp hi ci h h := ⟨Nat.le_refl _, fun _ _ _ _ e => e⟩
theorem Kp.trans {hi ci : Nat} {h h1 h2 : IH} (a : Kp hi ci h h1) (b : Kp hi ci h1 h2) : Kp hi ci h h2 := ⟨Nat.le_trans a.le b.le, fun n o x y e => b.get n o x y (a.get n o x y e)⟩
theorem Kp.app (hi ci : Nat) (h t : IH) : Kp hi ci h (h ++ t) := ⟨by simp, fun _ _ _ _ e => get_old e⟩
theorem DS.app {hi ci : Nat} {h : IH} (d : DS hi ci h) (t : IH) : DS hi ci (h ++ t) := by
  obtain ⟨a, b, e⟩ := d.st
  obtain ⟨cs, f, l⟩ := d.ce
  exact ⟨d.ne, ⟨a, b, get_old e⟩, ⟨cs, get_old f, l⟩⟩
theorem next_eq {hi ci : Nat} {h : IH} (d : DS hi ci h) (b : Int) (h0 : 0 < b) (hs : b.natAbs.log2 < 9000) :
    ∃ r h', f__law_next [.obj hi, .int b] h = .ok (.int r) h' ∧ 0 ≤ r ∧ r < b ∧ DS hi ci h' ∧ Kp hi ci h h' := by
  obtain ⟨a, ix, e⟩ := d.st
  obtain ⟨cs, f, l⟩ := d.ce
  have hne := d.ne
  have lh := lt_of_get e
  have lc := lt_of_get f
  obtain ⟨M, hM, mb, m6, mn⟩ : ∃ M : Int, (if 1 < (cs.length : Int) then (cs.length : Int) else 1) = M ∧ 0 < M ∧ M ≤ 63 ∧ M ≤ cs.length + 1 := by
    refine ⟨_, rfl, ?_, ?_, ?_⟩ <;> split <;> omega
  have ml : M.natAbs.log2 < 9000 := log_of (Nat.lt_of_lt_of_le (show _ < 2 ^ 7 by omega) (Nat.pow_le_pow_right (by decide) (by decide))) (by decide)
  have i0 := Int.emod_nonneg ix (show M ≠ 0 by omega)
  have i1 := Int.emod_lt_of_pos ix mb
  obtain ⟨c, hc, h1⟩ : ∃ c : Int, atI (cs.map PV.int ++ [.int 0]) (ix % M) = some (.int c) ∧ (0 < c → 0 < cs.length) := by
    rw [atI_pos _ _ i0 (by simp; omega)]
    by_cases q : (ix % M).toNat < cs.length
    · exact ⟨cs[(ix % M).toNat], by rw [List.getElem?_append_left (by simpa using q)]; simp [q], fun _ => by omega⟩
    · have : (ix % M).toNat = cs.length := by omega
      exact ⟨0, by rw [this]; simp, by simp⟩
  have e1 : ∀ t, (h ++ t)[hi]? = some (.lst [.int a, .obj ci, .int ix]) := fun t => get_old e
  have f1 : ∀ t, (h ++ t)[ci]? = some (.lst (cs.map .int)) := fun t => get_old f
  have gb : (10 : Int) ^ 18 = 1000000000000000000 := by decide
  have l2 : cs.length ≤ 16777215 := by omega
  by_cases big : (1000000000000000000 : Int) ≤ c
  · have n0 : 0 < cs.length := h1 (by omega)
    have n0' : (0 : Int) < cs.length := by omega
    have nl : cs.length.log2 < 9000 := log_of (Nat.lt_of_lt_of_le (show _ < 2 ^ 7 by omega) (Nat.pow_le_pow_right (by decide) (by decide))) (by decide)
    have j0 := Int.emod_nonneg ix (show (cs.length : Int) ≠ 0 by omega)
    have j1 := Int.emod_lt_of_pos ix n0'
    simp [f__law_next, b__law_next, e, f, e1, f1, hc, hM, mb, ml, l2, big, hs, h0, hne, hne.symm, ixN, mulOk, gb, n0, nl, j0, j1]
    refine ⟨_, _, ⟨rfl, rfl⟩, Int.emod_nonneg _ (by omega), Int.emod_lt_of_pos _ h0, ⟨hne, ⟨a, ix, ?_⟩, ⟨cs.set (ix % cs.length).toNat (c / b), ?_, ?_⟩⟩, ⟨by simp, fun n o p q r => ?_⟩⟩
    · rw [List.getElem?_set_ne (Ne.symm hne)]; exact e1 _
    · rw [List.getElem?_set_self (by simp; omega), List.map_set]
    · simpa using l
    · rw [List.getElem?_set_ne (Ne.symm q)]; exact get_old r
  · have w1 : ∀ t o, ((h ++ t).set hi o)[hi]? = some o := fun t o => by rw [List.getElem?_set_self (by simp; omega)]
    simp [f__law_next, b__law_next, e, f, e1, f1, hc, hM, mb, ml, l2, big, hs, h0, hne, hne.symm, ixN, mulOk, gb, w1, show Nat.log2 7 < 9000 from by decide]
    refine ⟨_, _, ⟨rfl, rfl⟩, Int.emod_nonneg _ (by omega), Int.emod_lt_of_pos _ h0, ⟨hne, ⟨_, _, w1 _ _⟩, ⟨cs, ?_, l⟩⟩, ⟨by simp, fun n o p q r => ?_⟩⟩
    · rw [List.getElem?_set_ne hne]; exact f1 _
    · rw [List.getElem?_set_ne (Ne.symm p)]; exact get_old r
/-! ### the first state -/
theorem mix_loop (h : IH) (ns : List Int) (s : Int) (v : PV) : ∀ (k : Nat) (i : Nat) (a : Int) (c : Option PV), ns.length - i < k →
    ∃ a' c', forL (itList (ns.map PV.int)) (gVar 3) (sSet 2 (eOp pMod (eB pInt1 (aCons (eOp pAdd (eOp pAdd (eOp pMul (eVar 2) (eC (.int 48271))) (eOp pMod (eB pInt1 (aCons (eVar 3) aNil)) (eC (.int 2147483629)))) (eC (.int 1))) aNil)) (eC (.int 2147483647)))) k i [some v, some (.int s), some (.int a), c] h
      = .nx [some v, some (.int s), some (.int a'), c'] h := by
  intro k
  induction k with
  | zero => intro i a c hk; omega
  | succ k ih =>
    intro i a c hk
    by_cases q : i < ns.length
    · obtain ⟨a', c', e⟩ := ih (i + 1) ((a * 48271 + ns[i] % 2147483629 + 1) % 2147483647) (some (.int ns[i])) (by omega)
      refine ⟨a', c', ?_⟩
      rw [← e]
      conv => lhs; unfold forL
      simp [q, mulOk]
    · refine ⟨a, c, ?_⟩
      unfold forL
      simp [q]
theorem mix_eq (ns : List Int) (s : Int) (hl : ns.length ≤ 63) (h : IH) : ∃ h', f__law_mix [.fls (ns.map .int), .int s] h = .ok (.obj (h.length + 1)) h' ∧ DS (h.length + 1) h.length h' ∧ Kp (h.length + 1) h.length h h' := by
  obtain ⟨a', c', e⟩ := mix_loop h ns s (.fls (ns.map .int)) LIM 0 s none (by simp [LIM]; omega)
  refine ⟨h ++ [.lst (ns.map .int), .lst [.int a', .obj h.length, .int 0]], ?_, ⟨by omega, ⟨a', 0, by rw [ga1]; rfl⟩, ⟨ns, by rw [ga0]; rfl, hl⟩⟩, Kp.app _ _ _ _⟩
  simp [f__law_mix, b__law_mix, sFor, e, show ns.length ≤ 16777216 by omega]
end WR

namespace WR
open PySem PySem.Spec PyProof.Rows L2
/-! ### equality of data -/
structure EncOk {α : Type} [DecidableEq α] (n : Nat) (enc : α → PV) (den : α → PyData) : Prop where
  dat : ∀ m h a, n ≤ m → dataOf m h (enc a) = some (den a)
  lay : ∀ a, (den a).canLay0 = true
  dep : ∀ a, (den a).depth ≤ n + 1
  eqv : ∀ a b, PyData.eqv (den a) (den b) = decide (a = b)
theorem EncOk.eq {α : Type} [DecidableEq α] {n : Nat} {enc : α → PV} {den : α → PyData} (e : EncOk n enc den) (hn : n ≤ 12) (a b : α) (h : IH) : pEqB (enc a) (enc b) h = some (decide (a = b)) := by
  have s : ∀ a, SeqAt.shaped (den a) = true := fun a => by
    have := e.dep a
    simp [SeqAt.shaped, e.lay a]; omega
  simp [pEqB, e.dat DEP h _ hn, s, e.eqv]
theorem EncOk.int : EncOk 0 PV.int PyData.int := ⟨fun m h a _ => by simp, fun a => by simp [PyData.canLay0], fun a => by simp [PyData.depth], fun a b => by simp [PyData.eqv]; rfl⟩
theorem optAll_map {α β γ : Type} {f : β → Option γ} {g : α → β} {d : α → γ} (xs : List α) (h : ∀ a ∈ xs, f (g a) = some (d a)) : optAll f (xs.map g) = some (xs.map d) := by
  induction xs with
  | nil => rfl
  | cons x xs ih => simp only [List.map, optAll, h x (by simp), ih fun a ha => h a (by simp [ha])]
theorem canAll {α : Type} {d : α → PyData} (xs : List α) (h : ∀ a, (d a).canLay0 = true) : PyData.canLayAll0 (xs.map d) = true := by
  induction xs with
  | nil => rfl
  | cons x xs ih => simp [PyData.canLayAll0, h, ih]
theorem depAll {α : Type} {d : α → PyData} {n : Nat} (xs : List α) (h : ∀ a, (d a).depth ≤ n) : PyData.depthAll (xs.map d) ≤ n := by
  induction xs with
  | nil => simp [PyData.depthAll]
  | cons x xs ih =>
    have := h x
    simp only [List.map, PyData.depthAll]; omega
theorem eqvAll_map {α : Type} [DecidableEq α] {d : α → PyData} (h : ∀ a b, PyData.eqv (d a) (d b) = decide (a = b)) : ∀ xs ys : List α, PyData.eqvAll (xs.map d) (ys.map d) = decide (xs = ys)
  | [], [] => by simp [PyData.eqvAll]
  | [], y :: ys => by simp [PyData.eqvAll]
  | x :: xs, [] => by simp [PyData.eqvAll]
  | x :: xs, y :: ys => by simp [PyData.eqvAll, h, eqvAll_map h xs ys]
theorem EncOk.list {α : Type} [DecidableEq α] {n : Nat} {enc : α → PV} {den : α → PyData} (e : EncOk n enc den) : EncOk (n + 1) (fun xs : List α => .tup (xs.map enc)) (fun xs => .tuple (xs.map den)) := by
  refine ⟨fun m h a hm => ?_, fun a => ?_, fun a => ?_, fun a b => ?_⟩
  · obtain ⟨m, rfl⟩ : ∃ k, m = k + 1 := ⟨m - 1, by omega⟩
    simp only [dataOf, optAll_map a fun x _ => e.dat m h x (by omega), Option.map]
  · simp [PyData.canLay0, canAll a e.lay]
  · have := depAll a e.dep
    simp [PyData.depth]; omega
  · simp [PyData.eqv, eqvAll_map e.eqv]
theorem EncOk.pair {α β : Type} [DecidableEq α] [DecidableEq β] {n m : Nat} {enc : α → PV} {den : α → PyData} {enc' : β → PV} {den' : β → PyData} (e : EncOk n enc den) (f : EncOk m enc' den') :
    EncOk (n + m + 1) (fun x : α × β => .tup [enc x.1, enc' x.2]) (fun x => .tuple [den x.1, den' x.2]) := by
  refine ⟨fun k h a hm => ?_, fun a => ?_, fun a => ?_, fun a b => ?_⟩
  · obtain ⟨k, rfl⟩ : ∃ j, k = j + 1 := ⟨k - 1, by omega⟩
    simp only [dataOf, optAll, e.dat k h _ (by omega), f.dat k h _ (by omega), Option.map]
  · simp [PyData.canLay0, PyData.canLayAll0, e.lay, f.lay]
  · have := e.dep a.1
    have := f.dep a.2
    simp [PyData.depth, PyData.depthAll]; omega
  · simp [PyData.eqv, PyData.eqvAll, e.eqv, f.eqv, Prod.ext_iff]
theorem EncOk.rat : EncOk 1 fq fun q => .tuple [.int q.num, .int q.den] := by
  refine ⟨fun k h a hm => ?_, fun a => ?_, fun a => ?_, fun a b => ?_⟩
  · obtain ⟨k, rfl⟩ : ∃ j, k = j + 1 := ⟨k - 1, by omega⟩
    simp [fq, dataOf, optAll]
  · simp [PyData.canLay0, PyData.canLayAll0]
  · simp [PyData.depth, PyData.depthAll]
  · have x : (a = b) ↔ (a.num = b.num ∧ a.den = b.den) := ⟨fun h => by subst h; exact ⟨rfl, rfl⟩, fun h => Rat.ext h.1 h.2⟩
    simp only [PyData.eqv, PyData.eqvAll, decide_eq_decide.mpr x]
    simp [Int.natCast_inj, Bool.beq_eq_decide_eq]
/-- a fraction or None -/
def oq : Option Rat → PV
  | none => .non
  | some q => fq q
def oqD : Option Rat → PyData
  | none => .none
  | some q => .tuple [.int q.num, .int q.den]
theorem EncOk.opt : EncOk 1 oq oqD := by
  have e := EncOk.rat
  refine ⟨fun k h a hm => ?_, fun a => ?_, fun a => ?_, fun a b => ?_⟩
  · cases a with
    | none => simp [oq, oqD]
    | some q => exact e.dat k h q hm
  · cases a with
    | none => simp [oqD, PyData.canLay0]
    | some q => exact e.lay q
  · cases a with
    | none => simp [oqD, PyData.depth]
    | some q => exact e.dep q
  · cases a <;> cases b
    · simp [oqD, PyData.eqv]
    · simp [oqD, PyData.eqv]
    · simp [oqD, PyData.eqv]
    · rename_i a b
      have := e.eqv a b
      simp [oqD]
      rw [this]
@[simp] theorem eq_oq (a b : Option Rat) (h : IH) : pEqB (oq a) (oq b) h = some (decide (a = b)) := EncOk.opt.eq (by decide) a b h
@[simp] theorem eq_fq (a b : Rat) (h : IH) : pEqB (fq a) (fq b) h = some (decide (a = b)) := EncOk.rat.eq (by decide) a b h
/-- a turn -/
def tq (t : Int × Rat) : PV := .tup [.int t.1, fq t.2]
def tqs (T : List (Int × Rat)) : PV := .tup (T.map tq)
theorem EncOk.turn : EncOk 2 tq fun t => .tuple [.int t.1, .tuple [.int t.2.num, .int t.2.den]] := EncOk.int.pair EncOk.rat
theorem EncOk.turns : EncOk 3 tqs fun T => .tuple (T.map fun t => .tuple [.int t.1, .tuple [.int t.2.num, .int t.2.den]]) := EncOk.turn.list
/-- what a plan holds -/
def pq (x : Int × List (Int × Rat) × Rat) : PV := .tup [.int x.1, tqs x.2.1, fq x.2.2]
def pqD (x : Int × List (Int × Rat) × Rat) : PyData := .tuple [.int x.1, .tuple (x.2.1.map fun t => .tuple [.int t.1, .tuple [.int t.2.num, .int t.2.den]]), .tuple [.int x.2.2.num, .int x.2.2.den]]
theorem EncOk.plan : EncOk 4 pq pqD := by
  have e := EncOk.turns
  have f := EncOk.rat
  refine ⟨fun k h a hm => ?_, fun a => ?_, fun a => ?_, fun a b => ?_⟩
  · obtain ⟨k, rfl⟩ : ∃ j, k = j + 1 := ⟨k - 1, by omega⟩
    simp only [pq, pqD, dataOf, optAll, data_int, e.dat k h _ (by omega), f.dat k h _ (by omega), Option.map]
  · have := e.lay a.2.1
    have := f.lay a.2.2
    simp [pqD, PyData.canLay0, PyData.canLayAll0] at *; assumption
  · have := e.dep a.2.1
    simp [pqD, PyData.depth, PyData.depthAll] at *; omega
  · have := e.eqv a.2.1 b.2.1
    have g := f.eqv a.2.2 b.2.2
    simp only [pqD, PyData.eqv, PyData.eqvAll] at *
    rw [this, g]
    simp [Prod.ext_iff, Bool.beq_eq_decide_eq]
@[simp] theorem eq_pq (a b : Int × List (Int × Rat) × Rat) (h : IH) : pEqB (pq a) (pq b) h = some (decide (a = b)) := EncOk.plan.eq (by decide) a b h
@[simp] theorem eq_tqs (a b : List (Int × Rat)) (h : IH) : pEqB (tqs a) (tqs b) h = some (decide (a = b)) := EncOk.turns.eq (by decide) a b h
@[simp] theorem eq_tqs0 (a : List (Int × Rat)) (h : IH) : pEqB (tqs a) (.tup []) h = some (decide (a = [])) := EncOk.turns.eq (by decide) a [] h
/-! ### loops -/
@[simp] def stepF (it : ItF) (g : TgF) (B : SX) (i : Nat) (r : Fm) (h : IH) : RS := match it i h with
  | some (some v) => (match g v r with
    | some r1 => B r1 h
    | none => .bad)
  | _ => .bad
theorem for_nx {it : ItF} {g : TgF} {B : SX} {k i : Nat} {r r2 : Fm} {h h2 : IH} (e : stepF it g B i r h = .nx r2 h2) : forL it g B (k + 1) i r h = forL it g B k (i + 1) r2 h2 := by
  conv => lhs; unfold forL
  unfold stepF at e
  split at e
  · rename_i v q
    rw [q]
    split at e
    · rename_i r1 q1
      simp only [q1, e]
    · cases e
  · cases e
theorem for_rt {it : ItF} {g : TgF} {B : SX} {k i : Nat} {r : Fm} {h h2 : IH} {v : PV} (e : stepF it g B i r h = .rt v h2) : forL it g B (k + 1) i r h = .rt v h2 := by
  conv => lhs; unfold forL
  unfold stepF at e
  split at e
  · rename_i v q
    rw [q]
    split at e
    · rename_i r1 q1
      simp only [q1, e]
    · cases e
  · cases e
theorem for_end {it : ItF} {g : TgF} {B : SX} {k i : Nat} {r : Fm} {h : IH} (e : it i h = some none) : forL it g B (k + 1) i r h = .nx r h := by
  unfold forL
  rw [e]
theorem forE (I : Fm → IH → Res ItF) (g : TgF) (B : SX) (r : Fm) (h : IH) : sFor I g B r h = toS (I r h) r fun it h1 => forL it g B LIM 0 r h1 := rfl
/-- a loop that returns nowhere -/
theorem for_inv {it : ItF} {g : TgF} {B : SX} {n : Nat} (I : Nat → Fm → IH → Prop)
    (hs : ∀ i r h, i < n → I i r h → ∃ r2 h2, stepF it g B i r h = .nx r2 h2 ∧ I (i + 1) r2 h2)
    (he : ∀ r h, I n r h → it n h = some none) : ∀ (k i : Nat) (r : Fm) (h : IH), n - i < k → i ≤ n → I i r h → ∃ r' h', forL it g B k i r h = .nx r' h' ∧ I n r' h' := by
  intro k
  induction k with
  | zero => intro i r h hk; omega
  | succ k ih =>
    intro i r h hk hi hI
    by_cases q : i < n
    · obtain ⟨r2, h2, e3, e4⟩ := hs i r h q hI
      rw [for_nx e3]
      exact ih (i + 1) r2 h2 (by omega) (by omega) e4
    · have : i = n := by omega
      subst this
      exact ⟨r, h, for_end (he r h hI), hI⟩
/-- a loop that may return -/
theorem for_ret {it : ItF} {g : TgF} {B : SX} {n : Nat} (I : Nat → Fm → IH → Prop) (P : PV → IH → Prop)
    (hs : ∀ i r h, i < n → I i r h → (∃ r2 h2, stepF it g B i r h = .nx r2 h2 ∧ I (i + 1) r2 h2) ∨ ∃ w h2, stepF it g B i r h = .rt w h2 ∧ P w h2)
    (he : ∀ r h, I n r h → it n h = some none) : ∀ (k i : Nat) (r : Fm) (h : IH), n - i < k → i ≤ n → I i r h → (∃ r' h', forL it g B k i r h = .nx r' h' ∧ I n r' h') ∨ ∃ w h', forL it g B k i r h = .rt w h' ∧ P w h' := by
  intro k
  induction k with
  | zero => intro i r h hk; omega
  | succ k ih =>
    intro i r h hk hi hI
    by_cases q : i < n
    · rcases hs i r h q hI with ⟨r2, h2, e3, e4⟩ | ⟨w, h2, e3, e4⟩
      · rw [for_nx e3]
        exact ih (i + 1) r2 h2 (by omega) (by omega) e4
      · exact .inr ⟨w, h2, for_rt e3, e4⟩
    · have : i = n := by omega
      subst this
      exact .inl ⟨r, h, for_end (he r h hI), hI⟩
end WR

namespace WR
open PySem PySem.Spec PyProof.Rows L2
/-! ### checks -/
@[simp] theorem integer_eq (i : Int) (h : IH) : f_is_integer [.int i] h = .ok (.bl true) h := by
  simp [f_is_integer, b_is_integer, tyNames, subTy]
@[simp] theorem from_eq (v a b : Int) (h : IH) : f_is_from [.int v, .int a, .int b] h = .ok (.bl (decide (a ≤ v ∧ v ≤ b))) h := by
  by_cases q : a ≤ v <;> simp [f_is_from, b_is_from, q]
theorem gcd_q (q : Rat) : Int.gcd q.num q.den = 1 := by
  have := q.reduced
  unfold Nat.Coprime at this
  rw [Int.gcd, Int.natAbs_natCast]; exact this
theorem fraction_eq {N : Nat} {q : Rat} (s : Sm N q) (hN : N ≤ 9000) (h : IH) : f_is_fraction [fq q] h = .ok (.bl true) h := by
  have c := common_eq q.num q.den h (by rw [Int.natAbs_natCast]; exact (s.mono hN).2)
  have d := den_pos q
  rw [gcd_q] at c
  simp [f_is_fraction, b_is_fraction, fq, tyNames, subTy, c, show (1 : Int) ≤ q.den by omega]
theorem within_eq {N : Nat} {q : Rat} (s : Sm N q) (hN : N ≤ 9000) (a b : Int) (ha : a.natAbs < 2 ^ 200) (hb : b.natAbs < 2 ^ 200) (h : IH) : f_is_within [fq q, .int a, .int b] h = .ok (.bl (decide ((a : Rat) ≤ q ∧ q ≤ (b : Rat)))) h := by
  have f := fraction_eq s hN h
  have m1 := mul_ok ha s.dn (by omega)
  have m2 := mul_ok hb s.dn (by omega)
  have e1 : ((a : Rat) ≤ q) ↔ a * q.den ≤ q.num := by rw [Rat.le_iff]; simp
  have e2 : (q ≤ (b : Rat)) ↔ q.num ≤ b * q.den := by rw [Rat.le_iff]; simp
  simp only [e1, e2]
  simp only [fq] at f
  by_cases x : a * q.den ≤ q.num <;> simp [f_is_within, b_is_within, fq, f, m1, m2, x]
theorem reach_eq {N : Nat} {q : Rat} (s : Sm N q) (hN : N ≤ 9000) (h0 : 0 < q) (h1 : q ≤ 1000000000000) (h : IH) : f_is_reach [fq q] h = .ok (.bl true) h := by
  have w := within_eq s hN 0 1000000000000 (by decide) (by decide) h
  have p := num_pos h0
  have h0' : (0 : Rat) ≤ q := Rat.le_of_lt h0
  have e : decide (((0 : Int) : Rat) ≤ q ∧ q ≤ ((1000000000000 : Int) : Rat)) = true := decide_eq_true ⟨h0', h1⟩
  rw [e] at w
  simp only [fq] at w
  simp [f_is_reach, b_is_reach, fq, w, p]
/-- a turn that stands -/
structure OkT (R : Int) (t : Int × Rat) : Prop where
  lo : 0 ≤ t.1
  hi : t.1 < R
  pos : 0 < t.2
  top : t.2 ≤ 1000000000000
  sm : Sm 50 t.2
theorem turn_eq {R : Int} {t : Int × Rat} (o : OkT R t) (h : IH) : f_is_turn [tq t, .int R] h = .ok (.bl true) h := by
  have e := reach_eq o.sm (by decide) o.pos o.top h
  have := o.lo
  have := o.hi
  simp [f_is_turn, b_is_turn, tq, tyNames, subTy, e, show 0 ≤ t.1 ∧ t.1 ≤ R - 1 by omega]
/-- a plan's parts that stand -/
structure OkP (x : Int × List (Int × Rat) × Rat) : Prop where
  r1 : 1 ≤ x.1
  r2 : x.1 ≤ 5
  n : x.2.1.length ≤ 60
  t : ∀ t ∈ x.2.1, OkT x.1 t
  c0 : 0 ≤ x.2.2
  c1 : x.2.2 ≤ 1000000000000
  cs : Sm 10 x.2.2
theorem init_eq {x : Int × List (Int × Rat) × Rat} (o : OkP x) {n : Nat} {h : IH} (e : h[n]? = some (.ins "Plan" [])) :
    f_Plan___init__ [.obj n, .int x.1, tqs x.2.1, fq x.2.2] h = .ok .non (h.set n (.ins "Plan" [("held", pq x)])) := by
  have w := within_eq o.cs (by decide) 0 1000000000000 (by decide) (by decide) h
  have z : decide (((0 : Int) : Rat) ≤ x.2.2 ∧ x.2.2 ≤ ((1000000000000 : Int) : Rat)) = true := decide_eq_true ⟨o.c0, o.c1⟩
  rw [z] at w
  have l := for_inv (it := itEnum (tqs x.2.1)) (g := gTupF [4, 5]) (B := sIf (tNotX (tTru (eCall f_is_turn (aCons (eVar 5) (aCons (eVar 1) aNil))))) sBad sNil) (n := x.2.1.length)
    (fun i r h1 => h1 = h ∧ ∃ a b, r = [some (.obj n), some (.int x.1), some (tqs x.2.1), some (fq x.2.2), a, b])
    (by
      rintro i r h1 hi ⟨rfl, a, b, rfl⟩
      have t := turn_eq (o.t x.2.1[i] (List.getElem_mem hi)) h1
      simp [tqs, hi, t, and_assoc]) (by rintro r h1 ⟨rfl, a, b, rfl⟩; simp [tqs]) LIM 0 _ h (by have := o.n; simp [LIM]; omega) (by omega) ⟨rfl, none, none, rfl⟩
  obtain ⟨r', h', l, rfl, a, b, rfl⟩ := l
  have r1 := o.r1
  have r2 := o.r2
  have nn := o.n
  simp only [tqs] at l
  simp [f_Plan___init__, b_Plan___init__, f_check_roads, b_check_roads, f_check_cost, b_check_cost, r1, r2, tqs, tyNames, subTy, show ¬ (60 : Int) < x.2.1.length by omega, sFor, l, w, e, pq]
theorem mk_eq {x : Int × List (Int × Rat) × Rat} (o : OkP x) (h : IH) :
    mkO "Plan" f_Plan___init__ [.int x.1, tqs x.2.1, fq x.2.2] h = .ok (.obj h.length) (h ++ [.ins "Plan" [("held", pq x)]]) := by
  have e := init_eq o (n := h.length) (h := h ++ [.ins "Plan" []]) (by simp)
  simp [e]
@[simp] theorem proads_eq {x : Int × List (Int × Rat) × Rat} {n : Nat} {h : IH} (e : h[n]? = some (.ins "Plan" [("held", pq x)])) : f_Plan_roads [.obj n] h = .ok (.int x.1) h := by
  simp [f_Plan_roads, b_Plan_roads, e, pq]
@[simp] theorem pturns_eq {x : Int × List (Int × Rat) × Rat} {n : Nat} {h : IH} (e : h[n]? = some (.ins "Plan" [("held", pq x)])) : f_Plan_turns [.obj n] h = .ok (tqs x.2.1) h := by
  simp [f_Plan_turns, b_Plan_turns, e, pq]
@[simp] theorem pcost_eq {x : Int × List (Int × Rat) × Rat} {n : Nat} {h : IH} (e : h[n]? = some (.ins "Plan" [("held", pq x)])) : f_Plan_cost [.obj n] h = .ok (fq x.2.2) h := by
  simp [f_Plan_cost, b_Plan_cost, e, pq]
theorem plen_eq {x : Int × List (Int × Rat) × Rat} {n : Nat} {h : IH} (e : h[n]? = some (.ins "Plan" [("held", pq x)])) : f_Plan___len__ [.obj n] h = .ok (.int x.2.1.length) h := by
  simp [f_Plan___len__, b_Plan___len__, e, pq, tqs]
theorem peq_eq {x y : Int × List (Int × Rat) × Rat} {n m : Nat} {h : IH} (e : h[n]? = some (.ins "Plan" [("held", pq x)])) (f : h[m]? = some (.ins "Plan" [("held", pq y)])) : f_Plan___eq__ [.obj n, .obj m] h = .ok (.bl (decide (x = y))) h := by
  simp [f_Plan___eq__, b_Plan___eq__, e, f, ownCs]
theorem peq_tup {n : Nat} {h : IH} {xs : List PV} : f_Plan___eq__ [.obj n, .tup xs] h = .ok (.bl false) h := by
  simp [f_Plan___eq__, b_Plan___eq__, ownCs]
end WR

namespace WR
open PySem PySem.Spec PyProof.Rows L2
/-! ### the law's own operations -/
theorem lplus_eq {A B : Nat} {a b : Rat} (ha : Sm A a) (hb : Sm B b) (hn : A + B ≤ 9000) (h : IH) : f__law_add [fq a, fq b] h = .ok (fq (a + b)) h := by
  have x : (a.num * b.den + b.num * a.den).natAbs < 2 ^ (A + B + 1) := by
    have x : (a.num * b.den).natAbs < 2 ^ (A + B) := by rw [Int.natAbs_mul, Nat.pow_add]; exact Nat.mul_lt_mul'' ha.1 hb.dn
    have y : (b.num * a.den).natAbs < 2 ^ (A + B) := by rw [Int.natAbs_mul, Nat.pow_add, Nat.mul_comm]; exact Nat.mul_lt_mul'' ha.dn hb.1
    have z := Int.natAbs_add_le (a.num * b.den) (b.num * a.den)
    rw [Nat.pow_succ]
    generalize 2 ^ (A + B) = M at x y ⊢
    omega
  have r := lf_eq (a.num * b.den + b.num * a.den) (a.den * b.den) h (Nat.lt_of_lt_of_le x (Nat.pow_le_pow_right (by decide) (by omega))) (Nat.mul_pos (den_pos a) (den_pos b)) (Nat.lt_of_lt_of_le (den_lt ha hb) (Nat.pow_le_pow_right (by decide) hn))
  rw [Int.natCast_mul] at r
  simp [f__law_add, b__law_add, fq, mul_ok ha.1 hb.dn (by omega), mul_ok hb.1 ha.dn (by omega), mul_ok ha.dn hb.dn (by omega), r, add_mk]
theorem ltimes_eq {A B : Nat} {a b : Rat} (ha : Sm A a) (hb : Sm B b) (hn : A + B ≤ 9000) (h : IH) : f__law_mul [fq a, fq b] h = .ok (fq (a * b)) h := by
  have x : (a.num * b.num).natAbs < 2 ^ (A + B) := by rw [Int.natAbs_mul, Nat.pow_add]; exact Nat.mul_lt_mul'' ha.1 hb.1
  have r := lf_eq (a.num * b.num) (a.den * b.den) h (Nat.lt_of_lt_of_le x (Nat.pow_le_pow_right (by decide) (by omega))) (Nat.mul_pos (den_pos a) (den_pos b)) (Nat.lt_of_lt_of_le (den_lt ha hb) (Nat.pow_le_pow_right (by decide) hn))
  rw [Int.natCast_mul] at r
  simp [f__law_mul, b__law_mul, fq, mul_ok ha.1 hb.1 (by omega), mul_ok ha.dn hb.dn (by omega), r, mul_mk]
theorem lover_eq {A B : Nat} {a b : Rat} (ha : Sm A a) (hb : Sm B b) (hp : 0 < b) (hn : A + B ≤ 9000) (h : IH) : f__law_div [fq a, fq b] h = .ok (fq (a / b)) h := by
  have p := num_pos hp
  have dl : a.den * b.num.natAbs < 2 ^ (A + B) := by rw [Nat.pow_add]; exact Nat.mul_lt_mul'' ha.2 hb.1
  have x : (a.num * b.den).natAbs < 2 ^ (A + B) := by rw [Int.natAbs_mul, Nat.pow_add]; exact Nat.mul_lt_mul'' ha.1 hb.dn
  have r := lf_eq (a.num * b.den) (a.den * b.num.natAbs) h (Nat.lt_of_lt_of_le x (Nat.pow_le_pow_right (by decide) (by omega))) (Nat.mul_pos (den_pos a) (by omega)) (Nat.lt_of_lt_of_le dl (Nat.pow_le_pow_right (by decide) hn))
  rw [Int.natCast_mul, Int.natAbs_of_nonneg (Int.le_of_lt p)] at r
  simp [f__law_div, b__law_div, fq, mul_ok ha.1 hb.dn (by omega), mul_ok ha.dn hb.1 (by omega), r, div_mk a b hp]
theorem lless_eq {A B : Nat} {a b : Rat} (ha : Sm A a) (hb : Sm B b) (hn : A + B ≤ 9000) (h : IH) : f__law_under [fq a, fq b] h = .ok (.bl (decide (a < b))) h := by
  simp [f__law_under, b__law_under, fq, mul_ok ha.1 hb.dn (by omega), mul_ok hb.1 ha.dn (by omega), Rat.lt_iff]
theorem fq_zero : PV.tup [.int 0, .int 1] = fq 0 := rfl
theorem fq_two : PV.tup [.int 2, .int 1] = fq 2 := rfl
theorem fq_one : PV.tup [.int 1, .int 1] = fq 1 := rfl
theorem sm0 : Sm 1 0 := by constructor <;> decide
theorem sm2 : Sm 2 2 := by constructor <;> decide
theorem sm1 : Sm 1 1 := by constructor <;> decide
/-! ### bases -/
def bs (c : Rat) (T : List (Int × Rat)) : Nat → Rat
  | 0 => 0
  | i + 1 => bs c T i + (2 * (T.getD i (0, 0)).2 + c)
theorem turn_sm {R : Int} {t : Int × Rat} {c : Rat} (o : OkT R t) (hc : Sm 10 c) : Sm 63 (2 * t.2 + c) := (sm2.mul o.sm).add hc
theorem bs_sm {x : Int × List (Int × Rat) × Rat} (o : OkP x) : ∀ i, i ≤ x.2.1.length → Sm (64 * i + 1) (bs x.2.2 x.2.1 i)
  | 0, _ => sm0
  | i + 1, h => by
    have e := bs_sm o i (by omega)
    have hi : i < x.2.1.length := by omega
    have t := turn_sm (o.t x.2.1[i] (List.getElem_mem hi)) o.cs
    have g : x.2.1.getD i (0, 0) = x.2.1[i] := by simp [hi]
    rw [bs, g]
    exact (e.add t).mono (by omega)
theorem range_snoc (f : Nat → PV) (n : Nat) : (List.range (n + 1)).map f = (List.range n).map f ++ [f n] := by rw [List.range_succ]; simp
theorem bases_eq {x : Int × List (Int × Rat) × Rat} (o : OkP x) {n : Nat} {h : IH} (e : h[n]? = some (.ins "Plan" [("held", pq x)])) :
    f_bases_of [.obj n] h = .ok (.obj h.length) (h ++ [.lst ((List.range (x.2.1.length + 1)).map fun i => fq (bs x.2.2 x.2.1 i))]) := by
  have e1 : ∀ t, (h ++ t)[n]? = some (.ins "Plan" [("held", pq x)]) := fun t => get_old e
  have nn := o.n
  have l := for_inv (it := itList (x.2.1.map tq)) (g := gTupF [2, 3]) (B := sExpr (eAppend (eVar 1) (aCons (eCall f_plus (aCons (eOp pIdx (eVar 1) (eUn pNeg (eC (.int 1)))) (aCons (eCall f_plus (aCons (eCall f_times (aCons (eTup (aCons (eC (.int 2)) (aCons (eC (.int 1)) aNil))) (aCons (eVar 3) aNil))) (aCons (eOp pIdx (eFld "Plan" "held" (eVar 0)) (eC (.int 2))) aNil))) aNil))) aNil))) (n := x.2.1.length)
    (fun i r h1 => h1 = h ++ [.lst ((List.range (i + 1)).map fun i => fq (bs x.2.2 x.2.1 i))] ∧ ∃ a b, r = [some (.obj n), some (.obj h.length), a, b])
    (by
      rintro i r h1 hi ⟨rfl, a, b, rfl⟩
      have ot := o.t x.2.1[i] (List.getElem_mem hi)
      have g : x.2.1.getD i (0, 0) = x.2.1[i] := by simp [hi]
      have s1 := times_eq sm2 ot.sm (by decide) (h ++ [.lst ((List.range (i + 1)).map fun i => fq (bs x.2.2 x.2.1 i))])
      have s2 := plus_eq (sm2.mul ot.sm) o.cs (by decide) (h ++ [.lst ((List.range (i + 1)).map fun i => fq (bs x.2.2 x.2.1 i))])
      have s3 := plus_eq (bs_sm o i (by omega)) (turn_sm ot o.cs) (by omega) (h ++ [.lst ((List.range (i + 1)).map fun i => fq (bs x.2.2 x.2.1 i))])
      rw [range_snoc] at s1 s2 s3 ⊢
      simp [hi, tq, e1, pq, fq_two, s1, s2, s3, show i + 1 < 16777216 by omega, and_assoc, bs, g, List.range_succ]) (by rintro r h1 ⟨rfl, a, b, rfl⟩; simp [tqs]) LIM 0 _ (h ++ [.lst [fq 0]]) (by have := o.n; simp [LIM]; omega) (by omega) ⟨rfl, none, none, rfl⟩
  obtain ⟨r', h', l, rfl, a, b, rfl⟩ := l
  simp [f_bases_of, b_bases_of, e1, pq, tqs, sFor, fq_zero, l]
end WR

namespace WR
open PySem PySem.Spec PyProof.Rows L2
/-- the first turn from i on that reaches the place -/
def wk (c : Rat) (T : List (Int × Rat)) (p : Int) (f : Rat) : Nat → Nat → Option Rat
  | 0, _ => none
  | k + 1, i => match T[i]? with
    | none => none
    | some t => if t.1 = p ∧ ¬ t.2 < f then some (bs c T i + f) else wk c T p f k (i + 1)
theorem walkedby_loop {x : Int × List (Int × Rat) × Rat} (o : OkP x) {n m : Nat} {h : IH} {p : Int} {f : Rat} {F : Nat} (hf : Sm F f) (hF : F ≤ 200) (e : h[m]? = some (.lst ((List.range (x.2.1.length + 1)).map fun i => fq (bs x.2.2 x.2.1 i)))) :
    ∀ k i a b, i ≤ x.2.1.length → x.2.1.length - i < k → forL (itZip (tqs x.2.1) (.obj m)) (gTupF [3, 4]) (sIf (tAndX (tBl (eOp pEq (eOp pIdx (eVar 3) (eC (.int 0))) (eVar 1))) (tNotX (tTru (eCall f_is_less (aCons (eOp pIdx (eVar 3) (eC (.int 1))) (aCons (eVar 2) aNil)))))) (sRet (eCall f_plus (aCons (eVar 4) (aCons (eVar 2) aNil)))) sNil) k i
      [some (.obj n), some (.int p), some (fq f), a, b] h = match wk x.2.2 x.2.1 p f k i with
        | some q => .rt (fq q) h
        | none => .nx [some (.obj n), some (.int p), some (fq f), if i < x.2.1.length then some (tq (x.2.1.getD (x.2.1.length - 1) (0, 0))) else a, if i < x.2.1.length then some (fq (bs x.2.2 x.2.1 (x.2.1.length - 1))) else b] h := by
  intro k
  induction k with
  | zero => intro i a b hi hk; omega
  | succ k ih =>
    intro i a b hi hk
    by_cases q : i < x.2.1.length
    · have ot := o.t x.2.1[i] (List.getElem_mem q)
      have nn := o.n
      have l := less_eq ot.sm hf (by omega) h
      have s := plus_eq (bs_sm o i (by omega)) hf (by omega) h
      have g : x.2.1[i]? = some x.2.1[i] := List.getElem?_eq_getElem q
      by_cases c : x.2.1[i].1 = p ∧ ¬ x.2.1[i].2 < f
      · rw [for_rt (v := fq (bs x.2.2 x.2.1 i + f)) (h2 := h)]
        · simp [wk, g, c]
        · simp [tqs, e, q, tq, l, c, s, show i < x.2.1.length + 1 by omega]
      · rw [for_nx (r2 := [some (.obj n), some (.int p), some (fq f), some (tq x.2.1[i]), some (fq (bs x.2.2 x.2.1 i))]) (h2 := h)]
        · rw [ih _ _ _ (by omega) (by omega)]
          have w : wk x.2.2 x.2.1 p f (k + 1) i = wk x.2.2 x.2.1 p f k (i + 1) := by conv => lhs; unfold wk; simp only [g, if_neg c]
          rw [w]
          by_cases z : i + 1 < x.2.1.length
          · simp [z, q]
          · have : x.2.1.length - 1 = i := by omega
            simp [z, q, this]
        · by_cases d : x.2.1[i].1 = p
          · have d2 : x.2.1[i].2 < f := Classical.not_not.mp fun z => c ⟨d, z⟩
            simp [tqs, e, q, tq, l, d, d2, show i < x.2.1.length + 1 by omega]
          · simp [tqs, e, q, tq, d, show i < x.2.1.length + 1 by omega]
    · have : i = x.2.1.length := by omega
      subst this
      rw [for_end]
      · simp [wk]
      · simp [tqs, e]
theorem wk_more (c : Rat) (T : List (Int × Rat)) (p : Int) (f : Rat) : ∀ k i, T.length - i < k → wk c T p f k i = wk c T p f (T.length - i + 1) i
  | 0, i, h => by omega
  | k + 1, i, h => by
    unfold wk
    by_cases q : i < T.length
    · simp only [List.getElem?_eq_getElem q]
      split
      · rfl
      · rw [wk_more c T p f k (i + 1) (by omega), show T.length - i = T.length - (i + 1) + 1 by omega]
    · simp [List.getElem?_eq_none (show T.length ≤ i by omega)]
/-- what is walked till the place -/
def wkd (x : Int × List (Int × Rat) × Rat) (p : Int) (f : Rat) : Option Rat := wk x.2.2 x.2.1 p f (x.2.1.length + 1) 0
theorem wkd_sm {x : Int × List (Int × Rat) × Rat} (o : OkP x) {p : Int} {f : Rat} {F : Nat} (hf : Sm F f) : ∀ k i q, wk x.2.2 x.2.1 p f k i = some q → Sm (64 * 60 + 2 + F) q
  | 0, i, q, h => by simp [wk] at h
  | k + 1, i, q, h => by
    unfold wk at h
    by_cases l : i < x.2.1.length
    · simp only [List.getElem?_eq_getElem l] at h
      split at h
      · cases h
        have := o.n
        exact ((bs_sm o i (by omega)).add hf).mono (by omega)
      · exact wkd_sm o hf k (i + 1) q h
    · simp [List.getElem?_eq_none (show x.2.1.length ≤ i by omega)] at h
theorem walkedby_eq {x : Int × List (Int × Rat) × Rat} (o : OkP x) {n : Nat} {h : IH} (e : h[n]? = some (.ins "Plan" [("held", pq x)])) (p : Int) {f : Rat} {F : Nat} (hf : Sm F f) (hF : F ≤ 200) :
    ∃ t, f_walked_by [.obj n, .int p, fq f] h = .ok (oq (wkd x p f)) (h ++ t) := by
  refine ⟨[.lst ((List.range (x.2.1.length + 1)).map fun i => fq (bs x.2.2 x.2.1 i))], ?_⟩
  · have b := bases_eq o e
    have nn := o.n
    have l := walkedby_loop o (n := n) (m := h.length) (p := p) (h := h ++ [.lst ((List.range (x.2.1.length + 1)).map fun i => fq (bs x.2.2 x.2.1 i))]) hf hF (by simp) LIM 0 none none (by omega) (by simp [LIM]; omega)
    rw [wk_more _ _ _ _ LIM 0 (by simp [LIM]; omega)] at l
    simp only [Nat.sub_zero, tqs] at l
    simp [f_walked_by, b_walked_by, e, pq, tqs, sFor, b, l]
    change _ = Res.ok (oq (wk _ _ _ _ _ _)) _
    cases wk x.2.2 x.2.1 p f (x.2.1.length + 1) 0 with
    | none => simp [oq]
    | some q => simp [oq]
/-- a place that stands -/
structure OkF (R : Int) (p : Int) (f : Rat) : Prop where
  lo : 0 ≤ p
  hi : p < R
  one : 1 ≤ f
  top : f ≤ 1000000000000000000000000000000
  sm : Sm 150 f
/-- the law's own walk -/
theorem lwalked_loop {x : Int × List (Int × Rat) × Rat} (o : OkP x) {n : Nat} {h : IH} {p : Int} {f : Rat} {F : Nat} (hf : Sm F f) (hF : F ≤ 200) (e : h[n]? = some (.lst [.int x.1, tqs x.2.1, fq x.2.2])) :
    ∀ k i a b, i ≤ x.2.1.length → x.2.1.length - i < k → ∃ a' b' c', forL (itList (x.2.1.map tq)) (gTupF [4, 5]) (sSeq (sIf (tAndX (tBl (eOp pEq (eVar 4) (eVar 1))) (tNotX (tTru (eCall f__law_under (aCons (eVar 5) (aCons (eVar 2) aNil)))))) (sRet (eCall f__law_add (aCons (eVar 3) (aCons (eVar 2) aNil)))) sNil)
    (sSet 3 (eCall f__law_add (aCons (eVar 3) (aCons (eCall f__law_add (aCons (eCall f__law_mul (aCons (eTup (aCons (eC (.int 2)) (aCons (eC (.int 1)) aNil))) (aCons (eVar 5) aNil))) (aCons (eOp pIdx (eVar 0) (eC (.int 2))) aNil))) aNil))))) k i
      [some (.obj n), some (.int p), some (fq f), some (fq (bs x.2.2 x.2.1 i)), a, b] h = match wk x.2.2 x.2.1 p f k i with
        | some q => .rt (fq q) h
        | none => .nx [some (.obj n), some (.int p), some (fq f), c', a', b'] h := by
  intro k
  induction k with
  | zero => intro i a b hi hk; omega
  | succ k ih =>
    intro i a b hi hk
    by_cases q : i < x.2.1.length
    · have ot := o.t x.2.1[i] (List.getElem_mem q)
      have nn := o.n
      have l := lless_eq ot.sm hf (by omega) h
      have s := lplus_eq (bs_sm o i (by omega)) hf (by omega) h
      have s1 := ltimes_eq sm2 ot.sm (by decide) h
      have s2 := lplus_eq (sm2.mul ot.sm) o.cs (by decide) h
      have s3 := lplus_eq (bs_sm o i (by omega)) (turn_sm ot o.cs) (by omega) h
      have g : x.2.1[i]? = some x.2.1[i] := List.getElem?_eq_getElem q
      have gd : x.2.1.getD i (0, 0) = x.2.1[i] := by simp [q]
      by_cases c : x.2.1[i].1 = p ∧ ¬ x.2.1[i].2 < f
      · refine ⟨a, b, none, ?_⟩
        rw [for_rt (v := fq (bs x.2.2 x.2.1 i + f)) (h2 := h)]
        · simp [wk, g, c]
        · simp [q, tq, l, c, s]
      · obtain ⟨a', b', c', r⟩ := ih (i + 1) (some (.int x.2.1[i].1)) (some (fq x.2.1[i].2)) (by omega) (by omega)
        refine ⟨a', b', c', ?_⟩
        have w : wk x.2.2 x.2.1 p f (k + 1) i = wk x.2.2 x.2.1 p f k (i + 1) := by conv => lhs; unfold wk; simp only [g, if_neg c]
        rw [w, ← r]
        apply for_nx
        rw [bs, gd]
        by_cases d : x.2.1[i].1 = p
        · have d2 : x.2.1[i].2 < f := Classical.not_not.mp fun z => c ⟨d, z⟩
          simp [q, tq, l, d, d2, e, fq_two, s1, s2, s3]
        · simp [q, tq, d, e, fq_two, s1, s2, s3]
    · have : i = x.2.1.length := by omega
      subst this
      refine ⟨a, b, some (fq (bs x.2.2 x.2.1 x.2.1.length)), ?_⟩
      rw [for_end]
      · simp [wk]
      · simp
theorem lwalked_eq {x : Int × List (Int × Rat) × Rat} (o : OkP x) {n : Nat} {h : IH} (e : h[n]? = some (.lst [.int x.1, tqs x.2.1, fq x.2.2])) (p : Int) {f : Rat} {F : Nat} (hf : Sm F f) (hF : F ≤ 200) :
    f__law_walked [.obj n, .int p, fq f] h = .ok (oq (wkd x p f)) h := by
  have nn := o.n
  obtain ⟨a', b', c', l⟩ := lwalked_loop o (p := p) hf hF e LIM 0 none none (by omega) (by simp [LIM]; omega)
  rw [wk_more _ _ _ _ LIM 0 (by simp [LIM]; omega)] at l
  simp only [Nat.sub_zero, bs] at l
  simp [f__law_walked, b__law_walked, e, tqs, fq_zero, sFor, l]
  change _ = Res.ok (oq (wk _ _ _ _ _ _)) _
  cases wk x.2.2 x.2.1 p f (x.2.1.length + 1) 0 with
  | none => simp [oq]
  | some q => simp [oq]
end WR

namespace WR
open PySem PySem.Spec PyProof.Rows L2
/-! ### what is drawn -/
theorem log_small {b : Int} (h0 : 0 < b) (h1 : b < 2 ^ 64) : b.natAbs.log2 < 9000 := by
  refine log_of (Nat.lt_of_lt_of_le (show _ < 2 ^ 64 by omega) (Nat.pow_le_pow_right (by decide) (by decide))) (by decide)
theorem draw {hi ci : Nat} {h : IH} (d : DS hi ci h) (b : Int) (h0 : 0 < b) (h1 : b < 2 ^ 64) :
    ∃ r h', f__law_next [.obj hi, .int b] h = .ok (.int r) h' ∧ 0 ≤ r ∧ r < b ∧ DS hi ci h' ∧ Kp hi ci h h' := next_eq d b h0 (log_small h0 h1)
theorem lf_eq' (n d : Int) (h : IH) (hn : n.natAbs < 2 ^ 64) (h0 : 0 < d) (hd : d < 2 ^ 64) : f__law_f [.int n, .int d] h = .ok (fq (mkRat n d.toNat)) h := by
  have := lf_eq n d.toNat h (Nat.lt_of_lt_of_le hn (Nat.pow_le_pow_right (by decide) (by decide))) (by omega) (Nat.lt_of_lt_of_le (show _ < 2 ^ 64 by omega) (Nat.pow_le_pow_right (by decide) (by decide)))
  rwa [Int.toNat_of_nonneg (by omega)] at this
theorem mk_div (n d : Int) (h0 : 0 < d) : mkRat n d.toNat = (n : Rat) / (d : Rat) := by
  rw [Rat.mkRat_eq_div]
  have : ((d.toNat : Int) : Rat) = (d : Rat) := by rw [Int.toNat_of_nonneg (by omega)]
  rw [← this]; rfl
theorem mk_lt {n d : Int} (h0 : 0 < d) (m : Int) : mkRat n d.toNat < (m : Rat) ↔ n < m * d := by
  rw [mk_div n d h0, Rat.div_lt_iff (by exact Rat.intCast_pos.mpr h0), ← Rat.intCast_mul, Rat.intCast_lt_intCast]
theorem lt_mk {n d : Int} (h0 : 0 < d) (m : Int) : (m : Rat) < mkRat n d.toNat ↔ m * d < n := by
  rw [mk_div n d h0, Rat.lt_div_iff (by exact Rat.intCast_pos.mpr h0), ← Rat.intCast_mul, Rat.intCast_lt_intCast]
theorem mk_pos {n d : Int} (h0 : 0 < n) (h1 : 0 < d) : 0 < mkRat n d.toNat := (lt_mk h1 0).mpr (by omega)
theorem mk_le {n d m : Int} (h0 : 0 < d) (h : n ≤ m * d) : mkRat n d.toNat ≤ (m : Rat) := Rat.not_lt.mp fun z => by
  have := (lt_mk h0 m).mp z
  omega
theorem mk_ge {n d m : Int} (h0 : 0 < d) (h : m * d ≤ n) : (m : Rat) ≤ mkRat n d.toNat := Rat.not_lt.mp fun z => by
  have := (mk_lt h0 m).mp z
  omega
/-- how great and how fine a drawn reach is -/
def Dr (q : Rat) : Prop := q ≤ 2000000001 ∧ q.den ≤ 12
theorem mk_dr {n d : Int} (h0 : 0 < d) (h1 : d ≤ 12) (h : n ≤ 2000000001 * d) : Dr (mkRat n d.toNat) := by
  refine ⟨mk_le (m := 2000000001) h0 h, ?_⟩
  rw [Rat.den_mkRat, if_neg (by omega)]
  exact Nat.le_trans (Nat.div_le_self _ _) (by omega)
theorem reach_draw {hi ci : Nat} {h : IH} (d : DS hi ci h) (b : Int) (h0 : 1 ≤ b) (h1 : b ≤ 1000000000) :
    ∃ q h', f__law_reach [.obj hi, .int b] h = .ok (fq q) h' ∧ 0 < q ∧ q ≤ 1000000000000 ∧ Sm 50 q ∧ Dr q ∧ DS hi ci h' ∧ Kp hi ci h h' := by
  obtain ⟨r0, g1, e1, p1, q1, d1, k1⟩ := draw d 4 (by decide) (by decide)
  by_cases c0 : r0 = 0
  · obtain ⟨r2, g2, e2, p2, q2, d2, k2⟩ := draw d1 40 (by decide) (by decide)
    obtain ⟨r3, g3, e3, p3, q3, d3, k3⟩ := draw d2 12 (by decide) (by decide)
    have f := lf_eq' (1 + r2) (1 + r3) g3 (by omega) (by omega) (by omega)
    refine ⟨_, g3, by simp [f__law_reach, b__law_reach, e1, c0, e2, e3, f]; rfl, mk_pos (by omega) (by omega), mk_le (m := 1000000000000) (by omega) (by omega), mk_small (by omega) (by omega) (by omega), mk_dr (by omega) (by omega) (by omega), d3, (k1.trans k2).trans k3⟩
  · by_cases c1 : r0 = 1
    · obtain ⟨r2, g2, e2, p2, q2, d2, k2⟩ := draw d1 9 (by decide) (by decide)
      have f := lf_eq' (1 + r2) 1 g2 (by omega) (by omega) (by omega)
      refine ⟨mkRat (1 + r2) (Int.toNat 1), g2, by simp [f__law_reach, b__law_reach, e1, c0, c1, e2, f], mk_pos (by omega) (by omega), mk_le (m := 1000000000000) (by omega) (by omega), mk_small (by omega) (by omega) (by omega), mk_dr (by omega) (by omega) (by omega), d2, (k1.trans k2)⟩
    · obtain ⟨r2, g2, e2, p2, q2, d2, k2⟩ := draw d1 (b + 2) (by omega) (by omega)
      obtain ⟨r3, g3, e3, p3, q3, d3, k3⟩ := draw d2 2 (by decide) (by decide)
      have f := lf_eq' (b + r2) (1 + r3) g3 (by omega) (by omega) (by omega)
      refine ⟨_, g3, by simp [f__law_reach, b__law_reach, e1, c0, c1, e2, e3, f]; rfl, mk_pos (by omega) (by omega), mk_le (m := 1000000000000) (by omega) (by omega), mk_small (by omega) (by omega) (by omega), mk_dr (by omega) (by omega) (by omega), d3, (k1.trans k2).trans k3⟩
theorem DS.lt {hi ci : Nat} {h : IH} (d : DS hi ci h) : hi < h.length ∧ ci < h.length := by
  obtain ⟨a, b, e⟩ := d.st
  obtain ⟨cs, f, _⟩ := d.ce
  exact ⟨lt_of_get e, lt_of_get f⟩
theorem DS.set {hi ci n : Nat} {h : IH} (d : DS hi ci h) (o : MO) (h1 : n ≠ hi) (h2 : n ≠ ci) : DS hi ci (h.set n o) := by
  obtain ⟨a, b, e⟩ := d.st
  obtain ⟨cs, f, l⟩ := d.ce
  exact ⟨d.ne, ⟨a, b, by rw [List.getElem?_set_ne h1]; exact e⟩, ⟨cs, by rw [List.getElem?_set_ne h2]; exact f, l⟩⟩
/-- what a loop of draws keeps: all of h but the machine, and a list of its own at h.length -/
structure Grow (hi ci : Nat) (h g : IH) (xs : List PV) : Prop where
  ds : DS hi ci g
  kp : Kp hi ci h g
  own : g[h.length]? = some (.lst xs)
theorem Grow.draw {hi ci : Nat} {h g g' : IH} {xs : List PV} (o : Grow hi ci h g xs) (l : hi < h.length ∧ ci < h.length) (d : DS hi ci g') (k : Kp hi ci g g') : Grow hi ci h g' xs :=
  ⟨d, o.kp.trans k, k.get _ _ (by omega) (by omega) o.own⟩
theorem Grow.push {hi ci : Nat} {h g : IH} {xs ys : List PV} (o : Grow hi ci h g xs) (l : hi < h.length ∧ ci < h.length) : Grow hi ci h (g.set h.length (.lst ys)) ys := by
  refine ⟨o.ds.set _ (by omega) (by omega), ⟨by simpa using o.kp.le, fun n u a b e => ?_⟩, ?_⟩
  · have := lt_of_get e
    rw [List.getElem?_set_ne (by omega)]
    exact o.kp.get n u a b e
  · rw [List.getElem?_set_self (lt_of_get o.own)]
theorem turns_draw {hi ci : Nat} {h : IH} (d : DS hi ci h) (R M : Int) (r1 : 1 ≤ R) (r2 : R ≤ 5) (m0 : 0 ≤ M) (m1 : M ≤ 60) :
    ∃ T h', f__law_turns [.obj hi, .int R, .int M] h = .ok (tqs T) h' ∧ T.length ≤ M.toNat ∧ (∀ t ∈ T, OkT R t ∧ Dr t.2) ∧ DS hi ci h' ∧ Kp hi ci h h' := by
  obtain ⟨b0, g1, e1, p1, q1, d1, k1⟩ := draw (d.app [.lst []]) 2 (by decide) (by decide)
  obtain ⟨n, g2, e2, p2, q2, d2, k2⟩ := draw d1 (M + 1) (by omega) (by omega)
  have hl := d.lt
  have hl' : h.length ≠ hi ∧ h.length ≠ ci := by omega
  have G0 : Grow hi ci h g2 [] := ⟨d2, ((Kp.app hi ci h _).trans k1).trans k2, k2.get _ _ (by omega) (by omega) (k1.get _ _ (by omega) (by omega) (by simp))⟩
  have l := for_inv (it := itRange 0 n.toNat) (g := gVar 5) (B := sSeq (sSet 6 (eIf (tBl (eOp pGt (eCall f__law_next (aCons (eVar 0) (aCons (eC (.int 4)) aNil))) (eC (.int 0)))) (eOp pSub (eVar 5) (eOp pMul (eOp pDiv (eVar 5) (eVar 1)) (eVar 1))) (eCall f__law_next (aCons (eVar 0) (aCons (eVar 1) aNil)))))
    (sSeq (sExpr (eAppend (eVar 3) (aCons (eTup (aCons (eVar 6) (aCons (eCall f__law_reach (aCons (eVar 0) (aCons (eVar 4) aNil))) aNil))) aNil)))
    (sSet 4 (eB pMin2 (aCons (eOp pPow (eC (.int 10)) (eC (.int 9))) (aCons (eOp pAdd (eVar 4) (eCall f__law_next (aCons (eVar 0) (aCons (eOp pAdd (eVar 4) (eC (.int 1))) aNil)))) aNil)))))) (n := n.toNat)
    (fun i r g => ∃ T b a5 a6, r = [some (.obj hi), some (.int R), some (.int M), some (.obj h.length), some (.int b), a5, a6] ∧ 1 ≤ b ∧ b ≤ 1000000000 ∧ Grow hi ci h g (T.map tq) ∧ T.length = i ∧ ∀ t ∈ T, OkT R t ∧ Dr t.2)
    (by
      rintro i r g hi' ⟨T, b, a5, a6, rfl, b0, b1, G, tl, ht⟩
      obtain ⟨k, u1, e1, p1, q1, d1, k1⟩ := draw G.ds 4 (by decide) (by decide)
      have G1 := G.draw hl d1 k1
      have key : ∃ road u2, 0 ≤ road ∧ road < R ∧ Grow hi ci h u2 (T.map tq) ∧ eIf (tBl (eOp pGt (eCall f__law_next (aCons (eVar 0) (aCons (eC (.int 4)) aNil))) (eC (.int 0)))) (eOp pSub (eVar 5) (eOp pMul (eOp pDiv (eVar 5) (eVar 1)) (eVar 1))) (eCall f__law_next (aCons (eVar 0) (aCons (eVar 1) aNil)))
          [some (.obj hi), some (.int R), some (.int M), some (.obj h.length), some (.int b), some (.int i), a6] g = .ok (.int road) u2 := by
        by_cases c : 0 < k
        · have := Int.emod_nonneg i (show R ≠ 0 by omega)
          have := Int.emod_lt_of_pos i (show 0 < R by omega)
          refine ⟨(i : Int) % R, u1, by omega, by omega, G1, ?_⟩
          simp [e1, c, show 0 < R by omega, log_small (show 0 < R by omega) (by omega), mulOk, show R.natAbs < 18446744073709551616 by omega]
          rw [Int.emod_def, Int.mul_comm]
        · obtain ⟨r, u2, e2, p2, q2, d2, k2⟩ := draw d1 R (by omega) (by omega)
          exact ⟨r, u2, p2, q2, G1.draw hl d2 k2, by simp [e1, c, e2]⟩
      obtain ⟨road, u2, y0, y1, G2, key⟩ := key
      obtain ⟨q, u3, e3, z0, z1, z2, z3, d3, k3⟩ := reach_draw G2.ds b b0 b1
      have G3 := G2.draw hl d3 k3
      have G4 := G3.push (ys := (T ++ [(road, q)]).map tq) hl
      obtain ⟨r4, u4, e4, p4, q4, d4, k4⟩ := draw G4.ds (b + 1) (by omega) (by omega)
      have G5 := G4.draw hl d4 k4
      have e4' := e4
      simp only [List.map_append, List.map, tq] at e4'
      refine ⟨_, u4, ?_, T ++ [(road, q)], min 1000000000 (b + r4), some (.int i), some (.int road), rfl, by omega, by omega, G5, by simp [tl], ?_⟩
      · revert key
        generalize eIf _ _ _ = A
        intro key
        have : T.length < 16777216 := by omega
        have mn : (if b + r4 < 1000000000 then b + r4 else (1000000000 : Int)) = min 1000000000 (b + r4) := by omega
        simp [hi', key, G2.own, e3, G3.own, this, tq, e4', mn]
      · intro t ht'
        rcases List.mem_append.mp ht' with z | z
        · exact ht t z
        · simp at z; subst z
          exact ⟨⟨y0, y1, z0, z1, z2⟩, z3⟩) (by rintro r g ⟨T, b, a5, a6, rfl, _⟩; simp) LIM 0 _ g2 (by simp [LIM]; omega) (by omega) ⟨[], 1 + b0, none, none, rfl, by omega, by omega, G0, rfl, by simp⟩
  obtain ⟨r', h', l, T, b, a5, a6, rfl, _, _, G, tl, ht⟩ := l
  have : T.length ≤ 16777216 := by omega
  refine ⟨T, h', ?_, by omega, ht, G.ds, G.kp⟩
  simp [f__law_turns, b__law_turns, e1, e2, sFor, l, G.own, tqs, rngOk, show Int.natAbs n < 4611686018427387904 by omega, this]
theorem plan_draw {hi ci : Nat} {h : IH} (d : DS hi ci h) (M : Int) (m0 : 0 ≤ M) (m1 : M ≤ 60) :
    ∃ x p h', f__law_plan [.obj hi, .int M] h = .ok (.obj p) h' ∧ h'[p]? = some (.lst [.int x.1, tqs x.2.1, fq x.2.2]) ∧ h.length ≤ p ∧ OkP x ∧ x.2.1.length ≤ M.toNat ∧ x.2.2.den ≤ 4 ∧ x.2.2 ≤ 8 ∧ (∀ t ∈ x.2.1, Dr t.2) ∧ DS hi ci h' ∧ Kp hi ci h h' := by
  obtain ⟨R, g1, e1, p1, q1, d1, k1⟩ := draw d 5 (by decide) (by decide)
  obtain ⟨b, g2, e2, p2, q2, d2, k2⟩ := draw d1 2 (by decide) (by decide)
  have key : ∃ c g3, 0 ≤ c ∧ c ≤ 1000000000000 ∧ Sm 10 c ∧ c.den ≤ 4 ∧ c ≤ 8 ∧ DS hi ci g3 ∧ Kp hi ci g1 g3 ∧ (eIf (tBl (eOp pEq (eCall f__law_next (aCons (eVar 0) (aCons (eC (.int 2)) aNil))) (eC (.int 0)))) (eTup (aCons (eC (.int 0)) (aCons (eC (.int 1)) aNil))) (eCall f__law_f (aCons (eCall f__law_next (aCons (eVar 0) (aCons (eC (.int 9)) aNil))) (aCons (eOp pAdd (eC (.int 1)) (eCall f__law_next (aCons (eVar 0) (aCons (eC (.int 4)) aNil)))) aNil))))
      [some (.obj hi), some (.int M), some (.int (1 + R)), none] g1 = .ok (fq c) g3 := by
    by_cases c : b = 0
    · exact ⟨0, g2, by decide, by decide, sm0.mono (by decide), by decide, by decide, d2, k2, by simp [e2, c, fq_zero]⟩
    · obtain ⟨u, g3, e3, p3, q3, d3, k3⟩ := draw d2 9 (by decide) (by decide)
      obtain ⟨v, g4, e4, p4, q4, d4, k4⟩ := draw d3 4 (by decide) (by decide)
      have f := lf_eq' u (1 + v) g4 (by omega) (by omega) (by omega)
      refine ⟨mkRat u (1 + v).toNat, g4, mk_ge (m := 0) (by omega) (by omega), mk_le (m := 1000000000000) (by omega) (by omega), mk_small (by omega) (by omega) (by omega), ?_, mk_le (m := 8) (by omega) (by omega), d4, (k2.trans k3).trans k4, by simp [e2, c, e3, e4, f]⟩
      have := Rat.den_mkRat u (1 + v).toNat
      rw [this, if_neg (by omega)]
      exact Nat.le_trans (Nat.div_le_self _ _) (by omega)
  obtain ⟨c, g3, c0, c1, c2, c3, c4, d3, k3, key⟩ := key
  obtain ⟨T, g4, e4, tl, ht, d4, k4⟩ := turns_draw d3 (1 + R) M (by omega) (by omega) m0 m1
  refine ⟨(1 + R, T, c), g4.length, g4 ++ [.lst [.int (1 + R), tqs T, fq c]], ?_, by simp, ((k1.trans k3).trans k4).le, ⟨by simp; omega, by simp; omega, by simp; omega, fun t q => (ht t q).1, c0, c1, c2⟩, tl, c3, c4, fun t q => (ht t q).2, d4.app _, ((k1.trans k3).trans k4).trans (Kp.app _ _ _ _)⟩
  revert key
  unfold f__law_plan b__law_plan
  generalize eIf _ _ _ = A
  intro key
  simp [e1, key, e4]
end WR

namespace WR
open PySem PySem.Spec PyProof.Rows L2
/-! ### the pieces of a road -/
theorem set_at {h r : IH} {a b : MO} : (h ++ a :: r).set h.length b = h ++ b :: r := by simp
@[simp] theorem get_at {h r : IH} {a : MO} : (h ++ a :: r)[h.length]? = some a := by simp
/-- the greater -/
def mx (a b : Rat) : Rat := if a < b then b else a
def gq (qs : List Rat) (a : Rat) : Rat := qs.foldl mx a
theorem greatest_loop (qs : List Rat) (N : Nat) (hN : N + N ≤ 9000) {n : Nat} {h : IH} (hq : ∀ q ∈ qs, Sm N q) (e : h[n]? = some (.lst (qs.map fq))) :
    ∀ (k i : Nat) (m : Rat) (c : Option PV), Sm N m → qs.length - i < k → i ≤ qs.length → ∃ c', forL (itObj n) (gVar 2) (sIf (tTru (eCall f_is_less (aCons (eVar 1) (aCons (eVar 2) aNil)))) (sSet 1 (eVar 2)) sNil) k i [some (.obj n), some (fq m), c] h
      = .nx [some (.obj n), some (fq (gq (qs.drop i) m)), c'] h := by
  intro k
  induction k with
  | zero => intro i m c _ hk; omega
  | succ k ih =>
    intro i m c hm hk hi
    by_cases q : i < qs.length
    · have sq := hq qs[i] (List.getElem_mem q)
      have l := less_eq hm sq hN h
      have sm : Sm N (mx m qs[i]) := by unfold mx; split <;> assumption
      obtain ⟨c', r⟩ := ih (i + 1) (mx m qs[i]) (some (fq qs[i])) sm (by omega) (by omega)
      refine ⟨c', ?_⟩
      have g : qs.drop i = qs[i] :: qs.drop (i + 1) := (List.getElem_cons_drop q).symm
      rw [g]
      show _ = RS.nx [some (.obj n), some (fq (gq (qs.drop (i + 1)) (mx m qs[i]))), c'] h
      rw [← r]
      apply for_nx
      by_cases d : m < qs[i]
      · simp [e, q, l, d, mx]
      · simp [e, q, l, d, mx]
    · have : i = qs.length := by omega
      subst this
      refine ⟨c, ?_⟩
      rw [for_end]
      · simp [gq]
      · simp [e]
theorem greatest_eq (q : Rat) (qs : List Rat) (N : Nat) (hN : N + N ≤ 9000) (hl : qs.length ≤ 1000) {n : Nat} {h : IH} (hq : ∀ r ∈ q :: qs, Sm N r) (e : h[n]? = some (.lst ((q :: qs).map fq))) : f_greatest_of [.obj n] h = .ok (fq (gq (q :: qs) q)) h := by
  obtain ⟨c', l⟩ := greatest_loop (q :: qs) N hN hq e LIM 0 q none (hq q (by simp)) (by simp [LIM]; omega) (by omega)
  simp only [List.drop] at l
  simp only [List.map] at e
  simp [f_greatest_of, b_greatest_of, e, sFor, l]
/-- the pieces that the first i turns give -/
def pc (c : Rat) (T : List (Int × Rat)) (p : Int) : Nat → Rat × List (Rat × Rat × Rat)
  | 0 => (0, [])
  | i + 1 => let t := T.getD i (0, 0)
    if t.1 = p ∧ (pc c T p i).1 < t.2 then (t.2, if t.2 < 1 then (pc c T p i).2 else (pc c T p i).2 ++ [(mx (pc c T p i).1 1, t.2, bs c T i)]) else pc c T p i
theorem pc_sm {x : Int × List (Int × Rat) × Rat} (o : OkP x) (p : Int) : ∀ i, i ≤ x.2.1.length → Sm 50 (pc x.2.2 x.2.1 p i).1
  | 0, _ => sm0.mono (by decide)
  | i + 1, h => by
    have hi : i < x.2.1.length := by omega
    have g : x.2.1.getD i (0, 0) = x.2.1[i] := by simp [hi]
    unfold pc
    simp only [g]
    split
    · exact (o.t _ (List.getElem_mem hi)).sm
    · exact pc_sm o p i (by omega)
/-- a piece as data -/
def tri (t : Rat × Rat × Rat) : PV := .tup [fq t.1, fq t.2.1, fq t.2.2]
def triD (t : Rat × Rat × Rat) : PyData := .tuple [.tuple [.int t.1.num, .int t.1.den], .tuple [.int t.2.1.num, .int t.2.1.den], .tuple [.int t.2.2.num, .int t.2.2.den]]
theorem EncOk.tri : EncOk 2 tri triD := by
  have f := EncOk.rat
  refine ⟨fun k h a hm => ?_, fun a => ?_, fun a => ?_, fun a b => ?_⟩
  · obtain ⟨k, rfl⟩ : ∃ j, k = j + 1 := ⟨k - 1, by omega⟩
    simp only [WR.tri, triD, dataOf, optAll, f.dat k h _ (show 1 ≤ k by omega), Option.map]
  · simp [triD, PyData.canLay0, PyData.canLayAll0]
  · simp [triD, PyData.depth, PyData.depthAll]
  · have g1 := f.eqv a.1 b.1
    have g2 := f.eqv a.2.1 b.2.1
    have g3 := f.eqv a.2.2 b.2.2
    simp only [triD, PyData.eqv, PyData.eqvAll] at *
    rw [g1, g2, g3]
    simp [Prod.ext_iff]
/-- lists of the heap -/
theorem EncOk.obj {α : Type} [DecidableEq α] {n : Nat} {enc : α → PV} {den : α → PyData} (e : EncOk n enc den) (hn : n ≤ 11) {a b : Nat} {xs ys : List α} {h : IH} (ha : h[a]? = some (.lst (xs.map enc))) (hb : h[b]? = some (.lst (ys.map enc))) : pEqB (.obj a) (.obj b) h = some (decide (xs = ys)) := by
  have x := optAll_map xs fun z _ => e.dat 11 h z hn
  have y := optAll_map ys fun z _ => e.dat 11 h z hn
  have s : ∀ zs : List α, SeqAt.shaped (.list (zs.map den)) = true := fun zs => by
    have l := canAll zs e.lay
    have d := depAll zs e.dep
    simp [SeqAt.shaped, PyData.canLay0, PyData.depth, l]; omega
  simp [pEqB, dataOf, DEP, ha, hb, x, y, s, PyData.eqv, eqvAll_map e.eqv]
theorem pieces_eq {x : Int × List (Int × Rat) × Rat} (o : OkP x) {n : Nat} {h : IH} (e : h[n]? = some (.ins "Plan" [("held", pq x)])) (p : Int) :
    ∃ t, f_pieces_of [.obj n, .int p] h = .ok (.obj h.length) (h ++ .lst ((pc x.2.2 x.2.1 p x.2.1.length).2.map tri) :: t) := by
  have nn := o.n
  have l0 : n < h.length := lt_of_get e
  have e1 : ∀ t, (h ++ t)[n]? = some (.ins "Plan" [("held", pq x)]) := fun t => get_old e
  have b := bases_eq o (e1 [.lst []])
  have l := for_inv (it := itZip (tqs x.2.1) (.obj (h.length + 1))) (g := gTupF [4, 5]) (B := sSeq (sAsgT (gTupF [6, 7]) (eVar 4))
    (sIf (tAndX (tBl (eOp pEq (eVar 6) (eVar 1))) (tTru (eCall f_is_less (aCons (eVar 3) (aCons (eVar 7) aNil))))) (sSeq (sIf (tNotX (tTru (eCall f_is_less (aCons (eVar 7) (aCons (eC (.tup [.int 1, .int 1])) aNil))))) (sExpr (eAppend (eVar 2) (aCons (eTup (aCons (eCall f_greatest_of (aCons (eLst (aCons (eVar 3) (aCons (eC (.tup [.int 1, .int 1])) aNil))) aNil)) (aCons (eVar 7) (aCons (eVar 5) aNil)))) aNil))) sNil)
    (sSet 3 (eVar 7))) sNil)) (n := x.2.1.length)
    (fun i r h1 => (∃ t, h1 = h ++ .lst ((pc x.2.2 x.2.1 p i).2.map tri) :: .lst ((List.range (x.2.1.length + 1)).map fun i => fq (bs x.2.2 x.2.1 i)) :: t) ∧ (pc x.2.2 x.2.1 p i).2.length ≤ i ∧ ∃ a b c d, r = [some (.obj n), some (.int p), some (.obj h.length), some (fq (pc x.2.2 x.2.1 p i).1), a, b, c, d])
    (by
      rintro i r h1 hi ⟨⟨t, rfl⟩, ln, a, b, c, d, rfl⟩
      have ot := o.t x.2.1[i] (List.getElem_mem hi)
      have g : x.2.1.getD i (0, 0) = x.2.1[i] := by simp [hi]
      have sp := pc_sm o p i (by omega)
      have l1 := fun h => less_eq sp ot.sm (by decide) h
      have l2 := fun h => less_eq ot.sm sm1 (by decide) h
      have gr := fun n h e => greatest_eq (pc x.2.2 x.2.1 p i).1 [1] 50 (by decide) (by decide) (n := n) (h := h) (by
        intro r hr
        simp at hr
        rcases hr with rfl | rfl
        · exact sp
        · exact sm1.mono (by decide)) e
      have gv : gq ((pc x.2.2 x.2.1 p i).1 :: [1]) (pc x.2.2 x.2.1 p i).1 = mx (pc x.2.2 x.2.1 p i).1 1 := by
        have : mx (pc x.2.2 x.2.1 p i).1 (pc x.2.2 x.2.1 p i).1 = (pc x.2.2 x.2.1 p i).1 := by unfold mx; split <;> rfl
        simp [gq, this]
      rw [gv] at gr
      have pe : pc x.2.2 x.2.1 p (i + 1) = if x.2.1[i].1 = p ∧ (pc x.2.2 x.2.1 p i).1 < x.2.1[i].2 then (x.2.1[i].2, if x.2.1[i].2 < 1 then (pc x.2.2 x.2.1 p i).2 else (pc x.2.2 x.2.1 p i).2 ++ [(mx (pc x.2.2 x.2.1 p i).1 1, x.2.1[i].2, bs x.2.2 x.2.1 i)]) else pc x.2.2 x.2.1 p i := by
        conv => lhs; unfold pc
        rw [g]
      have z1 : ∀ t, (h ++ .lst ((pc x.2.2 x.2.1 p i).2.map tri) :: t)[h.length + 1]? = t[0]? := fun t => by rw [ga1]; rfl
      by_cases c1 : x.2.1[i].1 = p
      · by_cases c2 : (pc x.2.2 x.2.1 p i).1 < x.2.1[i].2
        · rw [if_pos ⟨c1, c2⟩] at pe
          rw [pe]
          by_cases c3 : x.2.1[i].2 < 1
          · simp [tqs, z1, hi, show i < x.2.1.length + 1 by omega, tq, c1, l1, c2, fq_one, l2, c3, and_assoc]
            omega
          · have gr' := gr (h.length + (t.length + 1 + 1)) (h ++ .lst ((pc x.2.2 x.2.1 p i).2.map tri) :: .lst ((List.range (x.2.1.length + 1)).map fun i => fq (bs x.2.2 x.2.1 i)) :: (t ++ [.lst [fq (pc x.2.2 x.2.1 p i).1, fq 1]])) (by rw [ga1]; simp)
            simp [tqs, z1, hi, show i < x.2.1.length + 1 by omega, tq, c1, l1, c2, fq_one, l2, c3, and_assoc, gr', show (pc x.2.2 x.2.1 p i).2.length < 16777216 by omega]
            exact ⟨rfl, ln⟩
        · rw [if_neg (fun z => c2 z.2)] at pe
          rw [pe]
          simp [tqs, z1, hi, show i < x.2.1.length + 1 by omega, tq, c1, l1, c2, and_assoc]
          omega
      · rw [if_neg (fun z => c1 z.1)] at pe
        rw [pe]
        simp [tqs, z1, hi, show i < x.2.1.length + 1 by omega, tq, c1, and_assoc]
        omega)
    (by rintro r h1 ⟨⟨t, rfl⟩, ln, a, b, c, d, rfl⟩; simp [tqs, ga1]) LIM 0 _ _ (by simp [LIM]; omega) (by omega) ⟨⟨[], rfl⟩, by simp [pc], none, none, none, none, rfl⟩
  obtain ⟨r', h', l, ⟨t, rfl⟩, _, a, b', c, d, rfl⟩ := l
  refine ⟨.lst ((List.range (x.2.1.length + 1)).map fun i => fq (bs x.2.2 x.2.1 i)) :: t, ?_⟩
  simp only [pc, List.map, tqs] at l
  simp [f_pieces_of, b_pieces_of, e1, pq, tqs, sFor, fq_zero, b, l]
end WR

namespace WR
open PySem PySem.Spec PyProof.Rows L2
/-- all pieces of a road -/
def pcs (x : Int × List (Int × Rat) × Rat) (p : Int) : List (Rat × Rat × Rat) := (pc x.2.2 x.2.1 p x.2.1.length).2
theorem pc_len (c : Rat) (T : List (Int × Rat)) (p : Int) : ∀ i, (pc c T p i).2.length ≤ i
  | 0 => by simp [pc]
  | i + 1 => by
    have := pc_len c T p i
    unfold pc
    simp only []
    split
    · simp only []
      split
      · omega
      · simp; omega
    · omega
end WR

namespace WR
open PySem PySem.Spec PyProof.Rows L2
/-- a comprehension that gives F i at turn i -/
theorem lc_map {it : ItF} {g : TgF} {A : EX} {r0 : Fm} {base : IH} {n : Nat} (F : Nat → PV) (hn : n < 16777216)
    (hit : ∀ i t, i < n → ∃ v r1 t', it i (base ++ t) = some (some v) ∧ g v r0 = some r1 ∧ A r1 (base ++ t) = .ok (F i) (base ++ (t ++ t')))
    (hend : ∀ t, it n (base ++ t) = some none) : ∀ k i t, i ≤ n → n - i < k → ∃ t', lcL it g tYesX A r0 base.length k i (base ++ .lst ((List.range i).map F) :: t) = .ok () (base ++ .lst ((List.range n).map F) :: t') := by
  intro k
  induction k with
  | zero => intro i t _ h; omega
  | succ k ih =>
    intro i t hi hk
    by_cases q : i < n
    · obtain ⟨v, r1, t', e1, e2, e3⟩ := hit i (.lst ((List.range i).map F) :: t) q
      obtain ⟨t2, e⟩ := ih (i + 1) (t ++ t') (by omega) (by omega)
      refine ⟨t2, ?_⟩
      rw [← e]
      conv => lhs; unfold lcL
      simp [e1, e2, e3, show i < 16777216 by omega, List.range_succ]
    · have : i = n := by omega
      subst this
      refine ⟨t, ?_⟩
      unfold lcL
      simp [hend]
def mn (a b : Rat) : Rat := if b < a then b else a
def lq (qs : List Rat) (a : Rat) : Rat := qs.foldl mn a
theorem least_loop (qs : List Rat) (N : Nat) (hN : N + N ≤ 9000) {n : Nat} {h : IH} (hq : ∀ q ∈ qs, Sm N q) (e : h[n]? = some (.lst (qs.map fq))) :
    ∀ (k i : Nat) (m : Rat) (c : Option PV), Sm N m → qs.length - i < k → i ≤ qs.length → ∃ c', forL (itObj n) (gVar 2) (sIf (tTru (eCall f_is_less (aCons (eVar 2) (aCons (eVar 1) aNil)))) (sSet 1 (eVar 2)) sNil) k i [some (.obj n), some (fq m), c] h
      = .nx [some (.obj n), some (fq (lq (qs.drop i) m)), c'] h := by
  intro k
  induction k with
  | zero => intro i m c _ hk; omega
  | succ k ih =>
    intro i m c hm hk hi
    by_cases q : i < qs.length
    · have sq := hq qs[i] (List.getElem_mem q)
      have l := less_eq sq hm hN h
      have sm : Sm N (mn m qs[i]) := by unfold mn; split <;> assumption
      obtain ⟨c', r⟩ := ih (i + 1) (mn m qs[i]) (some (fq qs[i])) sm (by omega) (by omega)
      refine ⟨c', ?_⟩
      have g : qs.drop i = qs[i] :: qs.drop (i + 1) := (List.getElem_cons_drop q).symm
      rw [g]
      show _ = RS.nx [some (.obj n), some (fq (lq (qs.drop (i + 1)) (mn m qs[i]))), c'] h
      rw [← r]
      apply for_nx
      by_cases d : qs[i] < m
      · simp [e, q, l, d, mn]
      · simp [e, q, l, d, mn]
    · have : i = qs.length := by omega
      subst this
      refine ⟨c, ?_⟩
      rw [for_end]
      · simp [lq]
      · simp [e]
/-- where a road ends -/
def rch (x : Int × List (Int × Rat) × Rat) (p : Int) : Rat := match (pcs x p).getLast? with
  | none => 0
  | some t => t.2.1
theorem atI_last {α : Type} (xs : List α) (x : α) (h : xs.getLast? = some x) : atI xs (-1) = some x := by
  obtain ⟨ys, rfl⟩ := List.getLast?_eq_some_iff.mp h
  exact atI_m1 x ys
end WR

namespace WR
open PySem PySem.Spec PyProof.Rows L2
theorem pc_succ (c : Rat) (T : List (Int × Rat)) (p : Int) {i : Nat} (hi : i < T.length) : pc c T p (i + 1) = if T[i].1 = p ∧ (pc c T p i).1 < T[i].2 then (T[i].2, if T[i].2 < 1 then (pc c T p i).2 else (pc c T p i).2 ++ [(mx (pc c T p i).1 1, T[i].2, bs c T i)]) else pc c T p i := by
  have g : T.getD i (0, 0) = T[i] := by simp [hi]
  conv => lhs; unfold pc
  rw [g]
/-- where a piece comes from -/
theorem pc_get (c : Rat) (T : List (Int × Rat)) (p : Int) : ∀ i, i ≤ T.length → ∀ k t, (pc c T p i).2[k]? = some t → ∃ (j : Nat) (hj : j < T.length), j < i ∧ T[j].1 = p ∧ t = (mx (pc c T p j).1 1, T[j].2, bs c T j) ∧ (pc c T p j).1 < T[j].2 ∧ ¬ T[j].2 < 1 ∧ (pc c T p j).2.length = k
  | 0, _, k, t, h => by simp [pc] at h
  | i + 1, hi, k, t, h => by
    have hl : i < T.length := by omega
    have ih := pc_get c T p i (by omega) k t
    rw [pc_succ c T p hl] at h
    split at h
    · rename_i c1
      simp only [] at h
      split at h
      · obtain ⟨j, hj, a, b⟩ := ih h
        exact ⟨j, hj, by omega, b⟩
      · rename_i c2
        rw [List.getElem?_append] at h
        split at h
        · obtain ⟨j, hj, a, b⟩ := ih h
          exact ⟨j, hj, by omega, b⟩
        · rename_i c3
          have : k - (pc c T p i).2.length = 0 := by
            rcases Nat.eq_zero_or_pos (k - (pc c T p i).2.length) with z | z
            · exact z
            · rw [List.getElem?_eq_none (by simp; omega)] at h; cases h
          rw [this] at h
          simp at h
          exact ⟨i, hl, by omega, c1.1, h.symm, c1.2, c2, by omega⟩
    · obtain ⟨j, hj, a, b⟩ := ih h
      exact ⟨j, hj, by omega, b⟩
theorem pc_ge (c : Rat) (T : List (Int × Rat)) (p : Int) : ∀ i, i ≤ T.length → ∀ l (hl : l < T.length), l < i → T[l].1 = p → T[l].2 ≤ (pc c T p i).1
  | 0, _, l, _, h, _ => by omega
  | i + 1, hi, l, hl, h, e => by
    have hl' : i < T.length := by omega
    have ih := pc_ge c T p i (by omega) l hl
    rw [pc_succ c T p hl']
    by_cases q : l = i
    · subst q
      split
      · exact Rat.le_refl
      · rename_i z
        exact Rat.not_lt.mp fun y => z ⟨e, y⟩
    · have ih := ih (by omega) e
      split
      · rename_i z
        exact Rat.le_trans ih (Rat.le_of_lt z.2)
      · exact ih
theorem pc_nil (c : Rat) (T : List (Int × Rat)) (p : Int) : ∀ i, i ≤ T.length → ((pc c T p i).2 = [] ↔ (pc c T p i).1 < 1)
  | 0, _ => by simp [pc]; decide
  | i + 1, hi => by
    have hl' : i < T.length := by omega
    have ih := pc_nil c T p i (by omega)
    rw [pc_succ c T p hl']
    split
    · rename_i z
      simp only []
      split
      · rename_i y
        have : (pc c T p i).1 < 1 := by have := z.2; grind
        simp [ih.mpr this, y]
      · rename_i y
        simp [y]
    · exact ih
theorem pc_src (c : Rat) (T : List (Int × Rat)) (p : Int) : ∀ i, i ≤ T.length → (pc c T p i).1 = 0 ∨ ∃ (l : Nat) (hl : l < T.length), l < i ∧ T[l].1 = p ∧ (pc c T p i).1 = T[l].2
  | 0, _ => .inl rfl
  | i + 1, hi => by
    have hl' : i < T.length := by omega
    have ih := pc_src c T p i (by omega)
    rw [pc_succ c T p hl']
    split
    · rename_i z
      exact .inr ⟨i, hl', by omega, z.1, rfl⟩
    · rcases ih with h | ⟨l, hl, a, b⟩
      · exact .inl h
      · exact .inr ⟨l, hl, by omega, b⟩
/-- what is known of a piece -/
structure OkPc (t : Rat × Rat × Rat) : Prop where
  s1 : Sm 50 t.1
  s2 : Sm 50 t.2.1
  s3 : Sm 3841 t.2.2
  one : 1 ≤ t.1
theorem mx_one {a : Rat} : 1 ≤ mx a 1 := by unfold mx; split <;> grind
theorem pcs_ok {x : Int × List (Int × Rat) × Rat} (o : OkP x) {p : Int} {t : Rat × Rat × Rat} (h : t ∈ pcs x p) : OkPc t := by
  obtain ⟨k, hk, e⟩ := List.mem_iff_getElem.mp h
  obtain ⟨j, hj, _, _, rfl, c1, c2, _⟩ := pc_get x.2.2 x.2.1 p x.2.1.length (Nat.le_refl _) k t (by rw [← e]; exact List.getElem?_eq_getElem hk)
  have nn := o.n
  have sp := pc_sm o p j (by omega)
  have ot := o.t _ (List.getElem_mem hj)
  refine ⟨?_, ot.sm, (bs_sm o j (by omega)).mono (by omega), mx_one⟩
  show Sm 50 (mx _ 1)
  unfold mx
  split
  · exact sm1.mono (by decide)
  · exact sp
theorem rch_sm {x : Int × List (Int × Rat) × Rat} (o : OkP x) (p : Int) : Sm 50 (rch x p) := by
  unfold rch
  cases q : (pcs x p).getLast? with
  | none => exact sm0.mono (by decide)
  | some u => exact (pcs_ok o (List.mem_of_getLast? q)).s2
/-- where all roads end -/
def ends (x : Int × List (Int × Rat) × Rat) : List Rat := (List.range x.1.toNat).map fun i => rch x (i : Nat)
def cvr (x : Int × List (Int × Rat) × Rat) : Rat := lq (ends x) (rch x 0)
end WR

namespace WR
open PySem PySem.Spec PyProof.Rows L2
/-! ### the worst -/
abbrev WV := Rat × Int × Rat × Bool
def wup (b : Option WV) (w : WV) : Option WV := match b with
  | none => some w
  | some v => if v.1 < w.1 then some w else some v
def wi (l : List (Rat × Rat × Rat)) (p : Int) (b : Option WV) : Nat → Option WV
  | 0 => b
  | i + 1 => let t := l.getD i (0, 0, 0); wup (wi l p b i) (1 + t.2.2 / t.1, p, t.1, i == 0)
def wr (x : Int × List (Int × Rat) × Rat) : Nat → Option WV
  | 0 => none
  | i + 1 => wi (pcs x (i : Nat)) (i : Nat) (wr x i) (pcs x (i : Nat)).length
def wq (w : WV) : PV := .tup [fq w.1, .int w.2.1, fq w.2.2.1, .bl w.2.2.2]
def ow : Option WV → PV
  | none => .non
  | some w => wq w
/-- its number is small -/
def OkW (b : Option WV) : Prop := ∀ w, b = some w → Sm 3893 w.1
theorem OkPc.val {t : Rat × Rat × Rat} (o : OkPc t) : Sm 3893 (1 + t.2.2 / t.1) := by
  have p : 0 < t.1 := by have := o.one; grind
  exact sm1.add (o.s3.div o.s1 p)
theorem wup_ok {b : Option WV} {w : WV} (h : OkW b) (hw : Sm 3893 w.1) : OkW (wup b w) := by
  intro v e
  unfold wup at e
  split at e
  · cases e; exact hw
  · split at e
    · cases e; exact hw
    · cases e; exact h _ rfl
theorem wi_ok {l : List (Rat × Rat × Rat)} (hl : ∀ t ∈ l, OkPc t) (p : Int) {b : Option WV} (hb : OkW b) : ∀ i, i ≤ l.length → OkW (wi l p b i)
  | 0, _ => hb
  | i + 1, h => by
    have hi : i < l.length := by omega
    have g : l.getD i (0, 0, 0) = l[i] := by simp [hi]
    unfold wi
    simp only [g]
    exact wup_ok (wi_ok hl p hb i (by omega)) (hl _ (List.getElem_mem hi)).val
theorem wr_ok {x : Int × List (Int × Rat) × Rat} (o : OkP x) : ∀ i, OkW (wr x i)
  | 0 => by intro w e; cases e
  | i + 1 => wi_ok (fun t ht => pcs_ok o ht) _ (wr_ok o i) _ (Nat.le_refl _)
theorem wi_succ (l : List (Rat × Rat × Rat)) (p : Int) (b : Option WV) {i : Nat} (hi : i < l.length) : wi l p b (i + 1) = wup (wi l p b i) (1 + l[i].2.2 / l[i].1, p, l[i].1, i == 0) := by
  have g : l.getD i (0, 0, 0) = l[i] := by simp [hi]
  conv => lhs; unfold wi
  simp only [g]
theorem lworst_inner {x : Int × List (Int × Rat) × Rat} (o : OkP x) {n : Nat} {h : IH} : ∀ (r : IH) (i : Nat) (b : Option WV) (a4 a5 : Option PV), OkW b → ∃ a4' a5', forL (itRange 0 (pcs x (i : Nat)).length) (gVar 4) (sSeq (sSet 5 (eCall f__law_add (aCons (eTup (aCons (eC (.int 1)) (aCons (eC (.int 1)) aNil))) (aCons (eCall f__law_div (aCons (eOp pIdx (eOp pIdx (eVar 3) (eVar 4)) (eC (.int 2))) (aCons (eOp pIdx (eOp pIdx (eVar 3) (eVar 4)) (eC (.int 0))) aNil))) aNil))))
    (sIf (tOrX (tBl (eOp pIsN (eVar 1) (eC .non))) (tTru (eCall f__law_under (aCons (eOp pIdx (eVar 1) (eC (.int 0))) (aCons (eVar 5) aNil))))) (sSet 1 (eTup (aCons (eVar 5) (aCons (eVar 2) (aCons (eOp pIdx (eOp pIdx (eVar 3) (eVar 4)) (eC (.int 0))) (aCons (eOp pEq (eVar 4) (eC (.int 0))) aNil)))))) sNil)) LIM 0
      [some (.obj n), some (ow b), some (.int i), some (.obj (h ++ r).length), a4, a5] ((h ++ r) ++ [.lst ((pcs x (i : Nat)).map tri)]) = .nx [some (.obj n), some (ow (wi (pcs x (i : Nat)) (i : Nat) b (pcs x (i : Nat)).length)), some (.int i), some (.obj (h ++ r).length), a4', a5'] ((h ++ r) ++ [.lst ((pcs x (i : Nat)).map tri)]) := by
  have nn := o.n
  intro r i b a4 a5 hb
  have pl : (pcs x (i : Nat)).length ≤ 60 := Nat.le_trans (pc_len _ _ _ _) nn
  obtain ⟨r', h', l, rfl, a4', a5', rfl⟩ := for_inv (it := itRange 0 (pcs x (i : Nat)).length) (g := gVar 4) (B := sSeq (sSet 5 (eCall f__law_add (aCons (eTup (aCons (eC (.int 1)) (aCons (eC (.int 1)) aNil))) (aCons (eCall f__law_div (aCons (eOp pIdx (eOp pIdx (eVar 3) (eVar 4)) (eC (.int 2))) (aCons (eOp pIdx (eOp pIdx (eVar 3) (eVar 4)) (eC (.int 0))) aNil))) aNil))))
  (sIf (tOrX (tBl (eOp pIsN (eVar 1) (eC .non))) (tTru (eCall f__law_under (aCons (eOp pIdx (eVar 1) (eC (.int 0))) (aCons (eVar 5) aNil))))) (sSet 1 (eTup (aCons (eVar 5) (aCons (eVar 2) (aCons (eOp pIdx (eOp pIdx (eVar 3) (eVar 4)) (eC (.int 0))) (aCons (eOp pEq (eVar 4) (eC (.int 0))) aNil)))))) sNil)) (n := (pcs x (i : Nat)).length)
    (fun k r1 h1 => h1 = (h ++ r) ++ [.lst ((pcs x (i : Nat)).map tri)] ∧ ∃ a4 a5, r1 = [some (.obj n), some (ow (wi (pcs x (i : Nat)) (i : Nat) b k)), some (.int i), some (.obj (h ++ r).length), a4, a5])
    (by
      rintro k r1 h1 hk ⟨rfl, a4, a5, rfl⟩
      have po := pcs_ok o (List.getElem_mem hk)
      have pp : 0 < (pcs x (i : Nat))[k].1 := by have := po.one; grind
      have ov := fun h => lover_eq po.s3 po.s1 pp (by decide) h
      have pl := fun h => lplus_eq sm1 (po.s3.div po.s1 pp) (by decide) h
      have ok := wi_ok (l := pcs x (i : Nat)) (fun t ht => pcs_ok o ht) (i : Nat) hb k (by omega)
      have at_ : atI ((pcs x (i : Nat)).map tri) (k : Nat) = some (tri (pcs x (i : Nat))[k]) := by
        rw [atI_pos _ _ (by omega) (by simp; omega)]; simp [hk]
      simp only [tri] at at_
      rw [wi_succ _ _ _ hk]
      cases z : wi (pcs x (i : Nat)) (i : Nat) b k with
      | none => simp [hk, at_, tri, fq_one, ov, pl, ow, wup, wq, and_assoc, Bool.beq_eq_decide_eq]
      | some w =>
        have le := fun h => lless_eq (ok w z) po.val (by decide) h
        by_cases d : w.1 < 1 + (pcs x (i : Nat))[k].2.2 / (pcs x (i : Nat))[k].1
        · simp [hk, at_, tri, fq_one, ov, pl, ow, wup, wq, and_assoc, le, d, Bool.beq_eq_decide_eq]
        · simp [hk, at_, tri, fq_one, ov, pl, ow, wup, wq, and_assoc, le, d])
    (by rintro r1 h1 ⟨rfl, a4, a5, rfl⟩; simp) LIM 0 _ _ (by simp [LIM]; omega) (by omega) ⟨rfl, a4, a5, rfl⟩
  exact ⟨a4', a5', l⟩
theorem rngOk_nat {n : Nat} (h : n ≤ 1000000) : rngOk (n : Int) = true := by
  unfold rngOk
  exact decide_eq_true (by omega)
theorem range1_eq {L : AX} {r : Fm} {h h1 : IH} {n : Nat} (e : L r h = .ok [.int (n : Nat)] h1) (hn : n ≤ 1000000) : eRange1 L r h = .ok (itRange 0 n) h1 := by
  simp only [eRange1, e, bind_ok, rngOk_nat hn, if_true, Int.toNat_natCast]
end WR

namespace WR
open PySem PySem.Spec PyProof.Rows L2
def wqD (w : WV) : PyData := .tuple [.tuple [.int w.1.num, .int w.1.den], .int w.2.1, .tuple [.int w.2.2.1.num, .int w.2.2.1.den], .bool w.2.2.2]
def owD : Option WV → PyData
  | none => .none
  | some w => wqD w
theorem EncOk.ow : EncOk 2 ow owD := by
  have f := EncOk.rat
  refine ⟨fun k h a hm => ?_, fun a => ?_, fun a => ?_, fun a b => ?_⟩
  · obtain ⟨k, rfl⟩ : ∃ j, k = j + 1 := ⟨k - 1, by omega⟩
    cases a with
    | none => simp [WR.ow, owD]
    | some w => simp only [WR.ow, wq, owD, wqD, dataOf, optAll, data_int, data_bl, f.dat k h _ (show 1 ≤ k by omega), Option.map]
  · cases a <;> simp [owD, wqD, PyData.canLay0, PyData.canLayAll0]
  · cases a <;> simp [owD, wqD, PyData.depth, PyData.depthAll]
  · cases a with
    | none => cases b <;> simp [owD, wqD, PyData.eqv]
    | some v =>
      cases b with
      | none => simp [owD, wqD, PyData.eqv]
      | some w =>
        have g1 := f.eqv v.1 w.1
        have g2 := f.eqv v.2.2.1 w.2.2.1
        simp only [owD, wqD, PyData.eqv, PyData.eqvAll] at *
        rw [g1, g2]
        simp [Prod.ext_iff, Bool.beq_eq_decide_eq]
end WR

namespace WR
open PySem PySem.Spec PyProof.Rows L2
/-! ### what the worst is -/
def ge (b : Option WV) (q : Rat) : Prop := ∃ v, b = some v ∧ q ≤ v.1
theorem wup_ge (b : Option WV) (w : WV) : ge (wup b w) w.1 := by
  unfold wup
  split
  · exact ⟨w, rfl, Rat.le_refl⟩
  · split
    · exact ⟨w, rfl, Rat.le_refl⟩
    · rename_i v h
      exact ⟨v, rfl, Rat.not_lt.mp h⟩
theorem wup_mono {b : Option WV} {w : WV} {q : Rat} (h : ge b q) : ge (wup b w) q := by
  obtain ⟨v, rfl, hq⟩ := h
  unfold wup
  simp only []
  split
  · rename_i z
    exact ⟨w, rfl, Rat.le_trans hq (Rat.le_of_lt z)⟩
  · exact ⟨v, rfl, hq⟩
theorem wi_mono {l : List (Rat × Rat × Rat)} {p : Int} {b : Option WV} {q : Rat} (h : ge b q) : ∀ i, ge (wi l p b i) q
  | 0 => h
  | i + 1 => wup_mono (wi_mono h i)
theorem wi_mem {l : List (Rat × Rat × Rat)} {p : Int} {b : Option WV} : ∀ i, i ≤ l.length → ∀ k (hk : k < l.length), k < i → ge (wi l p b i) (1 + l[k].2.2 / l[k].1)
  | 0, _, k, _, h => by omega
  | i + 1, hi, k, hk, h => by
    rw [wi_succ l p b (by omega : i < l.length)]
    by_cases e : k = i
    · subst e; exact wup_ge _ _
    · exact wup_mono (wi_mem i (by omega) k hk (by omega))
theorem wr_mem {x : Int × List (Int × Rat) × Rat} : ∀ i (p : Nat), p < i → ∀ t ∈ pcs x (p : Nat), ge (wr x i) (1 + t.2.2 / t.1)
  | 0, p, h, _, _ => by omega
  | i + 1, p, h, t, ht => by
    show ge (wi (pcs x (i : Nat)) (i : Nat) (wr x i) (pcs x (i : Nat)).length) _
    by_cases e : p = i
    · subst e
      obtain ⟨k, hk, rfl⟩ := List.mem_iff_getElem.mp ht
      exact wi_mem _ (Nat.le_refl _) k hk hk
    · exact wi_mono (wr_mem i p (by omega) t ht) _
theorem wi_src {l : List (Rat × Rat × Rat)} {p : Int} {b : Option WV} : ∀ i, i ≤ l.length → ∀ w, wi l p b i = some w → b = some w ∨ ∃ (k : Nat) (t : Rat × Rat × Rat), l[k]? = some t ∧ w = (1 + t.2.2 / t.1, p, t.1, k == 0)
  | 0, _, w, h => .inl h
  | i + 1, hi, w, h => by
    have hl : i < l.length := by omega
    rw [wi_succ l p b hl] at h
    have ih := wi_src (l := l) (p := p) (b := b) i (by omega)
    unfold wup at h
    split at h
    · cases h
      exact .inr ⟨i, l[i], List.getElem?_eq_getElem hl, rfl⟩
    · rename_i v hv
      split at h
      · cases h
        exact .inr ⟨i, l[i], List.getElem?_eq_getElem hl, rfl⟩
      · cases h
        exact ih _ hv
theorem wr_src {x : Int × List (Int × Rat) × Rat} : ∀ i w, wr x i = some w → ∃ (p : Nat), p < i ∧ ∃ (k : Nat) (t : Rat × Rat × Rat), (pcs x (p : Nat))[k]? = some t ∧ w = (1 + t.2.2 / t.1, (p : Int), t.1, k == 0)
  | 0, w, h => by cases h
  | i + 1, w, h => by
    have h' : wi (pcs x (i : Nat)) (i : Nat) (wr x i) (pcs x (i : Nat)).length = some w := h
    rcases wi_src _ (Nat.le_refl _) w h' with q | ⟨k, t, e, rfl⟩
    · obtain ⟨p, hp, r⟩ := wr_src i w q
      exact ⟨p, by omega, r⟩
    · exact ⟨i, by omega, k, t, e, rfl⟩
/-! ### walks -/
theorem wk_some (c : Rat) (T : List (Int × Rat)) (p : Int) (f : Rat) : ∀ k i w, wk c T p f k i = some w → ∃ (j : Nat) (hj : j < T.length), i ≤ j ∧ T[j].1 = p ∧ ¬ T[j].2 < f ∧ w = bs c T j + f ∧ ∀ l (hl : l < T.length), i ≤ l → l < j → T[l].1 = p → T[l].2 < f
  | 0, i, w, h => by simp [wk] at h
  | k + 1, i, w, h => by
    unfold wk at h
    by_cases q : i < T.length
    · simp only [List.getElem?_eq_getElem q] at h
      split at h
      · rename_i z
        cases h
        exact ⟨i, q, Nat.le_refl _, z.1, z.2, rfl, fun l _ a b => by omega⟩
      · rename_i z
        obtain ⟨j, hj, a, b, c, d, e⟩ := wk_some c T p f k (i + 1) w h
        refine ⟨j, hj, by omega, b, c, d, fun l hl a' b' e' => ?_⟩
        by_cases y : l = i
        · subst y
          exact Classical.not_not.mp fun u => z ⟨e', u⟩
        · exact e l hl (by omega) b' e'
    · simp [List.getElem?_eq_none (show T.length ≤ i by omega)] at h
theorem wk_first (c : Rat) (T : List (Int × Rat)) (p : Int) (f : Rat) {j : Nat} (hj : j < T.length) (h1 : T[j].1 = p) (h2 : ¬ T[j].2 < f) (h3 : ∀ l (hl : l < T.length), l < j → T[l].1 = p → T[l].2 < f) : ∀ k i, i ≤ j → j - i < k → wk c T p f k i = some (bs c T j + f)
  | 0, i, _, h => by omega
  | k + 1, i, hi, h => by
    unfold wk
    have q : i < T.length := by omega
    simp only [List.getElem?_eq_getElem q]
    by_cases e : i = j
    · subst e
      rw [if_pos ⟨h1, h2⟩]
    · rw [if_neg fun z => z.2 (h3 i q (by omega) z.1)]
      exact wk_first c T p f hj h1 h2 h3 k (i + 1) (by omega) (by omega)
theorem pc_keep (c : Rat) (T : List (Int × Rat)) (p : Int) {t : Rat × Rat × Rat} {j : Nat} (h : t ∈ (pc c T p j).2) : ∀ d, j + d ≤ T.length → t ∈ (pc c T p (j + d)).2
  | 0, _ => h
  | d + 1, hd => by
    have ih := pc_keep c T p h d (by omega)
    have hl : j + d < T.length := by omega
    show t ∈ (pc c T p (j + d + 1)).2
    rw [pc_succ c T p hl]
    split
    · simp only []
      split
      · exact ih
      · exact List.mem_append_left _ ih
    · exact ih
theorem div_anti {a s f : Rat} (h0 : 0 ≤ a) (hs : 0 < s) (h : s ≤ f) : a / f ≤ a / s := by
  have hf : 0 < f := by grind
  apply Rat.not_lt.mp
  intro z
  rw [Rat.div_lt_iff hs] at z
  have e : a / f * f = a := Rat.div_mul_cancel (by grind)
  have n : 0 ≤ a / f := by
    apply Rat.not_lt.mp
    intro y
    rw [Rat.div_lt_iff hf] at y
    grind
  have := Rat.mul_le_mul_of_nonneg_left h n
  grind
theorem bs_nonneg {x : Int × List (Int × Rat) × Rat} (o : OkP x) : ∀ i, i ≤ x.2.1.length → 0 ≤ bs x.2.2 x.2.1 i ∧ (0 < i → 0 < bs x.2.2 x.2.1 i)
  | 0, _ => ⟨Rat.le_refl, fun h => by omega⟩
  | i + 1, h => by
    have hi : i < x.2.1.length := by omega
    have g : x.2.1.getD i (0, 0) = x.2.1[i] := by simp [hi]
    have := (o.t _ (List.getElem_mem hi)).pos
    have := o.c0
    obtain ⟨a, _⟩ := bs_nonneg o i (by omega)
    rw [bs, g]
    exact ⟨by grind, fun _ => by grind⟩
theorem div_one_add {a f : Rat} (h : 0 < f) : (a + f) / f = 1 + a / f := by
  rw [Rat.div_def, Rat.add_mul, ← Rat.div_def, Rat.mul_inv_cancel f (by grind)]
  grind
/-- no place is worse -/
theorem worst_ge {x : Int × List (Int × Rat) × Rat} (o : OkP x) {p : Nat} (hp : p < x.1.toNat) {f w : Rat} (hf : 1 ≤ f) (h : wkd x (p : Nat) f = some w) : ge (wr x x.1.toNat) (w / f) := by
  obtain ⟨j, hj, _, h1, h2, rfl, h3⟩ := wk_some _ _ _ _ _ _ _ h
  have m : (pc x.2.2 x.2.1 (p : Nat) j).1 < f := by
    rcases pc_src x.2.2 x.2.1 (p : Nat) j (by omega) with e | ⟨l, hl, a, b, e⟩
    · rw [e]; grind
    · rw [e]; exact h3 l hl (by omega) a b
  have tm : (mx (pc x.2.2 x.2.1 (p : Nat) j).1 1, x.2.1[j].2, bs x.2.2 x.2.1 j) ∈ pcs x (p : Nat) := by
    have e : pcs x (p : Nat) = (pc x.2.2 x.2.1 (p : Nat) (j + 1 + (x.2.1.length - (j + 1)))).2 := by
      unfold pcs; congr 2; omega
    rw [e]
    refine pc_keep _ _ _ ?_ _ (by omega)
    rw [pc_succ _ _ _ hj, if_pos ⟨h1, by grind⟩]
    simp only []
    rw [if_neg (by grind)]
    simp
  obtain ⟨v, e, q⟩ := wr_mem _ p hp _ tm
  refine ⟨v, e, ?_⟩
  refine Rat.le_trans ?_ q
  rw [div_one_add (by grind)]
  have b0 := (bs_nonneg o j (by omega)).1
  have mo : mx (pc x.2.2 x.2.1 (p : Nat) j).1 1 ≤ f := by unfold mx; split <;> grind
  have o1 : 1 ≤ mx (pc x.2.2 x.2.1 (p : Nat) j).1 1 := mx_one
  have := div_anti b0 (by grind : 0 < mx (pc x.2.2 x.2.1 (p : Nat) j).1 1) mo
  simp only []
  grind
end WR

namespace WR
open PySem PySem.Spec PyProof.Rows L2
theorem bs_top {x : Int × List (Int × Rat) × Rat} (o : OkP x) (hc : x.2.2 ≤ 8) (hd : ∀ t ∈ x.2.1, Dr t.2) : ∀ i : Nat, i ≤ x.2.1.length → bs x.2.2 x.2.1 i ≤ (i : Rat) * 4000000010
  | 0, _ => by simp [bs]
  | i + 1, h => by
    have hi : i < x.2.1.length := by omega
    have g : x.2.1.getD i (0, 0) = x.2.1[i] := by simp [hi]
    have := (hd _ (List.getElem_mem hi)).1
    have ih := bs_top o hc hd i (by omega)
    rw [bs, g, Rat.natCast_add]
    grind
/-- two fractions apart -/
theorem apart {a b : Rat} (ha : a.den ≤ 12) (hb : b.den ≤ 12) (h : a < b) : a + mkRat 1 1000 ≤ b := by
  have p := den_pos a
  have q := den_pos b
  have l := (Rat.lt_iff a b).mp h
  have ea : a = (a.num : Rat) / (a.den : Rat) := by rw [← Rat.mkRat_eq_div, Rat.mkRat_self]
  have eb : b = (b.num : Rat) / (b.den : Rat) := by rw [← Rat.mkRat_eq_div, Rat.mkRat_self]
  have pa : (0 : Rat) < (a.den : Rat) := Rat.natCast_pos.mpr p
  have pb : (0 : Rat) < (b.den : Rat) := Rat.natCast_pos.mpr q
  have na : a * a.den = a.num := by
    conv => lhs; lhs; rw [ea]
    exact Rat.div_mul_cancel (by grind)
  have nb : b * b.den = b.num := by
    conv => lhs; lhs; rw [eb]
    exact Rat.div_mul_cancel (by grind)
  have l2 : (a.num * b.den + 1 : Int) ≤ b.num * a.den := by omega
  have l3 : (a.num : Rat) * b.den + 1 ≤ (b.num : Rat) * a.den := by
    have := Rat.intCast_le_intCast.mpr l2
    simpa [Rat.intCast_natCast] using this
  have da : (a.den : Rat) ≤ 12 := by exact_mod_cast ha
  have db : (b.den : Rat) ≤ 12 := by exact_mod_cast hb
  have e1 : mkRat 1 1000 = (1 : Rat) / 1000 := by rw [Rat.mkRat_eq_div]; rfl
  rw [e1]
  apply Rat.not_lt.mp
  intro z
  -- (b - a) * da * db ≥ 1
  have k : (b - a) * ((a.den : Rat) * b.den) = b.num * a.den - a.num * b.den := by rw [← na, ← nb]; grind
  have m1 : (a.den : Rat) * b.den ≤ 144 := by
    have x1 := Rat.mul_le_mul_of_nonneg_left db (Rat.le_of_lt pa)
    grind
  have d0 : 0 < b - a := by grind
  have m2 := Rat.mul_le_mul_of_nonneg_left m1 (Rat.le_of_lt d0)
  grind
theorem told_first {x : Int × List (Int × Rat) × Rat} (o : OkP x) {w : WV} (h : wr x x.1.toNat = some w) (hb : w.2.2.2 = true) : wkd x w.2.1 w.2.2.1 = some w.1 ∧ w.2.2.1 = 1 ∧ 0 ≤ w.2.1 ∧ w.2.1 < x.1 := by
  obtain ⟨p, hp, k, t, e, rfl⟩ := wr_src _ _ h
  obtain ⟨j, hj, _, h1, rfl, h2, h3, h4⟩ := pc_get _ _ _ _ (Nat.le_refl _) _ _ e
  have k0 : k = 0 := by simpa using hb
  subst k0
  have em : (pc x.2.2 x.2.1 (p : Nat) j).2 = [] := List.length_eq_zero_iff.mp h4
  have m1 := (pc_nil x.2.2 x.2.1 (p : Nat) j (by omega)).mp em
  have me : mx (pc x.2.2 x.2.1 (p : Nat) j).1 1 = 1 := by unfold mx; rw [if_pos m1]
  simp only [me]
  have f := wk_first x.2.2 x.2.1 (p : Nat) 1 hj h1 h3 (fun l hl a b => by have := pc_ge x.2.2 x.2.1 (p : Nat) j (by omega) l hl a b; grind) (x.2.1.length + 1) 0 (by omega) (by omega)
  refine ⟨?_, trivial, by omega, by omega⟩
  show wkd x (p : Nat) 1 = _
  unfold wkd
  rw [f]
  congr 1
  have : bs x.2.2 x.2.1 j / 1 = bs x.2.2 x.2.1 j := by grind
  rw [this]; grind
theorem told_near {x : Int × List (Int × Rat) × Rat} (o : OkP x) (hc : x.2.2 ≤ 8) (hd : ∀ t ∈ x.2.1, Dr t.2) {w : WV} (h : wr x x.1.toNat = some w) (hb : w.2.2.2 = false) :
    ∃ y, wkd x w.2.1 (w.2.2.1 + mkRat 1 1000000000000000) = some y ∧ y / (w.2.2.1 + mkRat 1 1000000000000000) < w.1 ∧ w.1 < y / (w.2.2.1 + mkRat 1 1000000000000000) + mkRat 1 1000 ∧ 0 ≤ w.2.1 ∧ w.2.1 < x.1 ∧ 1 ≤ w.2.2.1 ∧ w.2.2.1 ≤ 1000000000000 ∧ Sm 50 w.2.2.1 := by
  obtain ⟨p, hp, k, t, e, rfl⟩ := wr_src _ _ h
  obtain ⟨j, hj, _, h1, rfl, h2, h3, h4⟩ := pc_get _ _ _ _ (Nat.le_refl _) _ _ e
  have nn := o.n
  have k0 : k ≠ 0 := by simpa using hb
  have em : ¬ (pc x.2.2 x.2.1 (p : Nat) j).2 = [] := fun z => k0 (by rw [← h4, z]; rfl)
  have m1 : ¬ (pc x.2.2 x.2.1 (p : Nat) j).1 < 1 := fun z => em ((pc_nil x.2.2 x.2.1 (p : Nat) j (by omega)).mpr z)
  have me : mx (pc x.2.2 x.2.1 (p : Nat) j).1 1 = (pc x.2.2 x.2.1 (p : Nat) j).1 := by unfold mx; rw [if_neg m1]
  obtain ⟨l, hl, la, lb, le⟩ : ∃ (l : Nat) (hl : l < x.2.1.length), l < j ∧ x.2.1[l].1 = (p : Nat) ∧ (pc x.2.2 x.2.1 (p : Nat) j).1 = x.2.1[l].2 := by
    rcases pc_src x.2.2 x.2.1 (p : Nat) j (by omega) with e | r
    · rw [e] at m1; exact absurd (by decide) m1
    · exact r
  have sp := pc_sm o (p : Nat) j (by omega)
  have tp := (o.t _ (List.getElem_mem hl)).top
  have ap := apart (hd _ (List.getElem_mem hl)).2 (hd _ (List.getElem_mem hj)).2 (by rw [← le]; exact h2)
  have b0 := (bs_nonneg o j (by omega)).2 (by omega)
  have bt := bs_top o hc hd j (by omega)
  rw [← le] at ap tp
  simp only [me]
  have e15 : mkRat 1 1000000000000000 = (1 : Rat) / 1000000000000000 := by rw [Rat.mkRat_eq_div]; rfl
  have e3 : mkRat 1 1000 = (1 : Rat) / 1000 := by rw [Rat.mkRat_eq_div]; rfl
  rw [e3] at ap
  have pg := pc_ge x.2.2 x.2.1 (p : Nat) j (by omega)
  have jb : (j : Rat) ≤ 60 := by exact_mod_cast (by omega : j ≤ 60)
  generalize (pc x.2.2 x.2.1 (p : Nat) j).1 = m at m1 sp tp ap pg h2
  have f := wk_first x.2.2 x.2.1 (p : Nat) (m + mkRat 1 1000000000000000) hj h1 (by rw [e15]; grind) (fun l hl a b => by
    have := pg l hl a b
    rw [e15]; grind) (x.2.1.length + 1) 0 (by omega) (by omega)
  refine ⟨_, f, ?_, ?_, by omega, by omega, by grind, tp, sp⟩
  all_goals
    rw [div_one_add (by rw [e15]; grind)]
    rw [e15]
    generalize bs x.2.2 x.2.1 j = B at b0 bt
    obtain ⟨c, hc'⟩ : ∃ c, c = B / m := ⟨_, rfl⟩
    obtain ⟨d, hd'⟩ : ∃ d, d = B / (m + 1 / 1000000000000000) := ⟨_, rfl⟩
    have cm : c * m = B := by rw [hc']; exact Rat.div_mul_cancel (by grind)
    have dm : d * (m + 1 / 1000000000000000) = B := by rw [hd']; exact Rat.div_mul_cancel (by grind)
    rw [← hc', ← hd']
    have d0 : 0 < d := by rw [hd', Rat.lt_div_iff (by grind)]; grind
    have c0 : 0 < c := by rw [hc', Rat.lt_div_iff (by grind)]; grind
    have s1 : d < c := by
      apply Rat.not_le.mp
      intro z
      have := Rat.mul_le_mul_of_nonneg_right z (show (0 : Rat) ≤ m by grind)
      grind
    have s2 : d ≤ B := by
      have := Rat.mul_le_mul_of_nonneg_left (show (1 : Rat) ≤ m + 1 / 1000000000000000 by grind) (Rat.le_of_lt d0)
      grind
    have s3 := Rat.mul_le_mul_of_nonneg_left (show (1 : Rat) ≤ m by grind) (show (0 : Rat) ≤ c - d by grind)
  · grind
  · rw [e3]
    grind
end WR

namespace WR
open PySem PySem.Spec PyProof.Rows L2
/-! ### what a statement leaves -/
abbrev Pl := Int × List (Int × Rat) × Rat
def RS.Is (o : RS) (N : Fm → IH → Prop) (R : PV → IH → Prop) : Prop := match o with
  | .nx r h => N r h
  | .rt v h => R v h
  | _ => False
@[simp] theorem is_nx0 {r : Fm} {h : IH} {N : Fm → IH → Prop} {R : PV → IH → Prop} : (RS.nx r h).Is N R = N r h := rfl
@[simp] theorem is_rt0 {v : PV} {h : IH} {N : Fm → IH → Prop} {R : PV → IH → Prop} : (RS.rt v h).Is N R = R v h := rfl
theorem RS.Is.imp {o : RS} {N N' : Fm → IH → Prop} {R R' : PV → IH → Prop} (h : o.Is N R) (f : ∀ r h, N r h → N' r h) (g : ∀ v h, R v h → R' v h) : o.Is N' R' := by
  cases o with
  | nx r h1 => exact f _ _ h
  | rt v h1 => exact g _ _ h
  | _ => exact h.elim
theorem w_seq {A B : SX} {r : Fm} {h : IH} {N : Fm → IH → Prop} {R : PV → IH → Prop} (e : (A r h).Is (fun r1 h1 => (B r1 h1).Is N R) R) : (sSeq A B r h).Is N R := by
  simp only [sSeq]
  cases q : A r h with
  | nx r1 h1 => rw [q] at e; exact e
  | rt v h1 => rw [q] at e; exact e
  | bk r1 h1 => rw [q] at e; exact e.elim
  | ct r1 h1 => rw [q] at e; exact e.elim
  | ex x r1 h1 => rw [q] at e; exact e.elim
  | bad => rw [q] at e; exact e.elim
theorem w_for {I0 : Fm → IH → Res ItF} {g : TgF} {B : SX} {r : Fm} {h : IH} {N : Fm → IH → Prop} {R : PV → IH → Prop} {it : ItF} {h1 : IH} (n : Nat) (J : Nat → Fm → IH → Prop)
    (hI : I0 r h = .ok it h1) (hn : n < 1000000) (h0 : J 0 r h1)
    (hs : ∀ i r h, i < n → J i r h → ∃ v r1, it i h = some (some v) ∧ g v r = some r1 ∧ (B r1 h).Is (J (i + 1)) R)
    (he : ∀ r h, J n r h → it n h = some none ∧ N r h) : (sFor I0 g B r h).Is N R := by
  have key : ∀ k i r h, n - i < k → i ≤ n → J i r h → (forL it g B k i r h).Is N R := by
    intro k
    induction k with
    | zero => intro i r h hk; omega
    | succ k ih =>
      intro i r h hk hi hJ
      by_cases q : i < n
      · obtain ⟨v, r1, e1, e2, e3⟩ := hs i r h q hJ
        unfold forL
        simp only [e1, e2]
        cases z : B r1 h with
        | nx r2 h2 => rw [z] at e3; exact ih (i + 1) r2 h2 (by omega) (by omega) e3
        | rt v h2 => rw [z] at e3; exact e3
        | bk r1 h1 => rw [z] at e3; exact e3.elim
        | ct r1 h1 => rw [z] at e3; exact e3.elim
        | ex x r1 h1 => rw [z] at e3; exact e3.elim
        | bad => rw [z] at e3; exact e3.elim
      · have : i = n := by omega
        subst this
        obtain ⟨e1, e2⟩ := he r h hJ
        rw [for_end e1]
        exact e2
  show (toS (I0 r h) r fun it h1 => forL it g B LIM 0 r h1).Is N R
  rw [hI]
  exact key LIM 0 r h1 (by simp [LIM]; omega) (by omega) h0
theorem w_while {c : TX} {B : SX} {r : Fm} {h : IH} {N : Fm → IH → Prop} {R : PV → IH → Prop} (n : Nat) (J : Nat → Fm → IH → Prop) (hn : n < 1000000) (h0 : J n r h)
    (hs : ∀ i r h, J i r h → ∃ b h1, c r h = .ok b h1 ∧ (b = true → ∃ j, i = j + 1 ∧ (B r h1).Is (J j) R) ∧ (b = false → N r h1)) : (sWhile c B r h).Is N R := by
  have key : ∀ k i r h, i < k → J i r h → (whileL c B k r h).Is N R := by
    intro k
    induction k with
    | zero => intro i r h hk; omega
    | succ k ih =>
      intro i r h hk hJ
      obtain ⟨b, h1, e1, e2, e3⟩ := hs i r h hJ
      unfold whileL
      simp only [e1, toS]
      cases b with
      | false => exact e3 rfl
      | true =>
        obtain ⟨j, rfl, e4⟩ := e2 rfl
        simp only [if_true]
        cases z : B r h1 with
        | nx r2 h2 => rw [z] at e4; exact ih j r2 h2 (by omega) e4
        | rt v h2 => rw [z] at e4; exact e4
        | bk r1 h1 => rw [z] at e4; exact e4.elim
        | ct r1 h1 => rw [z] at e4; exact e4.elim
        | ex x r1 h1 => rw [z] at e4; exact e4.elim
        | bad => rw [z] at e4; exact e4.elim
  exact key LIM n r h (by simp [LIM]; omega) h0
theorem w_fn {ps n : Nat} {B : SX} {us : List PV} {h : IH} {P : PV → IH → Prop} (hl : us.length = ps) (e : (B (us.map some ++ List.replicate n none) h).Is (fun _ h1 => P .non h1) P) : ∃ v h1, fn ps n B us h = .ok v h1 ∧ P v h1 := by
  unfold fn
  simp only [hl, if_true]
  cases z : B (us.map some ++ List.replicate n none) h with
  | nx r2 h2 => rw [z] at e; exact ⟨_, _, rfl, e⟩
  | rt v h2 => rw [z] at e; exact ⟨_, _, rfl, e⟩
  | bk r1 h1 => rw [z] at e; exact e.elim
  | ct r1 h1 => rw [z] at e; exact e.elim
  | ex x r1 h1 => rw [z] at e; exact e.elim
  | bad => rw [z] at e; exact e.elim
theorem w_set {A : EX} {i : Nat} {r : Fm} {h h1 : IH} {v : PV} {N : Fm → IH → Prop} {R : PV → IH → Prop} (e : A r h = .ok v h1) (k : N (r.set i (some v)) h1) : (sSet i A r h).Is N R := by
  simp only [sSet, e, toS]; exact k
theorem w_nil {r : Fm} {h : IH} {N : Fm → IH → Prop} {R : PV → IH → Prop} (k : N r h) : (sNil r h).Is N R := k
theorem w_expr {A : EX} {r : Fm} {h h1 : IH} {v : PV} {N : Fm → IH → Prop} {R : PV → IH → Prop} (e : A r h = .ok v h1) (k : N r h1) : (sExpr A r h).Is N R := by
  simp only [sExpr, e, toS]; exact k
theorem w_ret {A : EX} {r : Fm} {h h1 : IH} {v : PV} {N : Fm → IH → Prop} {R : PV → IH → Prop} (e : A r h = .ok v h1) (k : R v h1) : (sRet A r h).Is N R := by
  simp only [sRet, e, toS]; exact k
theorem w_if {c : TX} {A B : SX} {r : Fm} {h h1 : IH} {b : Bool} {N : Fm → IH → Prop} {R : PV → IH → Prop} (e : c r h = .ok b h1) (k1 : b = true → (A r h1).Is N R) (k2 : b = false → (B r h1).Is N R) : (sIf c A B r h).Is N R := by
  simp only [sIf, e, toS]
  cases b with
  | true => exact k1 rfl
  | false => exact k2 rfl
/-! ### heaps that only grow -/
def Pre (h g : IH) : Prop := ∃ u, g = h ++ u
theorem Pre.refl (h : IH) : Pre h h := ⟨[], by simp⟩
theorem Pre.trans {h g k : IH} (a : Pre h g) (b : Pre g k) : Pre h k := by
  obtain ⟨u, rfl⟩ := a
  obtain ⟨v, rfl⟩ := b
  exact ⟨u ++ v, by simp⟩
theorem Pre.of (h t : IH) : Pre h (h ++ t) := ⟨t, rfl⟩
theorem Pre.app {h g : IH} (a : Pre h g) (t : IH) : Pre h (g ++ t) := a.trans (.of g t)
theorem Pre.get {h g : IH} (a : Pre h g) {n : Nat} {o : MO} (e : h[n]? = some o) : g[n]? = some o := by
  obtain ⟨u, rfl⟩ := a
  exact get_old e
theorem Pre.le {h g : IH} (a : Pre h g) : h.length ≤ g.length := by
  obtain ⟨u, rfl⟩ := a
  simp
theorem Pre.set {h g : IH} (a : Pre h g) {n : Nat} (o : MO) (hn : h.length ≤ n) : Pre h (g.set n o) := by
  obtain ⟨u, rfl⟩ := a
  rw [List.set_append_right _ _ hn]
  exact ⟨_, rfl⟩
theorem get_set_ne {g : IH} {n m : Nat} {o : MO} (h : n ≠ m) : (g.set n o)[m]? = g[m]? := List.getElem?_set_ne h
theorem get_set_eq {g : IH} {n : Nat} {o q : MO} (e : g[n]? = some q) : (g.set n o)[n]? = some o := List.getElem?_set_self (lt_of_get e)
/-! ### slices -/
theorem cut_to {α : Type} (xs : List α) (k : Int) (h0 : 0 ≤ k) : cutA xs none (some k) = xs.take k.toNat := by
  have : ¬ k < 0 := by omega
  simp only [cutA, HT.sIx, List.drop_zero, Nat.sub_zero]
  simp only [this, if_false]
  rw [List.take_eq_take_iff]
  omega
theorem cut_from {α : Type} (xs : List α) (k : Int) (h0 : 0 ≤ k) : cutA xs (some k) none = xs.drop k.toNat := by
  have : ¬ k < 0 := by omega
  simp only [cutA, HT.sIx]
  simp only [this, if_false]
  rw [List.take_of_length_le (by simp)]
  by_cases q : k.toNat ≤ xs.length
  · rw [show min k.toNat xs.length = k.toNat by omega]
  · rw [List.drop_eq_nil_of_le (by omega), List.drop_eq_nil_of_le (by omega)]
/-! ### a comprehension with a test -/
theorem lc_gen {it : ItF} {g : TgF} {c : TX} {A : EX} {r0 : Fm} {base : IH} {n : Nat} (F : Nat → PV) (b : Nat → Bool) (hn : n < 16777216)
    (hit : ∀ i t, i < n → ∃ v r1 t', it i (base ++ t) = some (some v) ∧ g v r0 = some r1 ∧ c r1 (base ++ t) = .ok (b i) (base ++ (t ++ t')) ∧ (b i = true → ∃ t2, A r1 (base ++ (t ++ t')) = .ok (F i) (base ++ (t ++ (t' ++ t2)))))
    (hend : ∀ t, it n (base ++ t) = some none) : ∀ k i t, i ≤ n → n - i < k → ∃ t', lcL it g c A r0 base.length k i (base ++ .lst (((List.range i).filter b).map F) :: t) = .ok () (base ++ .lst (((List.range n).filter b).map F) :: t') := by
  intro k
  induction k with
  | zero => intro i t _ h; omega
  | succ k ih =>
    intro i t hi hk
    by_cases q : i < n
    · obtain ⟨v, r1, t', e1, e2, e3, e4⟩ := hit i (.lst (((List.range i).filter b).map F) :: t) q
      have fl : ((List.range i).filter b).length < 16777216 := by
        have := List.length_filter_le b (List.range i)
        simp at this; omega
      cases hb : b i with
      | true =>
        obtain ⟨t2, e4⟩ := e4 hb
        obtain ⟨t3, e⟩ := ih (i + 1) (t ++ (t' ++ t2)) (by omega) (by omega)
        refine ⟨t3, ?_⟩
        rw [← e]
        conv => lhs; unfold lcL
        rw [hb] at e3
        simp only [List.cons_append] at e3 e4
        simp [e1, e2, e3, e4, fl, List.range_succ, List.filter_append, hb]
      | false =>
        obtain ⟨t3, e⟩ := ih (i + 1) (t ++ t') (by omega) (by omega)
        refine ⟨t3, ?_⟩
        rw [← e]
        conv => lhs; unfold lcL
        rw [hb] at e3
        simp only [List.cons_append] at e3
        simp [e1, e2, e3, List.range_succ, List.filter_append, hb]
    · have : i = n := by omega
      subst this
      refine ⟨t, ?_⟩
      unfold lcL
      simp [hend]
/-- the whole of it -/
theorem lc_all {I : Fm → IH → Res ItF} {it : ItF} {g : TgF} {c : TX} {A : EX} {vs : List Nat} {r : Fm} {h base : IH} {n : Nat} (F : Nat → PV) (b : Nat → Bool) (hn : n < 1000000) (hI : I r h = .ok it base)
    (hit : ∀ i t, i < n → ∃ v r1 t', it i (base ++ t) = some (some v) ∧ g v (wipeF r vs) = some r1 ∧ c r1 (base ++ t) = .ok (b i) (base ++ (t ++ t')) ∧ (b i = true → ∃ t2, A r1 (base ++ (t ++ t')) = .ok (F i) (base ++ (t ++ (t' ++ t2)))))
    (hend : ∀ t, it n (base ++ t) = some none) : ∃ t, eLc I g c A vs r h = .ok (.obj base.length) (base ++ .lst (((List.range n).filter b).map F) :: t) := by
  obtain ⟨t, e⟩ := lc_gen F b (by omega) hit hend LIM 0 [] (by omega) (by simp [LIM]; omega)
  refine ⟨t, ?_⟩
  simp only [List.range_zero, List.filter_nil, List.map_nil] at e
  simp [eLc, hI, e]
theorem filt_range {α : Type} (L : List α) (d : α) (P : α → Bool) : ((List.range L.length).filter fun i => P (L.getD i d)).map (fun i => L.getD i d) = L.filter P := by
  have e : (List.range L.length).map (fun i => L.getD i d) = L := by
    apply List.ext_getElem
    · simp
    · intro i h1 h2; simp at h1; simp [h1]
  conv => rhs; rw [← e]
  rw [List.filter_map]; rfl
theorem any_eqv {α : Type} [DecidableEq α] {n : Nat} {enc : α → PV} {den : α → PyData} (e : EncOk n enc den) (a : α) (xs : List α) : ((xs.map den).any fun z => PyData.eqv z (den a)) = decide (a ∈ xs) := by
  induction xs with
  | nil => rfl
  | cons b bs ih =>
    rw [List.map_cons, List.any_cons, ih, e.eqv]
    by_cases q : b = a
    · subst q; simp
    · have : ¬ a = b := fun z => q z.symm
      simp [q, this]
theorem EncOk.in_obj {α : Type} [DecidableEq α] {n : Nat} {enc : α → PV} {den : α → PyData} (e : EncOk n enc den) (hn : n ≤ 11) (a : α) {k : Nat} {xs : List α} {h : IH} (hk : h[k]? = some (.lst (xs.map enc))) : pInB (enc a) (.obj k) h = some (decide (a ∈ xs)) := by
  have x := optAll_map xs fun z _ => e.dat 11 h z hn
  have y := e.dat 12 h a (by omega)
  have s : SeqAt.shaped (.list (xs.map den)) = true := by
    have l := canAll xs e.lay
    have d := depAll xs e.dep
    simp [SeqAt.shaped, PyData.canLay0, PyData.depth, l]; omega
  have s2 : SeqAt.shaped (den a) = true := by
    have := e.dep a
    simp [SeqAt.shaped, e.lay a]; omega
  have z : dataOf 12 h (.obj k) = some (.list (xs.map den)) := by simp [dataOf, hk, x]
  simp only [pInB, DEP, y, z, s, s2, any_eqv e]
  rfl
end WR

namespace WR
open PySem PySem.Spec PyProof.Rows L2
/-! ### two plans: what the program does -/
/-- sooner by x than by y -/
def isS (x y : Pl) (p : Int) (f : Rat) : Bool := match wkd x p f with
  | none => false
  | some a => (match wkd y p f with
    | none => true
    | some b => decide (a < b))
@[simp high] theorem notnFq (q : Rat) (h : IH) : pNotN (fq q) .non h = .ok (.bl true) h := rfl
@[simp high] theorem isnFq (q : Rat) (h : IH) : pIsN (fq q) .non h = .ok (.bl false) h := rfl
@[simp high] theorem notnNon (h : IH) : pNotN .non .non h = .ok (.bl false) h := rfl
@[simp high] theorem isnNon (h : IH) : pIsN .non .non h = .ok (.bl true) h := rfl
/-! the ends of both plans on a road -/
def low1 (L : List Rat) (q : Rat) : Nat := (L.filter fun o => decide (o < q)).length
def ins1 (L : List Rat) (q : Rat) : List Rat := if q ∈ L then L else L.take (low1 L q) ++ [q] ++ L.drop (low1 L q)
def endsL (hs : List Rat) : List Rat := hs.foldl ins1 []
def endsOf (x y : Pl) (p : Int) : List Rat := endsL ((pcs x p ++ pcs y p).map (·.2.1))
theorem low1_le (L : List Rat) (q : Rat) : low1 L q ≤ L.length := List.length_filter_le _ _
theorem ins1_len (L : List Rat) (q : Rat) : (ins1 L q).length ≤ L.length + 1 := by
  have := low1_le L q
  unfold ins1; split
  · omega
  · simp; omega
theorem ins1_mem (L : List Rat) (q r : Rat) : r ∈ ins1 L q ↔ r ∈ L ∨ r = q := by
  unfold ins1; split
  · rename_i h
    constructor
    · exact .inl
    · rintro (a | rfl)
      · exact a
      · exact h
  · have e : r ∈ L ↔ r ∈ L.take (low1 L q) ∨ r ∈ L.drop (low1 L q) := by
      conv => lhs; rw [← List.take_append_drop (low1 L q) L]
      exact List.mem_append
    rw [e]
    simp only [List.mem_append, List.mem_singleton]
    grind
theorem foldl_mem (hs : List Rat) : ∀ (L : List Rat) (r : Rat), r ∈ hs.foldl ins1 L ↔ r ∈ L ∨ r ∈ hs := by
  induction hs with
  | nil => intro L r; simp
  | cons a hs ih => intro L r; rw [List.foldl_cons, ih, ins1_mem, List.mem_cons]; grind
theorem endsL_mem (hs : List Rat) (r : Rat) : r ∈ endsL hs ↔ r ∈ hs := by unfold endsL; rw [foldl_mem]; simp
theorem foldl_len (hs : List Rat) : ∀ (L : List Rat), (hs.foldl ins1 L).length ≤ L.length + hs.length := by
  induction hs with
  | nil => intro L; simp
  | cons a hs ih =>
    intro L
    have := ih (ins1 L a)
    have := ins1_len L a
    rw [List.foldl_cons, List.length_cons]; omega
theorem endsL_len (hs : List Rat) : (endsL hs).length ≤ hs.length := by
  have := foldl_len hs []
  simpa [endsL] using this
theorem lc_less (L : List Rat) {q : Rat} (hL : ∀ o ∈ L, Sm 50 o) (hq : Sm 50 q) (hl : L.length < 1000) {m : Nat} {g : IH} (e : g[m]? = some (.lst (L.map fq))) (a0 a1 a2 a4 a6 a7 a8 : Option PV) :
    ∃ t, eLc (eIter (eVar 3)) (gVar 8) (tTru (eCall f_is_less (aCons (eVar 8) (aCons (eVar 5) aNil)))) (eVar 8) [8] [a0, a1, a2, some (.obj m), a4, some (fq q), a6, a7, a8] g = .ok (.obj g.length) (g ++ .lst ((L.filter fun o => decide (o < q)).map fq) :: t) := by
  have e1 : ∀ t, (g ++ t)[m]? = some (.lst (L.map fq)) := fun t => get_old e
  obtain ⟨t, k⟩ := lc_all (I := eIter (eVar 3)) (it := itObj m) (g := gVar 8) (c := tTru (eCall f_is_less (aCons (eVar 8) (aCons (eVar 5) aNil)))) (A := eVar 8) (vs := [8]) (r := [a0, a1, a2, some (.obj m), a4, some (fq q), a6, a7, a8]) (h := g) (base := g) (n := L.length)
    (fun i => fq (L.getD i 0)) (fun i => decide (L.getD i 0 < q)) (by omega) (by simp [e])
    (fun i t hi => by
      have l := fun h => less_eq (hL L[i] (List.getElem_mem hi)) hq (by decide) h
      exact ⟨fq L[i], _, [], by simp [e1, hi], rfl, by simp [l, hi], fun _ => ⟨[], by simp [hi]⟩⟩)
    (fun t => by simp [e1])
  refine ⟨t, ?_⟩
  rw [k]
  have f := filt_range L 0 (fun o => decide (o < q))
  have f2 : ((List.range L.length).filter fun i => decide (L.getD i 0 < q)).map (fun i => fq (L.getD i 0)) = (L.filter fun o => decide (o < q)).map fq := by rw [← f, List.map_map]; rfl
  rw [f2]
theorem pcs_len {x : Pl} (o : OkP x) (p : Int) : (pcs x p).length ≤ 60 := Nat.le_trans (pc_len _ _ _ _) o.n
theorem pcs_hi {x : Pl} (o : OkP x) {p : Int} {t : Rat × Rat × Rat} (h : t ∈ pcs x p) : ∃ u ∈ x.2.1, u.1 = p ∧ u.2 = t.2.1 ∧ 1 ≤ t.2.1 := by
  obtain ⟨k, hk⟩ := List.mem_iff_getElem?.mp h
  obtain ⟨j, hj, _, e1, e2, _, e3, _⟩ := pc_get x.2.2 x.2.1 p _ (Nat.le_refl _) k t hk
  exact ⟨x.2.1[j], List.getElem_mem hj, e1, by rw [e2], by rw [e2]; exact Rat.not_lt.mp e3⟩
theorem pcs_hsm {x : Pl} (o : OkP x) {p : Int} {t : Rat × Rat × Rat} (h : t ∈ pcs x p) : Sm 50 t.2.1 := by
  obtain ⟨u, hu, _, e, _⟩ := pcs_hi o h
  rw [← e]
  exact (o.t u hu).sm
theorem endsOf_sm {x y : Pl} (ox : OkP x) (oy : OkP y) {p : Int} {q : Rat} (h : q ∈ endsOf x y p) : Sm 50 q := by
  unfold endsOf at h
  rw [endsL_mem] at h
  obtain ⟨t, ht, rfl⟩ := List.mem_map.mp h
  rcases List.mem_append.mp ht with z | z
  · exact pcs_hsm ox z
  · exact pcs_hsm oy z
theorem endsOf_len {x y : Pl} (ox : OkP x) (oy : OkP y) (p : Int) : (endsOf x y p).length ≤ 120 := by
  have := endsL_len ((pcs x p ++ pcs y p).map (·.2.1))
  have := pcs_len ox p
  have := pcs_len oy p
  simp only [List.length_map, List.length_append] at *
  unfold endsOf
  omega
end WR

namespace WR
open PySem PySem.Spec PyProof.Rows L2
/-! ### the stretches -/
abbrev SV := Int × Rat × Rat
def sq (s : SV) : PV := .tup [.int s.1, fq s.2.1, fq s.2.2]
def clo (p : Int) (l : Rat) (b : Option Rat) (f : List SV) : List SV := match b with
  | none => f
  | some b => f ++ [(p, b, l)]
def run (S : Rat → Bool) (p : Int) : List Rat → Rat → Option Rat → List SV → List SV
  | [], l, b, f => clo p l b f
  | h :: t, l, b, f => if S h then run S p t h (some (b.getD l)) f else run S p t h none (clo p l b f)
def sbyN (x y : Pl) : Nat → List SV
  | 0 => []
  | i + 1 => run (isS x y (i : Nat)) (i : Nat) (endsOf x y (i : Nat)) 0 none (sbyN x y i)
def sby (x y : Pl) : List SV := sbyN x y x.1.toNat
theorem clo_len (p : Int) (l : Rat) (b : Option Rat) (f : List SV) : (clo p l b f).length ≤ f.length + 1 := by
  cases b <;> simp [clo]
theorem run_len (S : Rat → Bool) (p : Int) : ∀ (E : List Rat) (l : Rat) (b : Option Rat) (f : List SV), (run S p E l b f).length ≤ f.length + E.length + 1
  | [], l, b, f => by
    have := clo_len p l b f
    simp only [run, List.length_nil]; omega
  | h :: t, l, b, f => by
    have i1 := run_len S p t h (some (b.getD l)) f
    have i2 := run_len S p t h none (clo p l b f)
    have := clo_len p l b f
    simp only [run, List.length_cons]
    split <;> omega
theorem run_nil (S : Rat → Bool) (p : Int) : ∀ (E : List Rat) (l : Rat) (b : Option Rat) (f : List SV), run S p E l b f = [] ↔ f = [] ∧ b = none ∧ ∀ h ∈ E, S h = false
  | [], l, b, f => by cases b <;> simp [run, clo]
  | h :: t, l, b, f => by
    have i1 := run_nil S p t h (some (b.getD l)) f
    have i2 := run_nil S p t h none (clo p l b f)
    simp only [run]
    by_cases q : S h = true
    · rw [if_pos q, i1]
      simp [q]
    · rw [if_neg q, i2]
      have q' : S h = false := by simpa using q
      cases b <;> simp [clo, q']
theorem sbyN_nil (x y : Pl) : ∀ i, sbyN x y i = [] ↔ ∀ p : Nat, p < i → ∀ h ∈ endsOf x y (p : Nat), isS x y (p : Nat) h = false
  | 0 => by simp [sbyN]
  | i + 1 => by
    rw [sbyN, run_nil, sbyN_nil x y i]
    constructor
    · rintro ⟨a, _, b⟩ p hp
      by_cases q : p = i
      · subst q; exact b
      · exact a p (by omega)
    · intro h
      exact ⟨fun p hp => h p (by omega), rfl, h i (by omega)⟩
theorem sbyN_len {x y : Pl} (ox : OkP x) (oy : OkP y) : ∀ i, (sbyN x y i).length ≤ 121 * i
  | 0 => by simp [sbyN]
  | i + 1 => by
    have a := sbyN_len ox oy i
    have b := run_len (isS x y (i : Nat)) (i : Nat) (endsOf x y (i : Nat)) 0 none (sbyN x y i)
    have c := endsOf_len ox oy (i : Nat)
    rw [sbyN]; omega
end WR

namespace WR
open PySem PySem.Spec PyProof.Rows L2
/-! ### a turn left out -/
def rem (x : Pl) (k : Nat) : Pl := (x.1, x.2.1.take k ++ x.2.1.drop (k + 1), x.2.2)
theorem rem_sub {x : Pl} {k : Nat} {u : Int × Rat} (h : u ∈ (rem x k).2.1) : u ∈ x.2.1 := by
  rcases List.mem_append.mp h with z | z
  · exact List.mem_of_mem_take z
  · exact List.mem_of_mem_drop z
theorem rem_len {x : Pl} {k : Nat} (hk : k < x.2.1.length) : (rem x k).2.1.length + 1 = x.2.1.length := by
  simp [rem]; omega
theorem rem_ok {x : Pl} (o : OkP x) (k : Nat) : OkP (rem x k) := by
  refine ⟨o.r1, o.r2, ?_, fun t ht => o.t t (rem_sub ht), o.c0, o.c1, o.cs⟩
  have := o.n
  simp [rem]; omega
/-! ### the law's own look -/
def worse (x y : Pl) : Bool := x.2.1.any fun t => decide (1 ≤ t.2) && isS x y t.1 t.2
theorem wk_none (c : Rat) (T : List (Int × Rat)) (p : Int) (f : Rat) : ∀ k i, T.length - i < k → (wk c T p f k i = none ↔ ∀ l (hl : l < T.length), i ≤ l → T[l].1 = p → T[l].2 < f)
  | 0, i, h => by omega
  | k + 1, i, h => by
    unfold wk
    by_cases q : i < T.length
    · simp only [List.getElem?_eq_getElem q]
      split
      · rename_i c
        simp only [reduceCtorEq, false_iff]
        intro z
        exact c.2 (z i q (Nat.le_refl _) c.1)
      · rename_i c
        rw [wk_none _ T p f k (i + 1) (by omega)]
        constructor
        · intro z l hl hi e
          by_cases w : l = i
          · subst w
            exact Classical.not_not.mp fun y => c ⟨e, y⟩
          · exact z l hl (by omega) e
        · intro z l hl hi e
          exact z l hl (by omega) e
    · simp only [List.getElem?_eq_none (show T.length ≤ i by omega), true_iff]
      intro l hl; omega
theorem wkd_ne {x : Pl} {t : Int × Rat} (h : t ∈ x.2.1) {f : Rat} (hf : ¬ t.2 < f) : wkd x t.1 f ≠ none := by
  obtain ⟨j, hj, rfl⟩ := List.getElem_of_mem h
  intro z
  exact hf ((wk_none _ _ _ _ _ _ (by omega)).mp z j hj (by omega) rfl)
/-! ### both say the same -/
theorem bs_step {x : Pl} (o : OkP x) {i : Nat} (hi : i < x.2.1.length) : bs x.2.2 x.2.1 i ≤ bs x.2.2 x.2.1 (i + 1) := by
  have g : x.2.1.getD i (0, 0) = x.2.1[i] := by simp [hi]
  have ot := (o.t x.2.1[i] (List.getElem_mem hi)).pos
  have c0 := o.c0
  rw [bs, g]
  grind
theorem bs_mono {x : Pl} (o : OkP x) {i : Nat} : ∀ d, i + d ≤ x.2.1.length → bs x.2.2 x.2.1 i ≤ bs x.2.2 x.2.1 (i + d)
  | 0, _ => Rat.le_refl
  | d + 1, h => by
    have a := bs_mono o (i := i) d (by omega)
    have b := bs_step o (show i + d < x.2.1.length by omega)
    rw [show i + (d + 1) = i + d + 1 by omega]
    exact Rat.le_trans a b
/-- the turn that first reaches a place ends a piece -/
theorem first_piece {x : Pl} {p : Int} {f : Rat} (hf : 1 ≤ f) {j : Nat} (hj : j < x.2.1.length) (h1 : x.2.1[j].1 = p) (h2 : ¬ x.2.1[j].2 < f) (h3 : ∀ l (hl : l < x.2.1.length), l < j → x.2.1[l].1 = p → x.2.1[l].2 < f) :
    ∃ t ∈ pcs x p, t.2.1 = x.2.1[j].2 := by
  have h2' : f ≤ x.2.1[j].2 := Rat.not_lt.mp h2
  have lt : (pc x.2.2 x.2.1 p j).1 < x.2.1[j].2 := by
    rcases pc_src x.2.2 x.2.1 p j (by omega) with z | ⟨l, hl, a, b, c⟩
    · rw [z]; grind
    · rw [c]
      have := h3 l hl a b
      grind
  have n1 : ¬ x.2.1[j].2 < 1 := by grind
  have e := pc_succ x.2.2 x.2.1 p hj
  rw [if_pos ⟨h1, lt⟩, if_neg n1] at e
  have m : (mx (pc x.2.2 x.2.1 p j).1 1, x.2.1[j].2, bs x.2.2 x.2.1 j) ∈ (pc x.2.2 x.2.1 p (j + 1)).2 := by rw [e]; simp
  have k := pc_keep x.2.2 x.2.1 p m (x.2.1.length - (j + 1)) (by omega)
  rw [show j + 1 + (x.2.1.length - (j + 1)) = x.2.1.length by omega] at k
  exact ⟨_, k, rfl⟩
theorem endsOf_mem {x y : Pl} {p : Int} {q : Rat} : q ∈ endsOf x y p ↔ (∃ t ∈ pcs x p, t.2.1 = q) ∨ ∃ t ∈ pcs y p, t.2.1 = q := by
  unfold endsOf
  rw [endsL_mem]
  simp only [List.mem_map, List.mem_append]
  constructor
  · rintro ⟨t, h | h, e⟩
    · exact .inl ⟨t, h, e⟩
    · exact .inr ⟨t, h, e⟩
  · rintro (⟨t, h, e⟩ | ⟨t, h, e⟩)
    · exact ⟨t, .inl h, e⟩
    · exact ⟨t, .inr h, e⟩
/-- sooner at a place: sooner where the turn that reaches it ends -/
theorem isS_up {x y : Pl} (oy : OkP y) {p : Int} {f : Rat} (hf : 1 ≤ f) (h : isS x y p f = true) : ∃ q, (∃ t ∈ pcs x p, t.2.1 = q) ∧ f ≤ q ∧ isS x y p q = true := by
  unfold isS at h
  cases hx : wkd x p f with
  | none => rw [hx] at h; cases h
  | some a =>
    rw [hx] at h
    obtain ⟨j, hj, _, e1, e2, rfl, e3⟩ := wk_some _ _ _ _ _ _ _ hx
    have e3' : ∀ l (hl : l < x.2.1.length), l < j → x.2.1[l].1 = p → x.2.1[l].2 < f := fun l hl a b => e3 l hl (by omega) a b
    obtain ⟨t, ht, et⟩ := first_piece hf hj e1 e2 e3'
    have le : f ≤ x.2.1[j].2 := Rat.not_lt.mp e2
    have wx : wkd x p x.2.1[j].2 = some (bs x.2.2 x.2.1 j + x.2.1[j].2) := wk_first _ _ _ _ hj e1 (by grind) (fun l hl a b => by
      have := e3' l hl a b
      grind) _ _ (by omega) (by omega)
    refine ⟨x.2.1[j].2, ⟨t, ht, et⟩, le, ?_⟩
    unfold isS
    rw [wx]
    cases hy2 : wkd y p x.2.1[j].2 with
    | none => rfl
    | some b =>
      obtain ⟨l, hl, _, f1, f2, rfl, f3⟩ := wk_some _ _ _ _ _ _ _ hy2
      cases hy : wkd y p f with
      | none =>
        have := (wk_none _ _ _ _ _ _ (by omega)).mp hy l hl (by omega) f1
        grind
      | some b =>
        rw [hy] at h
        obtain ⟨l0, hl0, _, g1, g2, rfl, g3⟩ := wk_some _ _ _ _ _ _ _ hy
        have h' : bs x.2.2 x.2.1 j + f < bs y.2.2 y.2.1 l0 + f := by simpa using h
        have l0l : l0 ≤ l := by
          rcases Nat.lt_or_ge l l0 with z | z
          · have := g3 l hl (by omega) z f1
            grind
          · exact z
        have mono := bs_mono oy (i := l0) (l - l0) (by omega)
        rw [show l0 + (l - l0) = l by omega] at mono
        show decide (bs x.2.2 x.2.1 j + x.2.1[j].2 < bs y.2.2 y.2.1 l + x.2.1[j].2) = true
        apply decide_eq_true
        grind
theorem worse_sby {x y : Pl} (ox : OkP x) (oy : OkP y) (hs : ∀ u ∈ y.2.1, u ∈ x.2.1) : (sby x y).isEmpty = !worse x y := by
  have r1 := ox.r1
  have key : sby x y = [] ↔ worse x y = false := by
    unfold sby
    rw [sbyN_nil, ← Bool.not_eq_true, worse, List.any_eq_true]
    constructor
    · rintro h ⟨t, ht, e⟩
      rw [Bool.and_eq_true] at e
      obtain ⟨q, hq, le, e2⟩ := isS_up oy (of_decide_eq_true e.1) e.2
      have ot := ox.t t ht
      have lo := ot.lo
      have hi := ot.hi
      have z := h t.1.toNat (by omega) q
      rw [show ((t.1.toNat : Nat) : Int) = t.1 by omega] at z
      rw [z (endsOf_mem.mpr (.inl hq))] at e2
      cases e2
    · intro h p hp q hq
      cases e : isS x y (p : Nat) q with
      | false => rfl
      | true =>
        exfalso
        apply h
        rcases endsOf_mem.mp hq with ⟨t, ht, rfl⟩ | ⟨t, ht, rfl⟩
        · obtain ⟨u, hu, e1, e2, e3⟩ := pcs_hi ox ht
          exact ⟨u, hu, by rw [e1, e2, e]; simp [e3]⟩
        · obtain ⟨u, hu, e1, e2, e3⟩ := pcs_hi oy ht
          exact ⟨u, hs u hu, by rw [e1, e2, e]; simp [e3]⟩
  cases w : worse x y with
  | false => simp [key.mpr w]
  | true =>
    have : sby x y ≠ [] := fun z => by rw [key.mp z] at w; cases w
    cases z : sby x y with
    | nil => exact absurd z this
    | cons a b => rfl
end WR

namespace WR
open PySem PySem.Spec PyProof.Rows L2
/-! ### what the stretches mean -/
abbrev Asc (L : List Rat) : Prop := L.Pairwise (· < ·)
theorem low1_cons (a : Rat) (t : List Rat) (q : Rat) : low1 (a :: t) q = if a < q then low1 t q + 1 else low1 t q := by
  unfold low1
  by_cases h : a < q
  · simp [h]
  · simp [h]
theorem low1_split {L : List Rat} (hL : Asc L) (q : Rat) : (∀ o ∈ L.take (low1 L q), o < q) ∧ ∀ o ∈ L.drop (low1 L q), q ≤ o := by
  induction L with
  | nil => simp
  | cons a t ih =>
    obtain ⟨h1, h2⟩ := List.pairwise_cons.mp hL
    obtain ⟨i1, i2⟩ := ih h2
    rw [low1_cons]
    by_cases h : a < q
    · rw [if_pos h]
      refine ⟨fun o ho => ?_, fun o ho => i2 o (by simpa using ho)⟩
      rw [List.take_succ_cons, List.mem_cons] at ho
      rcases ho with rfl | ho
      · exact h
      · exact i1 o ho
    · rw [if_neg h]
      have z : low1 t q = 0 := by
        unfold low1
        rw [List.length_eq_zero_iff, List.filter_eq_nil_iff]
        intro o ho
        have := h1 o ho
        simp only [decide_eq_true_eq]
        grind
      rw [z]
      refine ⟨by simp, fun o ho => ?_⟩
      rw [List.drop_zero, List.mem_cons] at ho
      rcases ho with rfl | ho
      · grind
      · have := h1 o ho
        grind
theorem ins1_asc {L : List Rat} (hL : Asc L) (q : Rat) : Asc (ins1 L q) := by
  unfold ins1
  split
  · exact hL
  · rename_i hq
    obtain ⟨s1, s2⟩ := low1_split hL q
    have tk := hL.sublist (List.take_sublist (low1 L q) L)
    have dr := hL.sublist (List.drop_sublist (low1 L q) L)
    have dq : ∀ o ∈ L.drop (low1 L q), q < o := fun o ho => by
      have := s2 o ho
      have ne : o ≠ q := fun z => hq (z ▸ List.mem_of_mem_drop ho)
      grind
    rw [List.append_assoc, Asc, List.pairwise_append]
    refine ⟨tk, ?_, fun a ha b hb => ?_⟩
    · rw [List.singleton_append, List.pairwise_cons]
      exact ⟨dq, dr⟩
    · rw [List.singleton_append, List.mem_cons] at hb
      have := s1 a ha
      rcases hb with rfl | hb
      · exact this
      · have := dq b hb
        grind
theorem foldl_asc (hs : List Rat) : ∀ L, Asc L → Asc (hs.foldl ins1 L) := by
  induction hs with
  | nil => intro L h; exact h
  | cons a hs ih => intro L h; exact ih _ (ins1_asc h a)
theorem endsOf_asc (x y : Pl) (p : Int) : Asc (endsOf x y p) := foldl_asc _ [] (by simp [Asc])
theorem endsOf_one {x y : Pl} (ox : OkP x) (oy : OkP y) {p : Int} {q : Rat} (h : q ∈ endsOf x y p) : 1 ≤ q := by
  rcases endsOf_mem.mp h with ⟨t, ht, rfl⟩ | ⟨t, ht, rfl⟩
  · obtain ⟨u, _, _, _, e⟩ := pcs_hi ox ht; exact e
  · obtain ⟨u, _, _, _, e⟩ := pcs_hi oy ht; exact e
/-- between two ends the turn is the same -/
theorem wkd_flat {x : Pl} {p : Int} {f e : Rat} (hf : 1 ≤ f) (fe : f ≤ e) (hx : ∀ t ∈ pcs x p, f ≤ t.2.1 → e ≤ t.2.1) : (wkd x p f = none ∧ wkd x p e = none) ∨ ∃ b, wkd x p f = some (b + f) ∧ wkd x p e = some (b + e) := by
  cases h : wkd x p f with
  | none =>
    refine .inl ⟨rfl, ?_⟩
    have z := (wk_none _ _ _ _ _ _ (by omega)).mp h
    exact (wk_none _ _ _ _ _ _ (by omega)).mpr fun l hl h0 h1 => by
      have := z l hl h0 h1
      grind
  | some a =>
    right
    obtain ⟨j, hj, _, e1, e2, rfl, e3⟩ := wk_some _ _ _ _ _ _ _ h
    have e3' : ∀ l (hl : l < x.2.1.length), l < j → x.2.1[l].1 = p → x.2.1[l].2 < f := fun l hl a b => e3 l hl (by omega) a b
    obtain ⟨t, ht, et⟩ := first_piece hf hj e1 e2 e3'
    have k := hx t ht (by rw [et]; exact Rat.not_lt.mp e2)
    rw [et] at k
    refine ⟨_, rfl, wk_first _ _ _ _ hj e1 (Rat.not_lt.mpr k) (fun l hl a b => ?_) _ _ (by omega) (by omega)⟩
    have := e3' l hl a b
    grind
theorem isS_flat {x y : Pl} {p : Int} {f e : Rat} (hf : 1 ≤ f) (fe : f ≤ e) (h : ∀ q ∈ endsOf x y p, f ≤ q → e ≤ q) : isS x y p f = isS x y p e := by
  have a := wkd_flat (x := x) (p := p) hf fe fun t ht z => h _ (endsOf_mem.mpr (.inl ⟨t, ht, rfl⟩)) z
  have b := wkd_flat (x := y) (p := p) hf fe fun t ht z => h _ (endsOf_mem.mpr (.inr ⟨t, ht, rfl⟩)) z
  unfold isS
  rcases a with ⟨a1, a2⟩ | ⟨u, a1, a2⟩
  · rw [a1, a2]
  · rcases b with ⟨b1, b2⟩ | ⟨v, b1, b2⟩
    · rw [a1, a2, b1, b2]
    · rw [a1, a2, b1, b2]
      have : (u + f < v + f) ↔ (u + e < v + e) := by grind
      simp only [this]
theorem isS_beyond {x y : Pl} {p : Int} {f : Rat} (hf : 1 ≤ f) (h : ∀ q ∈ endsOf x y p, q < f) : isS x y p f = false := by
  cases e : isS x y p f with
  | false => rfl
  | true =>
    unfold isS at e
    cases h1 : wkd x p f with
    | none => rw [h1] at e; cases e
    | some a =>
      obtain ⟨j, hj, _, e1, e2, rfl, e3⟩ := wk_some _ _ _ _ _ _ _ h1
      obtain ⟨t, ht, et⟩ := first_piece hf hj e1 e2 (fun l hl a b => e3 l hl (by omega) a b)
      have := h _ (endsOf_mem.mpr (.inl ⟨t, ht, et⟩))
      exact absurd this e2
/-- a place in one of some stretches -/
def ins_ (L : List SV) (p : Int) (f : Rat) : Bool := L.any fun s => decide (s.1 = p) && (decide (s.2.1 < f) && !decide (s.2.2 < f))
def cov (S : Rat → Bool) : List Rat → Rat → Rat → Prop
  | [], _, _ => False
  | e :: t, l, f => (S e = true ∧ l < f ∧ f ≤ e) ∨ cov S t e f
theorem ins_mem (L : List SV) (p : Int) (f : Rat) : ins_ L p f = true ↔ ∃ s ∈ L, s.1 = p ∧ s.2.1 < f ∧ f ≤ s.2.2 := by
  simp [ins_, List.any_eq_true, Rat.not_lt]
theorem ins_app (L M : List SV) (p : Int) (f : Rat) : ins_ (L ++ M) p f = true ↔ ins_ L p f = true ∨ ins_ M p f = true := by
  simp only [ins_mem, List.mem_append]
  constructor
  · rintro ⟨s, h | h, e⟩
    · exact .inl ⟨s, h, e⟩
    · exact .inr ⟨s, h, e⟩
  · rintro (⟨s, h, e⟩ | ⟨s, h, e⟩)
    · exact ⟨s, .inl h, e⟩
    · exact ⟨s, .inr h, e⟩
theorem ins_clo (p : Int) (l : Rat) (b : Option Rat) (f0 : List SV) (f : Rat) : ins_ (clo p l b f0) p f = true ↔ ins_ f0 p f = true ∨ ∃ b', b = some b' ∧ b' < f ∧ f ≤ l := by
  cases b with
  | none => simp [clo]
  | some b => simp only [clo, ins_app]; simp [ins_, Rat.not_lt]
theorem run_ins (S : Rat → Bool) (p : Int) (f : Rat) : ∀ (E : List Rat) (l : Rat) (b : Option Rat) (f0 : List SV), Asc E → (∀ e ∈ E, l < e) → (∀ b', b = some b' → b' < l) → (ins_ (run S p E l b f0) p f = true ↔ ins_ f0 p f = true ∨ (∃ b', b = some b' ∧ b' < f ∧ f ≤ l) ∨ cov S E l f)
  | [], l, b, f0, _, _, _ => by simp only [run, ins_clo, cov, or_false]
  | e :: t, l, b, f0, hA, hl, hb => by
    obtain ⟨h1, h2⟩ := List.pairwise_cons.mp hA
    have le := hl e (by simp)
    simp only [run]
    by_cases q : S e = true
    · rw [if_pos q, run_ins S p f t e _ f0 h2 h1 (fun b' z => by
        cases b with
        | none => cases z; exact le
        | some c => cases z; have := hb c rfl; simp; grind)]
      simp only [cov, q, true_and, Option.some.injEq, exists_eq_left']
      cases b with
      | none => simp
      | some c =>
        have := hb c rfl
        simp only [Option.getD_some, Option.some.injEq, exists_eq_left']
        constructor
        · rintro (z | z | z)
          · exact .inl z
          · by_cases y : f ≤ l
            · exact .inr (.inl ⟨z.1, y⟩)
            · exact .inr (.inr (.inl ⟨by grind, z.2⟩))
          · exact .inr (.inr (.inr z))
        · rintro (z | z | z | z)
          · exact .inl z
          · exact .inr (.inl ⟨z.1, by grind⟩)
          · exact .inr (.inl ⟨by grind, z.2⟩)
          · exact .inr (.inr z)
    · rw [if_neg q, run_ins S p f t e none _ h2 h1 (fun b' z => by cases z), ins_clo]
      have q' : S e = false := by simpa using q
      simp [cov, q', or_assoc]
theorem clo_mem {p : Int} {l : Rat} {b : Option Rat} {f : List SV} {s : SV} (h : s ∈ clo p l b f) : s ∈ f ∨ s.1 = p := by
  cases b with
  | none => exact .inl h
  | some b =>
    rcases List.mem_append.mp h with z | z
    · exact .inl z
    · simp at z; subst z; exact .inr rfl
theorem run_mem (S : Rat → Bool) (p : Int) : ∀ (E : List Rat) (l : Rat) (b : Option Rat) (f : List SV) (s : SV), s ∈ run S p E l b f → s ∈ f ∨ s.1 = p
  | [], l, b, f, s, h => clo_mem h
  | e :: t, l, b, f, s, h => by
    simp only [run] at h
    split at h
    · exact run_mem S p t e _ f s h
    · rcases run_mem S p t e _ _ s h with z | z
      · exact clo_mem z
      · exact .inr z
theorem run_sub (S : Rat → Bool) (p : Int) : ∀ (E : List Rat) (l : Rat) (b : Option Rat) (f : List SV) (s : SV), s ∈ f → s ∈ run S p E l b f
  | [], l, b, f, s, h => by cases b <;> simp [run, clo, h]
  | e :: t, l, b, f, s, h => by
    simp only [run]
    split
    · exact run_sub S p t e _ f s h
    · refine run_sub S p t e _ _ s ?_
      cases b <;> simp [clo, h]
theorem sbyN_road (x y : Pl) : ∀ (i : Nat) (s : SV), s ∈ sbyN x y i → ∃ j : Nat, j < i ∧ s.1 = j
  | 0, s, h => by simp [sbyN] at h
  | i + 1, s, h => by
    rcases run_mem _ _ _ _ _ _ s h with z | z
    · obtain ⟨j, a, b⟩ := sbyN_road x y i s z
      exact ⟨j, by omega, b⟩
    · exact ⟨i, by omega, z⟩
theorem cov_low (S : Rat → Bool) (f : Rat) : ∀ (E : List Rat) (l : Rat), Asc E → (∀ e ∈ E, l < e) → cov S E l f → l < f
  | [], l, _, _, h => h.elim
  | e :: t, l, hA, hl, h => by
    obtain ⟨h1, h2⟩ := List.pairwise_cons.mp hA
    rcases h with h | h
    · exact h.2.1
    · have := cov_low S f t e h2 h1 h
      have := hl e (by simp)
      grind
theorem cov_isS {x y : Pl} {p : Int} {f : Rat} (hf : 1 ≤ f) : ∀ (E : List Rat) (l : Rat), Asc E → (∀ e ∈ E, l < e) → l < f → (∀ q ∈ endsOf x y p, q ≤ l ∨ q ∈ E) → (∀ q ∈ E, q ∈ endsOf x y p) → (cov (isS x y p) E l f ↔ isS x y p f = true)
  | [], l, _, _, lf, hq, _ => by
    have : isS x y p f = false := isS_beyond hf fun q hq' => by
      rcases hq q hq' with z | z
      · grind
      · cases z
    simp [cov, this]
  | e :: t, l, hA, hl, lf, hq, hs => by
    obtain ⟨h1, h2⟩ := List.pairwise_cons.mp hA
    have le := hl e (by simp)
    by_cases fe : f ≤ e
    · have c : ¬ cov (isS x y p) t e f := fun z => by
        have := cov_low _ f t e h2 h1 z
        grind
      have fl := isS_flat (x := x) (y := y) (p := p) hf fe fun q hq' fq' => by
        rcases hq q hq' with z | z
        · grind
        · rcases List.mem_cons.mp z with rfl | z
          · exact Rat.le_refl
          · exact Rat.le_of_lt (h1 q z)
      simp only [cov, c, or_false]
      rw [fl]
      exact ⟨fun z => z.1, fun z => ⟨z, lf, fe⟩⟩
    · have ih := cov_isS (x := x) (y := y) (p := p) hf t e h2 h1 (by grind) (fun q hq' => by
        rcases hq q hq' with z | z
        · exact .inl (by grind)
        · rcases List.mem_cons.mp z with rfl | z
          · exact .inl Rat.le_refl
          · exact .inr z) (fun q z => hs q (List.mem_cons_of_mem _ z))
      simp only [cov, fe, and_false, false_or]
      exact ih
theorem sby_isS {x y : Pl} (ox : OkP x) (oy : OkP y) {p : Nat} (hp : (p : Int) < x.1) {f : Rat} (hf : 1 ≤ f) : ins_ (sby x y) (p : Nat) f = isS x y (p : Nat) f := by
  have r1 := ox.r1
  have key : ∀ i, p < i → (ins_ (sbyN x y i) (p : Nat) f = true ↔ isS x y (p : Nat) f = true) := by
    intro i
    induction i with
    | zero => intro h; omega
    | succ i ih =>
      intro h
      by_cases q : p = i
      · subst q
        have e1 : ∀ e ∈ endsOf x y (p : Nat), (0 : Rat) < e := fun e he => by
          have := endsOf_one ox oy he
          grind
        rw [sbyN, run_ins _ _ _ _ _ _ _ (endsOf_asc _ _ _) e1 (fun b' z => by cases z), cov_isS hf _ _ (endsOf_asc _ _ _) e1 (by grind) (fun q z => .inr z) (fun q z => z)]
        have : ¬ ins_ (sbyN x y p) (p : Nat) f = true := fun z => by
          obtain ⟨s, hs, e, _⟩ := (ins_mem _ _ _).mp z
          obtain ⟨j, hj, e2⟩ := sbyN_road x y p s hs
          omega
        simp [this]
      · rw [← ih (by omega), ins_mem, ins_mem]
        constructor
        · rintro ⟨s, hs, e⟩
          rcases run_mem _ _ _ _ _ _ s hs with z | z
          · exact ⟨s, z, e⟩
          · have := e.1; omega
        · rintro ⟨s, hs, e⟩
          exact ⟨s, run_sub _ _ _ _ _ _ s hs, e⟩
  have k := key x.1.toNat (by omega)
  unfold sby
  cases h : isS x y (p : Nat) f with
  | true => exact k.mpr h
  | false =>
    cases h2 : ins_ (sbyN x y x.1.toNat) (p : Nat) f with
    | false => rfl
    | true => rw [k.mp h2] at h; cases h
/-! they rise and do not touch -/
structure GS (f : List SV) : Prop where
  pw : f.Pairwise fun s t => s.1 < t.1 ∨ (s.1 = t.1 ∧ s.2.2 < t.2.1)
  ok : ∀ s ∈ f, s.2.1 < s.2.2 ∧ (s.2.1 = 0 ∨ 1 ≤ s.2.1)
theorem clo_good {p : Int} {l : Rat} {b : Option Rat} {f : List SV} (hb : ∀ b', b = some b' → b' < l ∧ (b' = 0 ∨ 1 ≤ b')) (g : GS f) (hf : ∀ s ∈ f, s.1 < p ∨ (s.1 = p ∧ s.2.2 < b.getD l)) : GS (clo p l b f) := by
  cases b with
  | none => exact g
  | some b =>
    obtain ⟨h1, h2⟩ := hb b rfl
    refine ⟨?_, fun s hs => ?_⟩
    · show (f ++ [(p, b, l)]).Pairwise _
      rw [List.pairwise_append]
      refine ⟨g.pw, by simp, fun s hs t ht => ?_⟩
      simp at ht; subst ht
      exact hf s hs
    · rcases List.mem_append.mp hs with z | z
      · exact g.ok s z
      · simp at z; subst z; exact ⟨h1, h2⟩
theorem run_good (S : Rat → Bool) (p : Int) : ∀ (E : List Rat) (l : Rat) (b : Option Rat) (f : List SV), Asc E → (∀ e ∈ E, l < e ∧ 1 ≤ e) → (l = 0 ∨ 1 ≤ l) → (∀ b', b = some b' → b' < l ∧ (b' = 0 ∨ 1 ≤ b')) → GS f → (∀ s ∈ f, s.1 < p ∨ (s.1 = p ∧ s.2.2 < b.getD l)) → GS (run S p E l b f)
  | [], l, b, f, _, _, _, hb, g, hf => clo_good hb g hf
  | e :: t, l, b, f, hA, hl, h0, hb, g, hf => by
    obtain ⟨h1, h2⟩ := List.pairwise_cons.mp hA
    obtain ⟨le, e1⟩ := hl e (by simp)
    have ht : ∀ e' ∈ t, e < e' ∧ 1 ≤ e' := fun e' z => ⟨h1 e' z, (hl e' (List.mem_cons_of_mem _ z)).2⟩
    simp only [run]
    split
    · refine run_good S p t e _ f h2 ht (.inr e1) (fun b' z => ?_) g (fun s hs => ?_)
      · cases b with
        | none => cases z; exact ⟨le, h0⟩
        | some c => cases z; have := hb c rfl; exact ⟨by simp; grind, this.2⟩
      · have := hf s hs
        simpa using this
    · refine run_good S p t e none _ h2 ht (.inr e1) (fun b' z => by cases z) (clo_good hb g hf) (fun s hs => ?_)
      simp only [Option.getD_none]
      cases b with
      | none =>
        rcases hf s hs with z | ⟨z1, z2⟩
        · exact .inl z
        · exact .inr ⟨z1, by simp at z2; grind⟩
      | some c =>
        rcases List.mem_append.mp hs with z | z
        · rcases hf s z with z | ⟨z1, z2⟩
          · exact .inl z
          · have := (hb c rfl).1
            exact .inr ⟨z1, by simp at z2; grind⟩
        · simp at z; subst z; exact .inr ⟨rfl, le⟩
theorem sby_good {x y : Pl} (ox : OkP x) (oy : OkP y) : GS (sby x y) := by
  unfold sby
  generalize x.1.toNat = n
  induction n with
  | zero => exact ⟨by simp [sbyN], by simp [sbyN]⟩
  | succ i ih =>
    refine run_good _ _ _ _ _ _ (endsOf_asc _ _ _) (fun e he => ?_) (.inl rfl) (fun b' z => by cases z) ih (fun s hs => ?_)
    · have := endsOf_one ox oy he
      exact ⟨by grind, this⟩
    · obtain ⟨j, hj, e⟩ := sbyN_road x y i s hs
      exact .inl (by omega)
/-- how fine their ends are -/
theorem clo_src {p : Int} {l : Rat} {b : Option Rat} {f : List SV} {P : Rat → Prop} (hl : P l) (hb : ∀ b', b = some b' → P b') (hf : ∀ s ∈ f, P s.2.1 ∧ P s.2.2) : ∀ s ∈ clo p l b f, P s.2.1 ∧ P s.2.2 := by
  cases b with
  | none => exact hf
  | some b =>
    intro s hs
    rcases List.mem_append.mp hs with z | z
    · exact hf s z
    · simp at z; subst z; exact ⟨hb b rfl, hl⟩
theorem run_src (S : Rat → Bool) (p : Int) {P : Rat → Prop} : ∀ (E : List Rat) (l : Rat) (b : Option Rat) (f : List SV), (∀ e ∈ E, P e) → P l → (∀ b', b = some b' → P b') → (∀ s ∈ f, P s.2.1 ∧ P s.2.2) → ∀ s ∈ run S p E l b f, P s.2.1 ∧ P s.2.2
  | [], l, b, f, _, hl, hb, hf => clo_src hl hb hf
  | e :: t, l, b, f, hE, hl, hb, hf => by
    have he := hE e (by simp)
    have ht : ∀ e' ∈ t, P e' := fun e' z => hE e' (List.mem_cons_of_mem _ z)
    simp only [run]
    split
    · refine run_src S p t e _ f ht he (fun b' z => ?_) hf
      cases b with
      | none => cases z; exact hl
      | some c => cases z; exact hb c rfl
    · exact run_src S p t e none _ ht he (fun b' z => by cases z) (clo_src hl hb hf)
theorem sby_sm {x y : Pl} (ox : OkP x) (oy : OkP y) : ∀ s ∈ sby x y, Sm 50 s.2.1 ∧ Sm 50 s.2.2 := by
  unfold sby
  generalize x.1.toNat = n
  induction n with
  | zero => simp [sbyN]
  | succ i ih => exact run_src _ _ (P := Sm 50) _ _ _ _ (fun e he => endsOf_sm ox oy he) (sm0.mono (by decide)) (fun b' z => by cases z) ih
theorem sby_len {x y : Pl} (ox : OkP x) (oy : OkP y) : (sby x y).length ≤ 605 := by
  have := sbyN_len ox oy x.1.toNat
  have := ox.r2
  have := ox.r1
  unfold sby; omega
end WR

namespace WR
open PySem PySem.Spec PyProof.Rows L2
/-! ### in order -/
abbrev Up (L : List Rat) : Prop := L.Pairwise (· ≤ ·)
def cntLe (L : List Rat) (q : Rat) : Nat := (L.filter fun o => !decide (q < o)).length
def insO (L : List Rat) (q : Rat) : List Rat := L.take (cntLe L q) ++ [q] ++ L.drop (cntLe L q)
def srt (L : List Rat) : List Rat := L.foldl insO []
theorem cntLe_cons (a : Rat) (t : List Rat) (q : Rat) : cntLe (a :: t) q = if q < a then cntLe t q else cntLe t q + 1 := by
  unfold cntLe
  by_cases h : q < a <;> simp [h]
theorem cntLe_le (L : List Rat) (q : Rat) : cntLe L q ≤ L.length := List.length_filter_le _ _
theorem cntLe_split {L : List Rat} (hL : Up L) (q : Rat) : (∀ o ∈ L.take (cntLe L q), o ≤ q) ∧ ∀ o ∈ L.drop (cntLe L q), q ≤ o := by
  induction L with
  | nil => simp
  | cons a t ih =>
    obtain ⟨h1, h2⟩ := List.pairwise_cons.mp hL
    obtain ⟨i1, i2⟩ := ih h2
    rw [cntLe_cons]
    by_cases h : q < a
    · rw [if_pos h]
      have z : cntLe t q = 0 := by
        unfold cntLe
        rw [List.length_eq_zero_iff, List.filter_eq_nil_iff]
        intro o ho
        have := h1 o ho
        have : q < o := by grind
        simp [this]
      rw [z]
      refine ⟨by simp, fun o ho => ?_⟩
      rw [List.drop_zero, List.mem_cons] at ho
      rcases ho with rfl | ho
      · grind
      · have := h1 o ho
        grind
    · rw [if_neg h]
      refine ⟨fun o ho => ?_, fun o ho => i2 o (by simpa using ho)⟩
      rw [List.take_succ_cons, List.mem_cons] at ho
      rcases ho with rfl | ho
      · grind
      · exact i1 o ho
theorem insO_up {L : List Rat} (hL : Up L) (q : Rat) : Up (insO L q) := by
  unfold insO
  obtain ⟨s1, s2⟩ := cntLe_split hL q
  have tk := hL.sublist (List.take_sublist (cntLe L q) L)
  have dr := hL.sublist (List.drop_sublist (cntLe L q) L)
  rw [List.append_assoc, Up, List.pairwise_append]
  refine ⟨tk, ?_, fun a ha b hb => ?_⟩
  · rw [List.singleton_append, List.pairwise_cons]
    exact ⟨s2, dr⟩
  · rw [List.singleton_append, List.mem_cons] at hb
    have := s1 a ha
    rcases hb with rfl | hb
    · exact this
    · have := s2 b hb
      grind
theorem insO_perm (L : List Rat) (q : Rat) : (insO L q).Perm (q :: L) := by
  unfold insO
  have h : (L.take (cntLe L q) ++ [q] ++ L.drop (cntLe L q)).Perm (q :: (L.take (cntLe L q) ++ L.drop (cntLe L q))) := by
    rw [List.append_assoc, List.singleton_append]
    exact List.perm_middle
  rwa [List.take_append_drop] at h
theorem foldl_insO (L : List Rat) : ∀ M, Up M → Up (L.foldl insO M) ∧ (L.foldl insO M).Perm (L ++ M) := by
  induction L with
  | nil => intro M h; exact ⟨h, .refl _⟩
  | cons a L ih =>
    intro M h
    obtain ⟨h1, h2⟩ := ih (insO M a) (insO_up h a)
    refine ⟨h1, h2.trans ?_⟩
    exact ((insO_perm M a).append_left L).trans List.perm_middle
theorem srt_up (L : List Rat) : Up (srt L) := (foldl_insO L [] (by simp [Up])).1
theorem srt_perm (L : List Rat) : (srt L).Perm L := by
  have := (foldl_insO L [] (by simp [Up])).2
  simpa [srt] using this
theorem srt_len (L : List Rat) : (srt L).length = L.length := (srt_perm L).length_eq
theorem up_eq {L M : List Rat} (hL : Up L) (hM : Up M) (h : L.Perm M) : L = M :=
  List.Perm.eq_of_pairwise (le := (· ≤ ·)) (fun a b _ _ h1 h2 => Rat.le_antisymm h1 h2) hL hM h
theorem srt_mem {L : List Rat} {q : Rat} : q ∈ srt L ↔ q ∈ L := (srt_perm L).mem_iff
theorem srt_map (L : List Rat) (f : Rat) : srt (L.map (· + f)) = (srt L).map (· + f) := by
  refine up_eq (srt_up _) ?_ ((srt_perm _).trans ((srt_perm L).symm.map _))
  rw [Up, List.pairwise_map]
  exact (srt_up L).imp fun h => by grind
/-- the least of some -/
theorem lq_le (qs : List Rat) : ∀ a, lq qs a ≤ a ∧ ∀ q ∈ qs, lq qs a ≤ q := by
  induction qs with
  | nil => intro a; exact ⟨Rat.le_refl, by simp⟩
  | cons q qs ih =>
    intro a
    have e : lq (q :: qs) a = lq qs (mn a q) := rfl
    obtain ⟨h1, h2⟩ := ih (mn a q)
    have m1 : mn a q ≤ a := by unfold mn; split <;> grind
    have m2 : mn a q ≤ q := by unfold mn; split <;> grind
    rw [e]
    refine ⟨by grind, fun r hr => ?_⟩
    rcases List.mem_cons.mp hr with rfl | hr
    · grind
    · exact h2 r hr
theorem lq_in (qs : List Rat) : ∀ a, lq qs a = a ∨ lq qs a ∈ qs := by
  induction qs with
  | nil => intro a; exact .inl rfl
  | cons q qs ih =>
    intro a
    have : lq (q :: qs) a = lq qs (mn a q) := rfl
    rw [this]
    rcases ih (mn a q) with z | z
    · rw [z]
      unfold mn; split
      · exact .inr (by simp)
      · exact .inl rfl
    · exact .inr (List.mem_cons_of_mem _ z)
theorem srt_head (a : Rat) (L : List Rat) : ∃ t, srt (a :: L) = lq (a :: L) a :: t := by
  have hm : lq (a :: L) a ∈ a :: L := by
    rcases lq_in (a :: L) a with z | z
    · rw [z]; simp
    · exact z
  have hle := (lq_le (a :: L) a).2
  cases z : srt (a :: L) with
  | nil =>
    have := srt_len (a :: L)
    rw [z] at this; simp at this
  | cons b t =>
    have up := srt_up (a :: L)
    rw [z] at up
    obtain ⟨h1, _⟩ := List.pairwise_cons.mp up
    have b1 : b ∈ a :: L := srt_mem.mp (by rw [z]; simp)
    have b2 := hle b b1
    have b3 : lq (a :: L) a ∈ b :: t := by rw [← z]; exact srt_mem.mpr hm
    have b4 : b ≤ lq (a :: L) a := by
      rcases List.mem_cons.mp b3 with e | e
      · rw [e]; exact Rat.le_refl
      · exact h1 _ e
    exact ⟨t, by rw [Rat.le_antisymm b2 b4]⟩
theorem srt_erase (a : Rat) (L : List Rat) : srt ((a :: L).erase (lq (a :: L) a)) = (srt (a :: L)).tail := by
  obtain ⟨t, e⟩ := srt_head a L
  have up := srt_up (a :: L)
  rw [e] at up ⊢
  refine up_eq (srt_up _) (List.pairwise_cons.mp up).2 ((srt_perm _).trans ?_)
  have p := (srt_perm (a :: L)).symm.erase (lq (a :: L) a)
  rw [e] at p
  rw [List.tail_cons]
  rw [List.erase_cons_head] at p
  exact p
/-! ### times -/
def tms (xs : List Pl) (p : Int) (f : Rat) : List Rat := xs.filterMap fun x => wkd x p f
def tm (xs : List Pl) (m : Nat) (p : Int) (f : Rat) : Option Rat := (srt (tms xs p f))[m]?
/-- the pieces at a place, for those a little behind it -/
def pb (x : Pl) (p : Int) (l : Rat) : List (Rat × Rat × Rat) := (pcs x p).filter fun t => !decide (l < t.1) && decide (l < t.2.1)
def bb (xs : List Pl) (p : Int) (l : Rat) : List Rat := xs.flatMap fun x => (pb x p l).map (·.2.2)
def nr (xs : List Pl) (m : Nat) (p : Int) (l : Rat) : Option Rat := ((srt (bb xs p l))[m]?).map fun b => 1 + b / l
def ow_ (xs : List Pl) (m : Nat) (p : Int) (l : Rat) : Option Rat := (tm xs m p l).map (· / l)
theorem filter_one {α : Type} (P : α → Bool) : ∀ (L : List α) (k : Nat) (t : α), L[k]? = some t → P t = true → (∀ k' t', L[k']? = some t' → P t' = true → k' = k) → L.filter P = [t]
  | [], k, t, h, _, _ => by simp at h
  | a :: L, 0, t, h, hp, hu => by
    simp at h; subst h
    rw [List.filter_cons_of_pos hp]
    congr 1
    rw [List.filter_eq_nil_iff]
    intro b hb
    obtain ⟨k', hk'⟩ := List.mem_iff_getElem?.mp hb
    intro z
    have := hu (k' + 1) b (by simpa using hk') z
    omega
  | a :: L, k + 1, t, h, hp, hu => by
    have na : ¬ P a = true := fun z => by
      have := hu 0 a rfl z
      omega
    rw [List.filter_cons_of_neg na]
    exact filter_one P L k t (by simpa using h) hp fun k' t' h' p' => by
      have := hu (k' + 1) t' (by simpa using h') p'
      omega
theorem pc_top {x : Pl} {p : Int} {i l : Nat} (hi : i ≤ x.2.1.length) {q : Rat} (hq : 0 ≤ q) (h : ∀ l (hl : l < x.2.1.length), l < i → x.2.1[l].1 = p → x.2.1[l].2 ≤ q) : (pc x.2.2 x.2.1 p i).1 ≤ q := by
  rcases pc_src x.2.2 x.2.1 p i hi with z | ⟨l, hl, a, b, c⟩
  · rw [z]; exact hq
  · rw [c]; exact h l hl a b
/-- a little behind a place: the piece tells the walk -/
theorem pb_wkd {x : Pl} {p : Int} {l f : Rat} (hl : 1 ≤ l) (lf : l < f) (gap : ∀ t ∈ x.2.1, t.1 = p → t.2 ≤ l ∨ f ≤ t.2) :
    (wkd x p f = none ∧ (pb x p l).map (·.2.2) = []) ∨ ∃ b, wkd x p f = some (b + f) ∧ (pb x p l).map (·.2.2) = [b] := by
  cases h : wkd x p f with
  | none =>
    refine .inl ⟨rfl, ?_⟩
    have z := (wk_none _ _ _ _ _ _ (by omega)).mp h
    unfold pb
    rw [List.map_eq_nil_iff, List.filter_eq_nil_iff]
    intro t ht y
    obtain ⟨k, hk⟩ := List.mem_iff_getElem?.mp ht
    obtain ⟨j, hj, _, e1, e2, _, _, _⟩ := pc_get x.2.2 x.2.1 p _ (Nat.le_refl _) k t hk
    simp only [Bool.and_eq_true, Bool.not_eq_true', decide_eq_false_iff_not, decide_eq_true_eq] at y
    have y2 := y.2
    rw [e2] at y2
    have a := z j hj (by omega) e1
    rcases gap _ (List.getElem_mem hj) e1 with w | w
    · simp only at y2; grind
    · grind
  | some a =>
    right
    obtain ⟨j, hj, _, e1, e2, rfl, e3⟩ := wk_some _ _ _ _ _ _ _ h
    have e3' : ∀ i (hi : i < x.2.1.length), i < j → x.2.1[i].1 = p → x.2.1[i].2 ≤ l := fun i hi ij ip => by
      have := e3 i hi (by omega) ij ip
      rcases gap _ (List.getElem_mem hi) ip with w | w
      · exact w
      · grind
    have e2' : f ≤ x.2.1[j].2 := Rat.not_lt.mp e2
    have top : (pc x.2.2 x.2.1 p j).1 ≤ l := pc_top (l := 0) (by omega) (by grind) e3'
    have lt : (pc x.2.2 x.2.1 p j).1 < x.2.1[j].2 := by grind
    have n1 : ¬ x.2.1[j].2 < 1 := by grind
    have e := pc_succ x.2.2 x.2.1 p hj
    rw [if_pos ⟨e1, lt⟩, if_neg n1] at e
    have m : (mx (pc x.2.2 x.2.1 p j).1 1, x.2.1[j].2, bs x.2.2 x.2.1 j) ∈ (pc x.2.2 x.2.1 p (j + 1)).2 := by rw [e]; simp
    have kk := pc_keep x.2.2 x.2.1 p m (x.2.1.length - (j + 1)) (by omega)
    rw [show j + 1 + (x.2.1.length - (j + 1)) = x.2.1.length by omega] at kk
    obtain ⟨k, hk⟩ := List.mem_iff_getElem?.mp kk
    have mxl : mx (pc x.2.2 x.2.1 p j).1 1 ≤ l := by unfold mx; split <;> grind
    have only : ∀ k' t', (pcs x p)[k']? = some t' → (!decide (l < t'.1) && decide (l < t'.2.1)) = true → ∃ (hj' : j < x.2.1.length), t' = (mx (pc x.2.2 x.2.1 p j).1 1, x.2.1[j].2, bs x.2.2 x.2.1 j) ∧ k' = (pc x.2.2 x.2.1 p j).2.length := by
      intro k' t' hk' hp'
      obtain ⟨j', hj', _, f1, f2, f3, f4, f5⟩ := pc_get x.2.2 x.2.1 p _ (Nat.le_refl _) k' t' hk'
      simp only [Bool.and_eq_true, Bool.not_eq_true', decide_eq_false_iff_not, decide_eq_true_eq] at hp'
      obtain ⟨p1, p2⟩ := hp'
      rw [f2] at p1 p2
      simp only at p1 p2
      have jj : j' = j := by
        rcases Nat.lt_trichotomy j' j with z | z | z
        · have := e3' j' hj' z f1
          grind
        · exact z
        · have g := pc_ge x.2.2 x.2.1 p j' (by omega) j hj z e1
          have : (pc x.2.2 x.2.1 p j').1 ≤ mx (pc x.2.2 x.2.1 p j').1 1 := by unfold mx; split <;> grind
          grind
      subst jj
      exact ⟨hj, f2, f5.symm⟩
    have P0 : (!decide (l < mx (pc x.2.2 x.2.1 p j).1 1) && decide (l < x.2.1[j].2)) = true := by
      have a : ¬ l < mx (pc x.2.2 x.2.1 p j).1 1 := by grind
      have b : l < x.2.1[j].2 := by grind
      simp [a, b]
    refine ⟨bs x.2.2 x.2.1 j, rfl, ?_⟩
    unfold pb
    rw [filter_one _ (pcs x p) k _ hk P0 fun k' t' h' p' => by
      obtain ⟨_, _, a⟩ := only k' t' h' p'
      obtain ⟨_, _, b⟩ := only k _ hk P0
      omega]
    rfl
/-- no turn ends between -/
def Gap (xs : List Pl) (p : Int) (l f : Rat) : Prop := ∀ x ∈ xs, ∀ t ∈ x.2.1, t.1 = p → t.2 ≤ l ∨ f ≤ t.2
theorem tms_bb {xs : List Pl} {p : Int} {l f : Rat} (hl : 1 ≤ l) (lf : l < f) (gap : Gap xs p l f) : tms xs p f = (bb xs p l).map (· + f) := by
  induction xs with
  | nil => rfl
  | cons x xs ih =>
    have ih := ih fun y hy => gap y (List.mem_cons_of_mem _ hy)
    have e1 : tms (x :: xs) p f = (match wkd x p f with | none => tms xs p f | some w => w :: tms xs p f) := by
      unfold tms
      rw [List.filterMap_cons]
      cases wkd x p f <;> rfl
    have e2 : bb (x :: xs) p l = (pb x p l).map (·.2.2) ++ bb xs p l := by unfold bb; rw [List.flatMap_cons]
    rw [e1, e2, List.map_append, ← ih]
    rcases pb_wkd hl lf (gap x (by simp)) with ⟨a, b⟩ | ⟨c, a, b⟩
    · rw [a, b]; rfl
    · rw [a, b]; rfl
theorem tm_bb {xs : List Pl} {m : Nat} {p : Int} {l f : Rat} (hl : 1 ≤ l) (lf : l < f) (gap : Gap xs p l f) : tm xs m p f = ((srt (bb xs p l))[m]?).map (· + f) := by
  unfold tm
  rw [tms_bb hl lf gap, srt_map, List.getElem?_map]
theorem bb_nonneg {xs : List Pl} (ox : ∀ x ∈ xs, OkP x) {p : Int} {l b : Rat} (h : b ∈ bb xs p l) : 0 ≤ b ∧ Sm 3841 b := by
  unfold bb at h
  rw [List.mem_flatMap] at h
  obtain ⟨x, hx, h⟩ := h
  obtain ⟨t, ht, rfl⟩ := List.mem_map.mp h
  have ht' := (List.mem_filter.mp ht).1
  obtain ⟨k, hk⟩ := List.mem_iff_getElem?.mp ht'
  obtain ⟨j, hj, _, _, e2, _, _, _⟩ := pc_get x.2.2 x.2.1 p _ (Nat.le_refl _) k t hk
  have o := ox x hx
  have nn := o.n
  rw [e2]
  exact ⟨(bs_nonneg o j (by omega)).1, (bs_sm o j (by omega)).mono (by omega)⟩
theorem nth_mem {L : List Rat} {m : Nat} {b : Rat} (h : (srt L)[m]? = some b) : b ∈ L := srt_mem.mp (List.mem_of_getElem? h)
/-- what is walked, by the piece behind the place before -/
theorem own_le {xs : List Pl} (ox : ∀ x ∈ xs, OkP x) {m : Nat} {p : Int} {l f w : Rat} (hl : 1 ≤ l) (lf : l < f) (gap : Gap xs p l f) (h : tm xs m p f = some w) : ∃ v, nr xs m p l = some v ∧ w / f ≤ v := by
  rw [tm_bb hl lf gap] at h
  cases e : (srt (bb xs p l))[m]? with
  | none => rw [e] at h; cases h
  | some b =>
    rw [e] at h
    simp at h
    subst h
    refine ⟨1 + b / l, by unfold nr; rw [e]; rfl, ?_⟩
    have b0 := (bb_nonneg ox (nth_mem e)).1
    rw [div_one_add (by grind)]
    have := div_anti b0 (show 0 < l by grind) (show l ≤ f by grind)
    grind
theorem near_eq {xs : List Pl} {m : Nat} {p : Int} {l t : Rat} (hl : 1 ≤ l) (ht : 0 < t) (gap : Gap xs p l (l + t)) : (tm xs m p (l + t)).map (fun w => (w + -t) / l) = nr xs m p l := by
  rw [tm_bb hl (by grind) gap]
  unfold nr
  cases (srt (bb xs p l))[m]? with
  | none => rfl
  | some b =>
    simp only [Option.map_some]
    have e : b + (l + t) + -t = b + l := by grind
    rw [e, div_one_add (by grind)]
end WR

namespace WR
open PySem PySem.Spec PyProof.Rows L2
/-! ### the law's ends, the program's -/
def rcs (xs : List Pl) (p : Int) : List Rat := xs.flatMap fun x => (x.2.1.filter fun t => decide (t.1 = p) && !decide (t.2 < 1)).map (·.2)
def lends (xs : List Pl) (p : Int) : List Rat := (rcs xs p).foldl ins1 [1]
theorem rcs_mem {xs : List Pl} {p : Int} {q : Rat} : q ∈ rcs xs p ↔ ∃ x ∈ xs, ∃ t ∈ x.2.1, t.1 = p ∧ 1 ≤ t.2 ∧ t.2 = q := by
  unfold rcs
  rw [List.mem_flatMap]
  constructor
  · rintro ⟨x, hx, h⟩
    obtain ⟨t, ht, rfl⟩ := List.mem_map.mp h
    obtain ⟨h1, h2⟩ := List.mem_filter.mp ht
    simp only [Bool.and_eq_true, decide_eq_true_eq, Bool.not_eq_true', decide_eq_false_iff_not] at h2
    exact ⟨x, hx, t, h1, h2.1, Rat.not_lt.mp h2.2, rfl⟩
  · rintro ⟨x, hx, t, ht, h1, h2, rfl⟩
    refine ⟨x, hx, List.mem_map.mpr ⟨t, List.mem_filter.mpr ⟨ht, ?_⟩, rfl⟩⟩
    simp [h1, Rat.not_lt.mpr h2]
theorem lends_mem {xs : List Pl} {p : Int} {q : Rat} : q ∈ lends xs p ↔ q = 1 ∨ q ∈ rcs xs p := by
  unfold lends
  rw [foldl_mem]; simp
theorem lends_asc (xs : List Pl) (p : Int) : Asc (lends xs p) := foldl_asc _ _ (by simp [Asc])
theorem lends_one {xs : List Pl} {p : Int} {q : Rat} (h : q ∈ lends xs p) : 1 ≤ q := by
  rcases lends_mem.mp h with rfl | h
  · exact Rat.le_refl
  · obtain ⟨_, _, _, _, _, h1, rfl⟩ := rcs_mem.mp h; exact h1
def addU (L : List Rat) (e : Rat) : List Rat := if e ∈ L then L else L ++ [e]
def pe2 (xs : List Pl) (p : Int) : List Rat := xs.flatMap fun x => (pcs x p).flatMap fun t => [t.1, t.2.1]
def lw (xs : List Pl) (p : Int) : List Rat := (pe2 xs p).foldl addU [1]
def lows (xs : List Pl) (p : Int) : List Rat := srt (lw xs p)
theorem addU_mem {L : List Rat} {e q : Rat} : q ∈ addU L e ↔ q ∈ L ∨ q = e := by
  unfold addU; split
  · constructor
    · exact .inl
    · rintro (a | rfl)
      · exact a
      · assumption
  · simp
theorem addU_nd {L : List Rat} {e : Rat} (h : L.Nodup) : (addU L e).Nodup := by
  unfold addU; split
  · exact h
  · rename_i hn
    rw [List.nodup_append]
    exact ⟨h, by simp, fun a ha b hb => by simp at hb; subst hb; exact fun z => hn (z ▸ ha)⟩
theorem foldl_addU (hs : List Rat) : ∀ L, (L.Nodup → (hs.foldl addU L).Nodup) ∧ ∀ q, q ∈ hs.foldl addU L ↔ q ∈ L ∨ q ∈ hs := by
  induction hs with
  | nil => intro L; exact ⟨id, fun q => by simp⟩
  | cons a hs ih =>
    intro L
    obtain ⟨h1, h2⟩ := ih (addU L a)
    refine ⟨fun h => h1 (addU_nd h), fun q => ?_⟩
    rw [List.foldl_cons, h2, addU_mem, List.mem_cons]
    grind
theorem lows_mem {xs : List Pl} {p : Int} {q : Rat} : q ∈ lows xs p ↔ q = 1 ∨ ∃ x ∈ xs, ∃ t ∈ pcs x p, q = t.1 ∨ q = t.2.1 := by
  unfold lows lw
  rw [srt_mem, (foldl_addU _ _).2]
  simp [pe2, List.mem_flatMap]
theorem lows_asc (xs : List Pl) (p : Int) : Asc (lows xs p) := by
  have nd : (lows xs p).Nodup := ((srt_perm _).nodup_iff).mpr ((foldl_addU _ _).1 (by simp))
  have up : Up (lows xs p) := srt_up _
  have := List.Pairwise.and up nd
  exact this.imp fun ⟨a, b⟩ => by grind
theorem pcs_lo {x : Pl} (o : OkP x) {p : Int} {t : Rat × Rat × Rat} (h : t ∈ pcs x p) : t.1 = 1 ∨ ∃ u ∈ x.2.1, u.1 = p ∧ u.2 = t.1 ∧ 1 ≤ t.1 := by
  obtain ⟨k, hk⟩ := List.mem_iff_getElem?.mp h
  obtain ⟨j, hj, _, e1, e2, _, e3, _⟩ := pc_get x.2.2 x.2.1 p _ (Nat.le_refl _) k t hk
  have e : t.1 = mx (pc x.2.2 x.2.1 p j).1 1 := by rw [e2]
  rw [e]
  unfold mx
  split
  · exact .inl rfl
  · rename_i z
    right
    have one : 1 ≤ (pc x.2.2 x.2.1 p j).1 := Rat.not_lt.mp z
    rcases pc_src x.2.2 x.2.1 p j (by omega) with y | ⟨l, hl, a, b, c⟩
    · rw [y] at one; grind
    · exact ⟨x.2.1[l], List.getElem_mem hl, b, c.symm, one⟩
theorem lows_sub {xs : List Pl} (ox : ∀ x ∈ xs, OkP x) {p : Int} {q : Rat} (h : q ∈ lows xs p) : q ∈ lends xs p := by
  rw [lends_mem]
  rcases lows_mem.mp h with rfl | ⟨x, hx, t, ht, rfl | rfl⟩
  · exact .inl rfl
  · rcases pcs_lo (ox x hx) ht with z | ⟨u, hu, a, b, c⟩
    · exact .inl z
    · exact .inr (rcs_mem.mpr ⟨x, hx, u, hu, a, by rw [b]; exact c, b⟩)
  · obtain ⟨u, hu, a, b, c⟩ := pcs_hi (ox x hx) ht
    exact .inr (rcs_mem.mpr ⟨x, hx, u, hu, a, by rw [b]; exact c, b⟩)
/-! ### the best -/
abbrev BT := Option (Rat × Int × Rat)
def up3 (b : BT) (c : Option Rat) (p : Int) (l : Rat) : BT := match c with
  | none => b
  | some v => (match b with
    | none => some (v, p, l)
    | some w => if w.1 < v then some (v, p, l) else some w)
def cmx (n o : Option Rat) : Option Rat := match o with
  | none => n
  | some h => (match n with
    | none => some h
    | some v => if v < h then some h else some v)
def cL (xs : List Pl) (m : Nat) (p : Int) (l : Rat) : Option Rat := cmx (nr xs m p l) (ow_ xs m p l)
def cP (xs : List Pl) (m : Nat) (p : Int) (l : Rat) : Option Rat := if l = 1 then cL xs m p l else nr xs m p l
def ge3 (b : BT) (v : Rat) : Prop := ∃ w, b = some w ∧ v ≤ w.1
theorem up3_ge (b : BT) {c : Option Rat} {p : Int} {l v : Rat} (h : c = some v) : ge3 (up3 b c p l) v := by
  subst h
  cases b with
  | none => exact ⟨_, rfl, Rat.le_refl⟩
  | some w =>
    unfold up3
    simp only
    split
    · exact ⟨_, rfl, Rat.le_refl⟩
    · exact ⟨_, rfl, by grind⟩
theorem up3_mono {b : BT} {v : Rat} (h : ge3 b v) (c : Option Rat) (p : Int) (l : Rat) : ge3 (up3 b c p l) v := by
  obtain ⟨w, rfl, hv⟩ := h
  cases c with
  | none => exact ⟨w, rfl, hv⟩
  | some u =>
    unfold up3
    simp only
    split
    · exact ⟨_, rfl, by grind⟩
    · exact ⟨_, rfl, hv⟩
theorem up3_no {b : BT} {c : Option Rat} {p : Int} {l : Rat} (h : ∀ v, c = some v → ge3 b v) : up3 b c p l = b := by
  cases c with
  | none => rfl
  | some v =>
    obtain ⟨w, rfl, hv⟩ := h v rfl
    unfold up3
    simp only
    rw [if_neg (by grind)]
theorem cmx_no {b : BT} {n o : Option Rat} {p : Int} {l : Rat} (h : ∀ v, o = some v → ge3 b v) : up3 b (cmx n o) p l = up3 b n p l := by
  cases o with
  | none => rfl
  | some v =>
    obtain ⟨w, rfl, hv⟩ := h v rfl
    cases n with
    | none =>
      show up3 (some w) (some v) p l = some w
      exact up3_no fun u hu => by cases hu; exact ⟨w, rfl, hv⟩
    | some u =>
      unfold cmx
      simp only
      split
      · rw [up3_no (c := some v) fun u hu => by cases hu; exact ⟨w, rfl, hv⟩, up3_no (c := some u) fun u hu => by cases hu; exact ⟨w, rfl, by grind⟩]
      · rfl
theorem cmx_n {n o : Option Rat} {v : Rat} (h : n = some v) : ∃ u, cmx n o = some u ∧ v ≤ u := by
  subst h
  cases o with
  | none => exact ⟨v, rfl, Rat.le_refl⟩
  | some w =>
    unfold cmx; simp only
    split
    · exact ⟨w, rfl, by grind⟩
    · exact ⟨v, rfl, Rat.le_refl⟩
theorem cmx_o {n o : Option Rat} {v : Rat} (h : o = some v) : ∃ u, cmx n o = some u ∧ v ≤ u := by
  subst h
  cases n with
  | none => exact ⟨v, rfl, Rat.le_refl⟩
  | some w =>
    unfold cmx; simp only
    split
    · exact ⟨v, rfl, Rat.le_refl⟩
    · exact ⟨w, rfl, by grind⟩
def fL (xs : List Pl) (m : Nat) (p : Int) (E : List Rat) (b : BT) : BT := E.foldl (fun b l => up3 b (cL xs m p l) p l) b
def fP (xs : List Pl) (m : Nat) (p : Int) (E : List Rat) (b : BT) : BT := E.foldl (fun b l => up3 b (cP xs m p l) p l) b
theorem gap_of {xs : List Pl} {p : Int} {l e : Rat} {E : List Rat} (hl : 1 ≤ l) (h : ∀ q ∈ rcs xs p, q ≤ l ∨ q ∈ E) (hE : ∀ q ∈ E, e ≤ q) : Gap xs p l e := by
  intro x hx t ht tp
  by_cases c : t.2 ≤ l
  · exact .inl c
  · rcases h t.2 (rcs_mem.mpr ⟨x, hx, t, ht, tp, by grind, rfl⟩) with z | z
    · exact .inl z
    · exact .inr (hE _ z)
theorem fm_congr {α β : Type} {f g : α → List β} : ∀ {ys : List α}, (∀ x ∈ ys, f x = g x) → ys.flatMap f = ys.flatMap g
  | [], _ => rfl
  | y :: ys, h => by
    rw [List.flatMap_cons, List.flatMap_cons, h y (by simp), fm_congr fun x hx => h x (List.mem_cons_of_mem _ hx)]
theorem bb_same {xs : List Pl} (ox : ∀ x ∈ xs, OkP x) {p : Int} {l e : Rat} (le : l < e) (h : ∀ q ∈ lows xs p, q ≤ l ∨ e < q) : bb xs p e = bb xs p l := by
  unfold bb
  refine fm_congr fun x hx => ?_
  congr 1
  unfold pb
  apply List.filter_congr
  intro t ht
  have a := h t.1 (lows_mem.mpr (.inr ⟨x, hx, t, ht, .inl rfl⟩))
  have b := h t.2.1 (lows_mem.mpr (.inr ⟨x, hx, t, ht, .inr rfl⟩))
  have e1 : (e < t.1) ↔ (l < t.1) := ⟨fun z => by grind, fun z => by rcases a with y | y <;> grind⟩
  have e2 : (e < t.2.1) ↔ (l < t.2.1) := ⟨fun z => by grind, fun z => by rcases b with y | y <;> grind⟩
  simp only [e1, e2]
theorem fold_same {xs : List Pl} (ox : ∀ x ∈ xs, OkP x) {m : Nat} {p : Int} : ∀ (E : List Rat) (l : Rat) (b : BT), Asc E → (∀ e ∈ E, l < e) → 1 ≤ l → (∀ q ∈ rcs xs p, q ≤ l ∨ q ∈ E) → (∀ v, nr xs m p l = some v → ge3 b v) →
    fL xs m p E b = fP xs m p (E.filter fun e => decide (e ∈ lows xs p)) b
  | [], l, b, _, _, _, _, _ => rfl
  | e :: t, l, b, hA, hl, l1, hr, hb => by
    obtain ⟨h1, h2⟩ := List.pairwise_cons.mp hA
    have le := hl e (by simp)
    have gap : Gap xs p l e := gap_of l1 hr fun q hq => by
      rcases List.mem_cons.mp hq with rfl | z
      · exact Rat.le_refl
      · exact Rat.le_of_lt (h1 q z)
    have own : ∀ v, ow_ xs m p e = some v → ge3 b v := fun v hv => by
      unfold ow_ at hv
      cases z : tm xs m p e with
      | none => rw [z] at hv; cases hv
      | some w =>
        rw [z] at hv
        simp at hv
        obtain ⟨u, hu, hle⟩ := own_le ox l1 le gap z
        obtain ⟨y, rfl, hy⟩ := hb u hu
        exact ⟨y, rfl, by rw [← hv]; grind⟩
    have e1 : ¬ e = 1 := fun z => by grind
    have hr' : ∀ q ∈ rcs xs p, q ≤ e ∨ q ∈ t := fun q hq => by
      rcases hr q hq with z | z
      · exact .inl (by grind)
      · rcases List.mem_cons.mp z with rfl | z
        · exact .inl Rat.le_refl
        · exact .inr z
    show fL xs m p t (up3 b (cL xs m p e) p e) = _
    have cl : up3 b (cL xs m p e) p e = up3 b (nr xs m p e) p e := cmx_no own
    rw [cl]
    by_cases q : e ∈ lows xs p
    · rw [List.filter_cons_of_pos (by simpa using q)]
      show _ = fP xs m p (t.filter fun e => decide (e ∈ lows xs p)) (up3 b (cP xs m p e) p e)
      have cp : cP xs m p e = nr xs m p e := if_neg e1
      rw [cp]
      exact fold_same ox t e _ h2 h1 (by grind) hr' fun v hv => up3_ge b hv
    · rw [List.filter_cons_of_neg (by simpa using q)]
      have bs : bb xs p e = bb xs p l := bb_same ox le fun u hu => by
        rcases lends_mem.mp (lows_sub ox hu) with z | z
        · exact .inl (by grind)
        · rcases hr u z with y | y
          · exact .inl y
          · rcases List.mem_cons.mp y with rfl | y
            · exact absurd hu q
            · exact .inr (h1 u y)
      have no : ∀ v, nr xs m p e = some v → ge3 b v := fun v hv => by
        unfold nr at hv
        rw [bs] at hv
        cases z : (srt (bb xs p l))[m]? with
        | none => rw [z] at hv; cases hv
        | some c =>
          rw [z] at hv
          simp at hv
          have c0 := (bb_nonneg ox (nth_mem z)).1
          obtain ⟨y, rfl, hy⟩ := hb (1 + c / l) (by unfold nr; rw [z]; rfl)
          have := div_anti c0 (show 0 < l by grind) (show l ≤ e by grind)
          exact ⟨y, rfl, by grind⟩
      rw [up3_no no]
      exact fold_same ox t e b h2 h1 (by grind) hr' no
theorem asc_eq {L M : List Rat} (hL : Asc L) (hM : Asc M) (h : ∀ q, q ∈ L ↔ q ∈ M) : L = M := by
  have ndL : L.Nodup := hL.imp fun h => by grind
  have ndM : M.Nodup := hM.imp fun h => by grind
  exact up_eq (hL.imp fun h => Rat.le_of_lt h) (hM.imp fun h => Rat.le_of_lt h) ((List.perm_ext_iff_of_nodup ndL ndM).mpr h)
theorem lends_head (xs : List Pl) (p : Int) : ∃ E, lends xs p = 1 :: E := by
  have m : (1 : Rat) ∈ lends xs p := lends_mem.mpr (.inl rfl)
  cases z : lends xs p with
  | nil => rw [z] at m; cases m
  | cons a E =>
    have asc := lends_asc xs p
    rw [z] at asc m
    obtain ⟨h1, _⟩ := List.pairwise_cons.mp asc
    rcases List.mem_cons.mp m with e | e
    · exact ⟨E, by rw [e]⟩
    · have := h1 1 e
      have := lends_one (xs := xs) (p := p) (q := a) (by rw [z]; simp)
      grind
theorem best_same {xs : List Pl} (ox : ∀ x ∈ xs, OkP x) (m : Nat) (p : Int) (b : BT) : fL xs m p (lends xs p) b = fP xs m p (lows xs p) b := by
  obtain ⟨E, e⟩ := lends_head xs p
  have asc := lends_asc xs p
  have f : (lends xs p).filter (fun e => decide (e ∈ lows xs p)) = lows xs p := by
    refine asc_eq (asc.sublist List.filter_sublist) (lows_asc xs p) fun q => ?_
    rw [List.mem_filter]
    constructor
    · rintro ⟨_, h⟩; simpa using h
    · exact fun h => ⟨lows_sub ox h, by simpa using h⟩
  rw [e] at asc f
  obtain ⟨h1, h2⟩ := List.pairwise_cons.mp asc
  have one : (1 : Rat) ∈ lows xs p := lows_mem.mpr (.inl rfl)
  rw [List.filter_cons_of_pos (by simpa using one)] at f
  have key := fold_same ox (m := m) (p := p) E 1 (up3 b (cL xs m p 1) p 1) h2 h1 Rat.le_refl (fun q hq => by
    have := lends_mem.mpr (.inr hq : q = 1 ∨ q ∈ rcs xs p)
    rw [e] at this
    rcases List.mem_cons.mp this with rfl | z
    · exact .inl Rat.le_refl
    · exact .inr z) (fun v hv => by
    obtain ⟨u, hu, hle⟩ := cmx_n (o := ow_ xs m p 1) hv
    obtain ⟨w, hw, h'⟩ := up3_ge b (p := p) (l := 1) hu
    exact ⟨w, hw, by grind⟩)
  have f' : fP xs m p (lows xs p) b = fP xs m p (1 :: E.filter fun e => decide (e ∈ lows xs p)) b := congrArg (fun L => fP xs m p L b) f.symm
  rw [e, f']
  show fL xs m p E (up3 b (cL xs m p 1) p 1) = fP xs m p (E.filter fun e => decide (e ∈ lows xs p)) (up3 b (cP xs m p 1) p 1)
  have c1 : cP xs m p 1 = cL xs m p 1 := if_pos rfl
  rw [c1]
  exact key
/-! ### no place is worse -/
theorem fL_mono {xs : List Pl} {m : Nat} {p : Int} {v : Rat} : ∀ (E : List Rat) (b : BT), ge3 b v → ge3 (fL xs m p E b) v
  | [], _, h => h
  | e :: t, b, h => fL_mono t _ (up3_mono h _ _ _)
theorem fL_all {xs : List Pl} {m : Nat} {p : Int} : ∀ (E : List Rat) (b : BT) (e v : Rat), e ∈ E → cL xs m p e = some v → ge3 (fL xs m p E b) v
  | a :: t, b, e, v, he, hv => by
    rcases List.mem_cons.mp he with rfl | z
    · exact fL_mono t _ (up3_ge b hv)
    · exact fL_all t _ e v z hv
theorem seek {xs : List Pl} {p : Int} {f : Rat} : ∀ (E : List Rat) (l : Rat), Asc E → (∀ e ∈ E, l < e) → 1 ≤ l → l < f → (∀ q ∈ rcs xs p, q ≤ l ∨ q ∈ E) → ∃ l' ∈ l :: E, 1 ≤ l' ∧ l' < f ∧ Gap xs p l' f
  | [], l, _, _, l1, lf, hr => ⟨l, by simp, l1, lf, gap_of l1 hr (by simp)⟩
  | e :: t, l, hA, hl, l1, lf, hr => by
    obtain ⟨h1, h2⟩ := List.pairwise_cons.mp hA
    have le := hl e (by simp)
    by_cases c : f ≤ e
    · refine ⟨l, by simp, l1, lf, gap_of l1 hr fun q hq => ?_⟩
      rcases List.mem_cons.mp hq with rfl | z
      · exact c
      · have := h1 q z; grind
    · obtain ⟨l', a, b⟩ := seek (xs := xs) (p := p) (f := f) t e h2 h1 (by grind) (by grind) (fun q hq => by
        rcases hr q hq with z | z
        · exact .inl (by grind)
        · rcases List.mem_cons.mp z with rfl | z
          · exact .inl Rat.le_refl
          · exact .inr z)
      exact ⟨l', List.mem_cons_of_mem _ a, b⟩
theorem no_worse {xs : List Pl} (ox : ∀ x ∈ xs, OkP x) {m : Nat} {p : Int} {f w : Rat} (b : BT) (hf : 1 ≤ f) (h : tm xs m p f = some w) : ge3 (fL xs m p (lends xs p) b) (w / f) := by
  by_cases c : f = 1
  · subst c
    have o : ow_ xs m p 1 = some (w / 1) := by unfold ow_; rw [h]; rfl
    obtain ⟨u, hu, hle⟩ := cmx_o (n := nr xs m p 1) o
    obtain ⟨y, hy, h'⟩ := fL_all (lends xs p) b 1 u (lends_mem.mpr (.inl rfl)) hu
    exact ⟨y, hy, by grind⟩
  · obtain ⟨E, e⟩ := lends_head xs p
    have asc := lends_asc xs p
    rw [e] at asc
    obtain ⟨h1, h2⟩ := List.pairwise_cons.mp asc
    obtain ⟨l, a1, a2, a3, a4⟩ := seek (xs := xs) (p := p) (f := f) E 1 h2 h1 Rat.le_refl (by grind) (fun q hq => by
      have := lends_mem.mpr (.inr hq : q = 1 ∨ q ∈ rcs xs p)
      rw [e] at this
      rcases List.mem_cons.mp this with rfl | z
      · exact .inl Rat.le_refl
      · exact .inr z)
    obtain ⟨v, hv, hle⟩ := own_le ox a2 a3 a4 h
    obtain ⟨u, hu, hle2⟩ := cmx_n (o := ow_ xs m p l) hv
    obtain ⟨y, hy, h'⟩ := fL_all (lends xs p) b l u (by rw [e]; exact a1) hu
    exact ⟨y, hy, by grind⟩
/-- over all roads -/
def bR (xs : List Pl) (m : Nat) : Nat → BT
  | 0 => none
  | i + 1 => fL xs m (i : Nat) (lends xs (i : Nat)) (bR xs m i)
theorem bR_mono {xs : List Pl} {m i : Nat} {v : Rat} (h : ge3 (bR xs m i) v) : ∀ d, ge3 (bR xs m (i + d)) v
  | 0 => h
  | d + 1 => fL_mono _ _ (bR_mono h d)
theorem bR_all {xs : List Pl} (ox : ∀ x ∈ xs, OkP x) {m R p : Nat} (hp : p < R) {f w : Rat} (hf : 1 ≤ f) (h : tm xs m (p : Nat) f = some w) : ge3 (bR xs m R) (w / f) := by
  have a := no_worse ox (bR xs m p) hf h
  have b := bR_mono (i := p + 1) a (R - (p + 1))
  rwa [show p + 1 + (R - (p + 1)) = R by omega] at b
/-- where the best stands -/
theorem fL_src {xs : List Pl} {m : Nat} {p : Int} {P : Rat × Int × Rat → Prop} : ∀ (E : List Rat) (b : BT), (∀ w, b = some w → P w) → (∀ e ∈ E, ∀ v, cL xs m p e = some v → P (v, p, e)) → ∀ w, fL xs m p E b = some w → P w
  | [], b, hb, _, w, h => hb w h
  | e :: t, b, hb, hE, w, h => by
    refine fL_src t (up3 b (cL xs m p e) p e) (fun u hu => ?_) (fun e' he' => hE e' (List.mem_cons_of_mem _ he')) w h
    cases z : cL xs m p e with
    | none => rw [z] at hu; exact hb u hu
    | some v =>
      rw [z] at hu
      cases y : b with
      | none => rw [y] at hu; cases hu; exact hE e (by simp) v z
      | some x =>
        rw [y] at hu
        unfold up3 at hu
        simp only at hu
        split at hu
        · cases hu; exact hE e (by simp) v z
        · cases hu; exact hb _ y
end WR

namespace WR
open PySem PySem.Spec PyProof.Rows L2
/-- a comprehension over encoded items -/
theorem lc_enc {α : Type} {I : Fm → IH → Res ItF} {it : ItF} {g : TgF} {c : TX} {A : EX} {vs : List Nat} {r : Fm} {h base : IH} (enc : α → PV) (L : List α) (d : α) (F : α → PV) (b : α → Bool) (hn : L.length < 1000000) (hI : I r h = .ok it base)
    (hit : ∀ i t (hi : i < L.length), it i (base ++ t) = some (some (enc L[i]))) (hend : ∀ t, it L.length (base ++ t) = some none)
    (hv : ∀ a ∈ L, ∀ t, ∃ r1 t', g (enc a) (wipeF r vs) = some r1 ∧ c r1 (base ++ t) = .ok (b a) (base ++ (t ++ t')) ∧ (b a = true → ∃ t2, A r1 (base ++ (t ++ t')) = .ok (F a) (base ++ (t ++ (t' ++ t2))))) :
    ∃ t, eLc I g c A vs r h = .ok (.obj base.length) (base ++ .lst ((L.filter b).map F) :: t) := by
  obtain ⟨t, k⟩ := lc_all (I := I) (it := it) (g := g) (c := c) (A := A) (vs := vs) (r := r) (h := h) (base := base) (n := L.length) (fun i => F (L.getD i d)) (fun i => b (L.getD i d)) hn hI
    (fun i t hi => by
      have gd : L.getD i d = L[i] := by simp [hi]
      obtain ⟨r1, t', e1, e2, e3⟩ := hv L[i] (List.getElem_mem hi) t
      rw [gd]
      exact ⟨_, r1, t', hit i t hi, e1, e2, e3⟩) hend
  refine ⟨t, ?_⟩
  rw [k]
  have f := filt_range L d b
  have f2 : ((List.range L.length).filter fun i => b (L.getD i d)).map (fun i => F (L.getD i d)) = (L.filter b).map F := by rw [← f, List.map_map]; rfl
  rw [f2]
/-! ### the program: in order -/
theorem inorder_eq {L : List Rat} {N : Nat} (hN : N + N ≤ 9000) (hL : ∀ q ∈ L, Sm N q) (hl : L.length ≤ 1000) {n : Nat} {h : IH} (e : h[n]? = some (.lst (L.map fq))) :
    ∃ v g, f_in_order [.obj n] h = .ok v g ∧ ∃ m, v = .obj m ∧ Pre h g ∧ g[m]? = some (.lst ((srt L).map fq)) ∧ h.length ≤ m := by
  refine w_fn rfl ?_
  refine w_seq (w_set (v := .obj h.length) (h1 := h ++ [.lst []]) (by simp) ?_)
  refine w_seq (w_for (it := itObj n) (h1 := h ++ [.lst []]) L.length (fun i r g => ∃ a b c, r = [some (.obj n), some (.obj h.length), a, b, c] ∧ Pre h g ∧ g[h.length]? = some (.lst (((L.take i).foldl insO []).map fq)))
    (by simp [get_old (t := [.lst []]) e]) (by omega) ⟨none, none, none, rfl, Pre.of _ _, by simp⟩ ?_ ?_)
  · rintro i r g hi ⟨a, b, c, rfl, P, q1⟩
    have hM : ∀ q ∈ (L.take i).foldl insO [], Sm N q := fun q hq => hL q (List.mem_of_mem_take (((foldl_insO (L.take i) [] (by simp [Up])).2.mem_iff.mp hq |> fun z => by simpa using z)))
    have hlen : ((L.take i).foldl insO []).length ≤ 1000 := by
      have := (foldl_insO (L.take i) [] (by simp [Up])).2.length_eq
      simp at this; omega
    have es : (L.take (i + 1)).foldl insO [] = insO ((L.take i).foldl insO []) L[i] := by
      rw [List.take_succ_eq_append_getElem hi, List.foldl_append]; rfl
    rw [es]
    have sq := hL _ (List.getElem_mem hi)
    generalize (L.take i).foldl insO [] = M at hM hlen q1 ⊢
    refine ⟨fq L[i], _, by simp [P.get e, hi], rfl, ?_⟩
    generalize L[i] = q at sq ⊢
    have e1 : ∀ t, (g ++ t)[h.length]? = some (.lst (M.map fq)) := fun t => get_old q1
    obtain ⟨t, lc⟩ := lc_enc (I := eIter (eVar 1)) (it := itObj h.length) (g := gVar 4) (c := tNotX (tTru (eCall f_is_less (aCons (eVar 2) (aCons (eVar 4) aNil))))) (A := eVar 4) (vs := [4]) (r := [some (.obj n), some (.obj h.length), some (fq q), b, c]) (h := g) (base := g) fq M 0 fq (fun o => !decide (q < o)) (by omega) (by simp [q1]) (fun j t hj => by simp [e1, hj]) (fun t => by simp [e1])
      (fun o ho t => ⟨[some (.obj n), some (.obj h.length), some (fq q), b, some (fq o)], [], rfl, by have l := less_eq sq (hM o ho) hN (g ++ t); simp [l], fun _ => ⟨[], by simp⟩⟩)
    refine w_seq (w_set (v := .int (cntLe M q)) (h1 := g ++ .lst ((M.filter fun o => !decide (q < o)).map fq) :: t) ?_ ?_)
    · have lc' : eLc (eIter (eVar 1)) (gVar 4) (tNotX (tTru (eCall f_is_less (aCons (eVar 2) (aCons (eVar 4) aNil))))) (eVar 4) [4] ([some (.obj n), some (.obj h.length), a, b, c].set 2 (some (fq q))) g = _ := lc
      simp only [eB, aCons, lc', Res.bind, aNil]
      simp [cntLe]
    have q2 := get_old (t := .lst ((M.filter fun o => !decide (q < o)).map fq) :: t) q1
    have cl := cntLe_le M q
    refine w_expr (v := .non) (h1 := (g ++ .lst ((M.filter fun o => !decide (q < o)).map fq) :: t).set h.length (.lst ((insO M q).map fq))) ?_ ⟨_, _, _, rfl, (P.app _).set _ (Nat.le_refl _), get_set_eq q2⟩
    simp [q2, show M.length < 16777216 by omega, show (cntLe M q : Int) < 1000000000 by omega, insO, List.map_append, List.map_take, List.map_drop]
  · rintro r g ⟨a, b, c, rfl, P, q1⟩
    rw [List.take_length] at q1
    exact ⟨by simp [P.get e], w_ret (v := .obj h.length) (h1 := g) (by simp) ⟨_, rfl, P, q1, Nat.le_refl _⟩⟩
/-! ### the team -/
/-- the plans in the heap -/
def TP (L : List (Nat × Pl)) (h : IH) : Prop := ∀ q ∈ L, h[q.1]? = some (.ins "Plan" [("held", pq q.2)])
def tmv (L : List (Nat × Pl)) : PV := .tup (L.map fun q => .obj q.1)
def xsO (L : List (Nat × Pl)) : List Pl := L.map (·.2)
theorem TP.pre {L : List (Nat × Pl)} {h g : IH} (t : TP L h) (P : Pre h g) : TP L g := fun q hq => P.get (t q hq)
structure OkTm (L : List (Nat × Pl)) (R : Int) (m : Nat) : Prop where
  ne : 1 ≤ L.length
  le : L.length ≤ 4
  m : m < L.length
  ok : ∀ q ∈ L, OkP q.2 ∧ q.2.1 = R
  r1 : 1 ≤ R
  r2 : R ≤ 5
theorem OkTm.xs {L : List (Nat × Pl)} {R : Int} {m : Nat} (o : OkTm L R m) : ∀ x ∈ xsO L, OkP x := fun x hx => by
  obtain ⟨q, hq, rfl⟩ := List.mem_map.mp hx
  exact (o.ok q hq).1
theorem filt_oq {L : List (Nat × Pl)} {p : Int} {f : Rat} : ((L.map fun q => wkd q.2 p f).filter fun o => o.isSome).map oq = (tms (xsO L) p f).map fq := by
  induction L with
  | nil => rfl
  | cons q L ih =>
    have e : tms (xsO (q :: L)) p f = (match wkd q.2 p f with | none => tms (xsO L) p f | some w => w :: tms (xsO L) p f) := by
      unfold tms xsO
      rw [List.map_cons, List.filterMap_cons]
      cases wkd q.2 p f <;> rfl
    rw [e, List.map_cons]
    cases z : wkd q.2 p f with
    | none => rw [List.filter_cons_of_neg (by simp), ih]
    | some w => rw [List.filter_cons_of_pos (by simp), List.map_cons, ih]; rfl
theorem tms_sm {xs : List Pl} (ox : ∀ x ∈ xs, OkP x) {p : Int} {f : Rat} {F : Nat} (hf : Sm F f) : ∀ q ∈ tms xs p f, Sm (64 * 60 + 2 + F) q := by
  intro q hq
  unfold tms at hq
  obtain ⟨x, hx, e⟩ := List.mem_filterMap.mp hq
  exact wkd_sm (ox x hx) hf _ _ _ e
theorem tm_sm {xs : List Pl} (ox : ∀ x ∈ xs, OkP x) {p : Int} {m : Nat} {f : Rat} {F : Nat} (hf : Sm F f) {w : Rat} (h : tm xs m p f = some w) : Sm (64 * 60 + 2 + F) w := tms_sm ox hf w (nth_mem h)
theorem tms_len (L : List (Nat × Pl)) (p : Int) (f : Rat) : (tms (xsO L) p f).length ≤ L.length := by
  unfold tms
  have := List.length_filterMap_le (fun x => wkd x p f) (xsO L)
  simpa [xsO] using this
theorem teamtime_eq {L : List (Nat × Pl)} {R : Int} {m : Nat} (o : OkTm L R m) {h : IH} (T : TP L h) (p : Int) {f : Rat} {F : Nat} (hf : Sm F f) (hF : F ≤ 150) :
    ∃ v g, f_team_time [tmv L, .int m, .int p, fq f] h = .ok v g ∧ (v = oq (tm (xsO L) m p f) ∧ Pre h g) := by
  have le := o.le
  refine w_fn rfl ?_
  obtain ⟨t, lc⟩ := lc_enc (I := eIter (eVar 0)) (it := itList (L.map fun q => .obj q.1)) (g := gVar 6) (c := tYesX) (A := eCall f_walked_by (aCons (eVar 6) (aCons (eVar 2) (aCons (eVar 3) aNil)))) (vs := [6]) (r := [some (tmv L), some (.int m), some (.int p), some (fq f), none, none, none, none]) (h := h) (base := h) (fun q : Nat × Pl => .obj q.1) L (0, 0, [], 0) (fun q => oq (wkd q.2 p f)) (fun _ => true) (by omega) (by simp [tmv])
    (fun j t hj => by simp [hj]) (fun t => by simp)
    (fun q hq t => by
      obtain ⟨t2, e⟩ := walkedby_eq (o.ok q hq).1 (get_old (t := t) (T q hq)) p hf (by omega)
      exact ⟨[some (tmv L), some (.int m), some (.int p), some (fq f), none, none, some (.obj q.1), none], [], rfl, by simp, fun _ => ⟨t2, by simp [e]⟩⟩)
  rw [List.filter_eq_self.mpr (by simp)] at lc
  refine w_seq (w_set (v := .obj h.length) (h1 := h ++ .lst (L.map fun q => oq (wkd q.2 p f)) :: t) lc ?_)
  have P1 := Pre.of h (.lst (L.map fun q => oq (wkd q.2 p f)) :: t)
  have q1 : (h ++ .lst (L.map fun q => oq (wkd q.2 p f)) :: t)[h.length]? = some (.lst ((L.map fun q => wkd q.2 p f).map oq)) := by rw [List.map_map]; simp
  generalize h ++ .lst (L.map fun q => oq (wkd q.2 p f)) :: t = g1 at P1 q1
  have e1 : ∀ t, (g1 ++ t)[h.length]? = some (.lst ((L.map fun q => wkd q.2 p f).map oq)) := fun t => get_old q1
  obtain ⟨t2, lc2⟩ := lc_enc (I := eIter (eVar 4)) (it := itObj h.length) (g := gVar 7) (c := tBl (eOp pNotN (eVar 7) (eC .non))) (A := eVar 7) (vs := [7]) (r := [some (tmv L), some (.int m), some (.int p), some (fq f), some (.obj h.length), none, none, none]) (h := g1) (base := g1) oq (L.map fun q => wkd q.2 p f) none oq (fun w => w.isSome) (by simp; omega) (by simp [q1])
    (fun j t hj => by simp only [itObj, e1]; rw [List.getElem?_map, List.getElem?_eq_getElem hj]; rfl) (fun t => by simp only [itObj, e1]; simp)
    (fun w hw t => by
      cases w with
      | none => exact ⟨[some (tmv L), some (.int m), some (.int p), some (fq f), some (.obj h.length), none, none, some (oq none)], [], rfl, by rw [List.append_nil]; rfl, fun z => by cases z⟩
      | some w => exact ⟨[some (tmv L), some (.int m), some (.int p), some (fq f), some (.obj h.length), none, none, some (oq (some w))], [], rfl, by rw [List.append_nil]; rfl, fun _ => ⟨[], by simp⟩⟩)
  rw [filt_oq] at lc2
  have ox := o.xs
  have tl := tms_len L p f
  obtain ⟨v, g3, f3, m3, rfl, P3, q3, _⟩ := inorder_eq (N := 64 * 60 + 2 + F) (by omega) (tms_sm ox hf (p := p)) (by omega) (n := g1.length) (h := g1 ++ .lst ((tms (xsO L) p f).map fq) :: t2) (by simp)
  refine w_seq (w_set (v := .obj m3) (h1 := g3) ?_ ?_)
  · have lc2' : eLc (eIter (eVar 4)) (gVar 7) (tBl (eOp pNotN (eVar 7) (eC .non))) (eVar 7) [7] (List.set (List.map some [tmv L, PV.int m, PV.int p, fq f] ++ List.replicate 4 none) 4 (some (.obj h.length))) g1 = _ := lc2
    simp only [eCall, aCons, aNil, lc2', Res.bind, f3]
  have P := (P1.trans (Pre.of g1 _)).trans P3
  have sl := srt_len (tms (xsO L) p f)
  refine w_seq (w_if (b := decide ((srt (tms (xsO L) p f)).length ≤ m)) (h1 := g3) (by simp [q3]) (fun hb => ?_) (fun hb => w_nil ?_))
  · have hb' : (srt (tms (xsO L) p f)).length ≤ m := of_decide_eq_true hb
    exact w_ret (v := .non) (h1 := g3) rfl ⟨by unfold tm; rw [List.getElem?_eq_none hb']; rfl, P⟩
  · have hb' : m < (srt (tms (xsO L) p f)).length := by have := of_decide_eq_false hb; omega
    refine w_ret (v := fq (srt (tms (xsO L) p f))[m]) (h1 := g3) ?_ ⟨by unfold tm; rw [List.getElem?_eq_getElem hb']; rfl, P⟩
    have at1 : atI ((srt (tms (xsO L) p f)).map fq) (m : Int) = some (fq (srt (tms (xsO L) p f))[m]) := by
      rw [atI_pos _ _ (by omega) (by simp; omega)]; simp [hb']
    simp [q3, at1]
theorem team_ok {L : List (Nat × Pl)} {R : Int} {m : Nat} (o : OkTm L R m) {h : IH} (T : TP L h) : f_check_team [tmv L, .int m] h = .ok .non h := by
  have le := o.le
  have ne := o.ne
  have hm := o.m
  have key : ∃ v g, f_check_team [tmv L, .int m] h = .ok v g ∧ (v = .non ∧ g = h) := by
    refine w_fn rfl ?_
    refine w_seq (w_if (b := false) (h1 := h) (by simp [tmv, tyNames, subTy, show (1 : Int) ≤ L.length by omega, show (L.length : Int) ≤ 4 by omega]) (fun z => by cases z) (fun _ => w_nil ?_))
    refine w_seq (w_for (it := itList (L.map fun q => .obj q.1)) (h1 := h) L.length (fun i r g => g = h ∧ ∃ a, r = [some (tmv L), some (.int m), a]) (by simp [tmv]) (by omega) ⟨rfl, none, rfl⟩ ?_ ?_)
    · rintro i r g hi ⟨rfl, a, rfl⟩
      obtain ⟨o1, o2⟩ := o.ok _ (List.getElem_mem hi)
      have t1 := T _ (List.getElem_mem hi)
      have h0 : 0 < L.length := by omega
      obtain ⟨p1, p2⟩ := o.ok _ (List.getElem_mem h0)
      have t0 := T _ (List.getElem_mem h0)
      have at0 : atI (L.map fun q => PV.obj q.1) 0 = some (.obj L[0].1) := by
        rw [atI_pos _ _ (by omega) (by simp; omega)]; simp [h0]
      refine ⟨.obj L[i].1, _, by simp [hi], rfl, ?_⟩
      refine w_if (b := false) (h1 := g) (by simp [t1, ownCs, tmv, at0, t0, pq, o2, p2]) (fun z => by cases z) (fun _ => w_nil ⟨rfl, _, rfl⟩)
    · rintro r g ⟨rfl, a, rfl⟩
      refine ⟨by simp, ?_⟩
      exact w_if (b := false) (h1 := g) (by simp [tmv, show (m : Int) ≤ (L.length : Int) - 1 by omega]) (fun z => by cases z) (fun _ => w_nil ⟨rfl, rfl⟩)
  obtain ⟨v, g, e, rfl, rfl⟩ := key
  exact e
theorem teamwalked_eq {L : List (Nat × Pl)} {R : Int} {m : Nat} (o : OkTm L R m) {h : IH} (T : TP L h) {p : Int} {f : Rat} (q : OkF R p f) :
    ∃ g, f_team_walked [tmv L, .int m, .int p, fq f] h = .ok (oq (tm (xsO L) m p f)) g ∧ Pre h g := by
  obtain ⟨v, g, e, rfl, P⟩ := teamtime_eq o T p q.sm (by decide)
  have h0 : 0 < L.length := o.ne
  obtain ⟨p1, p2⟩ := o.ok _ (List.getElem_mem h0)
  have t0 := T _ (List.getElem_mem h0)
  have at0 : atI (L.map fun q => PV.obj q.1) 0 = some (.obj L[0].1) := by
    rw [atI_pos _ _ (by omega) (by simp; omega)]; simp [h0]
  have w := within_eq q.sm (by decide) 1 1000000000000000000000000000000 (by decide) (by decide) h
  have z : decide (((1 : Int) : Rat) ≤ f ∧ f ≤ ((1000000000000000000000000000000 : Int) : Rat)) = true := decide_eq_true ⟨q.one, q.top⟩
  rw [z] at w
  have lo := q.lo
  have hi := q.hi
  have tk := team_ok o T
  simp only [tmv] at e tk
  refine ⟨g, ?_, P⟩
  simp [f_team_walked, b_team_walked, tmv, tk, at0, t0, pq, p2, f_check_road, b_check_road, f_check_far, b_check_far, f_is_far, b_is_far, w, show 0 ≤ p ∧ p ≤ R - 1 by omega, e]
end WR

namespace WR
open PySem PySem.Spec PyProof.Rows L2
theorem piecesof_eq {x : Pl} (o : OkP x) {n : Nat} {h : IH} (e : h[n]? = some (.ins "Plan" [("held", pq x)])) (p : Int) :
    ∃ g, f_pieces_of [.obj n, .int p] h = .ok (.obj h.length) g ∧ Pre h g ∧ g[h.length]? = some (.lst ((pcs x p).map tri)) := by
  obtain ⟨t, f⟩ := pieces_eq o e p
  exact ⟨_, f, Pre.of _ _, by simp [pcs]⟩
theorem pcs_sm3 {x : Pl} (o : OkP x) {p : Int} {t : Rat × Rat × Rat} (h : t ∈ pcs x p) : Sm 50 t.1 ∧ Sm 50 t.2.1 ∧ Sm 3841 t.2.2 := by
  obtain ⟨k, hk⟩ := List.mem_iff_getElem?.mp h
  obtain ⟨j, hj, _, e1, e2, _, e3, _⟩ := pc_get x.2.2 x.2.1 p _ (Nat.le_refl _) k t hk
  have nn := o.n
  rw [e2]
  refine ⟨?_, (o.t _ (List.getElem_mem hj)).sm, (bs_sm o j (by omega)).mono (by omega)⟩
  have := pc_sm o p j (by omega)
  simp only
  unfold mx; split
  · exact sm1.mono (by decide)
  · exact this
theorem basesbehind_eq {L : List (Nat × Pl)} {R : Int} {m : Nat} (o : OkTm L R m) {h : IH} (T : TP L h) (p : Int) {l : Rat} (hl : Sm 50 l) :
    ∃ v g, f_bases_behind [tmv L, .int p, fq l] h = .ok v g ∧ ∃ k, v = .obj k ∧ Pre h g ∧ g[k]? = some (.lst ((srt (bb (xsO L) p l)).map fq)) := by
  have le := o.le
  have ox := o.xs
  refine w_fn rfl ?_
  refine w_seq (w_set (v := .obj h.length) (h1 := h ++ [.lst []]) (by simp) ?_)
  refine w_seq (w_for (it := itList (L.map fun q => .obj q.1)) (h1 := h ++ [.lst []]) L.length (fun i r g => ∃ a b c d, r = [some (tmv L), some (.int p), some (fq l), some (.obj h.length), a, b, c, d] ∧ Pre h g ∧ g[h.length]? = some (.lst ((bb ((xsO L).take i) p l).map fq)) ∧ (bb ((xsO L).take i) p l).length ≤ 60 * i)
    (by simp [tmv]) (by omega) ⟨none, none, none, none, rfl, Pre.of _ _, by simp [bb], by simp [bb]⟩ ?_ ?_)
  · rintro i r g hi ⟨a, b, c, d, rfl, P, q1, ln⟩
    obtain ⟨o1, o2⟩ := o.ok _ (List.getElem_mem hi)
    have t1 := (T.pre P) _ (List.getElem_mem hi)
    have hx : i < (xsO L).length := by simpa [xsO] using hi
    have es : bb ((xsO L).take (i + 1)) p l = bb ((xsO L).take i) p l ++ (pb L[i].2 p l).map (·.2.2) := by
      unfold bb
      rw [List.take_succ_eq_append_getElem hx, List.flatMap_append]
      simp [xsO]
    rw [es]
    refine ⟨.obj L[i].1, _, by simp [hi], rfl, ?_⟩
    obtain ⟨g1, f1, P1, z1⟩ := piecesof_eq o1 t1 p
    have lp := pcs_len o1 p
    have hp : ∀ t ∈ pcs L[i].2 p, Sm 50 t.1 ∧ Sm 50 t.2.1 ∧ Sm 3841 t.2.2 := fun t ht => pcs_sm3 o1 ht
    have lg := lt_of_get q1
    unfold pb
    generalize pcs L[i].2 p = Q at z1 lp hp
    generalize bb ((xsO L).take i) p l = B at q1 ln
    refine w_for (it := itObj g.length) (h1 := g1) Q.length (fun j r g' => ∃ b c d, r = [some (tmv L), some (.int p), some (fq l), some (.obj h.length), some (.obj L[i].1), b, c, d] ∧ Pre h g' ∧ g'[h.length]? = some (.lst ((B ++ ((Q.take j).filter fun t => !decide (l < t.1) && decide (l < t.2.1)).map (·.2.2)).map fq)) ∧ g'[g.length]? = some (.lst (Q.map tri)) ∧ ((Q.take j).filter fun t => !decide (l < t.1) && decide (l < t.2.1)).length ≤ j)
      (by simp [f1, z1]) (by omega) ⟨b, c, d, rfl, P.trans P1, by simpa using P1.get q1, z1, by simp⟩ ?_ ?_
    · rintro j r g' hj ⟨b, c, d, rfl, P', y1, y2, ln2⟩
      obtain ⟨s1, s2, s3⟩ := hp _ (List.getElem_mem hj)
      have fe : (Q.take (j + 1)).filter (fun t => !decide (l < t.1) && decide (l < t.2.1)) = (Q.take j).filter (fun t => !decide (l < t.1) && decide (l < t.2.1)) ++ (if (!decide (l < Q[j].1) && decide (l < Q[j].2.1)) = true then [Q[j]] else []) := by
        rw [List.take_succ_eq_append_getElem hj, List.filter_append]
        congr 1
        rw [List.filter_cons, List.filter_nil]
      rw [fe]
      generalize (Q.take j).filter (fun t => !decide (l < t.1) && decide (l < t.2.1)) = M at y1 ln2 ⊢
      refine ⟨tri Q[j], _, by simp [y2, hj], rfl, ?_⟩
      generalize Q[j] = t at s1 s2 s3 ⊢
      have l1 := less_eq hl s1 (by decide) g'
      have l2 := less_eq hl s2 (by decide) g'
      refine w_if (b := (!decide (l < t.1) && decide (l < t.2.1))) (h1 := g') (by by_cases c1 : l < t.1 <;> simp [l1, l2, c1]) (fun hb => ?_) (fun hb => ?_)
      · rw [if_pos hb]
        refine w_expr (v := .non) (h1 := g'.set h.length (.lst ((B ++ (M ++ [t]).map (·.2.2)).map fq))) (by simp [y1, show B.length + M.length < 16777216 by omega]) ⟨_, _, _, rfl, P'.set _ (Nat.le_refl _), get_set_eq y1, by rw [get_set_ne (by omega)]; exact y2, by simp; omega⟩
      · rw [if_neg (by rw [hb]; simp), List.append_nil]
        exact w_nil ⟨_, _, _, rfl, P', y1, y2, by omega⟩
    · rintro r g' ⟨b, c, d, rfl, P', y1, y2, ln2⟩
      rw [List.take_length] at y1 ln2
      exact ⟨by simp [y2], _, _, _, _, rfl, P', y1, by simp; omega⟩
  · rintro r g ⟨a, b, c, d, rfl, P, q1, ln⟩
    refine ⟨by simp, ?_⟩
    rw [show L.length = (xsO L).length by simp [xsO], List.take_length] at q1 ln
    have ll : (xsO L).length = L.length := by simp [xsO]
    obtain ⟨v, g1, f1, k, rfl, P1, z1, _⟩ := inorder_eq (L := bb (xsO L) p l) (N := 3841) (by decide) (fun q hq => (bb_nonneg ox hq).2) (by omega) q1
    exact w_ret (v := .obj k) (h1 := g1) (by simp [f1]) ⟨k, rfl, P.trans P1, z1⟩
theorem lowsof_eq {L : List (Nat × Pl)} {R : Int} {m : Nat} (o : OkTm L R m) {h : IH} (T : TP L h) (p : Int) :
    ∃ v g, f_lows_of [tmv L, .int p] h = .ok v g ∧ ∃ k, v = .obj k ∧ Pre h g ∧ g[k]? = some (.lst ((lows (xsO L) p).map fq)) ∧ h.length ≤ k := by
  have le := o.le
  have ox := o.xs
  have sm_of : ∀ q ∈ pe2 (xsO L) p, Sm 50 q := fun q hq => by
    unfold pe2 at hq
    rw [List.mem_flatMap] at hq
    obtain ⟨x, hx, hq⟩ := hq
    rw [List.mem_flatMap] at hq
    obtain ⟨t, ht, hq⟩ := hq
    have := pcs_sm3 (ox x hx) ht
    simp at hq
    rcases hq with rfl | rfl
    · exact this.1
    · exact this.2.1
  refine w_fn rfl ?_
  refine w_seq (w_set (v := .obj h.length) (h1 := h ++ [.lst [fq 1]]) (by simp; rfl) ?_)
  refine w_seq (w_for (it := itList (L.map fun q => .obj q.1)) (h1 := h ++ [.lst [fq 1]]) L.length (fun i r g => ∃ a b c d e, r = [some (tmv L), some (.int p), some (.obj h.length), a, b, c, d, e] ∧ Pre h g ∧ g[h.length]? = some (.lst (((pe2 ((xsO L).take i) p).foldl addU [1]).map fq)) ∧ ((pe2 ((xsO L).take i) p).foldl addU [1]).length ≤ 1 + 120 * i)
    (by simp [tmv]) (by omega) ⟨none, none, none, none, none, rfl, Pre.of _ _, by simp [pe2], by simp [pe2]⟩ ?_ ?_)
  · rintro i r g hi ⟨a, b, c, d, e, rfl, P, q1, ln⟩
    obtain ⟨o1, o2⟩ := o.ok _ (List.getElem_mem hi)
    have t1 := (T.pre P) _ (List.getElem_mem hi)
    have hx : i < (xsO L).length := by simpa [xsO] using hi
    have es : pe2 ((xsO L).take (i + 1)) p = pe2 ((xsO L).take i) p ++ (pcs L[i].2 p).flatMap fun t => [t.1, t.2.1] := by
      unfold pe2
      rw [List.take_succ_eq_append_getElem hx, List.flatMap_append]
      simp [xsO]
    rw [es, List.foldl_append]
    refine ⟨.obj L[i].1, _, by simp [hi], rfl, ?_⟩
    obtain ⟨g1, f1, P1, z1⟩ := piecesof_eq o1 t1 p
    have lp := pcs_len o1 p
    have lg := lt_of_get q1
    generalize pcs L[i].2 p = Q at z1 lp
    generalize (pe2 ((xsO L).take i) p).foldl addU [1] = B at q1 ln
    refine w_for (it := itObj g.length) (h1 := g1) Q.length (fun j r g' => ∃ b c d e, r = [some (tmv L), some (.int p), some (.obj h.length), some (.obj L[i].1), b, c, d, e] ∧ Pre h g' ∧ g'[h.length]? = some (.lst ((((Q.take j).flatMap fun t => [t.1, t.2.1]).foldl addU B).map fq)) ∧ g'[g.length]? = some (.lst (Q.map tri)) ∧ (((Q.take j).flatMap fun t => [t.1, t.2.1]).foldl addU B).length ≤ B.length + 2 * j)
      (by simp [f1, z1]) (by omega) ⟨b, c, d, e, rfl, P.trans P1, by simpa using P1.get q1, z1, by simp⟩ ?_ ?_
    · rintro j r g' hj ⟨b, c, d, e, rfl, P', y1, y2, ln2⟩
      have fe : ((Q.take (j + 1)).flatMap fun t => [t.1, t.2.1]).foldl addU B = addU (addU (((Q.take j).flatMap fun t => [t.1, t.2.1]).foldl addU B) Q[j].1) Q[j].2.1 := by
        rw [List.take_succ_eq_append_getElem hj, List.flatMap_append, List.foldl_append]; rfl
      rw [fe]
      generalize ((Q.take j).flatMap fun t => [t.1, t.2.1]).foldl addU B = M at y1 ln2 ⊢
      refine ⟨tri Q[j], _, by simp [y2, hj], rfl, ?_⟩
      generalize Q[j] = t
      refine w_for (it := itList ([t.1, t.2.1].map fq)) (h1 := g') 2 (fun k r g2 => ∃ e, r = [some (tmv L), some (.int p), some (.obj h.length), some (.obj L[i].1), some (fq t.1), some (fq t.2.1), some (fq t.2.2), e] ∧ Pre h g2 ∧ g2[h.length]? = some (.lst ((([t.1, t.2.1].take k).foldl addU M).map fq)) ∧ g2[g.length]? = some (.lst (Q.map tri)) ∧ (([t.1, t.2.1].take k).foldl addU M).length ≤ M.length + k)
        (by simp) (by omega) ⟨e, rfl, P', y1, y2, by simp⟩ ?_ ?_
      · rintro k r g2 hk ⟨e, rfl, P2, x1, x2, ln3⟩
        obtain ⟨q, eq, ek⟩ : ∃ q : Rat, [t.1, t.2.1][k]? = some q ∧ ([t.1, t.2.1].take (k + 1)).foldl addU M = addU (([t.1, t.2.1].take k).foldl addU M) q := by
          rcases (show k = 0 ∨ k = 1 by omega) with rfl | rfl
          · exact ⟨t.1, rfl, rfl⟩
          · exact ⟨t.2.1, rfl, rfl⟩
        rw [ek]
        generalize ([t.1, t.2.1].take k).foldl addU M = D at x1 ln3 ⊢
        refine ⟨fq q, _, by simp only [itList]; rw [List.getElem?_map, eq]; rfl, rfl, ?_⟩
        have inn := EncOk.rat.in_obj (by decide) q x1
        refine w_if (b := !decide (q ∈ D)) (h1 := g2) (by simp [inn]) (fun hb => ?_) (fun hb => ?_)
        · have hb' : q ∉ D := by simpa using hb
          have ad : addU D q = D ++ [q] := if_neg hb'
          rw [ad]
          refine w_expr (v := .non) (h1 := g2.set h.length (.lst ((D ++ [q]).map fq))) (by simp [x1, show D.length < 16777216 by omega]) ⟨_, rfl, P2.set _ (Nat.le_refl _), get_set_eq x1, by rw [get_set_ne (by omega)]; exact x2, by simp; omega⟩
        · have hb' : q ∈ D := by simpa using hb
          have ad : addU D q = D := if_pos hb'
          rw [ad]
          exact w_nil ⟨_, rfl, P2, x1, x2, by omega⟩
      · rintro r g2 ⟨e, rfl, P2, x1, x2, ln3⟩
        exact ⟨by simp, _, _, _, _, rfl, P2, x1, x2, by have : (([t.1, t.2.1].take 2).foldl addU M) = addU (addU M t.1) t.2.1 := rfl; rw [this] at ln3; omega⟩
    · rintro r g' ⟨b, c, d, e, rfl, P', y1, y2, ln2⟩
      rw [List.take_length] at y1 ln2
      exact ⟨by simp [y2], _, _, _, _, _, rfl, P', y1, by omega⟩
  · rintro r g ⟨a, b, c, d, e, rfl, P, q1, ln⟩
    refine ⟨by simp, ?_⟩
    rw [show L.length = (xsO L).length by simp [xsO], List.take_length] at q1 ln
    obtain ⟨v, g1, f1, k, rfl, P1, z1, lk⟩ := inorder_eq (N := 50) (by decide) (fun q hq => by
      rcases ((foldl_addU (pe2 (xsO L) p) [1]).2 q).mp hq with z | z
      · simp at z; subst z; exact sm1.mono (by decide)
      · exact sm_of q z) (by simp [xsO] at ln ⊢; omega) q1
    exact w_ret (v := .obj k) (h1 := g1) (by simp [f1]) ⟨k, rfl, P.trans P1, z1, Nat.le_trans P.le lk⟩
/-! ### the greatest share -/
theorem nr_sm {xs : List Pl} (ox : ∀ x ∈ xs, OkP x) {m : Nat} {p : Int} {l v : Rat} (hl : Sm 50 l) (h1 : 1 ≤ l) (h : nr xs m p l = some v) : Sm 3893 v := by
  unfold nr at h
  cases z : (srt (bb xs p l))[m]? with
  | none => rw [z] at h; cases h
  | some b =>
    rw [z] at h; simp at h; subst h
    exact (sm1.add ((bb_nonneg ox (nth_mem z)).2.div hl (by grind))).mono (by decide)
theorem ow_sm {xs : List Pl} (ox : ∀ x ∈ xs, OkP x) {m : Nat} {p : Int} {l v : Rat} (hl : Sm 50 l) (h1 : 1 ≤ l) (h : ow_ xs m p l = some v) : Sm 3942 v := by
  unfold ow_ at h
  cases z : tm xs m p l with
  | none => rw [z] at h; cases h
  | some b =>
    rw [z] at h; simp at h; subst h
    exact ((tm_sm ox hl z).div hl (by grind)).mono (by decide)
theorem cL_sm {xs : List Pl} (ox : ∀ x ∈ xs, OkP x) {m : Nat} {p : Int} {l v : Rat} (hl : Sm 50 l) (h1 : 1 ≤ l) (h : cL xs m p l = some v) : Sm 3942 v := by
  unfold cL cmx at h
  split at h
  · exact (nr_sm ox hl h1 h).mono (by decide)
  · rename_i o e
    split at h
    · cases h; exact ow_sm ox hl h1 e
    · rename_i n e2
      split at h
      · cases h; exact ow_sm ox hl h1 e
      · cases h; exact (nr_sm ox hl h1 e2).mono (by decide)
theorem cP_sm {xs : List Pl} (ox : ∀ x ∈ xs, OkP x) {m : Nat} {p : Int} {l v : Rat} (hl : Sm 50 l) (h1 : 1 ≤ l) (h : cP xs m p l = some v) : Sm 3942 v := by
  unfold cP at h
  split at h
  · exact cL_sm ox hl h1 h
  · exact (nr_sm ox hl h1 h).mono (by decide)
theorem shareat_eq {L : List (Nat × Pl)} {R : Int} {m : Nat} (o : OkTm L R m) {h : IH} (T : TP L h) (p : Int) {l : Rat} (hl : Sm 50 l) (h1 : 1 ≤ l) :
    ∃ v g, f_share_at [tmv L, .int m, .int p, fq l] h = .ok v g ∧ (v = .tup [oq (cP (xsO L) m p l), .bl (decide (cP (xsO L) m p l = ow_ (xsO L) m p l))] ∧ Pre h g) := by
  have ox := o.xs
  have lp : 0 < l := by grind
  refine w_fn rfl ?_
  obtain ⟨v, g1, f1, rfl, P1⟩ := teamtime_eq o T p hl (by decide)
  refine w_seq (w_set (v := oq (tm (xsO L) m p l)) (h1 := g1) (by simp [f1]) ?_)
  have st1 : ∀ (N : Fm → IH → Prop) (Q : PV → IH → Prop), N [some (tmv L), some (.int m), some (.int p), some (fq l), some (oq (ow_ (xsO L) m p l)), none, none] g1 → (sIf (tBl (eOp pNotN (eVar 4) (eC .non))) (sSet 4 (eCall f_over (aCons (eVar 4) (aCons (eVar 3) aNil)))) sNil [some (tmv L), some (.int m), some (.int p), some (fq l), some (oq (tm (xsO L) m p l)), none, none] g1).Is N Q := by
    intro N Q hN
    unfold ow_ at hN
    cases z : tm (xsO L) m p l with
    | none => rw [z] at hN; exact w_if (b := false) (h1 := g1) rfl (fun z => by cases z) (fun _ => w_nil hN)
    | some w =>
      rw [z] at hN
      have ov := over_eq (tm_sm ox hl z) hl lp (by decide) g1
      exact w_if (b := true) (h1 := g1) rfl (fun _ => w_set (v := fq (w / l)) (h1 := g1) (by simp [oq, ov]) hN) (fun z => by cases z)
  refine w_seq (st1 _ _ ?_)
  obtain ⟨v, g2, f2, k, rfl, P2, z2⟩ := basesbehind_eq o (T.pre P1) p hl
  refine w_seq (w_set (v := .obj k) (h1 := g2) (by simp [f2]) ?_)
  refine w_seq (w_set (v := .non) (h1 := g2) rfl ?_)
  have st2 : ∀ (N : Fm → IH → Prop) (Q : PV → IH → Prop), N [some (tmv L), some (.int m), some (.int p), some (fq l), some (oq (ow_ (xsO L) m p l)), some (.obj k), some (oq (nr (xsO L) m p l))] g2 → (sIf (tBl (eOp pGt (eB pLen (aCons (eVar 5) aNil)) (eVar 1))) (sSet 6 (eCall f_plus (aCons (eC (.tup [.int 1, .int 1])) (aCons (eCall f_over (aCons (eOp pIdx (eVar 5) (eVar 1)) (aCons (eVar 3) aNil))) aNil)))) sNil [some (tmv L), some (.int m), some (.int p), some (fq l), some (oq (ow_ (xsO L) m p l)), some (.obj k), some .non] g2).Is N Q := by
    intro N Q hN
    unfold nr at hN
    refine w_if (b := decide (m < (srt (bb (xsO L) p l)).length)) (h1 := g2) (by simp [z2]) (fun hb => ?_) (fun hb => ?_)
    · have hb' : m < (srt (bb (xsO L) p l)).length := of_decide_eq_true hb
      rw [List.getElem?_eq_getElem hb'] at hN
      have at1 : atI ((srt (bb (xsO L) p l)).map fq) (m : Int) = some (fq (srt (bb (xsO L) p l))[m]) := by
        rw [atI_pos _ _ (by omega) (by simp; omega)]; simp [hb']
      have sb := (bb_nonneg ox (nth_mem (List.getElem?_eq_getElem hb'))).2
      have ov := over_eq sb hl lp (by decide) g2
      have pl := plus_eq sm1 (sb.div hl lp) (by decide) g2
      exact w_set (v := fq (1 + (srt (bb (xsO L) p l))[m] / l)) (h1 := g2) (by simp [z2, at1, ov, fq_one, pl]) hN
    · have hb' : (srt (bb (xsO L) p l)).length ≤ m := by have := of_decide_eq_false hb; omega
      rw [List.getElem?_eq_none hb'] at hN
      exact w_nil hN
  refine w_seq (st2 _ _ ?_)
  have st3 : ∀ (N : Fm → IH → Prop) (Q : PV → IH → Prop), N [some (tmv L), some (.int m), some (.int p), some (fq l), some (oq (ow_ (xsO L) m p l)), some (.obj k), some (oq (cP (xsO L) m p l))] g2 → (sIf (tAndX (tBl (eOp pEq (eVar 3) (eC (.tup [.int 1, .int 1])))) (tAndX (tBl (eOp pNotN (eVar 4) (eC .non))) (tOrX (tBl (eOp pIsN (eVar 6) (eC .non))) (tTru (eCall f_is_less (aCons (eVar 6) (aCons (eVar 4) aNil))))))) (sSet 6 (eVar 4)) sNil [some (tmv L), some (.int m), some (.int p), some (fq l), some (oq (ow_ (xsO L) m p l)), some (.obj k), some (oq (nr (xsO L) m p l))] g2).Is N Q := by
    intro N Q hN
    by_cases c : l = 1
    · have e1 : cP (xsO L) m p l = cL (xsO L) m p l := if_pos c
      rw [e1] at hN
      unfold cL cmx at hN
      cases z : ow_ (xsO L) m p l with
      | none =>
        rw [z] at hN
        exact w_if (b := false) (h1 := g2) (by simp [fq_one, c, oq]) (fun z => by cases z) (fun _ => w_nil hN)
      | some w =>
        rw [z] at hN
        cases y : nr (xsO L) m p l with
        | none =>
          rw [y] at hN
          have nn : pNotN (fq w) .non g2 = .ok (.bl true) g2 := rfl
          exact w_if (b := true) (h1 := g2) (by simp [-pNotN, fq_one, c, oq, nn]) (fun _ => w_set (v := fq w) (h1 := g2) rfl hN) (fun z => by cases z)
        | some u =>
          rw [y] at hN
          have le := less_eq (nr_sm ox hl h1 y) (ow_sm ox hl h1 z) (by decide) g2
          have nn : pNotN (fq w) .non g2 = .ok (.bl true) g2 := rfl
          have n2 : pIsN (fq u) .non g2 = .ok (.bl false) g2 := rfl
          simp only at hN
          refine w_if (b := decide (u < w)) (h1 := g2) (by simp [-pNotN, -pIsN, fq_one, c, oq, nn, n2, le]) (fun hb => ?_) (fun hb => ?_)
          · rw [if_pos (of_decide_eq_true hb)] at hN
            exact w_set (v := fq w) (h1 := g2) rfl hN
          · rw [if_neg (of_decide_eq_false hb)] at hN
            exact w_nil hN
    · have e1 : cP (xsO L) m p l = nr (xsO L) m p l := if_neg c
      rw [e1] at hN
      exact w_if (b := false) (h1 := g2) (by simp [fq_one, c]) (fun z => by cases z) (fun _ => w_nil hN)
  refine w_seq (st3 _ _ ?_)
  exact w_ret (v := .tup [oq (cP (xsO L) m p l), .bl (decide (cP (xsO L) m p l = ow_ (xsO L) m p l))]) (h1 := g2) (by simp) ⟨rfl, P1.trans P2⟩
/-- the best with its mark -/
def upW (b : Option WV) (c : Option Rat) (p : Int) (l : Rat) (t : Bool) : Option WV := match c with
  | none => b
  | some v => (match b with
    | none => some (v, p, l, t)
    | some w => if w.1 < v then some (v, p, l, t) else some w)
def prW (w : WV) : Rat × Int × Rat := (w.1, w.2.1, w.2.2.1)
theorem upW_pr (b : Option WV) (c : Option Rat) (p : Int) (l : Rat) (t : Bool) : (upW b c p l t).map prW = up3 (b.map prW) c p l := by
  cases c with
  | none => rfl
  | some v =>
    cases b with
    | none => rfl
    | some w =>
      unfold upW up3
      simp only [Option.map_some]
      show Option.map prW (if w.1 < v then _ else _) = if w.1 < v then _ else _
      split <;> rfl
def fW (xs : List Pl) (m : Nat) (p : Int) (E : List Rat) (b : Option WV) : Option WV := E.foldl (fun b l => upW b (cP xs m p l) p l (decide (cP xs m p l = ow_ xs m p l))) b
theorem fW_pr {xs : List Pl} {m : Nat} {p : Int} : ∀ (E : List Rat) (b : Option WV), (fW xs m p E b).map prW = fP xs m p E (b.map prW)
  | [], b => rfl
  | e :: t, b => by
    show (fW xs m p t _).map prW = fP xs m p t _
    rw [fW_pr t, upW_pr]
def rW (xs : List Pl) (m : Nat) : Nat → Option WV
  | 0 => none
  | i + 1 => fW xs m (i : Nat) (lows xs (i : Nat)) (rW xs m i)
theorem rW_pr {xs : List Pl} (ox : ∀ x ∈ xs, OkP x) (m : Nat) : ∀ i, (rW xs m i).map prW = bR xs m i
  | 0 => rfl
  | i + 1 => by rw [rW, bR, fW_pr, rW_pr ox m i, best_same ox]
/-- what the best has -/
structure OkB (xs : List Pl) (m : Nat) (R : Int) (w : WV) : Prop where
  sm : Sm 3942 w.1
  lo : 0 ≤ w.2.1
  hi : w.2.1 < R
  l1 : 1 ≤ w.2.2.1
  ls : Sm 50 w.2.2.1
  mt : w.2.2.2 = decide (tm xs m w.2.1 w.2.2.1 = some (w.1 * w.2.2.1))
theorem lows_sm {xs : List Pl} (ox : ∀ x ∈ xs, OkP x) {p : Int} {l : Rat} (h : l ∈ lows xs p) : Sm 50 l ∧ 1 ≤ l := by
  refine ⟨?_, lends_one (lows_sub ox h)⟩
  rcases lows_mem.mp h with rfl | ⟨x, hx, t, ht, rfl | rfl⟩
  · exact sm1.mono (by decide)
  · exact (pcs_sm3 (ox x hx) ht).1
  · exact (pcs_sm3 (ox x hx) ht).2.1
theorem upW_ok {xs : List Pl} (ox : ∀ x ∈ xs, OkP x) {m : Nat} {R : Int} {p : Int} (p0 : 0 ≤ p) (p1 : p < R) {l : Rat} (hl : Sm 50 l) (h1 : 1 ≤ l) {b : Option WV} (hb : ∀ w, b = some w → OkB xs m R w) : ∀ w, upW b (cP xs m p l) p l (decide (cP xs m p l = ow_ xs m p l)) = some w → OkB xs m R w := by
  have new : ∀ v, cP xs m p l = some v → OkB xs m R (v, p, l, decide (cP xs m p l = ow_ xs m p l)) := fun v hv => by
    refine ⟨cP_sm ox hl h1 hv, p0, p1, h1, hl, ?_⟩
    simp only
    rw [hv]
    apply decide_eq_decide.mpr
    unfold ow_
    cases z : tm xs m p l with
    | none => simp
    | some w =>
      simp only [Option.map_some, Option.some.injEq]
      constructor
      · intro e; rw [e]; exact (Rat.div_mul_cancel (by grind)).symm
      · intro e; rw [e]
        rw [Rat.div_def, Rat.mul_assoc, Rat.mul_inv_cancel _ (by grind), Rat.mul_one]
  intro w hw
  cases z : cP xs m p l with
  | none => rw [z] at hw; exact hb w hw
  | some v =>
    have nv := new v z
    rw [z] at hw nv
    cases y : b with
    | none => rw [y] at hw; cases hw; exact nv
    | some u =>
      rw [y] at hw
      unfold upW at hw
      simp only at hw
      split at hw
      · cases hw; exact nv
      · cases hw; exact hb _ y
theorem teamworst_eq {L : List (Nat × Pl)} {R : Int} {m : Nat} (o : OkTm L R m) {h : IH} (T : TP L h) :
    ∃ v g, f_team_worst [tmv L, .int m] h = .ok v g ∧ (v = ow (rW (xsO L) m R.toNat) ∧ Pre h g ∧ ∀ w, rW (xsO L) m R.toNat = some w → OkB (xsO L) m R w) := by
  have ox := o.xs
  have r1 := o.r1
  have r2 := o.r2
  have h0 : 0 < L.length := o.ne
  obtain ⟨p1, p2⟩ := o.ok _ (List.getElem_mem h0)
  have t0 := T _ (List.getElem_mem h0)
  have at0 : atI (L.map fun q => PV.obj q.1) 0 = some (.obj L[0].1) := by
    rw [atI_pos _ _ (by omega) (by simp; omega)]; simp [h0]
  refine w_fn rfl ?_
  refine w_seq (w_expr (v := .non) (h1 := h) (by simp [team_ok o T]) ?_)
  refine w_seq (w_set (v := .non) (h1 := h) rfl ?_)
  refine w_seq (w_for (it := itRange 0 R.toNat) (h1 := h) R.toNat (fun i r g => ∃ a b c d, r = [some (tmv L), some (.int m), some (ow (rW (xsO L) m i)), a, b, c, d] ∧ Pre h g ∧ ∀ w, rW (xsO L) m i = some w → OkB (xsO L) m R w)
    (by simp [tmv, at0, t0, pq, p2, rngOk, show R.natAbs < 4611686018427387904 by omega]) (by omega) ⟨none, none, none, none, rfl, Pre.refl _, fun w hw => by cases hw⟩ ?_ ?_)
  · rintro i r g hi ⟨a, b, c, d, rfl, P, hB⟩
    refine ⟨.int (i : Nat), _, by simp [hi], rfl, ?_⟩
    obtain ⟨v, g1, f1, k, rfl, P1, z1, lk⟩ := lowsof_eq o (T.pre P) (i : Nat)
    have hlow : ∀ l ∈ lows (xsO L) (i : Nat), Sm 50 l ∧ 1 ≤ l := fun l hl => lows_sm ox hl
    have lln : (lows (xsO L) (i : Nat)).length ≤ 1000 := by
      have e : (lows (xsO L) (i : Nat)).length ≤ 1 + 480 := by
        unfold lows
        rw [srt_len]
        unfold lw
        have fl : ∀ (hs M : List Rat), (hs.foldl addU M).length ≤ M.length + hs.length := by
          intro hs
          induction hs with
          | nil => intro M; simp
          | cons a hs ih =>
            intro M
            have := ih (addU M a)
            have : (addU M a).length ≤ M.length + 1 := by unfold addU; split <;> simp
            rw [List.foldl_cons, List.length_cons]; omega
        have b1 := fl (pe2 (xsO L) (i : Nat)) [1]
        have b2 : ∀ ys : List Pl, (∀ x ∈ ys, OkP x) → (pe2 ys (i : Nat)).length ≤ 120 * ys.length := by
          intro ys
          induction ys with
          | nil => intro _; simp [pe2]
          | cons y ys ih =>
            intro hy
            have i1 := ih fun x hx => hy x (List.mem_cons_of_mem _ hx)
            have i2 := pcs_len (hy y (by simp)) (i : Nat)
            have i3 : ∀ Q : List (Rat × Rat × Rat), (Q.flatMap fun t => [t.1, t.2.1]).length = 2 * Q.length := by
              intro Q
              induction Q with
              | nil => rfl
              | cons q Q ih => rw [List.flatMap_cons, List.length_append, ih, List.length_cons]; simp; omega
            unfold pe2 at i1 ⊢
            rw [List.flatMap_cons, List.length_append, i3, List.length_cons]
            omega
        have b3 := b2 (xsO L) ox
        have le := o.le
        simp [xsO] at b1 b3 ⊢
        omega
      omega
    have es : rW (xsO L) m (i + 1) = fW (xsO L) m (i : Nat) (lows (xsO L) (i : Nat)) (rW (xsO L) m i) := rfl
    rw [es]
    generalize lows (xsO L) (i : Nat) = E at z1 hlow lln ⊢
    generalize rW (xsO L) m i = b0 at hB ⊢
    refine w_for (it := itObj k) (h1 := g1) E.length (fun j r g' => ∃ b c d, r = [some (tmv L), some (.int m), some (ow (fW (xsO L) m (i : Nat) (E.take j) b0)), some (.int (i : Nat)), b, c, d] ∧ Pre h g' ∧ g'[k]? = some (.lst (E.map fq)) ∧ ∀ w, fW (xsO L) m (i : Nat) (E.take j) b0 = some w → OkB (xsO L) m R w)
      (by simp [f1, z1]) (by omega) ⟨b, c, d, rfl, P.trans P1, z1, hB⟩ ?_ ?_
    · rintro j r g' hj ⟨b, c, d, rfl, P', z', hB'⟩
      obtain ⟨sl, l1⟩ := hlow _ (List.getElem_mem hj)
      have fe : fW (xsO L) m (i : Nat) (E.take (j + 1)) b0 = upW (fW (xsO L) m (i : Nat) (E.take j) b0) (cP (xsO L) m (i : Nat) E[j]) (i : Nat) E[j] (decide (cP (xsO L) m (i : Nat) E[j] = ow_ (xsO L) m (i : Nat) E[j])) := by
        unfold fW
        rw [List.take_succ_eq_append_getElem hj, List.foldl_append]; rfl
      rw [fe]
      refine ⟨fq E[j], _, by simp [z', hj], rfl, ?_⟩
      have uo := upW_ok ox (m := m) (R := R) (p := (i : Nat)) (by omega) (by omega) sl l1 hB'
      generalize fW (xsO L) m (i : Nat) (E.take j) b0 = bb at hB' uo ⊢
      generalize E[j] = l at sl l1 uo ⊢
      obtain ⟨v, g2, f2, rfl, P2⟩ := shareat_eq o (T.pre P') (i : Nat) sl l1
      refine w_seq (?_ : (_ : RS).Is _ _)
      have st : sAsgT (gTupF [5, 6]) (eCall f_share_at (aCons (eVar 0) (aCons (eVar 1) (aCons (eVar 3) (aCons (eVar 4) aNil))))) ([some (tmv L), some (.int m), some (ow bb), some (.int (i : Nat)), b, c, d].set 4 (some (fq l))) g'
        = .nx [some (tmv L), some (.int m), some (ow bb), some (.int (i : Nat)), some (fq l), some (oq (cP (xsO L) m (i : Nat) l)), some (.bl (decide (cP (xsO L) m (i : Nat) l = ow_ (xsO L) m (i : Nat) l)))] g2 := by simp [f2]
      rw [st]
      simp only [is_nx0]
      have z2 := P2.get z'
      have P3 := P'.trans P2
      cases z : cP (xsO L) m (i : Nat) l with
      | none =>
        rw [z] at uo
        exact w_if (b := false) (h1 := g2) rfl (fun z => by cases z) (fun _ => w_nil ⟨_, _, _, rfl, P3, z2, hB'⟩)
      | some v =>
        rw [z] at uo
        have nn : pNotN (fq v) .non g2 = .ok (.bl true) g2 := rfl
        cases bb with
        | none =>
          refine w_if (b := true) (h1 := g2) (by simp [-pNotN, oq, nn, ow]) (fun _ => ?_) (fun z => by cases z)
          exact w_set (v := wq (v, (i : Nat), l, decide (some v = ow_ (xsO L) m (i : Nat) l))) (h1 := g2) (by simp [oq, wq]) ⟨_, _, _, rfl, P3, z2, uo⟩
        | some w =>
          have le := less_eq (hB' w rfl).sm (cP_sm ox sl l1 z) (by decide) g2
          have n2 : pIsN (wq w) .non g2 = .ok (.bl false) g2 := rfl
          have i0 : pIdx (wq w) (.int 0) g2 = .ok (fq w.1) g2 := rfl
          refine w_if (b := decide (w.1 < v)) (h1 := g2) (by simp [-pNotN, -pIsN, -pIdx, oq, nn, ow, n2, i0, le]) (fun hb => ?_) (fun hb => ?_)
          · have c := of_decide_eq_true hb
            unfold upW at uo ⊢
            simp only [if_pos c] at uo ⊢
            exact w_set (v := wq (v, (i : Nat), l, decide (some v = ow_ (xsO L) m (i : Nat) l))) (h1 := g2) (by simp [oq, wq]) ⟨_, _, _, rfl, P3, z2, uo⟩
          · have c := of_decide_eq_false hb
            unfold upW at uo ⊢
            simp only [if_neg c] at uo ⊢
            exact w_nil ⟨_, _, _, rfl, P3, z2, uo⟩
    · rintro r g' ⟨b, c, d, rfl, P', z', hB'⟩
      rw [List.take_length] at hB'
      exact ⟨by simp [z'], _, _, _, _, by rw [List.take_length], P', hB'⟩
  · rintro r g ⟨a, b, c, d, rfl, P, hB⟩
    exact ⟨by simp, w_ret (v := ow (rW (xsO L) m R.toNat)) (h1 := g) (by simp) ⟨rfl, P, hB⟩⟩
end WR

namespace WR
open PySem PySem.Spec PyProof.Rows L2
/-! ### the law's own times -/
def LP (L : List (Nat × Pl)) (h : IH) : Prop := ∀ q ∈ L, h[q.1]? = some (.lst [.int q.2.1, tqs q.2.2.1, fq q.2.2.2])
theorem LP.pre {L : List (Nat × Pl)} {h g : IH} (t : LP L h) (P : Pre h g) : LP L g := fun q hq => P.get (t q hq)
theorem find_erase {L : List Rat} {a : Rat} (h : a ∈ L) : ∃ j, L.findIdx? (fun b => decide (b = a)) = some j ∧ L.eraseIdx j = L.erase a := by
  induction L with
  | nil => cases h
  | cons b L ih =>
    by_cases c : b = a
    · subst c
      exact ⟨0, by simp [List.findIdx?_cons], by simp⟩
    · have h' : a ∈ L := by
        rcases List.mem_cons.mp h with z | z
        · exact absurd z.symm c
        · exact z
      obtain ⟨j, e1, e2⟩ := ih h'
      refine ⟨j + 1, by simp [List.findIdx?_cons, c, e1], ?_⟩
      rw [List.eraseIdx_cons_succ, e2, List.erase_cons_tail (by simpa using c)]
theorem ix_erase {L : List Rat} {a : Rat} (h : a ∈ L) (g : IH) : ∃ j, ixAt (L.map fq) (fq a) g = some j ∧ (L.map fq).eraseIdx j = (L.erase a).map fq := by
  obtain ⟨j, e1, e2⟩ := find_erase h
  have e := EncOk.rat
  have x := optAll_map L fun z _ => e.dat 11 g z (by decide)
  have y := e.dat 12 g a (by decide)
  have s : SeqAt.shaped (.list (L.map fun q => .tuple [.int q.num, .int q.den])) = true := by
    have l := canAll L e.lay
    have d := depAll L e.dep
    simp [SeqAt.shaped, PyData.canLay0, PyData.depth, l]; omega
  have s2 : SeqAt.shaped (.tuple [.int a.num, .int a.den]) = true := by
    have := e.dep a
    have l := e.lay a
    simp [SeqAt.shaped, l]; omega
  refine ⟨j, ?_, by rw [← e2, List.eraseIdx_eq_take_drop_succ, List.eraseIdx_eq_take_drop_succ, List.map_append, List.map_take, List.map_drop]⟩
  unfold ixAt DEP
  rw [x, y]
  simp only [s, s2, Bool.and_self, if_true]
  rw [List.findIdx?_map]
  rw [← e1]
  congr 1
  funext b
  exact e.eqv b a
theorem least_loop5 {M : List Rat} (hM : ∀ q ∈ M, Sm 4000 q) (hl : M.length ≤ 1000) {n : Nat} {h : IH} (e : h[n]? = some (.lst (M.map fq))) {a0 a1 a2 a3 a4 a6 a8 a9 : Option PV} {q0 : Rat} (s0 : Sm 4000 q0) {N : Fm → IH → Prop} {R : PV → IH → Prop}
    (fin : ∀ b8, N [a0, a1, a2, a3, a4, some (.obj n), a6, some (fq (lq M q0)), b8, a9] h) :
    (sFor (eIter (eVar 5)) (gVar 8) (sSet 7 (eIf (tTru (eCall f__law_under (aCons (eVar 8) (aCons (eVar 7) aNil)))) (eVar 8) (eVar 7))) [a0, a1, a2, a3, a4, some (.obj n), a6, some (fq q0), a8, a9] h).Is N R := by
  refine w_for (it := itObj n) (h1 := h) M.length (fun i r g => g = h ∧ Sm 4000 (lq (M.take i) q0) ∧ ∃ b8, r = [a0, a1, a2, a3, a4, some (.obj n), a6, some (fq (lq (M.take i) q0)), b8, a9]) (by simp [e]) (by omega) ⟨rfl, s0, _, rfl⟩ ?_ ?_
  · rintro i r g hi ⟨rfl, sm, b8, rfl⟩
    have sq := hM _ (List.getElem_mem hi)
    have es : lq (M.take (i + 1)) q0 = mn (lq (M.take i) q0) M[i] := by
      unfold lq
      rw [List.take_succ_eq_append_getElem hi, List.foldl_append]; rfl
    rw [es]
    refine ⟨fq M[i], _, by simp [e, hi], rfl, ?_⟩
    generalize lq (M.take i) q0 = c at sm ⊢
    generalize M[i] = q at sq ⊢
    have l := lless_eq sq sm (by decide) g
    refine w_set (v := fq (mn c q)) (h1 := g) ?_ ⟨rfl, ?_, _, rfl⟩
    · unfold mn
      by_cases d : q < c <;> simp [l, d]
    · unfold mn; split <;> assumption
  · rintro r g ⟨rfl, sm, b8, rfl⟩
    rw [List.take_length]
    exact ⟨by simp [e], fin b8⟩
theorem ltime_eq {L : List (Nat × Pl)} {R : Int} {m : Nat} (o : OkTm L R m) {h : IH} (T : LP L h) {n : Nat} (e : h[n]? = some (.lst (L.map fun q => .obj q.1))) (p : Int) {f : Rat} {F : Nat} (hf : Sm F f) (hF : F ≤ 150) :
    ∃ v g, f__law_time [.obj n, .int m, .int p, fq f] h = .ok v g ∧ (v = oq (tm (xsO L) m p f) ∧ Pre h g) := by
  have le := o.le
  have hm := o.m
  have ox := o.xs
  refine w_fn rfl ?_
  have e1 : ∀ t, (h ++ t)[n]? = some (.lst (L.map fun q => .obj q.1)) := fun t => get_old e
  obtain ⟨t, lc⟩ := lc_enc (I := eIter (eVar 0)) (it := itObj n) (g := gVar 9) (c := tYesX) (A := eCall f__law_walked (aCons (eVar 9) (aCons (eVar 2) (aCons (eVar 3) aNil)))) (vs := [9]) (r := [some (.obj n), some (.int m), some (.int p), some (fq f), none, none, none, none, none, none]) (h := h) (base := h) (fun q : Nat × Pl => .obj q.1) L (0, 0, [], 0) (fun q => oq (wkd q.2 p f)) (fun _ => true) (by omega) (by simp [e])
    (fun j t hj => by simp [e1, hj]) (fun t => by simp [e1])
    (fun q hq t => by
      have e := lwalked_eq (o.ok q hq).1 (get_old (t := t) (T q hq)) p hf (by omega)
      exact ⟨[some (.obj n), some (.int m), some (.int p), some (fq f), none, none, none, none, none, some (.obj q.1)], [], rfl, by simp, fun _ => ⟨[], by simp [e]⟩⟩)
  rw [List.filter_eq_self.mpr (by simp)] at lc
  refine w_seq (w_set (v := .obj h.length) (h1 := h ++ .lst (L.map fun q => oq (wkd q.2 p f)) :: t) lc ?_)
  have P1 := Pre.of h (.lst (L.map fun q => oq (wkd q.2 p f)) :: t)
  have q1 : (h ++ .lst (L.map fun q => oq (wkd q.2 p f)) :: t)[h.length]? = some (.lst ((L.map fun q => wkd q.2 p f).map oq)) := by rw [List.map_map]; simp
  generalize h ++ .lst (L.map fun q => oq (wkd q.2 p f)) :: t = g1 at P1 q1
  have e2 : ∀ t, (g1 ++ t)[h.length]? = some (.lst ((L.map fun q => wkd q.2 p f).map oq)) := fun t => get_old q1
  obtain ⟨t2, lc2⟩ := lc_enc (I := eIter (eVar 4)) (it := itObj h.length) (g := gVar 8) (c := tBl (eOp pNotN (eVar 8) (eC .non))) (A := eVar 8) (vs := [8]) (r := [some (.obj n), some (.int m), some (.int p), some (fq f), some (.obj h.length), none, none, none, none, none]) (h := g1) (base := g1) oq (L.map fun q => wkd q.2 p f) none oq (fun w => w.isSome) (by simp; omega) (by simp [q1])
    (fun j t hj => by simp only [itObj, e2]; rw [List.getElem?_map, List.getElem?_eq_getElem hj]; rfl) (fun t => by simp only [itObj, e2]; simp)
    (fun w hw t => by
      cases w with
      | none => exact ⟨[some (.obj n), some (.int m), some (.int p), some (fq f), some (.obj h.length), none, none, none, some (oq none), none], [], rfl, by rw [List.append_nil]; rfl, fun z => by cases z⟩
      | some w => exact ⟨[some (.obj n), some (.int m), some (.int p), some (fq f), some (.obj h.length), none, none, none, some (oq (some w)), none], [], rfl, by rw [List.append_nil]; rfl, fun _ => ⟨[], by simp⟩⟩)
  rw [filt_oq] at lc2
  have tl := tms_len L p f
  have ts := tms_sm ox hf (p := p)
  refine w_seq (w_set (v := .obj g1.length) (h1 := g1 ++ .lst ((tms (xsO L) p f).map fq) :: t2) lc2 ?_)
  have P2 := P1.trans (Pre.of g1 (.lst ((tms (xsO L) p f).map fq) :: t2))
  have q2 : (g1 ++ .lst ((tms (xsO L) p f).map fq) :: t2)[g1.length]? = some (.lst ((tms (xsO L) p f).map fq)) := by simp
  have lg1 := P1.le
  generalize g1 ++ .lst ((tms (xsO L) p f).map fq) :: t2 = g2 at P2 q2
  have hk : h.length ≤ g1.length := lg1
  generalize g1.length = k at q2 hk
  unfold tm
  generalize tms (xsO L) p f = W at tl ts q2 ⊢
  have ts' : ∀ q ∈ W, Sm 4000 q := fun q hq => (ts q hq).mono (by omega)
  refine w_seq (w_for (it := itRange 0 m) (h1 := g2) m (fun i r g => ∃ a6 a7 a8 M, r = [some (.obj n), some (.int m), some (.int p), some (fq f), some (.obj h.length), some (.obj k), a6, a7, a8, none] ∧ Pre h g ∧ g[k]? = some (.lst (M.map fq)) ∧ srt M = (srt W).drop i ∧ (∀ q ∈ M, q ∈ W) ∧ M.length ≤ W.length)
    (by simp [rngOk, show m < 4611686018427387904 by omega]) (by omega) ⟨none, none, none, W, rfl, P2, q2, by simp, fun q hq => hq, Nat.le_refl _⟩ ?_ ?_)
  · rintro i r g hi ⟨a6, a7, a8, M, rfl, P, z, es, hM, lM⟩
    refine ⟨.int (i : Nat), _, by simp [hi], rfl, ?_⟩
    have eqn := EncOk.obj EncOk.rat (by decide) (get_old (t := [.lst []]) z) (show (g ++ [.lst []])[g.length]? = some (.lst (([] : List Rat).map fq)) by simp)
    have z' := get_old (t := [.lst []]) z
    have P' := P.app [.lst []]
    refine w_if (b := !decide (M = [])) (h1 := g ++ [.lst []]) (by simp [eqn]) (fun hb => ?_) (fun hb => ?_)
    · generalize g ++ [.lst []] = g' at z' P'
      cases M with
      | nil => simp at hb
      | cons a M =>
        refine w_seq (w_set (v := fq a) (h1 := g') (by simp [z']) ?_)
        refine w_seq (least_loop5 (M := a :: M) (fun q hq => ts' q (hM q hq)) (by omega) z' (ts' a (hM a (by simp))) ?_)
        intro b8
        have hin : lq (a :: M) a ∈ a :: M := by
          rcases lq_in (a :: M) a with y | y
          · rw [y]; simp
          · exact y
        obtain ⟨j, ej, er⟩ := ix_erase hin g'
        refine w_expr (v := .non) (h1 := g'.set k (.lst (((a :: M).erase (lq (a :: M) a)).map fq))) ?_ ?_
        · simp only [List.map_cons] at ej er z'
          simp [z', ej, er]
        · refine ⟨_, _, _, (a :: M).erase (lq (a :: M) a), rfl, P'.set _ hk, get_set_eq z', ?_, fun q hq => hM q (List.mem_of_mem_erase hq), ?_⟩
          · rw [srt_erase, es, List.tail_drop]
          · have := List.length_erase_le (a := lq (a :: M) a) (l := a :: M)
            omega
    · have hb' : M = [] := by simpa using hb
      subst hb'
      refine w_nil ⟨_, _, _, [], rfl, P', z', ?_, hM, by simp⟩
      have : (srt W).drop i = [] := by rw [← es]; rfl
      have l1 : (srt W).length ≤ i := List.drop_eq_nil_iff.mp this
      rw [List.drop_eq_nil_of_le (by omega)]; rfl
  · rintro r g ⟨a6, a7, a8, M, rfl, P, z, es, hM, lM⟩
    refine ⟨by simp, ?_⟩
    have eqn := EncOk.obj EncOk.rat (by decide) (get_old (t := [.lst []]) z) (show (g ++ [.lst []])[g.length]? = some (.lst (([] : List Rat).map fq)) by simp)
    have z' := get_old (t := [.lst []]) z
    have P' := P.app [.lst []]
    have hd : (srt W)[m]? = (srt M).head? := by rw [es, List.head?_drop]
    refine w_seq (w_if (b := decide (M = [])) (h1 := g ++ [.lst []]) (by simp [eqn]) (fun hb => ?_) (fun hb => w_nil ?_))
    · have hb' : M = [] := by simpa using hb
      subst hb'
      exact w_ret (v := .non) (h1 := g ++ [.lst []]) rfl ⟨by rw [hd]; rfl, P'⟩
    · generalize g ++ [.lst []] = g' at z' P'
      cases M with
      | nil => simp at hb
      | cons a M =>
        refine w_seq (w_set (v := fq a) (h1 := g') (by simp [z']) ?_)
        refine w_seq (least_loop5 (M := a :: M) (fun q hq => ts' q (hM q hq)) (by omega) z' (ts' a (hM a (by simp))) ?_)
        intro b8
        obtain ⟨t, et⟩ := srt_head a M
        exact w_ret (v := fq (lq (a :: M) a)) (h1 := g') (by simp) ⟨by rw [hd, et]; rfl, P'⟩
/-! ### the law's own ends -/
theorem lends_eq {L : List (Nat × Pl)} {R : Int} {m : Nat} (o : OkTm L R m) {h : IH} (T : LP L h) {n : Nat} (e : h[n]? = some (.lst (L.map fun q => .obj q.1))) (p : Int) :
    ∃ v g, f__law_ends [.obj n, .int p] h = .ok v g ∧ ∃ k, v = .obj k ∧ Pre h g ∧ g[k]? = some (.lst ((lends (xsO L) p).map fq)) ∧ (lends (xsO L) p).length ≤ 241 := by
  have le := o.le
  have ox := o.xs
  refine w_fn rfl ?_
  refine w_seq (w_set (v := .obj h.length) (h1 := h ++ [.lst [fq 1]]) (by simp; rfl) ?_)
  have e1 := get_old (t := [.lst [fq 1]]) e
  refine w_seq (w_for (it := itObj n) (h1 := h ++ [.lst [fq 1]]) L.length (fun i r g => ∃ k b c d f a7, r = [some (.obj n), some (.int p), some (.obj k), b, c, d, f, a7] ∧ Pre h g ∧ h.length ≤ k ∧ g[k]? = some (.lst (((rcs ((xsO L).take i) p).foldl ins1 [1]).map fq)) ∧ (∀ q ∈ (rcs ((xsO L).take i) p).foldl ins1 [1], Sm 50 q) ∧ ((rcs ((xsO L).take i) p).foldl ins1 [1]).length ≤ 1 + 60 * i)
    (by simp [e1]) (by omega) ⟨h.length, none, none, none, none, none, rfl, Pre.of _ _, Nat.le_refl _, by simp [rcs], by simp [rcs]; exact sm1.mono (by decide), by simp [rcs]⟩ ?_ ?_)
  · rintro i r g hi ⟨k, b, c, d, f, a7, rfl, P, hk, q1, qs, ln⟩
    obtain ⟨o1, o2⟩ := o.ok _ (List.getElem_mem hi)
    have t1 := (T.pre P) _ (List.getElem_mem hi)
    have hx : i < (xsO L).length := by simpa [xsO] using hi
    have es : rcs ((xsO L).take (i + 1)) p = rcs ((xsO L).take i) p ++ (L[i].2.2.1.filter fun t => decide (t.1 = p) && !decide (t.2 < 1)).map (·.2) := by
      unfold rcs
      rw [List.take_succ_eq_append_getElem hx, List.flatMap_append]
      simp [xsO]
    rw [es, List.foldl_append]
    refine ⟨.obj L[i].1, _, by simp [P.get e, hi], rfl, ?_⟩
    have hQ : ∀ t ∈ L[i].2.2.1, Sm 50 t.2 := fun t ht => (o1.t t ht).sm
    have lQ := o1.n
    generalize hQe : L[i].2.2.1 = Q at t1 hQ lQ
    generalize (rcs ((xsO L).take i) p).foldl ins1 [1] = B at q1 qs ln
    refine w_for (it := itList (Q.map tq)) (h1 := g) Q.length (fun j r g' => ∃ k c d f a7, r = [some (.obj n), some (.int p), some (.obj k), some (.obj L[i].1), c, d, f, a7] ∧ Pre h g' ∧ h.length ≤ k ∧ g'[k]? = some (.lst (((((Q.take j).filter fun t => decide (t.1 = p) && !decide (t.2 < 1)).map (·.2)).foldl ins1 B).map fq)) ∧ (∀ q ∈ (((Q.take j).filter fun t => decide (t.1 = p) && !decide (t.2 < 1)).map (·.2)).foldl ins1 B, Sm 50 q) ∧ ((((Q.take j).filter fun t => decide (t.1 = p) && !decide (t.2 < 1)).map (·.2)).foldl ins1 B).length ≤ B.length + j)
      (by simp [t1, tqs]) (by omega) ⟨k, c, d, f, a7, rfl, P, hk, by simpa using q1, by simpa using qs, by simp⟩ ?_ ?_
    · rintro j r g' hj ⟨k, c, d, f, a7, rfl, P', hk', y1, ys, ln2⟩
      have sq := hQ _ (List.getElem_mem hj)
      have fe : (((Q.take (j + 1)).filter fun t => decide (t.1 = p) && !decide (t.2 < 1)).map (·.2)).foldl ins1 B = (if (decide (Q[j].1 = p) && !decide (Q[j].2 < 1)) = true then ins1 ((((Q.take j).filter fun t => decide (t.1 = p) && !decide (t.2 < 1)).map (·.2)).foldl ins1 B) Q[j].2 else (((Q.take j).filter fun t => decide (t.1 = p) && !decide (t.2 < 1)).map (·.2)).foldl ins1 B) := by
        rw [List.take_succ_eq_append_getElem hj, List.filter_append, List.filter_cons, List.filter_nil]
        split
        · rw [List.map_append, List.foldl_append]; rfl
        · rw [List.append_nil]
      rw [fe]
      generalize (((Q.take j).filter fun t => decide (t.1 = p) && !decide (t.2 < 1)).map (·.2)).foldl ins1 B = M at y1 ys ln2 ⊢
      refine ⟨tq Q[j], _, by simp [hj], rfl, ?_⟩
      generalize Q[j] = t at sq ⊢
      have l1 := lless_eq sq sm1 (by decide) g'
      have inn := EncOk.rat.in_obj (by decide) t.2 y1
      refine w_if (b := (decide (t.1 = p) && (!decide (t.2 < 1) && !decide (t.2 ∈ M)))) (h1 := g') ?_ (fun hb => ?_) (fun hb => ?_)
      · by_cases c1 : t.1 = p
        · by_cases c2 : t.2 < 1 <;> simp [c1, fq_one, l1, c2, inn]
        · simp [c1]
      · simp only [Bool.and_eq_true] at hb
        obtain ⟨b1, b2, b3⟩ := hb
        have hn : t.2 ∉ M := by simpa using b3
        rw [if_pos (by rw [b1, b2]; rfl)]
        have ei : ins1 M t.2 = M.take (low1 M t.2) ++ [t.2] ++ M.drop (low1 M t.2) := if_neg hn
        have e2 : ∀ u, (g' ++ u)[k]? = some (.lst (M.map fq)) := fun u => get_old y1
        obtain ⟨u, lc⟩ := lc_enc (I := eIter (eVar 2)) (it := itObj k) (g := gVar 7) (c := tTru (eCall f__law_under (aCons (eVar 7) (aCons (eVar 5) aNil)))) (A := eVar 7) (vs := [7]) (r := [some (.obj n), some (.int p), some (.obj k), some (.obj L[i].1), some (.int t.1), some (fq t.2), f, a7]) (h := g') (base := g') fq M 0 fq (fun o => decide (o < t.2)) (by omega) (by simp [y1]) (fun j t hj => by simp [e2, hj]) (fun t => by simp [e2])
          (fun o' ho t' => ⟨[some (.obj n), some (.int p), some (.obj k), some (.obj L[i].1), some (.int t.1), some (fq t.2), f, some (fq o')], [], rfl, by have l := lless_eq (ys o' ho) sq (by decide) (g' ++ t'); simp [l], fun _ => ⟨[], by simp⟩⟩)
        refine w_seq (w_set (v := .int (low1 M t.2)) (h1 := g' ++ .lst ((M.filter fun o => decide (o < t.2)).map fq) :: u) ?_ ?_)
        · have lc' : eLc (eIter (eVar 2)) (gVar 7) (tTru (eCall f__law_under (aCons (eVar 7) (aCons (eVar 5) aNil)))) (eVar 7) [7] [some (.obj n), some (.int p), some (.obj k), some (.obj L[i].1), some (.int t.1), some (fq t.2), f, a7] g' = _ := lc
          have : ([some (.obj n), some (.int p), some (.obj k), some (.obj L[i].1), some (.int t.1), some (fq t.2), f, a7] : Fm) = ((([some (.obj n), some (.int p), some (.obj k), some (.obj L[i].1), c, d, f, a7] : Fm).set 4 (some (.int t.1))).set 5 (some (fq t.2))) := rfl
          simp only [eB, aCons, aNil]
          show ((eLc (eIter (eVar 2)) (gVar 7) (tTru (eCall f__law_under (aCons (eVar 7) (aCons (eVar 5) aNil)))) (eVar 7) [7] [some (.obj n), some (.int p), some (.obj k), some (.obj L[i].1), some (.int t.1), some (fq t.2), f, a7] g').bind _).bind _ = _
          rw [lc']
          simp [low1]
        have P3 := P'.app (.lst ((M.filter fun o => decide (o < t.2)).map fq) :: u)
        have y3 := get_old (t := .lst ((M.filter fun o => decide (o < t.2)).map fq) :: u) y1
        generalize g' ++ .lst ((M.filter fun o => decide (o < t.2)).map fq) :: u = g3 at P3 y3
        have cA := cut_to (M.map fq) (low1 M t.2 : Int) (by omega)
        have cB := cut_from (M.map fq) (low1 M t.2 : Int) (by omega)
        simp only [Int.toNat_natCast] at cA cB
        have ll := low1_le M t.2
        refine w_set (v := .obj (g3.length + 4)) (h1 := g3 ++ [.lst ((M.map fq).take (low1 M t.2)), .lst [fq t.2], .lst ((M.map fq).take (low1 M t.2) ++ [fq t.2]), .lst ((M.map fq).drop (low1 M t.2)), .lst ((M.map fq).take (low1 M t.2) ++ [fq t.2] ++ (M.map fq).drop (low1 M t.2))]) ?_ ?_
        · have g1 : ∀ t, (g3 ++ t)[k]? = some (.lst (M.map fq)) := fun t => get_old y3
          have m1 : min (low1 M t.2) M.length + 1 ≤ 16777216 := by omega
          have m2 : min (low1 M t.2) M.length + 1 + (M.length - low1 M t.2) ≤ 16777216 := by omega
          simp [y3, g1, cA, cB, ga1, m1, m2]
        · refine ⟨_, _, _, _, _, rfl, P3.app _, by have := P3.le; omega, by rw [ga1, ei]; simp [List.map_take, List.map_drop], fun q hq => ?_, ?_⟩
          · rcases (ins1_mem M t.2 q).mp hq with z | rfl
            · exact ys q z
            · exact sq
          · have := ins1_len M t.2
            omega
      · have keep : (if (decide (t.1 = p) && !decide (t.2 < 1)) = true then ins1 M t.2 else M) = M := by
          split
          · rename_i z
            simp only [Bool.and_eq_true] at z
            rw [z.1, z.2] at hb
            have : t.2 ∈ M := by simpa using hb
            exact if_pos this
          · rfl
        rw [keep]
        exact w_nil ⟨_, _, _, _, _, rfl, P', hk', y1, ys, by omega⟩
    · rintro r g' ⟨k, c, d, f, a7, rfl, P', hk', y1, ys, ln2⟩
      rw [List.take_length] at y1 ys ln2
      exact ⟨by simp, _, _, _, _, _, _, rfl, P', hk', y1, ys, by omega⟩
  · rintro r g ⟨k, b, c, d, f, a7, rfl, P, hk, q1, qs, ln⟩
    have ll : (xsO L).length = L.length := by simp [xsO]
    rw [← ll, List.take_length] at q1 ln
    exact ⟨by simp [P.get e], w_ret (v := .obj k) (h1 := g) (by simp) ⟨k, rfl, P, q1, by unfold lends; omega⟩⟩
end WR

namespace WR
open PySem PySem.Spec PyProof.Rows L2
def tiny : Rat := ⟨1, 1000000000000000, by decide, by decide⟩
theorem tiny_sm : Sm 50 tiny := by constructor <;> decide
theorem Sm.neg {A : Nat} {a : Rat} (h : Sm A a) : Sm A (-a) := ⟨by rw [Rat.neg_num, Int.natAbs_neg]; exact h.1, h.2⟩
theorem Kp.g2 {h g : IH} (k : Kp 1 0 h g) {n : Nat} {o : MO} (hn : 2 ≤ n) (e : h[n]? = some o) : g[n]? = some o := k.get n o (by omega) (by omega) e
/-- the plans of a team are made -/
theorem lc_plans {L : List (Nat × Pl)} {base : IH} (hL : LP L base) (ok : ∀ q ∈ L, OkP q.2) {q : Nat} (e : base[q]? = some (.lst (L.map fun q => .obj q.1))) (hl : L.length ≤ 1000) {r0 : Fm} (h19 : r0.length = 20) :
    ∀ (k i : Nat) (offs : List Nat) (t : IH), offs.length = i → i ≤ L.length → L.length - i < k → (∀ (j : Nat) (x : Nat × Pl), (L.take i)[j]? = some x → ∃ o : Nat, offs[j]? = some o ∧ t[o]? = some (MO.ins "Plan" [("held", pq x.2)])) →
    ∃ (offs' : List Nat) (t' : IH), lcL (itObj q) (gVar 19) tYesX (eCall (mkO "Plan" f_Plan___init__) (aCons (eOp pIdx (eVar 19) (eC (.int 0))) (aCons (eOp pIdx (eVar 19) (eC (.int 1))) (aCons (eOp pIdx (eVar 19) (eC (.int 2))) aNil)))) r0 base.length k i (base ++ .lst (offs.map fun o => .obj (base.length + 1 + o)) :: t) = .ok () (base ++ .lst (offs'.map fun o => .obj (base.length + 1 + o)) :: t') ∧ offs'.length = L.length ∧ ∀ (j : Nat) (x : Nat × Pl), L[j]? = some x → ∃ o : Nat, offs'[j]? = some o ∧ t'[o]? = some (MO.ins "Plan" [("held", pq x.2)]) := by
  intro k
  induction k with
  | zero => intro i offs t _ _ h; omega
  | succ k ih =>
    intro i offs t lo hi hk hx
    by_cases c : i < L.length
    · have ox := ok _ (List.getElem_mem c)
      have ea : (base ++ .lst (offs.map fun o => .obj (base.length + 1 + o)) :: t)[L[i].1]? = some (.lst [.int L[i].2.1, tqs L[i].2.2.1, fq L[i].2.2.2]) := get_old (hL _ (List.getElem_mem c))
      have eq : (base ++ .lst (offs.map fun o => .obj (base.length + 1 + o)) :: t)[q]? = some (.lst (L.map fun q => .obj q.1)) := get_old e
      have mk := mk_eq ox (base ++ .lst (offs.map fun o => .obj (base.length + 1 + o)) :: t)
      obtain ⟨offs', t', e1, e2, e3⟩ := ih (i + 1) (offs ++ [t.length]) (t ++ [.ins "Plan" [("held", pq L[i].2)]]) (by simp [lo]) (by omega) (by omega) (fun j x hj => by
        rw [List.take_succ_eq_append_getElem c, List.getElem?_append] at hj
        split at hj
        · rename_i z
          obtain ⟨o, a, b⟩ := hx j x hj
          exact ⟨o, by rw [List.getElem?_append_left (List.getElem?_eq_some_iff.mp a).1]; exact a, get_old b⟩
        · rename_i z
          have jl : (L.take i).length = i := by simp; omega
          have : j - (L.take i).length = 0 := by
            rcases Nat.eq_zero_or_pos (j - (L.take i).length) with y | y
            · exact y
            · rw [List.getElem?_eq_none (by simp; omega)] at hj; cases hj
          rw [this] at hj
          simp at hj
          subst hj
          refine ⟨t.length, ?_, by simp⟩
          rw [List.getElem?_append_right (by omega), lo, show j - i = 0 by omega]; rfl)
      refine ⟨offs', t', ?_, e2, e3⟩
      rw [← e1]
      have r19 : (r0.set 19 (some (.obj L[i].1)))[19]? = some (some (.obj L[i].1)) := List.getElem?_set_self (by omega)
      conv => lhs; unfold lcL
      have ln : (base ++ MO.lst (offs.map fun o => .obj (base.length + 1 + o)) :: t).length = base.length + 1 + t.length := by simp; omega
      rw [ln] at mk
      have l0 : offs.length < 16777216 := by omega
      simp [-mkO, eq, c, r19, ea, mk, l0]
    · have : i = L.length := by omega
      subst this
      refine ⟨offs, t, ?_, lo, fun j x hj => hx j x (by rw [List.take_length]; exact hj)⟩
      have eq : (base ++ .lst (offs.map fun o => .obj (base.length + 1 + o)) :: t)[q]? = some (.lst (L.map fun q => .obj q.1)) := get_old e
      unfold lcL
      simp [eq]
/-- the law's best -/
def gW (xs : List Pl) (m : Nat) (p : Int) (E : List Rat) (b : Option WV) : Option WV := E.foldl (fun b l => upW b (cL xs m p l) p l (decide (cL xs m p l = ow_ xs m p l))) b
theorem gW_pr {xs : List Pl} {m : Nat} {p : Int} : ∀ (E : List Rat) (b : Option WV), (gW xs m p E b).map prW = fL xs m p E (b.map prW)
  | [], b => rfl
  | e :: t, b => by
    show (gW xs m p t _).map prW = fL xs m p t _
    rw [gW_pr t, upW_pr]
def lW (xs : List Pl) (m : Nat) : Nat → Option WV
  | 0 => none
  | i + 1 => gW xs m (i : Nat) (lends xs (i : Nat)) (lW xs m i)
theorem lW_pr (xs : List Pl) (m : Nat) : ∀ i, (lW xs m i).map prW = bR xs m i
  | 0 => rfl
  | i + 1 => by rw [lW, bR, gW_pr, lW_pr xs m i]
theorem lends_sm {xs : List Pl} (ox : ∀ x ∈ xs, OkP x) {p : Int} {l : Rat} (h : l ∈ lends xs p) : Sm 50 l ∧ 1 ≤ l ∧ l ≤ 1000000000000 := by
  refine ⟨?_, lends_one h, ?_⟩
  · rcases lends_mem.mp h with rfl | z
    · exact sm1.mono (by decide)
    · obtain ⟨x, hx, t, ht, _, _, rfl⟩ := rcs_mem.mp z
      exact ((ox x hx).t t ht).sm
  · rcases lends_mem.mp h with rfl | z
    · decide
    · obtain ⟨x, hx, t, ht, _, _, rfl⟩ := rcs_mem.mp z
      exact ((ox x hx).t t ht).top
theorem upL_sm {xs : List Pl} (ox : ∀ x ∈ xs, OkP x) {m : Nat} {p : Int} {l : Rat} (hl : Sm 50 l) (h1 : 1 ≤ l) {b : Option WV} (hb : ∀ w, b = some w → Sm 3942 w.1) (t : Bool) : ∀ w, upW b (cL xs m p l) p l t = some w → Sm 3942 w.1 := by
  intro w hw
  cases z : cL xs m p l with
  | none => rw [z] at hw; exact hb w hw
  | some v =>
    rw [z] at hw
    have nv := cL_sm ox hl h1 z
    cases y : b with
    | none => rw [y] at hw; cases hw; exact nv
    | some u =>
      rw [y] at hw
      unfold upW at hw
      simp only at hw
      split at hw
      · cases hw; exact nv
      · cases hw; exact hb _ y
/-- what stands throughout -/
structure F5 (L : List (Nat × Pl)) (P : List (Nat × Pl)) (q : Nat) (g : IH) : Prop where
  lp : LP L g
  tp : TP P g
  q : g[q]? = some (.lst (L.map fun q => .obj q.1))
theorem F5.pre {L P : List (Nat × Pl)} {q : Nat} {g g' : IH} (f : F5 L P q g) (p : Pre g g') : F5 L P q g' := ⟨f.lp.pre p, f.tp.pre p, p.get f.q⟩
/-- one end -/
theorem end_step {L P : List (Nat × Pl)} {R : Int} {m q : Nat} (oL : OkTm L R m) (oP : OkTm P R m) (xs : xsO P = xsO L) {g : IH} (F : F5 L P q g) {i : Nat} (hi : (i : Int) < R) {l : Rat} (hl : l ∈ lends (xsO L) (i : Nat)) (gap : Gap (xsO L) (i : Nat) l (l + tiny)) {b : Option WV} (hb : ∀ w, b = some w → Sm 3942 w.1)
    {a0 a1 a2 a4 a5 a6 a13 a14 a15 a16 a17 a18 a19 : Option PV} {N : Fm → IH → Prop}
    (fin : ∀ g' b13 b14 b15 b16, Pre g g' → N [a0, a1, a2, some (.obj q), a4, a5, a6, some (tmv P), some (.int m), some (fq tiny), some (ow (upW b (cL (xsO L) m (i : Nat) l) (i : Nat) l (decide (cL (xsO L) m (i : Nat) l = ow_ (xsO L) m (i : Nat) l)))), some (.int (i : Nat)), some (fq l), b13, b14, b15, b16, a17, a18, a19] g') :
    (sSeq (sSet 13 (eCall f__law_time (aCons (eVar 3) (aCons (eVar 8) (aCons (eVar 11) (aCons (eVar 12) aNil))))))
    (sSeq (sIf (tBl (eOp pNe (eCall f_team_walked (aCons (eVar 7) (aCons (eVar 8) (aCons (eVar 11) (aCons (eVar 12) aNil))))) (eVar 13))) (sRet (eC (.bl false))) sNil)
    (sSeq (sSet 14 (eCall f__law_time (aCons (eVar 3) (aCons (eVar 8) (aCons (eVar 11) (aCons (eCall f__law_add (aCons (eVar 12) (aCons (eVar 9) aNil))) aNil))))))
    (sSeq (sSet 15 (eIf (tBl (eOp pIsN (eVar 14) (eC .non))) (eC .non) (eCall f__law_div (aCons (eCall f__law_add (aCons (eVar 14) (aCons (eTup (aCons (eUn pNeg (eOp pIdx (eVar 9) (eC (.int 0)))) (aCons (eOp pIdx (eVar 9) (eC (.int 1))) aNil))) aNil))) (aCons (eVar 12) aNil)))))
    (sSeq (sSet 16 (eIf (tBl (eOp pIsN (eVar 13) (eC .non))) (eC .non) (eCall f__law_div (aCons (eVar 13) (aCons (eVar 12) aNil)))))
    (sSeq (sIf (tAndX (tBl (eOp pNotN (eVar 16) (eC .non))) (tOrX (tBl (eOp pIsN (eVar 15) (eC .non))) (tTru (eCall f__law_under (aCons (eVar 15) (aCons (eVar 16) aNil)))))) (sSet 15 (eVar 16)) sNil)
    (sIf (tAndX (tBl (eOp pNotN (eVar 15) (eC .non))) (tOrX (tBl (eOp pIsN (eVar 10) (eC .non))) (tTru (eCall f__law_under (aCons (eOp pIdx (eVar 10) (eC (.int 0))) (aCons (eVar 15) aNil)))))) (sSet 10 (eTup (aCons (eVar 15) (aCons (eVar 11) (aCons (eVar 12) (aCons (eOp pEq (eVar 15) (eVar 16)) aNil)))))) sNil))))))
      [a0, a1, a2, some (.obj q), a4, a5, a6, some (tmv P), some (.int m), some (fq tiny), some (ow b), some (.int (i : Nat)), some (fq l), a13, a14, a15, a16, a17, a18, a19] g).Is N (fun v _ => v = .bl true) := by
  have ox := oL.xs
  obtain ⟨sl, l1, ltop⟩ := lends_sm ox hl
  have lp : 0 < l := by grind
  obtain ⟨v, g1, f1, rfl, P1⟩ := ltime_eq oL F.lp F.q (i : Nat) sl (by decide)
  refine w_seq (w_set (v := oq (tm (xsO L) m (i : Nat) l)) (h1 := g1) (by simp [f1]) ?_)
  have F1 := F.pre P1
  obtain ⟨g2, f2, P2⟩ := teamwalked_eq oP F1.tp (p := (i : Nat)) (f := l) ⟨by omega, hi, l1, by grind, sl.mono (by decide)⟩
  rw [xs] at f2
  refine w_seq (w_if (b := false) (h1 := g2) (by simp [f2]) (fun z => by cases z) (fun _ => w_nil ?_))
  have F2 := F1.pre P2
  have st : Sm 101 (l + tiny) := (sl.add tiny_sm).mono (by decide)
  obtain ⟨v, g3, f3, rfl, P3⟩ := ltime_eq oL F2.lp F2.q (i : Nat) st (by decide)
  have ad := lplus_eq sl tiny_sm (by decide) g2
  refine w_seq (w_set (v := oq (tm (xsO L) m (i : Nat) (l + tiny))) (h1 := g3) (by simp [ad, f3]) ?_)
  have ne := near_eq (xs := xsO L) (m := m) (p := (i : Nat)) l1 (show 0 < tiny by decide) gap
  have Pall := (P1.trans P2).trans P3
  refine w_seq (w_set (v := oq (nr (xsO L) m (i : Nat) l)) (h1 := g3) ?_ ?_)
  · rw [← ne]
    cases z : tm (xsO L) m (i : Nat) (l + tiny) with
    | none => simp [oq]
    | some w =>
      have sw := tm_sm ox st z
      have a1 := lplus_eq sw tiny_sm.neg (by decide) g3
      have a2 := lover_eq (sw.add tiny_sm.neg) sl lp (by decide) g3
      have i0 : pIdx (fq tiny) (.int 0) g3 = .ok (.int 1) g3 := rfl
      have i1 : pIdx (fq tiny) (.int 1) g3 = .ok (.int 1000000000000000) g3 := rfl
      have n2 : pIsN (fq w) .non g3 = .ok (.bl false) g3 := rfl
      have fB : PV.tup [.int (-1), .int 1000000000000000] = fq (-tiny) := rfl
      simp [-pIdx, -pIsN, oq, n2, i0, i1, fB, a1, a2]
  refine w_seq (w_set (v := oq (ow_ (xsO L) m (i : Nat) l)) (h1 := g3) ?_ ?_)
  · unfold ow_
    cases z : tm (xsO L) m (i : Nat) l with
    | none => simp [oq]
    | some w =>
      have a2 := lover_eq (tm_sm ox sl z) sl lp (by decide) g3
      have n2 : pIsN (fq w) .non g3 = .ok (.bl false) g3 := rfl
      simp [-pIsN, oq, n2, a2]
  have st3 : ∀ (M : Fm → IH → Prop) (Q : PV → IH → Prop) (r13 r14 : Option PV), M [a0, a1, a2, some (.obj q), a4, a5, a6, some (tmv P), some (.int m), some (fq tiny), some (ow b), some (.int (i : Nat)), some (fq l), r13, r14, some (oq (cL (xsO L) m (i : Nat) l)), some (oq (ow_ (xsO L) m (i : Nat) l)), a17, a18, a19] g3 →
      (sIf (tAndX (tBl (eOp pNotN (eVar 16) (eC .non))) (tOrX (tBl (eOp pIsN (eVar 15) (eC .non))) (tTru (eCall f__law_under (aCons (eVar 15) (aCons (eVar 16) aNil)))))) (sSet 15 (eVar 16)) sNil [a0, a1, a2, some (.obj q), a4, a5, a6, some (tmv P), some (.int m), some (fq tiny), some (ow b), some (.int (i : Nat)), some (fq l), r13, r14, some (oq (nr (xsO L) m (i : Nat) l)), some (oq (ow_ (xsO L) m (i : Nat) l)), a17, a18, a19] g3).Is M Q := by
    intro M Q r13 r14 hM
    unfold cL cmx at hM
    cases z : ow_ (xsO L) m (i : Nat) l with
    | none =>
      rw [z] at hM
      exact w_if (b := false) (h1 := g3) rfl (fun z => by cases z) (fun _ => w_nil hM)
    | some w =>
      rw [z] at hM
      have nn : pNotN (fq w) .non g3 = .ok (.bl true) g3 := rfl
      cases y : nr (xsO L) m (i : Nat) l with
      | none =>
        rw [y] at hM
        exact w_if (b := true) (h1 := g3) (by simp [-pNotN, oq, nn]) (fun _ => w_set (v := fq w) (h1 := g3) rfl hM) (fun z => by cases z)
      | some u =>
        rw [y] at hM
        have le := lless_eq (nr_sm ox sl l1 y) (ow_sm ox sl l1 z) (by decide) g3
        have n2 : pIsN (fq u) .non g3 = .ok (.bl false) g3 := rfl
        simp only at hM
        refine w_if (b := decide (u < w)) (h1 := g3) (by simp [-pNotN, -pIsN, oq, nn, n2, le]) (fun hb => ?_) (fun hb => ?_)
        · rw [if_pos (of_decide_eq_true hb)] at hM
          exact w_set (v := fq w) (h1 := g3) rfl hM
        · rw [if_neg (of_decide_eq_false hb)] at hM
          exact w_nil hM
  refine w_seq (st3 _ _ _ _ ?_)
  cases z : cL (xsO L) m (i : Nat) l with
  | none =>
    have := fin g3 (some (oq (tm (xsO L) m (i : Nat) l))) (some (oq (tm (xsO L) m (i : Nat) (l + tiny)))) (some (oq none)) (some (oq (ow_ (xsO L) m (i : Nat) l))) Pall
    rw [z] at this
    exact w_if (b := false) (h1 := g3) rfl (fun z => by cases z) (fun _ => w_nil this)
  | some v =>
    have sv := cL_sm ox sl l1 z
    have fin' := fin g3 (some (oq (tm (xsO L) m (i : Nat) l))) (some (oq (tm (xsO L) m (i : Nat) (l + tiny)))) (some (oq (some v))) (some (oq (ow_ (xsO L) m (i : Nat) l))) Pall
    rw [z] at fin'
    have nn : pNotN (fq v) .non g3 = .ok (.bl true) g3 := rfl
    have eqv : pEqB (fq v) (oq (ow_ (xsO L) m (i : Nat) l)) g3 = some (decide (some v = ow_ (xsO L) m (i : Nat) l)) := eq_oq (some v) _ g3
    cases b with
    | none =>
      refine w_if (b := true) (h1 := g3) (by simp [-pNotN, oq, nn, ow]) (fun _ => ?_) (fun z => by cases z)
      exact w_set (v := wq (v, (i : Nat), l, decide (some v = ow_ (xsO L) m (i : Nat) l))) (h1 := g3) (by simp [oq, wq] ; exact eqv ▸ rfl) fin'
    | some w =>
      have le := lless_eq (hb w rfl) sv (by decide) g3
      have n2 : pIsN (wq w) .non g3 = .ok (.bl false) g3 := rfl
      have i0 : pIdx (wq w) (.int 0) g3 = .ok (fq w.1) g3 := rfl
      refine w_if (b := decide (w.1 < v)) (h1 := g3) (by simp [-pNotN, -pIsN, -pIdx, oq, nn, ow, n2, i0, le]) (fun hb => ?_) (fun hb => ?_)
      · have c := of_decide_eq_true hb
        unfold upW at fin'
        simp only [if_pos c] at fin'
        exact w_set (v := wq (v, (i : Nat), l, decide (some v = ow_ (xsO L) m (i : Nat) l))) (h1 := g3) (by simp [oq, wq]; exact eqv ▸ rfl) fin'
      · have c := of_decide_eq_false hb
        unfold upW at fin'
        simp only [if_neg c] at fin'
        exact w_nil fin'
end WR

namespace WR
open PySem PySem.Spec PyProof.Rows L2
theorem gap_tiny {L : List (Nat × Pl)} (hd : ∀ q ∈ L, ∀ t ∈ q.2.2.1, Dr t.2) {p : Int} {l : Rat} (hl : l ∈ lends (xsO L) p) : Gap (xsO L) p l (l + tiny) := by
  intro x hx t ht tp
  obtain ⟨q, hq, rfl⟩ := List.mem_map.mp hx
  by_cases c : t.2 ≤ l
  · exact .inl c
  · right
    have dl : l.den ≤ 12 := by
      rcases lends_mem.mp hl with rfl | z
      · decide
      · obtain ⟨x, hx, u, hu, _, _, rfl⟩ := rcs_mem.mp z
        obtain ⟨q', hq', rfl⟩ := List.mem_map.mp hx
        exact (hd q' hq' u hu).2
    have a := apart dl (hd q hq t ht).2 (show l < t.2 by grind)
    have b : tiny ≤ mkRat 1 1000 := by decide
    grind
theorem law_true (ns : List Int) (hl : ns.length ≤ 63) : ∃ h, f_law [.fls (ns.map .int)] [] = .ok (.bl true) h := by
  obtain ⟨h1, e1, d1, k1⟩ := mix_eq ns 5 hl []
  simp only [List.length_nil, Nat.zero_add] at e1 d1 k1
  suffices H : ∃ v g, f_law [.fls (ns.map .int)] [] = .ok v g ∧ v = .bl true by
    obtain ⟨v, g, e, rfl⟩ := H
    exact ⟨g, e⟩
  refine w_fn rfl ?_
  refine w_seq (w_set (v := .obj 1) (h1 := h1) (by simp [e1]) ?_)
  have l1 := d1.lt
  -- the roads
  obtain ⟨s, g2, f2, s0, s1, d2, K2⟩ := draw (d1.app [.lst [.int 3, .int 5]]) 2 (by decide) (by decide)
  have z2 := K2.g2 (n := h1.length) (o := .lst [.int 3, .int 5]) (by omega) (by simp)
  obtain ⟨B, eqB, B0, B1⟩ : ∃ B : Int, atI [PV.int 3, .int 5] s = some (.int B) ∧ 3 ≤ B ∧ B ≤ 5 := by
    rcases (show s = 0 ∨ s = 1 by omega) with rfl | rfl
    · exact ⟨3, rfl, by decide, by decide⟩
    · exact ⟨5, rfl, by decide, by decide⟩
  obtain ⟨r, g3, f3, r0, r1, d3, K3⟩ := draw d2 B (by omega) (by omega)
  refine w_seq (?_ : (_ : RS).Is _ _)
  have st : ∀ r' : Fm, r'[1]? = some (some (.obj 1)) → sPar 2 3 (aCons (eOp pAdd (eC (.int 1)) (eCall f__law_next (aCons (eVar 1) (aCons (eOp pIdx (eLst (aCons (eC (.int 3)) (aCons (eC (.int 5)) aNil))) (eCall f__law_next (aCons (eVar 1) (aCons (eC (.int 2)) aNil)))) aNil)))) (aCons (eLst aNil) aNil)) r' h1
      = .nx ((r'.set 2 (some (.int (1 + r)))).set 3 (some (.obj g3.length))) (g3 ++ [.lst []]) := fun r' h => by simp [h, f2, z2, eqB, f3]
  rw [st _ rfl]
  simp only [is_nx0]
  have l3 := d3.lt
  have d4 := d3.app [.lst []]
  have q4 : (g3 ++ [.lst []])[g3.length]? = some (.lst []) := by simp
  have hq : 2 ≤ g3.length := by omega
  generalize g3 ++ [.lst []] = g4 at d4 q4
  generalize g3.length = q at q4 hq
  generalize hR : 1 + r = R
  have R1 : 1 ≤ R := by omega
  have R2 : R ≤ 5 := by omega
  -- how many turns
  have l4 := d4.lt
  obtain ⟨s5, g5, f5, s50, s51, d5, K5⟩ := draw (d4.app [.lst [.int 7, .int 7, .int 7, .int 60]]) 4 (by decide) (by decide)
  have z5 := K5.g2 (n := g4.length) (o := .lst [.int 7, .int 7, .int 7, .int 60]) (by omega) (by simp)
  have q5 := K5.g2 hq (get_old q4)
  obtain ⟨M, eM, M0, M1⟩ : ∃ M : Int, atI [PV.int 7, .int 7, .int 7, .int 60] s5 = some (.int M) ∧ 0 ≤ M ∧ M ≤ 60 := by
    rcases (show s5 = 0 ∨ s5 = 1 ∨ s5 = 2 ∨ s5 = 3 by omega) with rfl | rfl | rfl | rfl
    · exact ⟨7, rfl, by decide, by decide⟩
    · exact ⟨7, rfl, by decide, by decide⟩
    · exact ⟨7, rfl, by decide, by decide⟩
    · exact ⟨60, rfl, by decide, by decide⟩
  refine w_seq (w_set (v := .int M) (h1 := g5) (by simp [f5, z5, eM]) ?_)
  obtain ⟨nT, g6, f6, n0, n1, d6, K6⟩ := draw d5 4 (by decide) (by decide)
  refine w_seq (w_for (it := itRange 0 (1 + nT).toNat) (h1 := g6) (1 + nT).toNat
    (fun i r g => ∃ L a5 a6, r = [some (.fls (ns.map .int)), some (.obj 1), some (.int R), some (.obj q), some (.int M), a5, a6, none, none, none, none, none, none, none, none, none, none, none, none, none] ∧ DS 1 0 g ∧ g[q]? = some (.lst (L.map fun q : Nat × Pl => .obj q.1)) ∧ LP L g ∧ L.length = i ∧ ∀ x ∈ L, q < x.1 ∧ OkP x.2 ∧ x.2.1 = R ∧ ∀ t ∈ x.2.2.1, Dr t.2)
    (by simp [f6, rngOk, show (1 + nT).natAbs < 4611686018427387904 by omega]) (by omega)
    ⟨[], none, none, rfl, d6, by simpa using K6.g2 hq q5, (by intro x hx; cases hx), rfl, (by intro x hx; cases hx)⟩ ?_ ?_)
  · rintro i rr g hi ⟨L, a5, a6, rfl, d, eq, lp, ll, ok⟩
    refine ⟨.int (i : Nat), _, by simp [hi], rfl, ?_⟩
    -- a cost
    obtain ⟨b, u1, f1, b0, b1, dd1, KK1⟩ := draw d 2 (by decide) (by decide)
    have key : ∃ c u2, 0 ≤ c ∧ c ≤ 1000000000000 ∧ Sm 10 c ∧ DS 1 0 u2 ∧ Kp 1 0 g u2 ∧ ∀ rr : Fm, rr[1]? = some (some (.obj 1)) → (eIf (tBl (eOp pEq (eCall f__law_next (aCons (eVar 1) (aCons (eC (.int 2)) aNil))) (eC (.int 0)))) (eTup (aCons (eC (.int 0)) (aCons (eC (.int 1)) aNil))) (eCall f__law_f (aCons (eCall f__law_next (aCons (eVar 1) (aCons (eC (.int 9)) aNil))) (aCons (eOp pAdd (eC (.int 1)) (eCall f__law_next (aCons (eVar 1) (aCons (eC (.int 4)) aNil)))) aNil)))) rr g = .ok (fq c) u2 := by
      by_cases c : b = 0
      · exact ⟨0, u1, by decide, by decide, sm0.mono (by decide), dd1, KK1, fun rr h => by simp [h, f1, c, fq_zero]⟩
      · obtain ⟨u, g3, e3, p3, q3, d3, k3⟩ := draw dd1 9 (by decide) (by decide)
        obtain ⟨v, g4, e4, p4, q4, d4, k4⟩ := draw d3 4 (by decide) (by decide)
        have f := lf_eq' u (1 + v) g4 (by omega) (by omega) (by omega)
        exact ⟨mkRat u (1 + v).toNat, g4, mk_ge (m := 0) (by omega) (by omega), mk_le (m := 1000000000000) (by omega) (by omega), mk_small (by omega) (by omega) (by omega), d4, (KK1.trans k3).trans k4, fun rr h => by simp [h, f1, c, e3, e4, f]⟩
    obtain ⟨c, u2, c0, c1, c2, dd2, KK2, key⟩ := key
    refine w_seq (w_set (v := fq c) (h1 := u2) (key _ rfl) ?_)
    obtain ⟨T, u3, f3, tl, ht, dd3, KK3⟩ := turns_draw dd2 R M R1 R2 M0 M1
    have KK := KK2.trans KK3
    have eq3 := KK.g2 hq eq
    have lq := lt_of_get eq3
    have eq4 := get_old (t := [.lst [.int R, tqs T, fq c]]) eq3
    refine w_expr (v := .non) (h1 := (u3 ++ [MO.lst [.int R, tqs T, fq c]]).set q (.lst ((L ++ [(u3.length, (R, T, c))]).map fun q : Nat × Pl => .obj q.1))) ?_ ?_
    · have eq2 := KK2.g2 hq eq
      simp [eq2, f3, eq4, show L.length < 16777216 by omega]
    · refine ⟨L ++ [(u3.length, (R, T, c))], _, _, rfl, (dd3.app _).set _ (by omega) (by omega), get_set_eq eq4, fun x hx => ?_, by simp [ll], fun x hx => ?_⟩
      · rcases List.mem_append.mp hx with z | z
        · have := (ok x z).1
          rw [get_set_ne (by omega)]
          exact get_old (KK.g2 (by omega) (lp x z))
        · simp at z; subst z
          rw [get_set_ne (by simp; omega)]; simp
      · rcases List.mem_append.mp hx with z | z
        · exact ok x z
        · simp at z; subst z
          exact ⟨lq, ⟨by simpa using R1, by simpa using R2, by simp; omega, fun t z => (ht t z).1, c0, c1, c2⟩, rfl, fun t z => (ht t z).2⟩
  · rintro rr g ⟨L, a5, a6, rfl, d, eq, lp, ll, ok⟩
    refine ⟨by simp, ?_⟩
    have Ln : 1 ≤ L.length := by omega
    have Lm : L.length ≤ 4 := by omega
    -- the plans
    obtain ⟨offs, t7, e7, lo, ho⟩ := lc_plans lp (fun x hx => (ok x hx).2.1) eq (by omega) (r0 := [some (.fls (ns.map .int)), some (.obj 1), some (.int R), some (.obj q), some (.int M), a5, a6, none, none, none, none, none, none, none, none, none, none, none, none, none]) rfl LIM 0 [] [] rfl (by omega) (by simp [LIM]; omega) (fun j x hj => by simp at hj)
    have P7 := Pre.of g (.lst (offs.map fun o => .obj (g.length + 1 + o)) :: t7)
    have z7 : (g ++ .lst (offs.map fun o => .obj (g.length + 1 + o)) :: t7)[g.length]? = some (.lst (offs.map fun o => .obj (g.length + 1 + o))) := by simp
    -- the team
    have hP : ∃ P : List (Nat × Pl), P.map (fun q => PV.obj q.1) = offs.map (fun o => .obj (g.length + 1 + o)) ∧ xsO P = xsO L ∧ TP P (g ++ .lst (offs.map fun o => .obj (g.length + 1 + o)) :: t7) := by
      refine ⟨(offs.zip L).map fun z => (g.length + 1 + z.1, z.2.2), ?_, ?_, ?_⟩
      · rw [List.map_map]
        have : ((fun q : Nat × Pl => PV.obj q.1) ∘ fun z : Nat × Nat × Pl => (g.length + 1 + z.1, z.2.2)) = (fun o => PV.obj (g.length + 1 + o)) ∘ Prod.fst := rfl
        rw [this, ← List.map_map, List.map_fst_zip (by omega)]
      · unfold xsO
        rw [List.map_map]
        have : ((fun x : Nat × Pl => x.2) ∘ fun z : Nat × Nat × Pl => (g.length + 1 + z.1, z.2.2)) = (fun x : Nat × Pl => x.2) ∘ Prod.snd := rfl
        rw [this, ← List.map_map, List.map_snd_zip (by omega)]
      · intro y hy
        obtain ⟨z, hz, rfl⟩ := List.mem_map.mp hy
        obtain ⟨j, hj⟩ := List.mem_iff_getElem?.mp hz
        rw [List.getElem?_zip_eq_some] at hj
        obtain ⟨o, h1, h2⟩ := ho j z.2 hj.2
        rw [hj.1] at h1
        cases h1
        simp only
        rw [show g.length + 1 + z.1 = g.length + (1 + z.1) by omega, ga1, show 1 + z.1 = z.1 + 1 by omega]
        simpa using h2
    obtain ⟨P, eP, xP, tP⟩ := hP
    have lP : P.length = L.length := by
      have := congrArg List.length eP
      simp at this; omega
    have d7 := d.app (.lst (offs.map fun o => .obj (g.length + 1 + o)) :: t7)
    have eq7 := P7.get eq
    obtain ⟨m, g8, f8, m0, m1, d8, K8⟩ := draw d7 L.length (by omega) (by omega)
    refine w_seq (?_ : (_ : RS).Is _ _)
    have st7 : sPar 7 8 (aCons (eB pTuple1 (aCons (eLc (eIter (eVar 3)) (gVar 19) tYesX (eCall (mkO "Plan" f_Plan___init__) (aCons (eOp pIdx (eVar 19) (eC (.int 0))) (aCons (eOp pIdx (eVar 19) (eC (.int 1))) (aCons (eOp pIdx (eVar 19) (eC (.int 2))) aNil)))) [19]) aNil)) (aCons (eCall f__law_next (aCons (eVar 1) (aCons (eB pLen (aCons (eVar 3) aNil)) aNil))) aNil)) [some (.fls (ns.map .int)), some (.obj 1), some (.int R), some (.obj q), some (.int M), a5, a6, none, none, none, none, none, none, none, none, none, none, none, none, none] g
        = .nx [some (.fls (ns.map .int)), some (.obj 1), some (.int R), some (.obj q), some (.int M), a5, a6, some (tmv P), some (.int m), none, none, none, none, none, none, none, none, none, none, none] g8 := by
      have lc : eLc (eIter (eVar 3)) (gVar 19) tYesX (eCall (mkO "Plan" f_Plan___init__) (aCons (eOp pIdx (eVar 19) (eC (.int 0))) (aCons (eOp pIdx (eVar 19) (eC (.int 1))) (aCons (eOp pIdx (eVar 19) (eC (.int 2))) aNil)))) [19] [some (.fls (ns.map .int)), some (.obj 1), some (.int R), some (.obj q), some (.int M), a5, a6, none, none, none, none, none, none, none, none, none, none, none, none, none] g = .ok (.obj g.length) (g ++ .lst (offs.map fun o => .obj (g.length + 1 + o)) :: t7) := by
        unfold eLc
        simp only [eIter, eVar, List.getElem?_cons_succ, List.getElem?_cons_zero, Res.bind, eq]
        have : wipeF [some (.fls (ns.map .int)), some (.obj 1), some (.int R), some (.obj q), some (.int M), a5, a6, none, none, none, none, none, none, none, none, none, none, none, none, none] [19] = [some (.fls (ns.map .int)), some (.obj 1), some (.int R), some (.obj q), some (.int M), a5, a6, none, none, none, none, none, none, none, none, none, none, none, none, none] := rfl
        rw [this]
        simp only [List.map_nil] at e7
        rw [e7]
      simp only [sPar, aCons, eB, aNil, Res.bind, lc]
      simp [z7, eq7, f8, tmv, eP]
    rw [st7]
    simp only [is_nx0]
    have mN : (m : Int) = ((m.toNat : Nat) : Int) := by omega
    rw [mN]
    have F : F5 L P q g8 := by
      refine ⟨fun x hx => K8.g2 (by have := (ok x hx).1; omega) (P7.get (lp x hx)), fun x hx => ?_, K8.g2 hq eq7⟩
      have tx := tP x hx
      have : 2 ≤ x.1 := by
        rcases Nat.lt_or_ge x.1 2 with z | z
        · obtain ⟨a, b, e⟩ := d7.st
          obtain ⟨cs, f, _⟩ := d7.ce
          rcases (show x.1 = 0 ∨ x.1 = 1 by omega) with y | y
          · rw [y, f] at tx; cases tx
          · rw [y, e] at tx; cases tx
        · exact z
      exact K8.g2 this tx
    generalize hm : m.toNat = mm
    have mm1 : mm < L.length := by omega
    have oL : OkTm L R mm := ⟨Ln, Lm, mm1, fun x hx => ⟨(ok x hx).2.1, (ok x hx).2.2.1⟩, R1, R2⟩
    have oP : OkTm P R mm := ⟨by omega, by omega, by omega, fun x hx => by
      have : x.2 ∈ xsO P := List.mem_map.mpr ⟨x, hx, rfl⟩
      rw [xP] at this
      obtain ⟨y, hy, e⟩ := List.mem_map.mp this
      rw [← e]
      exact ⟨(ok y hy).2.1, (ok y hy).2.2.1⟩, R1, R2⟩
    have ox := oL.xs
    have hd : ∀ x ∈ L, ∀ t ∈ x.2.2.1, Dr t.2 := fun x hx => (ok x hx).2.2.2
    refine w_seq (w_set (v := fq tiny) (h1 := g8) (by simp; rfl) ?_)
    refine w_seq (w_set (v := .non) (h1 := g8) rfl ?_)
    -- all ends
    refine w_seq (w_for (it := itRange 0 R.toNat) (h1 := g8) R.toNat
      (fun i r g => ∃ a11 a12 a13 a14 a15 a16, r = [some (.fls (ns.map .int)), some (.obj 1), some (.int R), some (.obj q), some (.int M), a5, a6, some (tmv P), some (.int (mm : Nat)), some (fq tiny), some (ow (lW (xsO L) mm i)), a11, a12, a13, a14, a15, a16, none, none, none] ∧ Pre g8 g ∧ ∀ w, lW (xsO L) mm i = some w → Sm 3942 w.1)
      (by simp [rngOk, show R.natAbs < 4611686018427387904 by omega]) (by omega) ⟨none, none, none, none, none, none, rfl, Pre.refl _, fun w hw => by cases hw⟩ ?_ ?_)
    · rintro i rr g hi ⟨a11, a12, a13, a14, a15, a16, rfl, Pg, hB⟩
      refine ⟨.int (i : Nat), _, by simp [hi], rfl, ?_⟩
      have F1 := F.pre Pg
      obtain ⟨v, g1, f1, k, rfl, P1, z1, el⟩ := lends_eq oL F1.lp F1.q (i : Nat)
      have es : lW (xsO L) mm (i + 1) = gW (xsO L) mm (i : Nat) (lends (xsO L) (i : Nat)) (lW (xsO L) mm i) := rfl
      rw [es]
      have hE : ∀ l ∈ lends (xsO L) (i : Nat), l ∈ lends (xsO L) (i : Nat) := fun l h => h
      generalize lW (xsO L) mm i = b0 at hB ⊢
      refine w_for (it := itObj k) (h1 := g1) (lends (xsO L) (i : Nat)).length (fun j r g' => ∃ a12 a13 a14 a15 a16, r = [some (.fls (ns.map .int)), some (.obj 1), some (.int R), some (.obj q), some (.int M), a5, a6, some (tmv P), some (.int (mm : Nat)), some (fq tiny), some (ow (gW (xsO L) mm (i : Nat) ((lends (xsO L) (i : Nat)).take j) b0)), some (.int (i : Nat)), a12, a13, a14, a15, a16, none, none, none] ∧ Pre g8 g' ∧ g'[k]? = some (.lst ((lends (xsO L) (i : Nat)).map fq)) ∧ ∀ w, gW (xsO L) mm (i : Nat) ((lends (xsO L) (i : Nat)).take j) b0 = some w → Sm 3942 w.1)
        (by simp [f1, z1]) (by omega) ⟨_, _, _, _, _, rfl, Pg.trans P1, z1, hB⟩ ?_ ?_
      · rintro j rr g' hj ⟨a12, a13, a14, a15, a16, rfl, P', z', hB'⟩
        have hlm := List.getElem_mem hj
        obtain ⟨sl, l1', _⟩ := lends_sm ox hlm
        have fe : gW (xsO L) mm (i : Nat) ((lends (xsO L) (i : Nat)).take (j + 1)) b0 = upW (gW (xsO L) mm (i : Nat) ((lends (xsO L) (i : Nat)).take j) b0) (cL (xsO L) mm (i : Nat) (lends (xsO L) (i : Nat))[j]) (i : Nat) (lends (xsO L) (i : Nat))[j] (decide (cL (xsO L) mm (i : Nat) (lends (xsO L) (i : Nat))[j] = ow_ (xsO L) mm (i : Nat) (lends (xsO L) (i : Nat))[j])) := by
          unfold gW
          rw [List.take_succ_eq_append_getElem hj, List.foldl_append]; rfl
        rw [fe]
        refine ⟨fq (lends (xsO L) (i : Nat))[j], _, by simp [z', hj], rfl, ?_⟩
        have us := upL_sm ox (m := mm) (p := (i : Nat)) sl l1' hB' (decide (cL (xsO L) mm (i : Nat) (lends (xsO L) (i : Nat))[j] = ow_ (xsO L) mm (i : Nat) (lends (xsO L) (i : Nat))[j]))
        have gp := gap_tiny hd hlm
        refine end_step oL oP xP (F.pre P') (by omega) hlm gp hB' ?_
        intro g2 b13 b14 b15 b16 P2
        exact ⟨_, _, _, _, _, rfl, P'.trans P2, P2.get z', us⟩
      · rintro rr g' ⟨a12, a13, a14, a15, a16, rfl, P', z', hB'⟩
        rw [List.take_length] at hB'
        exact ⟨by simp [z'], _, _, _, _, _, _, by rw [List.take_length], P', hB'⟩
    · rintro rr g ⟨a11, a12, a13, a14, a15, a16, rfl, Pg, hB⟩
      refine ⟨by simp, ?_⟩
      have F1 := F.pre Pg
      have dg := d8.app
      obtain ⟨v, g9, f9, rfl, P9, okB⟩ := teamworst_eq oP F1.tp
      rw [xP] at f9 okB
      refine w_seq (w_set (v := ow (rW (xsO L) mm R.toNat)) (h1 := g9) (by simp [f9]) ?_)
      have e1 := rW_pr ox mm R.toNat
      have e2 := lW_pr (xsO L) mm R.toNat
      have all := fun p f w (hp : p < R.toNat) (hf : 1 ≤ f) (h : tm (xsO L) mm (p : Nat) f = some w) => bR_all ox (R := R.toNat) hp hf h
      rw [← e1] at all
      have same : (rW (xsO L) mm R.toNat).map prW = (lW (xsO L) mm R.toNat).map prW := by rw [e1, e2]
      have F9 := F1.pre P9
      have P89 := Pg.trans P9
      cases w1 : rW (xsO L) mm R.toNat with
      | none =>
        rw [w1] at same
        have w2 : lW (xsO L) mm R.toNat = none := by
          cases z : lW (xsO L) mm R.toNat with
          | none => rfl
          | some y => rw [z] at same; cases same
        rw [w2]
        refine w_seq (w_if (b := true) (h1 := g9) rfl (fun _ => ?_) (fun z => by cases z))
        exact w_ret (v := .bl true) (h1 := g9) rfl rfl
      | some w =>
        rw [w1] at same all
        obtain ⟨w', w2, pr⟩ : ∃ w', lW (xsO L) mm R.toNat = some w' ∧ prW w = prW w' := by
          cases z : lW (xsO L) mm R.toNat with
          | none => rw [z] at same; cases same
          | some y => rw [z] at same; exact ⟨y, rfl, by simpa using same⟩
        rw [w2]
        have ow1 := okB w w1
        have p1 : w'.1 = w.1 := (congrArg (·.1) pr).symm
        have p2 : w'.2.1 = w.2.1 := (congrArg (·.2.1) pr).symm
        have p3 : w'.2.2.1 = w.2.2.1 := (congrArg (·.2.2) pr).symm
        have lo := ow1.lo
        have hi := ow1.hi
        refine w_seq (w_if (b := false) (h1 := g9) rfl (fun z => by cases z) (fun _ => w_nil ?_))
        obtain ⟨v, g10, f10, rfl, P10⟩ := ltime_eq oL F9.lp F9.q w.2.1 ow1.ls (by decide)
        have i0 : ∀ (w : WV) (g : IH), pIdx (wq w) (.int 0) g = .ok (fq w.1) g := fun _ _ => rfl
        have i1 : ∀ (w : WV) (g : IH), pIdx (wq w) (.int 1) g = .ok (.int w.2.1) g := fun _ _ => rfl
        have i2 : ∀ (w : WV) (g : IH), pIdx (wq w) (.int 2) g = .ok (fq w.2.2.1) g := fun _ _ => rfl
        have i3 : ∀ (w : WV) (g : IH), pIdx (wq w) (.int 3) g = .ok (.bl w.2.2.2) g := fun _ _ => rfl
        refine w_seq (w_set (v := oq (tm (xsO L) mm w.2.1 w.2.2.1)) (h1 := g10) (by simp [-pIdx, ow, i1, i2, f10]) ?_)
        have ml := ltimes_eq ow1.sm ow1.ls (by decide) g10
        have eqm : pEqB (oq (tm (xsO L) mm w.2.1 w.2.2.1)) (fq (w.1 * w.2.2.1)) g10 = some (decide (tm (xsO L) mm w.2.1 w.2.2.1 = some (w.1 * w.2.2.1))) := eq_oq _ (some _) g10
        have mt := ow1.mt
        have eqbl : ∀ (a : Bool) (h : IH), pEqB (.bl a) (.bl a) h = some true := fun a h => by cases a <;> simp [pEqB, SeqAt.shaped, PyData.canLay0, PyData.depth, PyData.eqv]
        refine w_seq (w_if (b := false) (h1 := g10) (by simp [-pIdx, ow, i0, i2, i3, p1, ml, eqm, mt, eqbl]) (fun z => by cases z) (fun _ => w_nil ?_))
        have d10 : DS 1 0 g10 := by
          obtain ⟨u, rfl⟩ := P89.trans P10
          exact d8.app u
        obtain ⟨z, g11, f11, z0, z1, d11, K11⟩ := draw d10 200 (by decide) (by decide)
        have lf := lf_eq' (9 + z) 9 g11 (by omega) (by omega) (by omega)
        have fr1 : 1 ≤ mkRat (9 + z) (Int.toNat 9) := mk_ge (m := 1) (by omega) (by omega)
        have frs : Sm 20 (mkRat (9 + z) (Int.toNat 9)) := mk_small (by omega) (by decide) (by decide)
        generalize mkRat (9 + z) (Int.toNat 9) = far at lf fr1 frs
        refine w_seq (w_set (v := fq far) (h1 := g11) (by simp [f11, lf]) ?_)
        have F11 : LP L g11 ∧ g11[q]? = some (.lst (L.map fun q => .obj q.1)) := by
          have F10 := F9.pre P10
          exact ⟨fun x hx => K11.g2 (by have := (ok x hx).1; omega) (F10.lp x hx), K11.g2 hq F10.q⟩
        obtain ⟨v, g12, f12, rfl, P12⟩ := ltime_eq oL F11.1 F11.2 w.2.1 frs (by decide)
        refine w_seq (w_set (v := oq (tm (xsO L) mm w.2.1 far)) (h1 := g12) (by simp [-pIdx, ow, i1, p2, f12]) ?_)
        refine w_seq (w_if (b := false) (h1 := g12) ?_ (fun z => by cases z) (fun _ => w_nil ?_))
        · cases y : tm (xsO L) mm w.2.1 far with
          | none => simp [oq]
          | some u =>
            have su := tm_sm ox frs y
            have fp : 0 < far := by grind
            have dv := lover_eq su frs fp (by decide) g12
            have ls := lless_eq ow1.sm (su.div frs fp) (by decide) g12
            have bd := all w.2.1.toNat far u (by omega) fr1 (by rw [show ((w.2.1.toNat : Nat) : Int) = w.2.1 by omega]; exact y)
            obtain ⟨w3, e3, le3⟩ := bd
            have e3' : prW w = w3 := by simpa using e3
            rw [← e3'] at le3
            have nl : ¬ w.1 < u / far := by simp only [prW] at le3; grind
            have nn : pNotN (fq u) .non g12 = .ok (.bl true) g12 := rfl
            simp [-pNotN, -pIdx, oq, nn, ow, i0, dv, ls, nl]
        · refine w_ret (v := .bl true) (h1 := g12) ?_ rfl
          have sl1 : ∀ (w : WV) (g : IH), pSl (wq w) (some 1) (some 3) g = .ok (tq (w.2.1, w.2.2.1)) g := fun _ _ => rfl
          have eqt := EncOk.turn.eq (by decide) (w.2.1, w.2.2.1) (w.2.1, w.2.2.1) g12
          simp [-pSl, ow, sl1, p2, p3, eqt]
end WR

/-! each def does what its code says -/
namespace WR
open PySem PySem.Spec PyProof.Rows L2
def topS (i : Nat) : Stmt := PySem.Challenge.pw_whichroad_k05_whole_teams.main.body.getD i (.Pass ⟨0, 0, 0, 0⟩)
structure Txt (K : PySem.W.Frag) (mg : Str → Option Value) : Prop where
  d_is_integer : ∃ fd, Fun K "is_integer" "is_integer" (topS 12) (He.ga K "is_integer") fd
  g_is_integer : mg "is_integer" = some (.ref (He.ga K "is_integer"))
  d_is_from : ∃ fd, Fun K "is_from" "is_from" (topS 13) (He.ga K "is_from") fd
  g_is_from : mg "is_from" = some (.ref (He.ga K "is_from"))
  d_common : ∃ fd, Fun K "common" "common" (topS 14) (He.ga K "common") fd
  g_common : mg "common" = some (.ref (He.ga K "common"))
  d_ratio : ∃ fd, Fun K "ratio" "ratio" (topS 15) (He.ga K "ratio") fd
  g_ratio : mg "ratio" = some (.ref (He.ga K "ratio"))
  d_is_fraction : ∃ fd, Fun K "is_fraction" "is_fraction" (topS 16) (He.ga K "is_fraction") fd
  g_is_fraction : mg "is_fraction" = some (.ref (He.ga K "is_fraction"))
  d_plus : ∃ fd, Fun K "plus" "plus" (topS 17) (He.ga K "plus") fd
  g_plus : mg "plus" = some (.ref (He.ga K "plus"))
  d_times : ∃ fd, Fun K "times" "times" (topS 18) (He.ga K "times") fd
  g_times : mg "times" = some (.ref (He.ga K "times"))
  d_over : ∃ fd, Fun K "over" "over" (topS 19) (He.ga K "over") fd
  g_over : mg "over" = some (.ref (He.ga K "over"))
  d_is_less : ∃ fd, Fun K "is_less" "is_less" (topS 20) (He.ga K "is_less") fd
  g_is_less : mg "is_less" = some (.ref (He.ga K "is_less"))
  d_is_within : ∃ fd, Fun K "is_within" "is_within" (topS 21) (He.ga K "is_within") fd
  g_is_within : mg "is_within" = some (.ref (He.ga K "is_within"))
  d_greatest_of : ∃ fd, Fun K "greatest_of" "greatest_of" (topS 22) (He.ga K "greatest_of") fd
  g_greatest_of : mg "greatest_of" = some (.ref (He.ga K "greatest_of"))
  d_is_reach : ∃ fd, Fun K "is_reach" "is_reach" (topS 28) (He.ga K "is_reach") fd
  g_is_reach : mg "is_reach" = some (.ref (He.ga K "is_reach"))
  d_is_turn : ∃ fd, Fun K "is_turn" "is_turn" (topS 29) (He.ga K "is_turn") fd
  g_is_turn : mg "is_turn" = some (.ref (He.ga K "is_turn"))
  d_check_roads : ∃ fd, Fun K "check_roads" "check_roads" (topS 30) (He.ga K "check_roads") fd
  g_check_roads : mg "check_roads" = some (.ref (He.ga K "check_roads"))
  d_check_cost : ∃ fd, Fun K "check_cost" "check_cost" (topS 31) (He.ga K "check_cost") fd
  g_check_cost : mg "check_cost" = some (.ref (He.ga K "check_cost"))
  d_Plan___init__ : ∃ fd, Fun K "__init__" "Plan.__init__" (inClass (topS 32) 0) (He.ma K (He.ga K "Plan") "__init__") fd
  d_Plan_roads : ∃ fd, Fun K "roads" "Plan.roads" (inClass (topS 32) 1) (He5.wf K (He.ga K "Plan") "property" "roads") fd
  d_Plan_turns : ∃ fd, Fun K "turns" "Plan.turns" (inClass (topS 32) 2) (He5.wf K (He.ga K "Plan") "property" "turns") fd
  d_Plan_cost : ∃ fd, Fun K "cost" "Plan.cost" (inClass (topS 32) 3) (He5.wf K (He.ga K "Plan") "property" "cost") fd
  d_Plan___len__ : ∃ fd, Fun K "__len__" "Plan.__len__" (inClass (topS 32) 4) (He.ma K (He.ga K "Plan") "__len__") fd
  d_Plan___eq__ : ∃ fd, Fun K "__eq__" "Plan.__eq__" (inClass (topS 32) 5) (He.ma K (He.ga K "Plan") "__eq__") fd
  d_check_road : ∃ fd, Fun K "check_road" "check_road" (topS 33) (He.ga K "check_road") fd
  g_check_road : mg "check_road" = some (.ref (He.ga K "check_road"))
  d_is_far : ∃ fd, Fun K "is_far" "is_far" (topS 34) (He.ga K "is_far") fd
  g_is_far : mg "is_far" = some (.ref (He.ga K "is_far"))
  d_check_far : ∃ fd, Fun K "check_far" "check_far" (topS 35) (He.ga K "check_far") fd
  g_check_far : mg "check_far" = some (.ref (He.ga K "check_far"))
  d_bases_of : ∃ fd, Fun K "bases_of" "bases_of" (topS 36) (He.ga K "bases_of") fd
  g_bases_of : mg "bases_of" = some (.ref (He.ga K "bases_of"))
  d_walked_by : ∃ fd, Fun K "walked_by" "walked_by" (topS 37) (He.ga K "walked_by") fd
  g_walked_by : mg "walked_by" = some (.ref (He.ga K "walked_by"))
  d_pieces_of : ∃ fd, Fun K "pieces_of" "pieces_of" (topS 38) (He.ga K "pieces_of") fd
  g_pieces_of : mg "pieces_of" = some (.ref (He.ga K "pieces_of"))
  d_check_team : ∃ fd, Fun K "check_team" "check_team" (topS 41) (He.ga K "check_team") fd
  g_check_team : mg "check_team" = some (.ref (He.ga K "check_team"))
  d_in_order : ∃ fd, Fun K "in_order" "in_order" (topS 42) (He.ga K "in_order") fd
  g_in_order : mg "in_order" = some (.ref (He.ga K "in_order"))
  d_team_time : ∃ fd, Fun K "team_time" "team_time" (topS 43) (He.ga K "team_time") fd
  g_team_time : mg "team_time" = some (.ref (He.ga K "team_time"))
  d_team_walked : ∃ fd, Fun K "team_walked" "team_walked" (topS 44) (He.ga K "team_walked") fd
  g_team_walked : mg "team_walked" = some (.ref (He.ga K "team_walked"))
  d_bases_behind : ∃ fd, Fun K "bases_behind" "bases_behind" (topS 45) (He.ga K "bases_behind") fd
  g_bases_behind : mg "bases_behind" = some (.ref (He.ga K "bases_behind"))
  d_lows_of : ∃ fd, Fun K "lows_of" "lows_of" (topS 46) (He.ga K "lows_of") fd
  g_lows_of : mg "lows_of" = some (.ref (He.ga K "lows_of"))
  d_share_at : ∃ fd, Fun K "share_at" "share_at" (topS 47) (He.ga K "share_at") fd
  g_share_at : mg "share_at" = some (.ref (He.ga K "share_at"))
  d_team_worst : ∃ fd, Fun K "team_worst" "team_worst" (topS 48) (He.ga K "team_worst") fd
  g_team_worst : mg "team_worst" = some (.ref (He.ga K "team_worst"))
  d__law_mix : ∃ fd, Fun K "_law_mix" "_law_mix" (topS 50) (He.ga K "_law_mix") fd
  g__law_mix : mg "_law_mix" = some (.ref (He.ga K "_law_mix"))
  d__law_next : ∃ fd, Fun K "_law_next" "_law_next" (topS 51) (He.ga K "_law_next") fd
  g__law_next : mg "_law_next" = some (.ref (He.ga K "_law_next"))
  d__law_part : ∃ fd, Fun K "_law_part" "_law_part" (topS 52) (He.ga K "_law_part") fd
  g__law_part : mg "_law_part" = some (.ref (He.ga K "_law_part"))
  d__law_f : ∃ fd, Fun K "_law_f" "_law_f" (topS 53) (He.ga K "_law_f") fd
  g__law_f : mg "_law_f" = some (.ref (He.ga K "_law_f"))
  d__law_add : ∃ fd, Fun K "_law_add" "_law_add" (topS 54) (He.ga K "_law_add") fd
  g__law_add : mg "_law_add" = some (.ref (He.ga K "_law_add"))
  d__law_mul : ∃ fd, Fun K "_law_mul" "_law_mul" (topS 55) (He.ga K "_law_mul") fd
  g__law_mul : mg "_law_mul" = some (.ref (He.ga K "_law_mul"))
  d__law_div : ∃ fd, Fun K "_law_div" "_law_div" (topS 56) (He.ga K "_law_div") fd
  g__law_div : mg "_law_div" = some (.ref (He.ga K "_law_div"))
  d__law_under : ∃ fd, Fun K "_law_under" "_law_under" (topS 57) (He.ga K "_law_under") fd
  g__law_under : mg "_law_under" = some (.ref (He.ga K "_law_under"))
  d__law_reach : ∃ fd, Fun K "_law_reach" "_law_reach" (topS 58) (He.ga K "_law_reach") fd
  g__law_reach : mg "_law_reach" = some (.ref (He.ga K "_law_reach"))
  d__law_turns : ∃ fd, Fun K "_law_turns" "_law_turns" (topS 59) (He.ga K "_law_turns") fd
  g__law_turns : mg "_law_turns" = some (.ref (He.ga K "_law_turns"))
  d__law_plan : ∃ fd, Fun K "_law_plan" "_law_plan" (topS 60) (He.ga K "_law_plan") fd
  g__law_plan : mg "_law_plan" = some (.ref (He.ga K "_law_plan"))
  d__law_walked : ∃ fd, Fun K "_law_walked" "_law_walked" (topS 61) (He.ga K "_law_walked") fd
  g__law_walked : mg "_law_walked" = some (.ref (He.ga K "_law_walked"))
  d__law_time : ∃ fd, Fun K "_law_time" "_law_time" (topS 62) (He.ga K "_law_time") fd
  g__law_time : mg "_law_time" = some (.ref (He.ga K "_law_time"))
  d__law_ends : ∃ fd, Fun K "_law_ends" "_law_ends" (topS 63) (He.ga K "_law_ends") fd
  g__law_ends : mg "_law_ends" = some (.ref (He.ga K "_law_ends"))
  d_law : ∃ fd, Fun K "law" "law" (topS 64) (He.ga K "law") fd
  g_law : mg "law" = some (.ref (He.ga K "law"))
  c_MOST_FAR : ∃ t, mg "MOST_FAR" = some (.int 1000000000000000000000000000000 t)
  c_MOST_PLANS : ∃ t, mg "MOST_PLANS" = some (.int 4 t)
  c_MOST_REACH : ∃ t, mg "MOST_REACH" = some (.int 1000000000000 t)
  c_MOST_ROADS : ∃ t, mg "MOST_ROADS" = some (.int 5 t)
  c_MOST_TURNS : ∃ t, mg "MOST_TURNS" = some (.int 60 t)
  g_ONE : mg "ONE" = some (.ref (He.ga K "ONE"))
  c_ONE : ∀ H, SqT K H (He.ga K "ONE") [.int 1, .int 1]
  g_ZERO : mg "ZERO" = some (.ref (He.ga K "ZERO"))
  c_ZERO : ∀ H, SqT K H (He.ga K "ZERO") [.int 0, .int 1]
  z_int : mg "int" = none
  z_isinstance : mg "isinstance" = none
  z_bool : mg "bool" = none
  z_abs : mg "abs" = none
  z_tuple : mg "tuple" = none
  z_len : mg "len" = none
  z_enumerate : mg "enumerate" = none
  z_zip : mg "zip" = none
  z_range : mg "range" = none
  z_list : mg "list" = none
  z_max : mg "max" = none
  z_min : mg "min" = none
  gc_Plan : bGlo "Plan" K = true
  o_Plan : OwnC K mg "Plan" (He.ga K "Plan")
  na_Plan_held : NoAttr K (He.ga K "Plan") "held"
  mk_Plan : Mk K (He.ga K "Plan") (He.ma K (He.ga K "Plan") "__init__")
  p_Plan_roads : PropOf K (He.ga K "Plan") "roads" (He.ma K (He.ga K "Plan") "roads") (He5.wf K (He.ga K "Plan") "property" "roads")
  p_Plan_turns : PropOf K (He.ga K "Plan") "turns" (He.ma K (He.ga K "Plan") "turns") (He5.wf K (He.ga K "Plan") "property" "turns")
  p_Plan_cost : PropOf K (He.ga K "Plan") "cost" (He.ma K (He.ga K "Plan") "cost") (He5.wf K (He.ga K "Plan") "property" "cost")
  ln_Plan : PySem.W.findIn K (.ref (He.ga K "Plan")) "__len__" = some (some (.ref (He.ma K (He.ga K "Plan") "__len__"))) ∧ PySem.W.isFn K (.ref (He.ma K (He.ga K "Plan") "__len__")) = true
  eq_Plan : PySem.W.findIn K (.ref (He.ga K "Plan")) "__eq__" = some (some (.ref (He.ma K (He.ga K "Plan") "__eq__"))) ∧ PySem.W.isFn K (.ref (He.ma K (He.ga K "Plan") "__eq__")) = true
  nf_Plan : PySem.W.notFirst K (He.ga K "Plan") (.type "tuple") = true
  os : OwnCs K mg ownCs
section
variable {P : Program} {w : World} {K : PySem.W.Frag} {mg : Str → Option Value} {base : Heap}
theorem sc_is_integer : FnScope ["value"] ["value"] (defScope (topS 12)) := ⟨rfl, rfl, rfl, by decide +kernel, rfl, by decide +kernel, by decide +kernel⟩
theorem ok_is_integer (T : Txt K mg) : GF P w K mg base "is_integer" 1 1 f_is_integer := by
  obtain ⟨fd, F⟩ := T.d_is_integer
  refine gf_mk F T.g_is_integer sc_is_integer 0 rfl (fun _ _ _ _ _ _ us hl => match us, hl with | [_], _ => rfl) fun cdv A outer s H E cx => ?_
  exact is_one (is_ret (ie_and (ie_isi T.os T.z_isinstance (ia_cons (ie_var 0) (ia_cons (ie_tyB T.z_int) ia_nil))) (ie_one (ie_not (ie_isi T.os T.z_isinstance (ia_cons (ie_var 0) (ia_cons (ie_tyB T.z_bool) ia_nil)))))))

theorem sc_is_from : FnScope ["value", "low", "high"] ["value", "low", "high"] (defScope (topS 13)) := ⟨rfl, rfl, rfl, by decide +kernel, rfl, by decide +kernel, by decide +kernel⟩
theorem ok_is_from (T : Txt K mg) : GF P w K mg base "is_from" 2 3 f_is_from := by
  obtain ⟨fd, F⟩ := T.d_is_from
  have G_is_integer := ok_is_integer (P := P) (w := w) (base := base) T
  refine gf_mk F T.g_is_from sc_is_from 0 rfl (fun _ _ _ _ _ _ us hl => match us, hl with | [_, _, _], _ => rfl) fun cdv A outer s H E cx => ?_
  exact is_one (is_ret (ie_and (ie_callG cx G_is_integer (ia_cons (ie_var 0) ia_nil)) (ie_one (ie_lele (ie_var 1) (ie_var 0) (ie_var 2)))))

theorem sc_common : FnScope ["one", "other"] ["one", "other"] (defScope (topS 14)) := ⟨rfl, rfl, rfl, by decide +kernel, rfl, by decide +kernel, by decide +kernel⟩
theorem ok_common (T : Txt K mg) : GF P w K mg base "common" 1 2 f_common := by
  obtain ⟨fd, F⟩ := T.d_common
  refine gf_mk F T.g_common sc_common 0 rfl (fun _ _ _ _ _ _ us hl => match us, hl with | [_, _], _ => rfl) fun cdv A outer s H E cx => ?_
  exact is_cons (is_par (i := 0) (j := 1) cx (ia_cons (ie_abs T.z_abs (ia_cons (ie_var 0) ia_nil)) (ia_cons (ie_abs T.z_abs (ia_cons (ie_var 1) ia_nil)) ia_nil)))
    (is_cons (is_while cx (it_tru (ie_var 1)) (is_one (is_par (i := 0) (j := 1) cx (ia_cons (ie_var 1) (ia_cons (ie_mod (ie_var 0) (ie_var 1)) ia_nil)))))
    (is_one (is_ret (ie_var 0))))

theorem sc_ratio : FnScope ["n", "d", "part"] ["n", "d"] (defScope (topS 15)) := ⟨rfl, rfl, rfl, by decide +kernel, rfl, by decide +kernel, by decide +kernel⟩
theorem ok_ratio (T : Txt K mg) : GF P w K mg base "ratio" 2 2 f_ratio := by
  obtain ⟨fd, F⟩ := T.d_ratio
  have G_common := ok_common (P := P) (w := w) (base := base) T
  refine gf_mk F T.g_ratio sc_ratio 1 rfl (fun _ _ _ _ _ _ us hl => match us, hl with | [_, _], _ => rfl) fun cdv A outer s H E cx => ?_
  exact is_cons (is_set (i := 2) cx (ie_callG cx G_common (ia_cons (ie_var 0) (ia_cons (ie_var 1) ia_nil))))
    (is_one (is_ret (ie_tup (ia_cons (ie_div (ie_var 0) (ie_var 2)) (ia_cons (ie_div (ie_var 1) (ie_var 2)) ia_nil)))))

theorem sc_is_fraction : FnScope ["value"] ["value"] (defScope (topS 16)) := ⟨rfl, rfl, rfl, by decide +kernel, rfl, by decide +kernel, by decide +kernel⟩
theorem ok_is_fraction (T : Txt K mg) : GF P w K mg base "is_fraction" 2 1 f_is_fraction := by
  obtain ⟨fd, F⟩ := T.d_is_fraction
  have G_common := ok_common (P := P) (w := w) (base := base) T
  have G_is_integer := ok_is_integer (P := P) (w := w) (base := base) T
  refine gf_mk F T.g_is_fraction sc_is_fraction 0 rfl (fun _ _ _ _ _ _ us hl => match us, hl with | [_], _ => rfl) fun cdv A outer s H E cx => ?_
  exact is_cons (is_if (PW.pt (iw_or (it_not (it_tru (ie_isi T.os T.z_isinstance (ia_cons (ie_var 0) (ia_cons (ie_tyB T.z_tuple) ia_nil))))) (iw_or1 (it_ne cx (ie_len T.z_len (ia_cons (ie_var 0) ia_nil)) ie_int)))) (is_one (is_ret ie_bl)) is_nil)
    (is_cons (is_if (PW.pt (iw_or (it_not (it_tru (ie_callG cx G_is_integer (ia_cons (ie_idx (ie_var 0) ie_int) ia_nil)))) (iw_or1 (it_not (it_tru (ie_callG cx G_is_integer (ia_cons (ie_idx (ie_var 0) ie_int) ia_nil))))))) (is_one (is_ret ie_bl)) is_nil)
    (is_one (is_ret (ie_and (ie_ge (ie_idx (ie_var 0) ie_int) ie_int) (ie_one (ie_eq cx (ie_callG cx G_common (ia_cons (ie_idx (ie_var 0) ie_int) (ia_cons (ie_idx (ie_var 0) ie_int) ia_nil))) ie_int))))))

theorem sc_plus : FnScope ["one", "other"] ["one", "other"] (defScope (topS 17)) := ⟨rfl, rfl, rfl, by decide +kernel, rfl, by decide +kernel, by decide +kernel⟩
theorem ok_plus (T : Txt K mg) : GF P w K mg base "plus" 3 2 f_plus := by
  obtain ⟨fd, F⟩ := T.d_plus
  have G_ratio := ok_ratio (P := P) (w := w) (base := base) T
  refine gf_mk F T.g_plus sc_plus 0 rfl (fun _ _ _ _ _ _ us hl => match us, hl with | [_, _], _ => rfl) fun cdv A outer s H E cx => ?_
  exact is_one (is_ret (ie_callG cx G_ratio (ia_cons (ie_add (ie_mul (ie_idx (ie_var 0) ie_int) (ie_idx (ie_var 1) ie_int)) (ie_mul (ie_idx (ie_var 1) ie_int) (ie_idx (ie_var 0) ie_int))) (ia_cons (ie_mul (ie_idx (ie_var 0) ie_int) (ie_idx (ie_var 1) ie_int)) ia_nil))))

theorem sc_times : FnScope ["one", "other"] ["one", "other"] (defScope (topS 18)) := ⟨rfl, rfl, rfl, by decide +kernel, rfl, by decide +kernel, by decide +kernel⟩
theorem ok_times (T : Txt K mg) : GF P w K mg base "times" 3 2 f_times := by
  obtain ⟨fd, F⟩ := T.d_times
  have G_ratio := ok_ratio (P := P) (w := w) (base := base) T
  refine gf_mk F T.g_times sc_times 0 rfl (fun _ _ _ _ _ _ us hl => match us, hl with | [_, _], _ => rfl) fun cdv A outer s H E cx => ?_
  exact is_one (is_ret (ie_callG cx G_ratio (ia_cons (ie_mul (ie_idx (ie_var 0) ie_int) (ie_idx (ie_var 1) ie_int)) (ia_cons (ie_mul (ie_idx (ie_var 0) ie_int) (ie_idx (ie_var 1) ie_int)) ia_nil))))

theorem sc_over : FnScope ["one", "other"] ["one", "other"] (defScope (topS 19)) := ⟨rfl, rfl, rfl, by decide +kernel, rfl, by decide +kernel, by decide +kernel⟩
theorem ok_over (T : Txt K mg) : GF P w K mg base "over" 3 2 f_over := by
  obtain ⟨fd, F⟩ := T.d_over
  have G_ratio := ok_ratio (P := P) (w := w) (base := base) T
  refine gf_mk F T.g_over sc_over 0 rfl (fun _ _ _ _ _ _ us hl => match us, hl with | [_, _], _ => rfl) fun cdv A outer s H E cx => ?_
  exact is_one (is_ret (ie_callG cx G_ratio (ia_cons (ie_mul (ie_idx (ie_var 0) ie_int) (ie_idx (ie_var 1) ie_int)) (ia_cons (ie_mul (ie_idx (ie_var 0) ie_int) (ie_idx (ie_var 1) ie_int)) ia_nil))))

theorem sc_is_less : FnScope ["one", "other"] ["one", "other"] (defScope (topS 20)) := ⟨rfl, rfl, rfl, by decide +kernel, rfl, by decide +kernel, by decide +kernel⟩
theorem ok_is_less (T : Txt K mg) : GF P w K mg base "is_less" 1 2 f_is_less := by
  obtain ⟨fd, F⟩ := T.d_is_less
  refine gf_mk F T.g_is_less sc_is_less 0 rfl (fun _ _ _ _ _ _ us hl => match us, hl with | [_, _], _ => rfl) fun cdv A outer s H E cx => ?_
  exact is_one (is_ret (ie_lt (ie_mul (ie_idx (ie_var 0) ie_int) (ie_idx (ie_var 1) ie_int)) (ie_mul (ie_idx (ie_var 1) ie_int) (ie_idx (ie_var 0) ie_int))))

theorem sc_is_within : FnScope ["value", "low", "high"] ["value", "low", "high"] (defScope (topS 21)) := ⟨rfl, rfl, rfl, by decide +kernel, rfl, by decide +kernel, by decide +kernel⟩
theorem ok_is_within (T : Txt K mg) : GF P w K mg base "is_within" 3 3 f_is_within := by
  obtain ⟨fd, F⟩ := T.d_is_within
  have G_is_fraction := ok_is_fraction (P := P) (w := w) (base := base) T
  refine gf_mk F T.g_is_within sc_is_within 0 rfl (fun _ _ _ _ _ _ us hl => match us, hl with | [_, _, _], _ => rfl) fun cdv A outer s H E cx => ?_
  exact is_cons (is_if (it_not (it_tru (ie_callG cx G_is_fraction (ia_cons (ie_var 0) ia_nil)))) (is_one (is_ret ie_bl)) is_nil)
    (is_one (is_ret (ie_lele (ie_mul (ie_var 1) (ie_idx (ie_var 0) ie_int)) (ie_idx (ie_var 0) ie_int) (ie_mul (ie_var 2) (ie_idx (ie_var 0) ie_int)))))

theorem sc_greatest_of : FnScope ["fractions", "found", "one"] ["fractions"] (defScope (topS 22)) := ⟨rfl, rfl, rfl, by decide +kernel, rfl, by decide +kernel, by decide +kernel⟩
theorem ok_greatest_of (T : Txt K mg) : GF P w K mg base "greatest_of" 2 1 f_greatest_of := by
  obtain ⟨fd, F⟩ := T.d_greatest_of
  have G_is_less := ok_is_less (P := P) (w := w) (base := base) T
  refine gf_mk F T.g_greatest_of sc_greatest_of 2 rfl (fun _ _ _ _ _ _ us hl => match us, hl with | [_], _ => rfl) fun cdv A outer s H E cx => ?_
  exact is_cons (is_set (i := 1) cx (ie_idx (ie_var 0) ie_int))
    (is_cons (is_for cx (ii_seq (ie_var 0)) (ig_name 2 cx.nd) (is_one (is_if (it_tru (ie_callG cx G_is_less (ia_cons (ie_var 1) (ia_cons (ie_var 2) ia_nil)))) (is_one (is_set (i := 1) cx (ie_var 2))) is_nil)))
    (is_one (is_ret (ie_var 1))))

theorem sc_is_reach : FnScope ["value"] ["value"] (defScope (topS 28)) := ⟨rfl, rfl, rfl, by decide +kernel, rfl, by decide +kernel, by decide +kernel⟩
theorem ok_is_reach (T : Txt K mg) : GF P w K mg base "is_reach" 4 1 f_is_reach := by
  obtain ⟨fd, F⟩ := T.d_is_reach
  have G_is_within := ok_is_within (P := P) (w := w) (base := base) T
  refine gf_mk F T.g_is_reach sc_is_reach 0 rfl (fun _ _ _ _ _ _ us hl => match us, hl with | [_], _ => rfl) fun cdv A outer s H E cx => ?_
  exact is_one (is_ret (ie_and (ie_callG cx G_is_within (ia_cons (ie_var 0) (ia_cons ie_int (ia_cons (ie_gint rfl T.c_MOST_REACH) ia_nil)))) (ie_one (ie_gt (ie_idx (ie_var 0) ie_int) ie_int))))

theorem sc_is_turn : FnScope ["value", "roads"] ["value", "roads"] (defScope (topS 29)) := ⟨rfl, rfl, rfl, by decide +kernel, rfl, by decide +kernel, by decide +kernel⟩
theorem ok_is_turn (T : Txt K mg) : GF P w K mg base "is_turn" 5 2 f_is_turn := by
  obtain ⟨fd, F⟩ := T.d_is_turn
  have G_is_from := ok_is_from (P := P) (w := w) (base := base) T
  have G_is_reach := ok_is_reach (P := P) (w := w) (base := base) T
  refine gf_mk F T.g_is_turn sc_is_turn 0 rfl (fun _ _ _ _ _ _ us hl => match us, hl with | [_, _], _ => rfl) fun cdv A outer s H E cx => ?_
  exact is_cons (is_if (PW.pt (iw_or (it_not (it_tru (ie_isi T.os T.z_isinstance (ia_cons (ie_var 0) (ia_cons (ie_tyB T.z_tuple) ia_nil))))) (iw_or1 (it_ne cx (ie_len T.z_len (ia_cons (ie_var 0) ia_nil)) ie_int)))) (is_one (is_ret ie_bl)) is_nil)
    (is_one (is_ret (ie_and (ie_callG cx G_is_from (ia_cons (ie_idx (ie_var 0) ie_int) (ia_cons ie_int (ia_cons (ie_sub (ie_var 1) ie_int) ia_nil)))) (ie_one (ie_callG cx G_is_reach (ia_cons (ie_idx (ie_var 0) ie_int) ia_nil))))))

theorem sc_check_roads : FnScope ["value"] ["value"] (defScope (topS 30)) := ⟨rfl, rfl, rfl, by decide +kernel, rfl, by decide +kernel, by decide +kernel⟩
theorem ok_check_roads (T : Txt K mg) : GF P w K mg base "check_roads" 3 1 f_check_roads := by
  obtain ⟨fd, F⟩ := T.d_check_roads
  have G_is_from := ok_is_from (P := P) (w := w) (base := base) T
  refine gf_mk F T.g_check_roads sc_check_roads 0 rfl (fun _ _ _ _ _ _ us hl => match us, hl with | [_], _ => rfl) fun cdv A outer s H E cx => ?_
  exact is_one (is_if (it_not (it_tru (ie_callG cx G_is_from (ia_cons (ie_var 0) (ia_cons ie_int (ia_cons (ie_gint rfl T.c_MOST_ROADS) ia_nil)))))) (is_one is_bad) is_nil)

theorem sc_check_cost : FnScope ["value"] ["value"] (defScope (topS 31)) := ⟨rfl, rfl, rfl, by decide +kernel, rfl, by decide +kernel, by decide +kernel⟩
theorem ok_check_cost (T : Txt K mg) : GF P w K mg base "check_cost" 4 1 f_check_cost := by
  obtain ⟨fd, F⟩ := T.d_check_cost
  have G_is_within := ok_is_within (P := P) (w := w) (base := base) T
  refine gf_mk F T.g_check_cost sc_check_cost 0 rfl (fun _ _ _ _ _ _ us hl => match us, hl with | [_], _ => rfl) fun cdv A outer s H E cx => ?_
  exact is_one (is_if (it_not (it_tru (ie_callG cx G_is_within (ia_cons (ie_var 0) (ia_cons ie_int (ia_cons (ie_gint rfl T.c_MOST_REACH) ia_nil)))))) (is_one is_bad) is_nil)

theorem sc_Plan___init__ : FnScope ["self", "roads", "turns", "cost", "index", "turn"] ["self", "roads", "turns", "cost"] (defScope (inClass (topS 32) 0)) := ⟨rfl, rfl, rfl, by decide +kernel, rfl, by decide +kernel, by decide +kernel⟩
theorem ok_Plan___init__ (T : Txt K mg) : GA P w K mg base (He.ma K (He.ga K "Plan") "__init__") 6 4 f_Plan___init__ := by
  obtain ⟨fd, F⟩ := T.d_Plan___init__
  have G_check_cost := ok_check_cost (P := P) (w := w) (base := base) T
  have G_check_roads := ok_check_roads (P := P) (w := w) (base := base) T
  have G_is_turn := ok_is_turn (P := P) (w := w) (base := base) T
  refine ga_mk F sc_Plan___init__ 2 rfl (fun _ _ _ _ _ _ us hl => match us, hl with | [_, _, _, _], _ => rfl) fun cdv A outer s H E cx => ?_
  exact is_cons (is_expr (ie_callG cx G_check_roads (ia_cons (ie_var 1) ia_nil)))
    (is_cons (is_if (PW.pt (iw_or (it_not (it_tru (ie_isi T.os T.z_isinstance (ia_cons (ie_var 2) (ia_cons (ie_tyB T.z_tuple) ia_nil))))) (iw_or1 (it_gt (ie_len T.z_len (ia_cons (ie_var 2) ia_nil)) (ie_gint rfl T.c_MOST_TURNS))))) (is_one is_bad) is_nil)
    (is_cons (is_for cx (ii_enum T.z_enumerate (ia_cons (ie_var 2) ia_nil)) (ig_tup cx (igs_cons 4 cx.nd (igs_cons 5 cx.nd igs_nil))) (is_one (is_if (it_not (it_tru (ie_callG cx G_is_turn (ia_cons (ie_var 5) (ia_cons (ie_var 1) ia_nil))))) (is_one is_bad) is_nil)))
    (is_cons (is_expr (ie_callG cx G_check_cost (ia_cons (ie_var 3) ia_nil)))
    (is_one (is_fld T.o_Plan.gC T.o_Plan.cl T.na_Plan_held (ie_var 0) (ie_tup (ia_cons (ie_var 1) (ia_cons (ie_var 2) (ia_cons (ie_var 3) ia_nil)))))))))

theorem sc_Plan_roads : FnScope ["self"] ["self"] (defScope (inClass (topS 32) 1)) := ⟨rfl, rfl, rfl, by decide +kernel, rfl, by decide +kernel, by decide +kernel⟩
theorem ok_Plan_roads (T : Txt K mg) : GA P w K mg base (He5.wf K (He.ga K "Plan") "property" "roads") 1 1 f_Plan_roads := by
  obtain ⟨fd, F⟩ := T.d_Plan_roads
  refine ga_mk F sc_Plan_roads 0 rfl (fun _ _ _ _ _ _ us hl => match us, hl with | [_], _ => rfl) fun cdv A outer s H E cx => ?_
  exact is_one (is_ret (ie_idx (ie_fld T.o_Plan.gC T.o_Plan.cl T.na_Plan_held (ie_var 0)) ie_int))

theorem sc_Plan_turns : FnScope ["self"] ["self"] (defScope (inClass (topS 32) 2)) := ⟨rfl, rfl, rfl, by decide +kernel, rfl, by decide +kernel, by decide +kernel⟩
theorem ok_Plan_turns (T : Txt K mg) : GA P w K mg base (He5.wf K (He.ga K "Plan") "property" "turns") 1 1 f_Plan_turns := by
  obtain ⟨fd, F⟩ := T.d_Plan_turns
  refine ga_mk F sc_Plan_turns 0 rfl (fun _ _ _ _ _ _ us hl => match us, hl with | [_], _ => rfl) fun cdv A outer s H E cx => ?_
  exact is_one (is_ret (ie_idx (ie_fld T.o_Plan.gC T.o_Plan.cl T.na_Plan_held (ie_var 0)) ie_int))

theorem sc_Plan_cost : FnScope ["self"] ["self"] (defScope (inClass (topS 32) 3)) := ⟨rfl, rfl, rfl, by decide +kernel, rfl, by decide +kernel, by decide +kernel⟩
theorem ok_Plan_cost (T : Txt K mg) : GA P w K mg base (He5.wf K (He.ga K "Plan") "property" "cost") 1 1 f_Plan_cost := by
  obtain ⟨fd, F⟩ := T.d_Plan_cost
  refine ga_mk F sc_Plan_cost 0 rfl (fun _ _ _ _ _ _ us hl => match us, hl with | [_], _ => rfl) fun cdv A outer s H E cx => ?_
  exact is_one (is_ret (ie_idx (ie_fld T.o_Plan.gC T.o_Plan.cl T.na_Plan_held (ie_var 0)) ie_int))

theorem sc_Plan___len__ : FnScope ["self"] ["self"] (defScope (inClass (topS 32) 4)) := ⟨rfl, rfl, rfl, by decide +kernel, rfl, by decide +kernel, by decide +kernel⟩
theorem ok_Plan___len__ (T : Txt K mg) : GA P w K mg base (He.ma K (He.ga K "Plan") "__len__") 1 1 f_Plan___len__ := by
  obtain ⟨fd, F⟩ := T.d_Plan___len__
  refine ga_mk F sc_Plan___len__ 0 rfl (fun _ _ _ _ _ _ us hl => match us, hl with | [_], _ => rfl) fun cdv A outer s H E cx => ?_
  exact is_one (is_ret (ie_len T.z_len (ia_cons (ie_idx (ie_fld T.o_Plan.gC T.o_Plan.cl T.na_Plan_held (ie_var 0)) ie_int) ia_nil)))

theorem sc_Plan___eq__ : FnScope ["self", "other"] ["self", "other"] (defScope (inClass (topS 32) 5)) := ⟨rfl, rfl, rfl, by decide +kernel, rfl, by decide +kernel, by decide +kernel⟩
theorem ok_Plan___eq__ (T : Txt K mg) : GA P w K mg base (He.ma K (He.ga K "Plan") "__eq__") 1 2 f_Plan___eq__ := by
  obtain ⟨fd, F⟩ := T.d_Plan___eq__
  refine ga_mk F sc_Plan___eq__ 0 rfl (fun _ _ _ _ _ _ us hl => match us, hl with | [_, _], _ => rfl) fun cdv A outer s H E cx => ?_
  exact is_one (is_ret (ie_and (ie_isi T.os T.z_isinstance (ia_cons (ie_var 1) (ia_cons (ie_glo rfl T.o_Plan.gC) ia_nil))) (ie_one (ie_eq cx (ie_fld T.o_Plan.gC T.o_Plan.cl T.na_Plan_held (ie_var 0)) (ie_fld T.o_Plan.gC T.o_Plan.cl T.na_Plan_held (ie_var 1))))))

theorem sc_check_road : FnScope ["roads", "value"] ["roads", "value"] (defScope (topS 33)) := ⟨rfl, rfl, rfl, by decide +kernel, rfl, by decide +kernel, by decide +kernel⟩
theorem ok_check_road (T : Txt K mg) : GF P w K mg base "check_road" 3 2 f_check_road := by
  obtain ⟨fd, F⟩ := T.d_check_road
  have G_is_from := ok_is_from (P := P) (w := w) (base := base) T
  refine gf_mk F T.g_check_road sc_check_road 0 rfl (fun _ _ _ _ _ _ us hl => match us, hl with | [_, _], _ => rfl) fun cdv A outer s H E cx => ?_
  exact is_one (is_if (it_not (it_tru (ie_callG cx G_is_from (ia_cons (ie_var 1) (ia_cons ie_int (ia_cons (ie_sub (ie_var 0) ie_int) ia_nil)))))) (is_one is_bad) is_nil)

theorem sc_is_far : FnScope ["value"] ["value"] (defScope (topS 34)) := ⟨rfl, rfl, rfl, by decide +kernel, rfl, by decide +kernel, by decide +kernel⟩
theorem ok_is_far (T : Txt K mg) : GF P w K mg base "is_far" 4 1 f_is_far := by
  obtain ⟨fd, F⟩ := T.d_is_far
  have G_is_within := ok_is_within (P := P) (w := w) (base := base) T
  refine gf_mk F T.g_is_far sc_is_far 0 rfl (fun _ _ _ _ _ _ us hl => match us, hl with | [_], _ => rfl) fun cdv A outer s H E cx => ?_
  exact is_one (is_ret (ie_callG cx G_is_within (ia_cons (ie_var 0) (ia_cons ie_int (ia_cons (ie_gint rfl T.c_MOST_FAR) ia_nil)))))

theorem sc_check_far : FnScope ["value"] ["value"] (defScope (topS 35)) := ⟨rfl, rfl, rfl, by decide +kernel, rfl, by decide +kernel, by decide +kernel⟩
theorem ok_check_far (T : Txt K mg) : GF P w K mg base "check_far" 5 1 f_check_far := by
  obtain ⟨fd, F⟩ := T.d_check_far
  have G_is_far := ok_is_far (P := P) (w := w) (base := base) T
  refine gf_mk F T.g_check_far sc_check_far 0 rfl (fun _ _ _ _ _ _ us hl => match us, hl with | [_], _ => rfl) fun cdv A outer s H E cx => ?_
  exact is_one (is_if (it_not (it_tru (ie_callG cx G_is_far (ia_cons (ie_var 0) ia_nil)))) (is_one is_bad) is_nil)

theorem sc_bases_of : FnScope ["plan", "found", "road", "reach"] ["plan"] (defScope (topS 36)) := ⟨rfl, rfl, rfl, by decide +kernel, rfl, by decide +kernel, by decide +kernel⟩
theorem ok_bases_of (T : Txt K mg) : GF P w K mg base "bases_of" 4 1 f_bases_of := by
  obtain ⟨fd, F⟩ := T.d_bases_of
  have G_plus := ok_plus (P := P) (w := w) (base := base) T
  have G_times := ok_times (P := P) (w := w) (base := base) T
  refine gf_mk F T.g_bases_of sc_bases_of 3 rfl (fun _ _ _ _ _ _ us hl => match us, hl with | [_], _ => rfl) fun cdv A outer s H E cx => ?_
  exact is_cons (is_set (i := 1) cx (ie_lst (ia_cons (ie_gtup rfl T.g_ZERO T.c_ZERO (fun _ _ => .cons (.int 0) (.cons (.int 1) (.nil)))) ia_nil)))
    (is_cons (is_for cx (ii_seq (ie_idx (ie_fld T.o_Plan.gC T.o_Plan.cl T.na_Plan_held (ie_var 0)) ie_int)) (ig_tup cx (igs_cons 2 cx.nd (igs_cons 3 cx.nd igs_nil))) (is_one (is_expr (ie_append (ie_var 1) (ia_cons (ie_callG cx G_plus (ia_cons (ie_idx (ie_var 1) (ie_neg ie_int)) (ia_cons (ie_callG cx G_plus (ia_cons (ie_callG cx G_times (ia_cons (ie_tup (ia_cons ie_int (ia_cons ie_int ia_nil))) (ia_cons (ie_var 3) ia_nil))) (ia_cons (ie_idx (ie_fld T.o_Plan.gC T.o_Plan.cl T.na_Plan_held (ie_var 0)) ie_int) ia_nil))) ia_nil))) ia_nil)))))
    (is_one (is_ret (ie_var 1))))

theorem sc_walked_by : FnScope ["plan", "road", "far", "turn", "base"] ["plan", "road", "far"] (defScope (topS 37)) := ⟨rfl, rfl, rfl, by decide +kernel, rfl, by decide +kernel, by decide +kernel⟩
theorem ok_walked_by (T : Txt K mg) : GF P w K mg base "walked_by" 5 3 f_walked_by := by
  obtain ⟨fd, F⟩ := T.d_walked_by
  have G_bases_of := ok_bases_of (P := P) (w := w) (base := base) T
  have G_is_less := ok_is_less (P := P) (w := w) (base := base) T
  have G_plus := ok_plus (P := P) (w := w) (base := base) T
  refine gf_mk F T.g_walked_by sc_walked_by 2 rfl (fun _ _ _ _ _ _ us hl => match us, hl with | [_, _, _], _ => rfl) fun cdv A outer s H E cx => ?_
  exact is_cons (is_for cx (ii_zip T.z_zip (ia_cons (ie_idx (ie_fld T.o_Plan.gC T.o_Plan.cl T.na_Plan_held (ie_var 0)) ie_int) (ia_cons (ie_callG cx G_bases_of (ia_cons (ie_var 0) ia_nil)) ia_nil))) (ig_tup cx (igs_cons 3 cx.nd (igs_cons 4 cx.nd igs_nil))) (is_one (is_if (PW.pt (iw_and (it_eq cx (ie_idx (ie_var 3) ie_int) (ie_var 1)) (iw_and1 (it_not (it_tru (ie_callG cx G_is_less (ia_cons (ie_idx (ie_var 3) ie_int) (ia_cons (ie_var 2) ia_nil)))))))) (is_one (is_ret (ie_callG cx G_plus (ia_cons (ie_var 4) (ia_cons (ie_var 2) ia_nil))))) is_nil)))
    (is_one (is_ret ie_non))

theorem sc_pieces_of : FnScope ["plan", "road", "found", "most", "turn", "base", "own", "reach"] ["plan", "road"] (defScope (topS 38)) := ⟨rfl, rfl, rfl, by decide +kernel, rfl, by decide +kernel, by decide +kernel⟩
theorem ok_pieces_of (T : Txt K mg) : GF P w K mg base "pieces_of" 5 2 f_pieces_of := by
  obtain ⟨fd, F⟩ := T.d_pieces_of
  have G_bases_of := ok_bases_of (P := P) (w := w) (base := base) T
  have G_greatest_of := ok_greatest_of (P := P) (w := w) (base := base) T
  have G_is_less := ok_is_less (P := P) (w := w) (base := base) T
  refine gf_mk F T.g_pieces_of sc_pieces_of 6 rfl (fun _ _ _ _ _ _ us hl => match us, hl with | [_, _], _ => rfl) fun cdv A outer s H E cx => ?_
  exact is_cons (is_set (i := 2) cx (ie_lst ia_nil))
    (is_cons (is_set (i := 3) cx (ie_gtup rfl T.g_ZERO T.c_ZERO (fun _ _ => .cons (.int 0) (.cons (.int 1) (.nil)))))
    (is_cons (is_for cx (ii_zip T.z_zip (ia_cons (ie_idx (ie_fld T.o_Plan.gC T.o_Plan.cl T.na_Plan_held (ie_var 0)) ie_int) (ia_cons (ie_callG cx G_bases_of (ia_cons (ie_var 0) ia_nil)) ia_nil))) (ig_tup cx (igs_cons 4 cx.nd (igs_cons 5 cx.nd igs_nil))) (is_cons (is_asgT (ie_var 4) (ig_tup cx (igs_cons 6 cx.nd (igs_cons 7 cx.nd igs_nil))))
    (is_one (is_if (PW.pt (iw_and (it_eq cx (ie_var 6) (ie_var 1)) (iw_and1 (it_tru (ie_callG cx G_is_less (ia_cons (ie_var 3) (ia_cons (ie_var 7) ia_nil))))))) (is_cons (is_if (it_not (it_tru (ie_callG cx G_is_less (ia_cons (ie_var 7) (ia_cons (ie_gtup rfl T.g_ONE T.c_ONE (fun _ _ => .cons (.int 1) (.cons (.int 1) (.nil)))) ia_nil))))) (is_one (is_expr (ie_append (ie_var 2) (ia_cons (ie_tup (ia_cons (ie_callG cx G_greatest_of (ia_cons (ie_lst (ia_cons (ie_var 3) (ia_cons (ie_gtup rfl T.g_ONE T.c_ONE (fun _ _ => .cons (.int 1) (.cons (.int 1) (.nil)))) ia_nil))) ia_nil)) (ia_cons (ie_var 7) (ia_cons (ie_var 5) ia_nil)))) ia_nil)))) is_nil)
    (is_one (is_set (i := 3) cx (ie_var 7)))) is_nil))))
    (is_one (is_ret (ie_var 2)))))

theorem sc_check_team : FnScope ["plans", "missing", "plan"] ["plans", "missing"] (defScope (topS 41)) := ⟨rfl, rfl, rfl, by decide +kernel, rfl, by decide +kernel, by decide +kernel⟩
theorem ok_check_team (T : Txt K mg) : GF P w K mg base "check_team" 3 2 f_check_team := by
  obtain ⟨fd, F⟩ := T.d_check_team
  have G_is_from := ok_is_from (P := P) (w := w) (base := base) T
  refine gf_mk F T.g_check_team sc_check_team 1 rfl (fun _ _ _ _ _ _ us hl => match us, hl with | [_, _], _ => rfl) fun cdv A outer s H E cx => ?_
  exact is_cons (is_if (PW.pt (iw_or (it_not (it_tru (ie_isi T.os T.z_isinstance (ia_cons (ie_var 0) (ia_cons (ie_tyB T.z_tuple) ia_nil))))) (iw_or1 (it_not (it_lele ie_int (ie_len T.z_len (ia_cons (ie_var 0) ia_nil)) (ie_gint rfl T.c_MOST_PLANS)))))) (is_one is_bad) is_nil)
    (is_cons (is_for cx (ii_seq (ie_var 0)) (ig_name 2 cx.nd) (is_one (is_if (PW.pt (iw_or (it_not (it_tru (ie_isi T.os T.z_isinstance (ia_cons (ie_var 2) (ia_cons (ie_glo rfl T.o_Plan.gC) ia_nil))))) (iw_or1 (it_ne cx (ie_idx (ie_fld T.o_Plan.gC T.o_Plan.cl T.na_Plan_held (ie_var 2)) ie_int) (ie_idx (ie_fld T.o_Plan.gC T.o_Plan.cl T.na_Plan_held (ie_idx (ie_var 0) ie_int)) ie_int))))) (is_one is_bad) is_nil)))
    (is_one (is_if (it_not (it_tru (ie_callG cx G_is_from (ia_cons (ie_var 1) (ia_cons ie_int (ia_cons (ie_sub (ie_len T.z_len (ia_cons (ie_var 0) ia_nil)) ie_int) ia_nil)))))) (is_one is_bad) is_nil)))

theorem sc_in_order : FnScope ["fractions", "found", "one", "place", "other"] ["fractions"] (defScope (topS 42)) := ⟨rfl, rfl, rfl, by decide +kernel, rfl, by decide +kernel, by decide +kernel⟩
theorem ok_in_order (T : Txt K mg) : GF P w K mg base "in_order" 2 1 f_in_order := by
  obtain ⟨fd, F⟩ := T.d_in_order
  have G_is_less := ok_is_less (P := P) (w := w) (base := base) T
  refine gf_mk F T.g_in_order sc_in_order 4 rfl (fun _ _ _ _ _ _ us hl => match us, hl with | [_], _ => rfl) fun cdv A outer s H E cx => ?_
  exact is_cons (is_set (i := 1) cx (ie_lst ia_nil))
    (is_cons (is_for cx (ii_seq (ie_var 0)) (ig_name 2 cx.nd) (is_cons (is_set (i := 3) cx (ie_len T.z_len (ia_cons (ie_lc [("other", 4)] cx (ii_seq (ie_var 1)) (blkOk_by (by rfl)) (fun _ _ _ _ _ cx => gw_name 4 cx.nd) (fun _ _ _ _ _ cx => pts_one (it_not (it_tru (ie_callG cx G_is_less (ia_cons (ie_var 2) (ia_cons (ie_var 4) ia_nil)))))) (fun _ _ _ _ _ cx => ie_var 4)) ia_nil)))
    (is_one (is_expr (ie_insert (ie_var 1) (ia_cons (ie_var 3) (ia_cons (ie_var 2) ia_nil)))))))
    (is_one (is_ret (ie_var 1))))

theorem sc_team_time : FnScope ["plans", "missing", "road", "far", "times_there", "found", "plan", "one"] ["plans", "missing", "road", "far"] (defScope (topS 43)) := ⟨rfl, rfl, rfl, by decide +kernel, rfl, by decide +kernel, by decide +kernel⟩
theorem ok_team_time (T : Txt K mg) : GF P w K mg base "team_time" 6 4 f_team_time := by
  obtain ⟨fd, F⟩ := T.d_team_time
  have G_in_order := ok_in_order (P := P) (w := w) (base := base) T
  have G_walked_by := ok_walked_by (P := P) (w := w) (base := base) T
  refine gf_mk F T.g_team_time sc_team_time 4 rfl (fun _ _ _ _ _ _ us hl => match us, hl with | [_, _, _, _], _ => rfl) fun cdv A outer s H E cx => ?_
  exact is_cons (is_setLc 4 [("plan", 6)] cx (sw_true rfl rfl rfl (by decide +kernel)) (ii_seq (ie_var 0)) (blkOk_by (by rfl)) (fun _ _ _ _ _ cx => gw_name 6 cx.nd) (fun _ _ _ _ _ cx => it_none) (fun _ _ _ _ _ cx => ie_callG cx G_walked_by (ia_cons (ie_var 6) (ia_cons (ie_var 2) (ia_cons (ie_var 3) ia_nil)))))
    (is_cons (is_set (i := 5) cx (ie_callG cx G_in_order (ia_cons (ie_lc [("one", 7)] cx (ii_seq (ie_var 4)) (blkOk_by (by rfl)) (fun _ _ _ _ _ cx => gw_name 7 cx.nd) (fun _ _ _ _ _ cx => pts_one (it_isnot (ie_var 7) ie_non)) (fun _ _ _ _ _ cx => ie_var 7)) ia_nil)))
    (is_cons (is_if (it_le (ie_len T.z_len (ia_cons (ie_var 5) ia_nil)) (ie_var 1)) (is_one (is_ret ie_non)) is_nil)
    (is_one (is_ret (ie_idx (ie_var 5) (ie_var 1))))))

theorem sc_team_walked : FnScope ["plans", "missing", "road", "far"] ["plans", "missing", "road", "far"] (defScope (topS 44)) := ⟨rfl, rfl, rfl, by decide +kernel, rfl, by decide +kernel, by decide +kernel⟩
theorem ok_team_walked (T : Txt K mg) : GF P w K mg base "team_walked" 7 4 f_team_walked := by
  obtain ⟨fd, F⟩ := T.d_team_walked
  have G_check_far := ok_check_far (P := P) (w := w) (base := base) T
  have G_check_road := ok_check_road (P := P) (w := w) (base := base) T
  have G_check_team := ok_check_team (P := P) (w := w) (base := base) T
  have G_team_time := ok_team_time (P := P) (w := w) (base := base) T
  refine gf_mk F T.g_team_walked sc_team_walked 0 rfl (fun _ _ _ _ _ _ us hl => match us, hl with | [_, _, _, _], _ => rfl) fun cdv A outer s H E cx => ?_
  exact is_cons (is_expr (ie_callG cx G_check_team (ia_cons (ie_var 0) (ia_cons (ie_var 1) ia_nil))))
    (is_cons (is_expr (ie_callG cx G_check_road (ia_cons (ie_idx (ie_fld T.o_Plan.gC T.o_Plan.cl T.na_Plan_held (ie_idx (ie_var 0) ie_int)) ie_int) (ia_cons (ie_var 2) ia_nil))))
    (is_cons (is_expr (ie_callG cx G_check_far (ia_cons (ie_var 3) ia_nil)))
    (is_one (is_ret (ie_callG cx G_team_time (ia_cons (ie_var 0) (ia_cons (ie_var 1) (ia_cons (ie_var 2) (ia_cons (ie_var 3) ia_nil)))))))))

theorem sc_bases_behind : FnScope ["plans", "road", "low", "found", "plan", "first", "last", "base"] ["plans", "road", "low"] (defScope (topS 45)) := ⟨rfl, rfl, rfl, by decide +kernel, rfl, by decide +kernel, by decide +kernel⟩
theorem ok_bases_behind (T : Txt K mg) : GF P w K mg base "bases_behind" 6 3 f_bases_behind := by
  obtain ⟨fd, F⟩ := T.d_bases_behind
  have G_in_order := ok_in_order (P := P) (w := w) (base := base) T
  have G_is_less := ok_is_less (P := P) (w := w) (base := base) T
  have G_pieces_of := ok_pieces_of (P := P) (w := w) (base := base) T
  refine gf_mk F T.g_bases_behind sc_bases_behind 5 rfl (fun _ _ _ _ _ _ us hl => match us, hl with | [_, _, _], _ => rfl) fun cdv A outer s H E cx => ?_
  exact is_cons (is_set (i := 3) cx (ie_lst ia_nil))
    (is_cons (is_for cx (ii_seq (ie_var 0)) (ig_name 4 cx.nd) (is_one (is_for cx (ii_seq (ie_callG cx G_pieces_of (ia_cons (ie_var 4) (ia_cons (ie_var 1) ia_nil)))) (ig_tup cx (igs_cons 5 cx.nd (igs_cons 6 cx.nd (igs_cons 7 cx.nd igs_nil)))) (is_one (is_if (PW.pt (iw_and (it_not (it_tru (ie_callG cx G_is_less (ia_cons (ie_var 2) (ia_cons (ie_var 5) ia_nil))))) (iw_and1 (it_tru (ie_callG cx G_is_less (ia_cons (ie_var 2) (ia_cons (ie_var 6) ia_nil))))))) (is_one (is_expr (ie_append (ie_var 3) (ia_cons (ie_var 7) ia_nil)))) is_nil)))))
    (is_one (is_ret (ie_callG cx G_in_order (ia_cons (ie_var 3) ia_nil)))))

theorem sc_lows_of : FnScope ["plans", "road", "found", "plan", "first", "last", "base", "end"] ["plans", "road"] (defScope (topS 46)) := ⟨rfl, rfl, rfl, by decide +kernel, rfl, by decide +kernel, by decide +kernel⟩
theorem ok_lows_of (T : Txt K mg) : GF P w K mg base "lows_of" 6 2 f_lows_of := by
  obtain ⟨fd, F⟩ := T.d_lows_of
  have G_in_order := ok_in_order (P := P) (w := w) (base := base) T
  have G_pieces_of := ok_pieces_of (P := P) (w := w) (base := base) T
  refine gf_mk F T.g_lows_of sc_lows_of 6 rfl (fun _ _ _ _ _ _ us hl => match us, hl with | [_, _], _ => rfl) fun cdv A outer s H E cx => ?_
  exact is_cons (is_set (i := 2) cx (ie_lst (ia_cons (ie_gtup rfl T.g_ONE T.c_ONE (fun _ _ => .cons (.int 1) (.cons (.int 1) (.nil)))) ia_nil)))
    (is_cons (is_for cx (ii_seq (ie_var 0)) (ig_name 3 cx.nd) (is_one (is_for cx (ii_seq (ie_callG cx G_pieces_of (ia_cons (ie_var 3) (ia_cons (ie_var 1) ia_nil)))) (ig_tup cx (igs_cons 4 cx.nd (igs_cons 5 cx.nd (igs_cons 6 cx.nd igs_nil)))) (is_one (is_for cx (ii_seq (ie_tup (ia_cons (ie_var 4) (ia_cons (ie_var 5) ia_nil)))) (ig_name 7 cx.nd) (is_one (is_if (it_notin cx (ie_var 7) (ie_var 2)) (is_one (is_expr (ie_append (ie_var 2) (ia_cons (ie_var 7) ia_nil)))) is_nil)))))))
    (is_one (is_ret (ie_callG cx G_in_order (ia_cons (ie_var 2) ia_nil)))))

theorem sc_share_at : FnScope ["plans", "missing", "road", "low", "own", "bases", "found"] ["plans", "missing", "road", "low"] (defScope (topS 47)) := ⟨rfl, rfl, rfl, by decide +kernel, rfl, by decide +kernel, by decide +kernel⟩
theorem ok_share_at (T : Txt K mg) : GF P w K mg base "share_at" 7 4 f_share_at := by
  obtain ⟨fd, F⟩ := T.d_share_at
  have G_bases_behind := ok_bases_behind (P := P) (w := w) (base := base) T
  have G_is_less := ok_is_less (P := P) (w := w) (base := base) T
  have G_over := ok_over (P := P) (w := w) (base := base) T
  have G_plus := ok_plus (P := P) (w := w) (base := base) T
  have G_team_time := ok_team_time (P := P) (w := w) (base := base) T
  refine gf_mk F T.g_share_at sc_share_at 3 rfl (fun _ _ _ _ _ _ us hl => match us, hl with | [_, _, _, _], _ => rfl) fun cdv A outer s H E cx => ?_
  exact is_cons (is_set (i := 4) cx (ie_callG cx G_team_time (ia_cons (ie_var 0) (ia_cons (ie_var 1) (ia_cons (ie_var 2) (ia_cons (ie_var 3) ia_nil))))))
    (is_cons (is_if (it_isnot (ie_var 4) ie_non) (is_one (is_set (i := 4) cx (ie_callG cx G_over (ia_cons (ie_var 4) (ia_cons (ie_var 3) ia_nil))))) is_nil)
    (is_cons (is_set (i := 5) cx (ie_callG cx G_bases_behind (ia_cons (ie_var 0) (ia_cons (ie_var 2) (ia_cons (ie_var 3) ia_nil)))))
    (is_cons (is_set (i := 6) cx ie_non)
    (is_cons (is_if (it_gt (ie_len T.z_len (ia_cons (ie_var 5) ia_nil)) (ie_var 1)) (is_one (is_set (i := 6) cx (ie_callG cx G_plus (ia_cons (ie_gtup rfl T.g_ONE T.c_ONE (fun _ _ => .cons (.int 1) (.cons (.int 1) (.nil)))) (ia_cons (ie_callG cx G_over (ia_cons (ie_idx (ie_var 5) (ie_var 1)) (ia_cons (ie_var 3) ia_nil))) ia_nil))))) is_nil)
    (is_cons (is_if (PW.pt (iw_and (it_eq cx (ie_var 3) (ie_gtup rfl T.g_ONE T.c_ONE (fun _ _ => .cons (.int 1) (.cons (.int 1) (.nil))))) (iw_and (it_isnot (ie_var 4) ie_non) (iw_and1 (PW.pt (iw_or (it_is (ie_var 6) ie_non) (iw_or1 (it_tru (ie_callG cx G_is_less (ia_cons (ie_var 6) (ia_cons (ie_var 4) ia_nil))))))))))) (is_one (is_set (i := 6) cx (ie_var 4))) is_nil)
    (is_one (is_ret (ie_tup (ia_cons (ie_var 6) (ia_cons (ie_eq cx (ie_var 6) (ie_var 4)) ia_nil))))))))))

theorem sc_team_worst : FnScope ["plans", "missing", "best", "road", "low", "found", "met"] ["plans", "missing"] (defScope (topS 48)) := ⟨rfl, rfl, rfl, by decide +kernel, rfl, by decide +kernel, by decide +kernel⟩
theorem ok_team_worst (T : Txt K mg) : GF P w K mg base "team_worst" 8 2 f_team_worst := by
  obtain ⟨fd, F⟩ := T.d_team_worst
  have G_check_team := ok_check_team (P := P) (w := w) (base := base) T
  have G_is_less := ok_is_less (P := P) (w := w) (base := base) T
  have G_lows_of := ok_lows_of (P := P) (w := w) (base := base) T
  have G_share_at := ok_share_at (P := P) (w := w) (base := base) T
  refine gf_mk F T.g_team_worst sc_team_worst 5 rfl (fun _ _ _ _ _ _ us hl => match us, hl with | [_, _], _ => rfl) fun cdv A outer s H E cx => ?_
  exact is_cons (is_expr (ie_callG cx G_check_team (ia_cons (ie_var 0) (ia_cons (ie_var 1) ia_nil))))
    (is_cons (is_set (i := 2) cx ie_non)
    (is_cons (is_for cx (ii_range1 T.z_range (ia_cons (ie_idx (ie_fld T.o_Plan.gC T.o_Plan.cl T.na_Plan_held (ie_idx (ie_var 0) ie_int)) ie_int) ia_nil)) (ig_name 3 cx.nd) (is_one (is_for cx (ii_seq (ie_callG cx G_lows_of (ia_cons (ie_var 0) (ia_cons (ie_var 3) ia_nil)))) (ig_name 4 cx.nd) (is_cons (is_asgT (ie_callG cx G_share_at (ia_cons (ie_var 0) (ia_cons (ie_var 1) (ia_cons (ie_var 3) (ia_cons (ie_var 4) ia_nil))))) (ig_tup cx (igs_cons 5 cx.nd (igs_cons 6 cx.nd igs_nil))))
    (is_one (is_if (PW.pt (iw_and (it_isnot (ie_var 5) ie_non) (iw_and1 (PW.pt (iw_or (it_is (ie_var 2) ie_non) (iw_or1 (it_tru (ie_callG cx G_is_less (ia_cons (ie_idx (ie_var 2) ie_int) (ia_cons (ie_var 5) ia_nil)))))))))) (is_one (is_set (i := 2) cx (ie_tup (ia_cons (ie_var 5) (ia_cons (ie_var 3) (ia_cons (ie_var 4) (ia_cons (ie_var 6) ia_nil))))))) is_nil))))))
    (is_one (is_ret (ie_var 2)))))

theorem sc__law_mix : FnScope ["_law_script", "_law_seed", "_law_state", "_law_cell"] ["_law_script", "_law_seed"] (defScope (topS 50)) := ⟨rfl, rfl, rfl, by decide +kernel, rfl, by decide +kernel, by decide +kernel⟩
theorem ok__law_mix (T : Txt K mg) : GF P w K mg base "_law_mix" 1 2 f__law_mix := by
  obtain ⟨fd, F⟩ := T.d__law_mix
  refine gf_mk F T.g__law_mix sc__law_mix 2 rfl (fun _ _ _ _ _ _ us hl => match us, hl with | [_, _], _ => rfl) fun cdv A outer s H E cx => ?_
  exact is_cons (is_set (i := 2) cx (ie_var 1))
    (is_cons (is_for cx (ii_seq (ie_var 0)) (ig_name 3 cx.nd) (is_one (is_set (i := 2) cx (ie_mod (ie_int1 T.z_int (ia_cons (ie_add (ie_add (ie_mul (ie_var 2) ie_int) (ie_mod (ie_int1 T.z_int (ia_cons (ie_var 3) ia_nil)) ie_int)) ie_int) ia_nil)) ie_int))))
    (is_one (is_ret (ie_lst (ia_cons (ie_var 2) (ia_cons (ie_list1 T.z_list (ia_cons (ie_var 0) ia_nil)) (ia_cons ie_int ia_nil)))))))

theorem sc__law_next : FnScope ["_law_h", "_law_bound", "_law_cell", "_law_cells"] ["_law_h", "_law_bound"] (defScope (topS 51)) := ⟨rfl, rfl, rfl, by decide +kernel, rfl, by decide +kernel, by decide +kernel⟩
theorem ok__law_next (T : Txt K mg) : GF P w K mg base "_law_next" 1 2 f__law_next := by
  obtain ⟨fd, F⟩ := T.d__law_next
  refine gf_mk F T.g__law_next sc__law_next 2 rfl (fun _ _ _ _ _ _ us hl => match us, hl with | [_, _], _ => rfl) fun cdv A outer s H E cx => ?_
  exact is_cons (is_set (i := 2) cx (ie_idx (ie_add (ie_idx (ie_var 0) ie_int) (ie_lst (ia_cons ie_int ia_nil))) (ie_mod (ie_int1 T.z_int (ia_cons (ie_idx (ie_var 0) ie_int) ia_nil)) (ie_max2 cx T.z_max (ia_cons ie_int (ia_cons (ie_len T.z_len (ia_cons (ie_idx (ie_var 0) ie_int) ia_nil)) ia_nil))))))
    (is_cons (is_if (it_ge (ie_var 2) (ie_pow ie_int ie_int)) (is_cons (is_set (i := 3) cx (ie_idx (ie_var 0) ie_int))
    (is_cons (is_setix (ie_div (ie_var 2) (ie_var 1)) (ie_var 3) (ie_mod (ie_int1 T.z_int (ia_cons (ie_idx (ie_var 0) ie_int) ia_nil)) (ie_len T.z_len (ia_cons (ie_var 3) ia_nil))))
    (is_one (is_ret (ie_mod (ie_int1 T.z_int (ia_cons (ie_var 2) ia_nil)) (ie_var 1)))))) is_nil)
    (is_cons (is_setix (ie_mod (ie_int1 T.z_int (ia_cons (ie_add (ie_add (ie_mul (ie_idx (ie_var 0) ie_int) ie_int) (ie_mul (ie_var 2) ie_int)) ie_int) ia_nil)) ie_int) (ie_var 0) ie_int)
    (is_cons (is_setix (ie_add (ie_idx (ie_var 0) ie_int) ie_int) (ie_var 0) ie_int)
    (is_one (is_ret (ie_mod (ie_int1 T.z_int (ia_cons (ie_div (ie_idx (ie_var 0) ie_int) ie_int) ia_nil)) (ie_var 1)))))))

theorem sc__law_part : FnScope ["_law_one", "_law_other"] ["_law_one", "_law_other"] (defScope (topS 52)) := ⟨rfl, rfl, rfl, by decide +kernel, rfl, by decide +kernel, by decide +kernel⟩
theorem ok__law_part (T : Txt K mg) : GF P w K mg base "_law_part" 1 2 f__law_part := by
  obtain ⟨fd, F⟩ := T.d__law_part
  refine gf_mk F T.g__law_part sc__law_part 0 rfl (fun _ _ _ _ _ _ us hl => match us, hl with | [_, _], _ => rfl) fun cdv A outer s H E cx => ?_
  exact is_cons (is_par (i := 0) (j := 1) cx (ia_cons (ie_abs T.z_abs (ia_cons (ie_var 0) ia_nil)) (ia_cons (ie_abs T.z_abs (ia_cons (ie_var 1) ia_nil)) ia_nil)))
    (is_cons (is_while cx (it_ne cx (ie_var 1) ie_int) (is_one (is_par (i := 0) (j := 1) cx (ia_cons (ie_var 1) (ia_cons (ie_sub (ie_var 0) (ie_mul (ie_div (ie_var 0) (ie_var 1)) (ie_var 1))) ia_nil)))))
    (is_one (is_ret (ie_var 0))))

theorem sc__law_f : FnScope ["_law_n", "_law_d", "_law_part_here"] ["_law_n", "_law_d"] (defScope (topS 53)) := ⟨rfl, rfl, rfl, by decide +kernel, rfl, by decide +kernel, by decide +kernel⟩
theorem ok__law_f (T : Txt K mg) : GF P w K mg base "_law_f" 2 2 f__law_f := by
  obtain ⟨fd, F⟩ := T.d__law_f
  have G__law_part := ok__law_part (P := P) (w := w) (base := base) T
  refine gf_mk F T.g__law_f sc__law_f 1 rfl (fun _ _ _ _ _ _ us hl => match us, hl with | [_, _], _ => rfl) fun cdv A outer s H E cx => ?_
  exact is_cons (is_set (i := 2) cx (ie_callG cx G__law_part (ia_cons (ie_var 0) (ia_cons (ie_var 1) ia_nil))))
    (is_one (is_ret (ie_tup (ia_cons (ie_div (ie_var 0) (ie_var 2)) (ia_cons (ie_div (ie_var 1) (ie_var 2)) ia_nil)))))

theorem sc__law_add : FnScope ["_law_one", "_law_other"] ["_law_one", "_law_other"] (defScope (topS 54)) := ⟨rfl, rfl, rfl, by decide +kernel, rfl, by decide +kernel, by decide +kernel⟩
theorem ok__law_add (T : Txt K mg) : GF P w K mg base "_law_add" 3 2 f__law_add := by
  obtain ⟨fd, F⟩ := T.d__law_add
  have G__law_f := ok__law_f (P := P) (w := w) (base := base) T
  refine gf_mk F T.g__law_add sc__law_add 0 rfl (fun _ _ _ _ _ _ us hl => match us, hl with | [_, _], _ => rfl) fun cdv A outer s H E cx => ?_
  exact is_one (is_ret (ie_callG cx G__law_f (ia_cons (ie_add (ie_mul (ie_idx (ie_var 0) ie_int) (ie_idx (ie_var 1) ie_int)) (ie_mul (ie_idx (ie_var 1) ie_int) (ie_idx (ie_var 0) ie_int))) (ia_cons (ie_mul (ie_idx (ie_var 0) ie_int) (ie_idx (ie_var 1) ie_int)) ia_nil))))

theorem sc__law_mul : FnScope ["_law_one", "_law_other"] ["_law_one", "_law_other"] (defScope (topS 55)) := ⟨rfl, rfl, rfl, by decide +kernel, rfl, by decide +kernel, by decide +kernel⟩
theorem ok__law_mul (T : Txt K mg) : GF P w K mg base "_law_mul" 3 2 f__law_mul := by
  obtain ⟨fd, F⟩ := T.d__law_mul
  have G__law_f := ok__law_f (P := P) (w := w) (base := base) T
  refine gf_mk F T.g__law_mul sc__law_mul 0 rfl (fun _ _ _ _ _ _ us hl => match us, hl with | [_, _], _ => rfl) fun cdv A outer s H E cx => ?_
  exact is_one (is_ret (ie_callG cx G__law_f (ia_cons (ie_mul (ie_idx (ie_var 0) ie_int) (ie_idx (ie_var 1) ie_int)) (ia_cons (ie_mul (ie_idx (ie_var 0) ie_int) (ie_idx (ie_var 1) ie_int)) ia_nil))))

theorem sc__law_div : FnScope ["_law_one", "_law_other"] ["_law_one", "_law_other"] (defScope (topS 56)) := ⟨rfl, rfl, rfl, by decide +kernel, rfl, by decide +kernel, by decide +kernel⟩
theorem ok__law_div (T : Txt K mg) : GF P w K mg base "_law_div" 3 2 f__law_div := by
  obtain ⟨fd, F⟩ := T.d__law_div
  have G__law_f := ok__law_f (P := P) (w := w) (base := base) T
  refine gf_mk F T.g__law_div sc__law_div 0 rfl (fun _ _ _ _ _ _ us hl => match us, hl with | [_, _], _ => rfl) fun cdv A outer s H E cx => ?_
  exact is_one (is_ret (ie_callG cx G__law_f (ia_cons (ie_mul (ie_idx (ie_var 0) ie_int) (ie_idx (ie_var 1) ie_int)) (ia_cons (ie_mul (ie_idx (ie_var 0) ie_int) (ie_idx (ie_var 1) ie_int)) ia_nil))))

theorem sc__law_under : FnScope ["_law_one", "_law_other"] ["_law_one", "_law_other"] (defScope (topS 57)) := ⟨rfl, rfl, rfl, by decide +kernel, rfl, by decide +kernel, by decide +kernel⟩
theorem ok__law_under (T : Txt K mg) : GF P w K mg base "_law_under" 1 2 f__law_under := by
  obtain ⟨fd, F⟩ := T.d__law_under
  refine gf_mk F T.g__law_under sc__law_under 0 rfl (fun _ _ _ _ _ _ us hl => match us, hl with | [_, _], _ => rfl) fun cdv A outer s H E cx => ?_
  exact is_one (is_ret (ie_lt (ie_mul (ie_idx (ie_var 0) ie_int) (ie_idx (ie_var 1) ie_int)) (ie_mul (ie_idx (ie_var 1) ie_int) (ie_idx (ie_var 0) ie_int))))

theorem sc__law_reach : FnScope ["_law_h", "_law_base", "_law_kind"] ["_law_h", "_law_base"] (defScope (topS 58)) := ⟨rfl, rfl, rfl, by decide +kernel, rfl, by decide +kernel, by decide +kernel⟩
theorem ok__law_reach (T : Txt K mg) : GF P w K mg base "_law_reach" 3 2 f__law_reach := by
  obtain ⟨fd, F⟩ := T.d__law_reach
  have G__law_f := ok__law_f (P := P) (w := w) (base := base) T
  have G__law_next := ok__law_next (P := P) (w := w) (base := base) T
  refine gf_mk F T.g__law_reach sc__law_reach 1 rfl (fun _ _ _ _ _ _ us hl => match us, hl with | [_, _], _ => rfl) fun cdv A outer s H E cx => ?_
  exact is_cons (is_set (i := 2) cx (ie_callG cx G__law_next (ia_cons (ie_var 0) (ia_cons ie_int ia_nil))))
    (is_cons (is_if (it_eq cx (ie_var 2) ie_int) (is_one (is_ret (ie_callG cx G__law_f (ia_cons (ie_add ie_int (ie_callG cx G__law_next (ia_cons (ie_var 0) (ia_cons ie_int ia_nil)))) (ia_cons (ie_add ie_int (ie_callG cx G__law_next (ia_cons (ie_var 0) (ia_cons ie_int ia_nil)))) ia_nil))))) is_nil)
    (is_cons (is_if (it_eq cx (ie_var 2) ie_int) (is_one (is_ret (ie_callG cx G__law_f (ia_cons (ie_add ie_int (ie_callG cx G__law_next (ia_cons (ie_var 0) (ia_cons ie_int ia_nil)))) (ia_cons ie_int ia_nil))))) is_nil)
    (is_one (is_ret (ie_callG cx G__law_f (ia_cons (ie_add (ie_var 1) (ie_callG cx G__law_next (ia_cons (ie_var 0) (ia_cons (ie_add (ie_var 1) ie_int) ia_nil)))) (ia_cons (ie_add ie_int (ie_callG cx G__law_next (ia_cons (ie_var 0) (ia_cons ie_int ia_nil)))) ia_nil)))))))

theorem sc__law_turns : FnScope ["_law_h", "_law_roads", "_law_most", "_law_found", "_law_base", "_law_k", "_law_road"] ["_law_h", "_law_roads", "_law_most"] (defScope (topS 59)) := ⟨rfl, rfl, rfl, by decide +kernel, rfl, by decide +kernel, by decide +kernel⟩
theorem ok__law_turns (T : Txt K mg) : GF P w K mg base "_law_turns" 4 3 f__law_turns := by
  obtain ⟨fd, F⟩ := T.d__law_turns
  have G__law_next := ok__law_next (P := P) (w := w) (base := base) T
  have G__law_reach := ok__law_reach (P := P) (w := w) (base := base) T
  refine gf_mk F T.g__law_turns sc__law_turns 4 rfl (fun _ _ _ _ _ _ us hl => match us, hl with | [_, _, _], _ => rfl) fun cdv A outer s H E cx => ?_
  exact is_cons (is_par (i := 3) (j := 4) cx (ia_cons (ie_lst ia_nil) (ia_cons (ie_add ie_int (ie_callG cx G__law_next (ia_cons (ie_var 0) (ia_cons ie_int ia_nil)))) ia_nil)))
    (is_cons (is_for cx (ii_range1 T.z_range (ia_cons (ie_callG cx G__law_next (ia_cons (ie_var 0) (ia_cons (ie_add (ie_var 2) ie_int) ia_nil))) ia_nil)) (ig_name 5 cx.nd) (is_cons (is_set (i := 6) cx (ie_if (it_gt (ie_callG cx G__law_next (ia_cons (ie_var 0) (ia_cons ie_int ia_nil))) ie_int) (ie_sub (ie_var 5) (ie_mul (ie_div (ie_var 5) (ie_var 1)) (ie_var 1))) (ie_callG cx G__law_next (ia_cons (ie_var 0) (ia_cons (ie_var 1) ia_nil)))))
    (is_cons (is_expr (ie_append (ie_var 3) (ia_cons (ie_tup (ia_cons (ie_var 6) (ia_cons (ie_callG cx G__law_reach (ia_cons (ie_var 0) (ia_cons (ie_var 4) ia_nil))) ia_nil))) ia_nil)))
    (is_one (is_set (i := 4) cx (ie_min2 cx T.z_min (ia_cons (ie_pow ie_int ie_int) (ia_cons (ie_add (ie_var 4) (ie_callG cx G__law_next (ia_cons (ie_var 0) (ia_cons (ie_add (ie_var 4) ie_int) ia_nil)))) ia_nil))))))))
    (is_one (is_ret (ie_tuple1 T.z_tuple (ia_cons (ie_var 3) ia_nil)))))

theorem sc__law_plan : FnScope ["_law_h", "_law_most", "_law_roads", "_law_cost"] ["_law_h", "_law_most"] (defScope (topS 60)) := ⟨rfl, rfl, rfl, by decide +kernel, rfl, by decide +kernel, by decide +kernel⟩
theorem ok__law_plan (T : Txt K mg) : GF P w K mg base "_law_plan" 5 2 f__law_plan := by
  obtain ⟨fd, F⟩ := T.d__law_plan
  have G__law_f := ok__law_f (P := P) (w := w) (base := base) T
  have G__law_next := ok__law_next (P := P) (w := w) (base := base) T
  have G__law_turns := ok__law_turns (P := P) (w := w) (base := base) T
  refine gf_mk F T.g__law_plan sc__law_plan 2 rfl (fun _ _ _ _ _ _ us hl => match us, hl with | [_, _], _ => rfl) fun cdv A outer s H E cx => ?_
  exact is_cons (is_set (i := 2) cx (ie_add ie_int (ie_callG cx G__law_next (ia_cons (ie_var 0) (ia_cons ie_int ia_nil)))))
    (is_cons (is_set (i := 3) cx (ie_if (it_eq cx (ie_callG cx G__law_next (ia_cons (ie_var 0) (ia_cons ie_int ia_nil))) ie_int) (ie_tup (ia_cons ie_int (ia_cons ie_int ia_nil))) (ie_callG cx G__law_f (ia_cons (ie_callG cx G__law_next (ia_cons (ie_var 0) (ia_cons ie_int ia_nil))) (ia_cons (ie_add ie_int (ie_callG cx G__law_next (ia_cons (ie_var 0) (ia_cons ie_int ia_nil)))) ia_nil)))))
    (is_one (is_ret (ie_lst (ia_cons (ie_var 2) (ia_cons (ie_callG cx G__law_turns (ia_cons (ie_var 0) (ia_cons (ie_var 2) (ia_cons (ie_var 1) ia_nil)))) (ia_cons (ie_var 3) ia_nil)))))))

theorem sc__law_walked : FnScope ["_law_t", "_law_road", "_law_far", "_law_base", "_law_own", "_law_reach_here"] ["_law_t", "_law_road", "_law_far"] (defScope (topS 61)) := ⟨rfl, rfl, rfl, by decide +kernel, rfl, by decide +kernel, by decide +kernel⟩
theorem ok__law_walked (T : Txt K mg) : GF P w K mg base "_law_walked" 4 3 f__law_walked := by
  obtain ⟨fd, F⟩ := T.d__law_walked
  have G__law_add := ok__law_add (P := P) (w := w) (base := base) T
  have G__law_mul := ok__law_mul (P := P) (w := w) (base := base) T
  have G__law_under := ok__law_under (P := P) (w := w) (base := base) T
  refine gf_mk F T.g__law_walked sc__law_walked 3 rfl (fun _ _ _ _ _ _ us hl => match us, hl with | [_, _, _], _ => rfl) fun cdv A outer s H E cx => ?_
  exact is_cons (is_set (i := 3) cx (ie_tup (ia_cons ie_int (ia_cons ie_int ia_nil))))
    (is_cons (is_for cx (ii_seq (ie_idx (ie_var 0) ie_int)) (ig_tup cx (igs_cons 4 cx.nd (igs_cons 5 cx.nd igs_nil))) (is_cons (is_if (PW.pt (iw_and (it_eq cx (ie_var 4) (ie_var 1)) (iw_and1 (it_not (it_tru (ie_callG cx G__law_under (ia_cons (ie_var 5) (ia_cons (ie_var 2) ia_nil)))))))) (is_one (is_ret (ie_callG cx G__law_add (ia_cons (ie_var 3) (ia_cons (ie_var 2) ia_nil))))) is_nil)
    (is_one (is_set (i := 3) cx (ie_callG cx G__law_add (ia_cons (ie_var 3) (ia_cons (ie_callG cx G__law_add (ia_cons (ie_callG cx G__law_mul (ia_cons (ie_tup (ia_cons ie_int (ia_cons ie_int ia_nil))) (ia_cons (ie_var 5) ia_nil))) (ia_cons (ie_idx (ie_var 0) ie_int) ia_nil))) ia_nil)))))))
    (is_one (is_ret ie_non)))

theorem sc__law_time : FnScope ["_law_team", "_law_missing", "_law_road", "_law_far", "_law_rows", "_law_left", "_law_k", "_law_least", "_law_one", "_law_t"] ["_law_team", "_law_missing", "_law_road", "_law_far"] (defScope (topS 62)) := ⟨rfl, rfl, rfl, by decide +kernel, rfl, by decide +kernel, by decide +kernel⟩
theorem ok__law_time (T : Txt K mg) : GF P w K mg base "_law_time" 5 4 f__law_time := by
  obtain ⟨fd, F⟩ := T.d__law_time
  have G__law_under := ok__law_under (P := P) (w := w) (base := base) T
  have G__law_walked := ok__law_walked (P := P) (w := w) (base := base) T
  refine gf_mk F T.g__law_time sc__law_time 6 rfl (fun _ _ _ _ _ _ us hl => match us, hl with | [_, _, _, _], _ => rfl) fun cdv A outer s H E cx => ?_
  exact is_cons (is_setLc 4 [("_law_t", 9)] cx (sw_true rfl rfl rfl (by decide +kernel)) (ii_seq (ie_var 0)) (blkOk_by (by rfl)) (fun _ _ _ _ _ cx => gw_name 9 cx.nd) (fun _ _ _ _ _ cx => it_none) (fun _ _ _ _ _ cx => ie_callG cx G__law_walked (ia_cons (ie_var 9) (ia_cons (ie_var 2) (ia_cons (ie_var 3) ia_nil)))))
    (is_cons (is_setLc 5 [("_law_one", 8)] cx (sw_true rfl rfl rfl (by decide +kernel)) (ii_seq (ie_var 4)) (blkOk_by (by rfl)) (fun _ _ _ _ _ cx => gw_name 8 cx.nd) (fun _ _ _ _ _ cx => pts_one (it_isnot (ie_var 8) ie_non)) (fun _ _ _ _ _ cx => ie_var 8))
    (is_cons (is_for cx (ii_range1 T.z_range (ia_cons (ie_var 1) ia_nil)) (ig_name 6 cx.nd) (is_one (is_if (it_ne cx (ie_var 5) (ie_lst ia_nil)) (is_cons (is_set (i := 7) cx (ie_idx (ie_var 5) ie_int))
    (is_cons (is_for cx (ii_seq (ie_var 5)) (ig_name 8 cx.nd) (is_one (is_set (i := 7) cx (ie_if (it_tru (ie_callG cx G__law_under (ia_cons (ie_var 8) (ia_cons (ie_var 7) ia_nil)))) (ie_var 8) (ie_var 7)))))
    (is_one (is_expr (ie_remove cx (ie_var 5) (ia_cons (ie_var 7) ia_nil)))))) is_nil)))
    (is_cons (is_if (it_eq cx (ie_var 5) (ie_lst ia_nil)) (is_one (is_ret ie_non)) is_nil)
    (is_cons (is_set (i := 7) cx (ie_idx (ie_var 5) ie_int))
    (is_cons (is_for cx (ii_seq (ie_var 5)) (ig_name 8 cx.nd) (is_one (is_set (i := 7) cx (ie_if (it_tru (ie_callG cx G__law_under (ia_cons (ie_var 8) (ia_cons (ie_var 7) ia_nil)))) (ie_var 8) (ie_var 7)))))
    (is_one (is_ret (ie_var 7))))))))

theorem sc__law_ends : FnScope ["_law_team", "_law_road", "_law_found", "_law_t", "_law_own", "_law_reach_here", "_law_place", "_law_one"] ["_law_team", "_law_road"] (defScope (topS 63)) := ⟨rfl, rfl, rfl, by decide +kernel, rfl, by decide +kernel, by decide +kernel⟩
theorem ok__law_ends (T : Txt K mg) : GF P w K mg base "_law_ends" 2 2 f__law_ends := by
  obtain ⟨fd, F⟩ := T.d__law_ends
  have G__law_under := ok__law_under (P := P) (w := w) (base := base) T
  refine gf_mk F T.g__law_ends sc__law_ends 6 rfl (fun _ _ _ _ _ _ us hl => match us, hl with | [_, _], _ => rfl) fun cdv A outer s H E cx => ?_
  exact is_cons (is_set (i := 2) cx (ie_lst (ia_cons (ie_tup (ia_cons ie_int (ia_cons ie_int ia_nil))) ia_nil)))
    (is_cons (is_for cx (ii_seq (ie_var 0)) (ig_name 3 cx.nd) (is_one (is_for cx (ii_seq (ie_idx (ie_var 3) ie_int)) (ig_tup cx (igs_cons 4 cx.nd (igs_cons 5 cx.nd igs_nil))) (is_one (is_if (PW.pt (iw_and (it_eq cx (ie_var 4) (ie_var 1)) (iw_and (it_not (it_tru (ie_callG cx G__law_under (ia_cons (ie_var 5) (ia_cons (ie_tup (ia_cons ie_int (ia_cons ie_int ia_nil))) ia_nil))))) (iw_and1 (it_notin cx (ie_var 5) (ie_var 2)))))) (is_cons (is_set (i := 6) cx (ie_len T.z_len (ia_cons (ie_lc [("_law_one", 7)] cx (ii_seq (ie_var 2)) (blkOk_by (by rfl)) (fun _ _ _ _ _ cx => gw_name 7 cx.nd) (fun _ _ _ _ _ cx => pts_one (it_tru (ie_callG cx G__law_under (ia_cons (ie_var 7) (ia_cons (ie_var 5) ia_nil))))) (fun _ _ _ _ _ cx => ie_var 7)) ia_nil)))
    (is_one (is_set (i := 2) cx (ie_add (ie_add (ie_sl (ie_var 2) io_none (io_some (ie_var 6))) (ie_lst (ia_cons (ie_var 5) ia_nil))) (ie_sl (ie_var 2) (io_some (ie_var 6)) io_none))))) is_nil)))))
    (is_one (is_ret (ie_var 2))))

theorem sc_law : FnScope ["_law_script", "_law_h", "_law_roads", "_law_team", "_law_most", "_law_k", "_law_cost", "_law_plans", "_law_missing", "_law_tiny", "_law_best", "_law_road", "_law_low", "_law_own", "_law_near", "_law_value", "_law_here", "_law_told", "_law_far", "_law_t"] ["_law_script"] (defScope (topS 64)) := ⟨rfl, rfl, rfl, by decide +kernel, rfl, by decide +kernel, by decide +kernel⟩
theorem ok_law (T : Txt K mg) {f : Addr} {fd : FuncData} (F : Fun K "law" "law" (topS 64) f fd) : FnOk P w K mg base (L2.CX P w) 9 f fd ["_law_script"] (SpF K mg 1 f_law) := by
  have G_Plan___init__ := ok_Plan___init__ (P := P) (w := w) (base := base) T
  have G__law_add := ok__law_add (P := P) (w := w) (base := base) T
  have G__law_div := ok__law_div (P := P) (w := w) (base := base) T
  have G__law_ends := ok__law_ends (P := P) (w := w) (base := base) T
  have G__law_f := ok__law_f (P := P) (w := w) (base := base) T
  have G__law_mix := ok__law_mix (P := P) (w := w) (base := base) T
  have G__law_mul := ok__law_mul (P := P) (w := w) (base := base) T
  have G__law_next := ok__law_next (P := P) (w := w) (base := base) T
  have G__law_time := ok__law_time (P := P) (w := w) (base := base) T
  have G__law_turns := ok__law_turns (P := P) (w := w) (base := base) T
  have G__law_under := ok__law_under (P := P) (w := w) (base := base) T
  have G_team_walked := ok_team_walked (P := P) (w := w) (base := base) T
  have G_team_worst := ok_team_worst (P := P) (w := w) (base := base) T
  exact ok_of F sc_law 19 rfl fun cdv A outer s H E cx => (is_cons (is_set (i := 1) cx (ie_callG cx G__law_mix (ia_cons (ie_var 0) (ia_cons ie_int ia_nil))))
    (is_cons (is_par (i := 2) (j := 3) cx (ia_cons (ie_add ie_int (ie_callG cx G__law_next (ia_cons (ie_var 1) (ia_cons (ie_idx (ie_lst (ia_cons ie_int (ia_cons ie_int ia_nil))) (ie_callG cx G__law_next (ia_cons (ie_var 1) (ia_cons ie_int ia_nil)))) ia_nil)))) (ia_cons (ie_lst ia_nil) ia_nil)))
    (is_cons (is_set (i := 4) cx (ie_idx (ie_lst (ia_cons ie_int (ia_cons ie_int (ia_cons ie_int (ia_cons ie_int ia_nil))))) (ie_callG cx G__law_next (ia_cons (ie_var 1) (ia_cons ie_int ia_nil)))))
    (is_cons (is_for cx (ii_range1 T.z_range (ia_cons (ie_add ie_int (ie_callG cx G__law_next (ia_cons (ie_var 1) (ia_cons ie_int ia_nil)))) ia_nil)) (ig_name 5 cx.nd) (is_cons (is_set (i := 6) cx (ie_if (it_eq cx (ie_callG cx G__law_next (ia_cons (ie_var 1) (ia_cons ie_int ia_nil))) ie_int) (ie_tup (ia_cons ie_int (ia_cons ie_int ia_nil))) (ie_callG cx G__law_f (ia_cons (ie_callG cx G__law_next (ia_cons (ie_var 1) (ia_cons ie_int ia_nil))) (ia_cons (ie_add ie_int (ie_callG cx G__law_next (ia_cons (ie_var 1) (ia_cons ie_int ia_nil)))) ia_nil)))))
    (is_one (is_expr (ie_append (ie_var 3) (ia_cons (ie_lst (ia_cons (ie_var 2) (ia_cons (ie_callG cx G__law_turns (ia_cons (ie_var 1) (ia_cons (ie_var 2) (ia_cons (ie_var 4) ia_nil)))) (ia_cons (ie_var 6) ia_nil)))) ia_nil))))))
    (is_cons (is_par (i := 7) (j := 8) cx (ia_cons (ie_tuple1 T.z_tuple (ia_cons (ie_lc [("_law_t", 19)] cx (ii_seq (ie_var 3)) (blkOk_by (by rfl)) (fun _ _ _ _ _ cx => gw_name 19 cx.nd) (fun _ _ _ _ _ cx => it_none) (fun _ _ _ _ _ cx => ie_makeG cx T.mk_Plan T.o_Plan.gC G_Plan___init__ (ia_cons (ie_idx (ie_var 19) ie_int) (ia_cons (ie_idx (ie_var 19) ie_int) (ia_cons (ie_idx (ie_var 19) ie_int) ia_nil))))) ia_nil)) (ia_cons (ie_callG cx G__law_next (ia_cons (ie_var 1) (ia_cons (ie_len T.z_len (ia_cons (ie_var 3) ia_nil)) ia_nil))) ia_nil)))
    (is_cons (is_set (i := 9) cx (ie_tup (ia_cons ie_int (ia_cons (ie_pow ie_int ie_int) ia_nil))))
    (is_cons (is_set (i := 10) cx ie_non)
    (is_cons (is_for cx (ii_range1 T.z_range (ia_cons (ie_var 2) ia_nil)) (ig_name 11 cx.nd) (is_one (is_for cx (ii_seq (ie_callG cx G__law_ends (ia_cons (ie_var 3) (ia_cons (ie_var 11) ia_nil)))) (ig_name 12 cx.nd) (is_cons (is_set (i := 13) cx (ie_callG cx G__law_time (ia_cons (ie_var 3) (ia_cons (ie_var 8) (ia_cons (ie_var 11) (ia_cons (ie_var 12) ia_nil))))))
    (is_cons (is_if (it_ne cx (ie_callG cx G_team_walked (ia_cons (ie_var 7) (ia_cons (ie_var 8) (ia_cons (ie_var 11) (ia_cons (ie_var 12) ia_nil))))) (ie_var 13)) (is_one (is_ret ie_bl)) is_nil)
    (is_cons (is_set (i := 14) cx (ie_callG cx G__law_time (ia_cons (ie_var 3) (ia_cons (ie_var 8) (ia_cons (ie_var 11) (ia_cons (ie_callG cx G__law_add (ia_cons (ie_var 12) (ia_cons (ie_var 9) ia_nil))) ia_nil))))))
    (is_cons (is_set (i := 15) cx (ie_if (it_is (ie_var 14) ie_non) ie_non (ie_callG cx G__law_div (ia_cons (ie_callG cx G__law_add (ia_cons (ie_var 14) (ia_cons (ie_tup (ia_cons (ie_neg (ie_idx (ie_var 9) ie_int)) (ia_cons (ie_idx (ie_var 9) ie_int) ia_nil))) ia_nil))) (ia_cons (ie_var 12) ia_nil)))))
    (is_cons (is_set (i := 16) cx (ie_if (it_is (ie_var 13) ie_non) ie_non (ie_callG cx G__law_div (ia_cons (ie_var 13) (ia_cons (ie_var 12) ia_nil)))))
    (is_cons (is_if (PW.pt (iw_and (it_isnot (ie_var 16) ie_non) (iw_and1 (PW.pt (iw_or (it_is (ie_var 15) ie_non) (iw_or1 (it_tru (ie_callG cx G__law_under (ia_cons (ie_var 15) (ia_cons (ie_var 16) ia_nil)))))))))) (is_one (is_set (i := 15) cx (ie_var 16))) is_nil)
    (is_one (is_if (PW.pt (iw_and (it_isnot (ie_var 15) ie_non) (iw_and1 (PW.pt (iw_or (it_is (ie_var 10) ie_non) (iw_or1 (it_tru (ie_callG cx G__law_under (ia_cons (ie_idx (ie_var 10) ie_int) (ia_cons (ie_var 15) ia_nil)))))))))) (is_one (is_set (i := 10) cx (ie_tup (ia_cons (ie_var 15) (ia_cons (ie_var 11) (ia_cons (ie_var 12) (ia_cons (ie_eq cx (ie_var 15) (ie_var 16)) ia_nil))))))) is_nil)))))))))))
    (is_cons (is_set (i := 17) cx (ie_callG cx G_team_worst (ia_cons (ie_var 7) (ia_cons (ie_var 8) ia_nil))))
    (is_cons (is_if (PW.pt (iw_or (it_is (ie_var 17) ie_non) (iw_or1 (it_is (ie_var 10) ie_non)))) (is_one (is_ret (ie_and (ie_is (ie_var 17) ie_non) (ie_one (ie_is (ie_var 10) ie_non))))) is_nil)
    (is_cons (is_set (i := 13) cx (ie_callG cx G__law_time (ia_cons (ie_var 3) (ia_cons (ie_var 8) (ia_cons (ie_idx (ie_var 17) ie_int) (ia_cons (ie_idx (ie_var 17) ie_int) ia_nil))))))
    (is_cons (is_if (PW.pt (iw_or (it_ne cx (ie_idx (ie_var 17) ie_int) (ie_idx (ie_var 10) ie_int)) (iw_or1 (it_ne cx (ie_idx (ie_var 17) ie_int) (ie_eq cx (ie_var 13) (ie_callG cx G__law_mul (ia_cons (ie_idx (ie_var 17) ie_int) (ia_cons (ie_idx (ie_var 17) ie_int) ia_nil)))))))) (is_one (is_ret ie_bl)) is_nil)
    (is_cons (is_set (i := 18) cx (ie_callG cx G__law_f (ia_cons (ie_add ie_int (ie_callG cx G__law_next (ia_cons (ie_var 1) (ia_cons ie_int ia_nil)))) (ia_cons ie_int ia_nil))))
    (is_cons (is_set (i := 13) cx (ie_callG cx G__law_time (ia_cons (ie_var 3) (ia_cons (ie_var 8) (ia_cons (ie_idx (ie_var 10) ie_int) (ia_cons (ie_var 18) ia_nil))))))
    (is_cons (is_if (PW.pt (iw_and (it_isnot (ie_var 13) ie_non) (iw_and1 (it_tru (ie_callG cx G__law_under (ia_cons (ie_idx (ie_var 17) ie_int) (ia_cons (ie_callG cx G__law_div (ia_cons (ie_var 13) (ia_cons (ie_var 18) ia_nil))) ia_nil))))))) (is_one (is_ret ie_bl)) is_nil)
    (is_one (is_ret (ie_eq cx (ie_sl (ie_var 17) (io_some ie_int) (io_some ie_int)) (ie_sl (ie_var 10) (io_some ie_int) (io_some ie_int))))))))))))))))))))

end
end WR

/-! the head: what the top leaves, by one run of the kernel -/
namespace WR
open PySem PySem.Spec PyProof.Rows L2
theorem meth2 {K : PySem.W.Frag} {c m : Str} (e : bMeth c m K = true) : PySem.W.findIn K (.ref (He.ga K c)) m = some (some (.ref (He.ma K (He.ga K c) m))) ∧ PySem.W.isFn K (.ref (He.ma K (He.ga K c) m)) = true := by
  obtain ⟨e1, e⟩ := He.ba e
  exact ⟨He.eqO_ok e1, (He.ba e).1⟩
def exF : List FrB := [bGlo "is_integer",
  bGlo "is_from",
  bGlo "common",
  bGlo "ratio",
  bGlo "is_fraction",
  bGlo "plus",
  bGlo "times",
  bGlo "over",
  bGlo "is_less",
  bGlo "is_within",
  bGlo "greatest_of",
  bGlo "is_reach",
  bGlo "is_turn",
  bGlo "check_roads",
  bGlo "check_cost",
  bGlo "check_road",
  bGlo "is_far",
  bGlo "check_far",
  bGlo "bases_of",
  bGlo "walked_by",
  bGlo "pieces_of",
  bGlo "check_team",
  bGlo "in_order",
  bGlo "team_time",
  bGlo "team_walked",
  bGlo "bases_behind",
  bGlo "lows_of",
  bGlo "share_at",
  bGlo "team_worst",
  bGlo "_law_mix",
  bGlo "_law_next",
  bGlo "_law_part",
  bGlo "_law_f",
  bGlo "_law_add",
  bGlo "_law_mul",
  bGlo "_law_div",
  bGlo "_law_under",
  bGlo "_law_reach",
  bGlo "_law_turns",
  bGlo "_law_plan",
  bGlo "_law_walked",
  bGlo "_law_time",
  bGlo "_law_ends",
  bGlo "law",
  bInt "MOST_FAR" 1000000000000000000000000000000,
  bInt "MOST_PLANS" 4,
  bInt "MOST_REACH" 1000000000000,
  bInt "MOST_ROADS" 5,
  bInt "MOST_TURNS" 60,
  bGlo "ONE",
  bTup "ONE" [.int 1, .int 1],
  bGlo "ZERO",
  bTup "ZERO" [.int 0, .int 1],
  bFree "int",
  bFree "isinstance",
  bFree "bool",
  bFree "abs",
  bFree "tuple",
  bFree "len",
  bFree "enumerate",
  bFree "zip",
  bFree "range",
  bFree "list",
  bFree "max",
  bFree "min",
  bGlo "Plan",
  bOwn "Plan",
  bNoat "Plan" "held",
  bMk "Plan",
  bProp "Plan" "roads",
  bProp "Plan" "turns",
  bProp "Plan" "cost",
  bMeth "Plan" "__len__",
  bMeth "Plan" "__eq__",
  bNf "Plan",
  bTwo ownCs]
def fnF : List He5.DefA := [dA (fun K => (He.ga K "is_integer")) "is_integer" "is_integer" (topS 12),
  dA (fun K => (He.ga K "is_from")) "is_from" "is_from" (topS 13),
  dA (fun K => (He.ga K "common")) "common" "common" (topS 14),
  dA (fun K => (He.ga K "ratio")) "ratio" "ratio" (topS 15),
  dA (fun K => (He.ga K "is_fraction")) "is_fraction" "is_fraction" (topS 16),
  dA (fun K => (He.ga K "plus")) "plus" "plus" (topS 17),
  dA (fun K => (He.ga K "times")) "times" "times" (topS 18),
  dA (fun K => (He.ga K "over")) "over" "over" (topS 19),
  dA (fun K => (He.ga K "is_less")) "is_less" "is_less" (topS 20),
  dA (fun K => (He.ga K "is_within")) "is_within" "is_within" (topS 21),
  dA (fun K => (He.ga K "greatest_of")) "greatest_of" "greatest_of" (topS 22),
  dA (fun K => (He.ga K "is_reach")) "is_reach" "is_reach" (topS 28),
  dA (fun K => (He.ga K "is_turn")) "is_turn" "is_turn" (topS 29),
  dA (fun K => (He.ga K "check_roads")) "check_roads" "check_roads" (topS 30),
  dA (fun K => (He.ga K "check_cost")) "check_cost" "check_cost" (topS 31),
  dA (fun K => (He.ma K (He.ga K "Plan") "__init__")) "__init__" "Plan.__init__" (inClass (topS 32) 0),
  dA (fun K => (He5.wf K (He.ga K "Plan") "property" "roads")) "roads" "Plan.roads" (inClass (topS 32) 1),
  dA (fun K => (He5.wf K (He.ga K "Plan") "property" "turns")) "turns" "Plan.turns" (inClass (topS 32) 2),
  dA (fun K => (He5.wf K (He.ga K "Plan") "property" "cost")) "cost" "Plan.cost" (inClass (topS 32) 3),
  dA (fun K => (He.ma K (He.ga K "Plan") "__len__")) "__len__" "Plan.__len__" (inClass (topS 32) 4),
  dA (fun K => (He.ma K (He.ga K "Plan") "__eq__")) "__eq__" "Plan.__eq__" (inClass (topS 32) 5),
  dA (fun K => (He.ga K "check_road")) "check_road" "check_road" (topS 33),
  dA (fun K => (He.ga K "is_far")) "is_far" "is_far" (topS 34),
  dA (fun K => (He.ga K "check_far")) "check_far" "check_far" (topS 35),
  dA (fun K => (He.ga K "bases_of")) "bases_of" "bases_of" (topS 36),
  dA (fun K => (He.ga K "walked_by")) "walked_by" "walked_by" (topS 37),
  dA (fun K => (He.ga K "pieces_of")) "pieces_of" "pieces_of" (topS 38),
  dA (fun K => (He.ga K "check_team")) "check_team" "check_team" (topS 41),
  dA (fun K => (He.ga K "in_order")) "in_order" "in_order" (topS 42),
  dA (fun K => (He.ga K "team_time")) "team_time" "team_time" (topS 43),
  dA (fun K => (He.ga K "team_walked")) "team_walked" "team_walked" (topS 44),
  dA (fun K => (He.ga K "bases_behind")) "bases_behind" "bases_behind" (topS 45),
  dA (fun K => (He.ga K "lows_of")) "lows_of" "lows_of" (topS 46),
  dA (fun K => (He.ga K "share_at")) "share_at" "share_at" (topS 47),
  dA (fun K => (He.ga K "team_worst")) "team_worst" "team_worst" (topS 48),
  dA (fun K => (He.ga K "_law_mix")) "_law_mix" "_law_mix" (topS 50),
  dA (fun K => (He.ga K "_law_next")) "_law_next" "_law_next" (topS 51),
  dA (fun K => (He.ga K "_law_part")) "_law_part" "_law_part" (topS 52),
  dA (fun K => (He.ga K "_law_f")) "_law_f" "_law_f" (topS 53),
  dA (fun K => (He.ga K "_law_add")) "_law_add" "_law_add" (topS 54),
  dA (fun K => (He.ga K "_law_mul")) "_law_mul" "_law_mul" (topS 55),
  dA (fun K => (He.ga K "_law_div")) "_law_div" "_law_div" (topS 56),
  dA (fun K => (He.ga K "_law_under")) "_law_under" "_law_under" (topS 57),
  dA (fun K => (He.ga K "_law_reach")) "_law_reach" "_law_reach" (topS 58),
  dA (fun K => (He.ga K "_law_turns")) "_law_turns" "_law_turns" (topS 59),
  dA (fun K => (He.ga K "_law_plan")) "_law_plan" "_law_plan" (topS 60),
  dA (fun K => (He.ga K "_law_walked")) "_law_walked" "_law_walked" (topS 61),
  dA (fun K => (He.ga K "_law_time")) "_law_time" "_law_time" (topS 62),
  dA (fun K => (He.ga K "_law_ends")) "_law_ends" "_law_ends" (topS 63),
  dA (fun K => (He.ga K "law")) "law" "law" (topS 64)]
def looseF : List Str := (["RoadError", "BadRoads", "BadTurns", "BadCost", "BadRoad", "BadFar", "BadPlans", "BadMissing", "ZERO", "ONE", "is_integer", "is_from", "common", "ratio", "is_fraction", "plus"] : List Str) ++ (["times", "over", "is_less", "is_within", "greatest_of", "MOST_ROADS", "MOST_TURNS", "MOST_REACH", "MOST_FAR", "is_reach", "is_turn", "check_roads", "check_cost", "Plan", "check_road", "is_far"] : List Str) ++ (["check_far", "bases_of", "walked_by", "pieces_of", "MOST_PLANS", "check_team", "in_order", "team_time", "team_walked", "bases_behind", "lows_of", "share_at", "team_worst", "_law_mix", "_law_next", "_law_part"] : List Str) ++ (["_law_f", "_law_add", "_law_mul", "_law_div", "_law_under", "_law_reach", "_law_turns", "_law_plan", "_law_walked", "_law_time", "_law_ends"] : List Str)
theorem txt_of {K : PySem.W.Frag} {mg : Str → Option Value} {h : Heap} (X : K.In h) (G : h.Ns mainGlobals mg) (c : SaysW exF fnF K) : Txt K mg :=
  {
    d_is_integer := c.fun_ 0
    g_is_integer := He.glo_ok X G (c.fact (f := bGlo "is_integer") (List.mem_of_getElem? (i := 0) rfl))
    d_is_from := c.fun_ 1
    g_is_from := He.glo_ok X G (c.fact (f := bGlo "is_from") (List.mem_of_getElem? (i := 1) rfl))
    d_common := c.fun_ 2
    g_common := He.glo_ok X G (c.fact (f := bGlo "common") (List.mem_of_getElem? (i := 2) rfl))
    d_ratio := c.fun_ 3
    g_ratio := He.glo_ok X G (c.fact (f := bGlo "ratio") (List.mem_of_getElem? (i := 3) rfl))
    d_is_fraction := c.fun_ 4
    g_is_fraction := He.glo_ok X G (c.fact (f := bGlo "is_fraction") (List.mem_of_getElem? (i := 4) rfl))
    d_plus := c.fun_ 5
    g_plus := He.glo_ok X G (c.fact (f := bGlo "plus") (List.mem_of_getElem? (i := 5) rfl))
    d_times := c.fun_ 6
    g_times := He.glo_ok X G (c.fact (f := bGlo "times") (List.mem_of_getElem? (i := 6) rfl))
    d_over := c.fun_ 7
    g_over := He.glo_ok X G (c.fact (f := bGlo "over") (List.mem_of_getElem? (i := 7) rfl))
    d_is_less := c.fun_ 8
    g_is_less := He.glo_ok X G (c.fact (f := bGlo "is_less") (List.mem_of_getElem? (i := 8) rfl))
    d_is_within := c.fun_ 9
    g_is_within := He.glo_ok X G (c.fact (f := bGlo "is_within") (List.mem_of_getElem? (i := 9) rfl))
    d_greatest_of := c.fun_ 10
    g_greatest_of := He.glo_ok X G (c.fact (f := bGlo "greatest_of") (List.mem_of_getElem? (i := 10) rfl))
    d_is_reach := c.fun_ 11
    g_is_reach := He.glo_ok X G (c.fact (f := bGlo "is_reach") (List.mem_of_getElem? (i := 11) rfl))
    d_is_turn := c.fun_ 12
    g_is_turn := He.glo_ok X G (c.fact (f := bGlo "is_turn") (List.mem_of_getElem? (i := 12) rfl))
    d_check_roads := c.fun_ 13
    g_check_roads := He.glo_ok X G (c.fact (f := bGlo "check_roads") (List.mem_of_getElem? (i := 13) rfl))
    d_check_cost := c.fun_ 14
    g_check_cost := He.glo_ok X G (c.fact (f := bGlo "check_cost") (List.mem_of_getElem? (i := 14) rfl))
    d_Plan___init__ := c.fun_ 15
    d_Plan_roads := c.fun_ 16
    d_Plan_turns := c.fun_ 17
    d_Plan_cost := c.fun_ 18
    d_Plan___len__ := c.fun_ 19
    d_Plan___eq__ := c.fun_ 20
    d_check_road := c.fun_ 21
    g_check_road := He.glo_ok X G (c.fact (f := bGlo "check_road") (List.mem_of_getElem? (i := 15) rfl))
    d_is_far := c.fun_ 22
    g_is_far := He.glo_ok X G (c.fact (f := bGlo "is_far") (List.mem_of_getElem? (i := 16) rfl))
    d_check_far := c.fun_ 23
    g_check_far := He.glo_ok X G (c.fact (f := bGlo "check_far") (List.mem_of_getElem? (i := 17) rfl))
    d_bases_of := c.fun_ 24
    g_bases_of := He.glo_ok X G (c.fact (f := bGlo "bases_of") (List.mem_of_getElem? (i := 18) rfl))
    d_walked_by := c.fun_ 25
    g_walked_by := He.glo_ok X G (c.fact (f := bGlo "walked_by") (List.mem_of_getElem? (i := 19) rfl))
    d_pieces_of := c.fun_ 26
    g_pieces_of := He.glo_ok X G (c.fact (f := bGlo "pieces_of") (List.mem_of_getElem? (i := 20) rfl))
    d_check_team := c.fun_ 27
    g_check_team := He.glo_ok X G (c.fact (f := bGlo "check_team") (List.mem_of_getElem? (i := 21) rfl))
    d_in_order := c.fun_ 28
    g_in_order := He.glo_ok X G (c.fact (f := bGlo "in_order") (List.mem_of_getElem? (i := 22) rfl))
    d_team_time := c.fun_ 29
    g_team_time := He.glo_ok X G (c.fact (f := bGlo "team_time") (List.mem_of_getElem? (i := 23) rfl))
    d_team_walked := c.fun_ 30
    g_team_walked := He.glo_ok X G (c.fact (f := bGlo "team_walked") (List.mem_of_getElem? (i := 24) rfl))
    d_bases_behind := c.fun_ 31
    g_bases_behind := He.glo_ok X G (c.fact (f := bGlo "bases_behind") (List.mem_of_getElem? (i := 25) rfl))
    d_lows_of := c.fun_ 32
    g_lows_of := He.glo_ok X G (c.fact (f := bGlo "lows_of") (List.mem_of_getElem? (i := 26) rfl))
    d_share_at := c.fun_ 33
    g_share_at := He.glo_ok X G (c.fact (f := bGlo "share_at") (List.mem_of_getElem? (i := 27) rfl))
    d_team_worst := c.fun_ 34
    g_team_worst := He.glo_ok X G (c.fact (f := bGlo "team_worst") (List.mem_of_getElem? (i := 28) rfl))
    d__law_mix := c.fun_ 35
    g__law_mix := He.glo_ok X G (c.fact (f := bGlo "_law_mix") (List.mem_of_getElem? (i := 29) rfl))
    d__law_next := c.fun_ 36
    g__law_next := He.glo_ok X G (c.fact (f := bGlo "_law_next") (List.mem_of_getElem? (i := 30) rfl))
    d__law_part := c.fun_ 37
    g__law_part := He.glo_ok X G (c.fact (f := bGlo "_law_part") (List.mem_of_getElem? (i := 31) rfl))
    d__law_f := c.fun_ 38
    g__law_f := He.glo_ok X G (c.fact (f := bGlo "_law_f") (List.mem_of_getElem? (i := 32) rfl))
    d__law_add := c.fun_ 39
    g__law_add := He.glo_ok X G (c.fact (f := bGlo "_law_add") (List.mem_of_getElem? (i := 33) rfl))
    d__law_mul := c.fun_ 40
    g__law_mul := He.glo_ok X G (c.fact (f := bGlo "_law_mul") (List.mem_of_getElem? (i := 34) rfl))
    d__law_div := c.fun_ 41
    g__law_div := He.glo_ok X G (c.fact (f := bGlo "_law_div") (List.mem_of_getElem? (i := 35) rfl))
    d__law_under := c.fun_ 42
    g__law_under := He.glo_ok X G (c.fact (f := bGlo "_law_under") (List.mem_of_getElem? (i := 36) rfl))
    d__law_reach := c.fun_ 43
    g__law_reach := He.glo_ok X G (c.fact (f := bGlo "_law_reach") (List.mem_of_getElem? (i := 37) rfl))
    d__law_turns := c.fun_ 44
    g__law_turns := He.glo_ok X G (c.fact (f := bGlo "_law_turns") (List.mem_of_getElem? (i := 38) rfl))
    d__law_plan := c.fun_ 45
    g__law_plan := He.glo_ok X G (c.fact (f := bGlo "_law_plan") (List.mem_of_getElem? (i := 39) rfl))
    d__law_walked := c.fun_ 46
    g__law_walked := He.glo_ok X G (c.fact (f := bGlo "_law_walked") (List.mem_of_getElem? (i := 40) rfl))
    d__law_time := c.fun_ 47
    g__law_time := He.glo_ok X G (c.fact (f := bGlo "_law_time") (List.mem_of_getElem? (i := 41) rfl))
    d__law_ends := c.fun_ 48
    g__law_ends := He.glo_ok X G (c.fact (f := bGlo "_law_ends") (List.mem_of_getElem? (i := 42) rfl))
    d_law := c.fun_ 49
    g_law := He.glo_ok X G (c.fact (f := bGlo "law") (List.mem_of_getElem? (i := 43) rfl))
    c_MOST_FAR := He.int_ok X G (c.fact (f := bInt "MOST_FAR" 1000000000000000000000000000000) (List.mem_of_getElem? (i := 44) rfl))
    c_MOST_PLANS := He.int_ok X G (c.fact (f := bInt "MOST_PLANS" 4) (List.mem_of_getElem? (i := 45) rfl))
    c_MOST_REACH := He.int_ok X G (c.fact (f := bInt "MOST_REACH" 1000000000000) (List.mem_of_getElem? (i := 46) rfl))
    c_MOST_ROADS := He.int_ok X G (c.fact (f := bInt "MOST_ROADS" 5) (List.mem_of_getElem? (i := 47) rfl))
    c_MOST_TURNS := He.int_ok X G (c.fact (f := bInt "MOST_TURNS" 60) (List.mem_of_getElem? (i := 48) rfl))
    g_ONE := He.glo_ok X G (c.fact (f := bGlo "ONE") (List.mem_of_getElem? (i := 49) rfl))
    c_ONE := (bTup_ok (c.fact (f := bTup "ONE" [.int 1, .int 1]) (List.mem_of_getElem? (i := 50) rfl)))
    g_ZERO := He.glo_ok X G (c.fact (f := bGlo "ZERO") (List.mem_of_getElem? (i := 51) rfl))
    c_ZERO := (bTup_ok (c.fact (f := bTup "ZERO" [.int 0, .int 1]) (List.mem_of_getElem? (i := 52) rfl)))
    z_int := He.free_ok X G (c.fact (f := bFree "int") (List.mem_of_getElem? (i := 53) rfl))
    z_isinstance := He.free_ok X G (c.fact (f := bFree "isinstance") (List.mem_of_getElem? (i := 54) rfl))
    z_bool := He.free_ok X G (c.fact (f := bFree "bool") (List.mem_of_getElem? (i := 55) rfl))
    z_abs := He.free_ok X G (c.fact (f := bFree "abs") (List.mem_of_getElem? (i := 56) rfl))
    z_tuple := He.free_ok X G (c.fact (f := bFree "tuple") (List.mem_of_getElem? (i := 57) rfl))
    z_len := He.free_ok X G (c.fact (f := bFree "len") (List.mem_of_getElem? (i := 58) rfl))
    z_enumerate := He.free_ok X G (c.fact (f := bFree "enumerate") (List.mem_of_getElem? (i := 59) rfl))
    z_zip := He.free_ok X G (c.fact (f := bFree "zip") (List.mem_of_getElem? (i := 60) rfl))
    z_range := He.free_ok X G (c.fact (f := bFree "range") (List.mem_of_getElem? (i := 61) rfl))
    z_list := He.free_ok X G (c.fact (f := bFree "list") (List.mem_of_getElem? (i := 62) rfl))
    z_max := He.free_ok X G (c.fact (f := bFree "max") (List.mem_of_getElem? (i := 63) rfl))
    z_min := He.free_ok X G (c.fact (f := bFree "min") (List.mem_of_getElem? (i := 64) rfl))
    gc_Plan := (c.fact (f := bGlo "Plan") (List.mem_of_getElem? (i := 65) rfl))
    o_Plan := bOwn_ok X G (c.fact (f := bGlo "Plan") (List.mem_of_getElem? (i := 65) rfl)) (c.fact (f := bOwn "Plan") (List.mem_of_getElem? (i := 66) rfl))
    na_Plan_held := He.noat_ok (c.fact (f := bNoat "Plan" "held") (List.mem_of_getElem? (i := 67) rfl))
    mk_Plan := He.mkr_ok (c.fact (f := bMk "Plan") (List.mem_of_getElem? (i := 68) rfl))
    p_Plan_roads := bProp_ok (c.fact (f := bProp "Plan" "roads") (List.mem_of_getElem? (i := 69) rfl))
    p_Plan_turns := bProp_ok (c.fact (f := bProp "Plan" "turns") (List.mem_of_getElem? (i := 70) rfl))
    p_Plan_cost := bProp_ok (c.fact (f := bProp "Plan" "cost") (List.mem_of_getElem? (i := 71) rfl))
    ln_Plan := meth2 (c.fact (f := bMeth "Plan" "__len__") (List.mem_of_getElem? (i := 72) rfl))
    eq_Plan := meth2 (c.fact (f := bMeth "Plan" "__eq__") (List.mem_of_getElem? (i := 73) rfl))
    nf_Plan := (c.fact (f := bNf "Plan") (List.mem_of_getElem? (i := 74) rfl))
    os := bTwo_ok X G (fun d hd => by
      have h := mem_of_contains hd
      simp only [ownCs, List.mem_cons, List.not_mem_nil, or_false] at h
      subst h; exact bOwn_ok X G (c.fact (f := bGlo "Plan") (List.mem_of_getElem? (i := 65) rfl)) (c.fact (f := bOwn "Plan") (List.mem_of_getElem? (i := 66) rfl))) (c.fact (f := bTwo ownCs) (List.mem_of_getElem? (i := 75) rfl)) }
abbrev RW : PySem.W.OpenRow := PySem.W.OpenLaw.row PySem.Challenge.rw_whichroad_k05_whole_teams
abbrev hkF : PySem.W.Hook := hookW 6 exF fnF
def obF (s : PySem.W.SharedT) : He.AlD := obsW 6 exF fnF (HandSHeadRun.getT s)
theorem obF_eq (s : PySem.W.SharedT) : obF s = hkF.obs s.abs := obsW_eq (HandSHeadRun.getT_eq s)
theorem runF (w : World) : HandSHeadRun.RunEq RW (PySem.W.view RW.prog [64]) hkF obF 12000 looseF w := by
  intro os
  kernel_rfl
end WR

open PySem PySem.W PySem.Calls PyProof.Rows
set_option maxHeartbeats 0 in
theorem PySem.Challenge.cw_whichroad_k05_whole_teams_holds : PySem.Challenge.rw_whichroad_k05_whole_teams.Holds := by
  w_on; o_law
  refine HandSHeadRun.head_any (r := OpenLaw.row PySem.Challenge.rw_whichroad_k05_whole_teams) (q := view (OpenLaw.row PySem.Challenge.rw_whichroad_k05_whole_teams).prog [64]) (H := WR.hkF) (ob := WR.obF) (M := 12000) (loose := WR.looseF) (d := HandSHeadRun.topDef (OpenLaw.row PySem.Challenge.rw_whichroad_k05_whole_teams).prog 64) (kwd := []) WR.obF_eq
    (by kernel_rfl) (fun s => by kernel_rfl) WR.runF (by kernel_rfl) (by kernel_rfl) (by kernel_rfl) (by rfl) (by first | assumption | decide +kernel) (by decide +kernel) ⟨rfl, rfl, rfl, rfl, rfl, by decide +kernel⟩ ?hw ?hc
  case hw => w_witness2
  case hc =>
    refine WR.walk_W (l := PySem.Challenge.rw_whichroad_k05_whole_teams) (k := 9) (x := "_law_script") (F := WR.f_law) rfl (by kernel_rfl) ⟨rfl, by decide, by decide⟩ ?F WR.law_true
    intro w mg fa h Y G hmg0
    obtain ⟨K, KX, c⟩ := Y
    have T := WR.txt_of KX G c
    have hmg : mg ("law" : PySem.Str) = some (.ref fa) := by
      have e : (HandSHeadRun.topDef (OpenLaw.row PySem.Challenge.rw_whichroad_k05_whole_teams).prog 64).name = ("law" : PySem.Str) := by kernel_rfl
      rw [← e]
      exact hmg0
    obtain ⟨fd, F⟩ := T.d_law
    have e := hmg.symm.trans T.g_law
    cases e
    exact ⟨K, fd, KX, fun s v => WR.fun_bA (ps := ["_law_script"]) F (fun _ _ _ _ _ _ us hl => match us, hl with | [_], _ => rfl) s [v] rfl, fun base _ _ => WR.ok_law T F⟩


