import PyProof.Rows.All
import Wide.All
import OpenK.AllK
import Wide.FinOn
import PyProof.EqAt
import PyProof.EqKinds
import PyProof.TupleCall
import HandS.ForMost
import HandS.ForExc
import HandS.Wide
import HandS.WideBits
import HandS.TupAny
import HandS.TupMul
import HandS.IsInst
import HandS.Property
import HandS.OwnEq
import HandS.Deep
import HandS.Zip
import HandS.CallSlots
import HandS.Flow
import KE.GoesEnum
import KE.GoesMore
import KE.GoesZip
import KE.KStateDown
import HandS.More
import HandS.Defaults
import HandS.Head0
import HandS.Head1
import HandS.Head2
import HandS.HeadEnd
import HandS.HeadHook1
import HandS.HeadHook2
import HandS.HeadNt
import HandS.Comp
import HandS.Style
import HandS.SetFor
import HandS.Dict
import HandS.TupLe
import PyProof.ListMulRoad
import PyProof.FactsAll.tuple_2
import HandS.TryMany
import HandS.Small
import HandS.Remove
import KE.DataFind
import PySem.Challenge.RW_whichroad_k04_whole_reach_within_a_share
set_option Elab.async false
set_option linter.all false
set_option maxRecDepth 100000
set_option maxHeartbeats 1000000
/-! the functional reading: values, heaps, results; how they stand in the layer's abstract heap -/
namespace WR
open PySem PySem.Spec PyProof.Rows L2

/-- a value; lists, dicts, instances are objects of the small heap; fls: a list that is only read (the script) -/
inductive PV where
  | non | bl (b : Bool) | int (i : Int) | str (x : Str) | tup (xs : List PV) | fls (xs : List PV) | obj (n : Nat) | glo (x : Str) | ty (n : String) | key (ks : List Int)
inductive MO where
  | lst (xs : List PV)
  | ins (c : Str) (fs : List (Str × PV))
  | dct (kvs : List (List Int × PV))
abbrev IH := List MO
abbrev Fm := List (Option PV)
/-- an exception: its class's name, its own fields -/
structure XV where
  cls : Str
  fs : List (Str × PV)
inductive Res (α : Type) where
  | ok (a : α) (h : IH)
  | ex (x : XV) (h : IH)
  | bad
def Res.bind {α β : Type} (r : Res α) (f : α → IH → Res β) : Res β := match r with
  | .ok a h => f a h
  | .ex x h => .ex x h
  | .bad => .bad
@[simp] theorem bind_ok {α β : Type} (a : α) (h : IH) (f : α → IH → Res β) : (Res.ok a h).bind f = f a h := rfl
@[simp] theorem bind_ex {α β : Type} (x : XV) (h : IH) (f : α → IH → Res β) : (Res.ex x h : Res α).bind f = .ex x h := rfl
@[simp] theorem bind_bad {α β : Type} (f : α → IH → Res β) : (Res.bad : Res α).bind f = .bad := rfl
abbrev EX := Fm → IH → Res PV
abbrev TX := Fm → IH → Res Bool
abbrev AX := Fm → IH → Res (List PV)
inductive RS where
  | nx (r : Fm) (h : IH)
  | rt (v : PV) (h : IH)
  | bk (r : Fm) (h : IH)
  | ct (r : Fm) (h : IH)
  | ex (x : XV) (r : Fm) (h : IH)
  | bad
abbrev SX := Fm → IH → RS

/-! ### how a value stands -/
/-- a list that is read only -/
def SqF (K : PySem.W.Frag) (H : Hp) (a : Addr) (ys : List V) : Prop := (∃ o, H a = some (.frz o (.lst ys))) ∨
    ∃ (o : Obj) (its : Array Value) (n : Nat), K.lookup a = some o ∧ o.cls = .type "list" ∧ o.dict = none ∧ o.data = .seq its n ∧ its.size ≤ sizeLine ∧ Vals ys its.toList
theorem SqF.sq {K : PySem.W.Frag} {H : Hp} {a : Addr} {ys : List V} (h : SqF K H a ys) : SqL K H a ys := by
  rcases h with ⟨o, h⟩ | h
  · exact .inl (.inr ⟨o, h⟩)
  · exact .inr h
mutual
inductive RP (K : PySem.W.Frag) (mg : Str → Option Value) (H : Hp) (as : List Addr) : PV → V → Prop
  | non : RP K mg H as .non .non
  | bl (b : Bool) : RP K mg H as (.bl b) (.bl b)
  | int (i : Int) : RP K mg H as (.int i) (.int i)
  | str (x : Str) : RP K mg H as (.str x) (.str x)
  | tup {xs : List PV} {a : Addr} {ys : List V} : SqT K H a ys → RPs K mg H as xs ys → RP K mg H as (.tup xs) (.ref a)
  | fls {xs : List PV} {a : Addr} {ys : List V} : SqF K H a ys → RPs K mg H as xs ys → RP K mg H as (.fls xs) (.ref a)
  | obj {n : Nat} {a : Addr} : as[n]? = some a → RP K mg H as (.obj n) (.ref a)
  | glo {x : Str} {u : Value} {v : V} : mg x = some u → RelV v u → RP K mg H as (.glo x) v
  | ty (n : String) : RP K mg H as (.ty n) (.ty n)
  | key {ks : List Int} {a : Addr} : H a = some (.tup (ks.map V.int)) → RP K mg H as (.key ks) (.ref a)
inductive RPs (K : PySem.W.Frag) (mg : Str → Option Value) (H : Hp) (as : List Addr) : List PV → List V → Prop
  | nil : RPs K mg H as [] []
  | cons {p : PV} {ps : List PV} {v : V} {vs : List V} : RP K mg H as p v → RPs K mg H as ps vs → RPs K mg H as (p :: ps) (v :: vs)
end
/-- what a step of the code leaves -/
structure Stp (as : List Addr) (H : Hp) (as' : List Addr) (H' : Hp) : Prop where
  pre : ∃ more, as' = as ++ more ∧ ∀ b ∈ more, H b = none
  tup : ∀ b ys, H b = some (.tup ys) → H' b = some (.tup ys)
  frz : ∀ b o u, H b = some (.frz o u) → H' b = some (.frz o u)
  oth : ∀ b o, H b = some o → b ∉ as → H' b = some o
  liv : ∀ b, H b ≠ none → H' b ≠ none
theorem Stp.refl (as : List Addr) (H : Hp) : Stp as H as H := ⟨⟨[], by simp, by simp⟩, fun _ _ h => h, fun _ _ _ h => h, fun _ _ h _ => h, fun _ h => h⟩
theorem Stp.trans {as as1 as2 : List Addr} {H H1 H2 : Hp} (a : Stp as H as1 H1) (b : Stp as1 H1 as2 H2) : Stp as H as2 H2 := by
  obtain ⟨m1, e1, f1⟩ := a.pre
  obtain ⟨m2, e2, f2⟩ := b.pre
  refine ⟨⟨m1 ++ m2, by rw [e2, e1, List.append_assoc], fun c hc => ?_⟩, fun c ys h => b.tup c ys (a.tup c ys h), fun c o u h => b.frz c o u (a.frz c o u h), fun c o h hc => b.oth c o (a.oth c o h hc) fun z => ?_, fun c h => b.liv c (a.liv c h)⟩
  · rcases List.mem_append.mp hc with h | h
    · exact f1 c h
    · cases q : H c with
      | none => rfl
      | some o => exact absurd (f2 c h) (a.liv c (by rw [q]; simp))
  · rw [e1] at z
    rcases List.mem_append.mp z with z | z
    · exact hc z
    · rw [f1 c z] at h; cases h
theorem Stp.get {as as' : List Addr} {H H' : Hp} (s : Stp as H as' H') {n : Nat} {a : Addr} (h : as[n]? = some a) : as'[n]? = some a := by
  obtain ⟨m, e, _⟩ := s.pre
  rw [e, List.getElem?_append_left (List.getElem?_eq_some_iff.mp h).1]
  exact h
section
variable {K : PySem.W.Frag} {mg : Str → Option Value} {as as' : List Addr} {H H' : Hp}
theorem Stp.sqT (s : Stp as H as' H') {a : Addr} {ys : List V} (h : SqT K H a ys) : SqT K H' a ys := by
  rcases h with (h | ⟨o, h⟩) | h
  · exact .inl (.inl (s.tup _ _ h))
  · exact .inl (.inr ⟨o, s.frz _ _ _ h⟩)
  · exact .inr h
theorem Stp.sqF (s : Stp as H as' H') {a : Addr} {ys : List V} (h : SqF K H a ys) : SqF K H' a ys := by
  rcases h with ⟨o, h⟩ | h
  · exact .inl ⟨o, s.frz _ _ _ h⟩
  · exact .inr h
mutual
theorem RP.mono (s : Stp as H as' H') : ∀ {p : PV} {v : V}, RP K mg H as p v → RP K mg H' as' p v
  | _, _, .non => .non
  | _, _, .bl b => .bl b
  | _, _, .int i => .int i
  | _, _, .str x => .str x
  | _, _, .tup h r => .tup (s.sqT h) (RPs.mono s r)
  | _, _, .fls h r => .fls (s.sqF h) (RPs.mono s r)
  | _, _, .obj h => .obj (s.get h)
  | _, _, .glo h r => .glo h r
  | _, _, .ty n => .ty n
  | _, _, .key h => .key (s.tup _ _ h)
theorem RPs.mono (s : Stp as H as' H') : ∀ {ps : List PV} {vs : List V}, RPs K mg H as ps vs → RPs K mg H' as' ps vs
  | _, _, .nil => .nil
  | _, _, .cons h t => .cons (RP.mono s h) (RPs.mono s t)
end
theorem RPs.length : ∀ {ps : List PV} {vs : List V}, RPs K mg H as ps vs → ps.length = vs.length
  | _, _, .nil => rfl
  | _, _, .cons _ t => by rw [List.length_cons, List.length_cons, RPs.length t]
theorem RPs.get : ∀ {ps : List PV} {vs : List V} {i : Nat} {p : PV}, RPs K mg H as ps vs → ps[i]? = some p → ∃ v, vs[i]? = some v ∧ RP K mg H as p v
  | _, _, _, _, .nil, e => by simp at e
  | _, _, 0, _, .cons r _, e => by simp at e; subst e; exact ⟨_, rfl, r⟩
  | _, _, i + 1, p, .cons _ t, e => by
    obtain ⟨v, h1, h2⟩ := RPs.get (i := i) (p := p) t (by simpa using e)
    exact ⟨v, by simpa using h1, h2⟩
theorem RPs.append : ∀ {xs ys : List PV} {us ws : List V}, RPs K mg H as xs us → RPs K mg H as ys ws → RPs K mg H as (xs ++ ys) (us ++ ws)
  | _, _, _, _, .nil, s => s
  | _, _, _, _, .cons r t, s => .cons r (RPs.append t s)
theorem RPs.take : ∀ {xs : List PV} {us : List V} (n : Nat), RPs K mg H as xs us → RPs K mg H as (xs.take n) (us.take n)
  | _, _, 0, _ => .nil
  | _, _, _ + 1, .nil => .nil
  | _, _, n + 1, .cons r t => .cons r (RPs.take n t)
theorem RPs.drop : ∀ {xs : List PV} {us : List V} (n : Nat), RPs K mg H as xs us → RPs K mg H as (xs.drop n) (us.drop n)
  | _, _, 0, r => r
  | _, _, _ + 1, .nil => .nil
  | _, _, n + 1, .cons _ t => RPs.drop n t
theorem RPs.set {x : PV} {u : V} (r : RP K mg H as x u) : ∀ {xs : List PV} {us : List V} (i : Nat), RPs K mg H as xs us → RPs K mg H as (xs.set i x) (us.set i u)
  | _, _, _, .nil => .nil
  | _, _, 0, .cons _ t => .cons r t
  | _, _, i + 1, .cons q t => .cons q (RPs.set r i t)
theorem RPs.one {p : PV} {v : V} (h : RP K mg H as p v) : RPs K mg H as [p] [v] := .cons h .nil
theorem RPs.inv1 {p : PV} {vs : List V} (h : RPs K mg H as [p] vs) : ∃ v, vs = [v] ∧ RP K mg H as p v := by
  cases h with | cons a b => cases b; exact ⟨_, rfl, a⟩
theorem RPs.inv2 {p q : PV} {vs : List V} (h : RPs K mg H as [p, q] vs) : ∃ v w, vs = [v, w] ∧ RP K mg H as p v ∧ RP K mg H as q w := by
  cases h with | cons a b => cases b with | cons b c => cases c; exact ⟨_, _, rfl, a, b⟩
theorem RPs.reverse {xs : List PV} {us : List V} (h : RPs K mg H as xs us) : RPs K mg H as xs.reverse us.reverse := by
  induction xs generalizing us with
  | nil => cases h; exact .nil
  | cons x r ih =>
    cases h with
    | cons a b =>
      rw [List.reverse_cons, List.reverse_cons]
      exact (ih b).append (.one a)
end

/-! ### how the small heap stands -/
def RO (K : PySem.W.Frag) (mg : Str → Option Value) (H : Hp) (as : List Addr) (a : Addr) : MO → Prop
  | .lst xs => ∃ ys, H a = some (.lst ys) ∧ RPs K mg H as xs ys
  | .ins c fs => ∃ C dx gs, mg c = some (.ref C) ∧ H a = some (.ins C dx gs) ∧ gs.map (·.1) = fs.map (·.1) ∧ RPs K mg H as (fs.map (·.2)) (gs.map (·.2))
  | .dct kvs => ∃ gs, H a = some (.dT gs) ∧ gs.map (·.1) = kvs.map (fun q => q.1.map (Sum.inl : Int → Key)) ∧ RPs K mg H as (kvs.map (·.2)) (gs.map (·.2))
structure RH (K : PySem.W.Frag) (mg : Str → Option Value) (H : Hp) (as : List Addr) (h : IH) : Prop where
  len : as.length = h.length
  nd : as.Nodup
  at_ : ∀ (n : Nat) (o : MO), h[n]? = some o → ∃ a, as[n]? = some a ∧ RO K mg H as a o
structure RF (K : PySem.W.Frag) (mg : Str → Option Value) (H : Hp) (as : List Addr) (r : Fm) (s : L2.St) : Prop where
  len : r.length = s.length
  at_ : ∀ (i : Nat) (p : PV), r[i]? = some (some p) → ∃ v, s[i]? = some (some v) ∧ RP K mg H as p v
section
variable {K : PySem.W.Frag} {mg : Str → Option Value} {as as' : List Addr} {H H' : Hp} {h : IH} {r : Fm} {s : L2.St}
theorem RF.mono (S : Stp as H as' H') (f : RF K mg H as r s) : RF K mg H' as' r s := ⟨f.len, fun i p e => by
  obtain ⟨v, h1, h2⟩ := f.at_ i p e
  exact ⟨v, h1, h2.mono S⟩⟩
theorem RF.set {i : Nat} {p : PV} {v : V} (f : RF K mg H as r s) (hp : RP K mg H as p v) : RF K mg H as (r.set i (some p)) (s.set i (some v)) := by
  refine ⟨by simp [f.len], fun j q e => ?_⟩
  by_cases hj : j = i
  · subst hj
    by_cases hl : j < r.length
    · rw [List.getElem?_set_self hl] at e
      cases e
      exact ⟨v, List.getElem?_set_self (by rw [← f.len]; exact hl), hp⟩
    · rw [List.getElem?_eq_none (by simpa using hl)] at e; cases e
  · rw [List.getElem?_set_ne (Ne.symm hj)] at e
    rw [List.getElem?_set_ne (Ne.symm hj)]
    exact f.at_ j q e
theorem RO.isS {a : Addr} {o : MO} (x : RO K mg H as a o) : ∃ u, H a = some u := by
  cases o with
  | lst xs => obtain ⟨ys, e, _⟩ := x; exact ⟨_, e⟩
  | ins c fs => obtain ⟨C, dx, gs, _, e, _⟩ := x; exact ⟨_, e⟩
  | dct kvs => obtain ⟨gs, e, _⟩ := x; exact ⟨_, e⟩
theorem RH.mem (x : RH K mg H as h) {a : Addr} (ha : a ∈ as) : H a ≠ none := by
  obtain ⟨n, hn, e⟩ := List.getElem_of_mem ha
  have hn' : n < h.length := by rw [← x.len]; exact hn
  obtain ⟨b, h1, h2⟩ := x.at_ n h[n] (by simp [hn'])
  rw [List.getElem?_eq_getElem hn] at h1
  have e2 : b = a := by rw [← e]; exact (Option.some.inj h1).symm
  subst e2
  obtain ⟨u, q⟩ := h2.isS
  rw [q]; simp
theorem RO.mono {a : Addr} {o : MO} (S : Stp as H as' H') (e : H' a = H a) (x : RO K mg H as a o) : RO K mg H' as' a o := by
  cases o with
  | lst xs => obtain ⟨ys, e1, r⟩ := x; exact ⟨ys, e.trans e1, r.mono S⟩
  | ins c fs => obtain ⟨C, dx, gs, e0, e1, e2, r⟩ := x; exact ⟨C, dx, gs, e0, e.trans e1, e2, r.mono S⟩
  | dct kvs => obtain ⟨gs, e1, e2, r⟩ := x; exact ⟨gs, e.trans e1, e2, r.mono S⟩
/-- something that is no object of ours is laid -/
theorem Stp.lay {p : Addr} {o : HO} (x : RH K mg H as h) (n : H p = none) : Stp as H as (upd H p o) :=
  ⟨⟨[], by simp, by simp⟩, fun b ys e => by rw [upd_ne (ne_of_none e n)]; exact e, fun b u v e => by rw [upd_ne (ne_of_none e n)]; exact e, fun b u e _ => by rw [upd_ne (ne_of_none e n)]; exact e, fun b e z => by
    by_cases hb : b = p
    · subst hb; exact e n
    · rw [upd_ne hb] at z; exact e z⟩
theorem RH.lay {p : Addr} {o : HO} (x : RH K mg H as h) (n : H p = none) : RH K mg (upd H p o) as h :=
  ⟨x.len, x.nd, fun m q e => by
    obtain ⟨a, h1, h2⟩ := x.at_ m q e
    obtain ⟨u, hu⟩ := h2.isS
    exact ⟨a, h1, h2.mono (Stp.lay x n) (upd_ne (ne_of_none hu n))⟩⟩
/-- a new object of ours -/
theorem Stp.new {p : Addr} {o : HO} (x : RH K mg H as h) (n : H p = none) : Stp as H (as ++ [p]) (upd H p o) := by
  have q := Stp.lay (o := o) x n
  exact ⟨⟨[p], rfl, fun b hb => by rw [List.mem_singleton.mp hb]; exact n⟩, q.tup, q.frz, q.oth, q.liv⟩
theorem RH.new {p : Addr} {o : HO} {m : MO} (x : RH K mg H as h) (n : H p = none) (hm : RO K mg (upd H p o) (as ++ [p]) p m) : RH K mg (upd H p o) (as ++ [p]) (h ++ [m]) := by
  refine ⟨by simp [x.len], ?_, fun k q e => ?_⟩
  · rw [List.nodup_append]
    refine ⟨x.nd, by simp, fun a ha b hb => ?_⟩
    rw [List.mem_singleton.mp hb]
    exact fun z => x.mem ha (by rw [z]; exact n)
  · by_cases hk : k < h.length
    · rw [List.getElem?_append_left hk] at e
      obtain ⟨a, h1, h2⟩ := x.at_ k q e
      obtain ⟨u, hu⟩ := h2.isS
      exact ⟨a, (Stp.new (o := o) x n).get h1, h2.mono (Stp.new x n) (upd_ne (ne_of_none hu n))⟩
    · rw [List.getElem?_append_right (by omega)] at e
      have e0 : k - h.length = 0 := by
        cases z : k - h.length with
        | zero => rfl
        | succ y => rw [z] at e; simp at e
      rw [e0] at e
      cases e
      refine ⟨p, ?_, hm⟩
      rw [List.getElem?_append_right (by rw [x.len]; omega), x.len, e0]
      rfl
/-- an object of ours is changed -/
def isMut : HO → Bool
  | .lst _ => true
  | .ins _ _ _ => true
  | .dT _ => true
  | _ => false
theorem RO.isM {a : Addr} {o : MO} (x : RO K mg H as a o) : ∃ u, H a = some u ∧ isMut u = true := by
  cases o with
  | lst xs => obtain ⟨ys, e, _⟩ := x; exact ⟨_, e, rfl⟩
  | ins c fs => obtain ⟨C, dx, gs, _, e, _⟩ := x; exact ⟨_, e, rfl⟩
  | dct kvs => obtain ⟨gs, e, _⟩ := x; exact ⟨_, e, rfl⟩
theorem Stp.put {n : Nat} {a : Addr} {o : HO} {q : MO} (x : RH K mg H as h) (ha : as[n]? = some a) (hq : h[n]? = some q) : Stp as H as (upd H a o) := by
  obtain ⟨b, h1, h2⟩ := x.at_ n q hq
  rw [ha] at h1; cases h1
  obtain ⟨u, hu, hm⟩ := h2.isM
  refine ⟨⟨[], by simp, by simp⟩, fun b ys e => ?_, fun b v w e => ?_, fun b v e hb => ?_, fun b e z => ?_⟩
  · rw [upd_ne (fun z => by rw [z, hu] at e; cases e; cases hm)]; exact e
  · rw [upd_ne (fun z => by rw [z, hu] at e; cases e; cases hm)]; exact e
  · rw [upd_ne (fun z => hb (by rw [z]; exact List.mem_of_getElem? ha))]; exact e
  · by_cases hb : b = a
    · subst hb; rw [upd_same] at z; cases z
    · rw [upd_ne hb] at z; exact e z
theorem RH.put {n : Nat} {a : Addr} {o : HO} {q m : MO} (x : RH K mg H as h) (ha : as[n]? = some a) (hq : h[n]? = some q) (hm : RO K mg (upd H a o) as a m) : RH K mg (upd H a o) as (h.set n m) := by
  refine ⟨by simp [x.len], x.nd, fun k p e => ?_⟩
  by_cases hk : k = n
  · subst hk
    have hl : k < h.length := (List.getElem?_eq_some_iff.mp hq).1
    rw [List.getElem?_set_self hl] at e
    cases e
    exact ⟨a, ha, hm⟩
  · rw [List.getElem?_set_ne (Ne.symm hk)] at e
    obtain ⟨b, h1, h2⟩ := x.at_ k p e
    have hne : b ≠ a := fun z => by
      subst z
      obtain ⟨l1, e1⟩ := List.getElem?_eq_some_iff.mp h1
      obtain ⟨l2, e2⟩ := List.getElem?_eq_some_iff.mp ha
      exact hk ((List.getElem_inj x.nd).mp (e1.trans e2.symm))
    exact ⟨b, h1, h2.mono (Stp.put x ha hq) (upd_ne hne)⟩
end
end WR

/-! the readings that the functional code gives, and the rules: statements, loops, names, calls -/
namespace WR
open PySem PySem.Spec PyProof.Rows L2

/-- how an exception stands -/
def RX (K : PySem.W.Frag) (mg : Str → Option Value) (H : Hp) (as : List Addr) (x : XV) (cls : Value) (d : Option Addr) : Prop :=
  ∃ C, mg x.cls = some (.ref C) ∧ cls = .ref C ∧ (x.fs = [] ∨ ∃ dd gs, d = some dd ∧ H dd = some (.xd gs) ∧ dd ∉ as ∧ gs.map (·.1) = x.fs.map (·.1) ∧ RPs K mg H as (x.fs.map (·.2)) (gs.map (·.2)))
def Out {α β : Type} (K : PySem.W.Frag) (mg : Str → Option Value) (R : Hp → List Addr → α → β → Prop) (W : WX) (s : L2.St) (as : List Addr) (H : Hp) (Q : β → Hp → Prop) : Res α → Prop
  | .ok a h' => ∀ b H' as', Stp as H as' H' → RH K mg H' as' h' → R H' as' a b → Q b H'
  | .ex x h' => ∀ cls d H' as', Stp as H as' H' → RH K mg H' as' h' → RX K mg H' as' x cls d → W cls d s H'
  | .bad => False
section
variable {α β γ δ : Type} {K : PySem.W.Frag} {mg : Str → Option Value} {R : Hp → List Addr → α → β → Prop} {R' : Hp → List Addr → γ → δ → Prop} {W : WX} {s : L2.St} {as as' : List Addr} {H H' : Hp} {Q Q' : β → Hp → Prop}
theorem Out.shift {r : Res α} (S : Stp as H as' H') (o : Out K mg R W s as H Q r) : Out K mg R W s as' H' Q r := by
  cases r with
  | ok a h => exact fun b H1 as1 S1 R1 r1 => o b H1 as1 (S.trans S1) R1 r1
  | ex x h => exact fun c d H1 as1 S1 R1 r1 => o c d H1 as1 (S.trans S1) R1 r1
  | bad => exact o
theorem Out.imp {r : Res α} (o : Out K mg R W s as H Q r) (h : ∀ b H', Q b H' → Q' b H') : Out K mg R W s as H Q' r := by
  cases r with
  | ok a h' => exact fun b H1 as1 S1 R1 r1 => h _ _ (o b H1 as1 S1 R1 r1)
  | ex x h' => exact o
  | bad => exact o
theorem Out.bind {Q : δ → Hp → Prop} {r : Res α} {f : α → IH → Res γ} (o : Out K mg R' W s as H Q (r.bind f)) :
    Out K mg R W s as H (fun b H1 => ∃ as1 h1 a, Stp as H as1 H1 ∧ RH K mg H1 as1 h1 ∧ R H1 as1 a b ∧ Out K mg R' W s as1 H1 Q (f a h1)) r := by
  cases r with
  | ok a h => exact fun b H1 as1 S1 R1 r1 => ⟨as1, h, a, S1, R1, r1, o.shift S1⟩
  | ex x h => exact o
  | bad => exact o
theorem Out.here {a : α} {b : β} {h : IH} (o : Out K mg R W s as H Q (.ok a h)) (x : RH K mg H as h) (r : R H as a b) : Q b H := o b H as (Stp.refl as H) x r
end
/-- the reading of an expression, a test, a list of arguments, an iterator: by its functional code -/
def IG {α β : Type} (K : PySem.W.Frag) (mg : Str → Option Value) (R : Hp → List Addr → α → β → Prop) (W : WX) (A : Fm → IH → Res α) : L2.St → Hp → (β → Hp → Prop) → Prop :=
  fun s H Q => ∃ as r h, RF K mg H as r s ∧ RH K mg H as h ∧ Out K mg R W s as H Q (A r h)
abbrev IE (K : PySem.W.Frag) (mg : Str → Option Value) (W : WX) (A : EX) : TE := IG K mg (fun H as p v => RP K mg H as p v) W A
abbrev IT (K : PySem.W.Frag) (mg : Str → Option Value) (W : WX) (A : TX) : TT := IG K mg (fun _ _ p v => p = v) W A
abbrev IA (K : PySem.W.Frag) (mg : Str → Option Value) (W : WX) (A : AX) : TA := IG K mg (fun H as p v => RPs K mg H as p v) W A
def OutS (K : PySem.W.Frag) (mg : Str → Option Value) (W : WX) (as : List Addr) (H : Hp) (D : Ends) : RS → Prop
  | .nx r h => ∀ s' H' as', Stp as H as' H' → RH K mg H' as' h → RF K mg H' as' r s' → D.nx s' H'
  | .rt v h => ∀ V H' as', Stp as H as' H' → RH K mg H' as' h → RP K mg H' as' v V → D.rt V H'
  | .bk r h => ∀ s' H' as', Stp as H as' H' → RH K mg H' as' h → RF K mg H' as' r s' → D.bk s' H'
  | .ct r h => ∀ s' H' as', Stp as H as' H' → RH K mg H' as' h → RF K mg H' as' r s' → D.ct s' H'
  | .ex x r h => ∀ cls d s' H' as', Stp as H as' H' → RH K mg H' as' h → RF K mg H' as' r s' → RX K mg H' as' x cls d → W cls d s' H'
  | .bad => False
def IS (K : PySem.W.Frag) (mg : Str → Option Value) (W : WX) (B : SX) : TS := fun D s H => ∃ as r h, RF K mg H as r s ∧ RH K mg H as h ∧ OutS K mg W as H D (B r h)
section
variable {K : PySem.W.Frag} {mg : Str → Option Value} {W : WX} {as as' : List Addr} {H H' : Hp} {D D' : Ends}
theorem OutS.shift {r : RS} (S : Stp as H as' H') (o : OutS K mg W as H D r) : OutS K mg W as' H' D r := by
  cases r with
  | nx r h => exact fun b H1 as1 S1 => o b H1 as1 (S.trans S1)
  | rt r h => exact fun b H1 as1 S1 => o b H1 as1 (S.trans S1)
  | bk r h => exact fun b H1 as1 S1 => o b H1 as1 (S.trans S1)
  | ct r h => exact fun b H1 as1 S1 => o b H1 as1 (S.trans S1)
  | ex x r h => exact fun c d s H1 as1 S1 => o c d s H1 as1 (S.trans S1)
  | bad => exact o
end
/-! ### the code -/
@[simp] def eVar (i : Nat) : EX := fun r h => match r[i]? with
  | some (some v) => .ok v h
  | _ => .bad
@[simp] def eC (v : PV) : EX := fun _ h => .ok v h
@[simp] def aNil : AX := fun _ h => .ok [] h
@[simp] def aCons (A : EX) (B : AX) : AX := fun r h => (A r h).bind fun x h1 => (B r h1).bind fun xs h2 => .ok (x :: xs) h2
@[simp] def sNil : SX := fun r h => .nx r h
@[simp] def sSeq (B C : SX) : SX := fun r h => match B r h with
  | .nx r1 h1 => C r1 h1
  | o => o
/-- an expression's end as a statement's -/
@[simp] def toS {α : Type} (o : Res α) (r : Fm) (k : α → IH → RS) : RS := match o with
  | .ok a h => k a h
  | .ex x h => .ex x r h
  | .bad => .bad
@[simp] def sSet (i : Nat) (A : EX) : SX := fun r h => toS (A r h) r fun v h1 => .nx (r.set i (some v)) h1
@[simp] def sPar (i j : Nat) (A : AX) : SX := fun r h => toS (A r h) r fun vs h1 => match vs with
  | [v, w] => .nx ((r.set i (some v)).set j (some w)) h1
  | _ => .bad
@[simp] def sExpr (A : EX) : SX := fun r h => toS (A r h) r fun _ h1 => .nx r h1
@[simp] def sRet (A : EX) : SX := fun r h => toS (A r h) r fun v h1 => .rt v h1
@[simp] def sIf (c : TX) (B C : SX) : SX := fun r h => toS (c r h) r fun b h1 => if b then B r h1 else C r h1
@[simp] def sBad : SX := fun _ _ => .bad
@[simp] def sBreak : SX := fun r h => .bk r h
/-- a function: its body over the arguments and n empty places -/
@[simp] def fn (ps n : Nat) (B : SX) : List PV → IH → Res PV := fun us h => if us.length = ps then (match B (us.map some ++ List.replicate n none) h with
  | .nx _ h1 => .ok .non h1
  | .rt v h1 => .ok v h1
  | .ex x _ h1 => .ex x h1
  | _ => .bad) else .bad
@[simp] def eCall (F : List PV → IH → Res PV) (A : AX) : EX := fun r h => (A r h).bind F
def whileL (c : TX) (B : SX) : Nat → SX
  | 0 => fun _ _ => .bad
  | n + 1 => fun r h => toS (c r h) r fun b h1 => if b then (match B r h1 with
    | .nx r2 h2 => whileL c B n r2 h2
    | .ct r2 h2 => whileL c B n r2 h2
    | .bk r2 h2 => .nx r2 h2
    | o => o) else .nx r h1
/-- what a loop walks: at turn i it yields, it stops, or we do not know -/
abbrev ItF := Nat → IH → Option (Option PV)
abbrev TgF := PV → Fm → Option Fm
def forL (it : ItF) (g : TgF) (B : SX) : Nat → Nat → SX
  | 0, _ => fun _ _ => .bad
  | n + 1, i => fun r h => match it i h with
    | none => .bad
    | some none => .nx r h
    | some (some v) => (match g v r with
      | none => .bad
      | some r1 => (match B r1 h with
        | .nx r2 h2 => forL it g B n (i + 1) r2 h2
        | .ct r2 h2 => forL it g B n (i + 1) r2 h2
        | .bk r2 h2 => .nx r2 h2
        | o => o))
def LIM : Nat := 1048576
def sWhile (c : TX) (B : SX) : SX := whileL c B LIM
def sFor (I : Fm → IH → Res ItF) (g : TgF) (B : SX) : SX := fun r h => toS (I r h) r fun it h1 => forL it g B LIM 0 r h1
@[simp] def gVar (i : Nat) : TgF := fun v r => some (r.set i (some v))
@[simp] def setAll : List Nat → List PV → Fm → Option Fm
  | [], [], r => some r
  | i :: is, v :: vs, r => setAll is vs (r.set i (some v))
  | _, _, _ => none
@[simp] def gTupF (is : List Nat) : TgF := fun v r => match v with
  | .tup vs => setAll is vs r
  | _ => none
@[simp] def sAsgT (g : TgF) (A : EX) : SX := fun r h => toS (A r h) r fun v h1 => match g v r with
  | some r1 => .nx r1 h1
  | none => .bad

/-! ### the rules -/
/-- where the code runs -/
structure Ctx (X : Cx) (W : WX) (k : Nat) : Prop where
  tk : Takes X W
  po : PassesOwn (model X.prog X.w) X.A X.env X.xe
  calm : X.calm = true
  nd : X.N.Nodup
  room : Room k X.A
section
variable {X : Cx} {W : WX} {k : Nat} {e : Expr} {es : List Expr} {pos : Pos} {A : EX} {L : AX} {c : TX} {B C : SX} {st : Stmt} {sts : List Stmt}
theorem peImp {t t' : TE} (h : PE X e t) (hi : ∀ s H Q, t' s H Q → t s H Q) : PE X e t' := ⟨fun pins s σ H Q I q => h.run pins s σ H Q I (hi σ H Q q)⟩
theorem ptImp {t t' : TT} (h : PT X e t) (hi : ∀ s H Q, t' s H Q → t s H Q) : PT X e t' := ⟨fun pins s σ H Q I q => h.run pins s σ H Q I (hi σ H Q q)⟩
theorem paImp {t t' : TA} (h : PA X es t) (hi : ∀ s H Q, t' s H Q → t s H Q) : PA X es t' := ⟨fun pos pins s σ H Q I q => h.run pos pins s σ H Q I (hi σ H Q q)⟩
theorem psImp {t t' : TS} (h : PS X st t) (hi : ∀ D s H, t' D s H → t D s H) : PS X st t' := ⟨fun pins s σ H D I q => h.run pins s σ H D I (hi D σ H q)⟩
theorem pssImp {t t' : TS} (h : PSs X sts t) (hi : ∀ D s H, t' D s H → t D s H) : PSs X sts t' := ⟨fun pins s σ H D I q => h.run pins s σ H D I (hi D σ H q)⟩
theorem piImp {tg : Expr} {t t' : TI} (h : PI X tg e t) (hi : ∀ s H Q, t' s H Q → t s H Q) : PI X tg e t' := ⟨fun pins s σ H Q I q => h.run pins s σ H Q I (hi σ H Q q)⟩

theorem ie_var (i : Nat) {x : Str} (hN : X.N[i]? = some x := by rfl) (hv : Vis X.env.scope x := by first | exact Or.inl rfl | exact Or.inr (Or.inl rfl) | exact Or.inr (Or.inr rfl)) (hd : (x == ("__debug__" : Str)) = false := by decide)
    (hcd : (x == ("__classdict__" : Str)) = false := by decide) : PE X (.Name x pos) (IE X.K X.mg W (eVar i)) := by
  refine peImp (pe_var hN hv hd hcd) fun s H Q ⟨as, r, h, f, x, o⟩ => ?_
  unfold eVar at o
  split at o
  · rename_i v e1
    obtain ⟨V, e2, rv⟩ := f.at_ i v e1
    exact ⟨V, e2, o.here x rv⟩
  · exact o.elim
/-- a constant that is a plain value -/
theorem ie_const {V : V} {p : PV} (h : PE X e (tC V)) (r : ∀ H as, RP X.K X.mg H as p V) : PE X e (IE X.K X.mg W (eC p)) :=
  peImp h fun s H Q ⟨as, _, _, _, x, o⟩ => o.here x (r H as)
theorem ie_int {i j} : PE X (.Constant (.int i) j pos) (IE X.K X.mg W (eC (.int i))) := ie_const pe_int fun _ _ => .int i
theorem ie_bl {b j} : PE X (.Constant (.bool b) j pos) (IE X.K X.mg W (eC (.bl b))) := ie_const pe_bl fun _ _ => .bl b
theorem ie_non {j} : PE X (.Constant .none j pos) (IE X.K X.mg W (eC .non)) := ie_const pe_non fun _ _ => .non
theorem ie_str {x j} : PE X (.Constant (.str x) j pos) (IE X.K X.mg W (eC (.str x))) := ie_const pe_str fun _ _ => .str x
theorem ie_gint {x : Str} {i : Int} (hg : Gl X x) (hm : ∃ t, X.mg x = some (.int i t)) (hd : (x == ("__debug__" : Str)) = false := by decide) : PE X (.Name x pos) (IE X.K X.mg W (eC (.int i))) := by
  obtain ⟨t, hm⟩ := hm
  exact ie_const (pe_glob (v := .int i) hg hm ⟨t, rfl⟩ hd) fun _ _ => .int i
/-- a tuple of the top -/
theorem ie_gtup {x : Str} {a : Addr} {ys : List V} {ps : List PV} (hg : Gl X x) (hm : X.mg x = some (.ref a)) (hs : ∀ H, SqT X.K H a ys) (hp : ∀ H as, RPs X.K X.mg H as ps ys) (hd : (x == ("__debug__" : Str)) = false := by decide) : PE X (.Name x pos) (IE X.K X.mg W (eC (.tup ps))) :=
  ie_const (pe_glob (v := .ref a) hg hm rfl hd) fun H as => .tup (hs H) (hp H as)
/-- a def or class of the top as a value -/
theorem ie_glo {x : Str} {a : Addr} (hg : Gl X x) (hm : X.mg x = some (.ref a)) (hd : (x == ("__debug__" : Str)) = false := by decide) : PE X (.Name x pos) (IE X.K X.mg W (eC (.glo x))) :=
  ie_const (pe_glob (v := .ref a) hg hm rfl hd) fun H as => .glo hm rfl
/-- a built-in type as a value -/
theorem ie_ty {x : Str} {n : String} (hg : Gl X x) (hm : X.mg x = none) (hv : bootBuiltins x = some (.type n)) (hn : x ≠ "__name__" := by decide) (hd : (x == ("__debug__" : Str)) = false := by decide) : PE X (.Name x pos) (IE X.K X.mg W (eC (.ty n))) :=
  ie_const (pe_bltn (v := .ty n) hg hm hv rfl hn hd) fun _ _ => .ty n

theorem ia_nil : PA X [] (IA X.K X.mg W aNil) := paImp pa_nil fun s H Q ⟨as, _, _, _, x, o⟩ => o.here x RPs.nil
theorem ia_cons (ha : PE X e (IE X.K X.mg W A)) (hr : PA X es (IA X.K X.mg W L)) (hs : starEach (e :: es) X.env = (false, eval e X.env) :: starEach es X.env := by rfl) : PA X (e :: es) (IA X.K X.mg W (aCons A L)) := by
  refine paImp (pa_cons ha hr hs) fun s H Q ⟨as, r, h, f, x, o⟩ => ?_
  refine ⟨as, r, h, f, x, (Out.bind o).imp fun V H1 ⟨as1, h1, p, S1, x1, r1, o1⟩ => ?_⟩
  refine ⟨as1, r, h1, f.mono S1, x1, (Out.bind o1).imp fun Vs H2 ⟨as2, h2, ps, S2, x2, r2, o2⟩ => ?_⟩
  exact o2.here x2 (RPs.cons (r1.mono S2) r2)

theorem is_nil : PSs X [] (IS X.K X.mg W sNil) := pssImp pss_nil fun D s H ⟨as, r, h, f, x, o⟩ => o s H as (Stp.refl _ _) x f
theorem is_cons (h1 : PS X st (IS X.K X.mg W B)) (h2 : PSs X sts (IS X.K X.mg W C)) : PSs X (st :: sts) (IS X.K X.mg W (sSeq B C)) := by
  refine pssImp (pss_cons h1 h2) fun D s H ⟨as, r, h, f, x, o⟩ => ?_
  refine ⟨as, r, h, f, x, ?_⟩
  unfold sSeq at o
  cases q : B r h with
  | nx r1 h1 =>
    rw [q] at o
    exact fun s' H' as' S' x' f' => ⟨as', r1, h1, f', x', o.shift S'⟩
  | rt v h1 => rw [q] at o; exact o
  | bk r1 h1 => rw [q] at o; exact o
  | ct r1 h1 => rw [q] at o; exact o
  | ex z r1 h1 => rw [q] at o; exact o
  | bad => rw [q] at o; exact o
theorem is_one (h1 : PS X st (IS X.K X.mg W B)) : PSs X [st] (IS X.K X.mg W B) := pss_one h1
/-- from an expression's end to a statement's -/
theorem outS_of {α β : Type} {K : PySem.W.Frag} {mg : Str → Option Value} {R : Hp → List Addr → α → β → Prop} {s : L2.St} {as : List Addr} {H : Hp} {D : Ends} {o : Res α} {r : Fm} {kk : α → IH → RS} (f : RF K mg H as r s) (h : OutS K mg W as H D (toS o r kk)) :
    Out K mg R W s as H (fun b H1 => ∃ as1 h1 a, Stp as H as1 H1 ∧ RH K mg H1 as1 h1 ∧ R H1 as1 a b ∧ OutS K mg W as1 H1 D (kk a h1)) o := by
  cases o with
  | ok a h1 => exact fun b H1 as1 S1 R1 r1 => ⟨as1, h1, a, S1, R1, r1, OutS.shift S1 h⟩
  | ex z h1 => exact fun c d H1 as1 S1 R1 r1 => h c d s H1 as1 S1 R1 (f.mono S1) r1
  | bad => exact h
theorem is_set {i : Nat} {x : Str} {pos' : Pos} (cx : Ctx X W k) (he : PE X e (IE X.K X.mg W A)) (hi : X.N[i]? = some x := by rfl) (hx : Loc X.env.scope x := by first | exact Or.inl rfl | exact Or.inr rfl) (hs : swapsWith e (some (.Name x pos')) pos.line X.env = pure false := by rfl)
    (hf : X.fn x = true ∨ X.env.scope.names.lookup x = some .local := by first | exact .inl rfl | exact .inr rfl | assumption) : PS X (.Assign [.Name x pos'] e pos) (IS X.K X.mg W (sSet i A)) := by
  refine psImp (ps_set cx.nd hi hx he hs hf) fun D s H ⟨as, r, h, f, x, o⟩ => ?_
  refine ⟨as, r, h, f, x, (outS_of f o).imp fun V H1 ⟨as1, h1, p, S1, x1, r1, o1⟩ => ?_⟩
  exact o1 _ H1 as1 (Stp.refl _ _) x1 ((f.mono S1).set r1)
theorem is_par {i j : Nat} {x y : Str} {a b : Expr} {px py pt : Pos} {kt k2 pt2} (cx : Ctx X W k) (ha : PA X [a, b] (IA X.K X.mg W L)) (hij : i ≠ j := by decide) (hi : X.N[i]? = some x := by rfl) (hj : X.N[j]? = some y := by rfl)
    (hx : X.env.scope.names.lookup x = some .local := by rfl) (hy : X.env.scope.names.lookup y = some .local := by rfl)
    (hw : swappedStores [.Tuple [.Name x px, .Name y py] kt pt] (.Tuple [a, b] k2 pt2) X.env = pure (some [x, y]) := by rfl)
    (hs : swapsWithSole [.Tuple [.Name x px, .Name y py] kt pt] (.Tuple [a, b] k2 pt2) pos.line X.env = pure false := by rfl) :
    PS X (.Assign [.Tuple [.Name x px, .Name y py] kt pt] (.Tuple [a, b] k2 pt2) pos) (IS X.K X.mg W (sPar i j L)) := by
  refine psImp (ps_par cx.calm cx.nd hi hj hij hx hy ha hw hs) fun D s H ⟨as, r, h, f, x, o⟩ => ?_
  refine ⟨as, r, h, f, x, (outS_of f o).imp fun Vs H1 ⟨as1, h1, ps, S1, x1, r1, o1⟩ => ?_⟩
  split at o1
  · obtain ⟨v, w, e1, rv, rw'⟩ := RPs.inv2 r1
    exact ⟨v, w, e1, o1 _ H1 as1 (Stp.refl _ _) x1 (((f.mono S1).set rv).set rw')⟩
  · exact o1.elim
theorem is_expr (he : PE X e (IE X.K X.mg W A)) (hs : swapsWith e none pos.line X.env = pure false := by rfl) : PS X (.Expr e pos) (IS X.K X.mg W (sExpr A)) := by
  refine psImp (ps_expr he hs) fun D s H ⟨as, r, h, f, x, o⟩ => ?_
  refine ⟨as, r, h, f, x, (outS_of f o).imp fun V H1 ⟨as1, h1, p, S1, x1, r1, o1⟩ => ?_⟩
  exact o1 s H1 as1 (Stp.refl _ _) x1 (f.mono S1)
theorem is_ret (he : PE X e (IE X.K X.mg W A)) : PS X (.Return (some e) pos) (IS X.K X.mg W (sRet A)) := by
  refine psImp (ps_ret he) fun D s H ⟨as, r, h, f, x, o⟩ => ?_
  refine ⟨as, r, h, f, x, (outS_of f o).imp fun V H1 ⟨as1, h1, p, S1, x1, r1, o1⟩ => ?_⟩
  exact o1 V H1 as1 (Stp.refl _ _) x1 r1
theorem is_if {t : Expr} {a b : List Stmt} (hc : PT X t (IT X.K X.mg W c)) (ha : PSs X a (IS X.K X.mg W B)) (hb : PSs X b (IS X.K X.mg W C)) : PS X (.If t a b pos) (IS X.K X.mg W (sIf c B C)) := by
  refine psImp (ps_if hc ha hb) fun D s H ⟨as, r, h, f, x, o⟩ => ?_
  refine ⟨as, r, h, f, x, (outS_of f o).imp fun d H1 ⟨as1, h1, p, S1, x1, r1, o1⟩ => ?_⟩
  obtain rfl : p = d := r1
  cases p with
  | true => exact ⟨as1, r, h1, f.mono S1, x1, o1⟩
  | false => exact ⟨as1, r, h1, f.mono S1, x1, o1⟩
theorem is_bad : PS X st (IS X.K X.mg W sBad) := psImp ps_never fun D s H ⟨as, r, h, f, x, o⟩ => o
theorem is_break : PS X (.Break pos) (IS X.K X.mg W sBreak) := psImp ps_break fun D s H ⟨as, r, h, f, x, o⟩ => o s H as (Stp.refl _ _) x f

/-! ### loops -/
theorem is_while {t : Expr} {body : List Stmt} (cx : Ctx X W k) (hc : PT X t (IT X.K X.mg W c)) (hb : PSs X body (IS X.K X.mg W B)) : PS X (.While t body [] pos) (IS X.K X.mg W (sWhile c B)) := by
  refine psImp (ps_while cx.po hc hb) fun D s H ⟨as, r, h, f, x, o⟩ => ?_
  refine ⟨fun m s1 H1 => ∃ as1 r1 h1, RF X.K X.mg H1 as1 r1 s1 ∧ RH X.K X.mg H1 as1 h1 ∧ OutS X.K X.mg W as1 H1 D (whileL c B m r1 h1), ⟨LIM, as, r, h, f, x, o⟩, ?_⟩
  rintro m s1 H1 ⟨as1, r1, h1, f1, x1, o1⟩
  cases m with
  | zero => exact o1.elim
  | succ m =>
    refine ⟨as1, r1, h1, f1, x1, (outS_of f1 o1).imp fun d H2 ⟨as2, h2, p, S2, x2, e2, o2⟩ => ?_⟩
    obtain rfl : p = d := e2
    cases p with
    | false => exact o2 s1 H2 as2 (Stp.refl _ _) x2 (f1.mono S2)
    | true =>
      refine ⟨fun s3 H3 => ∃ as3 r3 h3, RF X.K X.mg H3 as3 r3 s3 ∧ RH X.K X.mg H3 as3 h3 ∧ OutS X.K X.mg W as3 H3 D (whileL c B m r3 h3), fun s3 H3 ⟨as3, r3, h3, f3, x3, o3⟩ => ⟨m, Nat.lt_succ_self m, as3, r3, h3, f3, x3, o3⟩, ?_⟩
      refine ⟨as2, r1, h2, f1.mono S2, x2, ?_⟩
      have o2' : OutS X.K X.mg W as2 H2 D (match B r1 h2 with
        | .nx r2 h2 => whileL c B m r2 h2
        | .ct r2 h2 => whileL c B m r2 h2
        | .bk r2 h2 => .nx r2 h2
        | o => o) := o2
      cases q : B r1 h2 with
      | nx r3 h3 => rw [q] at o2'; exact fun s' H' as' S' x' f' => ⟨as', r3, h3, f', x', o2'.shift S'⟩
      | ct r3 h3 => rw [q] at o2'; exact fun s' H' as' S' x' f' => ⟨as', r3, h3, f', x', o2'.shift S'⟩
      | bk r3 h3 => rw [q] at o2'; exact o2'
      | rt v h3 => rw [q] at o2'; exact o2'
      | ex z r3 h3 => rw [q] at o2'; exact o2'
      | bad => rw [q] at o2'; exact o2'
/-- the layer's walk J does what it says, from as, H on -/
def RI (K : PySem.W.Frag) (mg : Str → Option Value) (H : Hp) (as : List Addr) (it : ItF) (J : It) : Prop :=
  ∀ i as' H' h', Stp as H as' H' → RH K mg H' as' h' → match it i h' with
    | some (some v) => J.go i H' ∧ ∀ x H'', J.yld i H' x H'' → Stp as' H' as' H'' ∧ RH K mg H'' as' h' ∧ RP K mg H'' as' v x
    | some none => J.stop i H'
    | none => True
theorem RI.mono {K : PySem.W.Frag} {mg : Str → Option Value} {as as' : List Addr} {H H' : Hp} {it : ItF} {J : It} (S : Stp as H as' H') (q : RI K mg H as it J) : RI K mg H' as' it J := fun i a h z S' x => q i a h z (S.trans S') x
abbrev II (K : PySem.W.Frag) (mg : Str → Option Value) (W : WX) (A : Fm → IH → Res ItF) : TI := IG K mg (fun H as p v => RI K mg H as p v) W A
/-- a target -/
def GI (K : PySem.W.Frag) (mg : Str → Option Value) (g : TgF) : TG := fun v s H Q => ∃ as r p r1 h, RF K mg H as r s ∧ RH K mg H as h ∧ RP K mg H as p v ∧ g p r = some r1 ∧ ∀ s1, RF K mg H as r1 s1 → Q s1 H
theorem is_for {tg it : Expr} {body : List Stmt} {I : Fm → IH → Res ItF} {g : TgF} (cx : Ctx X W k) (hi : PI X tg it (II X.K X.mg W I)) (hg : PG X tg (GI X.K X.mg g)) (hb : PSs X body (IS X.K X.mg W B))
    (hs : ∀ x, foldedSetIterable it X.env x = pure x := by intro _; rfl) : PS X (.For tg it body [] pos) (IS X.K X.mg W (sFor I g B)) := by
  refine psImp (ps_for cx.po cx.calm hi hg hb hs) fun D s H ⟨as, r, h, f, x, o⟩ => ?_
  refine ⟨as, r, h, f, x, (outS_of f o).imp fun J H1 ⟨as1, h1, itf, S1, x1, ri, o1⟩ => ?_⟩
  refine ⟨fun i m s2 H2 => ∃ as2 r2 h2, RF X.K X.mg H2 as2 r2 s2 ∧ RH X.K X.mg H2 as2 h2 ∧ RI X.K X.mg H2 as2 itf J ∧ OutS X.K X.mg W as2 H2 D (forL itf g B m i r2 h2), ⟨LIM, as1, r, h1, f.mono S1, x1, ri, o1⟩, ?_⟩
  rintro i m s2 H2 ⟨as2, r2, h2, f2, x2, ri2, o2⟩
  cases m with
  | zero => exact o2.elim
  | succ m =>
    have z := ri2 i as2 H2 h2 (Stp.refl _ _) x2
    unfold forL at o2
    cases q : itf i h2 with
    | none => rw [q] at o2; exact o2.elim
    | some w =>
      rw [q] at z o2
      cases w with
      | none => exact .inl ⟨z, o2 s2 H2 as2 (Stp.refl _ _) x2 f2⟩
      | some v =>
        refine .inr ⟨z.1, fun s3 H3 => ∃ as3 r3 h3, RF X.K X.mg H3 as3 r3 s3 ∧ RH X.K X.mg H3 as3 h3 ∧ RI X.K X.mg H3 as3 itf J ∧ OutS X.K X.mg W as3 H3 D (forL itf g B m (i + 1) r3 h3),
          fun s3 H3 ⟨as3, r3, h3, f3, x3, ri3, o3⟩ => ⟨m, Nat.lt_succ_self m, as3, r3, h3, f3, x3, ri3, o3⟩, fun y H3 hy => ?_⟩
        obtain ⟨S3, x3, rv⟩ := z.2 y H3 hy
        have o2' : OutS X.K X.mg W as2 H2 D (match g v r2 with
          | none => .bad
          | some r1 => (match B r1 h2 with
            | .nx r2 h2 => forL itf g B m (i + 1) r2 h2
            | .ct r2 h2 => forL itf g B m (i + 1) r2 h2
            | .bk r2 h2 => .nx r2 h2
            | o => o)) := o2
        cases qg : g v r2 with
        | none => rw [qg] at o2'; exact o2'.elim
        | some r3 =>
          rw [qg] at o2'
          refine ⟨as2, r2, v, r3, h2, f2.mono S3, x3, rv, qg, fun s4 f4 => ⟨as2, r3, h2, f4, x3, ?_⟩⟩
          have o3 := OutS.shift S3 o2'
          cases qb : B r3 h2 with
          | nx r5 h5 => simp only [qb] at o3; exact fun s' H' as' S' x' f' => ⟨as', r5, h5, f', x', (ri2.mono S3).mono S', o3.shift S'⟩
          | ct r5 h5 => simp only [qb] at o3; exact fun s' H' as' S' x' f' => ⟨as', r5, h5, f', x', (ri2.mono S3).mono S', o3.shift S'⟩
          | bk r5 h5 => simp only [qb] at o3; exact o3
          | rt v h5 => simp only [qb] at o3; exact o3
          | ex z r5 h5 => simp only [qb] at o3; exact o3
          | bad => simp only [qb] at o3; exact o3

/-! ### targets -/
theorem pgImp {tg : Expr} {t t' : TG} (h : PG X tg t) (hi : ∀ v s H Q, t' v s H Q → t v s H Q) : PG X tg t' := ⟨fun pins s σ H v u Q I r q => h.run pins s σ H v u Q I r (hi v σ H Q q)⟩
theorem ig_name (i : Nat) {x : Str} (hN : X.N.Nodup) (hi : X.N[i]? = some x := by rfl) (hx : Loc X.env.scope x := by first | exact Or.inl rfl | exact Or.inr rfl) (hf : X.fn x = true ∨ X.env.scope.names.lookup x = some .local := by first | exact .inl rfl | exact .inr rfl | assumption) :
    PG X (.Name x pos) (GI X.K X.mg (gVar i)) := by
  refine pgImp (pg_name hN hi hx hf) fun v s H Q ⟨as, r, p, r1, h, f, x, rp, e, q⟩ => ?_
  cases e
  exact q _ (f.set rp)
/-- several names, one after the other -/
def GIs (K : PySem.W.Frag) (mg : Str → Option Value) (is : List Nat) : TGs := fun vs s H Q => ∃ as r ps r1, RF K mg H as r s ∧ RPs K mg H as ps vs ∧ setAll is ps r = some r1 ∧ ∀ s1, RF K mg H as r1 s1 → Q s1 H
theorem igs_nil : PGs X [] (GIs X.K X.mg []) := by
  refine ⟨fun pins s σ H vs us Q I r q => pgs_nil.run pins s σ H vs us Q I r ?_⟩
  obtain ⟨as, r, ps, r1, f, rp, e, q⟩ := q
  cases ps with
  | nil => cases rp; cases e; exact ⟨rfl, q _ f⟩
  | cons p ps => cases e
theorem igs_cons (i : Nat) {is : List Nat} {x : Str} (hN : X.N.Nodup) (h2 : PGs X es (GIs X.K X.mg is)) (hi : X.N[i]? = some x := by rfl) (hx : Loc X.env.scope x := by first | exact Or.inl rfl | exact Or.inr rfl) (hf : X.fn x = true ∨ X.env.scope.names.lookup x = some .local := by first | exact .inl rfl | exact .inr rfl | assumption)
    (hs : (assignEach (.Name x pos :: es) X.env).map (·.2) = assign (.Name x pos) X.env :: (assignEach es X.env).map (·.2) := by rfl) : PGs X (.Name x pos :: es) (GIs X.K X.mg (i :: is)) := by
  refine ⟨fun pins s σ H vs us Q I r q => (pgs_cons (pg_name (pos := pos) hN hi hx hf) h2 hs).run pins s σ H vs us Q I r ?_⟩
  obtain ⟨as, r, ps, r1, f, rp, e, q⟩ := q
  cases rp with
  | nil => cases e
  | cons a b => exact ⟨_, _, rfl, as, _, _, r1, f.set a, b, e, q⟩
theorem ig_tup {is : List Nat} {kk : Nat} (cx : Ctx X W k) (h : PGs X es (GIs X.K X.mg is)) (hl : is.length = es.length := by rfl) (hn : (assignEach es X.env).length = es.length := by rfl) (hst : (assignEach es X.env).findIdx? (·.1) = none := by rfl) :
    PG X (.Tuple es kk pos) (GI X.K X.mg (gTupF is)) := by
  refine pgImp (pg_tup cx.calm h hn hst) fun v s H Q ⟨as, r, p, r1, h, f, x, rp, e, q⟩ => ?_
  cases rp with
  | tup hs rs =>
    refine ⟨_, _, rfl, hs, ?_, as, r, _, r1, f, rs, e, q⟩
    rw [← rs.length, ← hl]
    have key : ∀ (is : List Nat) (ps : List PV) (r : Fm) (r1 : Fm), setAll is ps r = some r1 → ps.length = is.length := by
      intro is
      induction is with
      | nil => intro ps r r1 e; cases ps with
        | nil => rfl
        | cons _ _ => cases e
      | cons i is ih => intro ps r r1 e; cases ps with
        | nil => cases e
        | cons p ps => rw [List.length_cons, List.length_cons, ih ps _ _ e]
    exact key _ _ _ _ e
  | non => cases e
  | bl => cases e
  | int => cases e
  | str => cases e
  | fls => cases e
  | obj => cases e
  | glo => cases e
  | ty => cases e
  | key => cases e
/-- a, b = e, by a target -/
theorem is_asgT {tg : Expr} {g : TgF} (he : PE X e (IE X.K X.mg W A)) (hg : PG X tg (GI X.K X.mg g)) (hs : swapsWithSole [tg] e pos.line X.env = pure false := by rfl) (hw : swappedStores [tg] e X.env = pure none := by rfl)
    (h1 : (assignEach [tg] X.env).map (·.2) = [assign tg X.env] := by rfl) : PS X (.Assign [tg] e pos) (IS X.K X.mg W (sAsgT g A)) := by
  refine psImp (ps_asg he hg hs hw h1) fun D s H ⟨as, r, h, f, x, o⟩ => ?_
  refine ⟨as, r, h, f, x, (outS_of f o).imp fun V H1 ⟨as1, h1, p, S1, x1, r1, o1⟩ => ?_⟩
  cases qg : g p r with
  | none => simp only [qg] at o1; exact o1.elim
  | some r2 => simp only [qg] at o1; exact ⟨as1, r, p, r2, h1, f.mono S1, x1, r1, qg, fun s1 f1 => o1 s1 H1 as1 (Stp.refl _ _) x1 f1⟩

/-! ### calls of defs -/
/-- a def's promise, by its functional code -/
def SpF (K : PySem.W.Frag) (mg : Str → Option Value) (n : Nat) (F : List PV → IH → Res PV) : Sp := fun vs H Q E => ∃ as us h, us.length = n ∧ RPs K mg H as us vs ∧ RH K mg H as h ∧ Out K mg (fun H as p v => RP K mg H as p v) (fun c d _ H' => E c d H') [] as H Q (F us h)
theorem SpF.of {K : PySem.W.Frag} {mg : Str → Option Value} {n : Nat} {F : List PV → IH → Res PV} {s : L2.St} {us : List PV} {vs : List V} {as : List Addr} {H : Hp} {h : IH} {Q : VK} (x : RH K mg H as h) (rs : RPs K mg H as us vs) (hl : us.length = n)
    (o : Out K mg (fun H as p v => RP K mg H as p v) W s as H Q (F us h)) : SpF K mg n F vs H Q (WE W s) := by
  refine ⟨as, us, h, hl, rs, x, ?_⟩
  cases q : F us h with
  | ok a h1 => rw [q] at o; exact o
  | ex z h1 => rw [q] at o; exact o
  | bad => rw [q] at o; exact o
theorem ie_call {f : Addr} {fd : FuncData} {ps : List Str} {x : Str} {p : Pos} {F : List PV → IH → Res PV} {n : Nat} {j : Nat} (cx : Ctx X W k) (G : FnOk X.prog X.w X.K X.mg X.base (L2.CX X.prog X.w) j f fd ps (SpF X.K X.mg n F)) (hj : j ≤ k) (hm : X.mg x = some (.ref f)) (hk : PySem.W.keepIn X.K (.ref f) = true)
    (hb : Binds X.K fd ps []) (ha : PA X (e :: es) (IA X.K X.mg W L)) (hF : ∀ us h, us.length ≠ n → F us h = .bad) (hg : Gl X x := by rfl) (hdb : (x == ("__debug__" : Str)) = false := by decide) (he : starEach (e :: es) X.env = (false, eval e X.env) :: starEach es X.env := by rfl) (hpl : (backTo pos (starEach es X.env)).any (·.1) = false := by rfl) :
    PE X (.Call (.Name x p) (e :: es) [] pos) (IE X.K X.mg W (eCall F L)) := by
  refine peImp (pe_callS G (cx.room.mono hj) hg hm hk hb (fun s => passAt cx.tk s) ha hdb he hpl) fun s H Q ⟨as, r, h, f, x, o⟩ => ?_
  refine ⟨as, r, h, f, x, (Out.bind o).imp fun Vs H1 ⟨as1, h1, us, S1, x1, r1, o1⟩ => ?_⟩
  refine SpF.of x1 r1 ?_ o1
  by_cases hn : us.length = n
  · exact hn
  · rw [hF us h1 hn] at o1; exact o1.elim
theorem ie_call0 {f : Addr} {fd : FuncData} {ps : List Str} {x : Str} {p : Pos} {F : List PV → IH → Res PV} {j : Nat} (cx : Ctx X W k) (G : FnOk X.prog X.w X.K X.mg X.base (L2.CX X.prog X.w) j f fd ps (SpF X.K X.mg 0 F)) (hj : j ≤ k) (hm : X.mg x = some (.ref f)) (hk : PySem.W.keepIn X.K (.ref f) = true)
    (hb : Binds X.K fd ps []) (hg : Gl X x := by rfl) (hdb : (x == ("__debug__" : Str)) = false := by decide) :
    PE X (.Call (.Name x p) [] [] pos) (IE X.K X.mg W (eCall F aNil)) := by
  have base : PE X (.Call (.Name x p) [] [] pos) (tCallS (SpF X.K X.mg 0 F) (WE W) tNil) := by
    refine ⟨fun pins s σ H Q I h => ?_⟩
    refine wpAny_Call_Name_kw (ld_glob I hg hm ?_ hdb)
    exact PySem.W.callWith_K0 I.kIn hk (run_fnS (us := []) G (cx.room.mono hj) hb (passAt cx.tk σ) I .nil h)
  refine peImp base fun s H Q ⟨as, r, h, f, x, o⟩ => ?_
  exact SpF.of x RPs.nil rfl o
theorem fn_bad {ps n : Nat} {B : SX} (us : List PV) (h : IH) (hl : us.length ≠ ps) : fn ps n B us h = .bad := if_neg hl
end
/-- what a def wishes of exceptions -/
def WD (E : XK) : WX := fun c d _ H => E c d H
/-- a def by its body -/
theorem ok_of {P : Program} {w : World} {K : PySem.W.Frag} {mg : Str → Option Value} {base : Heap} {x qual : Str} {st : Stmt} {f : Addr} {fd : FuncData} {N ps : List Str} {k : Nat} {B : SX} (F : Fun K x qual st f fd) (S : FnScope N ps (defScope st)) (m : Nat) (hm : N.length = ps.length + m)
    (body : ∀ (cdv : Value) (A : Around) (outer : List Env) (s : Shared) (H : Hp) (E : XK), Ctx (cxOf (L2.CX P w) P w K mg base N qual (defScope st) f cdv A outer s H E) (WD E) k →
      PSs (cxOf (L2.CX P w) P w K mg base N qual (defScope st) f cdv A outer s H E) (defBody st) (IS K mg (WD E) B)) :
    FnOk P w K mg base (L2.CX P w) (k + 1) f fd ps (SpF K mg ps.length (fn ps.length m B)) := by
  refine F.okX S (fun vs H Q E h => ?_) (fun cdv A outer s H vs Q E hr h => ?_)
  · obtain ⟨as, us, h, hl, rs, _⟩ := h
    rw [← rs.length, hl]
  · obtain ⟨as, us, h, hl, rs, x, o⟩ := h
    refine ⟨_, body cdv A outer s H E ⟨takes_of rfl rfl rfl rfl, passes_of rfl, rfl, S.nd, hr⟩, ?_⟩
    refine ⟨as, us.map some ++ List.replicate m none, h, ⟨?_, fun i p e => ?_⟩, x, ?_⟩
    · unfold L2.start
      rw [List.length_append, List.length_append, List.length_map, List.length_map, List.length_replicate, List.length_replicate, rs.length]
      have := rs.length
      omega
    · by_cases hi : i < us.length
      · rw [List.getElem?_append_left (by simpa using hi), List.getElem?_map] at e
        cases q : us[i]? with
        | none => rw [q] at e; cases e
        | some p' =>
          rw [q] at e
          cases e
          obtain ⟨v, h1, h2⟩ := rs.get q
          refine ⟨v, ?_, h2⟩
          unfold L2.start
          rw [List.getElem?_append_left (by rw [List.length_map, ← rs.length]; exact hi), List.getElem?_map, h1]
          rfl
      · rw [List.getElem?_append_right (by simpa using hi), List.getElem?_replicate] at e
        split at e <;> cases e
    · unfold fn at o
      rw [if_pos hl] at o
      cases q : B (us.map some ++ List.replicate m none) h with
      | nx r1 h1 => rw [q] at o; exact fun s' H' as' S' x' f' => o .non H' as' S' x' .non
      | rt v h1 => rw [q] at o; exact o
      | ex z r1 h1 => rw [q] at o; exact fun c d s' H' as' S' x' f' rx => o c d H' as' S' x' rx
      | bk r1 h1 => rw [q] at o; exact (show False from o).elim
      | ct r1 h1 => rw [q] at o; exact (show False from o).elim
      | bad => rw [q] at o; exact o
end WR

/-! operators, tests, displays, subscripts, built-ins -/
namespace WR
open PySem PySem.Spec PyProof.Rows L2

/-! ### the code -/
@[simp] def eOp (p : PV → PV → IH → Res PV) (A B : EX) : EX := fun r h => (A r h).bind fun x h1 => (B r h1).bind fun y h2 => p x y h2
@[simp] def eUn (p : PV → IH → Res PV) (A : EX) : EX := fun r h => (A r h).bind p
@[simp] def eB (p : List PV → IH → Res PV) (L : AX) : EX := fun r h => (L r h).bind p
@[simp] def opt {α : Type} (o : Option α) (h : IH) : Res α := match o with
  | some a => .ok a h
  | none => .bad
@[simp] def mkL (xs : List PV) (h : IH) : Res PV := if xs.length ≤ 16777216 then .ok (.obj h.length) (h ++ [.lst xs]) else .bad
@[simp] def pAdd : PV → PV → IH → Res PV
  | .int i, .int j, h => .ok (.int (i + j)) h
  | .str a, .str b, h => if a.length + b.length ≤ 16777216 then .ok (.str (a ++ b)) h else .bad
  | .tup xs, .tup ys, h => if xs.length + ys.length ≤ 16777216 then .ok (.tup (xs ++ ys)) h else .bad
  | .obj m, .obj n, h => (match h[m]?, h[n]? with
    | some (.lst xs), some (.lst ys) => if xs.length + ys.length ≤ 16777216 then .ok (.obj h.length) (h ++ [.lst (xs ++ ys)]) else .bad
    | _, _ => .bad)
  | _, _, _ => .bad
@[simp] def pSub : PV → PV → IH → Res PV
  | .int i, .int j, h => .ok (.int (i - j)) h
  | _, _, _ => .bad
def mulOk (i j : Int) : Bool := decide (i.natAbs < 18446744073709551616) || decide (j.natAbs < 18446744073709551616) || decide (i.natAbs.log2 + j.natAbs.log2 < 1000000)
@[simp] def pMul : PV → PV → IH → Res PV
  | .int i, .int j, h => if mulOk i j then .ok (.int (i * j)) h else .bad
  | _, _, _ => .bad
@[simp] def pDiv : PV → PV → IH → Res PV
  | .int i, .int j, h => if 0 < j ∧ j.natAbs.log2 < 9000 then .ok (.int (i / j)) h else .bad
  | _, _, _ => .bad
@[simp] def pMod : PV → PV → IH → Res PV
  | .int i, .int j, h => if 0 < j then .ok (.int (i % j)) h else .bad
  | _, _, _ => .bad
@[simp] def pPow : PV → PV → IH → Res PV
  | .int i, .int j, h => if 0 ≤ j ∧ j ≤ 1000000 ∧ i.natAbs < 18446744073709551616 then .ok (.int (i ^ j.toNat)) h else .bad
  | _, _, _ => .bad
@[simp] def pNeg : PV → IH → Res PV
  | .int i, h => .ok (.int (-i)) h
  | _, _ => .bad
@[simp] def pCI (f : Int → Int → Bool) : PV → PV → IH → Res PV
  | .int i, .int j, h => .ok (.bl (f i j)) h
  | _, _, _ => .bad
abbrev pLt := pCI fun i j => decide (i < j)
abbrev pLe := pCI fun i j => decide (i ≤ j)
abbrev pGt := pCI fun i j => decide (j < i)
abbrev pGe := pCI fun i j => decide (j ≤ i)
@[simp] def isN : PV → Bool
  | .non => true
  | _ => false
@[simp] def pIsN : PV → PV → IH → Res PV
  | x, .non, h => (match x with
    | .glo _ => .bad
    | _ => .ok (.bl (isN x)) h)
  | _, _, _ => .bad
@[simp] def pNotN : PV → PV → IH → Res PV
  | x, .non, h => (match x with
    | .glo _ => .bad
    | _ => .ok (.bl (!isN x)) h)
  | _, _, _ => .bad
/-- data as the library has it -/
def optAll {α β : Type} (f : α → Option β) : List α → Option (List β)
  | [] => some []
  | x :: xs => (match f x, optAll f xs with
    | some y, some ys => some (y :: ys)
    | _, _ => none)
def dataOf : Nat → IH → PV → Option PyData
  | _, _, .non => some .none
  | _, _, .bl b => some (.bool b)
  | _, _, .int i => some (.int i)
  | _, _, .str x => some (.str x)
  | n + 1, h, .tup xs => (optAll (dataOf n h) xs).map .tuple
  | n + 1, h, .fls xs => (optAll (dataOf n h) xs).map .list
  | n + 1, h, .obj k => (match h[k]? with
    | some (.lst xs) => (optAll (dataOf n h) xs).map .list
    | _ => none)
  | _, _, _ => none
def DEP : Nat := 12
def pEqB (x y : PV) (h : IH) : Option Bool := match dataOf DEP h x, dataOf DEP h y with
  | some d, some e => if SeqAt.shaped d && SeqAt.shaped e then some (PyData.eqv d e) else none
  | _, _ => none
@[simp] def pEq (x y : PV) (h : IH) : Res PV := opt ((pEqB x y h).map .bl) h
@[simp] def pNe (x y : PV) (h : IH) : Res PV := opt ((pEqB x y h).map fun b => .bl (!b)) h
@[simp] def pIdx : PV → PV → IH → Res PV
  | .tup xs, .int i, h => opt (atI xs i) h
  | .fls xs, .int i, h => opt (atI xs i) h
  | .str z, .int i, h => if z.length ≤ 16777216 then opt ((atI z.cps.toList i).map fun c => .str ⟨#[c]⟩) h else .bad
  | .obj n, .int i, h => (match h[n]? with
    | some (.lst xs) => opt (atI xs i) h
    | _ => .bad)
  | _, _, _ => .bad
def cutA {α : Type} (xs : List α) (lo hi : Option Int) : List α := (xs.drop (HT.sIx xs.length 0 lo)).take (HT.sIx xs.length xs.length hi - HT.sIx xs.length 0 lo)
abbrev OX := Fm → IH → Res (Option Int)
@[simp] def oNone : OX := fun _ h => .ok none h
@[simp] def oSome (A : EX) : OX := fun r h => (A r h).bind fun v h1 => match v with
  | .int i => .ok (some i) h1
  | _ => .bad
@[simp] def pSl : PV → Option Int → Option Int → IH → Res PV
  | .tup xs, lo, hi, h => .ok (.tup (cutA xs lo hi)) h
  | .obj n, lo, hi, h => (match h[n]? with
    | some (.lst xs) => .ok (.obj h.length) (h ++ [.lst (cutA xs lo hi)])
    | _ => .bad)
  | _, _, _, _ => .bad
@[simp] def eSl (A : EX) (l u : OX) : EX := fun r h => (A r h).bind fun x h1 => (l r h1).bind fun lo h2 => (u r h2).bind fun hi h3 => pSl x lo hi h3
@[simp] def eTup (L : AX) : EX := fun r h => (L r h).bind fun xs h1 => if xs.length ≤ 16777216 then .ok (.tup xs) h1 else .bad
@[simp] def eLst (L : AX) : EX := fun r h => (L r h).bind mkL
@[simp] def pTru : PV → IH → Option Bool
  | .non, _ => some false
  | .bl b, _ => some b
  | .int i, _ => some (i != 0)
  | .str y, _ => if y.length ≤ 16777216 then some ((y.length : Int) != 0) else none
  | .tup xs, _ => some !xs.isEmpty
  | .fls xs, _ => some !xs.isEmpty
  | .obj n, h => (match h[n]? with
    | some (.lst xs) => some !xs.isEmpty
    | _ => none)
  | _, _ => none
@[simp] def tTru (A : EX) : TX := fun r h => (A r h).bind fun v h1 => opt (pTru v h1) h1
@[simp] def tBl (A : EX) : TX := fun r h => (A r h).bind fun v h1 => match v with
  | .bl b => .ok b h1
  | _ => .bad
@[simp] def tAndX (c d : TX) : TX := fun r h => (c r h).bind fun b h1 => if b then d r h1 else .ok false h1
@[simp] def tOrX (c d : TX) : TX := fun r h => (c r h).bind fun b h1 => if b then .ok true h1 else d r h1
@[simp] def tNotX (c : TX) : TX := fun r h => (c r h).bind fun b h1 => .ok (!b) h1
@[simp] def eAnd (A B : EX) : EX := fun r h => (A r h).bind fun v h1 => match v with
  | .bl b => if b then B r h1 else .ok (.bl false) h1
  | _ => .bad
@[simp] def eOr (A B : EX) : EX := fun r h => (A r h).bind fun v h1 => match v with
  | .bl b => if b then .ok (.bl true) h1 else B r h1
  | _ => .bad
@[simp] def eNot (A : EX) : EX := fun r h => (A r h).bind fun v h1 => opt ((pTru v h1).map fun b => .bl (!b)) h1
@[simp] def eIf (c : TX) (A B : EX) : EX := fun r h => (c r h).bind fun b h1 => if b then A r h1 else B r h1
@[simp] def eChain (p q : PV → PV → IH → Res PV) (A B C : EX) : EX := fun r h => (A r h).bind fun x h1 => (B r h1).bind fun y h2 => (p x y h2).bind fun v h3 => match v with
  | .bl b => if b then (C r h3).bind fun z h4 => q y z h4 else .ok (.bl false) h3
  | _ => .bad

/-! ### what each asks of the layer -/
section
variable {X : Cx} {W : WX} {k : Nat} {a b e : Expr} {es : List Expr} {pos : Pos} {A B C : EX} {L : AX} {c d : TX}
def Snd (K : PySem.W.Frag) (mg : Str → Option Value) (p : PV → PV → IH → Res PV) (r : R2) : Prop :=
  ∀ {W : WX} {s : L2.St} {as : List Addr} {H : Hp} {h : IH} {x y : PV} {U V : V} {Q : VK}, RH K mg H as h → RP K mg H as x U → RP K mg H as y V → Out K mg (fun H as p v => RP K mg H as p v) W s as H Q (p x y h) → r U V H Q
def SndC (K : PySem.W.Frag) (mg : Str → Option Value) (p : List PV → IH → Res PV) (r : List V → Hp → VK → Prop) : Prop :=
  ∀ {W : WX} {s : L2.St} {as : List Addr} {H : Hp} {h : IH} {xs : List PV} {Us : List V} {Q : VK}, RH K mg H as h → RPs K mg H as xs Us → Out K mg (fun H as p v => RP K mg H as p v) W s as H Q (p xs h) → r Us H Q
theorem tOp_of {p : PV → PV → IH → Res PV} {r : R2} {ta tb : TE} (hp : Snd X.K X.mg p r) {s : L2.St} {H : Hp} {Q : VK} (h : IE X.K X.mg W (eOp p A B) s H Q) : tOp r (IE X.K X.mg W A) (IE X.K X.mg W B) s H Q := by
  obtain ⟨as, ρ, hh, f, x, o⟩ := h
  refine ⟨as, ρ, hh, f, x, (Out.bind o).imp fun V H1 ⟨as1, h1, p1, S1, x1, r1, o1⟩ => ?_⟩
  refine ⟨as1, ρ, h1, f.mono S1, x1, (Out.bind o1).imp fun U H2 ⟨as2, h2, p2, S2, x2, r2, o2⟩ => ?_⟩
  exact hp x2 (r1.mono S2) r2 o2
theorem ie_op {op : Operator} {p : PV → PV → IH → Res PV} {r : R2} (ho : OpR X (binaryOp op) r) (hp : Snd X.K X.mg p r) (ha : PE X a (IE X.K X.mg W A)) (hb : PE X b (IE X.K X.mg W B)) : PE X (.BinOp a op b pos) (IE X.K X.mg W (eOp p A B)) :=
  peImp (pe_op ho ha hb) fun _ _ _ h => tOp_of (ta := IE X.K X.mg W A) (tb := IE X.K X.mg W B) hp h
theorem ie_cmp {op : CmpOp} {p : PV → PV → IH → Res PV} {r : R2} (ho : OpR X (compareOp op) r) (hp : Snd X.K X.mg p r) (ha : PE X a (IE X.K X.mg W A)) (hb : PE X b (IE X.K X.mg W B)) (hm : behindInMarks op b = false) : PE X (.Compare a [op] [b] pos) (IE X.K X.mg W (eOp p A B)) :=
  peImp (pe_cmpR ho ha hb hm) fun _ _ _ h => tOp_of (ta := IE X.K X.mg W A) (tb := IE X.K X.mg W B) hp h
theorem tTest_of {t : TE} {s : L2.St} {H : Hp} {Q : Bool → Hp → Prop} (ht : ∀ Q', IE X.K X.mg W A s H Q' → t s H Q') (h : IT X.K X.mg W (tBl A) s H Q) : tTest t s H Q := by
  obtain ⟨as, ρ, hh, f, x, o⟩ := h
  refine ht _ ⟨as, ρ, hh, f, x, (Out.bind o).imp fun V H1 ⟨as1, h1, p1, S1, x1, r1, o1⟩ => ?_⟩
  cases r1 with
  | bl q => exact ⟨q, rfl, o1.here x1 rfl⟩
  | non => exact o1.elim
  | int => exact o1.elim
  | str => exact o1.elim
  | tup => exact o1.elim
  | fls => exact o1.elim
  | obj => exact o1.elim
  | glo => exact o1.elim
  | ty => exact o1.elim
  | key => exact o1.elim
theorem it_cmp {op : CmpOp} {p : PV → PV → IH → Res PV} {r : R2} (ho : OpR X (compareOp op) r) (hp : Snd X.K X.mg p r) (ha : PE X a (IE X.K X.mg W A)) (hb : PE X b (IE X.K X.mg W B)) (hm : behindInMarks op b = false) : PT X (.Compare a [op] [b] pos) (IT X.K X.mg W (tBl (eOp p A B))) :=
  ptImp (pt_cmpR ho ha hb hm) fun _ _ _ h => tTest_of (fun Q' h => tOp_of (ta := IE X.K X.mg W A) (tb := IE X.K X.mg W B) hp h) h
theorem tru_of {v : PV} {V : V} {as : List Addr} {H : Hp} {h : IH} {q : Bool} (x : RH X.K X.mg H as h) (r : RP X.K X.mg H as v V) (e : pTru v h = some q) : TruV X.K V H q := by
  cases r with
  | non => cases e; rfl
  | bl b => cases e; rfl
  | int i => cases e; rfl
  | str y =>
    simp only [pTru] at e
    split at e
    · rename_i hl
      cases e
      exact ⟨by rw [sizeLine_eq]; exact hl, rfl⟩
    · cases e
  | tup hs rs =>
    cases e
    refine .inr (.inl ⟨_, hs, ?_⟩)
    cases rs <;> rfl
  | fls hs rs =>
    cases e
    refine .inl ⟨_, hs.sq, ?_⟩
    cases rs <;> rfl
  | obj ha =>
    simp only [pTru] at e
    split at e
    · rename_i xs hx
      obtain ⟨a, h1, ys, h2, rs⟩ := x.at_ _ _ hx
      rw [ha] at h1; cases h1
      cases e
      refine .inl ⟨_, SqL.of h2, ?_⟩
      cases rs <;> rfl
    · cases e
  | glo => cases e
  | ty => cases e
  | key => cases e
theorem it_tru (ha : PE X a (IE X.K X.mg W A)) (he : ∀ whole, isTrue a X.env whole = (do let v ← whole; standAt a.pos; holding [v] (truthy v)) := by intro _; rfl) : PT X a (IT X.K X.mg W (tTru A)) := by
  refine ptImp (pt_truth ha he) fun s H Q ⟨as, ρ, hh, f, x, o⟩ => ?_
  refine ⟨as, ρ, hh, f, x, (Out.bind o).imp fun V H1 ⟨as1, h1, p1, S1, x1, r1, o1⟩ => ?_⟩
  cases q : pTru p1 h1 with
  | none => rw [q] at o1; exact o1.elim
  | some z => rw [q] at o1; exact ⟨z, tru_of x1 r1 q, o1.here x1 rfl⟩
theorem it_not (ha : PT X a (IT X.K X.mg W c)) : PT X (.UnaryOp .Not a pos) (IT X.K X.mg W (tNotX c)) := by
  refine ptImp (pt_not ha) fun s H Q ⟨as, ρ, hh, f, x, o⟩ => ?_
  refine ⟨as, ρ, hh, f, x, (Out.bind o).imp fun V H1 ⟨as1, h1, p1, S1, x1, r1, o1⟩ => ?_⟩
  obtain rfl : p1 = V := r1
  exact o1.here x1 rfl
/-- and, or as tests: lists of at least two -/
theorem iw_and1 (ha : PT X a (IT X.K X.mg W c)) : PW X (.BoolOp .And [a] pos) (IT X.K X.mg W c) := pw_and1 ha
theorem iw_or1 (ha : PT X a (IT X.K X.mg W c)) : PW X (.BoolOp .Or [a] pos) (IT X.K X.mg W c) := pw_or1 ha
theorem pwImp {t t' : TT} (h : PW X e t) (hi : ∀ s H Q, t' s H Q → t s H Q) : PW X e t' := ⟨fun wh pins s σ H Q I q => h.run wh pins s σ H Q I (hi σ H Q q)⟩
theorem iw_and {rest : List Expr} (ha : PT X a (IT X.K X.mg W c)) (hb : PW X (.BoolOp .And (b :: rest) pos) (IT X.K X.mg W d)) : PW X (.BoolOp .And (a :: b :: rest) pos) (IT X.K X.mg W (tAndX c d)) := by
  refine pwImp (pw_and ha hb) fun s H Q ⟨as, ρ, hh, f, x, o⟩ => ?_
  refine ⟨as, ρ, hh, f, x, (Out.bind o).imp fun V H1 ⟨as1, h1, p1, S1, x1, r1, o1⟩ => ?_⟩
  obtain rfl : p1 = V := r1
  cases p1 with
  | true => exact ⟨as1, ρ, h1, f.mono S1, x1, o1⟩
  | false => exact o1.here x1 rfl
theorem iw_or {rest : List Expr} (ha : PT X a (IT X.K X.mg W c)) (hb : PW X (.BoolOp .Or (b :: rest) pos) (IT X.K X.mg W d)) : PW X (.BoolOp .Or (a :: b :: rest) pos) (IT X.K X.mg W (tOrX c d)) := by
  refine pwImp (pw_or ha hb) fun s H Q ⟨as, ρ, hh, f, x, o⟩ => ?_
  refine ⟨as, ρ, hh, f, x, (Out.bind o).imp fun V H1 ⟨as1, h1, p1, S1, x1, r1, o1⟩ => ?_⟩
  obtain rfl : p1 = V := r1
  cases p1 with
  | false => exact ⟨as1, ρ, h1, f.mono S1, x1, o1⟩
  | true => exact o1.here x1 rfl
theorem ie_one {op} (h : PE X a (IE X.K X.mg W A)) : PE X (.BoolOp op [a] pos) (IE X.K X.mg W A) := pe_one h
theorem ie_and {rest : List Expr} (ha : PE X a (IE X.K X.mg W A)) (hb : PE X (.BoolOp .And (b :: rest) pos) (IE X.K X.mg W B)) : PE X (.BoolOp .And (a :: b :: rest) pos) (IE X.K X.mg W (eAnd A B)) := by
  refine peImp (pe_and ha hb) fun s H Q ⟨as, ρ, hh, f, x, o⟩ => ?_
  refine ⟨as, ρ, hh, f, x, (Out.bind o).imp fun V H1 ⟨as1, h1, p1, S1, x1, r1, o1⟩ => ?_⟩
  cases r1 with
  | bl q =>
    refine ⟨q, rfl, ?_⟩
    cases q with
    | true => exact ⟨as1, ρ, h1, f.mono S1, x1, o1⟩
    | false => exact o1.here x1 (.bl false)
  | non => exact o1.elim
  | int => exact o1.elim
  | str => exact o1.elim
  | tup => exact o1.elim
  | fls => exact o1.elim
  | obj => exact o1.elim
  | glo => exact o1.elim
  | ty => exact o1.elim
  | key => exact o1.elim
theorem ie_or {rest : List Expr} (ha : PE X a (IE X.K X.mg W A)) (hb : PE X (.BoolOp .Or (b :: rest) pos) (IE X.K X.mg W B)) : PE X (.BoolOp .Or (a :: b :: rest) pos) (IE X.K X.mg W (eOr A B)) := by
  refine peImp (pe_or ha hb) fun s H Q ⟨as, ρ, hh, f, x, o⟩ => ?_
  refine ⟨as, ρ, hh, f, x, (Out.bind o).imp fun V H1 ⟨as1, h1, p1, S1, x1, r1, o1⟩ => ?_⟩
  cases r1 with
  | bl q =>
    refine ⟨q, rfl, ?_⟩
    cases q with
    | false => exact ⟨as1, ρ, h1, f.mono S1, x1, o1⟩
    | true => exact o1.here x1 (.bl true)
  | non => exact o1.elim
  | int => exact o1.elim
  | str => exact o1.elim
  | tup => exact o1.elim
  | fls => exact o1.elim
  | obj => exact o1.elim
  | glo => exact o1.elim
  | ty => exact o1.elim
  | key => exact o1.elim
theorem ie_not (ha : PE X a (IE X.K X.mg W A)) : PE X (.UnaryOp .Not a pos) (IE X.K X.mg W (eNot A)) := by
  refine peImp (pe_notT ha) fun s H Q ⟨as, ρ, hh, f, x, o⟩ => ?_
  refine ⟨as, ρ, hh, f, x, (Out.bind o).imp fun V H1 ⟨as1, h1, p1, S1, x1, r1, o1⟩ => ?_⟩
  cases q : pTru p1 h1 with
  | none => rw [q] at o1; exact o1.elim
  | some z => rw [q] at o1; exact ⟨z, tru_of x1 r1 q, o1.here x1 (.bl _)⟩
theorem ie_if (hc : PT X e (IT X.K X.mg W c)) (ha : PE X a (IE X.K X.mg W A)) (hb : PE X b (IE X.K X.mg W B)) : PE X (.IfExp e a b pos) (IE X.K X.mg W (eIf c A B)) := by
  refine peImp (pe_ifExp hc ha hb) fun s H Q ⟨as, ρ, hh, f, x, o⟩ => ?_
  refine ⟨as, ρ, hh, f, x, (Out.bind o).imp fun V H1 ⟨as1, h1, p1, S1, x1, r1, o1⟩ => ?_⟩
  obtain rfl : p1 = V := r1
  cases p1 with
  | true => exact ⟨as1, ρ, h1, f.mono S1, x1, o1⟩
  | false => exact ⟨as1, ρ, h1, f.mono S1, x1, o1⟩
/-! ### the numbers -/
theorem snd_add {K : PySem.W.Frag} {mg : Str → Option Value} : Snd K mg pAdd (fun x y H Q => (rI0 fun i j => .int (i + j)) x y H Q ∨ (∃ i j, x = .str i ∧ y = .str j ∧ i.length + j.length ≤ sizeLine ∧ Q (.str (i ++ j)) H) ∨ rCatA K x y H Q ∨ rCat x y H Q) := by
  intro W s as H h x y U V Q rh rx ry o
  unfold pAdd at o
  split at o
  · cases rx; cases ry; exact .inl ⟨_, _, rfl, rfl, o.here rh (.int _)⟩
  · cases rx; cases ry
    split at o
    · rename_i hl
      exact .inr (.inl ⟨_, _, rfl, rfl, by rw [sizeLine_eq]; exact hl, o.here rh (.str _)⟩)
    · exact o.elim
  · split at o
    · rename_i hl
      cases rx with
      | tup h1 r1 =>
        cases ry with
        | tup h2 r2 =>
          refine .inr (.inr (.inl ⟨_, _, _, _, rfl, rfl, h1, h2, by rw [sizeLine_eq, ← r1.length, ← r2.length]; exact hl, fun e => ?_, fun _ e => ?_, fun _ _ p np => ?_⟩))
          · subst e
            cases r1
            exact o.here rh (.tup h2 r2)
          · subst e
            cases r2
            rw [List.append_nil] at o
            exact o.here rh (.tup h1 r1)
          · exact o _ _ as (Stp.lay rh np) (rh.lay np) (.tup (SqT.of upd_same) ((r1.append r2).mono (Stp.lay rh np)))
    · exact o.elim
  · cases rx with
    | obj ha =>
      cases ry with
      | obj hb =>
        split at o
        · rename_i xs ys hx hy
          split at o
          · rename_i hl
            obtain ⟨a1, e1, us, g1, r1⟩ := rh.at_ _ _ hx
            obtain ⟨a2, e2, ws, g2, r2⟩ := rh.at_ _ _ hy
            rw [ha] at e1; cases e1
            rw [hb] at e2; cases e2
            refine .inr (.inr (.inr ⟨_, _, us, ws, rfl, rfl, g1, g2, by rw [sizeLine_eq, ← r1.length, ← r2.length]; exact hl, fun p np => ?_⟩))
            have S := Stp.new (o := .lst (us ++ ws)) rh np
            refine o _ _ _ S (rh.new np ⟨_, upd_same, (r1.append r2).mono S⟩) (.obj ?_)
            rw [List.getElem?_append_right (by rw [rh.len]; exact Nat.le_refl _), rh.len, Nat.sub_self]
            rfl
          · exact o.elim
        · exact o.elim
  · exact o.elim
theorem snd_sub {K : PySem.W.Frag} {mg : Str → Option Value} : Snd K mg pSub (rI0 fun i j => .int (i - j)) := by
  intro W s as H h x y U V Q rh rx ry o
  unfold pSub at o
  split at o
  · cases rx; cases ry; exact ⟨_, _, rfl, rfl, o.here rh (.int _)⟩
  · exact o.elim
theorem CMul.of {i : Int} (h : i.natAbs < 18446744073709551616) : -(2 ^ 64) < i ∧ i < 2 ^ 64 := by
  have e : (2 : Int) ^ 64 = 18446744073709551616 := by decide
  rw [e]
  omega
theorem snd_mul {K : PySem.W.Frag} {mg : Str → Option Value} : Snd K mg pMul (fun x y H Q => (rI CMul fun i j => .int (i * j)) x y H Q ∨ (rI CMulW fun i j => .int (i * j)) x y H Q) := by
  intro W s as H h x y U V Q rh rx ry o
  unfold pMul at o
  split at o
  · cases rx; cases ry
    split at o
    · rename_i i j hm
      have q := o.here rh (.int (i * j))
      unfold mulOk at hm
      rcases Bool.or_eq_true_iff.mp hm with hm | hm
      · rcases Bool.or_eq_true_iff.mp hm with hm | hm
        · exact .inl ⟨_, _, rfl, rfl, .inl (CMul.of (of_decide_eq_true hm)), q⟩
        · exact .inl ⟨_, _, rfl, rfl, .inr (CMul.of (of_decide_eq_true hm)), q⟩
      · have hm' : i.natAbs.log2 + j.natAbs.log2 < 1000000 := of_decide_eq_true hm
        exact .inr ⟨_, _, rfl, rfl, hm', q⟩
    · exact o.elim
  · exact o.elim
theorem snd_div {K : PySem.W.Frag} {mg : Str → Option Value} : Snd K mg pDiv (rI CDivW fun i j => .int (i / j)) := by
  intro W s as H h x y U V Q rh rx ry o
  unfold pDiv at o
  split at o
  · cases rx; cases ry
    split at o
    · rename_i hm
      exact ⟨_, _, rfl, rfl, hm, o.here rh (.int _)⟩
    · exact o.elim
  · exact o.elim
theorem snd_mod {K : PySem.W.Frag} {mg : Str → Option Value} : Snd K mg pMod (rI (fun _ j => 0 < j) fun i j => .int (i % j)) := by
  intro W s as H h x y U V Q rh rx ry o
  unfold pMod at o
  split at o
  · cases rx; cases ry
    split at o
    · rename_i hm
      exact ⟨_, _, rfl, rfl, hm, o.here rh (.int _)⟩
    · exact o.elim
  · exact o.elim
theorem snd_pow {K : PySem.W.Frag} {mg : Str → Option Value} : Snd K mg pPow (rI CPow fun i j => .int (i ^ j.toNat)) := by
  intro W s as H h x y U V Q rh rx ry o
  unfold pPow at o
  split at o
  · cases rx; cases ry
    split at o
    · rename_i hm
      exact ⟨_, _, rfl, rfl, hm, o.here rh (.int _)⟩
    · exact o.elim
  · exact o.elim
theorem ie_add (ha : PE X a (IE X.K X.mg W A)) (hb : PE X b (IE X.K X.mg W B)) : PE X (.BinOp a .Add b pos) (IE X.K X.mg W (eOp pAdd A B)) := ie_op (op_add.or (op_add_str.or (op_catA.or op_cat))) snd_add ha hb
theorem ie_sub (ha : PE X a (IE X.K X.mg W A)) (hb : PE X b (IE X.K X.mg W B)) : PE X (.BinOp a .Sub b pos) (IE X.K X.mg W (eOp pSub A B)) := ie_op op_sub snd_sub ha hb
theorem ie_mul (ha : PE X a (IE X.K X.mg W A)) (hb : PE X b (IE X.K X.mg W B)) : PE X (.BinOp a .Mult b pos) (IE X.K X.mg W (eOp pMul A B)) := ie_op (op_mul.or op_mulW) snd_mul ha hb
theorem ie_div (ha : PE X a (IE X.K X.mg W A)) (hb : PE X b (IE X.K X.mg W B)) : PE X (.BinOp a .FloorDiv b pos) (IE X.K X.mg W (eOp pDiv A B)) := ie_op op_fdivW snd_div ha hb
theorem ie_mod (ha : PE X a (IE X.K X.mg W A)) (hb : PE X b (IE X.K X.mg W B)) : PE X (.BinOp a .Mod b pos) (IE X.K X.mg W (eOp pMod A B)) := ie_op op_mod snd_mod ha hb
theorem ie_pow (ha : PE X a (IE X.K X.mg W A)) (hb : PE X b (IE X.K X.mg W B)) : PE X (.BinOp a .Pow b pos) (IE X.K X.mg W (eOp pPow A B)) := ie_op op_pow snd_pow ha hb
theorem ie_neg (ha : PE X a (IE X.K X.mg W A)) : PE X (.UnaryOp .USub a pos) (IE X.K X.mg W (eUn pNeg A)) := by
  refine peImp (pe_un un_neg ha) fun s H Q ⟨as, ρ, hh, f, x, o⟩ => ?_
  refine ⟨as, ρ, hh, f, x, (Out.bind o).imp fun V H1 ⟨as1, h1, p1, S1, x1, r1, o1⟩ => ?_⟩
  unfold pNeg at o1
  split at o1
  · cases r1; exact ⟨_, rfl, o1.here x1 (.int _)⟩
  · exact o1.elim
theorem snd_ci {K : PySem.W.Frag} {mg : Str → Option Value} {g : Int → Int → Bool} : Snd K mg (pCI g) (rI0 fun i j => .bl (g i j)) := by
  intro W s as H h x y U V Q rh rx ry o
  unfold pCI at o
  split at o
  · cases rx; cases ry; exact ⟨_, _, rfl, rfl, o.here rh (.bl _)⟩
  · exact o.elim
theorem isN_of {K : PySem.W.Frag} {mg : Str → Option Value} {as : List Addr} {H : Hp} {x : PV} {U : V} (r : RP K mg H as x U) (hg : ∀ z, x ≠ .glo z) : isN x = decide (U = .non) := by
  cases r with
  | glo => exact absurd rfl (hg _)
  | _ => rfl
theorem snd_isn {K : PySem.W.Frag} {mg : Str → Option Value} : Snd K mg pIsN (fun x y H Q => y = .non ∧ Q (.bl (decide (x = .non))) H) := by
  intro W s as H h x y U V Q rh rx ry o
  unfold pIsN at o
  split at o
  · cases ry
    split at o
    · exact o.elim
    · rename_i hg
      refine ⟨rfl, ?_⟩
      rw [← isN_of rx fun z e => hg z e]
      exact o.here rh (.bl _)
  · exact o.elim
theorem snd_notn {K : PySem.W.Frag} {mg : Str → Option Value} : Snd K mg pNotN (fun x y H Q => y = .non ∧ Q (.bl (!decide (x = .non))) H) := by
  intro W s as H h x y U V Q rh rx ry o
  unfold pNotN at o
  split at o
  · cases ry
    split at o
    · exact o.elim
    · rename_i hg
      refine ⟨rfl, ?_⟩
      rw [← isN_of rx fun z e => hg z e]
      exact o.here rh (.bl _)
  · exact o.elim
/-! ### data -/
theorem dpAll {K : PySem.W.Frag} {mg : Str → Option Value} {as : List Addr} {H : Hp} {g : PV → Option PyData} (hg : ∀ p v d, RP K mg H as p v → g p = some d → Dp K H v d) : ∀ {ps : List PV} {vs : List V} {ds : List PyData}, RPs K mg H as ps vs → optAll g ps = some ds → DpAll K H vs ds := by
  intro ps
  induction ps with
  | nil => intro vs ds r e; cases r; cases e; exact .nil
  | cons p ps ih =>
    intro vs ds r e
    cases r with
    | cons a b =>
      unfold optAll at e
      split at e
      · rename_i y ys e1 e2
        cases e
        exact .cons (hg _ _ _ a e1) (ih b e2)
      · cases e
theorem dp_of {K : PySem.W.Frag} {mg : Str → Option Value} {as : List Addr} {H : Hp} {h : IH} (x : RH K mg H as h) : ∀ (n : Nat) (p : PV) (v : V) (d : PyData), RP K mg H as p v → dataOf n h p = some d → Dp K H v d := by
  intro n
  induction n with
  | zero =>
    intro p v d r e
    cases r with
    | non => simp only [dataOf] at e; cases e; exact .non
    | bl b => simp only [dataOf] at e; cases e; exact .bl b
    | int i => simp only [dataOf] at e; cases e; exact .int i
    | str y => simp only [dataOf] at e; cases e; exact .str y
    | tup => simp only [dataOf] at e; cases e
    | fls => simp only [dataOf] at e; cases e
    | obj => simp only [dataOf] at e; cases e
    | glo => simp only [dataOf] at e; cases e
    | ty => simp only [dataOf] at e; cases e
    | key => simp only [dataOf] at e; cases e
  | succ n ih =>
    intro p v d r e
    cases r with
    | non => simp only [dataOf] at e; cases e; exact .non
    | bl b => simp only [dataOf] at e; cases e; exact .bl b
    | int i => simp only [dataOf] at e; cases e; exact .int i
    | str y => simp only [dataOf] at e; cases e; exact .str y
    | tup hs rs =>
      simp only [dataOf, Option.map_eq_some_iff] at e
      obtain ⟨ds, e1, rfl⟩ := e
      exact .tup hs (dpAll ih rs e1)
    | fls hs rs =>
      simp only [dataOf, Option.map_eq_some_iff] at e
      obtain ⟨ds, e1, rfl⟩ := e
      exact .lst hs.sq (dpAll ih rs e1)
    | obj ha =>
      simp only [dataOf] at e
      split at e
      · rename_i xs hx
        obtain ⟨a, h1, ys, h2, rs⟩ := x.at_ _ _ hx
        rw [ha] at h1; cases h1
        rw [Option.map_eq_some_iff] at e
        obtain ⟨ds, e1, rfl⟩ := e
        exact .lst (SqL.of h2) (dpAll ih rs e1)
      · cases e
    | glo => simp only [dataOf] at e; cases e
    | ty => simp only [dataOf] at e; cases e
    | key => simp only [dataOf] at e; cases e
theorem eqB_of {K : PySem.W.Frag} {mg : Str → Option Value} {as : List Addr} {H : Hp} {h : IH} {x y : PV} {U V : V} {q : Bool} (rh : RH K mg H as h) (rx : RP K mg H as x U) (ry : RP K mg H as y V) (e : pEqB x y h = some q) :
    ∃ d e, Dp K H U d ∧ Dp K H V e ∧ SeqAt.shaped d = true ∧ SeqAt.shaped e = true ∧ PyData.eqv d e = q := by
  unfold pEqB at e
  split at e
  · rename_i d1 d2 e1 e2
    split at e
    · rename_i hs
      obtain ⟨s1, s2⟩ := Bool.and_eq_true_iff.mp hs
      cases e
      exact ⟨d1, d2, dp_of rh _ _ _ _ rx e1, dp_of rh _ _ _ _ ry e2, s1, s2, rfl⟩
    · cases e
  · cases e
theorem snd_eq {K : PySem.W.Frag} {mg : Str → Option Value} : Snd K mg pEq (rEqD K) := by
  intro W s as H h x y U V Q rh rx ry o
  unfold pEq at o
  cases q : pEqB x y h with
  | none => rw [q] at o; exact o.elim
  | some z =>
    rw [q] at o
    obtain ⟨d, e, h1, h2, h3, h4, rfl⟩ := eqB_of rh rx ry q
    exact ⟨d, e, h1, h2, h3, h4, o.here rh (.bl _)⟩
theorem snd_ne {K : PySem.W.Frag} {mg : Str → Option Value} : Snd K mg pNe (rNeD K) := by
  intro W s as H h x y U V Q rh rx ry o
  unfold pNe at o
  cases q : pEqB x y h with
  | none => rw [q] at o; exact o.elim
  | some z =>
    rw [q] at o
    obtain ⟨d, e, h1, h2, h3, h4, rfl⟩ := eqB_of rh rx ry q
    exact ⟨d, e, h1, h2, h3, h4, o.here rh (.bl _)⟩
/-! ### subscripts -/
theorem RPs.atI {K : PySem.W.Frag} {mg : Str → Option Value} {as : List Addr} {H : Hp} {ps : List PV} {vs : List V} {i : Int} {p : PV} (r : RPs K mg H as ps vs) (e : L2.atI ps i = some p) : ∃ v, L2.atI vs i = some v ∧ RP K mg H as p v := by
  unfold L2.atI at e ⊢
  rw [← r.length]
  cases q : ixN ps.length i with
  | none => rw [q] at e; cases e
  | some j =>
    rw [q] at e
    exact r.get e
theorem snd_idx {K : PySem.W.Frag} {mg : Str → Option Value} : Snd K mg pIdx (rIx K) := by
  intro W s as H h x y U V Q rh rx ry o
  unfold pIdx at o
  split at o
  · cases rx with
    | tup hs rs =>
      cases ry
      unfold opt at o
      split at o
      · rename_i p e
        obtain ⟨v, e1, r1⟩ := rs.atI e
        exact .inr (.inl ⟨_, _, _, v, rfl, rfl, hs, e1, o.here rh r1⟩)
      · exact o.elim
  · cases rx with
    | fls hs rs =>
      cases ry
      unfold opt at o
      split at o
      · rename_i p e
        obtain ⟨v, e1, r1⟩ := rs.atI e
        exact .inl ⟨_, _, _, v, rfl, rfl, hs.sq, e1, o.here rh r1⟩
      · exact o.elim
  · cases rx
    cases ry
    split at o
    · rename_i hl
      unfold opt at o
      split at o
      · rename_i p e
        rw [Option.map_eq_some_iff] at e
        obtain ⟨c, e1, rfl⟩ := e
        exact .inr (.inr ⟨_, _, c, rfl, rfl, by rw [sizeLine_eq]; exact hl, e1, o.here rh (.str _)⟩)
      · exact o.elim
    · exact o.elim
  · cases rx with
    | obj ha =>
      cases ry
      split at o
      · rename_i xs hx
        obtain ⟨a, h1, ys, h2, rs⟩ := rh.at_ _ _ hx
        rw [ha] at h1; cases h1
        unfold opt at o
        split at o
        · rename_i p e
          obtain ⟨v, e1, r1⟩ := rs.atI e
          exact .inl ⟨_, _, _, v, rfl, rfl, SqL.of h2, e1, o.here rh r1⟩
        · exact o.elim
      · exact o.elim
  · exact o.elim
theorem ie_idx (ha : PE X a (IE X.K X.mg W A)) (hb : PE X b (IE X.K X.mg W B)) (hs : PlainIx b := by intro _ _; rfl) : PE X (.Subscript a b pos) (IE X.K X.mg W (eOp pIdx A B)) :=
  peImp (pe_ix ix_seq ha hb hs) fun _ _ _ h => tOp_of (ta := IE X.K X.mg W A) (tb := IE X.K X.mg W B) snd_idx h
abbrev IO (K : PySem.W.Frag) (mg : Str → Option Value) (W : WX) (A : OX) : TO := IG K mg (fun _ _ p v => p = v) W A
theorem poImp {oe : Option Expr} {t t' : TO} (h : PO X oe t) (hi : ∀ s H Q, t' s H Q → t s H Q) : PO X oe t' := ⟨fun pins s σ H Q I q => h.run pins s σ H Q I (hi σ H Q q)⟩
theorem io_none : PO X none (IO X.K X.mg W oNone) := poImp po_none fun s H Q ⟨as, ρ, hh, f, x, o⟩ => o.here x rfl
theorem io_some (h : PE X e (IE X.K X.mg W A)) : PO X (some e) (IO X.K X.mg W (oSome A)) := by
  refine poImp (po_some h) fun s H Q ⟨as, ρ, hh, f, x, o⟩ => ?_
  refine ⟨as, ρ, hh, f, x, (Out.bind o).imp fun V H1 ⟨as1, h1, p1, S1, x1, r1, o1⟩ => ?_⟩
  split at o1
  · cases r1; exact ⟨_, rfl, o1.here x1 rfl⟩
  · exact o1.elim
theorem RPs.cut {K : PySem.W.Frag} {mg : Str → Option Value} {as : List Addr} {H : Hp} {ps : List PV} {vs : List V} {lo hi : Option Int} (r : RPs K mg H as ps vs) : RPs K mg H as (cutA ps lo hi) (cutV vs lo hi) := by
  unfold cutA cutV
  rw [← r.length]
  exact (r.drop _).take _
theorem ie_sl {lo hi : Option Expr} {p2 : Pos} {l u : OX} (he : PE X e (IE X.K X.mg W A)) (hl : PO X lo (IO X.K X.mg W l)) (hu : PO X hi (IO X.K X.mg W u)) : PE X (.Subscript e (.Slice lo hi none p2) pos) (IE X.K X.mg W (eSl A l u)) := by
  refine peImp (pe_slice (sl_tupA.or sl_list) he hl hu) fun s H Q ⟨as, ρ, hh, f, x, o⟩ => ?_
  refine ⟨as, ρ, hh, f, x, (Out.bind o).imp fun V H1 ⟨as1, h1, p1, S1, x1, r1, o1⟩ => ?_⟩
  refine ⟨as1, ρ, h1, f.mono S1, x1, (Out.bind o1).imp fun lo' H2 ⟨as2, h2, p2, S2, x2, r2, o2⟩ => ?_⟩
  refine ⟨as2, ρ, h2, (f.mono S1).mono S2, x2, (Out.bind o2).imp fun hi' H3 ⟨as3, h3, p3, S3, x3, r3, o3⟩ => ?_⟩
  obtain rfl : p2 = lo' := r2
  obtain rfl : p3 = hi' := r3
  have r1' := (r1.mono S2).mono S3
  unfold pSl at o3
  split at o3
  · cases r1' with
    | tup hs rs =>
      refine .inl ⟨_, _, rfl, hs, fun hw => ?_, fun _ p np => ?_⟩
      · have e : ∀ {α : Type} (l : List α), HT.sIx l.length 0 p2 = 0 ∧ HT.sIx l.length l.length p3 = l.length → cutA l p2 p3 = l := fun l z => by
          unfold cutA
          rw [z.1, z.2]
          simp
        rw [← rs.length] at hw
        rw [e _ hw] at o3
        exact o3.here x3 (.tup hs rs)
      · exact o3 _ _ as3 (Stp.lay x3 np) (x3.lay np) (.tup (SqT.of upd_same) (rs.cut.mono (Stp.lay x3 np)))
  · cases r1' with
    | obj ha =>
      split at o3
      · rename_i xs hx
        obtain ⟨a, g1, ys, g2, rs⟩ := x3.at_ _ _ hx
        rw [ha] at g1; cases g1
        refine .inr ⟨_, _, rfl, SqL.of g2, fun p np => ?_⟩
        have S := Stp.new (o := .lst (cutV ys p2 p3)) x3 np
        refine o3 _ _ _ S (x3.new np ⟨_, upd_same, rs.cut.mono S⟩) (.obj ?_)
        rw [List.getElem?_append_right (by rw [x3.len]; exact Nat.le_refl _), x3.len, Nat.sub_self]
        rfl
      · exact o3.elim
  · exact o3.elim
/-! ### displays -/
theorem ie_tup {x1} (h : PA X es (IA X.K X.mg W L)) : PE X (.Tuple es x1 pos) (IE X.K X.mg W (eTup L)) := by
  refine peImp (pe_tup h) fun s H Q ⟨as, ρ, hh, f, x, o⟩ => ?_
  refine ⟨as, ρ, hh, f, x, (Out.bind o).imp fun Vs H1 ⟨as1, h1, p1, S1, x1, r1, o1⟩ => ?_⟩
  split at o1
  · rename_i hl
    refine ⟨by rw [sizeLine_eq, ← r1.length]; exact hl, fun p np => ?_⟩
    exact o1 _ _ as1 (Stp.lay x1 np) (x1.lay np) (.tup (SqT.of upd_same) (r1.mono (Stp.lay x1 np)))
  · exact o1.elim
theorem mkL_of {K : PySem.W.Frag} {mg : Str → Option Value} {s : L2.St} {as : List Addr} {H : Hp} {h : IH} {ps : List PV} {vs : List V} {Q : VK} (x : RH K mg H as h) (r : RPs K mg H as ps vs) (o : Out K mg (fun H as p v => RP K mg H as p v) W s as H Q (mkL ps h)) :
    vs.length ≤ sizeLine ∧ ∀ p, H p = none → Q (.ref p) (upd H p (.lst vs)) := by
  unfold mkL at o
  split at o
  · rename_i hl
    refine ⟨by rw [sizeLine_eq, ← r.length]; exact hl, fun p np => ?_⟩
    have S := Stp.new (o := .lst vs) x np
    refine o _ _ _ S (x.new np ⟨_, upd_same, r.mono S⟩) (.obj ?_)
    rw [List.getElem?_append_right (by rw [x.len]; exact Nat.le_refl _), x.len, Nat.sub_self]
    rfl
  · exact o.elim
theorem ie_lst (h : PA X es (IA X.K X.mg W L)) : PE X (.List es pos) (IE X.K X.mg W (eLst L)) := by
  refine peImp (pe_lst h) fun s H Q ⟨as, ρ, hh, f, x, o⟩ => ?_
  exact ⟨as, ρ, hh, f, x, (Out.bind o).imp fun Vs H1 ⟨as1, h1, p1, S1, x1, r1, o1⟩ => mkL_of x1 r1 o1⟩
end
end WR

/-! what loops walk: lists, tuples, ranges, enumerate, zip of lists and tuples in any mix -/
namespace PySem
open Builtin Builtin.Str
theorem WR_meets_enum1 {v : Value} {o : Obj} {H : Heap → Prop} (B : Begins v o H) :
    Meets (Builtin.«enumerate.__new__» ⟨[.type "enumerate", v], []⟩) (fun _ R s => H s.heap ∧
      R (.ok (.ret (.ref (s.heap.push o).objs.size))) { s with heap := (s.heap.push o).push { cls := .type "enumerate", data := .fields #[.none, .bool false, .ref s.heap.objs.size, rawInt 0, .none, .none] } }) :=
  .of_wp fun prog w A R s h => by
    obtain ⟨hp, g, d, tk, os⟩ := s; obtain ⟨h1, h⟩ := h
    have hsub := sub_enumerate
    have q1 : ∀ {A' : Around} {E : Value → Shared → Prop} {Q : Value → Shared → Prop}, Q (.ref hp.objs.size) ⟨hp.push o, g, d, tk, os⟩ → wpAny (model prog w) A' (pyIter v) Q E ⟨hp, g, d, tk, os⟩ :=
      fun q => B.iter prog w _ _ ⟨hp, g, d, tk, os⟩ _ h1 q
    wp_walk using q1
    refine wpAny_stack_any fun st => wpAny_pure ?_
    split
    · rename_i c _ _ _ _ _
      cases (c == Value.type "enumerate")
      · wp_walk using q1
        exact ⟨_, rfl, h⟩
      · wp_walk using q1
        exact ⟨_, rfl, h⟩
    · wp_walk using q1
      exact ⟨_, rfl, h⟩
theorem WR_enum1 {prog : Program} {w : World} {A : Around} {E : Value → Shared → Prop} {s : Shared} {v : Value} {o : Obj} {H : Heap → Prop} {Q : Value → Shared → Prop} (B : Begins v o H) (h1 : H s.heap)
    (h : ∀ h', IsEnum h' (s.heap.objs.size + 1) s.heap.objs.size 0 .none → h'.get? s.heap.objs.size = some o → h'.objs.size = s.heap.objs.size + 2 →
      (∀ b o, s.heap.get? b = some o → h'.get? b = some o) → Q (.ref (s.heap.objs.size + 1)) { s with heap := h' }) :
    wpAny (model prog w) A (call (.type "enumerate") [v]) Q E s := by
  refine callType_new F.called_enumerate (by decide) (F.typeCall_enumerate_1 _) (F.newCall_enumerate_1 _) (fun obj => F.args_object_init_2 obj _) F.entry_enumerate_new
    (WR_meets_enum1 B) ⟨h1, ?_⟩
  have hz : (s.heap.push o).objs.size = s.heap.objs.size + 1 := Heap.size_push ..
  show _ ∧ _
  rw [hz]
  have he : IsEnum ((s.heap.push o).push { cls := .type "enumerate", data := .fields #[.none, .bool false, .ref s.heap.objs.size, rawInt 0, .none, .none] }) (s.heap.objs.size + 1) s.heap.objs.size 0 .none := by
    have := Heap.get?_push_size (s.heap.push o) (o := { cls := .type "enumerate", data := .fields #[.none, .bool false, .ref s.heap.objs.size, rawInt 0, .none, .none] }) rfl
    rw [hz] at this; exact this
  exact ⟨⟨_, he, rfl⟩, h _ he (Heap.get?_push_of_some _ (Heap.get?_push_size _ B.free)) (by rw [Heap.size_push, hz]) fun b o x => Heap.get?_push_of_some _ (Heap.get?_push_of_some _ x)⟩
end PySem
namespace WR
open PySem PySem.Spec PyProof.Rows L2
/-! ### a list or a tuple -/
def SqK (t : Bool) (K : PySem.W.Frag) (H : Hp) (a : Addr) (xs : List V) : Prop := match t with
  | true => SqT K H a xs
  | false => SqL K H a xs
def ItAt (t : Bool) (h : Heap) (it a : Addr) (i : Nat) : Prop := match t with
  | true => h.IsTupleIter it a i
  | false => h.IsListIter it a i
def CtAt (t : Bool) (h : Heap) (a : Addr) (its : Array Value) : Prop := match t with
  | true => h.IsTuple a its
  | false => h.IsList a its
def itO (t : Bool) (a : Addr) : Obj := match t with
  | true => { cls := .type "tuple_iterator", data := .fields #[.ref a, .int 0 0] }
  | false => { cls := .type "list_iterator", data := .fields #[.ref a, .int 0 0] }
theorem ItAt.at {t : Bool} {h h' : Heap} {it a : Addr} {i : Nat} (x : ItAt t h it a i) (k : ∀ o, h.get? it = some o → h'.get? it = some o) : ItAt t h' it a i := by
  cases t with
  | true => exact Heap.IsTupleIter.at x k
  | false => exact Heap.IsListIter.at x k
theorem ItAt.obj {t : Bool} {h : Heap} {it a : Addr} {i : Nat} (x : ItAt t h it a i) : ∃ o, h.get? it = some o ∧ ∀ v, o.data ≠ .cell v := by
  cases t with
  | true => obtain ⟨o, e, _, d⟩ := x; exact ⟨o, e, fun v q => by rw [d] at q; cases q⟩
  | false => obtain ⟨o, e, _, d⟩ := x; exact ⟨o, e, fun v q => by rw [d] at q; cases q⟩
theorem ItAt.new {t : Bool} {h : Heap} {it a : Addr} (e : h.get? it = some (itO t a)) : ItAt t h it a 0 := by
  cases t with
  | true => exact ⟨_, e, rfl, rfl⟩
  | false => exact ⟨_, e, rfl, rfl⟩
theorem draws_k (t : Bool) {prog : Program} {w : World} {A : Around} (hh : A.handled = none) (it l : Addr) (hne : l ≠ it) (items : Array Value) :
    Draws prog w A it [it, l] items.size (fun i v => items[i]? = some v) (fun i h => ItAt t h it l i ∧ CtAt t h l items) := by
  cases t with
  | true => exact Draws.tuple hh it l hne items
  | false => exact Draws.list hh it l hne items
theorem begins_k (t : Bool) (l : Addr) (items : Array Value) : Begins (.ref l) (itO t l) fun h => CtAt t h l items := by
  cases t with
  | true => exact begins_tuple l items
  | false => exact begins_list l items
section
variable {X : Cx} {pins : List (Addr × Obj)} {σ : L2.St} {H : Hp} {s : Shared} {a : Addr} {xs ys : List V} {t : Bool}
theorem seqK (I : Inv X pins σ H s) (h : SqK t X.K H a xs) : ∃ its : List Value, Vals xs its ∧ CtAt t s.heap a its.toArray := by
  cases t with
  | true => obtain ⟨its, r, p, _⟩ := I.tuple h; exact ⟨its, r, p⟩
  | false => obtain ⟨its, r, p, _⟩ := I.list h; exact ⟨its, r, p.isList⟩
theorem seqK_inj (I : Inv X pins σ H s) (h : SqK t X.K H a xs) (h' : SqK t X.K H a ys) : xs = ys := by
  cases t with
  | true => exact I.tuple_inj h h'
  | false => exact I.list_inj h h'
end
/-! ### enumerate -/
def ItE (t : Bool) (K : PySem.W.Frag) (a : Addr) : It :=
  ⟨fun i H => ∃ (xs : List V) (x : V), SqK t K H a xs ∧ xs[i]? = some x, fun i H v H' => ∃ T x, v = .ref T ∧ H T = none ∧ H' = upd H T (.tup [.int (i : Nat), x]) ∧ ∀ xs, SqK t K H a xs → xs[i]? = some x, fun i H => ∃ xs : List V, SqK t K H a xs ∧ xs.length = i⟩
theorem turn_E {P : Program} {w : World} {K : PySem.W.Frag} {elts : List Expr} {kk : Nat} {tpos : Pos} (t : Bool) (a e it : Addr) (hei : e ≠ it) (hea : e ≠ a) (hai : a ≠ it) :
    Turn P w K (.Tuple elts kk tpos) (ItE t K a) [e, it] e (fun i h => (∃ old, IsEnum h e it ((i : Nat) : Int) old) ∧ ItAt t h it a i) where
  mem := by simp
  obj := fun i h st b hb => by
    obtain ⟨⟨old, he⟩, hi⟩ := st
    have e' : b = e ∨ b = it := by simpa using hb
    rcases e' with z | z
    · rw [z]; exact ⟨_, he, fun v q => nomatch q⟩
    · rw [z]; exact hi.obj
  keep := fun i h h' st k => let ⟨⟨old, he⟩, hi⟩ := st; ⟨⟨old, k e (by simp) _ he⟩, hi.at fun o q => k it (by simp) o q⟩
  item := by
    intro X hP hw hK hc i pins s σ H E I hf st hg
    subst hP hw hK
    obtain ⟨⟨old, he⟩, hit⟩ := st
    obtain ⟨xs, x, hq, hx⟩ := hg
    obtain ⟨its, rv, p⟩ := seqK I hq
    obtain ⟨u, hu, ru⟩ := rv.get hx
    have hel : e < s.heap.objs.size := Heap.lt_size he
    have hil : it < s.heap.objs.size := by obtain ⟨_, q, _⟩ := hit.obj; exact Heap.lt_size q
    have hlt : i < its.toArray.size := by
      have := (List.getElem?_eq_some_iff.mp hu).1
      simpa using this
    refine wpAny_pyNext_enum_itemD (draws_k t (A := X.A.in1) (I.ok.hd hc) it a hai its.toArray) he ⟨hit, p⟩ hlt hei (by simp [hei, hea]) fun x' h' tk hP ho hst hT hsz hk => ?_
    have ex : x' = u := by
      have h1 : its.toArray[i]? = some u := by simpa using hu
      rw [h1] at hP
      exact (Option.some.inj hP).symm
    subst ex
    refine ⟨_, rfl, wpAny_letOwnedTupleGo_enum (s := { s with heap := h', toks := tk + 1 }) ho fun h'' he' sb => ?_⟩
    have hT2 : h''.get? s.heap.objs.size = some { cls := .type "tuple", data := .seq #[.int i tk, x'] } := (sb.2 _ (Nat.ne_of_gt hel)).trans hT
    have new : ObjOk X.prog X.w (upd H s.heap.objs.size (.tup [.int (i : Nat), x])) h'' s.heap.objs.size (.tup [.int (i : Nat), x]) :=
      ⟨by show 2 ≤ sizeLine; decide, [.int i tk, x'], .cons ⟨_, rfl⟩ (.cons ru .nil), ⟨_, hT2, rfl, _, rfl⟩⟩
    have I1 : Inv X pins σ (upd H s.heap.objs.size (.tup [.int (i : Nat), x])) { s with heap := h'', toks := tk + 1 } :=
      I.turnedNew (ch := [e, it]) (fun b ob hb q => (sb.2 b (fun z => hb (by simp [z]))).trans (hk b ob (fun z => hb (by simp [z])) (fun z => hb (by simp [z])) q)) hf (Nat.le_refl _) new
    refine ⟨.ref s.heap.objs.size, _, I1, rfl, ⟨_, x, rfl, I.hok.fresh (Nat.le_refl _), rfl, fun ys hy => by rw [seqK_inj I hy hq]; exact hx⟩, ⟨⟨x', ?_⟩, hst.1.at fun o q => (sb.2 it (Ne.symm hei)).trans q⟩, fun b hb => ?_⟩
    · have e1 : ((i + 1 : Nat) : Int) = (i : Int) + 1 := by omega
      rw [e1]; exact he'
    · have hb' : b < s.heap.objs.size := by
        have e' : b = e ∨ b = it := by simpa using hb
        rcases e' with z | z
        · rw [z]; exact hel
        · rw [z]; exact hil
      rw [upd_ne (Nat.ne_of_lt hb')]
      exact (hf b hb).1
  done := by
    intro X hP hw hK hc i pins s σ H E I hf st hg
    subst hP hw hK
    obtain ⟨⟨old, he⟩, hit⟩ := st
    obtain ⟨xs, hq, hx⟩ := hg
    obtain ⟨its, rv, p⟩ := seqK I hq
    obtain ⟨f0, f1, f2, f3, f4, f5⟩ := hf it (by simp)
    have hl := rv.length
    have en : its.toArray.size = i := by simp; omega
    subst en
    exact wpAny_pyNext_enum_endD (draws_k t (A := X.A.in1) (I.ok.hd hc) it a hai its.toArray) he ⟨hit, p⟩ fun h' eb => ⟨rfl, I.turned (t' := s.toks) (fun b o hb q => eb b o hb q) f0 f1 f3 f4 f5⟩
  self := fun A i s Q E st h => let ⟨⟨_, he⟩, _⟩ := st; wpAny_pyIter_enum he h
def iE (K : PySem.W.Frag) (ta : TA) : TI := fun σ H R => ta σ H fun vs H1 => ∃ t a xs, vs = [.ref a] ∧ SqK t K H1 a xs ∧ R (ItE t K a) H1
theorem pi_E {X : Cx} {e : Expr} {ta : TA} {p pos tpos : Pos} {elts : List Expr} {kk : Nat} (hg : Gl X "enumerate") (hm : X.mg "enumerate" = none) (ha : PA X [e] ta) (hs : starEach [e] X.env = [(false, eval e X.env)] := by rfl) :
    PI X (.Tuple elts kk tpos) (.Call (.Name "enumerate" p) [e] [] pos) (iE X.K ta) := by
  refine ⟨fun pins s σ H R I h => ?_⟩
  refine Call_ (ld_blt I hg hm boot_enumerate (PyProof.Rows.callWith_type1 (thn (ha.run pos pins s σ H _ I h) fun us s1 ⟨vs, H1, I1, r1, q1⟩ => ?_) hs rfl))
  obtain ⟨t, a, xs, ex, hq, q⟩ := q1
  subst ex
  cases r1 with
  | cons r rr =>
    cases rr
    cases r
    obtain ⟨its, rv, p'⟩ := seqK I1 hq
    have hal : a < s1.heap.objs.size := by
      cases t with
      | true => obtain ⟨o, e, _⟩ := p'; exact Heap.lt_size e
      | false => obtain ⟨o, e, _⟩ := p'; exact Heap.lt_size e
    refine WR_enum1 (begins_k t a its.toArray) p' fun h' he hit hsz hk => wpAny_pyIter_enum he ?_
    have I2 : Inv X pins σ H1 { s1 with heap := h' } := I1.kept (t' := s1.toks) hk
    refine ⟨s1.heap.objs.size + 1, [s1.heap.objs.size + 1, s1.heap.objs.size], _, _, H1, rfl, I2, turn_E t a (s1.heap.objs.size + 1) s1.heap.objs.size (Nat.succ_ne_self _) (Nat.ne_of_gt (Nat.lt_succ_of_lt hal)) (Nat.ne_of_lt hal), ⟨⟨.none, he⟩, ItAt.new hit⟩, fun b hb => ?_, q⟩
    have e' : b = s1.heap.objs.size + 1 ∨ b = s1.heap.objs.size := by simpa using hb
    have hle : s1.heap.objs.size ≤ b := by
      rcases e' with z | z
      · rw [z]; exact Nat.le_add_right _ _
      · rw [z]; exact Nat.le_refl _
    exact I1.fpOk hle (I1.hok.fresh hle)
/-! ### zip -/
def ItZ (t u : Bool) (K : PySem.W.Frag) (a b : Addr) : It :=
  ⟨fun i H => ∃ (xs ys : List V) (x y : V), SqK t K H a xs ∧ SqK u K H b ys ∧ xs[i]? = some x ∧ ys[i]? = some y,
    fun i H v H' => ∃ T x y, v = .ref T ∧ H T = none ∧ H' = upd H T (.tup [x, y]) ∧ (∀ xs, SqK t K H a xs → xs[i]? = some x) ∧ ∀ ys, SqK u K H b ys → ys[i]? = some y,
    fun i H => ∃ xs ys : List V, SqK t K H a xs ∧ SqK u K H b ys ∧ i ≤ xs.length ∧ i ≤ ys.length ∧ (i = xs.length ∨ i = ys.length)⟩
theorem turn_Z {P : Program} {w : World} {K : PySem.W.Frag} {elts : List Expr} {kk : Nat} {tpos : Pos} (t u : Bool) {a b z TI TO i1 i2 : Addr} (S : ZipSep2 z TI TO i1 i2 [i1, a] [i2, b]) (ha : a ≠ i1) (hb : b ≠ i2) :
    Turn P w K (.Tuple elts kk tpos) (ItZ t u K a b) [z, TI, TO, i1, i2] z (fun i h => IsZip h z TI TO .none ∧ IsTupOf2 h TI (.ref i1) (.ref i2) ∧ (∃ x y, IsTupOf2 h TO x y) ∧ ItAt t h i1 a i ∧ ItAt u h i2 b i) where
  mem := by simp
  obj := fun i h st c hc => by
    obtain ⟨hz, hTI, ⟨x, y, hTO⟩, h1, h2⟩ := st
    have e' : c = z ∨ c = TI ∨ c = TO ∨ c = i1 ∨ c = i2 := by simpa using hc
    rcases e' with q | q | q | q | q
    · rw [q]; exact ⟨_, hz, fun v q => nomatch q⟩
    · rw [q]; exact ⟨_, hTI, fun v q => nomatch q⟩
    · rw [q]; exact ⟨_, hTO, fun v q => nomatch q⟩
    · rw [q]; exact h1.obj
    · rw [q]; exact h2.obj
  keep := fun i h h' st k => by
    obtain ⟨hz, hTI, ⟨x, y, hTO⟩, h1, h2⟩ := st
    exact ⟨k z (by simp) _ hz, k TI (by simp) _ hTI, ⟨x, y, k TO (by simp) _ hTO⟩, h1.at fun o q => k i1 (by simp) o q, h2.at fun o q => k i2 (by simp) o q⟩
  item := by
    intro X hP hw hK hc i pins s σ H E I hf st hg
    subst hP hw hK
    obtain ⟨hz, hTI, ⟨x0, y0, hTO⟩, h1, h2⟩ := st
    obtain ⟨xs, ys, x, y, hqx, hqy, hx, hy⟩ := hg
    obtain ⟨its, rv, p⟩ := seqK I hqx
    obtain ⟨its2, rv2, p2⟩ := seqK I hqy
    obtain ⟨v1, hu, ru⟩ := rv.get hx
    obtain ⟨v2, hu2, ru2⟩ := rv2.get hy
    have hzl : z < s.heap.objs.size := Heap.lt_size hz
    have l1 : i < its.toArray.size := by
      have := (List.getElem?_eq_some_iff.mp hu).1
      simpa using this
    have l2 : i < its2.toArray.size := by
      have := (List.getElem?_eq_some_iff.mp hu2).1
      simpa using this
    refine wpAny_pyNext_zipD2_item S (draws_k t (A := X.A.in1) (I.ok.hd hc) i1 a ha its.toArray) (draws_k u (A := X.A.in1) (I.ok.hd hc) i2 b hb its2.toArray) hz hTI hTO ⟨h1, p⟩ ⟨h2, p2⟩ l1 l2 fun w1 w2 h' tk hP1 hP2 z' TO' h1' h2' hT hsz hk => ?_
    have e1 : w1 = v1 := by
      have q : its.toArray[i]? = some v1 := by simpa using hu
      rw [q] at hP1
      exact (Option.some.inj hP1).symm
    have e2 : w2 = v2 := by
      have q : its2.toArray[i]? = some v2 := by simpa using hu2
      rw [q] at hP2
      exact (Option.some.inj hP2).symm
    subst e1
    subst e2
    refine ⟨_, rfl, wpAny_letOwnedTupleGo_zip (s := { s with heap := h', toks := tk }) z' fun h'' z'' sb => ?_⟩
    have hT2 : h''.get? s.heap.objs.size = some { cls := .type "tuple", data := .seq #[w1, w2] } := (sb.2 _ (Nat.ne_of_gt hzl)).trans hT
    have new : ObjOk X.prog X.w (upd H s.heap.objs.size (.tup [x, y])) h'' s.heap.objs.size (.tup [x, y]) :=
      ⟨by show 2 ≤ sizeLine; decide, [w1, w2], .cons ru (.cons ru2 .nil), ⟨_, hT2, rfl, _, rfl⟩⟩
    have I1 : Inv X pins σ (upd H s.heap.objs.size (.tup [x, y])) { s with heap := h'', toks := tk } :=
      I.turnedNew (t' := tk) (ch := [z, TI, TO, i1, i2]) (fun c o hb q => (sb.2 c (fun q' => hb (by simp [q']))).trans (hk c o (fun q' => hb (by simp [q'])) (fun q' => hb (by simp [q'])) (fun q' => hb (by simp [q'])) (fun q' => hb (by simp [q'])) q)) hf (Nat.le_refl _) new
    refine ⟨.ref s.heap.objs.size, _, I1, rfl, ⟨_, x, y, rfl, I.hok.fresh (Nat.le_refl _), rfl, fun l hl => by rw [seqK_inj I hl hqx]; exact hx, fun l hl => by rw [seqK_inj I hl hqy]; exact hy⟩, ⟨z'', ?_, ⟨w1, w2, ?_⟩, ?_, ?_⟩, fun c hcm => ?_⟩
    · exact (sb.2 _ S.TIz).trans (hk _ _ S.TIz S.TITO S.TIi1 S.TIi2 hTI)
    · exact (sb.2 _ S.TOz).trans TO'
    · exact h1'.1.at fun o q => (sb.2 _ (Ne.symm S.zi1)).trans q
    · exact h2'.1.at fun o q => (sb.2 _ (Ne.symm S.zi2)).trans q
    · have hlt : c < s.heap.objs.size := by
        have e' : c = z ∨ c = TI ∨ c = TO ∨ c = i1 ∨ c = i2 := by simpa using hcm
        rcases e' with q | q | q | q | q
        · rw [q]; exact hzl
        · rw [q]; exact Heap.lt_size hTI
        · rw [q]; exact Heap.lt_size hTO
        · rw [q]; obtain ⟨_, e1, _⟩ := h1.obj; exact Heap.lt_size e1
        · rw [q]; obtain ⟨_, e2, _⟩ := h2.obj; exact Heap.lt_size e2
      rw [upd_ne (Nat.ne_of_lt hlt)]
      exact (hf c hcm).1
  done := by
    intro X hP hw hK hc i pins s σ H E I hf st hg
    subst hP hw hK
    obtain ⟨hz, hTI, ⟨x0, y0, hTO⟩, h1, h2⟩ := st
    obtain ⟨xs, ys, hqx, hqy, g1, g2, hend⟩ := hg
    obtain ⟨its, rv, p⟩ := seqK I hqx
    obtain ⟨its2, rv2, p2⟩ := seqK I hqy
    have l1 := rv.length
    have l2 := rv2.length
    refine wpAny_pyNext_zipD2_end S (draws_k t (A := X.A.in1) (I.ok.hd hc) i1 a ha its.toArray) (draws_k u (A := X.A.in1) (I.ok.hd hc) i2 b hb its2.toArray) hz hTI hTO ⟨h1, p⟩ ⟨h2, p2⟩ (by simp; omega) (by simp; omega) (by simp; omega) fun h' tk hk => ⟨rfl, ?_⟩
    exact I.turnedL (t' := tk) (ch := [z, TI, TO, i1, i2]) (fun c o hb q =>
      hk c o (fun q' => hb (by simp [q'])) (fun q' => hb (by simp [q'])) (fun q' => hb (by simp [q'])) (fun q' => hb (by simp [q'])) q) hf
  self := fun A i s Q E st h => wpAny_pyIter_zip st.1 h
def iZ (K : PySem.W.Frag) (ta : TA) : TI := fun σ H R => ta σ H fun vs H1 => ∃ t u a b xs ys, vs = [.ref a, .ref b] ∧ SqK t K H1 a xs ∧ SqK u K H1 b ys ∧ R (ItZ t u K a b) H1
theorem pi_Z {X : Cx} {e e2 : Expr} {ta : TA} {p pos tpos : Pos} {elts : List Expr} {kk : Nat} (hg : Gl X "zip") (hm : X.mg "zip" = none) (ha : PA X [e, e2] ta)
    (hs : starEach [e, e2] X.env = (false, eval e X.env) :: starEach [e2] X.env := by rfl) (hpl : (backTo pos (starEach [e2] X.env)).any (·.1) = false := by rfl) :
    PI X (.Tuple elts kk tpos) (.Call (.Name "zip" p) [e, e2] [] pos) (iZ X.K ta) := by
  refine ⟨fun pins s σ H R I h => ?_⟩
  refine Call_ (ld_blt I hg hm PyProof.Rows.boot_zip (PyProof.Rows.callWith_type1 (thn (ha.run pos pins s σ H _ I h) fun us s1 ⟨vs, H1, I1, r1, q1⟩ => ?_) hs hpl))
  obtain ⟨t, u, a, b, xs, ys, ex, hqx, hqy, q⟩ := q1
  subst ex
  cases r1 with
  | cons r rr =>
    cases rr with
    | cons r' rr =>
      cases rr
      cases r
      cases r'
      obtain ⟨its, rv, p1⟩ := seqK I1 hqx
      obtain ⟨its2, rv2, p2⟩ := seqK I1 hqy
      have lt : ∀ {t : Bool} {a : Addr} {its : Array Value}, CtAt t s1.heap a its → a < s1.heap.objs.size := fun {t a its} p' => by
        cases t with
        | true => obtain ⟨o, e, _⟩ := p'; exact Heap.lt_size e
        | false => obtain ⟨o, e, _⟩ := p'; exact Heap.lt_size e
      have la := lt p1
      have lb := lt p2
      refine zip_begins2 (begins_k t a its.toArray) (begins_k u b its2.toArray) p1 p2 fun h' hz hTI hTO hi1 hi2 hsz hk => wpAny_pyIter_zip hz ?_
      have I2 : Inv X pins σ H1 { s1 with heap := h' } := I1.kept (t' := s1.toks) hk
      refine ⟨_, [s1.heap.objs.size + 4, s1.heap.objs.size + 2, s1.heap.objs.size + 3, s1.heap.objs.size, s1.heap.objs.size + 1], _, _, H1, rfl, I2,
        turn_Z t u (zip_sep2 (fp1 := [a]) (fp2 := [b]) (by simpa using la) (by simpa using lb)) (Nat.ne_of_lt la) (Nat.ne_of_lt (Nat.lt_succ_of_lt lb)), ⟨hz, hTI, ⟨_, _, hTO⟩, ItAt.new hi1, ItAt.new hi2⟩, fun c hc => ?_, q⟩
      have hle : s1.heap.objs.size ≤ c := by
        simp at hc
        rcases hc with z | z | z | z | z <;> rw [z] <;> omega
      exact I1.fpOk hle (I1.hok.fresh hle)
/-! ### the code of what is walked -/
@[simp] def itList (xs : List PV) : ItF := fun i _ => some xs[i]?
@[simp] def itObj (n : Nat) : ItF := fun i h => match h[n]? with
  | some (.lst xs) => some xs[i]?
  | _ => none
@[simp] def eIter (A : EX) : Fm → IH → Res ItF := fun r h => (A r h).bind fun v h1 => match v with
  | .tup xs => .ok (itList xs) h1
  | .fls xs => .ok (itList xs) h1
  | .obj n => (match h1[n]? with
    | some (.lst _) => .ok (itObj n) h1
    | _ => .bad)
  | _ => .bad
@[simp] def itRange (lo : Int) (n : Nat) : ItF := fun i _ => some (if i < n then some (.int (lo + i)) else none)
def rngOk (i : Int) : Bool := decide (i.natAbs < 4611686018427387904)
theorem rngOk_of {i : Int} (h : rngOk i = true) : -4611686018427387904 ≤ i ∧ i < 4611686018427387904 := by
  have := of_decide_eq_true h
  omega
@[simp] def eRange1 (L : AX) : Fm → IH → Res ItF := fun r h => (L r h).bind fun vs h1 => match vs with
  | [.int j] => if rngOk j then .ok (itRange 0 j.toNat) h1 else .bad
  | _ => .bad
@[simp] def eRange2 (L : AX) : Fm → IH → Res ItF := fun r h => (L r h).bind fun vs h1 => match vs with
  | [.int i, .int j] => if rngOk i && rngOk j then .ok (itRange i (j - i).toNat) h1 else .bad
  | _ => .bad
/-- the items of a list or tuple as they stand -/
@[simp] def seqOf (v : PV) (h : IH) : Option (List PV) := match v with
  | .tup xs => some xs
  | .fls xs => some xs
  | .obj n => (match h[n]? with
    | some (.lst xs) => some xs
    | _ => none)
  | _ => none
@[simp] def itEnum (v : PV) : ItF := fun i h => match seqOf v h with
  | some xs => (match xs[i]? with
    | some x => some (some (.tup [.int i, x]))
    | none => if xs.length = i then some none else none)
  | none => none
@[simp] def eEnum (L : AX) : Fm → IH → Res ItF := fun r h => (L r h).bind fun vs h1 => match vs with
  | [v] => (match seqOf v h1 with
    | some _ => .ok (itEnum v) h1
    | none => .bad)
  | _ => .bad
@[simp] def itZip (v w : PV) : ItF := fun i h => match seqOf v h, seqOf w h with
  | some xs, some ys => (match xs[i]?, ys[i]? with
    | some x, some y => some (some (.tup [x, y]))
    | _, _ => if i ≤ xs.length ∧ i ≤ ys.length then some none else none)
  | _, _ => none
@[simp] def eZip (L : AX) : Fm → IH → Res ItF := fun r h => (L r h).bind fun vs h1 => match vs with
  | [v, w] => (match seqOf v h1, seqOf w h1 with
    | some _, some _ => .ok (itZip v w) h1
    | _, _ => .bad)
  | _ => .bad
section
variable {X : Cx} {W : WX} {k : Nat} {a b e tg : Expr} {es : List Expr} {pos : Pos} {A B C : EX} {L : AX}
/-- where a value that is walked stands -/
def kindK : PV → Bool
  | .tup _ => true
  | _ => false
theorem seqOf_at {K : PySem.W.Frag} {mg : Str → Option Value} {as : List Addr} {H : Hp} {h : IH} {v : PV} {V : V} {xs : List PV} (x : RH K mg H as h) (r : RP K mg H as v V) (e : seqOf v h = some xs) :
    ∃ a ys, V = .ref a ∧ SqK (kindK v) K H a ys ∧ RPs K mg H as xs ys := by
  cases r with
  | tup hs rs => cases e; exact ⟨_, _, rfl, hs, rs⟩
  | fls hs rs => cases e; exact ⟨_, _, rfl, hs.sq, rs⟩
  | obj ha =>
    simp only [seqOf] at e
    split at e
    · rename_i zs hz
      cases e
      obtain ⟨a, h1, ys, h2, rs⟩ := x.at_ _ _ hz
      rw [ha] at h1; cases h1
      exact ⟨_, _, rfl, SqL.of h2, rs⟩
    · cases e
  | non => cases e
  | bl => cases e
  | int => cases e
  | str => cases e
  | glo => cases e
  | ty => cases e
  | key => cases e
theorem RPs.none {K : PySem.W.Frag} {mg : Str → Option Value} {as : List Addr} {H : Hp} {xs : List PV} {ys : List V} {i : Nat} (r : RPs K mg H as xs ys) (e : xs[i]? = none) : ys.length ≤ i := by
  rw [← r.length]; exact List.getElem?_eq_none_iff.mp e
theorem ri_list {K : PySem.W.Frag} {mg : Str → Option Value} {as : List Addr} {H : Hp} {a : Addr} {xs : List PV} {ys : List V} (hs : SqF K H a ys) (r : RPs K mg H as xs ys) : RI K mg H as (itList xs) (Itl K a) := by
  intro i as' H' h' S x
  have hs' := S.sqF hs
  unfold itList
  cases q : xs[i]? with
  | none => exact ⟨ys, hs'.sq, r.none q⟩
  | some p =>
    obtain ⟨v, e1, r1⟩ := r.get q
    refine ⟨⟨ys, v, hs'.sq, e1⟩, fun y H'' hy => ?_⟩
    obtain ⟨rfl, z⟩ := hy
    have : y = v := Option.some.inj ((z _ hs'.sq).symm.trans e1)
    subst this
    exact ⟨Stp.refl _ _, x, r1.mono S⟩
theorem ri_tup {K : PySem.W.Frag} {mg : Str → Option Value} {as : List Addr} {H : Hp} {a : Addr} {xs : List PV} {ys : List V} (hs : SqT K H a ys) (r : RPs K mg H as xs ys) : RI K mg H as (itList xs) (Itt K a) := by
  intro i as' H' h' S x
  have hs' := S.sqT hs
  unfold itList
  cases q : xs[i]? with
  | none => exact ⟨ys, hs', r.none q⟩
  | some p =>
    obtain ⟨v, e1, r1⟩ := r.get q
    refine ⟨⟨ys, v, hs', e1⟩, fun y H'' hy => ?_⟩
    obtain ⟨rfl, z⟩ := hy
    have : y = v := Option.some.inj ((z _ hs').symm.trans e1)
    subst this
    exact ⟨Stp.refl _ _, x, r1.mono S⟩
theorem ri_obj {K : PySem.W.Frag} {mg : Str → Option Value} {as : List Addr} {H : Hp} {a : Addr} {n : Nat} (ha : as[n]? = some a) : RI K mg H as (itObj n) (Itl K a) := by
  intro i as' H' h' S x
  unfold itObj
  cases q : h'[n]? with
  | none => trivial
  | some o =>
    cases o with
    | lst xs =>
      obtain ⟨b, e1, ys, e2, rs⟩ := x.at_ _ _ q
      rw [S.get ha] at e1; cases e1
      cases qi : xs[i]? with
      | none =>
        simp only [qi]
        exact ⟨ys, SqL.of e2, rs.none qi⟩
      | some p =>
        simp only [qi]
        obtain ⟨v, e3, r3⟩ := rs.get qi
        refine ⟨⟨ys, v, SqL.of e2, e3⟩, fun y H'' hy => ?_⟩
        obtain ⟨rfl, z⟩ := hy
        have : y = v := Option.some.inj ((z _ (SqL.of e2)).symm.trans e3)
        subst this
        exact ⟨Stp.refl _ _, x, r3⟩
    | ins => trivial
    | dct => trivial
theorem ii_seq (ha : PE X a (IE X.K X.mg W A)) : PI X tg a (II X.K X.mg W (eIter A)) := by
  have base : PI X tg a (fun s H R => iList X.K (IE X.K X.mg W A) s H R ∨ iTup X.K (IE X.K X.mg W A) s H R) := by
    refine ⟨fun pins s σ H R I h => ?_⟩
    rcases h with h | h
    · exact (pi_list ha).run pins s σ H R I h
    · exact (pi_tup ha).run pins s σ H R I h
  refine piImp base fun s H Q ⟨as, ρ, hh, f, x, o⟩ => ?_
  unfold eIter at o
  cases q : A ρ hh with
  | bad => rw [q] at o; exact o.elim
  | ex z h1 => rw [q] at o; exact .inl ⟨as, ρ, hh, f, x, by rw [q]; exact o⟩
  | ok v h1 =>
    rw [q] at o
    cases v with
    | tup xs =>
      refine .inr ⟨as, ρ, hh, f, x, ?_⟩
      rw [q]
      intro V H1 as1 S1 x1 r1
      cases r1 with
      | tup hs rs => exact ⟨_, rfl, ⟨_, hs⟩, o _ _ _ S1 x1 (ri_tup hs rs)⟩
    | fls xs =>
      refine .inl ⟨as, ρ, hh, f, x, ?_⟩
      rw [q]
      intro V H1 as1 S1 x1 r1
      cases r1 with
      | fls hs rs => exact ⟨_, rfl, ⟨_, hs.sq⟩, o _ _ _ S1 x1 (ri_list hs rs)⟩
    | obj n =>
      refine .inl ⟨as, ρ, hh, f, x, ?_⟩
      rw [q]
      intro V H1 as1 S1 x1 r1
      cases r1 with
      | obj ha =>
        have o1 : Out X.K X.mg (fun H as p v => RI X.K X.mg H as p v) W s as H Q (match h1[n]? with
          | some (.lst _) => .ok (itObj n) h1
          | _ => .bad) := o
        cases qn : h1[n]? with
        | none => simp only [qn] at o1; exact o1.elim
        | some ob =>
          cases ob with
          | lst xs =>
            simp only [qn] at o1
            obtain ⟨b, e1, ys, e2, rs⟩ := x1.at_ _ _ qn
            rw [ha] at e1; cases e1
            exact ⟨_, rfl, ⟨_, SqL.of e2⟩, o1 _ _ _ S1 x1 (ri_obj ha)⟩
          | ins => simp only [qn] at o1; exact o1.elim
          | dct => simp only [qn] at o1; exact o1.elim
    | non => exact (show False from o).elim
    | bl => exact (show False from o).elim
    | int => exact (show False from o).elim
    | str => exact (show False from o).elim
    | glo => exact (show False from o).elim
    | ty => exact (show False from o).elim
    | key => exact (show False from o).elim
theorem ri_range {K : PySem.W.Frag} {mg : Str → Option Value} {as : List Addr} {H : Hp} {lo : Int} {n : Nat} : RI K mg H as (itRange lo n) (Itr lo n) := by
  intro i as' H' h' S x
  unfold itRange
  by_cases hi : i < n
  · rw [if_pos hi]
    refine ⟨hi, fun y H'' hy => ?_⟩
    obtain ⟨rfl, rfl⟩ := hy
    exact ⟨Stp.refl _ _, x, .int _⟩
  · rw [if_neg hi]
    exact Nat.le_of_not_lt hi
theorem rng_of {i : Int} (h : rngOk i = true) : -(2 ^ 62) ≤ i ∧ i < 2 ^ 62 := by
  have q := rngOk_of h
  have e : (2 : Int) ^ 62 = 4611686018427387904 := by decide
  rw [e]
  exact q
theorem ii_range1 {p : Pos} (hm : X.mg "range" = none) (ha : PA X [e] (IA X.K X.mg W L)) (hg : Gl X "range" := by rfl) (hs : starEach [e] X.env = [(false, eval e X.env)] := by rfl) : PI X tg (.Call (.Name "range" p) [e] [] pos) (II X.K X.mg W (eRange1 L)) := by
  refine piImp (pi_range1 hg hm ha hs) fun s H Q ⟨as, ρ, hh, f, x, o⟩ => ?_
  refine ⟨as, ρ, hh, f, x, (Out.bind o).imp fun Vs H1 ⟨as1, h1, p1, S1, x1, r1, o1⟩ => ?_⟩
  split at o1
  · obtain ⟨v, rfl, rv⟩ := r1.inv1
    cases rv
    split at o1
    · rename_i hr
      obtain ⟨q1, q2⟩ := rng_of hr
      exact ⟨_, rfl, q1, q2, o1.here x1 ri_range⟩
    · exact o1.elim
  · exact o1.elim
theorem ii_range2 {p : Pos} (hm : X.mg "range" = none) (ha : PA X [a, b] (IA X.K X.mg W L)) (hg : Gl X "range" := by rfl) (hs : starEach [a, b] X.env = [(false, eval a X.env), (false, eval b X.env)] := by rfl) (hs2 : starEach [b] X.env = [(false, eval b X.env)] := by rfl) : PI X tg (.Call (.Name "range" p) [a, b] [] pos) (II X.K X.mg W (eRange2 L)) := by
  refine piImp (pi_range2 hg hm ha hs hs2) fun s H Q ⟨as, ρ, hh, f, x, o⟩ => ?_
  refine ⟨as, ρ, hh, f, x, (Out.bind o).imp fun Vs H1 ⟨as1, h1, p1, S1, x1, r1, o1⟩ => ?_⟩
  split at o1
  · obtain ⟨v, w, rfl, rv, rw'⟩ := r1.inv2
    cases rv
    cases rw'
    split at o1
    · rename_i hr
      obtain ⟨g1, g2⟩ := Bool.and_eq_true_iff.mp hr
      obtain ⟨q1, q2⟩ := rng_of g1
      obtain ⟨q3, q4⟩ := rng_of g2
      exact ⟨_, _, rfl, ⟨q1, q2, q3, q4⟩, o1.here x1 ri_range⟩
    · exact o1.elim
  · exact o1.elim
/-- a value that is walked stays where it stands -/
theorem seq_in {K : PySem.W.Frag} {mg : Str → Option Value} {as : List Addr} {H : Hp} {h : IH} {v : PV} {a : Addr} {xs : List PV} (x : RH K mg H as h) (r : RP K mg H as v (.ref a)) (e : seqOf v h = some xs) :
    ∃ ys, SqK (kindK v) K H a ys ∧ RPs K mg H as xs ys := by
  obtain ⟨b, ys, e1, h1, h2⟩ := seqOf_at x r e
  cases e1
  exact ⟨ys, h1, h2⟩
theorem ri_enum {K : PySem.W.Frag} {mg : Str → Option Value} {as : List Addr} {H : Hp} {v : PV} {a : Addr} (r : RP K mg H as v (.ref a)) : RI K mg H as (itEnum v) (ItE (kindK v) K a) := by
  intro i as' H' h' S x
  unfold itEnum
  cases q : seqOf v h' with
  | none => trivial
  | some xs =>
    obtain ⟨ys, hs, rs⟩ := seq_in x (r.mono S) q
    cases qi : xs[i]? with
    | none =>
      simp only [qi]
      by_cases hl : xs.length = i
      · rw [if_pos hl]
        exact ⟨ys, hs, by rw [← rs.length]; exact hl⟩
      · rw [if_neg hl]
        trivial
    | some p =>
      simp only [qi]
      obtain ⟨w, e3, r3⟩ := rs.get qi
      refine ⟨⟨ys, w, hs, e3⟩, fun y H'' hy => ?_⟩
      obtain ⟨T, z, rfl, nT, rfl, hz⟩ := hy
      have : z = w := Option.some.inj ((hz _ hs).symm.trans e3)
      subst this
      have S2 := Stp.lay (o := .tup [.int (i : Nat), z]) x nT
      exact ⟨S2, x.lay nT, .tup (SqT.of upd_same) (.cons (.int _) (.cons (r3.mono S2) .nil))⟩
theorem ri_zip {K : PySem.W.Frag} {mg : Str → Option Value} {as : List Addr} {H : Hp} {v w : PV} {a b : Addr} (r : RP K mg H as v (.ref a)) (r' : RP K mg H as w (.ref b)) : RI K mg H as (itZip v w) (ItZ (kindK v) (kindK w) K a b) := by
  intro i as' H' h' S x
  unfold itZip
  cases q : seqOf v h' with
  | none => trivial
  | some xs =>
    cases q' : seqOf w h' with
    | none => trivial
    | some ys =>
      obtain ⟨us, hs, rs⟩ := seq_in x (r.mono S) q
      obtain ⟨ws, hs', rs'⟩ := seq_in x (r'.mono S) q'
      have stp : ∀ (hn : xs[i]? = none ∨ ys[i]? = none), match (if i ≤ xs.length ∧ i ≤ ys.length then some none else none : Option (Option PV)) with
          | some (some v) => (ItZ (kindK v) (kindK w) K a b).go i H' ∧ ∀ x H'', (ItZ (kindK v) (kindK w) K a b).yld i H' x H'' → Stp as' H' as' H'' ∧ RH K mg H'' as' h' ∧ RP K mg H'' as' v x
          | some none => ∃ xs ys : List V, SqK (kindK v) K H' a xs ∧ SqK (kindK w) K H' b ys ∧ i ≤ xs.length ∧ i ≤ ys.length ∧ (i = xs.length ∨ i = ys.length)
          | none => True := fun hn => by
        by_cases hl : i ≤ xs.length ∧ i ≤ ys.length
        · rw [if_pos hl]
          have l1 := rs.length
          have l2 := rs'.length
          refine ⟨us, ws, hs, hs', by omega, by omega, ?_⟩
          rcases hn with hn | hn
          · have := List.getElem?_eq_none_iff.mp hn; omega
          · have := List.getElem?_eq_none_iff.mp hn; omega
        · rw [if_neg hl]
          trivial
      cases qi : xs[i]? with
      | none =>
        simp only [qi]
        have z := stp (.inl qi)
        by_cases hl : i ≤ xs.length ∧ i ≤ ys.length
        · rw [if_pos hl] at z ⊢; exact z
        · rw [if_neg hl]; trivial
      | some p =>
        cases qj : ys[i]? with
        | none =>
          simp only [qi, qj]
          have z := stp (.inr qj)
          by_cases hl : i ≤ xs.length ∧ i ≤ ys.length
          · rw [if_pos hl] at z ⊢; exact z
          · rw [if_neg hl]; trivial
        | some p' =>
          simp only [qi, qj]
          obtain ⟨c1, e3, r3⟩ := rs.get qi
          obtain ⟨c2, e4, r4⟩ := rs'.get qj
          refine ⟨⟨us, ws, c1, c2, hs, hs', e3, e4⟩, fun y H'' hy => ?_⟩
          obtain ⟨T, z1, z2, rfl, nT, rfl, g1, g2⟩ := hy
          have f1 : z1 = c1 := Option.some.inj ((g1 _ hs).symm.trans e3)
          have f2 : z2 = c2 := Option.some.inj ((g2 _ hs').symm.trans e4)
          subst f1
          subst f2
          have S2 := Stp.lay (o := .tup [z1, z2]) x nT
          exact ⟨S2, x.lay nT, .tup (SqT.of upd_same) (.cons (r3.mono S2) (.cons (r4.mono S2) .nil))⟩
theorem ii_enum {p : Pos} {elts : List Expr} {kk : Nat} {tpos : Pos} (hm : X.mg "enumerate" = none) (ha : PA X [e] (IA X.K X.mg W L)) (hg : Gl X "enumerate" := by rfl) (hs : starEach [e] X.env = [(false, eval e X.env)] := by rfl) : PI X (.Tuple elts kk tpos) (.Call (.Name "enumerate" p) [e] [] pos) (II X.K X.mg W (eEnum L)) := by
  refine piImp (pi_E hg hm ha hs) fun s H Q ⟨as, ρ, hh, f, x, o⟩ => ?_
  refine ⟨as, ρ, hh, f, x, (Out.bind o).imp fun Vs H1 ⟨as1, h1, p1, S1, x1, r1, o1⟩ => ?_⟩
  split at o1
  · obtain ⟨v, rfl, rv⟩ := r1.inv1
    split at o1
    · rename_i zs hz
      obtain ⟨a, ys, rfl, h2, _⟩ := seqOf_at x1 rv hz
      exact ⟨_, a, ys, rfl, h2, o1.here x1 (ri_enum rv)⟩
    · exact o1.elim
  · exact o1.elim
theorem ii_zip {p : Pos} {elts : List Expr} {kk : Nat} {tpos : Pos} (hm : X.mg "zip" = none) (ha : PA X [a, b] (IA X.K X.mg W L)) (hg : Gl X "zip" := by rfl) (hs : starEach [a, b] X.env = (false, eval a X.env) :: starEach [b] X.env := by rfl) (hpl : (backTo pos (starEach [b] X.env)).any (·.1) = false := by rfl) :
    PI X (.Tuple elts kk tpos) (.Call (.Name "zip" p) [a, b] [] pos) (II X.K X.mg W (eZip L)) := by
  refine piImp (pi_Z hg hm ha hs hpl) fun s H Q ⟨as, ρ, hh, f, x, o⟩ => ?_
  refine ⟨as, ρ, hh, f, x, (Out.bind o).imp fun Vs H1 ⟨as1, h1, p1, S1, x1, r1, o1⟩ => ?_⟩
  split at o1
  · obtain ⟨v, w, rfl, rv, rw'⟩ := r1.inv2
    split at o1
    · rename_i zs zs' hz hz'
      obtain ⟨a, ys, rfl, h2, _⟩ := seqOf_at x1 rv hz
      obtain ⟨b, ys', rfl, h3, _⟩ := seqOf_at x1 rw' hz'
      exact ⟨_, _, a, b, ys, ys', rfl, h2, h3, o1.here x1 (ri_zip rv rw')⟩
    · exact o1.elim
  · exact o1.elim
end
end WR

/-! built-ins, methods of lists, own classes -/
namespace WR
open PySem PySem.Spec PyProof.Rows L2
/-! ### the code -/
@[simp] def pAbs : List PV → IH → Res PV
  | [.int i], h => .ok (.int (if i < 0 then -i else i)) h
  | _, _ => .bad
@[simp] def pMax2 : List PV → IH → Res PV
  | [.int i, .int j], h => .ok (.int (if j > i then j else i)) h
  | _, _ => .bad
@[simp] def pMin2 : List PV → IH → Res PV
  | [.int i, .int j], h => .ok (.int (if j < i then j else i)) h
  | _, _ => .bad
@[simp] def pInt1 : List PV → IH → Res PV
  | [.int i], h => .ok (.int i) h
  | [.bl b], h => .ok (.int (if b then 1 else 0)) h
  | _, _ => .bad
@[simp] def pLen : List PV → IH → Res PV
  | [v], h => (match v with
    | .str y => if y.length ≤ 16777216 then .ok (.int y.length) h else .bad
    | _ => (match seqOf v h with
      | some xs => .ok (.int xs.length) h
      | none => .bad))
  | _, _ => .bad
@[simp] def pList1 : List PV → IH → Res PV
  | [v], h => (match seqOf v h with
    | some xs => .ok (.obj h.length) (h ++ [.lst xs])
    | none => .bad)
  | _, _ => .bad
@[simp] def pTuple1 : List PV → IH → Res PV
  | [v], h => (match seqOf v h with
    | some xs => .ok (.tup xs) h
    | none => .bad)
  | _, _ => .bad
/-- the type of a value: a built-in's name, or an own class's -/
@[simp] def tyOf : PV → IH → Option (String ⊕ Str)
  | .non, _ => some (.inl "NoneType")
  | .bl _, _ => some (.inl "bool")
  | .int _, _ => some (.inl "int")
  | .str _, _ => some (.inl "str")
  | .tup _, _ => some (.inl "tuple")
  | .fls _, _ => some (.inl "list")
  | .obj n, h => (match h[n]? with
    | some (.lst _) => some (.inl "list")
    | some (.ins c _) => some (.inr c)
    | some (.dct _) => some (.inl "dict")
    | none => none)
  | _, _ => none
def tyNames : List String := ["NoneType", "bool", "int", "str", "tuple", "list", "dict"]
def subTy (a b : String) : Bool := a == b || (a == "bool" && b == "int")
/-- isinstance(x, c), the own classes being cs -/
@[simp] def pIsi (cs : List Str) : List PV → IH → Res PV
  | [x, c], h => (match tyOf x h, c with
    | some (.inl a), .ty n => if tyNames.contains n then .ok (.bl (subTy a n)) h else .bad
    | some (.inl _), .glo C => if cs.contains C then .ok (.bl false) h else .bad
    | some (.inr D), .glo C => if cs.contains C && cs.contains D then .ok (.bl (D == C)) h else .bad
    | some (.inr D), .ty n => if cs.contains D && tyNames.contains n then .ok (.bl false) h else .bad
    | _, _ => .bad)
  | _, _ => .bad
@[simp] def eAppend (A : EX) (L : AX) : EX := fun r h => (A r h).bind fun x h1 => match x with
  | .obj n => (match h1[n]? with
    | some (.lst _) => (L r h1).bind fun vs h2 => (match vs, h2[n]? with
      | [y], some (.lst xs) => if xs.length < 16777216 then .ok .non (h2.set n (.lst (xs ++ [y]))) else .bad
      | _, _ => .bad)
    | _ => .bad)
  | _ => .bad
@[simp] def sSetIx (O I V : EX) : SX := fun r h => toS ((V r h).bind fun v h1 => (O r h1).bind fun o h2 => (I r h2).bind fun i h3 => (match o, i with
    | .obj n, .int k => (match h3[n]? with
      | some (.lst xs) => (match ixN xs.length k with
        | some j => Res.ok () (h3.set n (.lst (xs.set j v)))
        | none => .bad)
      | _ => .bad)
    | _, _ => .bad)) r fun _ h1 => .nx r h1
@[simp] def putP (f : Str) (v : PV) : List (Str × PV) → List (Str × PV)
  | [] => [(f, v)]
  | (g, y) :: r => if g = f then (g, v) :: r else (g, y) :: putP f v r
@[simp] def eFld (c f : Str) (A : EX) : EX := fun r h => (A r h).bind fun x h1 => match x with
  | .obj n => (match h1[n]? with
    | some (.ins c' fs) => if c' = c then opt (fs.lookup f) h1 else .bad
    | _ => .bad)
  | _ => .bad
@[simp] def sFldX (c f : Str) (A V : EX) : SX := fun r h => toS ((V r h).bind fun v h1 => (A r h1).bind fun x h2 => (match x with
    | .obj n => (match h2[n]? with
      | some (.ins c' fs) => if c' = c ∧ fs.length < 1000 then Res.ok () (h2.set n (.ins c (putP f v fs))) else .bad
      | _ => .bad)
    | _ => .bad)) r fun _ h1 => .nx r h1
/-- C(..): a new instance, then __init__ -/
def mk (c : Str) (F : List PV → IH → Res PV) : List PV → IH → Res PV := fun us h => (F (.obj h.length :: us) (h ++ [.ins c []])).bind fun _ h1 => .ok (.obj h.length) h1
/-- o.m(..) -/
@[simp] def eMeth (c m : Str) (F : List PV → IH → Res PV) (A : EX) (L : AX) : EX := fun r h => (A r h).bind fun x h1 => match x with
  | .obj n => (match h1[n]? with
    | some (.ins c' fs) => if c' = c ∧ fs.lookup m = none then (L r h1).bind fun vs h2 => F (x :: vs) h2 else .bad
    | _ => .bad)
  | _ => .bad
/-- a call that lets no exception out -/
@[simp] def noX {α : Type} : Res α → Res α
  | .ok a h => .ok a h
  | _ => .bad
@[simp] def eProp (c : Str) (F : List PV → IH → Res PV) (A : EX) : EX := fun r h => (A r h).bind fun x h1 => match x with
  | .obj n => (match h1[n]? with
    | some (.ins c' _) => if c' = c then noX (F [x] h1) else .bad
    | _ => .bad)
  | _ => .bad
/-- len(o), == of own classes -/
@[simp] def pLenO (c : Str) (F : List PV → IH → Res PV) : List PV → IH → Res PV
  | [x], h => (match x with
    | .obj n => (match h[n]? with
      | some (.ins c' _) => if c' = c then (match F [x] h with
        | .ok (.int i) h1 => if 0 ≤ i ∧ i < 9223372036854775808 then .ok (.int i) h1 else .bad
        | _ => .bad) else .bad
      | _ => .bad)
    | _ => .bad)
  | _, _ => .bad
@[simp] def isTupOr (c : Str) (y : PV) (h : IH) : Bool := match y with
  | .tup _ => true
  | .obj n => (match h[n]? with
    | some (.ins c' _) => c' == c
    | _ => false)
  | _ => false
@[simp] def pEqO (c : Str) (F : List PV → IH → Res PV) (x y : PV) (h : IH) : Res PV := match x with
  | .obj n => (match h[n]? with
    | some (.ins c' _) => if c' = c ∧ isTupOr c y h = true then (match F [x, y] h with
      | .ok (.bl b) h1 => .ok (.bl b) h1
      | _ => .bad) else .bad
    | _ => .bad)
  | _ => .bad
/-! ### the rules -/
section
variable {X : Cx} {W : WX} {k : Nat} {a b e o : Expr} {es : List Expr} {pos : Pos} {A B C : EX} {L : AX}
theorem ie_callB {id : String} {x : Str} {p : Pos} {r : List V → Hp → VK → Prop} {f : List PV → IH → Res PV} (hc : CallR X (.builtin id) r) (hf : SndC X.K X.mg f r) (hm : X.mg x = none) (hv : bootBuiltins x = some (.builtin id)) (ha : PA X (e :: es) (IA X.K X.mg W L)) (hg : Gl X x := by rfl) (hn : x ≠ "__name__" := by decide) (hdb : (x == ("__debug__" : Str)) = false := by decide)
    (he : starEach (e :: es) X.env = (false, eval e X.env) :: starEach es X.env := by rfl) (hpl : (backTo pos (starEach es X.env)).any (·.1) = false := by rfl) : PE X (.Call (.Name x p) (e :: es) [] pos) (IE X.K X.mg W (eB f L)) := by
  refine peImp (pe_callB hc hg hm hv ha hn hdb he hpl) fun s H Q ⟨as, ρ, hh, g, z, o⟩ => ?_
  exact ⟨as, ρ, hh, g, z, (Out.bind o).imp fun Vs H1 ⟨as1, h1, p1, S1, x1, r1, o1⟩ => hf x1 r1 o1⟩
theorem ie_callT {T : String} {x : Str} {p : Pos} {r : List V → Hp → VK → Prop} {f : List PV → IH → Res PV} (hc : CallR X (.type T) r) (hf : SndC X.K X.mg f r) (hm : X.mg x = none) (hv : bootBuiltins x = some (.type T)) (ha : PA X (e :: es) (IA X.K X.mg W L)) (hg : Gl X x := by rfl) (hn : x ≠ "__name__" := by decide) (hdb : (x == ("__debug__" : Str)) = false := by decide)
    (he : starEach (e :: es) X.env = (false, eval e X.env) :: starEach es X.env := by rfl) (hpl : (backTo pos (starEach es X.env)).any (·.1) = false := by rfl) : PE X (.Call (.Name x p) (e :: es) [] pos) (IE X.K X.mg W (eB f L)) := by
  refine peImp (pe_callTy hc hg hm hv ha hn hdb he hpl) fun s H Q ⟨as, ρ, hh, g, z, o⟩ => ?_
  exact ⟨as, ρ, hh, g, z, (Out.bind o).imp fun Vs H1 ⟨as1, h1, p1, S1, x1, r1, o1⟩ => hf x1 r1 o1⟩
variable {K : PySem.W.Frag} {mg : Str → Option Value}
theorem snd_abs : SndC K mg pAbs (fun xs H Q => ∃ i, xs = [.int i] ∧ Q (.int (if i < 0 then -i else i)) H) := by
  intro W s as H h xs Us Q rh rs o
  unfold pAbs at o
  split at o
  · obtain ⟨v, rfl, rv⟩ := rs.inv1; cases rv; exact ⟨_, rfl, o.here rh (.int _)⟩
  · exact o.elim
theorem snd_max2 : SndC K mg pMax2 (fun xs H Q => ∃ i j, xs = [.int i, .int j] ∧ Q (.int (if j > i then j else i)) H) := by
  intro W s as H h xs Us Q rh rs o
  unfold pMax2 at o
  split at o
  · obtain ⟨v, w, rfl, rv, rw'⟩ := rs.inv2; cases rv; cases rw'; exact ⟨_, _, rfl, o.here rh (.int _)⟩
  · exact o.elim
theorem snd_min2 : SndC K mg pMin2 (fun xs H Q => ∃ i j, xs = [.int i, .int j] ∧ Q (.int (if j < i then j else i)) H) := by
  intro W s as H h xs Us Q rh rs o
  unfold pMin2 at o
  split at o
  · obtain ⟨v, w, rfl, rv, rw'⟩ := rs.inv2; cases rv; cases rw'; exact ⟨_, _, rfl, o.here rh (.int _)⟩
  · exact o.elim
theorem snd_int1 : SndC K mg pInt1 (fun xs H Q => (∃ i, xs = [.int i] ∧ Q (.int i) H) ∨ ∃ k, xs = [.bl k] ∧ Q (.int (if k then 1 else 0)) H) := by
  intro W s as H h xs Us Q rh rs o
  unfold pInt1 at o
  split at o
  · obtain ⟨v, rfl, rv⟩ := rs.inv1; cases rv; exact .inl ⟨_, rfl, o.here rh (.int _)⟩
  · obtain ⟨v, rfl, rv⟩ := rs.inv1; cases rv; exact .inr ⟨_, rfl, o.here rh (.int _)⟩
  · exact o.elim
theorem SqK.or {t : Bool} {H : Hp} {a : Addr} {ys : List V} (h : SqK t K H a ys) : SqL K H a ys ∨ SqT K H a ys := by
  cases t with
  | true => exact .inr h
  | false => exact .inl h
theorem snd_len : SndC K mg pLen (fun xs H Q => ∃ x n, xs = [x] ∧ LenV K x H n ∧ Q (.int n) H) := by
  intro W s as H h xs Us Q rh rs o
  unfold pLen at o
  split at o
  · obtain ⟨v, rfl, rv⟩ := rs.inv1
    split at o
    · cases rv
      split at o
      · rename_i hl
        exact ⟨_, _, rfl, ⟨by rw [sizeLine_eq]; exact hl, rfl⟩, o.here rh (.int _)⟩
      · exact o.elim
    · split at o
      · rename_i zs hz
        obtain ⟨a, ys, rfl, h1, r1⟩ := seqOf_at rh rv hz
        refine ⟨_, _, rfl, ?_, o.here rh (.int _)⟩
        rcases SqK.or h1 with h1 | h1
        · exact .inl ⟨ys, h1, r1.length⟩
        · exact .inr ⟨ys, h1, r1.length⟩
      · exact o.elim
  · exact o.elim
theorem snd_list1 : SndC K mg pList1 (fun xs H Q => ∃ p ys, xs = [.ref p] ∧ (SqL K H p ys ∨ SqT K H p ys) ∧ ∀ l, H l = none → Q (.ref l) (upd H l (.lst ys))) := by
  intro W s as H h xs Us Q rh rs o
  unfold pList1 at o
  split at o
  · obtain ⟨v, rfl, rv⟩ := rs.inv1
    split at o
    · rename_i p _ zs hz
      obtain ⟨a, ys, rfl, h1, r1⟩ := seqOf_at rh rv hz
      refine ⟨_, ys, rfl, ?_, fun l nl => ?_⟩
      · cases hk : kindK p with
        | true => rw [hk] at h1; exact .inr h1
        | false => rw [hk] at h1; exact .inl h1
      · have S := Stp.new (o := .lst ys) rh nl
        refine o _ _ _ S (rh.new nl ⟨_, upd_same, r1.mono S⟩) (.obj ?_)
        rw [List.getElem?_append_right (by rw [rh.len]; exact Nat.le_refl _), rh.len, Nat.sub_self]
        rfl
    · exact o.elim
  · exact o.elim
theorem snd_tuple1 : SndC K mg pTuple1 (fun xs H Q => ∃ p ys, xs = [.ref p] ∧ ((SqL K H p ys ∧ ∀ l, H l = none → Q (.ref l) (upd H l (.tup ys))) ∨ (SqT K H p ys ∧ Q (.ref p) H))) := by
  intro W s as H h xs Us Q rh rs o
  unfold pTuple1 at o
  split at o
  · obtain ⟨v, rfl, rv⟩ := rs.inv1
    split at o
    · rename_i p _ zs hz
      obtain ⟨a, ys, rfl, h1, r1⟩ := seqOf_at rh rv hz
      refine ⟨_, ys, rfl, ?_⟩
      cases hk : kindK p with
      | true =>
        rw [hk] at h1
        exact .inr ⟨h1, o.here rh (.tup h1 r1)⟩
      | false =>
        rw [hk] at h1
        exact .inl ⟨h1, fun l nl => o _ _ _ (Stp.lay rh nl) (rh.lay nl) (.tup (SqT.of upd_same) (r1.mono (Stp.lay rh nl)))⟩
    · exact o.elim
  · exact o.elim
/-! ### own classes -/
/-- what the top says of an own class -/
structure OwnC (K : PySem.W.Frag) (mg : Str → Option Value) (c : Str) (C : Addr) : Prop where
  gC : mg c = some (.ref C)
  cl : Cls K C
  ha : PySem.W.findIn K (.ref C) "__class__" = some (some (.builtin "object.__class__"))
  hn : PySem.W.specialIn K (.builtin "object.__class__") "__get__" = some (some (.builtin "getset_descriptor.__get__"))
  htk : PySem.W.takesIn K (.builtin "object.__class__") = some true
  hm : PySem.W.mroIn K C (.type "object") = some true
  bi : ∀ n, tyNames.contains n = true → PySem.W.kitOne K (.type n) (.ref C) = some false
  bo : ∀ n, tyNames.contains n = true → PySem.W.kitOne K (.ref C) (.type n) = some false
/-- .. and of all of them together -/
structure OwnCs (K : PySem.W.Frag) (mg : Str → Option Value) (cs : List Str) : Prop where
  one : ∀ c, cs.contains c = true → ∃ C, OwnC K mg c C
  two : ∀ c d C D, cs.contains c = true → cs.contains d = true → mg c = some (.ref C) → mg d = some (.ref D) → PySem.W.kitOne K (.ref D) (.ref C) = some (d == c)
theorem sub_kit : ∀ a ∈ tyNames, ∀ b ∈ tyNames, kitB a b = some (subTy a b) := by decide +kernel
theorem ty_in {v : PV} {h : IH} {a : String} (e : tyOf v h = some (.inl a)) : a ∈ tyNames := by
  cases v with
  | non => cases e; decide
  | bl => cases e; decide
  | int => cases e; decide
  | str => cases e; decide
  | tup => cases e; decide
  | fls => cases e; decide
  | obj n =>
    simp only [tyOf] at e
    split at e
    · cases e; decide
    · cases e
    · cases e; decide
    · cases e
  | glo => cases e
  | ty => cases e
  | key => cases e
theorem mem_of_contains {α : Type} [BEq α] [LawfulBEq α] {a : α} {l : List α} (h : l.contains a = true) : a ∈ l := by simpa using h
theorem tyX_of {as : List Addr} {H : Hp} {h : IH} {v : PV} {V : V} {cs : List Str} (O : OwnCs K mg cs) (x : RH K mg H as h) (r : RP K mg H as v V) {q : String ⊕ Str} (e : tyOf v h = some q) (hc : ∀ c, q = .inr c → cs.contains c = true) :
    ∃ t, TyX K H V t ∧ match q with
      | .inl a => t = .type a
      | .inr c => ∃ C, OwnC K mg c C ∧ t = .ref C := by
  cases r with
  | non => cases e; exact ⟨_, .base .non, rfl⟩
  | bl b => cases e; exact ⟨_, .base (.bl b), rfl⟩
  | int i => cases e; exact ⟨_, .base (.int i), rfl⟩
  | str y => cases e; exact ⟨_, .base (.str y), rfl⟩
  | tup hs rs =>
    cases e
    rcases hs with (hs | ⟨o, hs⟩) | ⟨o, its, n, h1, h2, _⟩
    · exact ⟨_, .base (.tup hs), rfl⟩
    · exact ⟨_, .fTuple hs, rfl⟩
    · exact ⟨_, .kTuple h1 h2, rfl⟩
  | fls hs rs =>
    cases e
    rcases hs with ⟨o, hs⟩ | ⟨o, its, n, h1, h2, _⟩
    · exact ⟨_, .base (.frz hs), rfl⟩
    · exact ⟨_, .kList h1 h2, rfl⟩
  | obj ha =>
    simp only [tyOf] at e
    split at e
    · rename_i zs hz
      cases e
      obtain ⟨b, e1, ys, e2, rs⟩ := x.at_ _ _ hz
      rw [ha] at e1; cases e1
      exact ⟨_, .base (.lst e2), rfl⟩
    · rename_i c fs hz
      cases e
      obtain ⟨b, e1, C, dx, gs, g0, e2, _⟩ := x.at_ _ _ hz
      rw [ha] at e1; cases e1
      obtain ⟨C', oc⟩ := O.one c (hc c rfl)
      have : C' = C := by
        have := oc.gC.symm.trans g0
        cases this
        rfl
      subst this
      exact ⟨_, .base (.ins e2 oc.cl oc.ha oc.hn oc.htk oc.hm), C', oc, rfl⟩
    · rename_i kvs hz
      cases e
      obtain ⟨b, e1, gs, e2, _⟩ := x.at_ _ _ hz
      rw [ha] at e1; cases e1
      exact ⟨_, .base (.dT e2), rfl⟩
    · cases e
  | glo => cases e
  | ty => cases e
  | key => cases e
theorem snd_isi {cs : List Str} (O : OwnCs K mg cs) : SndC K mg (pIsi cs) (rIsi K) := by
  intro W s as H h xs Us Q rh rs o
  unfold pIsi at o
  split at o
  · obtain ⟨v, w, rfl, rv, rw'⟩ := rs.inv2
    split at o
    · rename_i a n e
      split at o
      · rename_i hn
        obtain ⟨t, h1, rfl⟩ := tyX_of O rh rv e (fun c z => nomatch z)
        cases rw'
        exact ⟨_, _, _, _, _, rfl, .ty n, h1, kit_ty (sub_kit _ (ty_in e) _ (mem_of_contains hn)), o.here rh (.bl _)⟩
      · exact o.elim
    · rename_i a C e
      split at o
      · rename_i hn
        obtain ⟨t, h1, rfl⟩ := tyX_of O rh rv e (fun c z => nomatch z)
        obtain ⟨D, oc⟩ := O.one _ hn
        cases rw' with
        | glo g1 g2 =>
          rw [oc.gC] at g1
          cases g1
          have g3 : w = .ref D := by
            cases w <;> first | (obtain ⟨_, z⟩ := g2; cases z) | cases g2
            all_goals rfl
          subst g3
          exact ⟨_, _, _, _, _, rfl, .own D, h1, oc.bi _ (by simpa using ty_in e), o.here rh (.bl _)⟩
      · exact o.elim
    · rename_i D C e
      split at o
      · rename_i hn
        obtain ⟨n1, n2⟩ := Bool.and_eq_true_iff.mp hn
        obtain ⟨t, h1, E', oc, rfl⟩ := tyX_of O rh rv e (fun c z => by cases z; exact n2)
        obtain ⟨G, oc'⟩ := O.one _ n1
        cases rw' with
        | glo g1 g2 =>
          rw [oc'.gC] at g1
          cases g1
          have g3 : w = .ref G := by
            cases w <;> first | (obtain ⟨_, z⟩ := g2; cases z) | cases g2
            all_goals rfl
          subst g3
          exact ⟨_, _, _, _, _, rfl, .own G, h1, O.two _ _ _ _ n1 n2 oc'.gC oc.gC, o.here rh (.bl _)⟩
      · exact o.elim
    · rename_i D n e
      split at o
      · rename_i hn
        obtain ⟨n1, n2⟩ := Bool.and_eq_true_iff.mp hn
        obtain ⟨t, h1, E', oc, rfl⟩ := tyX_of O rh rv e (fun c z => by cases z; exact n1)
        cases rw'
        exact ⟨_, _, _, _, _, rfl, .ty n, h1, oc.bo _ n2, o.here rh (.bl _)⟩
      · exact o.elim
    · exact o.elim
  · exact o.elim

/-! ### lists, fields -/
theorem ie_append {apos : Pos} (ho : PE X o (IE X.K X.mg W A)) (ha : PA X (e :: es) (IA X.K X.mg W L)) (hbase : attributeBase o "append" X.env (eval o X.env) = eval o X.env := by rfl)
    (hfew : ((backTo pos (starEach (e :: es) X.env)).all (fun x => !x.1) && (backToKw pos (keywordEach [] X.env)).all (fun x => x.1.isSome)
      && decide ((e :: es).length + ([] : List Keyword).length + (if ([] : List Keyword).isEmpty then 0 else 1) < 30)) = true := by rfl)
    (hline : (apos.endLine == pos.line) = true := by rfl) (hs : starEach (e :: es) X.env = (false, eval e X.env) :: starEach es X.env := by rfl) (hplain : (backTo pos (starEach es X.env)).any (·.1) = false := by rfl) :
    PE X (.Call (.Attribute o "append" apos) (e :: es) [] pos) (IE X.K X.mg W (eAppend A L)) := by
  refine peImp (pe_bm PySem.F.plainAttrs_list PySem.F.slot_list_append PySem.F.type_list_append mt_append ho ha hbase hfew hline hs hplain) fun s H Q ⟨as, ρ, hh, f, x, o⟩ => ?_
  refine ⟨as, ρ, hh, f, x, (Out.bind o).imp fun V H1 ⟨as1, h1, p1, S1, x1, r1, o1⟩ => ?_⟩
  split at o1
  · rename_i n
    cases r1 with
    | obj hn =>
      split at o1
      · rename_i ys hy
        obtain ⟨b, e1, us, e2, rs⟩ := x1.at_ _ _ hy
        rw [hn] at e1; cases e1
        refine ⟨.inl ⟨rfl, _, SqL.of e2⟩, as1, ρ, h1, f.mono S1, x1, (Out.bind o1).imp fun Vs H2 ⟨as2, h2, p2, S2, x2, r2, o2⟩ => ?_⟩
        split at o2
        · rename_i y xs hx
          split at o2
          · rename_i hl
            obtain ⟨v, rfl, rv⟩ := r2.inv1
            obtain ⟨b', e3, ws, e4, rs'⟩ := x2.at_ _ _ hx
            have hn2 := S2.get hn
            rw [hn2] at e3; cases e3
            refine ⟨_, ws, v, rfl, rfl, e4, by rw [sizeLine_eq, ← rs'.length]; exact hl, ?_⟩
            have S3 := Stp.put (o := .lst (ws ++ [v])) x2 hn2 hx
            exact o2 _ _ _ S3 (x2.put hn2 hx ⟨_, upd_same, (rs'.append (.one rv)).mono S3⟩) .non
          · exact o2.elim
        · exact o2.elim
      · exact o1.elim
  · exact o1.elim
theorem is_setix {i v : Expr} {ppos : Pos} {O I V : EX} (hv : PE X v (IE X.K X.mg W V)) (ho : PE X o (IE X.K X.mg W O)) (hi : PE X i (IE X.K X.mg W I))
    (hset : ∀ v, assign (.Subscript o i ppos) X.env v = (do
      let ov ← holding [v] (eval o X.env)
      let iv ← holding [v, ov] (eval i X.env)
      standAt ppos
      holding [v, ov, iv] (setItem ov iv v)
      release [v, ov, iv] []) := by intro _; rfl)
    (hs : swapsWithSole [.Subscript o i ppos] v pos.line X.env = pure false := by rfl) (hw : swappedStores [.Subscript o i ppos] v X.env = pure none := by rfl)
    (h1 : (assignEach [.Subscript o i ppos] X.env).map (·.2) = [assign (.Subscript o i ppos) X.env] := by rfl) : PS X (.Assign [.Subscript o i ppos] v pos) (IS X.K X.mg W (sSetIx O I V)) := by
  refine psImp (ps_asg hv (pg_sub ho hi set_list hset) hs hw h1) fun D s H ⟨as, r, h, f, x, out⟩ => ?_
  have o' := outS_of (R := fun _ _ (_ : Unit) (_ : Unit) => True) f out
  refine ⟨as, r, h, f, x, (Out.bind o').imp fun U H1 ⟨as1, h1, p1, S1, x1, r1, o1⟩ => ?_⟩
  refine ⟨as1, r, h1, f.mono S1, x1, (Out.bind o1).imp fun U2 H2 ⟨as2, h2, p2, S2, x2, r2, o2⟩ => ?_⟩
  refine ⟨as2, r, h2, (f.mono S1).mono S2, x2, (Out.bind o2).imp fun U3 H3 ⟨as3, h3, p3, S3, x3, r3, o3⟩ => ?_⟩
  have r2' := r2.mono S3
  have r1' := (r1.mono S2).mono S3
  split at o3
  · cases r2' with
    | obj hn =>
      cases r3
      split at o3
      · rename_i xs hx
        split at o3
        · rename_i j hj
          obtain ⟨b, e1, us, e2, rs⟩ := x3.at_ _ _ hx
          rw [hn] at e1; cases e1
          refine ⟨_, us, _, j, rfl, rfl, e2, by rw [← rs.length]; exact hj, ?_⟩
          have S4 := Stp.put (o := .lst (us.set j U)) x3 hn hx
          obtain ⟨as5, h5, _, S5, x5, _, o5⟩ := o3 () _ _ S4 (x3.put hn hx ⟨_, upd_same, (RPs.set r1' j rs).mono S4⟩) trivial
          exact o5 s _ as5 (Stp.refl _ _) x5 (f.mono S5)
        · exact o3.elim
      · exact o3.elim
  · exact o3.elim
/-- the fields of an instance -/
theorem fld_at {as : List Addr} {H : Hp} : ∀ {fs : List (Str × PV)} {gs : List (Str × V)} {f : Str} {v : PV}, gs.map (·.1) = fs.map (·.1) → RPs K mg H as (fs.map (·.2)) (gs.map (·.2)) → fs.lookup f = some v → ∃ V, gs.lookup f = some V ∧ RP K mg H as v V
  | [], _, _, _, _, _, e => by cases e
  | _ :: _, [], _, _, h, _, _ => by cases h
  | (n, p) :: fs, (m, q) :: gs, f, v, h, r, e => by
    rw [List.map_cons, List.map_cons] at h
    injection h with h1 h2
    have h1' : m = n := h1
    subst h1'
    cases r with
    | cons a b =>
      simp only [List.lookup] at e ⊢
      split at e
      · cases e
        exact ⟨q, rfl, a⟩
      · exact fld_at h2 b e
theorem fld_none {fs : List (Str × PV)} {gs : List (Str × V)} {f : Str} (h : gs.map (·.1) = fs.map (·.1)) (e : fs.lookup f = none) : gs.lookup f = none := by
  induction fs generalizing gs with
  | nil =>
    cases gs with
    | nil => rfl
    | cons _ _ => cases h
  | cons p fs ih =>
    cases gs with
    | nil => cases h
    | cons q gs =>
      obtain ⟨n, p⟩ := p
      obtain ⟨m, q⟩ := q
      rw [List.map_cons, List.map_cons] at h
      injection h with h1 h2
      have h1' : m = n := h1
      subst h1'
      simp only [List.lookup] at e ⊢
      split at e
      · cases e
      · exact ih h2 e
theorem put_keys (f : Str) (v : PV) (V : V) : ∀ {fs : List (Str × PV)} {gs : List (Str × L2.V)}, gs.map (·.1) = fs.map (·.1) → (putF f V gs).map (·.1) = (putP f v fs).map (·.1)
  | [], [], _ => rfl
  | [], _ :: _, h => by cases h
  | _ :: _, [], h => by cases h
  | (n, p) :: fs, (m, q) :: gs, h => by
    rw [List.map_cons, List.map_cons] at h
    injection h with h1 h2
    have h1' : m = n := h1
    subst h1'
    unfold putF putP
    split
    · rw [List.map_cons, List.map_cons, h2]
    · rw [List.map_cons, List.map_cons, put_keys f v V h2]
theorem put_vals {as : List Addr} {H : Hp} {f : Str} {v : PV} {V : V} (rv : RP K mg H as v V) : ∀ {fs : List (Str × PV)} {gs : List (Str × L2.V)}, gs.map (·.1) = fs.map (·.1) → RPs K mg H as (fs.map (·.2)) (gs.map (·.2)) → RPs K mg H as ((putP f v fs).map (·.2)) ((putF f V gs).map (·.2))
  | [], [], _, _ => .one rv
  | [], _ :: _, h, _ => by cases h
  | _ :: _, [], h, _ => by cases h
  | (n, p) :: fs, (m, q) :: gs, h, r => by
    rw [List.map_cons, List.map_cons] at h
    injection h with h1 h2
    have h1' : m = n := h1
    subst h1'
    cases r with
    | cons a b =>
      unfold putF putP
      split
      · exact .cons rv b
      · exact .cons a (put_vals rv h2 b)
theorem ie_fld {c f : Str} {Cc : Addr} (gc : X.mg c = some (.ref Cc)) (cl : Cls X.K Cc) (na : NoAttr X.K Cc f) (he : PE X e (IE X.K X.mg W A)) (hb : attributeBase e f X.env (eval e X.env) = eval e X.env := by rfl) : PE X (.Attribute e f pos) (IE X.K X.mg W (eFld c f A)) := by
  refine peImp (pe_fld he hb) fun s H Q ⟨as, ρ, hh, g, x, o⟩ => ?_
  refine ⟨as, ρ, hh, g, x, (Out.bind o).imp fun V H1 ⟨as1, h1, p1, S1, x1, r1, o1⟩ => ?_⟩
  split at o1
  · cases r1 with
    | obj hn =>
      split at o1
      · rename_i c' fs hx
        split at o1
        · rename_i hc
          subst hc
          obtain ⟨b, e1, C', dx, gs, g0, e2, e3, rs⟩ := x1.at_ _ _ hx
          rw [hn] at e1; cases e1
          rw [gc] at g0; cases g0
          unfold opt at o1
          split at o1
          · rename_i v hv
            obtain ⟨V', l1, rv⟩ := fld_at e3 rs hv
            exact ⟨_, _, dx, gs, V', rfl, e2, cl, na, l1, o1.here x1 rv⟩
          · exact o1.elim
        · exact o1.elim
      · exact o1.elim
  · exact o1.elim
theorem is_fld {c f : Str} {Cc : Addr} {v : Expr} {V : EX} {ppos : Pos} (gc : X.mg c = some (.ref Cc)) (cl : Cls X.K Cc) (na : NoAttr X.K Cc f) (ha : PE X o (IE X.K X.mg W A)) (hv : PE X v (IE X.K X.mg W V)) (hs : swapsWith v (some (.Attribute o f ppos)) pos.line X.env = pure false := by rfl) :
    PS X (.Assign [.Attribute o f ppos] v pos) (IS X.K X.mg W (sFldX c f A V)) := by
  refine psImp (ps_fld ha hv hs) fun D s H ⟨as, r, h, g, x, out⟩ => ?_
  have o' := outS_of (R := fun _ _ (_ : Unit) (_ : Unit) => True) g out
  refine ⟨as, r, h, g, x, (Out.bind o').imp fun U H1 ⟨as1, h1, p1, S1, x1, r1, o1⟩ => ?_⟩
  refine ⟨as1, r, h1, g.mono S1, x1, (Out.bind o1).imp fun U2 H2 ⟨as2, h2, p2, S2, x2, r2, o2⟩ => ?_⟩
  have r1' := r1.mono S2
  split at o2
  · cases r2 with
    | obj hn =>
      split at o2
      · rename_i c' fs hx
        split at o2
        · rename_i hc
          obtain ⟨hc, hl⟩ := hc
          subst hc
          obtain ⟨b, e1, C', dx, gs, g0, e2, e3, rs⟩ := x2.at_ _ _ hx
          rw [hn] at e1; cases e1
          rw [gc] at g0; cases g0
          have el : gs.length = fs.length := by
            have := congrArg List.length e3
            simpa using this
          refine ⟨_, _, dx, gs, rfl, e2, cl, na, by rw [el]; exact hl, ?_⟩
          have S3 := Stp.put (o := .ins Cc dx (putF f U gs)) x2 hn hx
          obtain ⟨as5, h5, _, S5, x5, _, o5⟩ := o2 () _ _ S3 (x2.put hn hx ⟨Cc, dx, _, gc, upd_same, put_keys f _ U e3, put_vals (r1'.mono S3) e3 (rs.mono S3)⟩) trivial
          exact o5 s _ as5 (Stp.refl _ _) x5 (g.mono S5)
        · exact o2.elim
      · exact o2.elim
  · exact o2.elim
end
end WR

/-! instances made, methods, properties, own len and ==; chains of comparisons -/
namespace WR
open PySem PySem.Spec PyProof.Rows L2
@[simp] def mkO (c : Str) (F : List PV → IH → Res PV) : List PV → IH → Res PV := fun us h => (F (.obj h.length :: us) (h ++ [.ins c []])).bind fun v h1 => match v with
  | .non => .ok (.obj h.length) h1
  | _ => .bad
section
variable {X : Cx} {CX : CXT} {k : Nat} {f C : Addr} {fd : FuncData} {ps : List Str} {sp : Sp} {E : L2.St → XK} {x m : Str} {p pos apos : Pos} {e o : Expr} {es : List Expr} {ta : TE} {t : TA}
theorem run_makeS {pins : List (Addr × Obj)} {σ : L2.St} {H : Hp} {s : Shared} {Q : VK} {us : List Value} {vs : List V} (M : Mk X.K C f) (F : FnOk X.prog X.w X.K X.mg X.base CX k f fd ps sp) (hr : Room (k + 1) X.A) (hb : Binds X.K fd ps [])
    (hx : PassesAt CX X σ (E σ)) (I : Inv X pins σ H s) (r : Vals vs us)
    (h : ∀ x dx, H x = none → H dx = none → dx ≠ x → sp (.ref x :: vs) (upd (upd H dx (.own x)) x (.ins C dx [])) (fun v H2 => v = .non ∧ Q (.ref x) H2) (E σ)) :
    wpAny (model X.prog X.w) X.A (call (.ref C) us) (EP X pins σ Q) X.xe s := by
  have hq := h (s.heap.objs.size + 1) s.heap.objs.size (I.hok.fresh (Nat.le_succ _)) (I.hok.fresh (Nat.le_refl _)) (Nat.ne_of_lt (Nat.lt_succ_self _))
  have I2 := Inv.made (C := C) I
  have r2 : Vals (V.ref (s.heap.objs.size + 1) :: vs) (Value.ref (s.heap.objs.size + 1) :: us) := .cons rfl r
  have hl : (Value.ref (s.heap.objs.size + 1) :: us).length = ps.length := by
    have e := r2.length
    rw [F.len _ _ _ _ hq] at e
    exact e.symm
  have bb := hb _ (Value.ref (s.heap.objs.size + 1) :: us) I2.kIn (by rw [List.append_nil]; exact hl)
  rw [List.append_nil] at bb
  refine wpAny_call (make_map (f := f) I.kIn M.makes M.init (beq_iff_eq.mp M.fn) (codeAny_mono (F.run _ X.stack _ _ ⟨Value.ref (s.heap.objs.size + 1) :: us, []⟩ (Value.ref (s.heap.objs.size + 1) :: us) _ _ (E σ) (hr.make C us [])
    (I2.env0.make C us []) bb r2 hq) fun r s' hq' => ?_))
  cases r with
  | error e => exact hx pins _ _ e s' I2 hq'
  | ok fl =>
    cases fl with
    | ret u =>
      obtain ⟨v, H', I3, rv, ev, q3⟩ := I2.after hq'
      subst ev
      exact ⟨rv, ⟨V.ref (s.heap.objs.size + 1), H', I3, rfl, q3⟩⟩
    | next => exact False.elim hq'
    | brk => exact False.elim hq'
    | cont => exact False.elim hq'
def tMakeS (C : Addr) (sp : Sp) (E : L2.St → XK) (t : TA) : TE := fun σ H Q => t σ H fun vs H1 => ∀ x dx, H1 x = none → H1 dx = none → dx ≠ x →
  sp (.ref x :: vs) (upd (upd H1 dx (.own x)) x (.ins C dx [])) (fun v H2 => v = .non ∧ Q (.ref x) H2) (E σ)
theorem pe_makeS (M : Mk X.K C f) (F : FnOk X.prog X.w X.K X.mg X.base CX k f fd ps sp) (hr : Room (k + 1) X.A) (hg : Gl X x) (hm : X.mg x = some (.ref C)) (hb : Binds X.K fd ps []) (hx : ∀ σ, PassesAt CX X σ (E σ))
    (ha : PA X (e :: es) t) (hdb : (x == ("__debug__" : Str)) = false := by decide) (he : starEach (e :: es) X.env = (false, eval e X.env) :: starEach es X.env := by rfl) (hpl : (backTo pos (starEach es X.env)).any (·.1) = false := by rfl) :
    PE X (.Call (.Name x p) (e :: es) [] pos) (tMakeS C sp E t) := by
  refine ⟨fun pins s σ H Q I h => ?_⟩
  refine wpAny_Call_Name_kw (ld_glob I hg hm ?_ hdb)
  refine PySem.W.callWith_K (h₀ := X.base) I.ok.mod.kin M.kp (thn (ha.run pos pins s σ H _ I h) fun us s1 ⟨vs, H1, I1, r, q⟩ => ⟨I1.kIn, ?_⟩) he hpl
  exact run_makeS M F hr hb (hx σ) I1 r q
def tMethS (C : Addr) (m : Str) (sp : Sp) (E : L2.St → XK) (ta : TE) (t : TA) : TE := fun σ H Q => ta σ H fun x H1 => ∃ a dx fs, x = .ref a ∧ H1 a = some (.ins C dx fs) ∧ fs.lookup m = none ∧
  t σ H1 fun vs H2 => sp (x :: vs) H2 Q (E σ)
theorem pe_methS {pl : Sem Bool} (he : PE X o ta) (c : Cls X.K C) (hm : Meth X.K C m f) (F : FnOk X.prog X.w X.K X.mg X.base CX k f fd ps sp) (hr : Room k X.A) (hb : Binds X.K fd ps []) (hx : ∀ σ, PassesAt CX X σ (E σ)) (ha : PA X (e :: es) t)
    (hst : starEach (e :: es) X.env = (false, eval e X.env) :: starEach es X.env := by rfl) (hpl : (backTo pos (starEach es X.env)).any (·.1) = false := by rfl)
    (ht : eval (.Call (.Attribute o m apos) (e :: es) [] pos) X.env = (do
      let ov ← eval o X.env
      standAt apos.atName
      let (f, first) ← holding [ov] (getMethod ov m pl)
      callWith pos f first (backTo pos (starEach (e :: es) X.env)) (backToKw pos (keywordEach [] X.env))) := by rfl) :
    PE X (.Call (.Attribute o m apos) (e :: es) [] pos) (tMethS C m sp E ta t) := by
  refine ⟨fun pins s σ H Q I h => ?_⟩
  refine PySem.W.methodCall_KW (pl := pl) (thn (he.run pins s σ H _ I h) fun u s1 ⟨x, H1, I1, rx, a, dx, fs, ex, ea, l, q⟩ => ?_) ht
  subst ex
  obtain rfl : u = Value.ref a := rx
  refine getmeth_ok I1 ea c hm l ?_
  refine PySem.W.callWith_K (first := [.ref a]) (h₀ := X.base) I.ok.mod.kin hm.kp (thn (ha.run pos pins s1 σ H1 _ I1 q) fun us s2 ⟨vs, H2, I2, r, q2⟩ => ⟨I2.kIn, ?_⟩) hst hpl
  exact run_fnS (us := .ref a :: us) (vs := .ref a :: vs) F hr hb (hx σ) I2 (.cons rfl r) q2
theorem pe_methS0 {pl : Sem Bool} (he : PE X o ta) (c : Cls X.K C) (hm : Meth X.K C m f) (F : FnOk X.prog X.w X.K X.mg X.base CX k f fd ps sp) (hr : Room k X.A) (hb : Binds X.K fd ps []) (hx : ∀ σ, PassesAt CX X σ (E σ))
    (ht : eval (.Call (.Attribute o m apos) [] [] pos) X.env = (do
      let ov ← eval o X.env
      standAt apos.atName
      let (f, first) ← holding [ov] (getMethod ov m pl)
      callWith pos f first (backTo pos (starEach [] X.env)) (backToKw pos (keywordEach [] X.env))) := by rfl) :
    PE X (.Call (.Attribute o m apos) [] [] pos) (tMethS C m sp E ta tNil) := by
  refine ⟨fun pins s σ H Q I h => ?_⟩
  refine PySem.W.methodCall_KW (pl := pl) (thn (he.run pins s σ H _ I h) fun u s1 ⟨x, H1, I1, rx, a, dx, fs, ex, ea, l, q⟩ => ?_) ht
  subst ex
  obtain rfl : u = Value.ref a := rx
  refine getmeth_ok I1 ea c hm l ?_
  exact PySem.W.callWith_K0 (first := [.ref a]) I1.kIn hm.kp (run_fnS (us := [.ref a]) (vs := [.ref a]) F hr hb (hx σ) I1 (.cons rfl .nil) q)
/-- len of an own class's instance -/
def rLenO (C : Addr) (sp : Sp) : List V → Hp → VK → Prop := fun xs H Q => ∃ a dx fs, xs = [.ref a] ∧ H a = some (.ins C dx fs) ∧ sp [.ref a] H (fun v H' => ∃ n : Int, v = .int n ∧ 0 ≤ n ∧ n < 2 ^ 63 ∧ Q (.int n) H') E0
theorem call_lenO (F : FnOk X.prog X.w X.K X.mg X.base (L2.CX X.prog X.w) k f fd ps sp) (hs : PySem.W.findIn X.K (.ref C) "__len__" = some (some (.ref f))) (hf : PySem.W.isFn X.K (.ref f) = true) (hb : Binds X.K fd ps []) (hr : Room (k + 1) X.A) : CallR X (.builtin "len") (rLenO C sp) := by
  intro pins s σ H xs us Q I r h
  obtain ⟨a, dx, fs, rfl, ea, q⟩ := h
  obtain ⟨u, rfl, ru⟩ := vals1 r
  cases ru
  obtain ⟨mA, J, _⟩ := ins_get I.hok ea
  obtain ⟨od, J, _⟩ := J.look
  obtain ⟨m, hF⟩ := I.fr
  have hl := F.len _ _ _ _ q
  have bb := hb s [.ref a] I.kIn (by simpa using hl)
  refine PySem.W.len_K hF I.ok.mod.kin J hs hf ?_
  refine wpAny_call (codeAny_mono (F.run X.A.in1 X.stack s H ⟨[.ref a], []⟩ [.ref a] [.ref a] _ E0 hr.in1 I.env0.in1 (by simpa using bb) (.cons rfl .nil) q) fun r s' hq => ?_)
  cases r with
  | error er => exact (passL (X := X.nox) pins σ H s er s' (I.wish _) hq).elim
  | ok fl =>
    cases fl with
    | ret w =>
      obtain ⟨v, H', I', rv, n, rfl, h0, h1, qn⟩ := I.after hq
      obtain ⟨tk, rfl⟩ := rv
      exact ⟨⟨h0, h1⟩, ⟨.int n, H', I'.tok _, ⟨_, rfl⟩, qn⟩⟩
    | next => exact False.elim hq
    | brk => exact False.elim hq
    | cont => exact False.elim hq
/-- == of an own class's instance and another one, or a tuple -/
def rEqO (K : PySem.W.Frag) (C : Addr) (sp : Sp) : R2 := fun x y H Q => ∃ a b dx fs, x = .ref a ∧ y = .ref b ∧ H a = some (.ins C dx fs) ∧ ((∃ dy gs, H b = some (.ins C dy gs)) ∨ ∃ ys, SqT K H b ys) ∧
  sp [.ref a, .ref b] H (fun v H' => ∃ q : Bool, v = .bl q ∧ Q (.bl q) H') E0
theorem op_eqO (F : FnOk X.prog X.w X.K X.mg X.base (L2.CX X.prog X.w) k f fd ps sp) (hs : PySem.W.findIn X.K (.ref C) "__eq__" = some (some (.ref f))) (hf : PySem.W.isFn X.K (.ref f) = true) (hb : Binds X.K fd ps []) (hr : Room k X.A)
    (hn : PySem.W.notFirst X.K C (.type "tuple") = true) : OpR X (compareOp .Eq) (rEqO X.K C sp) := by
  intro pins s σ H x y v u Q I rx ry h
  obtain ⟨a, b, dx, fs, rfl, rfl, ea, eb, q⟩ := h
  cases rx
  cases ry
  obtain ⟨mA, J, _⟩ := ins_get I.hok ea
  obtain ⟨od, J, _⟩ := J.look
  obtain ⟨m, hF⟩ := I.fr
  have hl := F.len _ _ _ _ q
  have bb := hb s [.ref a, .ref b] I.kIn (by simpa using hl)
  have go : wpAny (model X.prog X.w) X.A (call (.ref f) [.ref a, .ref b]) (PySem.W.CmpBack (EP X pins σ Q)) X.xe s := by
    refine wpAny_call (codeAny_mono (F.run X.A X.stack s H ⟨[.ref a, .ref b], []⟩ [.ref a, .ref b] [.ref a, .ref b] _ E0 hr I.env0 (by simpa using bb) (.cons rfl (.cons rfl .nil)) q) fun r s' hq => ?_)
    cases r with
    | error er => exact passL pins σ H s er s' I hq
    | ok fl =>
      cases fl with
      | ret w =>
        obtain ⟨v, H', I', rv, n, rfl, qn⟩ := I.after hq
        cases rv
        exact ⟨.bl n, H', I', rfl, qn⟩
      | next => exact False.elim hq
      | brk => exact False.elim hq
      | cont => exact False.elim hq
  show wpAny (model X.prog X.w) X.A (richCompare .Eq (.ref a) (.ref b)) (EP X pins σ Q) X.xe s
  rcases eb with ⟨dy, gs, eb⟩ | ⟨ys, eb⟩
  · obtain ⟨mB, J', _⟩ := ins_get I.hok eb
    obtain ⟨od', J', _⟩ := J'.look
    exact PySem.W.cmp_K (op := .Eq) (tb := .ref C) hr.units0 hF I.ok.mod.kin J J'.type (by simp [PySem.W.notFirst]) hs hf go
  · obtain ⟨its, rv, ⟨ob, ho, hc, _⟩, _⟩ := I.tuple eb
    have L : PySem.W.Looks (model X.prog X.w) s.heap (typeOf (.ref b)) (.type "tuple") := fun A Q E s k q => wpAny_typeOf_ref (k _ _ ho) (by rw [hc]; exact q)
    exact PySem.W.cmp_K (op := .Eq) (tb := .type "tuple") hr.units0 hF I.ok.mod.kin J L hn hs hf go
end
section
variable {X : Cx} {W : WX} {k : Nat} {a b e o c : Expr} {es : List Expr} {pos : Pos} {A B C : EX} {L : AX}
theorem ie_make {f Cc : Addr} {fd : FuncData} {ps : List Str} {x : Str} {p : Pos} {F : List PV → IH → Res PV} {n j : Nat} (cx : Ctx X W k) (M : Mk X.K Cc f) (G : FnOk X.prog X.w X.K X.mg X.base (L2.CX X.prog X.w) j f fd ps (SpF X.K X.mg n F)) (hj : j + 1 ≤ k) (hm : X.mg x = some (.ref Cc)) (hb : Binds X.K fd ps [])
    (ha : PA X (e :: es) (IA X.K X.mg W L)) (hF : ∀ us h, us.length ≠ n → F us h = .bad) (hg : Gl X x := by rfl) (hdb : (x == ("__debug__" : Str)) = false := by decide) (he : starEach (e :: es) X.env = (false, eval e X.env) :: starEach es X.env := by rfl) (hpl : (backTo pos (starEach es X.env)).any (·.1) = false := by rfl) :
    PE X (.Call (.Name x p) (e :: es) [] pos) (IE X.K X.mg W (eCall (mkO x F) L)) := by
  refine peImp (pe_makeS M G (cx.room.mono hj) hg hm hb (fun s => passAt cx.tk s) ha hdb he hpl) fun s H Q ⟨as, r, h, g, z, o⟩ => ?_
  refine ⟨as, r, h, g, z, (Out.bind o).imp fun Vs H1 ⟨as1, h1, us, S1, x1, r1, o1⟩ => ?_⟩
  intro y dy ny nd hne
  have x2 : RH X.K X.mg (upd H1 dy (.own y)) as1 h1 := x1.lay nd
  have S2 : Stp as1 H1 as1 (upd H1 dy (.own y)) := Stp.lay x1 nd
  have ny' : upd H1 dy (.own y) y = none := by rw [upd_ne (Ne.symm hne)]; exact ny
  have S3 := Stp.new (o := .ins Cc dy []) x2 ny'
  have x3 : RH X.K X.mg (upd (upd H1 dy (.own y)) y (.ins Cc dy [])) (as1 ++ [y]) (h1 ++ [.ins x []]) := x2.new ny' ⟨Cc, dy, [], hm, upd_same, rfl, .nil⟩
  have ro : RP X.K X.mg (upd (upd H1 dy (.own y)) y (.ins Cc dy [])) (as1 ++ [y]) (.obj h1.length) (.ref y) := .obj (by
    rw [List.getElem?_append_right (by rw [x1.len]; exact Nat.le_refl _), x1.len, Nat.sub_self]
    rfl)
  have rs : RPs X.K X.mg (upd (upd H1 dy (.own y)) y (.ins Cc dy [])) (as1 ++ [y]) (.obj h1.length :: us) (.ref y :: Vs) := .cons ro ((r1.mono S2).mono S3)
  have o2 := Out.shift (S2.trans S3) o1
  unfold mkO at o2
  refine SpF.of (W := W) (s := s) x3 rs ?_ ((Out.bind o2).imp fun V H4 ⟨as4, h4, v, S4, x4, r4, o4⟩ => ?_)
  · by_cases hn : (PV.obj h1.length :: us).length = n
    · exact hn
    · rw [hF _ _ hn] at o2; exact o2.elim
  · cases r4 with
    | non => exact ⟨rfl, o4.here x4 (ro.mono S4)⟩
    | bl => exact o4.elim
    | int => exact o4.elim
    | str => exact o4.elim
    | tup => exact o4.elim
    | fls => exact o4.elim
    | obj => exact o4.elim
    | glo => exact o4.elim
    | ty => exact o4.elim
    | key => exact o4.elim
theorem ie_meth {f Cc : Addr} {fd : FuncData} {ps : List Str} {m cn : Str} {apos : Pos} {F : List PV → IH → Res PV} {n j : Nat} (pl : Sem Bool) (cx : Ctx X W k) (gc : X.mg cn = some (.ref Cc)) (cl : Cls X.K Cc) (hm : Meth X.K Cc m f) (G : FnOk X.prog X.w X.K X.mg X.base (L2.CX X.prog X.w) j f fd ps (SpF X.K X.mg n F)) (hj : j ≤ k) (hb : Binds X.K fd ps [])
    (ho : PE X o (IE X.K X.mg W A)) (ha : PA X (e :: es) (IA X.K X.mg W L)) (hF : ∀ us h, us.length ≠ n → F us h = .bad)
    (hst : starEach (e :: es) X.env = (false, eval e X.env) :: starEach es X.env := by rfl) (hpl : (backTo pos (starEach es X.env)).any (·.1) = false := by rfl)
    (ht : eval (.Call (.Attribute o m apos) (e :: es) [] pos) X.env = (do
      let ov ← eval o X.env
      standAt apos.atName
      let (f, first) ← holding [ov] (getMethod ov m pl)
      callWith pos f first (backTo pos (starEach (e :: es) X.env)) (backToKw pos (keywordEach [] X.env))) := by rfl) :
    PE X (.Call (.Attribute o m apos) (e :: es) [] pos) (IE X.K X.mg W (eMeth cn m F A L)) := by
  refine peImp (pe_methS ho cl hm G (cx.room.mono hj) hb (fun s => passAt cx.tk s) ha hst hpl ht) fun s H Q ⟨as, r, h, g, z, o⟩ => ?_
  refine ⟨as, r, h, g, z, (Out.bind o).imp fun V H1 ⟨as1, h1, p1, S1, x1, r1, o1⟩ => ?_⟩
  split at o1
  · cases r1 with
    | obj hn =>
      split at o1
      · rename_i c' fs hx
        split at o1
        · rename_i hc
          obtain ⟨hc, hl⟩ := hc
          subst hc
          obtain ⟨b, e1, C', dx, gs, g0, e2, e3, rs⟩ := x1.at_ _ _ hx
          rw [hn] at e1; cases e1
          rw [gc] at g0; cases g0
          refine ⟨_, dx, gs, rfl, e2, fld_none e3 hl, as1, r, h1, g.mono S1, x1, (Out.bind o1).imp fun Vs H2 ⟨as2, h2, us, S2, x2, r2, o2⟩ => ?_⟩
          refine SpF.of x2 (RPs.cons (.obj (S2.get hn)) r2) ?_ o2
          by_cases hn' : us.length + 1 = n
          · rw [List.length_cons]; exact hn'
          · rw [hF _ _ (by rw [List.length_cons]; exact hn')] at o2; exact o2.elim
        · exact o1.elim
      · exact o1.elim
  · exact o1.elim
theorem ie_meth0 {f Cc : Addr} {fd : FuncData} {ps : List Str} {m cn : Str} {apos : Pos} {F : List PV → IH → Res PV} {j : Nat} (pl : Sem Bool) (cx : Ctx X W k) (gc : X.mg cn = some (.ref Cc)) (cl : Cls X.K Cc) (hm : Meth X.K Cc m f) (G : FnOk X.prog X.w X.K X.mg X.base (L2.CX X.prog X.w) j f fd ps (SpF X.K X.mg 1 F)) (hj : j ≤ k) (hb : Binds X.K fd ps [])
    (ho : PE X o (IE X.K X.mg W A))
    (ht : eval (.Call (.Attribute o m apos) [] [] pos) X.env = (do
      let ov ← eval o X.env
      standAt apos.atName
      let (f, first) ← holding [ov] (getMethod ov m pl)
      callWith pos f first (backTo pos (starEach [] X.env)) (backToKw pos (keywordEach [] X.env))) := by rfl) :
    PE X (.Call (.Attribute o m apos) [] [] pos) (IE X.K X.mg W (eMeth cn m F A aNil)) := by
  refine peImp (pe_methS0 ho cl hm G (cx.room.mono hj) hb (fun s => passAt cx.tk s) ht) fun s H Q ⟨as, r, h, g, z, o⟩ => ?_
  refine ⟨as, r, h, g, z, (Out.bind o).imp fun V H1 ⟨as1, h1, p1, S1, x1, r1, o1⟩ => ?_⟩
  split at o1
  · cases r1 with
    | obj hn =>
      split at o1
      · rename_i c' fs hx
        split at o1
        · rename_i hc
          obtain ⟨hc, hl⟩ := hc
          subst hc
          obtain ⟨b, e1, C', dx, gs, g0, e2, e3, rs⟩ := x1.at_ _ _ hx
          rw [hn] at e1; cases e1
          rw [gc] at g0; cases g0
          exact ⟨_, dx, gs, rfl, e2, fld_none e3 hl, SpF.of x1 (RPs.one (.obj hn)) rfl o1⟩
        · exact o1.elim
      · exact o1.elim
  · exact o1.elim
theorem noX_of {K : PySem.W.Frag} {mg : Str → Option Value} {s : L2.St} {as : List Addr} {H : Hp} {Q : VK} {r : Res PV} (o : Out K mg (fun H as p v => RP K mg H as p v) W s as H Q (noX r)) : Out K mg (fun H as p v => RP K mg H as p v) (fun c d _ H' => E0 c d H') [] as H Q r := by
  cases r with
  | ok a h => exact o
  | ex z h => exact (show False from o).elim
  | bad => exact o
theorem ie_prop {f pa Cc : Addr} {fd : FuncData} {ps : List Str} {m cn : Str} {F : List PV → IH → Res PV} {j : Nat} (cx : Ctx X W k) (gc : X.mg cn = some (.ref Cc)) (cl : Cls X.K Cc) (hp : PropOf X.K Cc m pa f) (G : FnOk X.prog X.w X.K X.mg X.base (L2.CX X.prog X.w) j f fd ps (SpF X.K X.mg 1 F)) (hj : j + 1 ≤ k) (hb : Binds X.K fd ps [])
    (he : PE X e (IE X.K X.mg W A)) (hab : attributeBase e m X.env (eval e X.env) = eval e X.env := by rfl) : PE X (.Attribute e m pos) (IE X.K X.mg W (eProp cn F A)) := by
  refine peImp (pe_prop he cl hp G (cx.room.mono hj) hb .nil (passL (X := X.nox)) hab) fun s H Q ⟨as, r, h, g, z, o⟩ => ?_
  refine ⟨as, r, h, g, z, (Out.bind o).imp fun V H1 ⟨as1, h1, p1, S1, x1, r1, o1⟩ => ?_⟩
  split at o1
  · cases r1 with
    | obj hn =>
      split at o1
      · rename_i c' fs hx
        split at o1
        · rename_i hc
          subst hc
          obtain ⟨b, e1, C', dx, gs, g0, e2, e3, rs⟩ := x1.at_ _ _ hx
          rw [hn] at e1; cases e1
          rw [gc] at g0; cases g0
          exact ⟨_, dx, gs, rfl, e2, as1, _, h1, rfl, RPs.one (.obj hn), x1, noX_of o1⟩
        · exact o1.elim
      · exact o1.elim
  · exact o1.elim
theorem snd_lenO {K : PySem.W.Frag} {mg : Str → Option Value} {cn : Str} {Cc : Addr} {F : List PV → IH → Res PV} (gc : mg cn = some (.ref Cc)) : SndC K mg (pLenO cn F) (rLenO Cc (SpF K mg 1 F)) := by
  intro W s as H h xs Us Q rh rs o
  unfold pLenO at o
  split at o
  · obtain ⟨v, rfl, rv⟩ := rs.inv1
    split at o
    · cases rv with
      | obj hn =>
        split at o
        · rename_i c' fs hx
          split at o
          · rename_i hc
            subst hc
            obtain ⟨b, e1, C', dx, gs, g0, e2, e3, rs'⟩ := rh.at_ _ _ hx
            rw [hn] at e1; cases e1
            rw [gc] at g0; cases g0
            refine ⟨_, dx, gs, rfl, e2, as, _, h, rfl, RPs.one (.obj hn), rh, ?_⟩
            split at o
            · rename_i i h1 hF
              split at o
              · rename_i hi
                rw [hF]
                intro V H' as' S x' r'
                cases r'
                have e63 : (2 : Int) ^ 63 = 9223372036854775808 := by decide
                exact ⟨_, rfl, hi.1, by rw [e63]; exact hi.2, o _ _ _ S x' (.int _)⟩
              · exact o.elim
            · exact o.elim
          · exact o.elim
        · exact o.elim
    · exact o.elim
  · exact o.elim
theorem snd_eqO {K : PySem.W.Frag} {mg : Str → Option Value} {cn : Str} {Cc : Addr} {F : List PV → IH → Res PV} (gc : mg cn = some (.ref Cc)) : Snd K mg (pEqO cn F) (rEqO K Cc (SpF K mg 2 F)) := by
  intro W s as H h x y U V Q rh rx ry o
  unfold pEqO at o
  split at o
  · cases rx with
    | obj hn =>
      split at o
      · rename_i c' fs hx
        split at o
        · rename_i hc
          obtain ⟨hc, ht⟩ := hc
          subst hc
          obtain ⟨b, e1, C', dx, gs, g0, e2, e3, rs'⟩ := rh.at_ _ _ hx
          rw [hn] at e1; cases e1
          rw [gc] at g0; cases g0
          have hy : ∃ b', V = .ref b' ∧ ((∃ dy gs, H b' = some (.ins Cc dy gs)) ∨ ∃ ys, SqT K H b' ys) := by
            unfold isTupOr at ht
            split at ht
            · cases ry with
              | tup hs rs => exact ⟨_, rfl, .inr ⟨_, hs⟩⟩
            · cases ry with
              | obj hm =>
                split at ht
                · rename_i c2 fs2 hx2
                  obtain ⟨b2, e1', C2, dx2, gs2, g0', e2', _⟩ := rh.at_ _ _ hx2
                  rw [hm] at e1'; cases e1'
                  have : c2 = c' := by simpa using ht
                  subst this
                  rw [gc] at g0'; cases g0'
                  exact ⟨_, rfl, .inl ⟨_, _, e2'⟩⟩
                · cases ht
            · cases ht
          obtain ⟨b', rfl, hy⟩ := hy
          refine ⟨_, _, dx, gs, rfl, rfl, e2, hy, as, _, h, rfl, RPs.cons (.obj hn) (RPs.one ry), rh, ?_⟩
          split at o
          · rename_i q h1 hF
            rw [hF]
            intro V H' as' S x' r'
            cases r'
            exact ⟨_, rfl, o _ _ _ S x' (.bl _)⟩
          · exact o.elim
        · exact o.elim
      · exact o.elim
  · exact o.elim
theorem ie_chain {op op' : CmpOp} {p q : PV → PV → IH → Res PV} {r r' : R2} (ho : OpR X (compareOp op) r) (ho' : OpR X (compareOp op') r') (hp : Snd X.K X.mg p r) (hq : Snd X.K X.mg q r') (ha : PE X a (IE X.K X.mg W A)) (hb : PE X b (IE X.K X.mg W B)) (hc : PE X c (IE X.K X.mg W C))
    (hm : lastMarks [op, op'] [b, c] = false := by with_unfolding_all rfl) : PE X (.Compare a [op, op'] [b, c] pos) (IE X.K X.mg W (eChain p q A B C)) := by
  refine peImp (pe_chain ho ho' ha hb hc hm) fun s H Q ⟨as, ρ, h, g, z, o⟩ => ?_
  refine ⟨as, ρ, h, g, z, (Out.bind o).imp fun V1 H1 ⟨as1, h1, p1, S1, x1, r1, o1⟩ => ?_⟩
  refine ⟨as1, ρ, h1, g.mono S1, x1, (Out.bind o1).imp fun V2 H2 ⟨as2, h2, p2, S2, x2, r2, o2⟩ => ?_⟩
  refine hp x2 (r1.mono S2) r2 ((Out.bind o2).imp fun V3 H3 ⟨as3, h3, p3, S3, x3, r3, o3⟩ => ?_)
  cases r3 with
  | bl d =>
    refine ⟨d, rfl, ?_⟩
    cases d with
    | false => exact o3.here x3 (.bl false)
    | true =>
      refine ⟨as3, ρ, h3, ((g.mono S1).mono S2).mono S3, x3, (Out.bind o3).imp fun V4 H4 ⟨as4, h4, p4, S4, x4, r4, o4⟩ => ?_⟩
      exact hq x4 ((r2.mono S3).mono S4) r4 o4
  | non => exact o3.elim
  | int => exact o3.elim
  | str => exact o3.elim
  | tup => exact o3.elim
  | fls => exact o3.elim
  | obj => exact o3.elim
  | glo => exact o3.elim
  | ty => exact o3.elim
  | key => exact o3.elim
end
end WR

/-! bundles for defs, classes; the head's Hook; the law's end -/
namespace WR
open PySem PySem.Spec PyProof.Rows L2
section
variable {P : Program} {w : World} {K : PySem.W.Frag} {mg : Str → Option Value} {base : Heap}
/-- a def of the top -/
structure GF (P : Program) (w : World) (K : PySem.W.Frag) (mg : Str → Option Value) (base : Heap) (x : Str) (j n : Nat) (F : List PV → IH → Res PV) : Prop where
  bad : ∀ us h, us.length ≠ n → F us h = .bad
  ex : ∃ f fd ps, FnOk P w K mg base (L2.CX P w) j f fd ps (SpF K mg n F) ∧ mg x = some (.ref f) ∧ PySem.W.keepIn K (.ref f) = true ∧ Binds K fd ps []
/-- a def of a class, at f -/
structure GA (P : Program) (w : World) (K : PySem.W.Frag) (mg : Str → Option Value) (base : Heap) (f : Addr) (j n : Nat) (F : List PV → IH → Res PV) : Prop where
  bad : ∀ us h, us.length ≠ n → F us h = .bad
  ex : ∃ fd ps, FnOk P w K mg base (L2.CX P w) j f fd ps (SpF K mg n F) ∧ Binds K fd ps []
theorem ga_mk {x qual : Str} {st : Stmt} {f : Addr} {fd : FuncData} {N ps : List Str} {k : Nat} {B : SX} (F : Fun K x qual st f fd) (S : FnScope N ps (defScope st)) (m : Nat) (hm : N.length = ps.length + m)
    (hb : ∀ (kV doc pm : Value) (an : Option Addr) (cdv ct : Value) (us : List Value), us.length = ps.length → bindArgs (PySem.W.fnOf x qual (defArgs st) (defBody st) (defScope st) .none kV doc pm an cdv ct) ⟨us, []⟩ = pure (ps.zip us))
    (body : ∀ (cdv : Value) (A : Around) (outer : List Env) (s : Shared) (H : Hp) (E : XK), Ctx (cxOf (L2.CX P w) P w K mg base N qual (defScope st) f cdv A outer s H E) (WD E) k →
      PSs (cxOf (L2.CX P w) P w K mg base N qual (defScope st) f cdv A outer s H E) (defBody st) (IS K mg (WD E) B)) :
    GA P w K mg base f (k + 1) ps.length (fn ps.length m B) := ⟨fn_bad, fd, ps, ok_of F S m hm body, F.binds hb⟩
theorem gf_mk {x qual : Str} {st : Stmt} {f : Addr} {fd : FuncData} {N ps : List Str} {k : Nat} {B : SX} (F : Fun K x qual st f fd) (g : mg x = some (.ref f)) (S : FnScope N ps (defScope st)) (m : Nat) (hm : N.length = ps.length + m)
    (hb : ∀ (kV doc pm : Value) (an : Option Addr) (cdv ct : Value) (us : List Value), us.length = ps.length → bindArgs (PySem.W.fnOf x qual (defArgs st) (defBody st) (defScope st) .none kV doc pm an cdv ct) ⟨us, []⟩ = pure (ps.zip us))
    (body : ∀ (cdv : Value) (A : Around) (outer : List Env) (s : Shared) (H : Hp) (E : XK), Ctx (cxOf (L2.CX P w) P w K mg base N qual (defScope st) f cdv A outer s H E) (WD E) k →
      PSs (cxOf (L2.CX P w) P w K mg base N qual (defScope st) f cdv A outer s H E) (defBody st) (IS K mg (WD E) B)) :
    GF P w K mg base x (k + 1) ps.length (fn ps.length m B) := ⟨fn_bad, f, fd, ps, ok_of F S m hm body, g, F.kp, F.binds hb⟩
end
section
variable {X : Cx} {W : WX} {k : Nat} {a b e o c : Expr} {es : List Expr} {pos p apos : Pos} {A B C : EX} {L : AX} {x m cn : Str} {j n : Nat} {F : List PV → IH → Res PV} {f Cc pa : Addr}
theorem ie_callG (cx : Ctx X W k) (G : GF X.prog X.w X.K X.mg X.base x j n F) (ha : PA X (e :: es) (IA X.K X.mg W L)) (hj : j ≤ k := by decide) (hg : Gl X x := by rfl) (hdb : (x == ("__debug__" : Str)) = false := by decide) (he : starEach (e :: es) X.env = (false, eval e X.env) :: starEach es X.env := by rfl) (hpl : (backTo pos (starEach es X.env)).any (·.1) = false := by rfl) :
    PE X (.Call (.Name x p) (e :: es) [] pos) (IE X.K X.mg W (eCall F L)) := by
  obtain ⟨f, fd, ps, G1, hm, hk, hb⟩ := G.ex
  exact ie_call cx G1 hj hm hk hb ha G.bad hg hdb he hpl
theorem ie_callG0 (cx : Ctx X W k) (G : GF X.prog X.w X.K X.mg X.base x j 0 F) (hj : j ≤ k := by decide) (hg : Gl X x := by rfl) (hdb : (x == ("__debug__" : Str)) = false := by decide) : PE X (.Call (.Name x p) [] [] pos) (IE X.K X.mg W (eCall F aNil)) := by
  obtain ⟨f, fd, ps, G1, hm, hk, hb⟩ := G.ex
  exact ie_call0 cx G1 hj hm hk hb hg hdb
theorem ie_makeG (cx : Ctx X W k) (M : Mk X.K Cc f) (hm : X.mg x = some (.ref Cc)) (G : GA X.prog X.w X.K X.mg X.base f j n F) (ha : PA X (e :: es) (IA X.K X.mg W L)) (hj : j + 1 ≤ k := by decide) (hg : Gl X x := by rfl) (hdb : (x == ("__debug__" : Str)) = false := by decide) (he : starEach (e :: es) X.env = (false, eval e X.env) :: starEach es X.env := by rfl) (hpl : (backTo pos (starEach es X.env)).any (·.1) = false := by rfl) :
    PE X (.Call (.Name x p) (e :: es) [] pos) (IE X.K X.mg W (eCall (mkO x F) L)) := by
  obtain ⟨fd, ps, G1, hb⟩ := G.ex
  exact ie_make cx M G1 hj hm hb ha G.bad hg hdb he hpl
theorem ie_propG (cx : Ctx X W k) (gc : X.mg cn = some (.ref Cc)) (cl : Cls X.K Cc) (hp : PropOf X.K Cc m pa f) (G : GA X.prog X.w X.K X.mg X.base f j 1 F) (he : PE X e (IE X.K X.mg W A)) (hj : j + 1 ≤ k := by decide) (hab : attributeBase e m X.env (eval e X.env) = eval e X.env := by rfl) :
    PE X (.Attribute e m pos) (IE X.K X.mg W (eProp cn F A)) := by
  obtain ⟨fd, ps, G1, hb⟩ := G.ex
  exact ie_prop cx gc cl hp G1 hj hb he hab
theorem ie_lenG (cx : Ctx X W k) (gc : X.mg cn = some (.ref Cc)) (hs : PySem.W.findIn X.K (.ref Cc) "__len__" = some (some (.ref f))) (hf : PySem.W.isFn X.K (.ref f) = true) (G : GA X.prog X.w X.K X.mg X.base f j 1 F) (hm : X.mg "len" = none) (ha : PA X (e :: es) (IA X.K X.mg W L)) (hj : j + 1 ≤ k := by decide) (hg : Gl X "len" := by rfl)
    (he : starEach (e :: es) X.env = (false, eval e X.env) :: starEach es X.env := by rfl) (hpl : (backTo pos (starEach es X.env)).any (·.1) = false := by rfl) : PE X (.Call (.Name "len" p) (e :: es) [] pos) (IE X.K X.mg W (eB (pLenO cn F) L)) := by
  obtain ⟨fd, ps, G1, hb⟩ := G.ex
  exact ie_callB (call_lenO G1 hs hf hb (cx.room.mono hj)) (snd_lenO gc) hm PySem.boot_len ha hg (by decide) (by decide) he hpl
theorem ie_eqG (cx : Ctx X W k) (gc : X.mg cn = some (.ref Cc)) (hs : PySem.W.findIn X.K (.ref Cc) "__eq__" = some (some (.ref f))) (hf : PySem.W.isFn X.K (.ref f) = true) (hn : PySem.W.notFirst X.K Cc (.type "tuple") = true) (G : GA X.prog X.w X.K X.mg X.base f j 2 F) (ha : PE X a (IE X.K X.mg W A)) (hb' : PE X b (IE X.K X.mg W B)) (hj : j ≤ k := by decide) :
    PE X (.Compare a [.Eq] [b] pos) (IE X.K X.mg W (eOp (pEqO cn F) A B)) := by
  obtain ⟨fd, ps, G1, hb⟩ := G.ex
  exact ie_cmp (op_eqO G1 hs hf hb (cx.room.mono hj) hn) (snd_eqO gc) ha hb' (nomark _)
theorem it_eqG (cx : Ctx X W k) (gc : X.mg cn = some (.ref Cc)) (hs : PySem.W.findIn X.K (.ref Cc) "__eq__" = some (some (.ref f))) (hf : PySem.W.isFn X.K (.ref f) = true) (hn : PySem.W.notFirst X.K Cc (.type "tuple") = true) (G : GA X.prog X.w X.K X.mg X.base f j 2 F) (ha : PE X a (IE X.K X.mg W A)) (hb' : PE X b (IE X.K X.mg W B)) (hj : j ≤ k := by decide) :
    PT X (.Compare a [.Eq] [b] pos) (IT X.K X.mg W (tBl (eOp (pEqO cn F) A B))) := by
  obtain ⟨fd, ps, G1, hb⟩ := G.ex
  exact it_cmp (op_eqO G1 hs hf hb (cx.room.mono hj) hn) (snd_eqO gc) ha hb' (nomark _)
theorem ie_methG (pl : Sem Bool) (cx : Ctx X W k) (gc : X.mg cn = some (.ref Cc)) (cl : Cls X.K Cc) (hm : Meth X.K Cc m f) (G : GA X.prog X.w X.K X.mg X.base f j n F) (ho : PE X o (IE X.K X.mg W A)) (ha : PA X (e :: es) (IA X.K X.mg W L)) (hj : j ≤ k := by decide)
    (hst : starEach (e :: es) X.env = (false, eval e X.env) :: starEach es X.env := by rfl) (hpl : (backTo pos (starEach es X.env)).any (·.1) = false := by rfl)
    (ht : eval (.Call (.Attribute o m apos) (e :: es) [] pos) X.env = (do
      let ov ← eval o X.env
      standAt apos.atName
      let (f, first) ← holding [ov] (getMethod ov m pl)
      callWith pos f first (backTo pos (starEach (e :: es) X.env)) (backToKw pos (keywordEach [] X.env))) := by rfl) : PE X (.Call (.Attribute o m apos) (e :: es) [] pos) (IE X.K X.mg W (eMeth cn m F A L)) := by
  obtain ⟨fd, ps, G1, hb⟩ := G.ex
  exact ie_meth pl cx gc cl hm G1 hj hb ho ha G.bad hst hpl ht
theorem ie_methG0 (pl : Sem Bool) (cx : Ctx X W k) (gc : X.mg cn = some (.ref Cc)) (cl : Cls X.K Cc) (hm : Meth X.K Cc m f) (G : GA X.prog X.w X.K X.mg X.base f j 1 F) (ho : PE X o (IE X.K X.mg W A)) (hj : j ≤ k := by decide)
    (ht : eval (.Call (.Attribute o m apos) [] [] pos) X.env = (do
      let ov ← eval o X.env
      standAt apos.atName
      let (f, first) ← holding [ov] (getMethod ov m pl)
      callWith pos f first (backTo pos (starEach [] X.env)) (backToKw pos (keywordEach [] X.env))) := by rfl) : PE X (.Call (.Attribute o m apos) [] [] pos) (IE X.K X.mg W (eMeth cn m F A aNil)) := by
  obtain ⟨fd, ps, G1, hb⟩ := G.ex
  exact ie_meth0 pl cx gc cl hm G1 hj hb ho ht
/-! the built-ins, in short -/
theorem ie_abs (hm : X.mg "abs" = none) (ha : PA X (e :: es) (IA X.K X.mg W L)) (hg : Gl X "abs" := by rfl) (he : starEach (e :: es) X.env = (false, eval e X.env) :: starEach es X.env := by rfl) (hpl : (backTo pos (starEach es X.env)).any (·.1) = false := by rfl) : PE X (.Call (.Name "abs" p) (e :: es) [] pos) (IE X.K X.mg W (eB pAbs L)) :=
  ie_callB call_abs snd_abs hm (by decide +kernel) ha hg (by decide) (by decide) he hpl
theorem ie_max2 (cx : Ctx X W k) (hm : X.mg "max" = none) (ha : PA X (e :: es) (IA X.K X.mg W L)) (hg : Gl X "max" := by rfl) (he : starEach (e :: es) X.env = (false, eval e X.env) :: starEach es X.env := by rfl) (hpl : (backTo pos (starEach es X.env)).any (·.1) = false := by rfl) : PE X (.Call (.Name "max" p) (e :: es) [] pos) (IE X.K X.mg W (eB pMax2 L)) :=
  ie_callB (call_max2 cx.calm) snd_max2 hm (by decide +kernel) ha hg (by decide) (by decide) he hpl
theorem ie_min2 (cx : Ctx X W k) (hm : X.mg "min" = none) (ha : PA X (e :: es) (IA X.K X.mg W L)) (hg : Gl X "min" := by rfl) (he : starEach (e :: es) X.env = (false, eval e X.env) :: starEach es X.env := by rfl) (hpl : (backTo pos (starEach es X.env)).any (·.1) = false := by rfl) : PE X (.Call (.Name "min" p) (e :: es) [] pos) (IE X.K X.mg W (eB pMin2 L)) :=
  ie_callB (call_min2 cx.calm) snd_min2 hm (by decide +kernel) ha hg (by decide) (by decide) he hpl
theorem ie_int1 (hm : X.mg "int" = none) (ha : PA X (e :: es) (IA X.K X.mg W L)) (hg : Gl X "int" := by rfl) (he : starEach (e :: es) X.env = (false, eval e X.env) :: starEach es X.env := by rfl) (hpl : (backTo pos (starEach es X.env)).any (·.1) = false := by rfl) : PE X (.Call (.Name "int" p) (e :: es) [] pos) (IE X.K X.mg W (eB pInt1 L)) :=
  ie_callT call_int1 snd_int1 hm (by decide +kernel) ha hg (by decide) (by decide) he hpl
theorem ie_len (hm : X.mg "len" = none) (ha : PA X (e :: es) (IA X.K X.mg W L)) (hg : Gl X "len" := by rfl) (he : starEach (e :: es) X.env = (false, eval e X.env) :: starEach es X.env := by rfl) (hpl : (backTo pos (starEach es X.env)).any (·.1) = false := by rfl) : PE X (.Call (.Name "len" p) (e :: es) [] pos) (IE X.K X.mg W (eB pLen L)) :=
  ie_callB call_len snd_len hm (by decide +kernel) ha hg (by decide) (by decide) he hpl
theorem ie_list1 (hm : X.mg "list" = none) (ha : PA X (e :: es) (IA X.K X.mg W L)) (hg : Gl X "list" := by rfl) (he : starEach (e :: es) X.env = (false, eval e X.env) :: starEach es X.env := by rfl) (hpl : (backTo pos (starEach es X.env)).any (·.1) = false := by rfl) : PE X (.Call (.Name "list" p) (e :: es) [] pos) (IE X.K X.mg W (eB pList1 L)) :=
  ie_callT call_list_of snd_list1 hm (by decide +kernel) ha hg (by decide) (by decide) he hpl
theorem ie_tuple1 (hm : X.mg "tuple" = none) (ha : PA X (e :: es) (IA X.K X.mg W L)) (hg : Gl X "tuple" := by rfl) (he : starEach (e :: es) X.env = (false, eval e X.env) :: starEach es X.env := by rfl) (hpl : (backTo pos (starEach es X.env)).any (·.1) = false := by rfl) : PE X (.Call (.Name "tuple" p) (e :: es) [] pos) (IE X.K X.mg W (eB pTuple1 L)) :=
  ie_callT call_tuple_of snd_tuple1 hm (by decide +kernel) ha hg (by decide) (by decide) he hpl
theorem ie_isi {cs : List Str} (O : OwnCs X.K X.mg cs) (hm : X.mg "isinstance" = none) (ha : PA X (e :: es) (IA X.K X.mg W L)) (hg : Gl X "isinstance" := by rfl) (he : starEach (e :: es) X.env = (false, eval e X.env) :: starEach es X.env := by rfl) (hpl : (backTo pos (starEach es X.env)).any (·.1) = false := by rfl) : PE X (.Call (.Name "isinstance" p) (e :: es) [] pos) (IE X.K X.mg W (eB (pIsi cs) L)) :=
  ie_callB call_isi (snd_isi O) hm (by decide +kernel) ha hg (by decide) (by decide) he hpl
theorem ie_tyB {x : Str} {n : String} (hm : X.mg x = none) (hv : bootBuiltins x = some (.type n) := by decide +kernel) (hg : Gl X x := by rfl) (hn : x ≠ "__name__" := by decide) (hd : (x == ("__debug__" : Str)) = false := by decide) : PE X (.Name x pos) (IE X.K X.mg W (eC (.ty n))) := ie_ty hg hm hv hn hd
/-! comparisons, in short -/
theorem ie_lt (ha : PE X a (IE X.K X.mg W A)) (hb : PE X b (IE X.K X.mg W B)) : PE X (.Compare a [.Lt] [b] pos) (IE X.K X.mg W (eOp pLt A B)) := ie_cmp op_lt snd_ci ha hb (nomark _)
theorem ie_le (ha : PE X a (IE X.K X.mg W A)) (hb : PE X b (IE X.K X.mg W B)) : PE X (.Compare a [.LtE] [b] pos) (IE X.K X.mg W (eOp pLe A B)) := ie_cmp op_le snd_ci ha hb (nomark _)
theorem ie_gt (ha : PE X a (IE X.K X.mg W A)) (hb : PE X b (IE X.K X.mg W B)) : PE X (.Compare a [.Gt] [b] pos) (IE X.K X.mg W (eOp pGt A B)) := ie_cmp op_gt snd_ci ha hb (nomark _)
theorem ie_ge (ha : PE X a (IE X.K X.mg W A)) (hb : PE X b (IE X.K X.mg W B)) : PE X (.Compare a [.GtE] [b] pos) (IE X.K X.mg W (eOp pGe A B)) := ie_cmp op_ge snd_ci ha hb (nomark _)
theorem ie_eq (cx : Ctx X W k) (ha : PE X a (IE X.K X.mg W A)) (hb : PE X b (IE X.K X.mg W B)) : PE X (.Compare a [.Eq] [b] pos) (IE X.K X.mg W (eOp pEq A B)) := ie_cmp (op_eqD cx.room.units) snd_eq ha hb (nomark _)
theorem ie_ne (cx : Ctx X W k) (ha : PE X a (IE X.K X.mg W A)) (hb : PE X b (IE X.K X.mg W B)) : PE X (.Compare a [.NotEq] [b] pos) (IE X.K X.mg W (eOp pNe A B)) := ie_cmp (op_neD cx.room.units) snd_ne ha hb (nomark _)
theorem ie_is (ha : PE X a (IE X.K X.mg W A)) (hb : PE X b (IE X.K X.mg W B)) : PE X (.Compare a [.Is] [b] pos) (IE X.K X.mg W (eOp pIsN A B)) := ie_cmp op_isN snd_isn ha hb (nomark _)
theorem ie_isnot (ha : PE X a (IE X.K X.mg W A)) (hb : PE X b (IE X.K X.mg W B)) : PE X (.Compare a [.IsNot] [b] pos) (IE X.K X.mg W (eOp pNotN A B)) := ie_cmp op_notN snd_notn ha hb (nomark _)
theorem it_lt (ha : PE X a (IE X.K X.mg W A)) (hb : PE X b (IE X.K X.mg W B)) : PT X (.Compare a [.Lt] [b] pos) (IT X.K X.mg W (tBl (eOp pLt A B))) := it_cmp op_lt snd_ci ha hb (nomark _)
theorem it_le (ha : PE X a (IE X.K X.mg W A)) (hb : PE X b (IE X.K X.mg W B)) : PT X (.Compare a [.LtE] [b] pos) (IT X.K X.mg W (tBl (eOp pLe A B))) := it_cmp op_le snd_ci ha hb (nomark _)
theorem it_gt (ha : PE X a (IE X.K X.mg W A)) (hb : PE X b (IE X.K X.mg W B)) : PT X (.Compare a [.Gt] [b] pos) (IT X.K X.mg W (tBl (eOp pGt A B))) := it_cmp op_gt snd_ci ha hb (nomark _)
theorem it_ge (ha : PE X a (IE X.K X.mg W A)) (hb : PE X b (IE X.K X.mg W B)) : PT X (.Compare a [.GtE] [b] pos) (IT X.K X.mg W (tBl (eOp pGe A B))) := it_cmp op_ge snd_ci ha hb (nomark _)
theorem it_eq (cx : Ctx X W k) (ha : PE X a (IE X.K X.mg W A)) (hb : PE X b (IE X.K X.mg W B)) : PT X (.Compare a [.Eq] [b] pos) (IT X.K X.mg W (tBl (eOp pEq A B))) := it_cmp (op_eqD cx.room.units) snd_eq ha hb (nomark _)
theorem it_ne (cx : Ctx X W k) (ha : PE X a (IE X.K X.mg W A)) (hb : PE X b (IE X.K X.mg W B)) : PT X (.Compare a [.NotEq] [b] pos) (IT X.K X.mg W (tBl (eOp pNe A B))) := it_cmp (op_neD cx.room.units) snd_ne ha hb (nomark _)
theorem it_is (ha : PE X a (IE X.K X.mg W A)) (hb : PE X b (IE X.K X.mg W B)) : PT X (.Compare a [.Is] [b] pos) (IT X.K X.mg W (tBl (eOp pIsN A B))) := it_cmp op_isN snd_isn ha hb (nomark _)
theorem it_isnot (ha : PE X a (IE X.K X.mg W A)) (hb : PE X b (IE X.K X.mg W B)) : PT X (.Compare a [.IsNot] [b] pos) (IT X.K X.mg W (tBl (eOp pNotN A B))) := it_cmp op_notN snd_notn ha hb (nomark _)
theorem ie_lele (ha : PE X a (IE X.K X.mg W A)) (hb : PE X b (IE X.K X.mg W B)) (hc : PE X c (IE X.K X.mg W C)) (hm : lastMarks [.LtE, .LtE] [b, c] = false := by with_unfolding_all rfl) : PE X (.Compare a [.LtE, .LtE] [b, c] pos) (IE X.K X.mg W (eChain pLe pLe A B C)) := ie_chain op_le op_le snd_ci snd_ci ha hb hc hm
end
/-! ### the head's Hook -/
abbrev FrB := PySem.W.Frag → Bool
def obsW (n : Nat) (ex : List FrB) (fn : List He5.DefA) (g : Addr → Option Obj) : He.AlD := ((ex.all fun f => f (He.frG g (He5.asA g n))) && fn.all fun d => d.ok (He.frG g (He5.asA g n)), fn.map fun d => He5.fnA (He.frG g (He5.asA g n)) (d.at_ (He.frG g (He5.asA g n))))
def SaysW (ex : List FrB) (fn : List He5.DefA) (K : PySem.W.Frag) : Prop := ((ex.all fun f => f K) && fn.all fun d => d.ok K, fn.map fun d => He5.fnA K (d.at_ K)) = He5.valA fn
def hookW (n : Nat) (ex : List FrB) (fn : List He5.DefA) : PySem.W.Hook where
  α := He.AlD
  obs := fun s => obsW n ex fn s.heap.get?
  val := fun _ => He5.valA fn
  says := fun _ h => ∃ K : PySem.W.Frag, K.In h ∧ SaysW ex fn K
  of := fun _ _ e => ⟨_, He.frG_in, e⟩
  keeps := fun _ _ _ ⟨K, hK, c⟩ k => ⟨K, PySem.W.Frag.In.keeps hK k, c⟩
theorem obsW_eq {n : Nat} {ex : List FrB} {fn : List He5.DefA} {g : Addr → Option Obj} {s : Shared} (h : ∀ a, g a = s.heap.get? a) : obsW n ex fn g = (hookW n ex fn).obs s := by
  have e : g = s.heap.get? := funext h
  rw [e] <;> rfl
section
variable {ex : List FrB} {fn : List He5.DefA} {K : PySem.W.Frag}
theorem SaysW.fact (c : SaysW ex fn K) {f : FrB} (h : f ∈ ex) : f K = true := by
  have c1 := (He.ba (show ((ex.all fun f => f K) && fn.all fun d => d.ok K) = true from congrArg (fun z : He.AlD => z.1) c)).1
  exact List.all_eq_true.mp c1 f h
theorem SaysW.def_ (c : SaysW ex fn K) (i : Nat) {d : He5.DefA} (h : fn[i]? = some d := by rfl) : ∃ fd, L2.FunD K d.name d.qual d.params d.body d.scope (d.dvs K) (d.kws K) (d.at_ K) fd := by
  have c2 := (He.ba (show ((ex.all fun f => f K) && fn.all fun d => d.ok K) = true from congrArg (fun z : He.AlD => z.1) c)).2
  have e : fn.map (fun d => He5.fnA K (d.at_ K)) = fn.map He5.DefA.val := congrArg (fun z : He.AlD => z.2) c
  have e2 : (fn.map fun d => He5.fnA K (d.at_ K))[i]? = (fn.map He5.DefA.val)[i]? := by rw [e]
  rw [List.getElem?_map, List.getElem?_map, h] at e2
  exact He5.DefA.funD (Option.some.inj e2) (List.all_eq_true.mp c2 d (List.mem_of_getElem? h))
end
/-- a def of the text, where it stands -/
def dA (at_ : PySem.W.Frag → Addr) (x q : Str) (st : Stmt) : He5.DefA := ⟨at_, x, q, defArgs st, defBody st, defScope st, [], []⟩
theorem SaysW.fun_ {ex : List FrB} {fn : List He5.DefA} {K : PySem.W.Frag} (c : SaysW ex fn K) (i : Nat) {at_ : PySem.W.Frag → Addr} {x q : Str} {st : Stmt} (h : fn[i]? = some (dA at_ x q st) := by rfl) : ∃ fd, Fun K x q st (at_ K) fd := by
  obtain ⟨fd, F⟩ := c.def_ i h
  exact ⟨fd, He5.fun_of F⟩
/-! facts as Bools -/
def bGlo (x : Str) : FrB := fun K => (He.Fa.glo x).ok K
def bFree (x : Str) : FrB := fun K => (He.Fa.free x).ok K
def bInt (x : Str) (i : Int) : FrB := fun K => (He.Fa.int x i).ok K
def bTup (x : Str) (vs : List He.Dv) : FrB := fun K => He.tupB K x vs
def bOwn (c : Str) : FrB := fun K => (He.Fa.cls c).ok K && (He.eqO (PySem.W.findIn K (.ref (He.ga K c)) "__class__") (some (some (.builtin "object.__class__"))) && (He.eqO (PySem.W.specialIn K (.builtin "object.__class__") "__get__") (some (some (.builtin "getset_descriptor.__get__"))) &&
  (decide (PySem.W.takesIn K (.builtin "object.__class__") = some true) && (decide (PySem.W.mroIn K (He.ga K c) (.type "object") = some true) &&
  (tyNames.all (fun n => decide (PySem.W.kitOne K (.type n) (.ref (He.ga K c)) = some false)) && tyNames.all (fun n => decide (PySem.W.kitOne K (.ref (He.ga K c)) (.type n) = some false)))))))
def bTwo (cs : List Str) : FrB := fun K => cs.all fun c => cs.all fun d => decide (PySem.W.kitOne K (.ref (He.ga K d)) (.ref (He.ga K c)) = some (d == c))
def bNoat (c f : Str) : FrB := fun K => (He.Fa.noat c f).ok K
def bMk (c : Str) : FrB := fun K => (He.Fa.mkr c).ok K
def bMeth (c m : Str) : FrB := fun K => (He.Fa.meth c m).ok K
def bProp (c m : Str) : FrB := fun K => He.eqO (PySem.W.findIn K (.ref (He.ga K c)) m) (some (some (.ref (He.ma K (He.ga K c) m)))) && (He.eqO (PySem.W.specialIn K (.ref (He.ma K (He.ga K c) m)) "__get__") (some (some (.builtin "property.__get__"))) &&
  (decide (PySem.W.takesIn K (.ref (He.ma K (He.ga K c) m)) = some true) && (match PySem.W.recIn K (He.ma K (He.ga K c) m) "property" with
    | some (.ref f :: _) => decide (f = He5.wf K (He.ga K c) "property" m)
    | _ => false)))
def bNf (c : Str) : FrB := fun K => PySem.W.notFirst K (He.ga K c) (.type "tuple")
section
variable {K : PySem.W.Frag} {mg : Str → Option Value} {h : Heap}
theorem bOwn_ok (X : K.In h) (G : h.Ns mainGlobals mg) {c : Str} (g : bGlo c K = true) (e : bOwn c K = true) : OwnC K mg c (He.ga K c) := by
  obtain ⟨e1, e⟩ := He.ba e
  obtain ⟨e2, e⟩ := He.ba e
  obtain ⟨e3, e⟩ := He.ba e
  obtain ⟨e4, e⟩ := He.ba e
  obtain ⟨e5, e⟩ := He.ba e
  obtain ⟨e6, e7⟩ := He.ba e
  exact ⟨He.glo_ok X G g, He.cls_ok e1, He.eqO_ok e2, He.eqO_ok e3, of_decide_eq_true e4, of_decide_eq_true e5,
    fun n hn => of_decide_eq_true (List.all_eq_true.mp e6 n (mem_of_contains hn)), fun n hn => of_decide_eq_true (List.all_eq_true.mp e7 n (mem_of_contains hn))⟩
theorem bTwo_ok (X : K.In h) (G : h.Ns mainGlobals mg) {cs : List Str} (o : ∀ c, cs.contains c = true → OwnC K mg c (He.ga K c)) (e : bTwo cs K = true) : OwnCs K mg cs :=
  ⟨fun c hc => ⟨_, o c hc⟩, fun c d C D hc hd gc gd => by
    have z := List.all_eq_true.mp (List.all_eq_true.mp e c (mem_of_contains hc)) d (mem_of_contains hd)
    have e1 := (o c hc).gC.symm.trans gc
    have e2 := (o d hd).gC.symm.trans gd
    cases e1
    cases e2
    exact of_decide_eq_true z⟩
theorem bProp_ok {c m : Str} (e : bProp c m K = true) : PropOf K (He.ga K c) m (He.ma K (He.ga K c) m) (He5.wf K (He.ga K c) "property" m) := by
  obtain ⟨e1, e⟩ := He.ba e
  obtain ⟨e2, e⟩ := He.ba e
  obtain ⟨e3, e4⟩ := He.ba e
  refine ⟨He.eqO_ok e1, He.eqO_ok e2, of_decide_eq_true e3, ?_⟩
  split at e4
  · rename_i f r hr
    have : f = He5.wf K (He.ga K c) "property" m := of_decide_eq_true e4
    rw [← this]
    exact ⟨r, hr⟩
  · cases e4
theorem bTup_ok {x : Str} {vs : List He.Dv} (e : bTup x vs K = true) (H : Hp) : SqT K H (He.ga K x) (vs.map (He.Dv.v K)) := He.tupB_ok e H
end
/-- the law's promise from the functional code -/
theorem law_sp {K : PySem.W.Frag} {mg : Str → Option Value} {F : List PV → IH → Res PV} (hF : ∀ ns : List Int, ns.length ≤ 63 → ∃ h, F [.fls (ns.map .int)] [] = .ok (.bl true) h) (H : Hp) (a : Addr) (ns : List Int) (hl : ns.length ≤ 63) (hO : Only H) (hS : SqL K H a (ns.map V.int)) :
    SpF K mg 1 F [.ref a] H (fun v _ => v = .bl true) fun _ _ _ => False := by
  have hf : SqF K H a (ns.map V.int) := by
    rcases hS with (hS | ⟨o, hS⟩) | hS
    · rcases hO a with z | ⟨o, xs, z⟩
      · rw [z] at hS; cases hS
      · rw [z] at hS; cases hS
    · exact .inl ⟨o, hS⟩
    · exact .inr hS
  have rs : ∀ l : List Int, RPs K mg H [] (l.map PV.int) (l.map V.int) := fun l => by
    induction l with
    | nil => exact .nil
    | cons x r ih => exact .cons (.int x) ih
  obtain ⟨h, e⟩ := hF ns hl
  refine ⟨[], [.fls (ns.map .int)], [], rfl, .one (.fls hf (rs ns)), ⟨rfl, List.nodup_nil, fun n o z => by cases z⟩, ?_⟩
  rw [e]
  intro V H' as' _ _ r
  cases r
  rfl
theorem fun_bA {K : PySem.W.Frag} {x qual : Str} {st : Stmt} {f : Addr} {fd : FuncData} {ps : List Str} (F : Fun K x qual st f fd)
    (h : ∀ (kV doc pm : Value) (an : Option Addr) (cdv ct : Value) (us : List Value), us.length = ps.length → bindArgs (PySem.W.fnOf x qual (defArgs st) (defBody st) (defScope st) .none kV doc pm an cdv ct) ⟨us, []⟩ = pure (ps.zip us)) (s : Shared) (us : List Value) (hl : us.length = ps.length) : BindsTo s fd ⟨us, []⟩ (ps.zip us) := by
  obtain ⟨oc, od, kV, doc, pm, an, cdv, ct, osl, e, _⟩ := F.ex
  rw [e]
  exact BindsTo.of_eq (h kV doc pm an cdv ct us hl)
theorem cx_none {P : Program} {w : World} {H : Hp} {s : Shared} {e : Value} {s' : Shared} (z : L2.CX P w [] H s (fun _ _ _ => False) e s') : False := by
  obtain ⟨_, _, _, _, _, _, _, _, _, _, _, _, q⟩ := z
  exact q
/-- a law from its functional code -/
theorem walk_W {l : PySem.W.OpenLaw} {k : Nat} {q : Program} {loose : List Str} {XP : (Str → Option Value) → Heap → Prop} {YP : World → Heap → Prop} {d : DefRec} {x : Str} {F : List PV → IH → Res PV}
    (hn : l.most = some 63) (hdf : d.params.defaults = []) (hr : Room k callerA)
    (hF : ∀ (w : World) (mg : Str → Option Value) (fa : Addr) (h : Heap), YP w h → h.Ns mainGlobals mg → mg d.name = some (.ref fa) →
      ∃ (K : PySem.W.Frag) (fd : FuncData), K.In h ∧ (∀ (s : Shared) (u : Value), BindsTo s fd ⟨[u], []⟩ [(x, u)]) ∧ ∀ base : Heap, K.In base → base.Ns mainGlobals mg → FnOk l.prog w K mg base (L2.CX l.prog w) k fa fd [x] (SpF K mg 1 F))
    (hl : ∀ ns : List Int, ns.length ≤ 63 → ∃ h, F [.fls (ns.map .int)] [] = .ok (.bl true) h) : PySem.W.WalkO q loose XP YP l.row.toRowW d [] (fun f vs => PySem.call f vs) := by
  refine Att.attach_call hn hdf fun w s0 s1 mg mb fa o pm cd doc a vs ns G Y ho hd hcd hmg hobj hints hlen hg => ?_
  obtain ⟨K, fd, KX, hb, hk⟩ := hF w mg fa _ Y G.T.g hmg
  exact law_call KX G.T.g G.T.b G.T.builtins G.T.nolimit hg hobj hints (by rw [sizeLine_eq]; omega) hr hk hb (fun H hO hS => law_sp hl H a ns hlen hO hS) fun H e s' z => cx_none z
end WR

/-! comprehensions -/
namespace WR
open PySem PySem.Spec PyProof.Rows L2
@[simp] def wipeF (r : Fm) : List Nat → Fm
  | [] => r
  | v :: vs => (wipeF r vs).set v none
def lcL (it : ItF) (g : TgF) (c : TX) (A : EX) (r0 : Fm) (D : Nat) : Nat → Nat → IH → Res Unit
  | 0, _, _ => .bad
  | n + 1, i, h => match it i h with
    | none => .bad
    | some none => .ok () h
    | some (some v) => (match g v r0 with
      | none => .bad
      | some r1 => (match c r1 h with
        | .ok b h2 => if b then (match A r1 h2 with
          | .ok y h3 => (match h3[D]? with
            | some (.lst acc) => if acc.length < 16777216 then lcL it g c A r0 D n (i + 1) (h3.set D (.lst (acc ++ [y]))) else .bad
            | _ => .bad)
          | _ => .bad) else lcL it g c A r0 D n (i + 1) h2
        | _ => .bad))
/-- [elt for tg in iter if c] -/
def eLc (I : Fm → IH → Res ItF) (g : TgF) (c : TX) (A : EX) (vs : List Nat) : EX := fun r h => (I r h).bind fun it h1 => (lcL it g c A (wipeF r vs) h1.length LIM 0 (h1 ++ [.lst []])).bind fun _ h2 => .ok (.obj h1.length) h2
@[simp] def tYesX : TX := fun _ h => .ok true h
section
variable {K : PySem.W.Frag} {mg : Str → Option Value} {as : List Addr} {H : Hp} {r : Fm} {s : L2.St}
theorem RF.unset {i : Nat} (f : RF K mg H as r s) : RF K mg H as (r.set i none) (s.set i none) := by
  refine ⟨by simp [f.len], fun j q e => ?_⟩
  by_cases hj : j = i
  · subst hj
    by_cases hl : j < r.length
    · rw [List.getElem?_set_self hl] at e; cases e
    · rw [List.getElem?_eq_none (by simpa using hl)] at e; cases e
  · rw [List.getElem?_set_ne (Ne.symm hj)] at e ⊢
    exact f.at_ j q e
theorem RF.wipe (f : RF K mg H as r s) : ∀ vs, RF K mg H as (wipeF r vs) (L2.wipe s vs)
  | [] => f
  | v :: vs => (RF.wipe f vs).unset
end
theorem wipe_get (s : L2.St) (j : Nat) : ∀ vs : List Nat, (L2.wipe s vs)[j]? = if j ∈ vs then s[j]?.map (fun _ => none) else s[j]?
  | [] => by simp [L2.wipe]
  | v :: vs => by
    have ih := wipe_get s j vs
    have hl := L2.wipe_length s vs
    unfold L2.wipe
    by_cases e : v = j
    · subst e
      rw [if_pos (by simp)]
      by_cases l : v < s.length
      · rw [List.getElem?_set_self (by rw [hl]; exact l), List.getElem?_eq_getElem l]; rfl
      · rw [List.getElem?_eq_none (by simp [hl]; omega), List.getElem?_eq_none (by omega)]; rfl
    · rw [List.getElem?_set_ne e, ih]
      by_cases m : j ∈ vs
      · rw [if_pos m, if_pos (by simp [m])]
      · rw [if_neg m, if_neg (by simp [m]; exact fun z => e z.symm)]
theorem wipe_set {s : L2.St} {i : Nat} {x : Option V} {vs : List Nat} (h : i ∈ vs) : L2.wipe (s.set i x) vs = L2.wipe s vs := by
  apply List.ext_getElem?
  intro j
  rw [wipe_get, wipe_get]
  by_cases m : j ∈ vs
  · rw [if_pos m, if_pos m]
    by_cases e : i = j
    · subst e
      by_cases l : i < s.length
      · rw [List.getElem?_set_self l, List.getElem?_eq_getElem l]; rfl
      · rw [List.getElem?_eq_none (by simp; omega), List.getElem?_eq_none (by omega)]
    · rw [List.getElem?_set_ne e]
  · rw [if_neg m, if_neg m, List.getElem?_set_ne (fun e : i = j => m (by rw [← e]; exact h))]
theorem wipe_wipe (s : L2.St) (vs : List Nat) : L2.wipe (L2.wipe s vs) vs = L2.wipe s vs := by
  apply List.ext_getElem?
  intro j
  rw [wipe_get, wipe_get]
  by_cases m : j ∈ vs
  · rw [if_pos m, if_pos m]; cases s[j]? <;> rfl
  · rw [if_neg m, if_neg m]
/-- a target within a block -/
def GW (K : PySem.W.Frag) (mg : Str → Option Value) (vs : List Nat) (g : TgF) : TG := fun v s H Q => ∃ as r p r1 h, RF K mg H as r s ∧ RH K mg H as h ∧ RP K mg H as p v ∧ g p r = some r1 ∧ ∀ s1, RF K mg H as r1 s1 → L2.wipe s1 vs = L2.wipe s vs → Q s1 H
def GWs (K : PySem.W.Frag) (mg : Str → Option Value) (vs is : List Nat) : TGs := fun us s H Q => ∃ as r ps r1, RF K mg H as r s ∧ RPs K mg H as ps us ∧ setAll is ps r = some r1 ∧ ∀ s1, RF K mg H as r1 s1 → L2.wipe s1 vs = L2.wipe s vs → Q s1 H
def W0 : WX := fun _ _ _ _ => False
section
variable {X : Cx} {W : WX} {k : Nat} {e : Expr} {es : List Expr} {pos : Pos}
theorem gw_name (i : Nat) {vs : List Nat} {x : Str} (hN : X.N.Nodup) (hi : X.N[i]? = some x := by rfl) (hx : Loc X.env.scope x := by first | exact Or.inl rfl | exact Or.inr rfl) (hf : X.fn x = true ∨ X.env.scope.names.lookup x = some .local := by first | exact .inl rfl | exact .inr rfl | assumption) (hv : i ∈ vs := by decide) :
    PG X (.Name x pos) (GW X.K X.mg vs (gVar i)) := by
  refine pgImp (pg_name hN hi hx hf) fun v s H Q ⟨as, r, p, r1, h, f, x, rp, e, q⟩ => ?_
  cases e
  exact q _ (f.set rp) (wipe_set hv)
theorem gws_nil {vs : List Nat} : PGs X [] (GWs X.K X.mg vs []) := by
  refine ⟨fun pins s σ H us ws Q I r q => pgs_nil.run pins s σ H us ws Q I r ?_⟩
  obtain ⟨as, r, ps, r1, f, rp, e, q⟩ := q
  cases ps with
  | nil => cases rp; cases e; exact ⟨rfl, q _ f rfl⟩
  | cons p ps => cases e
theorem gws_cons (i : Nat) {vs is : List Nat} {x : Str} (hN : X.N.Nodup) (h2 : PGs X es (GWs X.K X.mg vs is)) (hi : X.N[i]? = some x := by rfl) (hx : Loc X.env.scope x := by first | exact Or.inl rfl | exact Or.inr rfl) (hf : X.fn x = true ∨ X.env.scope.names.lookup x = some .local := by first | exact .inl rfl | exact .inr rfl | assumption) (hv : i ∈ vs := by decide)
    (hs : (assignEach (.Name x pos :: es) X.env).map (·.2) = assign (.Name x pos) X.env :: (assignEach es X.env).map (·.2) := by rfl) : PGs X (.Name x pos :: es) (GWs X.K X.mg vs (i :: is)) := by
  refine ⟨fun pins s σ H us ws Q I r q => (pgs_cons (pg_name (pos := pos) hN hi hx hf) h2 hs).run pins s σ H us ws Q I r ?_⟩
  obtain ⟨as, r, ps, r1, f, rp, e, q⟩ := q
  cases rp with
  | nil => cases e
  | cons a b => exact ⟨_, _, rfl, as, _, _, r1, f.set a, b, e, fun s1 f1 w1 => q s1 f1 (w1.trans (wipe_set hv))⟩
theorem gw_tup {vs is : List Nat} {kk : Nat} (cx : Ctx X W k) (h : PGs X es (GWs X.K X.mg vs is)) (hl : is.length = es.length := by rfl) (hn : (assignEach es X.env).length = es.length := by rfl) (hst : (assignEach es X.env).findIdx? (·.1) = none := by rfl) :
    PG X (.Tuple es kk pos) (GW X.K X.mg vs (gTupF is)) := by
  refine pgImp (pg_tup cx.calm h hn hst) fun v s H Q ⟨as, r, p, r1, h, f, x, rp, e, q⟩ => ?_
  cases rp with
  | tup hs rs =>
    refine ⟨_, _, rfl, hs, ?_, as, r, _, r1, f, rs, e, q⟩
    rw [← rs.length, ← hl]
    have key : ∀ (is : List Nat) (ps : List PV) (r : Fm) (r1 : Fm), setAll is ps r = some r1 → ps.length = is.length := by
      intro is
      induction is with
      | nil => intro ps r r1 e; cases ps with
        | nil => rfl
        | cons _ _ => cases e
      | cons i is ih => intro ps r r1 e; cases ps with
        | nil => cases e
        | cons p ps => rw [List.length_cons, List.length_cons, ih ps _ _ e]
    exact key _ _ _ _ e
  | non => cases e
  | bl => cases e
  | int => cases e
  | str => cases e
  | fls => cases e
  | obj => cases e
  | glo => cases e
  | ty => cases e
  | key => cases e
theorem Ctx.blk (cx : Ctx X W k) (s : Shared) (H : Hp) (scope : Scope) (cenv : Env) (fp : List Addr) : Ctx (X.blk s H scope cenv fp) W0 k :=
  ⟨fun u s' ⟨a, B, sI, pins, σ, H, cls, d, e, I, nb, up, sky, na, os, ag, w⟩ => w.elim, PassesOwn.never, cx.calm, cx.nd, cx.room⟩
theorem lc_sound {I : Fm → IH → Res ItF} {g : TgF} {c : TX} {A : EX} {vs : List Nat} {K : PySem.W.Frag} {mg : Str → Option Value} {s : L2.St} {H : Hp} {Q : VK} {as : List Addr} {r : Fm} {h : IH} (f : RF K mg H as r s) (x : RH K mg H as h)
    (o : Out K mg (fun H as p v => RP K mg H as p v) W s as H Q (eLc I g c A vs r h)) : tLc (II K mg W I) (GW K mg vs g) (IT K mg W0 c) (IE K mg W0 A) vs s H Q := by
  refine ⟨as, r, h, f, x, (Out.bind o).imp fun J H1 ⟨as1, h1, itf, S1, x1, ri, o1⟩ => ?_⟩
  intro D nD
  have SD := Stp.new (o := .lst []) x1 nD
  refine ⟨fun i m H2 => ∃ as2 h2, Stp as H as2 H2 ∧ RH K mg H2 as2 h2 ∧ RI K mg H2 as2 itf J ∧ as2[h1.length]? = some D ∧
    Out K mg (fun H as p v => RP K mg H as p v) W s as2 H2 Q ((lcL itf g c A (wipeF r vs) h1.length m i h2).bind fun _ h2 => .ok (.obj h1.length) h2),
    ⟨LIM, as1 ++ [D], h1 ++ [.lst []], S1.trans SD, x1.new (m := .lst []) nD ⟨_, upd_same, .nil⟩, ri.mono SD, ?_, o1.shift SD⟩, ?_⟩
  · rw [List.getElem?_append_right (by rw [x1.len]; exact Nat.le_refl _), x1.len, Nat.sub_self]; rfl
  rintro i m H2 ⟨as2, h2, S2, x2, ri2, d2, o2⟩
  cases m with
  | zero => exact o2.elim
  | succ m =>
    have z := ri2 i as2 H2 h2 (Stp.refl _ _) x2
    unfold lcL at o2
    cases q : itf i h2 with
    | none => rw [q] at o2; exact o2.elim
    | some w =>
      rw [q] at z o2
      cases w with
      | none => exact .inl ⟨z, o2.here x2 (.obj d2)⟩
      | some v =>
        refine .inr ⟨z.1, fun H3 => ∃ as3 h3, Stp as H as3 H3 ∧ RH K mg H3 as3 h3 ∧ RI K mg H3 as3 itf J ∧ as3[h1.length]? = some D ∧
          Out K mg (fun H as p v => RP K mg H as p v) W s as3 H3 Q ((lcL itf g c A (wipeF r vs) h1.length m (i + 1) h3).bind fun _ h2 => .ok (.obj h1.length) h2), fun H3 t => ⟨m, Nat.lt_succ_self m, t⟩, fun y H3 hy => ?_⟩
        obtain ⟨S3, x3, rv⟩ := z.2 y H3 hy
        cases qg : g v (wipeF r vs) with
        | none => simp only [qg] at o2; exact o2.elim
        | some r3 =>
          simp only [qg] at o2
          have S23 := S2.trans S3
          refine ⟨as2, wipeF r vs, v, r3, h2, (f.mono S23).wipe vs, x3, rv, qg, fun s4 f4 w4 => ⟨w4.trans (wipe_wipe _ _), as2, r3, h2, f4, x3, ?_⟩⟩
          have o3 := Out.shift S3 o2
          cases qc : c r3 h2 with
          | ex z r5 => simp only [qc] at o3; exact o3.elim
          | bad => simp only [qc] at o3; exact o3.elim
          | ok b h4 =>
            simp only [qc] at o3
            intro b' H4 as4 S4 x4 eb
            subst eb
            have o4 := Out.shift S4 o3
            cases b with
            | false =>
              simp only [Bool.false_eq_true, if_false] at o4 ⊢
              exact ⟨as4, h4, S23.trans S4, x4, (ri2.mono S3).mono S4, S4.get d2, o4⟩
            | true =>
              simp only [if_true] at o4 ⊢
              refine ⟨as4, r3, h4, f4.mono S4, x4, ?_⟩
              cases qa : A r3 h4 with
              | ex z r5 => simp only [qa] at o4; exact o4.elim
              | bad => simp only [qa] at o4; exact o4.elim
              | ok u h5 =>
                simp only [qa] at o4
                intro U H5 as5 S5 x5 ru
                have o5 := Out.shift S5 o4
                have d5 := S5.get (S4.get d2)
                split at o5
                · rename_i acc ha
                  split at o5
                  · rename_i hl
                    obtain ⟨b', e3, ws, e4, rs'⟩ := x5.at_ _ _ ha
                    rw [d5] at e3; cases e3
                    refine ⟨ws, e4, by rw [sizeLine_eq, ← rs'.length]; exact hl, ?_⟩
                    have S6 := Stp.put (o := .lst (ws ++ [U])) x5 d5 ha
                    exact ⟨as5, _, ((S23.trans S4).trans S5).trans S6, x5.put (m := .lst (acc ++ [u])) d5 ha ⟨_, upd_same, (rs'.append (.one ru)).mono S6⟩, (((ri2.mono S3).mono S4).mono S5).mono S6, S6.get d5, o5.shift S6⟩
                  · exact o5.elim
                · exact o5.elim
/-- as a value -/
theorem ie_lc {elt tg iter : Expr} {ifs : List Expr} {scope : Scope} {I : Fm → IH → Res ItF} {g : TgF} {c : TX} {A : EX} {vs : List Nat} (own : List (Str × Nat)) (cx : Ctx X W k) (hi : PI X tg iter (II X.K X.mg W I)) (ok : BlkOk X.N X.env.scope scope own)
    (hg : ∀ (s : Shared) (H : Hp) (C : Addr) (cl : List (Str × Addr)) (fp : List Addr), Ctx (X.blk s H scope (compEnvC scope cl C X.env) fp) W0 k → PG (X.blk s H scope (compEnvC scope cl C X.env) fp) tg (GW X.K X.mg vs g))
    (ht : ∀ (s : Shared) (H : Hp) (C : Addr) (cl : List (Str × Addr)) (fp : List Addr), Ctx (X.blk s H scope (compEnvC scope cl C X.env) fp) W0 k → PTs (X.blk s H scope (compEnvC scope cl C X.env) fp) ifs (IT X.K X.mg W0 c))
    (he : ∀ (s : Shared) (H : Hp) (C : Addr) (cl : List (Str × Addr)) (fp : List Addr), Ctx (X.blk s H scope (compEnvC scope cl C X.env) fp) W0 k → PE (X.blk s H scope (compEnvC scope cl C X.env) fp) elt (IE X.K X.mg W0 A))
    (hv : own.map (·.2) = vs := by rfl) (hs : ∀ x, foldedSetIterable iter X.env x = pure x := by intro _; rfl) : PE X (.ListComp elt [⟨tg, iter, ifs, 0⟩] scope pos) (IE X.K X.mg W (eLc I g c A vs)) := by
  subst hv
  exact peImp (pe_lc cx.calm cx.nd hi ok (fun s H C cl fp => hg s H C cl fp (cx.blk ..)) (fun s H C cl fp => ht s H C cl fp (cx.blk ..)) (fun s H C cl fp => he s H C cl fp (cx.blk ..)) hs) fun s H Q ⟨as, r, h, f, x, o⟩ => lc_sound f x o
theorem it_none : PTs X [] (IT X.K X.mg W tYesX) := ⟨fun pins s σ H Q I h => pts_nil.run pins s σ H Q I (by obtain ⟨as, r, h, f, x, o⟩ := h; exact o.here x rfl)⟩
/-- name = [..] on one line, the name a local -/
theorem is_setLc (i : Nat) {y : Str} {py spos : Pos} {elt tg iter : Expr} {ifs : List Expr} {scope : Scope} {I : Fm → IH → Res ItF} {g : TgF} {c : TX} {A : EX} {vs : List Nat} (own : List (Str × Nat)) (cx : Ctx X W k)
    (hsw : swapsWith (.ListComp elt [⟨tg, iter, ifs, 0⟩] scope pos) (some (.Name y py)) spos.line X.env = pure true) (hi : PI X tg iter (II X.K X.mg W I)) (ok : BlkOk X.N X.env.scope scope own)
    (hg : ∀ (s : Shared) (H : Hp) (C : Addr) (cl : List (Str × Addr)) (fp : List Addr), Ctx (X.blk s H scope (compEnvC scope cl C X.env) fp) W0 k → PG (X.blk s H scope (compEnvC scope cl C X.env) fp) tg (GW X.K X.mg vs g))
    (ht : ∀ (s : Shared) (H : Hp) (C : Addr) (cl : List (Str × Addr)) (fp : List Addr), Ctx (X.blk s H scope (compEnvC scope cl C X.env) fp) W0 k → PTs (X.blk s H scope (compEnvC scope cl C X.env) fp) ifs (IT X.K X.mg W0 c))
    (he : ∀ (s : Shared) (H : Hp) (C : Addr) (cl : List (Str × Addr)) (fp : List Addr), Ctx (X.blk s H scope (compEnvC scope cl C X.env) fp) W0 k → PE (X.blk s H scope (compEnvC scope cl C X.env) fp) elt (IE X.K X.mg W0 A))
    (hy : X.N[i]? = some y := by rfl) (hyl : X.env.scope.names.lookup y = some .local := by rfl)
    (hv : own.map (·.2) = vs := by rfl) (hs : ∀ x, foldedSetIterable iter X.env x = pure x := by intro _; rfl) : PS X (.Assign [.Name y py] (.ListComp elt [⟨tg, iter, ifs, 0⟩] scope pos) spos) (IS X.K X.mg W (sSet i (eLc I g c A vs))) := by
  subst hv
  refine psImp (ps_setLc cx.calm cx.nd hy hyl hsw hi ok (fun s H C cl fp => hg s H C cl fp (cx.blk ..)) (fun s H C cl fp => ht s H C cl fp (cx.blk ..)) (fun s H C cl fp => he s H C cl fp (cx.blk ..)) hs) fun D s H ⟨as, r, h, f, x, o⟩ => ?_
  refine lc_sound f x ((outS_of f o).imp fun V H1 ⟨as1, h1, p, S1, x1, r1, o1⟩ => ?_)
  exact o1 _ H1 as1 (Stp.refl _ _) x1 ((f.mono S1).set r1)
end
end WR

/-! more statements; in -/
namespace WR
open PySem PySem.Spec PyProof.Rows L2
@[simp] def sPar3 (i j l : Nat) (A : AX) : SX := fun r h => toS (A r h) r fun vs h1 => match vs with
  | [v, w, u] => .nx (((r.set i (some v)).set j (some w)).set l (some u)) h1
  | _ => .bad
@[simp] def sCont : SX := fun r h => .ct r h
@[simp] def sAugAdd (i : Nat) (A : EX) : SX := fun r h => match r[i]? with
  | some (some (.int x)) => toS (A r h) r fun v h1 => (match v with
    | .int y => .nx (r.set i (some (.int (x + y)))) h1
    | _ => .bad)
  | _ => .bad
def pInB (x y : PV) (h : IH) : Option Bool := match y with
  | .tup ys => (match x with
    | .int i => if ys.all (fun y => match y with | .int _ => true | _ => false) then some (ys.any fun y => match y with | .int j => j == i | _ => false) else none
    | _ => none)
  | _ => (match dataOf DEP h x, dataOf DEP h y with
    | some d, some (.list ds) => if SeqAt.shaped d && SeqAt.shaped (.list ds) then some (ds.any fun z => PyData.eqv z d) else none
    | _, _ => none)
@[simp] def pIn (x y : PV) (h : IH) : Res PV := opt ((pInB x y h).map .bl) h
@[simp] def pNotIn (x y : PV) (h : IH) : Res PV := opt ((pInB x y h).map fun b => .bl (!b)) h
section
variable {K : PySem.W.Frag} {mg : Str → Option Value}
theorem ints_flat {as : List Addr} {H : Hp} : ∀ {ys : List PV} {us : List V}, RPs K mg H as ys us → ys.all (fun y => match y with | .int _ => true | _ => false) = true → ∀ i : Int, us.all flatV = true ∧ inV (.int i) us = ys.any fun y => match y with | .int j => j == i | _ => false
  | [], _, .nil, _, i => ⟨rfl, rfl⟩
  | p :: ps, _, .cons r t, e, i => by
    rw [List.all_cons, Bool.and_eq_true] at e
    obtain ⟨e1, e2⟩ := e
    obtain ⟨h1, h2⟩ := ints_flat t e2 i
    cases r with
    | int j => exact ⟨by simp [flatV, h1], by unfold inV at *; rw [List.any_cons, List.any_cons, h2]; rfl⟩
    | _ => cases e1
theorem inB_of {as : List Addr} {H : Hp} {h : IH} {x y : PV} {U V : V} {q : Bool} (rh : RH K mg H as h) (rx : RP K mg H as x U) (ry : RP K mg H as y V) (e : pInB x y h = some q) :
    (∃ d ds, Dp K H U d ∧ Dp K H V (.list ds) ∧ SeqAt.shaped d = true ∧ SeqAt.shaped (.list ds) = true ∧ (ds.any fun z => PyData.eqv z d) = q) ∨
    ∃ p xs, V = .ref p ∧ (SqL K H p xs ∨ SqT K H p xs) ∧ flatV U = true ∧ xs.all flatV = true ∧ inV U xs = q := by
  unfold pInB at e
  split at e
  · split at e
    · split at e
      · rename_i hf
        cases ry with
        | tup hs rs =>
          cases rx
          cases e
          obtain ⟨h1, h2⟩ := ints_flat rs hf _
          exact .inr ⟨_, _, rfl, .inr hs, rfl, h1, h2⟩
      · cases e
    · cases e
  · split at e
    · rename_i d1 ds e1 e2
      split at e
      · rename_i hs
        obtain ⟨s1, s2⟩ := Bool.and_eq_true_iff.mp hs
        cases e
        exact .inl ⟨d1, ds, dp_of rh _ _ _ _ rx e1, dp_of rh _ _ _ _ ry e2, s1, s2, rfl⟩
      · cases e
    · cases e
theorem snd_in : Snd K mg pIn (fun x y H Q => rInD K x y H Q ∨ rIn K false x y H Q) := by
  intro W s as H h x y U V Q rh rx ry o
  unfold pIn at o
  cases q : pInB x y h with
  | none => rw [q] at o; exact o.elim
  | some z =>
    rw [q] at o
    rcases inB_of rh rx ry q with ⟨d, ds, h1, h2, h3, h4, rfl⟩ | ⟨p, xs, h1, h2, h3, h4, rfl⟩
    · exact .inl ⟨d, ds, h1, h2, h3, h4, o.here rh (.bl _)⟩
    · exact .inr ⟨p, xs, h1, h2, h3, h4, o.here rh (.bl _)⟩
theorem snd_notin : Snd K mg pNotIn (fun x y H Q => rNotInD K x y H Q ∨ rIn K true x y H Q) := by
  intro W s as H h x y U V Q rh rx ry o
  unfold pNotIn at o
  cases q : pInB x y h with
  | none => rw [q] at o; exact o.elim
  | some z =>
    rw [q] at o
    rcases inB_of rh rx ry q with ⟨d, ds, h1, h2, h3, h4, rfl⟩ | ⟨p, xs, h1, h2, h3, h4, rfl⟩
    · exact .inl ⟨d, ds, h1, h2, h3, h4, o.here rh (.bl _)⟩
    · exact .inr ⟨p, xs, h1, h2, h3, h4, o.here rh (.bl _)⟩
end
section
variable {X : Cx} {W : WX} {k : Nat} {a b e : Expr} {es : List Expr} {pos : Pos} {A B : EX} {L : AX}
theorem units65 {A : Around} (h : Room k A) : A.units + 65 < cLine := by
  have := h.un
  omega
theorem ie_in (cx : Ctx X W k) (ha : PE X a (IE X.K X.mg W A)) (hb : PE X b (IE X.K X.mg W B)) (hm : behindInMarks .In b = false := by rfl) : PE X (.Compare a [.In] [b] pos) (IE X.K X.mg W (eOp pIn A B)) := ie_cmp ((op_inD (units65 cx.room)).or op_in_seq) snd_in ha hb hm
theorem ie_notin (cx : Ctx X W k) (ha : PE X a (IE X.K X.mg W A)) (hb : PE X b (IE X.K X.mg W B)) (hm : behindInMarks .NotIn b = false := by rfl) : PE X (.Compare a [.NotIn] [b] pos) (IE X.K X.mg W (eOp pNotIn A B)) := ie_cmp ((op_notInD (units65 cx.room)).or op_notIn_seq) snd_notin ha hb hm
theorem it_in (cx : Ctx X W k) (ha : PE X a (IE X.K X.mg W A)) (hb : PE X b (IE X.K X.mg W B)) (hm : behindInMarks .In b = false := by rfl) : PT X (.Compare a [.In] [b] pos) (IT X.K X.mg W (tBl (eOp pIn A B))) := it_cmp ((op_inD (units65 cx.room)).or op_in_seq) snd_in ha hb hm
theorem it_notin (cx : Ctx X W k) (ha : PE X a (IE X.K X.mg W A)) (hb : PE X b (IE X.K X.mg W B)) (hm : behindInMarks .NotIn b = false := by rfl) : PT X (.Compare a [.NotIn] [b] pos) (IT X.K X.mg W (tBl (eOp pNotIn A B))) := it_cmp ((op_notInD (units65 cx.room)).or op_notIn_seq) snd_notin ha hb hm
theorem is_pass : PS X (.Pass pos) (IS X.K X.mg W sNil) := psImp ps_pass fun D s H ⟨as, r, h, f, x, o⟩ => o _ _ _ (Stp.refl _ _) x f
theorem is_cont : PS X (.Continue pos) (IS X.K X.mg W sCont) := psImp ps_continue fun D s H ⟨as, r, h, f, x, o⟩ => o _ _ _ (Stp.refl _ _) x f
theorem is_par3 {i j l : Nat} {x y z : Str} {a b c : Expr} {px py pz pt : Pos} {kt k2 pt2} (cx : Ctx X W k) (ha : PA X [a, b, c] (IA X.K X.mg W L)) (hi : X.N[i]? = some x := by rfl) (hj : X.N[j]? = some y := by rfl) (hl : X.N[l]? = some z := by rfl) (hij : i ≠ j := by decide) (hil : i ≠ l := by decide) (hjl : j ≠ l := by decide)
    (hx : X.env.scope.names.lookup x = some .local := by rfl) (hy : X.env.scope.names.lookup y = some .local := by rfl) (hz : X.env.scope.names.lookup z = some .local := by rfl)
    (hw : swappedStores [.Tuple [.Name x px, .Name y py, .Name z pz] kt pt] (.Tuple [a, b, c] k2 pt2) X.env = pure (some [x, y, z]) := by rfl)
    (hs : swapsWithSole [.Tuple [.Name x px, .Name y py, .Name z pz] kt pt] (.Tuple [a, b, c] k2 pt2) pos.line X.env = pure false := by rfl) :
    PS X (.Assign [.Tuple [.Name x px, .Name y py, .Name z pz] kt pt] (.Tuple [a, b, c] k2 pt2) pos) (IS X.K X.mg W (sPar3 i j l L)) := by
  refine psImp (ps_par3 cx.calm cx.nd hi hj hl hij hil hjl hx hy hz ha hw hs) fun D s H ⟨as, r, h, f, x, o⟩ => ?_
  refine ⟨as, r, h, f, x, (outS_of f o).imp fun Vs H1 ⟨as1, h1, ps, S1, x1, r1, o1⟩ => ?_⟩
  split at o1
  · cases r1 with
    | cons rv r1 => cases r1 with
      | cons rw' r1 => cases r1 with
        | cons ru r1 => cases r1; exact ⟨_, _, _, rfl, o1 _ H1 as1 (Stp.refl _ _) x1 ((((f.mono S1).set rv).set rw').set ru)⟩
  · exact o1.elim
theorem is_augAdd {i : Nat} {x : Str} {pos' : Pos} (cx : Ctx X W k) (he : PE X e (IE X.K X.mg W A)) (hi : X.N[i]? = some x := by rfl) (hx : Loc X.env.scope x := by first | exact Or.inl rfl | exact Or.inr rfl) (hf : X.fn x = true ∨ X.env.scope.names.lookup x = some .local := by first | exact .inl rfl | exact .inr rfl | assumption) :
    PS X (.AugAssign (.Name x pos') .Add e pos) (IS X.K X.mg W (sAugAdd i A)) := by
  refine psImp (ps_aug cx.nd hi hx he ip_add hf) fun D s H ⟨as, r, h, f, x, o⟩ => ?_
  unfold sAugAdd at o
  split at o
  · rename_i n e1
    obtain ⟨V, e2, rv⟩ := f.at_ i _ e1
    cases rv
    refine ⟨_, e2, as, r, h, f, x, (outS_of f o).imp fun V H1 ⟨as1, h1, p, S1, x1, r1, o1⟩ => ?_⟩
    split at o1
    · cases r1
      exact ⟨_, _, rfl, rfl, o1 _ H1 as1 (Stp.refl _ _) x1 ((f.mono S1).set (.int _))⟩
    · exact o1.elim
  · exact o.elim
end
end WR

/-! more of lists -/
namespace WR
open PySem PySem.Spec PyProof.Rows L2
@[simp] def eInsert (A : EX) (L : AX) : EX := fun r h => (A r h).bind fun x h1 => match x with
  | .obj n => (match h1[n]? with
    | some (.lst _) => (L r h1).bind fun vs h2 => (match vs, h2[n]? with
      | [.int i, y], some (.lst xs) => if xs.length < 16777216 ∧ 0 ≤ i ∧ i < 1000000000 then .ok .non (h2.set n (.lst (xs.take i.toNat ++ [y] ++ xs.drop i.toNat))) else .bad
      | _, _ => .bad)
    | _ => .bad)
  | _ => .bad
section
variable {X : Cx} {W : WX} {k : Nat} {a b e o : Expr} {es : List Expr} {pos : Pos} {A B C : EX} {L : AX}
theorem ie_insert {apos : Pos} (ho : PE X o (IE X.K X.mg W A)) (ha : PA X (e :: es) (IA X.K X.mg W L)) (hbase : attributeBase o "insert" X.env (eval o X.env) = eval o X.env := by rfl)
    (hfew : ((backTo pos (starEach (e :: es) X.env)).all (fun x => !x.1) && (backToKw pos (keywordEach [] X.env)).all (fun x => x.1.isSome)
      && decide ((e :: es).length + ([] : List Keyword).length + (if ([] : List Keyword).isEmpty then 0 else 1) < 30)) = true := by rfl)
    (hline : (apos.endLine == pos.line) = true := by rfl) (hs : starEach (e :: es) X.env = (false, eval e X.env) :: starEach es X.env := by rfl) (hplain : (backTo pos (starEach es X.env)).any (·.1) = false := by rfl) :
    PE X (.Call (.Attribute o "insert" apos) (e :: es) [] pos) (IE X.K X.mg W (eInsert A L)) := by
  refine peImp (pe_bm PySem.F.plainAttrs_list PySem.F.slot_list_insert PySem.F.type_list_insert mt_insert ho ha hbase hfew hline hs hplain) fun s H Q ⟨as, ρ, hh, f, x, o⟩ => ?_
  refine ⟨as, ρ, hh, f, x, (Out.bind o).imp fun V H1 ⟨as1, h1, p1, S1, x1, r1, o1⟩ => ?_⟩
  split at o1
  · rename_i n
    cases r1 with
    | obj hn =>
      split at o1
      · rename_i ys hy
        obtain ⟨b, e1, us, e2, rs⟩ := x1.at_ _ _ hy
        rw [hn] at e1; cases e1
        refine ⟨.inl ⟨rfl, _, SqL.of e2⟩, as1, ρ, h1, f.mono S1, x1, (Out.bind o1).imp fun Vs H2 ⟨as2, h2, p2, S2, x2, r2, o2⟩ => ?_⟩
        split at o2
        · rename_i i y xs hx
          split at o2
          · rename_i hl
            obtain ⟨v, w, rfl, rv, rw'⟩ := r2.inv2
            cases rv
            obtain ⟨b', e3, ws, e4, rs'⟩ := x2.at_ _ _ hx
            have hn2 := S2.get hn
            rw [hn2] at e3; cases e3
            refine ⟨_, ws, i, w, rfl, rfl, e4, by rw [sizeLine_eq, ← rs'.length]; exact hl.1, hl.2.1, by omega, ?_⟩
            have S3 := Stp.put (o := .lst (ws.take i.toNat ++ [w] ++ ws.drop i.toNat)) x2 hn2 hx
            exact o2 _ _ _ S3 (x2.put (m := .lst (xs.take i.toNat ++ [y] ++ xs.drop i.toNat)) hn2 hx ⟨_, upd_same, (((rs'.take _).append (.one rw')).append (rs'.drop _)).mono S3⟩) .non
          · exact o2.elim
        · exact o2.elim
      · exact o1.elim
  · exact o1.elim
end
end WR

/-! keys (tuples of ints that stand in H), dicts of them, sums, two clauses, calls of items -/
namespace WR
open PySem PySem.Spec PyProof.Rows L2
@[simp] def nrm : PV → PV
  | .key ks => .tup (ks.map .int)
  | v => v
@[simp] def eF (A : EX) : EX := fun r h => (A r h).bind fun v h1 => .ok (nrm v) h1
@[simp] def keyOf : List PV → Option (List Int)
  | [] => some []
  | .int i :: r => (keyOf r).map (i :: ·)
  | _ => none
@[simp] def eKey (L : AX) : EX := fun r h => (L r h).bind fun xs h1 => match keyOf xs with
  | some ks => if ks.length ≤ 16777216 then .ok (.key ks) h1 else .bad
  | none => .bad
@[simp] def pAddK : PV → PV → IH → Res PV
  | .key a, .key b, h => if a.length + b.length ≤ 16777216 then .ok (.key (a ++ b)) h else .bad
  | _, _, _ => .bad
@[simp] def pSlK : PV → Option Int → Option Int → IH → Res PV
  | .key ks, lo, hi, h => .ok (.key (cutA ks lo hi)) h
  | _, _, _, _ => .bad
@[simp] def eSlK (A : EX) (l u : OX) : EX := fun r h => (A r h).bind fun x h1 => (l r h1).bind fun lo h2 => (u r h2).bind fun hi h3 => pSlK x lo hi h3
section
variable {K : PySem.W.Frag} {mg : Str → Option Value} {as : List Addr} {H : Hp}
theorem RPs.ints : ∀ (ks : List Int), RPs K mg H as (ks.map .int) (ks.map V.int)
  | [] => .nil
  | k :: r => .cons (.int k) (RPs.ints r)
theorem RP.nrm {p : PV} {v : V} (r : RP K mg H as p v) : RP K mg H as (nrm p) v := by
  cases r with
  | key h => exact .tup (SqT.of h) (RPs.ints _)
  | non => exact .non
  | bl b => exact .bl b
  | int i => exact .int i
  | str x => exact .str x
  | tup a b => exact .tup a b
  | fls a b => exact .fls a b
  | obj a => exact .obj a
  | glo a b => exact .glo a b
  | ty n => exact .ty n
theorem keyOf_of : ∀ {ps : List PV} {vs : List V} {ks : List Int}, RPs K mg H as ps vs → keyOf ps = some ks → vs = ks.map V.int
  | [], _, _, .nil, e => by cases e; rfl
  | p :: ps, _, ks, .cons r t, e => by
    cases r with
    | int i =>
      simp only [keyOf, Option.map_eq_some_iff] at e
      obtain ⟨ks', e1, rfl⟩ := e
      rw [keyOf_of t e1]; rfl
    | _ => cases e
end
section
variable {X : Cx} {W : WX} {k : Nat} {a b e o : Expr} {es : List Expr} {pos p apos : Pos} {A B C : EX} {L : AX}
theorem ie_f (ha : PE X a (IE X.K X.mg W A)) : PE X a (IE X.K X.mg W (eF A)) := by
  refine peImp ha fun s H Q ⟨as, ρ, hh, f, x, o⟩ => ?_
  refine ⟨as, ρ, hh, f, x, (Out.bind o).imp fun V H1 ⟨as1, h1, p1, S1, x1, r1, o1⟩ => ?_⟩
  exact o1.here x1 r1.nrm
theorem ie_key {x1} (h : PA X es (IA X.K X.mg W L)) : PE X (.Tuple es x1 pos) (IE X.K X.mg W (eKey L)) := by
  refine peImp (pe_tup h) fun s H Q ⟨as, ρ, hh, f, x, o⟩ => ?_
  refine ⟨as, ρ, hh, f, x, (Out.bind o).imp fun Vs H1 ⟨as1, h1, p1, S1, x1, r1, o1⟩ => ?_⟩
  split at o1
  · rename_i ks hk
    have e := keyOf_of r1 hk
    subst e
    split at o1
    · rename_i hl
      refine ⟨by rw [sizeLine_eq, List.length_map]; exact hl, fun p np => ?_⟩
      exact o1 _ _ as1 (Stp.lay x1 np) (x1.lay np) (.key upd_same)
    · exact o1.elim
  · exact o1.elim
theorem snd_addK {K : PySem.W.Frag} {mg : Str → Option Value} : Snd K mg pAddK (rCatA K) := by
  intro W s as H h x y U V Q rh rx ry o
  unfold pAddK at o
  split at o
  · rename_i ks ls
    cases rx with
    | key ha => cases ry with
      | key hb =>
        split at o
        · rename_i hl
          refine ⟨_, _, _, _, rfl, rfl, SqT.of ha, SqT.of hb, by rw [sizeLine_eq, List.length_map, List.length_map]; exact hl, fun e => ?_, fun _ e => ?_, fun _ _ p np => ?_⟩
          · have e' : ks = [] := List.map_eq_nil_iff.mp e
            subst e'
            exact o.here rh (.key hb)
          · have e' : ls = [] := List.map_eq_nil_iff.mp e
            subst e'
            rw [List.append_nil] at o
            exact o.here rh (.key ha)
          · exact o _ _ as (Stp.lay rh np) (rh.lay np) (.key (by rw [upd_same, List.map_append]))
        · exact o.elim
  · exact o.elim
theorem ie_addK (ha : PE X a (IE X.K X.mg W A)) (hb : PE X b (IE X.K X.mg W B)) : PE X (.BinOp a .Add b pos) (IE X.K X.mg W (eOp pAddK A B)) := ie_op op_catA snd_addK ha hb
theorem cut_map {α β : Type} (g : α → β) (l : List α) (lo hi : Option Int) : (cutA l lo hi).map g = cutA (l.map g) lo hi := by
  unfold cutA
  rw [List.map_take, List.map_drop, List.length_map]
theorem ie_slK {lo hi : Option Expr} {p2 : Pos} {l u : OX} (he : PE X e (IE X.K X.mg W A)) (hl : PO X lo (IO X.K X.mg W l)) (hu : PO X hi (IO X.K X.mg W u)) : PE X (.Subscript e (.Slice lo hi none p2) pos) (IE X.K X.mg W (eSlK A l u)) := by
  refine peImp (pe_slice (sl_tupA.or sl_list) he hl hu) fun s H Q ⟨as, ρ, hh, f, x, o⟩ => ?_
  refine ⟨as, ρ, hh, f, x, (Out.bind o).imp fun V H1 ⟨as1, h1, p1, S1, x1, r1, o1⟩ => ?_⟩
  refine ⟨as1, ρ, h1, f.mono S1, x1, (Out.bind o1).imp fun lo' H2 ⟨as2, h2, p2, S2, x2, r2, o2⟩ => ?_⟩
  refine ⟨as2, ρ, h2, (f.mono S1).mono S2, x2, (Out.bind o2).imp fun hi' H3 ⟨as3, h3, p3, S3, x3, r3, o3⟩ => ?_⟩
  obtain rfl : p2 = lo' := r2
  obtain rfl : p3 = hi' := r3
  have r1' := (r1.mono S2).mono S3
  unfold pSlK at o3
  split at o3
  · rename_i ks
    cases r1' with
    | key hs =>
      refine .inl ⟨_, _, rfl, SqT.of hs, fun hw => ?_, fun _ p np => ?_⟩
      · have e : ∀ {α : Type} (l : List α), HT.sIx l.length 0 p2 = 0 ∧ HT.sIx l.length l.length p3 = l.length → cutA l p2 p3 = l := fun l z => by
          unfold cutA
          rw [z.1, z.2]
          simp
        rw [List.length_map] at hw
        rw [e _ hw] at o3
        exact o3.here x3 (.key hs)
      · refine o3 _ _ as3 (Stp.lay x3 np) (x3.lay np) (.key ?_)
        rw [upd_same, cut_map]; rfl
  · exact o3.elim
end
/-! ### dicts -/
def dGet (kvs : List (List Int × PV)) (k : List Int) : Option PV := (kvs.find? fun q => decide (q.1 = k)).map (·.2)
def dPut (kvs : List (List Int × PV)) (k : List Int) (v : PV) : List (List Int × PV) :=
  if (kvs.any fun q => decide (q.1 = k)) = true then kvs.map (fun q => if q.1 = k then (q.1, v) else q) else kvs ++ [(k, v)]
@[simp] def eDNew : EX := fun _ h => .ok (.obj h.length) (h ++ [.dct []])
@[simp] def pDGet (x y : PV) (h : IH) : Res PV := match x, y with
  | .obj n, .key k => (match h[n]? with
    | some (.dct kvs) => opt (dGet kvs k) h
    | _ => .bad)
  | _, _ => .bad
@[simp] def pDIn (y x : PV) (h : IH) : Res PV := match x, y with
  | .obj n, .key k => (match h[n]? with
    | some (.dct kvs) => .ok (.bl (dGet kvs k).isSome) h
    | _ => .bad)
  | _, _ => .bad
@[simp] def pDNotIn (y x : PV) (h : IH) : Res PV := match x, y with
  | .obj n, .key k => (match h[n]? with
    | some (.dct kvs) => .ok (.bl (!(dGet kvs k).isSome)) h
    | _ => .bad)
  | _, _ => .bad
/-- d[k] = v: v first -/
@[simp] def sDPutX (D Kx V : EX) : SX := fun r h => toS (V r h) r fun v h1 => toS (D r h1) r fun d h2 => toS (Kx r h2) r fun kk h3 => match d, kk with
  | .obj n, .key k => (match h3[n]? with
    | some (.dct kvs) => if kvs.length < 16777216 then .nx r (h3.set n (.dct (dPut kvs k v))) else .bad
    | _ => .bad)
  | _, _ => .bad
theorem kV_map (k : List Int) : (k.map (Sum.inl : Int → Key)).map kV = k.map V.int := by
  rw [List.map_map]; rfl
theorem inl_inj {a b : List Int} : a.map (Sum.inl : Int → Key) = b.map Sum.inl ↔ a = b := by
  constructor
  · intro h
    induction a generalizing b with
    | nil => cases b with
      | nil => rfl
      | cons _ _ => cases h
    | cons x r ih => cases b with
      | nil => cases h
      | cons y t =>
        simp only [List.map_cons, List.cons.injEq, Sum.inl.injEq] at h
        rw [h.1, ih h.2]
  · intro h; rw [h]
section
variable {K : PySem.W.Frag} {mg : Str → Option Value} {as : List Addr} {H : Hp}
theorem dGet_of (k : List Int) : ∀ {kvs : List (List Int × PV)} {gs : List (List Key × V)}, gs.map (·.1) = kvs.map (fun q => q.1.map (Sum.inl : Int → Key)) → RPs K mg H as (kvs.map (·.2)) (gs.map (·.2)) →
    (∃ p v, dGet kvs k = some p ∧ valV gs (k.map Sum.inl) = some v ∧ RP K mg H as p v) ∨ (dGet kvs k = none ∧ valV gs (k.map Sum.inl) = none)
  | [], [], _, _ => .inr ⟨rfl, rfl⟩
  | [], g :: gs, e, _ => by cases e
  | q :: kvs, [], e, _ => by cases e
  | q :: kvs, g :: gs, e, r => by
    simp only [List.map_cons, List.cons.injEq] at e
    cases r with
    | cons r1 r2 =>
      by_cases hk : q.1 = k
      · refine .inl ⟨q.2, g.2, by simp [dGet, List.find?_cons, hk], valV_pos (by rw [e.1, hk]), r1⟩
      · have hk' : ¬ g.1 = k.map (Sum.inl : Int → Key) := by rw [e.1]; exact fun z => hk (inl_inj.mp z)
        have e2 : dGet (q :: kvs) k = dGet kvs k := by simp [dGet, List.find?_cons, hk]
        rw [e2, valV_neg hk']
        exact dGet_of k e.2 r2
theorem any_of (k : List Int) {kvs : List (List Int × PV)} {gs : List (List Key × V)} (e : gs.map (·.1) = kvs.map (fun q => q.1.map (Sum.inl : Int → Key))) :
    (gs.any fun kv => decide (kv.1 = k.map Sum.inl)) = (kvs.any fun q => decide (q.1 = k)) := by
  induction kvs generalizing gs with
  | nil => cases gs with
    | nil => rfl
    | cons _ _ => cases e
  | cons q kvs ih => cases gs with
    | nil => cases e
    | cons g gs =>
      simp only [List.map_cons, List.cons.injEq] at e
      rw [List.any_cons, List.any_cons, ih e.2, e.1]
      congr 1
      rw [decide_eq_decide]
      exact inl_inj
theorem dPut_of (k : List Int) {v : PV} {u : V} (rv : RP K mg H as v u) {kvs : List (List Int × PV)} {gs : List (List Key × V)} (e : gs.map (·.1) = kvs.map (fun q => q.1.map (Sum.inl : Int → Key))) (r : RPs K mg H as (kvs.map (·.2)) (gs.map (·.2))) :
    (putK gs (k.map Sum.inl) u).map (·.1) = (dPut kvs k v).map (fun q => q.1.map (Sum.inl : Int → Key)) ∧ RPs K mg H as ((dPut kvs k v).map (·.2)) ((putK gs (k.map Sum.inl) u).map (·.2)) := by
  unfold putK dPut
  rw [any_of k e]
  split
  · rename_i hc
    clear hc
    induction kvs generalizing gs with
    | nil => cases gs with
      | nil => exact ⟨rfl, .nil⟩
      | cons _ _ => cases e
    | cons q kvs ih => cases gs with
      | nil => cases e
      | cons g gs =>
        simp only [List.map_cons, List.cons.injEq] at e
        cases r with
        | cons r1 r2 =>
          obtain ⟨i1, i2⟩ := ih e.2 r2
          by_cases hk : q.1 = k
          · have hg : g.1 = k.map (Sum.inl : Int → Key) := by rw [e.1, hk]
            simp only [List.map_cons, if_pos hk, if_pos hg]
            exact ⟨by rw [i1, hg, hk], .cons rv i2⟩
          · have hg : ¬ g.1 = k.map (Sum.inl : Int → Key) := by rw [e.1]; exact fun z => hk (inl_inj.mp z)
            simp only [List.map_cons, if_neg hk, if_neg hg]
            exact ⟨by rw [i1, e.1], .cons r1 i2⟩
  · simp only [List.map_append, List.map_cons, List.map_nil]
    exact ⟨by rw [e], r.append (.one rv)⟩
theorem dget_rel {h : IH} {n : Nat} {k : List Int} {kvs : List (List Int × PV)} {U V : V} (rh : RH K mg H as h) (rx : RP K mg H as (.obj n) U) (ry : RP K mg H as (.key k) V) (e : h[n]? = some (.dct kvs)) :
    ∃ a ov, U = .ref a ∧ DGet H a V ov ∧ ((∃ p v, dGet kvs k = some p ∧ ov = some v ∧ RP K mg H as p v) ∨ (dGet kvs k = none ∧ ov = none)) := by
  cases rx with
  | obj ha => cases ry with
    | key hb =>
      obtain ⟨a, g1, gs, g2, ek, rs⟩ := rh.at_ _ _ e
      rw [ha] at g1; cases g1
      refine ⟨_, _, rfl, DGet.t g2 (k := k.map Sum.inl) (by rw [hb, kV_map]), ?_⟩
      rcases dGet_of k ek rs with ⟨p, v, h1, h2, h3⟩ | ⟨h1, h2⟩
      · exact .inl ⟨p, v, h1, h2, h3⟩
      · exact .inr ⟨h1, h2⟩
end
section
variable {X : Cx} {W : WX} {k : Nat} {a b e o i : Expr} {es : List Expr} {pos p apos : Pos} {A B C : EX} {L : AX}
theorem ie_dnew : PE X (.Dict [] [] pos) (IE X.K X.mg W eDNew) := by
  refine peImp pe_dnewT fun s H Q ⟨as, ρ, hh, f, x, o⟩ => ?_
  intro p np
  have S := Stp.new (o := .dT []) x np
  refine o _ _ _ S (x.new np ⟨_, upd_same, rfl, .nil⟩) (.obj ?_)
  rw [List.getElem?_append_right (by rw [x.len]; exact Nat.le_refl _), x.len, Nat.sub_self]
  rfl
theorem ie_dget (cx : Ctx X W k) (ha : PE X a (IE X.K X.mg W A)) (hb : PE X b (IE X.K X.mg W B)) (hs : NoSl b := by intro _ _; rfl) : PE X (.Subscript a b pos) (IE X.K X.mg W (eOp pDGet A B)) := by
  refine peImp (pe_dget (hu_of cx.room) ha hb hs) fun s H Q ⟨as, ρ, hh, f, x, o⟩ => ?_
  refine ⟨as, ρ, hh, f, x, (Out.bind o).imp fun V H1 ⟨as1, h1, p1, S1, x1, r1, o1⟩ => ?_⟩
  refine ⟨as1, ρ, h1, f.mono S1, x1, (Out.bind o1).imp fun V2 H2 ⟨as2, h2, p2, S2, x2, r2, o2⟩ => ?_⟩
  unfold pDGet at o2
  split at o2
  · split at o2
    · rename_i kvs hk
      obtain ⟨a, ov, rfl, g, z⟩ := dget_rel x2 (r1.mono S2) r2 hk
      rcases z with ⟨p, v, h1, rfl, h3⟩ | ⟨h1, h2⟩
      · rw [h1] at o2
        exact ⟨_, _, rfl, g, o2.here x2 h3⟩
      · rw [h1] at o2; exact o2.elim
    · exact o2.elim
  · exact o2.elim
theorem op_din (hu : X.A.units + 1 < cLine) : OpR X (compareOp .In) (fun y x H Q => ∃ a o, x = .ref a ∧ DGet H a y o ∧ Q (.bl o.isSome) H) := by
  intro pins s σ H x y v u Q I rx ry h
  obtain ⟨a, o, rfl, g, q⟩ := h
  obtain rfl : u = Value.ref a := ry
  exact d_in hu I g rx fun s3 I3 => ⟨.bl o.isSome, H, I3, rfl, q⟩
theorem op_dnotin (hu : X.A.units + 1 < cLine) : OpR X (compareOp .NotIn) (fun y x H Q => ∃ a o, x = .ref a ∧ DGet H a y o ∧ Q (.bl (!o.isSome)) H) := by
  intro pins s σ H x y v u Q I rx ry h
  obtain ⟨a, o, rfl, g, q⟩ := h
  obtain rfl : u = Value.ref a := ry
  exact d_notIn hu I g rx fun s3 I3 => ⟨.bl (!o.isSome), H, I3, rfl, q⟩
theorem snd_din {K : PySem.W.Frag} {mg : Str → Option Value} : Snd K mg pDIn (fun y x H Q => ∃ a o, x = .ref a ∧ DGet H a y o ∧ Q (.bl o.isSome) H) := by
  intro W s as H h x y U V Q rh rx ry o
  unfold pDIn at o
  split at o
  · split at o
    · rename_i kvs hk
      obtain ⟨a, ov, rfl, g, z⟩ := dget_rel rh ry rx hk
      refine ⟨_, _, rfl, g, ?_⟩
      rcases z with ⟨p, v, h1, rfl, h3⟩ | ⟨h1, rfl⟩
      · rw [h1] at o; exact o.here rh (.bl _)
      · rw [h1] at o; exact o.here rh (.bl _)
    · exact o.elim
  · exact o.elim
theorem snd_dnotin {K : PySem.W.Frag} {mg : Str → Option Value} : Snd K mg pDNotIn (fun y x H Q => ∃ a o, x = .ref a ∧ DGet H a y o ∧ Q (.bl (!o.isSome)) H) := by
  intro W s as H h x y U V Q rh rx ry o
  unfold pDNotIn at o
  split at o
  · split at o
    · rename_i kvs hk
      obtain ⟨a, ov, rfl, g, z⟩ := dget_rel rh ry rx hk
      refine ⟨_, _, rfl, g, ?_⟩
      rcases z with ⟨p, v, h1, rfl, h3⟩ | ⟨h1, rfl⟩
      · rw [h1] at o; exact o.here rh (.bl _)
      · rw [h1] at o; exact o.here rh (.bl _)
    · exact o.elim
  · exact o.elim
theorem ie_din (cx : Ctx X W k) (ha : PE X a (IE X.K X.mg W A)) (hb : PE X b (IE X.K X.mg W B)) (hm : behindInMarks .In b = false := by rfl) : PE X (.Compare a [.In] [b] pos) (IE X.K X.mg W (eOp pDIn A B)) := ie_cmp (op_din (hu_of cx.room)) snd_din ha hb hm
theorem it_din (cx : Ctx X W k) (ha : PE X a (IE X.K X.mg W A)) (hb : PE X b (IE X.K X.mg W B)) (hm : behindInMarks .In b = false := by rfl) : PT X (.Compare a [.In] [b] pos) (IT X.K X.mg W (tBl (eOp pDIn A B))) := it_cmp (op_din (hu_of cx.room)) snd_din ha hb hm
theorem ie_dnotin (cx : Ctx X W k) (ha : PE X a (IE X.K X.mg W A)) (hb : PE X b (IE X.K X.mg W B)) (hm : behindInMarks .NotIn b = false := by rfl) : PE X (.Compare a [.NotIn] [b] pos) (IE X.K X.mg W (eOp pDNotIn A B)) := ie_cmp (op_dnotin (hu_of cx.room)) snd_dnotin ha hb hm
theorem it_dnotin (cx : Ctx X W k) (ha : PE X a (IE X.K X.mg W A)) (hb : PE X b (IE X.K X.mg W B)) (hm : behindInMarks .NotIn b = false := by rfl) : PT X (.Compare a [.NotIn] [b] pos) (IT X.K X.mg W (tBl (eOp pDNotIn A B))) := it_cmp (op_dnotin (hu_of cx.room)) snd_dnotin ha hb hm
theorem is_dput {value : Expr} {pos' : Pos} (cx : Ctx X W k) (hv : PE X value (IE X.K X.mg W C)) (ho : PE X o (IE X.K X.mg W A)) (hi : PE X i (IE X.K X.mg W B)) (hs : swapsWith value (some (.Subscript o i pos')) pos.line X.env = pure false := by rfl) :
    PS X (.Assign [.Subscript o i pos'] value pos) (IS X.K X.mg W (sDPutX A B C)) := by
  refine psImp (ps_dput (hu_of cx.room) ho hi hv hs) fun D s H ⟨as, r, h, f, x, o⟩ => ?_
  refine ⟨as, r, h, f, x, (outS_of f o).imp fun V H1 ⟨as1, h1, p1, S1, x1, r1, o1⟩ => ?_⟩
  refine ⟨as1, r, h1, f.mono S1, x1, (outS_of (f.mono S1) o1).imp fun V2 H2 ⟨as2, h2, p2, S2, x2, r2, o2⟩ => ?_⟩
  refine ⟨as2, r, h2, (f.mono S1).mono S2, x2, (outS_of ((f.mono S1).mono S2) o2).imp fun V3 H3 ⟨as3, h3, p3, S3, x3, r3, o3⟩ => ?_⟩
  split at o3
  · rename_i n kk _
    split at o3
    · rename_i kvs hk
      split at o3
      · rename_i hl
        have r2' := r2.mono S3
        have r1' := (r1.mono S2).mono S3
        cases r2' with
        | obj ha => cases r3 with
          | key hb =>
            obtain ⟨a, g1, gs, g2, ek, rs⟩ := x3.at_ _ _ hk
            rw [ha] at g1; cases g1
            have hlen : gs.length = kvs.length := by have := congrArg List.length ek; simpa using this
            refine ⟨_, _, rfl, DPut.t g2 (k := kk.map Sum.inl) (by rw [hb, kV_map]) (by rw [sizeLine_eq, hlen]; exact hl), ?_⟩
            have S4 := Stp.put (o := .dT (putK gs (kk.map Sum.inl) V)) x3 ha hk
            obtain ⟨q1, q2⟩ := dPut_of kk r1' ek rs
            exact o3 _ _ as3 S4 (x3.put (m := .dct (dPut kvs kk p1)) ha hk ⟨_, upd_same, q1, q2.mono S4⟩) ((((f.mono S1).mono S2).mono S3).mono S4)
      · exact o3.elim
    · exact o3.elim
  · exact o3.elim
end
/-! ### sums -/
@[simp] def pSum : List PV → IH → Res PV
  | [.obj n], h => (match h[n]? with
    | some (.lst xs) => (match keyOf xs with
      | some ns => .ok (.int ns.sum) h
      | none => .bad)
    | _ => .bad)
  | _, _ => .bad
theorem snd_sum {K : PySem.W.Frag} {mg : Str → Option Value} : SndC K mg pSum (rSum K) := by
  intro W s as H h us vs Q rh rs o
  unfold pSum at o
  split at o
  · split at o
    · rename_i xs hx
      split at o
      · rename_i ns hn
        obtain ⟨v, rfl, rv⟩ := rs.inv1
        cases rv with
        | obj ha =>
          obtain ⟨a, g1, ys, g2, r2⟩ := rh.at_ _ _ hx
          rw [ha] at g1; cases g1
          have e := keyOf_of r2 hn
          subst e
          exact ⟨_, ns, rfl, SqL.of g2, o.here rh (.int _)⟩
      · exact o.elim
    · exact o.elim
  · exact o.elim
section
variable {X : Cx} {W : WX} {k : Nat} {a b e o i : Expr} {es : List Expr} {pos p apos : Pos} {A B C : EX} {L : AX}
theorem ie_sum (cx : Ctx X W k) (hm : X.mg "sum" = none) (ha : PA X (e :: es) (IA X.K X.mg W L)) (hg : Gl X "sum" := by rfl) (he : starEach (e :: es) X.env = (false, eval e X.env) :: starEach es X.env := by rfl) (hpl : (backTo pos (starEach es X.env)).any (·.1) = false := by rfl) : PE X (.Call (.Name "sum" p) (e :: es) [] pos) (IE X.K X.mg W (eB pSum L)) :=
  ie_callB (cr_sum cx.calm) snd_sum hm (by decide +kernel) ha hg (by decide) (by decide) he hpl
end
end WR

/-! comprehensions of two clauses, calls of items, the base of a def that calls itself -/
namespace WR
open PySem PySem.Spec PyProof.Rows L2
def lc2L (it : ItF) (g : TgF) (c : TX) (I1 : Fm → IH → Res ItF) (g1 : TgF) (c1 : TX) (A : EX) (r0 : Fm) (vs1 : List Nat) (D : Nat) : Nat → Nat → IH → Res Unit
  | 0, _, _ => .bad
  | n + 1, i, h => match it i h with
    | none => .bad
    | some none => .ok () h
    | some (some v) => (match g v r0 with
      | none => .bad
      | some r1 => (match c r1 h with
        | .ok b h2 => if b then (match I1 r1 h2 with
          | .ok it1 h3 => (match lcL it1 g1 c1 A (wipeF r1 vs1) D LIM 0 h3 with
            | .ok _ h4 => lc2L it g c I1 g1 c1 A r0 vs1 D n (i + 1) h4
            | _ => .bad)
          | _ => .bad) else lc2L it g c I1 g1 c1 A r0 vs1 D n (i + 1) h2
        | _ => .bad))
def eLc2 (I : Fm → IH → Res ItF) (g : TgF) (c : TX) (I1 : Fm → IH → Res ItF) (g1 : TgF) (c1 : TX) (A : EX) (vs vs1 : List Nat) : EX := fun r h => (I r h).bind fun it h1 => (lc2L it g c I1 g1 c1 A (wipeF r vs) vs1 h1.length LIM 0 (h1 ++ [.lst []])).bind fun _ h2 => .ok (.obj h1.length) h2
section
variable {X : Cx} {W : WX} {k : Nat} {e : Expr} {es : List Expr} {pos : Pos}
theorem lc2_sound {I I1 : Fm → IH → Res ItF} {g g1 : TgF} {c c1 : TX} {A : EX} {vs vs1 : List Nat} {K : PySem.W.Frag} {mg : Str → Option Value} {s : L2.St} {H : Hp} {Q : VK} {as : List Addr} {r : Fm} {h : IH} (f : RF K mg H as r s) (x : RH K mg H as h)
    (o : Out K mg (fun H as p v => RP K mg H as p v) W s as H Q (eLc2 I g c I1 g1 c1 A vs vs1 r h)) : tLc2 (II K mg W I) (GW K mg vs g) (IT K mg W0 c) (II K mg W0 I1) (GW K mg vs1 g1) (IT K mg W0 c1) (IE K mg W0 A) vs vs1 s H Q := by
  refine ⟨as, r, h, f, x, (Out.bind o).imp fun J H1 ⟨as1, h1, itf, S1, x1, ri, o1⟩ => ?_⟩
  intro D nD
  have SD := Stp.new (o := .lst []) x1 nD
  refine ⟨fun i m H2 => ∃ as2 h2, Stp as H as2 H2 ∧ RH K mg H2 as2 h2 ∧ RI K mg H2 as2 itf J ∧ as2[h1.length]? = some D ∧
    Out K mg (fun H as p v => RP K mg H as p v) W s as2 H2 Q ((lc2L itf g c I1 g1 c1 A (wipeF r vs) vs1 h1.length m i h2).bind fun _ h2 => .ok (.obj h1.length) h2),
    ⟨LIM, as1 ++ [D], h1 ++ [.lst []], S1.trans SD, x1.new (m := .lst []) nD ⟨_, upd_same, .nil⟩, ri.mono SD, ?_, o1.shift SD⟩, ?_⟩
  · rw [List.getElem?_append_right (by rw [x1.len]; exact Nat.le_refl _), x1.len, Nat.sub_self]; rfl
  rintro i m H2 ⟨as2, h2, S2, x2, ri2, d2, o2⟩
  cases m with
  | zero => exact o2.elim
  | succ m =>
    have z := ri2 i as2 H2 h2 (Stp.refl _ _) x2
    unfold lc2L at o2
    cases q : itf i h2 with
    | none => rw [q] at o2; exact o2.elim
    | some w =>
      rw [q] at z o2
      cases w with
      | none => exact .inl ⟨z, o2.here x2 (.obj d2)⟩
      | some v =>
        refine .inr ⟨z.1, fun H3 => ∃ as3 h3, Stp as H as3 H3 ∧ RH K mg H3 as3 h3 ∧ RI K mg H3 as3 itf J ∧ as3[h1.length]? = some D ∧
          Out K mg (fun H as p v => RP K mg H as p v) W s as3 H3 Q ((lc2L itf g c I1 g1 c1 A (wipeF r vs) vs1 h1.length m (i + 1) h3).bind fun _ h2 => .ok (.obj h1.length) h2), fun H3 t => ⟨m, Nat.lt_succ_self m, t⟩, fun y H3 hy => ?_⟩
        obtain ⟨S3, x3, rv⟩ := z.2 y H3 hy
        cases qg : g v (wipeF r vs) with
        | none => simp only [qg] at o2; exact o2.elim
        | some r3 =>
          simp only [qg] at o2
          have S23 := S2.trans S3
          refine ⟨as2, wipeF r vs, v, r3, h2, (f.mono S23).wipe vs, x3, rv, qg, fun s4 f4 w4 => ⟨w4.trans (wipe_wipe _ _), as2, r3, h2, f4, x3, ?_⟩⟩
          have o3 := Out.shift S3 o2
          cases qc : c r3 h2 with
          | ex z r5 => simp only [qc] at o3; exact o3.elim
          | bad => simp only [qc] at o3; exact o3.elim
          | ok b h4 =>
            simp only [qc] at o3
            intro b' H4 as4 S4 x4 eb
            subst eb
            have o4 := Out.shift S4 o3
            cases b with
            | false =>
              simp only [Bool.false_eq_true, if_false] at o4 ⊢
              exact ⟨as4, h4, S23.trans S4, x4, (ri2.mono S3).mono S4, S4.get d2, o4⟩
            | true =>
              simp only [if_true] at o4 ⊢
              refine ⟨as4, r3, h4, f4.mono S4, x4, ?_⟩
              cases qi : I1 r3 h4 with
              | ex z r5 => simp only [qi] at o4; exact o4.elim
              | bad => simp only [qi] at o4; exact o4.elim
              | ok it1 h5 =>
                simp only [qi] at o4
                intro J1 H5 as5 S5 x5 rj
                have o5 := Out.shift S5 o4
                have d5 := S5.get (S4.get d2)
                have ri5 := ((ri2.mono S3).mono S4).mono S5
                have S05 := (S23.trans S4).trans S5
                have f5 := (f4.mono S4).mono S5
                refine ⟨fun j k' H6 => ∃ as6 h6, Stp as5 H5 as6 H6 ∧ RH K mg H6 as6 h6 ∧ RI K mg H6 as6 it1 J1 ∧
                  Out K mg (fun H as p v => RP K mg H as p v) W s as6 H6 Q ((match lcL it1 g1 c1 A (wipeF r3 vs1) h1.length k' j h6 with
                    | .ok _ h4 => lc2L itf g c I1 g1 c1 A (wipeF r vs) vs1 h1.length m (i + 1) h4
                    | _ => .bad).bind fun _ h2 => .ok (.obj h1.length) h2), ⟨LIM, as5, h5, Stp.refl _ _, x5, rj, o5⟩, ?_⟩
                rintro j k' H6 ⟨as6, h6, S6, x6, rj6, o6⟩
                cases k' with
                | zero => exact o6.elim
                | succ k' =>
                  have z6 := rj6 j as6 H6 h6 (Stp.refl _ _) x6
                  unfold lcL at o6
                  cases q6 : it1 j h6 with
                  | none => rw [q6] at o6; exact o6.elim
                  | some w6 =>
                    rw [q6] at z6 o6
                    cases w6 with
                    | none => exact .inl ⟨z6, as6, h6, S05.trans S6, x6, ri5.mono S6, S6.get d5, o6⟩
                    | some v6 =>
                      refine .inr ⟨z6.1, fun H7 => ∃ as7 h7, Stp as5 H5 as7 H7 ∧ RH K mg H7 as7 h7 ∧ RI K mg H7 as7 it1 J1 ∧
                        Out K mg (fun H as p v => RP K mg H as p v) W s as7 H7 Q ((match lcL it1 g1 c1 A (wipeF r3 vs1) h1.length k' (j + 1) h7 with
                          | .ok _ h4 => lc2L itf g c I1 g1 c1 A (wipeF r vs) vs1 h1.length m (i + 1) h4
                          | _ => .bad).bind fun _ h2 => .ok (.obj h1.length) h2), fun H7 t => ⟨k', Nat.lt_succ_self k', t⟩, fun y7 H7 hy7 => ?_⟩
                      obtain ⟨S7, x7, rv7⟩ := z6.2 y7 H7 hy7
                      cases qg7 : g1 v6 (wipeF r3 vs1) with
                      | none => simp only [qg7] at o6; exact o6.elim
                      | some r7 =>
                        simp only [qg7] at o6
                        have S67 := S6.trans S7
                        refine ⟨as6, wipeF r3 vs1, v6, r7, h6, (f5.mono S67).wipe vs1, x7, rv7, qg7, fun s8 f8 w8 => ⟨w8.trans (wipe_wipe _ _), as6, r7, h6, f8, x7, ?_⟩⟩
                        have o7 := Out.shift S7 o6
                        cases qc7 : c1 r7 h6 with
                        | ex z r5 => simp only [qc7] at o7; exact o7.elim
                        | bad => simp only [qc7] at o7; exact o7.elim
                        | ok b7 h7 =>
                          simp only [qc7] at o7
                          intro b7' H8 as8 S8 x8 eb
                          subst eb
                          have o8 := Out.shift S8 o7
                          cases b7 with
                          | false =>
                            simp only [Bool.false_eq_true, if_false] at o8 ⊢
                            exact ⟨as8, h7, S67.trans S8, x8, (rj6.mono S7).mono S8, o8⟩
                          | true =>
                            simp only [if_true] at o8 ⊢
                            refine ⟨as8, r7, h7, f8.mono S8, x8, ?_⟩
                            cases qa : A r7 h7 with
                            | ex z r5 => simp only [qa] at o8; exact o8.elim
                            | bad => simp only [qa] at o8; exact o8.elim
                            | ok u h9 =>
                              simp only [qa] at o8
                              intro U H9 as9 S9 x9 ru
                              have o9 := Out.shift S9 o8
                              have d9 := S9.get (S8.get (S67.get d5))
                              cases qd : h9[h1.length]? with
                              | none => simp only [qd] at o9; exact o9.elim
                              | some ob =>
                                cases ob with
                                | ins _ _ => simp only [qd] at o9; exact o9.elim
                                | dct _ => simp only [qd] at o9; exact o9.elim
                                | lst acc =>
                                  simp only [qd] at o9
                                  by_cases hl : acc.length < 16777216
                                  · simp only [hl, if_true] at o9
                                    obtain ⟨b', e3, ws, e4, rs'⟩ := x9.at_ _ _ qd
                                    rw [d9] at e3; cases e3
                                    refine ⟨ws, e4, by rw [sizeLine_eq, ← rs'.length]; exact hl, ?_⟩
                                    have S10 := Stp.put (o := .lst (ws ++ [U])) x9 d9 qd
                                    exact ⟨as9, _, ((S67.trans S8).trans S9).trans S10, x9.put (m := .lst (acc ++ [u])) d9 qd ⟨_, upd_same, (rs'.append (.one ru)).mono S10⟩, (((rj6.mono S7).mono S8).mono S9).mono S10, o9.shift S10⟩
                                  · simp only [hl, if_false] at o9; exact o9.elim
theorem ie_lc2 {elt tg iter tg1 iter1 : Expr} {ifs ifs1 : List Expr} {scope : Scope} {I I1 : Fm → IH → Res ItF} {g g1 : TgF} {c c1 : TX} {A : EX} {vs vs1 : List Nat} (own : List (Str × Nat)) (cx : Ctx X W k) (hi : PI X tg iter (II X.K X.mg W I)) (ok : BlkOk X.N X.env.scope scope own)
    (hg : ∀ (s : Shared) (H : Hp) (C : Addr) (cl : List (Str × Addr)) (fp : List Addr), Ctx (X.blk s H scope (compEnvC scope cl C X.env) fp) W0 k → PG (X.blk s H scope (compEnvC scope cl C X.env) fp) tg (GW X.K X.mg vs g))
    (ht : ∀ (s : Shared) (H : Hp) (C : Addr) (cl : List (Str × Addr)) (fp : List Addr), Ctx (X.blk s H scope (compEnvC scope cl C X.env) fp) W0 k → PTs (X.blk s H scope (compEnvC scope cl C X.env) fp) ifs (IT X.K X.mg W0 c))
    (hi1 : ∀ (s : Shared) (H : Hp) (C : Addr) (cl : List (Str × Addr)) (fp : List Addr), Ctx (X.blk s H scope (compEnvC scope cl C X.env) fp) W0 k → PI (X.blk s H scope (compEnvC scope cl C X.env) fp) tg1 iter1 (II X.K X.mg W0 I1))
    (hg1 : ∀ (s : Shared) (H : Hp) (C : Addr) (cl : List (Str × Addr)) (fp : List Addr), Ctx (X.blk s H scope (compEnvC scope cl C X.env) fp) W0 k → PG (X.blk s H scope (compEnvC scope cl C X.env) fp) tg1 (GW X.K X.mg vs1 g1))
    (ht1 : ∀ (s : Shared) (H : Hp) (C : Addr) (cl : List (Str × Addr)) (fp : List Addr), Ctx (X.blk s H scope (compEnvC scope cl C X.env) fp) W0 k → PTs (X.blk s H scope (compEnvC scope cl C X.env) fp) ifs1 (IT X.K X.mg W0 c1))
    (he : ∀ (s : Shared) (H : Hp) (C : Addr) (cl : List (Str × Addr)) (fp : List Addr), Ctx (X.blk s H scope (compEnvC scope cl C X.env) fp) W0 k → PE (X.blk s H scope (compEnvC scope cl C X.env) fp) elt (IE X.K X.mg W0 A))
    (hv : own.map (·.2) = vs := by rfl) (hv1 : ∀ i ∈ vs1, i ∈ vs := by decide) (hs : ∀ x, foldedSetIterable iter X.env x = pure x := by intro _; rfl) (hs1 : ∀ env x, foldedSetIterable iter1 env x = pure x := by intro _ _; rfl) :
    PE X (.ListComp elt [⟨tg, iter, ifs, 0⟩, ⟨tg1, iter1, ifs1, 0⟩] scope pos) (IE X.K X.mg W (eLc2 I g c I1 g1 c1 A vs vs1)) := by
  subst hv
  exact peImp (pe_lc2 cx.calm cx.nd hi ok hv1 (fun s H C cl fp => hg s H C cl fp (cx.blk ..)) (fun s H C cl fp => ht s H C cl fp (cx.blk ..)) (fun s H C cl fp => hi1 s H C cl fp (cx.blk ..)) (fun s H C cl fp => hg1 s H C cl fp (cx.blk ..)) (fun s H C cl fp => ht1 s H C cl fp (cx.blk ..)) (fun s H C cl fp => he s H C cl fp (cx.blk ..)) hs hs1) fun s H Q ⟨as, r, h, f, x, o⟩ => lc2_sound f x o
theorem is_setLc2 (i : Nat) {y : Str} {py spos : Pos} {elt tg iter tg1 iter1 : Expr} {ifs ifs1 : List Expr} {scope : Scope} {I I1 : Fm → IH → Res ItF} {g g1 : TgF} {c c1 : TX} {A : EX} {vs vs1 : List Nat} (own : List (Str × Nat)) (cx : Ctx X W k)
    (hsw : swapsWith (.ListComp elt [⟨tg, iter, ifs, 0⟩, ⟨tg1, iter1, ifs1, 0⟩] scope pos) (some (.Name y py)) spos.line X.env = pure true) (hi : PI X tg iter (II X.K X.mg W I)) (ok : BlkOk X.N X.env.scope scope own)
    (hg : ∀ (s : Shared) (H : Hp) (C : Addr) (cl : List (Str × Addr)) (fp : List Addr), Ctx (X.blk s H scope (compEnvC scope cl C X.env) fp) W0 k → PG (X.blk s H scope (compEnvC scope cl C X.env) fp) tg (GW X.K X.mg vs g))
    (ht : ∀ (s : Shared) (H : Hp) (C : Addr) (cl : List (Str × Addr)) (fp : List Addr), Ctx (X.blk s H scope (compEnvC scope cl C X.env) fp) W0 k → PTs (X.blk s H scope (compEnvC scope cl C X.env) fp) ifs (IT X.K X.mg W0 c))
    (hi1 : ∀ (s : Shared) (H : Hp) (C : Addr) (cl : List (Str × Addr)) (fp : List Addr), Ctx (X.blk s H scope (compEnvC scope cl C X.env) fp) W0 k → PI (X.blk s H scope (compEnvC scope cl C X.env) fp) tg1 iter1 (II X.K X.mg W0 I1))
    (hg1 : ∀ (s : Shared) (H : Hp) (C : Addr) (cl : List (Str × Addr)) (fp : List Addr), Ctx (X.blk s H scope (compEnvC scope cl C X.env) fp) W0 k → PG (X.blk s H scope (compEnvC scope cl C X.env) fp) tg1 (GW X.K X.mg vs1 g1))
    (ht1 : ∀ (s : Shared) (H : Hp) (C : Addr) (cl : List (Str × Addr)) (fp : List Addr), Ctx (X.blk s H scope (compEnvC scope cl C X.env) fp) W0 k → PTs (X.blk s H scope (compEnvC scope cl C X.env) fp) ifs1 (IT X.K X.mg W0 c1))
    (he : ∀ (s : Shared) (H : Hp) (C : Addr) (cl : List (Str × Addr)) (fp : List Addr), Ctx (X.blk s H scope (compEnvC scope cl C X.env) fp) W0 k → PE (X.blk s H scope (compEnvC scope cl C X.env) fp) elt (IE X.K X.mg W0 A))
    (hy : X.N[i]? = some y := by rfl) (hyl : X.env.scope.names.lookup y = some .local := by rfl)
    (hv : own.map (·.2) = vs := by rfl) (hv1 : ∀ i ∈ vs1, i ∈ vs := by decide) (hs : ∀ x, foldedSetIterable iter X.env x = pure x := by intro _; rfl) (hs1 : ∀ env x, foldedSetIterable iter1 env x = pure x := by intro _ _; rfl) :
    PS X (.Assign [.Name y py] (.ListComp elt [⟨tg, iter, ifs, 0⟩, ⟨tg1, iter1, ifs1, 0⟩] scope pos) spos) (IS X.K X.mg W (sSet i (eLc2 I g c I1 g1 c1 A vs vs1))) := by
  subst hv
  refine psImp (ps_setLc2 cx.calm cx.nd hy hyl hsw hi ok hv1 (fun s H C cl fp => hg s H C cl fp (cx.blk ..)) (fun s H C cl fp => ht s H C cl fp (cx.blk ..)) (fun s H C cl fp => hi1 s H C cl fp (cx.blk ..)) (fun s H C cl fp => hg1 s H C cl fp (cx.blk ..)) (fun s H C cl fp => ht1 s H C cl fp (cx.blk ..)) (fun s H C cl fp => he s H C cl fp (cx.blk ..)) hs hs1) fun D s H ⟨as, r, h, f, x, o⟩ => ?_
  refine lc2_sound f x ((outS_of f o).imp fun V H1 ⟨as1, h1, p, S1, x1, r1, o1⟩ => ?_)
  exact o1 _ H1 as1 (Stp.refl _ _) x1 ((f.mono S1).set r1)
end
/-! ### calls of an item -/
abbrev FT := List (Str × (List PV → IH → Res PV))
@[simp] def eCallV (tbl : FT) (A : EX) (L : AX) : EX := fun r h => (A r h).bind fun f h1 => match f with
  | .glo x => (match tbl.lookup x with
    | some F => (L r h1).bind F
    | none => .bad)
  | _ => .bad
section
variable {X : Cx} {W : WX} {k j n : Nat} {a e fe : Expr} {es : List Expr} {pos : Pos} {A : EX} {L : AX} {tbl : FT}
def GT (X : Cx) (j n : Nat) (tbl : FT) : Prop := ∀ x F, tbl.lookup x = some F → GF X.prog X.w X.K X.mg X.base x j n F
theorem ref_of {v : V} {f : Addr} (r : RelV v (.ref f)) : v = .ref f := by
  cases v <;> first
    | (cases r; done)
    | (cases r; rfl)
    | (obtain ⟨_, e⟩ := r; cases e)
    | (obtain ⟨_, e, _⟩ := r; cases e)
theorem ie_callV (cx : Ctx X W k) (G : GT X j n tbl) (hf : PE X fe (IE X.K X.mg W A)) (ha : PA X (e :: es) (IA X.K X.mg W L)) (hj : j ≤ k := by decide)
    (hev : eval (.Call fe (e :: es) [] pos) X.env = (do callWith pos (← eval fe X.env) [] (backTo pos (starEach (e :: es) X.env)) (backToKw pos (keywordEach [] X.env))) := by rfl)
    (he : starEach (e :: es) X.env = (false, eval e X.env) :: starEach es X.env := by rfl) (hpl : (backTo pos (starEach es X.env)).any (·.1) = false := by rfl) : PE X (.Call fe (e :: es) [] pos) (IE X.K X.mg W (eCallV tbl A L)) := by
  refine ⟨fun pins s σ H Q I h => ?_⟩
  obtain ⟨as, r, h0, f, x, o⟩ := h
  rw [hev]
  refine wpAny_bind ?_
  refine thn (hf.run pins s σ H _ I ⟨as, r, h0, f, x, Out.bind o⟩) fun u s1 ⟨v, H1, I1, r1, as1, h1, p1, S1, x1, rp, o1⟩ => ?_
  split at o1
  · rename_i nm
    cases q : tbl.lookup nm with
    | none => rw [q] at o1; exact o1.elim
    | some F =>
      rw [q] at o1
      obtain ⟨ff, fd, ps, G1, hm, hk, hb⟩ := (G _ _ q).ex
      cases rp with
      | glo g1 g2 =>
        rw [hm] at g1; cases g1
        have ev := ref_of g2
        subst ev
        obtain rfl : u = Value.ref ff := r1
        refine PySem.W.callWith_K (h₀ := X.base) I.ok.mod.kin hk (thn (ha.run pos pins s1 σ H1 _ I1 ⟨as1, r, h1, f.mono S1, x1, Out.bind o1⟩) fun us s2 ⟨vs, H2, I2, r2, as2, h2, ps2, S2, x2, rs2, o2⟩ => ⟨I2.kIn, ?_⟩) he hpl
        refine run_fnS G1 (cx.room.mono hj) hb (passAt cx.tk σ) I2 r2 (SpF.of x2 rs2 ?_ o2)
        by_cases hn : ps2.length = n
        · exact hn
        · rw [(G _ _ q).bad ps2 h2 hn] at o2; exact o2.elim
  · exact o1.elim
theorem ie_callV0 (cx : Ctx X W k) (G : GT X j 0 tbl) (hf : PE X fe (IE X.K X.mg W A)) (hj : j ≤ k := by decide)
    (hev : eval (.Call fe [] [] pos) X.env = (do callWith pos (← eval fe X.env) [] (backTo pos (starEach [] X.env)) (backToKw pos (keywordEach [] X.env))) := by rfl) : PE X (.Call fe [] [] pos) (IE X.K X.mg W (eCallV tbl A aNil)) := by
  refine ⟨fun pins s σ H Q I h => ?_⟩
  obtain ⟨as, r, h0, f, x, o⟩ := h
  rw [hev]
  refine wpAny_bind ?_
  refine thn (hf.run pins s σ H _ I ⟨as, r, h0, f, x, Out.bind o⟩) fun u s1 ⟨v, H1, I1, r1, as1, h1, p1, S1, x1, rp, o1⟩ => ?_
  split at o1
  · rename_i nm
    cases q : tbl.lookup nm with
    | none => rw [q] at o1; exact o1.elim
    | some F =>
      rw [q] at o1
      obtain ⟨ff, fd, ps, G1, hm, hk, hb⟩ := (G _ _ q).ex
      cases rp with
      | glo g1 g2 =>
        rw [hm] at g1; cases g1
        have ev := ref_of g2
        subst ev
        obtain rfl : u = Value.ref ff := r1
        exact PySem.W.callWith_K0 I1.kIn hk (run_fnS (us := []) G1 (cx.room.mono hj) hb (passAt cx.tk σ) I1 .nil (SpF.of x1 RPs.nil rfl o1))
  · exact o1.elim
theorem GT.nil : GT X j n [] := fun x F e => by cases e
theorem GT.cons {x : Str} {F : List PV → IH → Res PV} {j' : Nat} (G : GF X.prog X.w X.K X.mg X.base x j' n F) (hj : j' ≤ j) (r : GT X j n tbl) : GT X j n ((x, F) :: tbl) := fun y F' e => by
  rw [List.lookup_cons] at e
  split at e
  · rename_i hy
    cases e
    have e2 : y = x := by simpa using hy
    subst e2
    obtain ⟨f, fd, ps, G1, hm, hk, hb⟩ := G.ex
    exact ⟨G.bad, f, fd, ps, G1.mono hj, hm, hk, hb⟩
  · exact r y F' e
end
/-! ### a def that calls itself: where the depth ends -/
theorem iss_bad {X : Cx} {W : WX} {sts : List Stmt} : PSs X sts (IS X.K X.mg W sBad) := ⟨fun pins s σ H D I q => by
  obtain ⟨as, r, h, f, x, o⟩ := q
  exact o.elim⟩
end WR

/-! max of two things that are compared by a rule of the heap -/
namespace PySem
open Sem (wp)
section
variable {prog : Program} {w : World} {A : Around} {R : Result → Shared → Prop} {I : Addr} {fp wr : List Addr} {P : Nat → Value → Prop} {St : Nat → Heap → Prop}
theorem wr_nm : (toString "max" ++ toString ".loop" : String) = "max.loop" := by decide
theorem wr_max_end {n c : Nat} {s : Shared} {vb : Value} (W : Walks prog w A.in1 I fp wr n P St) (S : Addr) (hf : S ∉ fp) (hst : St n s.heap) (hS : s.heap.get? S = some ⟨.type "list", none, .seq #[vb, vb] c, #[]⟩)
    (hR : ∀ h' tk, (∀ b o, b ∉ wr → b ≠ S → s.heap.get? b = some o → h'.get? b = some o) → R (.ok (.ret vb)) { s with heap := h', toks := tk }) : codeAny (model prog w) A (.builtin "max.loop" ⟨[.ref I, .none, .ref S], []⟩) R s := by
  refine codeAny_builtin F.entry_max_loop ?_; rw [Around.under_plainId F.plain_max_loop _]; show wpAny _ A.in1 (seqItems? (.ref S) >>= _) _ _ s; refine wpAny_bind (wpAny_seqItems hS rfl ?_); show wpAny _ A.in1 (tryCatch (pyNext (.ref I)) _ >>= _) _ _ s
  refine wpAny_bind (wpAny_tryCatch (W.done s _ _ hst fun h1 tk k1 => ?_)); show wpAny _ A.in1 (updateSeq S (fun _ => #[]) >>= _) _ _ _
  refine wpAny_bind (wpAny_updateSeq (k1 S _ (fun z => hf (W.sub _ z)) hS) rfl (wpAny_bind (wpAny_letGo (wpAny_pure (hR _ tk fun b o b1 b2 e => ?_)))))
  exact (Heap.get?_update_other _ _ (Ne.symm b2)).trans (k1 b o b1 e)
theorem wr_max_turn {n i c : Nat} {g : Bool} {s : Shared} {vb y : Value} (W : Walks prog w A.in1 I fp wr n P St) (S : Addr) (hf : S ∉ fp) (hi : i < n) (hst : St i s.heap) (hP : ∀ v, P i v → v = y) (hS : s.heap.get? S = some ⟨.type "list", none, .seq #[vb, vb] c, #[]⟩)
    (hc : ∀ (s' : Shared) Q E, (∀ b o, b ∉ wr → s.heap.get? b = some o → s'.heap.get? b = some o) → Q (.bool g) s' → wpAny (model prog w) A.in1 (richCompare .Gt y vb) Q E s')
    (hn : ∀ h' tk c', St (i + 1) h' → h'.get? S = some ⟨.type "list", none, .seq #[if g then y else vb, if g then y else vb] c', #[]⟩ → (∀ b o, b ∉ wr → b ≠ S → s.heap.get? b = some o → h'.get? b = some o) →
      codeAny (model prog w) A (.builtin "max.loop" ⟨[.ref I, .none, .ref S], []⟩) R { s with heap := h', toks := tk }) : codeAny (model prog w) A (.builtin "max.loop" ⟨[.ref I, .none, .ref S], []⟩) R s := by
  refine codeAny_builtin F.entry_max_loop ?_; rw [Around.under_plainId F.plain_max_loop _]; show wpAny _ A.in1 (seqItems? (.ref S) >>= _) _ _ s; refine wpAny_bind (wpAny_seqItems hS rfl ?_); show wpAny _ A.in1 (tryCatch (pyNext (.ref I)) _ >>= _) _ _ s
  refine wpAny_bind (wpAny_tryCatch (W.item i s _ _ hi hst fun v h1 tk pv st1 k1 => ?_))
  obtain rfl := hP v pv
  have S1 := k1 S _ (fun z => hf (W.sub _ z)) hS; show wpAny _ A.in1 (tryCatch (holding [v, v] (richCompare .Gt v vb >>= _)) _ >>= _) _ _ _
  refine wpAny_bind (wpAny_tryCatch (wpAny_holding (wpAny_bind (hc _ _ _ (fun b o b1 e => k1 b o b1 e) ?_))))
  refine wpAny_bind (wpAny_holding (wpAny_truthy_bool ?_)); refine wpAny_bind (wpAny_letGo (wpAny_pure ?_))
  cases g with
  | true =>
    simp only [if_true] at hn ⊢
    refine wpAny_bind (wpAny_updateSeq S1 rfl (wpAny_bind (wpAny_letGo ?_))); rw [wr_nm]
    refine wpAny_pure ⟨plainId_quiet F.plain_max_loop _, hn _ tk _ (W.frame _ _ _ st1 fun b hb o e => ?_) (Heap.get?_update_self _ S1 rfl) fun b o b1 b2 e => ?_⟩
    · exact (Heap.get?_update_other _ _ (fun z : S = b => hf (by rw [z]; exact hb))).trans e
    · exact (Heap.get?_update_other _ _ (Ne.symm b2)).trans (k1 b o b1 e)
  | false =>
    simp only [Bool.false_eq_true, if_false] at hn ⊢
    refine wpAny_bind (wpAny_letGo ?_); rw [wr_nm]
    exact wpAny_pure ⟨plainId_quiet F.plain_max_loop _, hn _ tk _ st1 S1 fun b o b1 _ e => k1 b o b1 e⟩
theorem wr_max_first {n c : Nat} {s : Shared} {x : Value} (W : Walks prog w A.in1 I fp wr n P St) (S : Addr) (hf : S ∉ fp) (hi : 0 < n) (hst : St 0 s.heap) (hP : ∀ v, P 0 v → v = x) (hS : s.heap.get? S = some ⟨.type "list", none, .seq #[] c, #[]⟩)
    (hn : ∀ h' tk c', St 1 h' → h'.get? S = some ⟨.type "list", none, .seq #[x, x] c', #[]⟩ → (∀ b o, b ∉ wr → b ≠ S → s.heap.get? b = some o → h'.get? b = some o) →
      codeAny (model prog w) A (.builtin "max.loop" ⟨[.ref I, .none, .ref S], []⟩) R { s with heap := h', toks := tk }) : codeAny (model prog w) A (.builtin "max.loop" ⟨[.ref I, .none, .ref S], []⟩) R s := by
  refine codeAny_builtin F.entry_max_loop ?_; rw [Around.under_plainId F.plain_max_loop _]; show wpAny _ A.in1 (seqItems? (.ref S) >>= _) _ _ s; refine wpAny_bind (wpAny_seqItems hS rfl ?_); show wpAny _ A.in1 (tryCatch (pyNext (.ref I)) _ >>= _) _ _ s
  refine wpAny_bind (wpAny_tryCatch (W.item 0 s _ _ hi hst fun v h1 tk pv st1 k1 => ?_))
  obtain rfl := hP v pv
  have S1 := k1 S _ (fun z => hf (W.sub _ z)) hS; show wpAny _ A.in1 (updateSeq S (fun _ => #[v, v]) >>= _) _ _ _
  refine wpAny_bind (wpAny_updateSeq S1 rfl ?_); rw [wr_nm]
  refine wpAny_pure ⟨plainId_quiet F.plain_max_loop _, hn _ tk _ (W.frame _ _ _ st1 fun b hb o e => ?_) (Heap.get?_update_self _ S1 rfl) fun b o b1 b2 e => ?_⟩
  · exact (Heap.get?_update_other _ _ (fun z : S = b => hf (by rw [z]; exact hb))).trans e
  · exact (Heap.get?_update_other _ _ (Ne.symm b2)).trans (k1 b o b1 e)
end
section
variable {prog : Program} {w : World} {A : Around} {E : Value → Shared → Prop} {s : Shared}
theorem wr_max2 {x y : Value} {g : Bool} {Q : Value → Shared → Prop} (hh : A.handled = none)
    (hc : ∀ (s' : Shared) Q E, (∀ b o, s.heap.get? b = some o → s'.heap.get? b = some o) → Q (.bool g) s' → wpAny (model prog w) A.in1 (richCompare .Gt y x) Q E s')
    (h : ∀ h' tk, (∀ b o, s.heap.get? b = some o → h'.get? b = some o) → Q (if g then y else x) { s with heap := h', toks := tk }) : wpAny (model prog w) A (call (.builtin "max") [x, y]) Q E s := by
  refine call_function_tree F.kind_max F.plain_max F.entry_max (F.args_max2 _ _) ?_
  show wpAny _ A.in1 (Builtin.Builtins.bindParams "max" ["key", "default"] 0 ⟨[], []⟩ >>= _) _ _ s; refine wpAny_bind (wpAny_of_eq (show Builtin.Builtins.bindParams "max" ["key", "default"] 0 ⟨[], []⟩ = pure [none, none] from rfl) ?_); show wpAny _ A.in1 (newTuple [x, y] >>= _) _ _ s
  refine wpAny_bind (wpAny_newObj_type ?_)
  have hT : (s.heap.push { cls := .type "tuple", data := .seq #[x, y] }).IsTuple s.heap.objs.size #[x, y] := ⟨_, Heap.get?_push_size _ rfl, rfl, 0, rfl⟩
  have z1 : (s.heap.push { cls := .type "tuple", data := .seq #[x, y] }).objs.size = s.heap.objs.size + 1 := Heap.size_push ..
  refine wpAny_bind (wpAny_pyIter_tuple hT ?_)
  generalize hh1 : s.heap.push { cls := .type "tuple", data := .seq #[x, y] } = h1 at hT z1
  have W := Walks.tuple (prog := prog) (w := w) (A := A.in1) hh h1.objs.size s.heap.objs.size (by rw [z1]; exact Nat.ne_of_lt (Nat.lt_succ_self _)) #[x, y]
  have hk1 : ∀ b o, s.heap.get? b = some o → h1.get? b = some o := fun b o e => by rw [← hh1]; exact Heap.get?_push_of_some _ e
  have hI : (h1.push { cls := .type "tuple_iterator", data := .fields #[.ref s.heap.objs.size, .int 0 0] }).IsTupleIter h1.objs.size s.heap.objs.size 0 := ⟨_, Heap.get?_push_size _ rfl, rfl, rfl⟩
  have hT2 : (h1.push { cls := .type "tuple_iterator", data := .fields #[.ref s.heap.objs.size, .int 0 0] }).IsTuple s.heap.objs.size #[x, y] := hT.push _
  have z2 : (h1.push { cls := .type "tuple_iterator", data := .fields #[.ref s.heap.objs.size, .int 0 0] }).objs.size = h1.objs.size + 1 := Heap.size_push ..
  have hk2 : ∀ b o, h1.get? b = some o → (h1.push { cls := .type "tuple_iterator", data := .fields #[.ref s.heap.objs.size, .int 0 0] }).get? b = some o := fun b o e => Heap.get?_push_of_some _ e
  generalize h1.push { cls := .type "tuple_iterator", data := .fields #[.ref s.heap.objs.size, .int 0 0] } = h2 at hI hT2 z2 hk2 ⊢
  refine wpAny_bind (wpAny_newObj_type ?_)
  have hf : h2.objs.size ∉ [h1.objs.size, s.heap.objs.size] := by
    simp only [List.mem_cons, List.not_mem_nil, or_false, not_or]
    exact ⟨by omega, by omega⟩
  rw [wr_nm]
  refine wpAny_pure ⟨plainId_quiet F.plain_max_loop _, ?_⟩
  have low : ∀ b o, s.heap.get? b = some o → b < s.heap.objs.size := fun b o e => Heap.lt_size e
  have hk3 : ∀ b o, s.heap.get? b = some o → (h2.push { cls := .type "list", data := .seq #[] }).get? b = some o := fun b o e => Heap.get?_push_of_some _ (hk2 b o (hk1 b o e))
  refine wr_max_first W h2.objs.size hf (by simp) (W.frame 0 h2 _ ⟨hI, hT2⟩ fun b _ o e => Heap.get?_push_of_some _ e) (x := x) (fun v e => by simpa using e.symm) (Heap.get?_push_size _ rfl) fun h3 tk3 c3 st3 S3 k3 => ?_
  have nw : ∀ b o, s.heap.get? b = some o → b ∉ [h1.objs.size] ∧ b ≠ h2.objs.size := fun b o e => by
    have := low b o e
    simp only [List.mem_cons, List.not_mem_nil, or_false]
    exact ⟨fun z => absurd (show h1.objs.size < s.heap.objs.size from z ▸ this) (by omega), fun z => absurd (show h2.objs.size < s.heap.objs.size from z ▸ this) (by omega)⟩
  have k03 : ∀ b o, s.heap.get? b = some o → h3.get? b = some o := fun b o e => k3 b o (nw b o e).1 (nw b o e).2 (hk3 b o e)
  refine wr_max_turn (g := g) (y := y) W h2.objs.size hf (by decide : 1 < 2) st3 (fun v e => by simpa using e.symm) S3 (fun s' Q E k q => hc s' Q E (fun b o e => k b o (nw b o e).1 (k03 b o e)) q) fun h4 tk4 c4 st4 S4 k4 => ?_
  have k04 : ∀ b o, s.heap.get? b = some o → h4.get? b = some o := fun b o e => k4 b o (nw b o e).1 (nw b o e).2 (k03 b o e)
  exact wr_max_end W h2.objs.size hf st4 S4 fun h5 tk5 k5 => h h5 tk5 fun b o e => k5 b o (nw b o e).1 (nw b o e).2 (k04 b o e)
end
end PySem
namespace WR
open PySem PySem.Spec PyProof.Rows L2
def lexGt : List Int → List Int → Bool
  | [], _ => false
  | _ :: _, [] => true
  | x :: xs, y :: ys => if x = y then lexGt xs ys else decide (y < x)
theorem lexGt_at : ∀ (ns ms : List Int) (i : Nat), i ≤ ns.length → i ≤ ms.length → Ob.lexAt (fun j => decide (ns.getD j 0 = ms.getD j 0)) (fun j => decide (ms.getD j 0 < ns.getD j 0)) (decide (ns.length > ms.length)) i (min ns.length ms.length - i) = lexGt (ns.drop i) (ms.drop i) := by
  intro ns ms i h1 h2
  generalize hk : min ns.length ms.length - i = k
  induction k generalizing i with
  | zero =>
    rw [Ob.lexAt_zero]
    by_cases a : i = ns.length
    · have e : ns.drop i = [] := List.drop_of_length_le (by omega)
      rw [e, lexGt]; exact decide_eq_false (by omega)
    · have hm : i = ms.length := by omega
      have e : ms.drop i = [] := List.drop_of_length_le (by omega)
      have hl : i < ns.length := by omega
      rw [e, List.drop_eq_getElem_cons hl, lexGt]; exact decide_eq_true (by omega)
  | succ k ih =>
    have l1 : i < ns.length := by omega
    have l2 : i < ms.length := by omega
    rw [Ob.lexAt_succ, List.drop_eq_getElem_cons l1, List.drop_eq_getElem_cons l2, lexGt]
    have e1 : ns.getD i 0 = ns[i] := by simp [List.getD, l1]
    have e2 : ms.getD i 0 = ms[i] := by simp [List.getD, l2]
    rw [e1, e2]
    by_cases q : ns[i] = ms[i]
    · rw [if_pos (decide_eq_true q), if_pos q]; exact ih (i + 1) l1 l2 (by omega)
    · rw [if_neg (by simpa using q), if_neg q]
theorem isTup_at {h h' : Heap} {a : Addr} {its : Array Value} (k : ∀ b o, h.get? b = some o → h'.get? b = some o) (p : h.IsTuple a its) : h'.IsTuple a its := let ⟨o, e, r⟩ := p; ⟨o, k a o e, r⟩
/-- > of two tuples of ints -/
theorem rc_gt {X : Cx} {pins : List (Addr × Obj)} {σ : L2.St} {H : Hp} {s s' : Shared} {A : Around} {a b : Addr} {ns ms : List Int} (I : Inv X pins σ H s) (k : ∀ b o, s.heap.get? b = some o → s'.heap.get? b = some o) (ha : SqT X.K H a (ns.map V.int)) (hb : SqT X.K H b (ms.map V.int)) (hu : A.units < cLine) :
    Ob.RcOp .Gt A s' (.ref a) (.ref b) (lexGt ns ms) := by
  obtain ⟨its, r1, p1, _⟩ := I.tuple ha
  obtain ⟨its2, r2, p2, _⟩ := I.tuple hb
  have i1 : IntsAre its ns := Vals.ints r1
  have i2 : IntsAre its2 ms := Vals.ints r2
  have e1 : its.toArray.size = ns.length := by rw [List.size_toArray]; exact i1.length
  have e2 : its2.toArray.size = ms.length := by rw [List.size_toArray]; exact i2.length
  have at1 : ∀ j (h1 : j < its.toArray.size), ∃ t, its.toArray[j] = .int (ns.getD j 0) t := fun j h1 => by exact PyProof.Rows.IntsAre.int_at i1 _ _ (by simp at h1; simp [h1])
  have at2 : ∀ j (h1 : j < its2.toArray.size), ∃ t, its2.toArray[j] = .int (ms.getD j 0) t := fun j h1 => by exact PyProof.Rows.IntsAre.int_at i2 _ _ (by simp at h1; simp [h1])
  have R := Ob.RcOp.tuples_gt (A := A) (s := s') (e := fun j => decide (ns.getD j 0 = ms.getD j 0)) (r := fun j => decide (ms.getD j 0 < ns.getD j 0)) (isTup_at k p1) (isTup_at k p2) hu (fun j h1 h2 => by
    obtain ⟨t, et⟩ := at1 j h1; obtain ⟨t', et'⟩ := at2 j h2
    rw [et, et', show decide (ns.getD j 0 = ms.getD j 0) = (ns.getD j 0 == ms.getD j 0) from by rw [Bool.eq_iff_iff]; simp]
    exact SeqAt.EqAt.int_int _ _ _ _) (fun j h1 h2 _ => by
    obtain ⟨t, et⟩ := at1 j h1; obtain ⟨t', et'⟩ := at2 j h2
    rw [et, et']; exact Ob.RcOp.gt_int _ _ _ _)
  rw [e1, e2] at R
  have z := lexGt_at ns ms 0 (Nat.zero_le _) (Nat.zero_le _)
  rw [Nat.sub_zero] at z
  rw [z] at R
  exact R
theorem all_eq : ∀ (ns ms : List Int), ((List.range (min ns.length ms.length)).all (fun j => ns.getD j 0 == ms.getD j 0) && ns.length == ms.length) = decide (ns = ms) := by
  intro ns ms
  rw [Bool.eq_iff_iff]
  simp only [Bool.and_eq_true, List.all_eq_true, List.mem_range, beq_iff_eq, decide_eq_true_eq]
  constructor
  · rintro ⟨h1, h2⟩
    apply List.ext_getElem h2
    intro i a b
    have := h1 i (by omega)
    simpa [List.getD, a, b] using this
  · rintro rfl; exact ⟨fun _ _ => rfl, rfl⟩
/-- == of two tuples of ints, as items -/
theorem eq_tt {X : Cx} {pins : List (Addr × Obj)} {σ : L2.St} {H : Hp} {s s' : Shared} {A : Around} {a b : Addr} {ns ms : List Int} (I : Inv X pins σ H s) (k : ∀ b o, s.heap.get? b = some o → s'.heap.get? b = some o) (ha : SqT X.K H a (ns.map V.int)) (hb : SqT X.K H b (ms.map V.int)) (hu : A.units < cLine) :
    SeqAt.EqAt A s' (.ref a) (.ref b) (decide (ns = ms)) := by
  by_cases q : a = b
  · subst q
    have e := I.tuple_inj ha hb
    have e2 : ns = ms := by
      have := congrArg (List.map fun v => match v with | V.int i => i | _ => 0) e
      simpa [List.map_map, Function.comp_def] using this
    rw [decide_eq_true e2]
    exact SeqAt.EqAt.same _
  · obtain ⟨its, r1, p1, _⟩ := I.tuple ha
    obtain ⟨its2, r2, p2, _⟩ := I.tuple hb
    have i1 : IntsAre its ns := Vals.ints r1
    have i2 : IntsAre its2 ms := Vals.ints r2
    have e1 : its.toArray.size = ns.length := by rw [List.size_toArray]; exact i1.length
    have e2 : its2.toArray.size = ms.length := by rw [List.size_toArray]; exact i2.length
    have g1 : ∀ j (h1 : j < its.toArray.size), ∃ t, its.toArray[j] = .int (ns.getD j 0) t := fun j h1 => by exact PyProof.Rows.IntsAre.int_at i1 _ _ (by simp at h1; simp [h1])
    have g2 : ∀ j (h1 : j < its2.toArray.size), ∃ t, its2.toArray[j] = .int (ms.getD j 0) t := fun j h1 => by exact PyProof.Rows.IntsAre.int_at i2 _ _ (by simp at h1; simp [h1])
    have R := SeqAt.RcAt.tuples (A := A) (s := s') (e := fun j => ns.getD j 0 == ms.getD j 0) (isTup_at k p1) (isTup_at k p2) hu (fun j h1 h2 => by
      obtain ⟨t, et⟩ := g1 j h1
      obtain ⟨t', et'⟩ := g2 j h2
      rw [et, et']
      exact SeqAt.EqAt.int_int _ _ _ _)
    rw [e1, e2, all_eq] at R
    exact SeqAt.EqAt.of_refs q R
/-- (j, b) > (i, a) -/
def gtP (j : Int) (ms : List Int) (i : Int) (ns : List Int) : Bool := if j = i then lexGt ms ns else decide (i < j)
theorem rc_gtP {X : Cx} {pins : List (Addr × Obj)} {σ : L2.St} {H : Hp} {s s' : Shared} {A : Around} {p q a b : Addr} {i j : Int} {ns ms : List Int} (I : Inv X pins σ H s) (k : ∀ b o, s.heap.get? b = some o → s'.heap.get? b = some o) (hp : SqT X.K H p [.int i, .ref a]) (hq : SqT X.K H q [.int j, .ref b])
    (ha : SqT X.K H a (ns.map V.int)) (hb : SqT X.K H b (ms.map V.int)) (hu : A.units + 2 < cLine) : Ob.RcOp .Gt A s' (.ref q) (.ref p) (gtP j ms i ns) := by
  obtain ⟨its, r1, p1, _⟩ := I.tuple hp
  obtain ⟨its2, r2, p2, _⟩ := I.tuple hq
  obtain ⟨u1, u2, rfl, ⟨t, rfl⟩, x2⟩ := vals2 r1
  obtain ⟨w1, w2, rfl, ⟨t', rfl⟩, y2⟩ := vals2 r2
  obtain rfl : u2 = Value.ref a := x2
  obtain rfl : w2 = Value.ref b := y2
  have hu1 : A.in1.units < cLine := by have : A.in1.units = A.units + 1 := rfl; omega
  have R := Ob.RcOp.tuples_gt (A := A) (s := s') (e := fun n => if n = 0 then decide (j = i) else decide (ms = ns)) (r := fun n => if n = 0 then decide (i < j) else lexGt ms ns) (isTup_at k p2) (isTup_at k p1) (by omega) (fun n h1 h2 => by
    have : n = 0 ∨ n = 1 := by simp at h1; omega
    rcases this with rfl | rfl
    · rw [show (if (0 : Nat) = 0 then decide (j = i) else decide (ms = ns)) = (j == i) from by rw [Bool.eq_iff_iff]; simp]
      exact SeqAt.EqAt.int_int _ _ _ _
    · exact eq_tt I k hb ha hu1) (fun n h1 h2 e => by
    have : n = 0 ∨ n = 1 := by simp at h1; omega
    rcases this with rfl | rfl
    · exact Ob.RcOp.gt_int _ _ _ _
    · exact rc_gt I k hb ha hu1)
  have e : Ob.lexAt (fun n => if n = 0 then decide (j = i) else decide (ms = ns)) (fun n => if n = 0 then decide (i < j) else lexGt ms ns) (decide ((#[Value.int j t', .ref b] : Array Value).size > (#[Value.int i t, .ref a] : Array Value).size)) 0 (min (#[Value.int j t', .ref b] : Array Value).size (#[Value.int i t, .ref a] : Array Value).size) = gtP j ms i ns := by
    show (if (decide (j = i)) = true then (if decide (ms = ns) = true then decide (2 > 2) else lexGt ms ns) else decide (i < j)) = _
    unfold gtP
    by_cases q : j = i
    · simp only [q, decide_true, if_true]
      by_cases z : ms = ns
      · subst z
        have nn : ∀ l : List Int, lexGt l l = false := fun l => by
          induction l with
          | nil => rfl
          | cons x r ih => simp [lexGt, ih]
        simp [nn]
      · simp [z]
    · simp [q]
  have R2 : Ob.RcOp .Gt A s' (.ref q) (.ref p) _ := R
  rw [← e]
  exact R2
def rMaxP (K : PySem.W.Frag) : List V → Hp → VK → Prop := fun vs H Q => ∃ (p q a b : Addr) (i j : Int) (ns ms : List Int), vs = [.ref p, .ref q] ∧ SqT K H p [.int i, .ref a] ∧ SqT K H q [.int j, .ref b] ∧ SqT K H a (ns.map V.int) ∧ SqT K H b (ms.map V.int) ∧ Q (if gtP j ms i ns then .ref q else .ref p) H
theorem cr_maxP {X : Cx} (hc : X.calm = true) (hu : X.A.units + 3 < cLine) : CallR X (.builtin "max") (rMaxP X.K) := by
  intro pins s σ H vs us Q I r h
  obtain ⟨p, q, a, b, i, j, ns, ms, rfl, hp, hq, ha, hb, z⟩ := h
  obtain ⟨u, w', rfl, r1, r2⟩ := vals2 r
  obtain rfl : u = Value.ref p := r1
  obtain rfl : w' = Value.ref q := r2
  have hu1 : X.A.in1.units + 2 < cLine := by have : X.A.in1.units = X.A.units + 1 := rfl; omega
  refine wr_max2 (g := gtP j ms i ns) (I.ok.hd hc) (fun s' Q' E' k qq => rc_gtP I k hp hq ha hb hu1 _ _ _ _ qq) fun h' tk k => ⟨_, H, I.kept k, ?_, z⟩
  split <;> rfl
@[simp] def pMaxP : List PV → IH → Res PV
  | [.tup [.int i, .key ns], .tup [.int j, .key ms]], h => .ok (if gtP j ms i ns then .tup [.int j, .key ms] else .tup [.int i, .key ns]) h
  | _, _ => .bad
theorem snd_maxP {K : PySem.W.Frag} {mg : Str → Option Value} : SndC K mg pMaxP (rMaxP K) := by
  intro W s as H h us vs Q rh rs o
  unfold pMaxP at o
  split at o
  · rename_i i ns j ms
    obtain ⟨v, w', rfl, rv, rw'⟩ := rs.inv2
    cases rv with
    | tup h1 q1 => cases rw' with
      | tup h2 q2 =>
        obtain ⟨a1, a2, rfl, b1, b2⟩ := q1.inv2
        obtain ⟨c1, c2, rfl, d1, d2⟩ := q2.inv2
        have b2' := b2
        have d2' := d2
        cases b1
        cases d1
        cases b2 with
        | key k1 => cases d2 with
          | key k2 =>
            refine ⟨_, _, _, _, i, j, ns, ms, rfl, h1, h2, SqT.of k1, SqT.of k2, ?_⟩
            cases g : gtP j ms i ns with
            | true => rw [g] at o; exact o.here rh (.tup h2 (.cons (.int _) (.one d2')))
            | false => rw [g] at o; exact o.here rh (.tup h1 (.cons (.int _) (.one b2')))
  · exact o.elim
section
variable {X : Cx} {W : WX} {k : Nat} {a b e o i : Expr} {es : List Expr} {pos p apos : Pos} {A B C : EX} {L : AX}
theorem ie_maxP (cx : Ctx X W k) (hm : X.mg "max" = none) (ha : PA X (e :: es) (IA X.K X.mg W L)) (hg : Gl X "max" := by rfl) (he : starEach (e :: es) X.env = (false, eval e X.env) :: starEach es X.env := by rfl) (hpl : (backTo pos (starEach es X.env)).any (·.1) = false := by rfl) : PE X (.Call (.Name "max" p) (e :: es) [] pos) (IE X.K X.mg W (eB pMaxP L)) :=
  ie_callB (cr_maxP cx.calm (by have := units65 cx.room; omega)) snd_maxP hm (by decide +kernel) ha hg (by decide) (by decide) he hpl
end
end WR

/-! a tuple times a number -/
namespace L2
open PySem PySem.Spec PyProof.Rows
theorem wr_tuple_mul1 (l : Addr) (its : Array Value) (n : Nat) (dd : Option Addr) (sl : Array (Option Value)) (u : Tok) : Meets (Builtin.«tuple.__mul__» ⟨[.ref l, .int 1 u], []⟩)
    (fun _ R s => s.heap.get? l = some ⟨.type "tuple", dd, .seq its n, sl⟩ ∧ R (.ok (.ret (Value.ref l))) s) :=
  .of_wp fun prog w A R s h => by
    obtain ⟨hp, g, d, tk, os⟩ := s; obtain ⟨hl, h⟩ := h; have f1 := AutoSeq1.idx_int
    wp_walk using wpAny_loadPart' hl
    repeat (first
      | (refine wpAny_ite_false (decide_eq_false (by decide)) ?_; wp_walk using wpAny_loadPart' hl)
      | (refine wpAny_ite_true (decide_eq_true (by simp)) ?_; wp_walk using wpAny_loadPart' hl))
    exact ⟨_, rfl, h⟩
def rRep1 (K : PySem.W.Frag) : R2 := fun x y H Q => ∃ l xs, x = .ref l ∧ y = .int 1 ∧ SqT K H l xs ∧ Q (.ref l) H
theorem op_rep1 {X : Cx} : OpR X (binaryOp .Mult) (rRep1 X.K) := by
  intro pins s σ H x y v u Q I rx ry h
  obtain ⟨l, xs, rfl, rfl, hT, q⟩ := h
  cases rx
  obtain ⟨t, rfl⟩ := ry
  obtain ⟨its, r, ⟨⟨cls, dd, data, sl⟩, ho, hc, n, hd⟩, hs⟩ := I.tuple hT
  simp only at hc hd
  subst hc hd
  exact wpAny_binaryOp_repeat_ref (T := "tuple") (U := "int") (by decide) ⟨_, ho, rfl⟩ (fun s' => typeIs_int s' 1 t) noFill_tuple_mul F.fills_int_mul F.slot_int_rmul repeat_tuple F.slot_int_index.lookup
    (call_meets F.slot_int_rmul (typeIs_int s 1 t) F.entry_int_rmul (F.args_int_rmul_2 _ _) (int_rmul_tuple 1 t l its.toArray n dd sl)
      ⟨ho, rfl, ⟨_, ho, rfl⟩, call_meets F.slot_tuple_mul ⟨_, ho, rfl⟩ F.entry_tuple_mul (F.args_tuple_mul_2 _ _) (wr_tuple_mul1 l its.toArray n dd sl t) ⟨ho, ⟨.ref l, H, I, rfl, q⟩⟩⟩)
end L2
namespace WR
open PySem PySem.Spec PyProof.Rows L2
@[simp] def pMulK : PV → PV → IH → Res PV
  | .key (a :: r), .int k, h => if k = 1 then .ok (.key (a :: r)) h else if 2 ≤ k ∧ k ≤ 1000 ∧ (a :: r).length ≤ 1000 then .ok (.key (List.replicate k.toNat (a :: r)).flatten) h else .bad
  | _, _, _ => .bad
theorem rep_map (n : Nat) (l : List Int) : (List.replicate n l).flatten.map V.int = (List.replicate n (l.map V.int)).flatten := by
  rw [List.map_flatten, List.map_replicate]
theorem snd_mulK {K : PySem.W.Frag} {mg : Str → Option Value} : Snd K mg pMulK (fun x y H Q => rRep1 K x y H Q ∨ rRepT K x y H Q) := by
  intro W s as H h x y U V Q rh rx ry o
  unfold pMulK at o
  split at o
  · rename_i a r k
    cases rx with
    | key ha =>
      cases ry
      split at o
      · rename_i e
        subst e
        exact .inl ⟨_, _, rfl, rfl, SqT.of ha, o.here rh (.key ha)⟩
      · split at o
        · rename_i hk
          refine .inr ⟨_, _, _, rfl, rfl, SqT.of ha, by simp, hk.1, hk.2.1, by simpa using hk.2.2, fun p np => ?_⟩
          exact o _ _ as (Stp.lay rh np) (rh.lay np) (.key (by rw [upd_same, rep_map]))
        · exact o.elim
  · exact o.elim
theorem ie_mulK {X : Cx} {W : WX} {a b : Expr} {pos : Pos} {A B : EX} (ha : PE X a (IE X.K X.mg W A)) (hb : PE X b (IE X.K X.mg W B)) : PE X (.BinOp a .Mult b pos) (IE X.K X.mg W (eOp pMulK A B)) := ie_op (op_rep1.or op_repT) snd_mulK ha hb
end WR

/-! raise and try -/
namespace WR
open PySem PySem.Spec PyProof.Rows L2
/-- an own exception class without an own __init__ -/
structure ExC (K : PySem.W.Frag) (mg : Str → Option Value) (c : Str) (C : Addr) : Prop where
  gC : mg c = some (.ref C)
  ex : PySem.W.excIn K C He.veBase "ValueError.__new__" = true
  kp : PySem.W.keepIn K (.ref C) = true
  sb : PySem.W.subIn K (.ref C) (.type "BaseException") = some true
  ty : PySem.W.typeIn K (.ref C) = some (.type "type")
def bExc (c : Str) : FrB := fun K => (He.Fa.exc c).ok K
theorem bExc_ok {K : PySem.W.Frag} {mg : Str → Option Value} {h : Heap} {c : Str} (X : K.In h) (G : h.Ns mainGlobals mg) (g : bGlo c K = true) (e : bExc c K = true) : ExC K mg c (He.ga K c) := by
  obtain ⟨a, b, c1, d⟩ := He.exc_ok e
  exact ⟨He.glo_ok X G g, a, b, c1, d⟩
/-- which class an exception is of -/
@[simp] def exSub (x y : Str) : Bool := x == y || y == "RoadError"
structure ExCs (K : PySem.W.Frag) (mg : Str → Option Value) (cs : List Str) : Prop where
  two : ∀ x y C D, cs.contains x = true → cs.contains y = true → mg x = some (.ref C) → mg y = some (.ref D) → PySem.W.exmOne K (.ref C) (.ref D) = some (exSub x y)
def bExcs (cs : List Str) : FrB := fun K => cs.all fun x => bGlo x K && cs.all fun y => (He.Fa.exm x y (exSub x y)).ok K
theorem bExcs_ok {K : PySem.W.Frag} {mg : Str → Option Value} {h : Heap} {cs : List Str} (X : K.In h) (G : h.Ns mainGlobals mg) (e : bExcs cs K = true) : ExCs K mg cs := by
  have e' := List.all_eq_true.mp e
  refine ⟨fun x y C D hx hy gx gy => ?_⟩
  have mx := mem_of_contains hx
  have my := mem_of_contains hy
  obtain ⟨a, b⟩ := He.ba (e' x mx)
  obtain ⟨c, _⟩ := He.ba (e' y my)
  have b' := List.all_eq_true.mp b y my
  rw [He.glo_ok X G a] at gx
  rw [He.glo_ok X G c] at gy
  cases gx
  cases gy
  exact He.exm_ok b'
@[simp] def sRaise (c : Str) : SX := fun r h => .ex ⟨c, []⟩ r h
@[simp] def pickH (x : XV) : List (Str × SX) → Option SX
  | [] => none
  | (c, S) :: r => if exSub x.cls c then some S else pickH x r
@[simp] def noEx : RS → RS
  | .ex _ _ _ => .bad
  | o => o
@[simp] def sTry (cs : List Str) (B : SX) (hs : List (Str × SX)) : SX := fun r h => match B r h with
  | .ex x r1 h1 => if cs.contains x.cls && hs.all (fun q => cs.contains q.1) then (match pickH x hs with
    | some S => noEx (S r1 h1)
    | none => .ex x r1 h1) else .bad
  | o => o
section
variable {X : Cx} {W : WX} {k : Nat} {c : Str} {C : Addr} {p pos pos' : Pos} {body : List Stmt} {h₀ : ExceptHandler} {hds : List ExceptHandler} {B : SX} {hs : List (Str × SX)} {cs : List Str}
theorem pmk_own0 (e : ExC X.K X.mg c C) (hg : Gl X c) (hdb : (c == ("__debug__" : Str)) = false) : PMk X (.Call (.Name c p) [] [] pos) (fun _ H Q => Q (.ref C) none H) := by
  intro pins s σ H Q I h
  refine wpAny_Call_Name_kw (ld_glob I hg e.gC ?_ hdb)
  refine PySem.W.callWith_K0 I.kIn e.kp ?_
  obtain ⟨bm, N, nm, qn, bs, hdct, sn, sub, ab, col, dd, k0, k1, k2, k3, k5, mN, hC, hN, hni, T⟩ := exc_obj I.kIn e.ex
  refine wpAny_call_exc_subT F.excBase_ValueError T hC hN hni (fun h' e' hm => ?_) (by show 0 ≤ sizeLine; omega)
  exact mk_of I hm (raises_own e.sb e.ty) h (I.hok.gone hm.new)
theorem is_raise0 (cx : Ctx X W k) (e : ExC X.K X.mg c C) (hg : Gl X c := by rfl) (hdb : (c == ("__debug__" : Str)) = false := by decide) : PS X (.Raise (some (.Call (.Name c p) [] [] pos)) none pos') (IS X.K X.mg W (sRaise c)) := by
  refine psImp (ps_raise cx.calm cx.tk (pmk_own0 e hg hdb)) fun D s H ⟨as, r, h, f, x, o⟩ => ?_
  exact o (.ref C) none s H as (Stp.refl _ _) x f ⟨C, e.gC, rfl, .inl rfl⟩
inductive Mts (X : Cx) : List (Value × (Addr → Value → Option Addr → TS)) → List (Str × SX) → Prop
  | nil : Mts X [] []
  | cons {c : Str} {C : Addr} {S : SX} {l : List (Value × (Addr → Value → Option Addr → TS))} {hs : List (Str × SX)} (g : X.mg c = some (.ref C)) (r : Mts X l hs) : Mts X ((.ref C, fun _ _ _ => IS X.K X.mg W0 S) :: l) ((c, S) :: hs)
def HdR (X : Cx) (hds : List ExceptHandler) (hs : List (Str × SX)) : Prop := ∃ l, HdsOk X hds l ∧ Mts X l hs
theorem hd_nil : HdR X [] [] := ⟨[], .nil, .nil⟩
theorem hd_cons {S : SX} {b₀ : Stmt} {suite : List Stmt} {np : Pos} (gC : X.mg c = some (.ref C)) (hsu : ∀ (a : Addr) (oe : Obj) (pn : List (Addr × Obj)), PSs (X.suite a ((a, oe) :: pn)) (b₀ :: suite) (IS X.K X.mg W0 S)) (r : HdR X hds hs)
    (hg : Gl X c := by rfl) (hdb : (c == ("__debug__" : Str)) = false := by decide) : HdR X (.ExceptHandler (some (.Name c np)) none (b₀ :: suite) pos' :: hds) ((c, S) :: hs) := by
  obtain ⟨l, a, b⟩ := r
  exact ⟨_, .cons ⟨hg, hdb, .inl gC⟩ (fun a oe cls d pn _ _ => hsu a oe pn) a, .cons gC b⟩
theorem noEx_out {K : PySem.W.Frag} {mg : Str → Option Value} {W : WX} {as : List Addr} {H : Hp} {D : Ends} {o : RS} (z : OutS K mg W as H D (noEx o)) : OutS K mg W0 as H D o := by
  cases o with
  | ex x r h => exact z.elim
  | nx r h => exact z
  | rt r h => exact z
  | bk r h => exact z
  | ct r h => exact z
  | bad => exact z
theorem many_of {l : List (Value × (Addr → Value → Option Addr → TS))} (mt : Mts X l hs) (E : ExCs X.K X.mg cs) {x1 : XV} {r1 : Fm} {h1 : IH} {d : Option Addr} {s' : L2.St} {H H' : Hp} {as as' : List Addr} {D : Ends} (hc1 : cs.contains x1.cls = true) (hc2 : hs.all (fun q => cs.contains q.1) = true)
    (gC : X.mg x1.cls = some (.ref C)) (S : Stp as H as' H') (x' : RH X.K X.mg H' as' h1) (f' : RF X.K X.mg H' as' r1 s') (rx : RX X.K X.mg H' as' x1 (.ref C) d)
    (o : OutS X.K X.mg W as H D (match pickH x1 hs with
      | some S => noEx (S r1 h1)
      | none => .ex x1 r1 h1)) : wMany X.K W D l (.ref C) d s' H' := by
  induction mt with
  | nil => exact o (.ref C) d s' H' as' S x' f' rx
  | @cons c Cc Sx l hs g r' ih =>
    rw [List.all_cons, Bool.and_eq_true] at hc2
    have ee := E.two x1.cls c C Cc hc1 hc2.1 gC g
    refine ⟨_, ee, fun hb => fun a na => ?_, fun hb => ?_⟩
    · simp only [pickH, hb, if_true] at o
      exact ⟨as', r1, h1, f', x', noEx_out (o.shift S)⟩
    · refine ih hc2.2 ?_
      simp only [pickH, hb] at o
      exact o
theorem is_try (cx : Ctx X W k) (E : ExCs X.K X.mg cs) (hb : ∀ (W' : WX) (pn : List (Addr × Obj)) (xe : Value → Shared → Prop), Ctx (X.tr pn xe) W' k → PSs (X.tr pn xe) body (IS X.K X.mg W' B)) (hh : HdR X (h₀ :: hds) hs)
    (hs0 : X.stack = X.env :: X.outer := by rfl) (hf0 : X.env.frame = some X.env.locals := by rfl) : PS X (.Try body (h₀ :: hds) [] [] pos) (IS X.K X.mg W (sTry cs B hs)) := by
  obtain ⟨l, ok, mt⟩ := hh
  refine psImp (ps_try_many hs0 hf0 cx.tk (fun W' pn xe tk po => hb W' pn xe ⟨tk, po, cx.calm, cx.nd, cx.room⟩) ok) fun D s H ⟨as, r, h, f, x, o⟩ => ?_
  refine ⟨as, r, h, f, x, ?_⟩
  unfold sTry at o
  cases q : B r h with
  | nx r1 h1 => rw [q] at o; exact o
  | rt r1 h1 => rw [q] at o; exact o
  | bk r1 h1 => rw [q] at o; exact o
  | ct r1 h1 => rw [q] at o; exact o
  | bad => rw [q] at o; exact o
  | ex x1 r1 h1 =>
    rw [q] at o
    simp only at o
    split at o
    · rename_i hc
      obtain ⟨hc1, hc2⟩ := Bool.and_eq_true_iff.mp hc
      intro cls d s' H' as' S x' f' rx
      have rx' := rx
      obtain ⟨C, gC, rfl, fs⟩ := rx
      exact many_of mt E hc1 hc2 gC S x' f' rx' o
    · exact o.elim
end
end WR

/-! remove and index of data -/
namespace L2
open PySem PySem.Spec PyProof.Rows
section
variable {X : Cx}
def rRemD (K : PySem.W.Frag) : V → List V → Hp → VK → Prop := fun x xs H Q => ∃ (l : Addr) (ys : List V) (y : V) (d : PyData) (ds : List PyData) (j : Nat) (z : PyData), x = V.ref l ∧ xs = [y] ∧ H l = some (.lst ys) ∧ DpAll K H ys ds ∧ Dp K H y d ∧
  SeqAt.shaped (.list ds) = true ∧ SeqAt.shaped d = true ∧ ds[j]? = some z ∧ PyData.eqv z d = true ∧ (∀ (m : Nat) (z' : PyData), m < j → ds[m]? = some z' → PyData.eqv z' d = false) ∧ Q .non (upd H l (.lst (ys.eraseIdx j)))
theorem mt_removeD (hu : X.A.units + 65 < cLine) : MtR X "list.remove" (rRemD X.K) := by
  intro pins s σ H x xs v us Q I rx rxs h
  obtain ⟨a, ys, y, d, ds, j, z, rfl, rfl, hH, hl, hy, sl, sd, hz, hzj, hno, q⟩ := h
  cases rx
  obtain ⟨uy, rfl, ry⟩ := rxs.one
  obtain ⟨bs, r1⟩ := Dp.reads I d y uy hy ry
  have hxs : PyData.canLayAll0 ds = true := SeqAt.canLay_of_shaped sl
  have hroom : X.A.units + 1 + min (PyData.depthAll ds) d.depth < cLine := room_in_shaped sd hu
  obtain ⟨zl, its, n, r, hln, e⟩ := I.lstM hH
  obtain ⟨as, h4⟩ := Dp.readsAll I ds _ its hl r
  have hn : its.length = ds.length := SeqAt.ReadsAll.length ds its as h4
  have hmap : its.map (SeqAt.readOf s.heap) = ds := SeqAt.readsAll_map ds its as hxs h4
  have hvl := r.length
  have hsl := sizeLine_eq
  obtain ⟨hjd, _⟩ := List.getElem?_eq_some_iff.mp hz
  have hjl : j < its.length := by omega
  have hj : j < its.toArray.size := by simpa using hjl
  have at_ : ∀ (m : Nat) (hm : m < its.toArray.size) (z' : PyData), ds[m]? = some z' → SeqAt.readOf s.heap its.toArray[m] = z' := by
    intro m hm z' hz'
    have hml : m < its.length := by simpa using hm
    rw [← hmap, List.getElem?_map, List.getElem?_eq_getElem hml] at hz'
    have e1 : SeqAt.readOf s.heap its[m] = z' := Option.some.inj (show some (SeqAt.readOf s.heap its[m]) = some z' from hz')
    simpa using e1
  refine call_meets PySem.F.slot_list_remove ⟨_, e, rfl⟩ PySem.F.entry_list_remove (PySem.F.args_list_remove_2 _ _)
    (SeqAt.list_removeAt a its.toArray n none #[] uy (fun u => PyData.eqv (SeqAt.readOf s.heap u) d) j hj ?_ ?_ (by rw [List.size_toArray]; omega)) ⟨e, SeqAt.items_eqAt (vs := its.toArray) (show ReadsAll s.heap its.toArray.toList ds as from h4) r1 hxs (SeqAt.canLay_of_shaped sd) hroom, ?_⟩
  · show PyData.eqv (SeqAt.readOf s.heap its.toArray[j]) d = true
    rw [at_ j hj z hz]
    exact hzj
  · intro m hm hmj
    have hmd : m < ds.length := by omega
    have hz' : ds[m]? = some ds[m] := List.getElem?_eq_getElem hmd
    show PyData.eqv (SeqAt.readOf s.heap its.toArray[m]) d = false
    rw [at_ m hm _ hz']
    exact hno m _ hmj hz'
  · have rr := r.eraseIdx j
    refine ⟨.non, _, I.lset (its' := its.eraseIdx j) (t' := s.toks) hH e ?_ rr ?_, rfl, q⟩
    · show its.toArray.eraseIdxIfInBounds j = (its.eraseIdx j).toArray
      rw [List.eraseIdxIfInBounds_toArray]
    · have z2 := List.length_eraseIdx_le ys j
      omega
end
end L2
namespace WR
open PySem PySem.Spec PyProof.Rows L2
/-- the first place of an equal item -/
def ixAt (xs : List PV) (y : PV) (h : IH) : Option Nat := match optAll (dataOf 11 h) xs, dataOf DEP h y with
  | some ds, some d => if SeqAt.shaped (.list ds) && SeqAt.shaped d then ds.findIdx? (fun z => PyData.eqv z d) else none
  | _, _ => none
@[simp] def eRemove (A : EX) (L : AX) : EX := fun r h => (A r h).bind fun x h1 => match x with
  | .obj n => (match h1[n]? with
    | some (.lst _) => (L r h1).bind fun vs h2 => (match vs, h2[n]? with
      | [y], some (.lst xs) => (match ixAt xs y h2 with
        | some j => .ok .non (h2.set n (.lst (xs.eraseIdx j)))
        | none => .bad)
      | _, _ => .bad)
    | _ => .bad)
  | _ => .bad
@[simp] def eIndex (A : EX) (L : AX) : EX := fun r h => (A r h).bind fun x h1 => match x with
  | .obj n => (match h1[n]? with
    | some (.lst _) => (L r h1).bind fun vs h2 => (match vs, h2[n]? with
      | [y], some (.lst xs) => (match ixAt xs y h2 with
        | some j => .ok (.int j) h2
        | none => .bad)
      | _, _ => .bad)
    | _ => .bad)
  | _ => .bad
theorem ixAt_of {K : PySem.W.Frag} {mg : Str → Option Value} {as : List Addr} {H : Hp} {h : IH} {xs : List PV} {ys : List V} {y : PV} {w : V} {j : Nat} (rh : RH K mg H as h) (rs : RPs K mg H as xs ys) (ry : RP K mg H as y w) (e : ixAt xs y h = some j) :
    ∃ d ds z, DpAll K H ys ds ∧ Dp K H w d ∧ SeqAt.shaped (.list ds) = true ∧ SeqAt.shaped d = true ∧ ds[j]? = some z ∧ PyData.eqv z d = true ∧ (∀ (m : Nat) (z' : PyData), m < j → ds[m]? = some z' → PyData.eqv z' d = false) := by
  unfold ixAt at e
  split at e
  · rename_i ds d e1 e2
    split at e
    · rename_i hs
      obtain ⟨s1, s2⟩ := Bool.and_eq_true_iff.mp hs
      obtain ⟨hj, h1, h2⟩ := List.findIdx?_eq_some_iff_getElem.mp e
      refine ⟨d, ds, ds[j], dpAll (fun p v d r => dp_of rh 11 p v d r) rs e1, dp_of rh _ _ _ _ ry e2, s1, s2, List.getElem?_eq_getElem hj, h1, fun m z' hm hz => ?_⟩
      obtain ⟨hm2, rfl⟩ := List.getElem?_eq_some_iff.mp hz
      have := h2 m hm
      simpa using this
    · cases e
  · cases e
theorem RPs.eraseIdx {K : PySem.W.Frag} {mg : Str → Option Value} {as : List Addr} {H : Hp} : ∀ {xs : List PV} {us : List V} (j : Nat), RPs K mg H as xs us → RPs K mg H as (xs.eraseIdx j) (us.eraseIdx j)
  | _, _, _, .nil => by simpa using .nil
  | _, _, 0, .cons r t => by simpa using t
  | _, _, j + 1, .cons r t => by simpa using .cons r (RPs.eraseIdx j t)
section
variable {X : Cx} {W : WX} {k : Nat} {a b e o : Expr} {es : List Expr} {pos : Pos} {A B C : EX} {L : AX}
theorem ie_remove {apos : Pos} (cx : Ctx X W k) (ho : PE X o (IE X.K X.mg W A)) (ha : PA X (e :: es) (IA X.K X.mg W L)) (hbase : attributeBase o "remove" X.env (eval o X.env) = eval o X.env := by rfl)
    (hfew : ((backTo pos (starEach (e :: es) X.env)).all (fun x => !x.1) && (backToKw pos (keywordEach [] X.env)).all (fun x => x.1.isSome)
      && decide ((e :: es).length + ([] : List Keyword).length + (if ([] : List Keyword).isEmpty then 0 else 1) < 30)) = true := by rfl)
    (hline : (apos.endLine == pos.line) = true := by rfl) (hs : starEach (e :: es) X.env = (false, eval e X.env) :: starEach es X.env := by rfl) (hplain : (backTo pos (starEach es X.env)).any (·.1) = false := by rfl) :
    PE X (.Call (.Attribute o "remove" apos) (e :: es) [] pos) (IE X.K X.mg W (eRemove A L)) := by
  refine peImp (pe_bm PySem.F.plainAttrs_list PySem.F.slot_list_remove PySem.F.type_list_remove (mt_removeD (by have := units65 cx.room; omega)) ho ha hbase hfew hline hs hplain) fun s H Q ⟨as, ρ, hh, f, x, o⟩ => ?_
  refine ⟨as, ρ, hh, f, x, (Out.bind o).imp fun V H1 ⟨as1, h1, p1, S1, x1, r1, o1⟩ => ?_⟩
  split at o1
  · rename_i n
    cases r1 with
    | obj hn =>
      split at o1
      · rename_i ys hy
        obtain ⟨b, e1, us, e2, rs⟩ := x1.at_ _ _ hy
        rw [hn] at e1; cases e1
        refine ⟨.inl ⟨rfl, _, SqL.of e2⟩, as1, ρ, h1, f.mono S1, x1, (Out.bind o1).imp fun Vs H2 ⟨as2, h2, p2, S2, x2, r2, o2⟩ => ?_⟩
        split at o2
        · rename_i y xs hx
          split at o2
          · rename_i j hj
            obtain ⟨w, rfl, rw'⟩ := r2.inv1
            obtain ⟨b', e3, ws, e4, rs'⟩ := x2.at_ _ _ hx
            have hn2 := S2.get hn
            rw [hn2] at e3; cases e3
            obtain ⟨d, ds, z, q1, q2, q3, q4, q5, q6, q7⟩ := ixAt_of x2 rs' rw' hj
            refine ⟨_, ws, w, d, ds, j, z, rfl, rfl, e4, q1, q2, q3, q4, q5, q6, q7, ?_⟩
            have S3 := Stp.put (o := .lst (ws.eraseIdx j)) x2 hn2 hx
            exact o2 _ _ _ S3 (x2.put (m := .lst (xs.eraseIdx j)) hn2 hx ⟨_, upd_same, (rs'.eraseIdx j).mono S3⟩) .non
          · exact o2.elim
        · exact o2.elim
      · exact o1.elim
  · exact o1.elim
theorem ie_index {apos : Pos} (cx : Ctx X W k) (ho : PE X o (IE X.K X.mg W A)) (ha : PA X (e :: es) (IA X.K X.mg W L)) (hbase : attributeBase o "index" X.env (eval o X.env) = eval o X.env := by rfl)
    (hfew : ((backTo pos (starEach (e :: es) X.env)).all (fun x => !x.1) && (backToKw pos (keywordEach [] X.env)).all (fun x => x.1.isSome)
      && decide ((e :: es).length + ([] : List Keyword).length + (if ([] : List Keyword).isEmpty then 0 else 1) < 30)) = true := by rfl)
    (hline : (apos.endLine == pos.line) = true := by rfl) (hs : starEach (e :: es) X.env = (false, eval e X.env) :: starEach es X.env := by rfl) (hplain : (backTo pos (starEach es X.env)).any (·.1) = false := by rfl) :
    PE X (.Call (.Attribute o "index" apos) (e :: es) [] pos) (IE X.K X.mg W (eIndex A L)) := by
  refine peImp (pe_bm PySem.F.plainAttrs_list PySem.F.slot_list_index PySem.F.type_list_index (mt_indexD (by have := units65 cx.room; omega)) ho ha hbase hfew hline hs hplain) fun s H Q ⟨as, ρ, hh, f, x, o⟩ => ?_
  refine ⟨as, ρ, hh, f, x, (Out.bind o).imp fun V H1 ⟨as1, h1, p1, S1, x1, r1, o1⟩ => ?_⟩
  split at o1
  · rename_i n
    cases r1 with
    | obj hn =>
      split at o1
      · rename_i ys hy
        obtain ⟨b, e1, us, e2, rs⟩ := x1.at_ _ _ hy
        rw [hn] at e1; cases e1
        refine ⟨.inl ⟨rfl, _, SqL.of e2⟩, as1, ρ, h1, f.mono S1, x1, (Out.bind o1).imp fun Vs H2 ⟨as2, h2, p2, S2, x2, r2, o2⟩ => ?_⟩
        split at o2
        · rename_i y xs hx
          split at o2
          · rename_i j hj
            obtain ⟨w, rfl, rw'⟩ := r2.inv1
            obtain ⟨b', e3, ws, e4, rs'⟩ := x2.at_ _ _ hx
            have hn2 := S2.get hn
            rw [hn2] at e3; cases e3
            obtain ⟨d, ds, z, q1, q2, q3, q4, q5, q6, q7⟩ := ixAt_of x2 rs' rw' hj
            exact ⟨_, w, d, ds, j, z, rfl, rfl, .lst (SqL.of e4) q1, q2, q3, q4, q5, q6, q7, o2.here x2 (.int _)⟩
          · exact o2.elim
        · exact o2.elim
      · exact o1.elim
  · exact o1.elim
theorem chain_of {p q : PV → PV → IH → Res PV} {r r' : R2} {c : Expr} (hp : Snd X.K X.mg p r) (hq : Snd X.K X.mg q r') {s : L2.St} {H : Hp} {Q : VK} (h : IE X.K X.mg W (eChain p q A B C) s H Q) : tChain r r' (IE X.K X.mg W A) (IE X.K X.mg W B) (IE X.K X.mg W C) s H Q := by
  obtain ⟨as, ρ, h, g, z, o⟩ := h
  refine ⟨as, ρ, h, g, z, (Out.bind o).imp fun V1 H1 ⟨as1, h1, p1, S1, x1, r1, o1⟩ => ?_⟩
  refine ⟨as1, ρ, h1, g.mono S1, x1, (Out.bind o1).imp fun V2 H2 ⟨as2, h2, p2, S2, x2, r2, o2⟩ => ?_⟩
  refine hp x2 (r1.mono S2) r2 ((Out.bind o2).imp fun V3 H3 ⟨as3, h3, p3, S3, x3, r3, o3⟩ => ?_)
  cases r3 with
  | bl d =>
    refine ⟨d, rfl, ?_⟩
    cases d with
    | false => exact o3.here x3 (.bl false)
    | true =>
      refine ⟨as3, ρ, h3, ((g.mono S1).mono S2).mono S3, x3, (Out.bind o3).imp fun V4 H4 ⟨as4, h4, p4, S4, x4, r4, o4⟩ => ?_⟩
      exact hq x4 ((r2.mono S3).mono S4) r4 o4
  | non => exact o3.elim
  | int => exact o3.elim
  | str => exact o3.elim
  | tup => exact o3.elim
  | fls => exact o3.elim
  | obj => exact o3.elim
  | glo => exact o3.elim
  | ty => exact o3.elim
  | key => exact o3.elim
theorem it_lele {c : Expr} (ha : PE X a (IE X.K X.mg W A)) (hb : PE X b (IE X.K X.mg W B)) (hc : PE X c (IE X.K X.mg W C)) (hm : lastMarks [.LtE, .LtE] [b, c] = false := by with_unfolding_all rfl) : PT X (.Compare a [.LtE, .LtE] [b, c] pos) (IT X.K X.mg W (tBl (eChain pLe pLe A B C))) :=
  ptImp (pt_chain op_le op_le ha hb hc hm) fun _ _ _ h => tTest_of (fun Q' h => chain_of (c := c) snd_ci snd_ci h) h
end
end WR

/-! the defs as functional code -/
namespace WR
open PySem PySem.Spec PyProof.Rows L2
def ownCs : List Str := ["Plan"]
def exCs : List Str := []
def b_is_integer : SX :=
    sRet (eAnd (eB (pIsi ownCs) (aCons (eVar 0) (aCons (eC (.ty "int")) aNil))) (eNot (eB (pIsi ownCs) (aCons (eVar 0) (aCons (eC (.ty "bool")) aNil)))))
def f_is_integer : List PV → IH → Res PV := fn 1 0 b_is_integer

def b_is_from : SX :=
    sRet (eAnd (eCall f_is_integer (aCons (eVar 0) aNil)) (eChain pLe pLe (eVar 1) (eVar 0) (eVar 2)))
def f_is_from : List PV → IH → Res PV := fn 3 0 b_is_from

def b_common : SX :=
    sSeq (sPar 0 1 (aCons (eB pAbs (aCons (eVar 0) aNil)) (aCons (eB pAbs (aCons (eVar 1) aNil)) aNil)))
    (sSeq (sWhile (tTru (eVar 1)) (sPar 0 1 (aCons (eVar 1) (aCons (eOp pMod (eVar 0) (eVar 1)) aNil))))
    (sRet (eVar 0)))
def f_common : List PV → IH → Res PV := fn 2 0 b_common

def b_ratio : SX :=
    sSeq (sSet 2 (eCall f_common (aCons (eVar 0) (aCons (eVar 1) aNil))))
    (sRet (eTup (aCons (eOp pDiv (eVar 0) (eVar 2)) (aCons (eOp pDiv (eVar 1) (eVar 2)) aNil))))
def f_ratio : List PV → IH → Res PV := fn 2 1 b_ratio

def b_is_fraction : SX :=
    sSeq (sIf (tOrX (tNotX (tTru (eB (pIsi ownCs) (aCons (eVar 0) (aCons (eC (.ty "tuple")) aNil))))) (tBl (eOp pNe (eB pLen (aCons (eVar 0) aNil)) (eC (.int 2))))) (sRet (eC (.bl false))) sNil)
    (sSeq (sIf (tOrX (tNotX (tTru (eCall f_is_integer (aCons (eOp pIdx (eVar 0) (eC (.int 0))) aNil)))) (tNotX (tTru (eCall f_is_integer (aCons (eOp pIdx (eVar 0) (eC (.int 1))) aNil))))) (sRet (eC (.bl false))) sNil)
    (sRet (eAnd (eOp pGe (eOp pIdx (eVar 0) (eC (.int 1))) (eC (.int 1))) (eOp pEq (eCall f_common (aCons (eOp pIdx (eVar 0) (eC (.int 0))) (aCons (eOp pIdx (eVar 0) (eC (.int 1))) aNil))) (eC (.int 1))))))
def f_is_fraction : List PV → IH → Res PV := fn 1 0 b_is_fraction

def b_plus : SX :=
    sRet (eCall f_ratio (aCons (eOp pAdd (eOp pMul (eOp pIdx (eVar 0) (eC (.int 0))) (eOp pIdx (eVar 1) (eC (.int 1)))) (eOp pMul (eOp pIdx (eVar 1) (eC (.int 0))) (eOp pIdx (eVar 0) (eC (.int 1))))) (aCons (eOp pMul (eOp pIdx (eVar 0) (eC (.int 1))) (eOp pIdx (eVar 1) (eC (.int 1)))) aNil)))
def f_plus : List PV → IH → Res PV := fn 2 0 b_plus

def b_minus : SX :=
    sRet (eCall f_ratio (aCons (eOp pSub (eOp pMul (eOp pIdx (eVar 0) (eC (.int 0))) (eOp pIdx (eVar 1) (eC (.int 1)))) (eOp pMul (eOp pIdx (eVar 1) (eC (.int 0))) (eOp pIdx (eVar 0) (eC (.int 1))))) (aCons (eOp pMul (eOp pIdx (eVar 0) (eC (.int 1))) (eOp pIdx (eVar 1) (eC (.int 1)))) aNil)))
def f_minus : List PV → IH → Res PV := fn 2 0 b_minus

def b_times : SX :=
    sRet (eCall f_ratio (aCons (eOp pMul (eOp pIdx (eVar 0) (eC (.int 0))) (eOp pIdx (eVar 1) (eC (.int 0)))) (aCons (eOp pMul (eOp pIdx (eVar 0) (eC (.int 1))) (eOp pIdx (eVar 1) (eC (.int 1)))) aNil)))
def f_times : List PV → IH → Res PV := fn 2 0 b_times

def b_over : SX :=
    sRet (eCall f_ratio (aCons (eOp pMul (eOp pIdx (eVar 0) (eC (.int 0))) (eOp pIdx (eVar 1) (eC (.int 1)))) (aCons (eOp pMul (eOp pIdx (eVar 0) (eC (.int 1))) (eOp pIdx (eVar 1) (eC (.int 0)))) aNil)))
def f_over : List PV → IH → Res PV := fn 2 0 b_over

def b_is_less : SX :=
    sRet (eOp pLt (eOp pMul (eOp pIdx (eVar 0) (eC (.int 0))) (eOp pIdx (eVar 1) (eC (.int 1)))) (eOp pMul (eOp pIdx (eVar 1) (eC (.int 0))) (eOp pIdx (eVar 0) (eC (.int 1)))))
def f_is_less : List PV → IH → Res PV := fn 2 0 b_is_less

def b_is_within : SX :=
    sSeq (sIf (tNotX (tTru (eCall f_is_fraction (aCons (eVar 0) aNil)))) (sRet (eC (.bl false))) sNil)
    (sRet (eChain pLe pLe (eOp pMul (eVar 1) (eOp pIdx (eVar 0) (eC (.int 1)))) (eOp pIdx (eVar 0) (eC (.int 0))) (eOp pMul (eVar 2) (eOp pIdx (eVar 0) (eC (.int 1))))))
def f_is_within : List PV → IH → Res PV := fn 3 0 b_is_within

def b_least_of : SX :=
    sSeq (sSet 1 (eOp pIdx (eVar 0) (eC (.int 0))))
    (sSeq (sFor (eIter (eVar 0)) (gVar 2) (sIf (tTru (eCall f_is_less (aCons (eVar 2) (aCons (eVar 1) aNil)))) (sSet 1 (eVar 2)) sNil))
    (sRet (eVar 1)))
def f_least_of : List PV → IH → Res PV := fn 1 2 b_least_of

def b_greatest_of : SX :=
    sSeq (sSet 1 (eOp pIdx (eVar 0) (eC (.int 0))))
    (sSeq (sFor (eIter (eVar 0)) (gVar 2) (sIf (tTru (eCall f_is_less (aCons (eVar 1) (aCons (eVar 2) aNil)))) (sSet 1 (eVar 2)) sNil))
    (sRet (eVar 1)))
def f_greatest_of : List PV → IH → Res PV := fn 1 2 b_greatest_of

def b_is_reach : SX :=
    sRet (eAnd (eCall f_is_within (aCons (eVar 0) (aCons (eC (.int 0)) (aCons (eC (.int 1000000000000)) aNil)))) (eOp pGt (eOp pIdx (eVar 0) (eC (.int 0))) (eC (.int 0))))
def f_is_reach : List PV → IH → Res PV := fn 1 0 b_is_reach

def b_is_turn : SX :=
    sSeq (sIf (tOrX (tNotX (tTru (eB (pIsi ownCs) (aCons (eVar 0) (aCons (eC (.ty "tuple")) aNil))))) (tBl (eOp pNe (eB pLen (aCons (eVar 0) aNil)) (eC (.int 2))))) (sRet (eC (.bl false))) sNil)
    (sRet (eAnd (eCall f_is_from (aCons (eOp pIdx (eVar 0) (eC (.int 0))) (aCons (eC (.int 0)) (aCons (eOp pSub (eVar 1) (eC (.int 1))) aNil)))) (eCall f_is_reach (aCons (eOp pIdx (eVar 0) (eC (.int 1))) aNil))))
def f_is_turn : List PV → IH → Res PV := fn 2 0 b_is_turn

def b_check_roads : SX :=
    sIf (tNotX (tTru (eCall f_is_from (aCons (eVar 0) (aCons (eC (.int 1)) (aCons (eC (.int 5)) aNil)))))) sBad sNil
def f_check_roads : List PV → IH → Res PV := fn 1 0 b_check_roads

def b_check_cost : SX :=
    sIf (tNotX (tTru (eCall f_is_within (aCons (eVar 0) (aCons (eC (.int 0)) (aCons (eC (.int 1000000000000)) aNil)))))) sBad sNil
def f_check_cost : List PV → IH → Res PV := fn 1 0 b_check_cost

def b_Plan___init__ : SX :=
    sSeq (sExpr (eCall f_check_roads (aCons (eVar 1) aNil)))
    (sSeq (sIf (tOrX (tNotX (tTru (eB (pIsi ownCs) (aCons (eVar 2) (aCons (eC (.ty "tuple")) aNil))))) (tBl (eOp pGt (eB pLen (aCons (eVar 2) aNil)) (eC (.int 60))))) sBad sNil)
    (sSeq (sFor (eEnum (aCons (eVar 2) aNil)) (gTupF [4, 5]) (sIf (tNotX (tTru (eCall f_is_turn (aCons (eVar 5) (aCons (eVar 1) aNil))))) sBad sNil))
    (sSeq (sExpr (eCall f_check_cost (aCons (eVar 3) aNil)))
    (sFldX "Plan" "held" (eVar 0) (eTup (aCons (eVar 1) (aCons (eVar 2) (aCons (eVar 3) aNil))))))))
def f_Plan___init__ : List PV → IH → Res PV := fn 4 2 b_Plan___init__

def b_Plan_roads : SX :=
    sRet (eOp pIdx (eFld "Plan" "held" (eVar 0)) (eC (.int 0)))
def f_Plan_roads : List PV → IH → Res PV := fn 1 0 b_Plan_roads

def b_Plan_turns : SX :=
    sRet (eOp pIdx (eFld "Plan" "held" (eVar 0)) (eC (.int 1)))
def f_Plan_turns : List PV → IH → Res PV := fn 1 0 b_Plan_turns

def b_Plan_cost : SX :=
    sRet (eOp pIdx (eFld "Plan" "held" (eVar 0)) (eC (.int 2)))
def f_Plan_cost : List PV → IH → Res PV := fn 1 0 b_Plan_cost

def b_Plan___len__ : SX :=
    sRet (eB pLen (aCons (eOp pIdx (eFld "Plan" "held" (eVar 0)) (eC (.int 1))) aNil))
def f_Plan___len__ : List PV → IH → Res PV := fn 1 0 b_Plan___len__

def b_Plan___eq__ : SX :=
    sRet (eAnd (eB (pIsi ownCs) (aCons (eVar 1) (aCons (eC (.glo "Plan")) aNil))) (eOp pEq (eFld "Plan" "held" (eVar 0)) (eFld "Plan" "held" (eVar 1))))
def f_Plan___eq__ : List PV → IH → Res PV := fn 2 0 b_Plan___eq__

def b_check_plan : SX :=
    sIf (tNotX (tTru (eB (pIsi ownCs) (aCons (eVar 0) (aCons (eC (.glo "Plan")) aNil))))) sBad sNil
def f_check_plan : List PV → IH → Res PV := fn 1 0 b_check_plan

def b_bases_of : SX :=
    sSeq (sSet 1 (eLst (aCons (eC (.tup [.int 0, .int 1])) aNil)))
    (sSeq (sFor (eIter (eOp pIdx (eFld "Plan" "held" (eVar 0)) (eC (.int 1)))) (gTupF [2, 3]) (sExpr (eAppend (eVar 1) (aCons (eCall f_plus (aCons (eOp pIdx (eVar 1) (eUn pNeg (eC (.int 1)))) (aCons (eCall f_plus (aCons (eCall f_times (aCons (eTup (aCons (eC (.int 2)) (aCons (eC (.int 1)) aNil))) (aCons (eVar 3) aNil))) (aCons (eOp pIdx (eFld "Plan" "held" (eVar 0)) (eC (.int 2))) aNil))) aNil))) aNil))))
    (sRet (eVar 1)))
def f_bases_of : List PV → IH → Res PV := fn 1 3 b_bases_of

def b_pieces_of : SX :=
    sSeq (sSet 2 (eLst aNil))
    (sSeq (sSet 3 (eC (.tup [.int 0, .int 1])))
    (sSeq (sFor (eZip (aCons (eOp pIdx (eFld "Plan" "held" (eVar 0)) (eC (.int 1))) (aCons (eCall f_bases_of (aCons (eVar 0) aNil)) aNil))) (gTupF [4, 5]) (sSeq (sAsgT (gTupF [6, 7]) (eVar 4))
    (sIf (tAndX (tBl (eOp pEq (eVar 6) (eVar 1))) (tTru (eCall f_is_less (aCons (eVar 3) (aCons (eVar 7) aNil))))) (sSeq (sIf (tNotX (tTru (eCall f_is_less (aCons (eVar 7) (aCons (eC (.tup [.int 1, .int 1])) aNil))))) (sExpr (eAppend (eVar 2) (aCons (eTup (aCons (eCall f_greatest_of (aCons (eLst (aCons (eVar 3) (aCons (eC (.tup [.int 1, .int 1])) aNil))) aNil)) (aCons (eVar 7) (aCons (eVar 5) aNil)))) aNil))) sNil)
    (sSet 3 (eVar 7))) sNil)))
    (sRet (eVar 2))))
def f_pieces_of : List PV → IH → Res PV := fn 2 6 b_pieces_of

def b_reach_of : SX :=
    sSeq (sSet 2 (eCall f_pieces_of (aCons (eVar 0) (aCons (eVar 1) aNil))))
    (sSeq (sIf (tNotX (tTru (eVar 2))) (sRet (eC (.tup [.int 0, .int 1]))) sNil)
    (sRet (eOp pIdx (eOp pIdx (eVar 2) (eUn pNeg (eC (.int 1)))) (eC (.int 1)))))
def f_reach_of : List PV → IH → Res PV := fn 2 1 b_reach_of

def b_cover : SX :=
    sSeq (sExpr (eCall f_check_plan (aCons (eVar 0) aNil)))
    (sRet (eCall f_least_of (aCons (eLc (eRange1 (aCons (eOp pIdx (eFld "Plan" "held" (eVar 0)) (eC (.int 0))) aNil)) (gVar 1) tYesX (eCall f_reach_of (aCons (eVar 0) (aCons (eVar 1) aNil))) [1]) aNil)))
def f_cover : List PV → IH → Res PV := fn 1 1 b_cover

def b_worst_of : SX :=
    sSeq (sSet 1 (eC .non))
    (sSeq (sFor (eRange1 (aCons (eOp pIdx (eFld "Plan" "held" (eVar 0)) (eC (.int 0))) aNil)) (gVar 2) (sFor (eEnum (aCons (eCall f_pieces_of (aCons (eVar 0) (aCons (eVar 2) aNil))) aNil)) (gTupF [3, 4]) (sSeq (sSet 5 (eCall f_plus (aCons (eC (.tup [.int 1, .int 1])) (aCons (eCall f_over (aCons (eOp pIdx (eVar 4) (eC (.int 2))) (aCons (eOp pIdx (eVar 4) (eC (.int 0))) aNil))) aNil))))
    (sIf (tOrX (tBl (eOp pIsN (eVar 1) (eC .non))) (tTru (eCall f_is_less (aCons (eOp pIdx (eVar 1) (eC (.int 0))) (aCons (eVar 5) aNil))))) (sSet 1 (eTup (aCons (eVar 5) (aCons (eVar 2) (aCons (eOp pIdx (eVar 4) (eC (.int 0))) (aCons (eOp pEq (eVar 3) (eC (.int 0))) aNil)))))) sNil))))
    (sRet (eVar 1)))
def f_worst_of : List PV → IH → Res PV := fn 1 5 b_worst_of

def b_worst : SX :=
    sSeq (sExpr (eCall f_check_plan (aCons (eVar 0) aNil)))
    (sRet (eCall f_worst_of (aCons (eVar 0) aNil)))
def f_worst : List PV → IH → Res PV := fn 1 0 b_worst

def b_check_share : SX :=
    sIf (tOrX (tNotX (tTru (eCall f_is_within (aCons (eVar 0) (aCons (eC (.int 1)) (aCons (eC (.int 100)) aNil)))))) (tBl (eOp pGt (eOp pIdx (eVar 0) (eC (.int 1))) (eC (.int 1000))))) sBad sNil
def f_check_share : List PV → IH → Res PV := fn 1 0 b_check_share

def b_half_of : SX :=
    sRet (eCall f_ratio (aCons (eOp pSub (eOp pIdx (eVar 0) (eC (.int 0))) (eOp pIdx (eVar 0) (eC (.int 1)))) (aCons (eOp pMul (eC (.int 2)) (eOp pIdx (eVar 0) (eC (.int 1)))) aNil)))
def f_half_of : List PV → IH → Res PV := fn 1 0 b_half_of

def b_reaches_to : SX :=
    sSeq (sSet 2 (eLst aNil))
    (sSeq (sSet 3 (eC (.tup [.int 0, .int 1])))
    (sSeq (sSet 4 (eVar 0))
    (sSeq (sWhile (tBl (eOp pGt (eOp pIdx (eVar 4) (eC (.int 0))) (eC (.int 0)))) (sSeq (sExpr (eAppend (eVar 2) (aCons (eVar 4) aNil)))
    (sSeq (sIf (tAndX (tBl (eOp pNotN (eVar 1) (eC .non))) (tNotX (tTru (eCall f_is_less (aCons (eVar 4) (aCons (eVar 1) aNil)))))) sBreak sNil)
    (sSeq (sSet 3 (eCall f_plus (aCons (eVar 3) (aCons (eVar 4) aNil))))
    (sSet 4 (eCall f_minus (aCons (eCall f_times (aCons (eVar 0) (aCons (eVar 4) aNil))) (aCons (eVar 3) aNil))))))))
    (sRet (eVar 2)))))
def f_reaches_to : List PV → IH → Res PV := fn 2 3 b_reaches_to

def b_farthest_of : SX :=
    sSeq (sIf (tNotX (tTru (eCall f_is_less (aCons (eVar 0) (aCons (eTup (aCons (eC (.int 9)) (aCons (eC (.int 1)) aNil))) aNil))))) (sRet (eC .non)) sNil)
    (sSeq (sIf (tTru (eCall f_is_less (aCons (eVar 0) (aCons (eTup (aCons (eC (.int 3)) (aCons (eC (.int 1)) aNil))) aNil)))) (sRet (eC (.tup [.int 0, .int 1]))) sNil)
    (sRet (eCall f_greatest_of (aCons (eCall f_reaches_to (aCons (eCall f_half_of (aCons (eVar 0) aNil)) (aCons (eC .non) aNil))) aNil))))
def f_farthest_of : List PV → IH → Res PV := fn 1 0 b_farthest_of

def b_farthest : SX :=
    sSeq (sExpr (eCall f_check_share (aCons (eVar 0) aNil)))
    (sRet (eCall f_farthest_of (aCons (eVar 0) aNil)))
def f_farthest : List PV → IH → Res PV := fn 1 0 b_farthest

def b_plan_within : SX :=
    sSeq (sExpr (eCall f_check_share (aCons (eVar 0) aNil)))
    (sSeq (sIf (tNotX (tTru (eCall f_is_within (aCons (eVar 1) (aCons (eC (.int 1)) (aCons (eC (.int 1000000000000)) aNil)))))) sBad sNil)
    (sSeq (sSet 2 (eCall f_farthest_of (aCons (eVar 0) aNil)))
    (sSeq (sIf (tAndX (tBl (eOp pNotN (eVar 2) (eC .non))) (tTru (eCall f_is_less (aCons (eVar 2) (aCons (eVar 1) aNil))))) (sRet (eC .non)) sNil)
    (sSeq (sSet 3 (eOp pAdd (eSl (eCall f_reaches_to (aCons (eCall f_half_of (aCons (eVar 0) aNil)) (aCons (eVar 1) aNil))) oNone (oSome (eUn pNeg (eC (.int 1))))) (eLst (aCons (eVar 1) (aCons (eVar 1) aNil)))))
    (sRet (eCall (mkO "Plan" f_Plan___init__) (aCons (eC (.int 2)) (aCons (eB pTuple1 (aCons (eLc (eEnum (aCons (eVar 3) aNil)) (gTupF [4, 5]) tYesX (eTup (aCons (eOp pMod (eVar 4) (eC (.int 2))) (aCons (eVar 5) aNil))) [4, 5]) aNil)) (aCons (eC (.tup [.int 0, .int 1])) aNil)))))))))
def f_plan_within : List PV → IH → Res PV := fn 2 4 b_plan_within

def b__law_mix : SX :=
    sSeq (sSet 2 (eVar 1))
    (sSeq (sFor (eIter (eVar 0)) (gVar 3) (sSet 2 (eOp pMod (eB pInt1 (aCons (eOp pAdd (eOp pAdd (eOp pMul (eVar 2) (eC (.int 48271))) (eOp pMod (eB pInt1 (aCons (eVar 3) aNil)) (eC (.int 2147483629)))) (eC (.int 1))) aNil)) (eC (.int 2147483647)))))
    (sRet (eLst (aCons (eVar 2) (aCons (eB pList1 (aCons (eVar 0) aNil)) (aCons (eC (.int 0)) aNil))))))
def f__law_mix : List PV → IH → Res PV := fn 2 2 b__law_mix

def b__law_next : SX :=
    sSeq (sSet 2 (eOp pIdx (eOp pAdd (eOp pIdx (eVar 0) (eC (.int 1))) (eLst (aCons (eC (.int 0)) aNil))) (eOp pMod (eB pInt1 (aCons (eOp pIdx (eVar 0) (eC (.int 2))) aNil)) (eB pMax2 (aCons (eC (.int 1)) (aCons (eB pLen (aCons (eOp pIdx (eVar 0) (eC (.int 1))) aNil)) aNil))))))
    (sSeq (sIf (tBl (eOp pGe (eVar 2) (eOp pPow (eC (.int 10)) (eC (.int 18))))) (sSeq (sSet 3 (eOp pIdx (eVar 0) (eC (.int 1))))
    (sSeq (sSetIx (eVar 3) (eOp pMod (eB pInt1 (aCons (eOp pIdx (eVar 0) (eC (.int 2))) aNil)) (eB pLen (aCons (eVar 3) aNil))) (eOp pDiv (eVar 2) (eVar 1)))
    (sRet (eOp pMod (eB pInt1 (aCons (eVar 2) aNil)) (eVar 1))))) sNil)
    (sSeq (sSetIx (eVar 0) (eC (.int 0)) (eOp pMod (eB pInt1 (aCons (eOp pAdd (eOp pAdd (eOp pMul (eOp pIdx (eVar 0) (eC (.int 0))) (eC (.int 48271))) (eOp pMul (eVar 2) (eC (.int 69621)))) (eC (.int 11))) aNil)) (eC (.int 2147483647))))
    (sSeq (sSetIx (eVar 0) (eC (.int 2)) (eOp pAdd (eOp pIdx (eVar 0) (eC (.int 2))) (eC (.int 1))))
    (sRet (eOp pMod (eB pInt1 (aCons (eOp pDiv (eOp pIdx (eVar 0) (eC (.int 0))) (eC (.int 7))) aNil)) (eVar 1))))))
def f__law_next : List PV → IH → Res PV := fn 2 2 b__law_next

def b__law_part : SX :=
    sSeq (sPar 0 1 (aCons (eB pAbs (aCons (eVar 0) aNil)) (aCons (eB pAbs (aCons (eVar 1) aNil)) aNil)))
    (sSeq (sWhile (tBl (eOp pNe (eVar 1) (eC (.int 0)))) (sPar 0 1 (aCons (eVar 1) (aCons (eOp pSub (eVar 0) (eOp pMul (eOp pDiv (eVar 0) (eVar 1)) (eVar 1))) aNil))))
    (sRet (eVar 0)))
def f__law_part : List PV → IH → Res PV := fn 2 0 b__law_part

def b__law_f : SX :=
    sSeq (sSet 2 (eCall f__law_part (aCons (eVar 0) (aCons (eVar 1) aNil))))
    (sRet (eTup (aCons (eOp pDiv (eVar 0) (eVar 2)) (aCons (eOp pDiv (eVar 1) (eVar 2)) aNil))))
def f__law_f : List PV → IH → Res PV := fn 2 1 b__law_f

def b__law_add : SX :=
    sRet (eCall f__law_f (aCons (eOp pAdd (eOp pMul (eOp pIdx (eVar 0) (eC (.int 0))) (eOp pIdx (eVar 1) (eC (.int 1)))) (eOp pMul (eOp pIdx (eVar 1) (eC (.int 0))) (eOp pIdx (eVar 0) (eC (.int 1))))) (aCons (eOp pMul (eOp pIdx (eVar 0) (eC (.int 1))) (eOp pIdx (eVar 1) (eC (.int 1)))) aNil)))
def f__law_add : List PV → IH → Res PV := fn 2 0 b__law_add

def b__law_mul : SX :=
    sRet (eCall f__law_f (aCons (eOp pMul (eOp pIdx (eVar 0) (eC (.int 0))) (eOp pIdx (eVar 1) (eC (.int 0)))) (aCons (eOp pMul (eOp pIdx (eVar 0) (eC (.int 1))) (eOp pIdx (eVar 1) (eC (.int 1)))) aNil)))
def f__law_mul : List PV → IH → Res PV := fn 2 0 b__law_mul

def b__law_div : SX :=
    sRet (eCall f__law_f (aCons (eOp pMul (eOp pIdx (eVar 0) (eC (.int 0))) (eOp pIdx (eVar 1) (eC (.int 1)))) (aCons (eOp pMul (eOp pIdx (eVar 0) (eC (.int 1))) (eOp pIdx (eVar 1) (eC (.int 0)))) aNil)))
def f__law_div : List PV → IH → Res PV := fn 2 0 b__law_div

def b__law_under : SX :=
    sRet (eOp pLt (eOp pMul (eOp pIdx (eVar 0) (eC (.int 0))) (eOp pIdx (eVar 1) (eC (.int 1)))) (eOp pMul (eOp pIdx (eVar 1) (eC (.int 0))) (eOp pIdx (eVar 0) (eC (.int 1)))))
def f__law_under : List PV → IH → Res PV := fn 2 0 b__law_under

def b__law_reach : SX :=
    sSeq (sSet 2 (eCall f__law_next (aCons (eVar 0) (aCons (eC (.int 4)) aNil))))
    (sSeq (sIf (tBl (eOp pEq (eVar 2) (eC (.int 0)))) (sRet (eCall f__law_f (aCons (eOp pAdd (eC (.int 1)) (eCall f__law_next (aCons (eVar 0) (aCons (eC (.int 40)) aNil)))) (aCons (eOp pAdd (eC (.int 1)) (eCall f__law_next (aCons (eVar 0) (aCons (eC (.int 12)) aNil)))) aNil)))) sNil)
    (sSeq (sIf (tBl (eOp pEq (eVar 2) (eC (.int 1)))) (sRet (eCall f__law_f (aCons (eOp pAdd (eC (.int 1)) (eCall f__law_next (aCons (eVar 0) (aCons (eC (.int 9)) aNil)))) (aCons (eC (.int 1)) aNil)))) sNil)
    (sRet (eCall f__law_f (aCons (eOp pAdd (eVar 1) (eCall f__law_next (aCons (eVar 0) (aCons (eOp pAdd (eVar 1) (eC (.int 2))) aNil)))) (aCons (eOp pAdd (eC (.int 1)) (eCall f__law_next (aCons (eVar 0) (aCons (eC (.int 2)) aNil)))) aNil))))))
def f__law_reach : List PV → IH → Res PV := fn 2 1 b__law_reach

def b__law_turns : SX :=
    sSeq (sPar 3 4 (aCons (eLst aNil) (aCons (eOp pAdd (eC (.int 1)) (eCall f__law_next (aCons (eVar 0) (aCons (eC (.int 2)) aNil)))) aNil)))
    (sSeq (sFor (eRange1 (aCons (eCall f__law_next (aCons (eVar 0) (aCons (eOp pAdd (eVar 2) (eC (.int 1))) aNil))) aNil)) (gVar 5) (sSeq (sSet 6 (eIf (tBl (eOp pGt (eCall f__law_next (aCons (eVar 0) (aCons (eC (.int 4)) aNil))) (eC (.int 0)))) (eOp pSub (eVar 5) (eOp pMul (eOp pDiv (eVar 5) (eVar 1)) (eVar 1))) (eCall f__law_next (aCons (eVar 0) (aCons (eVar 1) aNil)))))
    (sSeq (sExpr (eAppend (eVar 3) (aCons (eTup (aCons (eVar 6) (aCons (eCall f__law_reach (aCons (eVar 0) (aCons (eVar 4) aNil))) aNil))) aNil)))
    (sSet 4 (eB pMin2 (aCons (eOp pPow (eC (.int 10)) (eC (.int 9))) (aCons (eOp pAdd (eVar 4) (eCall f__law_next (aCons (eVar 0) (aCons (eOp pAdd (eVar 4) (eC (.int 1))) aNil)))) aNil)))))))
    (sRet (eB pTuple1 (aCons (eVar 3) aNil))))
def f__law_turns : List PV → IH → Res PV := fn 3 4 b__law_turns

def b__law_plan : SX :=
    sSeq (sSet 2 (eOp pAdd (eC (.int 1)) (eCall f__law_next (aCons (eVar 0) (aCons (eC (.int 5)) aNil)))))
    (sSeq (sSet 3 (eIf (tBl (eOp pEq (eCall f__law_next (aCons (eVar 0) (aCons (eC (.int 2)) aNil))) (eC (.int 0)))) (eTup (aCons (eC (.int 0)) (aCons (eC (.int 1)) aNil))) (eCall f__law_f (aCons (eCall f__law_next (aCons (eVar 0) (aCons (eC (.int 9)) aNil))) (aCons (eOp pAdd (eC (.int 1)) (eCall f__law_next (aCons (eVar 0) (aCons (eC (.int 4)) aNil)))) aNil)))))
    (sRet (eLst (aCons (eVar 2) (aCons (eCall f__law_turns (aCons (eVar 0) (aCons (eVar 2) (aCons (eVar 1) aNil)))) (aCons (eVar 3) aNil))))))
def f__law_plan : List PV → IH → Res PV := fn 2 2 b__law_plan

def b__law_walked : SX :=
    sSeq (sSet 3 (eTup (aCons (eC (.int 0)) (aCons (eC (.int 1)) aNil))))
    (sSeq (sFor (eIter (eOp pIdx (eVar 0) (eC (.int 1)))) (gTupF [4, 5]) (sSeq (sIf (tAndX (tBl (eOp pEq (eVar 4) (eVar 1))) (tNotX (tTru (eCall f__law_under (aCons (eVar 5) (aCons (eVar 2) aNil)))))) (sRet (eCall f__law_add (aCons (eVar 3) (aCons (eVar 2) aNil)))) sNil)
    (sSet 3 (eCall f__law_add (aCons (eVar 3) (aCons (eCall f__law_add (aCons (eCall f__law_mul (aCons (eTup (aCons (eC (.int 2)) (aCons (eC (.int 1)) aNil))) (aCons (eVar 5) aNil))) (aCons (eOp pIdx (eVar 0) (eC (.int 2))) aNil))) aNil))))))
    (sRet (eC .non)))
def f__law_walked : List PV → IH → Res PV := fn 3 3 b__law_walked

def b__law_farthest : SX :=
    sSeq (sSet 1 (eCall f__law_f (aCons (eOp pSub (eOp pIdx (eVar 0) (eC (.int 0))) (eOp pIdx (eVar 0) (eC (.int 1)))) (aCons (eOp pMul (eC (.int 2)) (eOp pIdx (eVar 0) (eC (.int 1)))) aNil))))
    (sSeq (sPar3 2 3 4 (aCons (eTup (aCons (eC (.int 0)) (aCons (eC (.int 1)) aNil))) (aCons (eTup (aCons (eC (.int 0)) (aCons (eC (.int 1)) aNil))) (aCons (eVar 1) aNil))))
    (sSeq (sWhile (tBl (eOp pGt (eOp pIdx (eVar 4) (eC (.int 0))) (eC (.int 0)))) (sSeq (sSet 2 (eIf (tTru (eCall f__law_under (aCons (eVar 2) (aCons (eVar 4) aNil)))) (eVar 4) (eVar 2)))
    (sSeq (sSet 3 (eCall f__law_add (aCons (eVar 3) (aCons (eVar 4) aNil))))
    (sSet 4 (eCall f__law_add (aCons (eCall f__law_mul (aCons (eVar 1) (aCons (eVar 4) aNil))) (aCons (eTup (aCons (eUn pNeg (eOp pIdx (eVar 3) (eC (.int 0)))) (aCons (eOp pIdx (eVar 3) (eC (.int 1))) aNil))) aNil)))))))
    (sRet (eIf (tNotX (tTru (eCall f__law_under (aCons (eVar 2) (aCons (eTup (aCons (eC (.int 1)) (aCons (eC (.int 1)) aNil))) aNil))))) (eVar 2) (eTup (aCons (eC (.int 0)) (aCons (eC (.int 1)) aNil)))))))
def f__law_farthest : List PV → IH → Res PV := fn 1 4 b__law_farthest

def b__law_keeps : SX :=
    sSeq (sSet 2 (eCall f_plan_within (aCons (eVar 0) (aCons (eVar 1) aNil))))
    (sSeq (sIf (tOrX (tNotX (tTru (eB (pIsi ownCs) (aCons (eVar 2) (aCons (eC (.glo "Plan")) aNil))))) (tOrX (tBl (eOp pNe (eProp "Plan" f_Plan_roads (eVar 2)) (eC (.int 2)))) (tBl (eOp pNe (eProp "Plan" f_Plan_cost (eVar 2)) (eTup (aCons (eC (.int 0)) (aCons (eC (.int 1)) aNil))))))) (sRet (eC (.bl false))) sNil)
    (sRet (eAnd (eNot (eCall f__law_under (aCons (eCall f_cover (aCons (eVar 2) aNil)) (aCons (eVar 1) aNil)))) (eNot (eCall f__law_under (aCons (eVar 0) (aCons (eOp pIdx (eCall f_worst (aCons (eVar 2) aNil)) (eC (.int 0))) aNil)))))))
def f__law_keeps : List PV → IH → Res PV := fn 2 1 b__law_keeps

def b__law_drawn : SX :=
    sSeq (sSet 2 (eCall f__law_f (aCons (eOp pSub (eOp pIdx (eVar 1) (eC (.int 0))) (eOp pIdx (eVar 1) (eC (.int 1)))) (aCons (eOp pMul (eC (.int 2)) (eOp pIdx (eVar 1) (eC (.int 1)))) aNil))))
    (sSeq (sPar3 3 4 5 (aCons (eLst aNil) (aCons (eTup (aCons (eC (.int 0)) (aCons (eC (.int 1)) aNil))) (aCons (eTup (aCons (eC (.int 1)) (aCons (eC (.int 1)) aNil))) aNil))))
    (sSeq (sFor (eRange1 (aCons (eOp pAdd (eC (.int 2)) (eCall f__law_next (aCons (eVar 0) (aCons (eC (.int 8)) aNil)))) aNil)) (gVar 6) (sSeq (sSet 7 (eCall f__law_add (aCons (eCall f__law_mul (aCons (eVar 2) (aCons (eVar 5) aNil))) (aCons (eTup (aCons (eUn pNeg (eOp pIdx (eVar 4) (eC (.int 0)))) (aCons (eOp pIdx (eVar 4) (eC (.int 1))) aNil))) aNil))))
    (sSeq (sIf (tBl (eOp pLe (eOp pIdx (eVar 7) (eC (.int 0))) (eC (.int 0)))) sBreak sNil)
    (sSeq (sSet 8 (eCall f__law_mul (aCons (eVar 7) (aCons (eCall f__law_f (aCons (eOp pIdx (eLst (aCons (eC (.int 99)) (aCons (eC (.int 97)) (aCons (eC (.int 9)) (aCons (eC (.int 11)) (aCons (eC (.int 10)) aNil)))))) (eCall f__law_next (aCons (eVar 0) (aCons (eC (.int 5)) aNil)))) (aCons (eOp pIdx (eLst (aCons (eC (.int 100)) (aCons (eC (.int 100)) (aCons (eC (.int 10)) (aCons (eC (.int 10)) (aCons (eC (.int 10)) aNil)))))) (eCall f__law_next (aCons (eVar 0) (aCons (eC (.int 5)) aNil)))) aNil))) aNil))))
    (sSeq (sExpr (eAppend (eVar 3) (aCons (eTup (aCons (eOp pSub (eVar 6) (eOp pMul (eOp pDiv (eVar 6) (eC (.int 2))) (eC (.int 2)))) (aCons (eVar 8) aNil))) aNil)))
    (sPar 4 5 (aCons (eCall f__law_add (aCons (eVar 4) (aCons (eVar 8) aNil))) (aCons (eVar 8) aNil))))))))
    (sRet (eLc (eIter (eVar 3)) (gVar 9) (tTru (eCall f__law_under (aCons (eOp pIdx (eVar 9) (eC (.int 1))) (aCons (eTup (aCons (eOp pPow (eC (.int 10)) (eC (.int 12))) (aCons (eC (.int 1)) aNil))) aNil)))) (eVar 9) [9]))))
def f__law_drawn : List PV → IH → Res PV := fn 2 8 b__law_drawn

def b_law : SX :=
    sSeq (sSet 1 (eCall f__law_mix (aCons (eVar 0) (aCons (eC (.int 4)) aNil))))
    (sSeq (sSet 2 (eOp pAdd (eC (.int 1)) (eCall f__law_next (aCons (eVar 1) (aCons (eOp pIdx (eLst (aCons (eC (.int 2)) (aCons (eC (.int 10)) (aCons (eC (.int 200)) (aCons (eC (.int 1000)) aNil))))) (eCall f__law_next (aCons (eVar 1) (aCons (eC (.int 4)) aNil)))) aNil)))))
    (sSeq (sSet 3 (eCall f__law_f (aCons (eOp pAdd (eVar 2) (eCall f__law_next (aCons (eVar 1) (aCons (eOp pAdd (eOp pMul (eC (.int 11)) (eVar 2)) (eC (.int 1))) aNil)))) (aCons (eVar 2) aNil))))
    (sSeq (sIf (tBl (eOp pGt (eVar 2) (eC (.int 200)))) (sSet 3 (eCall f__law_f (aCons (eOp pAdd (eOp pAdd (eVar 2) (eCall f__law_next (aCons (eVar 1) (aCons (eOp pMul (eC (.int 7)) (eVar 2)) aNil)))) (eOp pMul (eOp pMul (eC (.int 92)) (eVar 2)) (eB pInt1 (aCons (eOp pEq (eCall f__law_next (aCons (eVar 1) (aCons (eC (.int 4)) aNil))) (eC (.int 0))) aNil)))) (aCons (eVar 2) aNil)))) sNil)
    (sSeq (sSet 4 (eCall f_farthest (aCons (eVar 3) aNil)))
    (sSeq (sIf (tNotX (tTru (eCall f__law_under (aCons (eVar 3) (aCons (eTup (aCons (eC (.int 9)) (aCons (eC (.int 1)) aNil))) aNil))))) (sSeq (sSet 5 (eOp pIdx (eLst (aCons (eCall f__law_f (aCons (eOp pAdd (eC (.int 3)) (eCall f__law_next (aCons (eVar 1) (aCons (eOp pPow (eC (.int 10)) (eC (.int 9))) aNil)))) (aCons (eC (.int 3)) aNil))) (aCons (eTup (aCons (eOp pSub (eOp pPow (eC (.int 10)) (eC (.int 12))) (eCall f__law_next (aCons (eVar 1) (aCons (eC (.int 2)) aNil)))) (aCons (eC (.int 1)) aNil))) aNil))) (eCall f__law_next (aCons (eVar 1) (aCons (eC (.int 2)) aNil)))))
    (sRet (eAnd (eOp pIsN (eVar 4) (eC .non)) (eCall f__law_keeps (aCons (eVar 3) (aCons (eVar 5) aNil)))))) sNil)
    (sSeq (sIf (tOrX (tBl (eOp pNe (eVar 4) (eCall f__law_farthest (aCons (eVar 3) aNil)))) (tBl (eOp pNe (eOp pEq (eVar 4) (eTup (aCons (eC (.int 0)) (aCons (eC (.int 1)) aNil)))) (eCall f__law_under (aCons (eVar 3) (aCons (eTup (aCons (eC (.int 3)) (aCons (eC (.int 1)) aNil))) aNil)))))) (sRet (eC (.bl false))) sNil)
    (sSeq (sIf (tAndX (tBl (eOp pNe (eVar 4) (eTup (aCons (eC (.int 0)) (aCons (eC (.int 1)) aNil))))) (tTru (eCall f__law_under (aCons (eVar 4) (aCons (eTup (aCons (eOp pSub (eOp pPow (eC (.int 10)) (eC (.int 12))) (eC (.int 1))) (aCons (eC (.int 1)) aNil))) aNil))))) (sSeq (sIf (tOrX (tNotX (tTru (eCall f__law_keeps (aCons (eVar 3) (aCons (eVar 4) aNil))))) (tBl (eOp pNotN (eCall f_plan_within (aCons (eVar 3) (aCons (eCall f__law_add (aCons (eVar 4) (aCons (eTup (aCons (eC (.int 1)) (aCons (eC (.int 1000)) aNil))) aNil))) aNil))) (eC .non)))) (sRet (eC (.bl false))) sNil)
    (sIf (tNotX (tTru (eCall f__law_keeps (aCons (eVar 3) (aCons (eIf (tTru (eCall f__law_under (aCons (eTup (aCons (eC (.int 1)) (aCons (eC (.int 1)) aNil))) (aCons (eVar 4) aNil)))) (eCall f__law_f (aCons (eOp pAdd (eOp pIdx (eVar 4) (eC (.int 0))) (eOp pIdx (eVar 4) (eC (.int 1)))) (aCons (eOp pMul (eC (.int 2)) (eOp pIdx (eVar 4) (eC (.int 1)))) aNil))) (eTup (aCons (eC (.int 1)) (aCons (eC (.int 1)) aNil)))) aNil))))) (sRet (eC (.bl false))) sNil)) (sIf (tAndX (tBl (eOp pEq (eVar 4) (eTup (aCons (eC (.int 0)) (aCons (eC (.int 1)) aNil))))) (tBl (eOp pNotN (eCall f_plan_within (aCons (eVar 3) (aCons (eTup (aCons (eC (.int 1)) (aCons (eC (.int 1)) aNil))) aNil))) (eC .non)))) (sRet (eC (.bl false))) sNil))
    (sSeq (sSet 6 (eCall (mkO "Plan" f_Plan___init__) (aCons (eC (.int 2)) (aCons (eB pTuple1 (aCons (eCall f__law_drawn (aCons (eVar 1) (aCons (eVar 3) aNil))) aNil)) (aCons (eTup (aCons (eC (.int 0)) (aCons (eC (.int 1)) aNil))) aNil)))))
    (sSeq (sIf (tBl (eOp pEq (eCall f_cover (aCons (eVar 6) aNil)) (eTup (aCons (eC (.int 0)) (aCons (eC (.int 1)) aNil))))) (sRet (eC (.bl true))) sNil)
    (sSeq (sSet 7 (eOp pIdx (eCall f_worst (aCons (eVar 6) aNil)) (eC (.int 0))))
    (sSeq (sIf (tOrX (tBl (eOp pGt (eOp pIdx (eVar 7) (eC (.int 1))) (eC (.int 1000)))) (tNotX (tTru (eCall f__law_under (aCons (eVar 7) (aCons (eTup (aCons (eC (.int 9)) (aCons (eC (.int 1)) aNil))) aNil)))))) (sSet 7 (eCall f__law_f (aCons (eOp pAdd (eOp pDiv (eOp pMul (eOp pIdx (eVar 7) (eC (.int 0))) (eC (.int 1000))) (eOp pIdx (eVar 7) (eC (.int 1)))) (eC (.int 1))) (aCons (eC (.int 1000)) aNil)))) sNil)
    (sRet (eOr (eNot (eCall f__law_under (aCons (eVar 7) (aCons (eTup (aCons (eC (.int 9)) (aCons (eC (.int 1)) aNil))) aNil)))) (eNot (eCall f__law_under (aCons (eCall f_farthest (aCons (eVar 7) aNil)) (aCons (eCall f_cover (aCons (eVar 6) aNil)) aNil)))))))))))))))))
def f_law : List PV → IH → Res PV := fn 1 7 b_law

end WR

namespace WR
open PySem PySem.Spec PyProof.Rows L2
/-! ### data -/
@[simp] theorem data_int (n : Nat) (h : IH) (i : Int) : dataOf n h (.int i) = some (.int i) := by cases n <;> rfl
@[simp] theorem data_bl (n : Nat) (h : IH) (b : Bool) : dataOf n h (.bl b) = some (.bool b) := by cases n <;> rfl
@[simp] theorem data_non (n : Nat) (h : IH) : dataOf n h .non = some .none := by cases n <;> rfl
@[simp] theorem data_str (n : Nat) (h : IH) (x : Str) : dataOf n h (.str x) = some (.str x) := by cases n <;> rfl
theorem shaped_int (i : Int) : SeqAt.shaped (.int i) = true := by
  simp [SeqAt.shaped, PyData.canLay0, PyData.depth]
@[simp] theorem eqB_int (i j : Int) (h : IH) : pEqB (.int i) (.int j) h = some (i == j) := by
  simp [pEqB, shaped_int, PyData.eqv]
/-! ### fractions -/
def fq (q : Rat) : PV := .tup [.int q.num, .int q.den]
/-- of at most N bits -/
def Sm (N : Nat) (q : Rat) : Prop := q.num.natAbs < 2 ^ N ∧ q.den < 2 ^ N
theorem Sm.mono {M N : Nat} {q : Rat} (h : Sm M q) (l : M ≤ N) : Sm N q := ⟨Nat.lt_of_lt_of_le h.1 (Nat.pow_le_pow_right (by decide) l), Nat.lt_of_lt_of_le h.2 (Nat.pow_le_pow_right (by decide) l)⟩
theorem log_of {n N : Nat} (h : n < 2 ^ N) (hN : 0 < N) : n.log2 < N := by
  by_cases h0 : n = 0
  · subst h0; simpa using hN
  · exact (Nat.log2_lt h0).mpr h
theorem mul_ok {i j : Int} {A B : Nat} (hi : i.natAbs < 2 ^ A) (hj : j.natAbs < 2 ^ B) (h : A + B ≤ 999990) : mulOk i j = true := by
  unfold mulOk
  have h1 : i.natAbs.log2 < A + 1 := log_of (Nat.lt_of_lt_of_le hi (Nat.pow_le_pow_right (by decide) (by omega))) (by omega)
  have h2 : j.natAbs.log2 < B + 1 := log_of (Nat.lt_of_lt_of_le hj (Nat.pow_le_pow_right (by decide) (by omega))) (by omega)
  have h3 : i.natAbs.log2 + j.natAbs.log2 < 1000000 := by omega
  rw [Bool.or_eq_true]
  exact .inr (decide_eq_true h3)
/-! ### Euclid -/
theorem euc_loop {c : TX} {B : SX} {P : Int → Int → Prop} (r : Fm) (h : IH) (hc0 : ∀ a, c (some (.int a) :: some (.int 0) :: r) h = .ok false h)
    (hc : ∀ a b, 0 < b → c (some (.int a) :: some (.int b) :: r) h = .ok true h)
    (hB : ∀ a b, 0 ≤ a → 0 < b → P a b → B (some (.int a) :: some (.int b) :: r) h = .nx (some (.int b) :: some (.int (a % b)) :: r) h ∧ P b (a % b)) :
    ∀ (n : Nat) (a b : Int), 0 ≤ a → 0 ≤ b → b < 2 ^ n → P a b → ∀ k, 2 * n + 1 ≤ k →
    ∃ z, whileL c B k (some (.int a) :: some (.int b) :: r) h = .nx (some (.int (Int.gcd a b)) :: some (.int z) :: r) h := by
  intro n
  induction n with
  | zero =>
    intro a b ha hb hl hp k hk
    have b0 : b = 0 := by omega
    subst b0
    obtain ⟨k, rfl⟩ : ∃ m, k = m + 1 := ⟨k - 1, by omega⟩
    refine ⟨0, ?_⟩
    simp [whileL, hc0, Int.natAbs_of_nonneg ha]
  | succ n ih =>
    intro a b ha hb hl hp k hk
    obtain ⟨k, rfl⟩ : ∃ m, k = m + 2 := ⟨k - 2, by omega⟩
    by_cases b0 : b = 0
    · subst b0
      refine ⟨0, ?_⟩
      simp [whileL, hc0, Int.natAbs_of_nonneg ha]
    · have bp : 0 < b := by omega
      obtain ⟨s1, p1⟩ := hB a b ha bp hp
      have e1 : whileL c B (k + 2) (some (.int a) :: some (.int b) :: r) h = whileL c B (k + 1) (some (.int b) :: some (.int (a % b)) :: r) h := by
        rw [show k + 2 = (k + 1) + 1 from rfl]
        conv => lhs; unfold whileL
        simp [hc a b bp, s1]
      have m0 := Int.emod_nonneg a b0
      have m1 := Int.emod_lt_of_pos a bp
      by_cases r0 : a % b = 0
      · refine ⟨0, ?_⟩
        rw [e1, r0]
        have g : (Int.gcd a b : Int) = b := Int.gcd_eq_right hb (Int.dvd_of_emod_eq_zero r0)
        rw [g]
        simp [whileL, hc0]
      · have rp : 0 < a % b := by omega
        obtain ⟨s2, p2⟩ := hB b (a % b) hb rp p1
        have e2 : whileL c B (k + 1) (some (.int b) :: some (.int (a % b)) :: r) h = whileL c B k (some (.int (a % b)) :: some (.int (b % (a % b))) :: r) h := by
          conv => lhs; unfold whileL
          simp [hc b (a % b) rp, s2]
        rw [e1, e2]
        have q0 := Int.emod_nonneg b r0
        have q1 := Int.emod_lt_of_pos b rp
        have half : 2 * (b % (a % b)) < b := by
          have d := Int.emod_add_mul_ediv b (a % b)
          have dp : 1 ≤ b / (a % b) := Int.le_ediv_of_mul_le rp (show 1 * (a % b) ≤ b by omega)
          have : (a % b) * 1 ≤ (a % b) * (b / (a % b)) := Int.mul_le_mul_of_nonneg_left dp m0
          omega
        have hl2 : b % (a % b) < 2 ^ n := by
          rw [Int.pow_succ] at hl
          omega
        obtain ⟨z, e⟩ := ih (a % b) (b % (a % b)) m0 q0 hl2 p2 k (by omega)
        refine ⟨z, ?_⟩
        rw [e]
        have g : Int.gcd (a % b) (b % (a % b)) = Int.gcd a b := by
          obtain ⟨m, rfl⟩ := Int.eq_ofNat_of_zero_le ha
          obtain ⟨n', rfl⟩ := Int.eq_ofNat_of_zero_le hb
          rw [← Int.natCast_emod, ← Int.natCast_emod, Int.gcd_natCast_natCast, Int.gcd_natCast_natCast, Nat.gcd_comm, ← Nat.gcd_rec, ← Nat.gcd_rec, Nat.gcd_comm]
        rw [g]
theorem cast_lt {b : Int} {N : Nat} (hb : b.natAbs < 2 ^ N) : (b.natAbs : Int) < 2 ^ N := by
  have := Int.ofNat_lt.mpr hb
  rwa [Int.natCast_pow] at this
theorem abs_eq (a : Int) : (if a < 0 then -a else a) = (a.natAbs : Int) := by omega
theorem gcd_abs (a b : Int) : Int.gcd (a.natAbs : Int) (b.natAbs : Int) = Int.gcd a b := by simp [Int.gcd]
theorem common_eq (a b : Int) (h : IH) (hb : b.natAbs < 2 ^ 9000) : f_common [.int a, .int b] h = .ok (.int (Int.gcd a b)) h := by
  obtain ⟨z, e⟩ := euc_loop (c := tTru (eVar 1)) (B := sPar 0 1 (aCons (eVar 1) (aCons (eOp pMod (eVar 0) (eVar 1)) aNil))) (P := fun _ _ => True) [] h (by intro a; simp) (by intro a b hb; simp; omega)
    (by intro a b ha hb _; simp [hb]) 9000 (a.natAbs : Int) (b.natAbs : Int) (by omega) (by omega) (cast_lt hb) trivial LIM (by decide)
  rw [gcd_abs] at e
  simp [f_common, b_common, sWhile, abs_eq, e]
/-! ### reduced fractions -/
theorem div_ok {n : Int} {d : Nat} (hd : 0 < d) (hs : d < 2 ^ 9000) : (0 : Int) < (Int.gcd n d : Int) ∧ ((Int.gcd n d : Int)).natAbs.log2 < 9000 := by
  have g0 : 0 < Int.gcd n d := Int.gcd_pos_of_ne_zero_right n (by omega)
  have g1 : Int.gcd n d ≤ d := Nat.gcd_le_right n.natAbs hd
  refine ⟨Int.natCast_pos.mpr g0, ?_⟩
  rw [Int.natAbs_natCast]
  exact log_of (Nat.lt_of_le_of_lt g1 hs) (by decide)
theorem fq_mk (n : Int) (d : Nat) (hd : 0 < d) : fq (mkRat n d) = .tup [.int (n / (Int.gcd n d : Int)), .int ((d : Int) / (Int.gcd n d : Int))] := by
  have e : Int.gcd n d = d.gcd n.natAbs := by rw [Int.gcd_comm]; rfl
  unfold fq
  rw [Rat.num_mkRat, Rat.den_mkRat, if_neg (by omega), if_neg (by omega), e]
  rw [Int.natCast_ediv]
theorem ratio_eq (n : Int) (d : Nat) (h : IH) (hd : 0 < d) (hs : d < 2 ^ 9000) : f_ratio [.int n, .int d] h = .ok (fq (mkRat n d)) h := by
  obtain ⟨q0, q1⟩ := div_ok (n := n) hd hs
  have c := common_eq n d h (by rw [Int.natAbs_natCast]; exact hs)
  rw [fq_mk n d hd]
  generalize ((Int.gcd n d : Nat) : Int) = g at c q0 q1 ⊢
  simp [f_ratio, b_ratio, c, q0, q1]
theorem add_mk (a b : Rat) : a + b = mkRat (a.num * b.den + b.num * a.den) (a.den * b.den) := by
  rw [Rat.add_def, Rat.mkRat_def, dif_neg (Nat.mul_ne_zero a.den_nz b.den_nz)]
theorem mul_mk (a b : Rat) : a * b = mkRat (a.num * b.num) (a.den * b.den) := by
  rw [Rat.mul_def, Rat.mkRat_def, dif_neg (Nat.mul_ne_zero a.den_nz b.den_nz)]
theorem den_lt {a b : Rat} {A B : Nat} (ha : Sm A a) (hb : Sm B b) : a.den * b.den < 2 ^ (A + B) := by
  rw [Nat.pow_add]; exact Nat.mul_lt_mul'' ha.2 hb.2
theorem den_pos (a : Rat) : 0 < a.den := Nat.pos_of_ne_zero a.den_nz
theorem Sm.dn {A : Nat} {a : Rat} (h : Sm A a) : (a.den : Int).natAbs < 2 ^ A := by rw [Int.natAbs_natCast]; exact h.2
theorem plus_eq {A B : Nat} {a b : Rat} (ha : Sm A a) (hb : Sm B b) (hn : A + B ≤ 9000) (h : IH) : f_plus [fq a, fq b] h = .ok (fq (a + b)) h := by
  have r := ratio_eq (a.num * b.den + b.num * a.den) (a.den * b.den) h (Nat.mul_pos (den_pos a) (den_pos b)) (Nat.lt_of_lt_of_le (den_lt ha hb) (Nat.pow_le_pow_right (by decide) hn))
  rw [Int.natCast_mul] at r
  simp [f_plus, b_plus, fq, atI, ixN, mul_ok ha.1 hb.dn (by omega), mul_ok hb.1 ha.dn (by omega), mul_ok ha.dn hb.dn (by omega), r, add_mk]
theorem times_eq {A B : Nat} {a b : Rat} (ha : Sm A a) (hb : Sm B b) (hn : A + B ≤ 9000) (h : IH) : f_times [fq a, fq b] h = .ok (fq (a * b)) h := by
  have r := ratio_eq (a.num * b.num) (a.den * b.den) h (Nat.mul_pos (den_pos a) (den_pos b)) (Nat.lt_of_lt_of_le (den_lt ha hb) (Nat.pow_le_pow_right (by decide) hn))
  rw [Int.natCast_mul] at r
  simp [f_times, b_times, fq, atI, ixN, mul_ok ha.1 hb.1 (by omega), mul_ok ha.dn hb.dn (by omega), r, mul_mk]
theorem less_eq {A B : Nat} {a b : Rat} (ha : Sm A a) (hb : Sm B b) (hn : A + B ≤ 9000) (h : IH) : f_is_less [fq a, fq b] h = .ok (.bl (decide (a < b))) h := by
  simp [f_is_less, b_is_less, fq, atI, ixN, mul_ok ha.1 hb.dn (by omega), mul_ok hb.1 ha.dn (by omega), Rat.lt_iff]
theorem num_pos {b : Rat} (hb : 0 < b) : 0 < b.num := by
  have := (Rat.lt_iff 0 b).mp hb
  simpa using this
theorem div_mk (a b : Rat) (hb : 0 < b) : a / b = mkRat (a.num * b.den) (a.den * b.num.natAbs) := by
  have p := num_pos hb
  rw [Rat.div_def, mul_mk, Rat.num_inv, Rat.den_inv, if_neg (by omega), Int.sign_eq_one_of_pos p, Int.one_mul]
theorem over_eq {A B : Nat} {a b : Rat} (ha : Sm A a) (hb : Sm B b) (hp : 0 < b) (hn : A + B ≤ 9000) (h : IH) : f_over [fq a, fq b] h = .ok (fq (a / b)) h := by
  have p := num_pos hp
  have dl : a.den * b.num.natAbs < 2 ^ (A + B) := by rw [Nat.pow_add]; exact Nat.mul_lt_mul'' ha.2 hb.1
  have r := ratio_eq (a.num * b.den) (a.den * b.num.natAbs) h (Nat.mul_pos (den_pos a) (by omega)) (Nat.lt_of_lt_of_le dl (Nat.pow_le_pow_right (by decide) hn))
  rw [Int.natCast_mul, Int.natAbs_of_nonneg (Int.le_of_lt p)] at r
  simp [f_over, b_over, fq, atI, ixN, mul_ok ha.1 hb.dn (by omega), mul_ok ha.dn hb.1 (by omega), r, div_mk a b hp]
/-! sizes of results -/
theorem mk_small {n : Int} {d N : Nat} (hn : n.natAbs < 2 ^ N) (hd : d < 2 ^ N) (h0 : 0 < d) : Sm N (mkRat n d) := by
  have e1 : (mkRat n d).num.natAbs ≤ n.natAbs := by
    rw [Rat.num_mkRat, if_neg (by omega)]
    exact Int.natAbs_ediv_le_natAbs _ _
  have e2 : (mkRat n d).den ≤ d := by
    rw [Rat.den_mkRat, if_neg (by omega)]
    exact Nat.div_le_self _ _
  exact ⟨Nat.lt_of_le_of_lt e1 hn, Nat.lt_of_le_of_lt e2 hd⟩
theorem Sm.add {A B : Nat} {a b : Rat} (ha : Sm A a) (hb : Sm B b) : Sm (A + B + 1) (a + b) := by
  rw [add_mk]
  refine mk_small ?_ (Nat.lt_of_lt_of_le (den_lt ha hb) (Nat.pow_le_pow_right (by decide) (by omega))) (Nat.mul_pos (den_pos a) (den_pos b))
  have x : (a.num * b.den).natAbs < 2 ^ (A + B) := by rw [Int.natAbs_mul, Nat.pow_add]; exact Nat.mul_lt_mul'' ha.1 hb.dn
  have y : (b.num * a.den).natAbs < 2 ^ (A + B) := by rw [Int.natAbs_mul, Nat.pow_add, Nat.mul_comm]; exact Nat.mul_lt_mul'' ha.dn hb.1
  have z := Int.natAbs_add_le (a.num * b.den) (b.num * a.den)
  rw [Nat.pow_succ]
  generalize 2 ^ (A + B) = M at x y ⊢
  omega
theorem Sm.mul {A B : Nat} {a b : Rat} (ha : Sm A a) (hb : Sm B b) : Sm (A + B) (a * b) := by
  rw [mul_mk]
  refine mk_small ?_ (den_lt ha hb) (Nat.mul_pos (den_pos a) (den_pos b))
  rw [Int.natAbs_mul, Nat.pow_add]; exact Nat.mul_lt_mul'' ha.1 hb.1
theorem Sm.div {A B : Nat} {a b : Rat} (ha : Sm A a) (hb : Sm B b) (hp : 0 < b) : Sm (A + B) (a / b) := by
  have p := num_pos hp
  rw [div_mk a b hp]
  refine mk_small ?_ (by rw [Nat.pow_add]; exact Nat.mul_lt_mul'' ha.2 hb.1) (Nat.mul_pos (den_pos a) (by omega))
  rw [Int.natAbs_mul, Nat.pow_add]; exact Nat.mul_lt_mul'' ha.1 hb.dn
/-! ### the law's own fractions -/
theorem part_eq (a b : Int) (h : IH) (ha : a.natAbs < 2 ^ 30000) (hb : b.natAbs < 2 ^ 9000) : f__law_part [.int a, .int b] h = .ok (.int (Int.gcd a b)) h := by
  obtain ⟨z, e⟩ := euc_loop (c := tBl (eOp pNe (eVar 1) (eC (.int 0)))) (B := sPar 0 1 (aCons (eVar 1) (aCons (eOp pSub (eVar 0) (eOp pMul (eOp pDiv (eVar 0) (eVar 1)) (eVar 1))) aNil)))
    (P := fun a b => a.natAbs < 2 ^ 30000 ∧ b.natAbs < 2 ^ 9000) [] h (by intro a; simp) (by intro a b hb; simp; omega)
    (by
      intro a b ha hb hp
      obtain ⟨p1, p2⟩ := hp
      have l : b.natAbs.log2 < 9000 := log_of p2 (by decide)
      have q : (a / b).natAbs < 2 ^ 30000 := Nat.lt_of_le_of_lt (Int.natAbs_ediv_le_natAbs _ _) p1
      have m := mul_ok q p2 (by decide)
      have e1 : a - a / b * b = a % b := by rw [Int.emod_def, Int.mul_comm]
      refine ⟨by simp [hb, l, m, e1], Nat.lt_of_lt_of_le p2 (Nat.pow_le_pow_right (by decide) (by decide)), ?_⟩
      have m0 := Int.emod_nonneg a (show b ≠ 0 by omega)
      have m1 := Int.emod_lt_of_pos a hb
      refine Nat.lt_trans ?_ p2
      omega) 9000 (a.natAbs : Int) (b.natAbs : Int) (by omega) (by omega) (cast_lt hb) (by simpa using ⟨ha, hb⟩) LIM (by decide)
  rw [gcd_abs] at e
  simp [f__law_part, b__law_part, sWhile, abs_eq, e]
theorem lf_eq (n : Int) (d : Nat) (h : IH) (hn : n.natAbs < 2 ^ 30000) (hd : 0 < d) (hs : d < 2 ^ 9000) : f__law_f [.int n, .int d] h = .ok (fq (mkRat n d)) h := by
  obtain ⟨q0, q1⟩ := div_ok (n := n) hd hs
  have c := part_eq n d h hn (by rw [Int.natAbs_natCast]; exact hs)
  rw [fq_mk n d hd]
  generalize ((Int.gcd n d : Nat) : Int) = g at c q0 q1 ⊢
  simp [f__law_f, b__law_f, c, q0, q1]
end WR

namespace WR
open PySem PySem.Spec PyProof.Rows L2
/-! ### the heap -/
theorem get_new {h : IH} {o : MO} : (h ++ [o])[h.length]? = some o := by simp
@[simp] theorem ga0 {h t : IH} : (h ++ t)[h.length]? = t[0]? := by rw [List.getElem?_append_right (Nat.le_refl _), Nat.sub_self]
@[simp] theorem ga1 {h t : IH} {k : Nat} : (h ++ t)[h.length + k]? = t[k]? := by rw [List.getElem?_append_right (by omega)]; congr 1; omega
theorem get_old {h : IH} {o : MO} {t : IH} {n : Nat} (e : h[n]? = some o) : (h ++ t)[n]? = some o := by
  rw [List.getElem?_append_left (List.getElem?_eq_some_iff.mp e).1]; exact e
theorem lt_of_get {h : IH} {o : MO} {n : Nat} (e : h[n]? = some o) : n < h.length := (List.getElem?_eq_some_iff.mp e).1
theorem atI_pos {α : Type} (xs : List α) (i : Int) (h0 : 0 ≤ i) (h1 : i < xs.length) : atI xs i = xs[i.toNat]? := by
  simp [atI, ixN, h0, h1]
@[simp] theorem atI_0 {α : Type} (x : α) (xs : List α) : atI (x :: xs) 0 = some x := by rw [atI_pos _ _ (by decide) (by simp)]; rfl
@[simp] theorem atI_1 {α : Type} (x y : α) (xs : List α) : atI (x :: y :: xs) 1 = some y := by rw [atI_pos _ _ (by decide) (by simp; omega)]; rfl
@[simp] theorem atI_2 {α : Type} (x y z : α) (xs : List α) : atI (x :: y :: z :: xs) 2 = some z := by rw [atI_pos _ _ (by decide) (by simp; omega)]; rfl
@[simp] theorem atI_m1 {α : Type} (x : α) (xs : List α) : atI (xs ++ [x]) (-1) = some x := by
  have : (1 : Int) ≤ (xs.length : Int) + 1 := by omega
  have t : (-1 + ((xs.length : Int) + 1)).toNat = xs.length := by omega
  simp [atI, ixN, this, t]
/-- the draw machine -/
structure DS (hi ci : Nat) (h : IH) : Prop where
  ne : hi ≠ ci
  st : ∃ a b : Int, h[hi]? = some (.lst [.int a, .obj ci, .int b])
  ce : ∃ cs : List Int, h[ci]? = some (.lst (cs.map .int)) ∧ cs.length ≤ 63
/-- all but the machine stays -/
structure Kp (hi ci : Nat) (h h' : IH) : Prop where
  le : h.length ≤ h'.length
  get : ∀ n o, n ≠ hi → n ≠ ci → h[n]? = some o → h'[n]? = some o
theorem Kp.refl (hi ci : Nat) (h : IH) : Kp hi ci h h := ⟨Nat.le_refl _, fun _ _ _ _ e => e⟩
theorem Kp.trans {hi ci : Nat} {h h1 h2 : IH} (a : Kp hi ci h h1) (b : Kp hi ci h1 h2) : Kp hi ci h h2 := ⟨Nat.le_trans a.le b.le, fun n o x y e => b.get n o x y (a.get n o x y e)⟩
theorem Kp.app (hi ci : Nat) (h t : IH) : Kp hi ci h (h ++ t) := ⟨by simp, fun _ _ _ _ e => get_old e⟩
theorem DS.app {hi ci : Nat} {h : IH} (d : DS hi ci h) (t : IH) : DS hi ci (h ++ t) := by
  obtain ⟨a, b, e⟩ := d.st
  obtain ⟨cs, f, l⟩ := d.ce
  exact ⟨d.ne, ⟨a, b, get_old e⟩, ⟨cs, get_old f, l⟩⟩
theorem next_eq {hi ci : Nat} {h : IH} (d : DS hi ci h) (b : Int) (h0 : 0 < b) (hs : b.natAbs.log2 < 9000) :
    ∃ r h', f__law_next [.obj hi, .int b] h = .ok (.int r) h' ∧ 0 ≤ r ∧ r < b ∧ DS hi ci h' ∧ Kp hi ci h h' := by
  obtain ⟨a, ix, e⟩ := d.st
  obtain ⟨cs, f, l⟩ := d.ce
  have hne := d.ne
  have lh := lt_of_get e
  have lc := lt_of_get f
  obtain ⟨M, hM, mb, m6, mn⟩ : ∃ M : Int, (if 1 < (cs.length : Int) then (cs.length : Int) else 1) = M ∧ 0 < M ∧ M ≤ 63 ∧ M ≤ cs.length + 1 := by
    refine ⟨_, rfl, ?_, ?_, ?_⟩ <;> split <;> omega
  have ml : M.natAbs.log2 < 9000 := log_of (Nat.lt_of_lt_of_le (show _ < 2 ^ 7 by omega) (Nat.pow_le_pow_right (by decide) (by decide))) (by decide)
  have i0 := Int.emod_nonneg ix (show M ≠ 0 by omega)
  have i1 := Int.emod_lt_of_pos ix mb
  obtain ⟨c, hc, h1⟩ : ∃ c : Int, atI (cs.map PV.int ++ [.int 0]) (ix % M) = some (.int c) ∧ (0 < c → 0 < cs.length) := by
    rw [atI_pos _ _ i0 (by simp; omega)]
    by_cases q : (ix % M).toNat < cs.length
    · exact ⟨cs[(ix % M).toNat], by rw [List.getElem?_append_left (by simpa using q)]; simp [q], fun _ => by omega⟩
    · have : (ix % M).toNat = cs.length := by omega
      exact ⟨0, by rw [this]; simp, by simp⟩
  have e1 : ∀ t, (h ++ t)[hi]? = some (.lst [.int a, .obj ci, .int ix]) := fun t => get_old e
  have f1 : ∀ t, (h ++ t)[ci]? = some (.lst (cs.map .int)) := fun t => get_old f
  have gb : (10 : Int) ^ 18 = 1000000000000000000 := by decide
  have l2 : cs.length ≤ 16777215 := by omega
  by_cases big : (1000000000000000000 : Int) ≤ c
  · have n0 : 0 < cs.length := h1 (by omega)
    have n0' : (0 : Int) < cs.length := by omega
    have nl : cs.length.log2 < 9000 := log_of (Nat.lt_of_lt_of_le (show _ < 2 ^ 7 by omega) (Nat.pow_le_pow_right (by decide) (by decide))) (by decide)
    have j0 := Int.emod_nonneg ix (show (cs.length : Int) ≠ 0 by omega)
    have j1 := Int.emod_lt_of_pos ix n0'
    simp [f__law_next, b__law_next, e, f, e1, f1, hc, hM, mb, ml, l2, big, hs, h0, hne, hne.symm, ixN, mulOk, gb, n0, nl, j0, j1]
    refine ⟨_, _, ⟨rfl, rfl⟩, Int.emod_nonneg _ (by omega), Int.emod_lt_of_pos _ h0, ⟨hne, ⟨a, ix, ?_⟩, ⟨cs.set (ix % cs.length).toNat (c / b), ?_, ?_⟩⟩, ⟨by simp, fun n o p q r => ?_⟩⟩
    · rw [List.getElem?_set_ne (Ne.symm hne)]; exact e1 _
    · rw [List.getElem?_set_self (by simp; omega), List.map_set]
    · simpa using l
    · rw [List.getElem?_set_ne (Ne.symm q)]; exact get_old r
  · have w1 : ∀ t o, ((h ++ t).set hi o)[hi]? = some o := fun t o => by rw [List.getElem?_set_self (by simp; omega)]
    simp [f__law_next, b__law_next, e, f, e1, f1, hc, hM, mb, ml, l2, big, hs, h0, hne, hne.symm, ixN, mulOk, gb, w1, show Nat.log2 7 < 9000 from by decide]
    refine ⟨_, _, ⟨rfl, rfl⟩, Int.emod_nonneg _ (by omega), Int.emod_lt_of_pos _ h0, ⟨hne, ⟨_, _, w1 _ _⟩, ⟨cs, ?_, l⟩⟩, ⟨by simp, fun n o p q r => ?_⟩⟩
    · rw [List.getElem?_set_ne hne]; exact f1 _
    · rw [List.getElem?_set_ne (Ne.symm p)]; exact get_old r
/-! ### the first state -/
theorem mix_loop (h : IH) (ns : List Int) (s : Int) (v : PV) : ∀ (k : Nat) (i : Nat) (a : Int) (c : Option PV), ns.length - i < k →
    ∃ a' c', forL (itList (ns.map PV.int)) (gVar 3) (sSet 2 (eOp pMod (eB pInt1 (aCons (eOp pAdd (eOp pAdd (eOp pMul (eVar 2) (eC (.int 48271))) (eOp pMod (eB pInt1 (aCons (eVar 3) aNil)) (eC (.int 2147483629)))) (eC (.int 1))) aNil)) (eC (.int 2147483647)))) k i [some v, some (.int s), some (.int a), c] h
      = .nx [some v, some (.int s), some (.int a'), c'] h := by
  intro k
  induction k with
  | zero => intro i a c hk; omega
  | succ k ih =>
    intro i a c hk
    by_cases q : i < ns.length
    · obtain ⟨a', c', e⟩ := ih (i + 1) ((a * 48271 + ns[i] % 2147483629 + 1) % 2147483647) (some (.int ns[i])) (by omega)
      refine ⟨a', c', ?_⟩
      rw [← e]
      conv => lhs; unfold forL
      simp [q, mulOk]
    · refine ⟨a, c, ?_⟩
      unfold forL
      simp [q]
theorem mix_eq (ns : List Int) (s : Int) (hl : ns.length ≤ 63) (h : IH) : ∃ h', f__law_mix [.fls (ns.map .int), .int s] h = .ok (.obj (h.length + 1)) h' ∧ DS (h.length + 1) h.length h' ∧ Kp (h.length + 1) h.length h h' := by
  obtain ⟨a', c', e⟩ := mix_loop h ns s (.fls (ns.map .int)) LIM 0 s none (by simp [LIM]; omega)
  refine ⟨h ++ [.lst (ns.map .int), .lst [.int a', .obj h.length, .int 0]], ?_, ⟨by omega, ⟨a', 0, by rw [ga1]; rfl⟩, ⟨ns, by rw [ga0]; rfl, hl⟩⟩, Kp.app _ _ _ _⟩
  simp [f__law_mix, b__law_mix, sFor, e, show ns.length ≤ 16777216 by omega]
end WR

namespace WR
open PySem PySem.Spec PyProof.Rows L2
/-! ### equality of data -/
structure EncOk {α : Type} [DecidableEq α] (n : Nat) (enc : α → PV) (den : α → PyData) : Prop where
  dat : ∀ m h a, n ≤ m → dataOf m h (enc a) = some (den a)
  lay : ∀ a, (den a).canLay0 = true
  dep : ∀ a, (den a).depth ≤ n + 1
  eqv : ∀ a b, PyData.eqv (den a) (den b) = decide (a = b)
theorem EncOk.eq {α : Type} [DecidableEq α] {n : Nat} {enc : α → PV} {den : α → PyData} (e : EncOk n enc den) (hn : n ≤ 12) (a b : α) (h : IH) : pEqB (enc a) (enc b) h = some (decide (a = b)) := by
  have s : ∀ a, SeqAt.shaped (den a) = true := fun a => by
    have := e.dep a
    simp [SeqAt.shaped, e.lay a]; omega
  simp [pEqB, e.dat DEP h _ hn, s, e.eqv]
theorem EncOk.int : EncOk 0 PV.int PyData.int := ⟨fun m h a _ => by simp, fun a => by simp [PyData.canLay0], fun a => by simp [PyData.depth], fun a b => by simp [PyData.eqv]; rfl⟩
theorem optAll_map {α β γ : Type} {f : β → Option γ} {g : α → β} {d : α → γ} (xs : List α) (h : ∀ a ∈ xs, f (g a) = some (d a)) : optAll f (xs.map g) = some (xs.map d) := by
  induction xs with
  | nil => rfl
  | cons x xs ih => simp only [List.map, optAll, h x (by simp), ih fun a ha => h a (by simp [ha])]
theorem canAll {α : Type} {d : α → PyData} (xs : List α) (h : ∀ a, (d a).canLay0 = true) : PyData.canLayAll0 (xs.map d) = true := by
  induction xs with
  | nil => rfl
  | cons x xs ih => simp [PyData.canLayAll0, h, ih]
theorem depAll {α : Type} {d : α → PyData} {n : Nat} (xs : List α) (h : ∀ a, (d a).depth ≤ n) : PyData.depthAll (xs.map d) ≤ n := by
  induction xs with
  | nil => simp [PyData.depthAll]
  | cons x xs ih =>
    have := h x
    simp only [List.map, PyData.depthAll]; omega
theorem eqvAll_map {α : Type} [DecidableEq α] {d : α → PyData} (h : ∀ a b, PyData.eqv (d a) (d b) = decide (a = b)) : ∀ xs ys : List α, PyData.eqvAll (xs.map d) (ys.map d) = decide (xs = ys)
  | [], [] => by simp [PyData.eqvAll]
  | [], y :: ys => by simp [PyData.eqvAll]
  | x :: xs, [] => by simp [PyData.eqvAll]
  | x :: xs, y :: ys => by simp [PyData.eqvAll, h, eqvAll_map h xs ys]
theorem EncOk.list {α : Type} [DecidableEq α] {n : Nat} {enc : α → PV} {den : α → PyData} (e : EncOk n enc den) : EncOk (n + 1) (fun xs : List α => .tup (xs.map enc)) (fun xs => .tuple (xs.map den)) := by
  refine ⟨fun m h a hm => ?_, fun a => ?_, fun a => ?_, fun a b => ?_⟩
  · obtain ⟨m, rfl⟩ : ∃ k, m = k + 1 := ⟨m - 1, by omega⟩
    simp only [dataOf, optAll_map a fun x _ => e.dat m h x (by omega), Option.map]
  · simp [PyData.canLay0, canAll a e.lay]
  · have := depAll a e.dep
    simp [PyData.depth]; omega
  · simp [PyData.eqv, eqvAll_map e.eqv]
theorem EncOk.pair {α β : Type} [DecidableEq α] [DecidableEq β] {n m : Nat} {enc : α → PV} {den : α → PyData} {enc' : β → PV} {den' : β → PyData} (e : EncOk n enc den) (f : EncOk m enc' den') :
    EncOk (n + m + 1) (fun x : α × β => .tup [enc x.1, enc' x.2]) (fun x => .tuple [den x.1, den' x.2]) := by
  refine ⟨fun k h a hm => ?_, fun a => ?_, fun a => ?_, fun a b => ?_⟩
  · obtain ⟨k, rfl⟩ : ∃ j, k = j + 1 := ⟨k - 1, by omega⟩
    simp only [dataOf, optAll, e.dat k h _ (by omega), f.dat k h _ (by omega), Option.map]
  · simp [PyData.canLay0, PyData.canLayAll0, e.lay, f.lay]
  · have := e.dep a.1
    have := f.dep a.2
    simp [PyData.depth, PyData.depthAll]; omega
  · simp [PyData.eqv, PyData.eqvAll, e.eqv, f.eqv, Prod.ext_iff]
theorem EncOk.rat : EncOk 1 fq fun q => .tuple [.int q.num, .int q.den] := by
  refine ⟨fun k h a hm => ?_, fun a => ?_, fun a => ?_, fun a b => ?_⟩
  · obtain ⟨k, rfl⟩ : ∃ j, k = j + 1 := ⟨k - 1, by omega⟩
    simp [fq, dataOf, optAll]
  · simp [PyData.canLay0, PyData.canLayAll0]
  · simp [PyData.depth, PyData.depthAll]
  · have x : (a = b) ↔ (a.num = b.num ∧ a.den = b.den) := ⟨fun h => by subst h; exact ⟨rfl, rfl⟩, fun h => Rat.ext h.1 h.2⟩
    simp only [PyData.eqv, PyData.eqvAll, decide_eq_decide.mpr x]
    simp [Int.natCast_inj, Bool.beq_eq_decide_eq]
/-- a fraction or None -/
def oq : Option Rat → PV
  | none => .non
  | some q => fq q
def oqD : Option Rat → PyData
  | none => .none
  | some q => .tuple [.int q.num, .int q.den]
theorem EncOk.opt : EncOk 1 oq oqD := by
  have e := EncOk.rat
  refine ⟨fun k h a hm => ?_, fun a => ?_, fun a => ?_, fun a b => ?_⟩
  · cases a with
    | none => simp [oq, oqD]
    | some q => exact e.dat k h q hm
  · cases a with
    | none => simp [oqD, PyData.canLay0]
    | some q => exact e.lay q
  · cases a with
    | none => simp [oqD, PyData.depth]
    | some q => exact e.dep q
  · cases a <;> cases b
    · simp [oqD, PyData.eqv]
    · simp [oqD, PyData.eqv]
    · simp [oqD, PyData.eqv]
    · rename_i a b
      have := e.eqv a b
      simp [oqD]
      rw [this]
@[simp] theorem eq_oq (a b : Option Rat) (h : IH) : pEqB (oq a) (oq b) h = some (decide (a = b)) := EncOk.opt.eq (by decide) a b h
@[simp] theorem eq_fq (a b : Rat) (h : IH) : pEqB (fq a) (fq b) h = some (decide (a = b)) := EncOk.rat.eq (by decide) a b h
/-- a turn -/
def tq (t : Int × Rat) : PV := .tup [.int t.1, fq t.2]
def tqs (T : List (Int × Rat)) : PV := .tup (T.map tq)
theorem EncOk.turn : EncOk 2 tq fun t => .tuple [.int t.1, .tuple [.int t.2.num, .int t.2.den]] := EncOk.int.pair EncOk.rat
theorem EncOk.turns : EncOk 3 tqs fun T => .tuple (T.map fun t => .tuple [.int t.1, .tuple [.int t.2.num, .int t.2.den]]) := EncOk.turn.list
/-- what a plan holds -/
def pq (x : Int × List (Int × Rat) × Rat) : PV := .tup [.int x.1, tqs x.2.1, fq x.2.2]
def pqD (x : Int × List (Int × Rat) × Rat) : PyData := .tuple [.int x.1, .tuple (x.2.1.map fun t => .tuple [.int t.1, .tuple [.int t.2.num, .int t.2.den]]), .tuple [.int x.2.2.num, .int x.2.2.den]]
theorem EncOk.plan : EncOk 4 pq pqD := by
  have e := EncOk.turns
  have f := EncOk.rat
  refine ⟨fun k h a hm => ?_, fun a => ?_, fun a => ?_, fun a b => ?_⟩
  · obtain ⟨k, rfl⟩ : ∃ j, k = j + 1 := ⟨k - 1, by omega⟩
    simp only [pq, pqD, dataOf, optAll, data_int, e.dat k h _ (by omega), f.dat k h _ (by omega), Option.map]
  · have := e.lay a.2.1
    have := f.lay a.2.2
    simp [pqD, PyData.canLay0, PyData.canLayAll0] at *; assumption
  · have := e.dep a.2.1
    simp [pqD, PyData.depth, PyData.depthAll] at *; omega
  · have := e.eqv a.2.1 b.2.1
    have g := f.eqv a.2.2 b.2.2
    simp only [pqD, PyData.eqv, PyData.eqvAll] at *
    rw [this, g]
    simp [Prod.ext_iff, Bool.beq_eq_decide_eq]
@[simp] theorem eq_pq (a b : Int × List (Int × Rat) × Rat) (h : IH) : pEqB (pq a) (pq b) h = some (decide (a = b)) := EncOk.plan.eq (by decide) a b h
@[simp] theorem eq_tqs (a b : List (Int × Rat)) (h : IH) : pEqB (tqs a) (tqs b) h = some (decide (a = b)) := EncOk.turns.eq (by decide) a b h
@[simp] theorem eq_tqs0 (a : List (Int × Rat)) (h : IH) : pEqB (tqs a) (.tup []) h = some (decide (a = [])) := EncOk.turns.eq (by decide) a [] h
/-! ### loops -/
@[simp] def stepF (it : ItF) (g : TgF) (B : SX) (i : Nat) (r : Fm) (h : IH) : RS := match it i h with
  | some (some v) => (match g v r with
    | some r1 => B r1 h
    | none => .bad)
  | _ => .bad
theorem for_nx {it : ItF} {g : TgF} {B : SX} {k i : Nat} {r r2 : Fm} {h h2 : IH} (e : stepF it g B i r h = .nx r2 h2) : forL it g B (k + 1) i r h = forL it g B k (i + 1) r2 h2 := by
  conv => lhs; unfold forL
  unfold stepF at e
  split at e
  · rename_i v q
    rw [q]
    split at e
    · rename_i r1 q1
      simp only [q1, e]
    · cases e
  · cases e
theorem for_rt {it : ItF} {g : TgF} {B : SX} {k i : Nat} {r : Fm} {h h2 : IH} {v : PV} (e : stepF it g B i r h = .rt v h2) : forL it g B (k + 1) i r h = .rt v h2 := by
  conv => lhs; unfold forL
  unfold stepF at e
  split at e
  · rename_i v q
    rw [q]
    split at e
    · rename_i r1 q1
      simp only [q1, e]
    · cases e
  · cases e
theorem for_end {it : ItF} {g : TgF} {B : SX} {k i : Nat} {r : Fm} {h : IH} (e : it i h = some none) : forL it g B (k + 1) i r h = .nx r h := by
  unfold forL
  rw [e]
theorem forE (I : Fm → IH → Res ItF) (g : TgF) (B : SX) (r : Fm) (h : IH) : sFor I g B r h = toS (I r h) r fun it h1 => forL it g B LIM 0 r h1 := rfl
/-- a loop that returns nowhere -/
theorem for_inv {it : ItF} {g : TgF} {B : SX} {n : Nat} (I : Nat → Fm → IH → Prop)
    (hs : ∀ i r h, i < n → I i r h → ∃ r2 h2, stepF it g B i r h = .nx r2 h2 ∧ I (i + 1) r2 h2)
    (he : ∀ r h, I n r h → it n h = some none) : ∀ (k i : Nat) (r : Fm) (h : IH), n - i < k → i ≤ n → I i r h → ∃ r' h', forL it g B k i r h = .nx r' h' ∧ I n r' h' := by
  intro k
  induction k with
  | zero => intro i r h hk; omega
  | succ k ih =>
    intro i r h hk hi hI
    by_cases q : i < n
    · obtain ⟨r2, h2, e3, e4⟩ := hs i r h q hI
      rw [for_nx e3]
      exact ih (i + 1) r2 h2 (by omega) (by omega) e4
    · have : i = n := by omega
      subst this
      exact ⟨r, h, for_end (he r h hI), hI⟩
/-- a loop that may return -/
theorem for_ret {it : ItF} {g : TgF} {B : SX} {n : Nat} (I : Nat → Fm → IH → Prop) (P : PV → IH → Prop)
    (hs : ∀ i r h, i < n → I i r h → (∃ r2 h2, stepF it g B i r h = .nx r2 h2 ∧ I (i + 1) r2 h2) ∨ ∃ w h2, stepF it g B i r h = .rt w h2 ∧ P w h2)
    (he : ∀ r h, I n r h → it n h = some none) : ∀ (k i : Nat) (r : Fm) (h : IH), n - i < k → i ≤ n → I i r h → (∃ r' h', forL it g B k i r h = .nx r' h' ∧ I n r' h') ∨ ∃ w h', forL it g B k i r h = .rt w h' ∧ P w h' := by
  intro k
  induction k with
  | zero => intro i r h hk; omega
  | succ k ih =>
    intro i r h hk hi hI
    by_cases q : i < n
    · rcases hs i r h q hI with ⟨r2, h2, e3, e4⟩ | ⟨w, h2, e3, e4⟩
      · rw [for_nx e3]
        exact ih (i + 1) r2 h2 (by omega) (by omega) e4
      · exact .inr ⟨w, h2, for_rt e3, e4⟩
    · have : i = n := by omega
      subst this
      exact .inl ⟨r, h, for_end (he r h hI), hI⟩
end WR

namespace WR
open PySem PySem.Spec PyProof.Rows L2
/-! ### checks -/
@[simp] theorem integer_eq (i : Int) (h : IH) : f_is_integer [.int i] h = .ok (.bl true) h := by
  simp [f_is_integer, b_is_integer, tyNames, subTy]
@[simp] theorem from_eq (v a b : Int) (h : IH) : f_is_from [.int v, .int a, .int b] h = .ok (.bl (decide (a ≤ v ∧ v ≤ b))) h := by
  by_cases q : a ≤ v <;> simp [f_is_from, b_is_from, q]
theorem gcd_q (q : Rat) : Int.gcd q.num q.den = 1 := by
  have := q.reduced
  unfold Nat.Coprime at this
  rw [Int.gcd, Int.natAbs_natCast]; exact this
theorem fraction_eq {N : Nat} {q : Rat} (s : Sm N q) (hN : N ≤ 9000) (h : IH) : f_is_fraction [fq q] h = .ok (.bl true) h := by
  have c := common_eq q.num q.den h (by rw [Int.natAbs_natCast]; exact (s.mono hN).2)
  have d := den_pos q
  rw [gcd_q] at c
  simp [f_is_fraction, b_is_fraction, fq, tyNames, subTy, c, show (1 : Int) ≤ q.den by omega]
theorem within_eq {N : Nat} {q : Rat} (s : Sm N q) (hN : N ≤ 9000) (a b : Int) (ha : a.natAbs < 2 ^ 200) (hb : b.natAbs < 2 ^ 200) (h : IH) : f_is_within [fq q, .int a, .int b] h = .ok (.bl (decide ((a : Rat) ≤ q ∧ q ≤ (b : Rat)))) h := by
  have f := fraction_eq s hN h
  have m1 := mul_ok ha s.dn (by omega)
  have m2 := mul_ok hb s.dn (by omega)
  have e1 : ((a : Rat) ≤ q) ↔ a * q.den ≤ q.num := by rw [Rat.le_iff]; simp
  have e2 : (q ≤ (b : Rat)) ↔ q.num ≤ b * q.den := by rw [Rat.le_iff]; simp
  simp only [e1, e2]
  simp only [fq] at f
  by_cases x : a * q.den ≤ q.num <;> simp [f_is_within, b_is_within, fq, f, m1, m2, x]
theorem reach_eq {N : Nat} {q : Rat} (s : Sm N q) (hN : N ≤ 9000) (h0 : 0 < q) (h1 : q ≤ 1000000000000) (h : IH) : f_is_reach [fq q] h = .ok (.bl true) h := by
  have w := within_eq s hN 0 1000000000000 (by decide) (by decide) h
  have p := num_pos h0
  have h0' : (0 : Rat) ≤ q := Rat.le_of_lt h0
  have e : decide (((0 : Int) : Rat) ≤ q ∧ q ≤ ((1000000000000 : Int) : Rat)) = true := decide_eq_true ⟨h0', h1⟩
  rw [e] at w
  simp only [fq] at w
  simp [f_is_reach, b_is_reach, fq, w, p]
/-- a turn that stands -/
structure OkT (R : Int) (t : Int × Rat) : Prop where
  lo : 0 ≤ t.1
  hi : t.1 < R
  pos : 0 < t.2
  top : t.2 ≤ 1000000000000
  sm : Sm 760 t.2
theorem turn_eq {R : Int} {t : Int × Rat} (o : OkT R t) (h : IH) : f_is_turn [tq t, .int R] h = .ok (.bl true) h := by
  have e := reach_eq o.sm (by decide) o.pos o.top h
  have := o.lo
  have := o.hi
  simp [f_is_turn, b_is_turn, tq, tyNames, subTy, e, show 0 ≤ t.1 ∧ t.1 ≤ R - 1 by omega]
def bs (c : Rat) (T : List (Int × Rat)) : Nat → Rat
  | 0 => 0
  | i + 1 => bs c T i + (2 * (T.getD i (0, 0)).2 + c)
/-- a plan's parts that stand -/
structure OkP (x : Int × List (Int × Rat) × Rat) : Prop where
  r1 : 1 ≤ x.1
  r2 : x.1 ≤ 5
  n : x.2.1.length ≤ 60
  t : ∀ t ∈ x.2.1, OkT x.1 t
  c0 : 0 ≤ x.2.2
  c1 : x.2.2 ≤ 1000000000000
  cs : Sm 10 x.2.2
  bsm : ∀ i, i ≤ x.2.1.length → Sm 3300 (bs x.2.2 x.2.1 i)
theorem init_eq {x : Int × List (Int × Rat) × Rat} (o : OkP x) {n : Nat} {h : IH} (e : h[n]? = some (.ins "Plan" [])) :
    f_Plan___init__ [.obj n, .int x.1, tqs x.2.1, fq x.2.2] h = .ok .non (h.set n (.ins "Plan" [("held", pq x)])) := by
  have w := within_eq o.cs (by decide) 0 1000000000000 (by decide) (by decide) h
  have z : decide (((0 : Int) : Rat) ≤ x.2.2 ∧ x.2.2 ≤ ((1000000000000 : Int) : Rat)) = true := decide_eq_true ⟨o.c0, o.c1⟩
  rw [z] at w
  have l := for_inv (it := itEnum (tqs x.2.1)) (g := gTupF [4, 5]) (B := sIf (tNotX (tTru (eCall f_is_turn (aCons (eVar 5) (aCons (eVar 1) aNil))))) sBad sNil) (n := x.2.1.length)
    (fun i r h1 => h1 = h ∧ ∃ a b, r = [some (.obj n), some (.int x.1), some (tqs x.2.1), some (fq x.2.2), a, b])
    (by
      rintro i r h1 hi ⟨rfl, a, b, rfl⟩
      have t := turn_eq (o.t x.2.1[i] (List.getElem_mem hi)) h1
      simp [tqs, hi, t, and_assoc]) (by rintro r h1 ⟨rfl, a, b, rfl⟩; simp [tqs]) LIM 0 _ h (by have := o.n; simp [LIM]; omega) (by omega) ⟨rfl, none, none, rfl⟩
  obtain ⟨r', h', l, rfl, a, b, rfl⟩ := l
  have r1 := o.r1
  have r2 := o.r2
  have nn := o.n
  simp only [tqs] at l
  simp [f_Plan___init__, b_Plan___init__, f_check_roads, b_check_roads, f_check_cost, b_check_cost, r1, r2, tqs, tyNames, subTy, show ¬ (60 : Int) < x.2.1.length by omega, sFor, l, w, e, pq]
theorem mk_eq {x : Int × List (Int × Rat) × Rat} (o : OkP x) (h : IH) :
    mkO "Plan" f_Plan___init__ [.int x.1, tqs x.2.1, fq x.2.2] h = .ok (.obj h.length) (h ++ [.ins "Plan" [("held", pq x)]]) := by
  have e := init_eq o (n := h.length) (h := h ++ [.ins "Plan" []]) (by simp)
  simp [e]
@[simp] theorem proads_eq {x : Int × List (Int × Rat) × Rat} {n : Nat} {h : IH} (e : h[n]? = some (.ins "Plan" [("held", pq x)])) : f_Plan_roads [.obj n] h = .ok (.int x.1) h := by
  simp [f_Plan_roads, b_Plan_roads, e, pq]
@[simp] theorem pturns_eq {x : Int × List (Int × Rat) × Rat} {n : Nat} {h : IH} (e : h[n]? = some (.ins "Plan" [("held", pq x)])) : f_Plan_turns [.obj n] h = .ok (tqs x.2.1) h := by
  simp [f_Plan_turns, b_Plan_turns, e, pq]
@[simp] theorem pcost_eq {x : Int × List (Int × Rat) × Rat} {n : Nat} {h : IH} (e : h[n]? = some (.ins "Plan" [("held", pq x)])) : f_Plan_cost [.obj n] h = .ok (fq x.2.2) h := by
  simp [f_Plan_cost, b_Plan_cost, e, pq]
theorem plen_eq {x : Int × List (Int × Rat) × Rat} {n : Nat} {h : IH} (e : h[n]? = some (.ins "Plan" [("held", pq x)])) : f_Plan___len__ [.obj n] h = .ok (.int x.2.1.length) h := by
  simp [f_Plan___len__, b_Plan___len__, e, pq, tqs]
theorem peq_eq {x y : Int × List (Int × Rat) × Rat} {n m : Nat} {h : IH} (e : h[n]? = some (.ins "Plan" [("held", pq x)])) (f : h[m]? = some (.ins "Plan" [("held", pq y)])) : f_Plan___eq__ [.obj n, .obj m] h = .ok (.bl (decide (x = y))) h := by
  simp [f_Plan___eq__, b_Plan___eq__, e, f, ownCs]
theorem peq_tup {n : Nat} {h : IH} {xs : List PV} : f_Plan___eq__ [.obj n, .tup xs] h = .ok (.bl false) h := by
  simp [f_Plan___eq__, b_Plan___eq__, ownCs]
end WR

namespace WR
open PySem PySem.Spec PyProof.Rows L2
/-! ### the law's own operations -/
theorem lplus_eq {A B : Nat} {a b : Rat} (ha : Sm A a) (hb : Sm B b) (hn : A + B ≤ 9000) (h : IH) : f__law_add [fq a, fq b] h = .ok (fq (a + b)) h := by
  have x : (a.num * b.den + b.num * a.den).natAbs < 2 ^ (A + B + 1) := by
    have x : (a.num * b.den).natAbs < 2 ^ (A + B) := by rw [Int.natAbs_mul, Nat.pow_add]; exact Nat.mul_lt_mul'' ha.1 hb.dn
    have y : (b.num * a.den).natAbs < 2 ^ (A + B) := by rw [Int.natAbs_mul, Nat.pow_add, Nat.mul_comm]; exact Nat.mul_lt_mul'' ha.dn hb.1
    have z := Int.natAbs_add_le (a.num * b.den) (b.num * a.den)
    rw [Nat.pow_succ]
    generalize 2 ^ (A + B) = M at x y ⊢
    omega
  have r := lf_eq (a.num * b.den + b.num * a.den) (a.den * b.den) h (Nat.lt_of_lt_of_le x (Nat.pow_le_pow_right (by decide) (by omega))) (Nat.mul_pos (den_pos a) (den_pos b)) (Nat.lt_of_lt_of_le (den_lt ha hb) (Nat.pow_le_pow_right (by decide) hn))
  rw [Int.natCast_mul] at r
  simp [f__law_add, b__law_add, fq, mul_ok ha.1 hb.dn (by omega), mul_ok hb.1 ha.dn (by omega), mul_ok ha.dn hb.dn (by omega), r, add_mk]
theorem ltimes_eq {A B : Nat} {a b : Rat} (ha : Sm A a) (hb : Sm B b) (hn : A + B ≤ 9000) (h : IH) : f__law_mul [fq a, fq b] h = .ok (fq (a * b)) h := by
  have x : (a.num * b.num).natAbs < 2 ^ (A + B) := by rw [Int.natAbs_mul, Nat.pow_add]; exact Nat.mul_lt_mul'' ha.1 hb.1
  have r := lf_eq (a.num * b.num) (a.den * b.den) h (Nat.lt_of_lt_of_le x (Nat.pow_le_pow_right (by decide) (by omega))) (Nat.mul_pos (den_pos a) (den_pos b)) (Nat.lt_of_lt_of_le (den_lt ha hb) (Nat.pow_le_pow_right (by decide) hn))
  rw [Int.natCast_mul] at r
  simp [f__law_mul, b__law_mul, fq, mul_ok ha.1 hb.1 (by omega), mul_ok ha.dn hb.dn (by omega), r, mul_mk]
theorem lover_eq {A B : Nat} {a b : Rat} (ha : Sm A a) (hb : Sm B b) (hp : 0 < b) (hn : A + B ≤ 9000) (h : IH) : f__law_div [fq a, fq b] h = .ok (fq (a / b)) h := by
  have p := num_pos hp
  have dl : a.den * b.num.natAbs < 2 ^ (A + B) := by rw [Nat.pow_add]; exact Nat.mul_lt_mul'' ha.2 hb.1
  have x : (a.num * b.den).natAbs < 2 ^ (A + B) := by rw [Int.natAbs_mul, Nat.pow_add]; exact Nat.mul_lt_mul'' ha.1 hb.dn
  have r := lf_eq (a.num * b.den) (a.den * b.num.natAbs) h (Nat.lt_of_lt_of_le x (Nat.pow_le_pow_right (by decide) (by omega))) (Nat.mul_pos (den_pos a) (by omega)) (Nat.lt_of_lt_of_le dl (Nat.pow_le_pow_right (by decide) hn))
  rw [Int.natCast_mul, Int.natAbs_of_nonneg (Int.le_of_lt p)] at r
  simp [f__law_div, b__law_div, fq, mul_ok ha.1 hb.dn (by omega), mul_ok ha.dn hb.1 (by omega), r, div_mk a b hp]
theorem lless_eq {A B : Nat} {a b : Rat} (ha : Sm A a) (hb : Sm B b) (hn : A + B ≤ 9000) (h : IH) : f__law_under [fq a, fq b] h = .ok (.bl (decide (a < b))) h := by
  simp [f__law_under, b__law_under, fq, mul_ok ha.1 hb.dn (by omega), mul_ok hb.1 ha.dn (by omega), Rat.lt_iff]
theorem fq_zero : PV.tup [.int 0, .int 1] = fq 0 := rfl
theorem fq_two : PV.tup [.int 2, .int 1] = fq 2 := rfl
theorem fq_one : PV.tup [.int 1, .int 1] = fq 1 := rfl
theorem sm0 : Sm 1 0 := by constructor <;> decide
theorem sm2 : Sm 2 2 := by constructor <;> decide
theorem sm1 : Sm 1 1 := by constructor <;> decide
/-! ### bases -/
theorem turn_sm {R : Int} {t : Int × Rat} {c : Rat} (o : OkT R t) (hc : Sm 10 c) : Sm 773 (2 * t.2 + c) := (sm2.mul o.sm).add hc
theorem bs_sm {x : Int × List (Int × Rat) × Rat} (o : OkP x) : ∀ i, i ≤ x.2.1.length → Sm 3300 (bs x.2.2 x.2.1 i) := o.bsm
theorem range_snoc (f : Nat → PV) (n : Nat) : (List.range (n + 1)).map f = (List.range n).map f ++ [f n] := by rw [List.range_succ]; simp
theorem bases_eq {x : Int × List (Int × Rat) × Rat} (o : OkP x) {n : Nat} {h : IH} (e : h[n]? = some (.ins "Plan" [("held", pq x)])) :
    f_bases_of [.obj n] h = .ok (.obj h.length) (h ++ [.lst ((List.range (x.2.1.length + 1)).map fun i => fq (bs x.2.2 x.2.1 i))]) := by
  have e1 : ∀ t, (h ++ t)[n]? = some (.ins "Plan" [("held", pq x)]) := fun t => get_old e
  have nn := o.n
  have l := for_inv (it := itList (x.2.1.map tq)) (g := gTupF [2, 3]) (B := sExpr (eAppend (eVar 1) (aCons (eCall f_plus (aCons (eOp pIdx (eVar 1) (eUn pNeg (eC (.int 1)))) (aCons (eCall f_plus (aCons (eCall f_times (aCons (eTup (aCons (eC (.int 2)) (aCons (eC (.int 1)) aNil))) (aCons (eVar 3) aNil))) (aCons (eOp pIdx (eFld "Plan" "held" (eVar 0)) (eC (.int 2))) aNil))) aNil))) aNil))) (n := x.2.1.length)
    (fun i r h1 => h1 = h ++ [.lst ((List.range (i + 1)).map fun i => fq (bs x.2.2 x.2.1 i))] ∧ ∃ a b, r = [some (.obj n), some (.obj h.length), a, b])
    (by
      rintro i r h1 hi ⟨rfl, a, b, rfl⟩
      have ot := o.t x.2.1[i] (List.getElem_mem hi)
      have g : x.2.1.getD i (0, 0) = x.2.1[i] := by simp [hi]
      have s1 := times_eq sm2 ot.sm (by decide) (h ++ [.lst ((List.range (i + 1)).map fun i => fq (bs x.2.2 x.2.1 i))])
      have s2 := plus_eq (sm2.mul ot.sm) o.cs (by decide) (h ++ [.lst ((List.range (i + 1)).map fun i => fq (bs x.2.2 x.2.1 i))])
      have s3 := plus_eq (bs_sm o i (by omega)) (turn_sm ot o.cs) (by omega) (h ++ [.lst ((List.range (i + 1)).map fun i => fq (bs x.2.2 x.2.1 i))])
      rw [range_snoc] at s1 s2 s3 ⊢
      simp [hi, tq, e1, pq, fq_two, s1, s2, s3, show i + 1 < 16777216 by omega, and_assoc, bs, g, List.range_succ]) (by rintro r h1 ⟨rfl, a, b, rfl⟩; simp [tqs]) LIM 0 _ (h ++ [.lst [fq 0]]) (by have := o.n; simp [LIM]; omega) (by omega) ⟨rfl, none, none, rfl⟩
  obtain ⟨r', h', l, rfl, a, b, rfl⟩ := l
  simp [f_bases_of, b_bases_of, e1, pq, tqs, sFor, fq_zero, l]
end WR

namespace WR
open PySem PySem.Spec PyProof.Rows L2
/-- the first turn from i on that reaches the place -/
def wk (c : Rat) (T : List (Int × Rat)) (p : Int) (f : Rat) : Nat → Nat → Option Rat
  | 0, _ => none
  | k + 1, i => match T[i]? with
    | none => none
    | some t => if t.1 = p ∧ ¬ t.2 < f then some (bs c T i + f) else wk c T p f k (i + 1)
theorem walkedby_loop {x : Int × List (Int × Rat) × Rat} (o : OkP x) {n m : Nat} {h : IH} {p : Int} {f : Rat} {F : Nat} (hf : Sm F f) (hF : F ≤ 800) (e : h[m]? = some (.lst ((List.range (x.2.1.length + 1)).map fun i => fq (bs x.2.2 x.2.1 i)))) :
    ∀ k i a b, i ≤ x.2.1.length → x.2.1.length - i < k → forL (itZip (tqs x.2.1) (.obj m)) (gTupF [3, 4]) (sIf (tAndX (tBl (eOp pEq (eOp pIdx (eVar 3) (eC (.int 0))) (eVar 1))) (tNotX (tTru (eCall f_is_less (aCons (eOp pIdx (eVar 3) (eC (.int 1))) (aCons (eVar 2) aNil)))))) (sRet (eCall f_plus (aCons (eVar 4) (aCons (eVar 2) aNil)))) sNil) k i
      [some (.obj n), some (.int p), some (fq f), a, b] h = match wk x.2.2 x.2.1 p f k i with
        | some q => .rt (fq q) h
        | none => .nx [some (.obj n), some (.int p), some (fq f), if i < x.2.1.length then some (tq (x.2.1.getD (x.2.1.length - 1) (0, 0))) else a, if i < x.2.1.length then some (fq (bs x.2.2 x.2.1 (x.2.1.length - 1))) else b] h := by
  intro k
  induction k with
  | zero => intro i a b hi hk; omega
  | succ k ih =>
    intro i a b hi hk
    by_cases q : i < x.2.1.length
    · have ot := o.t x.2.1[i] (List.getElem_mem q)
      have nn := o.n
      have l := less_eq ot.sm hf (by omega) h
      have s := plus_eq (bs_sm o i (by omega)) hf (by omega) h
      have g : x.2.1[i]? = some x.2.1[i] := List.getElem?_eq_getElem q
      by_cases c : x.2.1[i].1 = p ∧ ¬ x.2.1[i].2 < f
      · rw [for_rt (v := fq (bs x.2.2 x.2.1 i + f)) (h2 := h)]
        · simp [wk, g, c]
        · simp [tqs, e, q, tq, l, c, s, show i < x.2.1.length + 1 by omega]
      · rw [for_nx (r2 := [some (.obj n), some (.int p), some (fq f), some (tq x.2.1[i]), some (fq (bs x.2.2 x.2.1 i))]) (h2 := h)]
        · rw [ih _ _ _ (by omega) (by omega)]
          have w : wk x.2.2 x.2.1 p f (k + 1) i = wk x.2.2 x.2.1 p f k (i + 1) := by conv => lhs; unfold wk; simp only [g, if_neg c]
          rw [w]
          by_cases z : i + 1 < x.2.1.length
          · simp [z, q]
          · have : x.2.1.length - 1 = i := by omega
            simp [z, q, this]
        · by_cases d : x.2.1[i].1 = p
          · have d2 : x.2.1[i].2 < f := Classical.not_not.mp fun z => c ⟨d, z⟩
            simp [tqs, e, q, tq, l, d, d2, show i < x.2.1.length + 1 by omega]
          · simp [tqs, e, q, tq, d, show i < x.2.1.length + 1 by omega]
    · have : i = x.2.1.length := by omega
      subst this
      rw [for_end]
      · simp [wk]
      · simp [tqs, e]
theorem wk_more (c : Rat) (T : List (Int × Rat)) (p : Int) (f : Rat) : ∀ k i, T.length - i < k → wk c T p f k i = wk c T p f (T.length - i + 1) i
  | 0, i, h => by omega
  | k + 1, i, h => by
    unfold wk
    by_cases q : i < T.length
    · simp only [List.getElem?_eq_getElem q]
      split
      · rfl
      · rw [wk_more c T p f k (i + 1) (by omega), show T.length - i = T.length - (i + 1) + 1 by omega]
    · simp [List.getElem?_eq_none (show T.length ≤ i by omega)]
/-- what is walked till the place -/
def wkd (x : Int × List (Int × Rat) × Rat) (p : Int) (f : Rat) : Option Rat := wk x.2.2 x.2.1 p f (x.2.1.length + 1) 0
theorem wkd_sm {x : Int × List (Int × Rat) × Rat} (o : OkP x) {p : Int} {f : Rat} {F : Nat} (hf : Sm F f) : ∀ k i q, wk x.2.2 x.2.1 p f k i = some q → Sm (64 * 60 + 2 + F) q
  | 0, i, q, h => by simp [wk] at h
  | k + 1, i, q, h => by
    unfold wk at h
    by_cases l : i < x.2.1.length
    · simp only [List.getElem?_eq_getElem l] at h
      split at h
      · cases h
        have := o.n
        exact ((bs_sm o i (by omega)).add hf).mono (by omega)
      · exact wkd_sm o hf k (i + 1) q h
    · simp [List.getElem?_eq_none (show x.2.1.length ≤ i by omega)] at h
/-- a place that stands -/
structure OkF (R : Int) (p : Int) (f : Rat) : Prop where
  lo : 0 ≤ p
  hi : p < R
  one : 1 ≤ f
  top : f ≤ 1000000000000000000000000000000
  sm : Sm 760 f
/-- the law's own walk -/
theorem lwalked_loop {x : Int × List (Int × Rat) × Rat} (o : OkP x) {n : Nat} {h : IH} {p : Int} {f : Rat} {F : Nat} (hf : Sm F f) (hF : F ≤ 800) (e : h[n]? = some (.lst [.int x.1, tqs x.2.1, fq x.2.2])) :
    ∀ k i a b, i ≤ x.2.1.length → x.2.1.length - i < k → ∃ a' b' c', forL (itList (x.2.1.map tq)) (gTupF [4, 5]) (sSeq (sIf (tAndX (tBl (eOp pEq (eVar 4) (eVar 1))) (tNotX (tTru (eCall f__law_under (aCons (eVar 5) (aCons (eVar 2) aNil)))))) (sRet (eCall f__law_add (aCons (eVar 3) (aCons (eVar 2) aNil)))) sNil)
    (sSet 3 (eCall f__law_add (aCons (eVar 3) (aCons (eCall f__law_add (aCons (eCall f__law_mul (aCons (eTup (aCons (eC (.int 2)) (aCons (eC (.int 1)) aNil))) (aCons (eVar 5) aNil))) (aCons (eOp pIdx (eVar 0) (eC (.int 2))) aNil))) aNil))))) k i
      [some (.obj n), some (.int p), some (fq f), some (fq (bs x.2.2 x.2.1 i)), a, b] h = match wk x.2.2 x.2.1 p f k i with
        | some q => .rt (fq q) h
        | none => .nx [some (.obj n), some (.int p), some (fq f), c', a', b'] h := by
  intro k
  induction k with
  | zero => intro i a b hi hk; omega
  | succ k ih =>
    intro i a b hi hk
    by_cases q : i < x.2.1.length
    · have ot := o.t x.2.1[i] (List.getElem_mem q)
      have nn := o.n
      have l := lless_eq ot.sm hf (by omega) h
      have s := lplus_eq (bs_sm o i (by omega)) hf (by omega) h
      have s1 := ltimes_eq sm2 ot.sm (by decide) h
      have s2 := lplus_eq (sm2.mul ot.sm) o.cs (by decide) h
      have s3 := lplus_eq (bs_sm o i (by omega)) (turn_sm ot o.cs) (by omega) h
      have g : x.2.1[i]? = some x.2.1[i] := List.getElem?_eq_getElem q
      have gd : x.2.1.getD i (0, 0) = x.2.1[i] := by simp [q]
      by_cases c : x.2.1[i].1 = p ∧ ¬ x.2.1[i].2 < f
      · refine ⟨a, b, none, ?_⟩
        rw [for_rt (v := fq (bs x.2.2 x.2.1 i + f)) (h2 := h)]
        · simp [wk, g, c]
        · simp [q, tq, l, c, s]
      · obtain ⟨a', b', c', r⟩ := ih (i + 1) (some (.int x.2.1[i].1)) (some (fq x.2.1[i].2)) (by omega) (by omega)
        refine ⟨a', b', c', ?_⟩
        have w : wk x.2.2 x.2.1 p f (k + 1) i = wk x.2.2 x.2.1 p f k (i + 1) := by conv => lhs; unfold wk; simp only [g, if_neg c]
        rw [w, ← r]
        apply for_nx
        rw [bs, gd]
        by_cases d : x.2.1[i].1 = p
        · have d2 : x.2.1[i].2 < f := Classical.not_not.mp fun z => c ⟨d, z⟩
          simp [q, tq, l, d, d2, e, fq_two, s1, s2, s3]
        · simp [q, tq, d, e, fq_two, s1, s2, s3]
    · have : i = x.2.1.length := by omega
      subst this
      refine ⟨a, b, some (fq (bs x.2.2 x.2.1 x.2.1.length)), ?_⟩
      rw [for_end]
      · simp [wk]
      · simp
theorem lwalked_eq {x : Int × List (Int × Rat) × Rat} (o : OkP x) {n : Nat} {h : IH} (e : h[n]? = some (.lst [.int x.1, tqs x.2.1, fq x.2.2])) (p : Int) {f : Rat} {F : Nat} (hf : Sm F f) (hF : F ≤ 800) :
    f__law_walked [.obj n, .int p, fq f] h = .ok (oq (wkd x p f)) h := by
  have nn := o.n
  obtain ⟨a', b', c', l⟩ := lwalked_loop o (p := p) hf hF e LIM 0 none none (by omega) (by simp [LIM]; omega)
  rw [wk_more _ _ _ _ LIM 0 (by simp [LIM]; omega)] at l
  simp only [Nat.sub_zero, bs] at l
  simp [f__law_walked, b__law_walked, e, tqs, fq_zero, sFor, l]
  change _ = Res.ok (oq (wk _ _ _ _ _ _)) _
  cases wk x.2.2 x.2.1 p f (x.2.1.length + 1) 0 with
  | none => simp [oq]
  | some q => simp [oq]
end WR

namespace WR
open PySem PySem.Spec PyProof.Rows L2
end WR

namespace WR
open PySem PySem.Spec PyProof.Rows L2
/-! ### what is drawn -/
theorem log_small {b : Int} (h0 : 0 < b) (h1 : b < 2 ^ 64) : b.natAbs.log2 < 9000 := by
  refine log_of (Nat.lt_of_lt_of_le (show _ < 2 ^ 64 by omega) (Nat.pow_le_pow_right (by decide) (by decide))) (by decide)
theorem draw {hi ci : Nat} {h : IH} (d : DS hi ci h) (b : Int) (h0 : 0 < b) (h1 : b < 2 ^ 64) :
    ∃ r h', f__law_next [.obj hi, .int b] h = .ok (.int r) h' ∧ 0 ≤ r ∧ r < b ∧ DS hi ci h' ∧ Kp hi ci h h' := next_eq d b h0 (log_small h0 h1)
theorem lf_eq' (n d : Int) (h : IH) (hn : n.natAbs < 2 ^ 64) (h0 : 0 < d) (hd : d < 2 ^ 64) : f__law_f [.int n, .int d] h = .ok (fq (mkRat n d.toNat)) h := by
  have := lf_eq n d.toNat h (Nat.lt_of_lt_of_le hn (Nat.pow_le_pow_right (by decide) (by decide))) (by omega) (Nat.lt_of_lt_of_le (show _ < 2 ^ 64 by omega) (Nat.pow_le_pow_right (by decide) (by decide)))
  rwa [Int.toNat_of_nonneg (by omega)] at this
theorem mk_div (n d : Int) (h0 : 0 < d) : mkRat n d.toNat = (n : Rat) / (d : Rat) := by
  rw [Rat.mkRat_eq_div]
  have : ((d.toNat : Int) : Rat) = (d : Rat) := by rw [Int.toNat_of_nonneg (by omega)]
  rw [← this]; rfl
theorem mk_lt {n d : Int} (h0 : 0 < d) (m : Int) : mkRat n d.toNat < (m : Rat) ↔ n < m * d := by
  rw [mk_div n d h0, Rat.div_lt_iff (by exact Rat.intCast_pos.mpr h0), ← Rat.intCast_mul, Rat.intCast_lt_intCast]
theorem lt_mk {n d : Int} (h0 : 0 < d) (m : Int) : (m : Rat) < mkRat n d.toNat ↔ m * d < n := by
  rw [mk_div n d h0, Rat.lt_div_iff (by exact Rat.intCast_pos.mpr h0), ← Rat.intCast_mul, Rat.intCast_lt_intCast]
theorem mk_pos {n d : Int} (h0 : 0 < n) (h1 : 0 < d) : 0 < mkRat n d.toNat := (lt_mk h1 0).mpr (by omega)
theorem mk_le {n d m : Int} (h0 : 0 < d) (h : n ≤ m * d) : mkRat n d.toNat ≤ (m : Rat) := Rat.not_lt.mp fun z => by
  have := (lt_mk h0 m).mp z
  omega
theorem mk_ge {n d m : Int} (h0 : 0 < d) (h : m * d ≤ n) : (m : Rat) ≤ mkRat n d.toNat := Rat.not_lt.mp fun z => by
  have := (mk_lt h0 m).mp z
  omega
/-- how great and how fine a drawn reach is -/
def Dr (q : Rat) : Prop := q ≤ 2000000001 ∧ q.den ≤ 12
theorem mk_dr {n d : Int} (h0 : 0 < d) (h1 : d ≤ 12) (h : n ≤ 2000000001 * d) : Dr (mkRat n d.toNat) := by
  refine ⟨mk_le (m := 2000000001) h0 h, ?_⟩
  rw [Rat.den_mkRat, if_neg (by omega)]
  exact Nat.le_trans (Nat.div_le_self _ _) (by omega)
theorem DS.lt {hi ci : Nat} {h : IH} (d : DS hi ci h) : hi < h.length ∧ ci < h.length := by
  obtain ⟨a, b, e⟩ := d.st
  obtain ⟨cs, f, _⟩ := d.ce
  exact ⟨lt_of_get e, lt_of_get f⟩
theorem DS.set {hi ci n : Nat} {h : IH} (d : DS hi ci h) (o : MO) (h1 : n ≠ hi) (h2 : n ≠ ci) : DS hi ci (h.set n o) := by
  obtain ⟨a, b, e⟩ := d.st
  obtain ⟨cs, f, l⟩ := d.ce
  exact ⟨d.ne, ⟨a, b, by rw [List.getElem?_set_ne h1]; exact e⟩, ⟨cs, by rw [List.getElem?_set_ne h2]; exact f, l⟩⟩
/-- what a loop of draws keeps: all of h but the machine, and a list of its own at h.length -/
structure Grow (hi ci : Nat) (h g : IH) (xs : List PV) : Prop where
  ds : DS hi ci g
  kp : Kp hi ci h g
  own : g[h.length]? = some (.lst xs)
theorem Grow.draw {hi ci : Nat} {h g g' : IH} {xs : List PV} (o : Grow hi ci h g xs) (l : hi < h.length ∧ ci < h.length) (d : DS hi ci g') (k : Kp hi ci g g') : Grow hi ci h g' xs :=
  ⟨d, o.kp.trans k, k.get _ _ (by omega) (by omega) o.own⟩
theorem Grow.push {hi ci : Nat} {h g : IH} {xs ys : List PV} (o : Grow hi ci h g xs) (l : hi < h.length ∧ ci < h.length) : Grow hi ci h (g.set h.length (.lst ys)) ys := by
  refine ⟨o.ds.set _ (by omega) (by omega), ⟨by simpa using o.kp.le, fun n u a b e => ?_⟩, ?_⟩
  · have := lt_of_get e
    rw [List.getElem?_set_ne (by omega)]
    exact o.kp.get n u a b e
  · rw [List.getElem?_set_self (lt_of_get o.own)]
end WR

namespace WR
open PySem PySem.Spec PyProof.Rows L2
/-! ### the pieces of a road -/
theorem set_at {h r : IH} {a b : MO} : (h ++ a :: r).set h.length b = h ++ b :: r := by simp
@[simp] theorem get_at {h r : IH} {a : MO} : (h ++ a :: r)[h.length]? = some a := by simp
/-- the greater -/
def mx (a b : Rat) : Rat := if a < b then b else a
def gq (qs : List Rat) (a : Rat) : Rat := qs.foldl mx a
theorem greatest_loop (qs : List Rat) (N : Nat) (hN : N + N ≤ 9000) {n : Nat} {h : IH} (hq : ∀ q ∈ qs, Sm N q) (e : h[n]? = some (.lst (qs.map fq))) :
    ∀ (k i : Nat) (m : Rat) (c : Option PV), Sm N m → qs.length - i < k → i ≤ qs.length → ∃ c', forL (itObj n) (gVar 2) (sIf (tTru (eCall f_is_less (aCons (eVar 1) (aCons (eVar 2) aNil)))) (sSet 1 (eVar 2)) sNil) k i [some (.obj n), some (fq m), c] h
      = .nx [some (.obj n), some (fq (gq (qs.drop i) m)), c'] h := by
  intro k
  induction k with
  | zero => intro i m c _ hk; omega
  | succ k ih =>
    intro i m c hm hk hi
    by_cases q : i < qs.length
    · have sq := hq qs[i] (List.getElem_mem q)
      have l := less_eq hm sq hN h
      have sm : Sm N (mx m qs[i]) := by unfold mx; split <;> assumption
      obtain ⟨c', r⟩ := ih (i + 1) (mx m qs[i]) (some (fq qs[i])) sm (by omega) (by omega)
      refine ⟨c', ?_⟩
      have g : qs.drop i = qs[i] :: qs.drop (i + 1) := (List.getElem_cons_drop q).symm
      rw [g]
      show _ = RS.nx [some (.obj n), some (fq (gq (qs.drop (i + 1)) (mx m qs[i]))), c'] h
      rw [← r]
      apply for_nx
      by_cases d : m < qs[i]
      · simp [e, q, l, d, mx]
      · simp [e, q, l, d, mx]
    · have : i = qs.length := by omega
      subst this
      refine ⟨c, ?_⟩
      rw [for_end]
      · simp [gq]
      · simp [e]
theorem greatest_eq (q : Rat) (qs : List Rat) (N : Nat) (hN : N + N ≤ 9000) (hl : qs.length ≤ 1000) {n : Nat} {h : IH} (hq : ∀ r ∈ q :: qs, Sm N r) (e : h[n]? = some (.lst ((q :: qs).map fq))) : f_greatest_of [.obj n] h = .ok (fq (gq (q :: qs) q)) h := by
  obtain ⟨c', l⟩ := greatest_loop (q :: qs) N hN hq e LIM 0 q none (hq q (by simp)) (by simp [LIM]; omega) (by omega)
  simp only [List.drop] at l
  simp only [List.map] at e
  simp [f_greatest_of, b_greatest_of, e, sFor, l]
/-- the pieces that the first i turns give -/
def pc (c : Rat) (T : List (Int × Rat)) (p : Int) : Nat → Rat × List (Rat × Rat × Rat)
  | 0 => (0, [])
  | i + 1 => let t := T.getD i (0, 0)
    if t.1 = p ∧ (pc c T p i).1 < t.2 then (t.2, if t.2 < 1 then (pc c T p i).2 else (pc c T p i).2 ++ [(mx (pc c T p i).1 1, t.2, bs c T i)]) else pc c T p i
theorem pc_sm {x : Int × List (Int × Rat) × Rat} (o : OkP x) (p : Int) : ∀ i, i ≤ x.2.1.length → Sm 760 (pc x.2.2 x.2.1 p i).1
  | 0, _ => sm0.mono (by decide)
  | i + 1, h => by
    have hi : i < x.2.1.length := by omega
    have g : x.2.1.getD i (0, 0) = x.2.1[i] := by simp [hi]
    unfold pc
    simp only [g]
    split
    · exact (o.t _ (List.getElem_mem hi)).sm
    · exact pc_sm o p i (by omega)
/-- a piece as data -/
def tri (t : Rat × Rat × Rat) : PV := .tup [fq t.1, fq t.2.1, fq t.2.2]
def triD (t : Rat × Rat × Rat) : PyData := .tuple [.tuple [.int t.1.num, .int t.1.den], .tuple [.int t.2.1.num, .int t.2.1.den], .tuple [.int t.2.2.num, .int t.2.2.den]]
theorem EncOk.tri : EncOk 2 tri triD := by
  have f := EncOk.rat
  refine ⟨fun k h a hm => ?_, fun a => ?_, fun a => ?_, fun a b => ?_⟩
  · obtain ⟨k, rfl⟩ : ∃ j, k = j + 1 := ⟨k - 1, by omega⟩
    simp only [WR.tri, triD, dataOf, optAll, f.dat k h _ (show 1 ≤ k by omega), Option.map]
  · simp [triD, PyData.canLay0, PyData.canLayAll0]
  · simp [triD, PyData.depth, PyData.depthAll]
  · have g1 := f.eqv a.1 b.1
    have g2 := f.eqv a.2.1 b.2.1
    have g3 := f.eqv a.2.2 b.2.2
    simp only [triD, PyData.eqv, PyData.eqvAll] at *
    rw [g1, g2, g3]
    simp [Prod.ext_iff]
/-- lists of the heap -/
theorem EncOk.obj {α : Type} [DecidableEq α] {n : Nat} {enc : α → PV} {den : α → PyData} (e : EncOk n enc den) (hn : n ≤ 11) {a b : Nat} {xs ys : List α} {h : IH} (ha : h[a]? = some (.lst (xs.map enc))) (hb : h[b]? = some (.lst (ys.map enc))) : pEqB (.obj a) (.obj b) h = some (decide (xs = ys)) := by
  have x := optAll_map xs fun z _ => e.dat 11 h z hn
  have y := optAll_map ys fun z _ => e.dat 11 h z hn
  have s : ∀ zs : List α, SeqAt.shaped (.list (zs.map den)) = true := fun zs => by
    have l := canAll zs e.lay
    have d := depAll zs e.dep
    simp [SeqAt.shaped, PyData.canLay0, PyData.depth, l]; omega
  simp [pEqB, dataOf, DEP, ha, hb, x, y, s, PyData.eqv, eqvAll_map e.eqv]
theorem pieces_eq {x : Int × List (Int × Rat) × Rat} (o : OkP x) {n : Nat} {h : IH} (e : h[n]? = some (.ins "Plan" [("held", pq x)])) (p : Int) :
    ∃ t, f_pieces_of [.obj n, .int p] h = .ok (.obj h.length) (h ++ .lst ((pc x.2.2 x.2.1 p x.2.1.length).2.map tri) :: t) := by
  have nn := o.n
  have l0 : n < h.length := lt_of_get e
  have e1 : ∀ t, (h ++ t)[n]? = some (.ins "Plan" [("held", pq x)]) := fun t => get_old e
  have b := bases_eq o (e1 [.lst []])
  have l := for_inv (it := itZip (tqs x.2.1) (.obj (h.length + 1))) (g := gTupF [4, 5]) (B := sSeq (sAsgT (gTupF [6, 7]) (eVar 4))
    (sIf (tAndX (tBl (eOp pEq (eVar 6) (eVar 1))) (tTru (eCall f_is_less (aCons (eVar 3) (aCons (eVar 7) aNil))))) (sSeq (sIf (tNotX (tTru (eCall f_is_less (aCons (eVar 7) (aCons (eC (.tup [.int 1, .int 1])) aNil))))) (sExpr (eAppend (eVar 2) (aCons (eTup (aCons (eCall f_greatest_of (aCons (eLst (aCons (eVar 3) (aCons (eC (.tup [.int 1, .int 1])) aNil))) aNil)) (aCons (eVar 7) (aCons (eVar 5) aNil)))) aNil))) sNil)
    (sSet 3 (eVar 7))) sNil)) (n := x.2.1.length)
    (fun i r h1 => (∃ t, h1 = h ++ .lst ((pc x.2.2 x.2.1 p i).2.map tri) :: .lst ((List.range (x.2.1.length + 1)).map fun i => fq (bs x.2.2 x.2.1 i)) :: t) ∧ (pc x.2.2 x.2.1 p i).2.length ≤ i ∧ ∃ a b c d, r = [some (.obj n), some (.int p), some (.obj h.length), some (fq (pc x.2.2 x.2.1 p i).1), a, b, c, d])
    (by
      rintro i r h1 hi ⟨⟨t, rfl⟩, ln, a, b, c, d, rfl⟩
      have ot := o.t x.2.1[i] (List.getElem_mem hi)
      have g : x.2.1.getD i (0, 0) = x.2.1[i] := by simp [hi]
      have sp := pc_sm o p i (by omega)
      have l1 := fun h => less_eq sp ot.sm (by decide) h
      have l2 := fun h => less_eq ot.sm sm1 (by decide) h
      have gr := fun n h e => greatest_eq (pc x.2.2 x.2.1 p i).1 [1] 760 (by decide) (by decide) (n := n) (h := h) (by
        intro r hr
        simp at hr
        rcases hr with rfl | rfl
        · exact sp
        · exact sm1.mono (by decide)) e
      have gv : gq ((pc x.2.2 x.2.1 p i).1 :: [1]) (pc x.2.2 x.2.1 p i).1 = mx (pc x.2.2 x.2.1 p i).1 1 := by
        have : mx (pc x.2.2 x.2.1 p i).1 (pc x.2.2 x.2.1 p i).1 = (pc x.2.2 x.2.1 p i).1 := by unfold mx; split <;> rfl
        simp [gq, this]
      rw [gv] at gr
      have pe : pc x.2.2 x.2.1 p (i + 1) = if x.2.1[i].1 = p ∧ (pc x.2.2 x.2.1 p i).1 < x.2.1[i].2 then (x.2.1[i].2, if x.2.1[i].2 < 1 then (pc x.2.2 x.2.1 p i).2 else (pc x.2.2 x.2.1 p i).2 ++ [(mx (pc x.2.2 x.2.1 p i).1 1, x.2.1[i].2, bs x.2.2 x.2.1 i)]) else pc x.2.2 x.2.1 p i := by
        conv => lhs; unfold pc
        rw [g]
      have z1 : ∀ t, (h ++ .lst ((pc x.2.2 x.2.1 p i).2.map tri) :: t)[h.length + 1]? = t[0]? := fun t => by rw [ga1]; rfl
      by_cases c1 : x.2.1[i].1 = p
      · by_cases c2 : (pc x.2.2 x.2.1 p i).1 < x.2.1[i].2
        · rw [if_pos ⟨c1, c2⟩] at pe
          rw [pe]
          by_cases c3 : x.2.1[i].2 < 1
          · simp [tqs, z1, hi, show i < x.2.1.length + 1 by omega, tq, c1, l1, c2, fq_one, l2, c3, and_assoc]
            omega
          · have gr' := gr (h.length + (t.length + 1 + 1)) (h ++ .lst ((pc x.2.2 x.2.1 p i).2.map tri) :: .lst ((List.range (x.2.1.length + 1)).map fun i => fq (bs x.2.2 x.2.1 i)) :: (t ++ [.lst [fq (pc x.2.2 x.2.1 p i).1, fq 1]])) (by rw [ga1]; simp)
            simp [tqs, z1, hi, show i < x.2.1.length + 1 by omega, tq, c1, l1, c2, fq_one, l2, c3, and_assoc, gr', show (pc x.2.2 x.2.1 p i).2.length < 16777216 by omega]
            exact ⟨rfl, ln⟩
        · rw [if_neg (fun z => c2 z.2)] at pe
          rw [pe]
          simp [tqs, z1, hi, show i < x.2.1.length + 1 by omega, tq, c1, l1, c2, and_assoc]
          omega
      · rw [if_neg (fun z => c1 z.1)] at pe
        rw [pe]
        simp [tqs, z1, hi, show i < x.2.1.length + 1 by omega, tq, c1, and_assoc]
        omega)
    (by rintro r h1 ⟨⟨t, rfl⟩, ln, a, b, c, d, rfl⟩; simp [tqs, ga1]) LIM 0 _ _ (by simp [LIM]; omega) (by omega) ⟨⟨[], rfl⟩, by simp [pc], none, none, none, none, rfl⟩
  obtain ⟨r', h', l, ⟨t, rfl⟩, _, a, b', c, d, rfl⟩ := l
  refine ⟨.lst ((List.range (x.2.1.length + 1)).map fun i => fq (bs x.2.2 x.2.1 i)) :: t, ?_⟩
  simp only [pc, List.map, tqs] at l
  simp [f_pieces_of, b_pieces_of, e1, pq, tqs, sFor, fq_zero, b, l]
end WR

namespace WR
open PySem PySem.Spec PyProof.Rows L2
/-- all pieces of a road -/
def pcs (x : Int × List (Int × Rat) × Rat) (p : Int) : List (Rat × Rat × Rat) := (pc x.2.2 x.2.1 p x.2.1.length).2
theorem pc_len (c : Rat) (T : List (Int × Rat)) (p : Int) : ∀ i, (pc c T p i).2.length ≤ i
  | 0 => by simp [pc]
  | i + 1 => by
    have := pc_len c T p i
    unfold pc
    simp only []
    split
    · simp only []
      split
      · omega
      · simp; omega
    · omega
end WR

namespace WR
open PySem PySem.Spec PyProof.Rows L2
/-- a comprehension that gives F i at turn i -/
theorem lc_map {it : ItF} {g : TgF} {A : EX} {r0 : Fm} {base : IH} {n : Nat} (F : Nat → PV) (hn : n < 16777216)
    (hit : ∀ i t, i < n → ∃ v r1 t', it i (base ++ t) = some (some v) ∧ g v r0 = some r1 ∧ A r1 (base ++ t) = .ok (F i) (base ++ (t ++ t')))
    (hend : ∀ t, it n (base ++ t) = some none) : ∀ k i t, i ≤ n → n - i < k → ∃ t', lcL it g tYesX A r0 base.length k i (base ++ .lst ((List.range i).map F) :: t) = .ok () (base ++ .lst ((List.range n).map F) :: t') := by
  intro k
  induction k with
  | zero => intro i t _ h; omega
  | succ k ih =>
    intro i t hi hk
    by_cases q : i < n
    · obtain ⟨v, r1, t', e1, e2, e3⟩ := hit i (.lst ((List.range i).map F) :: t) q
      obtain ⟨t2, e⟩ := ih (i + 1) (t ++ t') (by omega) (by omega)
      refine ⟨t2, ?_⟩
      rw [← e]
      conv => lhs; unfold lcL
      simp [e1, e2, e3, show i < 16777216 by omega, List.range_succ]
    · have : i = n := by omega
      subst this
      refine ⟨t, ?_⟩
      unfold lcL
      simp [hend]
def mn (a b : Rat) : Rat := if b < a then b else a
def lq (qs : List Rat) (a : Rat) : Rat := qs.foldl mn a
theorem least_loop (qs : List Rat) (N : Nat) (hN : N + N ≤ 9000) {n : Nat} {h : IH} (hq : ∀ q ∈ qs, Sm N q) (e : h[n]? = some (.lst (qs.map fq))) :
    ∀ (k i : Nat) (m : Rat) (c : Option PV), Sm N m → qs.length - i < k → i ≤ qs.length → ∃ c', forL (itObj n) (gVar 2) (sIf (tTru (eCall f_is_less (aCons (eVar 2) (aCons (eVar 1) aNil)))) (sSet 1 (eVar 2)) sNil) k i [some (.obj n), some (fq m), c] h
      = .nx [some (.obj n), some (fq (lq (qs.drop i) m)), c'] h := by
  intro k
  induction k with
  | zero => intro i m c _ hk; omega
  | succ k ih =>
    intro i m c hm hk hi
    by_cases q : i < qs.length
    · have sq := hq qs[i] (List.getElem_mem q)
      have l := less_eq sq hm hN h
      have sm : Sm N (mn m qs[i]) := by unfold mn; split <;> assumption
      obtain ⟨c', r⟩ := ih (i + 1) (mn m qs[i]) (some (fq qs[i])) sm (by omega) (by omega)
      refine ⟨c', ?_⟩
      have g : qs.drop i = qs[i] :: qs.drop (i + 1) := (List.getElem_cons_drop q).symm
      rw [g]
      show _ = RS.nx [some (.obj n), some (fq (lq (qs.drop (i + 1)) (mn m qs[i]))), c'] h
      rw [← r]
      apply for_nx
      by_cases d : qs[i] < m
      · simp [e, q, l, d, mn]
      · simp [e, q, l, d, mn]
    · have : i = qs.length := by omega
      subst this
      refine ⟨c, ?_⟩
      rw [for_end]
      · simp [lq]
      · simp [e]
theorem least_eq (q : Rat) (qs : List Rat) (N : Nat) (hN : N + N ≤ 9000) (hl : qs.length ≤ 1000) {n : Nat} {h : IH} (hq : ∀ r ∈ q :: qs, Sm N r) (e : h[n]? = some (.lst ((q :: qs).map fq))) : f_least_of [.obj n] h = .ok (fq (lq (q :: qs) q)) h := by
  obtain ⟨c', l⟩ := least_loop (q :: qs) N hN hq e LIM 0 q none (hq q (by simp)) (by simp [LIM]; omega) (by omega)
  simp only [List.drop] at l
  simp only [List.map] at e
  simp [f_least_of, b_least_of, e, sFor, l]
/-- where a road ends -/
def rch (x : Int × List (Int × Rat) × Rat) (p : Int) : Rat := match (pcs x p).getLast? with
  | none => 0
  | some t => t.2.1
theorem atI_last {α : Type} (xs : List α) (x : α) (h : xs.getLast? = some x) : atI xs (-1) = some x := by
  obtain ⟨ys, rfl⟩ := List.getLast?_eq_some_iff.mp h
  exact atI_m1 x ys
theorem reachof_eq {x : Int × List (Int × Rat) × Rat} (o : OkP x) {n : Nat} {h : IH} (e : h[n]? = some (.ins "Plan" [("held", pq x)])) (p : Int) :
    ∃ t, f_reach_of [.obj n, .int p] h = .ok (fq (rch x p)) (h ++ t) := by
  obtain ⟨t, b⟩ := pieces_eq o e p
  refine ⟨.lst ((pcs x p).map tri) :: t, ?_⟩
  have b' : f_pieces_of [.obj n, .int p] h = .ok (.obj h.length) (h ++ .lst ((pcs x p).map tri) :: t) := b
  unfold rch
  cases q : (pcs x p).getLast? with
  | none =>
    have z : pcs x p = [] := List.getLast?_eq_none_iff.mp q
    rw [z] at b' ⊢
    simp only [List.map] at b'
    simp [f_reach_of, b_reach_of, b', fq_zero]
  | some u =>
    have z : pcs x p ≠ [] := fun z => by rw [z] at q; cases q
    have a := atI_last ((pcs x p).map tri) (tri u) (by rw [List.getLast?_map, q]; rfl)
    simp only [tri] at a
    simp [f_reach_of, b_reach_of, b', z, a, tri]
end WR

namespace WR
open PySem PySem.Spec PyProof.Rows L2
theorem pc_succ (c : Rat) (T : List (Int × Rat)) (p : Int) {i : Nat} (hi : i < T.length) : pc c T p (i + 1) = if T[i].1 = p ∧ (pc c T p i).1 < T[i].2 then (T[i].2, if T[i].2 < 1 then (pc c T p i).2 else (pc c T p i).2 ++ [(mx (pc c T p i).1 1, T[i].2, bs c T i)]) else pc c T p i := by
  have g : T.getD i (0, 0) = T[i] := by simp [hi]
  conv => lhs; unfold pc
  rw [g]
/-- where a piece comes from -/
theorem pc_get (c : Rat) (T : List (Int × Rat)) (p : Int) : ∀ i, i ≤ T.length → ∀ k t, (pc c T p i).2[k]? = some t → ∃ (j : Nat) (hj : j < T.length), j < i ∧ T[j].1 = p ∧ t = (mx (pc c T p j).1 1, T[j].2, bs c T j) ∧ (pc c T p j).1 < T[j].2 ∧ ¬ T[j].2 < 1 ∧ (pc c T p j).2.length = k
  | 0, _, k, t, h => by simp [pc] at h
  | i + 1, hi, k, t, h => by
    have hl : i < T.length := by omega
    have ih := pc_get c T p i (by omega) k t
    rw [pc_succ c T p hl] at h
    split at h
    · rename_i c1
      simp only [] at h
      split at h
      · obtain ⟨j, hj, a, b⟩ := ih h
        exact ⟨j, hj, by omega, b⟩
      · rename_i c2
        rw [List.getElem?_append] at h
        split at h
        · obtain ⟨j, hj, a, b⟩ := ih h
          exact ⟨j, hj, by omega, b⟩
        · rename_i c3
          have : k - (pc c T p i).2.length = 0 := by
            rcases Nat.eq_zero_or_pos (k - (pc c T p i).2.length) with z | z
            · exact z
            · rw [List.getElem?_eq_none (by simp; omega)] at h; cases h
          rw [this] at h
          simp at h
          exact ⟨i, hl, by omega, c1.1, h.symm, c1.2, c2, by omega⟩
    · obtain ⟨j, hj, a, b⟩ := ih h
      exact ⟨j, hj, by omega, b⟩
theorem pc_ge (c : Rat) (T : List (Int × Rat)) (p : Int) : ∀ i, i ≤ T.length → ∀ l (hl : l < T.length), l < i → T[l].1 = p → T[l].2 ≤ (pc c T p i).1
  | 0, _, l, _, h, _ => by omega
  | i + 1, hi, l, hl, h, e => by
    have hl' : i < T.length := by omega
    have ih := pc_ge c T p i (by omega) l hl
    rw [pc_succ c T p hl']
    by_cases q : l = i
    · subst q
      split
      · exact Rat.le_refl
      · rename_i z
        exact Rat.not_lt.mp fun y => z ⟨e, y⟩
    · have ih := ih (by omega) e
      split
      · rename_i z
        exact Rat.le_trans ih (Rat.le_of_lt z.2)
      · exact ih
theorem pc_nil (c : Rat) (T : List (Int × Rat)) (p : Int) : ∀ i, i ≤ T.length → ((pc c T p i).2 = [] ↔ (pc c T p i).1 < 1)
  | 0, _ => by simp [pc]; decide
  | i + 1, hi => by
    have hl' : i < T.length := by omega
    have ih := pc_nil c T p i (by omega)
    rw [pc_succ c T p hl']
    split
    · rename_i z
      simp only []
      split
      · rename_i y
        have : (pc c T p i).1 < 1 := by have := z.2; grind
        simp [ih.mpr this, y]
      · rename_i y
        simp [y]
    · exact ih
theorem pc_src (c : Rat) (T : List (Int × Rat)) (p : Int) : ∀ i, i ≤ T.length → (pc c T p i).1 = 0 ∨ ∃ (l : Nat) (hl : l < T.length), l < i ∧ T[l].1 = p ∧ (pc c T p i).1 = T[l].2
  | 0, _ => .inl rfl
  | i + 1, hi => by
    have hl' : i < T.length := by omega
    have ih := pc_src c T p i (by omega)
    rw [pc_succ c T p hl']
    split
    · rename_i z
      exact .inr ⟨i, hl', by omega, z.1, rfl⟩
    · rcases ih with h | ⟨l, hl, a, b⟩
      · exact .inl h
      · exact .inr ⟨l, hl, by omega, b⟩
/-- what is known of a piece -/
structure OkPc (t : Rat × Rat × Rat) : Prop where
  s1 : Sm 760 t.1
  s2 : Sm 760 t.2.1
  s3 : Sm 3300 t.2.2
  one : 1 ≤ t.1
theorem mx_one {a : Rat} : 1 ≤ mx a 1 := by unfold mx; split <;> grind
theorem pcs_ok {x : Int × List (Int × Rat) × Rat} (o : OkP x) {p : Int} {t : Rat × Rat × Rat} (h : t ∈ pcs x p) : OkPc t := by
  obtain ⟨k, hk, e⟩ := List.mem_iff_getElem.mp h
  obtain ⟨j, hj, _, _, rfl, c1, c2, _⟩ := pc_get x.2.2 x.2.1 p x.2.1.length (Nat.le_refl _) k t (by rw [← e]; exact List.getElem?_eq_getElem hk)
  have nn := o.n
  have sp := pc_sm o p j (by omega)
  have ot := o.t _ (List.getElem_mem hj)
  refine ⟨?_, ot.sm, (bs_sm o j (by omega)).mono (by omega), mx_one⟩
  show Sm 760 (mx _ 1)
  unfold mx
  split
  · exact sm1.mono (by decide)
  · exact sp
theorem rch_sm {x : Int × List (Int × Rat) × Rat} (o : OkP x) (p : Int) : Sm 760 (rch x p) := by
  unfold rch
  cases q : (pcs x p).getLast? with
  | none => exact sm0.mono (by decide)
  | some u => exact (pcs_ok o (List.mem_of_getLast? q)).s2
/-- where all roads end -/
def ends (x : Int × List (Int × Rat) × Rat) : List Rat := (List.range x.1.toNat).map fun i => rch x (i : Nat)
def cvr (x : Int × List (Int × Rat) × Rat) : Rat := lq (ends x) (rch x 0)
theorem checkplan_eq {x : Int × List (Int × Rat) × Rat} {n : Nat} {h : IH} (e : h[n]? = some (.ins "Plan" [("held", pq x)])) : f_check_plan [.obj n] h = .ok .non h := by
  simp [f_check_plan, b_check_plan, ownCs, e]
theorem cover_eq {x : Int × List (Int × Rat) × Rat} (o : OkP x) {n : Nat} {h : IH} (e : h[n]? = some (.ins "Plan" [("held", pq x)])) : ∃ t, f_cover [.obj n] h = .ok (fq (cvr x)) (h ++ t) := by
  have r1 := o.r1
  have r2 := o.r2
  have e1 : ∀ t, (h ++ t)[n]? = some (.ins "Plan" [("held", pq x)]) := fun t => get_old e
  obtain ⟨t, l⟩ := lc_map (it := itRange 0 x.1.toNat) (g := gVar 1) (A := eCall f_reach_of (aCons (eVar 0) (aCons (eVar 1) aNil))) (r0 := [some (.obj n), none]) (base := h) (n := x.1.toNat) (fun i => fq (rch x (i : Nat))) (by omega)
    (fun i t hi => by
      obtain ⟨t', b⟩ := reachof_eq o (e1 t) (i : Nat)
      exact ⟨.int (i : Nat), [some (.obj n), some (.int (i : Nat))], t', by simp [hi], rfl, by simp [b]⟩)
    (fun t => by simp) LIM 0 [] (by omega) (by simp [LIM]; omega)
  have ne : ends x = rch x 0 :: (ends x).tail := by
    obtain ⟨m, hm⟩ : ∃ m, x.1.toNat = m + 1 := ⟨x.1.toNat - 1, by omega⟩
    simp [ends, hm, List.range_succ_eq_map]
  have le := least_eq (rch x 0) (ends x).tail 760 (by decide) (by simp [ends]; omega) (n := h.length) (h := h ++ .lst ((ends x).map fq) :: t) (by
    rw [← ne]
    intro r hr
    obtain ⟨i, _, rfl⟩ := List.mem_map.mp hr
    exact rch_sm o _) (by rw [← ne]; simp)
  rw [← ne] at le
  have em : (List.range x.1.toNat).map (fun i => fq (rch x (i : Nat))) = (ends x).map fq := by simp [ends]
  rw [em] at l
  simp only [List.range_zero, List.map_nil] at l
  refine ⟨.lst ((ends x).map fq) :: t, ?_⟩
  simp [f_cover, b_cover, checkplan_eq e, eLc, e, pq, rngOk, show Int.natAbs x.1 < 4611686018427387904 by omega, l, le, cvr]
end WR

namespace WR
open PySem PySem.Spec PyProof.Rows L2
/-! ### the worst -/
abbrev WV := Rat × Int × Rat × Bool
def wup (b : Option WV) (w : WV) : Option WV := match b with
  | none => some w
  | some v => if v.1 < w.1 then some w else some v
def wi (l : List (Rat × Rat × Rat)) (p : Int) (b : Option WV) : Nat → Option WV
  | 0 => b
  | i + 1 => let t := l.getD i (0, 0, 0); wup (wi l p b i) (1 + t.2.2 / t.1, p, t.1, i == 0)
def wr (x : Int × List (Int × Rat) × Rat) : Nat → Option WV
  | 0 => none
  | i + 1 => wi (pcs x (i : Nat)) (i : Nat) (wr x i) (pcs x (i : Nat)).length
def wq (w : WV) : PV := .tup [fq w.1, .int w.2.1, fq w.2.2.1, .bl w.2.2.2]
def ow : Option WV → PV
  | none => .non
  | some w => wq w
/-- its number is small -/
def OkW (b : Option WV) : Prop := ∀ w, b = some w → Sm 4062 w.1
theorem OkPc.val {t : Rat × Rat × Rat} (o : OkPc t) : Sm 4062 (1 + t.2.2 / t.1) := by
  have p : 0 < t.1 := by have := o.one; grind
  exact sm1.add (o.s3.div o.s1 p)
theorem wup_ok {b : Option WV} {w : WV} (h : OkW b) (hw : Sm 4062 w.1) : OkW (wup b w) := by
  intro v e
  unfold wup at e
  split at e
  · cases e; exact hw
  · split at e
    · cases e; exact hw
    · cases e; exact h _ rfl
theorem wi_ok {l : List (Rat × Rat × Rat)} (hl : ∀ t ∈ l, OkPc t) (p : Int) {b : Option WV} (hb : OkW b) : ∀ i, i ≤ l.length → OkW (wi l p b i)
  | 0, _ => hb
  | i + 1, h => by
    have hi : i < l.length := by omega
    have g : l.getD i (0, 0, 0) = l[i] := by simp [hi]
    unfold wi
    simp only [g]
    exact wup_ok (wi_ok hl p hb i (by omega)) (hl _ (List.getElem_mem hi)).val
theorem wr_ok {x : Int × List (Int × Rat) × Rat} (o : OkP x) : ∀ i, OkW (wr x i)
  | 0 => by intro w e; cases e
  | i + 1 => wi_ok (fun t ht => pcs_ok o ht) _ (wr_ok o i) _ (Nat.le_refl _)
theorem wi_succ (l : List (Rat × Rat × Rat)) (p : Int) (b : Option WV) {i : Nat} (hi : i < l.length) : wi l p b (i + 1) = wup (wi l p b i) (1 + l[i].2.2 / l[i].1, p, l[i].1, i == 0) := by
  have g : l.getD i (0, 0, 0) = l[i] := by simp [hi]
  conv => lhs; unfold wi
  simp only [g]
theorem worstof_eq {x : Int × List (Int × Rat) × Rat} (o : OkP x) {n : Nat} {h : IH} (e : h[n]? = some (.ins "Plan" [("held", pq x)])) : ∃ t, f_worst_of [.obj n] h = .ok (ow (wr x x.1.toNat)) (h ++ t) := by
  have r1 := o.r1
  have r2 := o.r2
  have nn := o.n
  have e1 : ∀ t, (h ++ t)[n]? = some (.ins "Plan" [("held", pq x)]) := fun t => get_old e
  have inner : ∀ (r t : IH) (i : Nat) (b : Option WV) (a3 a4 a5 : Option PV), OkW b → ∃ a3' a4' a5', forL (itEnum (.obj (h ++ r).length)) (gTupF [3, 4]) (sSeq (sSet 5 (eCall f_plus (aCons (eC (.tup [.int 1, .int 1])) (aCons (eCall f_over (aCons (eOp pIdx (eVar 4) (eC (.int 2))) (aCons (eOp pIdx (eVar 4) (eC (.int 0))) aNil))) aNil))))
    (sIf (tOrX (tBl (eOp pIsN (eVar 1) (eC .non))) (tTru (eCall f_is_less (aCons (eOp pIdx (eVar 1) (eC (.int 0))) (aCons (eVar 5) aNil))))) (sSet 1 (eTup (aCons (eVar 5) (aCons (eVar 2) (aCons (eOp pIdx (eVar 4) (eC (.int 0))) (aCons (eOp pEq (eVar 3) (eC (.int 0))) aNil)))))) sNil)) LIM 0
      [some (.obj n), some (ow b), some (.int i), a3, a4, a5] ((h ++ r) ++ .lst ((pcs x (i : Nat)).map tri) :: t) = .nx [some (.obj n), some (ow (wi (pcs x (i : Nat)) (i : Nat) b (pcs x (i : Nat)).length)), some (.int i), a3', a4', a5'] ((h ++ r) ++ .lst ((pcs x (i : Nat)).map tri) :: t) := by
    intro r t i b a3 a4 a5 hb
    have pl : (pcs x (i : Nat)).length ≤ 60 := Nat.le_trans (pc_len _ _ _ _) nn
    obtain ⟨r', h', l, rfl, a3', a4', a5', rfl⟩ := for_inv (it := itEnum (.obj (h ++ r).length)) (g := gTupF [3, 4]) (B := sSeq (sSet 5 (eCall f_plus (aCons (eC (.tup [.int 1, .int 1])) (aCons (eCall f_over (aCons (eOp pIdx (eVar 4) (eC (.int 2))) (aCons (eOp pIdx (eVar 4) (eC (.int 0))) aNil))) aNil))))
    (sIf (tOrX (tBl (eOp pIsN (eVar 1) (eC .non))) (tTru (eCall f_is_less (aCons (eOp pIdx (eVar 1) (eC (.int 0))) (aCons (eVar 5) aNil))))) (sSet 1 (eTup (aCons (eVar 5) (aCons (eVar 2) (aCons (eOp pIdx (eVar 4) (eC (.int 0))) (aCons (eOp pEq (eVar 3) (eC (.int 0))) aNil)))))) sNil)) (n := (pcs x (i : Nat)).length)
      (fun k r1 h1 => h1 = (h ++ r) ++ .lst ((pcs x (i : Nat)).map tri) :: t ∧ ∃ a3 a4 a5, r1 = [some (.obj n), some (ow (wi (pcs x (i : Nat)) (i : Nat) b k)), some (.int i), a3, a4, a5])
      (by
        rintro k r1 h1 hk ⟨rfl, a3, a4, a5, rfl⟩
        have po := pcs_ok o (List.getElem_mem hk)
        have pp : 0 < (pcs x (i : Nat))[k].1 := by have := po.one; grind
        have ov := fun h => over_eq po.s3 po.s1 pp (by decide) h
        have pl := fun h => plus_eq sm1 (po.s3.div po.s1 pp) (by decide) h
        have ok := wi_ok (l := pcs x (i : Nat)) (fun t ht => pcs_ok o ht) (i : Nat) hb k (by omega)
        rw [wi_succ _ _ _ hk]
        cases z : wi (pcs x (i : Nat)) (i : Nat) b k with
        | none => simp [hk, tri, fq_one, ov, pl, ow, wup, wq, and_assoc, Bool.beq_eq_decide_eq]
        | some w =>
          have le := fun h => less_eq (ok w z) po.val (by decide) h
          by_cases d : w.1 < 1 + (pcs x (i : Nat))[k].2.2 / (pcs x (i : Nat))[k].1
          · simp [hk, tri, fq_one, ov, pl, ow, wup, wq, and_assoc, le, d, Bool.beq_eq_decide_eq]
          · simp [hk, tri, fq_one, ov, pl, ow, wup, wq, and_assoc, le, d])
      (by rintro r1 h1 ⟨rfl, a3, a4, a5, rfl⟩; simp) LIM 0 _ _ (by simp [LIM]; omega) (by omega) ⟨rfl, a3, a4, a5, rfl⟩
    exact ⟨a3', a4', a5', l⟩
  obtain ⟨r', h', l, ⟨t, rfl⟩, a2, a3, a4, a5, rfl⟩ := for_inv (it := itRange 0 x.1.toNat) (g := gVar 2) (B := sFor (eEnum (aCons (eCall f_pieces_of (aCons (eVar 0) (aCons (eVar 2) aNil))) aNil)) (gTupF [3, 4]) (sSeq (sSet 5 (eCall f_plus (aCons (eC (.tup [.int 1, .int 1])) (aCons (eCall f_over (aCons (eOp pIdx (eVar 4) (eC (.int 2))) (aCons (eOp pIdx (eVar 4) (eC (.int 0))) aNil))) aNil))))
    (sIf (tOrX (tBl (eOp pIsN (eVar 1) (eC .non))) (tTru (eCall f_is_less (aCons (eOp pIdx (eVar 1) (eC (.int 0))) (aCons (eVar 5) aNil))))) (sSet 1 (eTup (aCons (eVar 5) (aCons (eVar 2) (aCons (eOp pIdx (eVar 4) (eC (.int 0))) (aCons (eOp pEq (eVar 3) (eC (.int 0))) aNil)))))) sNil))) (n := x.1.toNat)
    (fun i r1 h1 => (∃ t, h1 = h ++ t) ∧ ∃ a2 a3 a4 a5, r1 = [some (.obj n), some (ow (wr x i)), a2, a3, a4, a5])
    (by
      rintro i r1 h1 hi ⟨⟨t, rfl⟩, a2, a3, a4, a5, rfl⟩
      obtain ⟨t', b⟩ := pieces_eq o (e1 t) (i : Nat)
      obtain ⟨a3', a4', a5', q⟩ := inner t t' i (wr x i) a3 a4 a5 (wr_ok o i)
      simp only [List.length_append, List.append_assoc] at q b
      refine ⟨_, _, ?_, ⟨t ++ .lst ((pcs x (i : Nat)).map tri) :: t', rfl⟩, some (.int (i : Nat)), a3', a4', a5', rfl⟩
      simp [forE, hi, b, -itEnum]
      exact q)
    (by rintro r1 h1 ⟨⟨t, rfl⟩, a2, a3, a4, a5, rfl⟩; simp) LIM 0 [some (.obj n), some (ow none), none, none, none, none] h (by simp [LIM]; omega) (by omega) ⟨⟨[], by simp⟩, none, none, none, none, rfl⟩
  refine ⟨t, ?_⟩
  simp only [ow] at l
  simp [f_worst_of, b_worst_of, e, pq, rngOk, show Int.natAbs x.1 < 4611686018427387904 by omega, forE, l, ow]
theorem worst_eq {x : Int × List (Int × Rat) × Rat} (o : OkP x) {n : Nat} {h : IH} (e : h[n]? = some (.ins "Plan" [("held", pq x)])) : ∃ t, f_worst [.obj n] h = .ok (ow (wr x x.1.toNat)) (h ++ t) := by
  obtain ⟨t, w⟩ := worstof_eq o e
  exact ⟨t, by simp [f_worst, b_worst, checkplan_eq e, w]⟩
theorem lworst_inner {x : Int × List (Int × Rat) × Rat} (o : OkP x) {n : Nat} {h : IH} : ∀ (r : IH) (i : Nat) (b : Option WV) (a4 a5 : Option PV), OkW b → ∃ a4' a5', forL (itRange 0 (pcs x (i : Nat)).length) (gVar 4) (sSeq (sSet 5 (eCall f__law_add (aCons (eTup (aCons (eC (.int 1)) (aCons (eC (.int 1)) aNil))) (aCons (eCall f__law_div (aCons (eOp pIdx (eOp pIdx (eVar 3) (eVar 4)) (eC (.int 2))) (aCons (eOp pIdx (eOp pIdx (eVar 3) (eVar 4)) (eC (.int 0))) aNil))) aNil))))
    (sIf (tOrX (tBl (eOp pIsN (eVar 1) (eC .non))) (tTru (eCall f__law_under (aCons (eOp pIdx (eVar 1) (eC (.int 0))) (aCons (eVar 5) aNil))))) (sSet 1 (eTup (aCons (eVar 5) (aCons (eVar 2) (aCons (eOp pIdx (eOp pIdx (eVar 3) (eVar 4)) (eC (.int 0))) (aCons (eOp pEq (eVar 4) (eC (.int 0))) aNil)))))) sNil)) LIM 0
      [some (.obj n), some (ow b), some (.int i), some (.obj (h ++ r).length), a4, a5] ((h ++ r) ++ [.lst ((pcs x (i : Nat)).map tri)]) = .nx [some (.obj n), some (ow (wi (pcs x (i : Nat)) (i : Nat) b (pcs x (i : Nat)).length)), some (.int i), some (.obj (h ++ r).length), a4', a5'] ((h ++ r) ++ [.lst ((pcs x (i : Nat)).map tri)]) := by
  have nn := o.n
  intro r i b a4 a5 hb
  have pl : (pcs x (i : Nat)).length ≤ 60 := Nat.le_trans (pc_len _ _ _ _) nn
  obtain ⟨r', h', l, rfl, a4', a5', rfl⟩ := for_inv (it := itRange 0 (pcs x (i : Nat)).length) (g := gVar 4) (B := sSeq (sSet 5 (eCall f__law_add (aCons (eTup (aCons (eC (.int 1)) (aCons (eC (.int 1)) aNil))) (aCons (eCall f__law_div (aCons (eOp pIdx (eOp pIdx (eVar 3) (eVar 4)) (eC (.int 2))) (aCons (eOp pIdx (eOp pIdx (eVar 3) (eVar 4)) (eC (.int 0))) aNil))) aNil))))
  (sIf (tOrX (tBl (eOp pIsN (eVar 1) (eC .non))) (tTru (eCall f__law_under (aCons (eOp pIdx (eVar 1) (eC (.int 0))) (aCons (eVar 5) aNil))))) (sSet 1 (eTup (aCons (eVar 5) (aCons (eVar 2) (aCons (eOp pIdx (eOp pIdx (eVar 3) (eVar 4)) (eC (.int 0))) (aCons (eOp pEq (eVar 4) (eC (.int 0))) aNil)))))) sNil)) (n := (pcs x (i : Nat)).length)
    (fun k r1 h1 => h1 = (h ++ r) ++ [.lst ((pcs x (i : Nat)).map tri)] ∧ ∃ a4 a5, r1 = [some (.obj n), some (ow (wi (pcs x (i : Nat)) (i : Nat) b k)), some (.int i), some (.obj (h ++ r).length), a4, a5])
    (by
      rintro k r1 h1 hk ⟨rfl, a4, a5, rfl⟩
      have po := pcs_ok o (List.getElem_mem hk)
      have pp : 0 < (pcs x (i : Nat))[k].1 := by have := po.one; grind
      have ov := fun h => lover_eq po.s3 po.s1 pp (by decide) h
      have pl := fun h => lplus_eq sm1 (po.s3.div po.s1 pp) (by decide) h
      have ok := wi_ok (l := pcs x (i : Nat)) (fun t ht => pcs_ok o ht) (i : Nat) hb k (by omega)
      have at_ : atI ((pcs x (i : Nat)).map tri) (k : Nat) = some (tri (pcs x (i : Nat))[k]) := by
        rw [atI_pos _ _ (by omega) (by simp; omega)]; simp [hk]
      simp only [tri] at at_
      rw [wi_succ _ _ _ hk]
      cases z : wi (pcs x (i : Nat)) (i : Nat) b k with
      | none => simp [hk, at_, tri, fq_one, ov, pl, ow, wup, wq, and_assoc, Bool.beq_eq_decide_eq]
      | some w =>
        have le := fun h => lless_eq (ok w z) po.val (by decide) h
        by_cases d : w.1 < 1 + (pcs x (i : Nat))[k].2.2 / (pcs x (i : Nat))[k].1
        · simp [hk, at_, tri, fq_one, ov, pl, ow, wup, wq, and_assoc, le, d, Bool.beq_eq_decide_eq]
        · simp [hk, at_, tri, fq_one, ov, pl, ow, wup, wq, and_assoc, le, d])
    (by rintro r1 h1 ⟨rfl, a4, a5, rfl⟩; simp) LIM 0 _ _ (by simp [LIM]; omega) (by omega) ⟨rfl, a4, a5, rfl⟩
  exact ⟨a4', a5', l⟩
theorem rngOk_nat {n : Nat} (h : n ≤ 1000000) : rngOk (n : Int) = true := by
  unfold rngOk
  exact decide_eq_true (by omega)
theorem range1_eq {L : AX} {r : Fm} {h h1 : IH} {n : Nat} (e : L r h = .ok [.int (n : Nat)] h1) (hn : n ≤ 1000000) : eRange1 L r h = .ok (itRange 0 n) h1 := by
  simp only [eRange1, e, bind_ok, rngOk_nat hn, if_true, Int.toNat_natCast]
end WR

namespace WR
open PySem PySem.Spec PyProof.Rows L2
def wqD (w : WV) : PyData := .tuple [.tuple [.int w.1.num, .int w.1.den], .int w.2.1, .tuple [.int w.2.2.1.num, .int w.2.2.1.den], .bool w.2.2.2]
def owD : Option WV → PyData
  | none => .none
  | some w => wqD w
theorem EncOk.ow : EncOk 2 ow owD := by
  have f := EncOk.rat
  refine ⟨fun k h a hm => ?_, fun a => ?_, fun a => ?_, fun a b => ?_⟩
  · obtain ⟨k, rfl⟩ : ∃ j, k = j + 1 := ⟨k - 1, by omega⟩
    cases a with
    | none => simp [WR.ow, owD]
    | some w => simp only [WR.ow, wq, owD, wqD, dataOf, optAll, data_int, data_bl, f.dat k h _ (show 1 ≤ k by omega), Option.map]
  · cases a <;> simp [owD, wqD, PyData.canLay0, PyData.canLayAll0]
  · cases a <;> simp [owD, wqD, PyData.depth, PyData.depthAll]
  · cases a with
    | none => cases b <;> simp [owD, wqD, PyData.eqv]
    | some v =>
      cases b with
      | none => simp [owD, wqD, PyData.eqv]
      | some w =>
        have g1 := f.eqv v.1 w.1
        have g2 := f.eqv v.2.2.1 w.2.2.1
        simp only [owD, wqD, PyData.eqv, PyData.eqvAll] at *
        rw [g1, g2]
        simp [Prod.ext_iff, Bool.beq_eq_decide_eq]
end WR

namespace WR
open PySem PySem.Spec PyProof.Rows L2
/-! ### what the worst is -/
def ge (b : Option WV) (q : Rat) : Prop := ∃ v, b = some v ∧ q ≤ v.1
theorem wup_ge (b : Option WV) (w : WV) : ge (wup b w) w.1 := by
  unfold wup
  split
  · exact ⟨w, rfl, Rat.le_refl⟩
  · split
    · exact ⟨w, rfl, Rat.le_refl⟩
    · rename_i v h
      exact ⟨v, rfl, Rat.not_lt.mp h⟩
theorem wup_mono {b : Option WV} {w : WV} {q : Rat} (h : ge b q) : ge (wup b w) q := by
  obtain ⟨v, rfl, hq⟩ := h
  unfold wup
  simp only []
  split
  · rename_i z
    exact ⟨w, rfl, Rat.le_trans hq (Rat.le_of_lt z)⟩
  · exact ⟨v, rfl, hq⟩
theorem wi_mono {l : List (Rat × Rat × Rat)} {p : Int} {b : Option WV} {q : Rat} (h : ge b q) : ∀ i, ge (wi l p b i) q
  | 0 => h
  | i + 1 => wup_mono (wi_mono h i)
theorem wi_mem {l : List (Rat × Rat × Rat)} {p : Int} {b : Option WV} : ∀ i, i ≤ l.length → ∀ k (hk : k < l.length), k < i → ge (wi l p b i) (1 + l[k].2.2 / l[k].1)
  | 0, _, k, _, h => by omega
  | i + 1, hi, k, hk, h => by
    rw [wi_succ l p b (by omega : i < l.length)]
    by_cases e : k = i
    · subst e; exact wup_ge _ _
    · exact wup_mono (wi_mem i (by omega) k hk (by omega))
theorem wr_mem {x : Int × List (Int × Rat) × Rat} : ∀ i (p : Nat), p < i → ∀ t ∈ pcs x (p : Nat), ge (wr x i) (1 + t.2.2 / t.1)
  | 0, p, h, _, _ => by omega
  | i + 1, p, h, t, ht => by
    show ge (wi (pcs x (i : Nat)) (i : Nat) (wr x i) (pcs x (i : Nat)).length) _
    by_cases e : p = i
    · subst e
      obtain ⟨k, hk, rfl⟩ := List.mem_iff_getElem.mp ht
      exact wi_mem _ (Nat.le_refl _) k hk hk
    · exact wi_mono (wr_mem i p (by omega) t ht) _
theorem wi_src {l : List (Rat × Rat × Rat)} {p : Int} {b : Option WV} : ∀ i, i ≤ l.length → ∀ w, wi l p b i = some w → b = some w ∨ ∃ (k : Nat) (t : Rat × Rat × Rat), l[k]? = some t ∧ w = (1 + t.2.2 / t.1, p, t.1, k == 0)
  | 0, _, w, h => .inl h
  | i + 1, hi, w, h => by
    have hl : i < l.length := by omega
    rw [wi_succ l p b hl] at h
    have ih := wi_src (l := l) (p := p) (b := b) i (by omega)
    unfold wup at h
    split at h
    · cases h
      exact .inr ⟨i, l[i], List.getElem?_eq_getElem hl, rfl⟩
    · rename_i v hv
      split at h
      · cases h
        exact .inr ⟨i, l[i], List.getElem?_eq_getElem hl, rfl⟩
      · cases h
        exact ih _ hv
theorem wr_src {x : Int × List (Int × Rat) × Rat} : ∀ i w, wr x i = some w → ∃ (p : Nat), p < i ∧ ∃ (k : Nat) (t : Rat × Rat × Rat), (pcs x (p : Nat))[k]? = some t ∧ w = (1 + t.2.2 / t.1, (p : Int), t.1, k == 0)
  | 0, w, h => by cases h
  | i + 1, w, h => by
    have h' : wi (pcs x (i : Nat)) (i : Nat) (wr x i) (pcs x (i : Nat)).length = some w := h
    rcases wi_src _ (Nat.le_refl _) w h' with q | ⟨k, t, e, rfl⟩
    · obtain ⟨p, hp, r⟩ := wr_src i w q
      exact ⟨p, by omega, r⟩
    · exact ⟨i, by omega, k, t, e, rfl⟩
/-! ### walks -/
theorem wk_some (c : Rat) (T : List (Int × Rat)) (p : Int) (f : Rat) : ∀ k i w, wk c T p f k i = some w → ∃ (j : Nat) (hj : j < T.length), i ≤ j ∧ T[j].1 = p ∧ ¬ T[j].2 < f ∧ w = bs c T j + f ∧ ∀ l (hl : l < T.length), i ≤ l → l < j → T[l].1 = p → T[l].2 < f
  | 0, i, w, h => by simp [wk] at h
  | k + 1, i, w, h => by
    unfold wk at h
    by_cases q : i < T.length
    · simp only [List.getElem?_eq_getElem q] at h
      split at h
      · rename_i z
        cases h
        exact ⟨i, q, Nat.le_refl _, z.1, z.2, rfl, fun l _ a b => by omega⟩
      · rename_i z
        obtain ⟨j, hj, a, b, c, d, e⟩ := wk_some c T p f k (i + 1) w h
        refine ⟨j, hj, by omega, b, c, d, fun l hl a' b' e' => ?_⟩
        by_cases y : l = i
        · subst y
          exact Classical.not_not.mp fun u => z ⟨e', u⟩
        · exact e l hl (by omega) b' e'
    · simp [List.getElem?_eq_none (show T.length ≤ i by omega)] at h
theorem wk_first (c : Rat) (T : List (Int × Rat)) (p : Int) (f : Rat) {j : Nat} (hj : j < T.length) (h1 : T[j].1 = p) (h2 : ¬ T[j].2 < f) (h3 : ∀ l (hl : l < T.length), l < j → T[l].1 = p → T[l].2 < f) : ∀ k i, i ≤ j → j - i < k → wk c T p f k i = some (bs c T j + f)
  | 0, i, _, h => by omega
  | k + 1, i, hi, h => by
    unfold wk
    have q : i < T.length := by omega
    simp only [List.getElem?_eq_getElem q]
    by_cases e : i = j
    · subst e
      rw [if_pos ⟨h1, h2⟩]
    · rw [if_neg fun z => z.2 (h3 i q (by omega) z.1)]
      exact wk_first c T p f hj h1 h2 h3 k (i + 1) (by omega) (by omega)
theorem pc_keep (c : Rat) (T : List (Int × Rat)) (p : Int) {t : Rat × Rat × Rat} {j : Nat} (h : t ∈ (pc c T p j).2) : ∀ d, j + d ≤ T.length → t ∈ (pc c T p (j + d)).2
  | 0, _ => h
  | d + 1, hd => by
    have ih := pc_keep c T p h d (by omega)
    have hl : j + d < T.length := by omega
    show t ∈ (pc c T p (j + d + 1)).2
    rw [pc_succ c T p hl]
    split
    · simp only []
      split
      · exact ih
      · exact List.mem_append_left _ ih
    · exact ih
theorem div_anti {a s f : Rat} (h0 : 0 ≤ a) (hs : 0 < s) (h : s ≤ f) : a / f ≤ a / s := by
  have hf : 0 < f := by grind
  apply Rat.not_lt.mp
  intro z
  rw [Rat.div_lt_iff hs] at z
  have e : a / f * f = a := Rat.div_mul_cancel (by grind)
  have n : 0 ≤ a / f := by
    apply Rat.not_lt.mp
    intro y
    rw [Rat.div_lt_iff hf] at y
    grind
  have := Rat.mul_le_mul_of_nonneg_left h n
  grind
theorem bs_nonneg {x : Int × List (Int × Rat) × Rat} (o : OkP x) : ∀ i, i ≤ x.2.1.length → 0 ≤ bs x.2.2 x.2.1 i ∧ (0 < i → 0 < bs x.2.2 x.2.1 i)
  | 0, _ => ⟨Rat.le_refl, fun h => by omega⟩
  | i + 1, h => by
    have hi : i < x.2.1.length := by omega
    have g : x.2.1.getD i (0, 0) = x.2.1[i] := by simp [hi]
    have := (o.t _ (List.getElem_mem hi)).pos
    have := o.c0
    obtain ⟨a, _⟩ := bs_nonneg o i (by omega)
    rw [bs, g]
    exact ⟨by grind, fun _ => by grind⟩
theorem div_one_add {a f : Rat} (h : 0 < f) : (a + f) / f = 1 + a / f := by
  rw [Rat.div_def, Rat.add_mul, ← Rat.div_def, Rat.mul_inv_cancel f (by grind)]
  grind
/-- no place is worse -/
theorem worst_ge {x : Int × List (Int × Rat) × Rat} (o : OkP x) {p : Nat} (hp : p < x.1.toNat) {f w : Rat} (hf : 1 ≤ f) (h : wkd x (p : Nat) f = some w) : ge (wr x x.1.toNat) (w / f) := by
  obtain ⟨j, hj, _, h1, h2, rfl, h3⟩ := wk_some _ _ _ _ _ _ _ h
  have m : (pc x.2.2 x.2.1 (p : Nat) j).1 < f := by
    rcases pc_src x.2.2 x.2.1 (p : Nat) j (by omega) with e | ⟨l, hl, a, b, e⟩
    · rw [e]; grind
    · rw [e]; exact h3 l hl (by omega) a b
  have tm : (mx (pc x.2.2 x.2.1 (p : Nat) j).1 1, x.2.1[j].2, bs x.2.2 x.2.1 j) ∈ pcs x (p : Nat) := by
    have e : pcs x (p : Nat) = (pc x.2.2 x.2.1 (p : Nat) (j + 1 + (x.2.1.length - (j + 1)))).2 := by
      unfold pcs; congr 2; omega
    rw [e]
    refine pc_keep _ _ _ ?_ _ (by omega)
    rw [pc_succ _ _ _ hj, if_pos ⟨h1, by grind⟩]
    simp only []
    rw [if_neg (by grind)]
    simp
  obtain ⟨v, e, q⟩ := wr_mem _ p hp _ tm
  refine ⟨v, e, ?_⟩
  refine Rat.le_trans ?_ q
  rw [div_one_add (by grind)]
  have b0 := (bs_nonneg o j (by omega)).1
  have mo : mx (pc x.2.2 x.2.1 (p : Nat) j).1 1 ≤ f := by unfold mx; split <;> grind
  have o1 : 1 ≤ mx (pc x.2.2 x.2.1 (p : Nat) j).1 1 := mx_one
  have := div_anti b0 (by grind : 0 < mx (pc x.2.2 x.2.1 (p : Nat) j).1 1) mo
  simp only []
  grind
end WR

namespace WR
open PySem PySem.Spec PyProof.Rows L2
/-! ### what a statement leaves -/
abbrev Pl := Int × List (Int × Rat) × Rat
def RS.Is (o : RS) (N : Fm → IH → Prop) (R : PV → IH → Prop) : Prop := match o with
  | .nx r h => N r h
  | .rt v h => R v h
  | _ => False
@[simp] theorem is_nx0 {r : Fm} {h : IH} {N : Fm → IH → Prop} {R : PV → IH → Prop} : (RS.nx r h).Is N R = N r h := rfl
@[simp] theorem is_rt0 {v : PV} {h : IH} {N : Fm → IH → Prop} {R : PV → IH → Prop} : (RS.rt v h).Is N R = R v h := rfl
theorem RS.Is.imp {o : RS} {N N' : Fm → IH → Prop} {R R' : PV → IH → Prop} (h : o.Is N R) (f : ∀ r h, N r h → N' r h) (g : ∀ v h, R v h → R' v h) : o.Is N' R' := by
  cases o with
  | nx r h1 => exact f _ _ h
  | rt v h1 => exact g _ _ h
  | _ => exact h.elim
theorem w_seq {A B : SX} {r : Fm} {h : IH} {N : Fm → IH → Prop} {R : PV → IH → Prop} (e : (A r h).Is (fun r1 h1 => (B r1 h1).Is N R) R) : (sSeq A B r h).Is N R := by
  simp only [sSeq]
  cases q : A r h with
  | nx r1 h1 => rw [q] at e; exact e
  | rt v h1 => rw [q] at e; exact e
  | bk r1 h1 => rw [q] at e; exact e.elim
  | ct r1 h1 => rw [q] at e; exact e.elim
  | ex x r1 h1 => rw [q] at e; exact e.elim
  | bad => rw [q] at e; exact e.elim
theorem w_for {I0 : Fm → IH → Res ItF} {g : TgF} {B : SX} {r : Fm} {h : IH} {N : Fm → IH → Prop} {R : PV → IH → Prop} {it : ItF} {h1 : IH} (n : Nat) (J : Nat → Fm → IH → Prop)
    (hI : I0 r h = .ok it h1) (hn : n < 1000000) (h0 : J 0 r h1)
    (hs : ∀ i r h, i < n → J i r h → ∃ v r1, it i h = some (some v) ∧ g v r = some r1 ∧ (B r1 h).Is (J (i + 1)) R)
    (he : ∀ r h, J n r h → it n h = some none ∧ N r h) : (sFor I0 g B r h).Is N R := by
  have key : ∀ k i r h, n - i < k → i ≤ n → J i r h → (forL it g B k i r h).Is N R := by
    intro k
    induction k with
    | zero => intro i r h hk; omega
    | succ k ih =>
      intro i r h hk hi hJ
      by_cases q : i < n
      · obtain ⟨v, r1, e1, e2, e3⟩ := hs i r h q hJ
        unfold forL
        simp only [e1, e2]
        cases z : B r1 h with
        | nx r2 h2 => rw [z] at e3; exact ih (i + 1) r2 h2 (by omega) (by omega) e3
        | rt v h2 => rw [z] at e3; exact e3
        | bk r1 h1 => rw [z] at e3; exact e3.elim
        | ct r1 h1 => rw [z] at e3; exact e3.elim
        | ex x r1 h1 => rw [z] at e3; exact e3.elim
        | bad => rw [z] at e3; exact e3.elim
      · have : i = n := by omega
        subst this
        obtain ⟨e1, e2⟩ := he r h hJ
        rw [for_end e1]
        exact e2
  show (toS (I0 r h) r fun it h1 => forL it g B LIM 0 r h1).Is N R
  rw [hI]
  exact key LIM 0 r h1 (by simp [LIM]; omega) (by omega) h0
theorem w_while {c : TX} {B : SX} {r : Fm} {h : IH} {N : Fm → IH → Prop} {R : PV → IH → Prop} (n : Nat) (J : Nat → Fm → IH → Prop) (hn : n < 1000000) (h0 : J n r h)
    (hs : ∀ i r h, J i r h → ∃ b h1, c r h = .ok b h1 ∧ (b = true → ∃ j, i = j + 1 ∧ (B r h1).Is (J j) R) ∧ (b = false → N r h1)) : (sWhile c B r h).Is N R := by
  have key : ∀ k i r h, i < k → J i r h → (whileL c B k r h).Is N R := by
    intro k
    induction k with
    | zero => intro i r h hk; omega
    | succ k ih =>
      intro i r h hk hJ
      obtain ⟨b, h1, e1, e2, e3⟩ := hs i r h hJ
      unfold whileL
      simp only [e1, toS]
      cases b with
      | false => exact e3 rfl
      | true =>
        obtain ⟨j, rfl, e4⟩ := e2 rfl
        simp only [if_true]
        cases z : B r h1 with
        | nx r2 h2 => rw [z] at e4; exact ih j r2 h2 (by omega) e4
        | rt v h2 => rw [z] at e4; exact e4
        | bk r1 h1 => rw [z] at e4; exact e4.elim
        | ct r1 h1 => rw [z] at e4; exact e4.elim
        | ex x r1 h1 => rw [z] at e4; exact e4.elim
        | bad => rw [z] at e4; exact e4.elim
  exact key LIM n r h (by simp [LIM]; omega) h0
theorem w_fn {ps n : Nat} {B : SX} {us : List PV} {h : IH} {P : PV → IH → Prop} (hl : us.length = ps) (e : (B (us.map some ++ List.replicate n none) h).Is (fun _ h1 => P .non h1) P) : ∃ v h1, fn ps n B us h = .ok v h1 ∧ P v h1 := by
  unfold fn
  simp only [hl, if_true]
  cases z : B (us.map some ++ List.replicate n none) h with
  | nx r2 h2 => rw [z] at e; exact ⟨_, _, rfl, e⟩
  | rt v h2 => rw [z] at e; exact ⟨_, _, rfl, e⟩
  | bk r1 h1 => rw [z] at e; exact e.elim
  | ct r1 h1 => rw [z] at e; exact e.elim
  | ex x r1 h1 => rw [z] at e; exact e.elim
  | bad => rw [z] at e; exact e.elim
theorem w_set {A : EX} {i : Nat} {r : Fm} {h h1 : IH} {v : PV} {N : Fm → IH → Prop} {R : PV → IH → Prop} (e : A r h = .ok v h1) (k : N (r.set i (some v)) h1) : (sSet i A r h).Is N R := by
  simp only [sSet, e, toS]; exact k
theorem w_nil {r : Fm} {h : IH} {N : Fm → IH → Prop} {R : PV → IH → Prop} (k : N r h) : (sNil r h).Is N R := k
theorem w_expr {A : EX} {r : Fm} {h h1 : IH} {v : PV} {N : Fm → IH → Prop} {R : PV → IH → Prop} (e : A r h = .ok v h1) (k : N r h1) : (sExpr A r h).Is N R := by
  simp only [sExpr, e, toS]; exact k
theorem w_ret {A : EX} {r : Fm} {h h1 : IH} {v : PV} {N : Fm → IH → Prop} {R : PV → IH → Prop} (e : A r h = .ok v h1) (k : R v h1) : (sRet A r h).Is N R := by
  simp only [sRet, e, toS]; exact k
theorem w_if {c : TX} {A B : SX} {r : Fm} {h h1 : IH} {b : Bool} {N : Fm → IH → Prop} {R : PV → IH → Prop} (e : c r h = .ok b h1) (k1 : b = true → (A r h1).Is N R) (k2 : b = false → (B r h1).Is N R) : (sIf c A B r h).Is N R := by
  simp only [sIf, e, toS]
  cases b with
  | true => exact k1 rfl
  | false => exact k2 rfl
/-! ### heaps that only grow -/
def Pre (h g : IH) : Prop := ∃ u, g = h ++ u
theorem Pre.refl (h : IH) : Pre h h := ⟨[], by simp⟩
theorem Pre.trans {h g k : IH} (a : Pre h g) (b : Pre g k) : Pre h k := by
  obtain ⟨u, rfl⟩ := a
  obtain ⟨v, rfl⟩ := b
  exact ⟨u ++ v, by simp⟩
theorem Pre.of (h t : IH) : Pre h (h ++ t) := ⟨t, rfl⟩
theorem Pre.app {h g : IH} (a : Pre h g) (t : IH) : Pre h (g ++ t) := a.trans (.of g t)
theorem Pre.get {h g : IH} (a : Pre h g) {n : Nat} {o : MO} (e : h[n]? = some o) : g[n]? = some o := by
  obtain ⟨u, rfl⟩ := a
  exact get_old e
theorem Pre.le {h g : IH} (a : Pre h g) : h.length ≤ g.length := by
  obtain ⟨u, rfl⟩ := a
  simp
theorem Pre.set {h g : IH} (a : Pre h g) {n : Nat} (o : MO) (hn : h.length ≤ n) : Pre h (g.set n o) := by
  obtain ⟨u, rfl⟩ := a
  rw [List.set_append_right _ _ hn]
  exact ⟨_, rfl⟩
theorem get_set_ne {g : IH} {n m : Nat} {o : MO} (h : n ≠ m) : (g.set n o)[m]? = g[m]? := List.getElem?_set_ne h
theorem get_set_eq {g : IH} {n : Nat} {o q : MO} (e : g[n]? = some q) : (g.set n o)[n]? = some o := List.getElem?_set_self (lt_of_get e)
/-! ### slices -/
theorem cut_to {α : Type} (xs : List α) (k : Int) (h0 : 0 ≤ k) : cutA xs none (some k) = xs.take k.toNat := by
  have : ¬ k < 0 := by omega
  simp only [cutA, HT.sIx, List.drop_zero, Nat.sub_zero]
  simp only [this, if_false]
  rw [List.take_eq_take_iff]
  omega
theorem cut_from {α : Type} (xs : List α) (k : Int) (h0 : 0 ≤ k) : cutA xs (some k) none = xs.drop k.toNat := by
  have : ¬ k < 0 := by omega
  simp only [cutA, HT.sIx]
  simp only [this, if_false]
  rw [List.take_of_length_le (by simp)]
  by_cases q : k.toNat ≤ xs.length
  · rw [show min k.toNat xs.length = k.toNat by omega]
  · rw [List.drop_eq_nil_of_le (by omega), List.drop_eq_nil_of_le (by omega)]
/-! ### a comprehension with a test -/
theorem lc_gen {it : ItF} {g : TgF} {c : TX} {A : EX} {r0 : Fm} {base : IH} {n : Nat} (F : Nat → PV) (b : Nat → Bool) (hn : n < 16777216)
    (hit : ∀ i t, i < n → ∃ v r1 t', it i (base ++ t) = some (some v) ∧ g v r0 = some r1 ∧ c r1 (base ++ t) = .ok (b i) (base ++ (t ++ t')) ∧ (b i = true → ∃ t2, A r1 (base ++ (t ++ t')) = .ok (F i) (base ++ (t ++ (t' ++ t2)))))
    (hend : ∀ t, it n (base ++ t) = some none) : ∀ k i t, i ≤ n → n - i < k → ∃ t', lcL it g c A r0 base.length k i (base ++ .lst (((List.range i).filter b).map F) :: t) = .ok () (base ++ .lst (((List.range n).filter b).map F) :: t') := by
  intro k
  induction k with
  | zero => intro i t _ h; omega
  | succ k ih =>
    intro i t hi hk
    by_cases q : i < n
    · obtain ⟨v, r1, t', e1, e2, e3, e4⟩ := hit i (.lst (((List.range i).filter b).map F) :: t) q
      have fl : ((List.range i).filter b).length < 16777216 := by
        have := List.length_filter_le b (List.range i)
        simp at this; omega
      cases hb : b i with
      | true =>
        obtain ⟨t2, e4⟩ := e4 hb
        obtain ⟨t3, e⟩ := ih (i + 1) (t ++ (t' ++ t2)) (by omega) (by omega)
        refine ⟨t3, ?_⟩
        rw [← e]
        conv => lhs; unfold lcL
        rw [hb] at e3
        simp only [List.cons_append] at e3 e4
        simp [e1, e2, e3, e4, fl, List.range_succ, List.filter_append, hb]
      | false =>
        obtain ⟨t3, e⟩ := ih (i + 1) (t ++ t') (by omega) (by omega)
        refine ⟨t3, ?_⟩
        rw [← e]
        conv => lhs; unfold lcL
        rw [hb] at e3
        simp only [List.cons_append] at e3
        simp [e1, e2, e3, List.range_succ, List.filter_append, hb]
    · have : i = n := by omega
      subst this
      refine ⟨t, ?_⟩
      unfold lcL
      simp [hend]
/-- the whole of it -/
theorem lc_all {I : Fm → IH → Res ItF} {it : ItF} {g : TgF} {c : TX} {A : EX} {vs : List Nat} {r : Fm} {h base : IH} {n : Nat} (F : Nat → PV) (b : Nat → Bool) (hn : n < 1000000) (hI : I r h = .ok it base)
    (hit : ∀ i t, i < n → ∃ v r1 t', it i (base ++ t) = some (some v) ∧ g v (wipeF r vs) = some r1 ∧ c r1 (base ++ t) = .ok (b i) (base ++ (t ++ t')) ∧ (b i = true → ∃ t2, A r1 (base ++ (t ++ t')) = .ok (F i) (base ++ (t ++ (t' ++ t2)))))
    (hend : ∀ t, it n (base ++ t) = some none) : ∃ t, eLc I g c A vs r h = .ok (.obj base.length) (base ++ .lst (((List.range n).filter b).map F) :: t) := by
  obtain ⟨t, e⟩ := lc_gen F b (by omega) hit hend LIM 0 [] (by omega) (by simp [LIM]; omega)
  refine ⟨t, ?_⟩
  simp only [List.range_zero, List.filter_nil, List.map_nil] at e
  simp [eLc, hI, e]
theorem filt_range {α : Type} (L : List α) (d : α) (P : α → Bool) : ((List.range L.length).filter fun i => P (L.getD i d)).map (fun i => L.getD i d) = L.filter P := by
  have e : (List.range L.length).map (fun i => L.getD i d) = L := by
    apply List.ext_getElem
    · simp
    · intro i h1 h2; simp at h1; simp [h1]
  conv => rhs; rw [← e]
  rw [List.filter_map]; rfl
theorem any_eqv {α : Type} [DecidableEq α] {n : Nat} {enc : α → PV} {den : α → PyData} (e : EncOk n enc den) (a : α) (xs : List α) : ((xs.map den).any fun z => PyData.eqv z (den a)) = decide (a ∈ xs) := by
  induction xs with
  | nil => rfl
  | cons b bs ih =>
    rw [List.map_cons, List.any_cons, ih, e.eqv]
    by_cases q : b = a
    · subst q; simp
    · have : ¬ a = b := fun z => q z.symm
      simp [q, this]
theorem EncOk.in_obj {α : Type} [DecidableEq α] {n : Nat} {enc : α → PV} {den : α → PyData} (e : EncOk n enc den) (hn : n ≤ 11) (a : α) {k : Nat} {xs : List α} {h : IH} (hk : h[k]? = some (.lst (xs.map enc))) : pInB (enc a) (.obj k) h = some (decide (a ∈ xs)) := by
  have x := optAll_map xs fun z _ => e.dat 11 h z hn
  have y := e.dat 12 h a (by omega)
  have s : SeqAt.shaped (.list (xs.map den)) = true := by
    have l := canAll xs e.lay
    have d := depAll xs e.dep
    simp [SeqAt.shaped, PyData.canLay0, PyData.depth, l]; omega
  have s2 : SeqAt.shaped (den a) = true := by
    have := e.dep a
    simp [SeqAt.shaped, e.lay a]; omega
  have z : dataOf 12 h (.obj k) = some (.list (xs.map den)) := by simp [dataOf, hk, x]
  simp only [pInB, DEP, y, z, s, s2, any_eqv e]
  rfl
end WR

namespace WR
open PySem PySem.Spec PyProof.Rows L2
theorem minus_eq {A B : Nat} {a b : Rat} (ha : Sm A a) (hb : Sm B b) (hn : A + B ≤ 9000) (h : IH) : f_minus [fq a, fq b] h = .ok (fq (a - b)) h := by
  have r := ratio_eq (a.num * b.den - b.num * a.den) (a.den * b.den) h (Nat.mul_pos (den_pos a) (den_pos b)) (Nat.lt_of_lt_of_le (den_lt ha hb) (Nat.pow_le_pow_right (by decide) hn))
  rw [Int.natCast_mul] at r
  simp [f_minus, b_minus, fq, atI, ixN, mul_ok ha.1 hb.dn (by omega), mul_ok hb.1 ha.dn (by omega), mul_ok ha.dn hb.dn (by omega), r, Rat.sub_def']
theorem Sm.neg {A : Nat} {a : Rat} (h : Sm A a) : Sm A (-a) := ⟨by rw [Rat.neg_num, Int.natAbs_neg]; exact h.1, h.2⟩
theorem Sm.sub {A B : Nat} {a b : Rat} (ha : Sm A a) (hb : Sm B b) : Sm (A + B + 1) (a - b) := by
  rw [Rat.sub_eq_add_neg]; exact ha.add hb.neg
theorem s1_mk (s : Rat) : mkRat (s.num - s.den) s.den = s - 1 := by
  rw [Rat.sub_def']; simp
/-- D is a denominator of q -/
def Dn (D : Nat) (q : Rat) : Prop := ∃ n : Int, q * (D : Rat) = (n : Rat)
theorem Dn.add {D : Nat} {a b : Rat} (ha : Dn D a) (hb : Dn D b) : Dn D (a + b) := by
  obtain ⟨n, hn⟩ := ha
  obtain ⟨m, hm⟩ := hb
  exact ⟨n + m, by rw [Rat.add_mul, hn, hm, Rat.intCast_add]⟩
theorem Dn.mul {D E : Nat} {a b : Rat} (ha : Dn D a) (hb : Dn E b) : Dn (D * E) (a * b) := by
  obtain ⟨n, hn⟩ := ha
  obtain ⟨m, hm⟩ := hb
  refine ⟨n * m, ?_⟩
  rw [Rat.intCast_mul, ← hn, ← hm, Rat.natCast_mul]
  grind
theorem Dn.int {D : Nat} (i : Int) {a : Rat} (ha : Dn D a) : Dn D ((i : Rat) * a) := by
  obtain ⟨n, hn⟩ := ha
  refine ⟨i * n, ?_⟩
  rw [Rat.intCast_mul, ← hn]; grind
theorem Dn.neg {D : Nat} {a : Rat} (ha : Dn D a) : Dn D (-a) := by
  obtain ⟨n, hn⟩ := ha
  exact ⟨-n, by rw [Rat.intCast_neg, ← hn]; grind⟩
theorem Dn.sub {D : Nat} {a b : Rat} (ha : Dn D a) (hb : Dn D b) : Dn D (a - b) := by
  rw [Rat.sub_eq_add_neg]; exact ha.add hb.neg
theorem Dn.more {D : Nat} (E : Nat) {a : Rat} (ha : Dn D a) : Dn (D * E) a := by
  obtain ⟨n, hn⟩ := ha
  refine ⟨n * E, ?_⟩
  rw [Rat.natCast_mul, ← Rat.mul_assoc, hn, Rat.intCast_mul]; rfl
theorem Dn.self (q : Rat) : Dn q.den q := ⟨q.num, by
  have e : q = mkRat q.num q.den := (Rat.mkRat_self q).symm
  have := Rat.mkRat_eq_div q.num q.den
  rw [← e] at this
  have d : ((q.den : Nat) : Rat) ≠ 0 := by
    have := q.den_nz
    intro z
    exact this (by exact_mod_cast z)
  exact (congrArg (fun z => z * ((q.den : Nat) : Rat)) this).trans (Rat.div_mul_cancel d)⟩
theorem Dn.le {D : Nat} {q : Rat} (h : Dn D q) (h0 : 0 < D) : q.den ≤ D := by
  obtain ⟨n, hn⟩ := h
  have d : ((D : Nat) : Rat) ≠ 0 := by
    intro z
    have : D = 0 := by exact_mod_cast z
    omega
  have e : q = mkRat n D := by
    rw [Rat.mkRat_eq_div, ← hn, Rat.div_def, Rat.mul_assoc, Rat.mul_inv_cancel _ d, Rat.mul_one]
  rw [e, Rat.den_mkRat, if_neg (by omega)]
  exact Nat.div_le_self _ _
/-- a size by a denominator and a bound -/
theorem sm_of {q : Rat} {D V N : Nat} (hd : Dn D q) (D0 : 0 < D) (h0 : 0 ≤ q) (hv : q ≤ (V : Rat)) (h1 : V * D < 2 ^ N) (h2 : D < 2 ^ N) : Sm N q := by
  have dl := hd.le D0
  have dp := den_pos q
  refine ⟨?_, Nat.lt_of_le_of_lt dl h2⟩
  have e : q.num ≤ (V : Int) * q.den := by
    have := (Rat.le_iff q (V : Rat)).mp hv
    simpa using this
  have n0 : 0 ≤ q.num := by
    have := (Rat.le_iff 0 q).mp h0
    simpa using this
  have : q.num.natAbs ≤ V * q.den := by
    have : (q.num.natAbs : Int) ≤ ((V * q.den : Nat) : Int) := by rw [Int.natCast_mul]; omega
    exact_mod_cast this
  exact Nat.lt_of_le_of_lt (Nat.le_trans this (Nat.mul_le_mul_left V dl)) h1
end WR

namespace WR
open PySem PySem.Spec PyProof.Rows L2
/-! ### how far within a share: the row of greatest reaches -/
/-- x k and x 1 + .. + x k; x 0 is 1 and not counted -/
def xs (h : Rat) : Nat → Rat × Rat
  | 0 => (1, 0)
  | k + 1 => (h * (xs h k).1 - (xs h k).2, h * (xs h k).1)
theorem xs1 (h : Rat) (k : Nat) : (xs h (k + 1)).1 = h * (xs h k).1 - (xs h k).2 := rfl
theorem xs2 (h : Rat) (k : Nat) : (xs h (k + 1)).2 = h * (xs h k).1 := rfl
theorem xs_add (h : Rat) (k : Nat) : (xs h (k + 1)).2 = (xs h k).2 + (xs h (k + 1)).1 := by rw [xs1, xs2]; grind
def Alive (h : Rat) (n : Nat) : Prop := ∀ k, k ≤ n → 0 < (xs h k).1
theorem Alive.less {h : Rat} {n m : Nat} (a : Alive h n) (l : m ≤ n) : Alive h m := fun k hk => a k (by omega)
theorem Alive.s0 {h : Rat} {n : Nat} (a : Alive h n) : ∀ k, k ≤ n → 0 ≤ (xs h k).2
  | 0, _ => Rat.le_refl
  | k + 1, hk => by
    have := a.s0 k (by omega)
    have := a (k + 1) hk
    rw [xs_add]; grind
theorem le_of_mul {a b p : Rat} (hp : 0 < p) (h : a * p ≤ b * p) : a ≤ b := by
  rcases Rat.le_total (a := a) (b := b) with z | z
  · exact z
  · by_cases c : a = b
    · rw [c]; exact Rat.le_refl
    · have : 0 < a - b := by grind
      have := Rat.mul_pos this hp
      grind
/-- one step of the row against sums that grow less -/
theorem dom_step {P P' S S' : Rat} (hP : 0 < P) (h1 : P ≤ S) (h2 : P ≤ P') (h3 : P' * S ≤ S' * P) : P' - P ≤ S' - S ∧ P' ≤ S' := by
  have a : P' - P ≤ S' - S := by
    refine le_of_mul hP ?_
    have : (P' - P) * P ≤ (P' - P) * S := Rat.mul_le_mul_of_nonneg_left h1 (by grind)
    grind
  exact ⟨a, by grind⟩
theorem xs_mono {h H : Rat} (h0 : 0 ≤ h) (l : h ≤ H) {n : Nat} (a : Alive h n) : ∀ k, k ≤ n → (xs h k).1 ≤ (xs H k).1 ∧ (xs h k).2 ≤ (xs H k).2 ∧ (k < n → (xs h (k + 1)).2 * (xs H k).2 ≤ (xs H (k + 1)).2 * (xs h k).2)
  | 0, _ => ⟨Rat.le_refl, Rat.le_refl, fun _ => by simp [xs]⟩
  | 1, hk => by
    have e1 : xs h 1 = (h * 1 - 0, h * 1) := rfl
    have e2 : xs H 1 = (H * 1 - 0, H * 1) := rfl
    refine ⟨by rw [e1, e2]; grind, by rw [e1, e2]; grind, fun hn => ?_⟩
    show h * (xs h 1).1 * (xs H 1).2 ≤ H * (xs H 1).1 * (xs h 1).2
    rw [e1, e2]
    have q0 : 0 ≤ h * H := Rat.mul_nonneg h0 (by grind)
    have := Rat.mul_le_mul_of_nonneg_right l q0
    simp only
    grind
  | k + 2, hk => by
    obtain ⟨a1, a2, a3⟩ := xs_mono h0 l a (k + 1) (by omega)
    have c := a3 (by omega)
    have x1 := a (k + 1) (by omega)
    have x2 := a (k + 2) hk
    have s1 := a.s0 k (by omega)
    have e1 := xs_add h k
    have e2 := xs_add h (k + 1)
    have e3 := xs_add H (k + 1)
    obtain ⟨d1, d2⟩ := dom_step (P := (xs h (k + 1)).2) (P' := (xs h (k + 2)).2) (by grind) a2 (by grind) c
    refine ⟨by grind, d2, fun hn => ?_⟩
    rw [xs2 h (k + 2), xs2 H (k + 2)]
    have y : (xs h (k + 2)).1 = (xs h (k + 2)).2 - (xs h (k + 1)).2 := by grind
    have Y : (xs H (k + 2)).1 = (xs H (k + 2)).2 - (xs H (k + 1)).2 := by grind
    have q : (xs h (k + 2)).1 * (xs H (k + 2)).2 ≤ (xs H (k + 2)).1 * (xs h (k + 2)).2 := by rw [y, Y]; grind
    have q0 : 0 ≤ (xs h (k + 2)).1 * (xs H (k + 2)).2 := Rat.mul_nonneg (by grind) (by grind)
    have r1 : h * ((xs h (k + 2)).1 * (xs H (k + 2)).2) ≤ H * ((xs h (k + 2)).1 * (xs H (k + 2)).2) := Rat.mul_le_mul_of_nonneg_right l q0
    have r2 : H * ((xs h (k + 2)).1 * (xs H (k + 2)).2) ≤ H * ((xs H (k + 2)).1 * (xs h (k + 2)).2) := Rat.mul_le_mul_of_nonneg_left q (by grind)
    grind
/-- the row in integers -/
def xI (a b : Int) : Nat → Int × Int
  | 0 => (1, 0)
  | k + 1 => (a * (xI a b k).1 - b * (xI a b k).2, a * (xI a b k).1)
theorem xI_eq {h : Rat} {a : Int} {b : Nat} (e : h * (b : Rat) = (a : Rat)) : ∀ k, (xs h k).1 * ((b ^ k : Nat) : Rat) = ((xI a b k).1 : Rat) ∧ (xs h k).2 * ((b ^ k : Nat) : Rat) = ((xI a b k).2 : Rat)
  | 0 => ⟨by simp [xs, xI], by simp [xs, xI]⟩
  | k + 1 => by
    obtain ⟨i1, i2⟩ := xI_eq e k
    have p : ((b ^ (k + 1) : Nat) : Rat) = ((b ^ k : Nat) : Rat) * (b : Rat) := by rw [Nat.pow_succ, Rat.natCast_mul]
    refine ⟨?_, ?_⟩
    · rw [xs1, p]
      show _ = ((a * (xI a b k).1 - b * (xI a b k).2 : Int) : Rat)
      rw [Rat.intCast_sub, Rat.intCast_mul, Rat.intCast_mul, ← i1, ← i2, ← e]
      have : (((b : Int)) : Rat) = (b : Rat) := rfl
      rw [this]
      grind
    · rw [xs2, p]
      show _ = ((a * (xI a b k).1 : Int) : Rat)
      rw [Rat.intCast_mul, ← i1, ← e]
      grind
/-- signs by the integers -/
theorem xI_neg {h : Rat} {a : Int} {b : Nat} (e : h * (b : Rat) = (a : Rat)) (b0 : 0 < b) {k : Nat} (z : (xI a b k).1 ≤ 0) : (xs h k).1 ≤ 0 := by
  have p : (0 : Rat) < ((b ^ k : Nat) : Rat) := by exact_mod_cast Nat.pow_pos b0
  refine le_of_mul p ?_
  rw [(xI_eq e k).1, Rat.zero_mul]
  exact_mod_cast z
theorem xI_ge {h : Rat} {a : Int} {b : Nat} (e : h * (b : Rat) = (a : Rat)) (b0 : 0 < b) {k : Nat} {V : Nat} (z : (V : Int) * ((b ^ k : Nat) : Int) ≤ (xI a b k).1) : (V : Rat) ≤ (xs h k).1 := by
  have p : (0 : Rat) < ((b ^ k : Nat) : Rat) := by exact_mod_cast Nat.pow_pos b0
  refine le_of_mul p ?_
  rw [(xI_eq e k).1]
  exact_mod_cast z
/-- the loop in two numbers -/
def xL (a b : Int) : Nat → Int → Int → Int
  | 0, x, _ => x
  | k + 1, x, y => xL a b k (a * x - b * y) (a * x)
theorem xL_eq (a b : Int) : ∀ k j, xL a b k (xI a b j).1 (xI a b j).2 = (xI a b (j + k)).1
  | 0, j => rfl
  | k + 1, j => by
    have := xL_eq a b k (j + 1)
    rw [show j + (k + 1) = j + 1 + k by omega, ← this]
    rfl
theorem low_end : (xI 7999 2000 280).1 ≤ 0 := by
  have := xL_eq 7999 2000 280 0
  rw [Nat.zero_add] at this
  rw [← this]
  decide +kernel
theorem mid_end : (xI 398 100 44).1 ≤ 0 := by
  have := xL_eq 398 100 44 0
  rw [Nat.zero_add] at this
  rw [← this]
  decide +kernel
theorem mid_alive : ∀ k, k ≤ 42 → 0 < (xI 398 100 k).1 := by
  have q : ∀ k, k < 43 → 0 < xL 398 100 k 1 0 := by decide +kernel
  intro k hk
  have := xL_eq 398 100 k 0
  rw [Nat.zero_add] at this
  rw [← this]
  exact q k (by omega)
theorem mid_high : (1000000000000 : Nat) * ((100 ^ 42 : Nat) : Int) ≤ (xI 398 100 42).1 := by
  have := xL_eq 398 100 42 0
  rw [Nat.zero_add] at this
  rw [← this]
  decide +kernel
theorem low_rat : (7999 / 2000 : Rat) * ((2000 : Nat) : Rat) = ((7999 : Int) : Rat) := by decide +kernel
theorem mid_rat : (398 / 100 : Rat) * ((100 : Nat) : Rat) = ((398 : Int) : Rat) := by decide +kernel
/-- the row ends -/
theorem first_end (h : Rat) : ∀ {n : Nat}, ¬ Alive h n → ∃ K, K < n ∧ Alive h K ∧ (xs h (K + 1)).1 ≤ 0
  | 0, e => absurd (fun k hk => by rw [show k = 0 by omega]; show (0 : Rat) < 1; decide) e
  | n + 1, e => by
    by_cases a : Alive h n
    · refine ⟨n, by omega, a, ?_⟩
      rcases Rat.le_total (a := (xs h (n + 1)).1) (b := 0) with z | z
      · exact z
      · by_cases c : (xs h (n + 1)).1 = 0
        · rw [c]; exact Rat.le_refl
        · refine absurd (fun k hk => ?_) e
          rcases Nat.lt_or_ge n k with y | y
          · rw [show k = n + 1 by omega]; grind
          · exact a k y
    · obtain ⟨K, k1, k2, k3⟩ := first_end h a
      exact ⟨K, by omega, k2, k3⟩
theorem dies {h : Rat} (h0 : 0 ≤ h) (h1 : h ≤ 7999 / 2000) : ∃ K, K < 280 ∧ Alive h K ∧ (xs h (K + 1)).1 ≤ 0 := by
  have e : ¬ Alive h 280 := fun a => by
    have m := (xs_mono h0 h1 a 280 (Nat.le_refl _)).1
    have n := xI_neg low_rat (by decide) low_end
    have := a 280 (Nat.le_refl _)
    grind
  exact first_end h e
theorem dies2 {h : Rat} (h0 : 0 ≤ h) (h1 : h ≤ 398 / 100) : ∃ K, K < 44 ∧ Alive h K ∧ (xs h (K + 1)).1 ≤ 0 := by
  have e : ¬ Alive h 44 := fun a => by
    have m := (xs_mono h0 h1 a 44 (Nat.le_refl _)).1
    have n := xI_neg mid_rat (by decide) mid_end
    have := a 44 (Nat.le_refl _)
    grind
  exact first_end h e
theorem high {h : Rat} (h1 : 398 / 100 ≤ h) : Alive h 42 ∧ 1000000000000 ≤ (xs h 42).1 := by
  have a : Alive (398 / 100) 42 := fun k hk => by
    have p := xI_eq mid_rat k
    have q : (1 : Int) ≤ (xI 398 100 k).1 := mid_alive k hk
    have p0 : (0 : Rat) < ((100 ^ k : Nat) : Rat) := by exact_mod_cast Nat.pow_pos (by decide)
    have q1 : (1 : Rat) ≤ ((xI 398 100 k).1 : Rat) := by exact_mod_cast q
    rcases Rat.le_total (a := (xs (398 / 100) k).1) (b := 0) with z | z
    · have := Rat.mul_le_mul_of_nonneg_right z (show (0 : Rat) ≤ ((100 ^ k : Nat) : Rat) by grind)
      grind
    · by_cases c : (xs (398 / 100) k).1 = 0
      · rw [c] at p; grind
      · grind
  have h0 : (0 : Rat) ≤ 398 / 100 := by decide +kernel
  refine ⟨fun k hk => ?_, ?_⟩
  · have := a k hk
    have := (xs_mono h0 h1 a k hk).1
    grind
  · have := (xs_mono h0 h1 a 42 (Nat.le_refl _)).1
    have := xI_ge mid_rat (by decide) mid_high
    have e : ((1000000000000 : Nat) : Rat) = 1000000000000 := rfl
    grind
end WR

namespace WR
open PySem PySem.Spec PyProof.Rows L2
/-! ### sizes of the row -/
theorem xs_dn {h : Rat} {D : Nat} (hd : Dn D h) : ∀ k, Dn (D ^ k) (xs h k).1 ∧ Dn (D ^ k) (xs h k).2
  | 0 => ⟨⟨1, by simp [xs]⟩, ⟨0, by simp [xs]⟩⟩
  | k + 1 => by
    obtain ⟨a, b⟩ := xs_dn hd k
    have m : Dn (D ^ (k + 1)) (h * (xs h k).1) := by
      have := hd.mul a
      rwa [Nat.mul_comm, ← Nat.pow_succ] at this
    exact ⟨m.sub (by have := b.more D; rwa [← Nat.pow_succ] at this), m⟩
theorem xs_le {h : Rat} {V n : Nat} (h0 : 0 ≤ h) (hv : h ≤ (V : Rat)) (a : Alive h n) : ∀ k, k ≤ n → (xs h k).1 ≤ ((V ^ k : Nat) : Rat) ∧ (xs h (k + 1)).2 ≤ ((V ^ (k + 1) : Nat) : Rat)
  | 0, _ => by
    refine ⟨by show (1 : Rat) ≤ ((1 : Nat) : Rat); decide, ?_⟩
    rw [xs2, Nat.zero_add, Nat.pow_one]
    show h * 1 ≤ _
    grind
  | k + 1, hk => by
    obtain ⟨i1, i2⟩ := xs_le h0 hv a k (by omega)
    have s := a.s0 k (by omega)
    have x := a (k + 1) hk
    have l1 : (xs h (k + 1)).1 ≤ ((V ^ (k + 1) : Nat) : Rat) := by rw [xs1, ← xs2]; grind
    refine ⟨l1, ?_⟩
    rw [xs2, Nat.pow_succ V (k + 1), Rat.natCast_mul]
    have a1 : h * (xs h (k + 1)).1 ≤ (V : Rat) * (xs h (k + 1)).1 := Rat.mul_le_mul_of_nonneg_right hv (by grind)
    have a2 : (V : Rat) * (xs h (k + 1)).1 ≤ (V : Rat) * ((V ^ (k + 1) : Nat) : Rat) := Rat.mul_le_mul_of_nonneg_left l1 (by grind)
    grind
theorem xs_sm {h : Rat} {v n : Nat} (h0 : 0 ≤ h) (hv : h ≤ ((2 ^ v : Nat) : Rat)) (hd : h.den ≤ 2 ^ 11) (a : Alive h n) (k : Nat) (hk : k ≤ n + 1) : Sm ((11 + v) * k + 1) (xs h k).1 ∧ Sm ((11 + v) * k + 1) (xs h k).2 := by
  have D0 : 0 < h.den ^ k := Nat.pow_pos (den_pos h)
  have D1 : h.den ^ k ≤ 2 ^ (11 * k) := by rw [Nat.pow_mul]; exact Nat.pow_le_pow_left hd k
  obtain ⟨d1, d2⟩ := xs_dn (Dn.self h) k
  have b2 : h.den ^ k < 2 ^ ((11 + v) * k + 1) := Nat.lt_of_le_of_lt D1 (Nat.pow_lt_pow_right (by decide) (by
    have : 11 * k ≤ (11 + v) * k := Nat.mul_le_mul_right k (by omega)
    omega))
  have b1 : (2 ^ v) ^ k * h.den ^ k < 2 ^ ((11 + v) * k + 1) := by
    refine Nat.lt_of_le_of_lt (Nat.mul_le_mul_left _ D1) ?_
    rw [← Nat.pow_mul, ← Nat.pow_add]
    exact Nat.pow_lt_pow_right (by decide) (by rw [Nat.add_mul]; omega)
  have s0 : 0 ≤ (xs h k).2 ∧ (xs h k).2 ≤ (((2 ^ v) ^ k : Nat) : Rat) := by
    cases k with
    | zero => exact ⟨Rat.le_refl, by show (0 : Rat) ≤ ((1 : Nat) : Rat); decide⟩
    | succ k =>
      refine ⟨?_, (xs_le h0 hv a k (by omega)).2⟩
      rw [xs2]
      exact Rat.mul_nonneg h0 (by have := a k (by omega); grind)
  refine ⟨?_, sm_of d2 D0 s0.1 s0.2 b1 b2⟩
  rcases Rat.le_total (a := (xs h k).1) (b := 0) with z | z
  · have e : (xs h k).1 = -(-(xs h k).1) := by grind
    rw [e]
    refine (sm_of d1.neg D0 (by grind) ?_ b1 b2).neg
    cases k with
    | zero => exact absurd (show (1 : Rat) ≤ 0 from z) (by decide)
    | succ k =>
      have := a k (by omega)
      have n := Rat.mul_nonneg h0 (show 0 ≤ (xs h k).1 by grind)
      have := xs_add h k
      have := xs1 h k
      have := xs2 h k
      have := s0.2
      have := a.s0 k (by omega)
      have m : (xs h k).2 ≤ (((2 ^ v) ^ k : Nat) : Rat) := by
        cases k with
        | zero => show (0 : Rat) ≤ ((1 : Nat) : Rat); decide
        | succ k => exact (xs_le h0 hv a k (by omega)).2
      have u : (((2 ^ v) ^ k : Nat) : Rat) ≤ (((2 ^ v) ^ (k + 1) : Nat) : Rat) := by
        exact_mod_cast Nat.pow_le_pow_right (Nat.pow_pos (by decide)) (by omega)
      grind
  · rcases Nat.lt_or_ge n k with y | y
    · cases k with
      | zero => omega
      | succ k =>
        have := a.s0 k (by omega)
        refine sm_of d1 D0 z ?_ b1 b2
        have := s0.2
        have := xs_add h k
        grind
    · exact sm_of d1 D0 z (xs_le h0 hv a k y).1 b1 b2
/-! ### no plan does better -/
structure Ph (H a b s : Rat) (j : Nat) (P : Rat) : Prop where
  p0 : 0 ≤ P
  a1 : 1 ≤ a
  as : a ≤ s - P
  z : j = 0 → b < 1
  y : 1 ≤ j → 1 ≤ b ∧ b ≤ (xs H j).1 ∧ P ≤ (xs H j).2 ∧ 0 < P ∧ 1 ≤ H
  al : Alive H j
  x : H * mx b 1 * (xs H j).2 ≤ (xs H (j + 1)).2 * P
theorem mx_of {b : Rat} (h : 1 ≤ b) : mx b 1 = b := by unfold mx; split <;> grind
theorem mx_small {b : Rat} (h : b < 1) : mx b 1 = 1 := by unfold mx; simp [h]
theorem Ph.same {H a b s P : Rat} {j : Nat} (o : Ph H a b s j P) {f : Rat} (hf : a < f) : Ph H f b (s + f) j P :=
  ⟨o.p0, by have := o.a1; grind, by have := o.as; have := o.a1; grind, o.z, o.y, o.al, o.x⟩
theorem Ph.idle {H a b s P : Rat} {j : Nat} (o : Ph H a b s j P) {f : Rat} (hf : 0 ≤ f) : Ph H a b (s + f) j P :=
  ⟨o.p0, o.a1, by have := o.as; grind, o.z, o.y, o.al, o.x⟩
theorem Ph.little {H a b s P : Rat} {j : Nat} (o : Ph H a b s j P) {f : Rat} (f0 : 0 ≤ f) (hf : b < f) (h1 : f < 1) : Ph H a f (s + f) j P := by
  have j0 : j = 0 := by
    rcases Nat.eq_zero_or_pos j with z | z
    · exact z
    · have := (o.y z).1; grind
  subst j0
  have := o.x
  rw [mx_small (o.z rfl)] at this
  exact ⟨o.p0, o.a1, by have := o.as; grind, fun _ => h1, fun z => by omega, o.al, by rw [mx_small h1]; exact this⟩
theorem Ph.turn {H a b s P : Rat} {j : Nat} (o : Ph H a b s j P) {f : Rat} (h1 : 1 ≤ f) (k : s ≤ H * mx b 1) : Ph H f a (s + f) (j + 1) s := by
  have a1 := o.a1
  have as := o.as
  have p0 := o.p0
  have s0 := o.al.s0 j (Nat.le_refl _)
  have cross : s * (xs H j).2 ≤ (xs H (j + 1)).2 * P := by
    have := Rat.mul_le_mul_of_nonneg_right k s0
    have := o.x
    grind
  have e1 := xs_add H j
  have core : 1 ≤ H ∧ a ≤ (xs H (j + 1)).1 ∧ s ≤ (xs H (j + 1)).2 := by
    rcases Nat.eq_zero_or_pos j with z | z
    · subst z
      rw [mx_small (o.z rfl)] at k
      have e : xs H 1 = (H * 1 - 0, H * 1) := rfl
      rw [Nat.zero_add, e]
      refine ⟨by grind, by grind, by grind⟩
    · obtain ⟨_, _, q1, q2, q3⟩ := o.y z
      obtain ⟨d1, d2⟩ := dom_step q2 q1 (by grind) cross
      exact ⟨q3, by grind, d2⟩
  obtain ⟨c1, c2, c3⟩ := core
  refine ⟨by grind, h1, by grind, fun z => by omega, fun _ => ⟨a1, c2, c3, by grind, c1⟩, fun i hi => ?_, ?_⟩
  · rcases Nat.lt_or_ge j i with y | y
    · rw [show i = j + 1 by omega]; grind
    · exact o.al i y
  · rw [mx_of a1, xs2 H (j + 1)]
    have y : (xs H (j + 1)).1 = (xs H (j + 1)).2 - (xs H j).2 := by grind
    have w : a * (xs H (j + 1)).2 ≤ (s - P) * (xs H (j + 1)).2 := Rat.mul_le_mul_of_nonneg_right as (by grind)
    have q : a * (xs H (j + 1)).2 ≤ (xs H (j + 1)).1 * s := by rw [y]; grind
    have := Rat.mul_le_mul_of_nonneg_left q (show 0 ≤ H by grind)
    grind
def JJ (H a b s : Rat) : Prop := 0 ≤ s ∧ ((a < 1 ∧ b < 1) ∨ (∃ j P, Ph H a b s j P) ∨ ∃ j P, Ph H b a s j P)
theorem JJ.swap {H a b s : Rat} (o : JJ H a b s) : JJ H b a s := by
  obtain ⟨s0, ⟨x, y⟩ | x | x⟩ := o
  · exact ⟨s0, .inl ⟨y, x⟩⟩
  · exact ⟨s0, .inr (.inr x)⟩
  · exact ⟨s0, .inr (.inl x)⟩
/-- a turn on the first of the two -/
theorem JJ.on {H a b s f : Rat} (H0 : 0 ≤ H) (f0 : 0 < f) (o : JJ H a b s) (k : a < f → 1 ≤ f → s ≤ H * mx a 1) : JJ H (if a < f then f else a) b (s + f) := by
  obtain ⟨s0, o⟩ := o
  refine ⟨by grind, ?_⟩
  by_cases c : a < f
  · rw [if_pos c]
    rcases o with ⟨x, y⟩ | ⟨j, P, x⟩ | ⟨j, P, x⟩
    · by_cases d : f < 1
      · exact .inl ⟨d, y⟩
      · refine .inr (.inl ⟨0, s, s0, by grind, by grind, fun _ => y, fun z => by omega, fun i hi => by rw [show i = 0 by omega]; show (0 : Rat) < 1; decide, ?_⟩)
        have e : xs H 1 = (H * 1 - 0, H * 1) := rfl
        rw [Nat.zero_add, e]
        show H * mx b 1 * 0 ≤ H * 1 * s
        have := Rat.mul_nonneg H0 s0
        grind
    · exact .inr (.inl ⟨j, P, x.same c⟩)
    · by_cases d : f < 1
      · exact .inr (.inr ⟨j, P, x.little (by grind) c d⟩)
      · exact .inr (.inl ⟨j + 1, s, x.turn (by grind) (k c (by grind))⟩)
  · rw [if_neg c]
    rcases o with x | ⟨j, P, x⟩ | ⟨j, P, x⟩
    · exact .inl x
    · exact .inr (.inl ⟨j, P, x.idle (by grind)⟩)
    · exact .inr (.inr ⟨j, P, x.idle (by grind)⟩)
theorem JJ.fin {H a b s : Rat} (o : JJ H a b s) (ha : 1 ≤ a) (hb : 1 ≤ b) : ∃ j, 1 ≤ j ∧ Alive H j ∧ 1 ≤ H ∧ (a ≤ (xs H j).1 ∨ b ≤ (xs H j).1) := by
  obtain ⟨_, ⟨x, y⟩ | ⟨j, P, x⟩ | ⟨j, P, x⟩⟩ := o
  · grind
  · have j1 : 1 ≤ j := by
      rcases Nat.eq_zero_or_pos j with z | z
      · have := x.z z; grind
      · exact z
    exact ⟨j, j1, x.al, (x.y j1).2.2.2.2, .inr (x.y j1).2.1⟩
  · have j1 : 1 ≤ j := by
      rcases Nat.eq_zero_or_pos j with z | z
      · have := x.z z; grind
      · exact z
    exact ⟨j, j1, x.al, (x.y j1).2.2.2.2, .inl (x.y j1).2.1⟩
theorem pc1 (c : Rat) (T : List (Int × Rat)) (p : Int) {i : Nat} (hi : i < T.length) : (pc c T p (i + 1)).1 = if T[i].1 = p then (if (pc c T p i).1 < T[i].2 then T[i].2 else (pc c T p i).1) else (pc c T p i).1 := by
  rw [pc_succ c T p hi]
  by_cases a : T[i].1 = p <;> by_cases b : (pc c T p i).1 < T[i].2 <;> simp [a, b]
theorem JJ.all {H : Rat} (H0 : 0 ≤ H) {T : List (Int × Rat)} (hr : ∀ t ∈ T, t.1 = 0 ∨ t.1 = 1) (hp : ∀ t ∈ T, 0 < t.2)
    (keep : ∀ j (hj : j < T.length), (pc 0 T T[j].1 j).1 < T[j].2 → 1 ≤ T[j].2 → bs 0 T j ≤ 2 * (H * mx (pc 0 T T[j].1 j).1 1)) :
    ∀ i, i ≤ T.length → ∃ s, bs 0 T i = 2 * s ∧ JJ H (pc 0 T 0 i).1 (pc 0 T 1 i).1 s
  | 0, _ => ⟨0, by simp [bs], Rat.le_refl, .inl ⟨by show (0 : Rat) < 1; decide, by show (0 : Rat) < 1; decide⟩⟩
  | i + 1, h => by
    have hi : i < T.length := by omega
    obtain ⟨s, e, o⟩ := JJ.all H0 hr hp keep i (by omega)
    have k := keep i hi
    have f0 := hp _ (List.getElem_mem hi)
    have g : T.getD i (0, 0) = T[i] := by simp [hi]
    refine ⟨s + T[i].2, ?_, ?_⟩
    · show bs 0 T i + (2 * (T.getD i (0, 0)).2 + 0) = _
      rw [g, e]; grind
    · rw [pc1 0 T 0 hi, pc1 0 T 1 hi]
      rcases hr _ (List.getElem_mem hi) with z | z
      · rw [z] at k ⊢
        rw [if_pos rfl, if_neg (show ¬ (0 : Int) = 1 by decide)]
        exact o.on H0 f0 fun c d => by have := k c d; grind
      · rw [z] at k ⊢
        rw [if_pos rfl, if_neg (show ¬ (1 : Int) = 0 by decide)]
        exact (o.swap.on H0 f0 fun c d => by have := k c d; grind).swap
end WR

namespace WR
open PySem PySem.Spec PyProof.Rows L2
theorem numpos (q : Rat) : 0 < q.num ↔ 0 < q := by rw [Rat.lt_iff]; simp
theorem fi0 (q : Rat) (g : IH) : pIdx (fq q) (.int 0) g = .ok (.int q.num) g := rfl
theorem fi1 (q : Rat) (g : IH) : pIdx (fq q) (.int 1) g = .ok (.int q.den) g := rfl
theorem fNN (q : Rat) (g : IH) : pNotN (fq q) .non g = .ok (.bl true) g := rfl
theorem fIN (q : Rat) (g : IH) : pIsN (fq q) .non g = .ok (.bl false) g := rfl
/-- half of a share less one -/
def hf (q : Rat) : Rat := (q - 1) / 2
theorem hf_mk (q : Rat) : mkRat (q.num - q.den) (2 * q.den) = hf q := by
  have a := s1_mk q
  have d0 := den_pos q
  have dn : ((q.den : Nat) : Rat) ≠ 0 := fun z => by
    have : q.den = 0 := by exact_mod_cast z
    omega
  have d2 : ((2 * q.den : Nat) : Rat) ≠ 0 := fun z => by
    have : 2 * q.den = 0 := by exact_mod_cast z
    omega
  rw [Rat.mkRat_eq_div] at a
  have e1 : (((q.num - q.den : Int)) : Rat) = (q - 1) * ((q.den : Nat) : Rat) := by rw [← a, Rat.div_mul_cancel dn]
  rw [Rat.mkRat_eq_div, e1]
  have e2 : ((2 * q.den : Nat) : Rat) = 2 * ((q.den : Nat) : Rat) := by rw [Rat.natCast_mul]; rfl
  rw [e2] at d2 ⊢
  unfold hf
  grind
/-- a share that stands -/
structure OkS (q : Rat) : Prop where
  lo : 1 ≤ q
  hi : q ≤ 100
  d : q.den ≤ 1000
theorem OkS.sm {q : Rat} (o : OkS q) : Sm 20 q := sm_of (V := 100) (Dn.self q) (den_pos q) (by have := o.lo; grind) o.hi (Nat.lt_of_le_of_lt (Nat.mul_le_mul_left 100 o.d) (by decide)) (Nat.lt_of_le_of_lt o.d (by decide))
theorem OkS.h0 {q : Rat} (o : OkS q) : 0 ≤ hf q := by have := o.lo; unfold hf; grind
theorem OkS.h1 {q : Rat} (o : OkS q) : hf q ≤ 50 := by have := o.hi; unfold hf; grind
theorem hf_den (q : Rat) : (hf q).den ≤ 2 * q.den := by
  rw [← hf_mk, Rat.den_mkRat]
  split
  · have := den_pos q; omega
  · exact Nat.div_le_self _ _
theorem OkS.hd {q : Rat} (o : OkS q) : (hf q).den ≤ 2 ^ 11 := by have := hf_den q; have := o.d; omega
theorem OkS.hs {q : Rat} (o : OkS q) : Sm 20 (hf q) := sm_of (V := 50) (Dn.self _) (den_pos _) o.h0 o.h1 (Nat.lt_of_le_of_lt (Nat.mul_le_mul_left 50 o.hd) (by decide)) (Nat.lt_of_le_of_lt o.hd (by decide))
theorem OkS.nine {q : Rat} (o : OkS q) (h : q < 9) : hf q ≤ 7999 / 2000 := by
  have a := (Rat.lt_iff q 9).mp h
  have n : (9 : Rat).num = 9 := rfl
  have d : (9 : Rat).den = 1 := rfl
  rw [n, d] at a
  have od := o.d
  have e : q ≤ 8999 / 1000 := by
    rw [Rat.le_iff]
    have n : (8999 / 1000 : Rat).num = 8999 := by decide +kernel
    have d : (8999 / 1000 : Rat).den = 1000 := by decide +kernel
    rw [n, d]
    omega
  unfold hf
  grind
theorem half_eq {q : Rat} (o : OkS q) (g : IH) : f_half_of [fq q] g = .ok (fq (hf q)) g := by
  have r := ratio_eq (q.num - q.den) (2 * q.den) g (by have := den_pos q; omega) (Nat.lt_of_le_of_lt (Nat.mul_le_mul_left 2 o.d) (Nat.lt_of_lt_of_le (show _ < 2 ^ 11 by decide) (Nat.pow_le_pow_right (by decide) (by decide))))
  rw [hf_mk] at r
  have m : mulOk 2 (q.den : Int) = true := by unfold mulOk; simp
  have c : ((2 * q.den : Nat) : Int) = 2 * (q.den : Int) := by omega
  rw [c] at r
  simp [-pIdx, f_half_of, b_half_of, fi0, fi1, m, r]
theorem lhalf_eq {q : Rat} (o : OkS q) (g : IH) : f__law_f [.int (q.num - q.den), .int (2 * q.den)] g = .ok (fq (hf q)) g := by
  have sm := o.sm
  have r := lf_eq (q.num - q.den) (2 * q.den) g (by
    have : (q.num - q.den).natAbs < 2 ^ 21 := by
      have a := sm.1
      have b := sm.2
      omega
    exact Nat.lt_of_lt_of_le this (Nat.pow_le_pow_right (by decide) (by decide))) (by have := den_pos q; omega) (Nat.lt_of_le_of_lt (Nat.mul_le_mul_left 2 o.d) (Nat.lt_of_lt_of_le (show _ < 2 ^ 11 by decide) (Nat.pow_le_pow_right (by decide) (by decide))))
  rw [hf_mk] at r
  have c : ((2 * q.den : Nat) : Int) = 2 * (q.den : Int) := by omega
  rwa [c] at r
theorem checkshare_eq {q : Rat} (o : OkS q) (g : IH) : f_check_share [fq q] g = .ok .non g := by
  have w := within_eq o.sm (by decide) 1 100 (by decide) (by decide) g
  have z : decide (((1 : Int) : Rat) ≤ q ∧ q ≤ ((100 : Int) : Rat)) = true := decide_eq_true ⟨o.lo, o.hi⟩
  rw [z] at w
  have d := o.d
  have e : ¬ (1000 : Int) < (q.den : Int) := by omega
  simp [-pIdx, f_check_share, b_check_share, w, fi1, e]
/-- the first k of the row -/
def xl (h : Rat) (k : Nat) : List Rat := (List.range k).map fun i => (xs h (i + 1)).1
theorem xl_succ (h : Rat) (k : Nat) : xl h (k + 1) = xl h k ++ [(xs h (k + 1)).1] := by simp [xl, List.range_succ]
theorem xl_len (h : Rat) (k : Nat) : (xl h k).length = k := by simp [xl]
def rtC : TX := tBl (eOp pGt (eOp pIdx (eVar 4) (eC (.int 0))) (eC (.int 0)))
def rtB : SX := sSeq (sExpr (eAppend (eVar 2) (aCons (eVar 4) aNil)))
    (sSeq (sIf (tAndX (tBl (eOp pNotN (eVar 1) (eC .non))) (tNotX (tTru (eCall f_is_less (aCons (eVar 4) (aCons (eVar 1) aNil)))))) sBreak sNil)
    (sSeq (sSet 3 (eCall f_plus (aCons (eVar 3) (aCons (eVar 4) aNil))))
    (sSet 4 (eCall f_minus (aCons (eCall f_times (aCons (eVar 0) (aCons (eVar 4) aNil))) (aCons (eVar 3) aNil))))))
abbrev rtF (h : Rat) (fv : PV) (n k : Nat) : Fm := [some (fq h), some fv, some (.obj n), some (fq (xs h k).2), some (fq (xs h (k + 1)).1)]
theorem rt_cond (h : Rat) (fv : PV) (n k : Nat) (g : IH) : rtC (rtF h fv n k) g = .ok (decide (0 < (xs h (k + 1)).1)) g := by
  have := numpos (xs h (k + 1)).1
  by_cases c : 0 < (xs h (k + 1)).1
  · have d := this.mpr c
    simp [-pIdx, rtC, rtF, fi0, c, d]
  · have d : ¬ 0 < (xs h (k + 1)).1.num := fun z => c (this.mp z)
    simp [-pIdx, rtC, rtF, fi0, c, d]
theorem rt_go {h : Rat} {g : IH} {fv : PV} {N k : Nat} (hh : Sm 20 h) (x : Sm N (xs h (k + 1)).1) (s : Sm N (xs h k).2) (s' : Sm N (xs h (k + 1)).2) (hN : N + N + 20 ≤ 9000) (kl : k < 1000) (st : fv = .non ∨ ∃ f, fv = fq f ∧ Sm 800 f ∧ (xs h (k + 1)).1 < f) :
    rtB (rtF h fv g.length k) (g ++ [.lst ((xl h k).map fq)]) = .nx (rtF h fv g.length (k + 1)) (g ++ [.lst ((xl h (k + 1)).map fq)]) := by
  have p := plus_eq s x (by omega) (g ++ [.lst ((xl h (k + 1)).map fq)])
  rw [← xs_add] at p
  have t := times_eq hh x (by omega) (g ++ [.lst ((xl h (k + 1)).map fq)])
  have m := minus_eq (hh.mul x) s' (by omega) (g ++ [.lst ((xl h (k + 1)).map fq)])
  rw [← xs1] at m
  have l : (List.map fq (xl h k)).length < 16777216 := by simp [xl_len]; omega
  have a : List.map fq (xl h k) ++ [fq (xs h (k + 1)).1] = List.map fq (xl h (k + 1)) := by rw [xl_succ]; simp
  rcases st with rfl | ⟨f, rfl, fs, lt⟩
  · simp [-List.length_map, rtB, rtF, l, a, p, t, m]
  · have ls := less_eq x fs (by omega) (g ++ [.lst ((xl h (k + 1)).map fq)])
    simp [-pNotN, -List.length_map, rtB, rtF, l, a, p, t, m, ls, lt, fNN]
theorem rt_break {h f : Rat} {g : IH} {N k : Nat} (x : Sm N (xs h (k + 1)).1) (hN : N + 800 ≤ 9000) (kl : k < 1000) (fs : Sm 800 f) (le : f ≤ (xs h (k + 1)).1) :
    rtB (rtF h (fq f) g.length k) (g ++ [.lst ((xl h k).map fq)]) = .bk (rtF h (fq f) g.length k) (g ++ [.lst ((xl h (k + 1)).map fq)]) := by
  have l : (List.map fq (xl h k)).length < 16777216 := by simp [xl_len]; omega
  have a : List.map fq (xl h k) ++ [fq (xs h (k + 1)).1] = List.map fq (xl h (k + 1)) := by rw [xl_succ]; simp
  have ls := less_eq x fs (by omega) (g ++ [.lst ((xl h (k + 1)).map fq)])
  have nl : ¬ (xs h (k + 1)).1 < f := by grind
  simp [-pNotN, -List.length_map, rtB, rtF, l, a, ls, nl, fNN]
/-- without a far: up to the last above zero -/
theorem rt_all {h : Rat} {g : IH} {N K : Nat} (hh : Sm 20 h) (hs : ∀ k, k ≤ K + 1 → Sm N (xs h k).1 ∧ Sm N (xs h k).2) (hN : N + N + 20 ≤ 9000) (kl : K < 1000) (al : Alive h K) (e : (xs h (K + 1)).1 ≤ 0) :
    ∀ d k m, k + d = K → d < m → whileL rtC rtB m (rtF h .non g.length k) (g ++ [.lst ((xl h k).map fq)]) = .nx (rtF h .non g.length K) (g ++ [.lst ((xl h K).map fq)])
  | 0, k, m, hk, hm => by
    obtain ⟨m, rfl⟩ : ∃ i, m = i + 1 := ⟨m - 1, by omega⟩
    have : k = K := by omega
    subst this
    have c := rt_cond h .non g.length k (g ++ [.lst ((xl h k).map fq)])
    rw [decide_eq_false (by grind)] at c
    unfold whileL
    simp [c]
  | d + 1, k, m, hk, hm => by
    obtain ⟨m, rfl⟩ : ∃ i, m = i + 1 := ⟨m - 1, by omega⟩
    have c := rt_cond h .non g.length k (g ++ [.lst ((xl h k).map fq)])
    rw [decide_eq_true (al (k + 1) (by omega))] at c
    have b := rt_go (g := g) hh (hs (k + 1) (by omega)).1 (hs k (by omega)).2 (hs (k + 1) (by omega)).2 hN (by omega) (.inl rfl)
    have i := rt_all (g := g) hh hs hN kl al e d (k + 1) m (by omega) (by omega)
    unfold whileL
    simp only [c, toS, b, i, if_true]
theorem rt_far {h f : Rat} {g : IH} {N n : Nat} (hh : Sm 20 h) (hs : ∀ k, k ≤ n + 1 → Sm N (xs h k).1 ∧ Sm N (xs h k).2) (hN : N + N + 20 ≤ 9000) (hM : N + 800 ≤ 9000) (kl : n < 1000) (al : Alive h (n + 1)) (fs : Sm 800 f) (lt : ∀ k, k < n → (xs h (k + 1)).1 < f) (le : f ≤ (xs h (n + 1)).1) :
    ∀ d k m, k + d = n → d < m → whileL rtC rtB m (rtF h (fq f) g.length k) (g ++ [.lst ((xl h k).map fq)]) = .nx (rtF h (fq f) g.length n) (g ++ [.lst ((xl h (n + 1)).map fq)])
  | 0, k, m, hk, hm => by
    obtain ⟨m, rfl⟩ : ∃ i, m = i + 1 := ⟨m - 1, by omega⟩
    have : k = n := by omega
    subst this
    have c := rt_cond h (fq f) g.length k (g ++ [.lst ((xl h k).map fq)])
    rw [decide_eq_true (al (k + 1) (by omega))] at c
    have b := rt_break (g := g) (hs (k + 1) (by omega)).1 hM kl fs le
    unfold whileL
    simp only [c, toS, b, if_true]
  | d + 1, k, m, hk, hm => by
    obtain ⟨m, rfl⟩ : ∃ i, m = i + 1 := ⟨m - 1, by omega⟩
    have c := rt_cond h (fq f) g.length k (g ++ [.lst ((xl h k).map fq)])
    rw [decide_eq_true (al (k + 1) (by omega))] at c
    have b := rt_go (g := g) hh (hs (k + 1) (by omega)).1 (hs k (by omega)).2 (hs (k + 1) (by omega)).2 hN (by omega) (.inr ⟨f, rfl, fs, lt k (by omega)⟩)
    have i := rt_far (g := g) hh hs hN hM kl al fs lt le d (k + 1) m (by omega) (by omega)
    unfold whileL
    simp only [c, toS, b, i, if_true]
theorem x1_eq (h : Rat) : (xs h 1).1 = h := by show h * 1 - 0 = h; grind
theorem reaches_all {h : Rat} {N K : Nat} (hh : Sm 20 h) (hs : ∀ k, k ≤ K + 1 → Sm N (xs h k).1 ∧ Sm N (xs h k).2) (hN : N + N + 20 ≤ 9000) (kl : K < 1000) (al : Alive h K) (e : (xs h (K + 1)).1 ≤ 0) (g : IH) : f_reaches_to [fq h, .non] g = .ok (.obj g.length) (g ++ [.lst ((xl h K).map fq)]) := by
  have w := rt_all (g := g) hh hs hN kl al e K 0 LIM (by omega) (by unfold LIM; omega)
  have e0 : rtF h .non g.length 0 = [some (fq h), some .non, some (.obj g.length), some (.tup [.int 0, .int 1]), some (fq h)] := by unfold rtF; rw [x1_eq]; rfl
  rw [e0] at w
  have b : b_reaches_to = sSeq (sSet 2 (eLst aNil)) (sSeq (sSet 3 (eC (.tup [.int 0, .int 1]))) (sSeq (sSet 4 (eVar 0)) (sSeq (sWhile rtC rtB) (sRet (eVar 2))))) := rfl
  have x0 : (xl h 0).map fq = [] := rfl
  rw [x0] at w
  simp [f_reaches_to, b, sWhile, w, rtF]
theorem reaches_far {h f : Rat} {N n : Nat} (hh : Sm 20 h) (hs : ∀ k, k ≤ n + 1 → Sm N (xs h k).1 ∧ Sm N (xs h k).2) (hN : N + N + 20 ≤ 9000) (hM : N + 800 ≤ 9000) (kl : n < 1000) (al : Alive h (n + 1)) (fs : Sm 800 f) (lt : ∀ k, k < n → (xs h (k + 1)).1 < f) (le : f ≤ (xs h (n + 1)).1) (g : IH) : f_reaches_to [fq h, fq f] g = .ok (.obj g.length) (g ++ [.lst ((xl h (n + 1)).map fq)]) := by
  have w := rt_far (g := g) hh hs hN hM kl al fs lt le n 0 LIM (by omega) (by unfold LIM; omega)
  have e0 : rtF h (fq f) g.length 0 = [some (fq h), some (fq f), some (.obj g.length), some (.tup [.int 0, .int 1]), some (fq h)] := by unfold rtF; rw [x1_eq]; rfl
  rw [e0] at w
  have b : b_reaches_to = sSeq (sSet 2 (eLst aNil)) (sSeq (sSet 3 (eC (.tup [.int 0, .int 1]))) (sSeq (sSet 4 (eVar 0)) (sSeq (sWhile rtC rtB) (sRet (eVar 2))))) := rfl
  have x0 : (xl h 0).map fq = [] := rfl
  rw [x0] at w
  simp [f_reaches_to, b, sWhile, w, rtF]
/-- the greatest one of the row -/
def Far (h F : Rat) : Prop := ∃ K, K < 280 ∧ Alive h K ∧ (xs h (K + 1)).1 ≤ 0 ∧ (∃ j, 1 ≤ j ∧ j ≤ K ∧ F = (xs h j).1) ∧ ∀ j, 1 ≤ j → j ≤ K → (xs h j).1 ≤ F
theorem ends_one {h : Rat} {K L : Nat} (a : Alive h K) (e : (xs h (K + 1)).1 ≤ 0) (b : Alive h L) : L ≤ K := by
  rcases Nat.lt_or_ge K L with z | z
  · have := b (K + 1) (by omega); grind
  · exact z
theorem Far.one {h F G : Rat} (a : Far h F) (b : Far h G) : F = G := by
  obtain ⟨K, _, a1, a2, ⟨j, j1, j2, rfl⟩, a4⟩ := a
  obtain ⟨L, _, b1, b2, ⟨i, i1, i2, rfl⟩, b4⟩ := b
  have := ends_one a1 a2 b1
  have := ends_one b1 b2 a1
  have := a4 i i1 (by omega)
  have := b4 j j1 (by omega)
  grind
theorem gq_facts : ∀ (L : List Rat) (a : Rat), a ≤ gq L a ∧ (∀ y ∈ L, y ≤ gq L a) ∧ (gq L a = a ∨ gq L a ∈ L)
  | [], a => ⟨Rat.le_refl, (fun y hy => nomatch hy), .inl rfl⟩
  | b :: L, a => by
    have e : gq (b :: L) a = gq L (mx a b) := rfl
    obtain ⟨i1, i2, i3⟩ := gq_facts L (mx a b)
    rw [e]
    have m1 : a ≤ mx a b := by unfold mx; split <;> grind
    have m2 : b ≤ mx a b := by unfold mx; split <;> grind
    have m3 : mx a b = a ∨ mx a b = b := by unfold mx; split <;> simp
    refine ⟨by grind, fun y hy => ?_, ?_⟩
    · rcases List.mem_cons.mp hy with z | z
      · grind
      · exact i2 y z
    · rcases i3 with z | z
      · rcases m3 with w | w
        · left; grind
        · right; rw [z, w]; simp
      · right; exact List.mem_cons_of_mem _ z
theorem xl_mem {h y : Rat} {k : Nat} : y ∈ xl h k ↔ ∃ j, 1 ≤ j ∧ j ≤ k ∧ y = (xs h j).1 := by
  simp only [xl, List.mem_map, List.mem_range]
  constructor
  · rintro ⟨i, hi, rfl⟩; exact ⟨i + 1, by omega, by omega, rfl⟩
  · rintro ⟨j, j1, j2, rfl⟩; exact ⟨j - 1, by omega, by rw [Nat.sub_add_cancel j1]⟩
theorem Far.of {h a : Rat} {K : Nat} (k1 : K < 280) (al : Alive h K) (e : (xs h (K + 1)).1 ≤ 0) (c : 1 ≤ K) (ha : a = 0 ∨ a ∈ xl h K) : Far h (gq (xl h K) a) := by
  obtain ⟨f1, f2, f3⟩ := gq_facts (xl h K) a
  refine ⟨K, k1, al, e, ?_, fun j j1 j2 => f2 _ (xl_mem.mpr ⟨j, j1, j2, rfl⟩)⟩
  rcases f3 with z | z
  · rcases ha with rfl | w
    · have := f2 _ (xl_mem.mpr ⟨1, by omega, c, rfl⟩)
      have := al 1 c
      grind
    · rw [z]; exact xl_mem.mp w
  · exact xl_mem.mp z
theorem row_sm {q : Rat} (o : OkS q) (h9 : q < 9) {K : Nat} (k1 : K < 280) (al : Alive (hf q) K) : ∀ k, k ≤ K + 1 → Sm 3642 (xs (hf q) k).1 ∧ Sm 3642 (xs (hf q) k).2 := fun k hk => by
  have n := o.nine h9
  have s := xs_sm (v := 2) o.h0 (by have e : ((2 ^ 2 : Nat) : Rat) = 4 := rfl; rw [e]; grind) o.hd al k hk
  exact ⟨s.1.mono (by omega), s.2.mono (by omega)⟩
theorem Far.sm {q F : Rat} (o : OkS q) (h9 : q < 9) (f : Far (hf q) F) : Sm 3642 F := by
  obtain ⟨K, k1, al, e, ⟨j, j1, j2, rfl⟩, _⟩ := f
  exact (row_sm o h9 k1 al j (by omega)).1
theorem Far.ex {q : Rat} (o : OkS q) (h9 : q < 9) : ∃ K, K < 280 ∧ Alive (hf q) K ∧ (xs (hf q) (K + 1)).1 ≤ 0 := dies o.h0 (o.nine h9)
theorem farof_eq {q : Rat} (o : OkS q) (h9 : q < 9) (h3 : 3 ≤ q) : ∃ F, Far (hf q) F ∧ ∀ g, ∃ t, f_farthest_of [fq q] g = .ok (fq F) (g ++ t) := by
  obtain ⟨K, k1, al, e⟩ := Far.ex o h9
  have hs := row_sm o h9 k1 al
  have c : 1 ≤ K := by
    rcases Nat.eq_zero_or_pos K with z | z
    · subst z
      rw [Nat.zero_add, x1_eq] at e
      unfold hf at e
      grind
    · exact z
  obtain ⟨K, rfl⟩ : ∃ i, K = i + 1 := ⟨K - 1, by omega⟩
  have ex : xl (hf q) (K + 1) = (xs (hf q) 1).1 :: (List.range K).map (fun i => (xs (hf q) (i + 1 + 1)).1) := by
    simp [xl, List.range_succ_eq_map, Function.comp_def]
  refine ⟨_, Far.of k1 al e c (.inr (xl_mem.mpr ⟨1, by omega, by omega, rfl⟩)), fun g => ⟨[.lst ((xl (hf q) (K + 1)).map fq)], ?_⟩⟩
  have r := reaches_all o.hs hs (by decide) (by omega) al e g
  have hv := half_eq o g
  have f9 : PV.tup [.int 9, .int 1] = fq 9 := rfl
  have f3 : PV.tup [.int 3, .int 1] = fq 3 := rfl
  have s9 : Sm 5 (9 : Rat) := by constructor <;> decide
  have s3 : Sm 5 (3 : Rat) := by constructor <;> decide
  have l9 := less_eq o.sm s9 (by decide) g
  have l3 := less_eq o.sm s3 (by decide) g
  have n3 : ¬ q < 3 := by grind
  have gr := greatest_eq (xs (hf q) 1).1 ((List.range K).map (fun i => (xs (hf q) (i + 1 + 1)).1)) 3642 (by decide) (by simp; omega) (n := g.length) (h := g ++ [.lst ((xl (hf q) (K + 1)).map fq)]) (fun y hy => by
    rw [← ex] at hy
    obtain ⟨j, _, j2, rfl⟩ := xl_mem.mp hy
    exact (hs j (by omega)).1) (by rw [← ex]; simp)
  rw [← ex] at gr
  simp [f_farthest_of, b_farthest_of, f9, f3, l9, l3, h9, n3, hv, r, gr]
theorem farof_low {q : Rat} (o : OkS q) (h3 : q < 3) (g : IH) : f_farthest_of [fq q] g = .ok (fq 0) g := by
  have f9 : PV.tup [.int 9, .int 1] = fq 9 := rfl
  have f3 : PV.tup [.int 3, .int 1] = fq 3 := rfl
  have s9 : Sm 5 (9 : Rat) := by constructor <;> decide
  have s3 : Sm 5 (3 : Rat) := by constructor <;> decide
  have l9 := less_eq o.sm s9 (by decide) g
  have l3 := less_eq o.sm s3 (by decide) g
  have n9 : q < 9 := by grind
  have z : PV.tup [.int 0, .int 1] = fq 0 := rfl
  simp [f_farthest_of, b_farthest_of, f9, f3, l9, l3, h3, n9, z]
theorem farof_high {q : Rat} (o : OkS q) (h9 : 9 ≤ q) (g : IH) : f_farthest_of [fq q] g = .ok .non g := by
  have f9 : PV.tup [.int 9, .int 1] = fq 9 := rfl
  have s9 : Sm 5 (9 : Rat) := by constructor <;> decide
  have l9 := less_eq o.sm s9 (by decide) g
  have n9 : ¬ q < 9 := by grind
  simp [f_farthest_of, b_farthest_of, f9, l9, n9]
theorem far_eq {q : Rat} {v : PV} {g g' : IH} (o : OkS q) (e : f_farthest_of [fq q] g = .ok v g') : f_farthest [fq q] g = .ok v g' := by
  have c := checkshare_eq o g
  simp [f_farthest, b_farthest, c, e]
end WR

namespace WR
open PySem PySem.Spec PyProof.Rows L2
/-! ### the law's own row -/
def lfC : TX := tBl (eOp pGt (eOp pIdx (eVar 4) (eC (.int 0))) (eC (.int 0)))
def lfB : SX := sSeq (sSet 2 (eIf (tTru (eCall f__law_under (aCons (eVar 2) (aCons (eVar 4) aNil)))) (eVar 4) (eVar 2)))
    (sSeq (sSet 3 (eCall f__law_add (aCons (eVar 3) (aCons (eVar 4) aNil))))
    (sSet 4 (eCall f__law_add (aCons (eCall f__law_mul (aCons (eVar 1) (aCons (eVar 4) aNil))) (aCons (eTup (aCons (eUn pNeg (eOp pIdx (eVar 3) (eC (.int 0)))) (aCons (eOp pIdx (eVar 3) (eC (.int 1))) aNil))) aNil)))))
abbrev lfF (q h : Rat) (k : Nat) : Fm := [some (fq q), some (fq h), some (fq (gq (xl h k) 0)), some (fq (xs h k).2), some (fq (xs h (k + 1)).1)]
theorem lf_cond (q h : Rat) (k : Nat) (g : IH) : lfC (lfF q h k) g = .ok (decide (0 < (xs h (k + 1)).1)) g := by
  have := numpos (xs h (k + 1)).1
  by_cases c : 0 < (xs h (k + 1)).1
  · have d := this.mpr c
    simp [-pIdx, lfC, lfF, fi0, c, d]
  · have d : ¬ 0 < (xs h (k + 1)).1.num := fun z => c (this.mp z)
    simp [-pIdx, lfC, lfF, fi0, c, d]
theorem fq_neg (a : Rat) : PV.tup [.int (-a.num), .int a.den] = fq (-a) := by unfold fq; rw [Rat.neg_num, Rat.neg_den]
theorem gq_succ (h : Rat) (k : Nat) : gq (xl h (k + 1)) 0 = mx (gq (xl h k) 0) (xs h (k + 1)).1 := by rw [xl_succ]; simp [gq]
theorem gq_sm {h : Rat} {N k : Nat} (hN : 1 ≤ N) (hs : ∀ j, j ≤ k → Sm N (xs h j).1) : Sm N (gq (xl h k) 0) := by
  obtain ⟨_, _, z | z⟩ := gq_facts (xl h k) 0
  · rw [z]; exact sm0.mono (by omega)
  · obtain ⟨j, _, j2, e⟩ := xl_mem.mp z
    rw [e]; exact hs j j2
theorem lf_go {q h : Rat} {g : IH} {N k : Nat} (hh : Sm 20 h) (b : Sm N (gq (xl h k) 0)) (x : Sm N (xs h (k + 1)).1) (s : Sm N (xs h k).2) (s' : Sm N (xs h (k + 1)).2) (hN : N + N + 20 ≤ 9000) :
    lfB (lfF q h k) g = .nx (lfF q h (k + 1)) g := by
  have p := lplus_eq s x (by omega) g
  rw [← xs_add] at p
  have t := ltimes_eq hh x (by omega) g
  have m := lplus_eq (hh.mul x) s'.neg (by omega) g
  rw [← Rat.sub_eq_add_neg, ← xs1] at m
  have ls := lless_eq b x (by omega) g
  have e := gq_succ h k
  have un : pNeg (.int (xs h (k + 1)).2.num) g = .ok (.int (-(xs h (k + 1)).2.num)) g := rfl
  by_cases c : gq (xl h k) 0 < (xs h (k + 1)).1
  · rw [mx, if_pos c] at e
    simp [-pIdx, lfB, lfF, ls, c, p, t, fi0, fi1, fq_neg, m, e]
  · rw [mx, if_neg c] at e
    simp [-pIdx, lfB, lfF, ls, c, p, t, fi0, fi1, fq_neg, m, e]
theorem lf_all {q h : Rat} {g : IH} {N K : Nat} (hh : Sm 20 h) (hs : ∀ k, k ≤ K + 1 → Sm N (xs h k).1 ∧ Sm N (xs h k).2) (h1 : 1 ≤ N) (hN : N + N + 20 ≤ 9000) (al : Alive h K) (e : (xs h (K + 1)).1 ≤ 0) :
    ∀ d k m, k + d = K → d < m → whileL lfC lfB m (lfF q h k) g = .nx (lfF q h K) g
  | 0, k, m, hk, hm => by
    obtain ⟨m, rfl⟩ : ∃ i, m = i + 1 := ⟨m - 1, by omega⟩
    have : k = K := by omega
    subst this
    have c := lf_cond q h k g
    rw [decide_eq_false (by grind)] at c
    unfold whileL
    simp [c]
  | d + 1, k, m, hk, hm => by
    obtain ⟨m, rfl⟩ : ∃ i, m = i + 1 := ⟨m - 1, by omega⟩
    have c := lf_cond q h k g
    rw [decide_eq_true (al (k + 1) (by omega))] at c
    have b := lf_go (q := q) (g := g) hh (gq_sm h1 fun j hj => (hs j (by omega)).1) (hs (k + 1) (by omega)).1 (hs k (by omega)).2 (hs (k + 1) (by omega)).2 hN
    have i := lf_all (q := q) (g := g) hh hs h1 hN al e d (k + 1) m (by omega) (by omega)
    unfold whileL
    simp only [c, toS, b, i, if_true]
theorem lfar_raw {q : Rat} (o : OkS q) {K : Nat} (h9 : q < 9) (k1 : K < 280) (al : Alive (hf q) K) (e : (xs (hf q) (K + 1)).1 ≤ 0) (g : IH) : f__law_farthest [fq q] g = .ok (fq (if gq (xl (hf q) K) 0 < 1 then 0 else gq (xl (hf q) K) 0)) g := by
  have hs := row_sm o h9 k1 al
  have w := lf_all (q := q) (g := g) o.hs hs (by decide) (by decide) al e K 0 LIM (by omega) (by unfold LIM; omega)
  have e0 : lfF q (hf q) 0 = [some (fq q), some (fq (hf q)), some (fq 0), some (fq 0), some (fq (hf q))] := by unfold lfF; rw [x1_eq]; rfl
  rw [e0] at w
  have b : b__law_farthest = sSeq (sSet 1 (eCall f__law_f (aCons (eOp pSub (eOp pIdx (eVar 0) (eC (.int 0))) (eOp pIdx (eVar 0) (eC (.int 1)))) (aCons (eOp pMul (eC (.int 2)) (eOp pIdx (eVar 0) (eC (.int 1)))) aNil))))
    (sSeq (sPar3 2 3 4 (aCons (eTup (aCons (eC (.int 0)) (aCons (eC (.int 1)) aNil))) (aCons (eTup (aCons (eC (.int 0)) (aCons (eC (.int 1)) aNil))) (aCons (eVar 1) aNil))))
    (sSeq (sWhile lfC lfB)
    (sRet (eIf (tNotX (tTru (eCall f__law_under (aCons (eVar 2) (aCons (eTup (aCons (eC (.int 1)) (aCons (eC (.int 1)) aNil))) aNil))))) (eVar 2) (eTup (aCons (eC (.int 0)) (aCons (eC (.int 1)) aNil))))))) := rfl
  have hv := lhalf_eq o g
  have mu : mulOk 2 (q.den : Int) = true := by unfold mulOk; simp
  have gs : Sm 3642 (gq (xl (hf q) K) 0) := gq_sm (by decide) fun j hj => (hs j (by omega)).1
  have ls := lless_eq gs sm1 (by decide) g
  by_cases c : gq (xl (hf q) K) 0 < 1
  · simp [-pIdx, f__law_farthest, b, fi0, fi1, mu, hv, fq_zero, fq_one, sWhile, w, lfF, ls, c]
  · simp [-pIdx, f__law_farthest, b, fi0, fi1, mu, hv, fq_zero, fq_one, sWhile, w, lfF, ls, c]
theorem lfar_eq {q F : Rat} (o : OkS q) (h9 : q < 9) (h3 : 3 ≤ q) (f : Far (hf q) F) (g : IH) : f__law_farthest [fq q] g = .ok (fq F) g := by
  obtain ⟨K, k1, al, e⟩ := Far.ex o h9
  have r := lfar_raw o h9 k1 al e g
  have h1 : 1 ≤ hf q := by unfold hf; grind
  have c : 1 ≤ K := by
    rcases Nat.eq_zero_or_pos K with z | z
    · subst z
      rw [Nat.zero_add, x1_eq] at e
      grind
    · exact z
  have F2 := Far.of k1 al e c (a := 0) (.inl rfl)
  have eF := F2.one f
  rw [eF] at r
  obtain ⟨_, f2, _⟩ := gq_facts (xl (hf q) K) 0
  have := f2 _ (xl_mem.mpr ⟨1, by omega, c, rfl⟩)
  rw [x1_eq, eF] at this
  rw [if_neg (by grind)] at r
  exact r
theorem lfar_low {q : Rat} (o : OkS q) (h3 : q < 3) (g : IH) : f__law_farthest [fq q] g = .ok (fq 0) g := by
  have h0 := o.h0
  have h1 : hf q < 1 := by unfold hf; grind
  have h9 : q < 9 := by grind
  obtain ⟨K, k1, al, e⟩ := Far.ex o h9
  have r := lfar_raw o h9 k1 al e g
  have x2 : (xs (hf q) 2).1 = hf q * (hf q - 1) := by
    have := x1_eq (hf q)
    rw [xs1, this]
    show hf q * hf q - hf q * 1 = _
    grind
  have kk : K ≤ 1 := by
    rcases Nat.lt_or_ge 1 K with z | z
    · have a := al 2 (by omega)
      rw [x2] at a
      have := Rat.mul_nonneg h0 (show 0 ≤ 1 - hf q by grind)
      grind
    · exact z
  have lt : gq (xl (hf q) K) 0 < 1 := by
    obtain ⟨_, _, z | z⟩ := gq_facts (xl (hf q) K) 0
    · rw [z]; decide
    · obtain ⟨j, j1, j2, e⟩ := xl_mem.mp z
      have : j = 1 := by omega
      subst this
      rw [e, x1_eq]; exact h1
  rw [if_pos lt] at r
  exact r
end WR

namespace WR
open PySem PySem.Spec PyProof.Rows L2
/-! ### the told plan -/
theorem first_ge {h f : Rat} : ∀ j, (∃ n, n < j ∧ (∀ k, k < n → (xs h (k + 1)).1 < f) ∧ f ≤ (xs h (n + 1)).1) ∨ ∀ k, k < j → (xs h (k + 1)).1 < f
  | 0 => .inr fun k hk => by omega
  | j + 1 => by
    rcases first_ge (h := h) (f := f) j with ⟨n, n1, n2⟩ | z
    · exact .inl ⟨n, by omega, n2⟩
    · by_cases c : (xs h (j + 1)).1 < f
      · right
        intro k hk
        rcases Nat.lt_or_ge k j with y | y
        · exact z k y
        · rw [show k = j by omega]; exact c
      · exact .inl ⟨j, by omega, z, by grind⟩
/-- n + 1 of the row are asked -/
structure OkN (q f : Rat) (n : Nat) : Prop where
  o : OkS q
  hn : n ≤ 42
  al : Alive (hf q) (n + 1)
  lt : ∀ k, k < n → (xs (hf q) (k + 1)).1 < f
  le : f ≤ (xs (hf q) (n + 1)).1
  f1 : 1 ≤ f
  f2 : f ≤ 1000000000000
  fs : Sm 750 f
theorem OkN.of {q f : Rat} (o : OkS q) {L : Nat} (hL : L ≤ 43) (al : Alive (hf q) L) {j : Nat} (j1 : 1 ≤ j) (j2 : j ≤ L) (le : f ≤ (xs (hf q) j).1) (f1 : 1 ≤ f) (f2 : f ≤ 1000000000000) (fs : Sm 750 f) : ∃ n, OkN q f n := by
  rcases first_ge (h := hf q) (f := f) L with ⟨n, n1, n2, n3⟩ | z
  · exact ⟨n, o, by omega, al.less (by omega), n2, n3, f1, f2, fs⟩
  · have := z (j - 1) (by omega)
    rw [Nat.sub_add_cancel j1] at this
    grind
theorem OkN.high {q f : Rat} (o : OkS q) (h9 : 9 ≤ q) (f1 : 1 ≤ f) (f2 : f ≤ 1000000000000) (fs : Sm 750 f) : ∃ n, OkN q f n := by
  have h : 398 / 100 ≤ hf q := by unfold hf; grind
  obtain ⟨al, x⟩ := WR.high h
  exact OkN.of o (L := 42) (by decide) al (j := 42) (by decide) (by decide) (by grind) f1 f2 fs
theorem Far.mid {q F : Rat} (o : OkS q) (f : Far (hf q) F) (lt : F < 1000000000000) : hf q ≤ 398 / 100 := by
  rcases Rat.le_total (a := hf q) (b := 398 / 100) with z | z
  · exact z
  · obtain ⟨al, x⟩ := WR.high z
    obtain ⟨K, _, a1, a2, _, a4⟩ := f
    have := ends_one a1 a2 al
    have := a4 42 (by decide) this
    grind
theorem Far.short {q F : Rat} (o : OkS q) (f : Far (hf q) F) (lt : F < 1000000000000) : ∃ L, L ≤ 43 ∧ Alive (hf q) L ∧ ∃ j, 1 ≤ j ∧ j ≤ L ∧ F = (xs (hf q) j).1 := by
  obtain ⟨L, l1, al, e⟩ := dies2 o.h0 (f.mid o lt)
  obtain ⟨K, _, a1, a2, ⟨j, j1, j2, j3⟩, a4⟩ := f
  have := ends_one al e a1
  exact ⟨L, by omega, al, j, j1, by omega, j3⟩
theorem OkN.low {q f F : Rat} (o : OkS q) (hF : Far (hf q) F) (lt : F < 1000000000000) (le : f ≤ F) (f1 : 1 ≤ f) (fs : Sm 750 f) : ∃ n, OkN q f n := by
  obtain ⟨L, l1, al, j, j1, j2, rfl⟩ := hF.short o lt
  exact OkN.of o l1 al j1 j2 le f1 (by grind) fs
theorem row_sm2 {q : Rat} (o : OkS q) {n : Nat} (hn : n ≤ 43) (al : Alive (hf q) n) : ∀ k, k ≤ n → Sm 735 (xs (hf q) k).1 ∧ Sm 735 (xs (hf q) k).2 := fun k hk => by
  have n := o.h1
  have s := xs_sm (v := 6) o.h0 (by have e : ((2 ^ 6 : Nat) : Rat) = 64 := rfl; rw [e]; grind) o.hd al k (by omega)
  exact ⟨s.1.mono (by omega), s.2.mono (by omega)⟩
theorem Far.sm2 {q F : Rat} (o : OkS q) (f : Far (hf q) F) (lt : F < 1000000000000) : Sm 735 F := by
  obtain ⟨L, l1, al, j, j1, j2, rfl⟩ := f.short o lt
  exact (row_sm2 o l1 al j j2).1
def rr (h f : Rat) (n i : Nat) : Rat := if i < n then (xs h (i + 1)).1 else f
def tT (h f : Rat) (n : Nat) : List (Int × Rat) := (List.range (n + 2)).map fun i => (((i % 2 : Nat) : Int), rr h f n i)
theorem tT_len (h f : Rat) (n : Nat) : (tT h f n).length = n + 2 := by simp [tT]
theorem tT_get {h f : Rat} {n i : Nat} (hi : i < (tT h f n).length) : (tT h f n)[i] = (((i % 2 : Nat) : Int), rr h f n i) := by simp [tT]
theorem rr_list (h f : Rat) (n : Nat) : xl h n ++ [f, f] = (List.range (n + 2)).map (rr h f n) := by
  rw [List.range_succ, List.range_succ]
  have e : xl h n = (List.range n).map (rr h f n) := by
    unfold xl
    refine List.map_congr_left fun i hi => ?_
    simp only [List.mem_range] at hi
    simp [rr, hi]
  rw [e]
  simp [rr]
  intro z
  omega
theorem tT_bs {h f : Rat} {n : Nat} : ∀ i, i ≤ n → bs 0 (tT h f n) i = 2 * (xs h i).2
  | 0, _ => by show (0 : Rat) = 2 * 0; grind
  | i + 1, hi => by
    have l : i < (tT h f n).length := by rw [tT_len]; omega
    have g : (tT h f n).getD i (0, 0) = (tT h f n)[i] := by simp [l]
    show bs 0 (tT h f n) i + (2 * ((tT h f n).getD i (0, 0)).2 + 0) = _
    rw [g, tT_get l, tT_bs i (by omega), xs_add]
    simp only [rr, if_pos (show i < n by omega)]
    grind
theorem tT_bs1 (h f : Rat) (n : Nat) : bs 0 (tT h f n) (n + 1) = 2 * ((xs h n).2 + f) := by
  have l : n < (tT h f n).length := by rw [tT_len]; omega
  have g : (tT h f n).getD n (0, 0) = (tT h f n)[n] := by simp [l]
  show bs 0 (tT h f n) n + (2 * ((tT h f n).getD n (0, 0)).2 + 0) = _
  rw [g, tT_get l, tT_bs n (by omega)]
  simp only [rr, if_neg (Nat.lt_irrefl n)]
  grind
theorem tT_bs2 (h f : Rat) (n : Nat) : bs 0 (tT h f n) (n + 2) = 2 * ((xs h n).2 + f + f) := by
  have l : n + 1 < (tT h f n).length := by rw [tT_len]; omega
  have g : (tT h f n).getD (n + 1) (0, 0) = (tT h f n)[n + 1] := by simp [l]
  show bs 0 (tT h f n) (n + 1) + (2 * ((tT h f n).getD (n + 1) (0, 0)).2 + 0) = _
  rw [g, tT_get l, tT_bs1]
  simp only [rr, if_neg (show ¬ n + 1 < n by omega)]
  grind
theorem sm2' : Sm 2 (2 : Rat) := by constructor <;> decide
theorem OkN.ok {q f : Rat} {n : Nat} (o : OkN q f n) : OkP (2, tT (hf q) f n, 0) := by
  have hn := o.hn
  have f1 := o.f1
  have f2 := o.f2
  have rs := row_sm2 o.o (n := n + 1) (by omega) o.al
  refine ⟨by show (1 : Int) ≤ 2; decide, by show (2 : Int) ≤ 5; decide, ?_, fun t ht => ?_, Rat.le_refl, by show (0 : Rat) ≤ 1000000000000; decide, sm0.mono (by decide), fun i hi => ?_⟩
  · show (tT (hf q) f n).length ≤ 60
    rw [tT_len]; omega
  · simp only [tT, List.mem_map, List.mem_range] at ht
    obtain ⟨i, hi, rfl⟩ := ht
    refine ⟨by simp only; omega, by simp only; omega, ?_, ?_, ?_⟩
    · simp only [rr]
      split
      · exact o.al (i + 1) (by omega)
      · grind
    · simp only [rr]
      split
      · next c => have := o.lt i c; grind
      · exact f2
    · simp only [rr]
      split
      · exact (rs (i + 1) (by omega)).1.mono (by decide)
      · exact o.fs.mono (by decide)
  · have hl : i ≤ n + 2 := by have e : i ≤ (tT (hf q) f n).length := hi; rwa [tT_len] at e
    show Sm 3300 (bs 0 (tT (hf q) f n) i)
    have sn := (rs n (by omega)).2
    rcases (show i ≤ n ∨ i = n + 1 ∨ i = n + 2 by omega) with z | rfl | rfl
    · rw [tT_bs i z]
      exact (sm2'.mul (rs i (by omega)).2).mono (by decide)
    · rw [tT_bs1]
      exact (sm2'.mul (sn.add o.fs)).mono (by decide)
    · rw [tT_bs2]
      exact (sm2'.mul ((sn.add o.fs).add o.fs)).mono (by decide)
theorem tT_bs_le {q f : Rat} {n : Nat} (o : OkN q f n) (i : Nat) (hi : i + 1 ≤ n + 1) : bs 0 (tT (hf q) f n) (i + 1) ≤ 2 * (hf q * (xs (hf q) i).1) := by
  rw [← xs2]
  rcases Nat.lt_or_ge n (i + 1) with z | z
  · have : i = n := by omega
    subst this
    rw [tT_bs1, xs_add]
    have := o.le
    grind
  · rw [tT_bs _ z]; exact Rat.le_refl
/-- the told plan keeps the share -/
theorem told_keep {q f : Rat} {n : Nat} (o : OkN q f n) {w : WV} {i : Nat} (h : wr (2, tT (hf q) f n, 0) i = some w) : w.1 ≤ q := by
  obtain ⟨p, _, k, t, hk, rfl⟩ := wr_src i w h
  obtain ⟨j, hj, _, e1, e2, _, _, _⟩ := pc_get 0 (tT (hf q) f n) (p : Nat) _ (Nat.le_refl _) k t hk
  simp only
  rw [e2]
  simp only
  have jn : j < n + 2 := by rw [← tT_len (hf q) f n]; exact hj
  have m1 : 1 ≤ mx (pc 0 (tT (hf q) f n) (p : Nat) j).1 1 := mx_one
  have h0 := o.o.h0
  have qe : q = 1 + 2 * hf q := by unfold hf; grind
  suffices H : bs 0 (tT (hf q) f n) j ≤ 2 * hf q * mx (pc 0 (tT (hf q) f n) (p : Nat) j).1 1 by
    have : bs 0 (tT (hf q) f n) j / mx (pc 0 (tT (hf q) f n) (p : Nat) j).1 1 ≤ 2 * hf q := by
      refine le_of_mul (show 0 < mx (pc 0 (tT (hf q) f n) (p : Nat) j).1 1 by grind) ?_
      rw [Rat.div_mul_cancel (by grind)]
      exact H
    grind
  cases j with
  | zero =>
    show (0 : Rat) ≤ _
    exact Rat.mul_nonneg (by grind) (by grind)
  | succ j =>
    have b := tT_bs_le o j (by omega)
    suffices H : (xs (hf q) j).1 ≤ mx (pc 0 (tT (hf q) f n) (p : Nat) (j + 1)).1 1 by
      have := Rat.mul_le_mul_of_nonneg_left H h0
      grind
    cases j with
    | zero => exact m1
    | succ j =>
      have hl : j < (tT (hf q) f n).length := by rw [tT_len]; omega
      have ge := pc_ge 0 (tT (hf q) f n) (p : Nat) (j + 2) (by rw [tT_len]; omega) j hl (by omega) (by
        rw [tT_get hl]
        rw [tT_get hj] at e1
        simp only at e1 ⊢
        rw [← e1]
        have : j % 2 = (j + 1 + 1) % 2 := by omega
        rw [this])
      rw [tT_get hl] at ge
      simp only [rr, if_pos (show j < n by omega)] at ge
      have : (pc 0 (tT (hf q) f n) (p : Nat) (j + 2)).1 ≤ mx (pc 0 (tT (hf q) f n) (p : Nat) (j + 2)).1 1 := by unfold mx; split <;> grind
      show _ ≤ mx (pc 0 (tT (hf q) f n) (p : Nat) (j + 2)).1 1
      grind
/-- where a road ends -/
theorem pc_rch (c : Rat) (T : List (Int × Rat)) (p : Int) : ∀ i, i ≤ T.length → (match (pc c T p i).2.getLast? with | none => 0 | some t => t.2.1) = if (pc c T p i).1 < 1 then 0 else (pc c T p i).1
  | 0, _ => by show (0 : Rat) = if (0 : Rat) < 1 then 0 else 0; split <;> rfl
  | i + 1, h => by
    have ih := pc_rch c T p i (by omega)
    rw [pc_succ c T p (show i < T.length by omega)]
    by_cases a : T[i].1 = p ∧ (pc c T p i).1 < T[i].2
    · simp only [a, and_self, if_true]
      by_cases b : T[i].2 < 1
      · have : (pc c T p i).1 < 1 := by have := a.2; grind
        simp only [b, if_true]
        rw [if_pos this] at ih
        exact ih
      · simp [b]
    · rw [if_neg a]; exact ih
theorem rch_eq (x : Int × List (Int × Rat) × Rat) (p : Int) : rch x p = if (pc x.2.2 x.2.1 p x.2.1.length).1 < 1 then 0 else (pc x.2.2 x.2.1 p x.2.1.length).1 := by
  have := pc_rch x.2.2 x.2.1 p x.2.1.length (Nat.le_refl _)
  rw [← this]; rfl
theorem cvr2 (T : List (Int × Rat)) : cvr (2, T, 0) ≤ rch (2, T, 0) 0 ∧ cvr (2, T, 0) ≤ rch (2, T, 0) 1 ∧ (cvr (2, T, 0) = rch (2, T, 0) 0 ∨ cvr (2, T, 0) = rch (2, T, 0) 1) := by
  have e : cvr (2, T, 0) = mn (mn (rch (2, T, 0) 0) (rch (2, T, 0) 0)) (rch (2, T, 0) 1) := rfl
  rw [e]
  unfold mn
  grind
theorem told_cover {q f : Rat} {n : Nat} (o : OkN q f n) : f ≤ cvr (2, tT (hf q) f n, 0) := by
  have ge : ∀ p : Nat, p < 2 → f ≤ rch (2, tT (hf q) f n, 0) (p : Nat) := fun p hp => by
    rw [rch_eq]
    simp only
    obtain ⟨l, l1, l2, l3⟩ : ∃ l, n ≤ l ∧ l < n + 2 ∧ l % 2 = p := by
      rcases (show n % 2 = p ∨ (n + 1) % 2 = p by omega) with z | z
      · exact ⟨n, by omega, by omega, z⟩
      · exact ⟨n + 1, by omega, by omega, z⟩
    have hl : l < (tT (hf q) f n).length := by rw [tT_len]; omega
    have := pc_ge 0 (tT (hf q) f n) (p : Nat) _ (Nat.le_refl _) l hl hl (by rw [tT_get hl]; simp only; rw [l3])
    rw [tT_get hl] at this
    simp only [rr, if_neg (show ¬ l < n by omega)] at this
    have := o.f1
    rw [if_neg (by grind)]
    assumption
  obtain ⟨_, _, z | z⟩ := cvr2 (tT (hf q) f n)
  · rw [z]; exact ge 0 (by decide)
  · rw [z]; exact ge 1 (by decide)
theorem told_some {q f : Rat} {n : Nat} (o : OkN q f n) : ∃ w, wr (2, tT (hf q) f n, 0) 2 = some w := by
  have : (pc 0 (tT (hf q) f n) (0 : Nat) (tT (hf q) f n).length).2 ≠ [] := fun z => by
    have lt := (pc_nil 0 (tT (hf q) f n) (0 : Nat) _ (Nat.le_refl _)).mp z
    have c := told_cover o
    have r := (cvr2 (tT (hf q) f n)).1
    rw [rch_eq] at r
    simp only at r
    rw [if_pos (show (pc 0 (tT (hf q) f n) 0 (tT (hf q) f n).length).1 < 1 from lt)] at r
    have := o.f1
    grind
  obtain ⟨t, ht⟩ := List.exists_mem_of_ne_nil _ this
  obtain ⟨v, e, _⟩ := wr_mem (x := (2, tT (hf q) f n, 0)) 2 0 (by decide) t ht
  exact ⟨v, e⟩
end WR

namespace WR
open PySem PySem.Spec PyProof.Rows L2
theorem cut_last {α : Type} (xs : List α) (x : α) : cutA (xs ++ [x]) none (some (-1)) = xs := by
  simp [cutA, HT.sIx, show (-1 + ((xs.length : Int) + 1)).toNat = xs.length by omega]
theorem within1 {f : Rat} (f1 : 1 ≤ f) (f2 : f ≤ 1000000000000) (fs : Sm 750 f) (g : IH) : f_is_within [fq f, .int 1, .int 1000000000000] g = .ok (.bl true) g := by
  have w := within_eq fs (by decide) 1 1000000000000 (by decide) (by decide) g
  have z : decide (((1 : Int) : Rat) ≤ f ∧ f ≤ ((1000000000000 : Int) : Rat)) = true := decide_eq_true ⟨f1, f2⟩
  rwa [z] at w
/-- no plan -/
theorem pw_none {q f F : Rat} (o : OkS q) (f1 : 1 ≤ f) (f2 : f ≤ 1000000000000) (fs : Sm 750 f) (sF : Sm 3642 F) (lt : F < f) {g g' : IH} (fo : f_farthest_of [fq q] g = .ok (fq F) g') : f_plan_within [fq q, fq f] g = .ok .non g' := by
  have c := checkshare_eq o g
  have w := within1 f1 f2 fs g
  have l := less_eq sF fs (by decide) g'
  simp [-mkO, -pNotN, f_plan_within, b_plan_within, c, w, fo, fNN, l, lt]
/-- the told plan is made -/
theorem pw_some {q f : Rat} {n : Nat} (o : OkN q f n) {v : PV} (hv : v = .non ∨ ∃ F, v = fq F ∧ Sm 3642 F ∧ f ≤ F) {g t0 : IH} (fo : f_farthest_of [fq q] g = .ok v (g ++ t0)) :
    ∃ x g', f_plan_within [fq q, fq f] g = .ok (.obj x) g' ∧ Pre g g' ∧ g'[x]? = some (.ins "Plan" [("held", pq (2, tT (hf q) f n, 0))]) := by
  have hn := o.hn
  suffices H : ∃ v g', f_plan_within [fq q, fq f] g = .ok v g' ∧ ∃ x, v = .obj x ∧ Pre g g' ∧ g'[x]? = some (.ins "Plan" [("held", pq (2, tT (hf q) f n, 0))]) by
    obtain ⟨v, g', e, x, rfl, P, z⟩ := H
    exact ⟨x, g', e, P, z⟩
  have c := checkshare_eq o.o g
  have w := within1 o.f1 o.f2 o.fs g
  refine w_fn rfl ?_
  refine w_seq (w_expr (v := .non) (h1 := g) (by simp [c]) ?_)
  refine w_seq (w_if (b := false) (h1 := g) (by simp [w]) (fun z => by cases z) (fun _ => w_nil ?_))
  refine w_seq (w_set (v := v) (h1 := g ++ t0) (by simp [fo]) ?_)
  have P1 := Pre.of g t0
  generalize g ++ t0 = g1 at P1
  have tst : ∀ r : Fm, r[2]? = some (some v) → r[1]? = some (some (fq f)) → tAndX (tBl (eOp pNotN (eVar 2) (eC .non))) (tTru (eCall f_is_less (aCons (eVar 2) (aCons (eVar 1) aNil)))) r g1 = .ok false g1 := fun r r2 r1 => by
    rcases hv with rfl | ⟨F, rfl, sF, le⟩
    · simp [r2, r1]
    · have l := less_eq sF o.fs (by decide) g1
      have nl : ¬ F < f := by grind
      simp [-pNotN, r2, r1, fNN, l, nl]
  refine w_seq (w_if (b := false) (h1 := g1) (tst _ rfl rfl) (fun z => by cases z) (fun _ => w_nil ?_))
  have hs := row_sm2 o.o (n := n + 1) (by omega) o.al
  have ra := reaches_far o.o.hs hs (by decide) (by decide) (by omega) o.al (o.fs.mono (by decide)) o.lt o.le g1
  have hh := half_eq o.o g1
  have ct : cutA ((xl (hf q) (n + 1)).map fq) none (some (-1)) = (xl (hf q) n).map fq := by
    rw [xl_succ, List.map_append]; exact cut_last _ _
  have rl : (xl (hf q) n).map fq ++ [fq f, fq f] = ((List.range (n + 2)).map (rr (hf q) f n)).map fq := by rw [← rr_list]; simp
  have ln : (List.map fq (xl (hf q) n)).length + 2 ≤ 16777216 := by simp [xl_len]; omega
  refine w_seq (w_set (v := .obj (g1.length + 3)) (h1 := g1 ++ [.lst ((xl (hf q) (n + 1)).map fq), .lst ((xl (hf q) n).map fq), .lst [fq f, fq f], .lst (((List.range (n + 2)).map (rr (hf q) f n)).map fq)]) ?_ ?_)
  · rw [← rl]
    simp [-List.length_map, -List.map_map, hh, ra, ct, ln, xl_len]
  have P2 := Pre.of g1 [.lst ((xl (hf q) (n + 1)).map fq), .lst ((xl (hf q) n).map fq), .lst [fq f, fq f], .lst (((List.range (n + 2)).map (rr (hf q) f n)).map fq)]
  have z2 : (g1 ++ [.lst ((xl (hf q) (n + 1)).map fq), .lst ((xl (hf q) n).map fq), .lst [fq f, fq f], .lst (((List.range (n + 2)).map (rr (hf q) f n)).map fq)])[g1.length + 3]? = some (.lst (((List.range (n + 2)).map (rr (hf q) f n)).map fq)) := by
    rw [List.getElem?_append_right (by omega)]; simp
  generalize g1 ++ [.lst ((xl (hf q) (n + 1)).map fq), .lst ((xl (hf q) n).map fq), .lst [fq f, fq f], .lst (((List.range (n + 2)).map (rr (hf q) f n)).map fq)] = g2 at P2 z2
  generalize g1.length + 3 = a at z2
  have z2' : ∀ t, (g2 ++ t)[a]? = some (.lst (((List.range (n + 2)).map (rr (hf q) f n)).map fq)) := fun t => get_old z2
  have m2 : ∀ i : Nat, (i : Int) % 2 = ((i % 2 : Nat) : Int) := fun i => by omega
  obtain ⟨t3, lc⟩ := lc_all (I := eEnum (aCons (eVar 3) aNil)) (it := itEnum (.obj a)) (g := gTupF [4, 5]) (c := tYesX) (A := eTup (aCons (eOp pMod (eVar 4) (eC (.int 2))) (aCons (eVar 5) aNil))) (vs := [4, 5]) (r := [some (fq q), some (fq f), some v, some (.obj a), none, none]) (h := g2) (base := g2) (n := n + 2) (fun i => tq (((i % 2 : Nat) : Int), rr (hf q) f n i)) (fun _ => true) (by omega) (by simp [z2])
    (fun i t hi => ⟨.tup [.int i, fq (rr (hf q) f n i)], [some (fq q), some (fq f), some v, some (.obj a), some (.int i), some (fq (rr (hf q) f n i))], [], by simp [z2', hi], rfl, by simp, fun _ => ⟨[], by simp [tq]⟩⟩)
    (fun t => by simp [z2'])
  rw [List.filter_eq_self.mpr (by simp)] at lc
  have eT : (List.range (n + 2)).map (fun i => tq (((i % 2 : Nat) : Int), rr (hf q) f n i)) = (tT (hf q) f n).map tq := by simp [tT]
  rw [eT] at lc
  have mk := mk_eq o.ok (g2 ++ .lst ((tT (hf q) f n).map tq) :: t3)
  have P3 := Pre.of g2 (.lst ((tT (hf q) f n).map tq) :: t3)
  have z3 : (g2 ++ .lst ((tT (hf q) f n).map tq) :: t3)[g2.length]? = some (.lst ((tT (hf q) f n).map tq)) := by simp
  have x0 : eB pTuple1 (aCons (eLc (eEnum (aCons (eVar 3) aNil)) (gTupF [4, 5]) tYesX (eTup (aCons (eOp pMod (eVar 4) (eC (.int 2))) (aCons (eVar 5) aNil))) [4, 5]) aNil) [some (fq q), some (fq f), some v, some (.obj a), none, none] g2 = .ok (tqs (tT (hf q) f n)) (g2 ++ .lst ((tT (hf q) f n).map tq) :: t3) := by
    simp only [eB, aCons, lc, Res.bind, aNil]
    simp [z3, tqs]
  generalize g2 ++ .lst ((tT (hf q) f n).map tq) :: t3 = g3 at mk P3 z3 x0
  refine w_ret (v := .obj g3.length) (h1 := g3 ++ [.ins "Plan" [("held", pq (2, tT (hf q) f n, 0))]]) ?_ ⟨g3.length, rfl, ((P1.trans P2).trans P3).app _, by simp⟩
  show eCall (mkO "Plan" f_Plan___init__) (aCons (eC (.int 2)) (aCons (eB pTuple1 _) (aCons (eC (.tup [.int 0, .int 1])) aNil))) [some (fq q), some (fq f), some v, some (.obj a), none, none] g2 = _
  have z0 : PV.tup [.int 0, .int 1] = fq 0 := rfl
  simp only [eCall, aCons, eC, Res.bind, x0, aNil, z0]
  exact mk
/-- the told plan keeps the share and covers -/
theorem keeps_eq {q f : Rat} {n : Nat} (o : OkN q f n) {v : PV} (hv : v = .non ∨ ∃ F, v = fq F ∧ Sm 3642 F ∧ f ≤ F) (fo : ∀ g, ∃ t, f_farthest_of [fq q] g = .ok v (g ++ t)) (g : IH) :
    ∃ t, f__law_keeps [fq q, fq f] g = .ok (.bl true) (g ++ t) := by
  obtain ⟨t0, fo⟩ := fo g
  obtain ⟨x, g1, e, P, z⟩ := pw_some o hv fo
  have ok := o.ok
  obtain ⟨t2, cv⟩ := cover_eq ok z
  have z2 := get_old (t := t2) z
  obtain ⟨t3, wo⟩ := worst_eq ok z2
  have pr := proads_eq z
  have pc := pcost_eq z
  simp only at pr pc
  obtain ⟨w, ew⟩ := told_some o
  have e2 : ((2 : Int), tT (hf q) f n, (0 : Rat)).1.toNat = 2 := rfl
  rw [e2, ew] at wo
  have ws := wr_ok ok 2 w ew
  have cs : Sm 760 (cvr (2, tT (hf q) f n, 0)) := by
    obtain ⟨_, _, y | y⟩ := cvr2 (tT (hf q) f n)
    · rw [y]; exact rch_sm ok 0
    · rw [y]; exact rch_sm ok 1
  have l1 := lless_eq cs o.fs (by decide) (g1 ++ t2)
  have n1 : ¬ cvr (2, tT (hf q) f n, 0) < f := by have := told_cover o; grind
  have l2 := lless_eq o.o.sm ws (by decide) (g1 ++ (t2 ++ t3))
  have n2 : ¬ q < w.1 := by have := told_keep o ew; grind
  have i0 : ∀ g, pIdx (wq w) (.int 0) g = .ok (fq w.1) g := fun g => rfl
  obtain ⟨u, rfl⟩ := P
  refine ⟨u ++ (t2 ++ t3), ?_⟩
  have wo' : f_worst [.obj x] (g ++ u ++ t2) = .ok (wq w) (g ++ (u ++ (t2 ++ t3))) := by rw [wo]; simp [ow]
  simp only [List.append_assoc] at e z cv wo' l1 l2 pr pc
  simp [-pIdx, f__law_keeps, b__law_keeps, e, z, ownCs, pr, pc, fq_zero, cv, l1, n1, wo', i0, l2, n2]
end WR

namespace WR
open PySem PySem.Spec PyProof.Rows L2
/-! ### loops that may break -/
def RS.IsB (o : RS) (N K : Fm → IH → Prop) (R : PV → IH → Prop) : Prop := match o with
  | .nx r h => N r h
  | .bk r h => K r h
  | .rt v h => R v h
  | _ => False
theorem RS.Is.b {o : RS} {N K : Fm → IH → Prop} {R : PV → IH → Prop} (h : o.Is N R) : o.IsB N K R := by
  cases o <;> first | exact h | exact h.elim
theorem wb_seq {A B : SX} {r : Fm} {h : IH} {N K : Fm → IH → Prop} {R : PV → IH → Prop} (e : (A r h).IsB (fun r1 h1 => (B r1 h1).IsB N K R) K R) : (sSeq A B r h).IsB N K R := by
  simp only [sSeq]
  cases q : A r h with
  | nx r1 h1 => rw [q] at e; exact e
  | rt v h1 => rw [q] at e; exact e
  | bk r1 h1 => rw [q] at e; exact e
  | ct r1 h1 => rw [q] at e; exact e.elim
  | ex x r1 h1 => rw [q] at e; exact e.elim
  | bad => rw [q] at e; exact e.elim
theorem wb_if {c : TX} {A B : SX} {r : Fm} {h h1 : IH} {b : Bool} {N K : Fm → IH → Prop} {R : PV → IH → Prop} (e : c r h = .ok b h1) (k1 : b = true → (A r h1).IsB N K R) (k2 : b = false → (B r h1).IsB N K R) : (sIf c A B r h).IsB N K R := by
  simp only [sIf, e, toS]
  cases b with
  | true => exact k1 rfl
  | false => exact k2 rfl
theorem w_forB {I0 : Fm → IH → Res ItF} {g : TgF} {B : SX} {r : Fm} {h : IH} {N : Fm → IH → Prop} {R : PV → IH → Prop} {it : ItF} {h1 : IH} (n : Nat) (J : Nat → Fm → IH → Prop)
    (hI : I0 r h = .ok it h1) (hn : n < 1000000) (h0 : J 0 r h1)
    (hs : ∀ i r h, i < n → J i r h → ∃ v r1, it i h = some (some v) ∧ g v r = some r1 ∧ (B r1 h).IsB (J (i + 1)) N R)
    (he : ∀ r h, J n r h → it n h = some none ∧ N r h) : (sFor I0 g B r h).Is N R := by
  have key : ∀ k i r h, n - i < k → i ≤ n → J i r h → (forL it g B k i r h).Is N R := by
    intro k
    induction k with
    | zero => intro i r h hk; omega
    | succ k ih =>
      intro i r h hk hi hJ
      by_cases q : i < n
      · obtain ⟨v, r1, e1, e2, e3⟩ := hs i r h q hJ
        unfold forL
        simp only [e1, e2]
        cases z : B r1 h with
        | nx r2 h2 => rw [z] at e3; exact ih (i + 1) r2 h2 (by omega) (by omega) e3
        | rt v h2 => rw [z] at e3; exact e3
        | bk r1 h1 => rw [z] at e3; exact e3
        | ct r1 h1 => rw [z] at e3; exact e3.elim
        | ex x r1 h1 => rw [z] at e3; exact e3.elim
        | bad => rw [z] at e3; exact e3.elim
      · have : i = n := by omega
        subst this
        obtain ⟨e1, e2⟩ := he r h hJ
        rw [for_end e1]
        exact e2
  show (toS (I0 r h) r fun it h1 => forL it g B LIM 0 r h1).Is N R
  rw [hI]
  exact key LIM 0 r h1 (by simp [LIM]; omega) (by omega) h0
/-! ### drawn turns -/
theorem phi_ok {a b : Int} (ha : a = 99 ∨ a = 97 ∨ a = 9 ∨ a = 11 ∨ a = 10) (hb : b = 100 ∨ b = 10) : 0 < mkRat a b.toNat ∧ mkRat a b.toNat ≤ 10 ∧ mkRat a b.toNat * ((100 : Nat) : Rat) = ((a * (100 / b) : Int) : Rat) := by
  rcases ha with rfl | rfl | rfl | rfl | rfl <;> rcases hb with rfl | rfl <;> refine ⟨by decide +kernel, by decide +kernel, by decide +kernel⟩
/-- what is drawn so far: the last one, all of them -/
structure OkD (h l W : Rat) (k : Nat) : Prop where
  l0 : 0 < l
  l1 : l ≤ ((64 ^ k : Nat) : Rat)
  w0 : 0 ≤ W
  w1 : W ≤ ((2 * 64 ^ k : Nat) : Rat)
  dl : Dn ((h.den * 100) ^ k) l
  dw : Dn ((h.den * 100) ^ k) W
theorem OkD.zero (h : Rat) : OkD h 1 0 0 := ⟨by decide, by decide, Rat.le_refl, by decide, ⟨1, by simp⟩, ⟨0, by simp⟩⟩
theorem OkD.next {h l W : Rat} {k : Nat} (o : OkD h l W k) (h4 : h ≤ 4) (h0 : 0 ≤ h) {p : Rat} (p0 : 0 < p) (p1 : p ≤ 10) (pd : Dn 100 p) (m : 0 < h * l - W) : OkD h ((h * l - W) * p) (W + (h * l - W) * p) (k + 1) := by
  have l0 := o.l0
  have w0 := o.w0
  have a : 0 < (h * l - W) * p := Rat.mul_pos m p0
  have b1 : (h * l - W) * p ≤ (h * l - W) * 10 := Rat.mul_le_mul_of_nonneg_left p1 (by grind)
  have b2 : h * l ≤ 4 * l := Rat.mul_le_mul_of_nonneg_right h4 (by grind)
  have e : ((64 ^ (k + 1) : Nat) : Rat) = ((64 ^ k : Nat) : Rat) * 64 := by rw [Nat.pow_succ, Rat.natCast_mul]; rfl
  have e2 : ((2 * 64 ^ (k + 1) : Nat) : Rat) = 2 * ((64 ^ (k + 1) : Nat) : Rat) := by rw [Rat.natCast_mul]; rfl
  have e3 : ((2 * 64 ^ k : Nat) : Rat) = 2 * ((64 ^ k : Nat) : Rat) := by rw [Rat.natCast_mul]; rfl
  have l1 := o.l1
  have w1 := o.w1
  rw [e3] at w1
  have d1 : Dn ((h.den * 100) ^ k * h.den) (h * l - W) := by
    have := (Dn.self h).mul o.dl
    rw [Nat.mul_comm] at this
    exact this.sub (o.dw.more _)
  have d2 : Dn ((h.den * 100) ^ (k + 1)) ((h * l - W) * p) := by
    have := d1.mul pd
    rwa [Nat.mul_assoc, ← Nat.pow_succ] at this
  have d3 : Dn ((h.den * 100) ^ (k + 1)) W := by
    have := o.dw.more (h.den * 100)
    rwa [← Nat.pow_succ] at this
  refine ⟨a, by rw [e]; grind, by grind, by rw [e2, e]; grind, d2, d3.add d2⟩
theorem OkD.sm {h l W : Rat} {k : Nat} (o : OkD h l W k) (hd : h.den ≤ 2 ^ 11) (hk : k ≤ 9) : Sm 220 l ∧ Sm 220 W := by
  have D0 : 0 < (h.den * 100) ^ k := Nat.pow_pos (by have := den_pos h; omega)
  have D1 : (h.den * 100) ^ k ≤ 2 ^ 162 := by
    refine Nat.le_trans (Nat.pow_le_pow_left (show h.den * 100 ≤ 2 ^ 18 by omega) k) ?_
    rw [← Nat.pow_mul]
    exact Nat.pow_le_pow_right (by decide) (by omega)
  have V : 2 * 64 ^ k ≤ 2 ^ 55 := by
    have : 64 ^ k ≤ 64 ^ 9 := Nat.pow_le_pow_right (by decide) hk
    exact Nat.le_trans (Nat.mul_le_mul_left 2 this) (by decide)
  have V2 : 64 ^ k ≤ 2 ^ 55 := by omega
  have b : ∀ V, V ≤ 2 ^ 55 → V * (h.den * 100) ^ k < 2 ^ 220 := fun V hV => Nat.lt_of_le_of_lt (Nat.mul_le_mul hV D1) (by decide)
  have b2 : (h.den * 100) ^ k < 2 ^ 220 := Nat.lt_of_le_of_lt D1 (by decide)
  exact ⟨sm_of o.dl D0 (Rat.le_of_lt o.l0) o.l1 (b _ V2) b2, sm_of o.dw D0 o.w0 o.w1 (b _ V) b2⟩
def OkL (T : List (Int × Rat)) : Prop := T.length ≤ 9 ∧ ∀ t ∈ T, (t.1 = 0 ∨ t.1 = 1) ∧ 0 < t.2 ∧ Sm 220 t.2
theorem Kp.h2 {h g : IH} (k : Kp 1 0 h g) {n : Nat} {o : MO} (hn : 2 ≤ n) (e : h[n]? = some o) : g[n]? = some o := k.get n o (by omega) (by omega) e
@[simp] theorem tf1 : (("TooFar" : Str) = ("RoadError" : Str)) = False := eq_false (by decide +kernel)
def DrP (v : PV) (g' : IH) : Prop := ∃ (x : Nat) (T : List (Int × Rat)), v = .obj x ∧ DS 1 0 g' ∧ g'[x]? = some (.lst (T.map tq)) ∧ OkL T ∧ ∀ t ∈ T, t.2 < 1000000000000
theorem drawn_eq {q : Rat} (o : OkS q) (h9 : q < 9) {g : IH} (d : DS 1 0 g) : ∃ v g', f__law_drawn [.obj 1, fq q] g = .ok v g' ∧ DrP v g' := by
  have hv := lhalf_eq o g
  have mu : mulOk 2 (q.den : Int) = true := by unfold mulOk; simp
  have h4 : hf q ≤ 4 := by have := o.nine h9; grind
  have hd := o.hd
  have hs := o.hs
  have lg := d.lt
  refine w_fn rfl ?_
  refine w_seq (w_set (v := fq (hf q)) (h1 := g) (by simp [-pIdx, fi0, fi1, mu, hv]) ?_)
  refine w_seq (?_ : (_ : RS).Is _ _)
  have st : ∀ r : Fm, sPar3 3 4 5 (aCons (eLst aNil) (aCons (eTup (aCons (eC (.int 0)) (aCons (eC (.int 1)) aNil))) (aCons (eTup (aCons (eC (.int 1)) (aCons (eC (.int 1)) aNil))) aNil))) r g = .nx (((r.set 3 (some (.obj g.length))).set 4 (some (fq 0))).set 5 (some (fq 1))) (g ++ [.lst []]) := fun r => by simp [fq_zero, fq_one]
  rw [st]
  simp only [is_nx0]
  clear st
  obtain ⟨c, g1, f1, c0, c1, d1, K1⟩ := draw (d.app [.lst []]) 8 (by decide) (by decide)
  have z1 := K1.h2 (n := g.length) (o := .lst []) (by omega) (by simp)
  obtain ⟨n, en⟩ : ∃ n : Nat, 2 + c = (n : Int) := ⟨(2 + c).toNat, by omega⟩
  have n9 : n ≤ 9 := by omega
  have a2 : 2 ≤ g.length := by omega
  generalize g.length = a at z1 a2
  have s12 : Sm 40 (1000000000000 : Rat) := by constructor <;> decide
  have f12 : PV.tup [.int 1000000000000, .int 1] = fq 1000000000000 := rfl
  have fin : ∀ (T : List (Int × Rat)) (l W : Rat) (b6 b7 b8 : Option PV) (g' : IH), DS 1 0 g' → g'[a]? = some (.lst (T.map tq)) → OkL T →
      (sRet (eLc (eIter (eVar 3)) (gVar 9) (tTru (eCall f__law_under (aCons (eOp pIdx (eVar 9) (eC (.int 1))) (aCons (eTup (aCons (eOp pPow (eC (.int 10)) (eC (.int 12))) (aCons (eC (.int 1)) aNil))) aNil)))) (eVar 9) [9]) [some (.obj 1), some (fq q), some (fq (hf q)), some (.obj a), some (fq W), some (fq l), b6, b7, b8, none] g').Is (fun _ h1 => DrP .non h1) DrP := by
    intro T l W b6 b7 b8 g' D z ok
    have z' : ∀ t, (g' ++ t)[a]? = some (.lst (T.map tq)) := fun t => get_old z
    obtain ⟨t, lc⟩ := lc_all (I := eIter (eVar 3)) (it := itObj a) (g := gVar 9) (c := tTru (eCall f__law_under (aCons (eOp pIdx (eVar 9) (eC (.int 1))) (aCons (eTup (aCons (eOp pPow (eC (.int 10)) (eC (.int 12))) (aCons (eC (.int 1)) aNil))) aNil)))) (A := eVar 9) (vs := [9]) (r := [some (.obj 1), some (fq q), some (fq (hf q)), some (.obj a), some (fq W), some (fq l), b6, b7, b8, none]) (h := g') (base := g') (n := T.length) (fun i => tq (T.getD i (0, 0))) (fun i => decide ((T.getD i (0, 0)).2 < 1000000000000)) (by have := ok.1; omega) (by simp [z])
      (fun i t hi => by
        have gd : T.getD i (0, 0) = T[i] := by simp [hi]
        rw [gd]
        have ll := lless_eq (ok.2 _ (List.getElem_mem hi)).2.2 s12 (by decide) (g' ++ t)
        have i1 : ∀ g, pIdx (tq T[i]) (.int 1) g = .ok (fq T[i].2) g := fun g => rfl
        exact ⟨tq T[i], [some (.obj 1), some (fq q), some (fq (hf q)), some (.obj a), some (fq W), some (fq l), b6, b7, b8, some (tq T[i])], [], by simp [z', hi], rfl, by simp [-pIdx, i1, f12, ll], fun _ => ⟨[], by simp⟩⟩)
      (fun t => by simp [z'])
    have f := filt_range T (0, 0) (fun t => decide (t.2 < 1000000000000))
    have f2 : ((List.range T.length).filter fun i => decide ((T.getD i (0, 0)).2 < 1000000000000)).map (fun i => tq (T.getD i (0, 0))) = (T.filter fun t => decide (t.2 < 1000000000000)).map tq := by rw [← f, List.map_map]; rfl
    rw [f2] at lc
    refine w_ret (v := .obj g'.length) (h1 := g' ++ .lst ((T.filter fun t => decide (t.2 < 1000000000000)).map tq) :: t) lc ⟨g'.length, T.filter fun t => decide (t.2 < 1000000000000), rfl, D.app _, by simp, ⟨?_, fun t ht => ok.2 t (List.mem_filter.mp ht).1⟩, fun t ht => by simpa using (List.mem_filter.mp ht).2⟩
    exact Nat.le_trans (List.length_filter_le _ _) ok.1
  refine w_seq (w_forB (it := itRange 0 n) (h1 := g1) n (fun i r g' => ∃ (T : List (Int × Rat)) (l W : Rat) (b6 b7 b8 : Option PV), r = [some (.obj 1), some (fq q), some (fq (hf q)), some (.obj a), some (fq W), some (fq l), b6, b7, b8, none] ∧ DS 1 0 g' ∧ g'[a]? = some (.lst (T.map tq)) ∧ T.length = i ∧ OkL T ∧ OkD (hf q) l W i)
    (by simp [f1, en, rngOk, show n < 4611686018427387904 by omega]) (by omega)
    ⟨[], 1, 0, none, none, none, rfl, d1, z1, rfl, ⟨by decide, fun t ht => by cases ht⟩, OkD.zero _⟩ ?_ ?_)
  · rintro i r g' hi ⟨T, l, W, b6, b7, b8, rfl, D, z, Tl, ok, od⟩
    refine ⟨.int (i : Nat), [some (.obj 1), some (fq q), some (fq (hf q)), some (.obj a), some (fq W), some (fq l), some (.int (i : Nat)), b7, b8, none], by simp [hi], rfl, ?_⟩
    obtain ⟨ls, ws⟩ := od.sm hd (by omega)
    have t1 := ltimes_eq hs ls (by decide) g'
    have m1 := lplus_eq (hs.mul ls) ws.neg (by decide) g'
    rw [← Rat.sub_eq_add_neg] at m1
    refine wb_seq (RS.Is.b (w_set (v := fq (hf q * l - W)) (h1 := g') (by simp [-pIdx, t1, fi0, fi1, fq_neg, m1]) ?_))
    have np := numpos (hf q * l - W)
    have ms : Sm 470 (hf q * l - W) := ((hs.mul ls).sub ws).mono (by decide)
    generalize hm : hf q * l - W = m at np ms
    refine wb_seq (wb_if (b := decide (m.num ≤ 0)) (h1 := g') (by simp [-pIdx, fi0]) (fun _ => ?_) (fun hb => RS.Is.b (w_nil ?_)))
    · exact fin T l W _ _ _ g' D z ok
    have mp : 0 < m := np.mp (by have := of_decide_eq_false hb; omega)
    have la := D.lt
    obtain ⟨s2, g2, f2, s20, s21, d2, K2⟩ := draw (D.app [.lst [.int 99, .int 97, .int 9, .int 11, .int 10]]) 5 (by decide) (by decide)
    have y2 := K2.h2 (n := g'.length) (o := .lst [.int 99, .int 97, .int 9, .int 11, .int 10]) (by omega) (by simp)
    have q2 := K2.h2 a2 (get_old z)
    obtain ⟨A, eA, hA⟩ : ∃ A : Int, atI [PV.int 99, .int 97, .int 9, .int 11, .int 10] s2 = some (.int A) ∧ (A = 99 ∨ A = 97 ∨ A = 9 ∨ A = 11 ∨ A = 10) := by
      rcases (show s2 = 0 ∨ s2 = 1 ∨ s2 = 2 ∨ s2 = 3 ∨ s2 = 4 by omega) with rfl | rfl | rfl | rfl | rfl
      · exact ⟨99, rfl, by decide⟩
      · exact ⟨97, rfl, by decide⟩
      · exact ⟨9, rfl, by decide⟩
      · exact ⟨11, rfl, by decide⟩
      · exact ⟨10, rfl, by decide⟩
    have lb := d2.lt
    obtain ⟨s3, g3, f3, s30, s31, d3, K3⟩ := draw (d2.app [.lst [.int 100, .int 100, .int 10, .int 10, .int 10]]) 5 (by decide) (by decide)
    have y3 := K3.h2 (n := g2.length) (o := .lst [.int 100, .int 100, .int 10, .int 10, .int 10]) (by omega) (by simp)
    have q3 := K3.h2 a2 (get_old q2)
    obtain ⟨B, eB', hB⟩ : ∃ B : Int, atI [PV.int 100, .int 100, .int 10, .int 10, .int 10] s3 = some (.int B) ∧ (B = 100 ∨ B = 10) := by
      rcases (show s3 = 0 ∨ s3 = 1 ∨ s3 = 2 ∨ s3 = 3 ∨ s3 = 4 by omega) with rfl | rfl | rfl | rfl | rfl
      · exact ⟨100, rfl, by decide⟩
      · exact ⟨100, rfl, by decide⟩
      · exact ⟨10, rfl, by decide⟩
      · exact ⟨10, rfl, by decide⟩
      · exact ⟨10, rfl, by decide⟩
    have lf := lf_eq' A B g3 (by omega) (by omega) (by omega)
    obtain ⟨p0, p1, pd⟩ := phi_ok hA hB
    have ps : Sm 12 (mkRat A B.toNat) := sm_of (V := 10) ⟨_, pd⟩ (by decide) (Rat.le_of_lt p0) p1 (by decide) (by decide)
    generalize mkRat A B.toNat = p at lf p0 p1 pd ps
    have t2 := ltimes_eq ms ps (by decide) g3
    refine wb_seq (RS.Is.b (w_set (v := fq (m * p)) (h1 := g3) (by simp [f2, y2, eA, f3, y3, eB', lf, t2]) ?_))
    have od' := od.next h4 o.h0 p0 p1 ⟨_, pd⟩ (by rw [hm]; exact mp)
    rw [hm] at od'
    have md : (i : Int) - (i : Int) / 2 * 2 = ((i % 2 : Nat) : Int) := by omega
    have mo : mulOk ((i : Int) / 2) 2 = true := by unfold mulOk; simp
    have Tn : T.map tq ++ [tq (((i % 2 : Nat) : Int), m * p)] = (T ++ [(((i % 2 : Nat) : Int), m * p)]).map tq := by simp
    refine wb_seq (RS.Is.b (w_expr (v := .non) (h1 := g3.set a (.lst ((T ++ [(((i % 2 : Nat) : Int), m * p)]).map tq))) ?_ ?_))
    · rw [← Tn]
      simp [q3, mo, md, tq, Tl, show i < 16777216 by omega, show Nat.log2 2 < 9000 by decide]
    have pl := lplus_eq ws (od'.sm hd (by omega)).1 (by decide) (g3.set a (.lst ((T ++ [(((i % 2 : Nat) : Int), m * p)]).map tq)))
    have gs := get_set_eq (o := .lst ((T ++ [(((i % 2 : Nat) : Int), m * p)]).map tq)) q3
    have ds := d3.set (.lst ((T ++ [(((i % 2 : Nat) : Int), m * p)]).map tq)) (n := a) (by omega) (by omega)
    generalize g3.set a (.lst ((T ++ [(((i % 2 : Nat) : Int), m * p)]).map tq)) = G at pl gs ds
    refine RS.Is.b (?_ : (_ : RS).Is _ _)
    have st : ∀ r : Fm, r[4]? = some (some (fq W)) → r[8]? = some (some (fq (m * p))) → sPar 4 5 (aCons (eCall f__law_add (aCons (eVar 4) (aCons (eVar 8) aNil))) (aCons (eVar 8) aNil)) r G = .nx ((r.set 4 (some (fq (W + m * p)))).set 5 (some (fq (m * p)))) G := fun r r4 r8 => by simp [r4, r8, pl]
    rw [st _ rfl rfl]
    simp only [is_nx0]
    refine ⟨T ++ [(((i % 2 : Nat) : Int), m * p)], m * p, W + m * p, _, _, _, rfl, ds, gs, by simp [Tl], ⟨by simp; omega, fun t ht => ?_⟩, od'⟩
    · rcases List.mem_append.mp ht with y | y
      · exact ok.2 t y
      · rw [List.mem_singleton.mp y]
        exact ⟨by simp only; omega, od'.l0, (od'.sm hd (by omega)).1⟩
  · rintro r g' ⟨T, l, W, b6, b7, b8, rfl, D, z, Tl, ok, od⟩
    exact ⟨by simp, fin T l W _ _ _ g' D z ok⟩
end WR

namespace WR
open PySem PySem.Spec PyProof.Rows L2
theorem OkL.bsm {T : List (Int × Rat)} (o : OkL T) : ∀ i, i ≤ T.length → Sm (1 + 225 * i) (bs 0 T i)
  | 0, _ => sm0.mono (by omega)
  | i + 1, h => by
    have hi : i < T.length := by omega
    have g : T.getD i (0, 0) = T[i] := by simp [hi]
    show Sm _ (bs 0 T i + (2 * (T.getD i (0, 0)).2 + 0))
    rw [g, Rat.add_zero]
    exact ((OkL.bsm o i (by omega)).add (sm2'.mul (o.2 _ (List.getElem_mem hi)).2.2)).mono (by omega)
theorem OkL.ok {T : List (Int × Rat)} (o : OkL T) (top : ∀ t ∈ T, t.2 < 1000000000000) : OkP (2, T, 0) := by
  refine ⟨by show (1 : Int) ≤ 2; decide, by show (2 : Int) ≤ 5; decide, by have := o.1; show T.length ≤ 60; omega, fun t ht => ?_, Rat.le_refl, by show (0 : Rat) ≤ 1000000000000; decide, sm0.mono (by decide), fun i hi => ?_⟩
  · obtain ⟨a, b, c⟩ := o.2 t ht
    exact ⟨by omega, by show t.1 < 2; omega, b, Rat.le_of_lt (top t ht), c.mono (by decide)⟩
  · have := o.1
    have hi' : i ≤ T.length := hi
    exact (o.bsm i hi').mono (by omega)
/-- no plan reaches farther within its own share -/
theorem best_plan {T : List (Int × Rat)} (o : OkL T) {s : Rat} (s1 : 1 ≤ s) {w : WV} (hw : wr (2, T, 0) 2 = some w) (le : w.1 ≤ s) (nz : cvr (2, T, 0) ≠ 0) : ∃ j, 1 ≤ j ∧ Alive (hf s) j ∧ 1 ≤ hf s ∧ cvr (2, T, 0) ≤ (xs (hf s) j).1 := by
  have H0 : 0 ≤ hf s := by unfold hf; grind
  have keep : ∀ j (hj : j < T.length), (pc 0 T T[j].1 j).1 < T[j].2 → 1 ≤ T[j].2 → bs 0 T j ≤ 2 * (hf s * mx (pc 0 T T[j].1 j).1 1) := fun j hj c d => by
    have mem : (mx (pc 0 T T[j].1 j).1 1, T[j].2, bs 0 T j) ∈ (pc 0 T T[j].1 (j + 1)).2 := by
      rw [pc_succ 0 T T[j].1 hj]
      have nd : ¬ T[j].2 < 1 := by grind
      simp [c, nd]
    have mem2 := pc_keep 0 T T[j].1 mem (T.length - (j + 1)) (by omega)
    rw [show j + 1 + (T.length - (j + 1)) = T.length by omega] at mem2
    obtain ⟨p, hp, ep⟩ : ∃ p : Nat, p < 2 ∧ T[j].1 = (p : Nat) := by
      rcases (o.2 _ (List.getElem_mem hj)).1 with z | z
      · exact ⟨0, by decide, z⟩
      · exact ⟨1, by decide, z⟩
    have m1 : 1 ≤ mx (pc 0 T T[j].1 j).1 1 := mx_one
    obtain ⟨v, ev, lv⟩ := wr_mem (x := (2, T, 0)) 2 p hp (mx (pc 0 T T[j].1 j).1 1, T[j].2, bs 0 T j) (by rw [← ep]; exact mem2)
    rw [hw] at ev
    cases ev
    simp only at lv
    have b : bs 0 T j / mx (pc 0 T T[j].1 j).1 1 ≤ 2 * hf s := by unfold hf; grind
    have := Rat.mul_le_mul_of_nonneg_right b (show 0 ≤ mx (pc 0 T T[j].1 j).1 1 by grind)
    rw [Rat.div_mul_cancel (by grind)] at this
    grind
  obtain ⟨S, _, J⟩ := JJ.all H0 (fun t ht => (o.2 t ht).1) (fun t ht => (o.2 t ht).2.1) keep T.length (Nat.le_refl _)
  obtain ⟨c0, c1, cc⟩ := cvr2 T
  have r0 := rch_eq (2, T, 0) 0
  have r1 := rch_eq (2, T, 0) 1
  simp only at r0 r1
  have big : 1 ≤ (pc 0 T 0 T.length).1 ∧ 1 ≤ (pc 0 T 1 T.length).1 := by
    by_cases a : (pc 0 T 0 T.length).1 < 1
    · rw [if_pos a] at r0
      by_cases b : (pc 0 T 1 T.length).1 < 1
      · rw [if_pos b] at r1; grind
      · rw [if_neg b] at r1; grind
    · rw [if_neg a] at r0
      by_cases b : (pc 0 T 1 T.length).1 < 1
      · rw [if_pos b] at r1; grind
      · exact ⟨by grind, by grind⟩
  obtain ⟨j, j1, al, h1, le'⟩ := J.fin big.1 big.2
  rw [if_neg (by grind)] at r0 r1
  exact ⟨j, j1, al, h1, by grind⟩
theorem worst_has {T : List (Int × Rat)} (nz : cvr (2, T, 0) ≠ 0) : ∃ w, wr (2, T, 0) 2 = some w := by
  obtain ⟨c0, c1, cc⟩ := cvr2 T
  have some_of : ∀ p : Nat, p < 2 → rch (2, T, 0) (p : Nat) ≠ 0 → ∃ w, wr (2, T, 0) 2 = some w := fun p hp h => by
    have : (pc 0 T (p : Nat) T.length).2 ≠ [] := fun z => by
      have lt := (pc_nil 0 T (p : Nat) _ (Nat.le_refl _)).mp z
      have r := rch_eq (2, T, 0) (p : Nat)
      simp only at r
      rw [if_pos lt] at r
      exact h r
    obtain ⟨t, ht⟩ := List.exists_mem_of_ne_nil _ this
    obtain ⟨v, e, _⟩ := wr_mem (x := (2, T, 0)) 2 p hp t ht
    exact ⟨v, e⟩
  rcases cc with z | z
  · exact some_of 0 (by decide) (by intro y; exact nz (z.trans y))
  · exact some_of 1 (by decide) (by intro y; exact nz (z.trans y))
theorem worst_one {T : List (Int × Rat)} (o : OkP (2, T, 0)) {w : WV} (h : wr (2, T, 0) 2 = some w) : 1 ≤ w.1 := by
  obtain ⟨p, _, k, t, hk, rfl⟩ := wr_src 2 w h
  obtain ⟨j, hj, _, e1, e2, _, _, _⟩ := pc_get 0 T (p : Nat) _ (Nat.le_refl _) k t hk
  simp only
  rw [e2]
  simp only
  have m1 : 1 ≤ mx (pc 0 T (p : Nat) j).1 1 := mx_one
  have b := (bs_nonneg o j (Nat.le_of_lt hj)).1
  simp only at b
  have : 0 ≤ bs 0 T j / mx (pc 0 T (p : Nat) j).1 1 := by
    rw [Rat.div_def]
    exact Rat.mul_nonneg b (Rat.le_of_lt (Rat.inv_pos.mpr (by grind)))
  grind
/-- a share a little above -/
theorem up_mk {w : Rat} (w1 : 1 ≤ w) : w ≤ mkRat (w.num * 1000 / w.den + 1) (Int.toNat 1000) ∧ (mkRat (w.num * 1000 / w.den + 1) (Int.toNat 1000)).den ≤ 1000 := by
  have d0 := den_pos w
  refine ⟨?_, ?_⟩
  · rw [mk_div _ _ (by decide)]
    have e : (((w.num * 1000 / w.den + 1 : Int)) : Rat) / ((1000 : Int) : Rat) * 1000 = ((w.num * 1000 / w.den + 1 : Int) : Rat) := Rat.div_mul_cancel (by decide)
    generalize hy : (((w.num * 1000 / w.den + 1 : Int)) : Rat) / ((1000 : Int) : Rat) = y at e
    refine le_of_mul (show (0 : Rat) < ((1000 * w.den : Nat) : Rat) by exact_mod_cast (show 0 < 1000 * w.den by omega)) ?_
    have e1 : w * ((1000 * w.den : Nat) : Rat) = ((w.num * 1000 : Int) : Rat) := by
      obtain ⟨n, hn⟩ := (⟨w.num, by
        have := Rat.mkRat_self w
        have d : ((w.den : Nat) : Rat) ≠ 0 := fun z => by
          have : w.den = 0 := by exact_mod_cast z
          omega
        rw [Rat.mkRat_eq_div] at this
        have q := congrArg (fun z => z * ((w.den : Nat) : Rat)) this
        replace q : ((w.num : Int) : Rat) / ((w.den : Nat) : Rat) * ((w.den : Nat) : Rat) = w * ((w.den : Nat) : Rat) := q
        rw [Rat.div_mul_cancel d] at q
        exact q.symm⟩ : ∃ n : Int, w * ((w.den : Nat) : Rat) = ((w.num : Int) : Rat))
      rw [Rat.natCast_mul, Rat.intCast_mul]
      have a : ((1000 : Nat) : Rat) = 1000 := rfl
      have b : ((1000 : Int) : Rat) = 1000 := rfl
      rw [a, b]
      grind
    have e2 : y * ((1000 * w.den : Nat) : Rat) = (((w.num * 1000 / w.den + 1) * w.den : Int) : Rat) := by
      rw [Rat.natCast_mul, Rat.intCast_mul, ← e]
      have a : ((1000 : Nat) : Rat) = 1000 := rfl
      have c : (((w.den : Nat) : Int) : Rat) = ((w.den : Nat) : Rat) := rfl
      rw [a, c]
      grind
    rw [e1, e2]
    have : w.num * 1000 ≤ (w.num * 1000 / w.den + 1) * w.den := by
      have := Int.lt_ediv_add_one_mul_self (w.num * 1000) (show (0 : Int) < w.den by omega)
      omega
    exact_mod_cast this
  · rw [Rat.den_mkRat, if_neg (by decide)]
    exact Nat.le_trans (Nat.div_le_self _ _) (by decide)
end WR

namespace WR
open PySem PySem.Spec PyProof.Rows L2
@[simp] theorem eqB_bl (a b : Bool) (h : IH) : pEqB (.bl a) (.bl b) h = some (a == b) := by
  cases a <;> cases b <;> simp [pEqB, SeqAt.shaped, PyData.canLay0, PyData.depth, PyData.eqv]
theorem num_eq (w : Rat) : w * ((w.den : Nat) : Rat) = ((w.num : Int) : Rat) := by
  have d0 := den_pos w
  have := Rat.mkRat_self w
  have d : ((w.den : Nat) : Rat) ≠ 0 := fun z => by
    have : w.den = 0 := by exact_mod_cast z
    omega
  rw [Rat.mkRat_eq_div] at this
  have q := congrArg (fun z => z * ((w.den : Nat) : Rat)) this
  replace q : ((w.num : Int) : Rat) / ((w.den : Nat) : Rat) * ((w.den : Nat) : Rat) = w * ((w.den : Nat) : Rat) := q
  rw [Rat.div_mul_cancel d] at q
  exact q.symm
theorem half_up (F : Rat) : mkRat (F.num + F.den) (2 * F.den) = (F + 1) / 2 := by
  have d0 := den_pos F
  have dn : ((F.den : Nat) : Rat) ≠ 0 := fun z => by
    have : F.den = 0 := by exact_mod_cast z
    omega
  have e := num_eq F
  have e1 : (((F.num + F.den : Int)) : Rat) = (F + 1) * ((F.den : Nat) : Rat) := by
    rw [Rat.intCast_add, ← e]
    have c : (((F.den : Nat) : Int) : Rat) = ((F.den : Nat) : Rat) := rfl
    rw [c]; grind
  rw [Rat.mkRat_eq_div, e1]
  have e2 : ((2 * F.den : Nat) : Rat) = 2 * ((F.den : Nat) : Rat) := by rw [Rat.natCast_mul]; rfl
  rw [e2]
  grind
theorem part_ok {N d : Int} (d0 : 1 ≤ d) (d1 : d ≤ 1000) (n0 : d ≤ N) (n1 : N ≤ 100 * d) : OkS (mkRat N d.toNat) :=
  ⟨mk_ge (m := 1) (by omega) (by omega), mk_le (m := 100) (by omega) (by omega), by
    rw [Rat.den_mkRat, if_neg (by omega)]
    exact Nat.le_trans (Nat.div_le_self _ _) (by omega)⟩
theorem tupI (i : Int) : PV.tup [.int i, .int 1] = fq (i : Rat) := rfl
def tailX : SX := (sSeq (sSet 6 (eCall (mkO "Plan" f_Plan___init__) (aCons (eC (.int 2)) (aCons (eB pTuple1 (aCons (eCall f__law_drawn (aCons (eVar 1) (aCons (eVar 3) aNil))) aNil)) (aCons (eTup (aCons (eC (.int 0)) (aCons (eC (.int 1)) aNil))) aNil)))))
    (sSeq (sIf (tBl (eOp pEq (eCall f_cover (aCons (eVar 6) aNil)) (eTup (aCons (eC (.int 0)) (aCons (eC (.int 1)) aNil))))) (sRet (eC (.bl true))) sNil)
    (sSeq (sSet 7 (eOp pIdx (eCall f_worst (aCons (eVar 6) aNil)) (eC (.int 0))))
    (sSeq (sIf (tOrX (tBl (eOp pGt (eOp pIdx (eVar 7) (eC (.int 1))) (eC (.int 1000)))) (tNotX (tTru (eCall f__law_under (aCons (eVar 7) (aCons (eTup (aCons (eC (.int 9)) (aCons (eC (.int 1)) aNil))) aNil)))))) (sSet 7 (eCall f__law_f (aCons (eOp pAdd (eOp pDiv (eOp pMul (eOp pIdx (eVar 7) (eC (.int 0))) (eC (.int 1000))) (eOp pIdx (eVar 7) (eC (.int 1)))) (eC (.int 1))) (aCons (eC (.int 1000)) aNil)))) sNil)
    (sRet (eOr (eNot (eCall f__law_under (aCons (eVar 7) (aCons (eTup (aCons (eC (.int 9)) (aCons (eC (.int 1)) aNil))) aNil)))) (eNot (eCall f__law_under (aCons (eCall f_farthest (aCons (eVar 7) aNil)) (aCons (eCall f_cover (aCons (eVar 6) aNil)) aNil))))))))))
theorem cover_sm {T : List (Int × Rat)} (ok : OkP (2, T, 0)) : Sm 760 (cvr (2, T, 0)) := by
  obtain ⟨_, _, y | y⟩ := cvr2 T
  · rw [y]; exact rch_sm ok 0
  · rw [y]; exact rch_sm ok 1
theorem tail_eq {q : Rat} (o : OkS q) (h9 : q < 9) {g : IH} (d : DS 1 0 g) (v0 v2 v4 : Option PV) : (tailX [v0, some (.obj 1), v2, some (fq q), v4, none, none, none] g).Is (fun _ _ => PV.non = .bl true) (fun v _ => v = .bl true) := by
  obtain ⟨v, g1, e1, x, T, rfl, d1, z1, okl, top⟩ := drawn_eq o h9 d
  have ok := okl.ok top
  have mk := mk_eq ok g1
  simp only [tqs] at mk
  refine w_seq (w_set (v := .obj g1.length) (h1 := g1 ++ [.ins "Plan" [("held", pq (2, T, 0))]]) (by simp [-mkO, e1, z1, fq_zero, mk]) ?_)
  have z2 : (g1 ++ [.ins "Plan" [("held", pq (2, T, 0))]])[g1.length]? = some (.ins "Plan" [("held", pq (2, T, 0))]) := by simp
  generalize g1 ++ [.ins "Plan" [("held", pq (2, T, 0))]] = g2 at z2
  generalize g1.length = y at z2
  obtain ⟨t3, cv⟩ := cover_eq ok z2
  refine w_seq (w_if (b := decide (cvr (2, T, 0) = 0)) (h1 := g2 ++ t3) (by simp [cv, fq_zero]) (fun _ => w_ret (v := .bl true) rfl rfl) (fun hb => w_nil ?_))
  have nz := of_decide_eq_false hb
  have z3 := get_old (t := t3) z2
  obtain ⟨t4, wo⟩ := worst_eq ok z3
  have e2 : ((2 : Int), T, (0 : Rat)).1.toNat = 2 := rfl
  obtain ⟨w, hw⟩ := worst_has nz
  rw [e2, hw] at wo
  have ws := wr_ok ok 2 w hw
  have w1 := worst_one ok hw
  have i0 : ∀ g, pIdx (wq w) (.int 0) g = .ok (fq w.1) g := fun g => rfl
  refine w_seq (w_set (v := fq w.1) (h1 := g2 ++ t3 ++ t4) (by simp [-pIdx, wo, ow, i0]) ?_)
  have z4 := get_old (t := t4) z3
  generalize g2 ++ t3 ++ t4 = g4 at z4
  have f9 : PV.tup [.int 9, .int 1] = fq 9 := rfl
  have s9 : Sm 5 (9 : Rat) := by constructor <;> decide
  have fin : ∀ s : Rat, 1 ≤ s → s.den ≤ 1000 → w.1 ≤ s → Sm 5000 s → (sRet (eOr (eNot (eCall f__law_under (aCons (eVar 7) (aCons (eTup (aCons (eC (.int 9)) (aCons (eC (.int 1)) aNil))) aNil)))) (eNot (eCall f__law_under (aCons (eCall f_farthest (aCons (eVar 7) aNil)) (aCons (eCall f_cover (aCons (eVar 6) aNil)) aNil))))) [v0, some (.obj 1), v2, some (fq q), v4, none, some (.obj y), some (fq s)] g4).Is (fun _ _ => PV.non = .bl true) (fun v _ => v = .bl true) := by
    intro s s1 sd sw ss
    have l := lless_eq ss s9 (by decide) g4
    by_cases c : s < 9
    · have os : OkS s := ⟨s1, by grind, sd⟩
      obtain ⟨j, j1, al, h1, le⟩ := best_plan okl s1 hw sw nz
      have s3 : 3 ≤ s := by unfold hf at h1; grind
      obtain ⟨F, hF, fe⟩ := farof_eq os c s3
      obtain ⟨t5, fe⟩ := fe g4
      have fe := far_eq os fe
      have z5 := get_old (t := t5) z4
      obtain ⟨t6, cv⟩ := cover_eq ok z5
      have l2 := lless_eq (hF.sm os c) (cover_sm ok) (by decide) (g4 ++ t5 ++ t6)
      have nl : ¬ F < cvr (2, T, 0) := by
        obtain ⟨K, _, a1, a2, _, a4⟩ := hF
        have := a4 j j1 (ends_one a1 a2 al)
        grind
      rw [List.append_assoc] at l2
      exact w_ret (v := .bl true) (h1 := g4 ++ t5 ++ t6) (by simp [f9, l, c, fe, cv, l2, nl]) rfl
    · exact w_ret (v := .bl true) (h1 := g4) (by simp [f9, l, c]) rfl
  have l := lless_eq ws s9 (by decide) g4
  by_cases c : w.1.den ≤ 1000 ∧ w.1 < 9
  · have e : ¬ (1000 : Int) < (w.1.den : Int) := by omega
    refine w_seq (w_if (b := false) (h1 := g4) (by simp [-pIdx, fi1, e, f9, l, c.2]) (fun z => by cases z) (fun _ => w_nil ?_))
    exact fin w.1 w1 c.1 Rat.le_refl (Sm.mono ws (by decide))
  · have tst : ∀ r : Fm, r[7]? = some (some (fq w.1)) → tOrX (tBl (eOp pGt (eOp pIdx (eVar 7) (eC (.int 1))) (eC (.int 1000)))) (tNotX (tTru (eCall f__law_under (aCons (eVar 7) (aCons (eTup (aCons (eC (.int 9)) (aCons (eC (.int 1)) aNil))) aNil))))) r g4 = .ok true g4 := fun r r7 => by
      by_cases e : (1000 : Int) < (w.1.den : Int)
      · simp [-pIdx, r7, fi1, e]
      · have n9 : ¬ w.1 < 9 := fun z => c ⟨by omega, z⟩
        simp [-pIdx, r7, fi1, e, f9, l, n9]
    refine w_seq (w_if (b := true) (h1 := g4) (tst _ rfl) (fun _ => ?_) (fun z => by cases z))
    obtain ⟨u1, u2⟩ := up_mk w1
    have dp := den_pos w.1
    have wn := ws.1
    have wd := ws.2
    have nb : (w.1.num * 1000).natAbs < 2 ^ 4073 := by
      rw [Int.natAbs_mul]
      have : (1000 : Int).natAbs < 2 ^ 11 := by decide
      have := Nat.mul_lt_mul'' wn this
      rwa [← Nat.pow_add] at this
    have nq : (w.1.num * 1000 / w.1.den + 1).natAbs < 2 ^ 4080 := by
      have p := num_pos (show 0 < w.1 by grind)
      have a : 0 ≤ w.1.num * 1000 / w.1.den := Int.ediv_nonneg (by omega) (by omega)
      have b : w.1.num * 1000 / w.1.den ≤ w.1.num * 1000 := Int.ediv_le_self _ (by omega)
      have : (2 : Nat) ^ 4073 < 2 ^ 4080 := Nat.pow_lt_pow_right (by decide) (by decide)
      omega
    have lf := lf_eq (w.1.num * 1000 / w.1.den + 1) 1000 g4 (Nat.lt_of_lt_of_le nq (Nat.pow_le_pow_right (by decide) (by decide))) (by decide) (Nat.lt_of_lt_of_le (show 1000 < 2 ^ 10 by decide) (Nat.pow_le_pow_right (by decide) (by decide)))
    have m1 : mulOk w.1.num 1000 = true := by unfold mulOk; simp
    have ld : w.1.den.log2 < 9000 := Nat.lt_of_lt_of_le (log_of wd (by decide)) (by decide)
    have t1000 : Int.toNat 1000 = 1000 := rfl
    rw [t1000] at u1 u2
    have c1000 : ((1000 : Nat) : Int) = 1000 := rfl
    rw [c1000] at lf
    have us : Sm 5000 (mkRat (w.1.num * 1000 / w.1.den + 1) 1000) := by
      refine ⟨?_, Nat.lt_of_le_of_lt u2 (Nat.lt_of_lt_of_le (show 1000 < 2 ^ 10 by decide) (Nat.pow_le_pow_right (by decide) (by decide)))⟩
      rw [Rat.num_mkRat]
      refine Nat.lt_of_le_of_lt (Int.natAbs_ediv_le_natAbs _ _) ?_
      exact Nat.lt_of_lt_of_le nq (Nat.pow_le_pow_right (by decide) (by decide))
    refine w_set (v := fq (mkRat (w.1.num * 1000 / w.1.den + 1) 1000)) (h1 := g4) (by simp [-pIdx, fi0, fi1, m1, dp, ld, lf]) ?_
    exact fin _ (by grind) u2 u1 us
end WR

namespace WR
open PySem PySem.Spec PyProof.Rows L2
theorem law_true (ns : List Int) (hl : ns.length ≤ 63) : ∃ h, f_law [.fls (ns.map .int)] [] = .ok (.bl true) h := by
  obtain ⟨h1, e1, d1, k1⟩ := mix_eq ns 4 hl []
  simp only [List.length_nil, Nat.zero_add] at e1 d1 k1
  suffices H : ∃ v g, f_law [.fls (ns.map .int)] [] = .ok v g ∧ v = .bl true by
    obtain ⟨v, g, e, rfl⟩ := H
    exact ⟨g, e⟩
  refine w_fn rfl ?_
  refine w_seq (w_set (v := .obj 1) (h1 := h1) (by simp [e1]) ?_)
  -- the share
  have l1 := d1.lt
  obtain ⟨s2, g2, f2, s20, s21, d2, K2⟩ := draw (d1.app [.lst [.int 2, .int 10, .int 200, .int 1000]]) 4 (by decide) (by decide)
  have y2 := K2.h2 (n := h1.length) (o := .lst [.int 2, .int 10, .int 200, .int 1000]) (by omega) (by simp)
  obtain ⟨B, eB', B0, B1⟩ : ∃ B : Int, atI [PV.int 2, .int 10, .int 200, .int 1000] s2 = some (.int B) ∧ 1 ≤ B ∧ B ≤ 1000 := by
    rcases (show s2 = 0 ∨ s2 = 1 ∨ s2 = 2 ∨ s2 = 3 by omega) with rfl | rfl | rfl | rfl
    · exact ⟨2, rfl, by decide, by decide⟩
    · exact ⟨10, rfl, by decide, by decide⟩
    · exact ⟨200, rfl, by decide, by decide⟩
    · exact ⟨1000, rfl, by decide, by decide⟩
  obtain ⟨c, g3, f3, c0, c1, d3, K3⟩ := draw d2 B (by omega) (by omega)
  refine w_seq (w_set (v := .int (1 + c)) (h1 := g3) (by simp [f2, y2, eB', f3]) ?_)
  generalize hd : 1 + c = d
  have d0 : 1 ≤ d := by omega
  have dd : d ≤ 1000 := by omega
  obtain ⟨a, g4, f4, a0, a1, d4, K4⟩ := draw d3 (11 * d + 1) (by omega) (by omega)
  have m11 : mulOk 11 d = true := by unfold mulOk; simp
  have lf4 := lf_eq' (d + a) d g4 (by omega) (by omega) (by omega)
  refine w_seq (w_set (v := fq (mkRat (d + a) d.toNat)) (h1 := g4) (by simp [m11, f4, lf4]) ?_)
  have os1 := part_ok (N := d + a) d0 dd (by omega) (by omega)
  have key : ∀ (N : Fm → IH → Prop) (Q : PV → IH → Prop), (∀ (q : Rat) (g : IH), OkS q → DS 1 0 g → N [some (.fls (ns.map .int)), some (.obj 1), some (.int d), some (fq q), none, none, none, none] g) →
      (sIf (tBl (eOp pGt (eVar 2) (eC (.int 200)))) (sSet 3 (eCall f__law_f (aCons (eOp pAdd (eOp pAdd (eVar 2) (eCall f__law_next (aCons (eVar 1) (aCons (eOp pMul (eC (.int 7)) (eVar 2)) aNil)))) (eOp pMul (eOp pMul (eC (.int 92)) (eVar 2)) (eB pInt1 (aCons (eOp pEq (eCall f__law_next (aCons (eVar 1) (aCons (eC (.int 4)) aNil))) (eC (.int 0))) aNil)))) (aCons (eVar 2) aNil)))) sNil [some (.fls (ns.map .int)), some (.obj 1), some (.int d), some (fq (mkRat (d + a) d.toNat)), none, none, none, none] g4).Is N Q := by
    intro N Q hN
    refine w_if (b := decide (200 < d)) (h1 := g4) (by simp) (fun _ => ?_) (fun _ => w_nil (hN _ _ os1 d4))
    obtain ⟨b, g5, f5, b0, b1, d5, K5⟩ := draw d4 (7 * d) (by omega) (by omega)
    obtain ⟨s6, g6, f6, s60, s61, d6, K6⟩ := draw d5 4 (by decide) (by decide)
    have m7 : mulOk 7 d = true := by unfold mulOk; simp
    have m92 : mulOk 92 d = true := by unfold mulOk; simp
    by_cases c : s6 = 0
    · have mm : mulOk (92 * d) 1 = true := by unfold mulOk; simp
      have lf := lf_eq' (d + b + 92 * d) d g6 (by omega) (by omega) (by omega)
      refine w_set (v := fq (mkRat (d + b + 92 * d) d.toNat)) (h1 := g6) (by simp [m7, m92, mm, f5, f6, c, lf]) (hN _ _ (part_ok d0 dd (by omega) (by omega)) d6)
    · have mm : mulOk (92 * d) 0 = true := by unfold mulOk; simp
      have lf := lf_eq' (d + b) d g6 (by omega) (by omega) (by omega)
      refine w_set (v := fq (mkRat (d + b) d.toNat)) (h1 := g6) (by simp [m7, m92, mm, f5, f6, c, lf]) (hN _ _ (part_ok d0 dd (by omega) (by omega)) d6)
  refine w_seq (key _ _ fun q g oq d7 => ?_)
  clear key lf4 os1
  have f9 : PV.tup [.int 9, .int 1] = fq 9 := rfl
  have s9 : Sm 5 (9 : Rat) := by constructor <;> decide
  have f3' : PV.tup [.int 3, .int 1] = fq 3 := rfl
  have s3' : Sm 5 (3 : Rat) := by constructor <;> decide
  by_cases c9 : q < 9
  case neg =>
    have c9' : 9 ≤ q := by grind
    have fo := fun g => farof_high oq c9' g
    have fe := far_eq oq (fo g)
    refine w_seq (w_set (v := .non) (h1 := g) (by simp [fe]) ?_)
    have l9 := lless_eq oq.sm s9 (by decide) g
    refine w_seq (w_if (b := true) (h1 := g) (by simp [f9, l9, c9]) (fun _ => ?_) (fun z => by cases z))
    obtain ⟨y, g8, f8, y0, y1, d8, K8⟩ := draw d7 1000000000 (by decide) (by decide)
    have lf8 := lf_eq' (3 + y) 3 g8 (by omega) (by decide) (by decide)
    have Mr1 : 1 ≤ mkRat (3 + y) (Int.toNat 3) := mk_ge (m := 1) (by decide) (by omega)
    have Mr2 : mkRat (3 + y) (Int.toNat 3) ≤ 1000000000000 := mk_le (m := 1000000000000) (by decide) (by omega)
    have Mr3 : Sm 750 (mkRat (3 + y) (Int.toNat 3)) := (mk_small (N := 40) (by omega) (by decide) (by decide)).mono (by decide)
    generalize mkRat (3 + y) (Int.toNat 3) = Mr at lf8 Mr1 Mr2 Mr3
    obtain ⟨u, g9, f9', u0, u1, d9, K9⟩ := draw d8 2 (by decide) (by decide)
    obtain ⟨U, eU, U1, U2, U3⟩ : ∃ U : Rat, PV.tup [.int (1000000000000 - u), .int 1] = fq U ∧ 1 ≤ U ∧ U ≤ 1000000000000 ∧ Sm 750 U := by
      refine ⟨((1000000000000 - u : Int) : Rat), rfl, ?_, ?_, ?_, ?_⟩
      · exact Rat.intCast_le_intCast.mpr (show (1 : Int) ≤ 1000000000000 - u by omega)
      · exact Rat.intCast_le_intCast.mpr (show 1000000000000 - u ≤ (1000000000000 : Int) by omega)
      · rw [Rat.num_intCast]
        exact Nat.lt_of_lt_of_le (show _ < 2 ^ 64 by omega) (Nat.pow_le_pow_right (by decide) (by decide))
      · rw [Rat.den_intCast]; exact Nat.lt_of_lt_of_le (show 1 < 2 ^ 64 by decide) (Nat.pow_le_pow_right (by decide) (by decide))
    have l9' := d9.lt
    obtain ⟨s, g10, f10, s0, s1, d10, K10⟩ := draw (d9.app [.lst [fq Mr, fq U]]) 2 (by decide) (by decide)
    have z10 := K10.h2 (n := g9.length) (o := .lst [fq Mr, fq U]) (by omega) (by simp)
    obtain ⟨f, ef, ff1, ff2, ffs⟩ : ∃ f : Rat, atI [fq Mr, fq U] s = some (fq f) ∧ 1 ≤ f ∧ f ≤ 1000000000000 ∧ Sm 750 f := by
      rcases (show s = 0 ∨ s = 1 by omega) with rfl | rfl
      · exact ⟨Mr, rfl, Mr1, Mr2, Mr3⟩
      · exact ⟨U, rfl, U1, U2, U3⟩
    obtain ⟨n, on⟩ := OkN.high oq c9' ff1 ff2 ffs
    obtain ⟨t11, ke⟩ := keeps_eq on (.inl rfl) (fun g => ⟨[], by rw [fo g]; simp⟩) g10
    refine w_seq (w_set (v := fq f) (h1 := g10) (by simp [f8, lf8, f9', eU, f10, z10, ef]) ?_)
    exact w_ret (v := .bl true) (h1 := g10 ++ t11) (by simp [ke]) rfl
  by_cases c3 : q < 3
  · -- below three
    have fo := fun g => farof_low oq c3 g
    have fe := far_eq oq (fo g)
    refine w_seq (w_set (v := fq 0) (h1 := g) (by simp [fe]) ?_)
    have l9 := lless_eq oq.sm s9 (by decide) g
    have l3 := lless_eq oq.sm s3' (by decide) g
    have lfe := lfar_low oq c3 g
    refine w_seq (w_if (b := false) (h1 := g) (by simp [f9, l9, c9]) (fun z => by cases z) (fun _ => w_nil ?_))
    refine w_seq (w_if (b := false) (h1 := g) (by simp [lfe, fq_zero, f3', l3, c3]) (fun z => by cases z) (fun _ => w_nil ?_))
    refine w_seq (w_if (b := false) (h1 := g) (by simp [fq_zero]) (fun z => by cases z) (fun _ => ?_))
    have pn := pw_none oq (f := 1) Rat.le_refl (by decide) (sm1.mono (by decide)) (sm0.mono (by decide)) (by decide) (fo g)
    refine w_if (b := false) (h1 := g) (by simp [fq_zero, fq_one, pn]) (fun z => by cases z) (fun _ => w_nil ?_)
    exact tail_eq oq c9 d7 _ _ _
  · have c3' : 3 ≤ q := by grind
    obtain ⟨F, hF, fo⟩ := farof_eq oq c9 c3'
    obtain ⟨t8, fo8⟩ := fo g
    have fe := far_eq oq fo8
    refine w_seq (w_set (v := fq F) (h1 := g ++ t8) (by simp [fe]) ?_)
    have d8 := d7.app t8
    generalize g ++ t8 = g8 at d8
    have F1 : 1 ≤ F := by
      obtain ⟨K, _, a1, a2, ⟨j, j1, j2, _⟩, a4⟩ := hF
      have := a4 1 (by omega) (by omega)
      rw [x1_eq] at this
      unfold hf at this
      grind
    have Fz : ¬ F = 0 := by grind
    have Fs := hF.sm oq c9
    have l9 := lless_eq oq.sm s9 (by decide) g8
    have l3 := lless_eq oq.sm s3' (by decide) g8
    have lfe := lfar_eq oq c9 c3' hF g8
    refine w_seq (w_if (b := false) (h1 := g8) (by simp [f9, l9, c9]) (fun z => by cases z) (fun _ => w_nil ?_))
    refine w_seq (w_if (b := false) (h1 := g8) (by simp [lfe, fq_zero, f3', l3, c3, Fz]) (fun z => by cases z) (fun _ => w_nil ?_))
    have s12 : Sm 40 (999999999999 : Rat) := by constructor <;> decide
    have f12 : PV.tup [.int 999999999999, .int 1] = fq 999999999999 := rfl
    have l12 := lless_eq Fs s12 (by decide) g8
    refine w_seq (w_if (b := decide (F < 999999999999)) (h1 := g8) (by simp [fq_zero, Fz, f12, l12]) (fun hb => ?_) (fun _ => ?_))
    · have lt := of_decide_eq_true hb
      have lt' : F < 1000000000000 := by grind
      have F2 := hF.sm2 oq lt'
      obtain ⟨n1, on1⟩ := OkN.low oq hF lt' Rat.le_refl F1 (F2.mono (by decide))
      obtain ⟨t9, ke⟩ := keeps_eq on1 (.inr ⟨F, rfl, Fs, Rat.le_refl⟩) fo g8
      have f1000 : PV.tup [.int 1, .int 1000] = fq (1 / 1000) := by
        have a : (1 / 1000 : Rat).num = 1 := by decide +kernel
        have b : (1 / 1000 : Rat).den = 1000 := by decide +kernel
        unfold fq; rw [a, b]; rfl
      have s1000 : Sm 11 (1 / 1000 : Rat) := by constructor <;> decide +kernel
      have pl := lplus_eq F2 s1000 (by decide) (g8 ++ t9)
      obtain ⟨t10, fo10⟩ := fo (g8 ++ t9)
      have pn := pw_none oq (f := F + 1 / 1000) (by grind) (by grind) ((F2.add s1000).mono (by decide)) Fs (by grind) fo10
      refine w_seq (w_if (b := false) (h1 := g8 ++ t9 ++ t10) (by simp [ke, f1000, pl, pn]) (fun z => by cases z) (fun _ => w_nil ?_))
      have d10 := (d8.app t9).app t10
      generalize g8 ++ t9 ++ t10 = g10 at d10
      have l1 := lless_eq sm1 F2 (by decide) g10
      by_cases c1 : 1 < F
      · have hu := half_up F
        have dp := den_pos F
        have lf := lf_eq (F.num + F.den) (2 * F.den) g10 (by
          have a := F2.1
          have b := F2.2
          have : (2 : Nat) ^ 735 + 2 ^ 735 ≤ 2 ^ 30000 := by rw [← Nat.two_mul, ← Nat.pow_succ']; exact Nat.pow_le_pow_right (by decide) (by decide)
          omega) (by omega) (by
          have b := F2.2
          have : 2 * (2 : Nat) ^ 735 ≤ 2 ^ 9000 := by rw [← Nat.pow_succ']; exact Nat.pow_le_pow_right (by decide) (by decide)
          omega)
        rw [hu] at lf
        have cc : ((2 * F.den : Nat) : Int) = 2 * (F.den : Int) := by omega
        rw [cc] at lf
        have mu : mulOk 2 (F.den : Int) = true := by unfold mulOk; simp
        have hs : Sm 745 ((F + 1) / 2) := ((F2.add sm1).div sm2' (by decide)).mono (by decide)
        obtain ⟨n2, on2⟩ := OkN.low oq hF lt' (f := (F + 1) / 2) (by grind) (by grind) (hs.mono (by decide))
        obtain ⟨t11, ke2⟩ := keeps_eq on2 (.inr ⟨F, rfl, Fs, by grind⟩) fo g10
        refine w_if (b := false) (h1 := g10 ++ t11) (by simp [-pIdx, fq_one, l1, c1, fi0, fi1, mu, lf, ke2]) (fun z => by cases z) (fun _ => w_nil ?_)
        exact tail_eq oq c9 (d10.app t11) _ _ _
      · obtain ⟨n2, on2⟩ := OkN.low oq hF lt' (f := 1) F1 Rat.le_refl (sm1.mono (by decide))
        obtain ⟨t11, ke2⟩ := keeps_eq on2 (.inr ⟨F, rfl, Fs, F1⟩) fo g10
        refine w_if (b := false) (h1 := g10 ++ t11) (by simp [fq_one, l1, c1, ke2]) (fun z => by cases z) (fun _ => w_nil ?_)
        exact tail_eq oq c9 (d10.app t11) _ _ _
    · refine w_if (b := false) (h1 := g8) (by simp [fq_zero, Fz]) (fun z => by cases z) (fun _ => w_nil ?_)
      exact tail_eq oq c9 d8 _ _ _
end WR

/-! each def does what its code says -/
namespace WR
open PySem PySem.Spec PyProof.Rows L2
def topS (i : Nat) : Stmt := PySem.Challenge.pw_whichroad_k04_whole_reach_within_a_share.main.body.getD i (.Pass ⟨0, 0, 0, 0⟩)
structure Txt (K : PySem.W.Frag) (mg : Str → Option Value) : Prop where
  d_is_integer : ∃ fd, Fun K "is_integer" "is_integer" (topS 11) (He.ga K "is_integer") fd
  g_is_integer : mg "is_integer" = some (.ref (He.ga K "is_integer"))
  d_is_from : ∃ fd, Fun K "is_from" "is_from" (topS 12) (He.ga K "is_from") fd
  g_is_from : mg "is_from" = some (.ref (He.ga K "is_from"))
  d_common : ∃ fd, Fun K "common" "common" (topS 13) (He.ga K "common") fd
  g_common : mg "common" = some (.ref (He.ga K "common"))
  d_ratio : ∃ fd, Fun K "ratio" "ratio" (topS 14) (He.ga K "ratio") fd
  g_ratio : mg "ratio" = some (.ref (He.ga K "ratio"))
  d_is_fraction : ∃ fd, Fun K "is_fraction" "is_fraction" (topS 15) (He.ga K "is_fraction") fd
  g_is_fraction : mg "is_fraction" = some (.ref (He.ga K "is_fraction"))
  d_plus : ∃ fd, Fun K "plus" "plus" (topS 16) (He.ga K "plus") fd
  g_plus : mg "plus" = some (.ref (He.ga K "plus"))
  d_minus : ∃ fd, Fun K "minus" "minus" (topS 17) (He.ga K "minus") fd
  g_minus : mg "minus" = some (.ref (He.ga K "minus"))
  d_times : ∃ fd, Fun K "times" "times" (topS 18) (He.ga K "times") fd
  g_times : mg "times" = some (.ref (He.ga K "times"))
  d_over : ∃ fd, Fun K "over" "over" (topS 19) (He.ga K "over") fd
  g_over : mg "over" = some (.ref (He.ga K "over"))
  d_is_less : ∃ fd, Fun K "is_less" "is_less" (topS 20) (He.ga K "is_less") fd
  g_is_less : mg "is_less" = some (.ref (He.ga K "is_less"))
  d_is_within : ∃ fd, Fun K "is_within" "is_within" (topS 21) (He.ga K "is_within") fd
  g_is_within : mg "is_within" = some (.ref (He.ga K "is_within"))
  d_least_of : ∃ fd, Fun K "least_of" "least_of" (topS 22) (He.ga K "least_of") fd
  g_least_of : mg "least_of" = some (.ref (He.ga K "least_of"))
  d_greatest_of : ∃ fd, Fun K "greatest_of" "greatest_of" (topS 23) (He.ga K "greatest_of") fd
  g_greatest_of : mg "greatest_of" = some (.ref (He.ga K "greatest_of"))
  d_is_reach : ∃ fd, Fun K "is_reach" "is_reach" (topS 28) (He.ga K "is_reach") fd
  g_is_reach : mg "is_reach" = some (.ref (He.ga K "is_reach"))
  d_is_turn : ∃ fd, Fun K "is_turn" "is_turn" (topS 29) (He.ga K "is_turn") fd
  g_is_turn : mg "is_turn" = some (.ref (He.ga K "is_turn"))
  d_check_roads : ∃ fd, Fun K "check_roads" "check_roads" (topS 30) (He.ga K "check_roads") fd
  g_check_roads : mg "check_roads" = some (.ref (He.ga K "check_roads"))
  d_check_cost : ∃ fd, Fun K "check_cost" "check_cost" (topS 31) (He.ga K "check_cost") fd
  g_check_cost : mg "check_cost" = some (.ref (He.ga K "check_cost"))
  d_Plan___init__ : ∃ fd, Fun K "__init__" "Plan.__init__" (inClass (topS 32) 0) (He.ma K (He.ga K "Plan") "__init__") fd
  d_Plan_roads : ∃ fd, Fun K "roads" "Plan.roads" (inClass (topS 32) 1) (He5.wf K (He.ga K "Plan") "property" "roads") fd
  d_Plan_turns : ∃ fd, Fun K "turns" "Plan.turns" (inClass (topS 32) 2) (He5.wf K (He.ga K "Plan") "property" "turns") fd
  d_Plan_cost : ∃ fd, Fun K "cost" "Plan.cost" (inClass (topS 32) 3) (He5.wf K (He.ga K "Plan") "property" "cost") fd
  d_Plan___len__ : ∃ fd, Fun K "__len__" "Plan.__len__" (inClass (topS 32) 4) (He.ma K (He.ga K "Plan") "__len__") fd
  d_Plan___eq__ : ∃ fd, Fun K "__eq__" "Plan.__eq__" (inClass (topS 32) 5) (He.ma K (He.ga K "Plan") "__eq__") fd
  d_check_plan : ∃ fd, Fun K "check_plan" "check_plan" (topS 33) (He.ga K "check_plan") fd
  g_check_plan : mg "check_plan" = some (.ref (He.ga K "check_plan"))
  d_bases_of : ∃ fd, Fun K "bases_of" "bases_of" (topS 34) (He.ga K "bases_of") fd
  g_bases_of : mg "bases_of" = some (.ref (He.ga K "bases_of"))
  d_pieces_of : ∃ fd, Fun K "pieces_of" "pieces_of" (topS 35) (He.ga K "pieces_of") fd
  g_pieces_of : mg "pieces_of" = some (.ref (He.ga K "pieces_of"))
  d_reach_of : ∃ fd, Fun K "reach_of" "reach_of" (topS 36) (He.ga K "reach_of") fd
  g_reach_of : mg "reach_of" = some (.ref (He.ga K "reach_of"))
  d_cover : ∃ fd, Fun K "cover" "cover" (topS 37) (He.ga K "cover") fd
  g_cover : mg "cover" = some (.ref (He.ga K "cover"))
  d_worst_of : ∃ fd, Fun K "worst_of" "worst_of" (topS 38) (He.ga K "worst_of") fd
  g_worst_of : mg "worst_of" = some (.ref (He.ga K "worst_of"))
  d_worst : ∃ fd, Fun K "worst" "worst" (topS 39) (He.ga K "worst") fd
  g_worst : mg "worst" = some (.ref (He.ga K "worst"))
  d_check_share : ∃ fd, Fun K "check_share" "check_share" (topS 43) (He.ga K "check_share") fd
  g_check_share : mg "check_share" = some (.ref (He.ga K "check_share"))
  d_half_of : ∃ fd, Fun K "half_of" "half_of" (topS 44) (He.ga K "half_of") fd
  g_half_of : mg "half_of" = some (.ref (He.ga K "half_of"))
  d_reaches_to : ∃ fd, Fun K "reaches_to" "reaches_to" (topS 45) (He.ga K "reaches_to") fd
  g_reaches_to : mg "reaches_to" = some (.ref (He.ga K "reaches_to"))
  d_farthest_of : ∃ fd, Fun K "farthest_of" "farthest_of" (topS 46) (He.ga K "farthest_of") fd
  g_farthest_of : mg "farthest_of" = some (.ref (He.ga K "farthest_of"))
  d_farthest : ∃ fd, Fun K "farthest" "farthest" (topS 47) (He.ga K "farthest") fd
  g_farthest : mg "farthest" = some (.ref (He.ga K "farthest"))
  d_plan_within : ∃ fd, Fun K "plan_within" "plan_within" (topS 48) (He.ga K "plan_within") fd
  g_plan_within : mg "plan_within" = some (.ref (He.ga K "plan_within"))
  d__law_mix : ∃ fd, Fun K "_law_mix" "_law_mix" (topS 50) (He.ga K "_law_mix") fd
  g__law_mix : mg "_law_mix" = some (.ref (He.ga K "_law_mix"))
  d__law_next : ∃ fd, Fun K "_law_next" "_law_next" (topS 51) (He.ga K "_law_next") fd
  g__law_next : mg "_law_next" = some (.ref (He.ga K "_law_next"))
  d__law_part : ∃ fd, Fun K "_law_part" "_law_part" (topS 52) (He.ga K "_law_part") fd
  g__law_part : mg "_law_part" = some (.ref (He.ga K "_law_part"))
  d__law_f : ∃ fd, Fun K "_law_f" "_law_f" (topS 53) (He.ga K "_law_f") fd
  g__law_f : mg "_law_f" = some (.ref (He.ga K "_law_f"))
  d__law_add : ∃ fd, Fun K "_law_add" "_law_add" (topS 54) (He.ga K "_law_add") fd
  g__law_add : mg "_law_add" = some (.ref (He.ga K "_law_add"))
  d__law_mul : ∃ fd, Fun K "_law_mul" "_law_mul" (topS 55) (He.ga K "_law_mul") fd
  g__law_mul : mg "_law_mul" = some (.ref (He.ga K "_law_mul"))
  d__law_div : ∃ fd, Fun K "_law_div" "_law_div" (topS 56) (He.ga K "_law_div") fd
  g__law_div : mg "_law_div" = some (.ref (He.ga K "_law_div"))
  d__law_under : ∃ fd, Fun K "_law_under" "_law_under" (topS 57) (He.ga K "_law_under") fd
  g__law_under : mg "_law_under" = some (.ref (He.ga K "_law_under"))
  d__law_reach : ∃ fd, Fun K "_law_reach" "_law_reach" (topS 58) (He.ga K "_law_reach") fd
  g__law_reach : mg "_law_reach" = some (.ref (He.ga K "_law_reach"))
  d__law_turns : ∃ fd, Fun K "_law_turns" "_law_turns" (topS 59) (He.ga K "_law_turns") fd
  g__law_turns : mg "_law_turns" = some (.ref (He.ga K "_law_turns"))
  d__law_plan : ∃ fd, Fun K "_law_plan" "_law_plan" (topS 60) (He.ga K "_law_plan") fd
  g__law_plan : mg "_law_plan" = some (.ref (He.ga K "_law_plan"))
  d__law_walked : ∃ fd, Fun K "_law_walked" "_law_walked" (topS 61) (He.ga K "_law_walked") fd
  g__law_walked : mg "_law_walked" = some (.ref (He.ga K "_law_walked"))
  d__law_farthest : ∃ fd, Fun K "_law_farthest" "_law_farthest" (topS 62) (He.ga K "_law_farthest") fd
  g__law_farthest : mg "_law_farthest" = some (.ref (He.ga K "_law_farthest"))
  d__law_keeps : ∃ fd, Fun K "_law_keeps" "_law_keeps" (topS 63) (He.ga K "_law_keeps") fd
  g__law_keeps : mg "_law_keeps" = some (.ref (He.ga K "_law_keeps"))
  d__law_drawn : ∃ fd, Fun K "_law_drawn" "_law_drawn" (topS 64) (He.ga K "_law_drawn") fd
  g__law_drawn : mg "_law_drawn" = some (.ref (He.ga K "_law_drawn"))
  d_law : ∃ fd, Fun K "law" "law" (topS 65) (He.ga K "law") fd
  g_law : mg "law" = some (.ref (He.ga K "law"))
  c_MOST_PARTS : ∃ t, mg "MOST_PARTS" = some (.int 1000 t)
  c_MOST_REACH : ∃ t, mg "MOST_REACH" = some (.int 1000000000000 t)
  c_MOST_ROADS : ∃ t, mg "MOST_ROADS" = some (.int 5 t)
  c_MOST_SHARE : ∃ t, mg "MOST_SHARE" = some (.int 100 t)
  c_MOST_TURNS : ∃ t, mg "MOST_TURNS" = some (.int 60 t)
  g_ONE : mg "ONE" = some (.ref (He.ga K "ONE"))
  c_ONE : ∀ H, SqT K H (He.ga K "ONE") [.int 1, .int 1]
  g_ZERO : mg "ZERO" = some (.ref (He.ga K "ZERO"))
  c_ZERO : ∀ H, SqT K H (He.ga K "ZERO") [.int 0, .int 1]
  z_int : mg "int" = none
  z_isinstance : mg "isinstance" = none
  z_bool : mg "bool" = none
  z_abs : mg "abs" = none
  z_tuple : mg "tuple" = none
  z_len : mg "len" = none
  z_enumerate : mg "enumerate" = none
  z_zip : mg "zip" = none
  z_range : mg "range" = none
  z_list : mg "list" = none
  z_max : mg "max" = none
  z_min : mg "min" = none
  gc_Plan : bGlo "Plan" K = true
  o_Plan : OwnC K mg "Plan" (He.ga K "Plan")
  na_Plan_held : NoAttr K (He.ga K "Plan") "held"
  mk_Plan : Mk K (He.ga K "Plan") (He.ma K (He.ga K "Plan") "__init__")
  p_Plan_roads : PropOf K (He.ga K "Plan") "roads" (He.ma K (He.ga K "Plan") "roads") (He5.wf K (He.ga K "Plan") "property" "roads")
  p_Plan_turns : PropOf K (He.ga K "Plan") "turns" (He.ma K (He.ga K "Plan") "turns") (He5.wf K (He.ga K "Plan") "property" "turns")
  p_Plan_cost : PropOf K (He.ga K "Plan") "cost" (He.ma K (He.ga K "Plan") "cost") (He5.wf K (He.ga K "Plan") "property" "cost")
  ln_Plan : PySem.W.findIn K (.ref (He.ga K "Plan")) "__len__" = some (some (.ref (He.ma K (He.ga K "Plan") "__len__"))) ∧ PySem.W.isFn K (.ref (He.ma K (He.ga K "Plan") "__len__")) = true
  eq_Plan : PySem.W.findIn K (.ref (He.ga K "Plan")) "__eq__" = some (some (.ref (He.ma K (He.ga K "Plan") "__eq__"))) ∧ PySem.W.isFn K (.ref (He.ma K (He.ga K "Plan") "__eq__")) = true
  nf_Plan : PySem.W.notFirst K (He.ga K "Plan") (.type "tuple") = true
  os : OwnCs K mg ownCs
section
variable {P : Program} {w : World} {K : PySem.W.Frag} {mg : Str → Option Value} {base : Heap}
theorem sc_is_integer : FnScope ["value"] ["value"] (defScope (topS 11)) := ⟨rfl, rfl, rfl, by decide +kernel, rfl, by decide +kernel, by decide +kernel⟩
theorem ok_is_integer (T : Txt K mg) : GF P w K mg base "is_integer" 1 1 f_is_integer := by
  obtain ⟨fd, F⟩ := T.d_is_integer
  refine gf_mk F T.g_is_integer sc_is_integer 0 rfl (fun _ _ _ _ _ _ us hl => match us, hl with | [_], _ => rfl) fun cdv A outer s H E cx => ?_
  exact is_one (is_ret (ie_and (ie_isi T.os T.z_isinstance (ia_cons (ie_var 0) (ia_cons (ie_tyB T.z_int) ia_nil))) (ie_one (ie_not (ie_isi T.os T.z_isinstance (ia_cons (ie_var 0) (ia_cons (ie_tyB T.z_bool) ia_nil)))))))

theorem sc_is_from : FnScope ["value", "low", "high"] ["value", "low", "high"] (defScope (topS 12)) := ⟨rfl, rfl, rfl, by decide +kernel, rfl, by decide +kernel, by decide +kernel⟩
theorem ok_is_from (T : Txt K mg) : GF P w K mg base "is_from" 2 3 f_is_from := by
  obtain ⟨fd, F⟩ := T.d_is_from
  have G_is_integer := ok_is_integer (P := P) (w := w) (base := base) T
  refine gf_mk F T.g_is_from sc_is_from 0 rfl (fun _ _ _ _ _ _ us hl => match us, hl with | [_, _, _], _ => rfl) fun cdv A outer s H E cx => ?_
  exact is_one (is_ret (ie_and (ie_callG cx G_is_integer (ia_cons (ie_var 0) ia_nil)) (ie_one (ie_lele (ie_var 1) (ie_var 0) (ie_var 2)))))

theorem sc_common : FnScope ["one", "other"] ["one", "other"] (defScope (topS 13)) := ⟨rfl, rfl, rfl, by decide +kernel, rfl, by decide +kernel, by decide +kernel⟩
theorem ok_common (T : Txt K mg) : GF P w K mg base "common" 1 2 f_common := by
  obtain ⟨fd, F⟩ := T.d_common
  refine gf_mk F T.g_common sc_common 0 rfl (fun _ _ _ _ _ _ us hl => match us, hl with | [_, _], _ => rfl) fun cdv A outer s H E cx => ?_
  exact is_cons (is_par (i := 0) (j := 1) cx (ia_cons (ie_abs T.z_abs (ia_cons (ie_var 0) ia_nil)) (ia_cons (ie_abs T.z_abs (ia_cons (ie_var 1) ia_nil)) ia_nil)))
    (is_cons (is_while cx (it_tru (ie_var 1)) (is_one (is_par (i := 0) (j := 1) cx (ia_cons (ie_var 1) (ia_cons (ie_mod (ie_var 0) (ie_var 1)) ia_nil)))))
    (is_one (is_ret (ie_var 0))))

theorem sc_ratio : FnScope ["n", "d", "part"] ["n", "d"] (defScope (topS 14)) := ⟨rfl, rfl, rfl, by decide +kernel, rfl, by decide +kernel, by decide +kernel⟩
theorem ok_ratio (T : Txt K mg) : GF P w K mg base "ratio" 2 2 f_ratio := by
  obtain ⟨fd, F⟩ := T.d_ratio
  have G_common := ok_common (P := P) (w := w) (base := base) T
  refine gf_mk F T.g_ratio sc_ratio 1 rfl (fun _ _ _ _ _ _ us hl => match us, hl with | [_, _], _ => rfl) fun cdv A outer s H E cx => ?_
  exact is_cons (is_set (i := 2) cx (ie_callG cx G_common (ia_cons (ie_var 0) (ia_cons (ie_var 1) ia_nil))))
    (is_one (is_ret (ie_tup (ia_cons (ie_div (ie_var 0) (ie_var 2)) (ia_cons (ie_div (ie_var 1) (ie_var 2)) ia_nil)))))

theorem sc_is_fraction : FnScope ["value"] ["value"] (defScope (topS 15)) := ⟨rfl, rfl, rfl, by decide +kernel, rfl, by decide +kernel, by decide +kernel⟩
theorem ok_is_fraction (T : Txt K mg) : GF P w K mg base "is_fraction" 2 1 f_is_fraction := by
  obtain ⟨fd, F⟩ := T.d_is_fraction
  have G_common := ok_common (P := P) (w := w) (base := base) T
  have G_is_integer := ok_is_integer (P := P) (w := w) (base := base) T
  refine gf_mk F T.g_is_fraction sc_is_fraction 0 rfl (fun _ _ _ _ _ _ us hl => match us, hl with | [_], _ => rfl) fun cdv A outer s H E cx => ?_
  exact is_cons (is_if (PW.pt (iw_or (it_not (it_tru (ie_isi T.os T.z_isinstance (ia_cons (ie_var 0) (ia_cons (ie_tyB T.z_tuple) ia_nil))))) (iw_or1 (it_ne cx (ie_len T.z_len (ia_cons (ie_var 0) ia_nil)) ie_int)))) (is_one (is_ret ie_bl)) is_nil)
    (is_cons (is_if (PW.pt (iw_or (it_not (it_tru (ie_callG cx G_is_integer (ia_cons (ie_idx (ie_var 0) ie_int) ia_nil)))) (iw_or1 (it_not (it_tru (ie_callG cx G_is_integer (ia_cons (ie_idx (ie_var 0) ie_int) ia_nil))))))) (is_one (is_ret ie_bl)) is_nil)
    (is_one (is_ret (ie_and (ie_ge (ie_idx (ie_var 0) ie_int) ie_int) (ie_one (ie_eq cx (ie_callG cx G_common (ia_cons (ie_idx (ie_var 0) ie_int) (ia_cons (ie_idx (ie_var 0) ie_int) ia_nil))) ie_int))))))

theorem sc_plus : FnScope ["one", "other"] ["one", "other"] (defScope (topS 16)) := ⟨rfl, rfl, rfl, by decide +kernel, rfl, by decide +kernel, by decide +kernel⟩
theorem ok_plus (T : Txt K mg) : GF P w K mg base "plus" 3 2 f_plus := by
  obtain ⟨fd, F⟩ := T.d_plus
  have G_ratio := ok_ratio (P := P) (w := w) (base := base) T
  refine gf_mk F T.g_plus sc_plus 0 rfl (fun _ _ _ _ _ _ us hl => match us, hl with | [_, _], _ => rfl) fun cdv A outer s H E cx => ?_
  exact is_one (is_ret (ie_callG cx G_ratio (ia_cons (ie_add (ie_mul (ie_idx (ie_var 0) ie_int) (ie_idx (ie_var 1) ie_int)) (ie_mul (ie_idx (ie_var 1) ie_int) (ie_idx (ie_var 0) ie_int))) (ia_cons (ie_mul (ie_idx (ie_var 0) ie_int) (ie_idx (ie_var 1) ie_int)) ia_nil))))

theorem sc_minus : FnScope ["one", "other"] ["one", "other"] (defScope (topS 17)) := ⟨rfl, rfl, rfl, by decide +kernel, rfl, by decide +kernel, by decide +kernel⟩
theorem ok_minus (T : Txt K mg) : GF P w K mg base "minus" 3 2 f_minus := by
  obtain ⟨fd, F⟩ := T.d_minus
  have G_ratio := ok_ratio (P := P) (w := w) (base := base) T
  refine gf_mk F T.g_minus sc_minus 0 rfl (fun _ _ _ _ _ _ us hl => match us, hl with | [_, _], _ => rfl) fun cdv A outer s H E cx => ?_
  exact is_one (is_ret (ie_callG cx G_ratio (ia_cons (ie_sub (ie_mul (ie_idx (ie_var 0) ie_int) (ie_idx (ie_var 1) ie_int)) (ie_mul (ie_idx (ie_var 1) ie_int) (ie_idx (ie_var 0) ie_int))) (ia_cons (ie_mul (ie_idx (ie_var 0) ie_int) (ie_idx (ie_var 1) ie_int)) ia_nil))))

theorem sc_times : FnScope ["one", "other"] ["one", "other"] (defScope (topS 18)) := ⟨rfl, rfl, rfl, by decide +kernel, rfl, by decide +kernel, by decide +kernel⟩
theorem ok_times (T : Txt K mg) : GF P w K mg base "times" 3 2 f_times := by
  obtain ⟨fd, F⟩ := T.d_times
  have G_ratio := ok_ratio (P := P) (w := w) (base := base) T
  refine gf_mk F T.g_times sc_times 0 rfl (fun _ _ _ _ _ _ us hl => match us, hl with | [_, _], _ => rfl) fun cdv A outer s H E cx => ?_
  exact is_one (is_ret (ie_callG cx G_ratio (ia_cons (ie_mul (ie_idx (ie_var 0) ie_int) (ie_idx (ie_var 1) ie_int)) (ia_cons (ie_mul (ie_idx (ie_var 0) ie_int) (ie_idx (ie_var 1) ie_int)) ia_nil))))

theorem sc_over : FnScope ["one", "other"] ["one", "other"] (defScope (topS 19)) := ⟨rfl, rfl, rfl, by decide +kernel, rfl, by decide +kernel, by decide +kernel⟩
theorem ok_over (T : Txt K mg) : GF P w K mg base "over" 3 2 f_over := by
  obtain ⟨fd, F⟩ := T.d_over
  have G_ratio := ok_ratio (P := P) (w := w) (base := base) T
  refine gf_mk F T.g_over sc_over 0 rfl (fun _ _ _ _ _ _ us hl => match us, hl with | [_, _], _ => rfl) fun cdv A outer s H E cx => ?_
  exact is_one (is_ret (ie_callG cx G_ratio (ia_cons (ie_mul (ie_idx (ie_var 0) ie_int) (ie_idx (ie_var 1) ie_int)) (ia_cons (ie_mul (ie_idx (ie_var 0) ie_int) (ie_idx (ie_var 1) ie_int)) ia_nil))))

theorem sc_is_less : FnScope ["one", "other"] ["one", "other"] (defScope (topS 20)) := ⟨rfl, rfl, rfl, by decide +kernel, rfl, by decide +kernel, by decide +kernel⟩
theorem ok_is_less (T : Txt K mg) : GF P w K mg base "is_less" 1 2 f_is_less := by
  obtain ⟨fd, F⟩ := T.d_is_less
  refine gf_mk F T.g_is_less sc_is_less 0 rfl (fun _ _ _ _ _ _ us hl => match us, hl with | [_, _], _ => rfl) fun cdv A outer s H E cx => ?_
  exact is_one (is_ret (ie_lt (ie_mul (ie_idx (ie_var 0) ie_int) (ie_idx (ie_var 1) ie_int)) (ie_mul (ie_idx (ie_var 1) ie_int) (ie_idx (ie_var 0) ie_int))))

theorem sc_is_within : FnScope ["value", "low", "high"] ["value", "low", "high"] (defScope (topS 21)) := ⟨rfl, rfl, rfl, by decide +kernel, rfl, by decide +kernel, by decide +kernel⟩
theorem ok_is_within (T : Txt K mg) : GF P w K mg base "is_within" 3 3 f_is_within := by
  obtain ⟨fd, F⟩ := T.d_is_within
  have G_is_fraction := ok_is_fraction (P := P) (w := w) (base := base) T
  refine gf_mk F T.g_is_within sc_is_within 0 rfl (fun _ _ _ _ _ _ us hl => match us, hl with | [_, _, _], _ => rfl) fun cdv A outer s H E cx => ?_
  exact is_cons (is_if (it_not (it_tru (ie_callG cx G_is_fraction (ia_cons (ie_var 0) ia_nil)))) (is_one (is_ret ie_bl)) is_nil)
    (is_one (is_ret (ie_lele (ie_mul (ie_var 1) (ie_idx (ie_var 0) ie_int)) (ie_idx (ie_var 0) ie_int) (ie_mul (ie_var 2) (ie_idx (ie_var 0) ie_int)))))

theorem sc_least_of : FnScope ["fractions", "found", "one"] ["fractions"] (defScope (topS 22)) := ⟨rfl, rfl, rfl, by decide +kernel, rfl, by decide +kernel, by decide +kernel⟩
theorem ok_least_of (T : Txt K mg) : GF P w K mg base "least_of" 2 1 f_least_of := by
  obtain ⟨fd, F⟩ := T.d_least_of
  have G_is_less := ok_is_less (P := P) (w := w) (base := base) T
  refine gf_mk F T.g_least_of sc_least_of 2 rfl (fun _ _ _ _ _ _ us hl => match us, hl with | [_], _ => rfl) fun cdv A outer s H E cx => ?_
  exact is_cons (is_set (i := 1) cx (ie_idx (ie_var 0) ie_int))
    (is_cons (is_for cx (ii_seq (ie_var 0)) (ig_name 2 cx.nd) (is_one (is_if (it_tru (ie_callG cx G_is_less (ia_cons (ie_var 2) (ia_cons (ie_var 1) ia_nil)))) (is_one (is_set (i := 1) cx (ie_var 2))) is_nil)))
    (is_one (is_ret (ie_var 1))))

theorem sc_greatest_of : FnScope ["fractions", "found", "one"] ["fractions"] (defScope (topS 23)) := ⟨rfl, rfl, rfl, by decide +kernel, rfl, by decide +kernel, by decide +kernel⟩
theorem ok_greatest_of (T : Txt K mg) : GF P w K mg base "greatest_of" 2 1 f_greatest_of := by
  obtain ⟨fd, F⟩ := T.d_greatest_of
  have G_is_less := ok_is_less (P := P) (w := w) (base := base) T
  refine gf_mk F T.g_greatest_of sc_greatest_of 2 rfl (fun _ _ _ _ _ _ us hl => match us, hl with | [_], _ => rfl) fun cdv A outer s H E cx => ?_
  exact is_cons (is_set (i := 1) cx (ie_idx (ie_var 0) ie_int))
    (is_cons (is_for cx (ii_seq (ie_var 0)) (ig_name 2 cx.nd) (is_one (is_if (it_tru (ie_callG cx G_is_less (ia_cons (ie_var 1) (ia_cons (ie_var 2) ia_nil)))) (is_one (is_set (i := 1) cx (ie_var 2))) is_nil)))
    (is_one (is_ret (ie_var 1))))

theorem sc_is_reach : FnScope ["value"] ["value"] (defScope (topS 28)) := ⟨rfl, rfl, rfl, by decide +kernel, rfl, by decide +kernel, by decide +kernel⟩
theorem ok_is_reach (T : Txt K mg) : GF P w K mg base "is_reach" 4 1 f_is_reach := by
  obtain ⟨fd, F⟩ := T.d_is_reach
  have G_is_within := ok_is_within (P := P) (w := w) (base := base) T
  refine gf_mk F T.g_is_reach sc_is_reach 0 rfl (fun _ _ _ _ _ _ us hl => match us, hl with | [_], _ => rfl) fun cdv A outer s H E cx => ?_
  exact is_one (is_ret (ie_and (ie_callG cx G_is_within (ia_cons (ie_var 0) (ia_cons ie_int (ia_cons (ie_gint rfl T.c_MOST_REACH) ia_nil)))) (ie_one (ie_gt (ie_idx (ie_var 0) ie_int) ie_int))))

theorem sc_is_turn : FnScope ["value", "roads"] ["value", "roads"] (defScope (topS 29)) := ⟨rfl, rfl, rfl, by decide +kernel, rfl, by decide +kernel, by decide +kernel⟩
theorem ok_is_turn (T : Txt K mg) : GF P w K mg base "is_turn" 5 2 f_is_turn := by
  obtain ⟨fd, F⟩ := T.d_is_turn
  have G_is_from := ok_is_from (P := P) (w := w) (base := base) T
  have G_is_reach := ok_is_reach (P := P) (w := w) (base := base) T
  refine gf_mk F T.g_is_turn sc_is_turn 0 rfl (fun _ _ _ _ _ _ us hl => match us, hl with | [_, _], _ => rfl) fun cdv A outer s H E cx => ?_
  exact is_cons (is_if (PW.pt (iw_or (it_not (it_tru (ie_isi T.os T.z_isinstance (ia_cons (ie_var 0) (ia_cons (ie_tyB T.z_tuple) ia_nil))))) (iw_or1 (it_ne cx (ie_len T.z_len (ia_cons (ie_var 0) ia_nil)) ie_int)))) (is_one (is_ret ie_bl)) is_nil)
    (is_one (is_ret (ie_and (ie_callG cx G_is_from (ia_cons (ie_idx (ie_var 0) ie_int) (ia_cons ie_int (ia_cons (ie_sub (ie_var 1) ie_int) ia_nil)))) (ie_one (ie_callG cx G_is_reach (ia_cons (ie_idx (ie_var 0) ie_int) ia_nil))))))

theorem sc_check_roads : FnScope ["value"] ["value"] (defScope (topS 30)) := ⟨rfl, rfl, rfl, by decide +kernel, rfl, by decide +kernel, by decide +kernel⟩
theorem ok_check_roads (T : Txt K mg) : GF P w K mg base "check_roads" 3 1 f_check_roads := by
  obtain ⟨fd, F⟩ := T.d_check_roads
  have G_is_from := ok_is_from (P := P) (w := w) (base := base) T
  refine gf_mk F T.g_check_roads sc_check_roads 0 rfl (fun _ _ _ _ _ _ us hl => match us, hl with | [_], _ => rfl) fun cdv A outer s H E cx => ?_
  exact is_one (is_if (it_not (it_tru (ie_callG cx G_is_from (ia_cons (ie_var 0) (ia_cons ie_int (ia_cons (ie_gint rfl T.c_MOST_ROADS) ia_nil)))))) (is_one is_bad) is_nil)

theorem sc_check_cost : FnScope ["value"] ["value"] (defScope (topS 31)) := ⟨rfl, rfl, rfl, by decide +kernel, rfl, by decide +kernel, by decide +kernel⟩
theorem ok_check_cost (T : Txt K mg) : GF P w K mg base "check_cost" 4 1 f_check_cost := by
  obtain ⟨fd, F⟩ := T.d_check_cost
  have G_is_within := ok_is_within (P := P) (w := w) (base := base) T
  refine gf_mk F T.g_check_cost sc_check_cost 0 rfl (fun _ _ _ _ _ _ us hl => match us, hl with | [_], _ => rfl) fun cdv A outer s H E cx => ?_
  exact is_one (is_if (it_not (it_tru (ie_callG cx G_is_within (ia_cons (ie_var 0) (ia_cons ie_int (ia_cons (ie_gint rfl T.c_MOST_REACH) ia_nil)))))) (is_one is_bad) is_nil)

theorem sc_Plan___init__ : FnScope ["self", "roads", "turns", "cost", "index", "turn"] ["self", "roads", "turns", "cost"] (defScope (inClass (topS 32) 0)) := ⟨rfl, rfl, rfl, by decide +kernel, rfl, by decide +kernel, by decide +kernel⟩
theorem ok_Plan___init__ (T : Txt K mg) : GA P w K mg base (He.ma K (He.ga K "Plan") "__init__") 6 4 f_Plan___init__ := by
  obtain ⟨fd, F⟩ := T.d_Plan___init__
  have G_check_cost := ok_check_cost (P := P) (w := w) (base := base) T
  have G_check_roads := ok_check_roads (P := P) (w := w) (base := base) T
  have G_is_turn := ok_is_turn (P := P) (w := w) (base := base) T
  refine ga_mk F sc_Plan___init__ 2 rfl (fun _ _ _ _ _ _ us hl => match us, hl with | [_, _, _, _], _ => rfl) fun cdv A outer s H E cx => ?_
  exact is_cons (is_expr (ie_callG cx G_check_roads (ia_cons (ie_var 1) ia_nil)))
    (is_cons (is_if (PW.pt (iw_or (it_not (it_tru (ie_isi T.os T.z_isinstance (ia_cons (ie_var 2) (ia_cons (ie_tyB T.z_tuple) ia_nil))))) (iw_or1 (it_gt (ie_len T.z_len (ia_cons (ie_var 2) ia_nil)) (ie_gint rfl T.c_MOST_TURNS))))) (is_one is_bad) is_nil)
    (is_cons (is_for cx (ii_enum T.z_enumerate (ia_cons (ie_var 2) ia_nil)) (ig_tup cx (igs_cons 4 cx.nd (igs_cons 5 cx.nd igs_nil))) (is_one (is_if (it_not (it_tru (ie_callG cx G_is_turn (ia_cons (ie_var 5) (ia_cons (ie_var 1) ia_nil))))) (is_one is_bad) is_nil)))
    (is_cons (is_expr (ie_callG cx G_check_cost (ia_cons (ie_var 3) ia_nil)))
    (is_one (is_fld T.o_Plan.gC T.o_Plan.cl T.na_Plan_held (ie_var 0) (ie_tup (ia_cons (ie_var 1) (ia_cons (ie_var 2) (ia_cons (ie_var 3) ia_nil)))))))))

theorem sc_Plan_roads : FnScope ["self"] ["self"] (defScope (inClass (topS 32) 1)) := ⟨rfl, rfl, rfl, by decide +kernel, rfl, by decide +kernel, by decide +kernel⟩
theorem ok_Plan_roads (T : Txt K mg) : GA P w K mg base (He5.wf K (He.ga K "Plan") "property" "roads") 1 1 f_Plan_roads := by
  obtain ⟨fd, F⟩ := T.d_Plan_roads
  refine ga_mk F sc_Plan_roads 0 rfl (fun _ _ _ _ _ _ us hl => match us, hl with | [_], _ => rfl) fun cdv A outer s H E cx => ?_
  exact is_one (is_ret (ie_idx (ie_fld T.o_Plan.gC T.o_Plan.cl T.na_Plan_held (ie_var 0)) ie_int))

theorem sc_Plan_turns : FnScope ["self"] ["self"] (defScope (inClass (topS 32) 2)) := ⟨rfl, rfl, rfl, by decide +kernel, rfl, by decide +kernel, by decide +kernel⟩
theorem ok_Plan_turns (T : Txt K mg) : GA P w K mg base (He5.wf K (He.ga K "Plan") "property" "turns") 1 1 f_Plan_turns := by
  obtain ⟨fd, F⟩ := T.d_Plan_turns
  refine ga_mk F sc_Plan_turns 0 rfl (fun _ _ _ _ _ _ us hl => match us, hl with | [_], _ => rfl) fun cdv A outer s H E cx => ?_
  exact is_one (is_ret (ie_idx (ie_fld T.o_Plan.gC T.o_Plan.cl T.na_Plan_held (ie_var 0)) ie_int))

theorem sc_Plan_cost : FnScope ["self"] ["self"] (defScope (inClass (topS 32) 3)) := ⟨rfl, rfl, rfl, by decide +kernel, rfl, by decide +kernel, by decide +kernel⟩
theorem ok_Plan_cost (T : Txt K mg) : GA P w K mg base (He5.wf K (He.ga K "Plan") "property" "cost") 1 1 f_Plan_cost := by
  obtain ⟨fd, F⟩ := T.d_Plan_cost
  refine ga_mk F sc_Plan_cost 0 rfl (fun _ _ _ _ _ _ us hl => match us, hl with | [_], _ => rfl) fun cdv A outer s H E cx => ?_
  exact is_one (is_ret (ie_idx (ie_fld T.o_Plan.gC T.o_Plan.cl T.na_Plan_held (ie_var 0)) ie_int))

theorem sc_Plan___len__ : FnScope ["self"] ["self"] (defScope (inClass (topS 32) 4)) := ⟨rfl, rfl, rfl, by decide +kernel, rfl, by decide +kernel, by decide +kernel⟩
theorem ok_Plan___len__ (T : Txt K mg) : GA P w K mg base (He.ma K (He.ga K "Plan") "__len__") 1 1 f_Plan___len__ := by
  obtain ⟨fd, F⟩ := T.d_Plan___len__
  refine ga_mk F sc_Plan___len__ 0 rfl (fun _ _ _ _ _ _ us hl => match us, hl with | [_], _ => rfl) fun cdv A outer s H E cx => ?_
  exact is_one (is_ret (ie_len T.z_len (ia_cons (ie_idx (ie_fld T.o_Plan.gC T.o_Plan.cl T.na_Plan_held (ie_var 0)) ie_int) ia_nil)))

theorem sc_Plan___eq__ : FnScope ["self", "other"] ["self", "other"] (defScope (inClass (topS 32) 5)) := ⟨rfl, rfl, rfl, by decide +kernel, rfl, by decide +kernel, by decide +kernel⟩
theorem ok_Plan___eq__ (T : Txt K mg) : GA P w K mg base (He.ma K (He.ga K "Plan") "__eq__") 1 2 f_Plan___eq__ := by
  obtain ⟨fd, F⟩ := T.d_Plan___eq__
  refine ga_mk F sc_Plan___eq__ 0 rfl (fun _ _ _ _ _ _ us hl => match us, hl with | [_, _], _ => rfl) fun cdv A outer s H E cx => ?_
  exact is_one (is_ret (ie_and (ie_isi T.os T.z_isinstance (ia_cons (ie_var 1) (ia_cons (ie_glo rfl T.o_Plan.gC) ia_nil))) (ie_one (ie_eq cx (ie_fld T.o_Plan.gC T.o_Plan.cl T.na_Plan_held (ie_var 0)) (ie_fld T.o_Plan.gC T.o_Plan.cl T.na_Plan_held (ie_var 1))))))

theorem sc_check_plan : FnScope ["value"] ["value"] (defScope (topS 33)) := ⟨rfl, rfl, rfl, by decide +kernel, rfl, by decide +kernel, by decide +kernel⟩
theorem ok_check_plan (T : Txt K mg) : GF P w K mg base "check_plan" 1 1 f_check_plan := by
  obtain ⟨fd, F⟩ := T.d_check_plan
  refine gf_mk F T.g_check_plan sc_check_plan 0 rfl (fun _ _ _ _ _ _ us hl => match us, hl with | [_], _ => rfl) fun cdv A outer s H E cx => ?_
  exact is_one (is_if (it_not (it_tru (ie_isi T.os T.z_isinstance (ia_cons (ie_var 0) (ia_cons (ie_glo rfl T.o_Plan.gC) ia_nil))))) (is_one is_bad) is_nil)

theorem sc_bases_of : FnScope ["plan", "found", "road", "reach"] ["plan"] (defScope (topS 34)) := ⟨rfl, rfl, rfl, by decide +kernel, rfl, by decide +kernel, by decide +kernel⟩
theorem ok_bases_of (T : Txt K mg) : GF P w K mg base "bases_of" 4 1 f_bases_of := by
  obtain ⟨fd, F⟩ := T.d_bases_of
  have G_plus := ok_plus (P := P) (w := w) (base := base) T
  have G_times := ok_times (P := P) (w := w) (base := base) T
  refine gf_mk F T.g_bases_of sc_bases_of 3 rfl (fun _ _ _ _ _ _ us hl => match us, hl with | [_], _ => rfl) fun cdv A outer s H E cx => ?_
  exact is_cons (is_set (i := 1) cx (ie_lst (ia_cons (ie_gtup rfl T.g_ZERO T.c_ZERO (fun _ _ => .cons (.int 0) (.cons (.int 1) (.nil)))) ia_nil)))
    (is_cons (is_for cx (ii_seq (ie_idx (ie_fld T.o_Plan.gC T.o_Plan.cl T.na_Plan_held (ie_var 0)) ie_int)) (ig_tup cx (igs_cons 2 cx.nd (igs_cons 3 cx.nd igs_nil))) (is_one (is_expr (ie_append (ie_var 1) (ia_cons (ie_callG cx G_plus (ia_cons (ie_idx (ie_var 1) (ie_neg ie_int)) (ia_cons (ie_callG cx G_plus (ia_cons (ie_callG cx G_times (ia_cons (ie_tup (ia_cons ie_int (ia_cons ie_int ia_nil))) (ia_cons (ie_var 3) ia_nil))) (ia_cons (ie_idx (ie_fld T.o_Plan.gC T.o_Plan.cl T.na_Plan_held (ie_var 0)) ie_int) ia_nil))) ia_nil))) ia_nil)))))
    (is_one (is_ret (ie_var 1))))

theorem sc_pieces_of : FnScope ["plan", "road", "found", "most", "turn", "base", "own", "reach"] ["plan", "road"] (defScope (topS 35)) := ⟨rfl, rfl, rfl, by decide +kernel, rfl, by decide +kernel, by decide +kernel⟩
theorem ok_pieces_of (T : Txt K mg) : GF P w K mg base "pieces_of" 5 2 f_pieces_of := by
  obtain ⟨fd, F⟩ := T.d_pieces_of
  have G_bases_of := ok_bases_of (P := P) (w := w) (base := base) T
  have G_greatest_of := ok_greatest_of (P := P) (w := w) (base := base) T
  have G_is_less := ok_is_less (P := P) (w := w) (base := base) T
  refine gf_mk F T.g_pieces_of sc_pieces_of 6 rfl (fun _ _ _ _ _ _ us hl => match us, hl with | [_, _], _ => rfl) fun cdv A outer s H E cx => ?_
  exact is_cons (is_set (i := 2) cx (ie_lst ia_nil))
    (is_cons (is_set (i := 3) cx (ie_gtup rfl T.g_ZERO T.c_ZERO (fun _ _ => .cons (.int 0) (.cons (.int 1) (.nil)))))
    (is_cons (is_for cx (ii_zip T.z_zip (ia_cons (ie_idx (ie_fld T.o_Plan.gC T.o_Plan.cl T.na_Plan_held (ie_var 0)) ie_int) (ia_cons (ie_callG cx G_bases_of (ia_cons (ie_var 0) ia_nil)) ia_nil))) (ig_tup cx (igs_cons 4 cx.nd (igs_cons 5 cx.nd igs_nil))) (is_cons (is_asgT (ie_var 4) (ig_tup cx (igs_cons 6 cx.nd (igs_cons 7 cx.nd igs_nil))))
    (is_one (is_if (PW.pt (iw_and (it_eq cx (ie_var 6) (ie_var 1)) (iw_and1 (it_tru (ie_callG cx G_is_less (ia_cons (ie_var 3) (ia_cons (ie_var 7) ia_nil))))))) (is_cons (is_if (it_not (it_tru (ie_callG cx G_is_less (ia_cons (ie_var 7) (ia_cons (ie_gtup rfl T.g_ONE T.c_ONE (fun _ _ => .cons (.int 1) (.cons (.int 1) (.nil)))) ia_nil))))) (is_one (is_expr (ie_append (ie_var 2) (ia_cons (ie_tup (ia_cons (ie_callG cx G_greatest_of (ia_cons (ie_lst (ia_cons (ie_var 3) (ia_cons (ie_gtup rfl T.g_ONE T.c_ONE (fun _ _ => .cons (.int 1) (.cons (.int 1) (.nil)))) ia_nil))) ia_nil)) (ia_cons (ie_var 7) (ia_cons (ie_var 5) ia_nil)))) ia_nil)))) is_nil)
    (is_one (is_set (i := 3) cx (ie_var 7)))) is_nil))))
    (is_one (is_ret (ie_var 2)))))

theorem sc_reach_of : FnScope ["plan", "road", "found"] ["plan", "road"] (defScope (topS 36)) := ⟨rfl, rfl, rfl, by decide +kernel, rfl, by decide +kernel, by decide +kernel⟩
theorem ok_reach_of (T : Txt K mg) : GF P w K mg base "reach_of" 6 2 f_reach_of := by
  obtain ⟨fd, F⟩ := T.d_reach_of
  have G_pieces_of := ok_pieces_of (P := P) (w := w) (base := base) T
  refine gf_mk F T.g_reach_of sc_reach_of 1 rfl (fun _ _ _ _ _ _ us hl => match us, hl with | [_, _], _ => rfl) fun cdv A outer s H E cx => ?_
  exact is_cons (is_set (i := 2) cx (ie_callG cx G_pieces_of (ia_cons (ie_var 0) (ia_cons (ie_var 1) ia_nil))))
    (is_cons (is_if (it_not (it_tru (ie_var 2))) (is_one (is_ret (ie_gtup rfl T.g_ZERO T.c_ZERO (fun _ _ => .cons (.int 0) (.cons (.int 1) (.nil)))))) is_nil)
    (is_one (is_ret (ie_idx (ie_idx (ie_var 2) (ie_neg ie_int)) ie_int))))

theorem sc_cover : FnScope ["plan", "road"] ["plan"] (defScope (topS 37)) := ⟨rfl, rfl, rfl, by decide +kernel, rfl, by decide +kernel, by decide +kernel⟩
theorem ok_cover (T : Txt K mg) : GF P w K mg base "cover" 7 1 f_cover := by
  obtain ⟨fd, F⟩ := T.d_cover
  have G_check_plan := ok_check_plan (P := P) (w := w) (base := base) T
  have G_least_of := ok_least_of (P := P) (w := w) (base := base) T
  have G_reach_of := ok_reach_of (P := P) (w := w) (base := base) T
  refine gf_mk F T.g_cover sc_cover 1 rfl (fun _ _ _ _ _ _ us hl => match us, hl with | [_], _ => rfl) fun cdv A outer s H E cx => ?_
  exact is_cons (is_expr (ie_callG cx G_check_plan (ia_cons (ie_var 0) ia_nil)))
    (is_one (is_ret (ie_callG cx G_least_of (ia_cons (ie_lc [("road", 1)] cx (ii_range1 T.z_range (ia_cons (ie_idx (ie_fld T.o_Plan.gC T.o_Plan.cl T.na_Plan_held (ie_var 0)) ie_int) ia_nil)) (blkOk_by (by rfl)) (fun _ _ _ _ _ cx => gw_name 1 cx.nd) (fun _ _ _ _ _ cx => it_none) (fun _ _ _ _ _ cx => ie_callG cx G_reach_of (ia_cons (ie_var 0) (ia_cons (ie_var 1) ia_nil)))) ia_nil))))

theorem sc_worst_of : FnScope ["plan", "best", "road", "index", "piece", "own"] ["plan"] (defScope (topS 38)) := ⟨rfl, rfl, rfl, by decide +kernel, rfl, by decide +kernel, by decide +kernel⟩
theorem ok_worst_of (T : Txt K mg) : GF P w K mg base "worst_of" 6 1 f_worst_of := by
  obtain ⟨fd, F⟩ := T.d_worst_of
  have G_is_less := ok_is_less (P := P) (w := w) (base := base) T
  have G_over := ok_over (P := P) (w := w) (base := base) T
  have G_pieces_of := ok_pieces_of (P := P) (w := w) (base := base) T
  have G_plus := ok_plus (P := P) (w := w) (base := base) T
  refine gf_mk F T.g_worst_of sc_worst_of 5 rfl (fun _ _ _ _ _ _ us hl => match us, hl with | [_], _ => rfl) fun cdv A outer s H E cx => ?_
  exact is_cons (is_set (i := 1) cx ie_non)
    (is_cons (is_for cx (ii_range1 T.z_range (ia_cons (ie_idx (ie_fld T.o_Plan.gC T.o_Plan.cl T.na_Plan_held (ie_var 0)) ie_int) ia_nil)) (ig_name 2 cx.nd) (is_one (is_for cx (ii_enum T.z_enumerate (ia_cons (ie_callG cx G_pieces_of (ia_cons (ie_var 0) (ia_cons (ie_var 2) ia_nil))) ia_nil)) (ig_tup cx (igs_cons 3 cx.nd (igs_cons 4 cx.nd igs_nil))) (is_cons (is_set (i := 5) cx (ie_callG cx G_plus (ia_cons (ie_gtup rfl T.g_ONE T.c_ONE (fun _ _ => .cons (.int 1) (.cons (.int 1) (.nil)))) (ia_cons (ie_callG cx G_over (ia_cons (ie_idx (ie_var 4) ie_int) (ia_cons (ie_idx (ie_var 4) ie_int) ia_nil))) ia_nil))))
    (is_one (is_if (PW.pt (iw_or (it_is (ie_var 1) ie_non) (iw_or1 (it_tru (ie_callG cx G_is_less (ia_cons (ie_idx (ie_var 1) ie_int) (ia_cons (ie_var 5) ia_nil))))))) (is_one (is_set (i := 1) cx (ie_tup (ia_cons (ie_var 5) (ia_cons (ie_var 2) (ia_cons (ie_idx (ie_var 4) ie_int) (ia_cons (ie_eq cx (ie_var 3) ie_int) ia_nil))))))) is_nil))))))
    (is_one (is_ret (ie_var 1))))

theorem sc_worst : FnScope ["plan"] ["plan"] (defScope (topS 39)) := ⟨rfl, rfl, rfl, by decide +kernel, rfl, by decide +kernel, by decide +kernel⟩
theorem ok_worst (T : Txt K mg) : GF P w K mg base "worst" 7 1 f_worst := by
  obtain ⟨fd, F⟩ := T.d_worst
  have G_check_plan := ok_check_plan (P := P) (w := w) (base := base) T
  have G_worst_of := ok_worst_of (P := P) (w := w) (base := base) T
  refine gf_mk F T.g_worst sc_worst 0 rfl (fun _ _ _ _ _ _ us hl => match us, hl with | [_], _ => rfl) fun cdv A outer s H E cx => ?_
  exact is_cons (is_expr (ie_callG cx G_check_plan (ia_cons (ie_var 0) ia_nil)))
    (is_one (is_ret (ie_callG cx G_worst_of (ia_cons (ie_var 0) ia_nil))))

theorem sc_check_share : FnScope ["value"] ["value"] (defScope (topS 43)) := ⟨rfl, rfl, rfl, by decide +kernel, rfl, by decide +kernel, by decide +kernel⟩
theorem ok_check_share (T : Txt K mg) : GF P w K mg base "check_share" 4 1 f_check_share := by
  obtain ⟨fd, F⟩ := T.d_check_share
  have G_is_within := ok_is_within (P := P) (w := w) (base := base) T
  refine gf_mk F T.g_check_share sc_check_share 0 rfl (fun _ _ _ _ _ _ us hl => match us, hl with | [_], _ => rfl) fun cdv A outer s H E cx => ?_
  exact is_one (is_if (PW.pt (iw_or (it_not (it_tru (ie_callG cx G_is_within (ia_cons (ie_var 0) (ia_cons ie_int (ia_cons (ie_gint rfl T.c_MOST_SHARE) ia_nil)))))) (iw_or1 (it_gt (ie_idx (ie_var 0) ie_int) (ie_gint rfl T.c_MOST_PARTS))))) (is_one is_bad) is_nil)

theorem sc_half_of : FnScope ["share"] ["share"] (defScope (topS 44)) := ⟨rfl, rfl, rfl, by decide +kernel, rfl, by decide +kernel, by decide +kernel⟩
theorem ok_half_of (T : Txt K mg) : GF P w K mg base "half_of" 3 1 f_half_of := by
  obtain ⟨fd, F⟩ := T.d_half_of
  have G_ratio := ok_ratio (P := P) (w := w) (base := base) T
  refine gf_mk F T.g_half_of sc_half_of 0 rfl (fun _ _ _ _ _ _ us hl => match us, hl with | [_], _ => rfl) fun cdv A outer s H E cx => ?_
  exact is_one (is_ret (ie_callG cx G_ratio (ia_cons (ie_sub (ie_idx (ie_var 0) ie_int) (ie_idx (ie_var 0) ie_int)) (ia_cons (ie_mul ie_int (ie_idx (ie_var 0) ie_int)) ia_nil))))

theorem sc_reaches_to : FnScope ["half", "far", "found", "whole", "new"] ["half", "far"] (defScope (topS 45)) := ⟨rfl, rfl, rfl, by decide +kernel, rfl, by decide +kernel, by decide +kernel⟩
theorem ok_reaches_to (T : Txt K mg) : GF P w K mg base "reaches_to" 4 2 f_reaches_to := by
  obtain ⟨fd, F⟩ := T.d_reaches_to
  have G_is_less := ok_is_less (P := P) (w := w) (base := base) T
  have G_minus := ok_minus (P := P) (w := w) (base := base) T
  have G_plus := ok_plus (P := P) (w := w) (base := base) T
  have G_times := ok_times (P := P) (w := w) (base := base) T
  refine gf_mk F T.g_reaches_to sc_reaches_to 3 rfl (fun _ _ _ _ _ _ us hl => match us, hl with | [_, _], _ => rfl) fun cdv A outer s H E cx => ?_
  exact is_cons (is_set (i := 2) cx (ie_lst ia_nil))
    (is_cons (is_set (i := 3) cx (ie_gtup rfl T.g_ZERO T.c_ZERO (fun _ _ => .cons (.int 0) (.cons (.int 1) (.nil)))))
    (is_cons (is_set (i := 4) cx (ie_var 0))
    (is_cons (is_while cx (it_gt (ie_idx (ie_var 4) ie_int) ie_int) (is_cons (is_expr (ie_append (ie_var 2) (ia_cons (ie_var 4) ia_nil)))
    (is_cons (is_if (PW.pt (iw_and (it_isnot (ie_var 1) ie_non) (iw_and1 (it_not (it_tru (ie_callG cx G_is_less (ia_cons (ie_var 4) (ia_cons (ie_var 1) ia_nil)))))))) (is_one is_break) is_nil)
    (is_cons (is_set (i := 3) cx (ie_callG cx G_plus (ia_cons (ie_var 3) (ia_cons (ie_var 4) ia_nil))))
    (is_one (is_set (i := 4) cx (ie_callG cx G_minus (ia_cons (ie_callG cx G_times (ia_cons (ie_var 0) (ia_cons (ie_var 4) ia_nil))) (ia_cons (ie_var 3) ia_nil)))))))))
    (is_one (is_ret (ie_var 2))))))

theorem sc_farthest_of : FnScope ["share"] ["share"] (defScope (topS 46)) := ⟨rfl, rfl, rfl, by decide +kernel, rfl, by decide +kernel, by decide +kernel⟩
theorem ok_farthest_of (T : Txt K mg) : GF P w K mg base "farthest_of" 5 1 f_farthest_of := by
  obtain ⟨fd, F⟩ := T.d_farthest_of
  have G_greatest_of := ok_greatest_of (P := P) (w := w) (base := base) T
  have G_half_of := ok_half_of (P := P) (w := w) (base := base) T
  have G_is_less := ok_is_less (P := P) (w := w) (base := base) T
  have G_reaches_to := ok_reaches_to (P := P) (w := w) (base := base) T
  refine gf_mk F T.g_farthest_of sc_farthest_of 0 rfl (fun _ _ _ _ _ _ us hl => match us, hl with | [_], _ => rfl) fun cdv A outer s H E cx => ?_
  exact is_cons (is_if (it_not (it_tru (ie_callG cx G_is_less (ia_cons (ie_var 0) (ia_cons (ie_tup (ia_cons ie_int (ia_cons ie_int ia_nil))) ia_nil))))) (is_one (is_ret ie_non)) is_nil)
    (is_cons (is_if (it_tru (ie_callG cx G_is_less (ia_cons (ie_var 0) (ia_cons (ie_tup (ia_cons ie_int (ia_cons ie_int ia_nil))) ia_nil)))) (is_one (is_ret (ie_gtup rfl T.g_ZERO T.c_ZERO (fun _ _ => .cons (.int 0) (.cons (.int 1) (.nil)))))) is_nil)
    (is_one (is_ret (ie_callG cx G_greatest_of (ia_cons (ie_callG cx G_reaches_to (ia_cons (ie_callG cx G_half_of (ia_cons (ie_var 0) ia_nil)) (ia_cons ie_non ia_nil))) ia_nil)))))

theorem sc_farthest : FnScope ["share"] ["share"] (defScope (topS 47)) := ⟨rfl, rfl, rfl, by decide +kernel, rfl, by decide +kernel, by decide +kernel⟩
theorem ok_farthest (T : Txt K mg) : GF P w K mg base "farthest" 6 1 f_farthest := by
  obtain ⟨fd, F⟩ := T.d_farthest
  have G_check_share := ok_check_share (P := P) (w := w) (base := base) T
  have G_farthest_of := ok_farthest_of (P := P) (w := w) (base := base) T
  refine gf_mk F T.g_farthest sc_farthest 0 rfl (fun _ _ _ _ _ _ us hl => match us, hl with | [_], _ => rfl) fun cdv A outer s H E cx => ?_
  exact is_cons (is_expr (ie_callG cx G_check_share (ia_cons (ie_var 0) ia_nil)))
    (is_one (is_ret (ie_callG cx G_farthest_of (ia_cons (ie_var 0) ia_nil))))

theorem sc_plan_within : FnScope ["share", "far", "most", "reaches", "index", "reach"] ["share", "far"] (defScope (topS 48)) := ⟨rfl, rfl, rfl, by decide +kernel, rfl, by decide +kernel, by decide +kernel⟩
theorem ok_plan_within (T : Txt K mg) : GF P w K mg base "plan_within" 8 2 f_plan_within := by
  obtain ⟨fd, F⟩ := T.d_plan_within
  have G_Plan___init__ := ok_Plan___init__ (P := P) (w := w) (base := base) T
  have G_check_share := ok_check_share (P := P) (w := w) (base := base) T
  have G_farthest_of := ok_farthest_of (P := P) (w := w) (base := base) T
  have G_half_of := ok_half_of (P := P) (w := w) (base := base) T
  have G_is_less := ok_is_less (P := P) (w := w) (base := base) T
  have G_is_within := ok_is_within (P := P) (w := w) (base := base) T
  have G_reaches_to := ok_reaches_to (P := P) (w := w) (base := base) T
  refine gf_mk F T.g_plan_within sc_plan_within 4 rfl (fun _ _ _ _ _ _ us hl => match us, hl with | [_, _], _ => rfl) fun cdv A outer s H E cx => ?_
  exact is_cons (is_expr (ie_callG cx G_check_share (ia_cons (ie_var 0) ia_nil)))
    (is_cons (is_if (it_not (it_tru (ie_callG cx G_is_within (ia_cons (ie_var 1) (ia_cons ie_int (ia_cons (ie_gint rfl T.c_MOST_REACH) ia_nil)))))) (is_one is_bad) is_nil)
    (is_cons (is_set (i := 2) cx (ie_callG cx G_farthest_of (ia_cons (ie_var 0) ia_nil)))
    (is_cons (is_if (PW.pt (iw_and (it_isnot (ie_var 2) ie_non) (iw_and1 (it_tru (ie_callG cx G_is_less (ia_cons (ie_var 2) (ia_cons (ie_var 1) ia_nil))))))) (is_one (is_ret ie_non)) is_nil)
    (is_cons (is_set (i := 3) cx (ie_add (ie_sl (ie_callG cx G_reaches_to (ia_cons (ie_callG cx G_half_of (ia_cons (ie_var 0) ia_nil)) (ia_cons (ie_var 1) ia_nil))) io_none (io_some (ie_neg ie_int))) (ie_lst (ia_cons (ie_var 1) (ia_cons (ie_var 1) ia_nil)))))
    (is_one (is_ret (ie_makeG cx T.mk_Plan T.o_Plan.gC G_Plan___init__ (ia_cons ie_int (ia_cons (ie_tuple1 T.z_tuple (ia_cons (ie_lc [("index", 4), ("reach", 5)] cx (ii_enum T.z_enumerate (ia_cons (ie_var 3) ia_nil)) (blkOk_by (by rfl)) (fun _ _ _ _ _ cx => gw_tup cx (gws_cons 4 cx.nd (gws_cons 5 cx.nd gws_nil))) (fun _ _ _ _ _ cx => it_none) (fun _ _ _ _ _ cx => ie_tup (ia_cons (ie_mod (ie_var 4) ie_int) (ia_cons (ie_var 5) ia_nil)))) ia_nil)) (ia_cons (ie_gtup rfl T.g_ZERO T.c_ZERO (fun _ _ => .cons (.int 0) (.cons (.int 1) (.nil)))) ia_nil))))))))))

theorem sc__law_mix : FnScope ["_law_script", "_law_seed", "_law_state", "_law_cell"] ["_law_script", "_law_seed"] (defScope (topS 50)) := ⟨rfl, rfl, rfl, by decide +kernel, rfl, by decide +kernel, by decide +kernel⟩
theorem ok__law_mix (T : Txt K mg) : GF P w K mg base "_law_mix" 1 2 f__law_mix := by
  obtain ⟨fd, F⟩ := T.d__law_mix
  refine gf_mk F T.g__law_mix sc__law_mix 2 rfl (fun _ _ _ _ _ _ us hl => match us, hl with | [_, _], _ => rfl) fun cdv A outer s H E cx => ?_
  exact is_cons (is_set (i := 2) cx (ie_var 1))
    (is_cons (is_for cx (ii_seq (ie_var 0)) (ig_name 3 cx.nd) (is_one (is_set (i := 2) cx (ie_mod (ie_int1 T.z_int (ia_cons (ie_add (ie_add (ie_mul (ie_var 2) ie_int) (ie_mod (ie_int1 T.z_int (ia_cons (ie_var 3) ia_nil)) ie_int)) ie_int) ia_nil)) ie_int))))
    (is_one (is_ret (ie_lst (ia_cons (ie_var 2) (ia_cons (ie_list1 T.z_list (ia_cons (ie_var 0) ia_nil)) (ia_cons ie_int ia_nil)))))))

theorem sc__law_next : FnScope ["_law_h", "_law_bound", "_law_cell", "_law_cells"] ["_law_h", "_law_bound"] (defScope (topS 51)) := ⟨rfl, rfl, rfl, by decide +kernel, rfl, by decide +kernel, by decide +kernel⟩
theorem ok__law_next (T : Txt K mg) : GF P w K mg base "_law_next" 1 2 f__law_next := by
  obtain ⟨fd, F⟩ := T.d__law_next
  refine gf_mk F T.g__law_next sc__law_next 2 rfl (fun _ _ _ _ _ _ us hl => match us, hl with | [_, _], _ => rfl) fun cdv A outer s H E cx => ?_
  exact is_cons (is_set (i := 2) cx (ie_idx (ie_add (ie_idx (ie_var 0) ie_int) (ie_lst (ia_cons ie_int ia_nil))) (ie_mod (ie_int1 T.z_int (ia_cons (ie_idx (ie_var 0) ie_int) ia_nil)) (ie_max2 cx T.z_max (ia_cons ie_int (ia_cons (ie_len T.z_len (ia_cons (ie_idx (ie_var 0) ie_int) ia_nil)) ia_nil))))))
    (is_cons (is_if (it_ge (ie_var 2) (ie_pow ie_int ie_int)) (is_cons (is_set (i := 3) cx (ie_idx (ie_var 0) ie_int))
    (is_cons (is_setix (ie_div (ie_var 2) (ie_var 1)) (ie_var 3) (ie_mod (ie_int1 T.z_int (ia_cons (ie_idx (ie_var 0) ie_int) ia_nil)) (ie_len T.z_len (ia_cons (ie_var 3) ia_nil))))
    (is_one (is_ret (ie_mod (ie_int1 T.z_int (ia_cons (ie_var 2) ia_nil)) (ie_var 1)))))) is_nil)
    (is_cons (is_setix (ie_mod (ie_int1 T.z_int (ia_cons (ie_add (ie_add (ie_mul (ie_idx (ie_var 0) ie_int) ie_int) (ie_mul (ie_var 2) ie_int)) ie_int) ia_nil)) ie_int) (ie_var 0) ie_int)
    (is_cons (is_setix (ie_add (ie_idx (ie_var 0) ie_int) ie_int) (ie_var 0) ie_int)
    (is_one (is_ret (ie_mod (ie_int1 T.z_int (ia_cons (ie_div (ie_idx (ie_var 0) ie_int) ie_int) ia_nil)) (ie_var 1)))))))

theorem sc__law_part : FnScope ["_law_one", "_law_other"] ["_law_one", "_law_other"] (defScope (topS 52)) := ⟨rfl, rfl, rfl, by decide +kernel, rfl, by decide +kernel, by decide +kernel⟩
theorem ok__law_part (T : Txt K mg) : GF P w K mg base "_law_part" 1 2 f__law_part := by
  obtain ⟨fd, F⟩ := T.d__law_part
  refine gf_mk F T.g__law_part sc__law_part 0 rfl (fun _ _ _ _ _ _ us hl => match us, hl with | [_, _], _ => rfl) fun cdv A outer s H E cx => ?_
  exact is_cons (is_par (i := 0) (j := 1) cx (ia_cons (ie_abs T.z_abs (ia_cons (ie_var 0) ia_nil)) (ia_cons (ie_abs T.z_abs (ia_cons (ie_var 1) ia_nil)) ia_nil)))
    (is_cons (is_while cx (it_ne cx (ie_var 1) ie_int) (is_one (is_par (i := 0) (j := 1) cx (ia_cons (ie_var 1) (ia_cons (ie_sub (ie_var 0) (ie_mul (ie_div (ie_var 0) (ie_var 1)) (ie_var 1))) ia_nil)))))
    (is_one (is_ret (ie_var 0))))

theorem sc__law_f : FnScope ["_law_n", "_law_d", "_law_part_here"] ["_law_n", "_law_d"] (defScope (topS 53)) := ⟨rfl, rfl, rfl, by decide +kernel, rfl, by decide +kernel, by decide +kernel⟩
theorem ok__law_f (T : Txt K mg) : GF P w K mg base "_law_f" 2 2 f__law_f := by
  obtain ⟨fd, F⟩ := T.d__law_f
  have G__law_part := ok__law_part (P := P) (w := w) (base := base) T
  refine gf_mk F T.g__law_f sc__law_f 1 rfl (fun _ _ _ _ _ _ us hl => match us, hl with | [_, _], _ => rfl) fun cdv A outer s H E cx => ?_
  exact is_cons (is_set (i := 2) cx (ie_callG cx G__law_part (ia_cons (ie_var 0) (ia_cons (ie_var 1) ia_nil))))
    (is_one (is_ret (ie_tup (ia_cons (ie_div (ie_var 0) (ie_var 2)) (ia_cons (ie_div (ie_var 1) (ie_var 2)) ia_nil)))))

theorem sc__law_add : FnScope ["_law_one", "_law_other"] ["_law_one", "_law_other"] (defScope (topS 54)) := ⟨rfl, rfl, rfl, by decide +kernel, rfl, by decide +kernel, by decide +kernel⟩
theorem ok__law_add (T : Txt K mg) : GF P w K mg base "_law_add" 3 2 f__law_add := by
  obtain ⟨fd, F⟩ := T.d__law_add
  have G__law_f := ok__law_f (P := P) (w := w) (base := base) T
  refine gf_mk F T.g__law_add sc__law_add 0 rfl (fun _ _ _ _ _ _ us hl => match us, hl with | [_, _], _ => rfl) fun cdv A outer s H E cx => ?_
  exact is_one (is_ret (ie_callG cx G__law_f (ia_cons (ie_add (ie_mul (ie_idx (ie_var 0) ie_int) (ie_idx (ie_var 1) ie_int)) (ie_mul (ie_idx (ie_var 1) ie_int) (ie_idx (ie_var 0) ie_int))) (ia_cons (ie_mul (ie_idx (ie_var 0) ie_int) (ie_idx (ie_var 1) ie_int)) ia_nil))))

theorem sc__law_mul : FnScope ["_law_one", "_law_other"] ["_law_one", "_law_other"] (defScope (topS 55)) := ⟨rfl, rfl, rfl, by decide +kernel, rfl, by decide +kernel, by decide +kernel⟩
theorem ok__law_mul (T : Txt K mg) : GF P w K mg base "_law_mul" 3 2 f__law_mul := by
  obtain ⟨fd, F⟩ := T.d__law_mul
  have G__law_f := ok__law_f (P := P) (w := w) (base := base) T
  refine gf_mk F T.g__law_mul sc__law_mul 0 rfl (fun _ _ _ _ _ _ us hl => match us, hl with | [_, _], _ => rfl) fun cdv A outer s H E cx => ?_
  exact is_one (is_ret (ie_callG cx G__law_f (ia_cons (ie_mul (ie_idx (ie_var 0) ie_int) (ie_idx (ie_var 1) ie_int)) (ia_cons (ie_mul (ie_idx (ie_var 0) ie_int) (ie_idx (ie_var 1) ie_int)) ia_nil))))

theorem sc__law_div : FnScope ["_law_one", "_law_other"] ["_law_one", "_law_other"] (defScope (topS 56)) := ⟨rfl, rfl, rfl, by decide +kernel, rfl, by decide +kernel, by decide +kernel⟩
theorem ok__law_div (T : Txt K mg) : GF P w K mg base "_law_div" 3 2 f__law_div := by
  obtain ⟨fd, F⟩ := T.d__law_div
  have G__law_f := ok__law_f (P := P) (w := w) (base := base) T
  refine gf_mk F T.g__law_div sc__law_div 0 rfl (fun _ _ _ _ _ _ us hl => match us, hl with | [_, _], _ => rfl) fun cdv A outer s H E cx => ?_
  exact is_one (is_ret (ie_callG cx G__law_f (ia_cons (ie_mul (ie_idx (ie_var 0) ie_int) (ie_idx (ie_var 1) ie_int)) (ia_cons (ie_mul (ie_idx (ie_var 0) ie_int) (ie_idx (ie_var 1) ie_int)) ia_nil))))

theorem sc__law_under : FnScope ["_law_one", "_law_other"] ["_law_one", "_law_other"] (defScope (topS 57)) := ⟨rfl, rfl, rfl, by decide +kernel, rfl, by decide +kernel, by decide +kernel⟩
theorem ok__law_under (T : Txt K mg) : GF P w K mg base "_law_under" 1 2 f__law_under := by
  obtain ⟨fd, F⟩ := T.d__law_under
  refine gf_mk F T.g__law_under sc__law_under 0 rfl (fun _ _ _ _ _ _ us hl => match us, hl with | [_, _], _ => rfl) fun cdv A outer s H E cx => ?_
  exact is_one (is_ret (ie_lt (ie_mul (ie_idx (ie_var 0) ie_int) (ie_idx (ie_var 1) ie_int)) (ie_mul (ie_idx (ie_var 1) ie_int) (ie_idx (ie_var 0) ie_int))))

theorem sc__law_reach : FnScope ["_law_h", "_law_base", "_law_kind"] ["_law_h", "_law_base"] (defScope (topS 58)) := ⟨rfl, rfl, rfl, by decide +kernel, rfl, by decide +kernel, by decide +kernel⟩
theorem ok__law_reach (T : Txt K mg) : GF P w K mg base "_law_reach" 3 2 f__law_reach := by
  obtain ⟨fd, F⟩ := T.d__law_reach
  have G__law_f := ok__law_f (P := P) (w := w) (base := base) T
  have G__law_next := ok__law_next (P := P) (w := w) (base := base) T
  refine gf_mk F T.g__law_reach sc__law_reach 1 rfl (fun _ _ _ _ _ _ us hl => match us, hl with | [_, _], _ => rfl) fun cdv A outer s H E cx => ?_
  exact is_cons (is_set (i := 2) cx (ie_callG cx G__law_next (ia_cons (ie_var 0) (ia_cons ie_int ia_nil))))
    (is_cons (is_if (it_eq cx (ie_var 2) ie_int) (is_one (is_ret (ie_callG cx G__law_f (ia_cons (ie_add ie_int (ie_callG cx G__law_next (ia_cons (ie_var 0) (ia_cons ie_int ia_nil)))) (ia_cons (ie_add ie_int (ie_callG cx G__law_next (ia_cons (ie_var 0) (ia_cons ie_int ia_nil)))) ia_nil))))) is_nil)
    (is_cons (is_if (it_eq cx (ie_var 2) ie_int) (is_one (is_ret (ie_callG cx G__law_f (ia_cons (ie_add ie_int (ie_callG cx G__law_next (ia_cons (ie_var 0) (ia_cons ie_int ia_nil)))) (ia_cons ie_int ia_nil))))) is_nil)
    (is_one (is_ret (ie_callG cx G__law_f (ia_cons (ie_add (ie_var 1) (ie_callG cx G__law_next (ia_cons (ie_var 0) (ia_cons (ie_add (ie_var 1) ie_int) ia_nil)))) (ia_cons (ie_add ie_int (ie_callG cx G__law_next (ia_cons (ie_var 0) (ia_cons ie_int ia_nil)))) ia_nil)))))))

theorem sc__law_turns : FnScope ["_law_h", "_law_roads", "_law_most", "_law_found", "_law_base", "_law_k", "_law_road"] ["_law_h", "_law_roads", "_law_most"] (defScope (topS 59)) := ⟨rfl, rfl, rfl, by decide +kernel, rfl, by decide +kernel, by decide +kernel⟩
theorem ok__law_turns (T : Txt K mg) : GF P w K mg base "_law_turns" 4 3 f__law_turns := by
  obtain ⟨fd, F⟩ := T.d__law_turns
  have G__law_next := ok__law_next (P := P) (w := w) (base := base) T
  have G__law_reach := ok__law_reach (P := P) (w := w) (base := base) T
  refine gf_mk F T.g__law_turns sc__law_turns 4 rfl (fun _ _ _ _ _ _ us hl => match us, hl with | [_, _, _], _ => rfl) fun cdv A outer s H E cx => ?_
  exact is_cons (is_par (i := 3) (j := 4) cx (ia_cons (ie_lst ia_nil) (ia_cons (ie_add ie_int (ie_callG cx G__law_next (ia_cons (ie_var 0) (ia_cons ie_int ia_nil)))) ia_nil)))
    (is_cons (is_for cx (ii_range1 T.z_range (ia_cons (ie_callG cx G__law_next (ia_cons (ie_var 0) (ia_cons (ie_add (ie_var 2) ie_int) ia_nil))) ia_nil)) (ig_name 5 cx.nd) (is_cons (is_set (i := 6) cx (ie_if (it_gt (ie_callG cx G__law_next (ia_cons (ie_var 0) (ia_cons ie_int ia_nil))) ie_int) (ie_sub (ie_var 5) (ie_mul (ie_div (ie_var 5) (ie_var 1)) (ie_var 1))) (ie_callG cx G__law_next (ia_cons (ie_var 0) (ia_cons (ie_var 1) ia_nil)))))
    (is_cons (is_expr (ie_append (ie_var 3) (ia_cons (ie_tup (ia_cons (ie_var 6) (ia_cons (ie_callG cx G__law_reach (ia_cons (ie_var 0) (ia_cons (ie_var 4) ia_nil))) ia_nil))) ia_nil)))
    (is_one (is_set (i := 4) cx (ie_min2 cx T.z_min (ia_cons (ie_pow ie_int ie_int) (ia_cons (ie_add (ie_var 4) (ie_callG cx G__law_next (ia_cons (ie_var 0) (ia_cons (ie_add (ie_var 4) ie_int) ia_nil)))) ia_nil))))))))
    (is_one (is_ret (ie_tuple1 T.z_tuple (ia_cons (ie_var 3) ia_nil)))))

theorem sc__law_plan : FnScope ["_law_h", "_law_most", "_law_roads", "_law_cost"] ["_law_h", "_law_most"] (defScope (topS 60)) := ⟨rfl, rfl, rfl, by decide +kernel, rfl, by decide +kernel, by decide +kernel⟩
theorem ok__law_plan (T : Txt K mg) : GF P w K mg base "_law_plan" 5 2 f__law_plan := by
  obtain ⟨fd, F⟩ := T.d__law_plan
  have G__law_f := ok__law_f (P := P) (w := w) (base := base) T
  have G__law_next := ok__law_next (P := P) (w := w) (base := base) T
  have G__law_turns := ok__law_turns (P := P) (w := w) (base := base) T
  refine gf_mk F T.g__law_plan sc__law_plan 2 rfl (fun _ _ _ _ _ _ us hl => match us, hl with | [_, _], _ => rfl) fun cdv A outer s H E cx => ?_
  exact is_cons (is_set (i := 2) cx (ie_add ie_int (ie_callG cx G__law_next (ia_cons (ie_var 0) (ia_cons ie_int ia_nil)))))
    (is_cons (is_set (i := 3) cx (ie_if (it_eq cx (ie_callG cx G__law_next (ia_cons (ie_var 0) (ia_cons ie_int ia_nil))) ie_int) (ie_tup (ia_cons ie_int (ia_cons ie_int ia_nil))) (ie_callG cx G__law_f (ia_cons (ie_callG cx G__law_next (ia_cons (ie_var 0) (ia_cons ie_int ia_nil))) (ia_cons (ie_add ie_int (ie_callG cx G__law_next (ia_cons (ie_var 0) (ia_cons ie_int ia_nil)))) ia_nil)))))
    (is_one (is_ret (ie_lst (ia_cons (ie_var 2) (ia_cons (ie_callG cx G__law_turns (ia_cons (ie_var 0) (ia_cons (ie_var 2) (ia_cons (ie_var 1) ia_nil)))) (ia_cons (ie_var 3) ia_nil)))))))

theorem sc__law_walked : FnScope ["_law_t", "_law_road", "_law_far", "_law_base", "_law_own", "_law_reach_here"] ["_law_t", "_law_road", "_law_far"] (defScope (topS 61)) := ⟨rfl, rfl, rfl, by decide +kernel, rfl, by decide +kernel, by decide +kernel⟩
theorem ok__law_walked (T : Txt K mg) : GF P w K mg base "_law_walked" 4 3 f__law_walked := by
  obtain ⟨fd, F⟩ := T.d__law_walked
  have G__law_add := ok__law_add (P := P) (w := w) (base := base) T
  have G__law_mul := ok__law_mul (P := P) (w := w) (base := base) T
  have G__law_under := ok__law_under (P := P) (w := w) (base := base) T
  refine gf_mk F T.g__law_walked sc__law_walked 3 rfl (fun _ _ _ _ _ _ us hl => match us, hl with | [_, _, _], _ => rfl) fun cdv A outer s H E cx => ?_
  exact is_cons (is_set (i := 3) cx (ie_tup (ia_cons ie_int (ia_cons ie_int ia_nil))))
    (is_cons (is_for cx (ii_seq (ie_idx (ie_var 0) ie_int)) (ig_tup cx (igs_cons 4 cx.nd (igs_cons 5 cx.nd igs_nil))) (is_cons (is_if (PW.pt (iw_and (it_eq cx (ie_var 4) (ie_var 1)) (iw_and1 (it_not (it_tru (ie_callG cx G__law_under (ia_cons (ie_var 5) (ia_cons (ie_var 2) ia_nil)))))))) (is_one (is_ret (ie_callG cx G__law_add (ia_cons (ie_var 3) (ia_cons (ie_var 2) ia_nil))))) is_nil)
    (is_one (is_set (i := 3) cx (ie_callG cx G__law_add (ia_cons (ie_var 3) (ia_cons (ie_callG cx G__law_add (ia_cons (ie_callG cx G__law_mul (ia_cons (ie_tup (ia_cons ie_int (ia_cons ie_int ia_nil))) (ia_cons (ie_var 5) ia_nil))) (ia_cons (ie_idx (ie_var 0) ie_int) ia_nil))) ia_nil)))))))
    (is_one (is_ret ie_non)))

theorem sc__law_farthest : FnScope ["_law_part_here", "_law_half", "_law_best", "_law_whole", "_law_new"] ["_law_part_here"] (defScope (topS 62)) := ⟨rfl, rfl, rfl, by decide +kernel, rfl, by decide +kernel, by decide +kernel⟩
theorem ok__law_farthest (T : Txt K mg) : GF P w K mg base "_law_farthest" 4 1 f__law_farthest := by
  obtain ⟨fd, F⟩ := T.d__law_farthest
  have G__law_add := ok__law_add (P := P) (w := w) (base := base) T
  have G__law_f := ok__law_f (P := P) (w := w) (base := base) T
  have G__law_mul := ok__law_mul (P := P) (w := w) (base := base) T
  have G__law_under := ok__law_under (P := P) (w := w) (base := base) T
  refine gf_mk F T.g__law_farthest sc__law_farthest 4 rfl (fun _ _ _ _ _ _ us hl => match us, hl with | [_], _ => rfl) fun cdv A outer s H E cx => ?_
  exact is_cons (is_set (i := 1) cx (ie_callG cx G__law_f (ia_cons (ie_sub (ie_idx (ie_var 0) ie_int) (ie_idx (ie_var 0) ie_int)) (ia_cons (ie_mul ie_int (ie_idx (ie_var 0) ie_int)) ia_nil))))
    (is_cons (is_par3 (i := 2) (j := 3) (l := 4) cx (ia_cons (ie_tup (ia_cons ie_int (ia_cons ie_int ia_nil))) (ia_cons (ie_tup (ia_cons ie_int (ia_cons ie_int ia_nil))) (ia_cons (ie_var 1) ia_nil))))
    (is_cons (is_while cx (it_gt (ie_idx (ie_var 4) ie_int) ie_int) (is_cons (is_set (i := 2) cx (ie_if (it_tru (ie_callG cx G__law_under (ia_cons (ie_var 2) (ia_cons (ie_var 4) ia_nil)))) (ie_var 4) (ie_var 2)))
    (is_cons (is_set (i := 3) cx (ie_callG cx G__law_add (ia_cons (ie_var 3) (ia_cons (ie_var 4) ia_nil))))
    (is_one (is_set (i := 4) cx (ie_callG cx G__law_add (ia_cons (ie_callG cx G__law_mul (ia_cons (ie_var 1) (ia_cons (ie_var 4) ia_nil))) (ia_cons (ie_tup (ia_cons (ie_neg (ie_idx (ie_var 3) ie_int)) (ia_cons (ie_idx (ie_var 3) ie_int) ia_nil))) ia_nil))))))))
    (is_one (is_ret (ie_if (it_not (it_tru (ie_callG cx G__law_under (ia_cons (ie_var 2) (ia_cons (ie_tup (ia_cons ie_int (ia_cons ie_int ia_nil))) ia_nil))))) (ie_var 2) (ie_tup (ia_cons ie_int (ia_cons ie_int ia_nil))))))))

theorem sc__law_keeps : FnScope ["_law_part_here", "_law_far", "_law_made"] ["_law_part_here", "_law_far"] (defScope (topS 63)) := ⟨rfl, rfl, rfl, by decide +kernel, rfl, by decide +kernel, by decide +kernel⟩
theorem ok__law_keeps (T : Txt K mg) : GF P w K mg base "_law_keeps" 9 2 f__law_keeps := by
  obtain ⟨fd, F⟩ := T.d__law_keeps
  have G_Plan_cost := ok_Plan_cost (P := P) (w := w) (base := base) T
  have G_Plan_roads := ok_Plan_roads (P := P) (w := w) (base := base) T
  have G__law_under := ok__law_under (P := P) (w := w) (base := base) T
  have G_cover := ok_cover (P := P) (w := w) (base := base) T
  have G_plan_within := ok_plan_within (P := P) (w := w) (base := base) T
  have G_worst := ok_worst (P := P) (w := w) (base := base) T
  refine gf_mk F T.g__law_keeps sc__law_keeps 1 rfl (fun _ _ _ _ _ _ us hl => match us, hl with | [_, _], _ => rfl) fun cdv A outer s H E cx => ?_
  exact is_cons (is_set (i := 2) cx (ie_callG cx G_plan_within (ia_cons (ie_var 0) (ia_cons (ie_var 1) ia_nil))))
    (is_cons (is_if (PW.pt (iw_or (it_not (it_tru (ie_isi T.os T.z_isinstance (ia_cons (ie_var 2) (ia_cons (ie_glo rfl T.o_Plan.gC) ia_nil))))) (iw_or (it_ne cx (ie_propG cx T.o_Plan.gC T.o_Plan.cl T.p_Plan_roads G_Plan_roads (ie_var 2)) ie_int) (iw_or1 (it_ne cx (ie_propG cx T.o_Plan.gC T.o_Plan.cl T.p_Plan_cost G_Plan_cost (ie_var 2)) (ie_tup (ia_cons ie_int (ia_cons ie_int ia_nil)))))))) (is_one (is_ret ie_bl)) is_nil)
    (is_one (is_ret (ie_and (ie_not (ie_callG cx G__law_under (ia_cons (ie_callG cx G_cover (ia_cons (ie_var 2) ia_nil)) (ia_cons (ie_var 1) ia_nil)))) (ie_one (ie_not (ie_callG cx G__law_under (ia_cons (ie_var 0) (ia_cons (ie_idx (ie_callG cx G_worst (ia_cons (ie_var 2) ia_nil)) ie_int) ia_nil)))))))))

theorem sc__law_drawn : FnScope ["_law_h", "_law_part_here", "_law_half", "_law_turns_here", "_law_whole", "_law_last", "_law_k", "_law_most", "_law_reach_here", "_law_turn"] ["_law_h", "_law_part_here"] (defScope (topS 64)) := ⟨rfl, rfl, rfl, by decide +kernel, rfl, by decide +kernel, by decide +kernel⟩
theorem ok__law_drawn (T : Txt K mg) : GF P w K mg base "_law_drawn" 4 2 f__law_drawn := by
  obtain ⟨fd, F⟩ := T.d__law_drawn
  have G__law_add := ok__law_add (P := P) (w := w) (base := base) T
  have G__law_f := ok__law_f (P := P) (w := w) (base := base) T
  have G__law_mul := ok__law_mul (P := P) (w := w) (base := base) T
  have G__law_next := ok__law_next (P := P) (w := w) (base := base) T
  have G__law_under := ok__law_under (P := P) (w := w) (base := base) T
  refine gf_mk F T.g__law_drawn sc__law_drawn 8 rfl (fun _ _ _ _ _ _ us hl => match us, hl with | [_, _], _ => rfl) fun cdv A outer s H E cx => ?_
  exact is_cons (is_set (i := 2) cx (ie_callG cx G__law_f (ia_cons (ie_sub (ie_idx (ie_var 1) ie_int) (ie_idx (ie_var 1) ie_int)) (ia_cons (ie_mul ie_int (ie_idx (ie_var 1) ie_int)) ia_nil))))
    (is_cons (is_par3 (i := 3) (j := 4) (l := 5) cx (ia_cons (ie_lst ia_nil) (ia_cons (ie_tup (ia_cons ie_int (ia_cons ie_int ia_nil))) (ia_cons (ie_tup (ia_cons ie_int (ia_cons ie_int ia_nil))) ia_nil))))
    (is_cons (is_for cx (ii_range1 T.z_range (ia_cons (ie_add ie_int (ie_callG cx G__law_next (ia_cons (ie_var 0) (ia_cons ie_int ia_nil)))) ia_nil)) (ig_name 6 cx.nd) (is_cons (is_set (i := 7) cx (ie_callG cx G__law_add (ia_cons (ie_callG cx G__law_mul (ia_cons (ie_var 2) (ia_cons (ie_var 5) ia_nil))) (ia_cons (ie_tup (ia_cons (ie_neg (ie_idx (ie_var 4) ie_int)) (ia_cons (ie_idx (ie_var 4) ie_int) ia_nil))) ia_nil))))
    (is_cons (is_if (it_le (ie_idx (ie_var 7) ie_int) ie_int) (is_one is_break) is_nil)
    (is_cons (is_set (i := 8) cx (ie_callG cx G__law_mul (ia_cons (ie_var 7) (ia_cons (ie_callG cx G__law_f (ia_cons (ie_idx (ie_lst (ia_cons ie_int (ia_cons ie_int (ia_cons ie_int (ia_cons ie_int (ia_cons ie_int ia_nil)))))) (ie_callG cx G__law_next (ia_cons (ie_var 0) (ia_cons ie_int ia_nil)))) (ia_cons (ie_idx (ie_lst (ia_cons ie_int (ia_cons ie_int (ia_cons ie_int (ia_cons ie_int (ia_cons ie_int ia_nil)))))) (ie_callG cx G__law_next (ia_cons (ie_var 0) (ia_cons ie_int ia_nil)))) ia_nil))) ia_nil))))
    (is_cons (is_expr (ie_append (ie_var 3) (ia_cons (ie_tup (ia_cons (ie_sub (ie_var 6) (ie_mul (ie_div (ie_var 6) ie_int) ie_int)) (ia_cons (ie_var 8) ia_nil))) ia_nil)))
    (is_one (is_par (i := 4) (j := 5) cx (ia_cons (ie_callG cx G__law_add (ia_cons (ie_var 4) (ia_cons (ie_var 8) ia_nil))) (ia_cons (ie_var 8) ia_nil)))))))))
    (is_one (is_ret (ie_lc [("_law_turn", 9)] cx (ii_seq (ie_var 3)) (blkOk_by (by rfl)) (fun _ _ _ _ _ cx => gw_name 9 cx.nd) (fun _ _ _ _ _ cx => pts_one (it_tru (ie_callG cx G__law_under (ia_cons (ie_idx (ie_var 9) ie_int) (ia_cons (ie_tup (ia_cons (ie_pow ie_int ie_int) (ia_cons ie_int ia_nil))) ia_nil))))) (fun _ _ _ _ _ cx => ie_var 9))))))

theorem sc_law : FnScope ["_law_script", "_law_h", "_law_d", "_law_part_here", "_law_told", "_law_far", "_law_made", "_law_own"] ["_law_script"] (defScope (topS 65)) := ⟨rfl, rfl, rfl, by decide +kernel, rfl, by decide +kernel, by decide +kernel⟩
theorem ok_law (T : Txt K mg) {f : Addr} {fd : FuncData} (F : Fun K "law" "law" (topS 65) f fd) : FnOk P w K mg base (L2.CX P w) 10 f fd ["_law_script"] (SpF K mg 1 f_law) := by
  have G_Plan___init__ := ok_Plan___init__ (P := P) (w := w) (base := base) T
  have G__law_add := ok__law_add (P := P) (w := w) (base := base) T
  have G__law_drawn := ok__law_drawn (P := P) (w := w) (base := base) T
  have G__law_f := ok__law_f (P := P) (w := w) (base := base) T
  have G__law_farthest := ok__law_farthest (P := P) (w := w) (base := base) T
  have G__law_keeps := ok__law_keeps (P := P) (w := w) (base := base) T
  have G__law_mix := ok__law_mix (P := P) (w := w) (base := base) T
  have G__law_next := ok__law_next (P := P) (w := w) (base := base) T
  have G__law_under := ok__law_under (P := P) (w := w) (base := base) T
  have G_cover := ok_cover (P := P) (w := w) (base := base) T
  have G_farthest := ok_farthest (P := P) (w := w) (base := base) T
  have G_plan_within := ok_plan_within (P := P) (w := w) (base := base) T
  have G_worst := ok_worst (P := P) (w := w) (base := base) T
  exact ok_of F sc_law 7 rfl fun cdv A outer s H E cx => (is_cons (is_set (i := 1) cx (ie_callG cx G__law_mix (ia_cons (ie_var 0) (ia_cons ie_int ia_nil))))
    (is_cons (is_set (i := 2) cx (ie_add ie_int (ie_callG cx G__law_next (ia_cons (ie_var 1) (ia_cons (ie_idx (ie_lst (ia_cons ie_int (ia_cons ie_int (ia_cons ie_int (ia_cons ie_int ia_nil))))) (ie_callG cx G__law_next (ia_cons (ie_var 1) (ia_cons ie_int ia_nil)))) ia_nil)))))
    (is_cons (is_set (i := 3) cx (ie_callG cx G__law_f (ia_cons (ie_add (ie_var 2) (ie_callG cx G__law_next (ia_cons (ie_var 1) (ia_cons (ie_add (ie_mul ie_int (ie_var 2)) ie_int) ia_nil)))) (ia_cons (ie_var 2) ia_nil))))
    (is_cons (is_if (it_gt (ie_var 2) ie_int) (is_one (is_set (i := 3) cx (ie_callG cx G__law_f (ia_cons (ie_add (ie_add (ie_var 2) (ie_callG cx G__law_next (ia_cons (ie_var 1) (ia_cons (ie_mul ie_int (ie_var 2)) ia_nil)))) (ie_mul (ie_mul ie_int (ie_var 2)) (ie_int1 T.z_int (ia_cons (ie_eq cx (ie_callG cx G__law_next (ia_cons (ie_var 1) (ia_cons ie_int ia_nil))) ie_int) ia_nil)))) (ia_cons (ie_var 2) ia_nil))))) is_nil)
    (is_cons (is_set (i := 4) cx (ie_callG cx G_farthest (ia_cons (ie_var 3) ia_nil)))
    (is_cons (is_if (it_not (it_tru (ie_callG cx G__law_under (ia_cons (ie_var 3) (ia_cons (ie_tup (ia_cons ie_int (ia_cons ie_int ia_nil))) ia_nil))))) (is_cons (is_set (i := 5) cx (ie_idx (ie_lst (ia_cons (ie_callG cx G__law_f (ia_cons (ie_add ie_int (ie_callG cx G__law_next (ia_cons (ie_var 1) (ia_cons (ie_pow ie_int ie_int) ia_nil)))) (ia_cons ie_int ia_nil))) (ia_cons (ie_tup (ia_cons (ie_sub (ie_pow ie_int ie_int) (ie_callG cx G__law_next (ia_cons (ie_var 1) (ia_cons ie_int ia_nil)))) (ia_cons ie_int ia_nil))) ia_nil))) (ie_callG cx G__law_next (ia_cons (ie_var 1) (ia_cons ie_int ia_nil)))))
    (is_one (is_ret (ie_and (ie_is (ie_var 4) ie_non) (ie_one (ie_callG cx G__law_keeps (ia_cons (ie_var 3) (ia_cons (ie_var 5) ia_nil)))))))) is_nil)
    (is_cons (is_if (PW.pt (iw_or (it_ne cx (ie_var 4) (ie_callG cx G__law_farthest (ia_cons (ie_var 3) ia_nil))) (iw_or1 (it_ne cx (ie_eq cx (ie_var 4) (ie_tup (ia_cons ie_int (ia_cons ie_int ia_nil)))) (ie_callG cx G__law_under (ia_cons (ie_var 3) (ia_cons (ie_tup (ia_cons ie_int (ia_cons ie_int ia_nil))) ia_nil))))))) (is_one (is_ret ie_bl)) is_nil)
    (is_cons (is_if (PW.pt (iw_and (it_ne cx (ie_var 4) (ie_tup (ia_cons ie_int (ia_cons ie_int ia_nil)))) (iw_and1 (it_tru (ie_callG cx G__law_under (ia_cons (ie_var 4) (ia_cons (ie_tup (ia_cons (ie_sub (ie_pow ie_int ie_int) ie_int) (ia_cons ie_int ia_nil))) ia_nil))))))) (is_cons (is_if (PW.pt (iw_or (it_not (it_tru (ie_callG cx G__law_keeps (ia_cons (ie_var 3) (ia_cons (ie_var 4) ia_nil))))) (iw_or1 (it_isnot (ie_callG cx G_plan_within (ia_cons (ie_var 3) (ia_cons (ie_callG cx G__law_add (ia_cons (ie_var 4) (ia_cons (ie_tup (ia_cons ie_int (ia_cons ie_int ia_nil))) ia_nil))) ia_nil))) ie_non)))) (is_one (is_ret ie_bl)) is_nil)
    (is_one (is_if (it_not (it_tru (ie_callG cx G__law_keeps (ia_cons (ie_var 3) (ia_cons (ie_if (it_tru (ie_callG cx G__law_under (ia_cons (ie_tup (ia_cons ie_int (ia_cons ie_int ia_nil))) (ia_cons (ie_var 4) ia_nil)))) (ie_callG cx G__law_f (ia_cons (ie_add (ie_idx (ie_var 4) ie_int) (ie_idx (ie_var 4) ie_int)) (ia_cons (ie_mul ie_int (ie_idx (ie_var 4) ie_int)) ia_nil))) (ie_tup (ia_cons ie_int (ia_cons ie_int ia_nil)))) ia_nil))))) (is_one (is_ret ie_bl)) is_nil))) (is_one (is_if (PW.pt (iw_and (it_eq cx (ie_var 4) (ie_tup (ia_cons ie_int (ia_cons ie_int ia_nil)))) (iw_and1 (it_isnot (ie_callG cx G_plan_within (ia_cons (ie_var 3) (ia_cons (ie_tup (ia_cons ie_int (ia_cons ie_int ia_nil))) ia_nil))) ie_non)))) (is_one (is_ret ie_bl)) is_nil)))
    (is_cons (is_set (i := 6) cx (ie_makeG cx T.mk_Plan T.o_Plan.gC G_Plan___init__ (ia_cons ie_int (ia_cons (ie_tuple1 T.z_tuple (ia_cons (ie_callG cx G__law_drawn (ia_cons (ie_var 1) (ia_cons (ie_var 3) ia_nil))) ia_nil)) (ia_cons (ie_tup (ia_cons ie_int (ia_cons ie_int ia_nil))) ia_nil)))))
    (is_cons (is_if (it_eq cx (ie_callG cx G_cover (ia_cons (ie_var 6) ia_nil)) (ie_tup (ia_cons ie_int (ia_cons ie_int ia_nil)))) (is_one (is_ret ie_bl)) is_nil)
    (is_cons (is_set (i := 7) cx (ie_idx (ie_callG cx G_worst (ia_cons (ie_var 6) ia_nil)) ie_int))
    (is_cons (is_if (PW.pt (iw_or (it_gt (ie_idx (ie_var 7) ie_int) ie_int) (iw_or1 (it_not (it_tru (ie_callG cx G__law_under (ia_cons (ie_var 7) (ia_cons (ie_tup (ia_cons ie_int (ia_cons ie_int ia_nil))) ia_nil)))))))) (is_one (is_set (i := 7) cx (ie_callG cx G__law_f (ia_cons (ie_add (ie_div (ie_mul (ie_idx (ie_var 7) ie_int) ie_int) (ie_idx (ie_var 7) ie_int)) ie_int) (ia_cons ie_int ia_nil))))) is_nil)
    (is_one (is_ret (ie_or (ie_not (ie_callG cx G__law_under (ia_cons (ie_var 7) (ia_cons (ie_tup (ia_cons ie_int (ia_cons ie_int ia_nil))) ia_nil)))) (ie_one (ie_not (ie_callG cx G__law_under (ia_cons (ie_callG cx G_farthest (ia_cons (ie_var 7) ia_nil)) (ia_cons (ie_callG cx G_cover (ia_cons (ie_var 6) ia_nil)) ia_nil))))))))))))))))))))

end
end WR

/-! the head: what the top leaves, by one run of the kernel -/
namespace WR
open PySem PySem.Spec PyProof.Rows L2
theorem meth2 {K : PySem.W.Frag} {c m : Str} (e : bMeth c m K = true) : PySem.W.findIn K (.ref (He.ga K c)) m = some (some (.ref (He.ma K (He.ga K c) m))) ∧ PySem.W.isFn K (.ref (He.ma K (He.ga K c) m)) = true := by
  obtain ⟨e1, e⟩ := He.ba e
  exact ⟨He.eqO_ok e1, (He.ba e).1⟩
def exF : List FrB := [bGlo "is_integer",
  bGlo "is_from",
  bGlo "common",
  bGlo "ratio",
  bGlo "is_fraction",
  bGlo "plus",
  bGlo "minus",
  bGlo "times",
  bGlo "over",
  bGlo "is_less",
  bGlo "is_within",
  bGlo "least_of",
  bGlo "greatest_of",
  bGlo "is_reach",
  bGlo "is_turn",
  bGlo "check_roads",
  bGlo "check_cost",
  bGlo "check_plan",
  bGlo "bases_of",
  bGlo "pieces_of",
  bGlo "reach_of",
  bGlo "cover",
  bGlo "worst_of",
  bGlo "worst",
  bGlo "check_share",
  bGlo "half_of",
  bGlo "reaches_to",
  bGlo "farthest_of",
  bGlo "farthest",
  bGlo "plan_within",
  bGlo "_law_mix",
  bGlo "_law_next",
  bGlo "_law_part",
  bGlo "_law_f",
  bGlo "_law_add",
  bGlo "_law_mul",
  bGlo "_law_div",
  bGlo "_law_under",
  bGlo "_law_reach",
  bGlo "_law_turns",
  bGlo "_law_plan",
  bGlo "_law_walked",
  bGlo "_law_farthest",
  bGlo "_law_keeps",
  bGlo "_law_drawn",
  bGlo "law",
  bInt "MOST_PARTS" 1000,
  bInt "MOST_REACH" 1000000000000,
  bInt "MOST_ROADS" 5,
  bInt "MOST_SHARE" 100,
  bInt "MOST_TURNS" 60,
  bGlo "ONE",
  bTup "ONE" [.int 1, .int 1],
  bGlo "ZERO",
  bTup "ZERO" [.int 0, .int 1],
  bFree "int",
  bFree "isinstance",
  bFree "bool",
  bFree "abs",
  bFree "tuple",
  bFree "len",
  bFree "enumerate",
  bFree "zip",
  bFree "range",
  bFree "list",
  bFree "max",
  bFree "min",
  bGlo "Plan",
  bOwn "Plan",
  bNoat "Plan" "held",
  bMk "Plan",
  bProp "Plan" "roads",
  bProp "Plan" "turns",
  bProp "Plan" "cost",
  bMeth "Plan" "__len__",
  bMeth "Plan" "__eq__",
  bNf "Plan",
  bTwo ownCs]
def fnF : List He5.DefA := [dA (fun K => (He.ga K "is_integer")) "is_integer" "is_integer" (topS 11),
  dA (fun K => (He.ga K "is_from")) "is_from" "is_from" (topS 12),
  dA (fun K => (He.ga K "common")) "common" "common" (topS 13),
  dA (fun K => (He.ga K "ratio")) "ratio" "ratio" (topS 14),
  dA (fun K => (He.ga K "is_fraction")) "is_fraction" "is_fraction" (topS 15),
  dA (fun K => (He.ga K "plus")) "plus" "plus" (topS 16),
  dA (fun K => (He.ga K "minus")) "minus" "minus" (topS 17),
  dA (fun K => (He.ga K "times")) "times" "times" (topS 18),
  dA (fun K => (He.ga K "over")) "over" "over" (topS 19),
  dA (fun K => (He.ga K "is_less")) "is_less" "is_less" (topS 20),
  dA (fun K => (He.ga K "is_within")) "is_within" "is_within" (topS 21),
  dA (fun K => (He.ga K "least_of")) "least_of" "least_of" (topS 22),
  dA (fun K => (He.ga K "greatest_of")) "greatest_of" "greatest_of" (topS 23),
  dA (fun K => (He.ga K "is_reach")) "is_reach" "is_reach" (topS 28),
  dA (fun K => (He.ga K "is_turn")) "is_turn" "is_turn" (topS 29),
  dA (fun K => (He.ga K "check_roads")) "check_roads" "check_roads" (topS 30),
  dA (fun K => (He.ga K "check_cost")) "check_cost" "check_cost" (topS 31),
  dA (fun K => (He.ma K (He.ga K "Plan") "__init__")) "__init__" "Plan.__init__" (inClass (topS 32) 0),
  dA (fun K => (He5.wf K (He.ga K "Plan") "property" "roads")) "roads" "Plan.roads" (inClass (topS 32) 1),
  dA (fun K => (He5.wf K (He.ga K "Plan") "property" "turns")) "turns" "Plan.turns" (inClass (topS 32) 2),
  dA (fun K => (He5.wf K (He.ga K "Plan") "property" "cost")) "cost" "Plan.cost" (inClass (topS 32) 3),
  dA (fun K => (He.ma K (He.ga K "Plan") "__len__")) "__len__" "Plan.__len__" (inClass (topS 32) 4),
  dA (fun K => (He.ma K (He.ga K "Plan") "__eq__")) "__eq__" "Plan.__eq__" (inClass (topS 32) 5),
  dA (fun K => (He.ga K "check_plan")) "check_plan" "check_plan" (topS 33),
  dA (fun K => (He.ga K "bases_of")) "bases_of" "bases_of" (topS 34),
  dA (fun K => (He.ga K "pieces_of")) "pieces_of" "pieces_of" (topS 35),
  dA (fun K => (He.ga K "reach_of")) "reach_of" "reach_of" (topS 36),
  dA (fun K => (He.ga K "cover")) "cover" "cover" (topS 37),
  dA (fun K => (He.ga K "worst_of")) "worst_of" "worst_of" (topS 38),
  dA (fun K => (He.ga K "worst")) "worst" "worst" (topS 39),
  dA (fun K => (He.ga K "check_share")) "check_share" "check_share" (topS 43),
  dA (fun K => (He.ga K "half_of")) "half_of" "half_of" (topS 44),
  dA (fun K => (He.ga K "reaches_to")) "reaches_to" "reaches_to" (topS 45),
  dA (fun K => (He.ga K "farthest_of")) "farthest_of" "farthest_of" (topS 46),
  dA (fun K => (He.ga K "farthest")) "farthest" "farthest" (topS 47),
  dA (fun K => (He.ga K "plan_within")) "plan_within" "plan_within" (topS 48),
  dA (fun K => (He.ga K "_law_mix")) "_law_mix" "_law_mix" (topS 50),
  dA (fun K => (He.ga K "_law_next")) "_law_next" "_law_next" (topS 51),
  dA (fun K => (He.ga K "_law_part")) "_law_part" "_law_part" (topS 52),
  dA (fun K => (He.ga K "_law_f")) "_law_f" "_law_f" (topS 53),
  dA (fun K => (He.ga K "_law_add")) "_law_add" "_law_add" (topS 54),
  dA (fun K => (He.ga K "_law_mul")) "_law_mul" "_law_mul" (topS 55),
  dA (fun K => (He.ga K "_law_div")) "_law_div" "_law_div" (topS 56),
  dA (fun K => (He.ga K "_law_under")) "_law_under" "_law_under" (topS 57),
  dA (fun K => (He.ga K "_law_reach")) "_law_reach" "_law_reach" (topS 58),
  dA (fun K => (He.ga K "_law_turns")) "_law_turns" "_law_turns" (topS 59),
  dA (fun K => (He.ga K "_law_plan")) "_law_plan" "_law_plan" (topS 60),
  dA (fun K => (He.ga K "_law_walked")) "_law_walked" "_law_walked" (topS 61),
  dA (fun K => (He.ga K "_law_farthest")) "_law_farthest" "_law_farthest" (topS 62),
  dA (fun K => (He.ga K "_law_keeps")) "_law_keeps" "_law_keeps" (topS 63),
  dA (fun K => (He.ga K "_law_drawn")) "_law_drawn" "_law_drawn" (topS 64),
  dA (fun K => (He.ga K "law")) "law" "law" (topS 65)]
def looseF : List Str := (["RoadError", "BadRoads", "BadTurns", "BadCost", "BadPlan", "BadFar", "BadShare", "ZERO", "ONE", "is_integer", "is_from", "common", "ratio", "is_fraction", "plus", "minus"] : List Str) ++ (["times", "over", "is_less", "is_within", "least_of", "greatest_of", "MOST_ROADS", "MOST_TURNS", "MOST_REACH", "is_reach", "is_turn", "check_roads", "check_cost", "Plan", "check_plan", "bases_of"] : List Str) ++ (["pieces_of", "reach_of", "cover", "worst_of", "worst", "MOST_SHARE", "MOST_PARTS", "check_share", "half_of", "reaches_to", "farthest_of", "farthest", "plan_within", "_law_mix", "_law_next", "_law_part"] : List Str) ++ (["_law_f", "_law_add", "_law_mul", "_law_div", "_law_under", "_law_reach", "_law_turns", "_law_plan", "_law_walked", "_law_farthest", "_law_keeps", "_law_drawn"] : List Str)
theorem txt_of {K : PySem.W.Frag} {mg : Str → Option Value} {h : Heap} (X : K.In h) (G : h.Ns mainGlobals mg) (c : SaysW exF fnF K) : Txt K mg :=
  {
    d_is_integer := c.fun_ 0
    g_is_integer := He.glo_ok X G (c.fact (f := bGlo "is_integer") (List.mem_of_getElem? (i := 0) rfl))
    d_is_from := c.fun_ 1
    g_is_from := He.glo_ok X G (c.fact (f := bGlo "is_from") (List.mem_of_getElem? (i := 1) rfl))
    d_common := c.fun_ 2
    g_common := He.glo_ok X G (c.fact (f := bGlo "common") (List.mem_of_getElem? (i := 2) rfl))
    d_ratio := c.fun_ 3
    g_ratio := He.glo_ok X G (c.fact (f := bGlo "ratio") (List.mem_of_getElem? (i := 3) rfl))
    d_is_fraction := c.fun_ 4
    g_is_fraction := He.glo_ok X G (c.fact (f := bGlo "is_fraction") (List.mem_of_getElem? (i := 4) rfl))
    d_plus := c.fun_ 5
    g_plus := He.glo_ok X G (c.fact (f := bGlo "plus") (List.mem_of_getElem? (i := 5) rfl))
    d_minus := c.fun_ 6
    g_minus := He.glo_ok X G (c.fact (f := bGlo "minus") (List.mem_of_getElem? (i := 6) rfl))
    d_times := c.fun_ 7
    g_times := He.glo_ok X G (c.fact (f := bGlo "times") (List.mem_of_getElem? (i := 7) rfl))
    d_over := c.fun_ 8
    g_over := He.glo_ok X G (c.fact (f := bGlo "over") (List.mem_of_getElem? (i := 8) rfl))
    d_is_less := c.fun_ 9
    g_is_less := He.glo_ok X G (c.fact (f := bGlo "is_less") (List.mem_of_getElem? (i := 9) rfl))
    d_is_within := c.fun_ 10
    g_is_within := He.glo_ok X G (c.fact (f := bGlo "is_within") (List.mem_of_getElem? (i := 10) rfl))
    d_least_of := c.fun_ 11
    g_least_of := He.glo_ok X G (c.fact (f := bGlo "least_of") (List.mem_of_getElem? (i := 11) rfl))
    d_greatest_of := c.fun_ 12
    g_greatest_of := He.glo_ok X G (c.fact (f := bGlo "greatest_of") (List.mem_of_getElem? (i := 12) rfl))
    d_is_reach := c.fun_ 13
    g_is_reach := He.glo_ok X G (c.fact (f := bGlo "is_reach") (List.mem_of_getElem? (i := 13) rfl))
    d_is_turn := c.fun_ 14
    g_is_turn := He.glo_ok X G (c.fact (f := bGlo "is_turn") (List.mem_of_getElem? (i := 14) rfl))
    d_check_roads := c.fun_ 15
    g_check_roads := He.glo_ok X G (c.fact (f := bGlo "check_roads") (List.mem_of_getElem? (i := 15) rfl))
    d_check_cost := c.fun_ 16
    g_check_cost := He.glo_ok X G (c.fact (f := bGlo "check_cost") (List.mem_of_getElem? (i := 16) rfl))
    d_Plan___init__ := c.fun_ 17
    d_Plan_roads := c.fun_ 18
    d_Plan_turns := c.fun_ 19
    d_Plan_cost := c.fun_ 20
    d_Plan___len__ := c.fun_ 21
    d_Plan___eq__ := c.fun_ 22
    d_check_plan := c.fun_ 23
    g_check_plan := He.glo_ok X G (c.fact (f := bGlo "check_plan") (List.mem_of_getElem? (i := 17) rfl))
    d_bases_of := c.fun_ 24
    g_bases_of := He.glo_ok X G (c.fact (f := bGlo "bases_of") (List.mem_of_getElem? (i := 18) rfl))
    d_pieces_of := c.fun_ 25
    g_pieces_of := He.glo_ok X G (c.fact (f := bGlo "pieces_of") (List.mem_of_getElem? (i := 19) rfl))
    d_reach_of := c.fun_ 26
    g_reach_of := He.glo_ok X G (c.fact (f := bGlo "reach_of") (List.mem_of_getElem? (i := 20) rfl))
    d_cover := c.fun_ 27
    g_cover := He.glo_ok X G (c.fact (f := bGlo "cover") (List.mem_of_getElem? (i := 21) rfl))
    d_worst_of := c.fun_ 28
    g_worst_of := He.glo_ok X G (c.fact (f := bGlo "worst_of") (List.mem_of_getElem? (i := 22) rfl))
    d_worst := c.fun_ 29
    g_worst := He.glo_ok X G (c.fact (f := bGlo "worst") (List.mem_of_getElem? (i := 23) rfl))
    d_check_share := c.fun_ 30
    g_check_share := He.glo_ok X G (c.fact (f := bGlo "check_share") (List.mem_of_getElem? (i := 24) rfl))
    d_half_of := c.fun_ 31
    g_half_of := He.glo_ok X G (c.fact (f := bGlo "half_of") (List.mem_of_getElem? (i := 25) rfl))
    d_reaches_to := c.fun_ 32
    g_reaches_to := He.glo_ok X G (c.fact (f := bGlo "reaches_to") (List.mem_of_getElem? (i := 26) rfl))
    d_farthest_of := c.fun_ 33
    g_farthest_of := He.glo_ok X G (c.fact (f := bGlo "farthest_of") (List.mem_of_getElem? (i := 27) rfl))
    d_farthest := c.fun_ 34
    g_farthest := He.glo_ok X G (c.fact (f := bGlo "farthest") (List.mem_of_getElem? (i := 28) rfl))
    d_plan_within := c.fun_ 35
    g_plan_within := He.glo_ok X G (c.fact (f := bGlo "plan_within") (List.mem_of_getElem? (i := 29) rfl))
    d__law_mix := c.fun_ 36
    g__law_mix := He.glo_ok X G (c.fact (f := bGlo "_law_mix") (List.mem_of_getElem? (i := 30) rfl))
    d__law_next := c.fun_ 37
    g__law_next := He.glo_ok X G (c.fact (f := bGlo "_law_next") (List.mem_of_getElem? (i := 31) rfl))
    d__law_part := c.fun_ 38
    g__law_part := He.glo_ok X G (c.fact (f := bGlo "_law_part") (List.mem_of_getElem? (i := 32) rfl))
    d__law_f := c.fun_ 39
    g__law_f := He.glo_ok X G (c.fact (f := bGlo "_law_f") (List.mem_of_getElem? (i := 33) rfl))
    d__law_add := c.fun_ 40
    g__law_add := He.glo_ok X G (c.fact (f := bGlo "_law_add") (List.mem_of_getElem? (i := 34) rfl))
    d__law_mul := c.fun_ 41
    g__law_mul := He.glo_ok X G (c.fact (f := bGlo "_law_mul") (List.mem_of_getElem? (i := 35) rfl))
    d__law_div := c.fun_ 42
    g__law_div := He.glo_ok X G (c.fact (f := bGlo "_law_div") (List.mem_of_getElem? (i := 36) rfl))
    d__law_under := c.fun_ 43
    g__law_under := He.glo_ok X G (c.fact (f := bGlo "_law_under") (List.mem_of_getElem? (i := 37) rfl))
    d__law_reach := c.fun_ 44
    g__law_reach := He.glo_ok X G (c.fact (f := bGlo "_law_reach") (List.mem_of_getElem? (i := 38) rfl))
    d__law_turns := c.fun_ 45
    g__law_turns := He.glo_ok X G (c.fact (f := bGlo "_law_turns") (List.mem_of_getElem? (i := 39) rfl))
    d__law_plan := c.fun_ 46
    g__law_plan := He.glo_ok X G (c.fact (f := bGlo "_law_plan") (List.mem_of_getElem? (i := 40) rfl))
    d__law_walked := c.fun_ 47
    g__law_walked := He.glo_ok X G (c.fact (f := bGlo "_law_walked") (List.mem_of_getElem? (i := 41) rfl))
    d__law_farthest := c.fun_ 48
    g__law_farthest := He.glo_ok X G (c.fact (f := bGlo "_law_farthest") (List.mem_of_getElem? (i := 42) rfl))
    d__law_keeps := c.fun_ 49
    g__law_keeps := He.glo_ok X G (c.fact (f := bGlo "_law_keeps") (List.mem_of_getElem? (i := 43) rfl))
    d__law_drawn := c.fun_ 50
    g__law_drawn := He.glo_ok X G (c.fact (f := bGlo "_law_drawn") (List.mem_of_getElem? (i := 44) rfl))
    d_law := c.fun_ 51
    g_law := He.glo_ok X G (c.fact (f := bGlo "law") (List.mem_of_getElem? (i := 45) rfl))
    c_MOST_PARTS := He.int_ok X G (c.fact (f := bInt "MOST_PARTS" 1000) (List.mem_of_getElem? (i := 46) rfl))
    c_MOST_REACH := He.int_ok X G (c.fact (f := bInt "MOST_REACH" 1000000000000) (List.mem_of_getElem? (i := 47) rfl))
    c_MOST_ROADS := He.int_ok X G (c.fact (f := bInt "MOST_ROADS" 5) (List.mem_of_getElem? (i := 48) rfl))
    c_MOST_SHARE := He.int_ok X G (c.fact (f := bInt "MOST_SHARE" 100) (List.mem_of_getElem? (i := 49) rfl))
    c_MOST_TURNS := He.int_ok X G (c.fact (f := bInt "MOST_TURNS" 60) (List.mem_of_getElem? (i := 50) rfl))
    g_ONE := He.glo_ok X G (c.fact (f := bGlo "ONE") (List.mem_of_getElem? (i := 51) rfl))
    c_ONE := (bTup_ok (c.fact (f := bTup "ONE" [.int 1, .int 1]) (List.mem_of_getElem? (i := 52) rfl)))
    g_ZERO := He.glo_ok X G (c.fact (f := bGlo "ZERO") (List.mem_of_getElem? (i := 53) rfl))
    c_ZERO := (bTup_ok (c.fact (f := bTup "ZERO" [.int 0, .int 1]) (List.mem_of_getElem? (i := 54) rfl)))
    z_int := He.free_ok X G (c.fact (f := bFree "int") (List.mem_of_getElem? (i := 55) rfl))
    z_isinstance := He.free_ok X G (c.fact (f := bFree "isinstance") (List.mem_of_getElem? (i := 56) rfl))
    z_bool := He.free_ok X G (c.fact (f := bFree "bool") (List.mem_of_getElem? (i := 57) rfl))
    z_abs := He.free_ok X G (c.fact (f := bFree "abs") (List.mem_of_getElem? (i := 58) rfl))
    z_tuple := He.free_ok X G (c.fact (f := bFree "tuple") (List.mem_of_getElem? (i := 59) rfl))
    z_len := He.free_ok X G (c.fact (f := bFree "len") (List.mem_of_getElem? (i := 60) rfl))
    z_enumerate := He.free_ok X G (c.fact (f := bFree "enumerate") (List.mem_of_getElem? (i := 61) rfl))
    z_zip := He.free_ok X G (c.fact (f := bFree "zip") (List.mem_of_getElem? (i := 62) rfl))
    z_range := He.free_ok X G (c.fact (f := bFree "range") (List.mem_of_getElem? (i := 63) rfl))
    z_list := He.free_ok X G (c.fact (f := bFree "list") (List.mem_of_getElem? (i := 64) rfl))
    z_max := He.free_ok X G (c.fact (f := bFree "max") (List.mem_of_getElem? (i := 65) rfl))
    z_min := He.free_ok X G (c.fact (f := bFree "min") (List.mem_of_getElem? (i := 66) rfl))
    gc_Plan := (c.fact (f := bGlo "Plan") (List.mem_of_getElem? (i := 67) rfl))
    o_Plan := bOwn_ok X G (c.fact (f := bGlo "Plan") (List.mem_of_getElem? (i := 67) rfl)) (c.fact (f := bOwn "Plan") (List.mem_of_getElem? (i := 68) rfl))
    na_Plan_held := He.noat_ok (c.fact (f := bNoat "Plan" "held") (List.mem_of_getElem? (i := 69) rfl))
    mk_Plan := He.mkr_ok (c.fact (f := bMk "Plan") (List.mem_of_getElem? (i := 70) rfl))
    p_Plan_roads := bProp_ok (c.fact (f := bProp "Plan" "roads") (List.mem_of_getElem? (i := 71) rfl))
    p_Plan_turns := bProp_ok (c.fact (f := bProp "Plan" "turns") (List.mem_of_getElem? (i := 72) rfl))
    p_Plan_cost := bProp_ok (c.fact (f := bProp "Plan" "cost") (List.mem_of_getElem? (i := 73) rfl))
    ln_Plan := meth2 (c.fact (f := bMeth "Plan" "__len__") (List.mem_of_getElem? (i := 74) rfl))
    eq_Plan := meth2 (c.fact (f := bMeth "Plan" "__eq__") (List.mem_of_getElem? (i := 75) rfl))
    nf_Plan := (c.fact (f := bNf "Plan") (List.mem_of_getElem? (i := 76) rfl))
    os := bTwo_ok X G (fun d hd => by
      have h := mem_of_contains hd
      simp only [ownCs, List.mem_cons, List.not_mem_nil, or_false] at h
      subst h; exact bOwn_ok X G (c.fact (f := bGlo "Plan") (List.mem_of_getElem? (i := 67) rfl)) (c.fact (f := bOwn "Plan") (List.mem_of_getElem? (i := 68) rfl))) (c.fact (f := bTwo ownCs) (List.mem_of_getElem? (i := 77) rfl)) }
abbrev RW : PySem.W.OpenRow := PySem.W.OpenLaw.row PySem.Challenge.rw_whichroad_k04_whole_reach_within_a_share
abbrev hkF : PySem.W.Hook := hookW 6 exF fnF
def obF (s : PySem.W.SharedT) : He.AlD := obsW 6 exF fnF (HandSHeadRun.getT s)
theorem obF_eq (s : PySem.W.SharedT) : obF s = hkF.obs s.abs := obsW_eq (HandSHeadRun.getT_eq s)
theorem runF (w : World) : HandSHeadRun.RunEq RW (PySem.W.view RW.prog [65]) hkF obF 12000 looseF w := by
  intro os
  kernel_rfl
end WR

open PySem PySem.W PySem.Calls PyProof.Rows
set_option maxHeartbeats 0 in
theorem PySem.Challenge.cw_whichroad_k04_whole_reach_within_a_share_holds : PySem.Challenge.rw_whichroad_k04_whole_reach_within_a_share.Holds := by
  w_on; o_law
  refine HandSHeadRun.head_any (r := OpenLaw.row PySem.Challenge.rw_whichroad_k04_whole_reach_within_a_share) (q := view (OpenLaw.row PySem.Challenge.rw_whichroad_k04_whole_reach_within_a_share).prog [65]) (H := WR.hkF) (ob := WR.obF) (M := 12000) (loose := WR.looseF) (d := HandSHeadRun.topDef (OpenLaw.row PySem.Challenge.rw_whichroad_k04_whole_reach_within_a_share).prog 65) (kwd := []) WR.obF_eq
    (by kernel_rfl) (fun s => by kernel_rfl) WR.runF (by kernel_rfl) (by kernel_rfl) (by kernel_rfl) (by rfl) (by first | assumption | decide +kernel) (by decide +kernel) ⟨rfl, rfl, rfl, rfl, rfl, by decide +kernel⟩ ?hw ?hc
  case hw => w_witness2
  case hc =>
    refine WR.walk_W (l := PySem.Challenge.rw_whichroad_k04_whole_reach_within_a_share) (k := 10) (x := "_law_script") (F := WR.f_law) rfl (by kernel_rfl) ⟨rfl, by decide, by decide⟩ ?F WR.law_true
    intro w mg fa h Y G hmg0
    obtain ⟨K, KX, c⟩ := Y
    have T := WR.txt_of KX G c
    have hmg : mg ("law" : PySem.Str) = some (.ref fa) := by
      have e : (HandSHeadRun.topDef (OpenLaw.row PySem.Challenge.rw_whichroad_k04_whole_reach_within_a_share).prog 65).name = ("law" : PySem.Str) := by kernel_rfl
      rw [← e]
      exact hmg0
    obtain ⟨fd, F⟩ := T.d_law
    have e := hmg.symm.trans T.g_law
    cases e
    exact ⟨K, fd, KX, fun s v => WR.fun_bA (ps := ["_law_script"]) F (fun _ _ _ _ _ _ us hl => match us, hl with | [_], _ => rfl) s [v] rfl, fun base _ _ => WR.ok_law T F⟩


