import PyProof.Rows.All
import Wide.All
import OpenK.AllK
import Wide.FinOn
import PyProof.EqAt
import PyProof.EqKinds
import PyProof.TupleCall
import HandS.ForMost
import HandS.ForExc
import HandS.Wide
import HandS.WideBits
import HandS.TupAny
import HandS.TupMul
import HandS.IsInst
import HandS.Property
import HandS.OwnEq
import HandS.Deep
import HandS.Zip
import HandS.CallSlots
import HandS.Flow
import KE.GoesEnum
import KE.GoesMore
import KE.GoesZip
import KE.KStateDown
import HandS.More
import HandS.Defaults
import HandS.Head0
import HandS.Head1
import HandS.Head2
import HandS.HeadEnd
import HandS.HeadHook1
import HandS.HeadHook2
import HandS.HeadNt
import HandS.Comp
import HandS.Style
import HandS.SetFor
import HandS.Dict
import HandS.TupLe
import PyProof.ListMulRoad
import PyProof.FactsAll.tuple_2
import HandS.TryMany
import HandS.Small
import HandS.Remove
import KE.DataFind
import KE.KEqNest
import HandS.ExcIs
import HandS.ExcField
import KE.KExcIs
import HandS.Text
import HandS.FStr
import HandS.Iter
import HandS.Rev
import HandS.ExcInit
import HandS.NoneIn
import PySem.Challenge.RW_whichroad_k09_whole_texts_refused
set_option Elab.async false
set_option linter.all false
set_option maxRecDepth 100000
set_option maxHeartbeats 1000000
/-! the functional reading: values, heaps, results; how they stand in the layer's abstract heap -/
namespace WR
open PySem PySem.Spec PyProof.Rows L2

/-- a value; lists, dicts, instances are objects of the small heap; fls: a list that is only read (the script) -/
inductive PV where
  | non | bl (b : Bool) | int (i : Int) | str (x : Str) | tup (xs : List PV) | fls (xs : List PV) | obj (n : Nat) | glo (x : Str) | ty (n : String) | key (ks : List Int)
inductive MO where
  | lst (xs : List PV)
  | ins (c : Str) (fs : List (Str × PV))
  | dct (kvs : List (List Int × PV))
  | dks (kvs : List (Str × PV))
abbrev IH := List MO
abbrev Fm := List (Option PV)
/-- an exception: its class's name, its own fields -/
structure XV where
  cls : Str
  fs : List (Str × PV)
inductive Res (α : Type) where
  | ok (a : α) (h : IH)
  | ex (x : XV) (h : IH)
  | bad
def Res.bind {α β : Type} (r : Res α) (f : α → IH → Res β) : Res β := match r with
  | .ok a h => f a h
  | .ex x h => .ex x h
  | .bad => .bad
@[simp] theorem bind_ok {α β : Type} (a : α) (h : IH) (f : α → IH → Res β) : (Res.ok a h).bind f = f a h := rfl
@[simp] theorem bind_ex {α β : Type} (x : XV) (h : IH) (f : α → IH → Res β) : (Res.ex x h : Res α).bind f = .ex x h := rfl
@[simp] theorem bind_bad {α β : Type} (f : α → IH → Res β) : (Res.bad : Res α).bind f = .bad := rfl
abbrev EX := Fm → IH → Res PV
abbrev TX := Fm → IH → Res Bool
abbrev AX := Fm → IH → Res (List PV)
inductive RS where
  | nx (r : Fm) (h : IH)
  | rt (v : PV) (h : IH)
  | bk (r : Fm) (h : IH)
  | ct (r : Fm) (h : IH)
  | ex (x : XV) (r : Fm) (h : IH)
  | bad
abbrev SX := Fm → IH → RS

/-! ### how a value stands -/
/-- a list that is read only -/
def SqF (K : PySem.W.Frag) (H : Hp) (a : Addr) (ys : List V) : Prop := (∃ o, H a = some (.frz o (.lst ys))) ∨
    ∃ (o : Obj) (its : Array Value) (n : Nat), K.lookup a = some o ∧ o.cls = .type "list" ∧ o.dict = none ∧ o.data = .seq its n ∧ its.size ≤ sizeLine ∧ Vals ys its.toList
theorem SqF.sq {K : PySem.W.Frag} {H : Hp} {a : Addr} {ys : List V} (h : SqF K H a ys) : SqL K H a ys := by
  rcases h with ⟨o, h⟩ | h
  · exact .inl (.inr ⟨o, h⟩)
  · exact .inr h
mutual
inductive RP (K : PySem.W.Frag) (mg : Str → Option Value) (H : Hp) (as : List Addr) : PV → V → Prop
  | non : RP K mg H as .non .non
  | bl (b : Bool) : RP K mg H as (.bl b) (.bl b)
  | int (i : Int) : RP K mg H as (.int i) (.int i)
  | str (x : Str) : RP K mg H as (.str x) (.str x)
  | tup {xs : List PV} {a : Addr} {ys : List V} : SqT K H a ys → RPs K mg H as xs ys → RP K mg H as (.tup xs) (.ref a)
  | fls {xs : List PV} {a : Addr} {ys : List V} : SqF K H a ys → RPs K mg H as xs ys → RP K mg H as (.fls xs) (.ref a)
  | obj {n : Nat} {a : Addr} : as[n]? = some a → RP K mg H as (.obj n) (.ref a)
  | glo {x : Str} {u : Value} {v : V} : mg x = some u → RelV v u → RP K mg H as (.glo x) v
  | ty (n : String) : RP K mg H as (.ty n) (.ty n)
  | key {ks : List Int} {a : Addr} : H a = some (.tup (ks.map V.int)) → RP K mg H as (.key ks) (.ref a)
inductive RPs (K : PySem.W.Frag) (mg : Str → Option Value) (H : Hp) (as : List Addr) : List PV → List V → Prop
  | nil : RPs K mg H as [] []
  | cons {p : PV} {ps : List PV} {v : V} {vs : List V} : RP K mg H as p v → RPs K mg H as ps vs → RPs K mg H as (p :: ps) (v :: vs)
end
/-- what a step of the code leaves -/
structure Stp (as : List Addr) (H : Hp) (as' : List Addr) (H' : Hp) : Prop where
  pre : ∃ more, as' = as ++ more ∧ ∀ b ∈ more, H b = none
  tup : ∀ b ys, H b = some (.tup ys) → H' b = some (.tup ys)
  frz : ∀ b o u, H b = some (.frz o u) → H' b = some (.frz o u)
  oth : ∀ b o, H b = some o → b ∉ as → H' b = some o
  liv : ∀ b, H b ≠ none → H' b ≠ none
theorem Stp.refl (as : List Addr) (H : Hp) : Stp as H as H := ⟨⟨[], by simp, by simp⟩, fun _ _ h => h, fun _ _ _ h => h, fun _ _ h _ => h, fun _ h => h⟩
theorem Stp.trans {as as1 as2 : List Addr} {H H1 H2 : Hp} (a : Stp as H as1 H1) (b : Stp as1 H1 as2 H2) : Stp as H as2 H2 := by
  obtain ⟨m1, e1, f1⟩ := a.pre
  obtain ⟨m2, e2, f2⟩ := b.pre
  refine ⟨⟨m1 ++ m2, by rw [e2, e1, List.append_assoc], fun c hc => ?_⟩, fun c ys h => b.tup c ys (a.tup c ys h), fun c o u h => b.frz c o u (a.frz c o u h), fun c o h hc => b.oth c o (a.oth c o h hc) fun z => ?_, fun c h => b.liv c (a.liv c h)⟩
  · rcases List.mem_append.mp hc with h | h
    · exact f1 c h
    · cases q : H c with
      | none => rfl
      | some o => exact absurd (f2 c h) (a.liv c (by rw [q]; simp))
  · rw [e1] at z
    rcases List.mem_append.mp z with z | z
    · exact hc z
    · rw [f1 c z] at h; cases h
theorem Stp.get {as as' : List Addr} {H H' : Hp} (s : Stp as H as' H') {n : Nat} {a : Addr} (h : as[n]? = some a) : as'[n]? = some a := by
  obtain ⟨m, e, _⟩ := s.pre
  rw [e, List.getElem?_append_left (List.getElem?_eq_some_iff.mp h).1]
  exact h
section
variable {K : PySem.W.Frag} {mg : Str → Option Value} {as as' : List Addr} {H H' : Hp}
theorem Stp.sqT (s : Stp as H as' H') {a : Addr} {ys : List V} (h : SqT K H a ys) : SqT K H' a ys := by
  rcases h with (h | ⟨o, h⟩) | h
  · exact .inl (.inl (s.tup _ _ h))
  · exact .inl (.inr ⟨o, s.frz _ _ _ h⟩)
  · exact .inr h
theorem Stp.sqF (s : Stp as H as' H') {a : Addr} {ys : List V} (h : SqF K H a ys) : SqF K H' a ys := by
  rcases h with ⟨o, h⟩ | h
  · exact .inl ⟨o, s.frz _ _ _ h⟩
  · exact .inr h
mutual
theorem RP.mono (s : Stp as H as' H') : ∀ {p : PV} {v : V}, RP K mg H as p v → RP K mg H' as' p v
  | _, _, .non => .non
  | _, _, .bl b => .bl b
  | _, _, .int i => .int i
  | _, _, .str x => .str x
  | _, _, .tup h r => .tup (s.sqT h) (RPs.mono s r)
  | _, _, .fls h r => .fls (s.sqF h) (RPs.mono s r)
  | _, _, .obj h => .obj (s.get h)
  | _, _, .glo h r => .glo h r
  | _, _, .ty n => .ty n
  | _, _, .key h => .key (s.tup _ _ h)
theorem RPs.mono (s : Stp as H as' H') : ∀ {ps : List PV} {vs : List V}, RPs K mg H as ps vs → RPs K mg H' as' ps vs
  | _, _, .nil => .nil
  | _, _, .cons h t => .cons (RP.mono s h) (RPs.mono s t)
end
theorem RPs.length : ∀ {ps : List PV} {vs : List V}, RPs K mg H as ps vs → ps.length = vs.length
  | _, _, .nil => rfl
  | _, _, .cons _ t => by rw [List.length_cons, List.length_cons, RPs.length t]
theorem RPs.get : ∀ {ps : List PV} {vs : List V} {i : Nat} {p : PV}, RPs K mg H as ps vs → ps[i]? = some p → ∃ v, vs[i]? = some v ∧ RP K mg H as p v
  | _, _, _, _, .nil, e => by simp at e
  | _, _, 0, _, .cons r _, e => by simp at e; subst e; exact ⟨_, rfl, r⟩
  | _, _, i + 1, p, .cons _ t, e => by
    obtain ⟨v, h1, h2⟩ := RPs.get (i := i) (p := p) t (by simpa using e)
    exact ⟨v, by simpa using h1, h2⟩
theorem RPs.append : ∀ {xs ys : List PV} {us ws : List V}, RPs K mg H as xs us → RPs K mg H as ys ws → RPs K mg H as (xs ++ ys) (us ++ ws)
  | _, _, _, _, .nil, s => s
  | _, _, _, _, .cons r t, s => .cons r (RPs.append t s)
theorem RPs.take : ∀ {xs : List PV} {us : List V} (n : Nat), RPs K mg H as xs us → RPs K mg H as (xs.take n) (us.take n)
  | _, _, 0, _ => .nil
  | _, _, _ + 1, .nil => .nil
  | _, _, n + 1, .cons r t => .cons r (RPs.take n t)
theorem RPs.drop : ∀ {xs : List PV} {us : List V} (n : Nat), RPs K mg H as xs us → RPs K mg H as (xs.drop n) (us.drop n)
  | _, _, 0, r => r
  | _, _, _ + 1, .nil => .nil
  | _, _, n + 1, .cons _ t => RPs.drop n t
theorem RPs.set {x : PV} {u : V} (r : RP K mg H as x u) : ∀ {xs : List PV} {us : List V} (i : Nat), RPs K mg H as xs us → RPs K mg H as (xs.set i x) (us.set i u)
  | _, _, _, .nil => .nil
  | _, _, 0, .cons _ t => .cons r t
  | _, _, i + 1, .cons q t => .cons q (RPs.set r i t)
theorem RPs.one {p : PV} {v : V} (h : RP K mg H as p v) : RPs K mg H as [p] [v] := .cons h .nil
theorem RPs.inv1 {p : PV} {vs : List V} (h : RPs K mg H as [p] vs) : ∃ v, vs = [v] ∧ RP K mg H as p v := by
  cases h with | cons a b => cases b; exact ⟨_, rfl, a⟩
theorem RPs.inv2 {p q : PV} {vs : List V} (h : RPs K mg H as [p, q] vs) : ∃ v w, vs = [v, w] ∧ RP K mg H as p v ∧ RP K mg H as q w := by
  cases h with | cons a b => cases b with | cons b c => cases c; exact ⟨_, _, rfl, a, b⟩
theorem RPs.reverse {xs : List PV} {us : List V} (h : RPs K mg H as xs us) : RPs K mg H as xs.reverse us.reverse := by
  induction xs generalizing us with
  | nil => cases h; exact .nil
  | cons x r ih =>
    cases h with
    | cons a b =>
      rw [List.reverse_cons, List.reverse_cons]
      exact (ih b).append (.one a)
end

/-! ### how the small heap stands -/
def RO (K : PySem.W.Frag) (mg : Str → Option Value) (H : Hp) (as : List Addr) (a : Addr) : MO → Prop
  | .lst xs => ∃ ys, H a = some (.lst ys) ∧ RPs K mg H as xs ys
  | .ins c fs => ∃ C dx gs, mg c = some (.ref C) ∧ H a = some (.ins C dx gs) ∧ gs.map (·.1) = fs.map (·.1) ∧ RPs K mg H as (fs.map (·.2)) (gs.map (·.2))
  | .dks kvs => ∃ gs, H a = some (.dK gs) ∧ gs.map (·.1) = kvs.map (fun q => (Sum.inr q.1 : Key)) ∧ RPs K mg H as (kvs.map (·.2)) (gs.map (·.2))
  | .dct kvs => ∃ gs, H a = some (.dT gs) ∧ gs.map (·.1) = kvs.map (fun q => q.1.map (Sum.inl : Int → Key)) ∧ RPs K mg H as (kvs.map (·.2)) (gs.map (·.2))
structure RH (K : PySem.W.Frag) (mg : Str → Option Value) (H : Hp) (as : List Addr) (h : IH) : Prop where
  len : as.length = h.length
  nd : as.Nodup
  at_ : ∀ (n : Nat) (o : MO), h[n]? = some o → ∃ a, as[n]? = some a ∧ RO K mg H as a o
structure RF (K : PySem.W.Frag) (mg : Str → Option Value) (H : Hp) (as : List Addr) (r : Fm) (s : L2.St) : Prop where
  len : r.length = s.length
  at_ : ∀ (i : Nat) (p : PV), r[i]? = some (some p) → ∃ v, s[i]? = some (some v) ∧ RP K mg H as p v
section
variable {K : PySem.W.Frag} {mg : Str → Option Value} {as as' : List Addr} {H H' : Hp} {h : IH} {r : Fm} {s : L2.St}
theorem RF.mono (S : Stp as H as' H') (f : RF K mg H as r s) : RF K mg H' as' r s := ⟨f.len, fun i p e => by
  obtain ⟨v, h1, h2⟩ := f.at_ i p e
  exact ⟨v, h1, h2.mono S⟩⟩
theorem RF.set {i : Nat} {p : PV} {v : V} (f : RF K mg H as r s) (hp : RP K mg H as p v) : RF K mg H as (r.set i (some p)) (s.set i (some v)) := by
  refine ⟨by simp [f.len], fun j q e => ?_⟩
  by_cases hj : j = i
  · subst hj
    by_cases hl : j < r.length
    · rw [List.getElem?_set_self hl] at e
      cases e
      exact ⟨v, List.getElem?_set_self (by rw [← f.len]; exact hl), hp⟩
    · rw [List.getElem?_eq_none (by simpa using hl)] at e; cases e
  · rw [List.getElem?_set_ne (Ne.symm hj)] at e
    rw [List.getElem?_set_ne (Ne.symm hj)]
    exact f.at_ j q e
theorem RO.isS {a : Addr} {o : MO} (x : RO K mg H as a o) : ∃ u, H a = some u := by
  cases o with
  | lst xs => obtain ⟨ys, e, _⟩ := x; exact ⟨_, e⟩
  | ins c fs => obtain ⟨C, dx, gs, _, e, _⟩ := x; exact ⟨_, e⟩
  | dct kvs => obtain ⟨gs, e, _⟩ := x; exact ⟨_, e⟩
  | dks kvs => obtain ⟨gs, e, _⟩ := x; exact ⟨_, e⟩
theorem RH.mem (x : RH K mg H as h) {a : Addr} (ha : a ∈ as) : H a ≠ none := by
  obtain ⟨n, hn, e⟩ := List.getElem_of_mem ha
  have hn' : n < h.length := by rw [← x.len]; exact hn
  obtain ⟨b, h1, h2⟩ := x.at_ n h[n] (by simp [hn'])
  rw [List.getElem?_eq_getElem hn] at h1
  have e2 : b = a := by rw [← e]; exact (Option.some.inj h1).symm
  subst e2
  obtain ⟨u, q⟩ := h2.isS
  rw [q]; simp
theorem RO.mono {a : Addr} {o : MO} (S : Stp as H as' H') (e : H' a = H a) (x : RO K mg H as a o) : RO K mg H' as' a o := by
  cases o with
  | lst xs => obtain ⟨ys, e1, r⟩ := x; exact ⟨ys, e.trans e1, r.mono S⟩
  | ins c fs => obtain ⟨C, dx, gs, e0, e1, e2, r⟩ := x; exact ⟨C, dx, gs, e0, e.trans e1, e2, r.mono S⟩
  | dct kvs => obtain ⟨gs, e1, e2, r⟩ := x; exact ⟨gs, e.trans e1, e2, r.mono S⟩
  | dks kvs => obtain ⟨gs, e1, e2, r⟩ := x; exact ⟨gs, e.trans e1, e2, r.mono S⟩
/-- something that is no object of ours is laid -/
theorem Stp.lay {p : Addr} {o : HO} (x : RH K mg H as h) (n : H p = none) : Stp as H as (upd H p o) :=
  ⟨⟨[], by simp, by simp⟩, fun b ys e => by rw [upd_ne (ne_of_none e n)]; exact e, fun b u v e => by rw [upd_ne (ne_of_none e n)]; exact e, fun b u e _ => by rw [upd_ne (ne_of_none e n)]; exact e, fun b e z => by
    by_cases hb : b = p
    · subst hb; exact e n
    · rw [upd_ne hb] at z; exact e z⟩
theorem RH.lay {p : Addr} {o : HO} (x : RH K mg H as h) (n : H p = none) : RH K mg (upd H p o) as h :=
  ⟨x.len, x.nd, fun m q e => by
    obtain ⟨a, h1, h2⟩ := x.at_ m q e
    obtain ⟨u, hu⟩ := h2.isS
    exact ⟨a, h1, h2.mono (Stp.lay x n) (upd_ne (ne_of_none hu n))⟩⟩
/-- a new object of ours -/
theorem Stp.new {p : Addr} {o : HO} (x : RH K mg H as h) (n : H p = none) : Stp as H (as ++ [p]) (upd H p o) := by
  have q := Stp.lay (o := o) x n
  exact ⟨⟨[p], rfl, fun b hb => by rw [List.mem_singleton.mp hb]; exact n⟩, q.tup, q.frz, q.oth, q.liv⟩
theorem RH.new {p : Addr} {o : HO} {m : MO} (x : RH K mg H as h) (n : H p = none) (hm : RO K mg (upd H p o) (as ++ [p]) p m) : RH K mg (upd H p o) (as ++ [p]) (h ++ [m]) := by
  refine ⟨by simp [x.len], ?_, fun k q e => ?_⟩
  · rw [List.nodup_append]
    refine ⟨x.nd, by simp, fun a ha b hb => ?_⟩
    rw [List.mem_singleton.mp hb]
    exact fun z => x.mem ha (by rw [z]; exact n)
  · by_cases hk : k < h.length
    · rw [List.getElem?_append_left hk] at e
      obtain ⟨a, h1, h2⟩ := x.at_ k q e
      obtain ⟨u, hu⟩ := h2.isS
      exact ⟨a, (Stp.new (o := o) x n).get h1, h2.mono (Stp.new x n) (upd_ne (ne_of_none hu n))⟩
    · rw [List.getElem?_append_right (by omega)] at e
      have e0 : k - h.length = 0 := by
        cases z : k - h.length with
        | zero => rfl
        | succ y => rw [z] at e; simp at e
      rw [e0] at e
      cases e
      refine ⟨p, ?_, hm⟩
      rw [List.getElem?_append_right (by rw [x.len]; omega), x.len, e0]
      rfl
/-- an object of ours is changed -/
def isMut : HO → Bool
  | .lst _ => true
  | .ins _ _ _ => true
  | .dT _ => true
  | .dK _ => true
  | _ => false
theorem RO.isM {a : Addr} {o : MO} (x : RO K mg H as a o) : ∃ u, H a = some u ∧ isMut u = true := by
  cases o with
  | lst xs => obtain ⟨ys, e, _⟩ := x; exact ⟨_, e, rfl⟩
  | ins c fs => obtain ⟨C, dx, gs, _, e, _⟩ := x; exact ⟨_, e, rfl⟩
  | dct kvs => obtain ⟨gs, e, _⟩ := x; exact ⟨_, e, rfl⟩
  | dks kvs => obtain ⟨gs, e, _⟩ := x; exact ⟨_, e, rfl⟩
theorem Stp.put {n : Nat} {a : Addr} {o : HO} {q : MO} (x : RH K mg H as h) (ha : as[n]? = some a) (hq : h[n]? = some q) : Stp as H as (upd H a o) := by
  obtain ⟨b, h1, h2⟩ := x.at_ n q hq
  rw [ha] at h1; cases h1
  obtain ⟨u, hu, hm⟩ := h2.isM
  refine ⟨⟨[], by simp, by simp⟩, fun b ys e => ?_, fun b v w e => ?_, fun b v e hb => ?_, fun b e z => ?_⟩
  · rw [upd_ne (fun z => by rw [z, hu] at e; cases e; cases hm)]; exact e
  · rw [upd_ne (fun z => by rw [z, hu] at e; cases e; cases hm)]; exact e
  · rw [upd_ne (fun z => hb (by rw [z]; exact List.mem_of_getElem? ha))]; exact e
  · by_cases hb : b = a
    · subst hb; rw [upd_same] at z; cases z
    · rw [upd_ne hb] at z; exact e z
theorem RH.put {n : Nat} {a : Addr} {o : HO} {q m : MO} (x : RH K mg H as h) (ha : as[n]? = some a) (hq : h[n]? = some q) (hm : RO K mg (upd H a o) as a m) : RH K mg (upd H a o) as (h.set n m) := by
  refine ⟨by simp [x.len], x.nd, fun k p e => ?_⟩
  by_cases hk : k = n
  · subst hk
    have hl : k < h.length := (List.getElem?_eq_some_iff.mp hq).1
    rw [List.getElem?_set_self hl] at e
    cases e
    exact ⟨a, ha, hm⟩
  · rw [List.getElem?_set_ne (Ne.symm hk)] at e
    obtain ⟨b, h1, h2⟩ := x.at_ k p e
    have hne : b ≠ a := fun z => by
      subst z
      obtain ⟨l1, e1⟩ := List.getElem?_eq_some_iff.mp h1
      obtain ⟨l2, e2⟩ := List.getElem?_eq_some_iff.mp ha
      exact hk ((List.getElem_inj x.nd).mp (e1.trans e2.symm))
    exact ⟨b, h1, h2.mono (Stp.put x ha hq) (upd_ne hne)⟩
end
end WR

/-! the readings that the functional code gives, and the rules: statements, loops, names, calls -/
namespace WR
open PySem PySem.Spec PyProof.Rows L2

/-- how an exception stands -/
def RX (K : PySem.W.Frag) (mg : Str → Option Value) (H : Hp) (as : List Addr) (x : XV) (cls : Value) (d : Option Addr) : Prop :=
  ∃ C, mg x.cls = some (.ref C) ∧ cls = .ref C ∧ ((x.fs = [] ∧ d = none) ∨ ∃ dd gs, x.fs ≠ [] ∧ d = some dd ∧ H dd = some (.xd gs) ∧ dd ∉ as ∧ gs.map (·.1) = x.fs.map (·.1) ∧ RPs K mg H as (x.fs.map (·.2)) (gs.map (·.2)))
def Out {α β : Type} (K : PySem.W.Frag) (mg : Str → Option Value) (R : Hp → List Addr → α → β → Prop) (W : WX) (s : L2.St) (as : List Addr) (H : Hp) (Q : β → Hp → Prop) : Res α → Prop
  | .ok a h' => ∀ b H' as', Stp as H as' H' → RH K mg H' as' h' → R H' as' a b → Q b H'
  | .ex x h' => ∀ cls d H' as', Stp as H as' H' → RH K mg H' as' h' → RX K mg H' as' x cls d → W cls d s H'
  | .bad => False
section
variable {α β γ δ : Type} {K : PySem.W.Frag} {mg : Str → Option Value} {R : Hp → List Addr → α → β → Prop} {R' : Hp → List Addr → γ → δ → Prop} {W : WX} {s : L2.St} {as as' : List Addr} {H H' : Hp} {Q Q' : β → Hp → Prop}
theorem Out.shift {r : Res α} (S : Stp as H as' H') (o : Out K mg R W s as H Q r) : Out K mg R W s as' H' Q r := by
  cases r with
  | ok a h => exact fun b H1 as1 S1 R1 r1 => o b H1 as1 (S.trans S1) R1 r1
  | ex x h => exact fun c d H1 as1 S1 R1 r1 => o c d H1 as1 (S.trans S1) R1 r1
  | bad => exact o
theorem Out.imp {r : Res α} (o : Out K mg R W s as H Q r) (h : ∀ b H', Q b H' → Q' b H') : Out K mg R W s as H Q' r := by
  cases r with
  | ok a h' => exact fun b H1 as1 S1 R1 r1 => h _ _ (o b H1 as1 S1 R1 r1)
  | ex x h' => exact o
  | bad => exact o
theorem Out.bind {Q : δ → Hp → Prop} {r : Res α} {f : α → IH → Res γ} (o : Out K mg R' W s as H Q (r.bind f)) :
    Out K mg R W s as H (fun b H1 => ∃ as1 h1 a, Stp as H as1 H1 ∧ RH K mg H1 as1 h1 ∧ R H1 as1 a b ∧ Out K mg R' W s as1 H1 Q (f a h1)) r := by
  cases r with
  | ok a h => exact fun b H1 as1 S1 R1 r1 => ⟨as1, h, a, S1, R1, r1, o.shift S1⟩
  | ex x h => exact o
  | bad => exact o
theorem Out.here {a : α} {b : β} {h : IH} (o : Out K mg R W s as H Q (.ok a h)) (x : RH K mg H as h) (r : R H as a b) : Q b H := o b H as (Stp.refl as H) x r
end
/-- the reading of an expression, a test, a list of arguments, an iterator: by its functional code -/
def IG {α β : Type} (K : PySem.W.Frag) (mg : Str → Option Value) (R : Hp → List Addr → α → β → Prop) (W : WX) (A : Fm → IH → Res α) : L2.St → Hp → (β → Hp → Prop) → Prop :=
  fun s H Q => ∃ as r h, RF K mg H as r s ∧ RH K mg H as h ∧ Out K mg R W s as H Q (A r h)
abbrev IE (K : PySem.W.Frag) (mg : Str → Option Value) (W : WX) (A : EX) : TE := IG K mg (fun H as p v => RP K mg H as p v) W A
abbrev IT (K : PySem.W.Frag) (mg : Str → Option Value) (W : WX) (A : TX) : TT := IG K mg (fun _ _ p v => p = v) W A
abbrev IA (K : PySem.W.Frag) (mg : Str → Option Value) (W : WX) (A : AX) : TA := IG K mg (fun H as p v => RPs K mg H as p v) W A
def OutS (K : PySem.W.Frag) (mg : Str → Option Value) (W : WX) (as : List Addr) (H : Hp) (D : Ends) : RS → Prop
  | .nx r h => ∀ s' H' as', Stp as H as' H' → RH K mg H' as' h → RF K mg H' as' r s' → D.nx s' H'
  | .rt v h => ∀ V H' as', Stp as H as' H' → RH K mg H' as' h → RP K mg H' as' v V → D.rt V H'
  | .bk r h => ∀ s' H' as', Stp as H as' H' → RH K mg H' as' h → RF K mg H' as' r s' → D.bk s' H'
  | .ct r h => ∀ s' H' as', Stp as H as' H' → RH K mg H' as' h → RF K mg H' as' r s' → D.ct s' H'
  | .ex x r h => ∀ cls d s' H' as', Stp as H as' H' → RH K mg H' as' h → RF K mg H' as' r s' → RX K mg H' as' x cls d → W cls d s' H'
  | .bad => False
def IS (K : PySem.W.Frag) (mg : Str → Option Value) (W : WX) (B : SX) : TS := fun D s H => ∃ as r h, RF K mg H as r s ∧ RH K mg H as h ∧ OutS K mg W as H D (B r h)
section
variable {K : PySem.W.Frag} {mg : Str → Option Value} {W : WX} {as as' : List Addr} {H H' : Hp} {D D' : Ends}
theorem OutS.shift {r : RS} (S : Stp as H as' H') (o : OutS K mg W as H D r) : OutS K mg W as' H' D r := by
  cases r with
  | nx r h => exact fun b H1 as1 S1 => o b H1 as1 (S.trans S1)
  | rt r h => exact fun b H1 as1 S1 => o b H1 as1 (S.trans S1)
  | bk r h => exact fun b H1 as1 S1 => o b H1 as1 (S.trans S1)
  | ct r h => exact fun b H1 as1 S1 => o b H1 as1 (S.trans S1)
  | ex x r h => exact fun c d s H1 as1 S1 => o c d s H1 as1 (S.trans S1)
  | bad => exact o
end
/-! ### the code -/
@[simp] def eVar (i : Nat) : EX := fun r h => match r[i]? with
  | some (some v) => .ok v h
  | _ => .bad
@[simp] def eC (v : PV) : EX := fun _ h => .ok v h
@[simp] def aNil : AX := fun _ h => .ok [] h
@[simp] def aCons (A : EX) (B : AX) : AX := fun r h => (A r h).bind fun x h1 => (B r h1).bind fun xs h2 => .ok (x :: xs) h2
@[simp] def sNil : SX := fun r h => .nx r h
@[simp] def sSeq (B C : SX) : SX := fun r h => match B r h with
  | .nx r1 h1 => C r1 h1
  | o => o
/-- an expression's end as a statement's -/
@[simp] def toS {α : Type} (o : Res α) (r : Fm) (k : α → IH → RS) : RS := match o with
  | .ok a h => k a h
  | .ex x h => .ex x r h
  | .bad => .bad
@[simp] def sSet (i : Nat) (A : EX) : SX := fun r h => toS (A r h) r fun v h1 => .nx (r.set i (some v)) h1
@[simp] def sPar (i j : Nat) (A : AX) : SX := fun r h => toS (A r h) r fun vs h1 => match vs with
  | [v, w] => .nx ((r.set i (some v)).set j (some w)) h1
  | _ => .bad
@[simp] def sExpr (A : EX) : SX := fun r h => toS (A r h) r fun _ h1 => .nx r h1
@[simp] def sRet (A : EX) : SX := fun r h => toS (A r h) r fun v h1 => .rt v h1
@[simp] def sIf (c : TX) (B C : SX) : SX := fun r h => toS (c r h) r fun b h1 => if b then B r h1 else C r h1
@[simp] def sBad : SX := fun _ _ => .bad
@[simp] def sBreak : SX := fun r h => .bk r h
/-- a function: its body over the arguments and n empty places -/
@[simp] def fn (ps n : Nat) (B : SX) : List PV → IH → Res PV := fun us h => if us.length = ps then (match B (us.map some ++ List.replicate n none) h with
  | .nx _ h1 => .ok .non h1
  | .rt v h1 => .ok v h1
  | .ex x _ h1 => .ex x h1
  | _ => .bad) else .bad
@[simp] def eCall (F : List PV → IH → Res PV) (A : AX) : EX := fun r h => (A r h).bind F
def whileL (c : TX) (B : SX) : Nat → SX
  | 0 => fun _ _ => .bad
  | n + 1 => fun r h => toS (c r h) r fun b h1 => if b then (match B r h1 with
    | .nx r2 h2 => whileL c B n r2 h2
    | .ct r2 h2 => whileL c B n r2 h2
    | .bk r2 h2 => .nx r2 h2
    | o => o) else .nx r h1
/-- what a loop walks: at turn i it yields, it stops, or we do not know -/
abbrev ItF := Nat → IH → Option (Option PV)
abbrev TgF := PV → Fm → Option Fm
def forL (it : ItF) (g : TgF) (B : SX) : Nat → Nat → SX
  | 0, _ => fun _ _ => .bad
  | n + 1, i => fun r h => match it i h with
    | none => .bad
    | some none => .nx r h
    | some (some v) => (match g v r with
      | none => .bad
      | some r1 => (match B r1 h with
        | .nx r2 h2 => forL it g B n (i + 1) r2 h2
        | .ct r2 h2 => forL it g B n (i + 1) r2 h2
        | .bk r2 h2 => .nx r2 h2
        | o => o))
def LIM : Nat := 1048576
def sWhile (c : TX) (B : SX) : SX := whileL c B LIM
def sFor (I : Fm → IH → Res ItF) (g : TgF) (B : SX) : SX := fun r h => toS (I r h) r fun it h1 => forL it g B LIM 0 r h1
@[simp] def gVar (i : Nat) : TgF := fun v r => some (r.set i (some v))
@[simp] def setAll : List Nat → List PV → Fm → Option Fm
  | [], [], r => some r
  | i :: is, v :: vs, r => setAll is vs (r.set i (some v))
  | _, _, _ => none
@[simp] def gTupF (is : List Nat) : TgF := fun v r => match v with
  | .tup vs => setAll is vs r
  | _ => none
@[simp] def sAsgT (g : TgF) (A : EX) : SX := fun r h => toS (A r h) r fun v h1 => match g v r with
  | some r1 => .nx r1 h1
  | none => .bad

/-! ### the rules -/
/-- where the code runs -/
structure Ctx (X : Cx) (W : WX) (k : Nat) : Prop where
  tk : Takes X W
  po : PassesOwn (model X.prog X.w) X.A X.env X.xe
  calm : X.calm = true
  nd : X.N.Nodup
  room : Room k X.A
section
variable {X : Cx} {W : WX} {k : Nat} {e : Expr} {es : List Expr} {pos : Pos} {A : EX} {L : AX} {c : TX} {B C : SX} {st : Stmt} {sts : List Stmt}
theorem peImp {t t' : TE} (h : PE X e t) (hi : ∀ s H Q, t' s H Q → t s H Q) : PE X e t' := ⟨fun pins s σ H Q I q => h.run pins s σ H Q I (hi σ H Q q)⟩
theorem ptImp {t t' : TT} (h : PT X e t) (hi : ∀ s H Q, t' s H Q → t s H Q) : PT X e t' := ⟨fun pins s σ H Q I q => h.run pins s σ H Q I (hi σ H Q q)⟩
theorem paImp {t t' : TA} (h : PA X es t) (hi : ∀ s H Q, t' s H Q → t s H Q) : PA X es t' := ⟨fun pos pins s σ H Q I q => h.run pos pins s σ H Q I (hi σ H Q q)⟩
theorem psImp {t t' : TS} (h : PS X st t) (hi : ∀ D s H, t' D s H → t D s H) : PS X st t' := ⟨fun pins s σ H D I q => h.run pins s σ H D I (hi D σ H q)⟩
theorem pssImp {t t' : TS} (h : PSs X sts t) (hi : ∀ D s H, t' D s H → t D s H) : PSs X sts t' := ⟨fun pins s σ H D I q => h.run pins s σ H D I (hi D σ H q)⟩
theorem piImp {tg : Expr} {t t' : TI} (h : PI X tg e t) (hi : ∀ s H Q, t' s H Q → t s H Q) : PI X tg e t' := ⟨fun pins s σ H Q I q => h.run pins s σ H Q I (hi σ H Q q)⟩

theorem ie_var (i : Nat) {x : Str} (hN : X.N[i]? = some x := by rfl) (hv : Vis X.env.scope x := by first | exact Or.inl rfl | exact Or.inr (Or.inl rfl) | exact Or.inr (Or.inr rfl)) (hd : (x == ("__debug__" : Str)) = false := by decide)
    (hcd : (x == ("__classdict__" : Str)) = false := by decide) : PE X (.Name x pos) (IE X.K X.mg W (eVar i)) := by
  refine peImp (pe_var hN hv hd hcd) fun s H Q ⟨as, r, h, f, x, o⟩ => ?_
  unfold eVar at o
  split at o
  · rename_i v e1
    obtain ⟨V, e2, rv⟩ := f.at_ i v e1
    exact ⟨V, e2, o.here x rv⟩
  · exact o.elim
/-- a constant that is a plain value -/
theorem ie_const {V : V} {p : PV} (h : PE X e (tC V)) (r : ∀ H as, RP X.K X.mg H as p V) : PE X e (IE X.K X.mg W (eC p)) :=
  peImp h fun s H Q ⟨as, _, _, _, x, o⟩ => o.here x (r H as)
theorem ie_int {i j} : PE X (.Constant (.int i) j pos) (IE X.K X.mg W (eC (.int i))) := ie_const pe_int fun _ _ => .int i
theorem ie_bl {b j} : PE X (.Constant (.bool b) j pos) (IE X.K X.mg W (eC (.bl b))) := ie_const pe_bl fun _ _ => .bl b
theorem ie_non {j} : PE X (.Constant .none j pos) (IE X.K X.mg W (eC .non)) := ie_const pe_non fun _ _ => .non
theorem ie_str {x j} : PE X (.Constant (.str x) j pos) (IE X.K X.mg W (eC (.str x))) := ie_const pe_str fun _ _ => .str x
theorem ie_gint {x : Str} {i : Int} (hg : Gl X x) (hm : ∃ t, X.mg x = some (.int i t)) (hd : (x == ("__debug__" : Str)) = false := by decide) : PE X (.Name x pos) (IE X.K X.mg W (eC (.int i))) := by
  obtain ⟨t, hm⟩ := hm
  exact ie_const (pe_glob (v := .int i) hg hm ⟨t, rfl⟩ hd) fun _ _ => .int i
/-- a tuple of the top -/
theorem ie_gtup {x : Str} {a : Addr} {ys : List V} {ps : List PV} (hg : Gl X x) (hm : X.mg x = some (.ref a)) (hs : ∀ H, SqT X.K H a ys) (hp : ∀ H as, RPs X.K X.mg H as ps ys) (hd : (x == ("__debug__" : Str)) = false := by decide) : PE X (.Name x pos) (IE X.K X.mg W (eC (.tup ps))) :=
  ie_const (pe_glob (v := .ref a) hg hm rfl hd) fun H as => .tup (hs H) (hp H as)
/-- a def or class of the top as a value -/
theorem ie_glo {x : Str} {a : Addr} (hg : Gl X x) (hm : X.mg x = some (.ref a)) (hd : (x == ("__debug__" : Str)) = false := by decide) : PE X (.Name x pos) (IE X.K X.mg W (eC (.glo x))) :=
  ie_const (pe_glob (v := .ref a) hg hm rfl hd) fun H as => .glo hm rfl
/-- a built-in type as a value -/
theorem ie_ty {x : Str} {n : String} (hg : Gl X x) (hm : X.mg x = none) (hv : bootBuiltins x = some (.type n)) (hn : x ≠ "__name__" := by decide) (hd : (x == ("__debug__" : Str)) = false := by decide) : PE X (.Name x pos) (IE X.K X.mg W (eC (.ty n))) :=
  ie_const (pe_bltn (v := .ty n) hg hm hv rfl hn hd) fun _ _ => .ty n

theorem ia_nil : PA X [] (IA X.K X.mg W aNil) := paImp pa_nil fun s H Q ⟨as, _, _, _, x, o⟩ => o.here x RPs.nil
theorem ia_cons (ha : PE X e (IE X.K X.mg W A)) (hr : PA X es (IA X.K X.mg W L)) (hs : starEach (e :: es) X.env = (false, eval e X.env) :: starEach es X.env := by rfl) : PA X (e :: es) (IA X.K X.mg W (aCons A L)) := by
  refine paImp (pa_cons ha hr hs) fun s H Q ⟨as, r, h, f, x, o⟩ => ?_
  refine ⟨as, r, h, f, x, (Out.bind o).imp fun V H1 ⟨as1, h1, p, S1, x1, r1, o1⟩ => ?_⟩
  refine ⟨as1, r, h1, f.mono S1, x1, (Out.bind o1).imp fun Vs H2 ⟨as2, h2, ps, S2, x2, r2, o2⟩ => ?_⟩
  exact o2.here x2 (RPs.cons (r1.mono S2) r2)

theorem is_nil : PSs X [] (IS X.K X.mg W sNil) := pssImp pss_nil fun D s H ⟨as, r, h, f, x, o⟩ => o s H as (Stp.refl _ _) x f
theorem is_cons (h1 : PS X st (IS X.K X.mg W B)) (h2 : PSs X sts (IS X.K X.mg W C)) : PSs X (st :: sts) (IS X.K X.mg W (sSeq B C)) := by
  refine pssImp (pss_cons h1 h2) fun D s H ⟨as, r, h, f, x, o⟩ => ?_
  refine ⟨as, r, h, f, x, ?_⟩
  unfold sSeq at o
  cases q : B r h with
  | nx r1 h1 =>
    rw [q] at o
    exact fun s' H' as' S' x' f' => ⟨as', r1, h1, f', x', o.shift S'⟩
  | rt v h1 => rw [q] at o; exact o
  | bk r1 h1 => rw [q] at o; exact o
  | ct r1 h1 => rw [q] at o; exact o
  | ex z r1 h1 => rw [q] at o; exact o
  | bad => rw [q] at o; exact o
theorem is_one (h1 : PS X st (IS X.K X.mg W B)) : PSs X [st] (IS X.K X.mg W B) := pss_one h1
/-- from an expression's end to a statement's -/
theorem outS_of {α β : Type} {K : PySem.W.Frag} {mg : Str → Option Value} {R : Hp → List Addr → α → β → Prop} {s : L2.St} {as : List Addr} {H : Hp} {D : Ends} {o : Res α} {r : Fm} {kk : α → IH → RS} (f : RF K mg H as r s) (h : OutS K mg W as H D (toS o r kk)) :
    Out K mg R W s as H (fun b H1 => ∃ as1 h1 a, Stp as H as1 H1 ∧ RH K mg H1 as1 h1 ∧ R H1 as1 a b ∧ OutS K mg W as1 H1 D (kk a h1)) o := by
  cases o with
  | ok a h1 => exact fun b H1 as1 S1 R1 r1 => ⟨as1, h1, a, S1, R1, r1, OutS.shift S1 h⟩
  | ex z h1 => exact fun c d H1 as1 S1 R1 r1 => h c d s H1 as1 S1 R1 (f.mono S1) r1
  | bad => exact h
theorem is_set {i : Nat} {x : Str} {pos' : Pos} (cx : Ctx X W k) (he : PE X e (IE X.K X.mg W A)) (hi : X.N[i]? = some x := by rfl) (hx : Loc X.env.scope x := by first | exact Or.inl rfl | exact Or.inr rfl) (hs : swapsWith e (some (.Name x pos')) pos.line X.env = pure false := by rfl)
    (hf : X.fn x = true ∨ X.env.scope.names.lookup x = some .local := by first | exact .inl rfl | exact .inr rfl | assumption) : PS X (.Assign [.Name x pos'] e pos) (IS X.K X.mg W (sSet i A)) := by
  refine psImp (ps_set cx.nd hi hx he hs hf) fun D s H ⟨as, r, h, f, x, o⟩ => ?_
  refine ⟨as, r, h, f, x, (outS_of f o).imp fun V H1 ⟨as1, h1, p, S1, x1, r1, o1⟩ => ?_⟩
  exact o1 _ H1 as1 (Stp.refl _ _) x1 ((f.mono S1).set r1)
theorem is_par {i j : Nat} {x y : Str} {a b : Expr} {px py pt : Pos} {kt k2 pt2} (cx : Ctx X W k) (ha : PA X [a, b] (IA X.K X.mg W L)) (hij : i ≠ j := by decide) (hi : X.N[i]? = some x := by rfl) (hj : X.N[j]? = some y := by rfl)
    (hx : X.env.scope.names.lookup x = some .local := by rfl) (hy : X.env.scope.names.lookup y = some .local := by rfl)
    (hw : swappedStores [.Tuple [.Name x px, .Name y py] kt pt] (.Tuple [a, b] k2 pt2) X.env = pure (some [x, y]) := by rfl)
    (hs : swapsWithSole [.Tuple [.Name x px, .Name y py] kt pt] (.Tuple [a, b] k2 pt2) pos.line X.env = pure false := by rfl) :
    PS X (.Assign [.Tuple [.Name x px, .Name y py] kt pt] (.Tuple [a, b] k2 pt2) pos) (IS X.K X.mg W (sPar i j L)) := by
  refine psImp (ps_par cx.calm cx.nd hi hj hij hx hy ha hw hs) fun D s H ⟨as, r, h, f, x, o⟩ => ?_
  refine ⟨as, r, h, f, x, (outS_of f o).imp fun Vs H1 ⟨as1, h1, ps, S1, x1, r1, o1⟩ => ?_⟩
  split at o1
  · obtain ⟨v, w, e1, rv, rw'⟩ := RPs.inv2 r1
    exact ⟨v, w, e1, o1 _ H1 as1 (Stp.refl _ _) x1 (((f.mono S1).set rv).set rw')⟩
  · exact o1.elim
theorem is_expr (he : PE X e (IE X.K X.mg W A)) (hs : swapsWith e none pos.line X.env = pure false := by rfl) : PS X (.Expr e pos) (IS X.K X.mg W (sExpr A)) := by
  refine psImp (ps_expr he hs) fun D s H ⟨as, r, h, f, x, o⟩ => ?_
  refine ⟨as, r, h, f, x, (outS_of f o).imp fun V H1 ⟨as1, h1, p, S1, x1, r1, o1⟩ => ?_⟩
  exact o1 s H1 as1 (Stp.refl _ _) x1 (f.mono S1)
theorem is_ret (he : PE X e (IE X.K X.mg W A)) : PS X (.Return (some e) pos) (IS X.K X.mg W (sRet A)) := by
  refine psImp (ps_ret he) fun D s H ⟨as, r, h, f, x, o⟩ => ?_
  refine ⟨as, r, h, f, x, (outS_of f o).imp fun V H1 ⟨as1, h1, p, S1, x1, r1, o1⟩ => ?_⟩
  exact o1 V H1 as1 (Stp.refl _ _) x1 r1
theorem is_if {t : Expr} {a b : List Stmt} (hc : PT X t (IT X.K X.mg W c)) (ha : PSs X a (IS X.K X.mg W B)) (hb : PSs X b (IS X.K X.mg W C)) : PS X (.If t a b pos) (IS X.K X.mg W (sIf c B C)) := by
  refine psImp (ps_if hc ha hb) fun D s H ⟨as, r, h, f, x, o⟩ => ?_
  refine ⟨as, r, h, f, x, (outS_of f o).imp fun d H1 ⟨as1, h1, p, S1, x1, r1, o1⟩ => ?_⟩
  obtain rfl : p = d := r1
  cases p with
  | true => exact ⟨as1, r, h1, f.mono S1, x1, o1⟩
  | false => exact ⟨as1, r, h1, f.mono S1, x1, o1⟩
theorem is_bad : PS X st (IS X.K X.mg W sBad) := psImp ps_never fun D s H ⟨as, r, h, f, x, o⟩ => o
theorem is_break : PS X (.Break pos) (IS X.K X.mg W sBreak) := psImp ps_break fun D s H ⟨as, r, h, f, x, o⟩ => o s H as (Stp.refl _ _) x f

/-! ### loops -/
theorem is_while {t : Expr} {body : List Stmt} (cx : Ctx X W k) (hc : PT X t (IT X.K X.mg W c)) (hb : PSs X body (IS X.K X.mg W B)) : PS X (.While t body [] pos) (IS X.K X.mg W (sWhile c B)) := by
  refine psImp (ps_while cx.po hc hb) fun D s H ⟨as, r, h, f, x, o⟩ => ?_
  refine ⟨fun m s1 H1 => ∃ as1 r1 h1, RF X.K X.mg H1 as1 r1 s1 ∧ RH X.K X.mg H1 as1 h1 ∧ OutS X.K X.mg W as1 H1 D (whileL c B m r1 h1), ⟨LIM, as, r, h, f, x, o⟩, ?_⟩
  rintro m s1 H1 ⟨as1, r1, h1, f1, x1, o1⟩
  cases m with
  | zero => exact o1.elim
  | succ m =>
    refine ⟨as1, r1, h1, f1, x1, (outS_of f1 o1).imp fun d H2 ⟨as2, h2, p, S2, x2, e2, o2⟩ => ?_⟩
    obtain rfl : p = d := e2
    cases p with
    | false => exact o2 s1 H2 as2 (Stp.refl _ _) x2 (f1.mono S2)
    | true =>
      refine ⟨fun s3 H3 => ∃ as3 r3 h3, RF X.K X.mg H3 as3 r3 s3 ∧ RH X.K X.mg H3 as3 h3 ∧ OutS X.K X.mg W as3 H3 D (whileL c B m r3 h3), fun s3 H3 ⟨as3, r3, h3, f3, x3, o3⟩ => ⟨m, Nat.lt_succ_self m, as3, r3, h3, f3, x3, o3⟩, ?_⟩
      refine ⟨as2, r1, h2, f1.mono S2, x2, ?_⟩
      have o2' : OutS X.K X.mg W as2 H2 D (match B r1 h2 with
        | .nx r2 h2 => whileL c B m r2 h2
        | .ct r2 h2 => whileL c B m r2 h2
        | .bk r2 h2 => .nx r2 h2
        | o => o) := o2
      cases q : B r1 h2 with
      | nx r3 h3 => rw [q] at o2'; exact fun s' H' as' S' x' f' => ⟨as', r3, h3, f', x', o2'.shift S'⟩
      | ct r3 h3 => rw [q] at o2'; exact fun s' H' as' S' x' f' => ⟨as', r3, h3, f', x', o2'.shift S'⟩
      | bk r3 h3 => rw [q] at o2'; exact o2'
      | rt v h3 => rw [q] at o2'; exact o2'
      | ex z r3 h3 => rw [q] at o2'; exact o2'
      | bad => rw [q] at o2'; exact o2'
/-- the layer's walk J does what it says, from as, H on -/
def RI (K : PySem.W.Frag) (mg : Str → Option Value) (H : Hp) (as : List Addr) (it : ItF) (J : It) : Prop :=
  ∀ i as' H' h', Stp as H as' H' → RH K mg H' as' h' → match it i h' with
    | some (some v) => J.go i H' ∧ ∀ x H'', J.yld i H' x H'' → Stp as' H' as' H'' ∧ RH K mg H'' as' h' ∧ RP K mg H'' as' v x
    | some none => J.stop i H'
    | none => True
theorem RI.mono {K : PySem.W.Frag} {mg : Str → Option Value} {as as' : List Addr} {H H' : Hp} {it : ItF} {J : It} (S : Stp as H as' H') (q : RI K mg H as it J) : RI K mg H' as' it J := fun i a h z S' x => q i a h z (S.trans S') x
abbrev II (K : PySem.W.Frag) (mg : Str → Option Value) (W : WX) (A : Fm → IH → Res ItF) : TI := IG K mg (fun H as p v => RI K mg H as p v) W A
/-- a target -/
def GI (K : PySem.W.Frag) (mg : Str → Option Value) (g : TgF) : TG := fun v s H Q => ∃ as r p r1 h, RF K mg H as r s ∧ RH K mg H as h ∧ RP K mg H as p v ∧ g p r = some r1 ∧ ∀ s1, RF K mg H as r1 s1 → Q s1 H
theorem is_for {tg it : Expr} {body : List Stmt} {I : Fm → IH → Res ItF} {g : TgF} (cx : Ctx X W k) (hi : PI X tg it (II X.K X.mg W I)) (hg : PG X tg (GI X.K X.mg g)) (hb : PSs X body (IS X.K X.mg W B))
    (hs : ∀ x, foldedSetIterable it X.env x = pure x := by intro _; rfl) : PS X (.For tg it body [] pos) (IS X.K X.mg W (sFor I g B)) := by
  refine psImp (ps_for cx.po cx.calm hi hg hb hs) fun D s H ⟨as, r, h, f, x, o⟩ => ?_
  refine ⟨as, r, h, f, x, (outS_of f o).imp fun J H1 ⟨as1, h1, itf, S1, x1, ri, o1⟩ => ?_⟩
  refine ⟨fun i m s2 H2 => ∃ as2 r2 h2, RF X.K X.mg H2 as2 r2 s2 ∧ RH X.K X.mg H2 as2 h2 ∧ RI X.K X.mg H2 as2 itf J ∧ OutS X.K X.mg W as2 H2 D (forL itf g B m i r2 h2), ⟨LIM, as1, r, h1, f.mono S1, x1, ri, o1⟩, ?_⟩
  rintro i m s2 H2 ⟨as2, r2, h2, f2, x2, ri2, o2⟩
  cases m with
  | zero => exact o2.elim
  | succ m =>
    have z := ri2 i as2 H2 h2 (Stp.refl _ _) x2
    unfold forL at o2
    cases q : itf i h2 with
    | none => rw [q] at o2; exact o2.elim
    | some w =>
      rw [q] at z o2
      cases w with
      | none => exact .inl ⟨z, o2 s2 H2 as2 (Stp.refl _ _) x2 f2⟩
      | some v =>
        refine .inr ⟨z.1, fun s3 H3 => ∃ as3 r3 h3, RF X.K X.mg H3 as3 r3 s3 ∧ RH X.K X.mg H3 as3 h3 ∧ RI X.K X.mg H3 as3 itf J ∧ OutS X.K X.mg W as3 H3 D (forL itf g B m (i + 1) r3 h3),
          fun s3 H3 ⟨as3, r3, h3, f3, x3, ri3, o3⟩ => ⟨m, Nat.lt_succ_self m, as3, r3, h3, f3, x3, ri3, o3⟩, fun y H3 hy => ?_⟩
        obtain ⟨S3, x3, rv⟩ := z.2 y H3 hy
        have o2' : OutS X.K X.mg W as2 H2 D (match g v r2 with
          | none => .bad
          | some r1 => (match B r1 h2 with
            | .nx r2 h2 => forL itf g B m (i + 1) r2 h2
            | .ct r2 h2 => forL itf g B m (i + 1) r2 h2
            | .bk r2 h2 => .nx r2 h2
            | o => o)) := o2
        cases qg : g v r2 with
        | none => rw [qg] at o2'; exact o2'.elim
        | some r3 =>
          rw [qg] at o2'
          refine ⟨as2, r2, v, r3, h2, f2.mono S3, x3, rv, qg, fun s4 f4 => ⟨as2, r3, h2, f4, x3, ?_⟩⟩
          have o3 := OutS.shift S3 o2'
          cases qb : B r3 h2 with
          | nx r5 h5 => simp only [qb] at o3; exact fun s' H' as' S' x' f' => ⟨as', r5, h5, f', x', (ri2.mono S3).mono S', o3.shift S'⟩
          | ct r5 h5 => simp only [qb] at o3; exact fun s' H' as' S' x' f' => ⟨as', r5, h5, f', x', (ri2.mono S3).mono S', o3.shift S'⟩
          | bk r5 h5 => simp only [qb] at o3; exact o3
          | rt v h5 => simp only [qb] at o3; exact o3
          | ex z r5 h5 => simp only [qb] at o3; exact o3
          | bad => simp only [qb] at o3; exact o3

/-! ### targets -/
theorem pgImp {tg : Expr} {t t' : TG} (h : PG X tg t) (hi : ∀ v s H Q, t' v s H Q → t v s H Q) : PG X tg t' := ⟨fun pins s σ H v u Q I r q => h.run pins s σ H v u Q I r (hi v σ H Q q)⟩
theorem ig_name (i : Nat) {x : Str} (hN : X.N.Nodup) (hi : X.N[i]? = some x := by rfl) (hx : Loc X.env.scope x := by first | exact Or.inl rfl | exact Or.inr rfl) (hf : X.fn x = true ∨ X.env.scope.names.lookup x = some .local := by first | exact .inl rfl | exact .inr rfl | assumption) :
    PG X (.Name x pos) (GI X.K X.mg (gVar i)) := by
  refine pgImp (pg_name hN hi hx hf) fun v s H Q ⟨as, r, p, r1, h, f, x, rp, e, q⟩ => ?_
  cases e
  exact q _ (f.set rp)
/-- several names, one after the other -/
def GIs (K : PySem.W.Frag) (mg : Str → Option Value) (is : List Nat) : TGs := fun vs s H Q => ∃ as r ps r1, RF K mg H as r s ∧ RPs K mg H as ps vs ∧ setAll is ps r = some r1 ∧ ∀ s1, RF K mg H as r1 s1 → Q s1 H
theorem igs_nil : PGs X [] (GIs X.K X.mg []) := by
  refine ⟨fun pins s σ H vs us Q I r q => pgs_nil.run pins s σ H vs us Q I r ?_⟩
  obtain ⟨as, r, ps, r1, f, rp, e, q⟩ := q
  cases ps with
  | nil => cases rp; cases e; exact ⟨rfl, q _ f⟩
  | cons p ps => cases e
theorem igs_cons (i : Nat) {is : List Nat} {x : Str} (hN : X.N.Nodup) (h2 : PGs X es (GIs X.K X.mg is)) (hi : X.N[i]? = some x := by rfl) (hx : Loc X.env.scope x := by first | exact Or.inl rfl | exact Or.inr rfl) (hf : X.fn x = true ∨ X.env.scope.names.lookup x = some .local := by first | exact .inl rfl | exact .inr rfl | assumption)
    (hs : (assignEach (.Name x pos :: es) X.env).map (·.2) = assign (.Name x pos) X.env :: (assignEach es X.env).map (·.2) := by rfl) : PGs X (.Name x pos :: es) (GIs X.K X.mg (i :: is)) := by
  refine ⟨fun pins s σ H vs us Q I r q => (pgs_cons (pg_name (pos := pos) hN hi hx hf) h2 hs).run pins s σ H vs us Q I r ?_⟩
  obtain ⟨as, r, ps, r1, f, rp, e, q⟩ := q
  cases rp with
  | nil => cases e
  | cons a b => exact ⟨_, _, rfl, as, _, _, r1, f.set a, b, e, q⟩
theorem ig_tup {is : List Nat} {kk : Nat} (cx : Ctx X W k) (h : PGs X es (GIs X.K X.mg is)) (hl : is.length = es.length := by rfl) (hn : (assignEach es X.env).length = es.length := by rfl) (hst : (assignEach es X.env).findIdx? (·.1) = none := by rfl) :
    PG X (.Tuple es kk pos) (GI X.K X.mg (gTupF is)) := by
  refine pgImp (pg_tup cx.calm h hn hst) fun v s H Q ⟨as, r, p, r1, h, f, x, rp, e, q⟩ => ?_
  cases rp with
  | tup hs rs =>
    refine ⟨_, _, rfl, hs, ?_, as, r, _, r1, f, rs, e, q⟩
    rw [← rs.length, ← hl]
    have key : ∀ (is : List Nat) (ps : List PV) (r : Fm) (r1 : Fm), setAll is ps r = some r1 → ps.length = is.length := by
      intro is
      induction is with
      | nil => intro ps r r1 e; cases ps with
        | nil => rfl
        | cons _ _ => cases e
      | cons i is ih => intro ps r r1 e; cases ps with
        | nil => cases e
        | cons p ps => rw [List.length_cons, List.length_cons, ih ps _ _ e]
    exact key _ _ _ _ e
  | non => cases e
  | bl => cases e
  | int => cases e
  | str => cases e
  | fls => cases e
  | obj => cases e
  | glo => cases e
  | ty => cases e
  | key => cases e
/-- a, b = e, by a target -/
theorem is_asgT {tg : Expr} {g : TgF} (he : PE X e (IE X.K X.mg W A)) (hg : PG X tg (GI X.K X.mg g)) (hs : swapsWithSole [tg] e pos.line X.env = pure false := by rfl) (hw : swappedStores [tg] e X.env = pure none := by rfl)
    (h1 : (assignEach [tg] X.env).map (·.2) = [assign tg X.env] := by rfl) : PS X (.Assign [tg] e pos) (IS X.K X.mg W (sAsgT g A)) := by
  refine psImp (ps_asg he hg hs hw h1) fun D s H ⟨as, r, h, f, x, o⟩ => ?_
  refine ⟨as, r, h, f, x, (outS_of f o).imp fun V H1 ⟨as1, h1, p, S1, x1, r1, o1⟩ => ?_⟩
  cases qg : g p r with
  | none => simp only [qg] at o1; exact o1.elim
  | some r2 => simp only [qg] at o1; exact ⟨as1, r, p, r2, h1, f.mono S1, x1, r1, qg, fun s1 f1 => o1 s1 H1 as1 (Stp.refl _ _) x1 f1⟩

/-! ### calls of defs -/
/-- a def's promise, by its functional code -/
def SpF (K : PySem.W.Frag) (mg : Str → Option Value) (n : Nat) (F : List PV → IH → Res PV) : Sp := fun vs H Q E => ∃ as us h, us.length = n ∧ RPs K mg H as us vs ∧ RH K mg H as h ∧ Out K mg (fun H as p v => RP K mg H as p v) (fun c d _ H' => E c d H') [] as H Q (F us h)
theorem SpF.of {K : PySem.W.Frag} {mg : Str → Option Value} {n : Nat} {F : List PV → IH → Res PV} {s : L2.St} {us : List PV} {vs : List V} {as : List Addr} {H : Hp} {h : IH} {Q : VK} (x : RH K mg H as h) (rs : RPs K mg H as us vs) (hl : us.length = n)
    (o : Out K mg (fun H as p v => RP K mg H as p v) W s as H Q (F us h)) : SpF K mg n F vs H Q (WE W s) := by
  refine ⟨as, us, h, hl, rs, x, ?_⟩
  cases q : F us h with
  | ok a h1 => rw [q] at o; exact o
  | ex z h1 => rw [q] at o; exact o
  | bad => rw [q] at o; exact o
theorem ie_call {f : Addr} {fd : FuncData} {ps : List Str} {x : Str} {p : Pos} {F : List PV → IH → Res PV} {n : Nat} {j : Nat} (cx : Ctx X W k) (G : FnOk X.prog X.w X.K X.mg X.base (L2.CX X.prog X.w) j f fd ps (SpF X.K X.mg n F)) (hj : j ≤ k) (hm : X.mg x = some (.ref f)) (hk : PySem.W.keepIn X.K (.ref f) = true)
    (hb : Binds X.K fd ps []) (ha : PA X (e :: es) (IA X.K X.mg W L)) (hF : ∀ us h, us.length ≠ n → F us h = .bad) (hg : Gl X x := by rfl) (hdb : (x == ("__debug__" : Str)) = false := by decide) (he : starEach (e :: es) X.env = (false, eval e X.env) :: starEach es X.env := by rfl) (hpl : (backTo pos (starEach es X.env)).any (·.1) = false := by rfl) :
    PE X (.Call (.Name x p) (e :: es) [] pos) (IE X.K X.mg W (eCall F L)) := by
  refine peImp (pe_callS G (cx.room.mono hj) hg hm hk hb (fun s => passAt cx.tk s) ha hdb he hpl) fun s H Q ⟨as, r, h, f, x, o⟩ => ?_
  refine ⟨as, r, h, f, x, (Out.bind o).imp fun Vs H1 ⟨as1, h1, us, S1, x1, r1, o1⟩ => ?_⟩
  refine SpF.of x1 r1 ?_ o1
  by_cases hn : us.length = n
  · exact hn
  · rw [hF us h1 hn] at o1; exact o1.elim
theorem ie_call0 {f : Addr} {fd : FuncData} {ps : List Str} {x : Str} {p : Pos} {F : List PV → IH → Res PV} {j : Nat} (cx : Ctx X W k) (G : FnOk X.prog X.w X.K X.mg X.base (L2.CX X.prog X.w) j f fd ps (SpF X.K X.mg 0 F)) (hj : j ≤ k) (hm : X.mg x = some (.ref f)) (hk : PySem.W.keepIn X.K (.ref f) = true)
    (hb : Binds X.K fd ps []) (hg : Gl X x := by rfl) (hdb : (x == ("__debug__" : Str)) = false := by decide) :
    PE X (.Call (.Name x p) [] [] pos) (IE X.K X.mg W (eCall F aNil)) := by
  have base : PE X (.Call (.Name x p) [] [] pos) (tCallS (SpF X.K X.mg 0 F) (WE W) tNil) := by
    refine ⟨fun pins s σ H Q I h => ?_⟩
    refine wpAny_Call_Name_kw (ld_glob I hg hm ?_ hdb)
    exact PySem.W.callWith_K0 I.kIn hk (run_fnS (us := []) G (cx.room.mono hj) hb (passAt cx.tk σ) I .nil h)
  refine peImp base fun s H Q ⟨as, r, h, f, x, o⟩ => ?_
  exact SpF.of x RPs.nil rfl o
theorem fn_bad {ps n : Nat} {B : SX} (us : List PV) (h : IH) (hl : us.length ≠ ps) : fn ps n B us h = .bad := if_neg hl
end
/-- what a def wishes of exceptions -/
def WD (E : XK) : WX := fun c d _ H => E c d H
/-- a def by its body -/
theorem ok_of {P : Program} {w : World} {K : PySem.W.Frag} {mg : Str → Option Value} {base : Heap} {x qual : Str} {st : Stmt} {f : Addr} {fd : FuncData} {N ps : List Str} {k : Nat} {B : SX} (F : Fun K x qual st f fd) (S : FnScope N ps (defScope st)) (m : Nat) (hm : N.length = ps.length + m)
    (body : ∀ (cdv : Value) (A : Around) (outer : List Env) (s : Shared) (H : Hp) (E : XK), Ctx (cxOf (L2.CX P w) P w K mg base N qual (defScope st) f cdv A outer s H E) (WD E) k →
      PSs (cxOf (L2.CX P w) P w K mg base N qual (defScope st) f cdv A outer s H E) (defBody st) (IS K mg (WD E) B)) :
    FnOk P w K mg base (L2.CX P w) (k + 1) f fd ps (SpF K mg ps.length (fn ps.length m B)) := by
  refine F.okX S (fun vs H Q E h => ?_) (fun cdv A outer s H vs Q E hr h => ?_)
  · obtain ⟨as, us, h, hl, rs, _⟩ := h
    rw [← rs.length, hl]
  · obtain ⟨as, us, h, hl, rs, x, o⟩ := h
    refine ⟨_, body cdv A outer s H E ⟨takes_of rfl rfl rfl rfl, passes_of rfl, rfl, S.nd, hr⟩, ?_⟩
    refine ⟨as, us.map some ++ List.replicate m none, h, ⟨?_, fun i p e => ?_⟩, x, ?_⟩
    · unfold L2.start
      rw [List.length_append, List.length_append, List.length_map, List.length_map, List.length_replicate, List.length_replicate, rs.length]
      have := rs.length
      omega
    · by_cases hi : i < us.length
      · rw [List.getElem?_append_left (by simpa using hi), List.getElem?_map] at e
        cases q : us[i]? with
        | none => rw [q] at e; cases e
        | some p' =>
          rw [q] at e
          cases e
          obtain ⟨v, h1, h2⟩ := rs.get q
          refine ⟨v, ?_, h2⟩
          unfold L2.start
          rw [List.getElem?_append_left (by rw [List.length_map, ← rs.length]; exact hi), List.getElem?_map, h1]
          rfl
      · rw [List.getElem?_append_right (by simpa using hi), List.getElem?_replicate] at e
        split at e <;> cases e
    · unfold fn at o
      rw [if_pos hl] at o
      cases q : B (us.map some ++ List.replicate m none) h with
      | nx r1 h1 => rw [q] at o; exact fun s' H' as' S' x' f' => o .non H' as' S' x' .non
      | rt v h1 => rw [q] at o; exact o
      | ex z r1 h1 => rw [q] at o; exact fun c d s' H' as' S' x' f' rx => o c d H' as' S' x' rx
      | bk r1 h1 => rw [q] at o; exact (show False from o).elim
      | ct r1 h1 => rw [q] at o; exact (show False from o).elim
      | bad => rw [q] at o; exact o
end WR

/-! operators, tests, displays, subscripts, built-ins -/
namespace WR
open PySem PySem.Spec PyProof.Rows L2

/-! ### the code -/
@[simp] def eOp (p : PV → PV → IH → Res PV) (A B : EX) : EX := fun r h => (A r h).bind fun x h1 => (B r h1).bind fun y h2 => p x y h2
@[simp] def eUn (p : PV → IH → Res PV) (A : EX) : EX := fun r h => (A r h).bind p
@[simp] def eB (p : List PV → IH → Res PV) (L : AX) : EX := fun r h => (L r h).bind p
@[simp] def opt {α : Type} (o : Option α) (h : IH) : Res α := match o with
  | some a => .ok a h
  | none => .bad
@[simp] def mkL (xs : List PV) (h : IH) : Res PV := if xs.length ≤ 16777216 then .ok (.obj h.length) (h ++ [.lst xs]) else .bad
@[simp] def pAdd : PV → PV → IH → Res PV
  | .int i, .int j, h => .ok (.int (i + j)) h
  | .str a, .str b, h => if a.length + b.length ≤ 16777216 then .ok (.str (a ++ b)) h else .bad
  | .tup xs, .tup ys, h => if xs.length + ys.length ≤ 16777216 then .ok (.tup (xs ++ ys)) h else .bad
  | .obj m, .obj n, h => (match h[m]?, h[n]? with
    | some (.lst xs), some (.lst ys) => if xs.length + ys.length ≤ 16777216 then .ok (.obj h.length) (h ++ [.lst (xs ++ ys)]) else .bad
    | _, _ => .bad)
  | _, _, _ => .bad
@[simp] def pSub : PV → PV → IH → Res PV
  | .int i, .int j, h => .ok (.int (i - j)) h
  | _, _, _ => .bad
def mulOk (i j : Int) : Bool := decide (i.natAbs < 18446744073709551616) || decide (j.natAbs < 18446744073709551616) || decide (i.natAbs.log2 + j.natAbs.log2 < 1000000)
@[simp] def pMul : PV → PV → IH → Res PV
  | .int i, .int j, h => if mulOk i j then .ok (.int (i * j)) h else .bad
  | _, _, _ => .bad
@[simp] def pDiv : PV → PV → IH → Res PV
  | .int i, .int j, h => if 0 < j ∧ j.natAbs.log2 < 9000 then .ok (.int (i / j)) h else .bad
  | _, _, _ => .bad
@[simp] def pMod : PV → PV → IH → Res PV
  | .int i, .int j, h => if 0 < j then .ok (.int (i % j)) h else .bad
  | _, _, _ => .bad
@[simp] def pPow : PV → PV → IH → Res PV
  | .int i, .int j, h => if 0 ≤ j ∧ j ≤ 1000000 ∧ i.natAbs < 18446744073709551616 then .ok (.int (i ^ j.toNat)) h else .bad
  | _, _, _ => .bad
@[simp] def pNeg : PV → IH → Res PV
  | .int i, h => .ok (.int (-i)) h
  | _, _ => .bad
@[simp] def pCI (f : Int → Int → Bool) : PV → PV → IH → Res PV
  | .int i, .int j, h => .ok (.bl (f i j)) h
  | _, _, _ => .bad
abbrev pLt := pCI fun i j => decide (i < j)
abbrev pLe := pCI fun i j => decide (i ≤ j)
abbrev pGt := pCI fun i j => decide (j < i)
abbrev pGe := pCI fun i j => decide (j ≤ i)
@[simp] def isN : PV → Bool
  | .non => true
  | _ => false
@[simp] def pIsN : PV → PV → IH → Res PV
  | x, .non, h => (match x with
    | .glo _ => .bad
    | _ => .ok (.bl (isN x)) h)
  | _, _, _ => .bad
@[simp] def pNotN : PV → PV → IH → Res PV
  | x, .non, h => (match x with
    | .glo _ => .bad
    | _ => .ok (.bl (!isN x)) h)
  | _, _, _ => .bad
/-- data as the library has it -/
def optAll {α β : Type} (f : α → Option β) : List α → Option (List β)
  | [] => some []
  | x :: xs => (match f x, optAll f xs with
    | some y, some ys => some (y :: ys)
    | _, _ => none)
def dataOf : Nat → IH → PV → Option PyData
  | _, _, .non => some .none
  | _, _, .bl b => some (.bool b)
  | _, _, .int i => some (.int i)
  | _, _, .str x => some (.str x)
  | n + 1, h, .tup xs => (optAll (dataOf n h) xs).map .tuple
  | n + 1, h, .fls xs => (optAll (dataOf n h) xs).map .list
  | n + 1, h, .obj k => (match h[k]? with
    | some (.lst xs) => (optAll (dataOf n h) xs).map .list
    | _ => none)
  | _, _, _ => none
def DEP : Nat := 12
def pEqB (x y : PV) (h : IH) : Option Bool := match dataOf DEP h x, dataOf DEP h y with
  | some d, some e => if SeqAt.shaped d && SeqAt.shaped e then some (PyData.eqv d e) else none
  | _, _ => none
@[simp] def pEq (x y : PV) (h : IH) : Res PV := opt ((pEqB x y h).map .bl) h
@[simp] def pNe (x y : PV) (h : IH) : Res PV := opt ((pEqB x y h).map fun b => .bl (!b)) h
@[simp] def pIdx : PV → PV → IH → Res PV
  | .tup xs, .int i, h => opt (atI xs i) h
  | .fls xs, .int i, h => opt (atI xs i) h
  | .str z, .int i, h => if z.length ≤ 16777216 then opt ((atI z.cps.toList i).map fun c => .str ⟨#[c]⟩) h else .bad
  | .obj n, .int i, h => (match h[n]? with
    | some (.lst xs) => opt (atI xs i) h
    | _ => .bad)
  | _, _, _ => .bad
def cutA {α : Type} (xs : List α) (lo hi : Option Int) : List α := (xs.drop (HT.sIx xs.length 0 lo)).take (HT.sIx xs.length xs.length hi - HT.sIx xs.length 0 lo)
abbrev OX := Fm → IH → Res (Option Int)
@[simp] def oNone : OX := fun _ h => .ok none h
@[simp] def oSome (A : EX) : OX := fun r h => (A r h).bind fun v h1 => match v with
  | .int i => .ok (some i) h1
  | _ => .bad
@[simp] def pSl : PV → Option Int → Option Int → IH → Res PV
  | .tup xs, lo, hi, h => .ok (.tup (cutA xs lo hi)) h
  | .obj n, lo, hi, h => (match h[n]? with
    | some (.lst xs) => .ok (.obj h.length) (h ++ [.lst (cutA xs lo hi)])
    | _ => .bad)
  | _, _, _, _ => .bad
@[simp] def eSl (A : EX) (l u : OX) : EX := fun r h => (A r h).bind fun x h1 => (l r h1).bind fun lo h2 => (u r h2).bind fun hi h3 => pSl x lo hi h3
@[simp] def eTup (L : AX) : EX := fun r h => (L r h).bind fun xs h1 => if xs.length ≤ 16777216 then .ok (.tup xs) h1 else .bad
@[simp] def eLst (L : AX) : EX := fun r h => (L r h).bind mkL
@[simp] def pTru : PV → IH → Option Bool
  | .non, _ => some false
  | .bl b, _ => some b
  | .int i, _ => some (i != 0)
  | .str y, _ => if y.length ≤ 16777216 then some ((y.length : Int) != 0) else none
  | .tup xs, _ => some !xs.isEmpty
  | .fls xs, _ => some !xs.isEmpty
  | .obj n, h => (match h[n]? with
    | some (.lst xs) => some !xs.isEmpty
    | _ => none)
  | _, _ => none
@[simp] def tTru (A : EX) : TX := fun r h => (A r h).bind fun v h1 => opt (pTru v h1) h1
@[simp] def tBl (A : EX) : TX := fun r h => (A r h).bind fun v h1 => match v with
  | .bl b => .ok b h1
  | _ => .bad
@[simp] def tAndX (c d : TX) : TX := fun r h => (c r h).bind fun b h1 => if b then d r h1 else .ok false h1
@[simp] def tOrX (c d : TX) : TX := fun r h => (c r h).bind fun b h1 => if b then .ok true h1 else d r h1
@[simp] def tNotX (c : TX) : TX := fun r h => (c r h).bind fun b h1 => .ok (!b) h1
@[simp] def eAnd (A B : EX) : EX := fun r h => (A r h).bind fun v h1 => match v with
  | .bl b => if b then B r h1 else .ok (.bl false) h1
  | _ => .bad
@[simp] def eOr (A B : EX) : EX := fun r h => (A r h).bind fun v h1 => match v with
  | .bl b => if b then .ok (.bl true) h1 else B r h1
  | _ => .bad
@[simp] def eNot (A : EX) : EX := fun r h => (A r h).bind fun v h1 => opt ((pTru v h1).map fun b => .bl (!b)) h1
@[simp] def eIf (c : TX) (A B : EX) : EX := fun r h => (c r h).bind fun b h1 => if b then A r h1 else B r h1
@[simp] def eChain (p q : PV → PV → IH → Res PV) (A B C : EX) : EX := fun r h => (A r h).bind fun x h1 => (B r h1).bind fun y h2 => (p x y h2).bind fun v h3 => match v with
  | .bl b => if b then (C r h3).bind fun z h4 => q y z h4 else .ok (.bl false) h3
  | _ => .bad

/-! ### what each asks of the layer -/
section
variable {X : Cx} {W : WX} {k : Nat} {a b e : Expr} {es : List Expr} {pos : Pos} {A B C : EX} {L : AX} {c d : TX}
def Snd (K : PySem.W.Frag) (mg : Str → Option Value) (p : PV → PV → IH → Res PV) (r : R2) : Prop :=
  ∀ {W : WX} {s : L2.St} {as : List Addr} {H : Hp} {h : IH} {x y : PV} {U V : V} {Q : VK}, RH K mg H as h → RP K mg H as x U → RP K mg H as y V → Out K mg (fun H as p v => RP K mg H as p v) W s as H Q (p x y h) → r U V H Q
def SndC (K : PySem.W.Frag) (mg : Str → Option Value) (p : List PV → IH → Res PV) (r : List V → Hp → VK → Prop) : Prop :=
  ∀ {W : WX} {s : L2.St} {as : List Addr} {H : Hp} {h : IH} {xs : List PV} {Us : List V} {Q : VK}, RH K mg H as h → RPs K mg H as xs Us → Out K mg (fun H as p v => RP K mg H as p v) W s as H Q (p xs h) → r Us H Q
theorem tOp_of {p : PV → PV → IH → Res PV} {r : R2} {ta tb : TE} (hp : Snd X.K X.mg p r) {s : L2.St} {H : Hp} {Q : VK} (h : IE X.K X.mg W (eOp p A B) s H Q) : tOp r (IE X.K X.mg W A) (IE X.K X.mg W B) s H Q := by
  obtain ⟨as, ρ, hh, f, x, o⟩ := h
  refine ⟨as, ρ, hh, f, x, (Out.bind o).imp fun V H1 ⟨as1, h1, p1, S1, x1, r1, o1⟩ => ?_⟩
  refine ⟨as1, ρ, h1, f.mono S1, x1, (Out.bind o1).imp fun U H2 ⟨as2, h2, p2, S2, x2, r2, o2⟩ => ?_⟩
  exact hp x2 (r1.mono S2) r2 o2
theorem ie_op {op : Operator} {p : PV → PV → IH → Res PV} {r : R2} (ho : OpR X (binaryOp op) r) (hp : Snd X.K X.mg p r) (ha : PE X a (IE X.K X.mg W A)) (hb : PE X b (IE X.K X.mg W B)) : PE X (.BinOp a op b pos) (IE X.K X.mg W (eOp p A B)) :=
  peImp (pe_op ho ha hb) fun _ _ _ h => tOp_of (ta := IE X.K X.mg W A) (tb := IE X.K X.mg W B) hp h
theorem ie_cmp {op : CmpOp} {p : PV → PV → IH → Res PV} {r : R2} (ho : OpR X (compareOp op) r) (hp : Snd X.K X.mg p r) (ha : PE X a (IE X.K X.mg W A)) (hb : PE X b (IE X.K X.mg W B)) (hm : behindInMarks op b = false) : PE X (.Compare a [op] [b] pos) (IE X.K X.mg W (eOp p A B)) :=
  peImp (pe_cmpR ho ha hb hm) fun _ _ _ h => tOp_of (ta := IE X.K X.mg W A) (tb := IE X.K X.mg W B) hp h
theorem tTest_of {t : TE} {s : L2.St} {H : Hp} {Q : Bool → Hp → Prop} (ht : ∀ Q', IE X.K X.mg W A s H Q' → t s H Q') (h : IT X.K X.mg W (tBl A) s H Q) : tTest t s H Q := by
  obtain ⟨as, ρ, hh, f, x, o⟩ := h
  refine ht _ ⟨as, ρ, hh, f, x, (Out.bind o).imp fun V H1 ⟨as1, h1, p1, S1, x1, r1, o1⟩ => ?_⟩
  cases r1 with
  | bl q => exact ⟨q, rfl, o1.here x1 rfl⟩
  | non => exact o1.elim
  | int => exact o1.elim
  | str => exact o1.elim
  | tup => exact o1.elim
  | fls => exact o1.elim
  | obj => exact o1.elim
  | glo => exact o1.elim
  | ty => exact o1.elim
  | key => exact o1.elim
theorem it_cmp {op : CmpOp} {p : PV → PV → IH → Res PV} {r : R2} (ho : OpR X (compareOp op) r) (hp : Snd X.K X.mg p r) (ha : PE X a (IE X.K X.mg W A)) (hb : PE X b (IE X.K X.mg W B)) (hm : behindInMarks op b = false) : PT X (.Compare a [op] [b] pos) (IT X.K X.mg W (tBl (eOp p A B))) :=
  ptImp (pt_cmpR ho ha hb hm) fun _ _ _ h => tTest_of (fun Q' h => tOp_of (ta := IE X.K X.mg W A) (tb := IE X.K X.mg W B) hp h) h
theorem tru_of {v : PV} {V : V} {as : List Addr} {H : Hp} {h : IH} {q : Bool} (x : RH X.K X.mg H as h) (r : RP X.K X.mg H as v V) (e : pTru v h = some q) : TruV X.K V H q := by
  cases r with
  | non => cases e; rfl
  | bl b => cases e; rfl
  | int i => cases e; rfl
  | str y =>
    simp only [pTru] at e
    split at e
    · rename_i hl
      cases e
      exact ⟨by rw [sizeLine_eq]; exact hl, rfl⟩
    · cases e
  | tup hs rs =>
    cases e
    refine .inr (.inl ⟨_, hs, ?_⟩)
    cases rs <;> rfl
  | fls hs rs =>
    cases e
    refine .inl ⟨_, hs.sq, ?_⟩
    cases rs <;> rfl
  | obj ha =>
    simp only [pTru] at e
    split at e
    · rename_i xs hx
      obtain ⟨a, h1, ys, h2, rs⟩ := x.at_ _ _ hx
      rw [ha] at h1; cases h1
      cases e
      refine .inl ⟨_, SqL.of h2, ?_⟩
      cases rs <;> rfl
    · cases e
  | glo => cases e
  | ty => cases e
  | key => cases e
theorem it_tru (ha : PE X a (IE X.K X.mg W A)) (he : ∀ whole, isTrue a X.env whole = (do let v ← whole; standAt a.pos; holding [v] (truthy v)) := by intro _; rfl) : PT X a (IT X.K X.mg W (tTru A)) := by
  refine ptImp (pt_truth ha he) fun s H Q ⟨as, ρ, hh, f, x, o⟩ => ?_
  refine ⟨as, ρ, hh, f, x, (Out.bind o).imp fun V H1 ⟨as1, h1, p1, S1, x1, r1, o1⟩ => ?_⟩
  cases q : pTru p1 h1 with
  | none => rw [q] at o1; exact o1.elim
  | some z => rw [q] at o1; exact ⟨z, tru_of x1 r1 q, o1.here x1 rfl⟩
theorem it_not (ha : PT X a (IT X.K X.mg W c)) : PT X (.UnaryOp .Not a pos) (IT X.K X.mg W (tNotX c)) := by
  refine ptImp (pt_not ha) fun s H Q ⟨as, ρ, hh, f, x, o⟩ => ?_
  refine ⟨as, ρ, hh, f, x, (Out.bind o).imp fun V H1 ⟨as1, h1, p1, S1, x1, r1, o1⟩ => ?_⟩
  obtain rfl : p1 = V := r1
  exact o1.here x1 rfl
/-- and, or as tests: lists of at least two -/
theorem iw_and1 (ha : PT X a (IT X.K X.mg W c)) : PW X (.BoolOp .And [a] pos) (IT X.K X.mg W c) := pw_and1 ha
theorem iw_or1 (ha : PT X a (IT X.K X.mg W c)) : PW X (.BoolOp .Or [a] pos) (IT X.K X.mg W c) := pw_or1 ha
theorem pwImp {t t' : TT} (h : PW X e t) (hi : ∀ s H Q, t' s H Q → t s H Q) : PW X e t' := ⟨fun wh pins s σ H Q I q => h.run wh pins s σ H Q I (hi σ H Q q)⟩
theorem iw_and {rest : List Expr} (ha : PT X a (IT X.K X.mg W c)) (hb : PW X (.BoolOp .And (b :: rest) pos) (IT X.K X.mg W d)) : PW X (.BoolOp .And (a :: b :: rest) pos) (IT X.K X.mg W (tAndX c d)) := by
  refine pwImp (pw_and ha hb) fun s H Q ⟨as, ρ, hh, f, x, o⟩ => ?_
  refine ⟨as, ρ, hh, f, x, (Out.bind o).imp fun V H1 ⟨as1, h1, p1, S1, x1, r1, o1⟩ => ?_⟩
  obtain rfl : p1 = V := r1
  cases p1 with
  | true => exact ⟨as1, ρ, h1, f.mono S1, x1, o1⟩
  | false => exact o1.here x1 rfl
theorem iw_or {rest : List Expr} (ha : PT X a (IT X.K X.mg W c)) (hb : PW X (.BoolOp .Or (b :: rest) pos) (IT X.K X.mg W d)) : PW X (.BoolOp .Or (a :: b :: rest) pos) (IT X.K X.mg W (tOrX c d)) := by
  refine pwImp (pw_or ha hb) fun s H Q ⟨as, ρ, hh, f, x, o⟩ => ?_
  refine ⟨as, ρ, hh, f, x, (Out.bind o).imp fun V H1 ⟨as1, h1, p1, S1, x1, r1, o1⟩ => ?_⟩
  obtain rfl : p1 = V := r1
  cases p1 with
  | false => exact ⟨as1, ρ, h1, f.mono S1, x1, o1⟩
  | true => exact o1.here x1 rfl
theorem ie_one {op} (h : PE X a (IE X.K X.mg W A)) : PE X (.BoolOp op [a] pos) (IE X.K X.mg W A) := pe_one h
theorem ie_and {rest : List Expr} (ha : PE X a (IE X.K X.mg W A)) (hb : PE X (.BoolOp .And (b :: rest) pos) (IE X.K X.mg W B)) : PE X (.BoolOp .And (a :: b :: rest) pos) (IE X.K X.mg W (eAnd A B)) := by
  refine peImp (pe_and ha hb) fun s H Q ⟨as, ρ, hh, f, x, o⟩ => ?_
  refine ⟨as, ρ, hh, f, x, (Out.bind o).imp fun V H1 ⟨as1, h1, p1, S1, x1, r1, o1⟩ => ?_⟩
  cases r1 with
  | bl q =>
    refine ⟨q, rfl, ?_⟩
    cases q with
    | true => exact ⟨as1, ρ, h1, f.mono S1, x1, o1⟩
    | false => exact o1.here x1 (.bl false)
  | non => exact o1.elim
  | int => exact o1.elim
  | str => exact o1.elim
  | tup => exact o1.elim
  | fls => exact o1.elim
  | obj => exact o1.elim
  | glo => exact o1.elim
  | ty => exact o1.elim
  | key => exact o1.elim
theorem ie_or {rest : List Expr} (ha : PE X a (IE X.K X.mg W A)) (hb : PE X (.BoolOp .Or (b :: rest) pos) (IE X.K X.mg W B)) : PE X (.BoolOp .Or (a :: b :: rest) pos) (IE X.K X.mg W (eOr A B)) := by
  refine peImp (pe_or ha hb) fun s H Q ⟨as, ρ, hh, f, x, o⟩ => ?_
  refine ⟨as, ρ, hh, f, x, (Out.bind o).imp fun V H1 ⟨as1, h1, p1, S1, x1, r1, o1⟩ => ?_⟩
  cases r1 with
  | bl q =>
    refine ⟨q, rfl, ?_⟩
    cases q with
    | false => exact ⟨as1, ρ, h1, f.mono S1, x1, o1⟩
    | true => exact o1.here x1 (.bl true)
  | non => exact o1.elim
  | int => exact o1.elim
  | str => exact o1.elim
  | tup => exact o1.elim
  | fls => exact o1.elim
  | obj => exact o1.elim
  | glo => exact o1.elim
  | ty => exact o1.elim
  | key => exact o1.elim
theorem ie_not (ha : PE X a (IE X.K X.mg W A)) : PE X (.UnaryOp .Not a pos) (IE X.K X.mg W (eNot A)) := by
  refine peImp (pe_notT ha) fun s H Q ⟨as, ρ, hh, f, x, o⟩ => ?_
  refine ⟨as, ρ, hh, f, x, (Out.bind o).imp fun V H1 ⟨as1, h1, p1, S1, x1, r1, o1⟩ => ?_⟩
  cases q : pTru p1 h1 with
  | none => rw [q] at o1; exact o1.elim
  | some z => rw [q] at o1; exact ⟨z, tru_of x1 r1 q, o1.here x1 (.bl _)⟩
theorem ie_if (hc : PT X e (IT X.K X.mg W c)) (ha : PE X a (IE X.K X.mg W A)) (hb : PE X b (IE X.K X.mg W B)) : PE X (.IfExp e a b pos) (IE X.K X.mg W (eIf c A B)) := by
  refine peImp (pe_ifExp hc ha hb) fun s H Q ⟨as, ρ, hh, f, x, o⟩ => ?_
  refine ⟨as, ρ, hh, f, x, (Out.bind o).imp fun V H1 ⟨as1, h1, p1, S1, x1, r1, o1⟩ => ?_⟩
  obtain rfl : p1 = V := r1
  cases p1 with
  | true => exact ⟨as1, ρ, h1, f.mono S1, x1, o1⟩
  | false => exact ⟨as1, ρ, h1, f.mono S1, x1, o1⟩
/-! ### the numbers -/
theorem snd_add {K : PySem.W.Frag} {mg : Str → Option Value} : Snd K mg pAdd (fun x y H Q => (rI0 fun i j => .int (i + j)) x y H Q ∨ (∃ i j, x = .str i ∧ y = .str j ∧ i.length + j.length ≤ sizeLine ∧ Q (.str (i ++ j)) H) ∨ rCatA K x y H Q ∨ rCat x y H Q) := by
  intro W s as H h x y U V Q rh rx ry o
  unfold pAdd at o
  split at o
  · cases rx; cases ry; exact .inl ⟨_, _, rfl, rfl, o.here rh (.int _)⟩
  · cases rx; cases ry
    split at o
    · rename_i hl
      exact .inr (.inl ⟨_, _, rfl, rfl, by rw [sizeLine_eq]; exact hl, o.here rh (.str _)⟩)
    · exact o.elim
  · split at o
    · rename_i hl
      cases rx with
      | tup h1 r1 =>
        cases ry with
        | tup h2 r2 =>
          refine .inr (.inr (.inl ⟨_, _, _, _, rfl, rfl, h1, h2, by rw [sizeLine_eq, ← r1.length, ← r2.length]; exact hl, fun e => ?_, fun _ e => ?_, fun _ _ p np => ?_⟩))
          · subst e
            cases r1
            exact o.here rh (.tup h2 r2)
          · subst e
            cases r2
            rw [List.append_nil] at o
            exact o.here rh (.tup h1 r1)
          · exact o _ _ as (Stp.lay rh np) (rh.lay np) (.tup (SqT.of upd_same) ((r1.append r2).mono (Stp.lay rh np)))
    · exact o.elim
  · cases rx with
    | obj ha =>
      cases ry with
      | obj hb =>
        split at o
        · rename_i xs ys hx hy
          split at o
          · rename_i hl
            obtain ⟨a1, e1, us, g1, r1⟩ := rh.at_ _ _ hx
            obtain ⟨a2, e2, ws, g2, r2⟩ := rh.at_ _ _ hy
            rw [ha] at e1; cases e1
            rw [hb] at e2; cases e2
            refine .inr (.inr (.inr ⟨_, _, us, ws, rfl, rfl, g1, g2, by rw [sizeLine_eq, ← r1.length, ← r2.length]; exact hl, fun p np => ?_⟩))
            have S := Stp.new (o := .lst (us ++ ws)) rh np
            refine o _ _ _ S (rh.new np ⟨_, upd_same, (r1.append r2).mono S⟩) (.obj ?_)
            rw [List.getElem?_append_right (by rw [rh.len]; exact Nat.le_refl _), rh.len, Nat.sub_self]
            rfl
          · exact o.elim
        · exact o.elim
  · exact o.elim
theorem snd_sub {K : PySem.W.Frag} {mg : Str → Option Value} : Snd K mg pSub (rI0 fun i j => .int (i - j)) := by
  intro W s as H h x y U V Q rh rx ry o
  unfold pSub at o
  split at o
  · cases rx; cases ry; exact ⟨_, _, rfl, rfl, o.here rh (.int _)⟩
  · exact o.elim
theorem CMul.of {i : Int} (h : i.natAbs < 18446744073709551616) : -(2 ^ 64) < i ∧ i < 2 ^ 64 := by
  have e : (2 : Int) ^ 64 = 18446744073709551616 := by decide
  rw [e]
  omega
theorem snd_mul {K : PySem.W.Frag} {mg : Str → Option Value} : Snd K mg pMul (fun x y H Q => (rI CMul fun i j => .int (i * j)) x y H Q ∨ (rI CMulW fun i j => .int (i * j)) x y H Q) := by
  intro W s as H h x y U V Q rh rx ry o
  unfold pMul at o
  split at o
  · cases rx; cases ry
    split at o
    · rename_i i j hm
      have q := o.here rh (.int (i * j))
      unfold mulOk at hm
      rcases Bool.or_eq_true_iff.mp hm with hm | hm
      · rcases Bool.or_eq_true_iff.mp hm with hm | hm
        · exact .inl ⟨_, _, rfl, rfl, .inl (CMul.of (of_decide_eq_true hm)), q⟩
        · exact .inl ⟨_, _, rfl, rfl, .inr (CMul.of (of_decide_eq_true hm)), q⟩
      · have hm' : i.natAbs.log2 + j.natAbs.log2 < 1000000 := of_decide_eq_true hm
        exact .inr ⟨_, _, rfl, rfl, hm', q⟩
    · exact o.elim
  · exact o.elim
theorem snd_div {K : PySem.W.Frag} {mg : Str → Option Value} : Snd K mg pDiv (rI CDivW fun i j => .int (i / j)) := by
  intro W s as H h x y U V Q rh rx ry o
  unfold pDiv at o
  split at o
  · cases rx; cases ry
    split at o
    · rename_i hm
      exact ⟨_, _, rfl, rfl, hm, o.here rh (.int _)⟩
    · exact o.elim
  · exact o.elim
theorem snd_mod {K : PySem.W.Frag} {mg : Str → Option Value} : Snd K mg pMod (rI (fun _ j => 0 < j) fun i j => .int (i % j)) := by
  intro W s as H h x y U V Q rh rx ry o
  unfold pMod at o
  split at o
  · cases rx; cases ry
    split at o
    · rename_i hm
      exact ⟨_, _, rfl, rfl, hm, o.here rh (.int _)⟩
    · exact o.elim
  · exact o.elim
theorem snd_pow {K : PySem.W.Frag} {mg : Str → Option Value} : Snd K mg pPow (rI CPow fun i j => .int (i ^ j.toNat)) := by
  intro W s as H h x y U V Q rh rx ry o
  unfold pPow at o
  split at o
  · cases rx; cases ry
    split at o
    · rename_i hm
      exact ⟨_, _, rfl, rfl, hm, o.here rh (.int _)⟩
    · exact o.elim
  · exact o.elim
theorem ie_add (ha : PE X a (IE X.K X.mg W A)) (hb : PE X b (IE X.K X.mg W B)) : PE X (.BinOp a .Add b pos) (IE X.K X.mg W (eOp pAdd A B)) := ie_op (op_add.or (op_add_str.or (op_catA.or op_cat))) snd_add ha hb
theorem ie_sub (ha : PE X a (IE X.K X.mg W A)) (hb : PE X b (IE X.K X.mg W B)) : PE X (.BinOp a .Sub b pos) (IE X.K X.mg W (eOp pSub A B)) := ie_op op_sub snd_sub ha hb
theorem ie_mul (ha : PE X a (IE X.K X.mg W A)) (hb : PE X b (IE X.K X.mg W B)) : PE X (.BinOp a .Mult b pos) (IE X.K X.mg W (eOp pMul A B)) := ie_op (op_mul.or op_mulW) snd_mul ha hb
theorem ie_div (ha : PE X a (IE X.K X.mg W A)) (hb : PE X b (IE X.K X.mg W B)) : PE X (.BinOp a .FloorDiv b pos) (IE X.K X.mg W (eOp pDiv A B)) := ie_op op_fdivW snd_div ha hb
theorem ie_mod (ha : PE X a (IE X.K X.mg W A)) (hb : PE X b (IE X.K X.mg W B)) : PE X (.BinOp a .Mod b pos) (IE X.K X.mg W (eOp pMod A B)) := ie_op op_mod snd_mod ha hb
theorem ie_pow (ha : PE X a (IE X.K X.mg W A)) (hb : PE X b (IE X.K X.mg W B)) : PE X (.BinOp a .Pow b pos) (IE X.K X.mg W (eOp pPow A B)) := ie_op op_pow snd_pow ha hb
theorem ie_neg (ha : PE X a (IE X.K X.mg W A)) : PE X (.UnaryOp .USub a pos) (IE X.K X.mg W (eUn pNeg A)) := by
  refine peImp (pe_un un_neg ha) fun s H Q ⟨as, ρ, hh, f, x, o⟩ => ?_
  refine ⟨as, ρ, hh, f, x, (Out.bind o).imp fun V H1 ⟨as1, h1, p1, S1, x1, r1, o1⟩ => ?_⟩
  unfold pNeg at o1
  split at o1
  · cases r1; exact ⟨_, rfl, o1.here x1 (.int _)⟩
  · exact o1.elim
theorem snd_ci {K : PySem.W.Frag} {mg : Str → Option Value} {g : Int → Int → Bool} : Snd K mg (pCI g) (rI0 fun i j => .bl (g i j)) := by
  intro W s as H h x y U V Q rh rx ry o
  unfold pCI at o
  split at o
  · cases rx; cases ry; exact ⟨_, _, rfl, rfl, o.here rh (.bl _)⟩
  · exact o.elim
theorem isN_of {K : PySem.W.Frag} {mg : Str → Option Value} {as : List Addr} {H : Hp} {x : PV} {U : V} (r : RP K mg H as x U) (hg : ∀ z, x ≠ .glo z) : isN x = decide (U = .non) := by
  cases r with
  | glo => exact absurd rfl (hg _)
  | _ => rfl
theorem snd_isn {K : PySem.W.Frag} {mg : Str → Option Value} : Snd K mg pIsN (fun x y H Q => y = .non ∧ Q (.bl (decide (x = .non))) H) := by
  intro W s as H h x y U V Q rh rx ry o
  unfold pIsN at o
  split at o
  · cases ry
    split at o
    · exact o.elim
    · rename_i hg
      refine ⟨rfl, ?_⟩
      rw [← isN_of rx fun z e => hg z e]
      exact o.here rh (.bl _)
  · exact o.elim
theorem snd_notn {K : PySem.W.Frag} {mg : Str → Option Value} : Snd K mg pNotN (fun x y H Q => y = .non ∧ Q (.bl (!decide (x = .non))) H) := by
  intro W s as H h x y U V Q rh rx ry o
  unfold pNotN at o
  split at o
  · cases ry
    split at o
    · exact o.elim
    · rename_i hg
      refine ⟨rfl, ?_⟩
      rw [← isN_of rx fun z e => hg z e]
      exact o.here rh (.bl _)
  · exact o.elim
/-! ### data -/
theorem dpAll {K : PySem.W.Frag} {mg : Str → Option Value} {as : List Addr} {H : Hp} {g : PV → Option PyData} (hg : ∀ p v d, RP K mg H as p v → g p = some d → Dp K H v d) : ∀ {ps : List PV} {vs : List V} {ds : List PyData}, RPs K mg H as ps vs → optAll g ps = some ds → DpAll K H vs ds := by
  intro ps
  induction ps with
  | nil => intro vs ds r e; cases r; cases e; exact .nil
  | cons p ps ih =>
    intro vs ds r e
    cases r with
    | cons a b =>
      unfold optAll at e
      split at e
      · rename_i y ys e1 e2
        cases e
        exact .cons (hg _ _ _ a e1) (ih b e2)
      · cases e
theorem dp_of {K : PySem.W.Frag} {mg : Str → Option Value} {as : List Addr} {H : Hp} {h : IH} (x : RH K mg H as h) : ∀ (n : Nat) (p : PV) (v : V) (d : PyData), RP K mg H as p v → dataOf n h p = some d → Dp K H v d := by
  intro n
  induction n with
  | zero =>
    intro p v d r e
    cases r with
    | non => simp only [dataOf] at e; cases e; exact .non
    | bl b => simp only [dataOf] at e; cases e; exact .bl b
    | int i => simp only [dataOf] at e; cases e; exact .int i
    | str y => simp only [dataOf] at e; cases e; exact .str y
    | tup => simp only [dataOf] at e; cases e
    | fls => simp only [dataOf] at e; cases e
    | obj => simp only [dataOf] at e; cases e
    | glo => simp only [dataOf] at e; cases e
    | ty => simp only [dataOf] at e; cases e
    | key => simp only [dataOf] at e; cases e
  | succ n ih =>
    intro p v d r e
    cases r with
    | non => simp only [dataOf] at e; cases e; exact .non
    | bl b => simp only [dataOf] at e; cases e; exact .bl b
    | int i => simp only [dataOf] at e; cases e; exact .int i
    | str y => simp only [dataOf] at e; cases e; exact .str y
    | tup hs rs =>
      simp only [dataOf, Option.map_eq_some_iff] at e
      obtain ⟨ds, e1, rfl⟩ := e
      exact .tup hs (dpAll ih rs e1)
    | fls hs rs =>
      simp only [dataOf, Option.map_eq_some_iff] at e
      obtain ⟨ds, e1, rfl⟩ := e
      exact .lst hs.sq (dpAll ih rs e1)
    | obj ha =>
      simp only [dataOf] at e
      split at e
      · rename_i xs hx
        obtain ⟨a, h1, ys, h2, rs⟩ := x.at_ _ _ hx
        rw [ha] at h1; cases h1
        rw [Option.map_eq_some_iff] at e
        obtain ⟨ds, e1, rfl⟩ := e
        exact .lst (SqL.of h2) (dpAll ih rs e1)
      · cases e
    | glo => simp only [dataOf] at e; cases e
    | ty => simp only [dataOf] at e; cases e
    | key => simp only [dataOf] at e; cases e
theorem eqB_of {K : PySem.W.Frag} {mg : Str → Option Value} {as : List Addr} {H : Hp} {h : IH} {x y : PV} {U V : V} {q : Bool} (rh : RH K mg H as h) (rx : RP K mg H as x U) (ry : RP K mg H as y V) (e : pEqB x y h = some q) :
    ∃ d e, Dp K H U d ∧ Dp K H V e ∧ SeqAt.shaped d = true ∧ SeqAt.shaped e = true ∧ PyData.eqv d e = q := by
  unfold pEqB at e
  split at e
  · rename_i d1 d2 e1 e2
    split at e
    · rename_i hs
      obtain ⟨s1, s2⟩ := Bool.and_eq_true_iff.mp hs
      cases e
      exact ⟨d1, d2, dp_of rh _ _ _ _ rx e1, dp_of rh _ _ _ _ ry e2, s1, s2, rfl⟩
    · cases e
  · cases e
theorem snd_eq {K : PySem.W.Frag} {mg : Str → Option Value} : Snd K mg pEq (rEqD K) := by
  intro W s as H h x y U V Q rh rx ry o
  unfold pEq at o
  cases q : pEqB x y h with
  | none => rw [q] at o; exact o.elim
  | some z =>
    rw [q] at o
    obtain ⟨d, e, h1, h2, h3, h4, rfl⟩ := eqB_of rh rx ry q
    exact ⟨d, e, h1, h2, h3, h4, o.here rh (.bl _)⟩
theorem snd_ne {K : PySem.W.Frag} {mg : Str → Option Value} : Snd K mg pNe (rNeD K) := by
  intro W s as H h x y U V Q rh rx ry o
  unfold pNe at o
  cases q : pEqB x y h with
  | none => rw [q] at o; exact o.elim
  | some z =>
    rw [q] at o
    obtain ⟨d, e, h1, h2, h3, h4, rfl⟩ := eqB_of rh rx ry q
    exact ⟨d, e, h1, h2, h3, h4, o.here rh (.bl _)⟩
/-! ### subscripts -/
theorem RPs.atI {K : PySem.W.Frag} {mg : Str → Option Value} {as : List Addr} {H : Hp} {ps : List PV} {vs : List V} {i : Int} {p : PV} (r : RPs K mg H as ps vs) (e : L2.atI ps i = some p) : ∃ v, L2.atI vs i = some v ∧ RP K mg H as p v := by
  unfold L2.atI at e ⊢
  rw [← r.length]
  cases q : ixN ps.length i with
  | none => rw [q] at e; cases e
  | some j =>
    rw [q] at e
    exact r.get e
theorem snd_idx {K : PySem.W.Frag} {mg : Str → Option Value} : Snd K mg pIdx (rIx K) := by
  intro W s as H h x y U V Q rh rx ry o
  unfold pIdx at o
  split at o
  · cases rx with
    | tup hs rs =>
      cases ry
      unfold opt at o
      split at o
      · rename_i p e
        obtain ⟨v, e1, r1⟩ := rs.atI e
        exact .inr (.inl ⟨_, _, _, v, rfl, rfl, hs, e1, o.here rh r1⟩)
      · exact o.elim
  · cases rx with
    | fls hs rs =>
      cases ry
      unfold opt at o
      split at o
      · rename_i p e
        obtain ⟨v, e1, r1⟩ := rs.atI e
        exact .inl ⟨_, _, _, v, rfl, rfl, hs.sq, e1, o.here rh r1⟩
      · exact o.elim
  · cases rx
    cases ry
    split at o
    · rename_i hl
      unfold opt at o
      split at o
      · rename_i p e
        rw [Option.map_eq_some_iff] at e
        obtain ⟨c, e1, rfl⟩ := e
        exact .inr (.inr ⟨_, _, c, rfl, rfl, by rw [sizeLine_eq]; exact hl, e1, o.here rh (.str _)⟩)
      · exact o.elim
    · exact o.elim
  · cases rx with
    | obj ha =>
      cases ry
      split at o
      · rename_i xs hx
        obtain ⟨a, h1, ys, h2, rs⟩ := rh.at_ _ _ hx
        rw [ha] at h1; cases h1
        unfold opt at o
        split at o
        · rename_i p e
          obtain ⟨v, e1, r1⟩ := rs.atI e
          exact .inl ⟨_, _, _, v, rfl, rfl, SqL.of h2, e1, o.here rh r1⟩
        · exact o.elim
      · exact o.elim
  · exact o.elim
theorem ie_idx (ha : PE X a (IE X.K X.mg W A)) (hb : PE X b (IE X.K X.mg W B)) (hs : PlainIx b := by intro _ _; rfl) : PE X (.Subscript a b pos) (IE X.K X.mg W (eOp pIdx A B)) :=
  peImp (pe_ix ix_seq ha hb hs) fun _ _ _ h => tOp_of (ta := IE X.K X.mg W A) (tb := IE X.K X.mg W B) snd_idx h
abbrev IO (K : PySem.W.Frag) (mg : Str → Option Value) (W : WX) (A : OX) : TO := IG K mg (fun _ _ p v => p = v) W A
theorem poImp {oe : Option Expr} {t t' : TO} (h : PO X oe t) (hi : ∀ s H Q, t' s H Q → t s H Q) : PO X oe t' := ⟨fun pins s σ H Q I q => h.run pins s σ H Q I (hi σ H Q q)⟩
theorem io_none : PO X none (IO X.K X.mg W oNone) := poImp po_none fun s H Q ⟨as, ρ, hh, f, x, o⟩ => o.here x rfl
theorem io_some (h : PE X e (IE X.K X.mg W A)) : PO X (some e) (IO X.K X.mg W (oSome A)) := by
  refine poImp (po_some h) fun s H Q ⟨as, ρ, hh, f, x, o⟩ => ?_
  refine ⟨as, ρ, hh, f, x, (Out.bind o).imp fun V H1 ⟨as1, h1, p1, S1, x1, r1, o1⟩ => ?_⟩
  split at o1
  · cases r1; exact ⟨_, rfl, o1.here x1 rfl⟩
  · exact o1.elim
theorem RPs.cut {K : PySem.W.Frag} {mg : Str → Option Value} {as : List Addr} {H : Hp} {ps : List PV} {vs : List V} {lo hi : Option Int} (r : RPs K mg H as ps vs) : RPs K mg H as (cutA ps lo hi) (cutV vs lo hi) := by
  unfold cutA cutV
  rw [← r.length]
  exact (r.drop _).take _
theorem ie_sl {lo hi : Option Expr} {p2 : Pos} {l u : OX} (he : PE X e (IE X.K X.mg W A)) (hl : PO X lo (IO X.K X.mg W l)) (hu : PO X hi (IO X.K X.mg W u)) : PE X (.Subscript e (.Slice lo hi none p2) pos) (IE X.K X.mg W (eSl A l u)) := by
  refine peImp (pe_slice (sl_tupA.or sl_list) he hl hu) fun s H Q ⟨as, ρ, hh, f, x, o⟩ => ?_
  refine ⟨as, ρ, hh, f, x, (Out.bind o).imp fun V H1 ⟨as1, h1, p1, S1, x1, r1, o1⟩ => ?_⟩
  refine ⟨as1, ρ, h1, f.mono S1, x1, (Out.bind o1).imp fun lo' H2 ⟨as2, h2, p2, S2, x2, r2, o2⟩ => ?_⟩
  refine ⟨as2, ρ, h2, (f.mono S1).mono S2, x2, (Out.bind o2).imp fun hi' H3 ⟨as3, h3, p3, S3, x3, r3, o3⟩ => ?_⟩
  obtain rfl : p2 = lo' := r2
  obtain rfl : p3 = hi' := r3
  have r1' := (r1.mono S2).mono S3
  unfold pSl at o3
  split at o3
  · cases r1' with
    | tup hs rs =>
      refine .inl ⟨_, _, rfl, hs, fun hw => ?_, fun _ p np => ?_⟩
      · have e : ∀ {α : Type} (l : List α), HT.sIx l.length 0 p2 = 0 ∧ HT.sIx l.length l.length p3 = l.length → cutA l p2 p3 = l := fun l z => by
          unfold cutA
          rw [z.1, z.2]
          simp
        rw [← rs.length] at hw
        rw [e _ hw] at o3
        exact o3.here x3 (.tup hs rs)
      · exact o3 _ _ as3 (Stp.lay x3 np) (x3.lay np) (.tup (SqT.of upd_same) (rs.cut.mono (Stp.lay x3 np)))
  · cases r1' with
    | obj ha =>
      split at o3
      · rename_i xs hx
        obtain ⟨a, g1, ys, g2, rs⟩ := x3.at_ _ _ hx
        rw [ha] at g1; cases g1
        refine .inr ⟨_, _, rfl, SqL.of g2, fun p np => ?_⟩
        have S := Stp.new (o := .lst (cutV ys p2 p3)) x3 np
        refine o3 _ _ _ S (x3.new np ⟨_, upd_same, rs.cut.mono S⟩) (.obj ?_)
        rw [List.getElem?_append_right (by rw [x3.len]; exact Nat.le_refl _), x3.len, Nat.sub_self]
        rfl
      · exact o3.elim
  · exact o3.elim
/-! ### displays -/
theorem ie_tup {x1} (h : PA X es (IA X.K X.mg W L)) : PE X (.Tuple es x1 pos) (IE X.K X.mg W (eTup L)) := by
  refine peImp (pe_tup h) fun s H Q ⟨as, ρ, hh, f, x, o⟩ => ?_
  refine ⟨as, ρ, hh, f, x, (Out.bind o).imp fun Vs H1 ⟨as1, h1, p1, S1, x1, r1, o1⟩ => ?_⟩
  split at o1
  · rename_i hl
    refine ⟨by rw [sizeLine_eq, ← r1.length]; exact hl, fun p np => ?_⟩
    exact o1 _ _ as1 (Stp.lay x1 np) (x1.lay np) (.tup (SqT.of upd_same) (r1.mono (Stp.lay x1 np)))
  · exact o1.elim
theorem mkL_of {K : PySem.W.Frag} {mg : Str → Option Value} {s : L2.St} {as : List Addr} {H : Hp} {h : IH} {ps : List PV} {vs : List V} {Q : VK} (x : RH K mg H as h) (r : RPs K mg H as ps vs) (o : Out K mg (fun H as p v => RP K mg H as p v) W s as H Q (mkL ps h)) :
    vs.length ≤ sizeLine ∧ ∀ p, H p = none → Q (.ref p) (upd H p (.lst vs)) := by
  unfold mkL at o
  split at o
  · rename_i hl
    refine ⟨by rw [sizeLine_eq, ← r.length]; exact hl, fun p np => ?_⟩
    have S := Stp.new (o := .lst vs) x np
    refine o _ _ _ S (x.new np ⟨_, upd_same, r.mono S⟩) (.obj ?_)
    rw [List.getElem?_append_right (by rw [x.len]; exact Nat.le_refl _), x.len, Nat.sub_self]
    rfl
  · exact o.elim
theorem ie_lst (h : PA X es (IA X.K X.mg W L)) : PE X (.List es pos) (IE X.K X.mg W (eLst L)) := by
  refine peImp (pe_lst h) fun s H Q ⟨as, ρ, hh, f, x, o⟩ => ?_
  exact ⟨as, ρ, hh, f, x, (Out.bind o).imp fun Vs H1 ⟨as1, h1, p1, S1, x1, r1, o1⟩ => mkL_of x1 r1 o1⟩
end
end WR

/-! what loops walk: lists, tuples, ranges, enumerate, zip of lists and tuples in any mix -/
namespace PySem
open Builtin Builtin.Str
theorem WR_meets_enum1 {v : Value} {o : Obj} {H : Heap → Prop} (B : Begins v o H) :
    Meets (Builtin.«enumerate.__new__» ⟨[.type "enumerate", v], []⟩) (fun _ R s => H s.heap ∧
      R (.ok (.ret (.ref (s.heap.push o).objs.size))) { s with heap := (s.heap.push o).push { cls := .type "enumerate", data := .fields #[.none, .bool false, .ref s.heap.objs.size, rawInt 0, .none, .none] } }) :=
  .of_wp fun prog w A R s h => by
    obtain ⟨hp, g, d, tk, os⟩ := s; obtain ⟨h1, h⟩ := h
    have hsub := sub_enumerate
    have q1 : ∀ {A' : Around} {E : Value → Shared → Prop} {Q : Value → Shared → Prop}, Q (.ref hp.objs.size) ⟨hp.push o, g, d, tk, os⟩ → wpAny (model prog w) A' (pyIter v) Q E ⟨hp, g, d, tk, os⟩ :=
      fun q => B.iter prog w _ _ ⟨hp, g, d, tk, os⟩ _ h1 q
    wp_walk using q1
    refine wpAny_stack_any fun st => wpAny_pure ?_
    split
    · rename_i c _ _ _ _ _
      cases (c == Value.type "enumerate")
      · wp_walk using q1
        exact ⟨_, rfl, h⟩
      · wp_walk using q1
        exact ⟨_, rfl, h⟩
    · wp_walk using q1
      exact ⟨_, rfl, h⟩
theorem WR_enum1 {prog : Program} {w : World} {A : Around} {E : Value → Shared → Prop} {s : Shared} {v : Value} {o : Obj} {H : Heap → Prop} {Q : Value → Shared → Prop} (B : Begins v o H) (h1 : H s.heap)
    (h : ∀ h', IsEnum h' (s.heap.objs.size + 1) s.heap.objs.size 0 .none → h'.get? s.heap.objs.size = some o → h'.objs.size = s.heap.objs.size + 2 →
      (∀ b o, s.heap.get? b = some o → h'.get? b = some o) → Q (.ref (s.heap.objs.size + 1)) { s with heap := h' }) :
    wpAny (model prog w) A (call (.type "enumerate") [v]) Q E s := by
  refine callType_new F.called_enumerate (by decide) (F.typeCall_enumerate_1 _) (F.newCall_enumerate_1 _) (fun obj => F.args_object_init_2 obj _) F.entry_enumerate_new
    (WR_meets_enum1 B) ⟨h1, ?_⟩
  have hz : (s.heap.push o).objs.size = s.heap.objs.size + 1 := Heap.size_push ..
  show _ ∧ _
  rw [hz]
  have he : IsEnum ((s.heap.push o).push { cls := .type "enumerate", data := .fields #[.none, .bool false, .ref s.heap.objs.size, rawInt 0, .none, .none] }) (s.heap.objs.size + 1) s.heap.objs.size 0 .none := by
    have := Heap.get?_push_size (s.heap.push o) (o := { cls := .type "enumerate", data := .fields #[.none, .bool false, .ref s.heap.objs.size, rawInt 0, .none, .none] }) rfl
    rw [hz] at this; exact this
  exact ⟨⟨_, he, rfl⟩, h _ he (Heap.get?_push_of_some _ (Heap.get?_push_size _ B.free)) (by rw [Heap.size_push, hz]) fun b o x => Heap.get?_push_of_some _ (Heap.get?_push_of_some _ x)⟩
end PySem
namespace WR
open PySem PySem.Spec PyProof.Rows L2
/-! ### a list or a tuple -/
def SqK (t : Bool) (K : PySem.W.Frag) (H : Hp) (a : Addr) (xs : List V) : Prop := match t with
  | true => SqT K H a xs
  | false => SqL K H a xs
def ItAt (t : Bool) (h : Heap) (it a : Addr) (i : Nat) : Prop := match t with
  | true => h.IsTupleIter it a i
  | false => h.IsListIter it a i
def CtAt (t : Bool) (h : Heap) (a : Addr) (its : Array Value) : Prop := match t with
  | true => h.IsTuple a its
  | false => h.IsList a its
def itO (t : Bool) (a : Addr) : Obj := match t with
  | true => { cls := .type "tuple_iterator", data := .fields #[.ref a, .int 0 0] }
  | false => { cls := .type "list_iterator", data := .fields #[.ref a, .int 0 0] }
theorem ItAt.at {t : Bool} {h h' : Heap} {it a : Addr} {i : Nat} (x : ItAt t h it a i) (k : ∀ o, h.get? it = some o → h'.get? it = some o) : ItAt t h' it a i := by
  cases t with
  | true => exact Heap.IsTupleIter.at x k
  | false => exact Heap.IsListIter.at x k
theorem ItAt.obj {t : Bool} {h : Heap} {it a : Addr} {i : Nat} (x : ItAt t h it a i) : ∃ o, h.get? it = some o ∧ ∀ v, o.data ≠ .cell v := by
  cases t with
  | true => obtain ⟨o, e, _, d⟩ := x; exact ⟨o, e, fun v q => by rw [d] at q; cases q⟩
  | false => obtain ⟨o, e, _, d⟩ := x; exact ⟨o, e, fun v q => by rw [d] at q; cases q⟩
theorem ItAt.new {t : Bool} {h : Heap} {it a : Addr} (e : h.get? it = some (itO t a)) : ItAt t h it a 0 := by
  cases t with
  | true => exact ⟨_, e, rfl, rfl⟩
  | false => exact ⟨_, e, rfl, rfl⟩
theorem draws_k (t : Bool) {prog : Program} {w : World} {A : Around} (hh : A.handled = none) (it l : Addr) (hne : l ≠ it) (items : Array Value) :
    Draws prog w A it [it, l] items.size (fun i v => items[i]? = some v) (fun i h => ItAt t h it l i ∧ CtAt t h l items) := by
  cases t with
  | true => exact Draws.tuple hh it l hne items
  | false => exact Draws.list hh it l hne items
theorem begins_k (t : Bool) (l : Addr) (items : Array Value) : Begins (.ref l) (itO t l) fun h => CtAt t h l items := by
  cases t with
  | true => exact begins_tuple l items
  | false => exact begins_list l items
section
variable {X : Cx} {pins : List (Addr × Obj)} {σ : L2.St} {H : Hp} {s : Shared} {a : Addr} {xs ys : List V} {t : Bool}
theorem seqK (I : Inv X pins σ H s) (h : SqK t X.K H a xs) : ∃ its : List Value, Vals xs its ∧ CtAt t s.heap a its.toArray := by
  cases t with
  | true => obtain ⟨its, r, p, _⟩ := I.tuple h; exact ⟨its, r, p⟩
  | false => obtain ⟨its, r, p, _⟩ := I.list h; exact ⟨its, r, p.isList⟩
theorem seqK_inj (I : Inv X pins σ H s) (h : SqK t X.K H a xs) (h' : SqK t X.K H a ys) : xs = ys := by
  cases t with
  | true => exact I.tuple_inj h h'
  | false => exact I.list_inj h h'
end
/-! ### enumerate -/
def ItE (t : Bool) (K : PySem.W.Frag) (a : Addr) : It :=
  ⟨fun i H => ∃ (xs : List V) (x : V), SqK t K H a xs ∧ xs[i]? = some x, fun i H v H' => ∃ T x, v = .ref T ∧ H T = none ∧ H' = upd H T (.tup [.int (i : Nat), x]) ∧ ∀ xs, SqK t K H a xs → xs[i]? = some x, fun i H => ∃ xs : List V, SqK t K H a xs ∧ xs.length = i⟩
theorem turn_E {P : Program} {w : World} {K : PySem.W.Frag} {elts : List Expr} {kk : Nat} {tpos : Pos} (t : Bool) (a e it : Addr) (hei : e ≠ it) (hea : e ≠ a) (hai : a ≠ it) :
    Turn P w K (.Tuple elts kk tpos) (ItE t K a) [e, it] e (fun i h => (∃ old, IsEnum h e it ((i : Nat) : Int) old) ∧ ItAt t h it a i) where
  mem := by simp
  obj := fun i h st b hb => by
    obtain ⟨⟨old, he⟩, hi⟩ := st
    have e' : b = e ∨ b = it := by simpa using hb
    rcases e' with z | z
    · rw [z]; exact ⟨_, he, fun v q => nomatch q⟩
    · rw [z]; exact hi.obj
  keep := fun i h h' st k => let ⟨⟨old, he⟩, hi⟩ := st; ⟨⟨old, k e (by simp) _ he⟩, hi.at fun o q => k it (by simp) o q⟩
  item := by
    intro X hP hw hK hc i pins s σ H E I hf st hg
    subst hP hw hK
    obtain ⟨⟨old, he⟩, hit⟩ := st
    obtain ⟨xs, x, hq, hx⟩ := hg
    obtain ⟨its, rv, p⟩ := seqK I hq
    obtain ⟨u, hu, ru⟩ := rv.get hx
    have hel : e < s.heap.objs.size := Heap.lt_size he
    have hil : it < s.heap.objs.size := by obtain ⟨_, q, _⟩ := hit.obj; exact Heap.lt_size q
    have hlt : i < its.toArray.size := by
      have := (List.getElem?_eq_some_iff.mp hu).1
      simpa using this
    refine wpAny_pyNext_enum_itemD (draws_k t (A := X.A.in1) (I.ok.hd hc) it a hai its.toArray) he ⟨hit, p⟩ hlt hei (by simp [hei, hea]) fun x' h' tk hP ho hst hT hsz hk => ?_
    have ex : x' = u := by
      have h1 : its.toArray[i]? = some u := by simpa using hu
      rw [h1] at hP
      exact (Option.some.inj hP).symm
    subst ex
    refine ⟨_, rfl, wpAny_letOwnedTupleGo_enum (s := { s with heap := h', toks := tk + 1 }) ho fun h'' he' sb => ?_⟩
    have hT2 : h''.get? s.heap.objs.size = some { cls := .type "tuple", data := .seq #[.int i tk, x'] } := (sb.2 _ (Nat.ne_of_gt hel)).trans hT
    have new : ObjOk X.prog X.w (upd H s.heap.objs.size (.tup [.int (i : Nat), x])) h'' s.heap.objs.size (.tup [.int (i : Nat), x]) :=
      ⟨by show 2 ≤ sizeLine; decide, [.int i tk, x'], .cons ⟨_, rfl⟩ (.cons ru .nil), ⟨_, hT2, rfl, _, rfl⟩⟩
    have I1 : Inv X pins σ (upd H s.heap.objs.size (.tup [.int (i : Nat), x])) { s with heap := h'', toks := tk + 1 } :=
      I.turnedNew (ch := [e, it]) (fun b ob hb q => (sb.2 b (fun z => hb (by simp [z]))).trans (hk b ob (fun z => hb (by simp [z])) (fun z => hb (by simp [z])) q)) hf (Nat.le_refl _) new
    refine ⟨.ref s.heap.objs.size, _, I1, rfl, ⟨_, x, rfl, I.hok.fresh (Nat.le_refl _), rfl, fun ys hy => by rw [seqK_inj I hy hq]; exact hx⟩, ⟨⟨x', ?_⟩, hst.1.at fun o q => (sb.2 it (Ne.symm hei)).trans q⟩, fun b hb => ?_⟩
    · have e1 : ((i + 1 : Nat) : Int) = (i : Int) + 1 := by omega
      rw [e1]; exact he'
    · have hb' : b < s.heap.objs.size := by
        have e' : b = e ∨ b = it := by simpa using hb
        rcases e' with z | z
        · rw [z]; exact hel
        · rw [z]; exact hil
      rw [upd_ne (Nat.ne_of_lt hb')]
      exact (hf b hb).1
  done := by
    intro X hP hw hK hc i pins s σ H E I hf st hg
    subst hP hw hK
    obtain ⟨⟨old, he⟩, hit⟩ := st
    obtain ⟨xs, hq, hx⟩ := hg
    obtain ⟨its, rv, p⟩ := seqK I hq
    obtain ⟨f0, f1, f2, f3, f4, f5⟩ := hf it (by simp)
    have hl := rv.length
    have en : its.toArray.size = i := by simp; omega
    subst en
    exact wpAny_pyNext_enum_endD (draws_k t (A := X.A.in1) (I.ok.hd hc) it a hai its.toArray) he ⟨hit, p⟩ fun h' eb => ⟨rfl, I.turned (t' := s.toks) (fun b o hb q => eb b o hb q) f0 f1 f3 f4 f5⟩
  self := fun A i s Q E st h => let ⟨⟨_, he⟩, _⟩ := st; wpAny_pyIter_enum he h
def iE (K : PySem.W.Frag) (ta : TA) : TI := fun σ H R => ta σ H fun vs H1 => ∃ t a xs, vs = [.ref a] ∧ SqK t K H1 a xs ∧ R (ItE t K a) H1
theorem pi_E {X : Cx} {e : Expr} {ta : TA} {p pos tpos : Pos} {elts : List Expr} {kk : Nat} (hg : Gl X "enumerate") (hm : X.mg "enumerate" = none) (ha : PA X [e] ta) (hs : starEach [e] X.env = [(false, eval e X.env)] := by rfl) :
    PI X (.Tuple elts kk tpos) (.Call (.Name "enumerate" p) [e] [] pos) (iE X.K ta) := by
  refine ⟨fun pins s σ H R I h => ?_⟩
  refine Call_ (ld_blt I hg hm boot_enumerate (PyProof.Rows.callWith_type1 (thn (ha.run pos pins s σ H _ I h) fun us s1 ⟨vs, H1, I1, r1, q1⟩ => ?_) hs rfl))
  obtain ⟨t, a, xs, ex, hq, q⟩ := q1
  subst ex
  cases r1 with
  | cons r rr =>
    cases rr
    cases r
    obtain ⟨its, rv, p'⟩ := seqK I1 hq
    have hal : a < s1.heap.objs.size := by
      cases t with
      | true => obtain ⟨o, e, _⟩ := p'; exact Heap.lt_size e
      | false => obtain ⟨o, e, _⟩ := p'; exact Heap.lt_size e
    refine WR_enum1 (begins_k t a its.toArray) p' fun h' he hit hsz hk => wpAny_pyIter_enum he ?_
    have I2 : Inv X pins σ H1 { s1 with heap := h' } := I1.kept (t' := s1.toks) hk
    refine ⟨s1.heap.objs.size + 1, [s1.heap.objs.size + 1, s1.heap.objs.size], _, _, H1, rfl, I2, turn_E t a (s1.heap.objs.size + 1) s1.heap.objs.size (Nat.succ_ne_self _) (Nat.ne_of_gt (Nat.lt_succ_of_lt hal)) (Nat.ne_of_lt hal), ⟨⟨.none, he⟩, ItAt.new hit⟩, fun b hb => ?_, q⟩
    have e' : b = s1.heap.objs.size + 1 ∨ b = s1.heap.objs.size := by simpa using hb
    have hle : s1.heap.objs.size ≤ b := by
      rcases e' with z | z
      · rw [z]; exact Nat.le_add_right _ _
      · rw [z]; exact Nat.le_refl _
    exact I1.fpOk hle (I1.hok.fresh hle)
/-! ### zip -/
def ItZ (t u : Bool) (K : PySem.W.Frag) (a b : Addr) : It :=
  ⟨fun i H => ∃ (xs ys : List V) (x y : V), SqK t K H a xs ∧ SqK u K H b ys ∧ xs[i]? = some x ∧ ys[i]? = some y,
    fun i H v H' => ∃ T x y, v = .ref T ∧ H T = none ∧ H' = upd H T (.tup [x, y]) ∧ (∀ xs, SqK t K H a xs → xs[i]? = some x) ∧ ∀ ys, SqK u K H b ys → ys[i]? = some y,
    fun i H => ∃ xs ys : List V, SqK t K H a xs ∧ SqK u K H b ys ∧ i ≤ xs.length ∧ i ≤ ys.length ∧ (i = xs.length ∨ i = ys.length)⟩
theorem turn_Z {P : Program} {w : World} {K : PySem.W.Frag} {elts : List Expr} {kk : Nat} {tpos : Pos} (t u : Bool) {a b z TI TO i1 i2 : Addr} (S : ZipSep2 z TI TO i1 i2 [i1, a] [i2, b]) (ha : a ≠ i1) (hb : b ≠ i2) :
    Turn P w K (.Tuple elts kk tpos) (ItZ t u K a b) [z, TI, TO, i1, i2] z (fun i h => IsZip h z TI TO .none ∧ IsTupOf2 h TI (.ref i1) (.ref i2) ∧ (∃ x y, IsTupOf2 h TO x y) ∧ ItAt t h i1 a i ∧ ItAt u h i2 b i) where
  mem := by simp
  obj := fun i h st c hc => by
    obtain ⟨hz, hTI, ⟨x, y, hTO⟩, h1, h2⟩ := st
    have e' : c = z ∨ c = TI ∨ c = TO ∨ c = i1 ∨ c = i2 := by simpa using hc
    rcases e' with q | q | q | q | q
    · rw [q]; exact ⟨_, hz, fun v q => nomatch q⟩
    · rw [q]; exact ⟨_, hTI, fun v q => nomatch q⟩
    · rw [q]; exact ⟨_, hTO, fun v q => nomatch q⟩
    · rw [q]; exact h1.obj
    · rw [q]; exact h2.obj
  keep := fun i h h' st k => by
    obtain ⟨hz, hTI, ⟨x, y, hTO⟩, h1, h2⟩ := st
    exact ⟨k z (by simp) _ hz, k TI (by simp) _ hTI, ⟨x, y, k TO (by simp) _ hTO⟩, h1.at fun o q => k i1 (by simp) o q, h2.at fun o q => k i2 (by simp) o q⟩
  item := by
    intro X hP hw hK hc i pins s σ H E I hf st hg
    subst hP hw hK
    obtain ⟨hz, hTI, ⟨x0, y0, hTO⟩, h1, h2⟩ := st
    obtain ⟨xs, ys, x, y, hqx, hqy, hx, hy⟩ := hg
    obtain ⟨its, rv, p⟩ := seqK I hqx
    obtain ⟨its2, rv2, p2⟩ := seqK I hqy
    obtain ⟨v1, hu, ru⟩ := rv.get hx
    obtain ⟨v2, hu2, ru2⟩ := rv2.get hy
    have hzl : z < s.heap.objs.size := Heap.lt_size hz
    have l1 : i < its.toArray.size := by
      have := (List.getElem?_eq_some_iff.mp hu).1
      simpa using this
    have l2 : i < its2.toArray.size := by
      have := (List.getElem?_eq_some_iff.mp hu2).1
      simpa using this
    refine wpAny_pyNext_zipD2_item S (draws_k t (A := X.A.in1) (I.ok.hd hc) i1 a ha its.toArray) (draws_k u (A := X.A.in1) (I.ok.hd hc) i2 b hb its2.toArray) hz hTI hTO ⟨h1, p⟩ ⟨h2, p2⟩ l1 l2 fun w1 w2 h' tk hP1 hP2 z' TO' h1' h2' hT hsz hk => ?_
    have e1 : w1 = v1 := by
      have q : its.toArray[i]? = some v1 := by simpa using hu
      rw [q] at hP1
      exact (Option.some.inj hP1).symm
    have e2 : w2 = v2 := by
      have q : its2.toArray[i]? = some v2 := by simpa using hu2
      rw [q] at hP2
      exact (Option.some.inj hP2).symm
    subst e1
    subst e2
    refine ⟨_, rfl, wpAny_letOwnedTupleGo_zip (s := { s with heap := h', toks := tk }) z' fun h'' z'' sb => ?_⟩
    have hT2 : h''.get? s.heap.objs.size = some { cls := .type "tuple", data := .seq #[w1, w2] } := (sb.2 _ (Nat.ne_of_gt hzl)).trans hT
    have new : ObjOk X.prog X.w (upd H s.heap.objs.size (.tup [x, y])) h'' s.heap.objs.size (.tup [x, y]) :=
      ⟨by show 2 ≤ sizeLine; decide, [w1, w2], .cons ru (.cons ru2 .nil), ⟨_, hT2, rfl, _, rfl⟩⟩
    have I1 : Inv X pins σ (upd H s.heap.objs.size (.tup [x, y])) { s with heap := h'', toks := tk } :=
      I.turnedNew (t' := tk) (ch := [z, TI, TO, i1, i2]) (fun c o hb q => (sb.2 c (fun q' => hb (by simp [q']))).trans (hk c o (fun q' => hb (by simp [q'])) (fun q' => hb (by simp [q'])) (fun q' => hb (by simp [q'])) (fun q' => hb (by simp [q'])) q)) hf (Nat.le_refl _) new
    refine ⟨.ref s.heap.objs.size, _, I1, rfl, ⟨_, x, y, rfl, I.hok.fresh (Nat.le_refl _), rfl, fun l hl => by rw [seqK_inj I hl hqx]; exact hx, fun l hl => by rw [seqK_inj I hl hqy]; exact hy⟩, ⟨z'', ?_, ⟨w1, w2, ?_⟩, ?_, ?_⟩, fun c hcm => ?_⟩
    · exact (sb.2 _ S.TIz).trans (hk _ _ S.TIz S.TITO S.TIi1 S.TIi2 hTI)
    · exact (sb.2 _ S.TOz).trans TO'
    · exact h1'.1.at fun o q => (sb.2 _ (Ne.symm S.zi1)).trans q
    · exact h2'.1.at fun o q => (sb.2 _ (Ne.symm S.zi2)).trans q
    · have hlt : c < s.heap.objs.size := by
        have e' : c = z ∨ c = TI ∨ c = TO ∨ c = i1 ∨ c = i2 := by simpa using hcm
        rcases e' with q | q | q | q | q
        · rw [q]; exact hzl
        · rw [q]; exact Heap.lt_size hTI
        · rw [q]; exact Heap.lt_size hTO
        · rw [q]; obtain ⟨_, e1, _⟩ := h1.obj; exact Heap.lt_size e1
        · rw [q]; obtain ⟨_, e2, _⟩ := h2.obj; exact Heap.lt_size e2
      rw [upd_ne (Nat.ne_of_lt hlt)]
      exact (hf c hcm).1
  done := by
    intro X hP hw hK hc i pins s σ H E I hf st hg
    subst hP hw hK
    obtain ⟨hz, hTI, ⟨x0, y0, hTO⟩, h1, h2⟩ := st
    obtain ⟨xs, ys, hqx, hqy, g1, g2, hend⟩ := hg
    obtain ⟨its, rv, p⟩ := seqK I hqx
    obtain ⟨its2, rv2, p2⟩ := seqK I hqy
    have l1 := rv.length
    have l2 := rv2.length
    refine wpAny_pyNext_zipD2_end S (draws_k t (A := X.A.in1) (I.ok.hd hc) i1 a ha its.toArray) (draws_k u (A := X.A.in1) (I.ok.hd hc) i2 b hb its2.toArray) hz hTI hTO ⟨h1, p⟩ ⟨h2, p2⟩ (by simp; omega) (by simp; omega) (by simp; omega) fun h' tk hk => ⟨rfl, ?_⟩
    exact I.turnedL (t' := tk) (ch := [z, TI, TO, i1, i2]) (fun c o hb q =>
      hk c o (fun q' => hb (by simp [q'])) (fun q' => hb (by simp [q'])) (fun q' => hb (by simp [q'])) (fun q' => hb (by simp [q'])) q) hf
  self := fun A i s Q E st h => wpAny_pyIter_zip st.1 h
def iZ (K : PySem.W.Frag) (ta : TA) : TI := fun σ H R => ta σ H fun vs H1 => ∃ t u a b xs ys, vs = [.ref a, .ref b] ∧ SqK t K H1 a xs ∧ SqK u K H1 b ys ∧ R (ItZ t u K a b) H1
theorem pi_Z {X : Cx} {e e2 : Expr} {ta : TA} {p pos tpos : Pos} {elts : List Expr} {kk : Nat} (hg : Gl X "zip") (hm : X.mg "zip" = none) (ha : PA X [e, e2] ta)
    (hs : starEach [e, e2] X.env = (false, eval e X.env) :: starEach [e2] X.env := by rfl) (hpl : (backTo pos (starEach [e2] X.env)).any (·.1) = false := by rfl) :
    PI X (.Tuple elts kk tpos) (.Call (.Name "zip" p) [e, e2] [] pos) (iZ X.K ta) := by
  refine ⟨fun pins s σ H R I h => ?_⟩
  refine Call_ (ld_blt I hg hm PyProof.Rows.boot_zip (PyProof.Rows.callWith_type1 (thn (ha.run pos pins s σ H _ I h) fun us s1 ⟨vs, H1, I1, r1, q1⟩ => ?_) hs hpl))
  obtain ⟨t, u, a, b, xs, ys, ex, hqx, hqy, q⟩ := q1
  subst ex
  cases r1 with
  | cons r rr =>
    cases rr with
    | cons r' rr =>
      cases rr
      cases r
      cases r'
      obtain ⟨its, rv, p1⟩ := seqK I1 hqx
      obtain ⟨its2, rv2, p2⟩ := seqK I1 hqy
      have lt : ∀ {t : Bool} {a : Addr} {its : Array Value}, CtAt t s1.heap a its → a < s1.heap.objs.size := fun {t a its} p' => by
        cases t with
        | true => obtain ⟨o, e, _⟩ := p'; exact Heap.lt_size e
        | false => obtain ⟨o, e, _⟩ := p'; exact Heap.lt_size e
      have la := lt p1
      have lb := lt p2
      refine zip_begins2 (begins_k t a its.toArray) (begins_k u b its2.toArray) p1 p2 fun h' hz hTI hTO hi1 hi2 hsz hk => wpAny_pyIter_zip hz ?_
      have I2 : Inv X pins σ H1 { s1 with heap := h' } := I1.kept (t' := s1.toks) hk
      refine ⟨_, [s1.heap.objs.size + 4, s1.heap.objs.size + 2, s1.heap.objs.size + 3, s1.heap.objs.size, s1.heap.objs.size + 1], _, _, H1, rfl, I2,
        turn_Z t u (zip_sep2 (fp1 := [a]) (fp2 := [b]) (by simpa using la) (by simpa using lb)) (Nat.ne_of_lt la) (Nat.ne_of_lt (Nat.lt_succ_of_lt lb)), ⟨hz, hTI, ⟨_, _, hTO⟩, ItAt.new hi1, ItAt.new hi2⟩, fun c hc => ?_, q⟩
      have hle : s1.heap.objs.size ≤ c := by
        simp at hc
        rcases hc with z | z | z | z | z <;> rw [z] <;> omega
      exact I1.fpOk hle (I1.hok.fresh hle)
/-! ### the code of what is walked -/
@[simp] def itList (xs : List PV) : ItF := fun i _ => some xs[i]?
@[simp] def itObj (n : Nat) : ItF := fun i h => match h[n]? with
  | some (.lst xs) => some xs[i]?
  | _ => none
@[simp] def eIter (A : EX) : Fm → IH → Res ItF := fun r h => (A r h).bind fun v h1 => match v with
  | .tup xs => .ok (itList xs) h1
  | .fls xs => .ok (itList xs) h1
  | .obj n => (match h1[n]? with
    | some (.lst _) => .ok (itObj n) h1
    | _ => .bad)
  | _ => .bad
@[simp] def itRange (lo : Int) (n : Nat) : ItF := fun i _ => some (if i < n then some (.int (lo + i)) else none)
def rngOk (i : Int) : Bool := decide (i.natAbs < 4611686018427387904)
theorem rngOk_of {i : Int} (h : rngOk i = true) : -4611686018427387904 ≤ i ∧ i < 4611686018427387904 := by
  have := of_decide_eq_true h
  omega
@[simp] def eRange1 (L : AX) : Fm → IH → Res ItF := fun r h => (L r h).bind fun vs h1 => match vs with
  | [.int j] => if rngOk j then .ok (itRange 0 j.toNat) h1 else .bad
  | _ => .bad
@[simp] def eRange2 (L : AX) : Fm → IH → Res ItF := fun r h => (L r h).bind fun vs h1 => match vs with
  | [.int i, .int j] => if rngOk i && rngOk j then .ok (itRange i (j - i).toNat) h1 else .bad
  | _ => .bad
/-- the items of a list or tuple as they stand -/
@[simp] def seqOf (v : PV) (h : IH) : Option (List PV) := match v with
  | .tup xs => some xs
  | .fls xs => some xs
  | .obj n => (match h[n]? with
    | some (.lst xs) => some xs
    | _ => none)
  | _ => none
@[simp] def itEnum (v : PV) : ItF := fun i h => match seqOf v h with
  | some xs => (match xs[i]? with
    | some x => some (some (.tup [.int i, x]))
    | none => if xs.length = i then some none else none)
  | none => none
@[simp] def eEnum (L : AX) : Fm → IH → Res ItF := fun r h => (L r h).bind fun vs h1 => match vs with
  | [v] => (match seqOf v h1 with
    | some _ => .ok (itEnum v) h1
    | none => .bad)
  | _ => .bad
@[simp] def itZip (v w : PV) : ItF := fun i h => match seqOf v h, seqOf w h with
  | some xs, some ys => (match xs[i]?, ys[i]? with
    | some x, some y => some (some (.tup [x, y]))
    | _, _ => if i ≤ xs.length ∧ i ≤ ys.length then some none else none)
  | _, _ => none
@[simp] def eZip (L : AX) : Fm → IH → Res ItF := fun r h => (L r h).bind fun vs h1 => match vs with
  | [v, w] => (match seqOf v h1, seqOf w h1 with
    | some _, some _ => .ok (itZip v w) h1
    | _, _ => .bad)
  | _ => .bad
section
variable {X : Cx} {W : WX} {k : Nat} {a b e tg : Expr} {es : List Expr} {pos : Pos} {A B C : EX} {L : AX}
/-- where a value that is walked stands -/
def kindK : PV → Bool
  | .tup _ => true
  | _ => false
theorem seqOf_at {K : PySem.W.Frag} {mg : Str → Option Value} {as : List Addr} {H : Hp} {h : IH} {v : PV} {V : V} {xs : List PV} (x : RH K mg H as h) (r : RP K mg H as v V) (e : seqOf v h = some xs) :
    ∃ a ys, V = .ref a ∧ SqK (kindK v) K H a ys ∧ RPs K mg H as xs ys := by
  cases r with
  | tup hs rs => cases e; exact ⟨_, _, rfl, hs, rs⟩
  | fls hs rs => cases e; exact ⟨_, _, rfl, hs.sq, rs⟩
  | obj ha =>
    simp only [seqOf] at e
    split at e
    · rename_i zs hz
      cases e
      obtain ⟨a, h1, ys, h2, rs⟩ := x.at_ _ _ hz
      rw [ha] at h1; cases h1
      exact ⟨_, _, rfl, SqL.of h2, rs⟩
    · cases e
  | non => cases e
  | bl => cases e
  | int => cases e
  | str => cases e
  | glo => cases e
  | ty => cases e
  | key => cases e
theorem RPs.none {K : PySem.W.Frag} {mg : Str → Option Value} {as : List Addr} {H : Hp} {xs : List PV} {ys : List V} {i : Nat} (r : RPs K mg H as xs ys) (e : xs[i]? = none) : ys.length ≤ i := by
  rw [← r.length]; exact List.getElem?_eq_none_iff.mp e
theorem ri_list {K : PySem.W.Frag} {mg : Str → Option Value} {as : List Addr} {H : Hp} {a : Addr} {xs : List PV} {ys : List V} (hs : SqF K H a ys) (r : RPs K mg H as xs ys) : RI K mg H as (itList xs) (Itl K a) := by
  intro i as' H' h' S x
  have hs' := S.sqF hs
  unfold itList
  cases q : xs[i]? with
  | none => exact ⟨ys, hs'.sq, r.none q⟩
  | some p =>
    obtain ⟨v, e1, r1⟩ := r.get q
    refine ⟨⟨ys, v, hs'.sq, e1⟩, fun y H'' hy => ?_⟩
    obtain ⟨rfl, z⟩ := hy
    have : y = v := Option.some.inj ((z _ hs'.sq).symm.trans e1)
    subst this
    exact ⟨Stp.refl _ _, x, r1.mono S⟩
theorem ri_tup {K : PySem.W.Frag} {mg : Str → Option Value} {as : List Addr} {H : Hp} {a : Addr} {xs : List PV} {ys : List V} (hs : SqT K H a ys) (r : RPs K mg H as xs ys) : RI K mg H as (itList xs) (Itt K a) := by
  intro i as' H' h' S x
  have hs' := S.sqT hs
  unfold itList
  cases q : xs[i]? with
  | none => exact ⟨ys, hs', r.none q⟩
  | some p =>
    obtain ⟨v, e1, r1⟩ := r.get q
    refine ⟨⟨ys, v, hs', e1⟩, fun y H'' hy => ?_⟩
    obtain ⟨rfl, z⟩ := hy
    have : y = v := Option.some.inj ((z _ hs').symm.trans e1)
    subst this
    exact ⟨Stp.refl _ _, x, r1.mono S⟩
theorem ri_obj {K : PySem.W.Frag} {mg : Str → Option Value} {as : List Addr} {H : Hp} {a : Addr} {n : Nat} (ha : as[n]? = some a) : RI K mg H as (itObj n) (Itl K a) := by
  intro i as' H' h' S x
  unfold itObj
  cases q : h'[n]? with
  | none => trivial
  | some o =>
    cases o with
    | lst xs =>
      obtain ⟨b, e1, ys, e2, rs⟩ := x.at_ _ _ q
      rw [S.get ha] at e1; cases e1
      cases qi : xs[i]? with
      | none =>
        simp only [qi]
        exact ⟨ys, SqL.of e2, rs.none qi⟩
      | some p =>
        simp only [qi]
        obtain ⟨v, e3, r3⟩ := rs.get qi
        refine ⟨⟨ys, v, SqL.of e2, e3⟩, fun y H'' hy => ?_⟩
        obtain ⟨rfl, z⟩ := hy
        have : y = v := Option.some.inj ((z _ (SqL.of e2)).symm.trans e3)
        subst this
        exact ⟨Stp.refl _ _, x, r3⟩
    | ins => trivial
    | dct => trivial
    | dks => trivial
theorem ii_seq (ha : PE X a (IE X.K X.mg W A)) : PI X tg a (II X.K X.mg W (eIter A)) := by
  have base : PI X tg a (fun s H R => iList X.K (IE X.K X.mg W A) s H R ∨ iTup X.K (IE X.K X.mg W A) s H R) := by
    refine ⟨fun pins s σ H R I h => ?_⟩
    rcases h with h | h
    · exact (pi_list ha).run pins s σ H R I h
    · exact (pi_tup ha).run pins s σ H R I h
  refine piImp base fun s H Q ⟨as, ρ, hh, f, x, o⟩ => ?_
  unfold eIter at o
  cases q : A ρ hh with
  | bad => rw [q] at o; exact o.elim
  | ex z h1 => rw [q] at o; exact .inl ⟨as, ρ, hh, f, x, by rw [q]; exact o⟩
  | ok v h1 =>
    rw [q] at o
    cases v with
    | tup xs =>
      refine .inr ⟨as, ρ, hh, f, x, ?_⟩
      rw [q]
      intro V H1 as1 S1 x1 r1
      cases r1 with
      | tup hs rs => exact ⟨_, rfl, ⟨_, hs⟩, o _ _ _ S1 x1 (ri_tup hs rs)⟩
    | fls xs =>
      refine .inl ⟨as, ρ, hh, f, x, ?_⟩
      rw [q]
      intro V H1 as1 S1 x1 r1
      cases r1 with
      | fls hs rs => exact ⟨_, rfl, ⟨_, hs.sq⟩, o _ _ _ S1 x1 (ri_list hs rs)⟩
    | obj n =>
      refine .inl ⟨as, ρ, hh, f, x, ?_⟩
      rw [q]
      intro V H1 as1 S1 x1 r1
      cases r1 with
      | obj ha =>
        have o1 : Out X.K X.mg (fun H as p v => RI X.K X.mg H as p v) W s as H Q (match h1[n]? with
          | some (.lst _) => .ok (itObj n) h1
          | _ => .bad) := o
        cases qn : h1[n]? with
        | none => simp only [qn] at o1; exact o1.elim
        | some ob =>
          cases ob with
          | lst xs =>
            simp only [qn] at o1
            obtain ⟨b, e1, ys, e2, rs⟩ := x1.at_ _ _ qn
            rw [ha] at e1; cases e1
            exact ⟨_, rfl, ⟨_, SqL.of e2⟩, o1 _ _ _ S1 x1 (ri_obj ha)⟩
          | ins => simp only [qn] at o1; exact o1.elim
          | dct => simp only [qn] at o1; exact o1.elim
          | dks => simp only [qn] at o1; exact o1.elim
    | non => exact (show False from o).elim
    | bl => exact (show False from o).elim
    | int => exact (show False from o).elim
    | str => exact (show False from o).elim
    | glo => exact (show False from o).elim
    | ty => exact (show False from o).elim
    | key => exact (show False from o).elim
theorem ri_range {K : PySem.W.Frag} {mg : Str → Option Value} {as : List Addr} {H : Hp} {lo : Int} {n : Nat} : RI K mg H as (itRange lo n) (Itr lo n) := by
  intro i as' H' h' S x
  unfold itRange
  by_cases hi : i < n
  · rw [if_pos hi]
    refine ⟨hi, fun y H'' hy => ?_⟩
    obtain ⟨rfl, rfl⟩ := hy
    exact ⟨Stp.refl _ _, x, .int _⟩
  · rw [if_neg hi]
    exact Nat.le_of_not_lt hi
theorem rng_of {i : Int} (h : rngOk i = true) : -(2 ^ 62) ≤ i ∧ i < 2 ^ 62 := by
  have q := rngOk_of h
  have e : (2 : Int) ^ 62 = 4611686018427387904 := by decide
  rw [e]
  exact q
theorem ii_range1 {p : Pos} (hm : X.mg "range" = none) (ha : PA X [e] (IA X.K X.mg W L)) (hg : Gl X "range" := by rfl) (hs : starEach [e] X.env = [(false, eval e X.env)] := by rfl) : PI X tg (.Call (.Name "range" p) [e] [] pos) (II X.K X.mg W (eRange1 L)) := by
  refine piImp (pi_range1 hg hm ha hs) fun s H Q ⟨as, ρ, hh, f, x, o⟩ => ?_
  refine ⟨as, ρ, hh, f, x, (Out.bind o).imp fun Vs H1 ⟨as1, h1, p1, S1, x1, r1, o1⟩ => ?_⟩
  split at o1
  · obtain ⟨v, rfl, rv⟩ := r1.inv1
    cases rv
    split at o1
    · rename_i hr
      obtain ⟨q1, q2⟩ := rng_of hr
      exact ⟨_, rfl, q1, q2, o1.here x1 ri_range⟩
    · exact o1.elim
  · exact o1.elim
theorem ii_range2 {p : Pos} (hm : X.mg "range" = none) (ha : PA X [a, b] (IA X.K X.mg W L)) (hg : Gl X "range" := by rfl) (hs : starEach [a, b] X.env = [(false, eval a X.env), (false, eval b X.env)] := by rfl) (hs2 : starEach [b] X.env = [(false, eval b X.env)] := by rfl) : PI X tg (.Call (.Name "range" p) [a, b] [] pos) (II X.K X.mg W (eRange2 L)) := by
  refine piImp (pi_range2 hg hm ha hs hs2) fun s H Q ⟨as, ρ, hh, f, x, o⟩ => ?_
  refine ⟨as, ρ, hh, f, x, (Out.bind o).imp fun Vs H1 ⟨as1, h1, p1, S1, x1, r1, o1⟩ => ?_⟩
  split at o1
  · obtain ⟨v, w, rfl, rv, rw'⟩ := r1.inv2
    cases rv
    cases rw'
    split at o1
    · rename_i hr
      obtain ⟨g1, g2⟩ := Bool.and_eq_true_iff.mp hr
      obtain ⟨q1, q2⟩ := rng_of g1
      obtain ⟨q3, q4⟩ := rng_of g2
      exact ⟨_, _, rfl, ⟨q1, q2, q3, q4⟩, o1.here x1 ri_range⟩
    · exact o1.elim
  · exact o1.elim
/-- a value that is walked stays where it stands -/
theorem seq_in {K : PySem.W.Frag} {mg : Str → Option Value} {as : List Addr} {H : Hp} {h : IH} {v : PV} {a : Addr} {xs : List PV} (x : RH K mg H as h) (r : RP K mg H as v (.ref a)) (e : seqOf v h = some xs) :
    ∃ ys, SqK (kindK v) K H a ys ∧ RPs K mg H as xs ys := by
  obtain ⟨b, ys, e1, h1, h2⟩ := seqOf_at x r e
  cases e1
  exact ⟨ys, h1, h2⟩
theorem ri_enum {K : PySem.W.Frag} {mg : Str → Option Value} {as : List Addr} {H : Hp} {v : PV} {a : Addr} (r : RP K mg H as v (.ref a)) : RI K mg H as (itEnum v) (ItE (kindK v) K a) := by
  intro i as' H' h' S x
  unfold itEnum
  cases q : seqOf v h' with
  | none => trivial
  | some xs =>
    obtain ⟨ys, hs, rs⟩ := seq_in x (r.mono S) q
    cases qi : xs[i]? with
    | none =>
      simp only [qi]
      by_cases hl : xs.length = i
      · rw [if_pos hl]
        exact ⟨ys, hs, by rw [← rs.length]; exact hl⟩
      · rw [if_neg hl]
        trivial
    | some p =>
      simp only [qi]
      obtain ⟨w, e3, r3⟩ := rs.get qi
      refine ⟨⟨ys, w, hs, e3⟩, fun y H'' hy => ?_⟩
      obtain ⟨T, z, rfl, nT, rfl, hz⟩ := hy
      have : z = w := Option.some.inj ((hz _ hs).symm.trans e3)
      subst this
      have S2 := Stp.lay (o := .tup [.int (i : Nat), z]) x nT
      exact ⟨S2, x.lay nT, .tup (SqT.of upd_same) (.cons (.int _) (.cons (r3.mono S2) .nil))⟩
theorem ri_zip {K : PySem.W.Frag} {mg : Str → Option Value} {as : List Addr} {H : Hp} {v w : PV} {a b : Addr} (r : RP K mg H as v (.ref a)) (r' : RP K mg H as w (.ref b)) : RI K mg H as (itZip v w) (ItZ (kindK v) (kindK w) K a b) := by
  intro i as' H' h' S x
  unfold itZip
  cases q : seqOf v h' with
  | none => trivial
  | some xs =>
    cases q' : seqOf w h' with
    | none => trivial
    | some ys =>
      obtain ⟨us, hs, rs⟩ := seq_in x (r.mono S) q
      obtain ⟨ws, hs', rs'⟩ := seq_in x (r'.mono S) q'
      have stp : ∀ (hn : xs[i]? = none ∨ ys[i]? = none), match (if i ≤ xs.length ∧ i ≤ ys.length then some none else none : Option (Option PV)) with
          | some (some v) => (ItZ (kindK v) (kindK w) K a b).go i H' ∧ ∀ x H'', (ItZ (kindK v) (kindK w) K a b).yld i H' x H'' → Stp as' H' as' H'' ∧ RH K mg H'' as' h' ∧ RP K mg H'' as' v x
          | some none => ∃ xs ys : List V, SqK (kindK v) K H' a xs ∧ SqK (kindK w) K H' b ys ∧ i ≤ xs.length ∧ i ≤ ys.length ∧ (i = xs.length ∨ i = ys.length)
          | none => True := fun hn => by
        by_cases hl : i ≤ xs.length ∧ i ≤ ys.length
        · rw [if_pos hl]
          have l1 := rs.length
          have l2 := rs'.length
          refine ⟨us, ws, hs, hs', by omega, by omega, ?_⟩
          rcases hn with hn | hn
          · have := List.getElem?_eq_none_iff.mp hn; omega
          · have := List.getElem?_eq_none_iff.mp hn; omega
        · rw [if_neg hl]
          trivial
      cases qi : xs[i]? with
      | none =>
        simp only [qi]
        have z := stp (.inl qi)
        by_cases hl : i ≤ xs.length ∧ i ≤ ys.length
        · rw [if_pos hl] at z ⊢; exact z
        · rw [if_neg hl]; trivial
      | some p =>
        cases qj : ys[i]? with
        | none =>
          simp only [qi, qj]
          have z := stp (.inr qj)
          by_cases hl : i ≤ xs.length ∧ i ≤ ys.length
          · rw [if_pos hl] at z ⊢; exact z
          · rw [if_neg hl]; trivial
        | some p' =>
          simp only [qi, qj]
          obtain ⟨c1, e3, r3⟩ := rs.get qi
          obtain ⟨c2, e4, r4⟩ := rs'.get qj
          refine ⟨⟨us, ws, c1, c2, hs, hs', e3, e4⟩, fun y H'' hy => ?_⟩
          obtain ⟨T, z1, z2, rfl, nT, rfl, g1, g2⟩ := hy
          have f1 : z1 = c1 := Option.some.inj ((g1 _ hs).symm.trans e3)
          have f2 : z2 = c2 := Option.some.inj ((g2 _ hs').symm.trans e4)
          subst f1
          subst f2
          have S2 := Stp.lay (o := .tup [z1, z2]) x nT
          exact ⟨S2, x.lay nT, .tup (SqT.of upd_same) (.cons (r3.mono S2) (.cons (r4.mono S2) .nil))⟩
theorem ii_enum {p : Pos} {elts : List Expr} {kk : Nat} {tpos : Pos} (hm : X.mg "enumerate" = none) (ha : PA X [e] (IA X.K X.mg W L)) (hg : Gl X "enumerate" := by rfl) (hs : starEach [e] X.env = [(false, eval e X.env)] := by rfl) : PI X (.Tuple elts kk tpos) (.Call (.Name "enumerate" p) [e] [] pos) (II X.K X.mg W (eEnum L)) := by
  refine piImp (pi_E hg hm ha hs) fun s H Q ⟨as, ρ, hh, f, x, o⟩ => ?_
  refine ⟨as, ρ, hh, f, x, (Out.bind o).imp fun Vs H1 ⟨as1, h1, p1, S1, x1, r1, o1⟩ => ?_⟩
  split at o1
  · obtain ⟨v, rfl, rv⟩ := r1.inv1
    split at o1
    · rename_i zs hz
      obtain ⟨a, ys, rfl, h2, _⟩ := seqOf_at x1 rv hz
      exact ⟨_, a, ys, rfl, h2, o1.here x1 (ri_enum rv)⟩
    · exact o1.elim
  · exact o1.elim
theorem ii_zip {p : Pos} {elts : List Expr} {kk : Nat} {tpos : Pos} (hm : X.mg "zip" = none) (ha : PA X [a, b] (IA X.K X.mg W L)) (hg : Gl X "zip" := by rfl) (hs : starEach [a, b] X.env = (false, eval a X.env) :: starEach [b] X.env := by rfl) (hpl : (backTo pos (starEach [b] X.env)).any (·.1) = false := by rfl) :
    PI X (.Tuple elts kk tpos) (.Call (.Name "zip" p) [a, b] [] pos) (II X.K X.mg W (eZip L)) := by
  refine piImp (pi_Z hg hm ha hs hpl) fun s H Q ⟨as, ρ, hh, f, x, o⟩ => ?_
  refine ⟨as, ρ, hh, f, x, (Out.bind o).imp fun Vs H1 ⟨as1, h1, p1, S1, x1, r1, o1⟩ => ?_⟩
  split at o1
  · obtain ⟨v, w, rfl, rv, rw'⟩ := r1.inv2
    split at o1
    · rename_i zs zs' hz hz'
      obtain ⟨a, ys, rfl, h2, _⟩ := seqOf_at x1 rv hz
      obtain ⟨b, ys', rfl, h3, _⟩ := seqOf_at x1 rw' hz'
      exact ⟨_, _, a, b, ys, ys', rfl, h2, h3, o1.here x1 (ri_zip rv rw')⟩
    · exact o1.elim
  · exact o1.elim
end
end WR

/-! built-ins, methods of lists, own classes -/
namespace WR
open PySem PySem.Spec PyProof.Rows L2
/-! ### the code -/
@[simp] def pAbs : List PV → IH → Res PV
  | [.int i], h => .ok (.int (if i < 0 then -i else i)) h
  | _, _ => .bad
@[simp] def pMax2 : List PV → IH → Res PV
  | [.int i, .int j], h => .ok (.int (if j > i then j else i)) h
  | _, _ => .bad
@[simp] def pMin2 : List PV → IH → Res PV
  | [.int i, .int j], h => .ok (.int (if j < i then j else i)) h
  | _, _ => .bad
@[simp] def pInt1 : List PV → IH → Res PV
  | [.int i], h => .ok (.int i) h
  | [.bl b], h => .ok (.int (if b then 1 else 0)) h
  | _, _ => .bad
@[simp] def pLen : List PV → IH → Res PV
  | [v], h => (match v with
    | .str y => if y.length ≤ 16777216 then .ok (.int y.length) h else .bad
    | _ => (match seqOf v h with
      | some xs => .ok (.int xs.length) h
      | none => .bad))
  | _, _ => .bad
@[simp] def pList1 : List PV → IH → Res PV
  | [v], h => (match seqOf v h with
    | some xs => .ok (.obj h.length) (h ++ [.lst xs])
    | none => .bad)
  | _, _ => .bad
@[simp] def pTuple1 : List PV → IH → Res PV
  | [v], h => (match seqOf v h with
    | some xs => .ok (.tup xs) h
    | none => .bad)
  | _, _ => .bad
/-- the type of a value: a built-in's name, or an own class's -/
@[simp] def tyOf : PV → IH → Option (String ⊕ Str)
  | .non, _ => some (.inl "NoneType")
  | .bl _, _ => some (.inl "bool")
  | .int _, _ => some (.inl "int")
  | .str _, _ => some (.inl "str")
  | .tup _, _ => some (.inl "tuple")
  | .fls _, _ => some (.inl "list")
  | .obj n, h => (match h[n]? with
    | some (.lst _) => some (.inl "list")
    | some (.ins c _) => some (.inr c)
    | some (.dct _) => some (.inl "dict")
    | _ => none)
  | _, _ => none
def tyNames : List String := ["NoneType", "bool", "int", "str", "tuple", "list", "dict"]
def subTy (a b : String) : Bool := a == b || (a == "bool" && b == "int")
/-- isinstance(x, c), the own classes being cs -/
@[simp] def pIsi (cs : List Str) : List PV → IH → Res PV
  | [x, c], h => (match tyOf x h, c with
    | some (.inl a), .ty n => if tyNames.contains n then .ok (.bl (subTy a n)) h else .bad
    | some (.inl _), .glo C => if cs.contains C then .ok (.bl false) h else .bad
    | some (.inr D), .glo C => if cs.contains C && cs.contains D then .ok (.bl (D == C)) h else .bad
    | some (.inr D), .ty n => if cs.contains D && tyNames.contains n then .ok (.bl false) h else .bad
    | _, _ => .bad)
  | _, _ => .bad
@[simp] def eAppend (A : EX) (L : AX) : EX := fun r h => (A r h).bind fun x h1 => match x with
  | .obj n => (match h1[n]? with
    | some (.lst _) => (L r h1).bind fun vs h2 => (match vs, h2[n]? with
      | [y], some (.lst xs) => if xs.length < 16777216 then .ok .non (h2.set n (.lst (xs ++ [y]))) else .bad
      | _, _ => .bad)
    | _ => .bad)
  | _ => .bad
@[simp] def sSetIx (O I V : EX) : SX := fun r h => toS ((V r h).bind fun v h1 => (O r h1).bind fun o h2 => (I r h2).bind fun i h3 => (match o, i with
    | .obj n, .int k => (match h3[n]? with
      | some (.lst xs) => (match ixN xs.length k with
        | some j => Res.ok () (h3.set n (.lst (xs.set j v)))
        | none => .bad)
      | _ => .bad)
    | _, _ => .bad)) r fun _ h1 => .nx r h1
@[simp] def putP (f : Str) (v : PV) : List (Str × PV) → List (Str × PV)
  | [] => [(f, v)]
  | (g, y) :: r => if g = f then (g, v) :: r else (g, y) :: putP f v r
@[simp] def eFld (c f : Str) (A : EX) : EX := fun r h => (A r h).bind fun x h1 => match x with
  | .obj n => (match h1[n]? with
    | some (.ins c' fs) => if c' = c then opt (fs.lookup f) h1 else .bad
    | _ => .bad)
  | _ => .bad
@[simp] def sFldX (c f : Str) (A V : EX) : SX := fun r h => toS ((V r h).bind fun v h1 => (A r h1).bind fun x h2 => (match x with
    | .obj n => (match h2[n]? with
      | some (.ins c' fs) => if c' = c ∧ fs.length < 1000 then Res.ok () (h2.set n (.ins c (putP f v fs))) else .bad
      | _ => .bad)
    | _ => .bad)) r fun _ h1 => .nx r h1
/-- C(..): a new instance, then __init__ -/
def mk (c : Str) (F : List PV → IH → Res PV) : List PV → IH → Res PV := fun us h => (F (.obj h.length :: us) (h ++ [.ins c []])).bind fun _ h1 => .ok (.obj h.length) h1
/-- o.m(..) -/
@[simp] def eMeth (c m : Str) (F : List PV → IH → Res PV) (A : EX) (L : AX) : EX := fun r h => (A r h).bind fun x h1 => match x with
  | .obj n => (match h1[n]? with
    | some (.ins c' fs) => if c' = c ∧ fs.lookup m = none then (L r h1).bind fun vs h2 => F (x :: vs) h2 else .bad
    | _ => .bad)
  | _ => .bad
/-- a call that lets no exception out -/
@[simp] def noX {α : Type} : Res α → Res α
  | .ok a h => .ok a h
  | _ => .bad
@[simp] def eProp (c : Str) (F : List PV → IH → Res PV) (A : EX) : EX := fun r h => (A r h).bind fun x h1 => match x with
  | .obj n => (match h1[n]? with
    | some (.ins c' _) => if c' = c then noX (F [x] h1) else .bad
    | _ => .bad)
  | _ => .bad
/-- len(o), == of own classes -/
@[simp] def pLenO (c : Str) (F : List PV → IH → Res PV) : List PV → IH → Res PV
  | [x], h => (match x with
    | .obj n => (match h[n]? with
      | some (.ins c' _) => if c' = c then (match F [x] h with
        | .ok (.int i) h1 => if 0 ≤ i ∧ i < 9223372036854775808 then .ok (.int i) h1 else .bad
        | _ => .bad) else .bad
      | _ => .bad)
    | _ => .bad)
  | _, _ => .bad
@[simp] def isTupOr (c : Str) (y : PV) (h : IH) : Bool := match y with
  | .tup _ => true
  | .obj n => (match h[n]? with
    | some (.ins c' _) => c' == c
    | _ => false)
  | _ => false
@[simp] def pEqO (c : Str) (F : List PV → IH → Res PV) (x y : PV) (h : IH) : Res PV := match x with
  | .obj n => (match h[n]? with
    | some (.ins c' _) => if c' = c ∧ isTupOr c y h = true then (match F [x, y] h with
      | .ok (.bl b) h1 => .ok (.bl b) h1
      | _ => .bad) else .bad
    | _ => .bad)
  | _ => .bad
/-! ### the rules -/
section
variable {X : Cx} {W : WX} {k : Nat} {a b e o : Expr} {es : List Expr} {pos : Pos} {A B C : EX} {L : AX}
theorem ie_callB {id : String} {x : Str} {p : Pos} {r : List V → Hp → VK → Prop} {f : List PV → IH → Res PV} (hc : CallR X (.builtin id) r) (hf : SndC X.K X.mg f r) (hm : X.mg x = none) (hv : bootBuiltins x = some (.builtin id)) (ha : PA X (e :: es) (IA X.K X.mg W L)) (hg : Gl X x := by rfl) (hn : x ≠ "__name__" := by decide) (hdb : (x == ("__debug__" : Str)) = false := by decide)
    (he : starEach (e :: es) X.env = (false, eval e X.env) :: starEach es X.env := by rfl) (hpl : (backTo pos (starEach es X.env)).any (·.1) = false := by rfl) : PE X (.Call (.Name x p) (e :: es) [] pos) (IE X.K X.mg W (eB f L)) := by
  refine peImp (pe_callB hc hg hm hv ha hn hdb he hpl) fun s H Q ⟨as, ρ, hh, g, z, o⟩ => ?_
  exact ⟨as, ρ, hh, g, z, (Out.bind o).imp fun Vs H1 ⟨as1, h1, p1, S1, x1, r1, o1⟩ => hf x1 r1 o1⟩
theorem ie_callT {T : String} {x : Str} {p : Pos} {r : List V → Hp → VK → Prop} {f : List PV → IH → Res PV} (hc : CallR X (.type T) r) (hf : SndC X.K X.mg f r) (hm : X.mg x = none) (hv : bootBuiltins x = some (.type T)) (ha : PA X (e :: es) (IA X.K X.mg W L)) (hg : Gl X x := by rfl) (hn : x ≠ "__name__" := by decide) (hdb : (x == ("__debug__" : Str)) = false := by decide)
    (he : starEach (e :: es) X.env = (false, eval e X.env) :: starEach es X.env := by rfl) (hpl : (backTo pos (starEach es X.env)).any (·.1) = false := by rfl) : PE X (.Call (.Name x p) (e :: es) [] pos) (IE X.K X.mg W (eB f L)) := by
  refine peImp (pe_callTy hc hg hm hv ha hn hdb he hpl) fun s H Q ⟨as, ρ, hh, g, z, o⟩ => ?_
  exact ⟨as, ρ, hh, g, z, (Out.bind o).imp fun Vs H1 ⟨as1, h1, p1, S1, x1, r1, o1⟩ => hf x1 r1 o1⟩
variable {K : PySem.W.Frag} {mg : Str → Option Value}
theorem snd_abs : SndC K mg pAbs (fun xs H Q => ∃ i, xs = [.int i] ∧ Q (.int (if i < 0 then -i else i)) H) := by
  intro W s as H h xs Us Q rh rs o
  unfold pAbs at o
  split at o
  · obtain ⟨v, rfl, rv⟩ := rs.inv1; cases rv; exact ⟨_, rfl, o.here rh (.int _)⟩
  · exact o.elim
theorem snd_max2 : SndC K mg pMax2 (fun xs H Q => ∃ i j, xs = [.int i, .int j] ∧ Q (.int (if j > i then j else i)) H) := by
  intro W s as H h xs Us Q rh rs o
  unfold pMax2 at o
  split at o
  · obtain ⟨v, w, rfl, rv, rw'⟩ := rs.inv2; cases rv; cases rw'; exact ⟨_, _, rfl, o.here rh (.int _)⟩
  · exact o.elim
theorem snd_min2 : SndC K mg pMin2 (fun xs H Q => ∃ i j, xs = [.int i, .int j] ∧ Q (.int (if j < i then j else i)) H) := by
  intro W s as H h xs Us Q rh rs o
  unfold pMin2 at o
  split at o
  · obtain ⟨v, w, rfl, rv, rw'⟩ := rs.inv2; cases rv; cases rw'; exact ⟨_, _, rfl, o.here rh (.int _)⟩
  · exact o.elim
theorem snd_int1 : SndC K mg pInt1 (fun xs H Q => (∃ i, xs = [.int i] ∧ Q (.int i) H) ∨ ∃ k, xs = [.bl k] ∧ Q (.int (if k then 1 else 0)) H) := by
  intro W s as H h xs Us Q rh rs o
  unfold pInt1 at o
  split at o
  · obtain ⟨v, rfl, rv⟩ := rs.inv1; cases rv; exact .inl ⟨_, rfl, o.here rh (.int _)⟩
  · obtain ⟨v, rfl, rv⟩ := rs.inv1; cases rv; exact .inr ⟨_, rfl, o.here rh (.int _)⟩
  · exact o.elim
theorem SqK.or {t : Bool} {H : Hp} {a : Addr} {ys : List V} (h : SqK t K H a ys) : SqL K H a ys ∨ SqT K H a ys := by
  cases t with
  | true => exact .inr h
  | false => exact .inl h
theorem snd_len : SndC K mg pLen (fun xs H Q => ∃ x n, xs = [x] ∧ LenV K x H n ∧ Q (.int n) H) := by
  intro W s as H h xs Us Q rh rs o
  unfold pLen at o
  split at o
  · obtain ⟨v, rfl, rv⟩ := rs.inv1
    split at o
    · cases rv
      split at o
      · rename_i hl
        exact ⟨_, _, rfl, ⟨by rw [sizeLine_eq]; exact hl, rfl⟩, o.here rh (.int _)⟩
      · exact o.elim
    · split at o
      · rename_i zs hz
        obtain ⟨a, ys, rfl, h1, r1⟩ := seqOf_at rh rv hz
        refine ⟨_, _, rfl, ?_, o.here rh (.int _)⟩
        rcases SqK.or h1 with h1 | h1
        · exact .inl ⟨ys, h1, r1.length⟩
        · exact .inr ⟨ys, h1, r1.length⟩
      · exact o.elim
  · exact o.elim
theorem snd_list1 : SndC K mg pList1 (fun xs H Q => ∃ p ys, xs = [.ref p] ∧ (SqL K H p ys ∨ SqT K H p ys) ∧ ∀ l, H l = none → Q (.ref l) (upd H l (.lst ys))) := by
  intro W s as H h xs Us Q rh rs o
  unfold pList1 at o
  split at o
  · obtain ⟨v, rfl, rv⟩ := rs.inv1
    split at o
    · rename_i p _ zs hz
      obtain ⟨a, ys, rfl, h1, r1⟩ := seqOf_at rh rv hz
      refine ⟨_, ys, rfl, ?_, fun l nl => ?_⟩
      · cases hk : kindK p with
        | true => rw [hk] at h1; exact .inr h1
        | false => rw [hk] at h1; exact .inl h1
      · have S := Stp.new (o := .lst ys) rh nl
        refine o _ _ _ S (rh.new nl ⟨_, upd_same, r1.mono S⟩) (.obj ?_)
        rw [List.getElem?_append_right (by rw [rh.len]; exact Nat.le_refl _), rh.len, Nat.sub_self]
        rfl
    · exact o.elim
  · exact o.elim
theorem snd_tuple1 : SndC K mg pTuple1 (fun xs H Q => ∃ p ys, xs = [.ref p] ∧ ((SqL K H p ys ∧ ∀ l, H l = none → Q (.ref l) (upd H l (.tup ys))) ∨ (SqT K H p ys ∧ Q (.ref p) H))) := by
  intro W s as H h xs Us Q rh rs o
  unfold pTuple1 at o
  split at o
  · obtain ⟨v, rfl, rv⟩ := rs.inv1
    split at o
    · rename_i p _ zs hz
      obtain ⟨a, ys, rfl, h1, r1⟩ := seqOf_at rh rv hz
      refine ⟨_, ys, rfl, ?_⟩
      cases hk : kindK p with
      | true =>
        rw [hk] at h1
        exact .inr ⟨h1, o.here rh (.tup h1 r1)⟩
      | false =>
        rw [hk] at h1
        exact .inl ⟨h1, fun l nl => o _ _ _ (Stp.lay rh nl) (rh.lay nl) (.tup (SqT.of upd_same) (r1.mono (Stp.lay rh nl)))⟩
    · exact o.elim
  · exact o.elim
/-! ### own classes -/
/-- what the top says of an own class -/
structure OwnC (K : PySem.W.Frag) (mg : Str → Option Value) (c : Str) (C : Addr) : Prop where
  gC : mg c = some (.ref C)
  cl : Cls K C
  ha : PySem.W.findIn K (.ref C) "__class__" = some (some (.builtin "object.__class__"))
  hn : PySem.W.specialIn K (.builtin "object.__class__") "__get__" = some (some (.builtin "getset_descriptor.__get__"))
  htk : PySem.W.takesIn K (.builtin "object.__class__") = some true
  hm : PySem.W.mroIn K C (.type "object") = some true
  bi : ∀ n, tyNames.contains n = true → PySem.W.kitOne K (.type n) (.ref C) = some false
  bo : ∀ n, tyNames.contains n = true → PySem.W.kitOne K (.ref C) (.type n) = some false
/-- .. and of all of them together -/
structure OwnCs (K : PySem.W.Frag) (mg : Str → Option Value) (cs : List Str) : Prop where
  one : ∀ c, cs.contains c = true → ∃ C, OwnC K mg c C
  two : ∀ c d C D, cs.contains c = true → cs.contains d = true → mg c = some (.ref C) → mg d = some (.ref D) → PySem.W.kitOne K (.ref D) (.ref C) = some (d == c)
theorem sub_kit : ∀ a ∈ tyNames, ∀ b ∈ tyNames, kitB a b = some (subTy a b) := by decide +kernel
theorem ty_in {v : PV} {h : IH} {a : String} (e : tyOf v h = some (.inl a)) : a ∈ tyNames := by
  cases v with
  | non => cases e; decide
  | bl => cases e; decide
  | int => cases e; decide
  | str => cases e; decide
  | tup => cases e; decide
  | fls => cases e; decide
  | obj n =>
    simp only [tyOf] at e
    split at e
    · cases e; decide
    · cases e
    · cases e; decide
    · cases e
  | glo => cases e
  | ty => cases e
  | key => cases e
theorem mem_of_contains {α : Type} [BEq α] [LawfulBEq α] {a : α} {l : List α} (h : l.contains a = true) : a ∈ l := by simpa using h
theorem tyX_of {as : List Addr} {H : Hp} {h : IH} {v : PV} {V : V} {cs : List Str} (O : OwnCs K mg cs) (x : RH K mg H as h) (r : RP K mg H as v V) {q : String ⊕ Str} (e : tyOf v h = some q) (hc : ∀ c, q = .inr c → cs.contains c = true) :
    ∃ t, TyX K H V t ∧ match q with
      | .inl a => t = .type a
      | .inr c => ∃ C, OwnC K mg c C ∧ t = .ref C := by
  cases r with
  | non => cases e; exact ⟨_, .base .non, rfl⟩
  | bl b => cases e; exact ⟨_, .base (.bl b), rfl⟩
  | int i => cases e; exact ⟨_, .base (.int i), rfl⟩
  | str y => cases e; exact ⟨_, .base (.str y), rfl⟩
  | tup hs rs =>
    cases e
    rcases hs with (hs | ⟨o, hs⟩) | ⟨o, its, n, h1, h2, _⟩
    · exact ⟨_, .base (.tup hs), rfl⟩
    · exact ⟨_, .fTuple hs, rfl⟩
    · exact ⟨_, .kTuple h1 h2, rfl⟩
  | fls hs rs =>
    cases e
    rcases hs with ⟨o, hs⟩ | ⟨o, its, n, h1, h2, _⟩
    · exact ⟨_, .base (.frz hs), rfl⟩
    · exact ⟨_, .kList h1 h2, rfl⟩
  | obj ha =>
    simp only [tyOf] at e
    split at e
    · rename_i zs hz
      cases e
      obtain ⟨b, e1, ys, e2, rs⟩ := x.at_ _ _ hz
      rw [ha] at e1; cases e1
      exact ⟨_, .base (.lst e2), rfl⟩
    · rename_i c fs hz
      cases e
      obtain ⟨b, e1, C, dx, gs, g0, e2, _⟩ := x.at_ _ _ hz
      rw [ha] at e1; cases e1
      obtain ⟨C', oc⟩ := O.one c (hc c rfl)
      have : C' = C := by
        have := oc.gC.symm.trans g0
        cases this
        rfl
      subst this
      exact ⟨_, .base (.ins e2 oc.cl oc.ha oc.hn oc.htk oc.hm), C', oc, rfl⟩
    · rename_i kvs hz
      cases e
      obtain ⟨b, e1, gs, e2, _⟩ := x.at_ _ _ hz
      rw [ha] at e1; cases e1
      exact ⟨_, .base (.dT e2), rfl⟩
    · cases e
  | glo => cases e
  | ty => cases e
  | key => cases e
theorem snd_isi {cs : List Str} (O : OwnCs K mg cs) : SndC K mg (pIsi cs) (rIsi K) := by
  intro W s as H h xs Us Q rh rs o
  unfold pIsi at o
  split at o
  · obtain ⟨v, w, rfl, rv, rw'⟩ := rs.inv2
    split at o
    · rename_i a n e
      split at o
      · rename_i hn
        obtain ⟨t, h1, rfl⟩ := tyX_of O rh rv e (fun c z => nomatch z)
        cases rw'
        exact ⟨_, _, _, _, _, rfl, .ty n, h1, kit_ty (sub_kit _ (ty_in e) _ (mem_of_contains hn)), o.here rh (.bl _)⟩
      · exact o.elim
    · rename_i a C e
      split at o
      · rename_i hn
        obtain ⟨t, h1, rfl⟩ := tyX_of O rh rv e (fun c z => nomatch z)
        obtain ⟨D, oc⟩ := O.one _ hn
        cases rw' with
        | glo g1 g2 =>
          rw [oc.gC] at g1
          cases g1
          have g3 : w = .ref D := by
            cases w <;> first | (obtain ⟨_, z⟩ := g2; cases z) | cases g2
            all_goals rfl
          subst g3
          exact ⟨_, _, _, _, _, rfl, .own D, h1, oc.bi _ (by simpa using ty_in e), o.here rh (.bl _)⟩
      · exact o.elim
    · rename_i D C e
      split at o
      · rename_i hn
        obtain ⟨n1, n2⟩ := Bool.and_eq_true_iff.mp hn
        obtain ⟨t, h1, E', oc, rfl⟩ := tyX_of O rh rv e (fun c z => by cases z; exact n2)
        obtain ⟨G, oc'⟩ := O.one _ n1
        cases rw' with
        | glo g1 g2 =>
          rw [oc'.gC] at g1
          cases g1
          have g3 : w = .ref G := by
            cases w <;> first | (obtain ⟨_, z⟩ := g2; cases z) | cases g2
            all_goals rfl
          subst g3
          exact ⟨_, _, _, _, _, rfl, .own G, h1, O.two _ _ _ _ n1 n2 oc'.gC oc.gC, o.here rh (.bl _)⟩
      · exact o.elim
    · rename_i D n e
      split at o
      · rename_i hn
        obtain ⟨n1, n2⟩ := Bool.and_eq_true_iff.mp hn
        obtain ⟨t, h1, E', oc, rfl⟩ := tyX_of O rh rv e (fun c z => by cases z; exact n1)
        cases rw'
        exact ⟨_, _, _, _, _, rfl, .ty n, h1, oc.bo _ n2, o.here rh (.bl _)⟩
      · exact o.elim
    · exact o.elim
  · exact o.elim

/-! ### lists, fields -/
theorem ie_append {apos : Pos} (ho : PE X o (IE X.K X.mg W A)) (ha : PA X (e :: es) (IA X.K X.mg W L)) (hbase : attributeBase o "append" X.env (eval o X.env) = eval o X.env := by rfl)
    (hfew : ((backTo pos (starEach (e :: es) X.env)).all (fun x => !x.1) && (backToKw pos (keywordEach [] X.env)).all (fun x => x.1.isSome)
      && decide ((e :: es).length + ([] : List Keyword).length + (if ([] : List Keyword).isEmpty then 0 else 1) < 30)) = true := by rfl)
    (hline : (apos.endLine == pos.line) = true := by rfl) (hs : starEach (e :: es) X.env = (false, eval e X.env) :: starEach es X.env := by rfl) (hplain : (backTo pos (starEach es X.env)).any (·.1) = false := by rfl) :
    PE X (.Call (.Attribute o "append" apos) (e :: es) [] pos) (IE X.K X.mg W (eAppend A L)) := by
  refine peImp (pe_bm PySem.F.plainAttrs_list PySem.F.slot_list_append PySem.F.type_list_append mt_append ho ha hbase hfew hline hs hplain) fun s H Q ⟨as, ρ, hh, f, x, o⟩ => ?_
  refine ⟨as, ρ, hh, f, x, (Out.bind o).imp fun V H1 ⟨as1, h1, p1, S1, x1, r1, o1⟩ => ?_⟩
  split at o1
  · rename_i n
    cases r1 with
    | obj hn =>
      split at o1
      · rename_i ys hy
        obtain ⟨b, e1, us, e2, rs⟩ := x1.at_ _ _ hy
        rw [hn] at e1; cases e1
        refine ⟨.inl ⟨rfl, _, SqL.of e2⟩, as1, ρ, h1, f.mono S1, x1, (Out.bind o1).imp fun Vs H2 ⟨as2, h2, p2, S2, x2, r2, o2⟩ => ?_⟩
        split at o2
        · rename_i y xs hx
          split at o2
          · rename_i hl
            obtain ⟨v, rfl, rv⟩ := r2.inv1
            obtain ⟨b', e3, ws, e4, rs'⟩ := x2.at_ _ _ hx
            have hn2 := S2.get hn
            rw [hn2] at e3; cases e3
            refine ⟨_, ws, v, rfl, rfl, e4, by rw [sizeLine_eq, ← rs'.length]; exact hl, ?_⟩
            have S3 := Stp.put (o := .lst (ws ++ [v])) x2 hn2 hx
            exact o2 _ _ _ S3 (x2.put hn2 hx ⟨_, upd_same, (rs'.append (.one rv)).mono S3⟩) .non
          · exact o2.elim
        · exact o2.elim
      · exact o1.elim
  · exact o1.elim
theorem is_setix {i v : Expr} {ppos : Pos} {O I V : EX} (hv : PE X v (IE X.K X.mg W V)) (ho : PE X o (IE X.K X.mg W O)) (hi : PE X i (IE X.K X.mg W I))
    (hset : ∀ v, assign (.Subscript o i ppos) X.env v = (do
      let ov ← holding [v] (eval o X.env)
      let iv ← holding [v, ov] (eval i X.env)
      standAt ppos
      holding [v, ov, iv] (setItem ov iv v)
      release [v, ov, iv] []) := by intro _; rfl)
    (hs : swapsWithSole [.Subscript o i ppos] v pos.line X.env = pure false := by rfl) (hw : swappedStores [.Subscript o i ppos] v X.env = pure none := by rfl)
    (h1 : (assignEach [.Subscript o i ppos] X.env).map (·.2) = [assign (.Subscript o i ppos) X.env] := by rfl) : PS X (.Assign [.Subscript o i ppos] v pos) (IS X.K X.mg W (sSetIx O I V)) := by
  refine psImp (ps_asg hv (pg_sub ho hi set_list hset) hs hw h1) fun D s H ⟨as, r, h, f, x, out⟩ => ?_
  have o' := outS_of (R := fun _ _ (_ : Unit) (_ : Unit) => True) f out
  refine ⟨as, r, h, f, x, (Out.bind o').imp fun U H1 ⟨as1, h1, p1, S1, x1, r1, o1⟩ => ?_⟩
  refine ⟨as1, r, h1, f.mono S1, x1, (Out.bind o1).imp fun U2 H2 ⟨as2, h2, p2, S2, x2, r2, o2⟩ => ?_⟩
  refine ⟨as2, r, h2, (f.mono S1).mono S2, x2, (Out.bind o2).imp fun U3 H3 ⟨as3, h3, p3, S3, x3, r3, o3⟩ => ?_⟩
  have r2' := r2.mono S3
  have r1' := (r1.mono S2).mono S3
  split at o3
  · cases r2' with
    | obj hn =>
      cases r3
      split at o3
      · rename_i xs hx
        split at o3
        · rename_i j hj
          obtain ⟨b, e1, us, e2, rs⟩ := x3.at_ _ _ hx
          rw [hn] at e1; cases e1
          refine ⟨_, us, _, j, rfl, rfl, e2, by rw [← rs.length]; exact hj, ?_⟩
          have S4 := Stp.put (o := .lst (us.set j U)) x3 hn hx
          obtain ⟨as5, h5, _, S5, x5, _, o5⟩ := o3 () _ _ S4 (x3.put hn hx ⟨_, upd_same, (RPs.set r1' j rs).mono S4⟩) trivial
          exact o5 s _ as5 (Stp.refl _ _) x5 (f.mono S5)
        · exact o3.elim
      · exact o3.elim
  · exact o3.elim
/-- the fields of an instance -/
theorem fld_at {as : List Addr} {H : Hp} : ∀ {fs : List (Str × PV)} {gs : List (Str × V)} {f : Str} {v : PV}, gs.map (·.1) = fs.map (·.1) → RPs K mg H as (fs.map (·.2)) (gs.map (·.2)) → fs.lookup f = some v → ∃ V, gs.lookup f = some V ∧ RP K mg H as v V
  | [], _, _, _, _, _, e => by cases e
  | _ :: _, [], _, _, h, _, _ => by cases h
  | (n, p) :: fs, (m, q) :: gs, f, v, h, r, e => by
    rw [List.map_cons, List.map_cons] at h
    injection h with h1 h2
    have h1' : m = n := h1
    subst h1'
    cases r with
    | cons a b =>
      simp only [List.lookup] at e ⊢
      split at e
      · cases e
        exact ⟨q, rfl, a⟩
      · exact fld_at h2 b e
theorem fld_none {fs : List (Str × PV)} {gs : List (Str × V)} {f : Str} (h : gs.map (·.1) = fs.map (·.1)) (e : fs.lookup f = none) : gs.lookup f = none := by
  induction fs generalizing gs with
  | nil =>
    cases gs with
    | nil => rfl
    | cons _ _ => cases h
  | cons p fs ih =>
    cases gs with
    | nil => cases h
    | cons q gs =>
      obtain ⟨n, p⟩ := p
      obtain ⟨m, q⟩ := q
      rw [List.map_cons, List.map_cons] at h
      injection h with h1 h2
      have h1' : m = n := h1
      subst h1'
      simp only [List.lookup] at e ⊢
      split at e
      · cases e
      · exact ih h2 e
theorem put_keys (f : Str) (v : PV) (V : V) : ∀ {fs : List (Str × PV)} {gs : List (Str × L2.V)}, gs.map (·.1) = fs.map (·.1) → (putF f V gs).map (·.1) = (putP f v fs).map (·.1)
  | [], [], _ => rfl
  | [], _ :: _, h => by cases h
  | _ :: _, [], h => by cases h
  | (n, p) :: fs, (m, q) :: gs, h => by
    rw [List.map_cons, List.map_cons] at h
    injection h with h1 h2
    have h1' : m = n := h1
    subst h1'
    unfold putF putP
    split
    · rw [List.map_cons, List.map_cons, h2]
    · rw [List.map_cons, List.map_cons, put_keys f v V h2]
theorem put_vals {as : List Addr} {H : Hp} {f : Str} {v : PV} {V : V} (rv : RP K mg H as v V) : ∀ {fs : List (Str × PV)} {gs : List (Str × L2.V)}, gs.map (·.1) = fs.map (·.1) → RPs K mg H as (fs.map (·.2)) (gs.map (·.2)) → RPs K mg H as ((putP f v fs).map (·.2)) ((putF f V gs).map (·.2))
  | [], [], _, _ => .one rv
  | [], _ :: _, h, _ => by cases h
  | _ :: _, [], h, _ => by cases h
  | (n, p) :: fs, (m, q) :: gs, h, r => by
    rw [List.map_cons, List.map_cons] at h
    injection h with h1 h2
    have h1' : m = n := h1
    subst h1'
    cases r with
    | cons a b =>
      unfold putF putP
      split
      · exact .cons rv b
      · exact .cons a (put_vals rv h2 b)
theorem ie_fld {c f : Str} {Cc : Addr} (gc : X.mg c = some (.ref Cc)) (cl : Cls X.K Cc) (na : NoAttr X.K Cc f) (he : PE X e (IE X.K X.mg W A)) (hb : attributeBase e f X.env (eval e X.env) = eval e X.env := by rfl) : PE X (.Attribute e f pos) (IE X.K X.mg W (eFld c f A)) := by
  refine peImp (pe_fld he hb) fun s H Q ⟨as, ρ, hh, g, x, o⟩ => ?_
  refine ⟨as, ρ, hh, g, x, (Out.bind o).imp fun V H1 ⟨as1, h1, p1, S1, x1, r1, o1⟩ => ?_⟩
  split at o1
  · cases r1 with
    | obj hn =>
      split at o1
      · rename_i c' fs hx
        split at o1
        · rename_i hc
          subst hc
          obtain ⟨b, e1, C', dx, gs, g0, e2, e3, rs⟩ := x1.at_ _ _ hx
          rw [hn] at e1; cases e1
          rw [gc] at g0; cases g0
          unfold opt at o1
          split at o1
          · rename_i v hv
            obtain ⟨V', l1, rv⟩ := fld_at e3 rs hv
            exact ⟨_, _, dx, gs, V', rfl, e2, cl, na, l1, o1.here x1 rv⟩
          · exact o1.elim
        · exact o1.elim
      · exact o1.elim
  · exact o1.elim
theorem is_fld {c f : Str} {Cc : Addr} {v : Expr} {V : EX} {ppos : Pos} (gc : X.mg c = some (.ref Cc)) (cl : Cls X.K Cc) (na : NoAttr X.K Cc f) (ha : PE X o (IE X.K X.mg W A)) (hv : PE X v (IE X.K X.mg W V)) (hs : swapsWith v (some (.Attribute o f ppos)) pos.line X.env = pure false := by rfl) :
    PS X (.Assign [.Attribute o f ppos] v pos) (IS X.K X.mg W (sFldX c f A V)) := by
  refine psImp (ps_fld ha hv hs) fun D s H ⟨as, r, h, g, x, out⟩ => ?_
  have o' := outS_of (R := fun _ _ (_ : Unit) (_ : Unit) => True) g out
  refine ⟨as, r, h, g, x, (Out.bind o').imp fun U H1 ⟨as1, h1, p1, S1, x1, r1, o1⟩ => ?_⟩
  refine ⟨as1, r, h1, g.mono S1, x1, (Out.bind o1).imp fun U2 H2 ⟨as2, h2, p2, S2, x2, r2, o2⟩ => ?_⟩
  have r1' := r1.mono S2
  split at o2
  · cases r2 with
    | obj hn =>
      split at o2
      · rename_i c' fs hx
        split at o2
        · rename_i hc
          obtain ⟨hc, hl⟩ := hc
          subst hc
          obtain ⟨b, e1, C', dx, gs, g0, e2, e3, rs⟩ := x2.at_ _ _ hx
          rw [hn] at e1; cases e1
          rw [gc] at g0; cases g0
          have el : gs.length = fs.length := by
            have := congrArg List.length e3
            simpa using this
          refine ⟨_, _, dx, gs, rfl, e2, cl, na, by rw [el]; exact hl, ?_⟩
          have S3 := Stp.put (o := .ins Cc dx (putF f U gs)) x2 hn hx
          obtain ⟨as5, h5, _, S5, x5, _, o5⟩ := o2 () _ _ S3 (x2.put hn hx ⟨Cc, dx, _, gc, upd_same, put_keys f _ U e3, put_vals (r1'.mono S3) e3 (rs.mono S3)⟩) trivial
          exact o5 s _ as5 (Stp.refl _ _) x5 (g.mono S5)
        · exact o2.elim
      · exact o2.elim
  · exact o2.elim
end
end WR

/-! instances made, methods, properties, own len and ==; chains of comparisons -/
namespace WR
open PySem PySem.Spec PyProof.Rows L2
@[simp] def mkO (c : Str) (F : List PV → IH → Res PV) : List PV → IH → Res PV := fun us h => (F (.obj h.length :: us) (h ++ [.ins c []])).bind fun v h1 => match v with
  | .non => .ok (.obj h.length) h1
  | _ => .bad
section
variable {X : Cx} {CX : CXT} {k : Nat} {f C : Addr} {fd : FuncData} {ps : List Str} {sp : Sp} {E : L2.St → XK} {x m : Str} {p pos apos : Pos} {e o : Expr} {es : List Expr} {ta : TE} {t : TA}
theorem run_makeS {pins : List (Addr × Obj)} {σ : L2.St} {H : Hp} {s : Shared} {Q : VK} {us : List Value} {vs : List V} (M : Mk X.K C f) (F : FnOk X.prog X.w X.K X.mg X.base CX k f fd ps sp) (hr : Room (k + 1) X.A) (hb : Binds X.K fd ps [])
    (hx : PassesAt CX X σ (E σ)) (I : Inv X pins σ H s) (r : Vals vs us)
    (h : ∀ x dx, H x = none → H dx = none → dx ≠ x → sp (.ref x :: vs) (upd (upd H dx (.own x)) x (.ins C dx [])) (fun v H2 => v = .non ∧ Q (.ref x) H2) (E σ)) :
    wpAny (model X.prog X.w) X.A (call (.ref C) us) (EP X pins σ Q) X.xe s := by
  have hq := h (s.heap.objs.size + 1) s.heap.objs.size (I.hok.fresh (Nat.le_succ _)) (I.hok.fresh (Nat.le_refl _)) (Nat.ne_of_lt (Nat.lt_succ_self _))
  have I2 := Inv.made (C := C) I
  have r2 : Vals (V.ref (s.heap.objs.size + 1) :: vs) (Value.ref (s.heap.objs.size + 1) :: us) := .cons rfl r
  have hl : (Value.ref (s.heap.objs.size + 1) :: us).length = ps.length := by
    have e := r2.length
    rw [F.len _ _ _ _ hq] at e
    exact e.symm
  have bb := hb _ (Value.ref (s.heap.objs.size + 1) :: us) I2.kIn (by rw [List.append_nil]; exact hl)
  rw [List.append_nil] at bb
  refine wpAny_call (make_map (f := f) I.kIn M.makes M.init (beq_iff_eq.mp M.fn) (codeAny_mono (F.run _ X.stack _ _ ⟨Value.ref (s.heap.objs.size + 1) :: us, []⟩ (Value.ref (s.heap.objs.size + 1) :: us) _ _ (E σ) (hr.make C us [])
    (I2.env0.make C us []) bb r2 hq) fun r s' hq' => ?_))
  cases r with
  | error e => exact hx pins _ _ e s' I2 hq'
  | ok fl =>
    cases fl with
    | ret u =>
      obtain ⟨v, H', I3, rv, ev, q3⟩ := I2.after hq'
      subst ev
      exact ⟨rv, ⟨V.ref (s.heap.objs.size + 1), H', I3, rfl, q3⟩⟩
    | next => exact False.elim hq'
    | brk => exact False.elim hq'
    | cont => exact False.elim hq'
def tMakeS (C : Addr) (sp : Sp) (E : L2.St → XK) (t : TA) : TE := fun σ H Q => t σ H fun vs H1 => ∀ x dx, H1 x = none → H1 dx = none → dx ≠ x →
  sp (.ref x :: vs) (upd (upd H1 dx (.own x)) x (.ins C dx [])) (fun v H2 => v = .non ∧ Q (.ref x) H2) (E σ)
theorem pe_makeS (M : Mk X.K C f) (F : FnOk X.prog X.w X.K X.mg X.base CX k f fd ps sp) (hr : Room (k + 1) X.A) (hg : Gl X x) (hm : X.mg x = some (.ref C)) (hb : Binds X.K fd ps []) (hx : ∀ σ, PassesAt CX X σ (E σ))
    (ha : PA X (e :: es) t) (hdb : (x == ("__debug__" : Str)) = false := by decide) (he : starEach (e :: es) X.env = (false, eval e X.env) :: starEach es X.env := by rfl) (hpl : (backTo pos (starEach es X.env)).any (·.1) = false := by rfl) :
    PE X (.Call (.Name x p) (e :: es) [] pos) (tMakeS C sp E t) := by
  refine ⟨fun pins s σ H Q I h => ?_⟩
  refine wpAny_Call_Name_kw (ld_glob I hg hm ?_ hdb)
  refine PySem.W.callWith_K (h₀ := X.base) I.ok.mod.kin M.kp (thn (ha.run pos pins s σ H _ I h) fun us s1 ⟨vs, H1, I1, r, q⟩ => ⟨I1.kIn, ?_⟩) he hpl
  exact run_makeS M F hr hb (hx σ) I1 r q
def tMethS (C : Addr) (m : Str) (sp : Sp) (E : L2.St → XK) (ta : TE) (t : TA) : TE := fun σ H Q => ta σ H fun x H1 => ∃ a dx fs, x = .ref a ∧ H1 a = some (.ins C dx fs) ∧ fs.lookup m = none ∧
  t σ H1 fun vs H2 => sp (x :: vs) H2 Q (E σ)
theorem pe_methS {pl : Sem Bool} (he : PE X o ta) (c : Cls X.K C) (hm : Meth X.K C m f) (F : FnOk X.prog X.w X.K X.mg X.base CX k f fd ps sp) (hr : Room k X.A) (hb : Binds X.K fd ps []) (hx : ∀ σ, PassesAt CX X σ (E σ)) (ha : PA X (e :: es) t)
    (hst : starEach (e :: es) X.env = (false, eval e X.env) :: starEach es X.env := by rfl) (hpl : (backTo pos (starEach es X.env)).any (·.1) = false := by rfl)
    (ht : eval (.Call (.Attribute o m apos) (e :: es) [] pos) X.env = (do
      let ov ← eval o X.env
      standAt apos.atName
      let (f, first) ← holding [ov] (getMethod ov m pl)
      callWith pos f first (backTo pos (starEach (e :: es) X.env)) (backToKw pos (keywordEach [] X.env))) := by rfl) :
    PE X (.Call (.Attribute o m apos) (e :: es) [] pos) (tMethS C m sp E ta t) := by
  refine ⟨fun pins s σ H Q I h => ?_⟩
  refine PySem.W.methodCall_KW (pl := pl) (thn (he.run pins s σ H _ I h) fun u s1 ⟨x, H1, I1, rx, a, dx, fs, ex, ea, l, q⟩ => ?_) ht
  subst ex
  obtain rfl : u = Value.ref a := rx
  refine getmeth_ok I1 ea c hm l ?_
  refine PySem.W.callWith_K (first := [.ref a]) (h₀ := X.base) I.ok.mod.kin hm.kp (thn (ha.run pos pins s1 σ H1 _ I1 q) fun us s2 ⟨vs, H2, I2, r, q2⟩ => ⟨I2.kIn, ?_⟩) hst hpl
  exact run_fnS (us := .ref a :: us) (vs := .ref a :: vs) F hr hb (hx σ) I2 (.cons rfl r) q2
theorem pe_methS0 {pl : Sem Bool} (he : PE X o ta) (c : Cls X.K C) (hm : Meth X.K C m f) (F : FnOk X.prog X.w X.K X.mg X.base CX k f fd ps sp) (hr : Room k X.A) (hb : Binds X.K fd ps []) (hx : ∀ σ, PassesAt CX X σ (E σ))
    (ht : eval (.Call (.Attribute o m apos) [] [] pos) X.env = (do
      let ov ← eval o X.env
      standAt apos.atName
      let (f, first) ← holding [ov] (getMethod ov m pl)
      callWith pos f first (backTo pos (starEach [] X.env)) (backToKw pos (keywordEach [] X.env))) := by rfl) :
    PE X (.Call (.Attribute o m apos) [] [] pos) (tMethS C m sp E ta tNil) := by
  refine ⟨fun pins s σ H Q I h => ?_⟩
  refine PySem.W.methodCall_KW (pl := pl) (thn (he.run pins s σ H _ I h) fun u s1 ⟨x, H1, I1, rx, a, dx, fs, ex, ea, l, q⟩ => ?_) ht
  subst ex
  obtain rfl : u = Value.ref a := rx
  refine getmeth_ok I1 ea c hm l ?_
  exact PySem.W.callWith_K0 (first := [.ref a]) I1.kIn hm.kp (run_fnS (us := [.ref a]) (vs := [.ref a]) F hr hb (hx σ) I1 (.cons rfl .nil) q)
/-- len of an own class's instance -/
def rLenO (C : Addr) (sp : Sp) : List V → Hp → VK → Prop := fun xs H Q => ∃ a dx fs, xs = [.ref a] ∧ H a = some (.ins C dx fs) ∧ sp [.ref a] H (fun v H' => ∃ n : Int, v = .int n ∧ 0 ≤ n ∧ n < 2 ^ 63 ∧ Q (.int n) H') E0
theorem call_lenO (F : FnOk X.prog X.w X.K X.mg X.base (L2.CX X.prog X.w) k f fd ps sp) (hs : PySem.W.findIn X.K (.ref C) "__len__" = some (some (.ref f))) (hf : PySem.W.isFn X.K (.ref f) = true) (hb : Binds X.K fd ps []) (hr : Room (k + 1) X.A) : CallR X (.builtin "len") (rLenO C sp) := by
  intro pins s σ H xs us Q I r h
  obtain ⟨a, dx, fs, rfl, ea, q⟩ := h
  obtain ⟨u, rfl, ru⟩ := vals1 r
  cases ru
  obtain ⟨mA, J, _⟩ := ins_get I.hok ea
  obtain ⟨od, J, _⟩ := J.look
  obtain ⟨m, hF⟩ := I.fr
  have hl := F.len _ _ _ _ q
  have bb := hb s [.ref a] I.kIn (by simpa using hl)
  refine PySem.W.len_K hF I.ok.mod.kin J hs hf ?_
  refine wpAny_call (codeAny_mono (F.run X.A.in1 X.stack s H ⟨[.ref a], []⟩ [.ref a] [.ref a] _ E0 hr.in1 I.env0.in1 (by simpa using bb) (.cons rfl .nil) q) fun r s' hq => ?_)
  cases r with
  | error er => exact (passL (X := X.nox) pins σ H s er s' (I.wish _) hq).elim
  | ok fl =>
    cases fl with
    | ret w =>
      obtain ⟨v, H', I', rv, n, rfl, h0, h1, qn⟩ := I.after hq
      obtain ⟨tk, rfl⟩ := rv
      exact ⟨⟨h0, h1⟩, ⟨.int n, H', I'.tok _, ⟨_, rfl⟩, qn⟩⟩
    | next => exact False.elim hq
    | brk => exact False.elim hq
    | cont => exact False.elim hq
/-- == of an own class's instance and another one, or a tuple -/
def rEqO (K : PySem.W.Frag) (C : Addr) (sp : Sp) : R2 := fun x y H Q => ∃ a b dx fs, x = .ref a ∧ y = .ref b ∧ H a = some (.ins C dx fs) ∧ ((∃ dy gs, H b = some (.ins C dy gs)) ∨ ∃ ys, SqT K H b ys) ∧
  sp [.ref a, .ref b] H (fun v H' => ∃ q : Bool, v = .bl q ∧ Q (.bl q) H') E0
theorem op_eqO (F : FnOk X.prog X.w X.K X.mg X.base (L2.CX X.prog X.w) k f fd ps sp) (hs : PySem.W.findIn X.K (.ref C) "__eq__" = some (some (.ref f))) (hf : PySem.W.isFn X.K (.ref f) = true) (hb : Binds X.K fd ps []) (hr : Room k X.A)
    (hn : PySem.W.notFirst X.K C (.type "tuple") = true) : OpR X (compareOp .Eq) (rEqO X.K C sp) := by
  intro pins s σ H x y v u Q I rx ry h
  obtain ⟨a, b, dx, fs, rfl, rfl, ea, eb, q⟩ := h
  cases rx
  cases ry
  obtain ⟨mA, J, _⟩ := ins_get I.hok ea
  obtain ⟨od, J, _⟩ := J.look
  obtain ⟨m, hF⟩ := I.fr
  have hl := F.len _ _ _ _ q
  have bb := hb s [.ref a, .ref b] I.kIn (by simpa using hl)
  have go : wpAny (model X.prog X.w) X.A (call (.ref f) [.ref a, .ref b]) (PySem.W.CmpBack (EP X pins σ Q)) X.xe s := by
    refine wpAny_call (codeAny_mono (F.run X.A X.stack s H ⟨[.ref a, .ref b], []⟩ [.ref a, .ref b] [.ref a, .ref b] _ E0 hr I.env0 (by simpa using bb) (.cons rfl (.cons rfl .nil)) q) fun r s' hq => ?_)
    cases r with
    | error er => exact passL pins σ H s er s' I hq
    | ok fl =>
      cases fl with
      | ret w =>
        obtain ⟨v, H', I', rv, n, rfl, qn⟩ := I.after hq
        cases rv
        exact ⟨.bl n, H', I', rfl, qn⟩
      | next => exact False.elim hq
      | brk => exact False.elim hq
      | cont => exact False.elim hq
  show wpAny (model X.prog X.w) X.A (richCompare .Eq (.ref a) (.ref b)) (EP X pins σ Q) X.xe s
  rcases eb with ⟨dy, gs, eb⟩ | ⟨ys, eb⟩
  · obtain ⟨mB, J', _⟩ := ins_get I.hok eb
    obtain ⟨od', J', _⟩ := J'.look
    exact PySem.W.cmp_K (op := .Eq) (tb := .ref C) hr.units0 hF I.ok.mod.kin J J'.type (by simp [PySem.W.notFirst]) hs hf go
  · obtain ⟨its, rv, ⟨ob, ho, hc, _⟩, _⟩ := I.tuple eb
    have L : PySem.W.Looks (model X.prog X.w) s.heap (typeOf (.ref b)) (.type "tuple") := fun A Q E s k q => wpAny_typeOf_ref (k _ _ ho) (by rw [hc]; exact q)
    exact PySem.W.cmp_K (op := .Eq) (tb := .type "tuple") hr.units0 hF I.ok.mod.kin J L hn hs hf go
end
section
variable {X : Cx} {W : WX} {k : Nat} {a b e o c : Expr} {es : List Expr} {pos : Pos} {A B C : EX} {L : AX}
theorem ie_make {f Cc : Addr} {fd : FuncData} {ps : List Str} {x : Str} {p : Pos} {F : List PV → IH → Res PV} {n j : Nat} (cx : Ctx X W k) (M : Mk X.K Cc f) (G : FnOk X.prog X.w X.K X.mg X.base (L2.CX X.prog X.w) j f fd ps (SpF X.K X.mg n F)) (hj : j + 1 ≤ k) (hm : X.mg x = some (.ref Cc)) (hb : Binds X.K fd ps [])
    (ha : PA X (e :: es) (IA X.K X.mg W L)) (hF : ∀ us h, us.length ≠ n → F us h = .bad) (hg : Gl X x := by rfl) (hdb : (x == ("__debug__" : Str)) = false := by decide) (he : starEach (e :: es) X.env = (false, eval e X.env) :: starEach es X.env := by rfl) (hpl : (backTo pos (starEach es X.env)).any (·.1) = false := by rfl) :
    PE X (.Call (.Name x p) (e :: es) [] pos) (IE X.K X.mg W (eCall (mkO x F) L)) := by
  refine peImp (pe_makeS M G (cx.room.mono hj) hg hm hb (fun s => passAt cx.tk s) ha hdb he hpl) fun s H Q ⟨as, r, h, g, z, o⟩ => ?_
  refine ⟨as, r, h, g, z, (Out.bind o).imp fun Vs H1 ⟨as1, h1, us, S1, x1, r1, o1⟩ => ?_⟩
  intro y dy ny nd hne
  have x2 : RH X.K X.mg (upd H1 dy (.own y)) as1 h1 := x1.lay nd
  have S2 : Stp as1 H1 as1 (upd H1 dy (.own y)) := Stp.lay x1 nd
  have ny' : upd H1 dy (.own y) y = none := by rw [upd_ne (Ne.symm hne)]; exact ny
  have S3 := Stp.new (o := .ins Cc dy []) x2 ny'
  have x3 : RH X.K X.mg (upd (upd H1 dy (.own y)) y (.ins Cc dy [])) (as1 ++ [y]) (h1 ++ [.ins x []]) := x2.new ny' ⟨Cc, dy, [], hm, upd_same, rfl, .nil⟩
  have ro : RP X.K X.mg (upd (upd H1 dy (.own y)) y (.ins Cc dy [])) (as1 ++ [y]) (.obj h1.length) (.ref y) := .obj (by
    rw [List.getElem?_append_right (by rw [x1.len]; exact Nat.le_refl _), x1.len, Nat.sub_self]
    rfl)
  have rs : RPs X.K X.mg (upd (upd H1 dy (.own y)) y (.ins Cc dy [])) (as1 ++ [y]) (.obj h1.length :: us) (.ref y :: Vs) := .cons ro ((r1.mono S2).mono S3)
  have o2 := Out.shift (S2.trans S3) o1
  unfold mkO at o2
  refine SpF.of (W := W) (s := s) x3 rs ?_ ((Out.bind o2).imp fun V H4 ⟨as4, h4, v, S4, x4, r4, o4⟩ => ?_)
  · by_cases hn : (PV.obj h1.length :: us).length = n
    · exact hn
    · rw [hF _ _ hn] at o2; exact o2.elim
  · cases r4 with
    | non => exact ⟨rfl, o4.here x4 (ro.mono S4)⟩
    | bl => exact o4.elim
    | int => exact o4.elim
    | str => exact o4.elim
    | tup => exact o4.elim
    | fls => exact o4.elim
    | obj => exact o4.elim
    | glo => exact o4.elim
    | ty => exact o4.elim
    | key => exact o4.elim
theorem ie_meth {f Cc : Addr} {fd : FuncData} {ps : List Str} {m cn : Str} {apos : Pos} {F : List PV → IH → Res PV} {n j : Nat} (pl : Sem Bool) (cx : Ctx X W k) (gc : X.mg cn = some (.ref Cc)) (cl : Cls X.K Cc) (hm : Meth X.K Cc m f) (G : FnOk X.prog X.w X.K X.mg X.base (L2.CX X.prog X.w) j f fd ps (SpF X.K X.mg n F)) (hj : j ≤ k) (hb : Binds X.K fd ps [])
    (ho : PE X o (IE X.K X.mg W A)) (ha : PA X (e :: es) (IA X.K X.mg W L)) (hF : ∀ us h, us.length ≠ n → F us h = .bad)
    (hst : starEach (e :: es) X.env = (false, eval e X.env) :: starEach es X.env := by rfl) (hpl : (backTo pos (starEach es X.env)).any (·.1) = false := by rfl)
    (ht : eval (.Call (.Attribute o m apos) (e :: es) [] pos) X.env = (do
      let ov ← eval o X.env
      standAt apos.atName
      let (f, first) ← holding [ov] (getMethod ov m pl)
      callWith pos f first (backTo pos (starEach (e :: es) X.env)) (backToKw pos (keywordEach [] X.env))) := by rfl) :
    PE X (.Call (.Attribute o m apos) (e :: es) [] pos) (IE X.K X.mg W (eMeth cn m F A L)) := by
  refine peImp (pe_methS ho cl hm G (cx.room.mono hj) hb (fun s => passAt cx.tk s) ha hst hpl ht) fun s H Q ⟨as, r, h, g, z, o⟩ => ?_
  refine ⟨as, r, h, g, z, (Out.bind o).imp fun V H1 ⟨as1, h1, p1, S1, x1, r1, o1⟩ => ?_⟩
  split at o1
  · cases r1 with
    | obj hn =>
      split at o1
      · rename_i c' fs hx
        split at o1
        · rename_i hc
          obtain ⟨hc, hl⟩ := hc
          subst hc
          obtain ⟨b, e1, C', dx, gs, g0, e2, e3, rs⟩ := x1.at_ _ _ hx
          rw [hn] at e1; cases e1
          rw [gc] at g0; cases g0
          refine ⟨_, dx, gs, rfl, e2, fld_none e3 hl, as1, r, h1, g.mono S1, x1, (Out.bind o1).imp fun Vs H2 ⟨as2, h2, us, S2, x2, r2, o2⟩ => ?_⟩
          refine SpF.of x2 (RPs.cons (.obj (S2.get hn)) r2) ?_ o2
          by_cases hn' : us.length + 1 = n
          · rw [List.length_cons]; exact hn'
          · rw [hF _ _ (by rw [List.length_cons]; exact hn')] at o2; exact o2.elim
        · exact o1.elim
      · exact o1.elim
  · exact o1.elim
theorem ie_meth0 {f Cc : Addr} {fd : FuncData} {ps : List Str} {m cn : Str} {apos : Pos} {F : List PV → IH → Res PV} {j : Nat} (pl : Sem Bool) (cx : Ctx X W k) (gc : X.mg cn = some (.ref Cc)) (cl : Cls X.K Cc) (hm : Meth X.K Cc m f) (G : FnOk X.prog X.w X.K X.mg X.base (L2.CX X.prog X.w) j f fd ps (SpF X.K X.mg 1 F)) (hj : j ≤ k) (hb : Binds X.K fd ps [])
    (ho : PE X o (IE X.K X.mg W A))
    (ht : eval (.Call (.Attribute o m apos) [] [] pos) X.env = (do
      let ov ← eval o X.env
      standAt apos.atName
      let (f, first) ← holding [ov] (getMethod ov m pl)
      callWith pos f first (backTo pos (starEach [] X.env)) (backToKw pos (keywordEach [] X.env))) := by rfl) :
    PE X (.Call (.Attribute o m apos) [] [] pos) (IE X.K X.mg W (eMeth cn m F A aNil)) := by
  refine peImp (pe_methS0 ho cl hm G (cx.room.mono hj) hb (fun s => passAt cx.tk s) ht) fun s H Q ⟨as, r, h, g, z, o⟩ => ?_
  refine ⟨as, r, h, g, z, (Out.bind o).imp fun V H1 ⟨as1, h1, p1, S1, x1, r1, o1⟩ => ?_⟩
  split at o1
  · cases r1 with
    | obj hn =>
      split at o1
      · rename_i c' fs hx
        split at o1
        · rename_i hc
          obtain ⟨hc, hl⟩ := hc
          subst hc
          obtain ⟨b, e1, C', dx, gs, g0, e2, e3, rs⟩ := x1.at_ _ _ hx
          rw [hn] at e1; cases e1
          rw [gc] at g0; cases g0
          exact ⟨_, dx, gs, rfl, e2, fld_none e3 hl, SpF.of x1 (RPs.one (.obj hn)) rfl o1⟩
        · exact o1.elim
      · exact o1.elim
  · exact o1.elim
theorem noX_of {K : PySem.W.Frag} {mg : Str → Option Value} {s : L2.St} {as : List Addr} {H : Hp} {Q : VK} {r : Res PV} (o : Out K mg (fun H as p v => RP K mg H as p v) W s as H Q (noX r)) : Out K mg (fun H as p v => RP K mg H as p v) (fun c d _ H' => E0 c d H') [] as H Q r := by
  cases r with
  | ok a h => exact o
  | ex z h => exact (show False from o).elim
  | bad => exact o
theorem ie_prop {f pa Cc : Addr} {fd : FuncData} {ps : List Str} {m cn : Str} {F : List PV → IH → Res PV} {j : Nat} (cx : Ctx X W k) (gc : X.mg cn = some (.ref Cc)) (cl : Cls X.K Cc) (hp : PropOf X.K Cc m pa f) (G : FnOk X.prog X.w X.K X.mg X.base (L2.CX X.prog X.w) j f fd ps (SpF X.K X.mg 1 F)) (hj : j + 1 ≤ k) (hb : Binds X.K fd ps [])
    (he : PE X e (IE X.K X.mg W A)) (hab : attributeBase e m X.env (eval e X.env) = eval e X.env := by rfl) : PE X (.Attribute e m pos) (IE X.K X.mg W (eProp cn F A)) := by
  refine peImp (pe_prop he cl hp G (cx.room.mono hj) hb .nil (passL (X := X.nox)) hab) fun s H Q ⟨as, r, h, g, z, o⟩ => ?_
  refine ⟨as, r, h, g, z, (Out.bind o).imp fun V H1 ⟨as1, h1, p1, S1, x1, r1, o1⟩ => ?_⟩
  split at o1
  · cases r1 with
    | obj hn =>
      split at o1
      · rename_i c' fs hx
        split at o1
        · rename_i hc
          subst hc
          obtain ⟨b, e1, C', dx, gs, g0, e2, e3, rs⟩ := x1.at_ _ _ hx
          rw [hn] at e1; cases e1
          rw [gc] at g0; cases g0
          exact ⟨_, dx, gs, rfl, e2, as1, _, h1, rfl, RPs.one (.obj hn), x1, noX_of o1⟩
        · exact o1.elim
      · exact o1.elim
  · exact o1.elim
theorem snd_lenO {K : PySem.W.Frag} {mg : Str → Option Value} {cn : Str} {Cc : Addr} {F : List PV → IH → Res PV} (gc : mg cn = some (.ref Cc)) : SndC K mg (pLenO cn F) (rLenO Cc (SpF K mg 1 F)) := by
  intro W s as H h xs Us Q rh rs o
  unfold pLenO at o
  split at o
  · obtain ⟨v, rfl, rv⟩ := rs.inv1
    split at o
    · cases rv with
      | obj hn =>
        split at o
        · rename_i c' fs hx
          split at o
          · rename_i hc
            subst hc
            obtain ⟨b, e1, C', dx, gs, g0, e2, e3, rs'⟩ := rh.at_ _ _ hx
            rw [hn] at e1; cases e1
            rw [gc] at g0; cases g0
            refine ⟨_, dx, gs, rfl, e2, as, _, h, rfl, RPs.one (.obj hn), rh, ?_⟩
            split at o
            · rename_i i h1 hF
              split at o
              · rename_i hi
                rw [hF]
                intro V H' as' S x' r'
                cases r'
                have e63 : (2 : Int) ^ 63 = 9223372036854775808 := by decide
                exact ⟨_, rfl, hi.1, by rw [e63]; exact hi.2, o _ _ _ S x' (.int _)⟩
              · exact o.elim
            · exact o.elim
          · exact o.elim
        · exact o.elim
    · exact o.elim
  · exact o.elim
theorem snd_eqO {K : PySem.W.Frag} {mg : Str → Option Value} {cn : Str} {Cc : Addr} {F : List PV → IH → Res PV} (gc : mg cn = some (.ref Cc)) : Snd K mg (pEqO cn F) (rEqO K Cc (SpF K mg 2 F)) := by
  intro W s as H h x y U V Q rh rx ry o
  unfold pEqO at o
  split at o
  · cases rx with
    | obj hn =>
      split at o
      · rename_i c' fs hx
        split at o
        · rename_i hc
          obtain ⟨hc, ht⟩ := hc
          subst hc
          obtain ⟨b, e1, C', dx, gs, g0, e2, e3, rs'⟩ := rh.at_ _ _ hx
          rw [hn] at e1; cases e1
          rw [gc] at g0; cases g0
          have hy : ∃ b', V = .ref b' ∧ ((∃ dy gs, H b' = some (.ins Cc dy gs)) ∨ ∃ ys, SqT K H b' ys) := by
            unfold isTupOr at ht
            split at ht
            · cases ry with
              | tup hs rs => exact ⟨_, rfl, .inr ⟨_, hs⟩⟩
            · cases ry with
              | obj hm =>
                split at ht
                · rename_i c2 fs2 hx2
                  obtain ⟨b2, e1', C2, dx2, gs2, g0', e2', _⟩ := rh.at_ _ _ hx2
                  rw [hm] at e1'; cases e1'
                  have : c2 = c' := by simpa using ht
                  subst this
                  rw [gc] at g0'; cases g0'
                  exact ⟨_, rfl, .inl ⟨_, _, e2'⟩⟩
                · cases ht
            · cases ht
          obtain ⟨b', rfl, hy⟩ := hy
          refine ⟨_, _, dx, gs, rfl, rfl, e2, hy, as, _, h, rfl, RPs.cons (.obj hn) (RPs.one ry), rh, ?_⟩
          split at o
          · rename_i q h1 hF
            rw [hF]
            intro V H' as' S x' r'
            cases r'
            exact ⟨_, rfl, o _ _ _ S x' (.bl _)⟩
          · exact o.elim
        · exact o.elim
      · exact o.elim
  · exact o.elim
theorem ie_chain {op op' : CmpOp} {p q : PV → PV → IH → Res PV} {r r' : R2} (ho : OpR X (compareOp op) r) (ho' : OpR X (compareOp op') r') (hp : Snd X.K X.mg p r) (hq : Snd X.K X.mg q r') (ha : PE X a (IE X.K X.mg W A)) (hb : PE X b (IE X.K X.mg W B)) (hc : PE X c (IE X.K X.mg W C))
    (hm : lastMarks [op, op'] [b, c] = false := by with_unfolding_all rfl) : PE X (.Compare a [op, op'] [b, c] pos) (IE X.K X.mg W (eChain p q A B C)) := by
  refine peImp (pe_chain ho ho' ha hb hc hm) fun s H Q ⟨as, ρ, h, g, z, o⟩ => ?_
  refine ⟨as, ρ, h, g, z, (Out.bind o).imp fun V1 H1 ⟨as1, h1, p1, S1, x1, r1, o1⟩ => ?_⟩
  refine ⟨as1, ρ, h1, g.mono S1, x1, (Out.bind o1).imp fun V2 H2 ⟨as2, h2, p2, S2, x2, r2, o2⟩ => ?_⟩
  refine hp x2 (r1.mono S2) r2 ((Out.bind o2).imp fun V3 H3 ⟨as3, h3, p3, S3, x3, r3, o3⟩ => ?_)
  cases r3 with
  | bl d =>
    refine ⟨d, rfl, ?_⟩
    cases d with
    | false => exact o3.here x3 (.bl false)
    | true =>
      refine ⟨as3, ρ, h3, ((g.mono S1).mono S2).mono S3, x3, (Out.bind o3).imp fun V4 H4 ⟨as4, h4, p4, S4, x4, r4, o4⟩ => ?_⟩
      exact hq x4 ((r2.mono S3).mono S4) r4 o4
  | non => exact o3.elim
  | int => exact o3.elim
  | str => exact o3.elim
  | tup => exact o3.elim
  | fls => exact o3.elim
  | obj => exact o3.elim
  | glo => exact o3.elim
  | ty => exact o3.elim
  | key => exact o3.elim
end
end WR

/-! bundles for defs, classes; the head's Hook; the law's end -/
namespace WR
open PySem PySem.Spec PyProof.Rows L2
section
variable {P : Program} {w : World} {K : PySem.W.Frag} {mg : Str → Option Value} {base : Heap}
/-- a def of the top -/
structure GF (P : Program) (w : World) (K : PySem.W.Frag) (mg : Str → Option Value) (base : Heap) (x : Str) (j n : Nat) (F : List PV → IH → Res PV) : Prop where
  bad : ∀ us h, us.length ≠ n → F us h = .bad
  ex : ∃ f fd ps, FnOk P w K mg base (L2.CX P w) j f fd ps (SpF K mg n F) ∧ mg x = some (.ref f) ∧ PySem.W.keepIn K (.ref f) = true ∧ Binds K fd ps []
/-- a def of a class, at f -/
structure GA (P : Program) (w : World) (K : PySem.W.Frag) (mg : Str → Option Value) (base : Heap) (f : Addr) (j n : Nat) (F : List PV → IH → Res PV) : Prop where
  bad : ∀ us h, us.length ≠ n → F us h = .bad
  ex : ∃ fd ps, FnOk P w K mg base (L2.CX P w) j f fd ps (SpF K mg n F) ∧ Binds K fd ps []
theorem ga_mk {x qual : Str} {st : Stmt} {f : Addr} {fd : FuncData} {N ps : List Str} {k : Nat} {B : SX} (F : Fun K x qual st f fd) (S : FnScope N ps (defScope st)) (m : Nat) (hm : N.length = ps.length + m)
    (hb : ∀ (kV doc pm : Value) (an : Option Addr) (cdv ct : Value) (us : List Value), us.length = ps.length → bindArgs (PySem.W.fnOf x qual (defArgs st) (defBody st) (defScope st) .none kV doc pm an cdv ct) ⟨us, []⟩ = pure (ps.zip us))
    (body : ∀ (cdv : Value) (A : Around) (outer : List Env) (s : Shared) (H : Hp) (E : XK), Ctx (cxOf (L2.CX P w) P w K mg base N qual (defScope st) f cdv A outer s H E) (WD E) k →
      PSs (cxOf (L2.CX P w) P w K mg base N qual (defScope st) f cdv A outer s H E) (defBody st) (IS K mg (WD E) B)) :
    GA P w K mg base f (k + 1) ps.length (fn ps.length m B) := ⟨fn_bad, fd, ps, ok_of F S m hm body, F.binds hb⟩
theorem gf_mk {x qual : Str} {st : Stmt} {f : Addr} {fd : FuncData} {N ps : List Str} {k : Nat} {B : SX} (F : Fun K x qual st f fd) (g : mg x = some (.ref f)) (S : FnScope N ps (defScope st)) (m : Nat) (hm : N.length = ps.length + m)
    (hb : ∀ (kV doc pm : Value) (an : Option Addr) (cdv ct : Value) (us : List Value), us.length = ps.length → bindArgs (PySem.W.fnOf x qual (defArgs st) (defBody st) (defScope st) .none kV doc pm an cdv ct) ⟨us, []⟩ = pure (ps.zip us))
    (body : ∀ (cdv : Value) (A : Around) (outer : List Env) (s : Shared) (H : Hp) (E : XK), Ctx (cxOf (L2.CX P w) P w K mg base N qual (defScope st) f cdv A outer s H E) (WD E) k →
      PSs (cxOf (L2.CX P w) P w K mg base N qual (defScope st) f cdv A outer s H E) (defBody st) (IS K mg (WD E) B)) :
    GF P w K mg base x (k + 1) ps.length (fn ps.length m B) := ⟨fn_bad, f, fd, ps, ok_of F S m hm body, g, F.kp, F.binds hb⟩
end
section
variable {X : Cx} {W : WX} {k : Nat} {a b e o c : Expr} {es : List Expr} {pos p apos : Pos} {A B C : EX} {L : AX} {x m cn : Str} {j n : Nat} {F : List PV → IH → Res PV} {f Cc pa : Addr}
theorem ie_callG (cx : Ctx X W k) (G : GF X.prog X.w X.K X.mg X.base x j n F) (ha : PA X (e :: es) (IA X.K X.mg W L)) (hj : j ≤ k := by decide) (hg : Gl X x := by rfl) (hdb : (x == ("__debug__" : Str)) = false := by decide) (he : starEach (e :: es) X.env = (false, eval e X.env) :: starEach es X.env := by rfl) (hpl : (backTo pos (starEach es X.env)).any (·.1) = false := by rfl) :
    PE X (.Call (.Name x p) (e :: es) [] pos) (IE X.K X.mg W (eCall F L)) := by
  obtain ⟨f, fd, ps, G1, hm, hk, hb⟩ := G.ex
  exact ie_call cx G1 hj hm hk hb ha G.bad hg hdb he hpl
theorem ie_callG0 (cx : Ctx X W k) (G : GF X.prog X.w X.K X.mg X.base x j 0 F) (hj : j ≤ k := by decide) (hg : Gl X x := by rfl) (hdb : (x == ("__debug__" : Str)) = false := by decide) : PE X (.Call (.Name x p) [] [] pos) (IE X.K X.mg W (eCall F aNil)) := by
  obtain ⟨f, fd, ps, G1, hm, hk, hb⟩ := G.ex
  exact ie_call0 cx G1 hj hm hk hb hg hdb
theorem ie_makeG (cx : Ctx X W k) (M : Mk X.K Cc f) (hm : X.mg x = some (.ref Cc)) (G : GA X.prog X.w X.K X.mg X.base f j n F) (ha : PA X (e :: es) (IA X.K X.mg W L)) (hj : j + 1 ≤ k := by decide) (hg : Gl X x := by rfl) (hdb : (x == ("__debug__" : Str)) = false := by decide) (he : starEach (e :: es) X.env = (false, eval e X.env) :: starEach es X.env := by rfl) (hpl : (backTo pos (starEach es X.env)).any (·.1) = false := by rfl) :
    PE X (.Call (.Name x p) (e :: es) [] pos) (IE X.K X.mg W (eCall (mkO x F) L)) := by
  obtain ⟨fd, ps, G1, hb⟩ := G.ex
  exact ie_make cx M G1 hj hm hb ha G.bad hg hdb he hpl
theorem ie_propG (cx : Ctx X W k) (gc : X.mg cn = some (.ref Cc)) (cl : Cls X.K Cc) (hp : PropOf X.K Cc m pa f) (G : GA X.prog X.w X.K X.mg X.base f j 1 F) (he : PE X e (IE X.K X.mg W A)) (hj : j + 1 ≤ k := by decide) (hab : attributeBase e m X.env (eval e X.env) = eval e X.env := by rfl) :
    PE X (.Attribute e m pos) (IE X.K X.mg W (eProp cn F A)) := by
  obtain ⟨fd, ps, G1, hb⟩ := G.ex
  exact ie_prop cx gc cl hp G1 hj hb he hab
theorem ie_lenG (cx : Ctx X W k) (gc : X.mg cn = some (.ref Cc)) (hs : PySem.W.findIn X.K (.ref Cc) "__len__" = some (some (.ref f))) (hf : PySem.W.isFn X.K (.ref f) = true) (G : GA X.prog X.w X.K X.mg X.base f j 1 F) (hm : X.mg "len" = none) (ha : PA X (e :: es) (IA X.K X.mg W L)) (hj : j + 1 ≤ k := by decide) (hg : Gl X "len" := by rfl)
    (he : starEach (e :: es) X.env = (false, eval e X.env) :: starEach es X.env := by rfl) (hpl : (backTo pos (starEach es X.env)).any (·.1) = false := by rfl) : PE X (.Call (.Name "len" p) (e :: es) [] pos) (IE X.K X.mg W (eB (pLenO cn F) L)) := by
  obtain ⟨fd, ps, G1, hb⟩ := G.ex
  exact ie_callB (call_lenO G1 hs hf hb (cx.room.mono hj)) (snd_lenO gc) hm PySem.boot_len ha hg (by decide) (by decide) he hpl
theorem ie_eqG (cx : Ctx X W k) (gc : X.mg cn = some (.ref Cc)) (hs : PySem.W.findIn X.K (.ref Cc) "__eq__" = some (some (.ref f))) (hf : PySem.W.isFn X.K (.ref f) = true) (hn : PySem.W.notFirst X.K Cc (.type "tuple") = true) (G : GA X.prog X.w X.K X.mg X.base f j 2 F) (ha : PE X a (IE X.K X.mg W A)) (hb' : PE X b (IE X.K X.mg W B)) (hj : j ≤ k := by decide) :
    PE X (.Compare a [.Eq] [b] pos) (IE X.K X.mg W (eOp (pEqO cn F) A B)) := by
  obtain ⟨fd, ps, G1, hb⟩ := G.ex
  exact ie_cmp (op_eqO G1 hs hf hb (cx.room.mono hj) hn) (snd_eqO gc) ha hb' (nomark _)
theorem it_eqG (cx : Ctx X W k) (gc : X.mg cn = some (.ref Cc)) (hs : PySem.W.findIn X.K (.ref Cc) "__eq__" = some (some (.ref f))) (hf : PySem.W.isFn X.K (.ref f) = true) (hn : PySem.W.notFirst X.K Cc (.type "tuple") = true) (G : GA X.prog X.w X.K X.mg X.base f j 2 F) (ha : PE X a (IE X.K X.mg W A)) (hb' : PE X b (IE X.K X.mg W B)) (hj : j ≤ k := by decide) :
    PT X (.Compare a [.Eq] [b] pos) (IT X.K X.mg W (tBl (eOp (pEqO cn F) A B))) := by
  obtain ⟨fd, ps, G1, hb⟩ := G.ex
  exact it_cmp (op_eqO G1 hs hf hb (cx.room.mono hj) hn) (snd_eqO gc) ha hb' (nomark _)
theorem ie_methG (pl : Sem Bool) (cx : Ctx X W k) (gc : X.mg cn = some (.ref Cc)) (cl : Cls X.K Cc) (hm : Meth X.K Cc m f) (G : GA X.prog X.w X.K X.mg X.base f j n F) (ho : PE X o (IE X.K X.mg W A)) (ha : PA X (e :: es) (IA X.K X.mg W L)) (hj : j ≤ k := by decide)
    (hst : starEach (e :: es) X.env = (false, eval e X.env) :: starEach es X.env := by rfl) (hpl : (backTo pos (starEach es X.env)).any (·.1) = false := by rfl)
    (ht : eval (.Call (.Attribute o m apos) (e :: es) [] pos) X.env = (do
      let ov ← eval o X.env
      standAt apos.atName
      let (f, first) ← holding [ov] (getMethod ov m pl)
      callWith pos f first (backTo pos (starEach (e :: es) X.env)) (backToKw pos (keywordEach [] X.env))) := by rfl) : PE X (.Call (.Attribute o m apos) (e :: es) [] pos) (IE X.K X.mg W (eMeth cn m F A L)) := by
  obtain ⟨fd, ps, G1, hb⟩ := G.ex
  exact ie_meth pl cx gc cl hm G1 hj hb ho ha G.bad hst hpl ht
theorem ie_methG0 (pl : Sem Bool) (cx : Ctx X W k) (gc : X.mg cn = some (.ref Cc)) (cl : Cls X.K Cc) (hm : Meth X.K Cc m f) (G : GA X.prog X.w X.K X.mg X.base f j 1 F) (ho : PE X o (IE X.K X.mg W A)) (hj : j ≤ k := by decide)
    (ht : eval (.Call (.Attribute o m apos) [] [] pos) X.env = (do
      let ov ← eval o X.env
      standAt apos.atName
      let (f, first) ← holding [ov] (getMethod ov m pl)
      callWith pos f first (backTo pos (starEach [] X.env)) (backToKw pos (keywordEach [] X.env))) := by rfl) : PE X (.Call (.Attribute o m apos) [] [] pos) (IE X.K X.mg W (eMeth cn m F A aNil)) := by
  obtain ⟨fd, ps, G1, hb⟩ := G.ex
  exact ie_meth0 pl cx gc cl hm G1 hj hb ho ht
/-! the built-ins, in short -/
theorem ie_abs (hm : X.mg "abs" = none) (ha : PA X (e :: es) (IA X.K X.mg W L)) (hg : Gl X "abs" := by rfl) (he : starEach (e :: es) X.env = (false, eval e X.env) :: starEach es X.env := by rfl) (hpl : (backTo pos (starEach es X.env)).any (·.1) = false := by rfl) : PE X (.Call (.Name "abs" p) (e :: es) [] pos) (IE X.K X.mg W (eB pAbs L)) :=
  ie_callB call_abs snd_abs hm (by decide +kernel) ha hg (by decide) (by decide) he hpl
theorem ie_max2 (cx : Ctx X W k) (hm : X.mg "max" = none) (ha : PA X (e :: es) (IA X.K X.mg W L)) (hg : Gl X "max" := by rfl) (he : starEach (e :: es) X.env = (false, eval e X.env) :: starEach es X.env := by rfl) (hpl : (backTo pos (starEach es X.env)).any (·.1) = false := by rfl) : PE X (.Call (.Name "max" p) (e :: es) [] pos) (IE X.K X.mg W (eB pMax2 L)) :=
  ie_callB (call_max2 cx.calm) snd_max2 hm (by decide +kernel) ha hg (by decide) (by decide) he hpl
theorem ie_min2 (cx : Ctx X W k) (hm : X.mg "min" = none) (ha : PA X (e :: es) (IA X.K X.mg W L)) (hg : Gl X "min" := by rfl) (he : starEach (e :: es) X.env = (false, eval e X.env) :: starEach es X.env := by rfl) (hpl : (backTo pos (starEach es X.env)).any (·.1) = false := by rfl) : PE X (.Call (.Name "min" p) (e :: es) [] pos) (IE X.K X.mg W (eB pMin2 L)) :=
  ie_callB (call_min2 cx.calm) snd_min2 hm (by decide +kernel) ha hg (by decide) (by decide) he hpl
theorem ie_int1 (hm : X.mg "int" = none) (ha : PA X (e :: es) (IA X.K X.mg W L)) (hg : Gl X "int" := by rfl) (he : starEach (e :: es) X.env = (false, eval e X.env) :: starEach es X.env := by rfl) (hpl : (backTo pos (starEach es X.env)).any (·.1) = false := by rfl) : PE X (.Call (.Name "int" p) (e :: es) [] pos) (IE X.K X.mg W (eB pInt1 L)) :=
  ie_callT call_int1 snd_int1 hm (by decide +kernel) ha hg (by decide) (by decide) he hpl
theorem ie_len (hm : X.mg "len" = none) (ha : PA X (e :: es) (IA X.K X.mg W L)) (hg : Gl X "len" := by rfl) (he : starEach (e :: es) X.env = (false, eval e X.env) :: starEach es X.env := by rfl) (hpl : (backTo pos (starEach es X.env)).any (·.1) = false := by rfl) : PE X (.Call (.Name "len" p) (e :: es) [] pos) (IE X.K X.mg W (eB pLen L)) :=
  ie_callB call_len snd_len hm (by decide +kernel) ha hg (by decide) (by decide) he hpl
theorem ie_list1 (hm : X.mg "list" = none) (ha : PA X (e :: es) (IA X.K X.mg W L)) (hg : Gl X "list" := by rfl) (he : starEach (e :: es) X.env = (false, eval e X.env) :: starEach es X.env := by rfl) (hpl : (backTo pos (starEach es X.env)).any (·.1) = false := by rfl) : PE X (.Call (.Name "list" p) (e :: es) [] pos) (IE X.K X.mg W (eB pList1 L)) :=
  ie_callT call_list_of snd_list1 hm (by decide +kernel) ha hg (by decide) (by decide) he hpl
theorem ie_tuple1 (hm : X.mg "tuple" = none) (ha : PA X (e :: es) (IA X.K X.mg W L)) (hg : Gl X "tuple" := by rfl) (he : starEach (e :: es) X.env = (false, eval e X.env) :: starEach es X.env := by rfl) (hpl : (backTo pos (starEach es X.env)).any (·.1) = false := by rfl) : PE X (.Call (.Name "tuple" p) (e :: es) [] pos) (IE X.K X.mg W (eB pTuple1 L)) :=
  ie_callT call_tuple_of snd_tuple1 hm (by decide +kernel) ha hg (by decide) (by decide) he hpl
theorem ie_isi {cs : List Str} (O : OwnCs X.K X.mg cs) (hm : X.mg "isinstance" = none) (ha : PA X (e :: es) (IA X.K X.mg W L)) (hg : Gl X "isinstance" := by rfl) (he : starEach (e :: es) X.env = (false, eval e X.env) :: starEach es X.env := by rfl) (hpl : (backTo pos (starEach es X.env)).any (·.1) = false := by rfl) : PE X (.Call (.Name "isinstance" p) (e :: es) [] pos) (IE X.K X.mg W (eB (pIsi cs) L)) :=
  ie_callB call_isi (snd_isi O) hm (by decide +kernel) ha hg (by decide) (by decide) he hpl
theorem ie_tyB {x : Str} {n : String} (hm : X.mg x = none) (hv : bootBuiltins x = some (.type n) := by decide +kernel) (hg : Gl X x := by rfl) (hn : x ≠ "__name__" := by decide) (hd : (x == ("__debug__" : Str)) = false := by decide) : PE X (.Name x pos) (IE X.K X.mg W (eC (.ty n))) := ie_ty hg hm hv hn hd
/-! comparisons, in short -/
theorem ie_lt (ha : PE X a (IE X.K X.mg W A)) (hb : PE X b (IE X.K X.mg W B)) : PE X (.Compare a [.Lt] [b] pos) (IE X.K X.mg W (eOp pLt A B)) := ie_cmp op_lt snd_ci ha hb (nomark _)
theorem ie_le (ha : PE X a (IE X.K X.mg W A)) (hb : PE X b (IE X.K X.mg W B)) : PE X (.Compare a [.LtE] [b] pos) (IE X.K X.mg W (eOp pLe A B)) := ie_cmp op_le snd_ci ha hb (nomark _)
theorem ie_gt (ha : PE X a (IE X.K X.mg W A)) (hb : PE X b (IE X.K X.mg W B)) : PE X (.Compare a [.Gt] [b] pos) (IE X.K X.mg W (eOp pGt A B)) := ie_cmp op_gt snd_ci ha hb (nomark _)
theorem ie_ge (ha : PE X a (IE X.K X.mg W A)) (hb : PE X b (IE X.K X.mg W B)) : PE X (.Compare a [.GtE] [b] pos) (IE X.K X.mg W (eOp pGe A B)) := ie_cmp op_ge snd_ci ha hb (nomark _)
theorem ie_eq (cx : Ctx X W k) (ha : PE X a (IE X.K X.mg W A)) (hb : PE X b (IE X.K X.mg W B)) : PE X (.Compare a [.Eq] [b] pos) (IE X.K X.mg W (eOp pEq A B)) := ie_cmp (op_eqD cx.room.units) snd_eq ha hb (nomark _)
theorem ie_ne (cx : Ctx X W k) (ha : PE X a (IE X.K X.mg W A)) (hb : PE X b (IE X.K X.mg W B)) : PE X (.Compare a [.NotEq] [b] pos) (IE X.K X.mg W (eOp pNe A B)) := ie_cmp (op_neD cx.room.units) snd_ne ha hb (nomark _)
theorem ie_is (ha : PE X a (IE X.K X.mg W A)) (hb : PE X b (IE X.K X.mg W B)) : PE X (.Compare a [.Is] [b] pos) (IE X.K X.mg W (eOp pIsN A B)) := ie_cmp op_isN snd_isn ha hb (nomark _)
theorem ie_isnot (ha : PE X a (IE X.K X.mg W A)) (hb : PE X b (IE X.K X.mg W B)) : PE X (.Compare a [.IsNot] [b] pos) (IE X.K X.mg W (eOp pNotN A B)) := ie_cmp op_notN snd_notn ha hb (nomark _)
theorem it_lt (ha : PE X a (IE X.K X.mg W A)) (hb : PE X b (IE X.K X.mg W B)) : PT X (.Compare a [.Lt] [b] pos) (IT X.K X.mg W (tBl (eOp pLt A B))) := it_cmp op_lt snd_ci ha hb (nomark _)
theorem it_le (ha : PE X a (IE X.K X.mg W A)) (hb : PE X b (IE X.K X.mg W B)) : PT X (.Compare a [.LtE] [b] pos) (IT X.K X.mg W (tBl (eOp pLe A B))) := it_cmp op_le snd_ci ha hb (nomark _)
theorem it_gt (ha : PE X a (IE X.K X.mg W A)) (hb : PE X b (IE X.K X.mg W B)) : PT X (.Compare a [.Gt] [b] pos) (IT X.K X.mg W (tBl (eOp pGt A B))) := it_cmp op_gt snd_ci ha hb (nomark _)
theorem it_ge (ha : PE X a (IE X.K X.mg W A)) (hb : PE X b (IE X.K X.mg W B)) : PT X (.Compare a [.GtE] [b] pos) (IT X.K X.mg W (tBl (eOp pGe A B))) := it_cmp op_ge snd_ci ha hb (nomark _)
theorem it_eq (cx : Ctx X W k) (ha : PE X a (IE X.K X.mg W A)) (hb : PE X b (IE X.K X.mg W B)) : PT X (.Compare a [.Eq] [b] pos) (IT X.K X.mg W (tBl (eOp pEq A B))) := it_cmp (op_eqD cx.room.units) snd_eq ha hb (nomark _)
theorem it_ne (cx : Ctx X W k) (ha : PE X a (IE X.K X.mg W A)) (hb : PE X b (IE X.K X.mg W B)) : PT X (.Compare a [.NotEq] [b] pos) (IT X.K X.mg W (tBl (eOp pNe A B))) := it_cmp (op_neD cx.room.units) snd_ne ha hb (nomark _)
theorem it_is (ha : PE X a (IE X.K X.mg W A)) (hb : PE X b (IE X.K X.mg W B)) : PT X (.Compare a [.Is] [b] pos) (IT X.K X.mg W (tBl (eOp pIsN A B))) := it_cmp op_isN snd_isn ha hb (nomark _)
theorem it_isnot (ha : PE X a (IE X.K X.mg W A)) (hb : PE X b (IE X.K X.mg W B)) : PT X (.Compare a [.IsNot] [b] pos) (IT X.K X.mg W (tBl (eOp pNotN A B))) := it_cmp op_notN snd_notn ha hb (nomark _)
theorem ie_lele (ha : PE X a (IE X.K X.mg W A)) (hb : PE X b (IE X.K X.mg W B)) (hc : PE X c (IE X.K X.mg W C)) (hm : lastMarks [.LtE, .LtE] [b, c] = false := by with_unfolding_all rfl) : PE X (.Compare a [.LtE, .LtE] [b, c] pos) (IE X.K X.mg W (eChain pLe pLe A B C)) := ie_chain op_le op_le snd_ci snd_ci ha hb hc hm
end
/-! ### the head's Hook -/
abbrev FrB := PySem.W.Frag → Bool
/-- what the names reach, step by step -/
def nextV (g : Addr → Option Obj) (as : List Addr) : List Addr := as.flatMap fun a => match g a with
  | some o => He.refsD o
  | none => []
def asV (g : Addr → Option Obj) : Nat → List Addr → List Addr
  | 0, as => as
  | n + 1, as => as ++ asV g n (nextV g as)
def asW (g : Addr → Option Obj) (n : Nat) : List Addr := asV g n [mainGlobals] ++ [PySem.cStatics]
def obsW (n : Nat) (ex : List FrB) (fn : List He5.DefA) (g : Addr → Option Obj) : He.AlD := ((ex.all fun f => f (He.frG g (asW g n))) && fn.all fun d => d.ok (He.frG g (asW g n)), fn.map fun d => He5.fnA (He.frG g (asW g n)) (d.at_ (He.frG g (asW g n))))
def SaysW (ex : List FrB) (fn : List He5.DefA) (K : PySem.W.Frag) : Prop := ((ex.all fun f => f K) && fn.all fun d => d.ok K, fn.map fun d => He5.fnA K (d.at_ K)) = He5.valA fn
def hookW (n : Nat) (ex : List FrB) (fn : List He5.DefA) : PySem.W.Hook where
  α := He.AlD
  obs := fun s => obsW n ex fn s.heap.get?
  val := fun _ => He5.valA fn
  says := fun _ h => ∃ K : PySem.W.Frag, K.In h ∧ SaysW ex fn K
  of := fun _ _ e => ⟨_, He.frG_in, e⟩
  keeps := fun _ _ _ ⟨K, hK, c⟩ k => ⟨K, PySem.W.Frag.In.keeps hK k, c⟩
theorem obsW_eq {n : Nat} {ex : List FrB} {fn : List He5.DefA} {g : Addr → Option Obj} {s : Shared} (h : ∀ a, g a = s.heap.get? a) : obsW n ex fn g = (hookW n ex fn).obs s := by
  have e : g = s.heap.get? := funext h
  rw [e] <;> rfl
section
variable {ex : List FrB} {fn : List He5.DefA} {K : PySem.W.Frag}
theorem SaysW.fact (c : SaysW ex fn K) {f : FrB} (h : f ∈ ex) : f K = true := by
  have c1 := (He.ba (show ((ex.all fun f => f K) && fn.all fun d => d.ok K) = true from congrArg (fun z : He.AlD => z.1) c)).1
  exact List.all_eq_true.mp c1 f h
theorem SaysW.def_ (c : SaysW ex fn K) (i : Nat) {d : He5.DefA} (h : fn[i]? = some d := by rfl) : ∃ fd, L2.FunD K d.name d.qual d.params d.body d.scope (d.dvs K) (d.kws K) (d.at_ K) fd := by
  have c2 := (He.ba (show ((ex.all fun f => f K) && fn.all fun d => d.ok K) = true from congrArg (fun z : He.AlD => z.1) c)).2
  have e : fn.map (fun d => He5.fnA K (d.at_ K)) = fn.map He5.DefA.val := congrArg (fun z : He.AlD => z.2) c
  have e2 : (fn.map fun d => He5.fnA K (d.at_ K))[i]? = (fn.map He5.DefA.val)[i]? := by rw [e]
  rw [List.getElem?_map, List.getElem?_map, h] at e2
  exact He5.DefA.funD (Option.some.inj e2) (List.all_eq_true.mp c2 d (List.mem_of_getElem? h))
end
/-- a def of the text, where it stands -/
def dA (at_ : PySem.W.Frag → Addr) (x q : Str) (st : Stmt) : He5.DefA := ⟨at_, x, q, defArgs st, defBody st, defScope st, [], []⟩
theorem SaysW.fun_ {ex : List FrB} {fn : List He5.DefA} {K : PySem.W.Frag} (c : SaysW ex fn K) (i : Nat) {at_ : PySem.W.Frag → Addr} {x q : Str} {st : Stmt} (h : fn[i]? = some (dA at_ x q st) := by rfl) : ∃ fd, Fun K x q st (at_ K) fd := by
  obtain ⟨fd, F⟩ := c.def_ i h
  exact ⟨fd, He5.fun_of F⟩
/-! facts as Bools -/
def bGlo (x : Str) : FrB := fun K => (He.Fa.glo x).ok K
def bFree (x : Str) : FrB := fun K => (He.Fa.free x).ok K
def bInt (x : Str) (i : Int) : FrB := fun K => (He.Fa.int x i).ok K
def bTup (x : Str) (vs : List He.Dv) : FrB := fun K => He.tupB K x vs
def bOwn (c : Str) : FrB := fun K => (He.Fa.cls c).ok K && (He.eqO (PySem.W.findIn K (.ref (He.ga K c)) "__class__") (some (some (.builtin "object.__class__"))) && (He.eqO (PySem.W.specialIn K (.builtin "object.__class__") "__get__") (some (some (.builtin "getset_descriptor.__get__"))) &&
  (decide (PySem.W.takesIn K (.builtin "object.__class__") = some true) && (decide (PySem.W.mroIn K (He.ga K c) (.type "object") = some true) &&
  (tyNames.all (fun n => decide (PySem.W.kitOne K (.type n) (.ref (He.ga K c)) = some false)) && tyNames.all (fun n => decide (PySem.W.kitOne K (.ref (He.ga K c)) (.type n) = some false)))))))
def bTwo (cs : List Str) : FrB := fun K => cs.all fun c => cs.all fun d => decide (PySem.W.kitOne K (.ref (He.ga K d)) (.ref (He.ga K c)) = some (d == c))
def bNoat (c f : Str) : FrB := fun K => (He.Fa.noat c f).ok K
def bMk (c : Str) : FrB := fun K => (He.Fa.mkr c).ok K
def bMeth (c m : Str) : FrB := fun K => (He.Fa.meth c m).ok K
def bProp (c m : Str) : FrB := fun K => He.eqO (PySem.W.findIn K (.ref (He.ga K c)) m) (some (some (.ref (He.ma K (He.ga K c) m)))) && (He.eqO (PySem.W.specialIn K (.ref (He.ma K (He.ga K c) m)) "__get__") (some (some (.builtin "property.__get__"))) &&
  (decide (PySem.W.takesIn K (.ref (He.ma K (He.ga K c) m)) = some true) && (match PySem.W.recIn K (He.ma K (He.ga K c) m) "property" with
    | some (.ref f :: _) => decide (f = He5.wf K (He.ga K c) "property" m)
    | _ => false)))
def bNf (c : Str) : FrB := fun K => PySem.W.notFirst K (He.ga K c) (.type "tuple")
section
variable {K : PySem.W.Frag} {mg : Str → Option Value} {h : Heap}
theorem bOwn_ok (X : K.In h) (G : h.Ns mainGlobals mg) {c : Str} (g : bGlo c K = true) (e : bOwn c K = true) : OwnC K mg c (He.ga K c) := by
  obtain ⟨e1, e⟩ := He.ba e
  obtain ⟨e2, e⟩ := He.ba e
  obtain ⟨e3, e⟩ := He.ba e
  obtain ⟨e4, e⟩ := He.ba e
  obtain ⟨e5, e⟩ := He.ba e
  obtain ⟨e6, e7⟩ := He.ba e
  exact ⟨He.glo_ok X G g, He.cls_ok e1, He.eqO_ok e2, He.eqO_ok e3, of_decide_eq_true e4, of_decide_eq_true e5,
    fun n hn => of_decide_eq_true (List.all_eq_true.mp e6 n (mem_of_contains hn)), fun n hn => of_decide_eq_true (List.all_eq_true.mp e7 n (mem_of_contains hn))⟩
theorem bTwo_ok (X : K.In h) (G : h.Ns mainGlobals mg) {cs : List Str} (o : ∀ c, cs.contains c = true → OwnC K mg c (He.ga K c)) (e : bTwo cs K = true) : OwnCs K mg cs :=
  ⟨fun c hc => ⟨_, o c hc⟩, fun c d C D hc hd gc gd => by
    have z := List.all_eq_true.mp (List.all_eq_true.mp e c (mem_of_contains hc)) d (mem_of_contains hd)
    have e1 := (o c hc).gC.symm.trans gc
    have e2 := (o d hd).gC.symm.trans gd
    cases e1
    cases e2
    exact of_decide_eq_true z⟩
theorem bProp_ok {c m : Str} (e : bProp c m K = true) : PropOf K (He.ga K c) m (He.ma K (He.ga K c) m) (He5.wf K (He.ga K c) "property" m) := by
  obtain ⟨e1, e⟩ := He.ba e
  obtain ⟨e2, e⟩ := He.ba e
  obtain ⟨e3, e4⟩ := He.ba e
  refine ⟨He.eqO_ok e1, He.eqO_ok e2, of_decide_eq_true e3, ?_⟩
  split at e4
  · rename_i f r hr
    have : f = He5.wf K (He.ga K c) "property" m := of_decide_eq_true e4
    rw [← this]
    exact ⟨r, hr⟩
  · cases e4
theorem bTup_ok {x : Str} {vs : List He.Dv} (e : bTup x vs K = true) (H : Hp) : SqT K H (He.ga K x) (vs.map (He.Dv.v K)) := He.tupB_ok e H
end
/-- the law's promise from the functional code -/
theorem law_sp {K : PySem.W.Frag} {mg : Str → Option Value} {F : List PV → IH → Res PV} (hF : ∀ ns : List Int, ns.length ≤ 63 → ∃ h, F [.fls (ns.map .int)] [] = .ok (.bl true) h) (H : Hp) (a : Addr) (ns : List Int) (hl : ns.length ≤ 63) (hO : Only H) (hS : SqL K H a (ns.map V.int)) :
    SpF K mg 1 F [.ref a] H (fun v _ => v = .bl true) fun _ _ _ => False := by
  have hf : SqF K H a (ns.map V.int) := by
    rcases hS with (hS | ⟨o, hS⟩) | hS
    · rcases hO a with z | ⟨o, xs, z⟩
      · rw [z] at hS; cases hS
      · rw [z] at hS; cases hS
    · exact .inl ⟨o, hS⟩
    · exact .inr hS
  have rs : ∀ l : List Int, RPs K mg H [] (l.map PV.int) (l.map V.int) := fun l => by
    induction l with
    | nil => exact .nil
    | cons x r ih => exact .cons (.int x) ih
  obtain ⟨h, e⟩ := hF ns hl
  refine ⟨[], [.fls (ns.map .int)], [], rfl, .one (.fls hf (rs ns)), ⟨rfl, List.nodup_nil, fun n o z => by cases z⟩, ?_⟩
  rw [e]
  intro V H' as' _ _ r
  cases r
  rfl
theorem fun_bA {K : PySem.W.Frag} {x qual : Str} {st : Stmt} {f : Addr} {fd : FuncData} {ps : List Str} (F : Fun K x qual st f fd)
    (h : ∀ (kV doc pm : Value) (an : Option Addr) (cdv ct : Value) (us : List Value), us.length = ps.length → bindArgs (PySem.W.fnOf x qual (defArgs st) (defBody st) (defScope st) .none kV doc pm an cdv ct) ⟨us, []⟩ = pure (ps.zip us)) (s : Shared) (us : List Value) (hl : us.length = ps.length) : BindsTo s fd ⟨us, []⟩ (ps.zip us) := by
  obtain ⟨oc, od, kV, doc, pm, an, cdv, ct, osl, e, _⟩ := F.ex
  rw [e]
  exact BindsTo.of_eq (h kV doc pm an cdv ct us hl)
theorem cx_none {P : Program} {w : World} {H : Hp} {s : Shared} {e : Value} {s' : Shared} (z : L2.CX P w [] H s (fun _ _ _ => False) e s') : False := by
  obtain ⟨_, _, _, _, _, _, _, _, _, _, _, _, q⟩ := z
  exact q
/-- a law from its functional code -/
theorem walk_W {l : PySem.W.OpenLaw} {k : Nat} {q : Program} {loose : List Str} {XP : (Str → Option Value) → Heap → Prop} {YP : World → Heap → Prop} {d : DefRec} {x : Str} {F : List PV → IH → Res PV}
    (hn : l.most = some 63) (hdf : d.params.defaults = []) (hr : Room k callerA)
    (hF : ∀ (w : World) (mg : Str → Option Value) (fa : Addr) (h : Heap), YP w h → h.Ns mainGlobals mg → mg d.name = some (.ref fa) →
      ∃ (K : PySem.W.Frag) (fd : FuncData), K.In h ∧ (∀ (s : Shared) (u : Value), BindsTo s fd ⟨[u], []⟩ [(x, u)]) ∧ ∀ base : Heap, K.In base → base.Ns mainGlobals mg → FnOk l.prog w K mg base (L2.CX l.prog w) k fa fd [x] (SpF K mg 1 F))
    (hl : ∀ ns : List Int, ns.length ≤ 63 → ∃ h, F [.fls (ns.map .int)] [] = .ok (.bl true) h) : PySem.W.WalkO q loose XP YP l.row.toRowW d [] (fun f vs => PySem.call f vs) := by
  refine Att.attach_call hn hdf fun w s0 s1 mg mb fa o pm cd doc a vs ns G Y ho hd hcd hmg hobj hints hlen hg => ?_
  obtain ⟨K, fd, KX, hb, hk⟩ := hF w mg fa _ Y G.T.g hmg
  exact law_call KX G.T.g G.T.b G.T.builtins G.T.nolimit hg hobj hints (by rw [sizeLine_eq]; omega) hr hk hb (fun H hO hS => law_sp hl H a ns hlen hO hS) fun H e s' z => cx_none z
end WR

/-! comprehensions -/
namespace WR
open PySem PySem.Spec PyProof.Rows L2
@[simp] def wipeF (r : Fm) : List Nat → Fm
  | [] => r
  | v :: vs => (wipeF r vs).set v none
def lcL (it : ItF) (g : TgF) (c : TX) (A : EX) (r0 : Fm) (D : Nat) : Nat → Nat → IH → Res Unit
  | 0, _, _ => .bad
  | n + 1, i, h => match it i h with
    | none => .bad
    | some none => .ok () h
    | some (some v) => (match g v r0 with
      | none => .bad
      | some r1 => (match c r1 h with
        | .ok b h2 => if b then (match A r1 h2 with
          | .ok y h3 => (match h3[D]? with
            | some (.lst acc) => if acc.length < 16777216 then lcL it g c A r0 D n (i + 1) (h3.set D (.lst (acc ++ [y]))) else .bad
            | _ => .bad)
          | _ => .bad) else lcL it g c A r0 D n (i + 1) h2
        | _ => .bad))
/-- [elt for tg in iter if c] -/
def eLc (I : Fm → IH → Res ItF) (g : TgF) (c : TX) (A : EX) (vs : List Nat) : EX := fun r h => (I r h).bind fun it h1 => (lcL it g c A (wipeF r vs) h1.length LIM 0 (h1 ++ [.lst []])).bind fun _ h2 => .ok (.obj h1.length) h2
@[simp] def tYesX : TX := fun _ h => .ok true h
section
variable {K : PySem.W.Frag} {mg : Str → Option Value} {as : List Addr} {H : Hp} {r : Fm} {s : L2.St}
theorem RF.unset {i : Nat} (f : RF K mg H as r s) : RF K mg H as (r.set i none) (s.set i none) := by
  refine ⟨by simp [f.len], fun j q e => ?_⟩
  by_cases hj : j = i
  · subst hj
    by_cases hl : j < r.length
    · rw [List.getElem?_set_self hl] at e; cases e
    · rw [List.getElem?_eq_none (by simpa using hl)] at e; cases e
  · rw [List.getElem?_set_ne (Ne.symm hj)] at e ⊢
    exact f.at_ j q e
theorem RF.wipe (f : RF K mg H as r s) : ∀ vs, RF K mg H as (wipeF r vs) (L2.wipe s vs)
  | [] => f
  | v :: vs => (RF.wipe f vs).unset
end
theorem wipe_get (s : L2.St) (j : Nat) : ∀ vs : List Nat, (L2.wipe s vs)[j]? = if j ∈ vs then s[j]?.map (fun _ => none) else s[j]?
  | [] => by simp [L2.wipe]
  | v :: vs => by
    have ih := wipe_get s j vs
    have hl := L2.wipe_length s vs
    unfold L2.wipe
    by_cases e : v = j
    · subst e
      rw [if_pos (by simp)]
      by_cases l : v < s.length
      · rw [List.getElem?_set_self (by rw [hl]; exact l), List.getElem?_eq_getElem l]; rfl
      · rw [List.getElem?_eq_none (by simp [hl]; omega), List.getElem?_eq_none (by omega)]; rfl
    · rw [List.getElem?_set_ne e, ih]
      by_cases m : j ∈ vs
      · rw [if_pos m, if_pos (by simp [m])]
      · rw [if_neg m, if_neg (by simp [m]; exact fun z => e z.symm)]
theorem wipe_set {s : L2.St} {i : Nat} {x : Option V} {vs : List Nat} (h : i ∈ vs) : L2.wipe (s.set i x) vs = L2.wipe s vs := by
  apply List.ext_getElem?
  intro j
  rw [wipe_get, wipe_get]
  by_cases m : j ∈ vs
  · rw [if_pos m, if_pos m]
    by_cases e : i = j
    · subst e
      by_cases l : i < s.length
      · rw [List.getElem?_set_self l, List.getElem?_eq_getElem l]; rfl
      · rw [List.getElem?_eq_none (by simp; omega), List.getElem?_eq_none (by omega)]
    · rw [List.getElem?_set_ne e]
  · rw [if_neg m, if_neg m, List.getElem?_set_ne (fun e : i = j => m (by rw [← e]; exact h))]
theorem wipe_wipe (s : L2.St) (vs : List Nat) : L2.wipe (L2.wipe s vs) vs = L2.wipe s vs := by
  apply List.ext_getElem?
  intro j
  rw [wipe_get, wipe_get]
  by_cases m : j ∈ vs
  · rw [if_pos m, if_pos m]; cases s[j]? <;> rfl
  · rw [if_neg m, if_neg m]
/-- a target within a block -/
def GW (K : PySem.W.Frag) (mg : Str → Option Value) (vs : List Nat) (g : TgF) : TG := fun v s H Q => ∃ as r p r1 h, RF K mg H as r s ∧ RH K mg H as h ∧ RP K mg H as p v ∧ g p r = some r1 ∧ ∀ s1, RF K mg H as r1 s1 → L2.wipe s1 vs = L2.wipe s vs → Q s1 H
def GWs (K : PySem.W.Frag) (mg : Str → Option Value) (vs is : List Nat) : TGs := fun us s H Q => ∃ as r ps r1, RF K mg H as r s ∧ RPs K mg H as ps us ∧ setAll is ps r = some r1 ∧ ∀ s1, RF K mg H as r1 s1 → L2.wipe s1 vs = L2.wipe s vs → Q s1 H
def W0 : WX := fun _ _ _ _ => False
section
variable {X : Cx} {W : WX} {k : Nat} {e : Expr} {es : List Expr} {pos : Pos}
theorem gw_name (i : Nat) {vs : List Nat} {x : Str} (hN : X.N.Nodup) (hi : X.N[i]? = some x := by rfl) (hx : Loc X.env.scope x := by first | exact Or.inl rfl | exact Or.inr rfl) (hf : X.fn x = true ∨ X.env.scope.names.lookup x = some .local := by first | exact .inl rfl | exact .inr rfl | assumption) (hv : i ∈ vs := by decide) :
    PG X (.Name x pos) (GW X.K X.mg vs (gVar i)) := by
  refine pgImp (pg_name hN hi hx hf) fun v s H Q ⟨as, r, p, r1, h, f, x, rp, e, q⟩ => ?_
  cases e
  exact q _ (f.set rp) (wipe_set hv)
theorem gws_nil {vs : List Nat} : PGs X [] (GWs X.K X.mg vs []) := by
  refine ⟨fun pins s σ H us ws Q I r q => pgs_nil.run pins s σ H us ws Q I r ?_⟩
  obtain ⟨as, r, ps, r1, f, rp, e, q⟩ := q
  cases ps with
  | nil => cases rp; cases e; exact ⟨rfl, q _ f rfl⟩
  | cons p ps => cases e
theorem gws_cons (i : Nat) {vs is : List Nat} {x : Str} (hN : X.N.Nodup) (h2 : PGs X es (GWs X.K X.mg vs is)) (hi : X.N[i]? = some x := by rfl) (hx : Loc X.env.scope x := by first | exact Or.inl rfl | exact Or.inr rfl) (hf : X.fn x = true ∨ X.env.scope.names.lookup x = some .local := by first | exact .inl rfl | exact .inr rfl | assumption) (hv : i ∈ vs := by decide)
    (hs : (assignEach (.Name x pos :: es) X.env).map (·.2) = assign (.Name x pos) X.env :: (assignEach es X.env).map (·.2) := by rfl) : PGs X (.Name x pos :: es) (GWs X.K X.mg vs (i :: is)) := by
  refine ⟨fun pins s σ H us ws Q I r q => (pgs_cons (pg_name (pos := pos) hN hi hx hf) h2 hs).run pins s σ H us ws Q I r ?_⟩
  obtain ⟨as, r, ps, r1, f, rp, e, q⟩ := q
  cases rp with
  | nil => cases e
  | cons a b => exact ⟨_, _, rfl, as, _, _, r1, f.set a, b, e, fun s1 f1 w1 => q s1 f1 (w1.trans (wipe_set hv))⟩
theorem gw_tup {vs is : List Nat} {kk : Nat} (cx : Ctx X W k) (h : PGs X es (GWs X.K X.mg vs is)) (hl : is.length = es.length := by rfl) (hn : (assignEach es X.env).length = es.length := by rfl) (hst : (assignEach es X.env).findIdx? (·.1) = none := by rfl) :
    PG X (.Tuple es kk pos) (GW X.K X.mg vs (gTupF is)) := by
  refine pgImp (pg_tup cx.calm h hn hst) fun v s H Q ⟨as, r, p, r1, h, f, x, rp, e, q⟩ => ?_
  cases rp with
  | tup hs rs =>
    refine ⟨_, _, rfl, hs, ?_, as, r, _, r1, f, rs, e, q⟩
    rw [← rs.length, ← hl]
    have key : ∀ (is : List Nat) (ps : List PV) (r : Fm) (r1 : Fm), setAll is ps r = some r1 → ps.length = is.length := by
      intro is
      induction is with
      | nil => intro ps r r1 e; cases ps with
        | nil => rfl
        | cons _ _ => cases e
      | cons i is ih => intro ps r r1 e; cases ps with
        | nil => cases e
        | cons p ps => rw [List.length_cons, List.length_cons, ih ps _ _ e]
    exact key _ _ _ _ e
  | non => cases e
  | bl => cases e
  | int => cases e
  | str => cases e
  | fls => cases e
  | obj => cases e
  | glo => cases e
  | ty => cases e
  | key => cases e
theorem Ctx.blk (cx : Ctx X W k) (s : Shared) (H : Hp) (scope : Scope) (cenv : Env) (fp : List Addr) : Ctx (X.blk s H scope cenv fp) W0 k :=
  ⟨fun u s' ⟨a, B, sI, pins, σ, H, cls, d, e, I, nb, up, sky, na, os, ag, w⟩ => w.elim, PassesOwn.never, cx.calm, cx.nd, cx.room⟩
theorem lc_sound {I : Fm → IH → Res ItF} {g : TgF} {c : TX} {A : EX} {vs : List Nat} {K : PySem.W.Frag} {mg : Str → Option Value} {s : L2.St} {H : Hp} {Q : VK} {as : List Addr} {r : Fm} {h : IH} (f : RF K mg H as r s) (x : RH K mg H as h)
    (o : Out K mg (fun H as p v => RP K mg H as p v) W s as H Q (eLc I g c A vs r h)) : tLc (II K mg W I) (GW K mg vs g) (IT K mg W0 c) (IE K mg W0 A) vs s H Q := by
  refine ⟨as, r, h, f, x, (Out.bind o).imp fun J H1 ⟨as1, h1, itf, S1, x1, ri, o1⟩ => ?_⟩
  intro D nD
  have SD := Stp.new (o := .lst []) x1 nD
  refine ⟨fun i m H2 => ∃ as2 h2, Stp as H as2 H2 ∧ RH K mg H2 as2 h2 ∧ RI K mg H2 as2 itf J ∧ as2[h1.length]? = some D ∧
    Out K mg (fun H as p v => RP K mg H as p v) W s as2 H2 Q ((lcL itf g c A (wipeF r vs) h1.length m i h2).bind fun _ h2 => .ok (.obj h1.length) h2),
    ⟨LIM, as1 ++ [D], h1 ++ [.lst []], S1.trans SD, x1.new (m := .lst []) nD ⟨_, upd_same, .nil⟩, ri.mono SD, ?_, o1.shift SD⟩, ?_⟩
  · rw [List.getElem?_append_right (by rw [x1.len]; exact Nat.le_refl _), x1.len, Nat.sub_self]; rfl
  rintro i m H2 ⟨as2, h2, S2, x2, ri2, d2, o2⟩
  cases m with
  | zero => exact o2.elim
  | succ m =>
    have z := ri2 i as2 H2 h2 (Stp.refl _ _) x2
    unfold lcL at o2
    cases q : itf i h2 with
    | none => rw [q] at o2; exact o2.elim
    | some w =>
      rw [q] at z o2
      cases w with
      | none => exact .inl ⟨z, o2.here x2 (.obj d2)⟩
      | some v =>
        refine .inr ⟨z.1, fun H3 => ∃ as3 h3, Stp as H as3 H3 ∧ RH K mg H3 as3 h3 ∧ RI K mg H3 as3 itf J ∧ as3[h1.length]? = some D ∧
          Out K mg (fun H as p v => RP K mg H as p v) W s as3 H3 Q ((lcL itf g c A (wipeF r vs) h1.length m (i + 1) h3).bind fun _ h2 => .ok (.obj h1.length) h2), fun H3 t => ⟨m, Nat.lt_succ_self m, t⟩, fun y H3 hy => ?_⟩
        obtain ⟨S3, x3, rv⟩ := z.2 y H3 hy
        cases qg : g v (wipeF r vs) with
        | none => simp only [qg] at o2; exact o2.elim
        | some r3 =>
          simp only [qg] at o2
          have S23 := S2.trans S3
          refine ⟨as2, wipeF r vs, v, r3, h2, (f.mono S23).wipe vs, x3, rv, qg, fun s4 f4 w4 => ⟨w4.trans (wipe_wipe _ _), as2, r3, h2, f4, x3, ?_⟩⟩
          have o3 := Out.shift S3 o2
          cases qc : c r3 h2 with
          | ex z r5 => simp only [qc] at o3; exact o3.elim
          | bad => simp only [qc] at o3; exact o3.elim
          | ok b h4 =>
            simp only [qc] at o3
            intro b' H4 as4 S4 x4 eb
            subst eb
            have o4 := Out.shift S4 o3
            cases b with
            | false =>
              simp only [Bool.false_eq_true, if_false] at o4 ⊢
              exact ⟨as4, h4, S23.trans S4, x4, (ri2.mono S3).mono S4, S4.get d2, o4⟩
            | true =>
              simp only [if_true] at o4 ⊢
              refine ⟨as4, r3, h4, f4.mono S4, x4, ?_⟩
              cases qa : A r3 h4 with
              | ex z r5 => simp only [qa] at o4; exact o4.elim
              | bad => simp only [qa] at o4; exact o4.elim
              | ok u h5 =>
                simp only [qa] at o4
                intro U H5 as5 S5 x5 ru
                have o5 := Out.shift S5 o4
                have d5 := S5.get (S4.get d2)
                split at o5
                · rename_i acc ha
                  split at o5
                  · rename_i hl
                    obtain ⟨b', e3, ws, e4, rs'⟩ := x5.at_ _ _ ha
                    rw [d5] at e3; cases e3
                    refine ⟨ws, e4, by rw [sizeLine_eq, ← rs'.length]; exact hl, ?_⟩
                    have S6 := Stp.put (o := .lst (ws ++ [U])) x5 d5 ha
                    exact ⟨as5, _, ((S23.trans S4).trans S5).trans S6, x5.put (m := .lst (acc ++ [u])) d5 ha ⟨_, upd_same, (rs'.append (.one ru)).mono S6⟩, (((ri2.mono S3).mono S4).mono S5).mono S6, S6.get d5, o5.shift S6⟩
                  · exact o5.elim
                · exact o5.elim
/-- as a value -/
theorem ie_lc {elt tg iter : Expr} {ifs : List Expr} {scope : Scope} {I : Fm → IH → Res ItF} {g : TgF} {c : TX} {A : EX} {vs : List Nat} (own : List (Str × Nat)) (cx : Ctx X W k) (hi : PI X tg iter (II X.K X.mg W I)) (ok : BlkOk X.N X.env.scope scope own)
    (hg : ∀ (s : Shared) (H : Hp) (C : Addr) (cl : List (Str × Addr)) (fp : List Addr), Ctx (X.blk s H scope (compEnvC scope cl C X.env) fp) W0 k → PG (X.blk s H scope (compEnvC scope cl C X.env) fp) tg (GW X.K X.mg vs g))
    (ht : ∀ (s : Shared) (H : Hp) (C : Addr) (cl : List (Str × Addr)) (fp : List Addr), Ctx (X.blk s H scope (compEnvC scope cl C X.env) fp) W0 k → PTs (X.blk s H scope (compEnvC scope cl C X.env) fp) ifs (IT X.K X.mg W0 c))
    (he : ∀ (s : Shared) (H : Hp) (C : Addr) (cl : List (Str × Addr)) (fp : List Addr), Ctx (X.blk s H scope (compEnvC scope cl C X.env) fp) W0 k → PE (X.blk s H scope (compEnvC scope cl C X.env) fp) elt (IE X.K X.mg W0 A))
    (hv : own.map (·.2) = vs := by rfl) (hs : ∀ x, foldedSetIterable iter X.env x = pure x := by intro _; rfl) : PE X (.ListComp elt [⟨tg, iter, ifs, 0⟩] scope pos) (IE X.K X.mg W (eLc I g c A vs)) := by
  subst hv
  exact peImp (pe_lc cx.calm cx.nd hi ok (fun s H C cl fp => hg s H C cl fp (cx.blk ..)) (fun s H C cl fp => ht s H C cl fp (cx.blk ..)) (fun s H C cl fp => he s H C cl fp (cx.blk ..)) hs) fun s H Q ⟨as, r, h, f, x, o⟩ => lc_sound f x o
theorem it_none : PTs X [] (IT X.K X.mg W tYesX) := ⟨fun pins s σ H Q I h => pts_nil.run pins s σ H Q I (by obtain ⟨as, r, h, f, x, o⟩ := h; exact o.here x rfl)⟩
/-- name = [..] on one line, the name a local -/
theorem is_setLc (i : Nat) {y : Str} {py spos : Pos} {elt tg iter : Expr} {ifs : List Expr} {scope : Scope} {I : Fm → IH → Res ItF} {g : TgF} {c : TX} {A : EX} {vs : List Nat} (own : List (Str × Nat)) (cx : Ctx X W k)
    (hsw : swapsWith (.ListComp elt [⟨tg, iter, ifs, 0⟩] scope pos) (some (.Name y py)) spos.line X.env = pure true) (hi : PI X tg iter (II X.K X.mg W I)) (ok : BlkOk X.N X.env.scope scope own)
    (hg : ∀ (s : Shared) (H : Hp) (C : Addr) (cl : List (Str × Addr)) (fp : List Addr), Ctx (X.blk s H scope (compEnvC scope cl C X.env) fp) W0 k → PG (X.blk s H scope (compEnvC scope cl C X.env) fp) tg (GW X.K X.mg vs g))
    (ht : ∀ (s : Shared) (H : Hp) (C : Addr) (cl : List (Str × Addr)) (fp : List Addr), Ctx (X.blk s H scope (compEnvC scope cl C X.env) fp) W0 k → PTs (X.blk s H scope (compEnvC scope cl C X.env) fp) ifs (IT X.K X.mg W0 c))
    (he : ∀ (s : Shared) (H : Hp) (C : Addr) (cl : List (Str × Addr)) (fp : List Addr), Ctx (X.blk s H scope (compEnvC scope cl C X.env) fp) W0 k → PE (X.blk s H scope (compEnvC scope cl C X.env) fp) elt (IE X.K X.mg W0 A))
    (hy : X.N[i]? = some y := by rfl) (hyl : X.env.scope.names.lookup y = some .local := by rfl)
    (hv : own.map (·.2) = vs := by rfl) (hs : ∀ x, foldedSetIterable iter X.env x = pure x := by intro _; rfl) : PS X (.Assign [.Name y py] (.ListComp elt [⟨tg, iter, ifs, 0⟩] scope pos) spos) (IS X.K X.mg W (sSet i (eLc I g c A vs))) := by
  subst hv
  refine psImp (ps_setLc cx.calm cx.nd hy hyl hsw hi ok (fun s H C cl fp => hg s H C cl fp (cx.blk ..)) (fun s H C cl fp => ht s H C cl fp (cx.blk ..)) (fun s H C cl fp => he s H C cl fp (cx.blk ..)) hs) fun D s H ⟨as, r, h, f, x, o⟩ => ?_
  refine lc_sound f x ((outS_of f o).imp fun V H1 ⟨as1, h1, p, S1, x1, r1, o1⟩ => ?_)
  exact o1 _ H1 as1 (Stp.refl _ _) x1 ((f.mono S1).set r1)
end
end WR

/-! more statements; in -/
namespace WR
open PySem PySem.Spec PyProof.Rows L2
@[simp] def sPar3 (i j l : Nat) (A : AX) : SX := fun r h => toS (A r h) r fun vs h1 => match vs with
  | [v, w, u] => .nx (((r.set i (some v)).set j (some w)).set l (some u)) h1
  | _ => .bad
@[simp] def sCont : SX := fun r h => .ct r h
@[simp] def sAugAdd (i : Nat) (A : EX) : SX := fun r h => match r[i]? with
  | some (some (.int x)) => toS (A r h) r fun v h1 => (match v with
    | .int y => .nx (r.set i (some (.int (x + y)))) h1
    | _ => .bad)
  | _ => .bad
def pInB (x y : PV) (h : IH) : Option Bool := match y with
  | .tup ys => (match x with
    | .int i => if ys.all (fun y => match y with | .int _ => true | _ => false) then some (ys.any fun y => match y with | .int j => j == i | _ => false) else none
    | _ => none)
  | _ => (match dataOf DEP h x, dataOf DEP h y with
    | some d, some (.list ds) => if SeqAt.shaped d && SeqAt.shaped (.list ds) then some (ds.any fun z => PyData.eqv z d) else none
    | _, _ => none)
@[simp] def pIn (x y : PV) (h : IH) : Res PV := opt ((pInB x y h).map .bl) h
@[simp] def pNotIn (x y : PV) (h : IH) : Res PV := opt ((pInB x y h).map fun b => .bl (!b)) h
section
variable {K : PySem.W.Frag} {mg : Str → Option Value}
theorem ints_flat {as : List Addr} {H : Hp} : ∀ {ys : List PV} {us : List V}, RPs K mg H as ys us → ys.all (fun y => match y with | .int _ => true | _ => false) = true → ∀ i : Int, us.all flatV = true ∧ inV (.int i) us = ys.any fun y => match y with | .int j => j == i | _ => false
  | [], _, .nil, _, i => ⟨rfl, rfl⟩
  | p :: ps, _, .cons r t, e, i => by
    rw [List.all_cons, Bool.and_eq_true] at e
    obtain ⟨e1, e2⟩ := e
    obtain ⟨h1, h2⟩ := ints_flat t e2 i
    cases r with
    | int j => exact ⟨by simp [flatV, h1], by unfold inV at *; rw [List.any_cons, List.any_cons, h2]; rfl⟩
    | _ => cases e1
theorem inB_of {as : List Addr} {H : Hp} {h : IH} {x y : PV} {U V : V} {q : Bool} (rh : RH K mg H as h) (rx : RP K mg H as x U) (ry : RP K mg H as y V) (e : pInB x y h = some q) :
    (∃ d ds, Dp K H U d ∧ Dp K H V (.list ds) ∧ SeqAt.shaped d = true ∧ SeqAt.shaped (.list ds) = true ∧ (ds.any fun z => PyData.eqv z d) = q) ∨
    ∃ p xs, V = .ref p ∧ (SqL K H p xs ∨ SqT K H p xs) ∧ flatV U = true ∧ xs.all flatV = true ∧ inV U xs = q := by
  unfold pInB at e
  split at e
  · split at e
    · split at e
      · rename_i hf
        cases ry with
        | tup hs rs =>
          cases rx
          cases e
          obtain ⟨h1, h2⟩ := ints_flat rs hf _
          exact .inr ⟨_, _, rfl, .inr hs, rfl, h1, h2⟩
      · cases e
    · cases e
  · split at e
    · rename_i d1 ds e1 e2
      split at e
      · rename_i hs
        obtain ⟨s1, s2⟩ := Bool.and_eq_true_iff.mp hs
        cases e
        exact .inl ⟨d1, ds, dp_of rh _ _ _ _ rx e1, dp_of rh _ _ _ _ ry e2, s1, s2, rfl⟩
      · cases e
    · cases e
theorem snd_in : Snd K mg pIn (fun x y H Q => rInD K x y H Q ∨ rIn K false x y H Q) := by
  intro W s as H h x y U V Q rh rx ry o
  unfold pIn at o
  cases q : pInB x y h with
  | none => rw [q] at o; exact o.elim
  | some z =>
    rw [q] at o
    rcases inB_of rh rx ry q with ⟨d, ds, h1, h2, h3, h4, rfl⟩ | ⟨p, xs, h1, h2, h3, h4, rfl⟩
    · exact .inl ⟨d, ds, h1, h2, h3, h4, o.here rh (.bl _)⟩
    · exact .inr ⟨p, xs, h1, h2, h3, h4, o.here rh (.bl _)⟩
theorem snd_notin : Snd K mg pNotIn (fun x y H Q => rNotInD K x y H Q ∨ rIn K true x y H Q) := by
  intro W s as H h x y U V Q rh rx ry o
  unfold pNotIn at o
  cases q : pInB x y h with
  | none => rw [q] at o; exact o.elim
  | some z =>
    rw [q] at o
    rcases inB_of rh rx ry q with ⟨d, ds, h1, h2, h3, h4, rfl⟩ | ⟨p, xs, h1, h2, h3, h4, rfl⟩
    · exact .inl ⟨d, ds, h1, h2, h3, h4, o.here rh (.bl _)⟩
    · exact .inr ⟨p, xs, h1, h2, h3, h4, o.here rh (.bl _)⟩
end
section
variable {X : Cx} {W : WX} {k : Nat} {a b e : Expr} {es : List Expr} {pos : Pos} {A B : EX} {L : AX}
theorem units65 {A : Around} (h : Room k A) : A.units + 65 < cLine := by
  have := h.un
  omega
theorem ie_in (cx : Ctx X W k) (ha : PE X a (IE X.K X.mg W A)) (hb : PE X b (IE X.K X.mg W B)) (hm : behindInMarks .In b = false := by rfl) : PE X (.Compare a [.In] [b] pos) (IE X.K X.mg W (eOp pIn A B)) := ie_cmp ((op_inD (units65 cx.room)).or op_in_seq) snd_in ha hb hm
theorem ie_notin (cx : Ctx X W k) (ha : PE X a (IE X.K X.mg W A)) (hb : PE X b (IE X.K X.mg W B)) (hm : behindInMarks .NotIn b = false := by rfl) : PE X (.Compare a [.NotIn] [b] pos) (IE X.K X.mg W (eOp pNotIn A B)) := ie_cmp ((op_notInD (units65 cx.room)).or op_notIn_seq) snd_notin ha hb hm
theorem it_in (cx : Ctx X W k) (ha : PE X a (IE X.K X.mg W A)) (hb : PE X b (IE X.K X.mg W B)) (hm : behindInMarks .In b = false := by rfl) : PT X (.Compare a [.In] [b] pos) (IT X.K X.mg W (tBl (eOp pIn A B))) := it_cmp ((op_inD (units65 cx.room)).or op_in_seq) snd_in ha hb hm
theorem it_notin (cx : Ctx X W k) (ha : PE X a (IE X.K X.mg W A)) (hb : PE X b (IE X.K X.mg W B)) (hm : behindInMarks .NotIn b = false := by rfl) : PT X (.Compare a [.NotIn] [b] pos) (IT X.K X.mg W (tBl (eOp pNotIn A B))) := it_cmp ((op_notInD (units65 cx.room)).or op_notIn_seq) snd_notin ha hb hm
theorem is_pass : PS X (.Pass pos) (IS X.K X.mg W sNil) := psImp ps_pass fun D s H ⟨as, r, h, f, x, o⟩ => o _ _ _ (Stp.refl _ _) x f
theorem is_cont : PS X (.Continue pos) (IS X.K X.mg W sCont) := psImp ps_continue fun D s H ⟨as, r, h, f, x, o⟩ => o _ _ _ (Stp.refl _ _) x f
theorem is_par3 {i j l : Nat} {x y z : Str} {a b c : Expr} {px py pz pt : Pos} {kt k2 pt2} (cx : Ctx X W k) (ha : PA X [a, b, c] (IA X.K X.mg W L)) (hi : X.N[i]? = some x := by rfl) (hj : X.N[j]? = some y := by rfl) (hl : X.N[l]? = some z := by rfl) (hij : i ≠ j := by decide) (hil : i ≠ l := by decide) (hjl : j ≠ l := by decide)
    (hx : X.env.scope.names.lookup x = some .local := by rfl) (hy : X.env.scope.names.lookup y = some .local := by rfl) (hz : X.env.scope.names.lookup z = some .local := by rfl)
    (hw : swappedStores [.Tuple [.Name x px, .Name y py, .Name z pz] kt pt] (.Tuple [a, b, c] k2 pt2) X.env = pure (some [x, y, z]) := by rfl)
    (hs : swapsWithSole [.Tuple [.Name x px, .Name y py, .Name z pz] kt pt] (.Tuple [a, b, c] k2 pt2) pos.line X.env = pure false := by rfl) :
    PS X (.Assign [.Tuple [.Name x px, .Name y py, .Name z pz] kt pt] (.Tuple [a, b, c] k2 pt2) pos) (IS X.K X.mg W (sPar3 i j l L)) := by
  refine psImp (ps_par3 cx.calm cx.nd hi hj hl hij hil hjl hx hy hz ha hw hs) fun D s H ⟨as, r, h, f, x, o⟩ => ?_
  refine ⟨as, r, h, f, x, (outS_of f o).imp fun Vs H1 ⟨as1, h1, ps, S1, x1, r1, o1⟩ => ?_⟩
  split at o1
  · cases r1 with
    | cons rv r1 => cases r1 with
      | cons rw' r1 => cases r1 with
        | cons ru r1 => cases r1; exact ⟨_, _, _, rfl, o1 _ H1 as1 (Stp.refl _ _) x1 ((((f.mono S1).set rv).set rw').set ru)⟩
  · exact o1.elim
theorem is_augAdd {i : Nat} {x : Str} {pos' : Pos} (cx : Ctx X W k) (he : PE X e (IE X.K X.mg W A)) (hi : X.N[i]? = some x := by rfl) (hx : Loc X.env.scope x := by first | exact Or.inl rfl | exact Or.inr rfl) (hf : X.fn x = true ∨ X.env.scope.names.lookup x = some .local := by first | exact .inl rfl | exact .inr rfl | assumption) :
    PS X (.AugAssign (.Name x pos') .Add e pos) (IS X.K X.mg W (sAugAdd i A)) := by
  refine psImp (ps_aug cx.nd hi hx he ip_add hf) fun D s H ⟨as, r, h, f, x, o⟩ => ?_
  unfold sAugAdd at o
  split at o
  · rename_i n e1
    obtain ⟨V, e2, rv⟩ := f.at_ i _ e1
    cases rv
    refine ⟨_, e2, as, r, h, f, x, (outS_of f o).imp fun V H1 ⟨as1, h1, p, S1, x1, r1, o1⟩ => ?_⟩
    split at o1
    · cases r1
      exact ⟨_, _, rfl, rfl, o1 _ H1 as1 (Stp.refl _ _) x1 ((f.mono S1).set (.int _))⟩
    · exact o1.elim
  · exact o.elim
end
end WR

/-! more of lists -/
namespace WR
open PySem PySem.Spec PyProof.Rows L2
@[simp] def eInsert (A : EX) (L : AX) : EX := fun r h => (A r h).bind fun x h1 => match x with
  | .obj n => (match h1[n]? with
    | some (.lst _) => (L r h1).bind fun vs h2 => (match vs, h2[n]? with
      | [.int i, y], some (.lst xs) => if xs.length < 16777216 ∧ 0 ≤ i ∧ i < 1000000000 then .ok .non (h2.set n (.lst (xs.take i.toNat ++ [y] ++ xs.drop i.toNat))) else .bad
      | _, _ => .bad)
    | _ => .bad)
  | _ => .bad
section
variable {X : Cx} {W : WX} {k : Nat} {a b e o : Expr} {es : List Expr} {pos : Pos} {A B C : EX} {L : AX}
theorem ie_insert {apos : Pos} (ho : PE X o (IE X.K X.mg W A)) (ha : PA X (e :: es) (IA X.K X.mg W L)) (hbase : attributeBase o "insert" X.env (eval o X.env) = eval o X.env := by rfl)
    (hfew : ((backTo pos (starEach (e :: es) X.env)).all (fun x => !x.1) && (backToKw pos (keywordEach [] X.env)).all (fun x => x.1.isSome)
      && decide ((e :: es).length + ([] : List Keyword).length + (if ([] : List Keyword).isEmpty then 0 else 1) < 30)) = true := by rfl)
    (hline : (apos.endLine == pos.line) = true := by rfl) (hs : starEach (e :: es) X.env = (false, eval e X.env) :: starEach es X.env := by rfl) (hplain : (backTo pos (starEach es X.env)).any (·.1) = false := by rfl) :
    PE X (.Call (.Attribute o "insert" apos) (e :: es) [] pos) (IE X.K X.mg W (eInsert A L)) := by
  refine peImp (pe_bm PySem.F.plainAttrs_list PySem.F.slot_list_insert PySem.F.type_list_insert mt_insert ho ha hbase hfew hline hs hplain) fun s H Q ⟨as, ρ, hh, f, x, o⟩ => ?_
  refine ⟨as, ρ, hh, f, x, (Out.bind o).imp fun V H1 ⟨as1, h1, p1, S1, x1, r1, o1⟩ => ?_⟩
  split at o1
  · rename_i n
    cases r1 with
    | obj hn =>
      split at o1
      · rename_i ys hy
        obtain ⟨b, e1, us, e2, rs⟩ := x1.at_ _ _ hy
        rw [hn] at e1; cases e1
        refine ⟨.inl ⟨rfl, _, SqL.of e2⟩, as1, ρ, h1, f.mono S1, x1, (Out.bind o1).imp fun Vs H2 ⟨as2, h2, p2, S2, x2, r2, o2⟩ => ?_⟩
        split at o2
        · rename_i i y xs hx
          split at o2
          · rename_i hl
            obtain ⟨v, w, rfl, rv, rw'⟩ := r2.inv2
            cases rv
            obtain ⟨b', e3, ws, e4, rs'⟩ := x2.at_ _ _ hx
            have hn2 := S2.get hn
            rw [hn2] at e3; cases e3
            refine ⟨_, ws, i, w, rfl, rfl, e4, by rw [sizeLine_eq, ← rs'.length]; exact hl.1, hl.2.1, by omega, ?_⟩
            have S3 := Stp.put (o := .lst (ws.take i.toNat ++ [w] ++ ws.drop i.toNat)) x2 hn2 hx
            exact o2 _ _ _ S3 (x2.put (m := .lst (xs.take i.toNat ++ [y] ++ xs.drop i.toNat)) hn2 hx ⟨_, upd_same, (((rs'.take _).append (.one rw')).append (rs'.drop _)).mono S3⟩) .non
          · exact o2.elim
        · exact o2.elim
      · exact o1.elim
  · exact o1.elim
end
end WR

/-! keys (tuples of ints that stand in H), dicts of them, sums, two clauses, calls of items -/
namespace WR
open PySem PySem.Spec PyProof.Rows L2
@[simp] def nrm : PV → PV
  | .key ks => .tup (ks.map .int)
  | v => v
@[simp] def eF (A : EX) : EX := fun r h => (A r h).bind fun v h1 => .ok (nrm v) h1
@[simp] def keyOf : List PV → Option (List Int)
  | [] => some []
  | .int i :: r => (keyOf r).map (i :: ·)
  | _ => none
@[simp] def eKey (L : AX) : EX := fun r h => (L r h).bind fun xs h1 => match keyOf xs with
  | some ks => if ks.length ≤ 16777216 then .ok (.key ks) h1 else .bad
  | none => .bad
@[simp] def pAddK : PV → PV → IH → Res PV
  | .key a, .key b, h => if a.length + b.length ≤ 16777216 then .ok (.key (a ++ b)) h else .bad
  | _, _, _ => .bad
@[simp] def pSlK : PV → Option Int → Option Int → IH → Res PV
  | .key ks, lo, hi, h => .ok (.key (cutA ks lo hi)) h
  | _, _, _, _ => .bad
@[simp] def eSlK (A : EX) (l u : OX) : EX := fun r h => (A r h).bind fun x h1 => (l r h1).bind fun lo h2 => (u r h2).bind fun hi h3 => pSlK x lo hi h3
section
variable {K : PySem.W.Frag} {mg : Str → Option Value} {as : List Addr} {H : Hp}
theorem RPs.ints : ∀ (ks : List Int), RPs K mg H as (ks.map .int) (ks.map V.int)
  | [] => .nil
  | k :: r => .cons (.int k) (RPs.ints r)
theorem RP.nrm {p : PV} {v : V} (r : RP K mg H as p v) : RP K mg H as (nrm p) v := by
  cases r with
  | key h => exact .tup (SqT.of h) (RPs.ints _)
  | non => exact .non
  | bl b => exact .bl b
  | int i => exact .int i
  | str x => exact .str x
  | tup a b => exact .tup a b
  | fls a b => exact .fls a b
  | obj a => exact .obj a
  | glo a b => exact .glo a b
  | ty n => exact .ty n
theorem keyOf_of : ∀ {ps : List PV} {vs : List V} {ks : List Int}, RPs K mg H as ps vs → keyOf ps = some ks → vs = ks.map V.int
  | [], _, _, .nil, e => by cases e; rfl
  | p :: ps, _, ks, .cons r t, e => by
    cases r with
    | int i =>
      simp only [keyOf, Option.map_eq_some_iff] at e
      obtain ⟨ks', e1, rfl⟩ := e
      rw [keyOf_of t e1]; rfl
    | _ => cases e
end
section
variable {X : Cx} {W : WX} {k : Nat} {a b e o : Expr} {es : List Expr} {pos p apos : Pos} {A B C : EX} {L : AX}
theorem ie_f (ha : PE X a (IE X.K X.mg W A)) : PE X a (IE X.K X.mg W (eF A)) := by
  refine peImp ha fun s H Q ⟨as, ρ, hh, f, x, o⟩ => ?_
  refine ⟨as, ρ, hh, f, x, (Out.bind o).imp fun V H1 ⟨as1, h1, p1, S1, x1, r1, o1⟩ => ?_⟩
  exact o1.here x1 r1.nrm
theorem ie_key {x1} (h : PA X es (IA X.K X.mg W L)) : PE X (.Tuple es x1 pos) (IE X.K X.mg W (eKey L)) := by
  refine peImp (pe_tup h) fun s H Q ⟨as, ρ, hh, f, x, o⟩ => ?_
  refine ⟨as, ρ, hh, f, x, (Out.bind o).imp fun Vs H1 ⟨as1, h1, p1, S1, x1, r1, o1⟩ => ?_⟩
  split at o1
  · rename_i ks hk
    have e := keyOf_of r1 hk
    subst e
    split at o1
    · rename_i hl
      refine ⟨by rw [sizeLine_eq, List.length_map]; exact hl, fun p np => ?_⟩
      exact o1 _ _ as1 (Stp.lay x1 np) (x1.lay np) (.key upd_same)
    · exact o1.elim
  · exact o1.elim
theorem snd_addK {K : PySem.W.Frag} {mg : Str → Option Value} : Snd K mg pAddK (rCatA K) := by
  intro W s as H h x y U V Q rh rx ry o
  unfold pAddK at o
  split at o
  · rename_i ks ls
    cases rx with
    | key ha => cases ry with
      | key hb =>
        split at o
        · rename_i hl
          refine ⟨_, _, _, _, rfl, rfl, SqT.of ha, SqT.of hb, by rw [sizeLine_eq, List.length_map, List.length_map]; exact hl, fun e => ?_, fun _ e => ?_, fun _ _ p np => ?_⟩
          · have e' : ks = [] := List.map_eq_nil_iff.mp e
            subst e'
            exact o.here rh (.key hb)
          · have e' : ls = [] := List.map_eq_nil_iff.mp e
            subst e'
            rw [List.append_nil] at o
            exact o.here rh (.key ha)
          · exact o _ _ as (Stp.lay rh np) (rh.lay np) (.key (by rw [upd_same, List.map_append]))
        · exact o.elim
  · exact o.elim
theorem ie_addK (ha : PE X a (IE X.K X.mg W A)) (hb : PE X b (IE X.K X.mg W B)) : PE X (.BinOp a .Add b pos) (IE X.K X.mg W (eOp pAddK A B)) := ie_op op_catA snd_addK ha hb
theorem cut_map {α β : Type} (g : α → β) (l : List α) (lo hi : Option Int) : (cutA l lo hi).map g = cutA (l.map g) lo hi := by
  unfold cutA
  rw [List.map_take, List.map_drop, List.length_map]
theorem ie_slK {lo hi : Option Expr} {p2 : Pos} {l u : OX} (he : PE X e (IE X.K X.mg W A)) (hl : PO X lo (IO X.K X.mg W l)) (hu : PO X hi (IO X.K X.mg W u)) : PE X (.Subscript e (.Slice lo hi none p2) pos) (IE X.K X.mg W (eSlK A l u)) := by
  refine peImp (pe_slice (sl_tupA.or sl_list) he hl hu) fun s H Q ⟨as, ρ, hh, f, x, o⟩ => ?_
  refine ⟨as, ρ, hh, f, x, (Out.bind o).imp fun V H1 ⟨as1, h1, p1, S1, x1, r1, o1⟩ => ?_⟩
  refine ⟨as1, ρ, h1, f.mono S1, x1, (Out.bind o1).imp fun lo' H2 ⟨as2, h2, p2, S2, x2, r2, o2⟩ => ?_⟩
  refine ⟨as2, ρ, h2, (f.mono S1).mono S2, x2, (Out.bind o2).imp fun hi' H3 ⟨as3, h3, p3, S3, x3, r3, o3⟩ => ?_⟩
  obtain rfl : p2 = lo' := r2
  obtain rfl : p3 = hi' := r3
  have r1' := (r1.mono S2).mono S3
  unfold pSlK at o3
  split at o3
  · rename_i ks
    cases r1' with
    | key hs =>
      refine .inl ⟨_, _, rfl, SqT.of hs, fun hw => ?_, fun _ p np => ?_⟩
      · have e : ∀ {α : Type} (l : List α), HT.sIx l.length 0 p2 = 0 ∧ HT.sIx l.length l.length p3 = l.length → cutA l p2 p3 = l := fun l z => by
          unfold cutA
          rw [z.1, z.2]
          simp
        rw [List.length_map] at hw
        rw [e _ hw] at o3
        exact o3.here x3 (.key hs)
      · refine o3 _ _ as3 (Stp.lay x3 np) (x3.lay np) (.key ?_)
        rw [upd_same, cut_map]; rfl
  · exact o3.elim
end
/-! ### dicts -/
def dGet (kvs : List (List Int × PV)) (k : List Int) : Option PV := (kvs.find? fun q => decide (q.1 = k)).map (·.2)
def dPut (kvs : List (List Int × PV)) (k : List Int) (v : PV) : List (List Int × PV) :=
  if (kvs.any fun q => decide (q.1 = k)) = true then kvs.map (fun q => if q.1 = k then (q.1, v) else q) else kvs ++ [(k, v)]
@[simp] def eDNew : EX := fun _ h => .ok (.obj h.length) (h ++ [.dct []])
@[simp] def pDGet (x y : PV) (h : IH) : Res PV := match x, y with
  | .obj n, .key k => (match h[n]? with
    | some (.dct kvs) => opt (dGet kvs k) h
    | _ => .bad)
  | _, _ => .bad
@[simp] def pDIn (y x : PV) (h : IH) : Res PV := match x, y with
  | .obj n, .key k => (match h[n]? with
    | some (.dct kvs) => .ok (.bl (dGet kvs k).isSome) h
    | _ => .bad)
  | _, _ => .bad
@[simp] def pDNotIn (y x : PV) (h : IH) : Res PV := match x, y with
  | .obj n, .key k => (match h[n]? with
    | some (.dct kvs) => .ok (.bl (!(dGet kvs k).isSome)) h
    | _ => .bad)
  | _, _ => .bad
/-- d[k] = v: v first -/
@[simp] def sDPutX (D Kx V : EX) : SX := fun r h => toS (V r h) r fun v h1 => toS (D r h1) r fun d h2 => toS (Kx r h2) r fun kk h3 => match d, kk with
  | .obj n, .key k => (match h3[n]? with
    | some (.dct kvs) => if kvs.length < 16777216 then .nx r (h3.set n (.dct (dPut kvs k v))) else .bad
    | _ => .bad)
  | _, _ => .bad
theorem kV_map (k : List Int) : (k.map (Sum.inl : Int → Key)).map kV = k.map V.int := by
  rw [List.map_map]; rfl
theorem inl_inj {a b : List Int} : a.map (Sum.inl : Int → Key) = b.map Sum.inl ↔ a = b := by
  constructor
  · intro h
    induction a generalizing b with
    | nil => cases b with
      | nil => rfl
      | cons _ _ => cases h
    | cons x r ih => cases b with
      | nil => cases h
      | cons y t =>
        simp only [List.map_cons, List.cons.injEq, Sum.inl.injEq] at h
        rw [h.1, ih h.2]
  · intro h; rw [h]
section
variable {K : PySem.W.Frag} {mg : Str → Option Value} {as : List Addr} {H : Hp}
theorem dGet_of (k : List Int) : ∀ {kvs : List (List Int × PV)} {gs : List (List Key × V)}, gs.map (·.1) = kvs.map (fun q => q.1.map (Sum.inl : Int → Key)) → RPs K mg H as (kvs.map (·.2)) (gs.map (·.2)) →
    (∃ p v, dGet kvs k = some p ∧ valV gs (k.map Sum.inl) = some v ∧ RP K mg H as p v) ∨ (dGet kvs k = none ∧ valV gs (k.map Sum.inl) = none)
  | [], [], _, _ => .inr ⟨rfl, rfl⟩
  | [], g :: gs, e, _ => by cases e
  | q :: kvs, [], e, _ => by cases e
  | q :: kvs, g :: gs, e, r => by
    simp only [List.map_cons, List.cons.injEq] at e
    cases r with
    | cons r1 r2 =>
      by_cases hk : q.1 = k
      · refine .inl ⟨q.2, g.2, by simp [dGet, List.find?_cons, hk], valV_pos (by rw [e.1, hk]), r1⟩
      · have hk' : ¬ g.1 = k.map (Sum.inl : Int → Key) := by rw [e.1]; exact fun z => hk (inl_inj.mp z)
        have e2 : dGet (q :: kvs) k = dGet kvs k := by simp [dGet, List.find?_cons, hk]
        rw [e2, valV_neg hk']
        exact dGet_of k e.2 r2
theorem any_of (k : List Int) {kvs : List (List Int × PV)} {gs : List (List Key × V)} (e : gs.map (·.1) = kvs.map (fun q => q.1.map (Sum.inl : Int → Key))) :
    (gs.any fun kv => decide (kv.1 = k.map Sum.inl)) = (kvs.any fun q => decide (q.1 = k)) := by
  induction kvs generalizing gs with
  | nil => cases gs with
    | nil => rfl
    | cons _ _ => cases e
  | cons q kvs ih => cases gs with
    | nil => cases e
    | cons g gs =>
      simp only [List.map_cons, List.cons.injEq] at e
      rw [List.any_cons, List.any_cons, ih e.2, e.1]
      congr 1
      rw [decide_eq_decide]
      exact inl_inj
theorem dPut_of (k : List Int) {v : PV} {u : V} (rv : RP K mg H as v u) {kvs : List (List Int × PV)} {gs : List (List Key × V)} (e : gs.map (·.1) = kvs.map (fun q => q.1.map (Sum.inl : Int → Key))) (r : RPs K mg H as (kvs.map (·.2)) (gs.map (·.2))) :
    (putK gs (k.map Sum.inl) u).map (·.1) = (dPut kvs k v).map (fun q => q.1.map (Sum.inl : Int → Key)) ∧ RPs K mg H as ((dPut kvs k v).map (·.2)) ((putK gs (k.map Sum.inl) u).map (·.2)) := by
  unfold putK dPut
  rw [any_of k e]
  split
  · rename_i hc
    clear hc
    induction kvs generalizing gs with
    | nil => cases gs with
      | nil => exact ⟨rfl, .nil⟩
      | cons _ _ => cases e
    | cons q kvs ih => cases gs with
      | nil => cases e
      | cons g gs =>
        simp only [List.map_cons, List.cons.injEq] at e
        cases r with
        | cons r1 r2 =>
          obtain ⟨i1, i2⟩ := ih e.2 r2
          by_cases hk : q.1 = k
          · have hg : g.1 = k.map (Sum.inl : Int → Key) := by rw [e.1, hk]
            simp only [List.map_cons, if_pos hk, if_pos hg]
            exact ⟨by rw [i1, hg, hk], .cons rv i2⟩
          · have hg : ¬ g.1 = k.map (Sum.inl : Int → Key) := by rw [e.1]; exact fun z => hk (inl_inj.mp z)
            simp only [List.map_cons, if_neg hk, if_neg hg]
            exact ⟨by rw [i1, e.1], .cons r1 i2⟩
  · simp only [List.map_append, List.map_cons, List.map_nil]
    exact ⟨by rw [e], r.append (.one rv)⟩
theorem dget_rel {h : IH} {n : Nat} {k : List Int} {kvs : List (List Int × PV)} {U V : V} (rh : RH K mg H as h) (rx : RP K mg H as (.obj n) U) (ry : RP K mg H as (.key k) V) (e : h[n]? = some (.dct kvs)) :
    ∃ a ov, U = .ref a ∧ DGet H a V ov ∧ ((∃ p v, dGet kvs k = some p ∧ ov = some v ∧ RP K mg H as p v) ∨ (dGet kvs k = none ∧ ov = none)) := by
  cases rx with
  | obj ha => cases ry with
    | key hb =>
      obtain ⟨a, g1, gs, g2, ek, rs⟩ := rh.at_ _ _ e
      rw [ha] at g1; cases g1
      refine ⟨_, _, rfl, DGet.t g2 (k := k.map Sum.inl) (by rw [hb, kV_map]), ?_⟩
      rcases dGet_of k ek rs with ⟨p, v, h1, h2, h3⟩ | ⟨h1, h2⟩
      · exact .inl ⟨p, v, h1, h2, h3⟩
      · exact .inr ⟨h1, h2⟩
end
section
variable {X : Cx} {W : WX} {k : Nat} {a b e o i : Expr} {es : List Expr} {pos p apos : Pos} {A B C : EX} {L : AX}
theorem ie_dnew : PE X (.Dict [] [] pos) (IE X.K X.mg W eDNew) := by
  refine peImp pe_dnewT fun s H Q ⟨as, ρ, hh, f, x, o⟩ => ?_
  intro p np
  have S := Stp.new (o := .dT []) x np
  refine o _ _ _ S (x.new np ⟨_, upd_same, rfl, .nil⟩) (.obj ?_)
  rw [List.getElem?_append_right (by rw [x.len]; exact Nat.le_refl _), x.len, Nat.sub_self]
  rfl
theorem ie_dget (cx : Ctx X W k) (ha : PE X a (IE X.K X.mg W A)) (hb : PE X b (IE X.K X.mg W B)) (hs : NoSl b := by intro _ _; rfl) : PE X (.Subscript a b pos) (IE X.K X.mg W (eOp pDGet A B)) := by
  refine peImp (pe_dget (hu_of cx.room) ha hb hs) fun s H Q ⟨as, ρ, hh, f, x, o⟩ => ?_
  refine ⟨as, ρ, hh, f, x, (Out.bind o).imp fun V H1 ⟨as1, h1, p1, S1, x1, r1, o1⟩ => ?_⟩
  refine ⟨as1, ρ, h1, f.mono S1, x1, (Out.bind o1).imp fun V2 H2 ⟨as2, h2, p2, S2, x2, r2, o2⟩ => ?_⟩
  unfold pDGet at o2
  split at o2
  · split at o2
    · rename_i kvs hk
      obtain ⟨a, ov, rfl, g, z⟩ := dget_rel x2 (r1.mono S2) r2 hk
      rcases z with ⟨p, v, h1, rfl, h3⟩ | ⟨h1, h2⟩
      · rw [h1] at o2
        exact ⟨_, _, rfl, g, o2.here x2 h3⟩
      · rw [h1] at o2; exact o2.elim
    · exact o2.elim
  · exact o2.elim
theorem op_din (hu : X.A.units + 1 < cLine) : OpR X (compareOp .In) (fun y x H Q => ∃ a o, x = .ref a ∧ DGet H a y o ∧ Q (.bl o.isSome) H) := by
  intro pins s σ H x y v u Q I rx ry h
  obtain ⟨a, o, rfl, g, q⟩ := h
  obtain rfl : u = Value.ref a := ry
  exact d_in hu I g rx fun s3 I3 => ⟨.bl o.isSome, H, I3, rfl, q⟩
theorem op_dnotin (hu : X.A.units + 1 < cLine) : OpR X (compareOp .NotIn) (fun y x H Q => ∃ a o, x = .ref a ∧ DGet H a y o ∧ Q (.bl (!o.isSome)) H) := by
  intro pins s σ H x y v u Q I rx ry h
  obtain ⟨a, o, rfl, g, q⟩ := h
  obtain rfl : u = Value.ref a := ry
  exact d_notIn hu I g rx fun s3 I3 => ⟨.bl (!o.isSome), H, I3, rfl, q⟩
theorem snd_din {K : PySem.W.Frag} {mg : Str → Option Value} : Snd K mg pDIn (fun y x H Q => ∃ a o, x = .ref a ∧ DGet H a y o ∧ Q (.bl o.isSome) H) := by
  intro W s as H h x y U V Q rh rx ry o
  unfold pDIn at o
  split at o
  · split at o
    · rename_i kvs hk
      obtain ⟨a, ov, rfl, g, z⟩ := dget_rel rh ry rx hk
      refine ⟨_, _, rfl, g, ?_⟩
      rcases z with ⟨p, v, h1, rfl, h3⟩ | ⟨h1, rfl⟩
      · rw [h1] at o; exact o.here rh (.bl _)
      · rw [h1] at o; exact o.here rh (.bl _)
    · exact o.elim
  · exact o.elim
theorem snd_dnotin {K : PySem.W.Frag} {mg : Str → Option Value} : Snd K mg pDNotIn (fun y x H Q => ∃ a o, x = .ref a ∧ DGet H a y o ∧ Q (.bl (!o.isSome)) H) := by
  intro W s as H h x y U V Q rh rx ry o
  unfold pDNotIn at o
  split at o
  · split at o
    · rename_i kvs hk
      obtain ⟨a, ov, rfl, g, z⟩ := dget_rel rh ry rx hk
      refine ⟨_, _, rfl, g, ?_⟩
      rcases z with ⟨p, v, h1, rfl, h3⟩ | ⟨h1, rfl⟩
      · rw [h1] at o; exact o.here rh (.bl _)
      · rw [h1] at o; exact o.here rh (.bl _)
    · exact o.elim
  · exact o.elim
theorem ie_din (cx : Ctx X W k) (ha : PE X a (IE X.K X.mg W A)) (hb : PE X b (IE X.K X.mg W B)) (hm : behindInMarks .In b = false := by rfl) : PE X (.Compare a [.In] [b] pos) (IE X.K X.mg W (eOp pDIn A B)) := ie_cmp (op_din (hu_of cx.room)) snd_din ha hb hm
theorem it_din (cx : Ctx X W k) (ha : PE X a (IE X.K X.mg W A)) (hb : PE X b (IE X.K X.mg W B)) (hm : behindInMarks .In b = false := by rfl) : PT X (.Compare a [.In] [b] pos) (IT X.K X.mg W (tBl (eOp pDIn A B))) := it_cmp (op_din (hu_of cx.room)) snd_din ha hb hm
theorem ie_dnotin (cx : Ctx X W k) (ha : PE X a (IE X.K X.mg W A)) (hb : PE X b (IE X.K X.mg W B)) (hm : behindInMarks .NotIn b = false := by rfl) : PE X (.Compare a [.NotIn] [b] pos) (IE X.K X.mg W (eOp pDNotIn A B)) := ie_cmp (op_dnotin (hu_of cx.room)) snd_dnotin ha hb hm
theorem it_dnotin (cx : Ctx X W k) (ha : PE X a (IE X.K X.mg W A)) (hb : PE X b (IE X.K X.mg W B)) (hm : behindInMarks .NotIn b = false := by rfl) : PT X (.Compare a [.NotIn] [b] pos) (IT X.K X.mg W (tBl (eOp pDNotIn A B))) := it_cmp (op_dnotin (hu_of cx.room)) snd_dnotin ha hb hm
theorem is_dput {value : Expr} {pos' : Pos} (cx : Ctx X W k) (hv : PE X value (IE X.K X.mg W C)) (ho : PE X o (IE X.K X.mg W A)) (hi : PE X i (IE X.K X.mg W B)) (hs : swapsWith value (some (.Subscript o i pos')) pos.line X.env = pure false := by rfl) :
    PS X (.Assign [.Subscript o i pos'] value pos) (IS X.K X.mg W (sDPutX A B C)) := by
  refine psImp (ps_dput (hu_of cx.room) ho hi hv hs) fun D s H ⟨as, r, h, f, x, o⟩ => ?_
  refine ⟨as, r, h, f, x, (outS_of f o).imp fun V H1 ⟨as1, h1, p1, S1, x1, r1, o1⟩ => ?_⟩
  refine ⟨as1, r, h1, f.mono S1, x1, (outS_of (f.mono S1) o1).imp fun V2 H2 ⟨as2, h2, p2, S2, x2, r2, o2⟩ => ?_⟩
  refine ⟨as2, r, h2, (f.mono S1).mono S2, x2, (outS_of ((f.mono S1).mono S2) o2).imp fun V3 H3 ⟨as3, h3, p3, S3, x3, r3, o3⟩ => ?_⟩
  split at o3
  · rename_i n kk _
    split at o3
    · rename_i kvs hk
      split at o3
      · rename_i hl
        have r2' := r2.mono S3
        have r1' := (r1.mono S2).mono S3
        cases r2' with
        | obj ha => cases r3 with
          | key hb =>
            obtain ⟨a, g1, gs, g2, ek, rs⟩ := x3.at_ _ _ hk
            rw [ha] at g1; cases g1
            have hlen : gs.length = kvs.length := by have := congrArg List.length ek; simpa using this
            refine ⟨_, _, rfl, DPut.t g2 (k := kk.map Sum.inl) (by rw [hb, kV_map]) (by rw [sizeLine_eq, hlen]; exact hl), ?_⟩
            have S4 := Stp.put (o := .dT (putK gs (kk.map Sum.inl) V)) x3 ha hk
            obtain ⟨q1, q2⟩ := dPut_of kk r1' ek rs
            exact o3 _ _ as3 S4 (x3.put (m := .dct (dPut kvs kk p1)) ha hk ⟨_, upd_same, q1, q2.mono S4⟩) ((((f.mono S1).mono S2).mono S3).mono S4)
      · exact o3.elim
    · exact o3.elim
  · exact o3.elim
end
/-! ### sums -/
@[simp] def pSum : List PV → IH → Res PV
  | [.obj n], h => (match h[n]? with
    | some (.lst xs) => (match keyOf xs with
      | some ns => .ok (.int ns.sum) h
      | none => .bad)
    | _ => .bad)
  | _, _ => .bad
theorem snd_sum {K : PySem.W.Frag} {mg : Str → Option Value} : SndC K mg pSum (rSum K) := by
  intro W s as H h us vs Q rh rs o
  unfold pSum at o
  split at o
  · split at o
    · rename_i xs hx
      split at o
      · rename_i ns hn
        obtain ⟨v, rfl, rv⟩ := rs.inv1
        cases rv with
        | obj ha =>
          obtain ⟨a, g1, ys, g2, r2⟩ := rh.at_ _ _ hx
          rw [ha] at g1; cases g1
          have e := keyOf_of r2 hn
          subst e
          exact ⟨_, ns, rfl, SqL.of g2, o.here rh (.int _)⟩
      · exact o.elim
    · exact o.elim
  · exact o.elim
section
variable {X : Cx} {W : WX} {k : Nat} {a b e o i : Expr} {es : List Expr} {pos p apos : Pos} {A B C : EX} {L : AX}
theorem ie_sum (cx : Ctx X W k) (hm : X.mg "sum" = none) (ha : PA X (e :: es) (IA X.K X.mg W L)) (hg : Gl X "sum" := by rfl) (he : starEach (e :: es) X.env = (false, eval e X.env) :: starEach es X.env := by rfl) (hpl : (backTo pos (starEach es X.env)).any (·.1) = false := by rfl) : PE X (.Call (.Name "sum" p) (e :: es) [] pos) (IE X.K X.mg W (eB pSum L)) :=
  ie_callB (cr_sum cx.calm) snd_sum hm (by decide +kernel) ha hg (by decide) (by decide) he hpl
end
end WR

/-! comprehensions of two clauses, calls of items, the base of a def that calls itself -/
namespace WR
open PySem PySem.Spec PyProof.Rows L2
def lc2L (it : ItF) (g : TgF) (c : TX) (I1 : Fm → IH → Res ItF) (g1 : TgF) (c1 : TX) (A : EX) (r0 : Fm) (vs1 : List Nat) (D : Nat) : Nat → Nat → IH → Res Unit
  | 0, _, _ => .bad
  | n + 1, i, h => match it i h with
    | none => .bad
    | some none => .ok () h
    | some (some v) => (match g v r0 with
      | none => .bad
      | some r1 => (match c r1 h with
        | .ok b h2 => if b then (match I1 r1 h2 with
          | .ok it1 h3 => (match lcL it1 g1 c1 A (wipeF r1 vs1) D LIM 0 h3 with
            | .ok _ h4 => lc2L it g c I1 g1 c1 A r0 vs1 D n (i + 1) h4
            | _ => .bad)
          | _ => .bad) else lc2L it g c I1 g1 c1 A r0 vs1 D n (i + 1) h2
        | _ => .bad))
def eLc2 (I : Fm → IH → Res ItF) (g : TgF) (c : TX) (I1 : Fm → IH → Res ItF) (g1 : TgF) (c1 : TX) (A : EX) (vs vs1 : List Nat) : EX := fun r h => (I r h).bind fun it h1 => (lc2L it g c I1 g1 c1 A (wipeF r vs) vs1 h1.length LIM 0 (h1 ++ [.lst []])).bind fun _ h2 => .ok (.obj h1.length) h2
section
variable {X : Cx} {W : WX} {k : Nat} {e : Expr} {es : List Expr} {pos : Pos}
theorem lc2_sound {I I1 : Fm → IH → Res ItF} {g g1 : TgF} {c c1 : TX} {A : EX} {vs vs1 : List Nat} {K : PySem.W.Frag} {mg : Str → Option Value} {s : L2.St} {H : Hp} {Q : VK} {as : List Addr} {r : Fm} {h : IH} (f : RF K mg H as r s) (x : RH K mg H as h)
    (o : Out K mg (fun H as p v => RP K mg H as p v) W s as H Q (eLc2 I g c I1 g1 c1 A vs vs1 r h)) : tLc2 (II K mg W I) (GW K mg vs g) (IT K mg W0 c) (II K mg W0 I1) (GW K mg vs1 g1) (IT K mg W0 c1) (IE K mg W0 A) vs vs1 s H Q := by
  refine ⟨as, r, h, f, x, (Out.bind o).imp fun J H1 ⟨as1, h1, itf, S1, x1, ri, o1⟩ => ?_⟩
  intro D nD
  have SD := Stp.new (o := .lst []) x1 nD
  refine ⟨fun i m H2 => ∃ as2 h2, Stp as H as2 H2 ∧ RH K mg H2 as2 h2 ∧ RI K mg H2 as2 itf J ∧ as2[h1.length]? = some D ∧
    Out K mg (fun H as p v => RP K mg H as p v) W s as2 H2 Q ((lc2L itf g c I1 g1 c1 A (wipeF r vs) vs1 h1.length m i h2).bind fun _ h2 => .ok (.obj h1.length) h2),
    ⟨LIM, as1 ++ [D], h1 ++ [.lst []], S1.trans SD, x1.new (m := .lst []) nD ⟨_, upd_same, .nil⟩, ri.mono SD, ?_, o1.shift SD⟩, ?_⟩
  · rw [List.getElem?_append_right (by rw [x1.len]; exact Nat.le_refl _), x1.len, Nat.sub_self]; rfl
  rintro i m H2 ⟨as2, h2, S2, x2, ri2, d2, o2⟩
  cases m with
  | zero => exact o2.elim
  | succ m =>
    have z := ri2 i as2 H2 h2 (Stp.refl _ _) x2
    unfold lc2L at o2
    cases q : itf i h2 with
    | none => rw [q] at o2; exact o2.elim
    | some w =>
      rw [q] at z o2
      cases w with
      | none => exact .inl ⟨z, o2.here x2 (.obj d2)⟩
      | some v =>
        refine .inr ⟨z.1, fun H3 => ∃ as3 h3, Stp as H as3 H3 ∧ RH K mg H3 as3 h3 ∧ RI K mg H3 as3 itf J ∧ as3[h1.length]? = some D ∧
          Out K mg (fun H as p v => RP K mg H as p v) W s as3 H3 Q ((lc2L itf g c I1 g1 c1 A (wipeF r vs) vs1 h1.length m (i + 1) h3).bind fun _ h2 => .ok (.obj h1.length) h2), fun H3 t => ⟨m, Nat.lt_succ_self m, t⟩, fun y H3 hy => ?_⟩
        obtain ⟨S3, x3, rv⟩ := z.2 y H3 hy
        cases qg : g v (wipeF r vs) with
        | none => simp only [qg] at o2; exact o2.elim
        | some r3 =>
          simp only [qg] at o2
          have S23 := S2.trans S3
          refine ⟨as2, wipeF r vs, v, r3, h2, (f.mono S23).wipe vs, x3, rv, qg, fun s4 f4 w4 => ⟨w4.trans (wipe_wipe _ _), as2, r3, h2, f4, x3, ?_⟩⟩
          have o3 := Out.shift S3 o2
          cases qc : c r3 h2 with
          | ex z r5 => simp only [qc] at o3; exact o3.elim
          | bad => simp only [qc] at o3; exact o3.elim
          | ok b h4 =>
            simp only [qc] at o3
            intro b' H4 as4 S4 x4 eb
            subst eb
            have o4 := Out.shift S4 o3
            cases b with
            | false =>
              simp only [Bool.false_eq_true, if_false] at o4 ⊢
              exact ⟨as4, h4, S23.trans S4, x4, (ri2.mono S3).mono S4, S4.get d2, o4⟩
            | true =>
              simp only [if_true] at o4 ⊢
              refine ⟨as4, r3, h4, f4.mono S4, x4, ?_⟩
              cases qi : I1 r3 h4 with
              | ex z r5 => simp only [qi] at o4; exact o4.elim
              | bad => simp only [qi] at o4; exact o4.elim
              | ok it1 h5 =>
                simp only [qi] at o4
                intro J1 H5 as5 S5 x5 rj
                have o5 := Out.shift S5 o4
                have d5 := S5.get (S4.get d2)
                have ri5 := ((ri2.mono S3).mono S4).mono S5
                have S05 := (S23.trans S4).trans S5
                have f5 := (f4.mono S4).mono S5
                refine ⟨fun j k' H6 => ∃ as6 h6, Stp as5 H5 as6 H6 ∧ RH K mg H6 as6 h6 ∧ RI K mg H6 as6 it1 J1 ∧
                  Out K mg (fun H as p v => RP K mg H as p v) W s as6 H6 Q ((match lcL it1 g1 c1 A (wipeF r3 vs1) h1.length k' j h6 with
                    | .ok _ h4 => lc2L itf g c I1 g1 c1 A (wipeF r vs) vs1 h1.length m (i + 1) h4
                    | _ => .bad).bind fun _ h2 => .ok (.obj h1.length) h2), ⟨LIM, as5, h5, Stp.refl _ _, x5, rj, o5⟩, ?_⟩
                rintro j k' H6 ⟨as6, h6, S6, x6, rj6, o6⟩
                cases k' with
                | zero => exact o6.elim
                | succ k' =>
                  have z6 := rj6 j as6 H6 h6 (Stp.refl _ _) x6
                  unfold lcL at o6
                  cases q6 : it1 j h6 with
                  | none => rw [q6] at o6; exact o6.elim
                  | some w6 =>
                    rw [q6] at z6 o6
                    cases w6 with
                    | none => exact .inl ⟨z6, as6, h6, S05.trans S6, x6, ri5.mono S6, S6.get d5, o6⟩
                    | some v6 =>
                      refine .inr ⟨z6.1, fun H7 => ∃ as7 h7, Stp as5 H5 as7 H7 ∧ RH K mg H7 as7 h7 ∧ RI K mg H7 as7 it1 J1 ∧
                        Out K mg (fun H as p v => RP K mg H as p v) W s as7 H7 Q ((match lcL it1 g1 c1 A (wipeF r3 vs1) h1.length k' (j + 1) h7 with
                          | .ok _ h4 => lc2L itf g c I1 g1 c1 A (wipeF r vs) vs1 h1.length m (i + 1) h4
                          | _ => .bad).bind fun _ h2 => .ok (.obj h1.length) h2), fun H7 t => ⟨k', Nat.lt_succ_self k', t⟩, fun y7 H7 hy7 => ?_⟩
                      obtain ⟨S7, x7, rv7⟩ := z6.2 y7 H7 hy7
                      cases qg7 : g1 v6 (wipeF r3 vs1) with
                      | none => simp only [qg7] at o6; exact o6.elim
                      | some r7 =>
                        simp only [qg7] at o6
                        have S67 := S6.trans S7
                        refine ⟨as6, wipeF r3 vs1, v6, r7, h6, (f5.mono S67).wipe vs1, x7, rv7, qg7, fun s8 f8 w8 => ⟨w8.trans (wipe_wipe _ _), as6, r7, h6, f8, x7, ?_⟩⟩
                        have o7 := Out.shift S7 o6
                        cases qc7 : c1 r7 h6 with
                        | ex z r5 => simp only [qc7] at o7; exact o7.elim
                        | bad => simp only [qc7] at o7; exact o7.elim
                        | ok b7 h7 =>
                          simp only [qc7] at o7
                          intro b7' H8 as8 S8 x8 eb
                          subst eb
                          have o8 := Out.shift S8 o7
                          cases b7 with
                          | false =>
                            simp only [Bool.false_eq_true, if_false] at o8 ⊢
                            exact ⟨as8, h7, S67.trans S8, x8, (rj6.mono S7).mono S8, o8⟩
                          | true =>
                            simp only [if_true] at o8 ⊢
                            refine ⟨as8, r7, h7, f8.mono S8, x8, ?_⟩
                            cases qa : A r7 h7 with
                            | ex z r5 => simp only [qa] at o8; exact o8.elim
                            | bad => simp only [qa] at o8; exact o8.elim
                            | ok u h9 =>
                              simp only [qa] at o8
                              intro U H9 as9 S9 x9 ru
                              have o9 := Out.shift S9 o8
                              have d9 := S9.get (S8.get (S67.get d5))
                              cases qd : h9[h1.length]? with
                              | none => simp only [qd] at o9; exact o9.elim
                              | some ob =>
                                cases ob with
                                | ins _ _ => simp only [qd] at o9; exact o9.elim
                                | dct _ => simp only [qd] at o9; exact o9.elim
                                | dks _ => simp only [qd] at o9; exact o9.elim
                                | lst acc =>
                                  simp only [qd] at o9
                                  by_cases hl : acc.length < 16777216
                                  · simp only [hl, if_true] at o9
                                    obtain ⟨b', e3, ws, e4, rs'⟩ := x9.at_ _ _ qd
                                    rw [d9] at e3; cases e3
                                    refine ⟨ws, e4, by rw [sizeLine_eq, ← rs'.length]; exact hl, ?_⟩
                                    have S10 := Stp.put (o := .lst (ws ++ [U])) x9 d9 qd
                                    exact ⟨as9, _, ((S67.trans S8).trans S9).trans S10, x9.put (m := .lst (acc ++ [u])) d9 qd ⟨_, upd_same, (rs'.append (.one ru)).mono S10⟩, (((rj6.mono S7).mono S8).mono S9).mono S10, o9.shift S10⟩
                                  · simp only [hl, if_false] at o9; exact o9.elim
theorem ie_lc2 {elt tg iter tg1 iter1 : Expr} {ifs ifs1 : List Expr} {scope : Scope} {I I1 : Fm → IH → Res ItF} {g g1 : TgF} {c c1 : TX} {A : EX} {vs vs1 : List Nat} (own : List (Str × Nat)) (cx : Ctx X W k) (hi : PI X tg iter (II X.K X.mg W I)) (ok : BlkOk X.N X.env.scope scope own)
    (hg : ∀ (s : Shared) (H : Hp) (C : Addr) (cl : List (Str × Addr)) (fp : List Addr), Ctx (X.blk s H scope (compEnvC scope cl C X.env) fp) W0 k → PG (X.blk s H scope (compEnvC scope cl C X.env) fp) tg (GW X.K X.mg vs g))
    (ht : ∀ (s : Shared) (H : Hp) (C : Addr) (cl : List (Str × Addr)) (fp : List Addr), Ctx (X.blk s H scope (compEnvC scope cl C X.env) fp) W0 k → PTs (X.blk s H scope (compEnvC scope cl C X.env) fp) ifs (IT X.K X.mg W0 c))
    (hi1 : ∀ (s : Shared) (H : Hp) (C : Addr) (cl : List (Str × Addr)) (fp : List Addr), Ctx (X.blk s H scope (compEnvC scope cl C X.env) fp) W0 k → PI (X.blk s H scope (compEnvC scope cl C X.env) fp) tg1 iter1 (II X.K X.mg W0 I1))
    (hg1 : ∀ (s : Shared) (H : Hp) (C : Addr) (cl : List (Str × Addr)) (fp : List Addr), Ctx (X.blk s H scope (compEnvC scope cl C X.env) fp) W0 k → PG (X.blk s H scope (compEnvC scope cl C X.env) fp) tg1 (GW X.K X.mg vs1 g1))
    (ht1 : ∀ (s : Shared) (H : Hp) (C : Addr) (cl : List (Str × Addr)) (fp : List Addr), Ctx (X.blk s H scope (compEnvC scope cl C X.env) fp) W0 k → PTs (X.blk s H scope (compEnvC scope cl C X.env) fp) ifs1 (IT X.K X.mg W0 c1))
    (he : ∀ (s : Shared) (H : Hp) (C : Addr) (cl : List (Str × Addr)) (fp : List Addr), Ctx (X.blk s H scope (compEnvC scope cl C X.env) fp) W0 k → PE (X.blk s H scope (compEnvC scope cl C X.env) fp) elt (IE X.K X.mg W0 A))
    (hv : own.map (·.2) = vs := by rfl) (hv1 : ∀ i ∈ vs1, i ∈ vs := by decide) (hs : ∀ x, foldedSetIterable iter X.env x = pure x := by intro _; rfl) (hs1 : ∀ env x, foldedSetIterable iter1 env x = pure x := by intro _ _; rfl) :
    PE X (.ListComp elt [⟨tg, iter, ifs, 0⟩, ⟨tg1, iter1, ifs1, 0⟩] scope pos) (IE X.K X.mg W (eLc2 I g c I1 g1 c1 A vs vs1)) := by
  subst hv
  exact peImp (pe_lc2 cx.calm cx.nd hi ok hv1 (fun s H C cl fp => hg s H C cl fp (cx.blk ..)) (fun s H C cl fp => ht s H C cl fp (cx.blk ..)) (fun s H C cl fp => hi1 s H C cl fp (cx.blk ..)) (fun s H C cl fp => hg1 s H C cl fp (cx.blk ..)) (fun s H C cl fp => ht1 s H C cl fp (cx.blk ..)) (fun s H C cl fp => he s H C cl fp (cx.blk ..)) hs hs1) fun s H Q ⟨as, r, h, f, x, o⟩ => lc2_sound f x o
theorem is_setLc2 (i : Nat) {y : Str} {py spos : Pos} {elt tg iter tg1 iter1 : Expr} {ifs ifs1 : List Expr} {scope : Scope} {I I1 : Fm → IH → Res ItF} {g g1 : TgF} {c c1 : TX} {A : EX} {vs vs1 : List Nat} (own : List (Str × Nat)) (cx : Ctx X W k)
    (hsw : swapsWith (.ListComp elt [⟨tg, iter, ifs, 0⟩, ⟨tg1, iter1, ifs1, 0⟩] scope pos) (some (.Name y py)) spos.line X.env = pure true) (hi : PI X tg iter (II X.K X.mg W I)) (ok : BlkOk X.N X.env.scope scope own)
    (hg : ∀ (s : Shared) (H : Hp) (C : Addr) (cl : List (Str × Addr)) (fp : List Addr), Ctx (X.blk s H scope (compEnvC scope cl C X.env) fp) W0 k → PG (X.blk s H scope (compEnvC scope cl C X.env) fp) tg (GW X.K X.mg vs g))
    (ht : ∀ (s : Shared) (H : Hp) (C : Addr) (cl : List (Str × Addr)) (fp : List Addr), Ctx (X.blk s H scope (compEnvC scope cl C X.env) fp) W0 k → PTs (X.blk s H scope (compEnvC scope cl C X.env) fp) ifs (IT X.K X.mg W0 c))
    (hi1 : ∀ (s : Shared) (H : Hp) (C : Addr) (cl : List (Str × Addr)) (fp : List Addr), Ctx (X.blk s H scope (compEnvC scope cl C X.env) fp) W0 k → PI (X.blk s H scope (compEnvC scope cl C X.env) fp) tg1 iter1 (II X.K X.mg W0 I1))
    (hg1 : ∀ (s : Shared) (H : Hp) (C : Addr) (cl : List (Str × Addr)) (fp : List Addr), Ctx (X.blk s H scope (compEnvC scope cl C X.env) fp) W0 k → PG (X.blk s H scope (compEnvC scope cl C X.env) fp) tg1 (GW X.K X.mg vs1 g1))
    (ht1 : ∀ (s : Shared) (H : Hp) (C : Addr) (cl : List (Str × Addr)) (fp : List Addr), Ctx (X.blk s H scope (compEnvC scope cl C X.env) fp) W0 k → PTs (X.blk s H scope (compEnvC scope cl C X.env) fp) ifs1 (IT X.K X.mg W0 c1))
    (he : ∀ (s : Shared) (H : Hp) (C : Addr) (cl : List (Str × Addr)) (fp : List Addr), Ctx (X.blk s H scope (compEnvC scope cl C X.env) fp) W0 k → PE (X.blk s H scope (compEnvC scope cl C X.env) fp) elt (IE X.K X.mg W0 A))
    (hy : X.N[i]? = some y := by rfl) (hyl : X.env.scope.names.lookup y = some .local := by rfl)
    (hv : own.map (·.2) = vs := by rfl) (hv1 : ∀ i ∈ vs1, i ∈ vs := by decide) (hs : ∀ x, foldedSetIterable iter X.env x = pure x := by intro _; rfl) (hs1 : ∀ env x, foldedSetIterable iter1 env x = pure x := by intro _ _; rfl) :
    PS X (.Assign [.Name y py] (.ListComp elt [⟨tg, iter, ifs, 0⟩, ⟨tg1, iter1, ifs1, 0⟩] scope pos) spos) (IS X.K X.mg W (sSet i (eLc2 I g c I1 g1 c1 A vs vs1))) := by
  subst hv
  refine psImp (ps_setLc2 cx.calm cx.nd hy hyl hsw hi ok hv1 (fun s H C cl fp => hg s H C cl fp (cx.blk ..)) (fun s H C cl fp => ht s H C cl fp (cx.blk ..)) (fun s H C cl fp => hi1 s H C cl fp (cx.blk ..)) (fun s H C cl fp => hg1 s H C cl fp (cx.blk ..)) (fun s H C cl fp => ht1 s H C cl fp (cx.blk ..)) (fun s H C cl fp => he s H C cl fp (cx.blk ..)) hs hs1) fun D s H ⟨as, r, h, f, x, o⟩ => ?_
  refine lc2_sound f x ((outS_of f o).imp fun V H1 ⟨as1, h1, p, S1, x1, r1, o1⟩ => ?_)
  exact o1 _ H1 as1 (Stp.refl _ _) x1 ((f.mono S1).set r1)
end
/-! ### calls of an item -/
abbrev FT := List (Str × (List PV → IH → Res PV))
@[simp] def eCallV (tbl : FT) (A : EX) (L : AX) : EX := fun r h => (A r h).bind fun f h1 => match f with
  | .glo x => (match tbl.lookup x with
    | some F => (L r h1).bind F
    | none => .bad)
  | _ => .bad
section
variable {X : Cx} {W : WX} {k j n : Nat} {a e fe : Expr} {es : List Expr} {pos : Pos} {A : EX} {L : AX} {tbl : FT}
def GT (X : Cx) (j n : Nat) (tbl : FT) : Prop := ∀ x F, tbl.lookup x = some F → GF X.prog X.w X.K X.mg X.base x j n F
theorem ref_of {v : V} {f : Addr} (r : RelV v (.ref f)) : v = .ref f := by
  cases v <;> first
    | (cases r; done)
    | (cases r; rfl)
    | (obtain ⟨_, e⟩ := r; cases e)
    | (obtain ⟨_, e, _⟩ := r; cases e)
theorem ie_callV (cx : Ctx X W k) (G : GT X j n tbl) (hf : PE X fe (IE X.K X.mg W A)) (ha : PA X (e :: es) (IA X.K X.mg W L)) (hj : j ≤ k := by decide)
    (hev : eval (.Call fe (e :: es) [] pos) X.env = (do callWith pos (← eval fe X.env) [] (backTo pos (starEach (e :: es) X.env)) (backToKw pos (keywordEach [] X.env))) := by rfl)
    (he : starEach (e :: es) X.env = (false, eval e X.env) :: starEach es X.env := by rfl) (hpl : (backTo pos (starEach es X.env)).any (·.1) = false := by rfl) : PE X (.Call fe (e :: es) [] pos) (IE X.K X.mg W (eCallV tbl A L)) := by
  refine ⟨fun pins s σ H Q I h => ?_⟩
  obtain ⟨as, r, h0, f, x, o⟩ := h
  rw [hev]
  refine wpAny_bind ?_
  refine thn (hf.run pins s σ H _ I ⟨as, r, h0, f, x, Out.bind o⟩) fun u s1 ⟨v, H1, I1, r1, as1, h1, p1, S1, x1, rp, o1⟩ => ?_
  split at o1
  · rename_i nm
    cases q : tbl.lookup nm with
    | none => rw [q] at o1; exact o1.elim
    | some F =>
      rw [q] at o1
      obtain ⟨ff, fd, ps, G1, hm, hk, hb⟩ := (G _ _ q).ex
      cases rp with
      | glo g1 g2 =>
        rw [hm] at g1; cases g1
        have ev := ref_of g2
        subst ev
        obtain rfl : u = Value.ref ff := r1
        refine PySem.W.callWith_K (h₀ := X.base) I.ok.mod.kin hk (thn (ha.run pos pins s1 σ H1 _ I1 ⟨as1, r, h1, f.mono S1, x1, Out.bind o1⟩) fun us s2 ⟨vs, H2, I2, r2, as2, h2, ps2, S2, x2, rs2, o2⟩ => ⟨I2.kIn, ?_⟩) he hpl
        refine run_fnS G1 (cx.room.mono hj) hb (passAt cx.tk σ) I2 r2 (SpF.of x2 rs2 ?_ o2)
        by_cases hn : ps2.length = n
        · exact hn
        · rw [(G _ _ q).bad ps2 h2 hn] at o2; exact o2.elim
  · exact o1.elim
theorem ie_callV0 (cx : Ctx X W k) (G : GT X j 0 tbl) (hf : PE X fe (IE X.K X.mg W A)) (hj : j ≤ k := by decide)
    (hev : eval (.Call fe [] [] pos) X.env = (do callWith pos (← eval fe X.env) [] (backTo pos (starEach [] X.env)) (backToKw pos (keywordEach [] X.env))) := by rfl) : PE X (.Call fe [] [] pos) (IE X.K X.mg W (eCallV tbl A aNil)) := by
  refine ⟨fun pins s σ H Q I h => ?_⟩
  obtain ⟨as, r, h0, f, x, o⟩ := h
  rw [hev]
  refine wpAny_bind ?_
  refine thn (hf.run pins s σ H _ I ⟨as, r, h0, f, x, Out.bind o⟩) fun u s1 ⟨v, H1, I1, r1, as1, h1, p1, S1, x1, rp, o1⟩ => ?_
  split at o1
  · rename_i nm
    cases q : tbl.lookup nm with
    | none => rw [q] at o1; exact o1.elim
    | some F =>
      rw [q] at o1
      obtain ⟨ff, fd, ps, G1, hm, hk, hb⟩ := (G _ _ q).ex
      cases rp with
      | glo g1 g2 =>
        rw [hm] at g1; cases g1
        have ev := ref_of g2
        subst ev
        obtain rfl : u = Value.ref ff := r1
        exact PySem.W.callWith_K0 I1.kIn hk (run_fnS (us := []) G1 (cx.room.mono hj) hb (passAt cx.tk σ) I1 .nil (SpF.of x1 RPs.nil rfl o1))
  · exact o1.elim
theorem GT.nil : GT X j n [] := fun x F e => by cases e
theorem GT.cons {x : Str} {F : List PV → IH → Res PV} {j' : Nat} (G : GF X.prog X.w X.K X.mg X.base x j' n F) (hj : j' ≤ j) (r : GT X j n tbl) : GT X j n ((x, F) :: tbl) := fun y F' e => by
  rw [List.lookup_cons] at e
  split at e
  · rename_i hy
    cases e
    have e2 : y = x := by simpa using hy
    subst e2
    obtain ⟨f, fd, ps, G1, hm, hk, hb⟩ := G.ex
    exact ⟨G.bad, f, fd, ps, G1.mono hj, hm, hk, hb⟩
  · exact r y F' e
end
/-! ### a def that calls itself: where the depth ends -/
theorem iss_bad {X : Cx} {W : WX} {sts : List Stmt} : PSs X sts (IS X.K X.mg W sBad) := ⟨fun pins s σ H D I q => by
  obtain ⟨as, r, h, f, x, o⟩ := q
  exact o.elim⟩
end WR

/-! max of two things that are compared by a rule of the heap -/
namespace PySem
open Sem (wp)
section
variable {prog : Program} {w : World} {A : Around} {R : Result → Shared → Prop} {I : Addr} {fp wr : List Addr} {P : Nat → Value → Prop} {St : Nat → Heap → Prop}
theorem wr_nm : (toString "max" ++ toString ".loop" : String) = "max.loop" := by decide
theorem wr_max_end {n c : Nat} {s : Shared} {vb : Value} (W : Walks prog w A.in1 I fp wr n P St) (S : Addr) (hf : S ∉ fp) (hst : St n s.heap) (hS : s.heap.get? S = some ⟨.type "list", none, .seq #[vb, vb] c, #[]⟩)
    (hR : ∀ h' tk, (∀ b o, b ∉ wr → b ≠ S → s.heap.get? b = some o → h'.get? b = some o) → R (.ok (.ret vb)) { s with heap := h', toks := tk }) : codeAny (model prog w) A (.builtin "max.loop" ⟨[.ref I, .none, .ref S], []⟩) R s := by
  refine codeAny_builtin F.entry_max_loop ?_; rw [Around.under_plainId F.plain_max_loop _]; show wpAny _ A.in1 (seqItems? (.ref S) >>= _) _ _ s; refine wpAny_bind (wpAny_seqItems hS rfl ?_); show wpAny _ A.in1 (tryCatch (pyNext (.ref I)) _ >>= _) _ _ s
  refine wpAny_bind (wpAny_tryCatch (W.done s _ _ hst fun h1 tk k1 => ?_)); show wpAny _ A.in1 (updateSeq S (fun _ => #[]) >>= _) _ _ _
  refine wpAny_bind (wpAny_updateSeq (k1 S _ (fun z => hf (W.sub _ z)) hS) rfl (wpAny_bind (wpAny_letGo (wpAny_pure (hR _ tk fun b o b1 b2 e => ?_)))))
  exact (Heap.get?_update_other _ _ (Ne.symm b2)).trans (k1 b o b1 e)
theorem wr_max_turn {n i c : Nat} {g : Bool} {s : Shared} {vb y : Value} (W : Walks prog w A.in1 I fp wr n P St) (S : Addr) (hf : S ∉ fp) (hi : i < n) (hst : St i s.heap) (hP : ∀ v, P i v → v = y) (hS : s.heap.get? S = some ⟨.type "list", none, .seq #[vb, vb] c, #[]⟩)
    (hc : ∀ (s' : Shared) Q E, (∀ b o, b ∉ wr → s.heap.get? b = some o → s'.heap.get? b = some o) → Q (.bool g) s' → wpAny (model prog w) A.in1 (richCompare .Gt y vb) Q E s')
    (hn : ∀ h' tk c', St (i + 1) h' → h'.get? S = some ⟨.type "list", none, .seq #[if g then y else vb, if g then y else vb] c', #[]⟩ → (∀ b o, b ∉ wr → b ≠ S → s.heap.get? b = some o → h'.get? b = some o) →
      codeAny (model prog w) A (.builtin "max.loop" ⟨[.ref I, .none, .ref S], []⟩) R { s with heap := h', toks := tk }) : codeAny (model prog w) A (.builtin "max.loop" ⟨[.ref I, .none, .ref S], []⟩) R s := by
  refine codeAny_builtin F.entry_max_loop ?_; rw [Around.under_plainId F.plain_max_loop _]; show wpAny _ A.in1 (seqItems? (.ref S) >>= _) _ _ s; refine wpAny_bind (wpAny_seqItems hS rfl ?_); show wpAny _ A.in1 (tryCatch (pyNext (.ref I)) _ >>= _) _ _ s
  refine wpAny_bind (wpAny_tryCatch (W.item i s _ _ hi hst fun v h1 tk pv st1 k1 => ?_))
  obtain rfl := hP v pv
  have S1 := k1 S _ (fun z => hf (W.sub _ z)) hS; show wpAny _ A.in1 (tryCatch (holding [v, v] (richCompare .Gt v vb >>= _)) _ >>= _) _ _ _
  refine wpAny_bind (wpAny_tryCatch (wpAny_holding (wpAny_bind (hc _ _ _ (fun b o b1 e => k1 b o b1 e) ?_))))
  refine wpAny_bind (wpAny_holding (wpAny_truthy_bool ?_)); refine wpAny_bind (wpAny_letGo (wpAny_pure ?_))
  cases g with
  | true =>
    simp only [if_true] at hn ⊢
    refine wpAny_bind (wpAny_updateSeq S1 rfl (wpAny_bind (wpAny_letGo ?_))); rw [wr_nm]
    refine wpAny_pure ⟨plainId_quiet F.plain_max_loop _, hn _ tk _ (W.frame _ _ _ st1 fun b hb o e => ?_) (Heap.get?_update_self _ S1 rfl) fun b o b1 b2 e => ?_⟩
    · exact (Heap.get?_update_other _ _ (fun z : S = b => hf (by rw [z]; exact hb))).trans e
    · exact (Heap.get?_update_other _ _ (Ne.symm b2)).trans (k1 b o b1 e)
  | false =>
    simp only [Bool.false_eq_true, if_false] at hn ⊢
    refine wpAny_bind (wpAny_letGo ?_); rw [wr_nm]
    exact wpAny_pure ⟨plainId_quiet F.plain_max_loop _, hn _ tk _ st1 S1 fun b o b1 _ e => k1 b o b1 e⟩
theorem wr_max_first {n c : Nat} {s : Shared} {x : Value} (W : Walks prog w A.in1 I fp wr n P St) (S : Addr) (hf : S ∉ fp) (hi : 0 < n) (hst : St 0 s.heap) (hP : ∀ v, P 0 v → v = x) (hS : s.heap.get? S = some ⟨.type "list", none, .seq #[] c, #[]⟩)
    (hn : ∀ h' tk c', St 1 h' → h'.get? S = some ⟨.type "list", none, .seq #[x, x] c', #[]⟩ → (∀ b o, b ∉ wr → b ≠ S → s.heap.get? b = some o → h'.get? b = some o) →
      codeAny (model prog w) A (.builtin "max.loop" ⟨[.ref I, .none, .ref S], []⟩) R { s with heap := h', toks := tk }) : codeAny (model prog w) A (.builtin "max.loop" ⟨[.ref I, .none, .ref S], []⟩) R s := by
  refine codeAny_builtin F.entry_max_loop ?_; rw [Around.under_plainId F.plain_max_loop _]; show wpAny _ A.in1 (seqItems? (.ref S) >>= _) _ _ s; refine wpAny_bind (wpAny_seqItems hS rfl ?_); show wpAny _ A.in1 (tryCatch (pyNext (.ref I)) _ >>= _) _ _ s
  refine wpAny_bind (wpAny_tryCatch (W.item 0 s _ _ hi hst fun v h1 tk pv st1 k1 => ?_))
  obtain rfl := hP v pv
  have S1 := k1 S _ (fun z => hf (W.sub _ z)) hS; show wpAny _ A.in1 (updateSeq S (fun _ => #[v, v]) >>= _) _ _ _
  refine wpAny_bind (wpAny_updateSeq S1 rfl ?_); rw [wr_nm]
  refine wpAny_pure ⟨plainId_quiet F.plain_max_loop _, hn _ tk _ (W.frame _ _ _ st1 fun b hb o e => ?_) (Heap.get?_update_self _ S1 rfl) fun b o b1 b2 e => ?_⟩
  · exact (Heap.get?_update_other _ _ (fun z : S = b => hf (by rw [z]; exact hb))).trans e
  · exact (Heap.get?_update_other _ _ (Ne.symm b2)).trans (k1 b o b1 e)
end
section
variable {prog : Program} {w : World} {A : Around} {E : Value → Shared → Prop} {s : Shared}
theorem wr_max2 {x y : Value} {g : Bool} {Q : Value → Shared → Prop} (hh : A.handled = none)
    (hc : ∀ (s' : Shared) Q E, (∀ b o, s.heap.get? b = some o → s'.heap.get? b = some o) → Q (.bool g) s' → wpAny (model prog w) A.in1 (richCompare .Gt y x) Q E s')
    (h : ∀ h' tk, (∀ b o, s.heap.get? b = some o → h'.get? b = some o) → Q (if g then y else x) { s with heap := h', toks := tk }) : wpAny (model prog w) A (call (.builtin "max") [x, y]) Q E s := by
  refine call_function_tree F.kind_max F.plain_max F.entry_max (F.args_max2 _ _) ?_
  show wpAny _ A.in1 (Builtin.Builtins.bindParams "max" ["key", "default"] 0 ⟨[], []⟩ >>= _) _ _ s; refine wpAny_bind (wpAny_of_eq (show Builtin.Builtins.bindParams "max" ["key", "default"] 0 ⟨[], []⟩ = pure [none, none] from rfl) ?_); show wpAny _ A.in1 (newTuple [x, y] >>= _) _ _ s
  refine wpAny_bind (wpAny_newObj_type ?_)
  have hT : (s.heap.push { cls := .type "tuple", data := .seq #[x, y] }).IsTuple s.heap.objs.size #[x, y] := ⟨_, Heap.get?_push_size _ rfl, rfl, 0, rfl⟩
  have z1 : (s.heap.push { cls := .type "tuple", data := .seq #[x, y] }).objs.size = s.heap.objs.size + 1 := Heap.size_push ..
  refine wpAny_bind (wpAny_pyIter_tuple hT ?_)
  generalize hh1 : s.heap.push { cls := .type "tuple", data := .seq #[x, y] } = h1 at hT z1
  have W := Walks.tuple (prog := prog) (w := w) (A := A.in1) hh h1.objs.size s.heap.objs.size (by rw [z1]; exact Nat.ne_of_lt (Nat.lt_succ_self _)) #[x, y]
  have hk1 : ∀ b o, s.heap.get? b = some o → h1.get? b = some o := fun b o e => by rw [← hh1]; exact Heap.get?_push_of_some _ e
  have hI : (h1.push { cls := .type "tuple_iterator", data := .fields #[.ref s.heap.objs.size, .int 0 0] }).IsTupleIter h1.objs.size s.heap.objs.size 0 := ⟨_, Heap.get?_push_size _ rfl, rfl, rfl⟩
  have hT2 : (h1.push { cls := .type "tuple_iterator", data := .fields #[.ref s.heap.objs.size, .int 0 0] }).IsTuple s.heap.objs.size #[x, y] := hT.push _
  have z2 : (h1.push { cls := .type "tuple_iterator", data := .fields #[.ref s.heap.objs.size, .int 0 0] }).objs.size = h1.objs.size + 1 := Heap.size_push ..
  have hk2 : ∀ b o, h1.get? b = some o → (h1.push { cls := .type "tuple_iterator", data := .fields #[.ref s.heap.objs.size, .int 0 0] }).get? b = some o := fun b o e => Heap.get?_push_of_some _ e
  generalize h1.push { cls := .type "tuple_iterator", data := .fields #[.ref s.heap.objs.size, .int 0 0] } = h2 at hI hT2 z2 hk2 ⊢
  refine wpAny_bind (wpAny_newObj_type ?_)
  have hf : h2.objs.size ∉ [h1.objs.size, s.heap.objs.size] := by
    simp only [List.mem_cons, List.not_mem_nil, or_false, not_or]
    exact ⟨by omega, by omega⟩
  rw [wr_nm]
  refine wpAny_pure ⟨plainId_quiet F.plain_max_loop _, ?_⟩
  have low : ∀ b o, s.heap.get? b = some o → b < s.heap.objs.size := fun b o e => Heap.lt_size e
  have hk3 : ∀ b o, s.heap.get? b = some o → (h2.push { cls := .type "list", data := .seq #[] }).get? b = some o := fun b o e => Heap.get?_push_of_some _ (hk2 b o (hk1 b o e))
  refine wr_max_first W h2.objs.size hf (by simp) (W.frame 0 h2 _ ⟨hI, hT2⟩ fun b _ o e => Heap.get?_push_of_some _ e) (x := x) (fun v e => by simpa using e.symm) (Heap.get?_push_size _ rfl) fun h3 tk3 c3 st3 S3 k3 => ?_
  have nw : ∀ b o, s.heap.get? b = some o → b ∉ [h1.objs.size] ∧ b ≠ h2.objs.size := fun b o e => by
    have := low b o e
    simp only [List.mem_cons, List.not_mem_nil, or_false]
    exact ⟨fun z => absurd (show h1.objs.size < s.heap.objs.size from z ▸ this) (by omega), fun z => absurd (show h2.objs.size < s.heap.objs.size from z ▸ this) (by omega)⟩
  have k03 : ∀ b o, s.heap.get? b = some o → h3.get? b = some o := fun b o e => k3 b o (nw b o e).1 (nw b o e).2 (hk3 b o e)
  refine wr_max_turn (g := g) (y := y) W h2.objs.size hf (by decide : 1 < 2) st3 (fun v e => by simpa using e.symm) S3 (fun s' Q E k q => hc s' Q E (fun b o e => k b o (nw b o e).1 (k03 b o e)) q) fun h4 tk4 c4 st4 S4 k4 => ?_
  have k04 : ∀ b o, s.heap.get? b = some o → h4.get? b = some o := fun b o e => k4 b o (nw b o e).1 (nw b o e).2 (k03 b o e)
  exact wr_max_end W h2.objs.size hf st4 S4 fun h5 tk5 k5 => h h5 tk5 fun b o e => k5 b o (nw b o e).1 (nw b o e).2 (k04 b o e)
end
end PySem
namespace WR
open PySem PySem.Spec PyProof.Rows L2
def lexGt : List Int → List Int → Bool
  | [], _ => false
  | _ :: _, [] => true
  | x :: xs, y :: ys => if x = y then lexGt xs ys else decide (y < x)
theorem lexGt_at : ∀ (ns ms : List Int) (i : Nat), i ≤ ns.length → i ≤ ms.length → Ob.lexAt (fun j => decide (ns.getD j 0 = ms.getD j 0)) (fun j => decide (ms.getD j 0 < ns.getD j 0)) (decide (ns.length > ms.length)) i (min ns.length ms.length - i) = lexGt (ns.drop i) (ms.drop i) := by
  intro ns ms i h1 h2
  generalize hk : min ns.length ms.length - i = k
  induction k generalizing i with
  | zero =>
    rw [Ob.lexAt_zero]
    by_cases a : i = ns.length
    · have e : ns.drop i = [] := List.drop_of_length_le (by omega)
      rw [e, lexGt]; exact decide_eq_false (by omega)
    · have hm : i = ms.length := by omega
      have e : ms.drop i = [] := List.drop_of_length_le (by omega)
      have hl : i < ns.length := by omega
      rw [e, List.drop_eq_getElem_cons hl, lexGt]; exact decide_eq_true (by omega)
  | succ k ih =>
    have l1 : i < ns.length := by omega
    have l2 : i < ms.length := by omega
    rw [Ob.lexAt_succ, List.drop_eq_getElem_cons l1, List.drop_eq_getElem_cons l2, lexGt]
    have e1 : ns.getD i 0 = ns[i] := by simp [List.getD, l1]
    have e2 : ms.getD i 0 = ms[i] := by simp [List.getD, l2]
    rw [e1, e2]
    by_cases q : ns[i] = ms[i]
    · rw [if_pos (decide_eq_true q), if_pos q]; exact ih (i + 1) l1 l2 (by omega)
    · rw [if_neg (by simpa using q), if_neg q]
theorem isTup_at {h h' : Heap} {a : Addr} {its : Array Value} (k : ∀ b o, h.get? b = some o → h'.get? b = some o) (p : h.IsTuple a its) : h'.IsTuple a its := let ⟨o, e, r⟩ := p; ⟨o, k a o e, r⟩
/-- > of two tuples of ints -/
theorem rc_gt {X : Cx} {pins : List (Addr × Obj)} {σ : L2.St} {H : Hp} {s s' : Shared} {A : Around} {a b : Addr} {ns ms : List Int} (I : Inv X pins σ H s) (k : ∀ b o, s.heap.get? b = some o → s'.heap.get? b = some o) (ha : SqT X.K H a (ns.map V.int)) (hb : SqT X.K H b (ms.map V.int)) (hu : A.units < cLine) :
    Ob.RcOp .Gt A s' (.ref a) (.ref b) (lexGt ns ms) := by
  obtain ⟨its, r1, p1, _⟩ := I.tuple ha
  obtain ⟨its2, r2, p2, _⟩ := I.tuple hb
  have i1 : IntsAre its ns := Vals.ints r1
  have i2 : IntsAre its2 ms := Vals.ints r2
  have e1 : its.toArray.size = ns.length := by rw [List.size_toArray]; exact i1.length
  have e2 : its2.toArray.size = ms.length := by rw [List.size_toArray]; exact i2.length
  have at1 : ∀ j (h1 : j < its.toArray.size), ∃ t, its.toArray[j] = .int (ns.getD j 0) t := fun j h1 => by exact PyProof.Rows.IntsAre.int_at i1 _ _ (by simp at h1; simp [h1])
  have at2 : ∀ j (h1 : j < its2.toArray.size), ∃ t, its2.toArray[j] = .int (ms.getD j 0) t := fun j h1 => by exact PyProof.Rows.IntsAre.int_at i2 _ _ (by simp at h1; simp [h1])
  have R := Ob.RcOp.tuples_gt (A := A) (s := s') (e := fun j => decide (ns.getD j 0 = ms.getD j 0)) (r := fun j => decide (ms.getD j 0 < ns.getD j 0)) (isTup_at k p1) (isTup_at k p2) hu (fun j h1 h2 => by
    obtain ⟨t, et⟩ := at1 j h1; obtain ⟨t', et'⟩ := at2 j h2
    rw [et, et', show decide (ns.getD j 0 = ms.getD j 0) = (ns.getD j 0 == ms.getD j 0) from by rw [Bool.eq_iff_iff]; simp]
    exact SeqAt.EqAt.int_int _ _ _ _) (fun j h1 h2 _ => by
    obtain ⟨t, et⟩ := at1 j h1; obtain ⟨t', et'⟩ := at2 j h2
    rw [et, et']; exact Ob.RcOp.gt_int _ _ _ _)
  rw [e1, e2] at R
  have z := lexGt_at ns ms 0 (Nat.zero_le _) (Nat.zero_le _)
  rw [Nat.sub_zero] at z
  rw [z] at R
  exact R
theorem all_eq : ∀ (ns ms : List Int), ((List.range (min ns.length ms.length)).all (fun j => ns.getD j 0 == ms.getD j 0) && ns.length == ms.length) = decide (ns = ms) := by
  intro ns ms
  rw [Bool.eq_iff_iff]
  simp only [Bool.and_eq_true, List.all_eq_true, List.mem_range, beq_iff_eq, decide_eq_true_eq]
  constructor
  · rintro ⟨h1, h2⟩
    apply List.ext_getElem h2
    intro i a b
    have := h1 i (by omega)
    simpa [List.getD, a, b] using this
  · rintro rfl; exact ⟨fun _ _ => rfl, rfl⟩
/-- == of two tuples of ints, as items -/
theorem eq_tt {X : Cx} {pins : List (Addr × Obj)} {σ : L2.St} {H : Hp} {s s' : Shared} {A : Around} {a b : Addr} {ns ms : List Int} (I : Inv X pins σ H s) (k : ∀ b o, s.heap.get? b = some o → s'.heap.get? b = some o) (ha : SqT X.K H a (ns.map V.int)) (hb : SqT X.K H b (ms.map V.int)) (hu : A.units < cLine) :
    SeqAt.EqAt A s' (.ref a) (.ref b) (decide (ns = ms)) := by
  by_cases q : a = b
  · subst q
    have e := I.tuple_inj ha hb
    have e2 : ns = ms := by
      have := congrArg (List.map fun v => match v with | V.int i => i | _ => 0) e
      simpa [List.map_map, Function.comp_def] using this
    rw [decide_eq_true e2]
    exact SeqAt.EqAt.same _
  · obtain ⟨its, r1, p1, _⟩ := I.tuple ha
    obtain ⟨its2, r2, p2, _⟩ := I.tuple hb
    have i1 : IntsAre its ns := Vals.ints r1
    have i2 : IntsAre its2 ms := Vals.ints r2
    have e1 : its.toArray.size = ns.length := by rw [List.size_toArray]; exact i1.length
    have e2 : its2.toArray.size = ms.length := by rw [List.size_toArray]; exact i2.length
    have g1 : ∀ j (h1 : j < its.toArray.size), ∃ t, its.toArray[j] = .int (ns.getD j 0) t := fun j h1 => by exact PyProof.Rows.IntsAre.int_at i1 _ _ (by simp at h1; simp [h1])
    have g2 : ∀ j (h1 : j < its2.toArray.size), ∃ t, its2.toArray[j] = .int (ms.getD j 0) t := fun j h1 => by exact PyProof.Rows.IntsAre.int_at i2 _ _ (by simp at h1; simp [h1])
    have R := SeqAt.RcAt.tuples (A := A) (s := s') (e := fun j => ns.getD j 0 == ms.getD j 0) (isTup_at k p1) (isTup_at k p2) hu (fun j h1 h2 => by
      obtain ⟨t, et⟩ := g1 j h1
      obtain ⟨t', et'⟩ := g2 j h2
      rw [et, et']
      exact SeqAt.EqAt.int_int _ _ _ _)
    rw [e1, e2, all_eq] at R
    exact SeqAt.EqAt.of_refs q R
/-- (j, b) > (i, a) -/
def gtP (j : Int) (ms : List Int) (i : Int) (ns : List Int) : Bool := if j = i then lexGt ms ns else decide (i < j)
theorem rc_gtP {X : Cx} {pins : List (Addr × Obj)} {σ : L2.St} {H : Hp} {s s' : Shared} {A : Around} {p q a b : Addr} {i j : Int} {ns ms : List Int} (I : Inv X pins σ H s) (k : ∀ b o, s.heap.get? b = some o → s'.heap.get? b = some o) (hp : SqT X.K H p [.int i, .ref a]) (hq : SqT X.K H q [.int j, .ref b])
    (ha : SqT X.K H a (ns.map V.int)) (hb : SqT X.K H b (ms.map V.int)) (hu : A.units + 2 < cLine) : Ob.RcOp .Gt A s' (.ref q) (.ref p) (gtP j ms i ns) := by
  obtain ⟨its, r1, p1, _⟩ := I.tuple hp
  obtain ⟨its2, r2, p2, _⟩ := I.tuple hq
  obtain ⟨u1, u2, rfl, ⟨t, rfl⟩, x2⟩ := vals2 r1
  obtain ⟨w1, w2, rfl, ⟨t', rfl⟩, y2⟩ := vals2 r2
  obtain rfl : u2 = Value.ref a := x2
  obtain rfl : w2 = Value.ref b := y2
  have hu1 : A.in1.units < cLine := by have : A.in1.units = A.units + 1 := rfl; omega
  have R := Ob.RcOp.tuples_gt (A := A) (s := s') (e := fun n => if n = 0 then decide (j = i) else decide (ms = ns)) (r := fun n => if n = 0 then decide (i < j) else lexGt ms ns) (isTup_at k p2) (isTup_at k p1) (by omega) (fun n h1 h2 => by
    have : n = 0 ∨ n = 1 := by simp at h1; omega
    rcases this with rfl | rfl
    · rw [show (if (0 : Nat) = 0 then decide (j = i) else decide (ms = ns)) = (j == i) from by rw [Bool.eq_iff_iff]; simp]
      exact SeqAt.EqAt.int_int _ _ _ _
    · exact eq_tt I k hb ha hu1) (fun n h1 h2 e => by
    have : n = 0 ∨ n = 1 := by simp at h1; omega
    rcases this with rfl | rfl
    · exact Ob.RcOp.gt_int _ _ _ _
    · exact rc_gt I k hb ha hu1)
  have e : Ob.lexAt (fun n => if n = 0 then decide (j = i) else decide (ms = ns)) (fun n => if n = 0 then decide (i < j) else lexGt ms ns) (decide ((#[Value.int j t', .ref b] : Array Value).size > (#[Value.int i t, .ref a] : Array Value).size)) 0 (min (#[Value.int j t', .ref b] : Array Value).size (#[Value.int i t, .ref a] : Array Value).size) = gtP j ms i ns := by
    show (if (decide (j = i)) = true then (if decide (ms = ns) = true then decide (2 > 2) else lexGt ms ns) else decide (i < j)) = _
    unfold gtP
    by_cases q : j = i
    · simp only [q, decide_true, if_true]
      by_cases z : ms = ns
      · subst z
        have nn : ∀ l : List Int, lexGt l l = false := fun l => by
          induction l with
          | nil => rfl
          | cons x r ih => simp [lexGt, ih]
        simp [nn]
      · simp [z]
    · simp [q]
  have R2 : Ob.RcOp .Gt A s' (.ref q) (.ref p) _ := R
  rw [← e]
  exact R2
def rMaxP (K : PySem.W.Frag) : List V → Hp → VK → Prop := fun vs H Q => ∃ (p q a b : Addr) (i j : Int) (ns ms : List Int), vs = [.ref p, .ref q] ∧ SqT K H p [.int i, .ref a] ∧ SqT K H q [.int j, .ref b] ∧ SqT K H a (ns.map V.int) ∧ SqT K H b (ms.map V.int) ∧ Q (if gtP j ms i ns then .ref q else .ref p) H
theorem cr_maxP {X : Cx} (hc : X.calm = true) (hu : X.A.units + 3 < cLine) : CallR X (.builtin "max") (rMaxP X.K) := by
  intro pins s σ H vs us Q I r h
  obtain ⟨p, q, a, b, i, j, ns, ms, rfl, hp, hq, ha, hb, z⟩ := h
  obtain ⟨u, w', rfl, r1, r2⟩ := vals2 r
  obtain rfl : u = Value.ref p := r1
  obtain rfl : w' = Value.ref q := r2
  have hu1 : X.A.in1.units + 2 < cLine := by have : X.A.in1.units = X.A.units + 1 := rfl; omega
  refine wr_max2 (g := gtP j ms i ns) (I.ok.hd hc) (fun s' Q' E' k qq => rc_gtP I k hp hq ha hb hu1 _ _ _ _ qq) fun h' tk k => ⟨_, H, I.kept k, ?_, z⟩
  split <;> rfl
@[simp] def pMaxP : List PV → IH → Res PV
  | [.tup [.int i, .key ns], .tup [.int j, .key ms]], h => .ok (if gtP j ms i ns then .tup [.int j, .key ms] else .tup [.int i, .key ns]) h
  | _, _ => .bad
theorem snd_maxP {K : PySem.W.Frag} {mg : Str → Option Value} : SndC K mg pMaxP (rMaxP K) := by
  intro W s as H h us vs Q rh rs o
  unfold pMaxP at o
  split at o
  · rename_i i ns j ms
    obtain ⟨v, w', rfl, rv, rw'⟩ := rs.inv2
    cases rv with
    | tup h1 q1 => cases rw' with
      | tup h2 q2 =>
        obtain ⟨a1, a2, rfl, b1, b2⟩ := q1.inv2
        obtain ⟨c1, c2, rfl, d1, d2⟩ := q2.inv2
        have b2' := b2
        have d2' := d2
        cases b1
        cases d1
        cases b2 with
        | key k1 => cases d2 with
          | key k2 =>
            refine ⟨_, _, _, _, i, j, ns, ms, rfl, h1, h2, SqT.of k1, SqT.of k2, ?_⟩
            cases g : gtP j ms i ns with
            | true => rw [g] at o; exact o.here rh (.tup h2 (.cons (.int _) (.one d2')))
            | false => rw [g] at o; exact o.here rh (.tup h1 (.cons (.int _) (.one b2')))
  · exact o.elim
section
variable {X : Cx} {W : WX} {k : Nat} {a b e o i : Expr} {es : List Expr} {pos p apos : Pos} {A B C : EX} {L : AX}
theorem ie_maxP (cx : Ctx X W k) (hm : X.mg "max" = none) (ha : PA X (e :: es) (IA X.K X.mg W L)) (hg : Gl X "max" := by rfl) (he : starEach (e :: es) X.env = (false, eval e X.env) :: starEach es X.env := by rfl) (hpl : (backTo pos (starEach es X.env)).any (·.1) = false := by rfl) : PE X (.Call (.Name "max" p) (e :: es) [] pos) (IE X.K X.mg W (eB pMaxP L)) :=
  ie_callB (cr_maxP cx.calm (by have := units65 cx.room; omega)) snd_maxP hm (by decide +kernel) ha hg (by decide) (by decide) he hpl
end
end WR

/-! a tuple times a number -/
namespace L2
open PySem PySem.Spec PyProof.Rows
theorem wr_tuple_mul1 (l : Addr) (its : Array Value) (n : Nat) (dd : Option Addr) (sl : Array (Option Value)) (u : Tok) : Meets (Builtin.«tuple.__mul__» ⟨[.ref l, .int 1 u], []⟩)
    (fun _ R s => s.heap.get? l = some ⟨.type "tuple", dd, .seq its n, sl⟩ ∧ R (.ok (.ret (Value.ref l))) s) :=
  .of_wp fun prog w A R s h => by
    obtain ⟨hp, g, d, tk, os⟩ := s; obtain ⟨hl, h⟩ := h; have f1 := AutoSeq1.idx_int
    wp_walk using wpAny_loadPart' hl
    repeat (first
      | (refine wpAny_ite_false (decide_eq_false (by decide)) ?_; wp_walk using wpAny_loadPart' hl)
      | (refine wpAny_ite_true (decide_eq_true (by simp)) ?_; wp_walk using wpAny_loadPart' hl))
    exact ⟨_, rfl, h⟩
def rRep1 (K : PySem.W.Frag) : R2 := fun x y H Q => ∃ l xs, x = .ref l ∧ y = .int 1 ∧ SqT K H l xs ∧ Q (.ref l) H
theorem op_rep1 {X : Cx} : OpR X (binaryOp .Mult) (rRep1 X.K) := by
  intro pins s σ H x y v u Q I rx ry h
  obtain ⟨l, xs, rfl, rfl, hT, q⟩ := h
  cases rx
  obtain ⟨t, rfl⟩ := ry
  obtain ⟨its, r, ⟨⟨cls, dd, data, sl⟩, ho, hc, n, hd⟩, hs⟩ := I.tuple hT
  simp only at hc hd
  subst hc hd
  exact wpAny_binaryOp_repeat_ref (T := "tuple") (U := "int") (by decide) ⟨_, ho, rfl⟩ (fun s' => typeIs_int s' 1 t) noFill_tuple_mul F.fills_int_mul F.slot_int_rmul repeat_tuple F.slot_int_index.lookup
    (call_meets F.slot_int_rmul (typeIs_int s 1 t) F.entry_int_rmul (F.args_int_rmul_2 _ _) (int_rmul_tuple 1 t l its.toArray n dd sl)
      ⟨ho, rfl, ⟨_, ho, rfl⟩, call_meets F.slot_tuple_mul ⟨_, ho, rfl⟩ F.entry_tuple_mul (F.args_tuple_mul_2 _ _) (wr_tuple_mul1 l its.toArray n dd sl t) ⟨ho, ⟨.ref l, H, I, rfl, q⟩⟩⟩)
end L2
namespace WR
open PySem PySem.Spec PyProof.Rows L2
@[simp] def pMulK : PV → PV → IH → Res PV
  | .key (a :: r), .int k, h => if k = 1 then .ok (.key (a :: r)) h else if 2 ≤ k ∧ k ≤ 1000 ∧ (a :: r).length ≤ 1000 then .ok (.key (List.replicate k.toNat (a :: r)).flatten) h else .bad
  | _, _, _ => .bad
theorem rep_map (n : Nat) (l : List Int) : (List.replicate n l).flatten.map V.int = (List.replicate n (l.map V.int)).flatten := by
  rw [List.map_flatten, List.map_replicate]
theorem snd_mulK {K : PySem.W.Frag} {mg : Str → Option Value} : Snd K mg pMulK (fun x y H Q => rRep1 K x y H Q ∨ rRepT K x y H Q) := by
  intro W s as H h x y U V Q rh rx ry o
  unfold pMulK at o
  split at o
  · rename_i a r k
    cases rx with
    | key ha =>
      cases ry
      split at o
      · rename_i e
        subst e
        exact .inl ⟨_, _, rfl, rfl, SqT.of ha, o.here rh (.key ha)⟩
      · split at o
        · rename_i hk
          refine .inr ⟨_, _, _, rfl, rfl, SqT.of ha, by simp, hk.1, hk.2.1, by simpa using hk.2.2, fun p np => ?_⟩
          exact o _ _ as (Stp.lay rh np) (rh.lay np) (.key (by rw [upd_same, rep_map]))
        · exact o.elim
  · exact o.elim
theorem ie_mulK {X : Cx} {W : WX} {a b : Expr} {pos : Pos} {A B : EX} (ha : PE X a (IE X.K X.mg W A)) (hb : PE X b (IE X.K X.mg W B)) : PE X (.BinOp a .Mult b pos) (IE X.K X.mg W (eOp pMulK A B)) := ie_op (op_rep1.or op_repT) snd_mulK ha hb
end WR

/-! raise and try -/
namespace WR
open PySem PySem.Spec PyProof.Rows L2
/-- an own exception class without an own __init__ -/
structure ExC (K : PySem.W.Frag) (mg : Str → Option Value) (c : Str) (C : Addr) : Prop where
  gC : mg c = some (.ref C)
  ex : PySem.W.excIn K C He.veBase "ValueError.__new__" = true
  kp : PySem.W.keepIn K (.ref C) = true
  sb : PySem.W.subIn K (.ref C) (.type "BaseException") = some true
  ty : PySem.W.typeIn K (.ref C) = some (.type "type")
def bExc (c : Str) : FrB := fun K => (He.Fa.exc c).ok K
theorem bExc_ok {K : PySem.W.Frag} {mg : Str → Option Value} {h : Heap} {c : Str} (X : K.In h) (G : h.Ns mainGlobals mg) (g : bGlo c K = true) (e : bExc c K = true) : ExC K mg c (He.ga K c) := by
  obtain ⟨a, b, c1, d⟩ := He.exc_ok e
  exact ⟨He.glo_ok X G g, a, b, c1, d⟩
/-- which class an exception is of -/
@[simp] def exSub (x y : Str) : Bool := x == y || y == "RoadError"
structure ExCs (K : PySem.W.Frag) (mg : Str → Option Value) (cs : List Str) : Prop where
  two : ∀ x y C D, cs.contains x = true → cs.contains y = true → mg x = some (.ref C) → mg y = some (.ref D) → PySem.W.exmOne K (.ref C) (.ref D) = some (exSub x y)
def bExcs (cs : List Str) : FrB := fun K => cs.all fun x => bGlo x K && cs.all fun y => (He.Fa.exm x y (exSub x y)).ok K
theorem bExcs_ok {K : PySem.W.Frag} {mg : Str → Option Value} {h : Heap} {cs : List Str} (X : K.In h) (G : h.Ns mainGlobals mg) (e : bExcs cs K = true) : ExCs K mg cs := by
  have e' := List.all_eq_true.mp e
  refine ⟨fun x y C D hx hy gx gy => ?_⟩
  have mx := mem_of_contains hx
  have my := mem_of_contains hy
  obtain ⟨a, b⟩ := He.ba (e' x mx)
  obtain ⟨c, _⟩ := He.ba (e' y my)
  have b' := List.all_eq_true.mp b y my
  rw [He.glo_ok X G a] at gx
  rw [He.glo_ok X G c] at gy
  cases gx
  cases gy
  exact He.exm_ok b'
@[simp] def sRaise (c : Str) : SX := fun r h => .ex ⟨c, []⟩ r h
@[simp] def pickH (x : XV) : List (Str × SX) → Option SX
  | [] => none
  | (c, S) :: r => if exSub x.cls c then some S else pickH x r
@[simp] def noEx : RS → RS
  | .ex _ _ _ => .bad
  | o => o
@[simp] def sTry (cs : List Str) (B : SX) (hs : List (Str × SX)) : SX := fun r h => match B r h with
  | .ex x r1 h1 => if cs.contains x.cls && hs.all (fun q => cs.contains q.1) then (match pickH x hs with
    | some S => noEx (S r1 h1)
    | none => .ex x r1 h1) else .bad
  | o => o
section
variable {X : Cx} {W : WX} {k : Nat} {c : Str} {C : Addr} {p pos pos' : Pos} {body : List Stmt} {h₀ : ExceptHandler} {hds : List ExceptHandler} {B : SX} {hs : List (Str × SX)} {cs : List Str}
theorem pmk_own0 (e : ExC X.K X.mg c C) (hg : Gl X c) (hdb : (c == ("__debug__" : Str)) = false) : PMk X (.Call (.Name c p) [] [] pos) (fun _ H Q => Q (.ref C) none H) := by
  intro pins s σ H Q I h
  refine wpAny_Call_Name_kw (ld_glob I hg e.gC ?_ hdb)
  refine PySem.W.callWith_K0 I.kIn e.kp ?_
  obtain ⟨bm, N, nm, qn, bs, hdct, sn, sub, ab, col, dd, k0, k1, k2, k3, k5, mN, hC, hN, hni, T⟩ := exc_obj I.kIn e.ex
  refine wpAny_call_exc_subT F.excBase_ValueError T hC hN hni (fun h' e' hm => ?_) (by show 0 ≤ sizeLine; omega)
  exact mk_of I hm (raises_own e.sb e.ty) h (I.hok.gone hm.new)
theorem is_raise0 (cx : Ctx X W k) (e : ExC X.K X.mg c C) (hg : Gl X c := by rfl) (hdb : (c == ("__debug__" : Str)) = false := by decide) : PS X (.Raise (some (.Call (.Name c p) [] [] pos)) none pos') (IS X.K X.mg W (sRaise c)) := by
  refine psImp (ps_raise cx.calm cx.tk (pmk_own0 e hg hdb)) fun D s H ⟨as, r, h, f, x, o⟩ => ?_
  exact o (.ref C) none s H as (Stp.refl _ _) x f ⟨C, e.gC, rfl, .inl ⟨rfl, rfl⟩⟩
inductive Mts (X : Cx) : List (Value × (Addr → Value → Option Addr → TS)) → List (Str × SX) → Prop
  | nil : Mts X [] []
  | cons {c : Str} {C : Addr} {S : SX} {l : List (Value × (Addr → Value → Option Addr → TS))} {hs : List (Str × SX)} (g : X.mg c = some (.ref C)) (r : Mts X l hs) : Mts X ((.ref C, fun _ _ _ => IS X.K X.mg W0 S) :: l) ((c, S) :: hs)
def HdR (X : Cx) (hds : List ExceptHandler) (hs : List (Str × SX)) : Prop := ∃ l, HdsOk X hds l ∧ Mts X l hs
theorem hd_nil : HdR X [] [] := ⟨[], .nil, .nil⟩
theorem hd_cons {S : SX} {b₀ : Stmt} {suite : List Stmt} {np : Pos} (gC : X.mg c = some (.ref C)) (hsu : ∀ (a : Addr) (oe : Obj) (pn : List (Addr × Obj)), PSs (X.suite a ((a, oe) :: pn)) (b₀ :: suite) (IS X.K X.mg W0 S)) (r : HdR X hds hs)
    (hg : Gl X c := by rfl) (hdb : (c == ("__debug__" : Str)) = false := by decide) : HdR X (.ExceptHandler (some (.Name c np)) none (b₀ :: suite) pos' :: hds) ((c, S) :: hs) := by
  obtain ⟨l, a, b⟩ := r
  exact ⟨_, .cons ⟨hg, hdb, .inl gC⟩ (fun a oe cls d pn _ _ => hsu a oe pn) a, .cons gC b⟩
theorem noEx_out {K : PySem.W.Frag} {mg : Str → Option Value} {W : WX} {as : List Addr} {H : Hp} {D : Ends} {o : RS} (z : OutS K mg W as H D (noEx o)) : OutS K mg W0 as H D o := by
  cases o with
  | ex x r h => exact z.elim
  | nx r h => exact z
  | rt r h => exact z
  | bk r h => exact z
  | ct r h => exact z
  | bad => exact z
theorem many_of {l : List (Value × (Addr → Value → Option Addr → TS))} (mt : Mts X l hs) (E : ExCs X.K X.mg cs) {x1 : XV} {r1 : Fm} {h1 : IH} {d : Option Addr} {s' : L2.St} {H H' : Hp} {as as' : List Addr} {D : Ends} (hc1 : cs.contains x1.cls = true) (hc2 : hs.all (fun q => cs.contains q.1) = true)
    (gC : X.mg x1.cls = some (.ref C)) (S : Stp as H as' H') (x' : RH X.K X.mg H' as' h1) (f' : RF X.K X.mg H' as' r1 s') (rx : RX X.K X.mg H' as' x1 (.ref C) d)
    (o : OutS X.K X.mg W as H D (match pickH x1 hs with
      | some S => noEx (S r1 h1)
      | none => .ex x1 r1 h1)) : wMany X.K W D l (.ref C) d s' H' := by
  induction mt with
  | nil => exact o (.ref C) d s' H' as' S x' f' rx
  | @cons c Cc Sx l hs g r' ih =>
    rw [List.all_cons, Bool.and_eq_true] at hc2
    have ee := E.two x1.cls c C Cc hc1 hc2.1 gC g
    refine ⟨_, ee, fun hb => fun a na => ?_, fun hb => ?_⟩
    · simp only [pickH, hb, if_true] at o
      exact ⟨as', r1, h1, f', x', noEx_out (o.shift S)⟩
    · refine ih hc2.2 ?_
      simp only [pickH, hb] at o
      exact o
theorem is_try (cx : Ctx X W k) (E : ExCs X.K X.mg cs) (hb : ∀ (W' : WX) (pn : List (Addr × Obj)) (xe : Value → Shared → Prop), Ctx (X.tr pn xe) W' k → PSs (X.tr pn xe) body (IS X.K X.mg W' B)) (hh : HdR X (h₀ :: hds) hs)
    (hs0 : X.stack = X.env :: X.outer := by rfl) (hf0 : X.env.frame = some X.env.locals := by rfl) : PS X (.Try body (h₀ :: hds) [] [] pos) (IS X.K X.mg W (sTry cs B hs)) := by
  obtain ⟨l, ok, mt⟩ := hh
  refine psImp (ps_try_many hs0 hf0 cx.tk (fun W' pn xe tk po => hb W' pn xe ⟨tk, po, cx.calm, cx.nd, cx.room⟩) ok) fun D s H ⟨as, r, h, f, x, o⟩ => ?_
  refine ⟨as, r, h, f, x, ?_⟩
  unfold sTry at o
  cases q : B r h with
  | nx r1 h1 => rw [q] at o; exact o
  | rt r1 h1 => rw [q] at o; exact o
  | bk r1 h1 => rw [q] at o; exact o
  | ct r1 h1 => rw [q] at o; exact o
  | bad => rw [q] at o; exact o
  | ex x1 r1 h1 =>
    rw [q] at o
    simp only at o
    split at o
    · rename_i hc
      obtain ⟨hc1, hc2⟩ := Bool.and_eq_true_iff.mp hc
      intro cls d s' H' as' S x' f' rx
      have rx' := rx
      obtain ⟨C, gC, rfl, fs⟩ := rx
      exact many_of mt E hc1 hc2 gC S x' f' rx' o
    · exact o.elim
end
end WR

/-! remove and index of data -/
namespace L2
open PySem PySem.Spec PyProof.Rows
section
variable {X : Cx}
def rRemD (K : PySem.W.Frag) : V → List V → Hp → VK → Prop := fun x xs H Q => ∃ (l : Addr) (ys : List V) (y : V) (d : PyData) (ds : List PyData) (j : Nat) (z : PyData), x = V.ref l ∧ xs = [y] ∧ H l = some (.lst ys) ∧ DpAll K H ys ds ∧ Dp K H y d ∧
  SeqAt.shaped (.list ds) = true ∧ SeqAt.shaped d = true ∧ ds[j]? = some z ∧ PyData.eqv z d = true ∧ (∀ (m : Nat) (z' : PyData), m < j → ds[m]? = some z' → PyData.eqv z' d = false) ∧ Q .non (upd H l (.lst (ys.eraseIdx j)))
theorem mt_removeD (hu : X.A.units + 65 < cLine) : MtR X "list.remove" (rRemD X.K) := by
  intro pins s σ H x xs v us Q I rx rxs h
  obtain ⟨a, ys, y, d, ds, j, z, rfl, rfl, hH, hl, hy, sl, sd, hz, hzj, hno, q⟩ := h
  cases rx
  obtain ⟨uy, rfl, ry⟩ := rxs.one
  obtain ⟨bs, r1⟩ := Dp.reads I d y uy hy ry
  have hxs : PyData.canLayAll0 ds = true := SeqAt.canLay_of_shaped sl
  have hroom : X.A.units + 1 + min (PyData.depthAll ds) d.depth < cLine := room_in_shaped sd hu
  obtain ⟨zl, its, n, r, hln, e⟩ := I.lstM hH
  obtain ⟨as, h4⟩ := Dp.readsAll I ds _ its hl r
  have hn : its.length = ds.length := SeqAt.ReadsAll.length ds its as h4
  have hmap : its.map (SeqAt.readOf s.heap) = ds := SeqAt.readsAll_map ds its as hxs h4
  have hvl := r.length
  have hsl := sizeLine_eq
  obtain ⟨hjd, _⟩ := List.getElem?_eq_some_iff.mp hz
  have hjl : j < its.length := by omega
  have hj : j < its.toArray.size := by simpa using hjl
  have at_ : ∀ (m : Nat) (hm : m < its.toArray.size) (z' : PyData), ds[m]? = some z' → SeqAt.readOf s.heap its.toArray[m] = z' := by
    intro m hm z' hz'
    have hml : m < its.length := by simpa using hm
    rw [← hmap, List.getElem?_map, List.getElem?_eq_getElem hml] at hz'
    have e1 : SeqAt.readOf s.heap its[m] = z' := Option.some.inj (show some (SeqAt.readOf s.heap its[m]) = some z' from hz')
    simpa using e1
  refine call_meets PySem.F.slot_list_remove ⟨_, e, rfl⟩ PySem.F.entry_list_remove (PySem.F.args_list_remove_2 _ _)
    (SeqAt.list_removeAt a its.toArray n none #[] uy (fun u => PyData.eqv (SeqAt.readOf s.heap u) d) j hj ?_ ?_ (by rw [List.size_toArray]; omega)) ⟨e, SeqAt.items_eqAt (vs := its.toArray) (show ReadsAll s.heap its.toArray.toList ds as from h4) r1 hxs (SeqAt.canLay_of_shaped sd) hroom, ?_⟩
  · show PyData.eqv (SeqAt.readOf s.heap its.toArray[j]) d = true
    rw [at_ j hj z hz]
    exact hzj
  · intro m hm hmj
    have hmd : m < ds.length := by omega
    have hz' : ds[m]? = some ds[m] := List.getElem?_eq_getElem hmd
    show PyData.eqv (SeqAt.readOf s.heap its.toArray[m]) d = false
    rw [at_ m hm _ hz']
    exact hno m _ hmj hz'
  · have rr := r.eraseIdx j
    refine ⟨.non, _, I.lset (its' := its.eraseIdx j) (t' := s.toks) hH e ?_ rr ?_, rfl, q⟩
    · show its.toArray.eraseIdxIfInBounds j = (its.eraseIdx j).toArray
      rw [List.eraseIdxIfInBounds_toArray]
    · have z2 := List.length_eraseIdx_le ys j
      omega
end
end L2
namespace WR
open PySem PySem.Spec PyProof.Rows L2
/-- the first place of an equal item -/
def ixAt (xs : List PV) (y : PV) (h : IH) : Option Nat := match optAll (dataOf 11 h) xs, dataOf DEP h y with
  | some ds, some d => if SeqAt.shaped (.list ds) && SeqAt.shaped d then ds.findIdx? (fun z => PyData.eqv z d) else none
  | _, _ => none
@[simp] def eRemove (A : EX) (L : AX) : EX := fun r h => (A r h).bind fun x h1 => match x with
  | .obj n => (match h1[n]? with
    | some (.lst _) => (L r h1).bind fun vs h2 => (match vs, h2[n]? with
      | [y], some (.lst xs) => (match ixAt xs y h2 with
        | some j => .ok .non (h2.set n (.lst (xs.eraseIdx j)))
        | none => .bad)
      | _, _ => .bad)
    | _ => .bad)
  | _ => .bad
@[simp] def eIndex (A : EX) (L : AX) : EX := fun r h => (A r h).bind fun x h1 => match x with
  | .obj n => (match h1[n]? with
    | some (.lst _) => (L r h1).bind fun vs h2 => (match vs, h2[n]? with
      | [y], some (.lst xs) => (match ixAt xs y h2 with
        | some j => .ok (.int j) h2
        | none => .bad)
      | _, _ => .bad)
    | _ => .bad)
  | _ => .bad
theorem ixAt_of {K : PySem.W.Frag} {mg : Str → Option Value} {as : List Addr} {H : Hp} {h : IH} {xs : List PV} {ys : List V} {y : PV} {w : V} {j : Nat} (rh : RH K mg H as h) (rs : RPs K mg H as xs ys) (ry : RP K mg H as y w) (e : ixAt xs y h = some j) :
    ∃ d ds z, DpAll K H ys ds ∧ Dp K H w d ∧ SeqAt.shaped (.list ds) = true ∧ SeqAt.shaped d = true ∧ ds[j]? = some z ∧ PyData.eqv z d = true ∧ (∀ (m : Nat) (z' : PyData), m < j → ds[m]? = some z' → PyData.eqv z' d = false) := by
  unfold ixAt at e
  split at e
  · rename_i ds d e1 e2
    split at e
    · rename_i hs
      obtain ⟨s1, s2⟩ := Bool.and_eq_true_iff.mp hs
      obtain ⟨hj, h1, h2⟩ := List.findIdx?_eq_some_iff_getElem.mp e
      refine ⟨d, ds, ds[j], dpAll (fun p v d r => dp_of rh 11 p v d r) rs e1, dp_of rh _ _ _ _ ry e2, s1, s2, List.getElem?_eq_getElem hj, h1, fun m z' hm hz => ?_⟩
      obtain ⟨hm2, rfl⟩ := List.getElem?_eq_some_iff.mp hz
      have := h2 m hm
      simpa using this
    · cases e
  · cases e
theorem RPs.eraseIdx {K : PySem.W.Frag} {mg : Str → Option Value} {as : List Addr} {H : Hp} : ∀ {xs : List PV} {us : List V} (j : Nat), RPs K mg H as xs us → RPs K mg H as (xs.eraseIdx j) (us.eraseIdx j)
  | _, _, _, .nil => by simpa using .nil
  | _, _, 0, .cons r t => by simpa using t
  | _, _, j + 1, .cons r t => by simpa using .cons r (RPs.eraseIdx j t)
section
variable {X : Cx} {W : WX} {k : Nat} {a b e o : Expr} {es : List Expr} {pos : Pos} {A B C : EX} {L : AX}
theorem ie_remove {apos : Pos} (cx : Ctx X W k) (ho : PE X o (IE X.K X.mg W A)) (ha : PA X (e :: es) (IA X.K X.mg W L)) (hbase : attributeBase o "remove" X.env (eval o X.env) = eval o X.env := by rfl)
    (hfew : ((backTo pos (starEach (e :: es) X.env)).all (fun x => !x.1) && (backToKw pos (keywordEach [] X.env)).all (fun x => x.1.isSome)
      && decide ((e :: es).length + ([] : List Keyword).length + (if ([] : List Keyword).isEmpty then 0 else 1) < 30)) = true := by rfl)
    (hline : (apos.endLine == pos.line) = true := by rfl) (hs : starEach (e :: es) X.env = (false, eval e X.env) :: starEach es X.env := by rfl) (hplain : (backTo pos (starEach es X.env)).any (·.1) = false := by rfl) :
    PE X (.Call (.Attribute o "remove" apos) (e :: es) [] pos) (IE X.K X.mg W (eRemove A L)) := by
  refine peImp (pe_bm PySem.F.plainAttrs_list PySem.F.slot_list_remove PySem.F.type_list_remove (mt_removeD (by have := units65 cx.room; omega)) ho ha hbase hfew hline hs hplain) fun s H Q ⟨as, ρ, hh, f, x, o⟩ => ?_
  refine ⟨as, ρ, hh, f, x, (Out.bind o).imp fun V H1 ⟨as1, h1, p1, S1, x1, r1, o1⟩ => ?_⟩
  split at o1
  · rename_i n
    cases r1 with
    | obj hn =>
      split at o1
      · rename_i ys hy
        obtain ⟨b, e1, us, e2, rs⟩ := x1.at_ _ _ hy
        rw [hn] at e1; cases e1
        refine ⟨.inl ⟨rfl, _, SqL.of e2⟩, as1, ρ, h1, f.mono S1, x1, (Out.bind o1).imp fun Vs H2 ⟨as2, h2, p2, S2, x2, r2, o2⟩ => ?_⟩
        split at o2
        · rename_i y xs hx
          split at o2
          · rename_i j hj
            obtain ⟨w, rfl, rw'⟩ := r2.inv1
            obtain ⟨b', e3, ws, e4, rs'⟩ := x2.at_ _ _ hx
            have hn2 := S2.get hn
            rw [hn2] at e3; cases e3
            obtain ⟨d, ds, z, q1, q2, q3, q4, q5, q6, q7⟩ := ixAt_of x2 rs' rw' hj
            refine ⟨_, ws, w, d, ds, j, z, rfl, rfl, e4, q1, q2, q3, q4, q5, q6, q7, ?_⟩
            have S3 := Stp.put (o := .lst (ws.eraseIdx j)) x2 hn2 hx
            exact o2 _ _ _ S3 (x2.put (m := .lst (xs.eraseIdx j)) hn2 hx ⟨_, upd_same, (rs'.eraseIdx j).mono S3⟩) .non
          · exact o2.elim
        · exact o2.elim
      · exact o1.elim
  · exact o1.elim
theorem ie_index {apos : Pos} (cx : Ctx X W k) (ho : PE X o (IE X.K X.mg W A)) (ha : PA X (e :: es) (IA X.K X.mg W L)) (hbase : attributeBase o "index" X.env (eval o X.env) = eval o X.env := by rfl)
    (hfew : ((backTo pos (starEach (e :: es) X.env)).all (fun x => !x.1) && (backToKw pos (keywordEach [] X.env)).all (fun x => x.1.isSome)
      && decide ((e :: es).length + ([] : List Keyword).length + (if ([] : List Keyword).isEmpty then 0 else 1) < 30)) = true := by rfl)
    (hline : (apos.endLine == pos.line) = true := by rfl) (hs : starEach (e :: es) X.env = (false, eval e X.env) :: starEach es X.env := by rfl) (hplain : (backTo pos (starEach es X.env)).any (·.1) = false := by rfl) :
    PE X (.Call (.Attribute o "index" apos) (e :: es) [] pos) (IE X.K X.mg W (eIndex A L)) := by
  refine peImp (pe_bm PySem.F.plainAttrs_list PySem.F.slot_list_index PySem.F.type_list_index (mt_indexD (by have := units65 cx.room; omega)) ho ha hbase hfew hline hs hplain) fun s H Q ⟨as, ρ, hh, f, x, o⟩ => ?_
  refine ⟨as, ρ, hh, f, x, (Out.bind o).imp fun V H1 ⟨as1, h1, p1, S1, x1, r1, o1⟩ => ?_⟩
  split at o1
  · rename_i n
    cases r1 with
    | obj hn =>
      split at o1
      · rename_i ys hy
        obtain ⟨b, e1, us, e2, rs⟩ := x1.at_ _ _ hy
        rw [hn] at e1; cases e1
        refine ⟨.inl ⟨rfl, _, SqL.of e2⟩, as1, ρ, h1, f.mono S1, x1, (Out.bind o1).imp fun Vs H2 ⟨as2, h2, p2, S2, x2, r2, o2⟩ => ?_⟩
        split at o2
        · rename_i y xs hx
          split at o2
          · rename_i j hj
            obtain ⟨w, rfl, rw'⟩ := r2.inv1
            obtain ⟨b', e3, ws, e4, rs'⟩ := x2.at_ _ _ hx
            have hn2 := S2.get hn
            rw [hn2] at e3; cases e3
            obtain ⟨d, ds, z, q1, q2, q3, q4, q5, q6, q7⟩ := ixAt_of x2 rs' rw' hj
            exact ⟨_, w, d, ds, j, z, rfl, rfl, .lst (SqL.of e4) q1, q2, q3, q4, q5, q6, q7, o2.here x2 (.int _)⟩
          · exact o2.elim
        · exact o2.elim
      · exact o1.elim
  · exact o1.elim
theorem chain_of {p q : PV → PV → IH → Res PV} {r r' : R2} {c : Expr} (hp : Snd X.K X.mg p r) (hq : Snd X.K X.mg q r') {s : L2.St} {H : Hp} {Q : VK} (h : IE X.K X.mg W (eChain p q A B C) s H Q) : tChain r r' (IE X.K X.mg W A) (IE X.K X.mg W B) (IE X.K X.mg W C) s H Q := by
  obtain ⟨as, ρ, h, g, z, o⟩ := h
  refine ⟨as, ρ, h, g, z, (Out.bind o).imp fun V1 H1 ⟨as1, h1, p1, S1, x1, r1, o1⟩ => ?_⟩
  refine ⟨as1, ρ, h1, g.mono S1, x1, (Out.bind o1).imp fun V2 H2 ⟨as2, h2, p2, S2, x2, r2, o2⟩ => ?_⟩
  refine hp x2 (r1.mono S2) r2 ((Out.bind o2).imp fun V3 H3 ⟨as3, h3, p3, S3, x3, r3, o3⟩ => ?_)
  cases r3 with
  | bl d =>
    refine ⟨d, rfl, ?_⟩
    cases d with
    | false => exact o3.here x3 (.bl false)
    | true =>
      refine ⟨as3, ρ, h3, ((g.mono S1).mono S2).mono S3, x3, (Out.bind o3).imp fun V4 H4 ⟨as4, h4, p4, S4, x4, r4, o4⟩ => ?_⟩
      exact hq x4 ((r2.mono S3).mono S4) r4 o4
  | non => exact o3.elim
  | int => exact o3.elim
  | str => exact o3.elim
  | tup => exact o3.elim
  | fls => exact o3.elim
  | obj => exact o3.elim
  | glo => exact o3.elim
  | ty => exact o3.elim
  | key => exact o3.elim
theorem it_lele {c : Expr} (ha : PE X a (IE X.K X.mg W A)) (hb : PE X b (IE X.K X.mg W B)) (hc : PE X c (IE X.K X.mg W C)) (hm : lastMarks [.LtE, .LtE] [b, c] = false := by with_unfolding_all rfl) : PT X (.Compare a [.LtE, .LtE] [b, c] pos) (IT X.K X.mg W (tBl (eChain pLe pLe A B C))) :=
  ptImp (pt_chain op_le op_le ha hb hc hm) fun _ _ _ h => tTest_of (fun Q' h => chain_of (c := c) snd_ci snd_ci h) h
end
end WR

/-! == of a pair whose second item is an own class's instance -/
namespace PySem.SeqAt
open AutoSeq1 (wpAny_loadPart')
open MeetsSeq MeetsSeq2 MeetsSeq3 SeqRoads2
section
variable {prog : Program} {w : World}
theorem wr_tuple_eq2 (l b : Addr) (v1 v2 w1 w2 : Value) (n n2 : Nat) (dd dd2 : Option Addr) (sl sl2 : Array (Option Value)) (q : Bool) :
    MeetsIn prog w (Builtin.«tuple.__eq__» ⟨[.ref l, .ref b], []⟩)
      (fun A R s => s.heap.get? l = some { cls := .type "tuple", dict := dd, data := .seq #[v1, v2] n, slots := sl } ∧ s.heap.get? b = some { cls := .type "tuple", dict := dd2, data := .seq #[w1, w2] n2, slots := sl2 } ∧
        EqIn prog w A.in1 s v1 w1 q ∧ (q = false → R (.ok (.ret (.bool false))) s) ∧
        (q = true → wpAny (model prog w) A.in1 (eqBool v2 w2) (fun r s' => R (.ok (.ret (.bool r))) s') (fun e s' => R (.error e) s') s)) :=
  .of_wp fun A R s h => by
    obtain ⟨hp, g, d, tk, os⟩ := s; obtain ⟨hl, hb, he, h0, h2⟩ := h
    have f2 := AutoSeq1.sub_tuple_tuple
    wp_walk using wpAny_loadPart' hl, wpAny_loadPart' hb, wpAny_forIn_list _ (fun rest b s' => b.1 = none ∧ ((rest = [(v1, w1), (v2, w2)] ∧ s' = ⟨hp, g, d, tk, os⟩) ∨ (rest = [(v2, w2)] ∧ q = true ∧ s' = ⟨hp, g, d, tk, os⟩) ∨ (rest = [] ∧ R (.ok (.ret (.bool true))) s'))) _
    case turn =>
      rintro ⟨y, x⟩ rest b s' ⟨hb', hz⟩
      rcases hz with ⟨hz, rfl⟩ | ⟨hz, hq, rfl⟩ | ⟨hz, _⟩
      · injection hz with e1 e2
        injection e1 with ea eb
        subst ea eb e2
        refine wpAny_bind (he _ _ ?_)
        cases hy : q with
        | true =>
          wp_walk
          exact ⟨rfl, .inr (.inl ⟨rfl, rfl, rfl⟩)⟩
        | false =>
          wp_walk
          exact ⟨_, rfl, h0 hy⟩
      · injection hz with e1 e2
        injection e1 with ea eb
        subst ea eb e2
        refine wpAny_bind (wpAny_mono (h2 hq) (fun r s1 hr => ?_) (fun _ _ x => x))
        cases r with
        | true =>
          wp_walk
          exact ⟨rfl, .inr (.inr ⟨rfl, hr⟩)⟩
        | false =>
          wp_walk
          exact ⟨_, rfl, hr⟩
      · cases hz
    case fin =>
      rintro ⟨b1, b2⟩ s' ⟨hb', hz⟩
      simp only at hb'
      subst hb'
      rcases hz with ⟨hz, _⟩ | ⟨hz, _⟩ | ⟨_, hR⟩
      · cases hz
      · cases hz
      · wp_walk
        exact ⟨_, rfl, by simpa [Builtin.Tuple.tupleCompareSizes] using hR⟩
    case h =>
      exact ⟨rfl, .inl ⟨rfl, rfl⟩⟩
end
end PySem.SeqAt
namespace WR
open PySem PySem.Spec PyProof.Rows L2 PySem.SeqAt
open MeetsSeq MeetsSeq2 MeetsSeq3 SeqRoads2
section
variable {X : Cx} {k : Nat} {f C : Addr} {fd : FuncData} {ps : List Str} {sp : Sp}
def rEqP (K : PySem.W.Frag) (C : Addr) (sp : Sp) : R2 := fun x y H Q => ∃ (p q a b : Addr) (i j : Int) (dx dy : Addr) (fs gs : List (Str × V)), x = .ref p ∧ y = .ref q ∧ SqT K H p [.int i, .ref a] ∧ SqT K H q [.int j, .ref b] ∧ a ≠ b ∧ H a = some (.ins C dx fs) ∧ H b = some (.ins C dy gs) ∧
  (i ≠ j → Q (.bl false) H) ∧ (i = j → sp [.ref a, .ref b] H (fun v H' => ∃ r : Bool, v = .bl r ∧ Q (.bl r) H') E0)
theorem op_eqP (FO : FnOk X.prog X.w X.K X.mg X.base (L2.CX X.prog X.w) k f fd ps sp) (hs : PySem.W.findIn X.K (.ref C) "__eq__" = some (some (.ref f))) (hf : PySem.W.isFn X.K (.ref f) = true) (hb : Binds X.K fd ps []) (hr : Room k X.A.in1) (hr0 : Room k X.A) :
    OpR X (compareOp .Eq) (rEqP X.K C sp) := by
  intro pins s σ H x y v u Q I rx ry h
  obtain ⟨p, q, a, b, i, j, dx, dy, fs, gs, rfl, rfl, hp, hq, hne, ea, eb, q0, q1⟩ := h
  cases rx
  cases ry
  obtain ⟨its, r1, p1, _⟩ := I.tuple hp
  obtain ⟨its2, r2, p2, _⟩ := I.tuple hq
  obtain ⟨u1, u2, rfl, ⟨t, rfl⟩, x2⟩ := vals2 r1
  obtain ⟨w1, w2, rfl, ⟨t', rfl⟩, y2⟩ := vals2 r2
  obtain rfl : u2 = Value.ref a := x2
  obtain rfl : w2 = Value.ref b := y2
  obtain ⟨⟨cls, dd, data, sl⟩, ho, hc, n, hd⟩ := id p1
  obtain ⟨⟨cls2, dd2, data2, sl2⟩, ho2, hc2, n2, hd2⟩ := id p2
  simp only at hc hd hc2 hd2
  subst hc hd hc2 hd2
  obtain ⟨mA, J, _⟩ := ins_get I.hok ea
  obtain ⟨od, J, _⟩ := J.look
  obtain ⟨mB, J', _⟩ := ins_get I.hok eb
  obtain ⟨od', J', _⟩ := J'.look
  obtain ⟨m, hF⟩ := I.fr
  show wpAny (model X.prog X.w) X.A (richCompare .Eq (.ref p) (.ref q)) (EP X pins σ Q) X.xe s
  refine wpAny_richCompare_same_room (T := "tuple") (op := .Eq) ⟨_, ho, rfl⟩ ⟨_, ho2, rfl⟩ F.slot_tuple_eq (call_meetsIn F.slot_tuple_eq ⟨_, ho, rfl⟩ F.entry_tuple_eq (F.args_tuple_eq_2 _ _) (wr_tuple_eq2 p q _ _ _ _ n n2 dd dd2 sl sl2 (i == j))
    ⟨ho, ho2, (EqAt.int_int _ _ _ _).inModel _ _, fun e => ?_, fun e => ?_⟩) hr0.units0
  · exact ⟨(fun x => nomatch x), .bl false, H, I, rfl, q0 (by simpa using e)⟩
  · have q := q1 (by simpa using e)
    have hl := FO.len _ _ _ _ q
    have bb := hb s [.ref a, .ref b] I.kIn (by simpa using hl)
    unfold eqBool
    refine wpAny_holding ?_
    refine wpAny_ite_split (fun hab => absurd (by have := eq_of_beq hab; injection this) hne) (fun _ => wpAny_bind ?_)
    refine PySem.W.cmp_K (op := .Eq) (tb := .ref C) hr.units0 hF I.ok.mod.kin J J'.type (by simp [PySem.W.notFirst]) hs hf ?_
    refine wpAny_call (codeAny_mono (FO.run X.A.in1 X.stack s H ⟨[.ref a, .ref b], []⟩ [.ref a, .ref b] [.ref a, .ref b] _ E0 hr I.env0.in1 (by simpa using bb) (.cons rfl (.cons rfl .nil)) q) fun r s' hq => ?_)
    cases r with
    | error er => exact passL pins σ H s er s' I hq
    | ok fl =>
      cases fl with
      | ret w =>
        obtain ⟨v, H', I', rv, n, rfl, qn⟩ := I.after hq
        cases rv
        exact wpAny_truthy_bool ⟨(fun x => nomatch x), .bl n, H', I', rfl, qn⟩
      | next => exact False.elim hq
      | brk => exact False.elim hq
      | cont => exact False.elim hq
end
@[simp] def isIns (c : Str) (n : Nat) (h : IH) : Bool := match h[n]? with
  | some (.ins c' _) => c' == c
  | _ => false
/-- (i, x) == (j, y), x and y of an own class -/
@[simp] def pEqP (c : Str) (F : List PV → IH → Res PV) (x y : PV) (h : IH) : Res PV := match x, y with
  | .tup [.int i, .obj m], .tup [.int j, .obj n] => if m ≠ n ∧ isIns c m h = true ∧ isIns c n h = true then (if i = j then (match F [.obj m, .obj n] h with
      | .ok (.bl b) h1 => .ok (.bl b) h1
      | _ => .bad) else .ok (.bl false) h) else .bad
  | _, _ => .bad
theorem isIns_at {K : PySem.W.Frag} {mg : Str → Option Value} {cn : Str} {Cc : Addr} (gc : mg cn = some (.ref Cc)) {H : Hp} {as : List Addr} {h : IH} (rh : RH K mg H as h) {n : Nat} {a : Addr} (hn : as[n]? = some a) (e : isIns cn n h = true) : ∃ dx gs, H a = some (.ins Cc dx gs) := by
  unfold isIns at e
  split at e
  · rename_i c' fs hx
    have : c' = cn := by simpa using e
    subst this
    obtain ⟨b, e1, C', dx, gs, g0, e2, _⟩ := rh.at_ _ _ hx
    rw [hn] at e1; cases e1
    rw [gc] at g0; cases g0
    exact ⟨_, _, e2⟩
  · cases e
theorem snd_eqP {K : PySem.W.Frag} {mg : Str → Option Value} {cn : Str} {Cc : Addr} {F : List PV → IH → Res PV} (gc : mg cn = some (.ref Cc)) : Snd K mg (pEqP cn F) (rEqP K Cc (SpF K mg 2 F)) := by
  intro W s as H h x y U V Q rh rx ry o
  unfold pEqP at o
  split at o
  · rename_i i m j n
    split at o
    · rename_i hc
      obtain ⟨hmn, hm, hn⟩ := hc
      cases rx with
      | tup h1 rs1 =>
        cases ry with
        | tup h2 rs2 =>
          cases rs1 with
          | cons ri rs1 =>
            cases ri
            cases rs1 with
            | cons ro rs1 =>
              cases rs1
              cases rs2 with
              | cons rj rs2 =>
                cases rj
                cases rs2 with
                | cons rp rs2 =>
                  cases rs2
                  cases ro with
                  | obj am =>
                    cases rp with
                    | obj an =>
                      obtain ⟨dx, fs, e1⟩ := isIns_at gc rh am hm
                      obtain ⟨dy, gs, e2⟩ := isIns_at gc rh an hn
                      refine ⟨_, _, _, _, i, j, dx, dy, fs, gs, rfl, rfl, h1, h2, fun z => hmn ?_, e1, e2, fun z => ?_, fun z => ?_⟩
                      · subst z
                        exact (List.getElem?_inj (by
                          rcases Nat.lt_or_ge m as.length with y | y
                          · exact y
                          · rw [List.getElem?_eq_none y] at am; cases am) rh.nd).mp (am.trans an.symm)
                      · rw [if_neg z] at o
                        exact o.here rh (.bl false)
                      · rw [if_pos z] at o
                        refine ⟨as, _, h, rfl, RPs.cons (.obj am) (RPs.one (.obj an)), rh, ?_⟩
                        split at o
                        · rename_i q h1 hF
                          rw [hF]
                          intro V H' as' S x' r'
                          cases r'
                          exact ⟨_, rfl, o _ _ _ S x' (.bl _)⟩
                        · exact o.elim
    · exact o.elim
  · exact o.elim
section
variable {X : Cx} {W : WX} {k : Nat} {a b : Expr} {pos : Pos} {A B : EX} {cn : Str} {Cc f : Addr} {j : Nat} {F : List PV → IH → Res PV}
theorem ie_eqP (cx : Ctx X W k) (gc : X.mg cn = some (.ref Cc)) (hs : PySem.W.findIn X.K (.ref Cc) "__eq__" = some (some (.ref f))) (hf : PySem.W.isFn X.K (.ref f) = true) (G : GA X.prog X.w X.K X.mg X.base f j 2 F) (ha : PE X a (IE X.K X.mg W A)) (hb' : PE X b (IE X.K X.mg W B)) (hj : j + 1 ≤ k := by decide) :
    PE X (.Compare a [.Eq] [b] pos) (IE X.K X.mg W (eOp (pEqP cn F) A B)) := by
  obtain ⟨fd, ps, G1, hb⟩ := G.ex
  exact ie_cmp (op_eqP G1 hs hf hb (cx.room.mono hj).in1 (cx.room.mono (Nat.le_of_succ_le hj))) (snd_eqP gc) ha hb' (nomark _)
end
end WR

/-! except C as e; dicts with texts as keys; o[i], x = a, b -/
namespace WR
open PySem PySem.Spec PyProof.Rows L2
/-! ### readings that keep a fact -/
abbrev Fac := L2.St → Hp → List Addr → Prop
def Mon (φ : Fac) : Prop := ∀ {s : L2.St} {as as' : List Addr} {H H' : Hp}, Stp as H as' H' → φ s H as → φ s H' as'
def IGf {α β : Type} (φ : Fac) (K : PySem.W.Frag) (mg : Str → Option Value) (R : Hp → List Addr → α → β → Prop) (W : WX) (A : Fm → IH → Res α) : L2.St → Hp → (β → Hp → Prop) → Prop :=
  fun s H Q => ∃ as r h, RF K mg H as r s ∧ RH K mg H as h ∧ φ s H as ∧ Out K mg R W s as H Q (A r h)
abbrev IEf (φ : Fac) (K : PySem.W.Frag) (mg : Str → Option Value) (W : WX) (A : EX) : TE := IGf φ K mg (fun H as p v => RP K mg H as p v) W A
abbrev ITf (φ : Fac) (K : PySem.W.Frag) (mg : Str → Option Value) (W : WX) (A : TX) : TT := IGf φ K mg (fun _ _ p v => p = v) W A
abbrev IAf (φ : Fac) (K : PySem.W.Frag) (mg : Str → Option Value) (W : WX) (A : AX) : TA := IGf φ K mg (fun H as p v => RPs K mg H as p v) W A
def ISf (φ : Fac) (K : PySem.W.Frag) (mg : Str → Option Value) (W : WX) (B : SX) : TS := fun D s H => ∃ as r h, RF K mg H as r s ∧ RH K mg H as h ∧ φ s H as ∧ OutS K mg W as H D (B r h)
section
variable {X : Cx} {W : WX} {k : Nat} {a b e : Expr} {es : List Expr} {pos : Pos} {A B C : EX} {L : AX} {c d : TX} {φ : Fac} {S T : SX} {st : Stmt} {sts : List Stmt}
theorem fe_of (h : PE X e (IE X.K X.mg W A)) : PE X e (IEf φ X.K X.mg W A) := peImp h fun s H Q ⟨as, r, h, f, x, _, o⟩ => ⟨as, r, h, f, x, o⟩
theorem ft_of (h : PT X e (IT X.K X.mg W c)) : PT X e (ITf φ X.K X.mg W c) := ptImp h fun s H Q ⟨as, r, h, f, x, _, o⟩ => ⟨as, r, h, f, x, o⟩
theorem fa_of (h : PA X es (IA X.K X.mg W L)) : PA X es (IAf φ X.K X.mg W L) := paImp h fun s H Q ⟨as, r, h, f, x, _, o⟩ => ⟨as, r, h, f, x, o⟩
theorem fs_of (h : PS X st (IS X.K X.mg W S)) : PS X st (ISf φ X.K X.mg W S) := psImp h fun D s H ⟨as, r, h, f, x, _, o⟩ => ⟨as, r, h, f, x, o⟩
theorem fss_of (h : PSs X sts (IS X.K X.mg W S)) : PSs X sts (ISf φ X.K X.mg W S) := pssImp h fun D s H ⟨as, r, h, f, x, _, o⟩ => ⟨as, r, h, f, x, o⟩
theorem fs_one (h : PS X st (ISf φ X.K X.mg W S)) : PSs X [st] (ISf φ X.K X.mg W S) := pss_one h
theorem fe_op {op : Operator} {p : PV → PV → IH → Res PV} {r : R2} (m : Mon φ) (ho : OpR X (binaryOp op) r) (hp : Snd X.K X.mg p r) (ha : PE X a (IEf φ X.K X.mg W A)) (hb : PE X b (IEf φ X.K X.mg W B)) : PE X (.BinOp a op b pos) (IEf φ X.K X.mg W (eOp p A B)) := by
  refine peImp (pe_op ho ha hb) fun s H Q ⟨as, ρ, hh, f, x, fx, o⟩ => ?_
  refine ⟨as, ρ, hh, f, x, fx, (Out.bind o).imp fun V H1 ⟨as1, h1, p1, S1, x1, r1, o1⟩ => ?_⟩
  refine ⟨as1, ρ, h1, f.mono S1, x1, m S1 fx, (Out.bind o1).imp fun U H2 ⟨as2, h2, p2, S2, x2, r2, o2⟩ => ?_⟩
  exact hp x2 (r1.mono S2) r2 o2
theorem fe_cmp {op : CmpOp} {p : PV → PV → IH → Res PV} {r : R2} (m : Mon φ) (ho : OpR X (compareOp op) r) (hp : Snd X.K X.mg p r) (ha : PE X a (IEf φ X.K X.mg W A)) (hb : PE X b (IEf φ X.K X.mg W B)) (hm : behindInMarks op b = false := by rfl) : PE X (.Compare a [op] [b] pos) (IEf φ X.K X.mg W (eOp p A B)) := by
  refine peImp (pe_cmpR ho ha hb hm) fun s H Q ⟨as, ρ, hh, f, x, fx, o⟩ => ?_
  refine ⟨as, ρ, hh, f, x, fx, (Out.bind o).imp fun V H1 ⟨as1, h1, p1, S1, x1, r1, o1⟩ => ?_⟩
  refine ⟨as1, ρ, h1, f.mono S1, x1, m S1 fx, (Out.bind o1).imp fun U H2 ⟨as2, h2, p2, S2, x2, r2, o2⟩ => ?_⟩
  exact hp x2 (r1.mono S2) r2 o2
theorem fe_if (m : Mon φ) (hc : PT X e (ITf φ X.K X.mg W c)) (ha : PE X a (IEf φ X.K X.mg W A)) (hb : PE X b (IEf φ X.K X.mg W B)) : PE X (.IfExp e a b pos) (IEf φ X.K X.mg W (eIf c A B)) := by
  refine peImp (pe_ifExp hc ha hb) fun s H Q ⟨as, ρ, hh, f, x, fx, o⟩ => ?_
  refine ⟨as, ρ, hh, f, x, fx, (Out.bind o).imp fun V H1 ⟨as1, h1, p1, S1, x1, r1, o1⟩ => ?_⟩
  obtain rfl : p1 = V := r1
  cases p1 with
  | true => exact ⟨as1, ρ, h1, f.mono S1, x1, m S1 fx, o1⟩
  | false => exact ⟨as1, ρ, h1, f.mono S1, x1, m S1 fx, o1⟩
theorem ft_tru (ha : PE X a (IEf φ X.K X.mg W A)) (he : ∀ whole, isTrue a X.env whole = (do let v ← whole; standAt a.pos; holding [v] (truthy v)) := by intro _; rfl) : PT X a (ITf φ X.K X.mg W (tTru A)) := by
  refine ptImp (pt_truth ha he) fun s H Q ⟨as, ρ, hh, f, x, fx, o⟩ => ?_
  refine ⟨as, ρ, hh, f, x, fx, (Out.bind o).imp fun V H1 ⟨as1, h1, p1, S1, x1, r1, o1⟩ => ?_⟩
  cases q : pTru p1 h1 with
  | none => rw [q] at o1; exact o1.elim
  | some z => rw [q] at o1; exact ⟨z, tru_of x1 r1 q, o1.here x1 rfl⟩
theorem ft_cmp {op : CmpOp} {p : PV → PV → IH → Res PV} {r : R2} (m : Mon φ) (ho : OpR X (compareOp op) r) (hp : Snd X.K X.mg p r) (ha : PE X a (IEf φ X.K X.mg W A)) (hb : PE X b (IEf φ X.K X.mg W B)) (hm : behindInMarks op b = false := by rfl) : PT X (.Compare a [op] [b] pos) (ITf φ X.K X.mg W (tBl (eOp p A B))) := by
  refine ptImp (pt_cmpR ho ha hb hm) fun s H Q ⟨as, ρ, hh, f, x, fx, o⟩ => ?_
  refine ⟨as, ρ, hh, f, x, fx, ?_⟩
  have o' : Out X.K X.mg (fun H as p v => RP X.K X.mg H as p v) W s as H (fun v H' => ∃ q : Bool, v = .bl q ∧ Q q H') (eOp p A B ρ hh) := (Out.bind o).imp fun V3 H3 ⟨as3, h3, p3, S3, x3, r3, o3⟩ => by
    cases r3 with
    | bl q => exact ⟨q, rfl, o3.here x3 rfl⟩
    | non => exact o3.elim
    | int => exact o3.elim
    | str => exact o3.elim
    | tup => exact o3.elim
    | fls => exact o3.elim
    | obj => exact o3.elim
    | glo => exact o3.elim
    | ty => exact o3.elim
    | key => exact o3.elim
  refine (Out.bind o').imp fun V H1 ⟨as1, h1, p1, S1, x1, r1, o1⟩ => ?_
  refine ⟨as1, ρ, h1, f.mono S1, x1, m S1 fx, (Out.bind o1).imp fun U H2 ⟨as2, h2, p2, S2, x2, r2, o2⟩ => ?_⟩
  exact hp x2 (r1.mono S2) r2 o2
theorem fa_cons (m : Mon φ) (ha : PE X e (IEf φ X.K X.mg W A)) (hr : PA X es (IAf φ X.K X.mg W L)) (hs : starEach (e :: es) X.env = (false, eval e X.env) :: starEach es X.env := by rfl) : PA X (e :: es) (IAf φ X.K X.mg W (aCons A L)) := by
  refine paImp (pa_cons ha hr hs) fun s H Q ⟨as, r, h, f, x, fx, o⟩ => ?_
  refine ⟨as, r, h, f, x, fx, (Out.bind o).imp fun V H1 ⟨as1, h1, p, S1, x1, r1, o1⟩ => ?_⟩
  refine ⟨as1, r, h1, f.mono S1, x1, m S1 fx, (Out.bind o1).imp fun Vs H2 ⟨as2, h2, ps, S2, x2, r2, o2⟩ => ?_⟩
  exact o2.here x2 (RPs.cons (r1.mono S2) r2)
theorem fe_tup {x1} (h : PA X es (IAf φ X.K X.mg W L)) : PE X (.Tuple es x1 pos) (IEf φ X.K X.mg W (eTup L)) := by
  refine peImp (pe_tup h) fun s H Q ⟨as, ρ, hh, f, x, fx, o⟩ => ?_
  refine ⟨as, ρ, hh, f, x, fx, (Out.bind o).imp fun Vs H1 ⟨as1, h1, p1, S1, x1, r1, o1⟩ => ?_⟩
  split at o1
  · rename_i hl
    refine ⟨by rw [sizeLine_eq, ← r1.length]; exact hl, fun p np => ?_⟩
    exact o1 _ _ as1 (Stp.lay x1 np) (x1.lay np) (.tup (SqT.of upd_same) (r1.mono (Stp.lay x1 np)))
  · exact o1.elim
theorem fs_ret (he : PE X e (IEf φ X.K X.mg W A)) : PS X (.Return (some e) pos) (ISf φ X.K X.mg W (sRet A)) := by
  refine psImp (ps_ret he) fun D s H ⟨as, r, h, f, x, fx, o⟩ => ?_
  refine ⟨as, r, h, f, x, fx, (outS_of f o).imp fun V H1 ⟨as1, h1, p, S1, x1, r1, o1⟩ => ?_⟩
  exact o1 V H1 as1 (Stp.refl _ _) x1 r1
theorem fs_if {t : Expr} {a b : List Stmt} (m : Mon φ) (hc : PT X t (ITf φ X.K X.mg W c)) (ha : PSs X a (ISf φ X.K X.mg W S)) (hb : PSs X b (ISf φ X.K X.mg W T)) : PS X (.If t a b pos) (ISf φ X.K X.mg W (sIf c S T)) := by
  refine psImp (ps_if hc ha hb) fun D s H ⟨as, r, h, f, x, fx, o⟩ => ?_
  refine ⟨as, r, h, f, x, fx, (outS_of f o).imp fun d H1 ⟨as1, h1, p, S1, x1, r1, o1⟩ => ?_⟩
  obtain rfl : p = d := r1
  cases p with
  | true => exact ⟨as1, r, h1, f.mono S1, x1, m S1 fx, o1⟩
  | false => exact ⟨as1, r, h1, f.mono S1, x1, m S1 fx, o1⟩
theorem fs_setl {j : Nat} {x : Str} {pos' : Pos} (nd : X.N.Nodup) (he : PE X e (IEf φ X.K X.mg W A)) (hi : X.N[j]? = some x := by rfl) (hx : Loc X.env.scope x := by first | exact Or.inl rfl | exact Or.inr rfl) (hs : swapsWith e (some (.Name x pos')) pos.line X.env = pure false := by rfl)
    (hf : X.fn x = true ∨ X.env.scope.names.lookup x = some .local := by first | exact .inl rfl | exact .inr rfl | assumption) : PS X (.Assign [.Name x pos'] e pos) (ISf φ X.K X.mg W (sSet j A)) := by
  refine psImp (ps_set nd hi hx he hs hf) fun D s H ⟨as, r, h, f, x, fx, o⟩ => ?_
  refine ⟨as, r, h, f, x, fx, (outS_of f o).imp fun V H1 ⟨as1, h1, p, S1, x1, r1, o1⟩ => ?_⟩
  exact o1 _ H1 as1 (Stp.refl _ _) x1 ((f.mono S1).set r1)
/-- x = e ahead of others: the fact stays -/
theorem fs_set {j : Nat} {x : Str} {pos' : Pos} (m : Mon φ) (mj : ∀ {s : L2.St} {H : Hp} {as : List Addr} (v : V), φ s H as → φ (s.set j (some v)) H as) (nd : X.N.Nodup) (he : PE X e (IEf φ X.K X.mg W A)) (h2 : PSs X sts (ISf φ X.K X.mg W T)) (hi : X.N[j]? = some x := by rfl) (hx : Loc X.env.scope x := by first | exact Or.inl rfl | exact Or.inr rfl) (hs : swapsWith e (some (.Name x pos')) pos.line X.env = pure false := by rfl)
    (hf : X.fn x = true ∨ X.env.scope.names.lookup x = some .local := by first | exact .inl rfl | exact .inr rfl | assumption) : PSs X (.Assign [.Name x pos'] e pos :: sts) (ISf φ X.K X.mg W (sSeq (sSet j A) T)) := by
  refine pssImp (pss_cons (ps_set nd hi hx he hs hf) h2) fun D s H ⟨as, r, h, f, x, fx, o⟩ => ?_
  refine ⟨as, r, h, f, x, fx, ?_⟩
  unfold sSeq sSet at o
  cases q : A r h with
  | ok v h1 =>
    rw [q] at o
    intro V H1 as1 S1 x1 r1
    exact ⟨as1, r.set j (some v), h1, (f.mono S1).set r1, x1, mj _ (m S1 fx), OutS.shift S1 o⟩
  | ex z h1 => rw [q] at o; exact fun cc d H1 as1 S1 R1 r1 => o cc d s H1 as1 S1 R1 (f.mono S1) r1
  | bad => rw [q] at o; exact o
end
/-! ### the caught exception -/
theorem RX.mono {K : PySem.W.Frag} {mg : Str → Option Value} {as as' : List Addr} {H H' : Hp} {x : XV} {cls : Value} {d : Option Addr} (S : Stp as H as' H') (q : RX K mg H as x cls d) : RX K mg H' as' x cls d := by
  obtain ⟨C, g, e, q⟩ := q
  refine ⟨C, g, e, ?_⟩
  rcases q with q | ⟨dd, gs, e0, e1, e2, e3, e4, e5⟩
  · exact .inl q
  · refine .inr ⟨dd, gs, e0, e1, S.oth _ _ e2 e3, fun z => ?_, e4, e5.mono S⟩
    obtain ⟨more, em, hm⟩ := S.pre
    rw [em] at z
    rcases List.mem_append.mp z with z | z
    · exact e3 z
    · rw [hm _ z] at e2; cases e2
/-- slot i holds the caught exception -/
def XF (K : PySem.W.Frag) (mg : Str → Option Value) (i : Nat) (a : Addr) (x : XV) (cls : Value) (d : Option Addr) : Fac := fun s H as => s[i]? = some (some (.ref a)) ∧ RX K mg H as x cls d
theorem XF.mon {K : PySem.W.Frag} {mg : Str → Option Value} {i : Nat} {a : Addr} {x : XV} {cls : Value} {d : Option Addr} : Mon (XF K mg i a x cls d) := fun S q => ⟨q.1, q.2.mono S⟩
theorem XF.set {K : PySem.W.Frag} {mg : Str → Option Value} {i j : Nat} {a : Addr} {x : XV} {cls : Value} {d : Option Addr} (hj : j ≠ i) {s : L2.St} {H : Hp} {as : List Addr} (v : V) (q : XF K mg i a x cls d s H as) : XF K mg i a x cls d (s.set j (some v)) H as :=
  ⟨by rw [List.getElem?_set_ne hj]; exact q.1, q.2⟩
@[simp] def unI (i : Nat) : RS → RS
  | .nx r h => .nx (r.set i none) h
  | .bk r h => .bk (r.set i none) h
  | .ct r h => .ct (r.set i none) h
  | .rt v h => .rt v h
  | _ => .bad
@[simp] def sTryAs (cs : List Str) (B : SX) (c : Str) (i : Nat) (S : XV → SX) : SX := fun r h => match B r h with
  | .ex x r1 h1 => if cs.contains x.cls && (cs.contains c && decide (i < r1.length)) then (if exSub x.cls c then unI i (S x (r1.set i none) h1) else .ex x r1 h1) else .bad
  | o => o
theorem RF.unsetO {K : PySem.W.Frag} {mg : Str → Option Value} {H : Hp} {as : List Addr} {r : Fm} {s : L2.St} {i : Nat} {o : Option V} (f : RF K mg H as r s) : RF K mg H as (r.set i none) (s.set i o) := by
  refine ⟨by simp [f.len], fun j q e => ?_⟩
  by_cases hj : j = i
  · subst hj
    by_cases hl : j < r.length
    · rw [List.getElem?_set_self hl] at e; cases e
    · rw [List.getElem?_eq_none (by simpa using hl)] at e; cases e
  · rw [List.getElem?_set_ne (Ne.symm hj)] at e
    rw [List.getElem?_set_ne (Ne.symm hj)]
    exact f.at_ j q e
theorem unI_out {K : PySem.W.Frag} {mg : Str → Option Value} {W : WX} {as : List Addr} {H : Hp} {D : Ends} {i : Nat} {o : RS} (z : OutS K mg W as H D (unI i o)) :
    OutS K mg W0 as H { nx := fun σ' H' => D.nx (σ'.set i none) H', rt := D.rt, bk := fun σ' H' => D.bk (σ'.set i none) H', ct := fun σ' H' => D.ct (σ'.set i none) H' } o := by
  cases o with
  | ex x r h => exact (show False from z).elim
  | nx r h => exact fun s' H' as' S x f => z _ H' as' S x f.unsetO
  | rt r h => exact z
  | bk r h => exact fun s' H' as' S x f => z _ H' as' S x f.unsetO
  | ct r h => exact fun s' H' as' S x f => z _ H' as' S x f.unsetO
  | bad => exact z
section
variable {X : Cx} {W : WX} {k : Nat} {c n : Str} {C : Addr} {p np pos pos' : Pos} {body suite : List Stmt} {b₀ : Stmt} {B : SX} {cs : List Str} {i : Nat} {S : XV → SX}
theorem is_tryAs (cx : Ctx X W k) (E : ExCs X.K X.mg cs) (gC : X.mg c = some (.ref C)) (hb : ∀ (W' : WX) (pn : List (Addr × Obj)) (xe : Value → Shared → Prop), Ctx (X.tr pn xe) W' k → PSs (X.tr pn xe) body (IS X.K X.mg W' B))
    (hsu : ∀ (x : XV) (a : Addr) (oe : Obj) (cls : Value) (d : Option Addr) (pn : List (Addr × Obj)), cs.contains x.cls = true → Zc cls d oe → (∃ vs, oe.data = .fields vs) → PSs (X.suite a ((a, oe) :: pn)) (b₀ :: suite) (ISf (XF X.K X.mg i a x cls d) X.K X.mg W0 (S x)))
    (hi : X.N[i]? = some n := by rfl) (hln : X.env.kindOf n = some .local := by rfl) (hg : Gl X c := by rfl) (hdb : (c == ("__debug__" : Str)) = false := by decide)
    (hs0 : X.stack = X.env :: X.outer := by rfl) (hf0 : X.env.frame = some X.env.locals := by rfl) : PS X (.Try body [.ExceptHandler (some (.Name c np)) (some n) (b₀ :: suite) pos'] [] [] pos) (IS X.K X.mg W (sTryAs cs B c i S)) := by
  refine psImp (ps_try_as (ts := fun a cls d D s H => ∃ x : XV, cs.contains x.cls = true ∧ ISf (XF X.K X.mg i a x cls d) X.K X.mg W0 (S x) D s H) hs0 hf0 cx.nd hi hln ⟨hg, hdb, .inl gC⟩ cx.tk (fun W' pn xe tk po => hb W' pn xe ⟨tk, po, cx.calm, cx.nd, cx.room⟩)
    (fun a oe cls d pn hz hd => ⟨fun pins s σ H D I ⟨x, hx, q⟩ => (hsu x a oe cls d pn hx hz hd).run pins s σ H D I q⟩)) fun D s H ⟨as, r, h, f, x, o⟩ => ?_
  refine ⟨as, r, h, f, x, ?_⟩
  unfold sTryAs at o
  cases q : B r h with
  | nx r1 h1 => rw [q] at o; exact o
  | rt r1 h1 => rw [q] at o; exact o
  | bk r1 h1 => rw [q] at o; exact o
  | ct r1 h1 => rw [q] at o; exact o
  | bad => rw [q] at o; exact o
  | ex x1 r1 h1 =>
    rw [q] at o
    simp only at o
    split at o
    · rename_i hc
      obtain ⟨hc1, hc2⟩ := Bool.and_eq_true_iff.mp hc
      obtain ⟨hc2, hc3⟩ := Bool.and_eq_true_iff.mp hc2
      have hc3 := of_decide_eq_true hc3
      intro cls d s' H' as' S' x' f' rx
      have rx' := rx
      obtain ⟨D1, gD, rfl, fs⟩ := rx
      refine ⟨_, E.two x1.cls c D1 C hc1 hc2 gD gC, fun hb => fun a na => ?_, fun hb => ?_⟩
      · rw [if_pos hb] at o
        refine ⟨x1, hc1, as', r1.set i none, h1, f'.unsetO, x', ⟨?_, rx'⟩, unI_out (o.shift S')⟩
        have hl : i < s'.length := by rw [← f'.len]; exact hc3
        rw [List.getElem?_set_self hl]
      · rw [if_neg (by rw [hb]; simp)] at o
        exact o (.ref D1) d s' H' as' S' x' f' rx'
    · exact o.elim
end
end WR

/-! isinstance of a caught exception, its fields; dicts with texts as keys; o[i], x = a, b -/
namespace WR
open PySem PySem.Spec PyProof.Rows L2
/-! ### what the top says of the exceptions' classes -/
structure ExIs (K : PySem.W.Frag) (mg : Str → Option Value) (cs : List Str) : Prop where
  one : ∀ x C, cs.contains x = true → mg x = some (.ref C) → ExcC K C
  two : ∀ x y C D, cs.contains x = true → cs.contains y = true → mg x = some (.ref C) → mg y = some (.ref D) → PySem.W.kitOne K (.ref C) (.ref D) = some (exSub x y)
def bExi (K : PySem.W.Frag) (C : Addr) : Bool := He.eqO (PySem.W.findIn K (.ref C) "__getattribute__") (some (some (.builtin "BaseException.__getattribute__"))) && (He.eqO (PySem.W.findIn K (.ref C) "__getattr__") (some none) && (decide (PySem.W.subIn K (.ref C) (.type "BaseException") = some true) && (PySem.W.hasDictIn K C &&
  (He.eqO (PySem.W.findIn K (.ref C) "__class__") (some (some (.builtin "object.__class__"))) && (He.eqO (PySem.W.specialIn K (.builtin "object.__class__") "__get__") (some (some (.builtin "getset_descriptor.__get__"))) && (decide (PySem.W.takesIn K (.builtin "object.__class__") = some true) && decide (PySem.W.mroIn K C (.type "object") = some true)))))))
theorem bExi_ok {K : PySem.W.Frag} {C : Addr} (e : bExi K C = true) : ExcC K C := by
  obtain ⟨e1, e⟩ := He.ba e
  obtain ⟨e2, e⟩ := He.ba e
  obtain ⟨e3, e⟩ := He.ba e
  obtain ⟨e4, e⟩ := He.ba e
  obtain ⟨e5, e⟩ := He.ba e
  obtain ⟨e6, e⟩ := He.ba e
  obtain ⟨e7, e8⟩ := He.ba e
  exact ⟨He.eqO_ok e1, He.eqO_ok e2, of_decide_eq_true e3, e4, He.eqO_ok e5, He.eqO_ok e6, of_decide_eq_true e7, of_decide_eq_true e8⟩
def bExis (cs : List Str) : FrB := fun K => cs.all fun x => bGlo x K && (bExi K (He.ga K x) && cs.all fun y => decide (PySem.W.kitOne K (.ref (He.ga K x)) (.ref (He.ga K y)) = some (exSub x y)))
theorem bExis_ok {K : PySem.W.Frag} {mg : Str → Option Value} {h : Heap} {cs : List Str} (X : K.In h) (G : h.Ns mainGlobals mg) (e : bExis cs K = true) : ExIs K mg cs := by
  have e' := List.all_eq_true.mp e
  have gl : ∀ x C, cs.contains x = true → mg x = some (.ref C) → C = He.ga K x := fun x C hx g => by
    obtain ⟨a, _⟩ := He.ba (e' x (mem_of_contains hx))
    rw [He.glo_ok X G a] at g
    cases g
    rfl
  refine ⟨fun x C hx g => ?_, fun x y C D hx hy gx gy => ?_⟩
  · obtain ⟨_, b⟩ := He.ba (e' x (mem_of_contains hx))
    obtain ⟨b, _⟩ := He.ba b
    rw [gl x C hx g]
    exact bExi_ok b
  · obtain ⟨_, b⟩ := He.ba (e' x (mem_of_contains hx))
    obtain ⟨_, b⟩ := He.ba b
    rw [gl x C hx gx, gl y D hy gy]
    exact of_decide_eq_true (List.all_eq_true.mp b y (mem_of_contains hy))
/-- isinstance(e, c) of a caught exception -/
@[simp] def eIsE (cs : List Str) (x : XV) (c : Str) : EX := fun _ h => if cs.contains c then .ok (.bl (exSub x.cls c)) h else .bad
/-- an exception that has fields -/
def rIsF (K : PySem.W.Frag) (D a dd : Addr) : List V → Hp → VK → Prop := fun xs H Q => ∃ (c : V) (cv : Value) (b : Bool) (gs : List (Str × V)), xs = [.ref a, c] ∧ (∀ u, RelV c u → u = cv) ∧ PySem.W.kitOne K (.ref D) cv = some b ∧ H dd = some (.xd gs) ∧ Q (.bl b) H
theorem call_isF {X : Cx} {a D dd : Addr} {oe : Obj} {pn : List (Addr × Obj)} (C : ExcC X.K D) (hz : Zc (.ref D) (some dd) oe) (hf : ∃ vs, oe.data = .fields vs) : CallR (X.suite a ((a, oe) :: pn)) (.builtin "isinstance") (rIsF X.K D a dd) := by
  intro pins s σ H xs us Q I r h
  obtain ⟨c, cv, b, gs, rfl, hcv, e, ea, q⟩ := h
  obtain ⟨hget, _⟩ := I.pin (a, oe) (List.mem_append_left _ List.mem_cons_self)
  obtain ⟨vs, hv⟩ := hf
  have hx : ObjOk X.prog X.w H s.heap dd (.xd gs) := I.hok dd _ ea
  obtain ⟨mA, hns, hr⟩ := hx
  obtain ⟨od, ho, hl⟩ := lookIn_ns hns
  have J : PySem.W.InstAt s.heap a oe D (some od) := ⟨hget, hz.1, by unfold PySem.W.notCls; rw [hv] <;> rfl, by rw [hz.2]; exact ho⟩
  have hcl : (PySem.W.clsIn X.K D).isSome = true := by
    obtain ⟨cd, hc, _⟩ := PySem.W.any_some C.hd
    rw [hc]; rfl
  cases r with
  | cons rx rr =>
    cases rr with
    | cons rt rr =>
      cases rr
      cases rx
      have ec := hcv _ rt
      subst ec
      exact PySem.W.kia_one (PySem.W.kitx_exc hcl C.hg C.hk C.hs C.ha C.hn C.ht C.hm) I.kIn J e (fun z => nomatch z) fun tk => ⟨.bl b, H, I.kept (t' := tk) fun _ _ z => z, rfl, q⟩
section
variable {X : Cx} {W : WX} {n c : Str} {C : Addr} {pos q q' q'' : Pos} {a : Addr} {oe : Obj} {pn : List (Addr × Obj)} {cs : List Str} {i : Nat} {x : XV} {cls : Value} {d : Option Addr}
theorem fe_isE (E : ExIs X.K X.mg cs) (gC : X.mg c = some (.ref C)) (hx : cs.contains x.cls = true) (hz : Zc cls d oe) (hd : ∃ vs, oe.data = .fields vs) (hm : X.mg "isinstance" = none) (hN : X.N[i]? = some n := by rfl) (hv : Vis X.env.scope n := by first | exact Or.inl rfl | exact Or.inr (Or.inl rfl) | exact Or.inr (Or.inr rfl)) (hdn : (n == ("__debug__" : Str)) = false := by decide) (hcd : (n == ("__classdict__" : Str)) = false := by decide)
    (hg : Gl X "isinstance" := by rfl) (hgc : Gl X c := by rfl) (hdc : (c == ("__debug__" : Str)) = false := by decide) :
    PE (X.suite a ((a, oe) :: pn)) (.Call (.Name "isinstance" q) [.Name n q', .Name c q''] [] pos) (IEf (XF X.K X.mg i a x cls d) X.K X.mg W (eIsE cs x c)) := by
  refine ⟨fun pins s σ H Q I h => ?_⟩
  obtain ⟨as, r, h, f, rh, ⟨hs, rx⟩, o⟩ := h
  unfold eIsE at o
  split at o
  · rename_i h1
    obtain ⟨D, gD, rfl, fs⟩ := rx
    rcases fs with ⟨_, e⟩ | ⟨dd, gs, e0, e1, e2, e3, e4, e5⟩
    · subst e
      have base : PE (X.suite a ((a, oe) :: pn)) (.Call (.Name "isinstance" q) [.Name n q', .Name c q''] [] pos) (tCB (rIsE X.K D a) (tCons (tVar i) (tCons (tC (.ref C)) tNil))) :=
        pe_callB (call_isE (E.one _ _ hx gD) hz hd) hg hm rfl (pa_cons (pe_var hN hv hdn hcd) (pa_cons (pe_glob (v := .ref C) hgc gC rfl hdc) pa_nil (by rfl)) (by rfl))
      exact base.run pins s σ H Q I ⟨_, hs, .ref C, .ref C, exSub x.cls c, rfl, fun u hu => hu, E.two _ _ _ _ hx h1 gD gC, o.here rh (.bl _)⟩
    · subst e1
      have base : PE (X.suite a ((a, oe) :: pn)) (.Call (.Name "isinstance" q) [.Name n q', .Name c q''] [] pos) (tCB (rIsF X.K D a dd) (tCons (tVar i) (tCons (tC (.ref C)) tNil))) :=
        pe_callB (call_isF (E.one _ _ hx gD) hz hd) hg hm rfl (pa_cons (pe_var hN hv hdn hcd) (pa_cons (pe_glob (v := .ref C) hgc gC rfl hdc) pa_nil (by rfl)) (by rfl))
      exact base.run pins s σ H Q I ⟨_, hs, .ref C, .ref C, exSub x.cls c, gs, rfl, fun u hu => hu, E.two _ _ _ _ hx h1 gD gC, e2, o.here rh (.bl _)⟩
  · exact o.elim
/-- e.f -/
@[simp] def eXf (cs fl : List Str) (x : XV) (f : Str) : EX := fun _ h => if fl.contains f && cs.contains x.cls then opt (x.fs.lookup f) h else .bad
theorem look_of {K : PySem.W.Frag} {mg : Str → Option Value} {as : List Addr} {H : Hp} {f : Str} : ∀ {fs : List (Str × PV)} {gs : List (Str × V)}, gs.map (·.1) = fs.map (·.1) → RPs K mg H as (fs.map (·.2)) (gs.map (·.2)) → ∀ {p : PV}, fs.lookup f = some p → ∃ v, gs.lookup f = some v ∧ RP K mg H as p v
  | [], _, _, _, p, e => by cases e
  | q :: fs, [], e, _, _, _ => by cases e
  | (y, v) :: fs, (y', v') :: gs, e, r, p, l => by
    simp only [List.map_cons, List.cons.injEq] at e
    obtain ⟨e1, e2⟩ := e
    subst e1
    cases r with
    | cons r1 r2 =>
      rw [List.lookup_cons] at l ⊢
      split at l
      · cases l; exact ⟨_, rfl, r1⟩
      · exact look_of e2 r2 l
theorem fe_xf {f : Str} {fl : List Str} (E : ExIs X.K X.mg cs) (hn : ∀ C, X.mg x.cls = some (.ref C) → cs.contains x.cls = true → fl.contains f = true → PySem.W.findIn X.K (.ref C) f = some none) (hz : Zc cls d oe) (hd : ∃ vs, oe.data = .fields vs)
    (hN : X.N[i]? = some n := by rfl) (hv : Vis X.env.scope n := by first | exact Or.inl rfl | exact Or.inr (Or.inl rfl) | exact Or.inr (Or.inr rfl)) (hdn : (n == ("__debug__" : Str)) = false := by decide) (hcd : (n == ("__classdict__" : Str)) = false := by decide)
    (hb : attributeBase (.Name n q) f X.env (eval (.Name n q) X.env) = eval (.Name n q) X.env := by rfl) :
    PE (X.suite a ((a, oe) :: pn)) (.Attribute (.Name n q) f pos) (IEf (XF X.K X.mg i a x cls d) X.K X.mg W (eXf cs fl x f)) := by
  refine ⟨fun pins s σ H Q I h => ?_⟩
  obtain ⟨as, r, h, g, rh, ⟨hs, rx⟩, o⟩ := h
  unfold eXf at o
  split at o
  · rename_i hc
    obtain ⟨h0, h1⟩ := Bool.and_eq_true_iff.mp hc
    obtain ⟨D, gD, rfl, fs⟩ := rx
    cases hl : x.fs.lookup f with
    | none => rw [hl] at o; exact o.elim
    | some p =>
      rw [hl] at o
      rcases fs with ⟨e, _⟩ | ⟨dd, gs, e0, e1, e2, e3, e4, e5⟩
      · rw [e] at hl; cases hl
      · obtain ⟨v, l1, l2⟩ := look_of e4 e5 hl
        have ec := E.one _ _ h1 gD
        have base := pe_xf (X := X) (a := a) (pn := pn) (pos := pos) (n := f) ⟨ec.hg, ec.hk, ec.hs, ec.hd⟩ (hn D gD h1 h0) hz hd (pe_var (X := X.suite a ((a, oe) :: pn)) (i := i) (x := n) (pos := q) hN hv hdn hcd) hb
        exact base.run pins s σ H Q I ⟨_, hs, rfl, rfl, dd, gs, v, e1, e2, l1, o.here rh l2⟩
  · exact o.elim
end
/-! ### dicts with texts as keys -/
def sGet (kvs : List (Str × PV)) (k : Str) : Option PV := (kvs.find? fun q => decide (q.1 = k)).map (·.2)
def sPut (kvs : List (Str × PV)) (k : Str) (v : PV) : List (Str × PV) :=
  if (kvs.any fun q => decide (q.1 = k)) = true then kvs.map (fun q => if q.1 = k then (q.1, v) else q) else kvs ++ [(k, v)]
@[simp] def pSGet (x y : PV) (h : IH) : Res PV := match x, y with
  | .obj n, .str k => (match h[n]? with
    | some (.dks kvs) => opt (sGet kvs k) h
    | _ => .bad)
  | _, _ => .bad
@[simp] def pSIn (y x : PV) (h : IH) : Res PV := match x, y with
  | .obj n, .str k => (match h[n]? with
    | some (.dks kvs) => .ok (.bl (sGet kvs k).isSome) h
    | _ => .bad)
  | _, _ => .bad
@[simp] def sSPutX (D Kx V : EX) : SX := fun r h => toS (V r h) r fun v h1 => toS (D r h1) r fun d h2 => toS (Kx r h2) r fun kk h3 => match d, kk with
  | .obj n, .str k => (match h3[n]? with
    | some (.dks kvs) => if kvs.length < 16777216 then .nx r (h3.set n (.dks (sPut kvs k v))) else .bad
    | _ => .bad)
  | _, _ => .bad
@[simp] def eVals : List (Str × EX) → AX
  | [] => aNil
  | q :: L => aCons q.2 (eVals L)
@[simp] def eDisp (L : List (Str × EX)) : EX := fun r h => (eVals L r (h ++ [.dks []])).bind fun vs h1 => match h1[h.length]? with
  | some (.dks []) => .ok (.obj h.length) (h1.set h.length (.dks (((L.map (·.1)).zip vs).foldl (fun acc kv => sPut acc kv.1 kv.2) [])))
  | _ => .bad
section
variable {K : PySem.W.Frag} {mg : Str → Option Value} {as : List Addr} {H : Hp}
theorem inr_inj {a b : Str} : (Sum.inr a : Key) = Sum.inr b ↔ a = b := ⟨fun h => Sum.inr.inj h, fun h => by rw [h]⟩
theorem sGet_of (k : Str) : ∀ {kvs : List (Str × PV)} {gs : List (Key × V)}, gs.map (·.1) = kvs.map (fun q => (Sum.inr q.1 : Key)) → RPs K mg H as (kvs.map (·.2)) (gs.map (·.2)) →
    (∃ p v, sGet kvs k = some p ∧ valV gs (Sum.inr k) = some v ∧ RP K mg H as p v) ∨ (sGet kvs k = none ∧ valV gs (Sum.inr k) = none)
  | [], [], _, _ => .inr ⟨rfl, rfl⟩
  | [], g :: gs, e, _ => by cases e
  | q :: kvs, [], e, _ => by cases e
  | q :: kvs, g :: gs, e, r => by
    simp only [List.map_cons, List.cons.injEq] at e
    cases r with
    | cons r1 r2 =>
      by_cases hk : q.1 = k
      · refine .inl ⟨q.2, g.2, by simp [sGet, List.find?_cons, hk], valV_pos (by rw [e.1, hk]), r1⟩
      · have hk' : ¬ g.1 = Sum.inr k := by rw [e.1]; exact fun z => hk (inr_inj.mp z)
        have e2 : sGet (q :: kvs) k = sGet kvs k := by simp [sGet, List.find?_cons, hk]
        rw [e2, valV_neg hk']
        exact sGet_of k e.2 r2
theorem anyS_of (k : Str) {kvs : List (Str × PV)} {gs : List (Key × V)} (e : gs.map (·.1) = kvs.map (fun q => (Sum.inr q.1 : Key))) :
    (gs.any fun kv => decide (kv.1 = Sum.inr k)) = (kvs.any fun q => decide (q.1 = k)) := by
  induction kvs generalizing gs with
  | nil => cases gs with
    | nil => rfl
    | cons _ _ => cases e
  | cons q kvs ih => cases gs with
    | nil => cases e
    | cons g gs =>
      simp only [List.map_cons, List.cons.injEq] at e
      rw [List.any_cons, List.any_cons, ih e.2, e.1]
      congr 1
      rw [decide_eq_decide]
      exact inr_inj
theorem sPut_of (k : Str) {v : PV} {u : V} (rv : RP K mg H as v u) {kvs : List (Str × PV)} {gs : List (Key × V)} (e : gs.map (·.1) = kvs.map (fun q => (Sum.inr q.1 : Key))) (r : RPs K mg H as (kvs.map (·.2)) (gs.map (·.2))) :
    (putK gs (Sum.inr k) u).map (·.1) = (sPut kvs k v).map (fun q => (Sum.inr q.1 : Key)) ∧ RPs K mg H as ((sPut kvs k v).map (·.2)) ((putK gs (Sum.inr k) u).map (·.2)) := by
  unfold putK sPut
  rw [anyS_of k e]
  split
  · rename_i hc
    clear hc
    induction kvs generalizing gs with
    | nil => cases gs with
      | nil => exact ⟨rfl, .nil⟩
      | cons _ _ => cases e
    | cons q kvs ih => cases gs with
      | nil => cases e
      | cons g gs =>
        simp only [List.map_cons, List.cons.injEq] at e
        cases r with
        | cons r1 r2 =>
          obtain ⟨i1, i2⟩ := ih e.2 r2
          by_cases hk : q.1 = k
          · have hg : g.1 = Sum.inr k := by rw [e.1, hk]
            simp only [List.map_cons, if_pos hk, if_pos hg]
            exact ⟨by rw [i1, hg, hk], .cons rv i2⟩
          · have hg : ¬ g.1 = Sum.inr k := by rw [e.1]; exact fun z => hk (inr_inj.mp z)
            simp only [List.map_cons, if_neg hk, if_neg hg]
            exact ⟨by rw [i1, e.1], .cons r1 i2⟩
  · simp only [List.map_append, List.map_cons, List.map_nil]
    exact ⟨by rw [e], r.append (.one rv)⟩
theorem merge_of : ∀ {ks : List Str} {ps : List PV} {vs : List V} {kvs : List (Str × PV)} {gs : List (Key × V)}, RPs K mg H as ps vs → gs.map (·.1) = kvs.map (fun q => (Sum.inr q.1 : Key)) → RPs K mg H as (kvs.map (·.2)) (gs.map (·.2)) →
    (((ks.map (Sum.inr : Str → Key)).zip vs).foldl (fun acc kv => putK acc kv.1 kv.2) gs).map (·.1) = ((ks.zip ps).foldl (fun acc kv => sPut acc kv.1 kv.2) kvs).map (fun q => (Sum.inr q.1 : Key)) ∧
    RPs K mg H as (((ks.zip ps).foldl (fun acc kv => sPut acc kv.1 kv.2) kvs).map (·.2)) ((((ks.map (Sum.inr : Str → Key)).zip vs).foldl (fun acc kv => putK acc kv.1 kv.2) gs).map (·.2))
  | [], _, _, _, _, _, e, r => by simpa using ⟨e, r⟩
  | k :: ks, _, _, _, _, .nil, e, r => by simpa using ⟨e, r⟩
  | k :: ks, _, _, _, _, .cons r1 r2, e, r => by
    obtain ⟨q1, q2⟩ := sPut_of k r1 e r
    exact merge_of (ks := ks) r2 q1 q2
theorem sget_rel {h : IH} {n : Nat} {k : Str} {kvs : List (Str × PV)} {U V : V} (rh : RH K mg H as h) (rx : RP K mg H as (.obj n) U) (ry : RP K mg H as (.str k) V) (e : h[n]? = some (.dks kvs)) :
    ∃ a ov, U = .ref a ∧ DGet H a V ov ∧ ((∃ p v, sGet kvs k = some p ∧ ov = some v ∧ RP K mg H as p v) ∨ (sGet kvs k = none ∧ ov = none)) := by
  cases rx with
  | obj ha => cases ry with
    | str _ =>
      obtain ⟨a, g1, gs, g2, ek, rs⟩ := rh.at_ _ _ e
      rw [ha] at g1; cases g1
      refine ⟨_, _, rfl, DGet.k g2 (k := Sum.inr k), ?_⟩
      rcases sGet_of k ek rs with ⟨p, v, h1, h2, h3⟩ | ⟨h1, h2⟩
      · exact .inl ⟨p, v, h1, h2, h3⟩
      · exact .inr ⟨h1, h2⟩
end
section
variable {X : Cx} {W : WX} {k : Nat} {a b e o i : Expr} {es : List Expr} {pos p apos : Pos} {A B C : EX} {L : AX}
theorem ie_sget (cx : Ctx X W k) (ha : PE X a (IE X.K X.mg W A)) (hb : PE X b (IE X.K X.mg W B)) (hs : NoSl b := by intro _ _; rfl) : PE X (.Subscript a b pos) (IE X.K X.mg W (eOp pSGet A B)) := by
  refine peImp (pe_dget (hu_of cx.room) ha hb hs) fun s H Q ⟨as, ρ, hh, f, x, o⟩ => ?_
  refine ⟨as, ρ, hh, f, x, (Out.bind o).imp fun V H1 ⟨as1, h1, p1, S1, x1, r1, o1⟩ => ?_⟩
  refine ⟨as1, ρ, h1, f.mono S1, x1, (Out.bind o1).imp fun V2 H2 ⟨as2, h2, p2, S2, x2, r2, o2⟩ => ?_⟩
  unfold pSGet at o2
  split at o2
  · split at o2
    · rename_i kvs hk
      obtain ⟨a, ov, rfl, g, z⟩ := sget_rel x2 (r1.mono S2) r2 hk
      rcases z with ⟨p, v, h1, rfl, h3⟩ | ⟨h1, h2⟩
      · rw [h1] at o2
        exact ⟨_, _, rfl, g, o2.here x2 h3⟩
      · rw [h1] at o2; exact o2.elim
    · exact o2.elim
  · exact o2.elim
theorem snd_sin {K : PySem.W.Frag} {mg : Str → Option Value} : Snd K mg pSIn (fun y x H Q => ∃ a o, x = .ref a ∧ DGet H a y o ∧ Q (.bl o.isSome) H) := by
  intro W s as H h x y U V Q rh rx ry o
  unfold pSIn at o
  split at o
  · split at o
    · rename_i kvs hk
      obtain ⟨a, ov, rfl, g, z⟩ := sget_rel rh ry rx hk
      refine ⟨_, _, rfl, g, ?_⟩
      rcases z with ⟨p, v, h1, rfl, h3⟩ | ⟨h1, rfl⟩
      · rw [h1] at o; exact o.here rh (.bl _)
      · rw [h1] at o; exact o.here rh (.bl _)
    · exact o.elim
  · exact o.elim
theorem ie_sin (cx : Ctx X W k) (ha : PE X a (IE X.K X.mg W A)) (hb : PE X b (IE X.K X.mg W B)) (hm : behindInMarks .In b = false := by rfl) : PE X (.Compare a [.In] [b] pos) (IE X.K X.mg W (eOp pSIn A B)) := ie_cmp (op_din (hu_of cx.room)) snd_sin ha hb hm
theorem it_sin (cx : Ctx X W k) (ha : PE X a (IE X.K X.mg W A)) (hb : PE X b (IE X.K X.mg W B)) (hm : behindInMarks .In b = false := by rfl) : PT X (.Compare a [.In] [b] pos) (IT X.K X.mg W (tBl (eOp pSIn A B))) := it_cmp (op_din (hu_of cx.room)) snd_sin ha hb hm
theorem is_sput {value : Expr} {pos' : Pos} (cx : Ctx X W k) (hv : PE X value (IE X.K X.mg W C)) (ho : PE X o (IE X.K X.mg W A)) (hi : PE X i (IE X.K X.mg W B)) (hs : swapsWith value (some (.Subscript o i pos')) pos.line X.env = pure false := by rfl) :
    PS X (.Assign [.Subscript o i pos'] value pos) (IS X.K X.mg W (sSPutX A B C)) := by
  refine psImp (ps_dput (hu_of cx.room) ho hi hv hs) fun D s H ⟨as, r, h, f, x, o⟩ => ?_
  refine ⟨as, r, h, f, x, (outS_of f o).imp fun V H1 ⟨as1, h1, p1, S1, x1, r1, o1⟩ => ?_⟩
  refine ⟨as1, r, h1, f.mono S1, x1, (outS_of (f.mono S1) o1).imp fun V2 H2 ⟨as2, h2, p2, S2, x2, r2, o2⟩ => ?_⟩
  refine ⟨as2, r, h2, (f.mono S1).mono S2, x2, (outS_of ((f.mono S1).mono S2) o2).imp fun V3 H3 ⟨as3, h3, p3, S3, x3, r3, o3⟩ => ?_⟩
  split at o3
  · rename_i n kk _
    split at o3
    · rename_i kvs hk
      split at o3
      · rename_i hl
        have r2' := r2.mono S3
        have r1' := (r1.mono S2).mono S3
        cases r2' with
        | obj ha => cases r3 with
          | str _ =>
            obtain ⟨a, g1, gs, g2, ek, rs⟩ := x3.at_ _ _ hk
            rw [ha] at g1; cases g1
            have hlen : gs.length = kvs.length := by have := congrArg List.length ek; simpa using this
            refine ⟨_, _, rfl, DPut.k g2 (k := Sum.inr kk) (by rw [sizeLine_eq, hlen]; exact hl), ?_⟩
            have S4 := Stp.put (o := .dK (putK gs (Sum.inr kk) V)) x3 ha hk
            obtain ⟨q1, q2⟩ := sPut_of kk r1' ek rs
            exact o3 _ _ as3 S4 (x3.put (m := .dks (sPut kvs kk p1)) ha hk ⟨_, upd_same, q1, q2.mono S4⟩) ((((f.mono S1).mono S2).mono S3).mono S4)
      · exact o3.elim
    · exact o3.elim
  · exact o3.elim
theorem pairs_of : ∀ (L : List (Str × EX)) {s : L2.St} {H : Hp} {as : List Addr} {r : Fm} {h : IH} {Q : List (V × V) → Hp → Prop}, RF X.K X.mg H as r s → RH X.K X.mg H as h →
    Out X.K X.mg (fun H as p v => RPs X.K X.mg H as p v) W s as H (fun Vs H2 => Q ((L.map fun q => V.str q.1).zip Vs) H2) (eVals L r h) → tPairs (L.map fun q => (tC (.str q.1), IE X.K X.mg W q.2)) s H Q
  | [], s, H, as, r, h, Q, f, x, o => o.here x RPs.nil
  | q :: L, s, H, as, r, h, Q, f, x, o => by
    refine ⟨as, r, h, f, x, (Out.bind o).imp fun V H1 ⟨as1, h1, p, S1, x1, r1, o1⟩ => ?_⟩
    refine pairs_of L (f.mono S1) x1 ((Out.bind o1).imp fun Vs H2 ⟨as2, h2, ps, S2, x2, r2, o2⟩ => ?_)
    exact o2.here x2 (RPs.cons (r1.mono S2) r2)
theorem ie_disp (L : List (Str × EX)) {keys : List (Option Expr)} {values : List Expr} (hp : PPs X pos keys values (L.map fun q => (tC (.str q.1), IE X.K X.mg W q.2))) (hl : keys.length = L.length := by rfl) (h15 : L.length ≤ 15 := by decide)
    (hall : keys.all (·.isSome) = true := by rfl) (hv : keys.length = values.length := by rfl) (h0 : keys ≠ [] := by intro h; cases h) : PE X (.Dict keys values pos) (IE X.K X.mg W (eDisp L)) := by
  refine peImp (pe_disp hp hall hv h0 (by rw [hl]; exact h15)) fun s H Q ⟨as, ρ, hh, f, x, o⟩ => ?_
  intro p np
  have S := Stp.new (o := .dK []) x np
  have x1 := x.new (m := .dks []) np ⟨[], upd_same, rfl, .nil⟩
  refine pairs_of L (f.mono S) x1 ((Out.bind (Out.shift S o)).imp fun Vs H2 ⟨as2, h2, ps, S2, x2, r2, o2⟩ => ?_)
  have ap : (as ++ [p])[hh.length]? = some p := by rw [List.getElem?_append_right (by rw [x.len]; exact Nat.le_refl _), x.len, Nat.sub_self]; rfl
  have ap2 := S2.get ap
  split at o2
  · rename_i hk
    obtain ⟨a, g1, gs, g2, ek, rs⟩ := x2.at_ _ _ hk
    rw [ap2] at g1; cases g1
    have eg : gs = [] := by cases gs with
      | nil => rfl
      | cons _ _ => cases ek
    subst eg
    refine ⟨g2, ((L.map fun q => (Sum.inr q.1 : Key)).zip Vs), ?_, ?_, ?_⟩
    · rw [List.map_zip_eq_zipWith, List.zip_eq_zipWith, List.zipWith_map_left, List.zipWith_map_left]
      rfl
    · rw [List.length_zip, List.length_map]; omega
    · obtain ⟨q1, q2⟩ := merge_of (ks := L.map (·.1)) (kvs := []) (gs := []) r2 rfl .nil
      rw [List.map_map] at q1 q2
      have S3 := Stp.put (o := .dK (mergeK [] ((L.map fun q => (Sum.inr q.1 : Key)).zip Vs))) x2 ap2 hk
      exact o2 _ _ as2 S3 (x2.put ap2 hk ⟨_, upd_same, q1, q2.mono S3⟩) (.obj ap2)
  · exact o2.elim
/-! ### o[i], x = a, b -/
@[simp] def sIxVar (O I : EX) (j : Nat) (L : AX) : SX := fun r h => toS (L r h) r fun vs h1 => match vs with
  | [v, w] => toS (O r h1) r fun o h2 => toS (I r h2) r fun i h3 => (match o, i with
    | .obj n, .int k => (match h3[n]? with
      | some (.lst xs) => (match ixN xs.length k with
        | some m => .nx (r.set j (some w)) (h3.set n (.lst (xs.set m v)))
        | none => .bad)
      | _ => .bad)
    | _, _ => .bad)
  | _ => .bad
theorem is_ixvar {x : Str} {px ppos pt : Pos} {kt k2 pt2} {O I : EX} {j : Nat} (cx : Ctx X W k) (ha : PA X [a, b] (IA X.K X.mg W L)) (ho : PE X o (IE X.K X.mg W O)) (hi : PE X i (IE X.K X.mg W I))
    (hset : ∀ v, assign (.Subscript o i ppos) X.env v = (do
      let ov ← holding [v] (eval o X.env)
      let iv ← holding [v, ov] (eval i X.env)
      standAt ppos
      holding [v, ov, iv] (setItem ov iv v)
      release [v, ov, iv] []) := by intro _; rfl)
    (hj : X.N[j]? = some x := by rfl) (hx : Loc X.env.scope x := by first | exact Or.inl rfl | exact Or.inr rfl) (hf : X.fn x = true ∨ X.env.scope.names.lookup x = some .local := by first | exact .inl rfl | exact .inr rfl | assumption)
    (h2 : (assignEach [.Subscript o i ppos, .Name x px] X.env).map (·.2) = assign (.Subscript o i ppos) X.env :: (assignEach [.Name x px] X.env).map (·.2) := by rfl) (h3 : (assignEach [.Name x px] X.env).map (·.2) = assign (.Name x px) X.env :: (assignEach [] X.env).map (·.2) := by rfl)
    (hn : (assignEach [.Subscript o i ppos, .Name x px] X.env).length = 2 := by rfl) (hst : (assignEach [.Subscript o i ppos, .Name x px] X.env).findIdx? (·.1) = none := by rfl)
    (hs : swapsWithSole [.Tuple [.Subscript o i ppos, .Name x px] kt pt] (.Tuple [a, b] k2 pt2) pos.line X.env = pure false := by rfl) (hw : swappedStores [.Tuple [.Subscript o i ppos, .Name x px] kt pt] (.Tuple [a, b] k2 pt2) X.env = pure none := by rfl)
    (h1 : (assignEach [.Tuple [.Subscript o i ppos, .Name x px] kt pt] X.env).map (·.2) = [assign (.Tuple [.Subscript o i ppos, .Name x px] kt pt) X.env] := by rfl) :
    PS X (.Assign [.Tuple [.Subscript o i ppos, .Name x px] kt pt] (.Tuple [a, b] k2 pt2) pos) (IS X.K X.mg W (sIxVar O I j L)) := by
  refine psImp (ps_asg (pe_tup ha) (pg_tup cx.calm (pgs_cons (pg_sub ho hi set_list hset) (pgs_cons (pg_name cx.nd hj hx hf) pgs_nil h3) h2) hn hst) hs hw h1) fun D s H ⟨as, r, h, f, x, o⟩ => ?_
  refine ⟨as, r, h, f, x, (outS_of f o).imp fun Vs H1 ⟨as1, h1, ps, S1, x1, r1, o1⟩ => ?_⟩
  split at o1
  · obtain ⟨v, w, rfl, rv, rw'⟩ := r1.inv2
    refine ⟨by rw [sizeLine_eq]; show 2 ≤ 16777216; omega, fun p np => ?_⟩
    have S2 := Stp.lay (o := .tup [v, w]) x1 np
    have x2 := x1.lay (o := .tup [v, w]) np
    refine ⟨p, _, rfl, SqT.of upd_same, rfl, _, _, rfl, as1, r, h1, (f.mono S1).mono S2, x2, (outS_of ((f.mono S1).mono S2) (OutS.shift S2 o1)).imp fun V3 H3 ⟨as3, h3, p3, S3, x3, r3, o3⟩ => ?_⟩
    refine ⟨as3, r, h3, ((f.mono S1).mono S2).mono S3, x3, (outS_of (((f.mono S1).mono S2).mono S3) o3).imp fun V4 H4 ⟨as4, h4, p4, S4, x4, r4, o4⟩ => ?_⟩
    split at o4
    · split at o4
      · rename_i xs hx
        split at o4
        · rename_i m hm
          have r3' := r3.mono S4
          cases r3' with
          | obj ha => cases r4 with
            | int kk =>
              obtain ⟨a, g1, ys, g2, rs⟩ := x4.at_ _ _ hx
              rw [ha] at g1; cases g1
              have S5 := Stp.put (o := .lst (ys.set m v)) x4 ha hx
              have q := (((rv.mono S2).mono S3).mono S4).mono S5
              have q' := (((rw'.mono S2).mono S3).mono S4).mono S5
              refine ⟨_, ys, _, m, rfl, rfl, g2, by rw [← rs.length]; exact hm, _, _, rfl, rfl, ?_⟩
              exact o4 _ _ as4 S5 (x4.put (m := .lst (xs.set m _)) ha hx ⟨_, upd_same, RPs.set q m (rs.mono S5)⟩) ((((((f.mono S1).mono S2).mono S3).mono S4).mono S5).set q')
        · exact o4.elim
      · exact o4.elim
    · exact o4.elim
  · exact o1.elim
theorem fe_add {φ : Fac} (m : Mon φ) (ha : PE X a (IEf φ X.K X.mg W A)) (hb : PE X b (IEf φ X.K X.mg W B)) : PE X (.BinOp a .Add b pos) (IEf φ X.K X.mg W (eOp pAdd A B)) := fe_op m (op_add.or (op_add_str.or (op_catA.or op_cat))) snd_add ha hb
theorem fe_eq {φ : Fac} (m : Mon φ) (hu : X.A.units + 64 < cLine) (ha : PE X a (IEf φ X.K X.mg W A)) (hb : PE X b (IEf φ X.K X.mg W B)) : PE X (.Compare a [.Eq] [b] pos) (IEf φ X.K X.mg W (eOp pEq A B)) := fe_cmp m (op_eqD hu) snd_eq ha hb (nomark _)
theorem ft_eq {φ : Fac} (m : Mon φ) (hu : X.A.units + 64 < cLine) (ha : PE X a (IEf φ X.K X.mg W A)) (hb : PE X b (IEf φ X.K X.mg W B)) : PT X (.Compare a [.Eq] [b] pos) (ITf φ X.K X.mg W (tBl (eOp pEq A B))) := ft_cmp m (op_eqD hu) snd_eq ha hb (nomark _)
theorem ft_ne {φ : Fac} (m : Mon φ) (hu : X.A.units + 64 < cLine) (ha : PE X a (IEf φ X.K X.mg W A)) (hb : PE X b (IEf φ X.K X.mg W B)) : PT X (.Compare a [.NotEq] [b] pos) (ITf φ X.K X.mg W (tBl (eOp pNe A B))) := ft_cmp m (op_neD hu) snd_ne ha hb (nomark _)
end
/-- the names of the exceptions' fields -/
def ExFl (K : PySem.W.Frag) (mg : Str → Option Value) (cs fl : List Str) : Prop := ∀ x f C, mg x = some (.ref C) → cs.contains x = true → fl.contains f = true → PySem.W.findIn K (.ref C) f = some none
def bXfl (cs fl : List Str) : FrB := fun K => cs.all fun x => bGlo x K && fl.all fun f => He.eqO (PySem.W.findIn K (.ref (He.ga K x)) f) (some none)
theorem bXfl_ok {K : PySem.W.Frag} {mg : Str → Option Value} {h : Heap} {cs fl : List Str} (X : K.In h) (G : h.Ns mainGlobals mg) (e : bXfl cs fl K = true) : ExFl K mg cs fl := by
  intro x f C g hx hf
  obtain ⟨a, b⟩ := He.ba (List.all_eq_true.mp e x (mem_of_contains hx))
  rw [He.glo_ok X G a] at g
  cases g
  exact He.eqO_ok (List.all_eq_true.mp b f (mem_of_contains hf))
end WR

/-! texts, reversed -/
namespace WR
open PySem PySem.Spec PyProof.Rows L2
/-! ### the code -/
@[simp] def pStr1 : List PV → IH → Res PV
  | [.int i], h => if i.natAbs.log2 < 1920 then .ok (.str (toString i)) h else .bad
  | _, _ => .bad
@[simp] def pIntS : List PV → IH → Res PV
  | [.str a], h => if a.length ≤ 640 then opt ((PySem.intText? a).map .int) h else .bad
  | _, _ => .bad
@[simp] def eFmt (A : EX) : EX := fun r h => (A r h).bind fun v h1 => match v with
  | .str y => if y.length ≤ 16777216 then .ok (.str y) h1 else .bad
  | .int i => if i.natAbs.log2 < 1920 then .ok (.str (toString i)) h1 else .bad
  | _ => .bad
@[simp] def eJs : List EX → Str → Fm → IH → Res PV
  | [], acc, _, h => .ok (.str acc) h
  | A :: L, acc, r, h => (A r h).bind fun v h1 => match v with
    | .str y => if (acc ++ y).length ≤ 16777216 then eJs L (acc ++ y) r h1 else .bad
    | _ => .bad
@[simp] def eJoined (L : List EX) : EX := fun r h => eJs L Str.empty r h
@[simp] def strsOf : List PV → Option (List Str)
  | [] => some []
  | .str x :: r => (strsOf r).map (x :: ·)
  | _ => none
@[simp] def eSplit (A B : EX) : EX := fun r h => (A r h).bind fun x h1 => match x with
  | .str a => (B r h1).bind fun y h2 => (match y with
    | .str b => if (b.length == 0) = false ∧ a.length + 2 ≤ 16777216 then .ok (.obj h2.length) (h2 ++ [.lst ((Txt.split a b).map .str)]) else .bad
    | _ => .bad)
  | _ => .bad
@[simp] def eJoin (A B : EX) : EX := fun r h => (A r h).bind fun x h1 => match x with
  | .str a => (B r h1).bind fun y h2 => (match seqOf y h2 with
    | some ys => (match strsOf ys with
      | some zs => if (zs.map (·.length)).sum + zs.length * a.length ≤ 16777216 then .ok (.str (Txt.join a zs)) h2 else .bad
      | none => .bad)
    | none => .bad)
  | _ => .bad
@[simp] def eRstrip (A : EX) : EX := fun r h => (A r h).bind fun x h1 => match x with
  | .str a => if a.length ≤ 16777216 then .ok (.str (Txt.rstrip a)) h1 else .bad
  | _ => .bad
@[simp] def pInT : PV → PV → IH → Res PV
  | .str x, .str z, h => (match x.cps.toList with
    | [c] => .ok (.bl (decide (c ∈ z.cps.toList))) h
    | _ => .bad)
  | _, _, _ => .bad
@[simp] def pNotInT : PV → PV → IH → Res PV
  | .str x, .str z, h => (match x.cps.toList with
    | [c] => .ok (.bl (!decide (c ∈ z.cps.toList))) h
    | _ => .bad)
  | _, _, _ => .bad
@[simp] def itStr (x : Str) : ItF := fun i _ => match x.cps.toList[i]? with
  | some c => some (some (.str ⟨#[c]⟩))
  | none => some none
@[simp] def eChars (A : EX) : Fm → IH → Res ItF := fun r h => (A r h).bind fun v h1 => match v with
  | .str x => .ok (itStr x) h1
  | _ => .bad
/-- reversed(list): the list stays as it is -/
@[simp] def itRev (m n : Nat) : ItF := fun i h => match h[m]? with
  | some (.lst xs) => if xs.length = n then (if i < n then (match xs[n - 1 - i]? with
    | some v => some (some v)
    | none => none) else some none) else none
  | _ => none
@[simp] def eRev (L : AX) : Fm → IH → Res ItF := fun r h => (L r h).bind fun vs h1 => match vs with
  | [.obj m] => (match h1[m]? with
    | some (.lst xs) => .ok (itRev m xs.length) h1
    | _ => .bad)
  | _ => .bad
section
variable {X : Cx} {W : WX} {k : Nat} {a b e o tg : Expr} {es : List Expr} {pos p apos : Pos} {A B C : EX} {L : AX}
theorem strs_rp {K : PySem.W.Frag} {mg : Str → Option Value} {H : Hp} {as : List Addr} : ∀ zs : List Str, RPs K mg H as (zs.map PV.str) (zs.map V.str)
  | [] => .nil
  | z :: zs => .cons (.str z) (strs_rp zs)
theorem ie_str1 (hm : X.mg "str" = none) (ha : PA X [e] (IA X.K X.mg W L)) (hg : Gl X "str" := by rfl) (he : starEach [e] X.env = (false, eval e X.env) :: starEach [] X.env := by rfl) : PE X (.Call (.Name "str" p) [e] [] pos) (IE X.K X.mg W (eB pStr1 L)) := by
  refine ie_callT call_str_int (fun {W s as H h xs Us Q} rh rs o => ?_) hm PyProof.Rows.Boot.«str» ha hg (by decide) (by decide) he rfl
  unfold pStr1 at o
  split at o
  · obtain ⟨v, rfl, rv⟩ := rs.inv1
    cases rv
    split at o
    · rename_i hl; exact ⟨_, rfl, hl, o.here rh (.str _)⟩
    · exact o.elim
  · exact o.elim
theorem ie_ints (hm : X.mg "int" = none) (ha : PA X [e] (IA X.K X.mg W L)) (hg : Gl X "int" := by rfl) (he : starEach [e] X.env = (false, eval e X.env) :: starEach [] X.env := by rfl) : PE X (.Call (.Name "int" p) [e] [] pos) (IE X.K X.mg W (eB pIntS L)) := by
  refine ie_callT call_int_str (fun {W s as H h xs Us Q} rh rs o => ?_) hm PyProof.Rows.Boot.«int» ha hg (by decide) (by decide) he rfl
  unfold pIntS at o
  split at o
  · obtain ⟨v, rfl, rv⟩ := rs.inv1
    cases rv
    split at o
    · rename_i x hl
      cases q : PySem.intText? x with
      | none => rw [q] at o; exact o.elim
      | some n => rw [q] at o; exact ⟨_, n, rfl, q, hl, o.here rh (.int _)⟩
    · exact o.elim
  · exact o.elim
theorem ie_fmt (ha : PE X e (IE X.K X.mg W A)) : PE X (.FormattedValue e (-1) none pos) (IE X.K X.mg W (eFmt A)) := by
  refine peImp (pe_fmt ha) fun s H Q ⟨as, ρ, hh, f, x, o⟩ => ?_
  refine ⟨as, ρ, hh, f, x, (Out.bind o).imp fun V H1 ⟨as1, h1, p1, S1, x1, r1, o1⟩ => ?_⟩
  cases r1 with
  | str y =>
    simp only at o1
    split at o1
    · rename_i hl; exact .inl ⟨y, rfl, by rw [sizeLine_eq]; exact hl, o1.here x1 (.str _)⟩
    · exact o1.elim
  | int i =>
    simp only at o1
    split at o1
    · rename_i hl; exact .inr ⟨i, rfl, hl, o1.here x1 (.str _)⟩
    · exact o1.elim
  | non => exact o1.elim
  | bl => exact o1.elim
  | tup => exact o1.elim
  | fls => exact o1.elim
  | obj => exact o1.elim
  | glo => exact o1.elim
  | ty => exact o1.elim
  | key => exact o1.elim
theorem js_of : ∀ (L : List EX) (acc : Str) {s : L2.St} {H : Hp} {as : List Addr} {r : Fm} {h : IH} {Q : VK}, RF X.K X.mg H as r s → RH X.K X.mg H as h → Out X.K X.mg (fun H as p v => RP X.K X.mg H as p v) W s as H Q (eJs L acc r h) →
    tJs (L.map fun A => IE X.K X.mg W A) acc s H fun out H1 => Q (.str out) H1
  | [], acc, s, H, as, r, h, Q, f, x, o => o.here x (.str _)
  | A :: L, acc, s, H, as, r, h, Q, f, x, o => by
    refine ⟨as, r, h, f, x, (Out.bind o).imp fun V H1 ⟨as1, h1, p1, S1, x1, r1, o1⟩ => ?_⟩
    cases r1 with
    | str y =>
      simp only at o1
      split at o1
      · rename_i hl; exact ⟨y, rfl, by rw [sizeLine_eq]; exact hl, js_of L (acc ++ y) (f.mono S1) x1 o1⟩
      · exact o1.elim
    | int i => exact o1.elim
    | non => exact o1.elim
    | bl => exact o1.elim
    | tup => exact o1.elim
    | fls => exact o1.elim
    | obj => exact o1.elim
    | glo => exact o1.elim
    | ty => exact o1.elim
    | key => exact o1.elim
theorem ie_joined (L : List EX) {v1 v2 : Expr} {rest : List Expr} (h : PJ X (v1 :: v2 :: rest) (L.map fun A => IE X.K X.mg W A)) : PE X (.JoinedStr (v1 :: v2 :: rest) pos) (IE X.K X.mg W (eJoined L)) :=
  peImp (pe_joined h) fun s H Q ⟨as, ρ, hh, f, x, o⟩ => js_of L Str.empty f x o
theorem ie_split (ho : PE X o (IE X.K X.mg W A)) (he : PE X e (IE X.K X.mg W B)) (hs : starEach [e] X.env = [(false, eval e X.env)] := by rfl) (hbase : attributeBase o "split" X.env (eval o X.env) = eval o X.env := by rfl) (hline : (apos.endLine == pos.line) = true := by rfl) :
    PE X (.Call (.Attribute o "split" apos) [e] [] pos) (IE X.K X.mg W (eSplit A B)) := by
  refine peImp (pe_split ho he hs hbase hline) fun s H Q ⟨as, ρ, hh, f, x, o⟩ => ?_
  refine ⟨as, ρ, hh, f, x, (Out.bind o).imp fun V H1 ⟨as1, h1, p1, S1, x1, r1, o1⟩ => ?_⟩
  split at o1
  · rename_i aa
    cases r1
    refine ⟨⟨_, rfl⟩, as1, ρ, h1, f.mono S1, x1, (Out.bind o1).imp fun V2 H2 ⟨as2, h2, p2, S2, x2, r2, o2⟩ => ?_⟩
    split at o2
    · rename_i bb
      cases r2
      split at o2
      · rename_i hl
        refine ⟨_, _, rfl, rfl, hl.1, by rw [sizeLine_eq]; exact hl.2, fun q nq => ?_⟩
        have S := Stp.new (o := .lst ((Txt.split aa bb).map V.str)) x2 nq
        refine o2 _ _ _ S (x2.new nq ⟨_, upd_same, ?_⟩) (.obj ?_)
        · exact strs_rp _
        · rw [List.getElem?_append_right (by rw [x2.len]; exact Nat.le_refl _), x2.len, Nat.sub_self]; rfl
      · exact o2.elim
    · exact o2.elim
  · exact o1.elim
theorem ie_rstrip (ho : PE X o (IE X.K X.mg W A)) (hbase : attributeBase o "rstrip" X.env (eval o X.env) = eval o X.env := by rfl) (hline : (apos.endLine == pos.line) = true := by rfl) : PE X (.Call (.Attribute o "rstrip" apos) [] [] pos) (IE X.K X.mg W (eRstrip A)) := by
  refine peImp (pe_m0 F.slot_str_rstrip F.type_str_rstrip mt_rstrip ho hbase hline) fun s H Q ⟨as, ρ, hh, f, x, o⟩ => ?_
  refine ⟨as, ρ, hh, f, x, (Out.bind o).imp fun V H1 ⟨as1, h1, p1, S1, x1, r1, o1⟩ => ?_⟩
  split at o1
  · rename_i aa
    cases r1
    split at o1
    · rename_i hl
      exact ⟨⟨_, rfl⟩, aa, rfl, rfl, by rw [sizeLine_eq]; exact hl, o1.here x1 (.str _)⟩
    · exact o1.elim
  · exact o1.elim
theorem strsOf_eq : ∀ {ys : List PV} {zs : List Str}, strsOf ys = some zs → ys = zs.map PV.str
  | [], zs, e => by cases e; rfl
  | .str x :: r, zs, e => by
    simp only [strsOf] at e
    cases q : strsOf r with
    | none => rw [q] at e; cases e
    | some ws => rw [q] at e; cases e; rw [strsOf_eq q]; rfl
  | .non :: r, _, e => by cases e
  | .bl _ :: r, _, e => by cases e
  | .int _ :: r, _, e => by cases e
  | .tup _ :: r, _, e => by cases e
  | .fls _ :: r, _, e => by cases e
  | .obj _ :: r, _, e => by cases e
  | .glo _ :: r, _, e => by cases e
  | .ty _ :: r, _, e => by cases e
  | .key _ :: r, _, e => by cases e
theorem strs_vals {K : PySem.W.Frag} {mg : Str → Option Value} {H : Hp} {as : List Addr} : ∀ {zs : List Str} {vs : List V}, RPs K mg H as (zs.map PV.str) vs → vs = zs.map V.str
  | [], _, .nil => rfl
  | z :: zs, _, .cons a b => by
    cases a
    rw [strs_vals b]; rfl
theorem ie_join (ho : PE X o (IE X.K X.mg W A)) (he : PE X e (IE X.K X.mg W B)) (hs : starEach [e] X.env = [(false, eval e X.env)] := by rfl) (hbase : attributeBase o "join" X.env (eval o X.env) = eval o X.env := by rfl) (hline : (apos.endLine == pos.line) = true := by rfl) :
    PE X (.Call (.Attribute o "join" apos) [e] [] pos) (IE X.K X.mg W (eJoin A B)) := by
  refine peImp (pe_join ho he hs hbase hline) fun s H Q ⟨as, ρ, hh, f, x, o⟩ => ?_
  refine ⟨as, ρ, hh, f, x, (Out.bind o).imp fun V H1 ⟨as1, h1, p1, S1, x1, r1, o1⟩ => ?_⟩
  split at o1
  · rename_i aa
    cases r1
    refine ⟨⟨_, rfl⟩, as1, ρ, h1, f.mono S1, x1, (Out.bind o1).imp fun V2 H2 ⟨as2, h2, p2, S2, x2, r2, o2⟩ => ?_⟩
    split at o2
    · rename_i ys hy
      obtain ⟨q, vs, rfl, h3, r3⟩ := seqOf_at x2 r2 hy
      split at o2
      · rename_i zs hz
        split at o2
        · rename_i hl
          rw [strsOf_eq hz] at r3
          have ev := strs_vals r3
          subst ev
          refine ⟨aa, q, zs, rfl, rfl, SqK.or h3, hl, o2.here x2 (.str _)⟩
        · exact o2.elim
      · exact o2.elim
    · exact o2.elim
  · exact o1.elim
theorem cps_one {x : Str} {c : Nat} (e : x.cps.toList = [c]) : x = ⟨#[c]⟩ := by
  obtain ⟨⟨l⟩⟩ := x
  simp only at e
  subst e
  rfl
theorem snd_inT {K : PySem.W.Frag} {mg : Str → Option Value} : Snd K mg pInT (fun x y H Q => ∃ (c : Nat) (z : Str), x = .str ⟨#[c]⟩ ∧ y = .str z ∧ Q (.bl (decide (c ∈ z.cps.toList))) H) := by
  intro W s as H h x y U V Q rh rx ry o
  unfold pInT at o
  split at o
  · cases rx
    cases ry
    split at o
    · rename_i c hc
      exact ⟨c, _, by rw [cps_one hc], rfl, o.here rh (.bl _)⟩
    · exact o.elim
  · exact o.elim
theorem snd_notInT {K : PySem.W.Frag} {mg : Str → Option Value} : Snd K mg pNotInT (fun x y H Q => ∃ (c : Nat) (z : Str), x = .str ⟨#[c]⟩ ∧ y = .str z ∧ Q (.bl (!decide (c ∈ z.cps.toList))) H) := by
  intro W s as H h x y U V Q rh rx ry o
  unfold pNotInT at o
  split at o
  · cases rx
    cases ry
    split at o
    · rename_i c hc
      exact ⟨c, _, by rw [cps_one hc], rfl, o.here rh (.bl _)⟩
    · exact o.elim
  · exact o.elim
theorem it_notInT (ha : PE X a (IE X.K X.mg W A)) (hb : PE X b (IE X.K X.mg W B)) (hm : behindInMarks .NotIn b = false := by rfl) : PT X (.Compare a [.NotIn] [b] pos) (IT X.K X.mg W (tBl (eOp pNotInT A B))) := it_cmp op_notIn_sign snd_notInT ha hb hm
theorem ri_str {K : PySem.W.Frag} {mg : Str → Option Value} {as : List Addr} {H : Hp} {x : Str} : RI K mg H as (itStr x) (Its x) := by
  intro i as' H' h' S rh
  unfold itStr
  cases q : x.cps.toList[i]? with
  | none =>
    have := List.getElem?_eq_none_iff.mp q
    show x.cps.size ≤ i
    simpa using this
  | some c =>
    have hl := (List.getElem?_eq_some_iff.mp q).1
    refine ⟨(show i < x.cps.size by simpa using hl), fun y H'' hy => ?_⟩
    obtain ⟨rfl, c', e1, rfl⟩ := hy
    have : c' = c := by
      rw [← Array.getElem?_toList, q] at e1
      exact (Option.some.inj e1).symm
    subst this
    exact ⟨Stp.refl _ _, rh, .str _⟩
theorem ii_chars (ha : PE X a (IE X.K X.mg W A)) : PI X tg a (II X.K X.mg W (eChars A)) := by
  refine piImp (pi_str ha) fun s H Q ⟨as, ρ, hh, f, x, o⟩ => ?_
  refine ⟨as, ρ, hh, f, x, (Out.bind o).imp fun V H1 ⟨as1, h1, p1, S1, x1, r1, o1⟩ => ?_⟩
  split at o1
  · cases r1
    exact ⟨_, rfl, o1.here x1 ri_str⟩
  · exact o1.elim
theorem ri_rev {K : PySem.W.Frag} {mg : Str → Option Value} {as : List Addr} {H : Hp} {c : Addr} {m n : Nat} (hm : as[m]? = some c) : RI K mg H as (itRev m n) (Itv K c n) := by
  intro i as' H' h' S x
  unfold itRev
  cases q : h'[m]? with
  | none => trivial
  | some ob =>
    cases ob with
    | lst xs =>
      obtain ⟨b, e1, ys, e2, rs⟩ := x.at_ _ _ q
      rw [S.get hm] at e1; cases e1
      simp only
      by_cases hn : xs.length = n
      · rw [if_pos hn]
        by_cases hi : i < n
        · rw [if_pos hi]
          cases qi : xs[n - 1 - i]? with
          | none => trivial
          | some p =>
            obtain ⟨v, e3, r3⟩ := rs.get qi
            simp only
            refine ⟨⟨hi, ys, v, SqL.of e2, e3⟩, fun y H'' hy => ?_⟩
            obtain ⟨rfl, z⟩ := hy
            have : y = v := Option.some.inj ((z _ (SqL.of e2)).symm.trans e3)
            subst this
            exact ⟨Stp.refl _ _, x, r3⟩
        · rw [if_neg hi]
          exact Nat.le_of_not_lt hi
      · rw [if_neg hn]; trivial
    | ins => trivial
    | dct => trivial
    | dks => trivial
theorem ii_rev {p : Pos} (hm : X.mg "reversed" = none) (ha : PA X [e] (IA X.K X.mg W L)) (hg : Gl X "reversed" := by rfl) (hs : starEach [e] X.env = [(false, eval e X.env)] := by rfl) : PI X tg (.Call (.Name "reversed" p) [e] [] pos) (II X.K X.mg W (eRev L)) := by
  refine piImp (pi_reversed hg hm ha hs) fun s H Q ⟨as, ρ, hh, f, x, o⟩ => ?_
  refine ⟨as, ρ, hh, f, x, (Out.bind o).imp fun Vs H1 ⟨as1, h1, p1, S1, x1, r1, o1⟩ => ?_⟩
  split at o1
  · obtain ⟨v, rfl, rv⟩ := r1.inv1
    cases rv with
    | obj hq =>
      split at o1
      · rename_i xs hx
        obtain ⟨b, e1, ys, e2, rs⟩ := x1.at_ _ _ hx
        rw [hq] at e1; cases e1
        refine ⟨_, ys, rfl, SqL.of e2, ?_⟩
        rw [← rs.length]
        exact o1.here x1 (ri_rev hq)
      · exact o1.elim
  · exact o1.elim
end
end WR

/-! raise C(a, b), C keeping them as its fields -/
namespace WR
open PySem PySem.Spec PyProof.Rows L2
def bOx (K : PySem.W.Frag) (C : Addr) : Bool := match K.lookup C with
  | some ⟨.type "type", _, .cls cd, sl⟩ => (match cd.mro with
    | .ref D :: bm => D == C && (!cd.hasDel && (cd.hasDict && (PySem.HandSPX.refsVE bm && (match sl.toList with
      | [_, _, _, _, some (.builtin n), _] => n == "ValueError.__new__"
      | _ => false))))
    | _ => false)
  | _ => false
theorem bOx_ok {K : PySem.W.Frag} {C : Addr} (e : bOx K C = true) : ∃ nm q N bs bm sn sub ab col dd k0 k1 k2 k3 k5, K.lookup C = some (excClassObj nm q C N bs bm true sn sub ab col dd k0 k1 k2 k3 k5 "ValueError.__new__") ∧ PySem.HandSPX.refsVE bm = true := by
  unfold bOx at e
  split at e
  · rename_i dd cd sl ho
    split at e
    · rename_i D bm hm
      obtain ⟨e1, e⟩ := He.ba e
      obtain ⟨e2, e⟩ := He.ba e
      obtain ⟨e3, e⟩ := He.ba e
      obtain ⟨e4, e⟩ := He.ba e
      split at e
      · rename_i k0 k1 k2 k3 n k5 hs
        have e1 : D = C := beq_iff_eq.mp e1
        have e5 : n = "ValueError.__new__" := beq_iff_eq.mp e
        subst e1 e5
        obtain ⟨nm, bs, mro, ns, qn, hd, sn, sub, ab, col, del⟩ := cd
        dsimp only at hm e2 e3
        have e2 : del = false := by simpa using e2
        subst hm e2 e3
        have hsl : sl = #[k0, k1, k2, k3, some (.builtin "ValueError.__new__"), k5] := by
          obtain ⟨l⟩ := sl
          simp only at hs
          rw [hs]
        subst hsl
        exact ⟨nm, qn, ns, bs, bm, sn, sub, ab, col, dd, k0, k1, k2, k3, k5, ho, e4⟩
      · cases e
    · cases e
  · cases e
/-- an own exception class with an own __init__ -/
structure ExI (K : PySem.W.Frag) (mg : Str → Option Value) (c : Str) (C fI : Addr) : Prop where
  gC : mg c = some (.ref C)
  ox : OexC K C
  iC : PySem.W.findIn K (.ref C) "__init__" = some (some (.ref fI))
  tI : PySem.W.typeIn K (.ref fI) = some (.type "function")
def bExn (c : Str) : FrB := fun K => bOx K (He.ga K c) && (He.eqO (PySem.W.findIn K (.ref (He.ga K c)) "__setattr__") (some (some (.builtin "object.__setattr__"))) && (decide (PySem.W.subIn K (.ref (He.ga K c)) (.type "BaseException") = some true) && (decide (PySem.W.typeIn K (.ref (He.ga K c)) = some (.type "type")) &&
  (PySem.W.keepIn K (.ref (He.ga K c)) && (He.eqO (PySem.W.findIn K (.ref (He.ga K c)) "__init__") (some (some (.ref (He.ma K (He.ga K c) "__init__")))) && decide (PySem.W.typeIn K (.ref (He.ma K (He.ga K c) "__init__")) = some (.type "function")))))))
theorem bExn_ok {K : PySem.W.Frag} {mg : Str → Option Value} {h : Heap} {c : Str} (X : K.In h) (G : h.Ns mainGlobals mg) (g : bGlo c K = true) (e : bExn c K = true) : ExI K mg c (He.ga K c) (He.ma K (He.ga K c) "__init__") := by
  obtain ⟨e1, e⟩ := He.ba e
  obtain ⟨e2, e⟩ := He.ba e
  obtain ⟨e3, e⟩ := He.ba e
  obtain ⟨e4, e⟩ := He.ba e
  obtain ⟨e5, e⟩ := He.ba e
  obtain ⟨e6, e7⟩ := He.ba e
  exact ⟨He.glo_ok X G g, ⟨bOx_ok e1, He.eqO_ok e2, of_decide_eq_true e3, of_decide_eq_true e4, e5⟩, He.eqO_ok e6, of_decide_eq_true e7⟩
/-- what such an __init__ promises: two fields, one field -/
def sp2 (C : Addr) (f g : Str) : Sp := fun vs H Q _ => ∃ a x y, vs = [.ref a, x, y] ∧ H a = some (exo a C none) ∧ ∀ d, H d = none → d ≠ a → Q .non (upd (upd (upd H d (exd d [(f, x)])) a (exo a C (some d))) d (exd d [(g, y), (f, x)]))
def sp1 (C : Addr) (f : Str) : Sp := fun vs H Q _ => ∃ a x, vs = [.ref a, x] ∧ H a = some (exo a C none) ∧ ∀ d, H d = none → d ≠ a → Q .non (upd (upd H d (exd d [(f, x)])) a (exo a C (some d)))
/-- .. in the place where it stands -/
structure GX (P : Program) (w : World) (K : PySem.W.Frag) (mg : Str → Option Value) (base : Heap) (f : Addr) (j : Nat) (n : Nat) (sp : Sp) : Prop where
  ex : ∃ fd ps, FnOk P w K mg base (L2.CX P w) j f fd ps sp ∧ Binds K fd ps [] ∧ ps.length = n
@[simp] def sRaiseN (c : Str) (fl : List Str) (L : AX) : SX := fun r h => toS (L r h) r fun vs h1 => if vs.length = fl.length then .ex ⟨c, (fl.zip vs).reverse⟩ r h1 else .bad
section
variable {X : Cx} {W : WX} {k j : Nat} {c : Str} {C fI : Addr} {p pos pos' : Pos} {e : Expr} {es : List Expr} {L : AX} {f g : Str}
theorem hp_end {H : Hp} {a d C : Addr} {o1 o2 o3 o4 o5 : HO} (na : H a = none) (da : d ≠ a) : upd (del (upd (upd (upd (upd H a o1) d o2) a o3) d o4) a) d o5 = upd H d o5 := by
  funext b
  by_cases h1 : b = d
  · subst h1; rw [upd_same, upd_same]
  · rw [upd_ne h1, upd_ne h1]
    by_cases h2 : b = a
    · subst h2; rw [del_same, na]
    · rw [del_ne h2, upd_ne h1, upd_ne h2, upd_ne h1, upd_ne h2]
theorem hp_end1 {H : Hp} {a d C : Addr} {o1 o2 o3 o5 : HO} (na : H a = none) (da : d ≠ a) : upd (del (upd (upd (upd H a o1) d o2) a o3) a) d o5 = upd H d o5 := by
  funext b
  by_cases h1 : b = d
  · subst h1; rw [upd_same, upd_same]
  · rw [upd_ne h1, upd_ne h1]
    by_cases h2 : b = a
    · subst h2; rw [del_same, na]
    · rw [del_ne h2, upd_ne h2, upd_ne h1, upd_ne h2]
theorem rx_of {K : PySem.W.Frag} {mg : Str → Option Value} {H1 : Hp} {as1 : List Addr} {h1 : IH} {d : Addr} {fs : List (Str × PV)} {gs : List (Str × V)} (gC : mg c = some (.ref C)) (x1 : RH K mg H1 as1 h1) (nd : H1 d = none) (ne : fs ≠ []) (e1 : gs.map (·.1) = fs.map (·.1)) (e2 : RPs K mg H1 as1 (fs.map (·.2)) (gs.map (·.2))) :
    RX K mg (upd H1 d (.xd gs)) as1 ⟨c, fs⟩ (.ref C) (some d) :=
  ⟨C, gC, rfl, .inr ⟨d, gs, ne, rfl, upd_same, fun z => x1.mem z nd, e1, e2.mono (Stp.lay x1 nd)⟩⟩
theorem is_raise2 {a b : Expr} (cx : Ctx X W k) (E : ExI X.K X.mg c C fI) (G : GX X.prog X.w X.K X.mg X.base fI j 3 (sp2 C f g)) (ha : PA X [a, b] (IA X.K X.mg W L)) (hj : j + 1 ≤ k := by decide) (hg : Gl X c := by rfl) (hdb : (c == ("__debug__" : Str)) = false := by decide)
    (he : starEach [a, b] X.env = (false, eval a X.env) :: starEach [b] X.env := by rfl) (hpl : (backTo pos (starEach [b] X.env)).any (·.1) = false := by rfl) : PS X (.Raise (some (.Call (.Name c p) [a, b] [] pos)) none pos') (IS X.K X.mg W (sRaiseN c [f, g] L)) := by
  obtain ⟨fd, ps, G1, hb, hl⟩ := G.ex
  refine psImp (ps_raise cx.calm cx.tk (pmk_oex E.ox E.iC E.tI G1 (cx.room.mono hj) hb .nil passL hg E.gC ha hdb he hpl)) fun D s H ⟨as, r, h, fr, x, o⟩ => ?_
  refine ⟨as, r, h, fr, x, (outS_of fr o).imp fun Vs H1 ⟨as1, h1, vs, S1, x1, r1, o1⟩ => ?_⟩
  split at o1
  · rename_i hv
    match vs, hv, r1, o1 with
    | [u, v], _, r1, o1 =>
      obtain ⟨U, V, rfl, ru, rv⟩ := r1.inv2
      refine ⟨by show 2 ≤ 1000; omega, fun a na => ⟨a, U, V, rfl, upd_same, fun d nd da => ⟨rfl, d, [(g, V), (f, U)], ?_, upd_same, ?_, ?_⟩⟩⟩
      · rw [upd_ne (Ne.symm da), upd_same]
      · rw [upd_ne da] at nd; exact nd
      · rw [upd_ne da] at nd
        rw [hp_end (C := C) na da]
        exact o1 (.ref C) (some d) s _ as1 (Stp.lay x1 nd) (x1.lay nd) ((fr.mono S1).mono (Stp.lay x1 nd)) (rx_of E.gC x1 nd (by simp) rfl (.cons rv (.one ru)))
  · exact o1.elim
theorem is_raise1 {a : Expr} (cx : Ctx X W k) (E : ExI X.K X.mg c C fI) (G : GX X.prog X.w X.K X.mg X.base fI j 2 (sp1 C f)) (ha : PA X [a] (IA X.K X.mg W L)) (hj : j + 1 ≤ k := by decide) (hg : Gl X c := by rfl) (hdb : (c == ("__debug__" : Str)) = false := by decide)
    (he : starEach [a] X.env = (false, eval a X.env) :: starEach [] X.env := by rfl) (hpl : (backTo pos (starEach [] X.env)).any (·.1) = false := by rfl) : PS X (.Raise (some (.Call (.Name c p) [a] [] pos)) none pos') (IS X.K X.mg W (sRaiseN c [f] L)) := by
  obtain ⟨fd, ps, G1, hb, hl⟩ := G.ex
  refine psImp (ps_raise cx.calm cx.tk (pmk_oex E.ox E.iC E.tI G1 (cx.room.mono hj) hb .nil passL hg E.gC ha hdb he hpl)) fun D s H ⟨as, r, h, fr, x, o⟩ => ?_
  refine ⟨as, r, h, fr, x, (outS_of fr o).imp fun Vs H1 ⟨as1, h1, vs, S1, x1, r1, o1⟩ => ?_⟩
  split at o1
  · rename_i hv
    match vs, hv, r1, o1 with
    | [u], _, r1, o1 =>
      obtain ⟨U, rfl, ru⟩ := r1.inv1
      refine ⟨by show 1 ≤ 1000; omega, fun a na => ⟨a, U, rfl, upd_same, fun d nd da => ⟨rfl, d, [(f, U)], upd_same, ?_, ?_, ?_⟩⟩⟩
      · rw [upd_ne da, upd_same]
      · rw [upd_ne da] at nd; exact nd
      · rw [upd_ne da] at nd
        rw [hp_end1 (C := C) na da]
        exact o1 (.ref C) (some d) s _ as1 (Stp.lay x1 nd) (x1.lay nd) ((fr.mono S1).mono (Stp.lay x1 nd)) (rx_of E.gC x1 nd (by simp) rfl (.one ru))
  · exact o1.elim
end
/-! ### the __init__s -/
section
variable {P : Program} {w : World} {K : PySem.W.Frag} {mg : Str → Option Value} {base : Heap} {qual : Str} {st : Stmt} {f C : Addr} {fd : FuncData} {x y g1 g2 : Str} {p1 p2 p3 p4 p5 p6 p7 p8 : Pos}
theorem gx_2 (F : Fun K "__init__" qual st f fd) (S : FnScope ["self", x, y] ["self", x, y] (defScope st)) (hb : ∀ (kV doc pm : Value) (an : Option Addr) (cdv ct : Value) (us : List Value), us.length = 3 → bindArgs (PySem.W.fnOf "__init__" qual (defArgs st) (defBody st) (defScope st) .none kV doc pm an cdv ct) ⟨us, []⟩ = pure ((["self", x, y] : List Str).zip us)) (ox : OexC K C) (n1 : PySem.W.findIn K (.ref C) g1 = some none) (n2 : PySem.W.findIn K (.ref C) g2 = some none)
    (body : ∀ (cdv : Value) (A : Around) (outer : List Env) (s : Shared) (H : Hp) (E : XK), PSs (cxOf (L2.CX P w) P w K mg base ["self", x, y] qual (defScope st) f cdv A outer s H E) (defBody st) (tSeq (tOst K g1 (tVar 0) (tVar 1)) (tOst K g2 (tVar 0) (tVar 2)))) :
    GX P w K mg base f 1 3 (sp2 C g1 g2) := by
  refine ⟨fd, ["self", x, y], F.okX S (fun vs H Q E h => ?_) (fun cdv A outer s H vs Q E hr h => ?_), F.binds hb, rfl⟩
  · obtain ⟨a, u, v, rfl, _⟩ := h; rfl
  · obtain ⟨a, u, v, rfl, ea, h⟩ := h
    refine ⟨_, body cdv A outer s H E, ?_⟩
    refine ⟨u, rfl, .ref a, rfl, a, C, rfl, ox, n1, .inl ⟨ea, fun d nd da => ?_⟩⟩
    refine ⟨v, rfl, .ref a, rfl, a, C, rfl, ox, n2, .inr ⟨d, [(g1, u)], upd_same, ?_, by show 1 ≤ 900; omega, h d nd da⟩⟩
    rw [upd_ne da, upd_same]
theorem gx_1 (F : Fun K "__init__" qual st f fd) (S : FnScope ["self", x] ["self", x] (defScope st)) (hb : ∀ (kV doc pm : Value) (an : Option Addr) (cdv ct : Value) (us : List Value), us.length = 2 → bindArgs (PySem.W.fnOf "__init__" qual (defArgs st) (defBody st) (defScope st) .none kV doc pm an cdv ct) ⟨us, []⟩ = pure ((["self", x] : List Str).zip us)) (ox : OexC K C) (n1 : PySem.W.findIn K (.ref C) g1 = some none)
    (body : ∀ (cdv : Value) (A : Around) (outer : List Env) (s : Shared) (H : Hp) (E : XK), PSs (cxOf (L2.CX P w) P w K mg base ["self", x] qual (defScope st) f cdv A outer s H E) (defBody st) (tOst K g1 (tVar 0) (tVar 1))) :
    GX P w K mg base f 1 2 (sp1 C g1) := by
  refine ⟨fd, ["self", x], F.okX S (fun vs H Q E h => ?_) (fun cdv A outer s H vs Q E hr h => ?_), F.binds hb, rfl⟩
  · obtain ⟨a, u, rfl, _⟩ := h; rfl
  · obtain ⟨a, u, rfl, ea, h⟩ := h
    refine ⟨_, body cdv A outer s H E, ?_⟩
    exact ⟨u, rfl, .ref a, rfl, a, C, rfl, ox, n1, .inl ⟨ea, fun d nd da => h d nd da⟩⟩
end
end WR

/-! a, b, .. = a list -/
namespace WR
open PySem PySem.Spec PyProof.Rows L2
@[simp] def sAsgU (is : List Nat) (A : EX) : SX := fun r h => toS (A r h) r fun v h1 => match v with
  | .obj n => (match h1[n]? with
    | some (.lst vs) => (match setAll is vs r with
      | some r1 => .nx r1 h1
      | none => .bad)
    | _ => .bad)
  | _ => .bad
theorem setAll_len : ∀ (is : List Nat) (ps : List PV) (r : Fm) (r1 : Fm), setAll is ps r = some r1 → ps.length = is.length
  | [], [], _, _, _ => rfl
  | [], _ :: _, _, _, e => by cases e
  | _ :: _, [], _, _, e => by cases e
  | i :: is, p :: ps, r, r1, e => by rw [List.length_cons, List.length_cons, setAll_len is ps _ _ e]
section
variable {X : Cx} {W : WX} {k : Nat} {pos tpos : Pos} {es : List Expr} {e : Expr} {A : EX}
theorem is_asgU {is : List Nat} {kk : Nat} (cx : Ctx X W k) (he : PE X e (IE X.K X.mg W A)) (h : PGs X es (GIs X.K X.mg is)) (hl : is.length = es.length := by rfl) (hn : (assignEach es X.env).length = es.length := by rfl) (hst : (assignEach es X.env).findIdx? (·.1) = none := by rfl)
    (hs : swapsWithSole [.Tuple es kk tpos] e pos.line X.env = pure false := by rfl) (hw : swappedStores [.Tuple es kk tpos] e X.env = pure none := by rfl)
    (h1 : (assignEach [.Tuple es kk tpos] X.env).map (·.2) = [assign (.Tuple es kk tpos) X.env] := by rfl) : PS X (.Assign [.Tuple es kk tpos] e pos) (IS X.K X.mg W (sAsgU is A)) := by
  refine psImp (ps_asg he (pg_unl cx.calm h hn hst) hs hw h1) fun D s H ⟨as, r, h, f, x, o⟩ => ?_
  refine ⟨as, r, h, f, x, (outS_of f o).imp fun V H1 ⟨as1, h1, p, S1, x1, r1, o1⟩ => ?_⟩
  cases p with
  | obj n =>
    cases qn : h1[n]? with
    | none => simp only [qn] at o1; exact o1.elim
    | some ob =>
      cases ob with
      | lst vs =>
        cases qg : setAll is vs r with
        | none => simp only [qn, qg] at o1; exact o1.elim
        | some r2 =>
          simp only [qn, qg] at o1
          obtain ⟨a, ys, e1, e2, rs⟩ := seqOf_at x1 r1 (xs := vs) (by simp only [seqOf, qn])
          refine ⟨a, ys, e1, e2, ?_, as1, r, vs, r2, f.mono S1, rs, qg, fun s1 f1 => o1 s1 H1 as1 (Stp.refl _ _) x1 f1⟩
          rw [← rs.length, ← hl]
          exact setAll_len _ _ _ _ qg
      | ins => simp only [qn] at o1; exact o1.elim
      | dct => simp only [qn] at o1; exact o1.elim
      | dks => simp only [qn] at o1; exact o1.elim
  | non => exact o1.elim
  | bl => exact o1.elim
  | int => exact o1.elim
  | str => exact o1.elim
  | tup => exact o1.elim
  | fls => exact o1.elim
  | glo => exact o1.elim
  | ty => exact o1.elim
  | key => exact o1.elim
end
/-! a list times an int -/
@[simp] def pMulL : PV → PV → IH → Res PV
  | .obj m, .int k, h => (match h[m]? with
    | some (.lst xs) => if 0 ≤ k ∧ k ≤ 1000 ∧ xs.length ≤ 1000 then .ok (.obj h.length) (h ++ [.lst (List.replicate k.toNat xs).flatten]) else .bad
    | _ => .bad)
  | _, _, _ => .bad
theorem RPs.rep {K : PySem.W.Frag} {mg : Str → Option Value} {as : List Addr} {H : Hp} {xs : List PV} {us : List V} (r : RPs K mg H as xs us) : ∀ n : Nat, RPs K mg H as (List.replicate n xs).flatten (List.replicate n us).flatten
  | 0 => .nil
  | n + 1 => by
    rw [List.replicate_succ, List.replicate_succ, List.flatten_cons, List.flatten_cons]
    exact r.append (RPs.rep r n)
theorem snd_mulL {K : PySem.W.Frag} {mg : Str → Option Value} : Snd K mg pMulL rRep := by
  intro W s as H h x y U V Q rh rx ry o
  unfold pMulL at o
  split at o
  · rename_i m k
    cases rx with
    | obj ha =>
      cases ry
      split at o
      · rename_i xs hx
        split at o
        · rename_i hk
          obtain ⟨a1, e1, us, g1, r1⟩ := rh.at_ _ _ hx
          rw [ha] at e1; cases e1
          have hm : us.length * k.toNat ≤ 1000 * 1000 := Nat.mul_le_mul (by rw [← r1.length]; exact hk.2.2) (by omega)
          refine ⟨_, _, us, rfl, rfl, g1, by omega, by omega, by rw [sizeLine_eq]; omega, fun p np => ?_⟩
          have S := Stp.new (o := .lst (List.replicate k.toNat us).flatten) rh np
          refine o _ _ _ S (rh.new np ⟨_, upd_same, (r1.rep k.toNat).mono S⟩) (.obj ?_)
          rw [List.getElem?_append_right (by rw [rh.len]; exact Nat.le_refl _), rh.len, Nat.sub_self]
          rfl
        · exact o.elim
      · exact o.elim
  · exact o.elim
theorem ie_mulL {X : Cx} {W : WX} {a b : Expr} {pos : Pos} {A B : EX} (ha : PE X a (IE X.K X.mg W A)) (hb : PE X b (IE X.K X.mg W B)) : PE X (.BinOp a .Mult b pos) (IE X.K X.mg W (eOp pMulL A B)) := ie_op op_rep snd_mulL ha hb
end WR

/-! the defs as functional code -/
namespace WR
open PySem PySem.Spec PyProof.Rows L2
def ownCs : List Str := ["Plan"]
def exCs : List Str := ["InvalidText", "RoadError"]
def exFl : List Str := ["line", "word"]

def b_is_integer : SX :=
    sRet (eAnd (eB (pIsi ownCs) (aCons (eVar 0) (aCons (eC (.ty "int")) aNil))) (eNot (eB (pIsi ownCs) (aCons (eVar 0) (aCons (eC (.ty "bool")) aNil)))))
def f_is_integer : List PV → IH → Res PV := fn 1 0 b_is_integer

def b_is_from : SX :=
    sRet (eAnd (eCall f_is_integer (aCons (eVar 0) aNil)) (eChain pLe pLe (eVar 1) (eVar 0) (eVar 2)))
def f_is_from : List PV → IH → Res PV := fn 3 0 b_is_from

def b_common : SX :=
    sSeq (sPar 0 1 (aCons (eB pAbs (aCons (eVar 0) aNil)) (aCons (eB pAbs (aCons (eVar 1) aNil)) aNil)))
    (sSeq (sWhile (tTru (eVar 1)) (sPar 0 1 (aCons (eVar 1) (aCons (eOp pMod (eVar 0) (eVar 1)) aNil))))
    (sRet (eVar 0)))
def f_common : List PV → IH → Res PV := fn 2 0 b_common

def b_is_fraction : SX :=
    sSeq (sIf (tOrX (tNotX (tTru (eB (pIsi ownCs) (aCons (eVar 0) (aCons (eC (.ty "tuple")) aNil))))) (tBl (eOp pNe (eB pLen (aCons (eVar 0) aNil)) (eC (.int 2))))) (sRet (eC (.bl false))) sNil)
    (sSeq (sIf (tOrX (tNotX (tTru (eCall f_is_integer (aCons (eOp pIdx (eVar 0) (eC (.int 0))) aNil)))) (tNotX (tTru (eCall f_is_integer (aCons (eOp pIdx (eVar 0) (eC (.int 1))) aNil))))) (sRet (eC (.bl false))) sNil)
    (sRet (eAnd (eOp pGe (eOp pIdx (eVar 0) (eC (.int 1))) (eC (.int 1))) (eOp pEq (eCall f_common (aCons (eOp pIdx (eVar 0) (eC (.int 0))) (aCons (eOp pIdx (eVar 0) (eC (.int 1))) aNil))) (eC (.int 1))))))
def f_is_fraction : List PV → IH → Res PV := fn 1 0 b_is_fraction

def b_is_within : SX :=
    sSeq (sIf (tNotX (tTru (eCall f_is_fraction (aCons (eVar 0) aNil)))) (sRet (eC (.bl false))) sNil)
    (sRet (eChain pLe pLe (eOp pMul (eVar 1) (eOp pIdx (eVar 0) (eC (.int 1)))) (eOp pIdx (eVar 0) (eC (.int 0))) (eOp pMul (eVar 2) (eOp pIdx (eVar 0) (eC (.int 1))))))
def f_is_within : List PV → IH → Res PV := fn 3 0 b_is_within

def b_is_reach : SX :=
    sRet (eAnd (eCall f_is_within (aCons (eVar 0) (aCons (eC (.int 0)) (aCons (eC (.int 1000000000000)) aNil)))) (eOp pGt (eOp pIdx (eVar 0) (eC (.int 0))) (eC (.int 0))))
def f_is_reach : List PV → IH → Res PV := fn 1 0 b_is_reach

def b_is_turn : SX :=
    sSeq (sIf (tOrX (tNotX (tTru (eB (pIsi ownCs) (aCons (eVar 0) (aCons (eC (.ty "tuple")) aNil))))) (tBl (eOp pNe (eB pLen (aCons (eVar 0) aNil)) (eC (.int 2))))) (sRet (eC (.bl false))) sNil)
    (sRet (eAnd (eCall f_is_from (aCons (eOp pIdx (eVar 0) (eC (.int 0))) (aCons (eC (.int 0)) (aCons (eOp pSub (eVar 1) (eC (.int 1))) aNil)))) (eCall f_is_reach (aCons (eOp pIdx (eVar 0) (eC (.int 1))) aNil))))
def f_is_turn : List PV → IH → Res PV := fn 2 0 b_is_turn

def b_check_roads : SX :=
    sIf (tNotX (tTru (eCall f_is_from (aCons (eVar 0) (aCons (eC (.int 1)) (aCons (eC (.int 5)) aNil)))))) sBad sNil
def f_check_roads : List PV → IH → Res PV := fn 1 0 b_check_roads

def b_check_cost : SX :=
    sIf (tNotX (tTru (eCall f_is_within (aCons (eVar 0) (aCons (eC (.int 0)) (aCons (eC (.int 1000000000000)) aNil)))))) sBad sNil
def f_check_cost : List PV → IH → Res PV := fn 1 0 b_check_cost

def b_Plan___init__ : SX :=
    sSeq (sExpr (eCall f_check_roads (aCons (eVar 1) aNil)))
    (sSeq (sIf (tOrX (tNotX (tTru (eB (pIsi ownCs) (aCons (eVar 2) (aCons (eC (.ty "tuple")) aNil))))) (tBl (eOp pGt (eB pLen (aCons (eVar 2) aNil)) (eC (.int 60))))) sBad sNil)
    (sSeq (sFor (eEnum (aCons (eVar 2) aNil)) (gTupF [4, 5]) (sIf (tNotX (tTru (eCall f_is_turn (aCons (eVar 5) (aCons (eVar 1) aNil))))) sBad sNil))
    (sSeq (sExpr (eCall f_check_cost (aCons (eVar 3) aNil)))
    (sFldX "Plan" "held" (eVar 0) (eTup (aCons (eVar 1) (aCons (eVar 2) (aCons (eVar 3) aNil))))))))
def f_Plan___init__ : List PV → IH → Res PV := fn 4 2 b_Plan___init__

def b_Plan_roads : SX :=
    sRet (eOp pIdx (eFld "Plan" "held" (eVar 0)) (eC (.int 0)))
def f_Plan_roads : List PV → IH → Res PV := fn 1 0 b_Plan_roads

def b_Plan_turns : SX :=
    sRet (eOp pIdx (eFld "Plan" "held" (eVar 0)) (eC (.int 1)))
def f_Plan_turns : List PV → IH → Res PV := fn 1 0 b_Plan_turns

def b_Plan_cost : SX :=
    sRet (eOp pIdx (eFld "Plan" "held" (eVar 0)) (eC (.int 2)))
def f_Plan_cost : List PV → IH → Res PV := fn 1 0 b_Plan_cost

def b_Plan___len__ : SX :=
    sRet (eB pLen (aCons (eOp pIdx (eFld "Plan" "held" (eVar 0)) (eC (.int 1))) aNil))
def f_Plan___len__ : List PV → IH → Res PV := fn 1 0 b_Plan___len__

def b_Plan___eq__ : SX :=
    sRet (eAnd (eB (pIsi ownCs) (aCons (eVar 1) (aCons (eC (.glo "Plan")) aNil))) (eOp pEq (eFld "Plan" "held" (eVar 0)) (eFld "Plan" "held" (eVar 1))))
def f_Plan___eq__ : List PV → IH → Res PV := fn 2 0 b_Plan___eq__

def b_check_plan : SX :=
    sIf (tNotX (tTru (eB (pIsi ownCs) (aCons (eVar 0) (aCons (eC (.glo "Plan")) aNil))))) sBad sNil
def f_check_plan : List PV → IH → Res PV := fn 1 0 b_check_plan

def b_fraction_text : SX :=
    sSeq (sIf (tBl (eOp pEq (eOp pIdx (eVar 0) (eC (.int 1))) (eC (.int 1)))) (sRet (eB pStr1 (aCons (eOp pIdx (eVar 0) (eC (.int 0))) aNil))) sNil)
    (sRet (eJoined [eFmt (eOp pIdx (eVar 0) (eC (.int 0))), eC (.str "/"), eFmt (eOp pIdx (eVar 0) (eC (.int 1)))]))
def f_fraction_text : List PV → IH → Res PV := fn 1 0 b_fraction_text

def b_write_plan : SX :=
    sSeq (sExpr (eCall f_check_plan (aCons (eVar 0) aNil)))
    (sSeq (sAsgT (gTupF [1, 2, 3]) (eFld "Plan" "held" (eVar 0)))
    (sSeq (sSet 4 (eLst (aCons (eJoined [eC (.str "roads "), eFmt (eVar 1), eC (.str " cost "), eFmt (eCall f_fraction_text (aCons (eVar 3) aNil))]) aNil)))
    (sSeq (sFor (eIter (eVar 2)) (gTupF [5, 6]) (sExpr (eAppend (eVar 4) (aCons (eJoined [eFmt (eVar 5), eC (.str " "), eFmt (eCall f_fraction_text (aCons (eVar 6) aNil))]) aNil))))
    (sRet (eJoin (eC (.str "\n")) (eVar 4))))))
def f_write_plan : List PV → IH → Res PV := fn 1 6 b_write_plan

def b_integer_of : SX :=
    sSeq (sIf (tOrX (tBl (eOp pEq (eVar 0) (eC (.str "")))) (tAndX (tBl (eOp pEq (eOp pIdx (eVar 0) (eC (.int 0))) (eC (.str "0")))) (tBl (eOp pNe (eVar 0) (eC (.str "0")))))) (sRet (eC .non)) sNil)
    (sSeq (sFor (eChars (eVar 0)) (gVar 1) (sIf (tBl (eOp pNotInT (eVar 1) (eC (.str "0123456789")))) (sRet (eC .non)) sNil))
    (sRet (eB pIntS (aCons (eVar 0) aNil))))
def f_integer_of : List PV → IH → Res PV := fn 1 1 b_integer_of

def b_fraction_of : SX :=
    sSeq (sSet 1 (eSplit (eVar 0) (eC (.str "/"))))
    (sSeq (sSet 2 (eLc (eIter (eVar 1)) (gVar 4) tYesX (eCall f_integer_of (aCons (eVar 4) aNil)) [4]))
    (sSeq (sIf (tOrX (tBl (eOp pGt (eB pLen (aCons (eVar 1) aNil)) (eC (.int 2)))) (tBl (eOp pIn (eC .non) (eVar 2)))) (sRet (eC .non)) sNil)
    (sSeq (sIf (tBl (eOp pEq (eB pLen (aCons (eVar 1) aNil)) (eC (.int 1)))) (sRet (eTup (aCons (eOp pIdx (eVar 2) (eC (.int 0))) (aCons (eC (.int 1)) aNil)))) sNil)
    (sSeq (sSet 3 (eTup (aCons (eOp pIdx (eVar 2) (eC (.int 0))) (aCons (eOp pIdx (eVar 2) (eC (.int 1))) aNil))))
    (sSeq (sIf (tOrX (tBl (eOp pLt (eOp pIdx (eVar 2) (eC (.int 1))) (eC (.int 2)))) (tNotX (tTru (eCall f_is_fraction (aCons (eVar 3) aNil))))) (sRet (eC .non)) sNil)
    (sRet (eVar 3)))))))
def f_fraction_of : List PV → IH → Res PV := fn 1 4 b_fraction_of

def b_word_at : SX :=
    sSeq (sIf (tBl (eOp pGe (eVar 2) (eB pLen (aCons (eVar 0) aNil)))) (sRaiseN "InvalidText" ["line", "word"] (aCons (eVar 1) (aCons (eOp pAdd (eVar 2) (eC (.int 1))) aNil))) sNil)
    (sRet (eOp pIdx (eVar 0) (eVar 2)))
def f_word_at : List PV → IH → Res PV := fn 3 0 b_word_at

def b_check_name : SX :=
    sIf (tBl (eOp pNe (eCall f_word_at (aCons (eVar 0) (aCons (eC (.int 1)) (aCons (eVar 1) aNil)))) (eVar 2))) (sRaiseN "InvalidText" ["line", "word"] (aCons (eC (.int 1)) (aCons (eOp pAdd (eVar 1) (eC (.int 1))) aNil))) sNil
def f_check_name : List PV → IH → Res PV := fn 3 0 b_check_name

def b_number_at : SX :=
    sSeq (sSet 5 (eCall f_word_at (aCons (eVar 0) (aCons (eVar 1) (aCons (eVar 2) aNil)))))
    (sSeq (sFor (eRange2 (aCons (eVar 3) (aCons (eOp pAdd (eVar 4) (eC (.int 1))) aNil))) (gVar 6) (sIf (tBl (eOp pEq (eB pStr1 (aCons (eVar 6) aNil)) (eVar 5))) (sRet (eVar 6)) sNil))
    (sRaiseN "InvalidText" ["line", "word"] (aCons (eVar 1) (aCons (eOp pAdd (eVar 2) (eC (.int 1))) aNil))))
def f_number_at : List PV → IH → Res PV := fn 5 2 b_number_at

def b_check_length : SX :=
    sIf (tBl (eOp pGt (eB pLen (aCons (eVar 0) aNil)) (eVar 2))) (sRaiseN "InvalidText" ["line", "word"] (aCons (eVar 1) (aCons (eOp pAdd (eVar 2) (eC (.int 1))) aNil))) sNil
def f_check_length : List PV → IH → Res PV := fn 3 0 b_check_length

def b_read_turn : SX :=
    sSeq (sSet 3 (eCall f_number_at (aCons (eVar 0) (aCons (eVar 1) (aCons (eC (.int 0)) (aCons (eC (.int 0)) (aCons (eOp pSub (eVar 2) (eC (.int 1))) aNil)))))))
    (sSeq (sSet 4 (eCall f_fraction_of (aCons (eCall f_word_at (aCons (eVar 0) (aCons (eVar 1) (aCons (eC (.int 1)) aNil)))) aNil)))
    (sSeq (sIf (tOrX (tBl (eOp pIsN (eVar 4) (eC .non))) (tNotX (tTru (eCall f_is_reach (aCons (eVar 4) aNil))))) (sRaiseN "InvalidText" ["line", "word"] (aCons (eVar 1) (aCons (eC (.int 2)) aNil))) sNil)
    (sSeq (sExpr (eCall f_check_length (aCons (eVar 0) (aCons (eVar 1) (aCons (eC (.int 2)) aNil)))))
    (sRet (eTup (aCons (eVar 3) (aCons (eVar 4) aNil)))))))
def f_read_turn : List PV → IH → Res PV := fn 3 2 b_read_turn

def b_read_plan : SX :=
    sSeq (sSet 1 (eLc (eIter (eSplit (eVar 0) (eC (.str "\n")))) (gVar 9) tYesX (eLc (eIter (eSplit (eVar 9) (eC (.str " ")))) (gVar 8) (tBl (eOp pNe (eVar 8) (eC (.str "")))) (eVar 8) [8]) [9]))
    (sSeq (sSet 2 (eOp pIdx (eVar 1) (eC (.int 0))))
    (sSeq (sExpr (eCall f_check_name (aCons (eVar 2) (aCons (eC (.int 0)) (aCons (eC (.str "roads")) aNil)))))
    (sSeq (sSet 3 (eCall f_number_at (aCons (eVar 2) (aCons (eC (.int 1)) (aCons (eC (.int 1)) (aCons (eC (.int 1)) (aCons (eC (.int 5)) aNil)))))))
    (sSeq (sExpr (eCall f_check_name (aCons (eVar 2) (aCons (eC (.int 2)) (aCons (eC (.str "cost")) aNil)))))
    (sSeq (sSet 4 (eCall f_fraction_of (aCons (eCall f_word_at (aCons (eVar 2) (aCons (eC (.int 1)) (aCons (eC (.int 3)) aNil)))) aNil)))
    (sSeq (sIf (tOrX (tBl (eOp pIsN (eVar 4) (eC .non))) (tNotX (tTru (eCall f_is_within (aCons (eVar 4) (aCons (eC (.int 0)) (aCons (eC (.int 1000000000000)) aNil))))))) (sRaiseN "InvalidText" ["line", "word"] (aCons (eC (.int 1)) (aCons (eC (.int 4)) aNil))) sNil)
    (sSeq (sExpr (eCall f_check_length (aCons (eVar 2) (aCons (eC (.int 1)) (aCons (eC (.int 4)) aNil)))))
    (sSeq (sSet 5 (eLst aNil))
    (sSeq (sFor (eEnum (aCons (eSl (eVar 1) (oSome (eC (.int 1))) oNone) aNil)) (gTupF [6, 7]) (sSeq (sIf (tBl (eOp pEq (eB pLen (aCons (eVar 5) aNil)) (eC (.int 60)))) (sRaiseN "InvalidText" ["line", "word"] (aCons (eOp pAdd (eVar 6) (eC (.int 2))) (aCons (eC (.int 1)) aNil))) sNil)
    (sExpr (eAppend (eVar 5) (aCons (eCall f_read_turn (aCons (eVar 7) (aCons (eOp pAdd (eVar 6) (eC (.int 2))) (aCons (eVar 3) aNil)))) aNil)))))
    (sRet (eCall (mkO "Plan" f_Plan___init__) (aCons (eVar 3) (aCons (eB pTuple1 (aCons (eVar 5) aNil)) (aCons (eVar 4) aNil))))))))))))))
def f_read_plan : List PV → IH → Res PV := fn 1 9 b_read_plan

def b__law_mix : SX :=
    sSeq (sSet 2 (eVar 1))
    (sSeq (sFor (eIter (eVar 0)) (gVar 3) (sSet 2 (eOp pMod (eB pInt1 (aCons (eOp pAdd (eOp pAdd (eOp pMul (eVar 2) (eC (.int 48271))) (eOp pMod (eB pInt1 (aCons (eVar 3) aNil)) (eC (.int 2147483629)))) (eC (.int 1))) aNil)) (eC (.int 2147483647)))))
    (sRet (eLst (aCons (eVar 2) (aCons (eB pList1 (aCons (eVar 0) aNil)) (aCons (eC (.int 0)) aNil))))))
def f__law_mix : List PV → IH → Res PV := fn 2 2 b__law_mix

def b__law_next : SX :=
    sSeq (sSet 2 (eOp pIdx (eOp pAdd (eOp pIdx (eVar 0) (eC (.int 1))) (eLst (aCons (eC (.int 0)) aNil))) (eOp pMod (eB pInt1 (aCons (eOp pIdx (eVar 0) (eC (.int 2))) aNil)) (eB pMax2 (aCons (eC (.int 1)) (aCons (eB pLen (aCons (eOp pIdx (eVar 0) (eC (.int 1))) aNil)) aNil))))))
    (sSeq (sIf (tBl (eOp pGe (eVar 2) (eOp pPow (eC (.int 10)) (eC (.int 18))))) (sSeq (sSet 3 (eOp pIdx (eVar 0) (eC (.int 1))))
    (sSeq (sSetIx (eVar 3) (eOp pMod (eB pInt1 (aCons (eOp pIdx (eVar 0) (eC (.int 2))) aNil)) (eB pLen (aCons (eVar 3) aNil))) (eOp pDiv (eVar 2) (eVar 1)))
    (sRet (eOp pMod (eB pInt1 (aCons (eVar 2) aNil)) (eVar 1))))) sNil)
    (sSeq (sSetIx (eVar 0) (eC (.int 0)) (eOp pMod (eB pInt1 (aCons (eOp pAdd (eOp pAdd (eOp pMul (eOp pIdx (eVar 0) (eC (.int 0))) (eC (.int 48271))) (eOp pMul (eVar 2) (eC (.int 69621)))) (eC (.int 11))) aNil)) (eC (.int 2147483647))))
    (sSeq (sSetIx (eVar 0) (eC (.int 2)) (eOp pAdd (eOp pIdx (eVar 0) (eC (.int 2))) (eC (.int 1))))
    (sRet (eOp pMod (eB pInt1 (aCons (eOp pDiv (eOp pIdx (eVar 0) (eC (.int 0))) (eC (.int 7))) aNil)) (eVar 1))))))
def f__law_next : List PV → IH → Res PV := fn 2 2 b__law_next

def b__law_part : SX :=
    sSeq (sPar 0 1 (aCons (eB pAbs (aCons (eVar 0) aNil)) (aCons (eB pAbs (aCons (eVar 1) aNil)) aNil)))
    (sSeq (sWhile (tBl (eOp pNe (eVar 1) (eC (.int 0)))) (sPar 0 1 (aCons (eVar 1) (aCons (eOp pSub (eVar 0) (eOp pMul (eOp pDiv (eVar 0) (eVar 1)) (eVar 1))) aNil))))
    (sRet (eVar 0)))
def f__law_part : List PV → IH → Res PV := fn 2 0 b__law_part

def b__law_f : SX :=
    sSeq (sSet 2 (eCall f__law_part (aCons (eVar 0) (aCons (eVar 1) aNil))))
    (sRet (eTup (aCons (eOp pDiv (eVar 0) (eVar 2)) (aCons (eOp pDiv (eVar 1) (eVar 2)) aNil))))
def f__law_f : List PV → IH → Res PV := fn 2 1 b__law_f

def b__law_add : SX :=
    sRet (eCall f__law_f (aCons (eOp pAdd (eOp pMul (eOp pIdx (eVar 0) (eC (.int 0))) (eOp pIdx (eVar 1) (eC (.int 1)))) (eOp pMul (eOp pIdx (eVar 1) (eC (.int 0))) (eOp pIdx (eVar 0) (eC (.int 1))))) (aCons (eOp pMul (eOp pIdx (eVar 0) (eC (.int 1))) (eOp pIdx (eVar 1) (eC (.int 1)))) aNil)))
def f__law_add : List PV → IH → Res PV := fn 2 0 b__law_add

def b__law_mul : SX :=
    sRet (eCall f__law_f (aCons (eOp pMul (eOp pIdx (eVar 0) (eC (.int 0))) (eOp pIdx (eVar 1) (eC (.int 0)))) (aCons (eOp pMul (eOp pIdx (eVar 0) (eC (.int 1))) (eOp pIdx (eVar 1) (eC (.int 1)))) aNil)))
def f__law_mul : List PV → IH → Res PV := fn 2 0 b__law_mul

def b__law_div : SX :=
    sRet (eCall f__law_f (aCons (eOp pMul (eOp pIdx (eVar 0) (eC (.int 0))) (eOp pIdx (eVar 1) (eC (.int 1)))) (aCons (eOp pMul (eOp pIdx (eVar 0) (eC (.int 1))) (eOp pIdx (eVar 1) (eC (.int 0)))) aNil)))
def f__law_div : List PV → IH → Res PV := fn 2 0 b__law_div

def b__law_under : SX :=
    sRet (eOp pLt (eOp pMul (eOp pIdx (eVar 0) (eC (.int 0))) (eOp pIdx (eVar 1) (eC (.int 1)))) (eOp pMul (eOp pIdx (eVar 1) (eC (.int 0))) (eOp pIdx (eVar 0) (eC (.int 1)))))
def f__law_under : List PV → IH → Res PV := fn 2 0 b__law_under

def b__law_reach : SX :=
    sSeq (sSet 2 (eCall f__law_next (aCons (eVar 0) (aCons (eC (.int 4)) aNil))))
    (sSeq (sIf (tBl (eOp pEq (eVar 2) (eC (.int 0)))) (sRet (eCall f__law_f (aCons (eOp pAdd (eC (.int 1)) (eCall f__law_next (aCons (eVar 0) (aCons (eC (.int 40)) aNil)))) (aCons (eOp pAdd (eC (.int 1)) (eCall f__law_next (aCons (eVar 0) (aCons (eC (.int 12)) aNil)))) aNil)))) sNil)
    (sSeq (sIf (tBl (eOp pEq (eVar 2) (eC (.int 1)))) (sRet (eCall f__law_f (aCons (eOp pAdd (eC (.int 1)) (eCall f__law_next (aCons (eVar 0) (aCons (eC (.int 9)) aNil)))) (aCons (eC (.int 1)) aNil)))) sNil)
    (sRet (eCall f__law_f (aCons (eOp pAdd (eVar 1) (eCall f__law_next (aCons (eVar 0) (aCons (eOp pAdd (eVar 1) (eC (.int 2))) aNil)))) (aCons (eOp pAdd (eC (.int 1)) (eCall f__law_next (aCons (eVar 0) (aCons (eC (.int 2)) aNil)))) aNil))))))
def f__law_reach : List PV → IH → Res PV := fn 2 1 b__law_reach

def b__law_turns : SX :=
    sSeq (sPar 3 4 (aCons (eLst aNil) (aCons (eOp pAdd (eC (.int 1)) (eCall f__law_next (aCons (eVar 0) (aCons (eC (.int 2)) aNil)))) aNil)))
    (sSeq (sFor (eRange1 (aCons (eCall f__law_next (aCons (eVar 0) (aCons (eOp pAdd (eVar 2) (eC (.int 1))) aNil))) aNil)) (gVar 5) (sSeq (sSet 6 (eIf (tBl (eOp pGt (eCall f__law_next (aCons (eVar 0) (aCons (eC (.int 4)) aNil))) (eC (.int 0)))) (eOp pSub (eVar 5) (eOp pMul (eOp pDiv (eVar 5) (eVar 1)) (eVar 1))) (eCall f__law_next (aCons (eVar 0) (aCons (eVar 1) aNil)))))
    (sSeq (sExpr (eAppend (eVar 3) (aCons (eTup (aCons (eVar 6) (aCons (eCall f__law_reach (aCons (eVar 0) (aCons (eVar 4) aNil))) aNil))) aNil)))
    (sSet 4 (eB pMin2 (aCons (eOp pPow (eC (.int 10)) (eC (.int 9))) (aCons (eOp pAdd (eVar 4) (eCall f__law_next (aCons (eVar 0) (aCons (eOp pAdd (eVar 4) (eC (.int 1))) aNil)))) aNil)))))))
    (sRet (eB pTuple1 (aCons (eVar 3) aNil))))
def f__law_turns : List PV → IH → Res PV := fn 3 4 b__law_turns

def b__law_plan : SX :=
    sSeq (sSet 2 (eOp pAdd (eC (.int 1)) (eCall f__law_next (aCons (eVar 0) (aCons (eC (.int 5)) aNil)))))
    (sSeq (sSet 3 (eIf (tBl (eOp pEq (eCall f__law_next (aCons (eVar 0) (aCons (eC (.int 2)) aNil))) (eC (.int 0)))) (eTup (aCons (eC (.int 0)) (aCons (eC (.int 1)) aNil))) (eCall f__law_f (aCons (eCall f__law_next (aCons (eVar 0) (aCons (eC (.int 9)) aNil))) (aCons (eOp pAdd (eC (.int 1)) (eCall f__law_next (aCons (eVar 0) (aCons (eC (.int 4)) aNil)))) aNil)))))
    (sRet (eLst (aCons (eVar 2) (aCons (eCall f__law_turns (aCons (eVar 0) (aCons (eVar 2) (aCons (eVar 1) aNil)))) (aCons (eVar 3) aNil))))))
def f__law_plan : List PV → IH → Res PV := fn 2 2 b__law_plan

def b__law_walked : SX :=
    sSeq (sSet 3 (eTup (aCons (eC (.int 0)) (aCons (eC (.int 1)) aNil))))
    (sSeq (sFor (eIter (eOp pIdx (eVar 0) (eC (.int 1)))) (gTupF [4, 5]) (sSeq (sIf (tAndX (tBl (eOp pEq (eVar 4) (eVar 1))) (tNotX (tTru (eCall f__law_under (aCons (eVar 5) (aCons (eVar 2) aNil)))))) (sRet (eCall f__law_add (aCons (eVar 3) (aCons (eVar 2) aNil)))) sNil)
    (sSet 3 (eCall f__law_add (aCons (eVar 3) (aCons (eCall f__law_add (aCons (eCall f__law_mul (aCons (eTup (aCons (eC (.int 2)) (aCons (eC (.int 1)) aNil))) (aCons (eVar 5) aNil))) (aCons (eOp pIdx (eVar 0) (eC (.int 2))) aNil))) aNil))))))
    (sRet (eC .non)))
def f__law_walked : List PV → IH → Res PV := fn 3 3 b__law_walked

def b__law_fault : SX :=
    sSeq (sSet 3 (eCall f__law_next (aCons (eVar 0) (aCons (eC (.int 4)) aNil))))
    (sSeq (sSet 4 (eB pStr1 (aCons (eOp pIdx (eVar 1) (eC (.int 0))) aNil)))
    (sSeq (sSet 5 (eLst (aCons (eC (.str "x")) (aCons (eC (.str "1/")) (aCons (eC (.str "/2")) (aCons (eC (.str "2/4")) (aCons (eC (.str "1/1")) (aCons (eC (.str "-1")) (aCons (eC (.str "01")) (aCons (eC (.str "1/02")) (aCons (eC (.str "1.5")) (aCons (eC (.str "1/2/3")) (aCons (eB pStr1 (aCons (eOp pAdd (eOp pPow (eC (.int 10)) (eC (.int 12))) (eC (.int 1))) aNil)) (aCons (eC (.str "1/0")) (aCons (eC (.str "+1")) aNil)))))))))))))))
    (sSeq (sSet 6 (eOp pIdx (eVar 5) (eCall f__law_next (aCons (eVar 0) (aCons (eB pLen (aCons (eVar 5) aNil)) aNil)))))
    (sSeq (sIf (tBl (eOp pEq (eVar 3) (eC (.int 0)))) (sSeq (sSet 7 (eLst (aCons (eLst (aCons (eOp pAdd (eOp pAdd (eC (.str "road ")) (eVar 4)) (eC (.str " cost 0"))) (aCons (eC (.int 1)) aNil))) (aCons (eLst (aCons (eC (.str "roads 0 cost 0")) (aCons (eC (.int 2)) aNil))) (aCons (eLst (aCons (eC (.str "roads 6 cost 0")) (aCons (eC (.int 2)) aNil))) (aCons (eLst (aCons (eC (.str "roads")) (aCons (eC (.int 2)) aNil))) aNil))))))
    (sSeq (sSet 7 (eOp pAdd (eVar 7) (eLst (aCons (eLst (aCons (eOp pAdd (eC (.str "roads ")) (eVar 4)) (aCons (eC (.int 3)) aNil))) (aCons (eLst (aCons (eOp pAdd (eOp pAdd (eC (.str "roads ")) (eVar 4)) (eC (.str " costs 0"))) (aCons (eC (.int 3)) aNil))) (aCons (eLst (aCons (eOp pAdd (eOp pAdd (eC (.str "roads ")) (eVar 4)) (eC (.str " cost"))) (aCons (eC (.int 4)) aNil))) aNil))))))
    (sSeq (sExpr (eAppend (eVar 7) (aCons (eLst (aCons (eOp pAdd (eOp pAdd (eOp pAdd (eC (.str "roads ")) (eVar 4)) (eC (.str " cost "))) (eVar 6)) (aCons (eC (.int 4)) aNil))) aNil)))
    (sSeq (sSet 7 (eOp pAdd (eVar 7) (eLst (aCons (eLst (aCons (eOp pAdd (eOp pAdd (eC (.str "roads ")) (eVar 4)) (eC (.str " cost 0 0"))) (aCons (eC (.int 5)) aNil))) (aCons (eLst (aCons (eC (.str "")) (aCons (eC (.int 1)) aNil))) (aCons (eLst (aCons (eC (.str "roads 02 cost 1")) (aCons (eC (.int 2)) aNil))) (aCons (eLst (aCons (eC (.str "cost 0 roads 2")) (aCons (eC (.int 1)) aNil))) aNil)))))))
    (sSeq (sSet 8 (eOp pIdx (eVar 7) (eCall f__law_next (aCons (eVar 0) (aCons (eB pLen (aCons (eVar 7) aNil)) aNil)))))
    (sRet (eLst (aCons (eOp pAdd (eLst (aCons (eOp pIdx (eVar 8) (eC (.int 0))) aNil)) (eSl (eVar 2) (oSome (eC (.int 1))) oNone)) (aCons (eC (.int 1)) (aCons (eOp pIdx (eVar 8) (eC (.int 1))) aNil)))))))))) sNil)
    (sSeq (sIf (tBl (eOp pEq (eVar 3) (eC (.int 1)))) (sSeq (sSet 9 (eCall f__law_next (aCons (eVar 0) (aCons (eOp pAdd (eB pLen (aCons (eVar 2) aNil)) (eC (.int 1))) aNil))))
    (sRet (eLst (aCons (eOp pAdd (eOp pAdd (eSl (eVar 2) oNone (oSome (eVar 9))) (eLst (aCons (eC (.str "  ")) aNil))) (eSl (eVar 2) (oSome (eVar 9)) oNone)) (aCons (eOp pAdd (eVar 9) (eC (.int 1))) (aCons (eC (.int 1)) aNil)))))) sNil)
    (sSeq (sIf (tOrX (tBl (eOp pEq (eVar 3) (eC (.int 2)))) (tBl (eOp pEq (eOp pIdx (eVar 1) (eC (.int 1))) (eTup aNil)))) (sRet (eLst (aCons (eOp pAdd (eOp pAdd (eSl (eVar 2) oNone (oSome (eC (.int 1)))) (eOp pMulL (eLst (aCons (eC (.str "0 1")) aNil)) (eC (.int 60)))) (eLst (aCons (eOp pIdx (eLst (aCons (eC (.str "0 1")) (aCons (eC (.str "")) (aCons (eC (.str "x")) aNil)))) (eCall f__law_next (aCons (eVar 0) (aCons (eC (.int 3)) aNil)))) aNil))) (aCons (eC (.int 62)) (aCons (eC (.int 1)) aNil))))) sNil)
    (sSeq (sSet 10 (eCall f__law_next (aCons (eVar 0) (aCons (eB pLen (aCons (eOp pIdx (eVar 1) (eC (.int 1))) aNil)) aNil))))
    (sSeq (sSet 11 (eB pStr1 (aCons (eOp pIdx (eOp pIdx (eOp pIdx (eVar 1) (eC (.int 1))) (eVar 10)) (eC (.int 0))) aNil)))
    (sSeq (sSet 12 (eLst (aCons (eLst (aCons (eOp pAdd (eVar 4) (eC (.str " 1"))) (aCons (eC (.int 1)) aNil))) (aCons (eLst (aCons (eC (.str "x 1")) (aCons (eC (.int 1)) aNil))) (aCons (eLst (aCons (eVar 11) (aCons (eC (.int 2)) aNil))) (aCons (eLst (aCons (eOp pAdd (eOp pAdd (eVar 11) (eC (.str " "))) (eVar 6)) (aCons (eC (.int 2)) aNil))) (aCons (eLst (aCons (eOp pAdd (eVar 11) (eC (.str " 0"))) (aCons (eC (.int 2)) aNil))) (aCons (eLst (aCons (eC (.str "")) (aCons (eC (.int 1)) aNil))) aNil))))))))
    (sSeq (sExpr (eAppend (eVar 12) (aCons (eLst (aCons (eOp pAdd (eOp pIdx (eVar 2) (eOp pAdd (eVar 10) (eC (.int 1)))) (eC (.str " 1"))) (aCons (eC (.int 3)) aNil))) aNil)))
    (sSeq (sSet 12 (eOp pAdd (eVar 12) (eLst (aCons (eLst (aCons (eC (.str "-1 1")) (aCons (eC (.int 1)) aNil))) (aCons (eLst (aCons (eC (.str "00 1")) (aCons (eC (.int 1)) aNil))) (aCons (eLst (aCons (eOp pAdd (eOp pIdx (eVar 2) (eOp pAdd (eVar 10) (eC (.int 1)))) (eC (.str " x"))) (aCons (eC (.int 3)) aNil))) aNil))))))
    (sSeq (sSet 8 (eOp pIdx (eVar 12) (eCall f__law_next (aCons (eVar 0) (aCons (eB pLen (aCons (eVar 12) aNil)) aNil)))))
    (sRet (eLst (aCons (eOp pAdd (eOp pAdd (eSl (eVar 2) oNone (oSome (eOp pAdd (eVar 10) (eC (.int 1))))) (eLst (aCons (eOp pIdx (eVar 8) (eC (.int 0))) aNil))) (eSl (eVar 2) (oSome (eOp pAdd (eVar 10) (eC (.int 2)))) oNone)) (aCons (eOp pAdd (eVar 10) (eC (.int 2))) (aCons (eOp pIdx (eVar 8) (eC (.int 1))) aNil)))))))))))))))))
def f__law_fault : List PV → IH → Res PV := fn 3 10 b__law_fault

def b_law : SX :=
    sSeq (sSet 1 (eCall f__law_mix (aCons (eVar 0) (aCons (eC (.int 9)) aNil))))
    (sSeq (sSet 2 (eCall f__law_plan (aCons (eVar 1) (aCons (eC (.int 12)) aNil))))
    (sSeq (sSet 3 (eCall f_write_plan (aCons (eCall (mkO "Plan" f_Plan___init__) (aCons (eOp pIdx (eVar 2) (eC (.int 0))) (aCons (eOp pIdx (eVar 2) (eC (.int 1))) (aCons (eOp pIdx (eVar 2) (eC (.int 2))) aNil)))) aNil)))
    (sSeq (sAsgU [4, 5, 6] (eCall f__law_fault (aCons (eVar 1) (aCons (eVar 2) (aCons (eSplit (eVar 3) (eC (.str "\n"))) aNil)))))
    (sSeq (sSet 7 (eC .non))
    (sSeq (sTryAs exCs (sExpr (eCall f_read_plan (aCons (eJoin (eC (.str "\n")) (eLc (eIter (eVar 4)) (gVar 9) tYesX (eVar 9) [9])) aNil))) "InvalidText" 8 (fun ev => sSet 7 (eIf (tTru (eIsE exCs ev "RoadError")) (eTup (aCons (eXf exCs exFl ev "line") (aCons (eXf exCs exFl ev "word") aNil))) (eC .non))))
    (sRet (eAnd (eOp pEq (eVar 7) (eTup (aCons (eVar 5) (aCons (eVar 6) aNil)))) (eOp (pEqO "Plan" f_Plan___eq__) (eCall f_read_plan (aCons (eVar 3) aNil)) (eCall (mkO "Plan" f_Plan___init__) (aCons (eOp pIdx (eVar 2) (eC (.int 0))) (aCons (eOp pIdx (eVar 2) (eC (.int 1))) (aCons (eOp pIdx (eVar 2) (eC (.int 2))) aNil))))))))))))
def f_law : List PV → IH → Res PV := fn 1 9 b_law

end WR

namespace WR
open PySem PySem.Spec PyProof.Rows L2
/-! ### data -/
@[simp] theorem data_int (n : Nat) (h : IH) (i : Int) : dataOf n h (.int i) = some (.int i) := by cases n <;> rfl
@[simp] theorem data_bl (n : Nat) (h : IH) (b : Bool) : dataOf n h (.bl b) = some (.bool b) := by cases n <;> rfl
@[simp] theorem data_non (n : Nat) (h : IH) : dataOf n h .non = some .none := by cases n <;> rfl
@[simp] theorem data_str (n : Nat) (h : IH) (x : Str) : dataOf n h (.str x) = some (.str x) := by cases n <;> rfl
theorem shaped_int (i : Int) : SeqAt.shaped (.int i) = true := by
  simp [SeqAt.shaped, PyData.canLay0, PyData.depth]
@[simp] theorem eqB_int (i j : Int) (h : IH) : pEqB (.int i) (.int j) h = some (i == j) := by
  simp [pEqB, shaped_int, PyData.eqv]
/-! ### fractions -/
def fq (q : Rat) : PV := .tup [.int q.num, .int q.den]
/-- of at most N bits -/
def Sm (N : Nat) (q : Rat) : Prop := q.num.natAbs < 2 ^ N ∧ q.den < 2 ^ N
theorem Sm.mono {M N : Nat} {q : Rat} (h : Sm M q) (l : M ≤ N) : Sm N q := ⟨Nat.lt_of_lt_of_le h.1 (Nat.pow_le_pow_right (by decide) l), Nat.lt_of_lt_of_le h.2 (Nat.pow_le_pow_right (by decide) l)⟩
theorem log_of {n N : Nat} (h : n < 2 ^ N) (hN : 0 < N) : n.log2 < N := by
  by_cases h0 : n = 0
  · subst h0; simpa using hN
  · exact (Nat.log2_lt h0).mpr h
theorem mul_ok {i j : Int} {A B : Nat} (hi : i.natAbs < 2 ^ A) (hj : j.natAbs < 2 ^ B) (h : A + B ≤ 999990) : mulOk i j = true := by
  unfold mulOk
  have h1 : i.natAbs.log2 < A + 1 := log_of (Nat.lt_of_lt_of_le hi (Nat.pow_le_pow_right (by decide) (by omega))) (by omega)
  have h2 : j.natAbs.log2 < B + 1 := log_of (Nat.lt_of_lt_of_le hj (Nat.pow_le_pow_right (by decide) (by omega))) (by omega)
  have h3 : i.natAbs.log2 + j.natAbs.log2 < 1000000 := by omega
  rw [Bool.or_eq_true]
  exact .inr (decide_eq_true h3)
/-! ### Euclid -/
theorem euc_loop {c : TX} {B : SX} {P : Int → Int → Prop} (r : Fm) (h : IH) (hc0 : ∀ a, c (some (.int a) :: some (.int 0) :: r) h = .ok false h)
    (hc : ∀ a b, 0 < b → c (some (.int a) :: some (.int b) :: r) h = .ok true h)
    (hB : ∀ a b, 0 ≤ a → 0 < b → P a b → B (some (.int a) :: some (.int b) :: r) h = .nx (some (.int b) :: some (.int (a % b)) :: r) h ∧ P b (a % b)) :
    ∀ (n : Nat) (a b : Int), 0 ≤ a → 0 ≤ b → b < 2 ^ n → P a b → ∀ k, 2 * n + 1 ≤ k →
    ∃ z, whileL c B k (some (.int a) :: some (.int b) :: r) h = .nx (some (.int (Int.gcd a b)) :: some (.int z) :: r) h := by
  intro n
  induction n with
  | zero =>
    intro a b ha hb hl hp k hk
    have b0 : b = 0 := by omega
    subst b0
    obtain ⟨k, rfl⟩ : ∃ m, k = m + 1 := ⟨k - 1, by omega⟩
    refine ⟨0, ?_⟩
    simp [whileL, hc0, Int.natAbs_of_nonneg ha]
  | succ n ih =>
    intro a b ha hb hl hp k hk
    obtain ⟨k, rfl⟩ : ∃ m, k = m + 2 := ⟨k - 2, by omega⟩
    by_cases b0 : b = 0
    · subst b0
      refine ⟨0, ?_⟩
      simp [whileL, hc0, Int.natAbs_of_nonneg ha]
    · have bp : 0 < b := by omega
      obtain ⟨s1, p1⟩ := hB a b ha bp hp
      have e1 : whileL c B (k + 2) (some (.int a) :: some (.int b) :: r) h = whileL c B (k + 1) (some (.int b) :: some (.int (a % b)) :: r) h := by
        rw [show k + 2 = (k + 1) + 1 from rfl]
        conv => lhs; unfold whileL
        simp [hc a b bp, s1]
      have m0 := Int.emod_nonneg a b0
      have m1 := Int.emod_lt_of_pos a bp
      by_cases r0 : a % b = 0
      · refine ⟨0, ?_⟩
        rw [e1, r0]
        have g : (Int.gcd a b : Int) = b := Int.gcd_eq_right hb (Int.dvd_of_emod_eq_zero r0)
        rw [g]
        simp [whileL, hc0]
      · have rp : 0 < a % b := by omega
        obtain ⟨s2, p2⟩ := hB b (a % b) hb rp p1
        have e2 : whileL c B (k + 1) (some (.int b) :: some (.int (a % b)) :: r) h = whileL c B k (some (.int (a % b)) :: some (.int (b % (a % b))) :: r) h := by
          conv => lhs; unfold whileL
          simp [hc b (a % b) rp, s2]
        rw [e1, e2]
        have q0 := Int.emod_nonneg b r0
        have q1 := Int.emod_lt_of_pos b rp
        have half : 2 * (b % (a % b)) < b := by
          have d := Int.emod_add_mul_ediv b (a % b)
          have dp : 1 ≤ b / (a % b) := Int.le_ediv_of_mul_le rp (show 1 * (a % b) ≤ b by omega)
          have : (a % b) * 1 ≤ (a % b) * (b / (a % b)) := Int.mul_le_mul_of_nonneg_left dp m0
          omega
        have hl2 : b % (a % b) < 2 ^ n := by
          rw [Int.pow_succ] at hl
          omega
        obtain ⟨z, e⟩ := ih (a % b) (b % (a % b)) m0 q0 hl2 p2 k (by omega)
        refine ⟨z, ?_⟩
        rw [e]
        have g : Int.gcd (a % b) (b % (a % b)) = Int.gcd a b := by
          obtain ⟨m, rfl⟩ := Int.eq_ofNat_of_zero_le ha
          obtain ⟨n', rfl⟩ := Int.eq_ofNat_of_zero_le hb
          rw [← Int.natCast_emod, ← Int.natCast_emod, Int.gcd_natCast_natCast, Int.gcd_natCast_natCast, Nat.gcd_comm, ← Nat.gcd_rec, ← Nat.gcd_rec, Nat.gcd_comm]
        rw [g]
theorem cast_lt {b : Int} {N : Nat} (hb : b.natAbs < 2 ^ N) : (b.natAbs : Int) < 2 ^ N := by
  have := Int.ofNat_lt.mpr hb
  rwa [Int.natCast_pow] at this
theorem abs_eq (a : Int) : (if a < 0 then -a else a) = (a.natAbs : Int) := by omega
theorem gcd_abs (a b : Int) : Int.gcd (a.natAbs : Int) (b.natAbs : Int) = Int.gcd a b := by simp [Int.gcd]
theorem common_eq (a b : Int) (h : IH) (hb : b.natAbs < 2 ^ 9000) : f_common [.int a, .int b] h = .ok (.int (Int.gcd a b)) h := by
  obtain ⟨z, e⟩ := euc_loop (c := tTru (eVar 1)) (B := sPar 0 1 (aCons (eVar 1) (aCons (eOp pMod (eVar 0) (eVar 1)) aNil))) (P := fun _ _ => True) [] h (by intro a; simp) (by intro a b hb; simp; omega)
    (by intro a b ha hb _; simp [hb]) 9000 (a.natAbs : Int) (b.natAbs : Int) (by omega) (by omega) (cast_lt hb) trivial LIM (by decide)
  rw [gcd_abs] at e
  simp [f_common, b_common, sWhile, abs_eq, e]
/-! ### reduced fractions -/
theorem div_ok {n : Int} {d : Nat} (hd : 0 < d) (hs : d < 2 ^ 9000) : (0 : Int) < (Int.gcd n d : Int) ∧ ((Int.gcd n d : Int)).natAbs.log2 < 9000 := by
  have g0 : 0 < Int.gcd n d := Int.gcd_pos_of_ne_zero_right n (by omega)
  have g1 : Int.gcd n d ≤ d := Nat.gcd_le_right n.natAbs hd
  refine ⟨Int.natCast_pos.mpr g0, ?_⟩
  rw [Int.natAbs_natCast]
  exact log_of (Nat.lt_of_le_of_lt g1 hs) (by decide)
theorem fq_mk (n : Int) (d : Nat) (hd : 0 < d) : fq (mkRat n d) = .tup [.int (n / (Int.gcd n d : Int)), .int ((d : Int) / (Int.gcd n d : Int))] := by
  have e : Int.gcd n d = d.gcd n.natAbs := by rw [Int.gcd_comm]; rfl
  unfold fq
  rw [Rat.num_mkRat, Rat.den_mkRat, if_neg (by omega), if_neg (by omega), e]
  rw [Int.natCast_ediv]
theorem add_mk (a b : Rat) : a + b = mkRat (a.num * b.den + b.num * a.den) (a.den * b.den) := by
  rw [Rat.add_def, Rat.mkRat_def, dif_neg (Nat.mul_ne_zero a.den_nz b.den_nz)]
theorem mul_mk (a b : Rat) : a * b = mkRat (a.num * b.num) (a.den * b.den) := by
  rw [Rat.mul_def, Rat.mkRat_def, dif_neg (Nat.mul_ne_zero a.den_nz b.den_nz)]
theorem den_lt {a b : Rat} {A B : Nat} (ha : Sm A a) (hb : Sm B b) : a.den * b.den < 2 ^ (A + B) := by
  rw [Nat.pow_add]; exact Nat.mul_lt_mul'' ha.2 hb.2
theorem den_pos (a : Rat) : 0 < a.den := Nat.pos_of_ne_zero a.den_nz
theorem Sm.dn {A : Nat} {a : Rat} (h : Sm A a) : (a.den : Int).natAbs < 2 ^ A := by rw [Int.natAbs_natCast]; exact h.2
theorem num_pos {b : Rat} (hb : 0 < b) : 0 < b.num := by
  have := (Rat.lt_iff 0 b).mp hb
  simpa using this
theorem div_mk (a b : Rat) (hb : 0 < b) : a / b = mkRat (a.num * b.den) (a.den * b.num.natAbs) := by
  have p := num_pos hb
  rw [Rat.div_def, mul_mk, Rat.num_inv, Rat.den_inv, if_neg (by omega), Int.sign_eq_one_of_pos p, Int.one_mul]
/-! sizes of results -/
theorem mk_small {n : Int} {d N : Nat} (hn : n.natAbs < 2 ^ N) (hd : d < 2 ^ N) (h0 : 0 < d) : Sm N (mkRat n d) := by
  have e1 : (mkRat n d).num.natAbs ≤ n.natAbs := by
    rw [Rat.num_mkRat, if_neg (by omega)]
    exact Int.natAbs_ediv_le_natAbs _ _
  have e2 : (mkRat n d).den ≤ d := by
    rw [Rat.den_mkRat, if_neg (by omega)]
    exact Nat.div_le_self _ _
  exact ⟨Nat.lt_of_le_of_lt e1 hn, Nat.lt_of_le_of_lt e2 hd⟩
theorem Sm.add {A B : Nat} {a b : Rat} (ha : Sm A a) (hb : Sm B b) : Sm (A + B + 1) (a + b) := by
  rw [add_mk]
  refine mk_small ?_ (Nat.lt_of_lt_of_le (den_lt ha hb) (Nat.pow_le_pow_right (by decide) (by omega))) (Nat.mul_pos (den_pos a) (den_pos b))
  have x : (a.num * b.den).natAbs < 2 ^ (A + B) := by rw [Int.natAbs_mul, Nat.pow_add]; exact Nat.mul_lt_mul'' ha.1 hb.dn
  have y : (b.num * a.den).natAbs < 2 ^ (A + B) := by rw [Int.natAbs_mul, Nat.pow_add, Nat.mul_comm]; exact Nat.mul_lt_mul'' ha.dn hb.1
  have z := Int.natAbs_add_le (a.num * b.den) (b.num * a.den)
  rw [Nat.pow_succ]
  generalize 2 ^ (A + B) = M at x y ⊢
  omega
theorem Sm.mul {A B : Nat} {a b : Rat} (ha : Sm A a) (hb : Sm B b) : Sm (A + B) (a * b) := by
  rw [mul_mk]
  refine mk_small ?_ (den_lt ha hb) (Nat.mul_pos (den_pos a) (den_pos b))
  rw [Int.natAbs_mul, Nat.pow_add]; exact Nat.mul_lt_mul'' ha.1 hb.1
theorem Sm.div {A B : Nat} {a b : Rat} (ha : Sm A a) (hb : Sm B b) (hp : 0 < b) : Sm (A + B) (a / b) := by
  have p := num_pos hp
  rw [div_mk a b hp]
  refine mk_small ?_ (by rw [Nat.pow_add]; exact Nat.mul_lt_mul'' ha.2 hb.1) (Nat.mul_pos (den_pos a) (by omega))
  rw [Int.natAbs_mul, Nat.pow_add]; exact Nat.mul_lt_mul'' ha.1 hb.dn
/-! ### the law's own fractions -/
theorem part_eq (a b : Int) (h : IH) (ha : a.natAbs < 2 ^ 30000) (hb : b.natAbs < 2 ^ 9000) : f__law_part [.int a, .int b] h = .ok (.int (Int.gcd a b)) h := by
  obtain ⟨z, e⟩ := euc_loop (c := tBl (eOp pNe (eVar 1) (eC (.int 0)))) (B := sPar 0 1 (aCons (eVar 1) (aCons (eOp pSub (eVar 0) (eOp pMul (eOp pDiv (eVar 0) (eVar 1)) (eVar 1))) aNil)))
    (P := fun a b => a.natAbs < 2 ^ 30000 ∧ b.natAbs < 2 ^ 9000) [] h (by intro a; simp) (by intro a b hb; simp; omega)
    (by
      intro a b ha hb hp
      obtain ⟨p1, p2⟩ := hp
      have l : b.natAbs.log2 < 9000 := log_of p2 (by decide)
      have q : (a / b).natAbs < 2 ^ 30000 := Nat.lt_of_le_of_lt (Int.natAbs_ediv_le_natAbs _ _) p1
      have m := mul_ok q p2 (by decide)
      have e1 : a - a / b * b = a % b := by rw [Int.emod_def, Int.mul_comm]
      refine ⟨by simp [hb, l, m, e1], Nat.lt_of_lt_of_le p2 (Nat.pow_le_pow_right (by decide) (by decide)), ?_⟩
      have m0 := Int.emod_nonneg a (show b ≠ 0 by omega)
      have m1 := Int.emod_lt_of_pos a hb
      refine Nat.lt_trans ?_ p2
      omega) 9000 (a.natAbs : Int) (b.natAbs : Int) (by omega) (by omega) (cast_lt hb) (by simpa using ⟨ha, hb⟩) LIM (by decide)
  rw [gcd_abs] at e
  simp [f__law_part, b__law_part, sWhile, abs_eq, e]
theorem lf_eq (n : Int) (d : Nat) (h : IH) (hn : n.natAbs < 2 ^ 30000) (hd : 0 < d) (hs : d < 2 ^ 9000) : f__law_f [.int n, .int d] h = .ok (fq (mkRat n d)) h := by
  obtain ⟨q0, q1⟩ := div_ok (n := n) hd hs
  have c := part_eq n d h hn (by rw [Int.natAbs_natCast]; exact hs)
  rw [fq_mk n d hd]
  generalize ((Int.gcd n d : Nat) : Int) = g at c q0 q1 ⊢
  simp [f__law_f, b__law_f, c, q0, q1]
end WR

namespace WR
open PySem PySem.Spec PyProof.Rows L2
/-! ### the heap -/
theorem get_new {h : IH} {o : MO} : (h ++ [o])[h.length]? = some o := by simp
@[simp] theorem ga0 {h t : IH} : (h ++ t)[h.length]? = t[0]? := by rw [List.getElem?_append_right (Nat.le_refl _), Nat.sub_self]
@[simp] theorem ga1 {h t : IH} {k : Nat} : (h ++ t)[h.length + k]? = t[k]? := by rw [List.getElem?_append_right (by omega)]; congr 1; omega
theorem get_old {h : IH} {o : MO} {t : IH} {n : Nat} (e : h[n]? = some o) : (h ++ t)[n]? = some o := by
  rw [List.getElem?_append_left (List.getElem?_eq_some_iff.mp e).1]; exact e
theorem lt_of_get {h : IH} {o : MO} {n : Nat} (e : h[n]? = some o) : n < h.length := (List.getElem?_eq_some_iff.mp e).1
theorem atI_pos {α : Type} (xs : List α) (i : Int) (h0 : 0 ≤ i) (h1 : i < xs.length) : atI xs i = xs[i.toNat]? := by
  simp [atI, ixN, h0, h1]
@[simp] theorem atI_0 {α : Type} (x : α) (xs : List α) : atI (x :: xs) 0 = some x := by rw [atI_pos _ _ (by decide) (by simp)]; rfl
@[simp] theorem atI_1 {α : Type} (x y : α) (xs : List α) : atI (x :: y :: xs) 1 = some y := by rw [atI_pos _ _ (by decide) (by simp; omega)]; rfl
@[simp] theorem atI_2 {α : Type} (x y z : α) (xs : List α) : atI (x :: y :: z :: xs) 2 = some z := by rw [atI_pos _ _ (by decide) (by simp; omega)]; rfl
@[simp] theorem atI_m1 {α : Type} (x : α) (xs : List α) : atI (xs ++ [x]) (-1) = some x := by
  have : (1 : Int) ≤ (xs.length : Int) + 1 := by omega
  have t : (-1 + ((xs.length : Int) + 1)).toNat = xs.length := by omega
  simp [atI, ixN, this, t]
/-- the draw machine -/
structure DS (hi ci : Nat) (h : IH) : Prop where
  ne : hi ≠ ci
  st : ∃ a b : Int, h[hi]? = some (.lst [.int a, .obj ci, .int b])
  ce : ∃ cs : List Int, h[ci]? = some (.lst (cs.map .int)) ∧ cs.length ≤ 63
/-- all but the machine stays -/
structure Kp (hi ci : Nat) (h h' : IH) : Prop where
  le : h.length ≤ h'.length
  get : ∀ n o, n ≠ hi → n ≠ ci → h[n]? = some o → h'[n]? = some o
theorem Kp.refl (hi ci : Nat) (h : IH) : Kp hi ci h h := ⟨Nat.le_refl _, fun _ _ _ _ e => e⟩
theorem Kp.trans {hi ci : Nat} {h h1 h2 : IH} (a : Kp hi ci h h1) (b : Kp hi ci h1 h2) : Kp hi ci h h2 := ⟨Nat.le_trans a.le b.le, fun n o x y e => b.get n o x y (a.get n o x y e)⟩
theorem Kp.app (hi ci : Nat) (h t : IH) : Kp hi ci h (h ++ t) := ⟨by simp, fun _ _ _ _ e => get_old e⟩
theorem DS.app {hi ci : Nat} {h : IH} (d : DS hi ci h) (t : IH) : DS hi ci (h ++ t) := by
  obtain ⟨a, b, e⟩ := d.st
  obtain ⟨cs, f, l⟩ := d.ce
  exact ⟨d.ne, ⟨a, b, get_old e⟩, ⟨cs, get_old f, l⟩⟩
theorem next_eq {hi ci : Nat} {h : IH} (d : DS hi ci h) (b : Int) (h0 : 0 < b) (hs : b.natAbs.log2 < 9000) :
    ∃ r h', f__law_next [.obj hi, .int b] h = .ok (.int r) h' ∧ 0 ≤ r ∧ r < b ∧ DS hi ci h' ∧ Kp hi ci h h' := by
  obtain ⟨a, ix, e⟩ := d.st
  obtain ⟨cs, f, l⟩ := d.ce
  have hne := d.ne
  have lh := lt_of_get e
  have lc := lt_of_get f
  obtain ⟨M, hM, mb, m6, mn⟩ : ∃ M : Int, (if 1 < (cs.length : Int) then (cs.length : Int) else 1) = M ∧ 0 < M ∧ M ≤ 63 ∧ M ≤ cs.length + 1 := by
    refine ⟨_, rfl, ?_, ?_, ?_⟩ <;> split <;> omega
  have ml : M.natAbs.log2 < 9000 := log_of (Nat.lt_of_lt_of_le (show _ < 2 ^ 7 by omega) (Nat.pow_le_pow_right (by decide) (by decide))) (by decide)
  have i0 := Int.emod_nonneg ix (show M ≠ 0 by omega)
  have i1 := Int.emod_lt_of_pos ix mb
  obtain ⟨c, hc, h1⟩ : ∃ c : Int, atI (cs.map PV.int ++ [.int 0]) (ix % M) = some (.int c) ∧ (0 < c → 0 < cs.length) := by
    rw [atI_pos _ _ i0 (by simp; omega)]
    by_cases q : (ix % M).toNat < cs.length
    · exact ⟨cs[(ix % M).toNat], by rw [List.getElem?_append_left (by simpa using q)]; simp [q], fun _ => by omega⟩
    · have : (ix % M).toNat = cs.length := by omega
      exact ⟨0, by rw [this]; simp, by simp⟩
  have e1 : ∀ t, (h ++ t)[hi]? = some (.lst [.int a, .obj ci, .int ix]) := fun t => get_old e
  have f1 : ∀ t, (h ++ t)[ci]? = some (.lst (cs.map .int)) := fun t => get_old f
  have gb : (10 : Int) ^ 18 = 1000000000000000000 := by decide
  have l2 : cs.length ≤ 16777215 := by omega
  by_cases big : (1000000000000000000 : Int) ≤ c
  · have n0 : 0 < cs.length := h1 (by omega)
    have n0' : (0 : Int) < cs.length := by omega
    have nl : cs.length.log2 < 9000 := log_of (Nat.lt_of_lt_of_le (show _ < 2 ^ 7 by omega) (Nat.pow_le_pow_right (by decide) (by decide))) (by decide)
    have j0 := Int.emod_nonneg ix (show (cs.length : Int) ≠ 0 by omega)
    have j1 := Int.emod_lt_of_pos ix n0'
    simp [f__law_next, b__law_next, e, f, e1, f1, hc, hM, mb, ml, l2, big, hs, h0, hne, hne.symm, ixN, mulOk, gb, n0, nl, j0, j1]
    refine ⟨_, _, ⟨rfl, rfl⟩, Int.emod_nonneg _ (by omega), Int.emod_lt_of_pos _ h0, ⟨hne, ⟨a, ix, ?_⟩, ⟨cs.set (ix % cs.length).toNat (c / b), ?_, ?_⟩⟩, ⟨by simp, fun n o p q r => ?_⟩⟩
    · rw [List.getElem?_set_ne (Ne.symm hne)]; exact e1 _
    · rw [List.getElem?_set_self (by simp; omega), List.map_set]
    · simpa using l
    · rw [List.getElem?_set_ne (Ne.symm q)]; exact get_old r
  · have w1 : ∀ t o, ((h ++ t).set hi o)[hi]? = some o := fun t o => by rw [List.getElem?_set_self (by simp; omega)]
    simp [f__law_next, b__law_next, e, f, e1, f1, hc, hM, mb, ml, l2, big, hs, h0, hne, hne.symm, ixN, mulOk, gb, w1, show Nat.log2 7 < 9000 from by decide]
    refine ⟨_, _, ⟨rfl, rfl⟩, Int.emod_nonneg _ (by omega), Int.emod_lt_of_pos _ h0, ⟨hne, ⟨_, _, w1 _ _⟩, ⟨cs, ?_, l⟩⟩, ⟨by simp, fun n o p q r => ?_⟩⟩
    · rw [List.getElem?_set_ne hne]; exact f1 _
    · rw [List.getElem?_set_ne (Ne.symm p)]; exact get_old r
/-! ### the first state -/
theorem mix_loop (h : IH) (ns : List Int) (s : Int) (v : PV) : ∀ (k : Nat) (i : Nat) (a : Int) (c : Option PV), ns.length - i < k →
    ∃ a' c', forL (itList (ns.map PV.int)) (gVar 3) (sSet 2 (eOp pMod (eB pInt1 (aCons (eOp pAdd (eOp pAdd (eOp pMul (eVar 2) (eC (.int 48271))) (eOp pMod (eB pInt1 (aCons (eVar 3) aNil)) (eC (.int 2147483629)))) (eC (.int 1))) aNil)) (eC (.int 2147483647)))) k i [some v, some (.int s), some (.int a), c] h
      = .nx [some v, some (.int s), some (.int a'), c'] h := by
  intro k
  induction k with
  | zero => intro i a c hk; omega
  | succ k ih =>
    intro i a c hk
    by_cases q : i < ns.length
    · obtain ⟨a', c', e⟩ := ih (i + 1) ((a * 48271 + ns[i] % 2147483629 + 1) % 2147483647) (some (.int ns[i])) (by omega)
      refine ⟨a', c', ?_⟩
      rw [← e]
      conv => lhs; unfold forL
      simp [q, mulOk]
    · refine ⟨a, c, ?_⟩
      unfold forL
      simp [q]
theorem mix_eq (ns : List Int) (s : Int) (hl : ns.length ≤ 63) (h : IH) : ∃ h', f__law_mix [.fls (ns.map .int), .int s] h = .ok (.obj (h.length + 1)) h' ∧ DS (h.length + 1) h.length h' ∧ Kp (h.length + 1) h.length h h' := by
  obtain ⟨a', c', e⟩ := mix_loop h ns s (.fls (ns.map .int)) LIM 0 s none (by simp [LIM]; omega)
  refine ⟨h ++ [.lst (ns.map .int), .lst [.int a', .obj h.length, .int 0]], ?_, ⟨by omega, ⟨a', 0, by rw [ga1]; rfl⟩, ⟨ns, by rw [ga0]; rfl, hl⟩⟩, Kp.app _ _ _ _⟩
  simp [f__law_mix, b__law_mix, sFor, e, show ns.length ≤ 16777216 by omega]
end WR

namespace WR
open PySem PySem.Spec PyProof.Rows L2
/-! ### equality of data -/
structure EncOk {α : Type} [DecidableEq α] (n : Nat) (enc : α → PV) (den : α → PyData) : Prop where
  dat : ∀ m h a, n ≤ m → dataOf m h (enc a) = some (den a)
  lay : ∀ a, (den a).canLay0 = true
  dep : ∀ a, (den a).depth ≤ n + 1
  eqv : ∀ a b, PyData.eqv (den a) (den b) = decide (a = b)
theorem EncOk.eq {α : Type} [DecidableEq α] {n : Nat} {enc : α → PV} {den : α → PyData} (e : EncOk n enc den) (hn : n ≤ 12) (a b : α) (h : IH) : pEqB (enc a) (enc b) h = some (decide (a = b)) := by
  have s : ∀ a, SeqAt.shaped (den a) = true := fun a => by
    have := e.dep a
    simp [SeqAt.shaped, e.lay a]; omega
  simp [pEqB, e.dat DEP h _ hn, s, e.eqv]
theorem EncOk.int : EncOk 0 PV.int PyData.int := ⟨fun m h a _ => by simp, fun a => by simp [PyData.canLay0], fun a => by simp [PyData.depth], fun a b => by simp [PyData.eqv]; rfl⟩
theorem optAll_map {α β γ : Type} {f : β → Option γ} {g : α → β} {d : α → γ} (xs : List α) (h : ∀ a ∈ xs, f (g a) = some (d a)) : optAll f (xs.map g) = some (xs.map d) := by
  induction xs with
  | nil => rfl
  | cons x xs ih => simp only [List.map, optAll, h x (by simp), ih fun a ha => h a (by simp [ha])]
theorem canAll {α : Type} {d : α → PyData} (xs : List α) (h : ∀ a, (d a).canLay0 = true) : PyData.canLayAll0 (xs.map d) = true := by
  induction xs with
  | nil => rfl
  | cons x xs ih => simp [PyData.canLayAll0, h, ih]
theorem depAll {α : Type} {d : α → PyData} {n : Nat} (xs : List α) (h : ∀ a, (d a).depth ≤ n) : PyData.depthAll (xs.map d) ≤ n := by
  induction xs with
  | nil => simp [PyData.depthAll]
  | cons x xs ih =>
    have := h x
    simp only [List.map, PyData.depthAll]; omega
theorem eqvAll_map {α : Type} [DecidableEq α] {d : α → PyData} (h : ∀ a b, PyData.eqv (d a) (d b) = decide (a = b)) : ∀ xs ys : List α, PyData.eqvAll (xs.map d) (ys.map d) = decide (xs = ys)
  | [], [] => by simp [PyData.eqvAll]
  | [], y :: ys => by simp [PyData.eqvAll]
  | x :: xs, [] => by simp [PyData.eqvAll]
  | x :: xs, y :: ys => by simp [PyData.eqvAll, h, eqvAll_map h xs ys]
theorem EncOk.list {α : Type} [DecidableEq α] {n : Nat} {enc : α → PV} {den : α → PyData} (e : EncOk n enc den) : EncOk (n + 1) (fun xs : List α => .tup (xs.map enc)) (fun xs => .tuple (xs.map den)) := by
  refine ⟨fun m h a hm => ?_, fun a => ?_, fun a => ?_, fun a b => ?_⟩
  · obtain ⟨m, rfl⟩ : ∃ k, m = k + 1 := ⟨m - 1, by omega⟩
    simp only [dataOf, optAll_map a fun x _ => e.dat m h x (by omega), Option.map]
  · simp [PyData.canLay0, canAll a e.lay]
  · have := depAll a e.dep
    simp [PyData.depth]; omega
  · simp [PyData.eqv, eqvAll_map e.eqv]
theorem EncOk.pair {α β : Type} [DecidableEq α] [DecidableEq β] {n m : Nat} {enc : α → PV} {den : α → PyData} {enc' : β → PV} {den' : β → PyData} (e : EncOk n enc den) (f : EncOk m enc' den') :
    EncOk (n + m + 1) (fun x : α × β => .tup [enc x.1, enc' x.2]) (fun x => .tuple [den x.1, den' x.2]) := by
  refine ⟨fun k h a hm => ?_, fun a => ?_, fun a => ?_, fun a b => ?_⟩
  · obtain ⟨k, rfl⟩ : ∃ j, k = j + 1 := ⟨k - 1, by omega⟩
    simp only [dataOf, optAll, e.dat k h _ (by omega), f.dat k h _ (by omega), Option.map]
  · simp [PyData.canLay0, PyData.canLayAll0, e.lay, f.lay]
  · have := e.dep a.1
    have := f.dep a.2
    simp [PyData.depth, PyData.depthAll]; omega
  · simp [PyData.eqv, PyData.eqvAll, e.eqv, f.eqv, Prod.ext_iff]
theorem EncOk.rat : EncOk 1 fq fun q => .tuple [.int q.num, .int q.den] := by
  refine ⟨fun k h a hm => ?_, fun a => ?_, fun a => ?_, fun a b => ?_⟩
  · obtain ⟨k, rfl⟩ : ∃ j, k = j + 1 := ⟨k - 1, by omega⟩
    simp [fq, dataOf, optAll]
  · simp [PyData.canLay0, PyData.canLayAll0]
  · simp [PyData.depth, PyData.depthAll]
  · have x : (a = b) ↔ (a.num = b.num ∧ a.den = b.den) := ⟨fun h => by subst h; exact ⟨rfl, rfl⟩, fun h => Rat.ext h.1 h.2⟩
    simp only [PyData.eqv, PyData.eqvAll, decide_eq_decide.mpr x]
    simp [Int.natCast_inj, Bool.beq_eq_decide_eq]
/-- a fraction or None -/
def oq : Option Rat → PV
  | none => .non
  | some q => fq q
def oqD : Option Rat → PyData
  | none => .none
  | some q => .tuple [.int q.num, .int q.den]
theorem EncOk.opt : EncOk 1 oq oqD := by
  have e := EncOk.rat
  refine ⟨fun k h a hm => ?_, fun a => ?_, fun a => ?_, fun a b => ?_⟩
  · cases a with
    | none => simp [oq, oqD]
    | some q => exact e.dat k h q hm
  · cases a with
    | none => simp [oqD, PyData.canLay0]
    | some q => exact e.lay q
  · cases a with
    | none => simp [oqD, PyData.depth]
    | some q => exact e.dep q
  · cases a <;> cases b
    · simp [oqD, PyData.eqv]
    · simp [oqD, PyData.eqv]
    · simp [oqD, PyData.eqv]
    · rename_i a b
      have := e.eqv a b
      simp [oqD]
      rw [this]
@[simp] theorem eq_oq (a b : Option Rat) (h : IH) : pEqB (oq a) (oq b) h = some (decide (a = b)) := EncOk.opt.eq (by decide) a b h
@[simp] theorem eq_fq (a b : Rat) (h : IH) : pEqB (fq a) (fq b) h = some (decide (a = b)) := EncOk.rat.eq (by decide) a b h
/-- a turn -/
def tq (t : Int × Rat) : PV := .tup [.int t.1, fq t.2]
def tqs (T : List (Int × Rat)) : PV := .tup (T.map tq)
theorem EncOk.turn : EncOk 2 tq fun t => .tuple [.int t.1, .tuple [.int t.2.num, .int t.2.den]] := EncOk.int.pair EncOk.rat
theorem EncOk.turns : EncOk 3 tqs fun T => .tuple (T.map fun t => .tuple [.int t.1, .tuple [.int t.2.num, .int t.2.den]]) := EncOk.turn.list
/-- what a plan holds -/
def pq (x : Int × List (Int × Rat) × Rat) : PV := .tup [.int x.1, tqs x.2.1, fq x.2.2]
def pqD (x : Int × List (Int × Rat) × Rat) : PyData := .tuple [.int x.1, .tuple (x.2.1.map fun t => .tuple [.int t.1, .tuple [.int t.2.num, .int t.2.den]]), .tuple [.int x.2.2.num, .int x.2.2.den]]
theorem EncOk.plan : EncOk 4 pq pqD := by
  have e := EncOk.turns
  have f := EncOk.rat
  refine ⟨fun k h a hm => ?_, fun a => ?_, fun a => ?_, fun a b => ?_⟩
  · obtain ⟨k, rfl⟩ : ∃ j, k = j + 1 := ⟨k - 1, by omega⟩
    simp only [pq, pqD, dataOf, optAll, data_int, e.dat k h _ (by omega), f.dat k h _ (by omega), Option.map]
  · have := e.lay a.2.1
    have := f.lay a.2.2
    simp [pqD, PyData.canLay0, PyData.canLayAll0] at *; assumption
  · have := e.dep a.2.1
    simp [pqD, PyData.depth, PyData.depthAll] at *; omega
  · have := e.eqv a.2.1 b.2.1
    have g := f.eqv a.2.2 b.2.2
    simp only [pqD, PyData.eqv, PyData.eqvAll] at *
    rw [this, g]
    simp [Prod.ext_iff, Bool.beq_eq_decide_eq]
@[simp] theorem eq_pq (a b : Int × List (Int × Rat) × Rat) (h : IH) : pEqB (pq a) (pq b) h = some (decide (a = b)) := EncOk.plan.eq (by decide) a b h
@[simp] theorem eq_tqs (a b : List (Int × Rat)) (h : IH) : pEqB (tqs a) (tqs b) h = some (decide (a = b)) := EncOk.turns.eq (by decide) a b h
@[simp] theorem eq_tqs0 (a : List (Int × Rat)) (h : IH) : pEqB (tqs a) (.tup []) h = some (decide (a = [])) := EncOk.turns.eq (by decide) a [] h
/-! ### loops -/
@[simp] def stepF (it : ItF) (g : TgF) (B : SX) (i : Nat) (r : Fm) (h : IH) : RS := match it i h with
  | some (some v) => (match g v r with
    | some r1 => B r1 h
    | none => .bad)
  | _ => .bad
theorem for_nx {it : ItF} {g : TgF} {B : SX} {k i : Nat} {r r2 : Fm} {h h2 : IH} (e : stepF it g B i r h = .nx r2 h2) : forL it g B (k + 1) i r h = forL it g B k (i + 1) r2 h2 := by
  conv => lhs; unfold forL
  unfold stepF at e
  split at e
  · rename_i v q
    rw [q]
    split at e
    · rename_i r1 q1
      simp only [q1, e]
    · cases e
  · cases e
theorem for_rt {it : ItF} {g : TgF} {B : SX} {k i : Nat} {r : Fm} {h h2 : IH} {v : PV} (e : stepF it g B i r h = .rt v h2) : forL it g B (k + 1) i r h = .rt v h2 := by
  conv => lhs; unfold forL
  unfold stepF at e
  split at e
  · rename_i v q
    rw [q]
    split at e
    · rename_i r1 q1
      simp only [q1, e]
    · cases e
  · cases e
theorem for_end {it : ItF} {g : TgF} {B : SX} {k i : Nat} {r : Fm} {h : IH} (e : it i h = some none) : forL it g B (k + 1) i r h = .nx r h := by
  unfold forL
  rw [e]
theorem forE (I : Fm → IH → Res ItF) (g : TgF) (B : SX) (r : Fm) (h : IH) : sFor I g B r h = toS (I r h) r fun it h1 => forL it g B LIM 0 r h1 := rfl
/-- a loop that returns nowhere -/
theorem for_inv {it : ItF} {g : TgF} {B : SX} {n : Nat} (I : Nat → Fm → IH → Prop)
    (hs : ∀ i r h, i < n → I i r h → ∃ r2 h2, stepF it g B i r h = .nx r2 h2 ∧ I (i + 1) r2 h2)
    (he : ∀ r h, I n r h → it n h = some none) : ∀ (k i : Nat) (r : Fm) (h : IH), n - i < k → i ≤ n → I i r h → ∃ r' h', forL it g B k i r h = .nx r' h' ∧ I n r' h' := by
  intro k
  induction k with
  | zero => intro i r h hk; omega
  | succ k ih =>
    intro i r h hk hi hI
    by_cases q : i < n
    · obtain ⟨r2, h2, e3, e4⟩ := hs i r h q hI
      rw [for_nx e3]
      exact ih (i + 1) r2 h2 (by omega) (by omega) e4
    · have : i = n := by omega
      subst this
      exact ⟨r, h, for_end (he r h hI), hI⟩
/-- a loop that may return -/
theorem for_ret {it : ItF} {g : TgF} {B : SX} {n : Nat} (I : Nat → Fm → IH → Prop) (P : PV → IH → Prop)
    (hs : ∀ i r h, i < n → I i r h → (∃ r2 h2, stepF it g B i r h = .nx r2 h2 ∧ I (i + 1) r2 h2) ∨ ∃ w h2, stepF it g B i r h = .rt w h2 ∧ P w h2)
    (he : ∀ r h, I n r h → it n h = some none) : ∀ (k i : Nat) (r : Fm) (h : IH), n - i < k → i ≤ n → I i r h → (∃ r' h', forL it g B k i r h = .nx r' h' ∧ I n r' h') ∨ ∃ w h', forL it g B k i r h = .rt w h' ∧ P w h' := by
  intro k
  induction k with
  | zero => intro i r h hk; omega
  | succ k ih =>
    intro i r h hk hi hI
    by_cases q : i < n
    · rcases hs i r h q hI with ⟨r2, h2, e3, e4⟩ | ⟨w, h2, e3, e4⟩
      · rw [for_nx e3]
        exact ih (i + 1) r2 h2 (by omega) (by omega) e4
      · exact .inr ⟨w, h2, for_rt e3, e4⟩
    · have : i = n := by omega
      subst this
      exact .inl ⟨r, h, for_end (he r h hI), hI⟩
end WR

namespace WR
open PySem PySem.Spec PyProof.Rows L2
/-! ### checks -/
@[simp] theorem integer_eq (i : Int) (h : IH) : f_is_integer [.int i] h = .ok (.bl true) h := by
  simp [f_is_integer, b_is_integer, tyNames, subTy]
@[simp] theorem from_eq (v a b : Int) (h : IH) : f_is_from [.int v, .int a, .int b] h = .ok (.bl (decide (a ≤ v ∧ v ≤ b))) h := by
  by_cases q : a ≤ v <;> simp [f_is_from, b_is_from, q]
theorem gcd_q (q : Rat) : Int.gcd q.num q.den = 1 := by
  have := q.reduced
  unfold Nat.Coprime at this
  rw [Int.gcd, Int.natAbs_natCast]; exact this
theorem fraction_eq {N : Nat} {q : Rat} (s : Sm N q) (hN : N ≤ 9000) (h : IH) : f_is_fraction [fq q] h = .ok (.bl true) h := by
  have c := common_eq q.num q.den h (by rw [Int.natAbs_natCast]; exact (s.mono hN).2)
  have d := den_pos q
  rw [gcd_q] at c
  simp [f_is_fraction, b_is_fraction, fq, tyNames, subTy, c, show (1 : Int) ≤ q.den by omega]
theorem within_eq {N : Nat} {q : Rat} (s : Sm N q) (hN : N ≤ 9000) (a b : Int) (ha : a.natAbs < 2 ^ 200) (hb : b.natAbs < 2 ^ 200) (h : IH) : f_is_within [fq q, .int a, .int b] h = .ok (.bl (decide ((a : Rat) ≤ q ∧ q ≤ (b : Rat)))) h := by
  have f := fraction_eq s hN h
  have m1 := mul_ok ha s.dn (by omega)
  have m2 := mul_ok hb s.dn (by omega)
  have e1 : ((a : Rat) ≤ q) ↔ a * q.den ≤ q.num := by rw [Rat.le_iff]; simp
  have e2 : (q ≤ (b : Rat)) ↔ q.num ≤ b * q.den := by rw [Rat.le_iff]; simp
  simp only [e1, e2]
  simp only [fq] at f
  by_cases x : a * q.den ≤ q.num <;> simp [f_is_within, b_is_within, fq, f, m1, m2, x]
theorem reach_eq {N : Nat} {q : Rat} (s : Sm N q) (hN : N ≤ 9000) (h0 : 0 < q) (h1 : q ≤ 1000000000000) (h : IH) : f_is_reach [fq q] h = .ok (.bl true) h := by
  have w := within_eq s hN 0 1000000000000 (by decide) (by decide) h
  have p := num_pos h0
  have h0' : (0 : Rat) ≤ q := Rat.le_of_lt h0
  have e : decide (((0 : Int) : Rat) ≤ q ∧ q ≤ ((1000000000000 : Int) : Rat)) = true := decide_eq_true ⟨h0', h1⟩
  rw [e] at w
  simp only [fq] at w
  simp [f_is_reach, b_is_reach, fq, w, p]
/-- a turn that stands -/
structure OkT (R : Int) (t : Int × Rat) : Prop where
  lo : 0 ≤ t.1
  hi : t.1 < R
  pos : 0 < t.2
  top : t.2 ≤ 1000000000000
  sm : Sm 50 t.2
theorem turn_eq {R : Int} {t : Int × Rat} (o : OkT R t) (h : IH) : f_is_turn [tq t, .int R] h = .ok (.bl true) h := by
  have e := reach_eq o.sm (by decide) o.pos o.top h
  have := o.lo
  have := o.hi
  simp [f_is_turn, b_is_turn, tq, tyNames, subTy, e, show 0 ≤ t.1 ∧ t.1 ≤ R - 1 by omega]
/-- a plan's parts that stand -/
structure OkP (x : Int × List (Int × Rat) × Rat) : Prop where
  r1 : 1 ≤ x.1
  r2 : x.1 ≤ 5
  n : x.2.1.length ≤ 60
  t : ∀ t ∈ x.2.1, OkT x.1 t
  c0 : 0 ≤ x.2.2
  c1 : x.2.2 ≤ 1000000000000
  cs : Sm 50 x.2.2
theorem init_eq {x : Int × List (Int × Rat) × Rat} (o : OkP x) {n : Nat} {h : IH} (e : h[n]? = some (.ins "Plan" [])) :
    f_Plan___init__ [.obj n, .int x.1, tqs x.2.1, fq x.2.2] h = .ok .non (h.set n (.ins "Plan" [("held", pq x)])) := by
  have w := within_eq o.cs (by decide) 0 1000000000000 (by decide) (by decide) h
  have z : decide (((0 : Int) : Rat) ≤ x.2.2 ∧ x.2.2 ≤ ((1000000000000 : Int) : Rat)) = true := decide_eq_true ⟨o.c0, o.c1⟩
  rw [z] at w
  have l := for_inv (it := itEnum (tqs x.2.1)) (g := gTupF [4, 5]) (B := sIf (tNotX (tTru (eCall f_is_turn (aCons (eVar 5) (aCons (eVar 1) aNil))))) sBad sNil) (n := x.2.1.length)
    (fun i r h1 => h1 = h ∧ ∃ a b, r = [some (.obj n), some (.int x.1), some (tqs x.2.1), some (fq x.2.2), a, b])
    (by
      rintro i r h1 hi ⟨rfl, a, b, rfl⟩
      have t := turn_eq (o.t x.2.1[i] (List.getElem_mem hi)) h1
      simp [tqs, hi, t, and_assoc]) (by rintro r h1 ⟨rfl, a, b, rfl⟩; simp [tqs]) LIM 0 _ h (by have := o.n; simp [LIM]; omega) (by omega) ⟨rfl, none, none, rfl⟩
  obtain ⟨r', h', l, rfl, a, b, rfl⟩ := l
  have r1 := o.r1
  have r2 := o.r2
  have nn := o.n
  simp only [tqs] at l
  simp [f_Plan___init__, b_Plan___init__, f_check_roads, b_check_roads, f_check_cost, b_check_cost, r1, r2, tqs, tyNames, subTy, show ¬ (60 : Int) < x.2.1.length by omega, sFor, l, w, e, pq]
theorem mk_eq {x : Int × List (Int × Rat) × Rat} (o : OkP x) (h : IH) :
    mkO "Plan" f_Plan___init__ [.int x.1, tqs x.2.1, fq x.2.2] h = .ok (.obj h.length) (h ++ [.ins "Plan" [("held", pq x)]]) := by
  have e := init_eq o (n := h.length) (h := h ++ [.ins "Plan" []]) (by simp)
  simp [e]
@[simp] theorem proads_eq {x : Int × List (Int × Rat) × Rat} {n : Nat} {h : IH} (e : h[n]? = some (.ins "Plan" [("held", pq x)])) : f_Plan_roads [.obj n] h = .ok (.int x.1) h := by
  simp [f_Plan_roads, b_Plan_roads, e, pq]
@[simp] theorem pturns_eq {x : Int × List (Int × Rat) × Rat} {n : Nat} {h : IH} (e : h[n]? = some (.ins "Plan" [("held", pq x)])) : f_Plan_turns [.obj n] h = .ok (tqs x.2.1) h := by
  simp [f_Plan_turns, b_Plan_turns, e, pq]
@[simp] theorem pcost_eq {x : Int × List (Int × Rat) × Rat} {n : Nat} {h : IH} (e : h[n]? = some (.ins "Plan" [("held", pq x)])) : f_Plan_cost [.obj n] h = .ok (fq x.2.2) h := by
  simp [f_Plan_cost, b_Plan_cost, e, pq]
theorem plen_eq {x : Int × List (Int × Rat) × Rat} {n : Nat} {h : IH} (e : h[n]? = some (.ins "Plan" [("held", pq x)])) : f_Plan___len__ [.obj n] h = .ok (.int x.2.1.length) h := by
  simp [f_Plan___len__, b_Plan___len__, e, pq, tqs]
theorem peq_eq {x y : Int × List (Int × Rat) × Rat} {n m : Nat} {h : IH} (e : h[n]? = some (.ins "Plan" [("held", pq x)])) (f : h[m]? = some (.ins "Plan" [("held", pq y)])) : f_Plan___eq__ [.obj n, .obj m] h = .ok (.bl (decide (x = y))) h := by
  simp [f_Plan___eq__, b_Plan___eq__, e, f, ownCs]
theorem peq_tup {n : Nat} {h : IH} {xs : List PV} : f_Plan___eq__ [.obj n, .tup xs] h = .ok (.bl false) h := by
  simp [f_Plan___eq__, b_Plan___eq__, ownCs]
end WR

namespace WR
open PySem PySem.Spec PyProof.Rows L2
/-! ### the law's own operations -/
theorem fq_zero : PV.tup [.int 0, .int 1] = fq 0 := rfl
theorem fq_two : PV.tup [.int 2, .int 1] = fq 2 := rfl
theorem fq_one : PV.tup [.int 1, .int 1] = fq 1 := rfl
theorem sm0 : Sm 1 0 := by constructor <;> decide
theorem sm2 : Sm 2 2 := by constructor <;> decide
theorem sm1 : Sm 1 1 := by constructor <;> decide
end WR

namespace WR
open PySem PySem.Spec PyProof.Rows L2
/-! ### what is drawn -/
theorem log_small {b : Int} (h0 : 0 < b) (h1 : b < 2 ^ 64) : b.natAbs.log2 < 9000 := by
  refine log_of (Nat.lt_of_lt_of_le (show _ < 2 ^ 64 by omega) (Nat.pow_le_pow_right (by decide) (by decide))) (by decide)
theorem draw {hi ci : Nat} {h : IH} (d : DS hi ci h) (b : Int) (h0 : 0 < b) (h1 : b < 2 ^ 64) :
    ∃ r h', f__law_next [.obj hi, .int b] h = .ok (.int r) h' ∧ 0 ≤ r ∧ r < b ∧ DS hi ci h' ∧ Kp hi ci h h' := next_eq d b h0 (log_small h0 h1)
theorem lf_eq' (n d : Int) (h : IH) (hn : n.natAbs < 2 ^ 64) (h0 : 0 < d) (hd : d < 2 ^ 64) : f__law_f [.int n, .int d] h = .ok (fq (mkRat n d.toNat)) h := by
  have := lf_eq n d.toNat h (Nat.lt_of_lt_of_le hn (Nat.pow_le_pow_right (by decide) (by decide))) (by omega) (Nat.lt_of_lt_of_le (show _ < 2 ^ 64 by omega) (Nat.pow_le_pow_right (by decide) (by decide)))
  rwa [Int.toNat_of_nonneg (by omega)] at this
theorem mk_div (n d : Int) (h0 : 0 < d) : mkRat n d.toNat = (n : Rat) / (d : Rat) := by
  rw [Rat.mkRat_eq_div]
  have : ((d.toNat : Int) : Rat) = (d : Rat) := by rw [Int.toNat_of_nonneg (by omega)]
  rw [← this]; rfl
theorem mk_lt {n d : Int} (h0 : 0 < d) (m : Int) : mkRat n d.toNat < (m : Rat) ↔ n < m * d := by
  rw [mk_div n d h0, Rat.div_lt_iff (by exact Rat.intCast_pos.mpr h0), ← Rat.intCast_mul, Rat.intCast_lt_intCast]
theorem lt_mk {n d : Int} (h0 : 0 < d) (m : Int) : (m : Rat) < mkRat n d.toNat ↔ m * d < n := by
  rw [mk_div n d h0, Rat.lt_div_iff (by exact Rat.intCast_pos.mpr h0), ← Rat.intCast_mul, Rat.intCast_lt_intCast]
theorem mk_pos {n d : Int} (h0 : 0 < n) (h1 : 0 < d) : 0 < mkRat n d.toNat := (lt_mk h1 0).mpr (by omega)
theorem mk_le {n d m : Int} (h0 : 0 < d) (h : n ≤ m * d) : mkRat n d.toNat ≤ (m : Rat) := Rat.not_lt.mp fun z => by
  have := (lt_mk h0 m).mp z
  omega
theorem mk_ge {n d m : Int} (h0 : 0 < d) (h : m * d ≤ n) : (m : Rat) ≤ mkRat n d.toNat := Rat.not_lt.mp fun z => by
  have := (mk_lt h0 m).mp z
  omega
/-- how great and how fine a drawn reach is -/
def Dr (q : Rat) : Prop := q ≤ 2000000001 ∧ q.den ≤ 12
theorem mk_dr {n d : Int} (h0 : 0 < d) (h1 : d ≤ 12) (h : n ≤ 2000000001 * d) : Dr (mkRat n d.toNat) := by
  refine ⟨mk_le (m := 2000000001) h0 h, ?_⟩
  rw [Rat.den_mkRat, if_neg (by omega)]
  exact Nat.le_trans (Nat.div_le_self _ _) (by omega)
theorem reach_draw {hi ci : Nat} {h : IH} (d : DS hi ci h) (b : Int) (h0 : 1 ≤ b) (h1 : b ≤ 1000000000) :
    ∃ q h', f__law_reach [.obj hi, .int b] h = .ok (fq q) h' ∧ 0 < q ∧ q ≤ 1000000000000 ∧ Sm 50 q ∧ Dr q ∧ DS hi ci h' ∧ Kp hi ci h h' := by
  obtain ⟨r0, g1, e1, p1, q1, d1, k1⟩ := draw d 4 (by decide) (by decide)
  by_cases c0 : r0 = 0
  · obtain ⟨r2, g2, e2, p2, q2, d2, k2⟩ := draw d1 40 (by decide) (by decide)
    obtain ⟨r3, g3, e3, p3, q3, d3, k3⟩ := draw d2 12 (by decide) (by decide)
    have f := lf_eq' (1 + r2) (1 + r3) g3 (by omega) (by omega) (by omega)
    refine ⟨_, g3, by simp [f__law_reach, b__law_reach, e1, c0, e2, e3, f]; rfl, mk_pos (by omega) (by omega), mk_le (m := 1000000000000) (by omega) (by omega), mk_small (by omega) (by omega) (by omega), mk_dr (by omega) (by omega) (by omega), d3, (k1.trans k2).trans k3⟩
  · by_cases c1 : r0 = 1
    · obtain ⟨r2, g2, e2, p2, q2, d2, k2⟩ := draw d1 9 (by decide) (by decide)
      have f := lf_eq' (1 + r2) 1 g2 (by omega) (by omega) (by omega)
      refine ⟨mkRat (1 + r2) (Int.toNat 1), g2, by simp [f__law_reach, b__law_reach, e1, c0, c1, e2, f], mk_pos (by omega) (by omega), mk_le (m := 1000000000000) (by omega) (by omega), mk_small (by omega) (by omega) (by omega), mk_dr (by omega) (by omega) (by omega), d2, (k1.trans k2)⟩
    · obtain ⟨r2, g2, e2, p2, q2, d2, k2⟩ := draw d1 (b + 2) (by omega) (by omega)
      obtain ⟨r3, g3, e3, p3, q3, d3, k3⟩ := draw d2 2 (by decide) (by decide)
      have f := lf_eq' (b + r2) (1 + r3) g3 (by omega) (by omega) (by omega)
      refine ⟨_, g3, by simp [f__law_reach, b__law_reach, e1, c0, c1, e2, e3, f]; rfl, mk_pos (by omega) (by omega), mk_le (m := 1000000000000) (by omega) (by omega), mk_small (by omega) (by omega) (by omega), mk_dr (by omega) (by omega) (by omega), d3, (k1.trans k2).trans k3⟩
theorem DS.lt {hi ci : Nat} {h : IH} (d : DS hi ci h) : hi < h.length ∧ ci < h.length := by
  obtain ⟨a, b, e⟩ := d.st
  obtain ⟨cs, f, _⟩ := d.ce
  exact ⟨lt_of_get e, lt_of_get f⟩
theorem DS.set {hi ci n : Nat} {h : IH} (d : DS hi ci h) (o : MO) (h1 : n ≠ hi) (h2 : n ≠ ci) : DS hi ci (h.set n o) := by
  obtain ⟨a, b, e⟩ := d.st
  obtain ⟨cs, f, l⟩ := d.ce
  exact ⟨d.ne, ⟨a, b, by rw [List.getElem?_set_ne h1]; exact e⟩, ⟨cs, by rw [List.getElem?_set_ne h2]; exact f, l⟩⟩
/-- what a loop of draws keeps: all of h but the machine, and a list of its own at h.length -/
structure Grow (hi ci : Nat) (h g : IH) (xs : List PV) : Prop where
  ds : DS hi ci g
  kp : Kp hi ci h g
  own : g[h.length]? = some (.lst xs)
theorem Grow.draw {hi ci : Nat} {h g g' : IH} {xs : List PV} (o : Grow hi ci h g xs) (l : hi < h.length ∧ ci < h.length) (d : DS hi ci g') (k : Kp hi ci g g') : Grow hi ci h g' xs :=
  ⟨d, o.kp.trans k, k.get _ _ (by omega) (by omega) o.own⟩
theorem Grow.push {hi ci : Nat} {h g : IH} {xs ys : List PV} (o : Grow hi ci h g xs) (l : hi < h.length ∧ ci < h.length) : Grow hi ci h (g.set h.length (.lst ys)) ys := by
  refine ⟨o.ds.set _ (by omega) (by omega), ⟨by simpa using o.kp.le, fun n u a b e => ?_⟩, ?_⟩
  · have := lt_of_get e
    rw [List.getElem?_set_ne (by omega)]
    exact o.kp.get n u a b e
  · rw [List.getElem?_set_self (lt_of_get o.own)]
theorem turns_draw {hi ci : Nat} {h : IH} (d : DS hi ci h) (R M : Int) (r1 : 1 ≤ R) (r2 : R ≤ 5) (m0 : 0 ≤ M) (m1 : M ≤ 60) :
    ∃ T h', f__law_turns [.obj hi, .int R, .int M] h = .ok (tqs T) h' ∧ T.length ≤ M.toNat ∧ (∀ t ∈ T, OkT R t ∧ Dr t.2) ∧ DS hi ci h' ∧ Kp hi ci h h' := by
  obtain ⟨b0, g1, e1, p1, q1, d1, k1⟩ := draw (d.app [.lst []]) 2 (by decide) (by decide)
  obtain ⟨n, g2, e2, p2, q2, d2, k2⟩ := draw d1 (M + 1) (by omega) (by omega)
  have hl := d.lt
  have hl' : h.length ≠ hi ∧ h.length ≠ ci := by omega
  have G0 : Grow hi ci h g2 [] := ⟨d2, ((Kp.app hi ci h _).trans k1).trans k2, k2.get _ _ (by omega) (by omega) (k1.get _ _ (by omega) (by omega) (by simp))⟩
  have l := for_inv (it := itRange 0 n.toNat) (g := gVar 5) (B := sSeq (sSet 6 (eIf (tBl (eOp pGt (eCall f__law_next (aCons (eVar 0) (aCons (eC (.int 4)) aNil))) (eC (.int 0)))) (eOp pSub (eVar 5) (eOp pMul (eOp pDiv (eVar 5) (eVar 1)) (eVar 1))) (eCall f__law_next (aCons (eVar 0) (aCons (eVar 1) aNil)))))
    (sSeq (sExpr (eAppend (eVar 3) (aCons (eTup (aCons (eVar 6) (aCons (eCall f__law_reach (aCons (eVar 0) (aCons (eVar 4) aNil))) aNil))) aNil)))
    (sSet 4 (eB pMin2 (aCons (eOp pPow (eC (.int 10)) (eC (.int 9))) (aCons (eOp pAdd (eVar 4) (eCall f__law_next (aCons (eVar 0) (aCons (eOp pAdd (eVar 4) (eC (.int 1))) aNil)))) aNil)))))) (n := n.toNat)
    (fun i r g => ∃ T b a5 a6, r = [some (.obj hi), some (.int R), some (.int M), some (.obj h.length), some (.int b), a5, a6] ∧ 1 ≤ b ∧ b ≤ 1000000000 ∧ Grow hi ci h g (T.map tq) ∧ T.length = i ∧ ∀ t ∈ T, OkT R t ∧ Dr t.2)
    (by
      rintro i r g hi' ⟨T, b, a5, a6, rfl, b0, b1, G, tl, ht⟩
      obtain ⟨k, u1, e1, p1, q1, d1, k1⟩ := draw G.ds 4 (by decide) (by decide)
      have G1 := G.draw hl d1 k1
      have key : ∃ road u2, 0 ≤ road ∧ road < R ∧ Grow hi ci h u2 (T.map tq) ∧ eIf (tBl (eOp pGt (eCall f__law_next (aCons (eVar 0) (aCons (eC (.int 4)) aNil))) (eC (.int 0)))) (eOp pSub (eVar 5) (eOp pMul (eOp pDiv (eVar 5) (eVar 1)) (eVar 1))) (eCall f__law_next (aCons (eVar 0) (aCons (eVar 1) aNil)))
          [some (.obj hi), some (.int R), some (.int M), some (.obj h.length), some (.int b), some (.int i), a6] g = .ok (.int road) u2 := by
        by_cases c : 0 < k
        · have := Int.emod_nonneg i (show R ≠ 0 by omega)
          have := Int.emod_lt_of_pos i (show 0 < R by omega)
          refine ⟨(i : Int) % R, u1, by omega, by omega, G1, ?_⟩
          simp [e1, c, show 0 < R by omega, log_small (show 0 < R by omega) (by omega), mulOk, show R.natAbs < 18446744073709551616 by omega]
          rw [Int.emod_def, Int.mul_comm]
        · obtain ⟨r, u2, e2, p2, q2, d2, k2⟩ := draw d1 R (by omega) (by omega)
          exact ⟨r, u2, p2, q2, G1.draw hl d2 k2, by simp [e1, c, e2]⟩
      obtain ⟨road, u2, y0, y1, G2, key⟩ := key
      obtain ⟨q, u3, e3, z0, z1, z2, z3, d3, k3⟩ := reach_draw G2.ds b b0 b1
      have G3 := G2.draw hl d3 k3
      have G4 := G3.push (ys := (T ++ [(road, q)]).map tq) hl
      obtain ⟨r4, u4, e4, p4, q4, d4, k4⟩ := draw G4.ds (b + 1) (by omega) (by omega)
      have G5 := G4.draw hl d4 k4
      have e4' := e4
      simp only [List.map_append, List.map, tq] at e4'
      refine ⟨_, u4, ?_, T ++ [(road, q)], min 1000000000 (b + r4), some (.int i), some (.int road), rfl, by omega, by omega, G5, by simp [tl], ?_⟩
      · revert key
        generalize eIf _ _ _ = A
        intro key
        have : T.length < 16777216 := by omega
        have mn : (if b + r4 < 1000000000 then b + r4 else (1000000000 : Int)) = min 1000000000 (b + r4) := by omega
        simp [hi', key, G2.own, e3, G3.own, this, tq, e4', mn]
      · intro t ht'
        rcases List.mem_append.mp ht' with z | z
        · exact ht t z
        · simp at z; subst z
          exact ⟨⟨y0, y1, z0, z1, z2⟩, z3⟩) (by rintro r g ⟨T, b, a5, a6, rfl, _⟩; simp) LIM 0 _ g2 (by simp [LIM]; omega) (by omega) ⟨[], 1 + b0, none, none, rfl, by omega, by omega, G0, rfl, by simp⟩
  obtain ⟨r', h', l, T, b, a5, a6, rfl, _, _, G, tl, ht⟩ := l
  have : T.length ≤ 16777216 := by omega
  refine ⟨T, h', ?_, by omega, ht, G.ds, G.kp⟩
  simp [f__law_turns, b__law_turns, e1, e2, sFor, l, G.own, tqs, rngOk, show Int.natAbs n < 4611686018427387904 by omega, this]
theorem plan_draw {hi ci : Nat} {h : IH} (d : DS hi ci h) (M : Int) (m0 : 0 ≤ M) (m1 : M ≤ 60) :
    ∃ x p h', f__law_plan [.obj hi, .int M] h = .ok (.obj p) h' ∧ h'[p]? = some (.lst [.int x.1, tqs x.2.1, fq x.2.2]) ∧ h.length ≤ p ∧ OkP x ∧ x.2.1.length ≤ M.toNat ∧ x.2.2.den ≤ 4 ∧ x.2.2 ≤ 8 ∧ (∀ t ∈ x.2.1, Dr t.2) ∧ DS hi ci h' ∧ Kp hi ci h h' := by
  obtain ⟨R, g1, e1, p1, q1, d1, k1⟩ := draw d 5 (by decide) (by decide)
  obtain ⟨b, g2, e2, p2, q2, d2, k2⟩ := draw d1 2 (by decide) (by decide)
  have key : ∃ c g3, 0 ≤ c ∧ c ≤ 1000000000000 ∧ Sm 50 c ∧ c.den ≤ 4 ∧ c ≤ 8 ∧ DS hi ci g3 ∧ Kp hi ci g1 g3 ∧ (eIf (tBl (eOp pEq (eCall f__law_next (aCons (eVar 0) (aCons (eC (.int 2)) aNil))) (eC (.int 0)))) (eTup (aCons (eC (.int 0)) (aCons (eC (.int 1)) aNil))) (eCall f__law_f (aCons (eCall f__law_next (aCons (eVar 0) (aCons (eC (.int 9)) aNil))) (aCons (eOp pAdd (eC (.int 1)) (eCall f__law_next (aCons (eVar 0) (aCons (eC (.int 4)) aNil)))) aNil))))
      [some (.obj hi), some (.int M), some (.int (1 + R)), none] g1 = .ok (fq c) g3 := by
    by_cases c : b = 0
    · exact ⟨0, g2, by decide, by decide, sm0.mono (by decide), by decide, by decide, d2, k2, by simp [e2, c, fq_zero]⟩
    · obtain ⟨u, g3, e3, p3, q3, d3, k3⟩ := draw d2 9 (by decide) (by decide)
      obtain ⟨v, g4, e4, p4, q4, d4, k4⟩ := draw d3 4 (by decide) (by decide)
      have f := lf_eq' u (1 + v) g4 (by omega) (by omega) (by omega)
      refine ⟨mkRat u (1 + v).toNat, g4, mk_ge (m := 0) (by omega) (by omega), mk_le (m := 1000000000000) (by omega) (by omega), mk_small (by omega) (by omega) (by omega), ?_, mk_le (m := 8) (by omega) (by omega), d4, (k2.trans k3).trans k4, by simp [e2, c, e3, e4, f]⟩
      have := Rat.den_mkRat u (1 + v).toNat
      rw [this, if_neg (by omega)]
      exact Nat.le_trans (Nat.div_le_self _ _) (by omega)
  obtain ⟨c, g3, c0, c1, c2, c3, c4, d3, k3, key⟩ := key
  obtain ⟨T, g4, e4, tl, ht, d4, k4⟩ := turns_draw d3 (1 + R) M (by omega) (by omega) m0 m1
  refine ⟨(1 + R, T, c), g4.length, g4 ++ [.lst [.int (1 + R), tqs T, fq c]], ?_, by simp, ((k1.trans k3).trans k4).le, ⟨by simp; omega, by simp; omega, by simp; omega, fun t q => (ht t q).1, c0, c1, c2⟩, tl, c3, c4, fun t q => (ht t q).2, d4.app _, ((k1.trans k3).trans k4).trans (Kp.app _ _ _ _)⟩
  revert key
  unfold f__law_plan b__law_plan
  generalize eIf _ _ _ = A
  intro key
  simp [e1, key, e4]
end WR

namespace WR
open PySem PySem.Spec PyProof.Rows L2
/-! ### what a statement leaves -/
abbrev Pl := Int × List (Int × Rat) × Rat
def RS.Is (o : RS) (N : Fm → IH → Prop) (R : PV → IH → Prop) : Prop := match o with
  | .nx r h => N r h
  | .rt v h => R v h
  | _ => False
@[simp] theorem is_nx0 {r : Fm} {h : IH} {N : Fm → IH → Prop} {R : PV → IH → Prop} : (RS.nx r h).Is N R = N r h := rfl
@[simp] theorem is_rt0 {v : PV} {h : IH} {N : Fm → IH → Prop} {R : PV → IH → Prop} : (RS.rt v h).Is N R = R v h := rfl
theorem RS.Is.imp {o : RS} {N N' : Fm → IH → Prop} {R R' : PV → IH → Prop} (h : o.Is N R) (f : ∀ r h, N r h → N' r h) (g : ∀ v h, R v h → R' v h) : o.Is N' R' := by
  cases o with
  | nx r h1 => exact f _ _ h
  | rt v h1 => exact g _ _ h
  | _ => exact h.elim
theorem w_seq {A B : SX} {r : Fm} {h : IH} {N : Fm → IH → Prop} {R : PV → IH → Prop} (e : (A r h).Is (fun r1 h1 => (B r1 h1).Is N R) R) : (sSeq A B r h).Is N R := by
  simp only [sSeq]
  cases q : A r h with
  | nx r1 h1 => rw [q] at e; exact e
  | rt v h1 => rw [q] at e; exact e
  | bk r1 h1 => rw [q] at e; exact e.elim
  | ct r1 h1 => rw [q] at e; exact e.elim
  | ex x r1 h1 => rw [q] at e; exact e.elim
  | bad => rw [q] at e; exact e.elim
theorem w_for {I0 : Fm → IH → Res ItF} {g : TgF} {B : SX} {r : Fm} {h : IH} {N : Fm → IH → Prop} {R : PV → IH → Prop} {it : ItF} {h1 : IH} (n : Nat) (J : Nat → Fm → IH → Prop)
    (hI : I0 r h = .ok it h1) (hn : n < 1000000) (h0 : J 0 r h1)
    (hs : ∀ i r h, i < n → J i r h → ∃ v r1, it i h = some (some v) ∧ g v r = some r1 ∧ (B r1 h).Is (J (i + 1)) R)
    (he : ∀ r h, J n r h → it n h = some none ∧ N r h) : (sFor I0 g B r h).Is N R := by
  have key : ∀ k i r h, n - i < k → i ≤ n → J i r h → (forL it g B k i r h).Is N R := by
    intro k
    induction k with
    | zero => intro i r h hk; omega
    | succ k ih =>
      intro i r h hk hi hJ
      by_cases q : i < n
      · obtain ⟨v, r1, e1, e2, e3⟩ := hs i r h q hJ
        unfold forL
        simp only [e1, e2]
        cases z : B r1 h with
        | nx r2 h2 => rw [z] at e3; exact ih (i + 1) r2 h2 (by omega) (by omega) e3
        | rt v h2 => rw [z] at e3; exact e3
        | bk r1 h1 => rw [z] at e3; exact e3.elim
        | ct r1 h1 => rw [z] at e3; exact e3.elim
        | ex x r1 h1 => rw [z] at e3; exact e3.elim
        | bad => rw [z] at e3; exact e3.elim
      · have : i = n := by omega
        subst this
        obtain ⟨e1, e2⟩ := he r h hJ
        rw [for_end e1]
        exact e2
  show (toS (I0 r h) r fun it h1 => forL it g B LIM 0 r h1).Is N R
  rw [hI]
  exact key LIM 0 r h1 (by simp [LIM]; omega) (by omega) h0
theorem w_while {c : TX} {B : SX} {r : Fm} {h : IH} {N : Fm → IH → Prop} {R : PV → IH → Prop} (n : Nat) (J : Nat → Fm → IH → Prop) (hn : n < 1000000) (h0 : J n r h)
    (hs : ∀ i r h, J i r h → ∃ b h1, c r h = .ok b h1 ∧ (b = true → ∃ j, i = j + 1 ∧ (B r h1).Is (J j) R) ∧ (b = false → N r h1)) : (sWhile c B r h).Is N R := by
  have key : ∀ k i r h, i < k → J i r h → (whileL c B k r h).Is N R := by
    intro k
    induction k with
    | zero => intro i r h hk; omega
    | succ k ih =>
      intro i r h hk hJ
      obtain ⟨b, h1, e1, e2, e3⟩ := hs i r h hJ
      unfold whileL
      simp only [e1, toS]
      cases b with
      | false => exact e3 rfl
      | true =>
        obtain ⟨j, rfl, e4⟩ := e2 rfl
        simp only [if_true]
        cases z : B r h1 with
        | nx r2 h2 => rw [z] at e4; exact ih j r2 h2 (by omega) e4
        | rt v h2 => rw [z] at e4; exact e4
        | bk r1 h1 => rw [z] at e4; exact e4.elim
        | ct r1 h1 => rw [z] at e4; exact e4.elim
        | ex x r1 h1 => rw [z] at e4; exact e4.elim
        | bad => rw [z] at e4; exact e4.elim
  exact key LIM n r h (by simp [LIM]; omega) h0
theorem w_fn {ps n : Nat} {B : SX} {us : List PV} {h : IH} {P : PV → IH → Prop} (hl : us.length = ps) (e : (B (us.map some ++ List.replicate n none) h).Is (fun _ h1 => P .non h1) P) : ∃ v h1, fn ps n B us h = .ok v h1 ∧ P v h1 := by
  unfold fn
  simp only [hl, if_true]
  cases z : B (us.map some ++ List.replicate n none) h with
  | nx r2 h2 => rw [z] at e; exact ⟨_, _, rfl, e⟩
  | rt v h2 => rw [z] at e; exact ⟨_, _, rfl, e⟩
  | bk r1 h1 => rw [z] at e; exact e.elim
  | ct r1 h1 => rw [z] at e; exact e.elim
  | ex x r1 h1 => rw [z] at e; exact e.elim
  | bad => rw [z] at e; exact e.elim
theorem w_set {A : EX} {i : Nat} {r : Fm} {h h1 : IH} {v : PV} {N : Fm → IH → Prop} {R : PV → IH → Prop} (e : A r h = .ok v h1) (k : N (r.set i (some v)) h1) : (sSet i A r h).Is N R := by
  simp only [sSet, e, toS]; exact k
theorem w_nil {r : Fm} {h : IH} {N : Fm → IH → Prop} {R : PV → IH → Prop} (k : N r h) : (sNil r h).Is N R := k
theorem w_expr {A : EX} {r : Fm} {h h1 : IH} {v : PV} {N : Fm → IH → Prop} {R : PV → IH → Prop} (e : A r h = .ok v h1) (k : N r h1) : (sExpr A r h).Is N R := by
  simp only [sExpr, e, toS]; exact k
theorem w_ret {A : EX} {r : Fm} {h h1 : IH} {v : PV} {N : Fm → IH → Prop} {R : PV → IH → Prop} (e : A r h = .ok v h1) (k : R v h1) : (sRet A r h).Is N R := by
  simp only [sRet, e, toS]; exact k
theorem w_if {c : TX} {A B : SX} {r : Fm} {h h1 : IH} {b : Bool} {N : Fm → IH → Prop} {R : PV → IH → Prop} (e : c r h = .ok b h1) (k1 : b = true → (A r h1).Is N R) (k2 : b = false → (B r h1).Is N R) : (sIf c A B r h).Is N R := by
  simp only [sIf, e, toS]
  cases b with
  | true => exact k1 rfl
  | false => exact k2 rfl
/-! ### heaps that only grow -/
def Pre (h g : IH) : Prop := ∃ u, g = h ++ u
theorem Pre.refl (h : IH) : Pre h h := ⟨[], by simp⟩
theorem Pre.trans {h g k : IH} (a : Pre h g) (b : Pre g k) : Pre h k := by
  obtain ⟨u, rfl⟩ := a
  obtain ⟨v, rfl⟩ := b
  exact ⟨u ++ v, by simp⟩
theorem Pre.of (h t : IH) : Pre h (h ++ t) := ⟨t, rfl⟩
theorem Pre.app {h g : IH} (a : Pre h g) (t : IH) : Pre h (g ++ t) := a.trans (.of g t)
theorem Pre.get {h g : IH} (a : Pre h g) {n : Nat} {o : MO} (e : h[n]? = some o) : g[n]? = some o := by
  obtain ⟨u, rfl⟩ := a
  exact get_old e
theorem Pre.le {h g : IH} (a : Pre h g) : h.length ≤ g.length := by
  obtain ⟨u, rfl⟩ := a
  simp
theorem Pre.set {h g : IH} (a : Pre h g) {n : Nat} (o : MO) (hn : h.length ≤ n) : Pre h (g.set n o) := by
  obtain ⟨u, rfl⟩ := a
  rw [List.set_append_right _ _ hn]
  exact ⟨_, rfl⟩
theorem get_set_ne {g : IH} {n m : Nat} {o : MO} (h : n ≠ m) : (g.set n o)[m]? = g[m]? := List.getElem?_set_ne h
theorem get_set_eq {g : IH} {n : Nat} {o q : MO} (e : g[n]? = some q) : (g.set n o)[n]? = some o := List.getElem?_set_self (lt_of_get e)
/-! ### slices -/
theorem cut_to {α : Type} (xs : List α) (k : Int) (h0 : 0 ≤ k) : cutA xs none (some k) = xs.take k.toNat := by
  have : ¬ k < 0 := by omega
  simp only [cutA, HT.sIx, List.drop_zero, Nat.sub_zero]
  simp only [this, if_false]
  rw [List.take_eq_take_iff]
  omega
theorem cut_from {α : Type} (xs : List α) (k : Int) (h0 : 0 ≤ k) : cutA xs (some k) none = xs.drop k.toNat := by
  have : ¬ k < 0 := by omega
  simp only [cutA, HT.sIx]
  simp only [this, if_false]
  rw [List.take_of_length_le (by simp)]
  by_cases q : k.toNat ≤ xs.length
  · rw [show min k.toNat xs.length = k.toNat by omega]
  · rw [List.drop_eq_nil_of_le (by omega), List.drop_eq_nil_of_le (by omega)]
/-! ### a comprehension with a test -/
theorem lc_gen {it : ItF} {g : TgF} {c : TX} {A : EX} {r0 : Fm} {base : IH} {n : Nat} (F : Nat → PV) (b : Nat → Bool) (hn : n < 16777216)
    (hit : ∀ i t, i < n → ∃ v r1 t', it i (base ++ t) = some (some v) ∧ g v r0 = some r1 ∧ c r1 (base ++ t) = .ok (b i) (base ++ (t ++ t')) ∧ (b i = true → ∃ t2, A r1 (base ++ (t ++ t')) = .ok (F i) (base ++ (t ++ (t' ++ t2)))))
    (hend : ∀ t, it n (base ++ t) = some none) : ∀ k i t, i ≤ n → n - i < k → ∃ t', lcL it g c A r0 base.length k i (base ++ .lst (((List.range i).filter b).map F) :: t) = .ok () (base ++ .lst (((List.range n).filter b).map F) :: t') := by
  intro k
  induction k with
  | zero => intro i t _ h; omega
  | succ k ih =>
    intro i t hi hk
    by_cases q : i < n
    · obtain ⟨v, r1, t', e1, e2, e3, e4⟩ := hit i (.lst (((List.range i).filter b).map F) :: t) q
      have fl : ((List.range i).filter b).length < 16777216 := by
        have := List.length_filter_le b (List.range i)
        simp at this; omega
      cases hb : b i with
      | true =>
        obtain ⟨t2, e4⟩ := e4 hb
        obtain ⟨t3, e⟩ := ih (i + 1) (t ++ (t' ++ t2)) (by omega) (by omega)
        refine ⟨t3, ?_⟩
        rw [← e]
        conv => lhs; unfold lcL
        rw [hb] at e3
        simp only [List.cons_append] at e3 e4
        simp [e1, e2, e3, e4, fl, List.range_succ, List.filter_append, hb]
      | false =>
        obtain ⟨t3, e⟩ := ih (i + 1) (t ++ t') (by omega) (by omega)
        refine ⟨t3, ?_⟩
        rw [← e]
        conv => lhs; unfold lcL
        rw [hb] at e3
        simp only [List.cons_append] at e3
        simp [e1, e2, e3, List.range_succ, List.filter_append, hb]
    · have : i = n := by omega
      subst this
      refine ⟨t, ?_⟩
      unfold lcL
      simp [hend]
/-- the whole of it -/
theorem lc_all {I : Fm → IH → Res ItF} {it : ItF} {g : TgF} {c : TX} {A : EX} {vs : List Nat} {r : Fm} {h base : IH} {n : Nat} (F : Nat → PV) (b : Nat → Bool) (hn : n < 1000000) (hI : I r h = .ok it base)
    (hit : ∀ i t, i < n → ∃ v r1 t', it i (base ++ t) = some (some v) ∧ g v (wipeF r vs) = some r1 ∧ c r1 (base ++ t) = .ok (b i) (base ++ (t ++ t')) ∧ (b i = true → ∃ t2, A r1 (base ++ (t ++ t')) = .ok (F i) (base ++ (t ++ (t' ++ t2)))))
    (hend : ∀ t, it n (base ++ t) = some none) : ∃ t, eLc I g c A vs r h = .ok (.obj base.length) (base ++ .lst (((List.range n).filter b).map F) :: t) := by
  obtain ⟨t, e⟩ := lc_gen F b (by omega) hit hend LIM 0 [] (by omega) (by simp [LIM]; omega)
  refine ⟨t, ?_⟩
  simp only [List.range_zero, List.filter_nil, List.map_nil] at e
  simp [eLc, hI, e]
theorem filt_range {α : Type} (L : List α) (d : α) (P : α → Bool) : ((List.range L.length).filter fun i => P (L.getD i d)).map (fun i => L.getD i d) = L.filter P := by
  have e : (List.range L.length).map (fun i => L.getD i d) = L := by
    apply List.ext_getElem
    · simp
    · intro i h1 h2; simp at h1; simp [h1]
  conv => rhs; rw [← e]
  rw [List.filter_map]; rfl
theorem any_eqv {α : Type} [DecidableEq α] {n : Nat} {enc : α → PV} {den : α → PyData} (e : EncOk n enc den) (a : α) (xs : List α) : ((xs.map den).any fun z => PyData.eqv z (den a)) = decide (a ∈ xs) := by
  induction xs with
  | nil => rfl
  | cons b bs ih =>
    rw [List.map_cons, List.any_cons, ih, e.eqv]
    by_cases q : b = a
    · subst q; simp
    · have : ¬ a = b := fun z => q z.symm
      simp [q, this]
theorem EncOk.in_obj {α : Type} [DecidableEq α] {n : Nat} {enc : α → PV} {den : α → PyData} (e : EncOk n enc den) (hn : n ≤ 11) (a : α) {k : Nat} {xs : List α} {h : IH} (hk : h[k]? = some (.lst (xs.map enc))) : pInB (enc a) (.obj k) h = some (decide (a ∈ xs)) := by
  have x := optAll_map xs fun z _ => e.dat 11 h z hn
  have y := e.dat 12 h a (by omega)
  have s : SeqAt.shaped (.list (xs.map den)) = true := by
    have l := canAll xs e.lay
    have d := depAll xs e.dep
    simp [SeqAt.shaped, PyData.canLay0, PyData.depth, l]; omega
  have s2 : SeqAt.shaped (den a) = true := by
    have := e.dep a
    simp [SeqAt.shaped, e.lay a]; omega
  have z : dataOf 12 h (.obj k) = some (.list (xs.map den)) := by simp [dataOf, hk, x]
  simp only [pInB, DEP, y, z, s, s2, any_eqv e]
  rfl
end WR

namespace WR
open PySem PySem.Spec PyProof.Rows L2
/-! ### a comprehension whose code draws -/
theorem w_lc {I : Fm → IH → Res ItF} {it : ItF} {g : TgF} {c : TX} {A : EX} {vs : List Nat} {r : Fm} {h h1 : IH} (n : Nat) (J : Nat → List PV → IH → Prop) (hI : I r h = .ok it h1) (hn : n < 1000000) (h0 : J 0 [] (h1 ++ [.lst []]))
    (hs : ∀ i acc h, i < n → J i acc h → acc.length ≤ i → h[h1.length]? = some (.lst acc) → ∃ v r1 b h2, it i h = some (some v) ∧ g v (wipeF r vs) = some r1 ∧ c r1 h = .ok b h2 ∧ (b = false → h2[h1.length]? = some (.lst acc) ∧ J (i + 1) acc h2) ∧
      (b = true → ∃ y h3, A r1 h2 = .ok y h3 ∧ h3[h1.length]? = some (.lst acc) ∧ J (i + 1) (acc ++ [y]) (h3.set h1.length (.lst (acc ++ [y])))))
    (he : ∀ acc h, J n acc h → h[h1.length]? = some (.lst acc) → it n h = some none) : ∃ acc h', eLc I g c A vs r h = .ok (.obj h1.length) h' ∧ h'[h1.length]? = some (.lst acc) ∧ J n acc h' := by
  have key : ∀ k i acc h, n - i < k → i ≤ n → acc.length ≤ i → h[h1.length]? = some (.lst acc) → J i acc h → ∃ acc' h', lcL it g c A (wipeF r vs) h1.length k i h = .ok () h' ∧ h'[h1.length]? = some (.lst acc') ∧ J n acc' h' := by
    intro k
    induction k with
    | zero => intro i acc h hk; omega
    | succ k ih =>
      intro i acc h hk hi ha hD hJ
      by_cases q : i < n
      · obtain ⟨v, r1, b, h2, e1, e2, e3, e4, e5⟩ := hs i acc h q hJ ha hD
        unfold lcL
        simp only [e1, e2, e3]
        cases b with
        | false =>
          obtain ⟨x1, x2⟩ := e4 rfl
          simpa using ih (i + 1) acc h2 (by omega) (by omega) (by omega) x1 x2
        | true =>
          obtain ⟨y, h3, x1, x2, x3⟩ := e5 rfl
          have al : acc.length < 16777216 := by omega
          obtain ⟨acc', h', z1, z2⟩ := ih (i + 1) (acc ++ [y]) (h3.set h1.length (.lst (acc ++ [y]))) (by omega) (by omega) (by simp; omega) (List.getElem?_set_self (lt_of_get x2)) x3
          exact ⟨acc', h', by simp only [if_true, x1, x2, al, z1], z2⟩
      · have : i = n := by omega
        subst this
        unfold lcL
        simp only [he acc h hJ hD]
        exact ⟨acc, h, rfl, hD, hJ⟩
  obtain ⟨acc, h', e, e1, e2⟩ := key LIM 0 [] (h1 ++ [.lst []]) (by simp [LIM]; omega) (by omega) (by simp) (by simp) h0
  exact ⟨acc, h', by simp [eLc, hI, e], e1, e2⟩
end WR

namespace WR
open PySem PySem.Spec PyProof.Rows L2
/-! ### texts as lists of signs -/
/-- a number's text -/
def dI (i : Int) : Str := Str.ofString (toString i)
theorem dI_tl (n : Nat) : TL.tl (dI n) = TL.numL n := TL.tl_num n
theorem dI_inj {m n : Nat} (h : dI m = dI n) : m = n := TL.numL_inj (by rw [← dI_tl, ← dI_tl, h])
theorem dI_len {n k : Nat} (hk : 0 < k) (h : n < 10 ^ k) : (dI n).length ≤ k := by rw [TL.len_tl, dI_tl]; exact TL.numL_len hk h
theorem dI_int {n : Nat} (h : n < 10 ^ 640) : PySem.intText? (dI n) = some (n : Int) := TL.int_num (Nat.le_trans (TL.numL_len (by decide) h) (by decide))
theorem eq_str {a b : Str} (ha : PyData.strOk a = true) (hb : PyData.strOk b = true) (h : IH) : pEqB (.str a) (.str b) h = some (decide (a = b)) := by
  have sa : SeqAt.shaped (.str a) = true := by simp [SeqAt.shaped, PyData.canLay0, ha, PyData.depth]
  have sb : SeqAt.shaped (.str b) = true := by simp [SeqAt.shaped, PyData.canLay0, hb, PyData.depth]
  have e : PyData.eqv (.str a) (.str b) = decide (a = b) := by
    simp only [PyData.eqv]
    by_cases q : a = b
    · subst q; simp
    · simp [q]
  simp [pEqB, dataOf, sa, sb, e]
theorem emp_app (a : Str) : Str.empty ++ a = a := TL.ext_tl (by rw [TL.tl_append]; rfl)
theorem app_assoc (a b c : Str) : a ++ b ++ c = a ++ (b ++ c) := TL.ext_tl (by simp [TL.tl_append])
theorem len_app (a b : Str) : (a ++ b).length = a.length + b.length := by rw [TL.len_tl, TL.tl_append, List.length_append, ← TL.len_tl, ← TL.len_tl]
/-! ### numbers in texts -/
/-- the number that a text is -/
def isNum (t : List Nat) : Bool := !(t.isEmpty || (decide (t.head? = some 48) && !decide (t = [48]))) && t.all fun c => decide (48 ≤ c) && decide (c ≤ 57)
def intW (t : Str) : Option Nat := if isNum (TL.tl t) then some (NumText.digitsVal (TL.tl t)) else none
def oi : Option Nat → PV
  | none => .non
  | some n => .int n
theorem dig_mem (c : Nat) : decide (c ∈ (Str.ofString "0123456789").cps.toList) = (decide (48 ≤ c) && decide (c ≤ 57)) := by
  have e : (Str.ofString "0123456789").cps.toList = [48, 49, 50, 51, 52, 53, 54, 55, 56, 57] := by decide +kernel
  rw [e]
  simp only [List.mem_cons, List.not_mem_nil, or_false]
  rw [← Bool.decide_and, decide_eq_decide]
  omega
theorem tl_emp : TL.tl (Str.ofString "") = [] := by decide +kernel
theorem tl_0 : TL.tl (Str.ofString "0") = [48] := by decide +kernel
theorem str_eq (a b : Str) : decide (a = b) = decide (TL.tl a = TL.tl b) := by
  rw [decide_eq_decide]
  exact ⟨fun e => by rw [e], TL.ext_tl⟩
theorem intof_eq {t : Str} (hl : t.length ≤ 640) (ok : PyData.strOk t = true) (h : IH) : f_integer_of [.str t] h = .ok (oi (intW t)) h := by
  have o1 : PyData.strOk (Str.ofString "") = true := by decide +kernel
  have o2 : PyData.strOk (Str.ofString "0") = true := by decide +kernel
  have l2 : t.length ≤ 16777216 := by omega
  suffices H : ∃ v h1, f_integer_of [.str t] h = .ok v h1 ∧ (v = oi (intW t) ∧ h1 = h) by
    obtain ⟨v, h1, e, rfl, rfl⟩ := H
    exact e
  refine w_fn rfl ?_
  have q1 := eq_str ok o1 h
  have q2 := eq_str ok o2 h
  rw [str_eq, tl_emp] at q1
  rw [str_eq, tl_0] at q2
  cases hc : TL.tl t with
  | nil =>
    have n0 : intW t = none := by simp [intW, hc, isNum]
    refine w_seq (w_if (b := true) (h1 := h) (by simp [q1, hc]) (fun _ => w_ret (v := .non) (h1 := h) (by simp) ⟨by rw [n0]; rfl, rfl⟩) fun z => by cases z)
  | cons c cs =>
    have hcs : t.cps.toList = c :: cs := hc
    have o3 : PyData.strOk ⟨#[c]⟩ = true := by
      have := ok
      simp only [PyData.strOk] at this ⊢
      have e := Array.all_eq_true_iff_forall_mem.mp this c (by rw [← Array.mem_toList_iff, hcs]; simp)
      simpa using e
    have q3 := eq_str (a := ⟨#[c]⟩) o3 o2 h
    rw [str_eq, tl_0] at q3
    have q4 : decide (TL.tl (⟨#[c]⟩ : Str) = [48]) = decide (c = 48) := by
      rw [decide_eq_decide]
      show [c] = [48] ↔ c = 48
      simp
    rw [q4] at q3
    by_cases lead : c = 48 ∧ ¬ cs = []
    · have n0 : intW t = none := by simp [intW, hc, isNum, lead]
      refine w_seq (w_if (b := true) (h1 := h) ?_ (fun _ => w_ret (v := .non) (h1 := h) (by simp) ⟨by rw [n0]; rfl, rfl⟩) fun z => by cases z)
      have q5 := q3
      rw [lead.1] at q5
      simp [q1, q2, q5, hc, hcs, l2, lead.1, lead.2]
    · have t1 : (tOrX (tBl (eOp pEq (eVar 0) (eC (.str (Str.ofString ""))))) (tAndX (tBl (eOp pEq (eOp pIdx (eVar 0) (eC (.int 0))) (eC (.str (Str.ofString "0"))))) (tBl (eOp pNe (eVar 0) (eC (.str (Str.ofString "0"))))))) [some (.str t), none] h = .ok false h := by
        by_cases c0 : c = 48
        · have : cs = [] := by
            by_cases q : cs = []
            · exact q
            · exact absurd ⟨c0, q⟩ lead
          have q5 := q3
          rw [c0] at q5
          simp [q1, q2, q5, hc, hcs, l2, c0, this]
        · simp [q1, q2, q3, hc, hcs, l2, c0]
      refine w_seq (w_if t1 (fun z => by cases z) fun _ => w_nil ?_)
      refine w_seq (w_for t.cps.toList.length (fun i r g => ∃ x, r = [some (.str t), x] ∧ g = h ∧ ∀ j (hj : j < t.cps.toList.length), j < i → 48 ≤ t.cps.toList[j] ∧ t.cps.toList[j] ≤ 57) (it := itStr t) (h1 := h) (by simp) (by have := hl; simp [Str.length] at this; simp; omega) ⟨none, rfl, rfl, fun j _ hj => by omega⟩ ?_ ?_)
      · rintro i r g hi ⟨x, rfl, rfl, d⟩
        have e1 : t.cps.toList[i]? = some t.cps.toList[i] := by simp [hi]
        refine ⟨.str ⟨#[t.cps.toList[i]]⟩, _, ?_, rfl, ?_⟩
        · simp only [itStr, e1]
        have dm := dig_mem t.cps.toList[i]
        refine w_if (b := !(decide (48 ≤ t.cps.toList[i]) && decide (t.cps.toList[i] ≤ 57))) (h1 := g) ?_ (fun z => ?_) (fun z => ?_)
        · rw [← dm]; simp
        · refine w_ret (v := .non) (h1 := g) (by simp) ⟨?_, rfl⟩
          have n0 : intW t = none := by
            have : isNum (TL.tl t) = false := by
              unfold isNum
              have : (TL.tl t).all (fun c => decide (48 ≤ c) && decide (c ≤ 57)) = false := by
                rw [List.all_eq_false]
                exact ⟨_, List.getElem_mem hi, by simpa [Decidable.imp_iff_not_or] using z⟩
              rw [this]; simp
            simp [intW, this]
          rw [n0]; rfl
        · refine w_nil ⟨_, rfl, rfl, fun j hj hi1 => ?_⟩
          by_cases q : j < i
          · exact d j hj q
          · have : j = i := by omega
            subst this
            simpa using z
      · rintro r g ⟨x, rfl, rfl, d⟩
        refine ⟨by simp, ?_⟩
        have ad : NumText.AllDigits (TL.tl t) := fun c hm => by
          obtain ⟨j, hj, rfl⟩ := List.getElem_of_mem hm
          exact d j hj hj
        have it := intText_digits ad (by show TL.tl t ≠ []; rw [hc]; simp) (by omega)
        have isn : isNum (TL.tl t) = true := by
          unfold isNum
          have : (TL.tl t).all (fun c => decide (48 ≤ c) && decide (c ≤ 57)) = true := by
            rw [List.all_eq_true]
            intro c hm
            have := ad c hm
            simp [this]
          rw [this, hc]
          by_cases c0 : c = 48
          · have : cs = [] := by
              by_cases q : cs = []
              · exact q
              · exact absurd ⟨c0, q⟩ lead
            simp [c0, this]
          · simp [c0]
        refine w_ret (v := .int (NumText.digitsVal (TL.tl t))) (h1 := g) ?_ ⟨by simp [intW, isn, oi], rfl⟩
        simp [hl, it]
end WR

namespace WR
open PySem PySem.Spec PyProof.Rows L2
/-! ### what a split leaves -/
theorem mem_joinL {S : List Nat} : ∀ {ps : List (List Nat)} {p : List Nat} {c : Nat}, p ∈ ps → c ∈ p → c ∈ TL.joinL S ps
  | [], _, _, h, _ => by simp at h
  | [q], p, c, h, hc => by
    have : p = q := by simpa using h
    subst this; exact hc
  | q :: r :: ps, p, c, h, hc => by
    show c ∈ q ++ (S ++ TL.joinL S (r :: ps))
    rcases List.mem_cons.mp h with e | h
    · subst e; exact List.mem_append_left _ hc
    · exact List.mem_append_right _ (List.mem_append_right _ (mem_joinL h hc))
theorem part_mem {x y p : Str} {c : Nat} (h : p ∈ Txt.split x y) (hc : c ∈ TL.tl p) : c ∈ TL.tl x := by
  have e := StrLaws.join_split x y
  have e2 : TL.tl x = TL.joinL (TL.tl y) ((Txt.split x y).map TL.tl) := by rw [← TL.tl_join, e]
  rw [e2]
  exact mem_joinL (List.mem_map_of_mem h) hc
theorem ok_iff (x : Str) : PyData.strOk x = true ↔ ∀ c ∈ TL.tl x, c < 1114112 := by
  unfold PyData.strOk
  rw [Array.all_eq_true_iff_forall_mem]
  constructor
  · intro h c hc
    have := h c (by rw [← Array.mem_toList_iff]; exact hc)
    simpa using this
  · intro h c hc
    have := h c (by show c ∈ x.cps.toList; rw [Array.mem_toList_iff]; exact hc)
    simpa using this
theorem part_ok {x y p : Str} (h : p ∈ Txt.split x y) (ok : PyData.strOk x = true) : PyData.strOk p = true := (ok_iff p).mpr fun c hc => (ok_iff x).mp ok c (part_mem h hc)
/-! ### fractions in texts -/
def oiD : Option Nat → PyData
  | none => .none
  | some n => .int n
theorem EncOk.oi : EncOk 0 oi oiD := by
  refine ⟨fun m h a _ => ?_, fun a => ?_, fun a => ?_, fun a b => ?_⟩
  · cases a <;> simp [WR.oi, oiD]
  · cases a <;> simp [oiD, PyData.canLay0]
  · cases a <;> simp [oiD, PyData.depth]
  · cases a <;> cases b <;> simp [oiD, PyData.eqv]
    rename_i a b
    by_cases q : a = b
    · subst q; simp
    · have : ¬ (a : Int) = b := by omega
      simp [q, this]
abbrev slash : Str := "/"
def fracW (w : Str) : Option (Nat × Nat) := match (Txt.split w slash).map intW with
  | [some n] => some (n, 1)
  | [some n, some d] => if d < 2 ∨ Nat.gcd n d ≠ 1 then none else some (n, d)
  | _ => none
def ofr : Option (Nat × Nat) → PV
  | none => .non
  | some (n, d) => .tup [.int n, .int d]
theorem fold_lt : ∀ (t : List Nat) (a : Nat), NumText.AllDigits t → t.foldl (fun acc c => acc * 10 + (c - 48)) a < (a + 1) * 10 ^ t.length
  | [], a, _ => by simp
  | c :: t, a, h => by
    have hc := h.head
    have ih := fold_lt t (a * 10 + (c - 48)) h.tail
    rw [List.foldl_cons, List.length_cons, Nat.pow_succ]
    refine Nat.lt_of_lt_of_le ih ?_
    have : a * 10 + (c - 48) + 1 ≤ (a + 1) * 10 := by omega
    calc (a * 10 + (c - 48) + 1) * 10 ^ t.length ≤ ((a + 1) * 10) * 10 ^ t.length := Nat.mul_le_mul_right _ this
      _ = (a + 1) * (10 ^ t.length * 10) := by rw [Nat.mul_assoc, Nat.mul_comm 10]
theorem intW_lt {t : Str} {n k : Nat} (h : intW t = some n) (hl : t.length ≤ k) : n < 10 ^ k := by
  unfold intW at h
  split at h
  · rename_i hn
    cases h
    have ad : NumText.AllDigits (TL.tl t) := fun c hm => by
      have := List.all_eq_true.mp (Bool.and_eq_true_iff.mp hn).2 c hm
      simpa using this
    have := fold_lt (TL.tl t) 0 ad
    rw [Nat.zero_add, Nat.one_mul] at this
    refine Nat.lt_of_lt_of_le this (Nat.pow_le_pow_right (by decide) ?_)
    rw [← TL.len_tl]; exact hl
  · cases h
theorem frac_eq (n d : Nat) (hd : d < 2 ^ 9000) (h : IH) : f_is_fraction [.tup [.int n, .int d]] h = .ok (.bl (decide (1 ≤ d) && decide (Nat.gcd n d = 1))) h := by
  have c := common_eq n d h (by simpa using hd)
  have e1 : pEqB (.int (Int.gcd n d)) (.int 1) h = some (decide (Nat.gcd n d = 1)) := by
    rw [EncOk.int.eq (by decide)]
    congr 1
    rw [decide_eq_decide]
    show ((Nat.gcd n d : Nat) : Int) = 1 ↔ _
    omega
  by_cases q : 1 ≤ d
  · have q' : (1 : Int) ≤ d := by omega
    simp [f_is_fraction, b_is_fraction, tyNames, subTy, f_is_integer, b_is_integer, c, e1, q, q', EncOk.int.eq (n := 0) (by decide) 2 2 h]
    rw [Bool.eq_iff_iff]; simp; omega
  · have q' : ¬ (1 : Int) ≤ d := by omega
    simp [f_is_fraction, b_is_fraction, tyNames, subTy, f_is_integer, b_is_integer, q, q', EncOk.int.eq (n := 0) (by decide) 2 2 h]
theorem fraction_of_eq {w : Str} (hl : w.length ≤ 640) (ok : PyData.strOk w = true) (h : IH) : ∃ t, f_fraction_of [.str w] h = .ok (ofr (fracW w)) (h ++ t) := by
  suffices H : ∃ v h1, f_fraction_of [.str w] h = .ok v h1 ∧ (v = ofr (fracW w) ∧ ∃ t, h1 = h ++ t) by
    obtain ⟨v, h1, e, rfl, t, rfl⟩ := H
    exact ⟨t, e⟩
  refine w_fn rfl ?_
  have sl : (slash.length == 0) = false := by decide +kernel
  have hp : ∀ p ∈ Txt.split w slash, p.length ≤ 640 ∧ PyData.strOk p = true := fun p hp => ⟨Nat.le_trans (part_short hp) hl, part_ok hp ok⟩
  have l1 := split_pos w slash
  have l2 := split_le w slash
  generalize hP : Txt.split w slash = ps at hp l1 l2
  refine w_seq (w_set (v := .obj h.length) (h1 := h ++ [.lst (ps.map .str)]) ?_ ?_)
  · have l3 : w.length ≤ 16777214 := by omega
    have s2 : ¬ (Str.ofString "/").length = 0 := by decide +kernel
    simp [s2, l3, hP]
  obtain ⟨t, e⟩ := lc_all (I := eIter (eVar 1)) (it := itObj h.length) (g := gVar 4) (c := tYesX) (A := eCall f_integer_of (aCons (eVar 4) aNil)) (vs := [4]) (r := [some (.str w), some (.obj h.length), none, none, none]) (h := h ++ [.lst (ps.map .str)]) (base := h ++ [.lst (ps.map .str)]) (n := ps.length)
    (fun i => oi (intW (ps[i]?.getD ""))) (fun _ => true) (by omega) (by simp)
    (fun i t hi => ⟨.str ps[i], _, [], by simp [hi], rfl, by simp, fun _ => ⟨[], by
      obtain ⟨q1, q2⟩ := hp ps[i] (List.getElem_mem hi)
      simp [intof_eq q1 q2, hi]⟩⟩)
    (fun t => by simp)
  have eF : ((List.range ps.length).filter fun _ => true).map (fun i => oi (intW (ps[i]?.getD ""))) = (ps.map intW).map oi := by
    rw [List.filter_eq_self.mpr (by simp), List.map_map]
    apply List.ext_getElem
    · simp
    · intro i h1 h2; simp at h1; simp [h1]
  rw [eF] at e
  simp only [List.length_append, List.length_cons, List.length_nil, Nat.zero_add] at e
  refine w_seq (w_set e ?_)
  generalize hg : h ++ [MO.lst (ps.map .str)] ++ MO.lst ((ps.map intW).map oi) :: t = g
  have hh : g = h ++ ([MO.lst (ps.map .str)] ++ MO.lst ((ps.map intW).map oi) :: t) := by rw [← hg, List.append_assoc]
  have g1 : g[h.length]? = some (.lst (ps.map .str)) := by rw [hh, ga0]; rfl
  have g2 : g[h.length + 1]? = some (.lst ((ps.map intW).map oi)) := by rw [hh, ga1]; rfl
  have nin : pInB .non (.obj (h.length + 1)) g = some (decide (none ∈ ps.map intW)) := by
    have z := EncOk.oi.in_obj (by decide) none g2
    show pInB (oi none) _ _ = _
    rw [z]
    congr 1
    rw [decide_eq_decide]
  have done : ∀ v, v = ofr (fracW w) → (v = ofr (fracW w) ∧ ∃ t, g = h ++ t) := fun v e => ⟨e, _, hh⟩
  have fw : fracW w = match ps.map intW with
    | [some n] => some (n, 1)
    | [some n, some d] => if d < 2 ∨ Nat.gcd n d ≠ 1 then none else some (n, d)
    | _ => none := by unfold fracW; rw [hP]
  by_cases c1 : 2 < ps.length
  · refine w_seq (w_if (b := true) (h1 := g) ?_ (fun _ => w_ret (v := .non) (h1 := g) (by simp) (done _ ?_)) fun z => by cases z)
    · have : (2 : Int) < ps.length := by omega
      simp [g1, this]
    · rw [fw]
      match ps, c1 with
      | a :: b :: c :: r, _ => simp only [List.map_cons]; cases intW a <;> cases intW b <;> rfl
  by_cases c2 : none ∈ ps.map intW
  · refine w_seq (w_if (b := true) (h1 := g) ?_ (fun _ => w_ret (v := .non) (h1 := g) (by simp) (done _ ?_)) fun z => by cases z)
    · have : ¬ (2 : Int) < ps.length := by omega
      simp [g1, this, nin, c2]
    · rw [fw]
      match ps, l1, c1, c2 with
      | [a], _, _, c2 =>
        have e : intW a = none := (List.mem_singleton.mp c2).symm
        simp [e, ofr]
      | [a, b], _, _, c2 =>
        cases ea : intW a with
        | none => simp [ea, ofr]
        | some n =>
          have e : intW b = none := by
            rcases List.mem_cons.mp c2 with z | z
            · rw [ea] at z; cases z
            · exact (List.mem_singleton.mp z).symm
          simp [ea, e, ofr]
      | _ :: _ :: _ :: _, _, c1, _ => exact absurd (by simp) c1
  refine w_seq (w_if (b := false) (h1 := g) ?_ (fun z => by cases z) fun _ => w_nil ?_)
  · have : ¬ (2 : Int) < ps.length := by omega
    simp [g1, this, nin, c2]
  match ps, l1, c1, c2, hp, g1, g2, fw with
  | [a], _, _, c2, hp, g1, g2, fw =>
    cases ea : intW a with
    | none => simp [ea] at c2
    | some n =>
      refine w_seq (w_if (b := true) (h1 := g) ?_ (fun _ => w_ret (v := .tup [.int n, .int 1]) (h1 := g) ?_ (done _ ?_)) fun z => by cases z)
      · simp [g1, EncOk.int.eq (n := 0) (by decide) 1 1 g]
      · simp [g2, ea, oi]
      · rw [fw]; simp [ea, ofr]
  | [a, b], _, _, c2, hp, g1, g2, fw =>
    cases ea : intW a with
    | none => simp [ea] at c2
    | some n => cases eb : intW b with
      | none => simp [eb] at c2
      | some d =>
        refine w_seq (w_if (b := false) (h1 := g) ?_ (fun z => by cases z) fun _ => w_nil ?_)
        · simp [g1, EncOk.int.eq (n := 0) (by decide) 2 1 g]
        refine w_seq (w_set (v := .tup [.int n, .int d]) (h1 := g) ?_ ?_)
        · simp [g2, ea, eb, oi]
        have dl : d < 2 ^ 9000 := Nat.lt_of_lt_of_le (intW_lt eb (hp b (by simp)).1) (by decide +kernel)
        have fe := frac_eq n d dl g
        refine w_seq (w_if (b := decide (d < 2 ∨ Nat.gcd n d ≠ 1)) (h1 := g) ?_ (fun z => ?_) (fun z => ?_))
        · by_cases d2 : d < 2
          · have : (d : Int) < 2 := by omega
            simp [g2, ea, eb, oi, d2, this]
          · have : ¬ (d : Int) < 2 := by omega
            have d1 : 1 ≤ d := by omega
            simp [g2, ea, eb, oi, d2, this, fe, d1]
        · refine w_ret (v := .non) (h1 := g) (by simp) (done _ ?_)
          rw [fw]
          simp only [List.map_cons, List.map_nil, ea, eb]
          rw [if_pos (of_decide_eq_true z)]; rfl
        · refine w_nil (w_ret (v := .tup [.int n, .int d]) (h1 := g) (by simp) (done _ ?_))
          rw [fw]
          simp only [List.map_cons, List.map_nil, ea, eb]
          rw [if_neg (of_decide_eq_false z)]; rfl
  | _ :: _ :: _ :: _, _, c1, _, _, _, _, _ => exact absurd (by simp) c1
end WR

namespace WR
open PySem PySem.Spec PyProof.Rows L2
/-- the refusal -/
def ivx (l w : Int) : XV := ⟨"InvalidText", [("word", .int w), ("line", .int l)]⟩
theorem atI_nat {α : Type} (xs : List α) (i : Nat) : atI xs (i : Int) = xs[i]? := by
  by_cases q : i < xs.length
  · rw [atI_pos _ _ (by omega) (by omega)]; simp
  · have : ¬ (i : Int) < xs.length := by omega
    simp [atI, ixN, this, q]
theorem word_at_eq {n : Nat} {ws : List Str} {h : IH} (e : h[n]? = some (.lst (ws.map .str))) (l : Int) (p : Nat) : f_word_at [.obj n, .int l, .int p] h = match ws[p]? with
    | some w => .ok (.str w) h
    | none => .ex (ivx l (p + 1)) h := by
  by_cases q : p < ws.length
  · have q1 : ¬ (ws.length : Int) ≤ p := by omega
    simp [f_word_at, b_word_at, e, q1, q, atI_nat]
  · have q1 : (ws.length : Int) ≤ p := by omega
    simp [f_word_at, b_word_at, e, q1, q, ivx]
theorem check_name_eq {n : Nat} {ws : List Str} {h : IH} (e : h[n]? = some (.lst (ws.map .str))) (ok : ∀ w ∈ ws, PyData.strOk w = true) (p : Nat) {x : Str} (ox : PyData.strOk x = true) : f_check_name [.obj n, .int p, .str x] h = if ws[p]? = some x then .ok .non h else .ex (ivx 1 (p + 1)) h := by
  have w := word_at_eq e 1 p
  cases q : ws[p]? with
  | none =>
    rw [q] at w
    simp [f_check_name, b_check_name, w]
  | some y =>
    rw [q] at w
    have := eq_str (ok y (List.mem_of_getElem? q)) ox h
    by_cases z : y = x
    · subst z; simp [f_check_name, b_check_name, w, this]
    · simp [f_check_name, b_check_name, w, this, z, ivx]
/-- the number that a word is -/
def numW (lo : Int) (m : Nat) (w : Str) : Option Int := ((List.range m).map fun (i : Nat) => lo + i).find? fun i => decide (dI i = w)
def resN (l : Int) (p : Nat) (h : IH) : Option Int → Res PV
  | some i => .ok (.int i) h
  | none => .ex (ivx l (p + 1)) h
theorem dI_ok {i : Int} (h : 0 ≤ i) : PyData.strOk (dI i) = true := by
  obtain ⟨n, rfl⟩ := Int.eq_ofNat_of_zero_le h
  refine (ok_iff _).mpr fun c hc => ?_
  rw [dI_tl] at hc
  have := TL.numL_digits n c hc
  omega
def findN (lo : Int) (y : Str) : Nat → Nat → Option Int
  | 0, _ => none
  | m + 1, i => if dI (lo + i) = y then some (lo + i) else findN lo y m (i + 1)
theorem num_loop {y : Str} (oy : PyData.strOk y = true) {lo : Int} (h0 : 0 ≤ lo) (h1 : lo ≤ 9) (m : Nat) (hm : m ≤ 10) (h : IH) (a0 a1 a2 a3 a4 : Option PV) : ∀ (d k i : Nat) (x : Option PV), d = m - i → i ≤ m → d < k →
    ∃ x', forL (itRange lo m) (gVar 6) (sIf (tBl (eOp pEq (eB pStr1 (aCons (eVar 6) aNil)) (eVar 5))) (sRet (eVar 6)) sNil) k i [a0, a1, a2, a3, a4, some (.str y), x] h = match findN lo y d i with
      | some v => .rt (.int v) h
      | none => .nx [a0, a1, a2, a3, a4, some (.str y), x'] h := by
  intro d
  induction d with
  | zero =>
    intro k i x e hi hk
    obtain ⟨k, rfl⟩ : ∃ k', k = k' + 1 := ⟨k - 1, by omega⟩
    refine ⟨x, ?_⟩
    unfold forL
    simp [show ¬ i < m by omega, findN]
  | succ d ih =>
    intro k i x e hi hk
    obtain ⟨k, rfl⟩ : ∃ k', k = k' + 1 := ⟨k - 1, by omega⟩
    have lg : (lo + i).natAbs.log2 < 1920 := log_of (Nat.lt_of_lt_of_le (show _ < 2 ^ 5 by omega) (Nat.pow_le_pow_right (by decide) (by decide))) (by decide)
    have q := eq_str (dI_ok (i := lo + i) (by omega)) oy h
    have q' : pEqB (.str (Str.ofString (Int.repr (lo + (i : Int))))) (.str y) h = some (decide (dI (lo + i) = y)) := q
    obtain ⟨x', ih⟩ := ih k (i + 1) (some (.int (lo + i))) (by omega) (by omega) (by omega)
    refine ⟨x', ?_⟩
    conv => lhs; unfold forL
    by_cases z : dI (lo + i) = y
    · simp [show i < m by omega, lg, q', z, findN]
    · simp only [findN, z, if_false]
      rw [← ih]
      simp [show i < m by omega, lg, q', z]
theorem number_at_eq {n : Nat} {ws : List Str} {h : IH} (e : h[n]? = some (.lst (ws.map .str))) (ok : ∀ w ∈ ws, PyData.strOk w = true) (l : Int) (p : Nat) {lo hi : Int} (h0 : 0 ≤ lo) (h2 : lo ≤ 9) (h3 : -1 ≤ hi) (h1 : hi ≤ 9) : f_number_at [.obj n, .int l, .int p, .int lo, .int hi] h = match ws[p]? with
    | some w => resN l p h (findN lo w (hi + 1 - lo).toNat 0)
    | none => .ex (ivx l (p + 1)) h := by
  have w := word_at_eq e l p
  cases q : ws[p]? with
  | none =>
    rw [q] at w
    simp [f_number_at, b_number_at, w]
  | some y =>
    rw [q] at w
    have oy := ok y (List.mem_of_getElem? q)
    have r1 : rngOk lo = true := by simp [rngOk]; omega
    have r2 : rngOk (hi + 1) = true := by simp [rngOk]; omega
    obtain ⟨x', lp⟩ := num_loop oy h0 h2 (hi + 1 - lo).toNat (by omega) h (some (.obj n)) (some (.int l)) (some (.int p)) (some (.int lo)) (some (.int hi)) (hi + 1 - lo).toNat LIM 0 none (by omega) (by omega) (by simp [LIM]; omega)
    cases z : findN lo y (hi + 1 - lo).toNat 0 with
    | some v =>
      rw [z] at lp
      simp [f_number_at, b_number_at, w, r1, r2, sFor, lp, resN, z]
    | none =>
      rw [z] at lp
      simp [f_number_at, b_number_at, w, r1, r2, sFor, lp, resN, z, ivx]
theorem length_eq {n : Nat} {ws : List Str} {h : IH} (e : h[n]? = some (.lst (ws.map .str))) (l : Int) (m : Nat) : f_check_length [.obj n, .int l, .int m] h = if m < ws.length then .ex (ivx l (m + 1)) h else .ok .non h := by
  by_cases q : m < ws.length
  · have q1 : (m : Int) < ws.length := by omega
    simp [f_check_length, b_check_length, e, q1, q, ivx]
  · have q1 : ¬ (m : Int) < ws.length := by omega
    simp [f_check_length, b_check_length, e, q1, q]
/-! ### a turn's line -/
/-- the turn, or the number of the word that cannot stand -/
def turnW (R : Int) (ws : List Str) : Nat ⊕ (Int × Rat) := match ws[0]? with
  | none => .inl 1
  | some a => (match findN 0 a R.toNat 0 with
    | none => .inl 1
    | some r => (match ws[1]? with
      | none => .inl 2
      | some b => (match fracW b with
        | none => .inl 2
        | some (n, d) => if 0 < mkRat n d ∧ mkRat n d ≤ 1000000000000 then (if 2 < ws.length then .inl 3 else .inr (r, mkRat n d)) else .inl 2)))
theorem fracW_ok {w : Str} {n d : Nat} (h : fracW w = some (n, d)) : 1 ≤ d ∧ Nat.gcd n d = 1 := by
  unfold fracW at h
  split at h
  · cases h; exact ⟨by decide, Nat.gcd_one_right _⟩
  · split at h
    · cases h
    · rename_i z
      cases h
      refine ⟨by omega, ?_⟩
      apply Decidable.byContradiction
      intro q; exact z (.inr q)
  · cases h
theorem fq_cop {n d : Nat} (h1 : 1 ≤ d) (h2 : Nat.gcd n d = 1) : fq (mkRat n d) = .tup [.int n, .int d] := by
  rw [fq_mk n d (by omega)]
  have : Int.gcd (n : Int) (d : Int) = 1 := by simpa [Int.gcd] using h2
  rw [this]
  simp
theorem len1 {α : Type} {l : List α} (h : l.length = 1) : ∃ a, l = [a] := by
  match l, h with
  | [a], _ => exact ⟨a, rfl⟩
theorem len2 {α : Type} {l : List α} (h : l.length = 2) : ∃ a b, l = [a, b] := by
  match l, h with
  | [a, b], _ => exact ⟨a, b, rfl⟩
theorem fracW_lt {w : Str} {n d : Nat} (h : fracW w = some (n, d)) (hl : w.length ≤ 15) : n < 2 ^ 50 ∧ d < 2 ^ 50 := by
  have hp : ∀ p ∈ Txt.split w slash, ∀ m, intW p = some m → m < 2 ^ 50 := fun p hp m e => Nat.lt_of_lt_of_le (intW_lt e (Nat.le_trans (part_short hp) hl)) (by decide +kernel)
  unfold fracW at h
  generalize Txt.split w slash = ps at h hp
  split at h
  · rename_i m e
    cases h
    obtain ⟨a, rfl⟩ := len1 (by simpa using congrArg List.length e)
    exact ⟨hp a (by simp) _ (by simpa using e), by decide⟩
  · rename_i m k e
    split at h
    · cases h
    · cases h
      obtain ⟨a, b, rfl⟩ := len2 (by simpa using congrArg List.length e)
      simp only [List.map_cons, List.map_nil, List.cons.injEq, and_true] at e
      exact ⟨hp a (by simp) _ e.1, hp b (by simp) _ e.2⟩
  · cases h
theorem cop_sm {n d : Nat} (hn : n < 2 ^ 50) (hd : d < 2 ^ 50) (h1 : 1 ≤ d) : Sm 50 (mkRat n d) := mk_small (by simpa using hn) hd (by omega)
theorem num_pos_iff (q : Rat) : 0 < q.num ↔ 0 < q := by
  refine ⟨fun h => ?_, num_pos⟩
  rw [Rat.lt_iff]
  simpa using h
theorem reach_gen {N : Nat} {q : Rat} (s : Sm N q) (hN : N ≤ 9000) (h : IH) : f_is_reach [fq q] h = .ok (.bl (decide (0 < q ∧ q ≤ 1000000000000))) h := by
  have w := within_eq s hN 0 1000000000000 (by decide) (by decide) h
  have e0 : ((0 : Int) : Rat) = 0 := rfl
  have e1 : ((1000000000000 : Int) : Rat) = 1000000000000 := rfl
  rw [e0, e1] at w
  have np := num_pos_iff q
  simp only [fq] at w
  by_cases a : 0 ≤ q ∧ q ≤ 1000000000000
  · by_cases b : 0 < q
    · simp [f_is_reach, b_is_reach, fq, w, a, b, np]
    · simp [f_is_reach, b_is_reach, fq, w, a, b, np]
  · have b : ¬ (0 < q ∧ q ≤ 1000000000000) := fun z => a ⟨Rat.le_of_lt z.1, z.2⟩
    simp [f_is_reach, b_is_reach, fq, w, a, b]
end WR

namespace WR
open PySem PySem.Spec PyProof.Rows L2
def WOk (ws : List Str) : Prop := ∀ w ∈ ws, PyData.strOk w = true ∧ w.length ≤ 15
theorem read_turn_eq {n : Nat} {ws : List Str} {h : IH} (e : h[n]? = some (.lst (ws.map .str))) (ok : WOk ws) (l : Int) {R : Int} (r1 : 1 ≤ R) (r2 : R ≤ 5) :
    ∃ t, f_read_turn [.obj n, .int l, .int R] h = match turnW R ws with
      | .inl w => .ex (ivx l w) (h ++ t)
      | .inr q => .ok (tq q) (h ++ t) := by
  have ok1 : ∀ w ∈ ws, PyData.strOk w = true := fun w hw => (ok w hw).1
  have na := number_at_eq e ok1 l 0 (lo := 0) (hi := R - 1) (by decide) (by decide) (by omega) (by omega)
  rw [show (R - 1 + 1 - 0).toNat = R.toNat by omega] at na
  simp only [Int.natCast_zero, Int.ofNat_zero] at na
  have w1 := word_at_eq e l 1
  unfold turnW
  cases q0 : ws[0]? with
  | none =>
    rw [q0] at na
    exact ⟨[], by simp [f_read_turn, b_read_turn, na]⟩
  | some a =>
    rw [q0] at na
    cases q1 : findN 0 a R.toNat 0 with
    | none =>
      simp only [q1, resN] at na ⊢
      exact ⟨[], by simp [f_read_turn, b_read_turn, na]⟩
    | some r =>
      simp only [q1, resN] at na ⊢
      cases q2 : ws[1]? with
      | none =>
        rw [q2] at w1
        simp only at w1 ⊢
        have w1 : f_word_at [.obj n, .int l, .int 1] h = .ex (ivx l 2) h := w1
        exact ⟨[], by simp [f_read_turn, b_read_turn, na, w1]⟩
      | some b =>
        rw [q2] at w1
        simp only at w1 ⊢
        have w1 : f_word_at [.obj n, .int l, .int 1] h = .ok (.str b) h := w1
        obtain ⟨ob, lb⟩ := ok b (List.mem_of_getElem? q2)
        obtain ⟨t, fo⟩ := fraction_of_eq (by omega) ob h
        cases q3 : fracW b with
        | none =>
          rw [q3] at fo
          exact ⟨t, by simp [f_read_turn, b_read_turn, na, w1, fo, ofr, ivx]⟩
        | some nd =>
          obtain ⟨m, d⟩ := nd
          obtain ⟨c1, c2⟩ := fracW_ok q3
          obtain ⟨c3, c4⟩ := fracW_lt q3 lb
          rw [q3] at fo
          have fo : f_fraction_of [.str b] h = .ok (fq (mkRat m d)) (h ++ t) := by rw [fq_cop c1 c2]; exact fo
          have re := reach_gen (cop_sm c3 c4 c1) (by decide) (h ++ t)
          have le := length_eq (n := n) (ws := ws) (h := h ++ t) (get_old e) l 2
          have le : f_check_length [.obj n, .int l, .int 2] (h ++ t) = if 2 < ws.length then .ex (ivx l (2 + 1)) (h ++ t) else .ok .non (h ++ t) := le
          have nn : isN (fq (mkRat m d)) = false := rfl
          by_cases c5 : 0 < mkRat m d ∧ mkRat m d ≤ 1000000000000
          · rw [decide_eq_true c5] at re
            by_cases c6 : 2 < ws.length
            · rw [if_pos c6] at le
              refine ⟨t, ?_⟩
              simp only [if_pos c5, if_pos c6]
              simp only [fq] at fo re
              simp [f_read_turn, b_read_turn, na, w1, fo, re, le, ivx]
            · rw [if_neg c6] at le
              refine ⟨t, ?_⟩
              simp only [if_pos c5, if_neg c6]
              simp only [fq] at fo re
              simp [f_read_turn, b_read_turn, na, w1, fo, re, le, tq, fq]
          · rw [decide_eq_false c5] at re
            refine ⟨t, ?_⟩
            simp only [if_neg c5]
            simp only [fq] at fo re
            simp [f_read_turn, b_read_turn, na, w1, fo, re, ivx]
end WR

namespace WR
open PySem PySem.Spec PyProof.Rows L2
abbrev sp_ : Str := " "
abbrev nl_ : Str := "\n"
abbrev em_ : Str := ""
/-- the words of a line -/
def wordsOf (l : Str) : List Str := (Txt.split l sp_).filter fun w => !decide (w = em_)
theorem take_succ_filt {α : Type} {ps : List α} {i : Nat} (hi : i < ps.length) (f : α → Bool) : (ps.take (i + 1)).filter f = (ps.take i).filter f ++ (if f ps[i] then [ps[i]] else []) := by
  rw [List.take_succ_eq_append_getElem hi, List.filter_append]
  congr 1
  cases q : f ps[i] <;> simp [q]
theorem inner_eq {l : Str} (hl : l.length ≤ 900000) (ok : PyData.strOk l = true) (h : IH) (a0 a1 a2 a3 a4 a5 a6 a7 a8 : Option PV) :
    eLc (eIter (eSplit (eVar 9) (eC (.str " ")))) (gVar 8) (tBl (eOp pNe (eVar 8) (eC (.str "")))) (eVar 8) [8] [a0, a1, a2, a3, a4, a5, a6, a7, a8, some (.str l)] h = .ok (.obj (h.length + 1)) (h ++ [.lst ((Txt.split l sp_).map .str), .lst ((wordsOf l).map .str)]) := by
  have s2 : ¬ (Str.ofString " ").length = 0 := by decide +kernel
  have l3 : l.length ≤ 16777214 := by omega
  have oe : PyData.strOk (Str.ofString "") = true := by decide +kernel
  have hp : ∀ p ∈ Txt.split l sp_, PyData.strOk p = true := fun p hp => part_ok hp ok
  have l2 := split_le l sp_
  unfold wordsOf
  generalize hP : Txt.split l sp_ = ps at hp l2
  obtain ⟨acc, h', e1, e2, e3, e4⟩ := w_lc (I := eIter (eSplit (eVar 9) (eC (.str " ")))) (g := gVar 8) (c := tBl (eOp pNe (eVar 8) (eC (.str "")))) (A := eVar 8) (vs := [8]) (r := [a0, a1, a2, a3, a4, a5, a6, a7, a8, some (.str l)]) (h := h) (h1 := h ++ [.lst (ps.map .str)]) (it := itObj h.length) ps.length
    (fun i acc g => g = h ++ [.lst (ps.map .str), .lst acc] ∧ acc = ((ps.take i).filter fun w => !decide (w = em_)).map PV.str) (by simp [s2, l3, hP]) (by omega) ⟨by simp, by simp⟩
    (fun i acc g hi ⟨a1, a2⟩ hlen gD => by
      subst a1
      have q := eq_str (hp ps[i] (List.getElem_mem hi)) oe (h ++ [.lst (ps.map .str), .lst acc])
      refine ⟨.str ps[i], _, !decide (ps[i] = em_), h ++ [.lst (ps.map .str), .lst acc], by simp [hi], rfl, by simp [q], fun z => ⟨gD, rfl, ?_⟩, fun z => ⟨.str ps[i], h ++ [.lst (ps.map .str), .lst acc], by simp, gD, ?_, ?_⟩⟩
      · rw [take_succ_filt hi, z, a2]; simp
      · simp [List.set_append]
      · rw [take_succ_filt hi, z, a2]; simp)
    (fun acc g ⟨a1, a2⟩ gD => by subst a1; simp)
  subst e3
  rw [List.take_length] at e4
  subst e4
  simpa using e1
theorem lines_eq {t : Str} (hl : t.length ≤ 900000) (ok : PyData.strOk t = true) (h : IH) (a1 a2 a3 a4 a5 a6 a7 a8 a9 : Option PV) :
    ∃ acc u, eLc (eIter (eSplit (eVar 0) (eC (.str "\n")))) (gVar 9) tYesX (eLc (eIter (eSplit (eVar 9) (eC (.str " ")))) (gVar 8) (tBl (eOp pNe (eVar 8) (eC (.str "")))) (eVar 8) [8]) [9] [some (.str t), a1, a2, a3, a4, a5, a6, a7, a8, a9] h = .ok (.obj (h.length + 1)) (h ++ [.lst ((Txt.split t nl_).map .str), .lst acc] ++ u) ∧ acc.length = (Txt.split t nl_).length ∧
      ∀ j (hj : j < (Txt.split t nl_).length), ∃ k, acc[j]? = some (.obj k) ∧ (h ++ [.lst ((Txt.split t nl_).map .str), .lst acc] ++ u)[k]? = some (.lst ((wordsOf (Txt.split t nl_)[j]).map .str)) ∧ h.length + 2 ≤ k := by
  have s2 : ¬ (Str.ofString "\n").length = 0 := by decide +kernel
  have l3 : t.length ≤ 16777214 := by omega
  have hp : ∀ p ∈ Txt.split t nl_, PyData.strOk p = true ∧ p.length ≤ 900000 := fun p hp => ⟨part_ok hp ok, Nat.le_trans (part_short hp) hl⟩
  have l2 := split_le t nl_
  generalize hP : Txt.split t nl_ = ps at hp l2
  obtain ⟨acc, h', e1, e2, u, e3, e4, e5⟩ := w_lc (I := eIter (eSplit (eVar 0) (eC (.str "\n")))) (g := gVar 9) (c := tYesX) (A := eLc (eIter (eSplit (eVar 9) (eC (.str " ")))) (gVar 8) (tBl (eOp pNe (eVar 8) (eC (.str "")))) (eVar 8) [8]) (vs := [9]) (r := [some (.str t), a1, a2, a3, a4, a5, a6, a7, a8, a9]) (h := h) (h1 := h ++ [.lst (ps.map .str)]) (it := itObj h.length) ps.length
    (fun i acc g => ∃ u, g = h ++ [.lst (ps.map .str), .lst acc] ++ u ∧ acc.length = i ∧ ∀ j (hj : j < ps.length), j < i → ∃ k, acc[j]? = some (.obj k) ∧ g[k]? = some (.lst ((wordsOf ps[j]).map .str)) ∧ h.length + 2 ≤ k)
    (by simp [s2, l3, hP]) (by omega) ⟨[], by simp, rfl, fun j _ hj => by omega⟩
    (fun i acc g hi ⟨u, b1, b2, b3⟩ hlen gD => by
      subst b1
      obtain ⟨q1, q2⟩ := hp ps[i] (List.getElem_mem hi)
      have inn := inner_eq q2 q1 (h ++ [.lst (ps.map .str), .lst acc] ++ u) (some (.str t)) a1 a2 a3 a4 a5 a6 a7 a8
      refine ⟨.str ps[i], [some (.str t), a1, a2, a3, a4, a5, a6, a7, a8, some (.str ps[i])], true, h ++ [.lst (ps.map .str), .lst acc] ++ u, by simp [hi], by simp, rfl, (fun z => by cases z), fun _ => ⟨_, _, inn, by rw [List.getElem?_append_left (lt_of_get gD)]; exact gD, u ++ [.lst ((Txt.split ps[i] sp_).map .str), .lst ((wordsOf ps[i]).map .str)], ?_, by simp [b2], fun j hj hi1 => ?_⟩⟩
      · simp [List.set_append]
      · by_cases q : j < i
        · obtain ⟨k, c1, c2, c3⟩ := b3 j hj q
          refine ⟨k, by rw [List.getElem?_append_left (by omega)]; exact c1, ?_, c3⟩
          rw [List.getElem?_set_ne (by simp; omega)]
          exact get_old c2
        · have : j = i := by omega
          subst this
          refine ⟨(h ++ [MO.lst (ps.map .str), MO.lst acc] ++ u).length + 1, by rw [← b2, List.getElem?_append_right (Nat.le_refl _)]; simp, ?_, by simp⟩
          rw [List.getElem?_set_ne (by simp), ga1]
          rfl)
    (fun acc g ⟨u, b1, b2, b3⟩ gD => by subst b1; simp)
  subst e3
  refine ⟨acc, u, by simpa using e1, e4, fun j hj => e5 j hj hj⟩
end WR

namespace WR
open PySem PySem.Spec PyProof.Rows L2
/-! ### the whole text -/
def headW (ws : List Str) : Nat ⊕ (Int × Rat) :=
  if ws[0]? = some (Str.ofString "roads") then (match ws[1]? with
    | none => .inl 2
    | some a => (match findN 1 a 5 0 with
      | none => .inl 2
      | some R => if ws[2]? = some (Str.ofString "cost") then (match ws[3]? with
        | none => .inl 4
        | some b => (match fracW b with
          | none => .inl 4
          | some (n, d) => if mkRat n d ≤ 1000000000000 then (if 4 < ws.length then .inl 5 else .inr (R, mkRat n d)) else .inl 4)) else .inl 3)) else .inl 1
def turnsW (R : Int) : List (List Str) → Nat → (Nat × Nat) ⊕ List (Int × Rat)
  | [], _ => .inr []
  | ws :: r, i => if i = 60 then .inl (i + 2, 1) else (match turnW R ws with
    | .inl w => .inl (i + 2, w)
    | .inr t => (match turnsW R r (i + 1) with
      | .inl e => .inl e
      | .inr ts => .inr (t :: ts)))
def readW (L : List (List Str)) : (Nat × Nat) ⊕ Pl := match L with
  | [] => .inl (1, 1)
  | ws :: r => (match headW ws with
    | .inl w => .inl (1, w)
    | .inr (R, c) => (match turnsW R r 0 with
      | .inl e => .inl e
      | .inr T => .inr (R, T, c)))
theorem findN_in {lo : Int} {y : Str} : ∀ {m i : Nat} {v : Int}, findN lo y m i = some v → lo + i ≤ v ∧ v < lo + i + m
  | 0, _, _, h => by cases h
  | m + 1, i, v, h => by
    unfold findN at h
    split at h
    · cases h; omega
    · have := findN_in h; omega
theorem turnW_ok {R : Int} {ws : List Str} {t : Int × Rat} (ok : WOk ws) (r1 : 1 ≤ R) (h : turnW R ws = .inr t) : OkT R t := by
  unfold turnW at h
  split at h
  · cases h
  · split at h
    · cases h
    · rename_i a q0 v q1
      split at h
      · cases h
      · rename_i b q2
        split at h
        · cases h
        · rename_i n d q3
          split at h
          · rename_i c1
            split at h
            · cases h
            · cases h
              obtain ⟨x1, x2⟩ := findN_in q1
              obtain ⟨y1, y2⟩ := fracW_ok q3
              obtain ⟨z1, z2⟩ := fracW_lt q3 (ok b (List.mem_of_getElem? q2)).2
              exact ⟨by simpa using x1, by simp at x2 ⊢; omega, c1.1, c1.2, cop_sm z1 z2 y1⟩
          · cases h
theorem turnsW_ok {R : Int} (r1 : 1 ≤ R) : ∀ {L : List (List Str)} {i : Nat} {T : List (Int × Rat)}, (∀ ws ∈ L, WOk ws) → i ≤ 60 → turnsW R L i = .inr T → (∀ t ∈ T, OkT R t) ∧ T.length + i ≤ 60 ∧ T.length = L.length
  | [], i, T, _, hi, h => by cases h; exact ⟨by simp, by simpa using hi, rfl⟩
  | ws :: r, i, T, ok, hi, h => by
    unfold turnsW at h
    split at h
    · cases h
    · rename_i hne
      split at h
      · cases h
      · rename_i t q1
        split at h
        · cases h
        · rename_i ts q2
          cases h
          obtain ⟨a, b, c⟩ := turnsW_ok r1 (fun w hw => ok w (List.mem_cons_of_mem _ hw)) (by omega) q2
          refine ⟨fun u hu => ?_, by simp; omega, by simp [c]⟩
          rcases List.mem_cons.mp hu with e | e
          · subst e; exact turnW_ok (ok ws (by simp)) r1 q1
          · exact a u e
theorem headW_ok {ws : List Str} {R : Int} {c : Rat} (ok : WOk ws) (h : headW ws = .inr (R, c)) : 1 ≤ R ∧ R ≤ 5 ∧ 0 ≤ c ∧ c ≤ 1000000000000 ∧ Sm 50 c := by
  unfold headW at h
  split at h
  · split at h
    · cases h
    · split at h
      · cases h
      · rename_i v q1
        split at h
        · split at h
          · cases h
          · rename_i b q2
            split at h
            · cases h
            · rename_i n d q3
              split at h
              · rename_i c1
                split at h
                · cases h
                · cases h
                  obtain ⟨x1, x2⟩ := findN_in q1
                  obtain ⟨y1, y2⟩ := fracW_ok q3
                  obtain ⟨z1, z2⟩ := fracW_lt q3 (ok b (List.mem_of_getElem? q2)).2
                  refine ⟨by simpa using x1, by simp at x2; omega, ?_, c1, cop_sm z1 z2 y1⟩
                  exact mk_ge (n := (n : Int)) (d := (d : Int)) (m := 0) (by omega) (by omega)
              · cases h
        · cases h
  · cases h
/-- all but one object stays -/
structure K1 (c : Nat) (h g : IH) : Prop where
  le : h.length ≤ g.length
  get : ∀ n o, n ≠ c → h[n]? = some o → g[n]? = some o
theorem K1.refl {c : Nat} (h : IH) : K1 c h h := ⟨Nat.le_refl _, fun _ _ _ e => e⟩
theorem K1.trans {c : Nat} {h g k : IH} (x : K1 c h g) (y : K1 c g k) : K1 c h k := ⟨Nat.le_trans x.le y.le, fun n o p e => y.get n o p (x.get n o p e)⟩
theorem K1.app {c : Nat} (h t : IH) : K1 c h (h ++ t) := ⟨by simp, fun _ _ _ e => get_old e⟩
theorem K1.put {c : Nat} (h : IH) (o : MO) : K1 c h (h.set c o) := ⟨by simp, fun n o p e => by rw [List.getElem?_set_ne (Ne.symm p)]; exact e⟩
abbrev bodyC : SX := sSeq (sIf (tBl (eOp pEq (eB pLen (aCons (eVar 5) aNil)) (eC (.int 60)))) (sRaiseN "InvalidText" ["line", "word"] (aCons (eOp pAdd (eVar 6) (eC (.int 2))) (aCons (eC (.int 1)) aNil))) sNil)
    (sExpr (eAppend (eVar 5) (aCons (eCall f_read_turn (aCons (eVar 7) (aCons (eOp pAdd (eVar 6) (eC (.int 2))) (aCons (eVar 3) aNil)))) aNil)))
theorem turns_loop {R : Int} (r1 : 1 ≤ R) (r2 : R ≤ 5) {ti si : Nat} (tn : si ≠ ti) {h : IH} (ht : h.length ≤ ti) (L : List (List Str)) (hL : L.length ≤ 1000) (ok : ∀ ws ∈ L, WOk ws) (ks : List Nat) (hk : ks.length = L.length) (kn : ∀ k ∈ ks, k ≠ ti) (a0 a1 a2 a4 a8 a9 : Option PV) :
    ∀ (M : List (List Str)) (T : List (Int × Rat)) (i k : Nat) (x6 x7 : Option PV) (g : IH), M = L.drop i → T.length = i → i ≤ L.length → i ≤ 60 → M.length < k → Pre h g → g[ti]? = some (.lst (T.map tq)) → g[si]? = some (.lst (ks.map .obj)) → (∀ j (hj : j < L.length) (hk : j < ks.length), g[ks[j]]? = some (.lst (L[j].map .str))) →
      ∃ y6 y7 g', Pre h g' ∧ (match turnsW R M i with
        | .inl (l, w) => forL (itEnum (.obj si)) (gTupF [6, 7]) bodyC k i [a0, a1, a2, some (.int R), a4, some (.obj ti), x6, x7, a8, a9] g = .ex (ivx l w) [a0, a1, a2, some (.int R), a4, some (.obj ti), y6, y7, a8, a9] g'
        | .inr T' => forL (itEnum (.obj si)) (gTupF [6, 7]) bodyC k i [a0, a1, a2, some (.int R), a4, some (.obj ti), x6, x7, a8, a9] g = .nx [a0, a1, a2, some (.int R), a4, some (.obj ti), y6, y7, a8, a9] g' ∧ g'[ti]? = some (.lst ((T ++ T').map tq))) := by
  intro M
  induction M with
  | nil =>
    intro T i k x6 x7 g hM hT hi h60 hk' P t1 s1 f1
    have iL : i = L.length := by
      have := congrArg List.length hM
      simp at this
      omega
    obtain ⟨k, rfl⟩ : ∃ k', k = k' + 1 := ⟨k - 1, by simp at hk'; omega⟩
    refine ⟨x6, x7, g, P, ?_⟩
    simp only [turnsW, List.append_nil]
    refine ⟨?_, t1⟩
    unfold forL
    simp [s1, hk, iL]
  | cons ws M ih =>
    intro T i k x6 x7 g hM hT hi h60 hk' P t1 s1 f1
    have iL : i < L.length := by
      have := congrArg List.length hM
      simp at this
      omega
    obtain ⟨k, rfl⟩ : ∃ k', k = k' + 1 := ⟨k - 1, by simp at hk'; omega⟩
    have ew : L[i] = ws := by
      have := List.drop_eq_getElem_cons iL
      rw [← hM] at this
      exact (List.cons.inj this).1.symm
    have eM : M = L.drop (i + 1) := by
      have := List.drop_eq_getElem_cons iL
      rw [← hM] at this
      exact (List.cons.inj this).2
    have ik : i < ks.length := by omega
    have w1 := f1 i iL ik
    rw [ew] at w1
    have it1 : itEnum (.obj si) i g = some (some (.tup [.int i, .obj ks[i]])) := by simp [s1, ik]
    by_cases c60 : i = 60
    · have q60 : pEqB (.int T.length) (.int 60) g = some true := by
        rw [EncOk.int.eq (by decide)]
        congr 1
        rw [decide_eq_true_iff]
        omega
      refine ⟨some (.int i), some (.obj ks[i]), g, P, ?_⟩
      simp only [turnsW, c60, if_true]
      subst c60
      conv => lhs; unfold forL
      have q60' : pEqB (.int (T.map tq).length) (.int 60) g = some true := by rw [List.length_map]; exact q60
      simp only [it1]
      simp [t1, q60, ivx]
    · have n60 : pEqB (.int T.length) (.int 60) g = some false := by
        rw [EncOk.int.eq (by decide)]
        congr 1
        rw [decide_eq_false_iff_not]
        omega
      obtain ⟨t, rt⟩ := read_turn_eq w1 (ok ws (by rw [← ew]; exact List.getElem_mem iL)) (i + 2) r1 r2
      cases q : turnW R ws with
      | inl w =>
        rw [q] at rt
        simp only at rt
        refine ⟨some (.int i), some (.obj ks[i]), g ++ t, P.app t, ?_⟩
        simp only [turnsW, c60, if_false, q]
        conv => lhs; unfold forL
        simp only [it1]
        simp [t1, n60, rt]
      | inr u =>
        rw [q] at rt
        simp only at rt
        have tl : T.length < 16777216 := by omega
        have t2 : (g ++ t)[ti]? = some (.lst (T.map tq)) := get_old t1
        have k2 : K1 ti g ((g ++ t).set ti (.lst ((T ++ [u]).map tq))) := (K1.app g t).trans (K1.put _ _)
        obtain ⟨y6, y7, g', P', z⟩ := ih (T ++ [u]) (i + 1) k (some (.int i)) (some (.obj ks[i])) ((g ++ t).set ti (.lst ((T ++ [u]).map tq))) eM (by simp [hT]) (by omega) (by omega) (by simp at hk'; omega) ((P.app t).set _ ht) (List.getElem?_set_self (lt_of_get t2)) (k2.get _ _ tn s1)
          (fun j hj hk => k2.get _ _ (kn _ (List.getElem_mem hk)) (f1 j hj hk))
        have stp : forL (itEnum (.obj si)) (gTupF [6, 7]) bodyC (k + 1) i [a0, a1, a2, some (.int R), a4, some (.obj ti), x6, x7, a8, a9] g = forL (itEnum (.obj si)) (gTupF [6, 7]) bodyC k (i + 1) [a0, a1, a2, some (.int R), a4, some (.obj ti), some (.int i), some (.obj ks[i]), a8, a9] ((g ++ t).set ti (.lst ((T ++ [u]).map tq))) := by
          conv => lhs; unfold forL
          simp only [it1]
          simp [t1, n60, rt, t2, tl]
        refine ⟨y6, y7, g', P', ?_⟩
        rw [stp]
        simp only [turnsW, c60, if_false, q]
        cases q2 : turnsW R M (i + 1) with
        | inl e =>
          rw [q2] at z
          exact z
        | inr T' =>
          rw [q2] at z
          simp only at z ⊢
          rw [List.append_assoc] at z
          exact z
end WR

namespace WR
open PySem PySem.Spec PyProof.Rows L2
theorem objs_of : ∀ {acc : List PV} {n : Nat} {P : Nat → Nat → Prop}, acc.length = n → (∀ j, j < n → ∃ k, acc[j]? = some (.obj k) ∧ P j k) → ∃ ks : List Nat, acc = ks.map PV.obj ∧ ks.length = n ∧ ∀ j (hj : j < ks.length), P j ks[j]
  | [], n, P, h, _ => ⟨[], rfl, by simpa using h, fun j hj => by simp at hj⟩
  | v :: r, n, P, h, f => by
    obtain ⟨k, e, p⟩ := f 0 (by simp at h; omega)
    obtain ⟨ks, e1, e2, e3⟩ := objs_of (acc := r) (n := r.length) (P := fun j k => P (j + 1) k) rfl fun j hj => by
      obtain ⟨k, e, p⟩ := f (j + 1) (by simp at h; omega)
      exact ⟨k, by simpa using e, p⟩
    have ev : v = .obj k := by simpa using e
    refine ⟨k :: ks, by rw [ev, e1]; rfl, by simp at h ⊢; omega, fun j hj => ?_⟩
    cases j with
    | zero => exact p
    | succ j => exact e3 j (by simpa using hj)
def ReadIs (h : IH) (r : Res PV) : (Nat × Nat) ⊕ Pl → Prop
  | .inl (l, w) => ∃ u, r = .ex (ivx l w) (h ++ u)
  | .inr x => ∃ m u, r = .ok (.obj m) (h ++ u) ∧ (h ++ u)[m]? = some (.ins "Plan" [("held", pq x)])
theorem within_gen {N : Nat} {q : Rat} (s : Sm N q) (hN : N ≤ 9000) (h0 : 0 ≤ q) (h : IH) : f_is_within [fq q, .int 0, .int 1000000000000] h = .ok (.bl (decide (q ≤ 1000000000000))) h := by
  rw [within_eq s hN 0 1000000000000 (by decide) (by decide) h]
  congr 2
  rw [decide_eq_decide]
  exact ⟨fun z => z.2, fun z => ⟨h0, z⟩⟩
theorem read_plan_eq {t : Str} (hl : t.length ≤ 900000) (ok : PyData.strOk t = true) (okL : ∀ l ∈ Txt.split t nl_, WOk (wordsOf l)) (hn : (Txt.split t nl_).length ≤ 900) (h : IH) : ReadIs h (f_read_plan [.str t] h) (readW ((Txt.split t nl_).map wordsOf)) := by
  obtain ⟨acc, u, e1, e2, e3⟩ := lines_eq hl ok h none none none none none none none none none
  have l1 := split_pos t nl_
  generalize hP : Txt.split t nl_ = ps at *
  generalize hG : h ++ [MO.lst (ps.map .str), MO.lst acc] ++ u = G at *
  have PG : Pre h G := ⟨[MO.lst (ps.map .str), MO.lst acc] ++ u, by rw [← hG, List.append_assoc]⟩
  have ga : G[h.length + 1]? = some (.lst acc) := by
    rw [← hG, List.append_assoc, ga1]; rfl
  obtain ⟨ks, rfl, k2, k3⟩ := objs_of (P := fun j k => ∀ hj : j < ps.length, G[k]? = some (.lst ((wordsOf ps[j]).map .str)) ∧ h.length + 2 ≤ k) e2 fun j hj => by
    obtain ⟨k, a, b, c⟩ := e3 j hj
    exact ⟨k, a, fun _ => ⟨b, c⟩⟩
  cases ps with
  | nil => simp at l1
  | cons p ps =>
  cases ks with
  | nil => simp at k2
  | cons k ks =>
    have w0 := (k3 0 (by simp) (by simp)).1
    simp only [List.getElem_cons_zero] at w0
    have okp : WOk (wordsOf p) := okL p (by simp)
    have ok1 : ∀ w ∈ wordsOf p, PyData.strOk w = true := fun w hw => (okp w hw).1
    have hM : (p :: ps).map wordsOf = wordsOf p :: ps.map wordsOf := rfl
    rw [hM]
    generalize wordsOf p = ws at w0 okp ok1
    have n1 := check_name_eq w0 ok1 0 (x := Str.ofString "roads") (by decide +kernel)
    have n2 := number_at_eq w0 ok1 1 1 (lo := 1) (hi := 5) (by decide) (by decide) (by decide) (by decide)
    have n3 := check_name_eq w0 ok1 2 (x := Str.ofString "cost") (by decide +kernel)
    have n4 := word_at_eq w0 1 3
    have ea : atI ((k :: ks).map PV.obj) 0 = some (.obj k) := by simp
    have bad : ∀ (w : Nat) (g : IH), headW ws = .inl w → (∃ u, f_read_plan [.str t] h = .ex (ivx 1 w) (G ++ u)) → ReadIs h (f_read_plan [.str t] h) (readW (ws :: ps.map wordsOf)) := fun w g q ⟨u, z⟩ => by
      obtain ⟨v, rfl⟩ := PG
      simp only [readW, q]
      exact ⟨v ++ u, by rw [z, List.append_assoc]; rfl⟩
    have e1 : eLc (eIter (eSplit (eVar 0) (eC (.str "\n")))) (gVar 9) tYesX (eLc (eIter (eSplit (eVar 9) (eC (.str " ")))) (gVar 8) (tBl (eOp pNe (eVar 8) (eC (.str "")))) (eVar 8) [8]) [9] [some (.str t), none, none, none, none, none, none, none, none, none] h = .ok (.obj (h.length + 1)) G := e1
    by_cases q0 : ws[0]? = some (Str.ofString "roads")
    · rw [if_pos q0] at n1
      have n1 : f_check_name [.obj k, .int 0, .str (Str.ofString "roads")] G = .ok .non G := n1
      cases q1 : ws[1]? with
      | none =>
        rw [q1] at n2
        have n2 : f_number_at [.obj k, .int 1, .int 1, .int 1, .int 5] G = .ex (ivx 1 2) G := n2
        refine bad 2 G (by unfold headW; simp [q0, q1]) ⟨[], ?_⟩
        simp [f_read_plan, b_read_plan, e1, ga, n1, n2]
      | some a =>
        rw [q1] at n2
        cases q2 : findN 1 a 5 0 with
        | none =>
          have n2 : f_number_at [.obj k, .int 1, .int 1, .int 1, .int 5] G = .ex (ivx 1 2) G := by
            have z : f_number_at [.obj k, .int 1, .int 1, .int 1, .int 5] G = resN 1 1 G (findN 1 a 5 0) := n2
            rw [z, q2]; rfl
          refine bad 2 G (by unfold headW; simp [q0, q1, q2]) ⟨[], ?_⟩
          simp [f_read_plan, b_read_plan, e1, ga, n1, n2]
        | some R =>
          have n2 : f_number_at [.obj k, .int 1, .int 1, .int 1, .int 5] G = .ok (.int R) G := by
            have z : f_number_at [.obj k, .int 1, .int 1, .int 1, .int 5] G = resN 1 1 G (findN 1 a 5 0) := n2
            rw [z, q2]; rfl
          by_cases q3 : ws[2]? = some (Str.ofString "cost")
          · rw [if_pos q3] at n3
            have n3 : f_check_name [.obj k, .int 2, .str (Str.ofString "cost")] G = .ok .non G := n3
            cases q4 : ws[3]? with
            | none =>
              rw [q4] at n4
              have n4 : f_word_at [.obj k, .int 1, .int 3] G = .ex (ivx 1 4) G := n4
              refine bad 4 G (by unfold headW; simp [q0, q1, q2, q3, q4]) ⟨[], ?_⟩
              simp [f_read_plan, b_read_plan, e1, ga, n1, n2, n3, n4]
            | some b =>
              rw [q4] at n4
              have n4 : f_word_at [.obj k, .int 1, .int 3] G = .ok (.str b) G := n4
              obtain ⟨ob, lb⟩ := okp b (List.mem_of_getElem? q4)
              obtain ⟨v, fo⟩ := fraction_of_eq (by omega) ob G
              cases q5 : fracW b with
              | none =>
                rw [q5] at fo
                refine bad 4 G (by unfold headW; simp [q0, q1, q2, q3, q4, q5]) ⟨v, ?_⟩
                simp [f_read_plan, b_read_plan, e1, ga, n1, n2, n3, n4, fo, ofr, ivx]
              | some nd =>
                obtain ⟨m, d⟩ := nd
                obtain ⟨c1, c2⟩ := fracW_ok q5
                obtain ⟨c3, c4⟩ := fracW_lt q5 lb
                rw [q5] at fo
                have fo : f_fraction_of [.str b] G = .ok (fq (mkRat m d)) (G ++ v) := by rw [fq_cop c1 c2]; exact fo
                have c0 : 0 ≤ mkRat (m : Int) d := mk_ge (n := (m : Int)) (d := (d : Int)) (m := 0) (by omega) (by omega)
                have wi := within_gen (cop_sm c3 c4 c1) (by decide) c0 (G ++ v)
                have le : f_check_length [.obj k, .int 1, .int 4] (G ++ v) = if 4 < ws.length then .ex (ivx 1 5) (G ++ v) else .ok .non (G ++ v) := length_eq (get_old w0) 1 4
                by_cases c5 : mkRat (m : Int) d ≤ 1000000000000
                · rw [decide_eq_true c5] at wi
                  by_cases c6 : 4 < ws.length
                  · rw [if_pos c6] at le
                    refine bad 5 G (by unfold headW; simp [q0, q1, q2, q3, q4, q5, c5, c6]) ⟨v, ?_⟩
                    simp only [fq] at fo wi
                    simp [f_read_plan, b_read_plan, e1, ga, n1, n2, n3, n4, fo, wi, le]
                  · rw [if_neg c6] at le
                    have hW : headW ws = .inr (R, mkRat m d) := by unfold headW; simp [q0, q1, q2, q3, q4, q5, c5, c6]
                    obtain ⟨o1, o2, o3, o4, o5⟩ := headW_ok okp hW
                    generalize hg : G ++ (v ++ [.lst [], .lst (ks.map PV.obj)]) = g
                    have g1 : g[G.length + v.length]? = some (.lst []) := by rw [← hg, ← List.append_assoc, ← List.length_append, ga0]; rfl
                    have g2 : g[G.length + (v.length + 1)]? = some (.lst (ks.map PV.obj)) := by rw [← hg, ← List.append_assoc, ← Nat.add_assoc, ← List.length_append, ga1]; rfl
                    have kG : ∀ j (hj : j < ps.length) (hk : j < ks.length), G[ks[j]]? = some (.lst ((wordsOf ps[j]).map .str)) := fun j hj hk => by
                      have := (k3 (j + 1) (by simpa using hk) (by simpa using hj)).1
                      simpa using this
                    have kl : ks.length = ps.length := by simpa using k2
                    obtain ⟨y6, y7, g', P', lp⟩ := turns_loop (R := R) o1 o2 (ti := G.length + v.length) (si := G.length + (v.length + 1)) (by omega) (h := h) (by have := PG.le; omega) (ps.map wordsOf) (by simp at hn ⊢; omega)
                      (fun w hw => by obtain ⟨l, hl, rfl⟩ := List.mem_map.mp hw; exact okL l (by simp [hl])) ks (by simpa using kl)
                      (fun k hk => by
                        obtain ⟨j, hj, rfl⟩ := List.getElem_of_mem hk
                        have := lt_of_get (kG j (by omega) hj)
                        omega)
                      (some (.str t)) (some (.obj (h.length + 1))) (some (.obj k)) (some (fq (mkRat m d))) none none (ps.map wordsOf) [] 0 LIM none none g rfl rfl (by omega) (by omega) (by simp [LIM]; simp at hn; omega) (by rw [← hg]; exact PG.app _) g1 g2
                      (fun j hj hk => by
                        rw [← hg]
                        have := kG j (by simpa using hj) hk
                        simpa using get_old this)
                    have cut : cutA (PV.obj k :: ks.map PV.obj) (some 1) none = ks.map PV.obj := by rw [cut_from _ _ (by decide)]; rfl
                    simp only [readW, hW]
                    cases q6 : turnsW R (ps.map wordsOf) 0 with
                    | inl e =>
                      rw [q6] at lp
                      obtain ⟨l, w⟩ := e
                      simp only at lp
                      obtain ⟨u', rfl⟩ := P'
                      refine ⟨u', ?_⟩
                      simp only [fq] at fo wi lp
                      simp [f_read_plan, b_read_plan, e1, ga, n1, n2, n3, n4, fo, wi, le, get_old ga, cut, hg, sFor, g2, lp]
                    | inr T =>
                      rw [q6] at lp
                      simp only [List.nil_append] at lp
                      obtain ⟨lp, t3⟩ := lp
                      obtain ⟨b1, b2, b3⟩ := turnsW_ok o1 (fun w hw => by obtain ⟨l, hl, rfl⟩ := List.mem_map.mp hw; exact okL l (by simp [hl])) (by omega) q6
                      have op : OkP (R, T, mkRat m d) := ⟨o1, o2, by simpa using b2, b1, o3, o4, o5⟩
                      have mk := mk_eq op g'
                      obtain ⟨u', rfl⟩ := P'
                      refine ⟨(h ++ u').length, u' ++ [.ins "Plan" [("held", pq (R, T, mkRat m d))]], ?_, by rw [← List.append_assoc, ga0]; rfl⟩
                      simp only [fq, tqs] at fo wi lp mk
                      simp [-mkO, f_read_plan, b_read_plan, e1, ga, n1, n2, n3, n4, fo, wi, le, get_old ga, cut, hg, sFor, g2, lp, t3, mk]
                · rw [decide_eq_false c5] at wi
                  refine bad 4 G (by unfold headW; simp [q0, q1, q2, q3, q4, q5, c5]) ⟨v, ?_⟩
                  simp only [fq] at fo wi
                  simp [f_read_plan, b_read_plan, e1, ga, n1, n2, n3, n4, fo, wi, ivx]
          · rw [if_neg q3] at n3
            have n3 : f_check_name [.obj k, .int 2, .str (Str.ofString "cost")] G = .ex (ivx 1 3) G := n3
            refine bad 3 G (by unfold headW; simp [q0, q1, q2, q3]) ⟨[], ?_⟩
            simp [f_read_plan, b_read_plan, e1, ga, n1, n2, n3]
    · rw [if_neg q0] at n1
      have n1 : f_check_name [.obj k, .int 0, .str (Str.ofString "roads")] G = .ex (ivx 1 1) G := n1
      refine bad 1 G (by unfold headW; simp [q0]) ⟨[], ?_⟩
      simp [f_read_plan, b_read_plan, e1, ga, n1]
end WR

namespace WR
open PySem PySem.Spec PyProof.Rows L2
/-! ### what is written -/
def wq (q : Rat) : Str := if q.den = 1 then dI q.num else dI q.num ++ slash ++ dI q.den
def headT (R : Int) (c : Rat) : Str := Str.ofString "roads " ++ dI R ++ Str.ofString " cost " ++ wq c
def turnT (t : Int × Rat) : Str := dI t.1 ++ sp_ ++ wq t.2
def linesT (x : Pl) : List Str := headT x.1 x.2.2 :: x.2.1.map turnT
def textT (x : Pl) : Str := Txt.join nl_ (linesT x)
theorem dI_len15 {i : Int} (h0 : 0 ≤ i) (h1 : i.natAbs < 2 ^ 50) : (dI i).length ≤ 16 := by
  obtain ⟨n, rfl⟩ := Int.eq_ofNat_of_zero_le h0
  refine dI_len (by decide) (Nat.lt_of_lt_of_le (show n < 2 ^ 50 by simpa using h1) (by decide))
theorem lg1920 {i : Int} (h1 : i.natAbs < 2 ^ 50) : i.natAbs.log2 < 1920 := log_of (Nat.lt_of_lt_of_le h1 (Nat.pow_le_pow_right (by decide) (by decide))) (by decide)
theorem sl_len : (Str.ofString "/").length = 1 := by decide +kernel
theorem one_iff (q : Rat) (h : IH) : pEqB (.int (q.den : Int)) (.int 1) h = some (decide (q.den = 1)) := by
  rw [EncOk.int.eq (by decide)]
  congr 1
  rw [decide_eq_decide]
  omega
theorem ftext_eq {q : Rat} (s : Sm 50 q) (h0 : 0 ≤ q) (h : IH) : f_fraction_text [fq q] h = .ok (.str (wq q)) h := by
  have hn : 0 ≤ q.num := Rat.num_nonneg.mpr h0
  have l1 := dI_len15 hn s.1
  have l2 := dI_len15 (i := (q.den : Int)) (by omega) (by simpa using s.2)
  have g1 := lg1920 (i := q.num) s.1
  have g2 := lg1920 (i := (q.den : Int)) (by simpa using s.2)
  have g3 : q.den.log2 < 1920 := by simpa using g2
  have e1 := one_iff q h
  have r1 : Str.ofString (Int.repr q.num) = dI q.num := rfl
  have r2 : Str.ofString (Int.repr (q.den : Int)) = dI q.den := rfl
  unfold wq
  by_cases c : q.den = 1
  · simp [f_fraction_text, b_fraction_text, fq, e1, c, g1, r1, EncOk.int.eq (n := 0) (by decide) 1 1 h]
  · simp [f_fraction_text, b_fraction_text, fq, e1, c, g1, g2, g3, r1, r2, emp_app, show (dI q.num).length ≤ 16777215 by omega, len_app, sl_len, show (dI q.num).length ≤ 16777216 by omega, show (dI q.num).length + 1 ≤ 16777216 by omega, show (dI q.num).length + 1 + (dI q.den).length ≤ 16777216 by omega]
theorem is_of2 {o o' : RS} {N : Fm → IH → Prop} {R : PV → IH → Prop} (e : o = o') (h : o'.Is N R) : o.Is N R := by rw [e]; exact h
theorem wq_len {q : Rat} (s : Sm 50 q) (h0 : 0 ≤ q) : (wq q).length ≤ 33 := by
  have hn : 0 ≤ q.num := Rat.num_nonneg.mpr h0
  have l1 := dI_len15 hn s.1
  have l2 := dI_len15 (i := (q.den : Int)) (by omega) (by simpa using s.2)
  unfold wq
  split
  · omega
  · rw [len_app, len_app, sl_len]; omega
theorem turnT_len {R : Int} {t : Int × Rat} (o : OkT R t) (r : R ≤ 5) : (turnT t).length ≤ 50 := by
  have l1 := dI_len15 o.lo (by have := o.hi; have := o.lo; omega)
  have l2 := wq_len o.sm (Rat.le_of_lt o.pos)
  have : (Str.ofString " ").length = 1 := by decide +kernel
  unfold turnT
  rw [len_app, len_app, this]; omega
theorem headT_len {x : Pl} (o : OkP x) : (headT x.1 x.2.2).length ≤ 80 := by
  have l1 := dI_len15 (i := x.1) (by have := o.r1; omega) (by have := o.r2; have := o.r1; omega)
  have l2 := wq_len o.cs o.c0
  have e1 : (Str.ofString "roads ").length = 6 := by decide +kernel
  have e2 : (Str.ofString " cost ").length = 6 := by decide +kernel
  unfold headT
  rw [len_app, len_app, len_app, e1, e2]; omega
theorem linesT_sum {x : Pl} (o : OkP x) : ((linesT x).map (·.length)).sum + (linesT x).length * nl_.length ≤ 16777216 := by
  have e1 : nl_.length = 1 := by decide +kernel
  have h1 := headT_len o
  have key : ∀ T : List (Int × Rat), (∀ t ∈ T, OkT x.1 t) → ((T.map turnT).map (·.length)).sum ≤ 50 * T.length := by
    intro T
    induction T with
    | nil => intro _; simp
    | cons a r ih =>
      intro h
      have l := turnT_len (h a (by simp)) o.r2
      have i := ih fun t ht => h t (by simp [ht])
      simp only [List.map_cons, List.sum_cons, List.length_cons]
      omega
  have k := key x.2.1 o.t
  have n := o.n
  unfold linesT
  rw [e1]
  simp only [List.map_cons, List.sum_cons, List.length_cons, List.length_map]
  omega
theorem strsOf_map : ∀ zs : List Str, strsOf (zs.map PV.str) = some zs
  | [] => rfl
  | z :: zs => by simp [strsOf_map zs]
theorem write_plan_eq {x : Pl} (o : OkP x) {n : Nat} {h : IH} (e : h[n]? = some (.ins "Plan" [("held", pq x)])) : ∃ t, f_write_plan [.obj n] h = .ok (.str (textT x)) (h ++ t) := by
  have ck : f_check_plan [.obj n] h = .ok .non h := by simp [f_check_plan, b_check_plan, e, ownCs]
  have ft := ftext_eq o.cs o.c0 h
  have hr := o.r1
  have hr2 := o.r2
  have g1 := lg1920 (i := x.1) (by omega)
  have r1 : Str.ofString (Int.repr x.1) = dI x.1 := rfl
  have l1 := dI_len15 (i := x.1) (by omega) (by omega)
  have l2 := wq_len o.cs o.c0
  have e1 : (Str.ofString "roads ").length = 6 := by decide +kernel
  have e2 : (Str.ofString " cost ").length = 6 := by decide +kernel
  suffices H : ∃ v h1, f_write_plan [.obj n] h = .ok v h1 ∧ (v = .str (textT x) ∧ ∃ t, h1 = h ++ t) by
    obtain ⟨v, h1, e, rfl, t, rfl⟩ := H
    exact ⟨t, e⟩
  refine w_fn rfl ?_
  refine w_seq (w_expr (v := .non) (h1 := h) (by simp [ck]) ?_)
  refine w_seq ?_
  have asg : sAsgT (gTupF [1, 2, 3]) (eFld "Plan" "held" (eVar 0)) [some (.obj n), none, none, none, none, none, none] h = .nx [some (.obj n), some (.int x.1), some (tqs x.2.1), some (fq x.2.2), none, none, none] h := by
    simp [e, pq, List.lookup]
  refine is_of2 asg ?_
  refine w_seq (w_set (v := .obj h.length) (h1 := h ++ [.lst [.str (headT x.1 x.2.2)]]) ?_ ?_)
  · simp [ft, g1, r1, emp_app, len_app, e1, e2, headT, show 6 + (dI x.1).length ≤ 16777210 by omega, show 6 + (dI x.1).length ≤ 16777216 by omega, show 6 + (dI x.1).length + 6 ≤ 16777216 by omega, show 6 + (dI x.1).length + 6 + (wq x.2.2).length ≤ 16777216 by omega, show (wq x.2.2).length ≤ 16777216 by omega]
  have es : (Str.ofString " ").length = 1 := by decide +kernel
  refine w_seq (w_for x.2.1.length (fun i r g => ∃ a5 a6 zs, r = [some (.obj n), some (.int x.1), some (tqs x.2.1), some (fq x.2.2), some (.obj h.length), a5, a6] ∧ g = h ++ [.lst (zs.map PV.str)] ∧ zs = headT x.1 x.2.2 :: (x.2.1.take i).map turnT) (it := itList (x.2.1.map tq)) (h1 := h ++ [.lst [.str (headT x.1 x.2.2)]]) (by simp [tqs]) (by have := o.n; omega) ⟨none, none, [headT x.1 x.2.2], rfl, by simp, by simp⟩ ?_ ?_)
  · rintro i r g hi ⟨a5, a6, zs, rfl, rfl, ez⟩
    have ot := o.t _ (List.getElem_mem hi)
    have f2 := ftext_eq ot.sm (Rat.le_of_lt ot.pos) (h ++ [.lst (zs.map PV.str)])
    have lo := ot.lo
    have hi2 := ot.hi
    have g2 := lg1920 (i := x.2.1[i].1) (by omega)
    have r2 : Str.ofString (Int.repr x.2.1[i].1) = dI x.2.1[i].1 := rfl
    have m1 := dI_len15 (i := x.2.1[i].1) lo (by omega)
    have m2 := wq_len ot.sm (Rat.le_of_lt ot.pos)
    have nn := o.n
    have zl : zs.length < 16777216 := by rw [ez]; simp; omega
    refine ⟨tq x.2.1[i], _, by simp [hi], rfl, ?_⟩
    refine w_expr (v := .non) (h1 := h ++ [.lst ((zs ++ [turnT x.2.1[i]]).map PV.str)]) ?_ ⟨_, _, zs ++ [turnT x.2.1[i]], rfl, rfl, ?_⟩
    · simp [f2, g2, r2, emp_app, len_app, es, turnT, List.set_append, zl, show (dI x.2.1[i].1).length ≤ 16777216 by omega, show (dI x.2.1[i].1).length ≤ 16777215 by omega, show (dI x.2.1[i].1).length + 1 ≤ 16777216 by omega, show (dI x.2.1[i].1).length + 1 + (wq x.2.1[i].2).length ≤ 16777216 by omega, show (wq x.2.1[i].2).length ≤ 16777216 by omega]
    · rw [List.take_succ_eq_append_getElem hi, ez, List.map_append]; rfl
  · rintro r g ⟨a5, a6, zs, rfl, rfl, ez⟩
    rw [List.take_length] at ez
    have ez : zs = linesT x := ez
    have sm := linesT_sum o
    rw [← ez] at sm
    have so := strsOf_map zs
    refine ⟨by simp, ?_⟩
    refine w_ret (v := .str (textT x)) (h1 := h ++ [.lst (zs.map PV.str)]) ?_ ⟨rfl, _, rfl⟩
    have tx : textT x = Txt.join nl_ zs := by rw [ez]; rfl
    rw [tx]
    simp [so, sm]
end WR

namespace WR
open PySem PySem.Spec PyProof.Rows L2
/-! ### what is written is read -/
theorem numL_head : ∀ (n : Nat), 0 < n → (TL.numL n).head? ≠ some 48 := by
  intro n
  induction n using Nat.strongRecOn with
  | _ n ih =>
    intro h
    by_cases q : n < 10
    · rw [TL.numL_lt q]; simp; omega
    · rw [TL.numL_step (by omega)]
      have := ih (n / 10) (by omega) (by omega)
      cases e : TL.numL (n / 10) with
      | nil => exact absurd e (TL.numL_ne _)
      | cons a r => rw [e] at this; simpa using this
theorem isNum_num (n : Nat) : isNum (TL.numL n) = true := by
  have ne := TL.numL_ne n
  have ad := TL.numL_digits n
  unfold isNum
  have a : (TL.numL n).all (fun c => decide (48 ≤ c) && decide (c ≤ 57)) = true := by
    rw [List.all_eq_true]
    intro c hc
    have := ad c hc
    simp [this]
  rw [a]
  by_cases q : n = 0
  · subst q
    rw [TL.numL_lt (by decide)]
    decide
  · have hh := numL_head n (by omega)
    have : (TL.numL n).isEmpty = false := by cases e : TL.numL n with
      | nil => exact absurd e ne
      | cons _ _ => rfl
    rw [this]
    simp [hh]
theorem intW_dI (n : Nat) : intW (dI n) = some n := by
  unfold intW
  rw [dI_tl, if_pos (isNum_num n), TL.numL_val]
theorem sl_tl : TL.tl slash = 47 :: [] := by decide +kernel
theorem sl_ok : slash.cps.all (· < 256) = true := by decide +kernel
theorem dI_free {i : Int} {s : Nat} (h0 : 0 ≤ i) (h : s < 48 ∨ 57 < s) : s ∉ TL.tl (dI i) := by
  obtain ⟨n, rfl⟩ := Int.eq_ofNat_of_zero_le h0
  rw [dI_tl]; exact TL.numL_free h
theorem join1 (y a : Str) : Txt.join y [a] = a := by rw [TL.join_eq]; rfl
theorem join2 (y a b : Str) : Txt.join y [a, b] = a ++ y ++ b := by rw [TL.join_eq]; rfl
theorem fracW_wq {q : Rat} (h0 : 0 ≤ q) : ∃ n : Nat, fracW (wq q) = some (n, q.den) ∧ mkRat (n : Int) q.den = q := by
  have p0 := Rat.num_nonneg.mpr h0
  obtain ⟨n, hn⟩ := Int.eq_ofNat_of_zero_le p0
  refine ⟨n, ?_, by rw [← hn]; exact Rat.mkRat_self q⟩
  have p1 : (0 : Int) ≤ n := by omega
  unfold wq fracW
  rw [hn]
  by_cases c : q.den = 1
  · rw [if_pos c]
    have s : Txt.split (dI n) slash = [dI n] := by
      have := TL.split_join sl_tl sl_ok (parts := [dI n]) (by simp) (fun p hp => by rw [List.mem_singleton.mp hp]; exact dI_free p1 (by omega))
      rw [join1] at this; exact this
    rw [s, List.map_cons, List.map_nil, intW_dI, c]
  · rw [if_neg c]
    have s : Txt.split (dI n ++ slash ++ dI q.den) slash = [dI n, dI q.den] := by
      have := TL.split_join sl_tl sl_ok (parts := [dI n, dI q.den]) (by simp) (fun p hp => by
        rcases List.mem_cons.mp hp with e | e
        · rw [e]; exact dI_free p1 (by omega)
        · rw [List.mem_singleton.mp e]; exact dI_free (by omega) (by omega))
      rw [join2] at this; exact this
    have d1 := den_pos q
    have g : Nat.gcd n q.den = 1 := by
      have := q.reduced
      rw [hn] at this
      simpa [Nat.Coprime] using this
    rw [s, List.map_cons, List.map_cons, List.map_nil, intW_dI, intW_dI]
    simp [show ¬ q.den < 2 by omega, g]
theorem findN_dI {lo v : Int} (h0 : 0 ≤ lo) : ∀ (m i : Nat), lo + i ≤ v → v < lo + i + m → findN lo (dI v) m i = some v
  | 0, i, a, b => by omega
  | m + 1, i, a, b => by
    unfold findN
    by_cases q : lo + i = v
    · rw [q]; simp
    · have : ¬ dI (lo + i) = dI v := fun z => by
        obtain ⟨x, hx⟩ := Int.eq_ofNat_of_zero_le (show 0 ≤ lo + i by omega)
        obtain ⟨y, hy⟩ := Int.eq_ofNat_of_zero_le (show 0 ≤ v by omega)
        rw [hx, hy] at z
        have := dI_inj z
        omega
      rw [if_neg this]
      exact findN_dI h0 m (i + 1) (by omega) (by omega)
abbrev hw (R : Int) (c : Rat) : List Str := [Str.ofString "roads", dI R, Str.ofString "cost", wq c]
abbrev tw (t : Int × Rat) : List Str := [dI t.1, wq t.2]
theorem headW_hw {R : Int} {c : Rat} (r1 : 1 ≤ R) (r2 : R ≤ 5) (c0 : 0 ≤ c) (c1 : c ≤ 1000000000000) : headW (hw R c) = .inr (R, c) := by
  have f := findN_dI (lo := 1) (v := R) (by decide) 5 0 (by omega) (by omega)
  obtain ⟨n, w, m⟩ := fracW_wq c0
  unfold headW
  simp [hw, f, w, m, c1]
theorem turnW_tw {R : Int} {t : Int × Rat} (o : OkT R t) : turnW R (tw t) = .inr t := by
  have f := findN_dI (lo := 0) (v := t.1) (by decide) R.toNat 0 (by have := o.lo; omega) (by have := o.hi; have := o.lo; omega)
  have p := o.pos
  obtain ⟨n, w, m⟩ := fracW_wq (Rat.le_of_lt p)
  unfold turnW
  simp [tw, f, w, m, p, o.top]
theorem turnsW_tw {R : Int} : ∀ (T : List (Int × Rat)) (i : Nat), (∀ t ∈ T, OkT R t) → i + T.length ≤ 60 → turnsW R (T.map tw) i = .inr T
  | [], i, _, _ => rfl
  | t :: T, i, h, l => by
    have ih := turnsW_tw T (i + 1) (fun u hu => h u (by simp [hu])) (by simp at l; omega)
    rw [List.map_cons]
    unfold turnsW
    simp only [List.length_cons] at l
    rw [if_neg (by omega), turnW_tw (h t (by simp)), ih]
theorem readW_ok {x : Pl} (o : OkP x) : readW (hw x.1 x.2.2 :: x.2.1.map tw) = .inr x := by
  simp only [readW, headW_hw o.r1 o.r2 o.c0 o.c1, turnsW_tw x.2.1 0 o.t (by have := o.n; omega)]
end WR

namespace WR
open PySem PySem.Spec PyProof.Rows L2
/-! ### the words of a line, by its signs -/
def WL (l : List Nat) : List (List Nat) := (TL.spl [32] 0 [] l).filter fun w => !decide (w = [])
theorem sp_tl : TL.tl sp_ = 32 :: [] := by decide +kernel
theorem sp_ok : sp_.cps.all (· < 256) = true := by decide +kernel
theorem wordsOf_tl (l : Str) : (wordsOf l).map TL.tl = WL (TL.tl l) := by
  have e := TL.split_spl l sp_ (by rw [sp_tl]; simp) (TL.kind_ok sp_ok)
  rw [sp_tl] at e
  unfold wordsOf WL
  rw [← e, List.filter_map]
  congr 1
  apply List.filter_congr
  intro w _
  simp only [Function.comp]
  rw [str_eq, tl_emp]
theorem wl_nil : WL [] = [] := by decide +kernel
theorem wl_sp (l : List Nat) : WL (32 :: l) = WL l := by
  unfold WL
  rw [TL.spl_hit (by simp [TL.pre])]
  simp [TL.spl_pass]
theorem wl_word {w l : List Nat} (h : 32 ∉ w) (ne : w ≠ []) : WL (w ++ 32 :: l) = w :: WL l := by
  unfold WL
  have := TL.spl_part1 (s := 32) (S := []) (p := w) (rest := l) (acc := []) h
  simp only [List.cons_append, List.nil_append] at this
  rw [this]
  simp [ne]
theorem wl_last {w : List Nat} (h : 32 ∉ w) (ne : w ≠ []) : WL w = [w] := by
  unfold WL
  rw [TL.spl_last1 h]
  simp [ne]
theorem wl_sps (k : Nat) (l : List Nat) : WL (List.replicate k 32 ++ l) = WL l := by
  induction k with
  | zero => rfl
  | succ k ih => rw [List.replicate_succ, List.cons_append, wl_sp, ih]
/-- a text that ends at a word's end -/
def Lo (ws : List Str) (m : List Nat) : Prop := ∀ l, WL (m ++ l) = ws.map TL.tl ++ WL l
def Wd (w : Str) : Prop := 32 ∉ TL.tl w ∧ TL.tl w ≠ []
theorem Lo.nil (k : Nat) : Lo [] (List.replicate k 32) := fun l => by rw [wl_sps]; rfl
theorem Lo.snoc {ws : List Str} {m : List Nat} {w : Str} (h : Lo ws m) (hw : Wd w) (k : Nat) : Lo (ws ++ [w]) (m ++ (TL.tl w ++ List.replicate (k + 1) 32)) := fun l => by
  rw [List.append_assoc, h, List.append_assoc, List.replicate_succ, List.cons_append, wl_word hw.1 hw.2, wl_sps]
  simp
theorem Lo.words {ws : List Str} {t : Str} (h : Lo ws (TL.tl t)) : wordsOf t = ws := by
  refine TL.map_tl_inj ?_
  rw [wordsOf_tl]
  have := h []
  rw [List.append_nil, wl_nil, List.append_nil] at this
  exact this
theorem Lo.last {ws : List Str} {m : List Nat} {w t : Str} (h : Lo ws m) (hw : Wd w) (e : TL.tl t = m ++ TL.tl w) : wordsOf t = ws ++ [w] := by
  refine TL.map_tl_inj ?_
  rw [wordsOf_tl, e, h, wl_last hw.1 hw.2]
  simp
theorem Wd.dI {i : Int} (h0 : 0 ≤ i) : Wd (dI i) := by
  refine ⟨dI_free h0 (by omega), ?_⟩
  obtain ⟨n, rfl⟩ := Int.eq_ofNat_of_zero_le h0
  rw [dI_tl]; exact TL.numL_ne n
theorem wq_sub {q : Rat} (h0 : 0 ≤ q) {c : Nat} (h : c ∈ TL.tl (wq q)) : 47 ≤ c ∧ c ≤ 57 := by
  have p0 := Rat.num_nonneg.mpr h0
  have dd : ∀ i : Int, 0 ≤ i → ∀ c ∈ TL.tl (dI i), 48 ≤ c ∧ c ≤ 57 := fun i hi c hc => by
    obtain ⟨n, rfl⟩ := Int.eq_ofNat_of_zero_le hi
    rw [dI_tl] at hc
    exact TL.numL_digits n c hc
  unfold wq at h
  split at h
  · have := dd _ p0 c h; omega
  · rw [TL.tl_append, TL.tl_append, sl_tl] at h
    rcases List.mem_append.mp h with h | h
    · rcases List.mem_append.mp h with h | h
      · have := dd _ p0 c h; omega
      · have := List.mem_singleton.mp h; omega
    · have := dd _ (by omega) c h; omega
theorem Wd.wq {q : Rat} (h0 : 0 ≤ q) : Wd (wq q) := by
  refine ⟨fun h => by have := wq_sub h0 h; omega, ?_⟩
  have p0 := Rat.num_nonneg.mpr h0
  unfold WR.wq
  split
  · exact (Wd.dI p0).2
  · rw [TL.tl_append, TL.tl_append, sl_tl]; simp
theorem wd_roads : Wd (Str.ofString "roads") := by unfold Wd; decide +kernel
theorem wd_cost : Wd (Str.ofString "cost") := by unfold Wd; decide +kernel
theorem tl_roads_ : TL.tl (Str.ofString "roads ") = TL.tl (Str.ofString "roads") ++ List.replicate 1 32 := by decide +kernel
theorem tl_cost_ : TL.tl (Str.ofString " cost ") = List.replicate 1 32 ++ (TL.tl (Str.ofString "cost") ++ List.replicate 1 32) := by decide +kernel
theorem words_head {R : Int} {c : Rat} (r1 : 1 ≤ R) (c0 : 0 ≤ c) : wordsOf (headT R c) = hw R c := by
  have l1 := (Lo.nil 0).snoc wd_roads 0
  have l2 := l1.snoc (Wd.dI (i := R) (by omega)) 0
  have l3 := l2.snoc wd_cost 0
  refine l3.last (Wd.wq c0) ?_
  unfold headT
  simp only [TL.tl_append, tl_roads_, tl_cost_]
  simp
theorem words_turn {t : Int × Rat} (r0 : 0 ≤ t.1) (c0 : 0 ≤ t.2) : wordsOf (turnT t) = tw t := by
  have l1 := (Lo.nil 0).snoc (Wd.dI r0) 0
  refine l1.last (Wd.wq c0) ?_
  unfold turnT
  simp only [TL.tl_append, sp_tl]
  simp
end WR

namespace WR
open PySem PySem.Spec PyProof.Rows L2
theorem rstrip_tl {t : Str} {a : List Nat} {k : Nat} (e : TL.tl t = a ++ List.replicate k 32) (hl : ∀ c, a.reverse.head? = some c → Unicode.isSpace c = false) : TL.tl (Txt.rstrip t) = a := by
  have s32 : Unicode.isSpace 32 = true := by decide +kernel
  unfold Txt.rstrip
  rw [PySem.W.stripBy_eq]
  unfold PySem.W.stripped
  have tw : (t.cps.toList.drop 0).reverse.takeWhile Unicode.isSpace = List.replicate k 32 := by
    have e' : t.cps.toList = a ++ List.replicate k 32 := e
    rw [List.drop_zero, e', List.reverse_append, List.reverse_replicate]
    rw [List.takeWhile_append_of_pos (by intro x hx; rw [(List.mem_replicate.mp hx).2]; exact s32)]
    have : a.reverse.takeWhile Unicode.isSpace = [] := by
      cases q : a.reverse with
      | nil => rfl
      | cons c r => rw [List.takeWhile_cons, hl c (by rw [q]; rfl)]; rfl
    rw [this, List.append_nil]
  simp only [if_true, if_false, Bool.false_eq_true, tw, List.length_replicate]
  rw [TL.tl_strSub, e, TL.len_tl, e]
  simp
def Sg (ws : List Str) (m : List Nat) : Prop := ∀ c ∈ m, c = 32 ∨ ∃ w ∈ ws, c ∈ TL.tl w
theorem pad3 {r : Int} (r0 : 0 ≤ r) (r1 : r < 3) (a b c : Str) : ∃ p, atI [PV.str a, .str b, .str c] r = some (.str p) ∧ (p = a ∨ p = b ∨ p = c) := by
  rcases (show r = 0 ∨ r = 1 ∨ r = 2 by omega) with rfl | rfl | rfl
  · exact ⟨a, by simp, by simp⟩
  · exact ⟨b, by simp, by simp⟩
  · exact ⟨c, by simp, by simp⟩
theorem sp_len : (Str.ofString " ").length = 1 := by decide +kernel
end WR

namespace WR
open PySem PySem.Spec PyProof.Rows L2
/-! ### the written text and its lines -/
structure Sh (x : Pl) : Prop where
  t : ∀ t ∈ x.2.1, (wq t.2).length ≤ 15
  c : (wq x.2.2).length ≤ 15
theorem nl_tl : TL.tl nl_ = 10 :: [] := by decide +kernel
theorem nl_ok : nl_.cps.all (· < 256) = true := by decide +kernel
/-- the signs that a plan's lines have -/
def Asc_ (m : List Nat) : Prop := ∀ c ∈ m, 32 ≤ c ∧ c < 1114112
theorem asc_dI {i : Int} (h0 : 0 ≤ i) : Asc_ (TL.tl (dI i)) := fun c hc => by
  obtain ⟨n, rfl⟩ := Int.eq_ofNat_of_zero_le h0
  rw [dI_tl] at hc
  have := TL.numL_digits n c hc
  omega
theorem asc_wq {q : Rat} (h0 : 0 ≤ q) : Asc_ (TL.tl (wq q)) := fun c hc => by have := wq_sub h0 hc; omega
theorem asc_app {a b : List Nat} (h : Asc_ a) (g : Asc_ b) : Asc_ (a ++ b) := fun c hc => by
  rcases List.mem_append.mp hc with hc | hc
  · exact h c hc
  · exact g c hc
theorem asc_const {s : Str} (h : (TL.tl s).all (fun c => decide (32 ≤ c) && decide (c < 1114112)) = true) : Asc_ (TL.tl s) := fun c hc => by
  have := List.all_eq_true.mp h c hc
  simpa using this
theorem asc_head {R : Int} {c : Rat} (r : 0 ≤ R) (c0 : 0 ≤ c) : Asc_ (TL.tl (headT R c)) := by
  unfold headT
  rw [TL.tl_append, TL.tl_append, TL.tl_append]
  exact asc_app (asc_app (asc_app (asc_const (by decide +kernel)) (asc_dI r)) (asc_const (by decide +kernel))) (asc_wq c0)
theorem asc_turn {t : Int × Rat} (r : 0 ≤ t.1) (c0 : 0 ≤ t.2) : Asc_ (TL.tl (turnT t)) := by
  unfold turnT
  rw [TL.tl_append, TL.tl_append]
  exact asc_app (asc_app (asc_dI r) (asc_const (by decide +kernel))) (asc_wq c0)
theorem lines_asc {x : Pl} (o : OkP x) : ∀ l ∈ linesT x, Asc_ (TL.tl l) := fun l hl => by
  rcases List.mem_cons.mp hl with e | e
  · rw [e]; exact asc_head (by have := o.r1; omega) o.c0
  · obtain ⟨t, ht, rfl⟩ := List.mem_map.mp e
    exact asc_turn (o.t t ht).lo (Rat.le_of_lt (o.t t ht).pos)
theorem joinL_mem {S : List Nat} {c : Nat} : ∀ {ps : List (List Nat)}, c ∈ TL.joinL S ps → c ∈ S ∨ ∃ p ∈ ps, c ∈ p
  | [], h => by simp [TL.joinL] at h
  | [p], h => .inr ⟨p, by simp, h⟩
  | p :: q :: r, h => by
    have h : c ∈ p ++ (S ++ TL.joinL S (q :: r)) := h
    rcases List.mem_append.mp h with h | h
    · exact .inr ⟨p, by simp, h⟩
    · rcases List.mem_append.mp h with h | h
      · exact .inl h
      · rcases joinL_mem h with h | ⟨z, hz, hc⟩
        · exact .inl h
        · exact .inr ⟨z, by simp at hz ⊢; right; exact hz, hc⟩
theorem join_ok {ls : List Str} (h : ∀ l ∈ ls, Asc_ (TL.tl l)) : PyData.strOk (Txt.join nl_ ls) = true := by
  refine (ok_iff _).mpr fun c hc => ?_
  rw [TL.join_eq, TL.tl_join, nl_tl] at hc
  rcases joinL_mem hc with hc | ⟨p, hp, hc⟩
  · have := List.mem_singleton.mp hc; omega
  · obtain ⟨l, hl, rfl⟩ := List.mem_map.mp hp
    exact (h l hl c hc).2
theorem split_lines {ls : List Str} (ne : ls ≠ []) (h : ∀ l ∈ ls, Asc_ (TL.tl l)) : Txt.split (Txt.join nl_ ls) nl_ = ls :=
  TL.split_join nl_tl nl_ok ne fun p hp z => by have := h p hp 10 z; omega
theorem join_len (ls : List Str) (h : ∀ l ∈ ls, l.length ≤ 600) (n : ls.length ≤ 100) : (Txt.join nl_ ls).length ≤ 900000 := by
  have e1 : nl_.length = 1 := by decide +kernel
  have := StrLaws.join_length_le nl_ ls
  rw [TL.join_eq]
  have k : ∀ ls : List Str, (∀ l ∈ ls, l.length ≤ 600) → (ls.map (·.length)).sum ≤ 600 * ls.length := by
    intro ls
    induction ls with
    | nil => intro _; simp
    | cons a r ih =>
      intro h
      have l := h a (by simp)
      have i := ih fun t ht => h t (by simp [ht])
      simp only [List.map_cons, List.sum_cons, List.length_cons]
      omega
  have := k ls h
  rw [e1] at *
  omega
theorem wok_hw {x : Pl} (o : OkP x) (s : Sh x) : WOk (hw x.1 x.2.2) := fun w hw' => by
  have r := o.r1
  have r2 := o.r2
  simp only [hw, List.mem_cons, List.not_mem_nil, or_false] at hw'
  rcases hw' with rfl | rfl | rfl | rfl
  · exact ⟨by decide +kernel, by decide +kernel⟩
  · refine ⟨dI_ok (by omega), ?_⟩
    obtain ⟨n, hn⟩ := Int.eq_ofNat_of_zero_le (show 0 ≤ x.1 by omega)
    rw [hn]
    exact Nat.le_trans (dI_len (k := 1) (by decide) (by omega)) (by decide)
  · exact ⟨by decide +kernel, by decide +kernel⟩
  · exact ⟨(ok_iff _).mpr fun c hc => (asc_wq o.c0 c hc).2, s.c⟩
theorem wok_tw {x : Pl} (o : OkP x) (s : Sh x) {t : Int × Rat} (ht : t ∈ x.2.1) : WOk (tw t) := fun w hw' => by
  have ot := o.t t ht
  have r2 := o.r2
  have lo := ot.lo
  have hi := ot.hi
  simp only [tw, List.mem_cons, List.not_mem_nil, or_false] at hw'
  rcases hw' with rfl | rfl
  · refine ⟨dI_ok lo, ?_⟩
    obtain ⟨n, hn⟩ := Int.eq_ofNat_of_zero_le lo
    rw [hn]
    exact Nat.le_trans (dI_len (k := 1) (by decide) (by omega)) (by decide)
  · exact ⟨(ok_iff _).mpr fun c hc => (asc_wq (Rat.le_of_lt ot.pos) c hc).2, s.t t ht⟩
/-- reading lines whose words are the plan's -/
theorem read_lines {x : Pl} (o : OkP x) (s : Sh x) {ls : List Str} (ha : ∀ l ∈ ls, Asc_ (TL.tl l)) (hl : ∀ l ∈ ls, l.length ≤ 600) (hw' : ls.map wordsOf = hw x.1 x.2.2 :: x.2.1.map tw) (h : IH) : ∃ m u, f_read_plan [.str (Txt.join nl_ ls)] h = .ok (.obj m) (h ++ u) ∧ (h ++ u)[m]? = some (.ins "Plan" [("held", pq x)]) := by
  have ne : ls ≠ [] := fun z => by rw [z] at hw'; cases hw'
  have ll : ls.length = x.2.1.length + 1 := by have := congrArg List.length hw'; simpa using this
  have n := o.n
  have sp := split_lines ne ha
  have R := read_plan_eq (join_len ls hl (by omega)) (join_ok ha) (by
    rw [sp]
    intro l hl'
    have : wordsOf l ∈ hw x.1 x.2.2 :: x.2.1.map tw := by rw [← hw']; exact List.mem_map_of_mem hl'
    rcases List.mem_cons.mp this with e | e
    · rw [e]; exact wok_hw o s
    · obtain ⟨t, ht, et⟩ := List.mem_map.mp e
      rw [← et]; exact wok_tw o s ht) (by rw [sp]; omega) h
  rw [sp, hw', readW_ok o] at R
  exact R
theorem lines_words {x : Pl} (o : OkP x) : (linesT x).map wordsOf = hw x.1 x.2.2 :: x.2.1.map tw := by
  unfold linesT
  rw [List.map_cons, words_head o.r1 o.c0, List.map_map]
  congr 1
  apply List.map_congr_left
  intro t ht
  exact words_turn (o.t t ht).lo (Rat.le_of_lt (o.t t ht).pos)
theorem lines_len {x : Pl} (o : OkP x) : ∀ l ∈ linesT x, l.length ≤ 600 := fun l hl => by
  rcases List.mem_cons.mp hl with e | e
  · rw [e]; have := headT_len o; omega
  · obtain ⟨t, ht, rfl⟩ := List.mem_map.mp e
    have := turnT_len (o.t t ht) o.r2; omega
end WR

namespace WR
open PySem PySem.Spec PyProof.Rows L2
/-! ### k08 -/
theorem nosp_dig {a : List Nat} (h : ∀ c ∈ a, 47 ≤ c ∧ c ≤ 122) : ∀ c, a.reverse.head? = some c → Unicode.isSpace c = false := fun c hc => by
  have hm : c ∈ a := by
    have := List.mem_of_head? hc
    simpa using this
  obtain ⟨h1, h2⟩ := h c hm
  have key : ∀ c : Nat, c < 123 → 47 ≤ c → Unicode.isSpace c = false := by decide +kernel
  exact key c (by omega) h1
theorem dI_dig {i : Int} (h0 : 0 ≤ i) : ∀ c ∈ TL.tl (dI i), 47 ≤ c ∧ c ≤ 122 := fun c hc => by
  obtain ⟨n, rfl⟩ := Int.eq_ofNat_of_zero_le h0
  rw [dI_tl] at hc
  have := TL.numL_digits n c hc
  omega
theorem split_head {R : Int} {c : Rat} (r : 0 ≤ R) (c0 : 0 ≤ c) : Txt.split (headT R c) sp_ = hw R c := by
  have e : headT R c = Txt.join sp_ (hw R c) := by
    refine TL.ext_tl ?_
    rw [TL.join_eq, TL.tl_join]
    unfold headT
    simp only [TL.tl_append, tl_roads_, tl_cost_, sp_tl, TL.joinL, List.map_cons, List.map_nil]
    simp
  rw [e]
  refine TL.split_join sp_tl sp_ok (by simp) fun p hp => ?_
  simp only [hw, List.mem_cons, List.not_mem_nil, or_false] at hp
  rcases hp with rfl | rfl | rfl | rfl
  · exact wd_roads.1
  · exact (Wd.dI r).1
  · exact wd_cost.1
  · exact (Wd.wq c0).1
theorem split_turn {t : Int × Rat} (r : 0 ≤ t.1) (c0 : 0 ≤ t.2) : Txt.split (turnT t) sp_ = tw t := by
  have e : turnT t = Txt.join sp_ (tw t) := by rw [join2]; rfl
  rw [e]
  refine TL.split_join sp_tl sp_ok (by simp) fun p hp => ?_
  simp only [tw, List.mem_cons, List.not_mem_nil, or_false] at hp
  rcases hp with rfl | rfl
  · exact (Wd.dI r).1
  · exact (Wd.wq c0).1
end WR

namespace WR
open PySem PySem.Spec PyProof.Rows L2
/-! ### k08: the law -/
theorem dr_num {q : Rat} {m : Int} (h : q ≤ (m : Rat)) : q.num ≤ m * q.den := by
  have e : mkRat q.num (q.den : Int).toNat = q := by simpa using Rat.mkRat_self q
  by_cases c : m * q.den < q.num
  · have := (lt_mk (n := q.num) (d := (q.den : Int)) (by have := q.den_pos; omega) m).mpr c
    rw [e] at this
    exact absurd h (Rat.not_le.mpr this)
  · omega
theorem dr_short {q : Rat} (h0 : 0 ≤ q) (d : Dr q) : (wq q).length ≤ 15 := by
  have hn : 0 ≤ q.num := Rat.num_nonneg.mpr h0
  have a := dr_num (m := 2000000001) d.1
  have b := d.2
  have l1 : (dI q.num).length ≤ 11 := by
    obtain ⟨n, hn⟩ := Int.eq_ofNat_of_zero_le hn
    rw [hn] at a ⊢
    exact dI_len (by decide) (by omega)
  have l2 : (dI q.den).length ≤ 2 := dI_len (by decide) (by omega)
  unfold wq
  split
  · omega
  · rw [len_app, len_app, sl_len]; omega
theorem big_short : (wq 1000000000000).length ≤ 15 := by decide +kernel
theorem fq_big : PV.tup [.int 1000000000000, .int 1] = fq 1000000000000 := rfl
theorem smb : Sm 50 1000000000000 := by constructor <;> decide +kernel
/-- the plan, sometimes with a far turn and a great cost -/
theorem ext_eq {x : Pl} {p : Nat} {g3 : IH} (S : Option PV) (gp : g3[p]? = some (.lst [.int x.1, tqs x.2.1, fq x.2.2])) (p2 : 2 ≤ p) (ok : OkP x) (tl : x.2.1.length ≤ 59) (c4 : x.2.2.den ≤ 4) (c8 : x.2.2 ≤ 8) (dr : ∀ t ∈ x.2.1, Dr t.2) (d3 : DS 1 0 g3) :
    ∃ x' p' g4, sIf (tBl (eOp pEq (eCall f__law_next (aCons (eVar 1) (aCons (eC (.int 4)) aNil))) (eC (.int 0)))) (sSet 2 (eLst (aCons (eOp pIdx (eVar 2) (eC (.int 0))) (aCons (eOp pAdd (eOp pIdx (eVar 2) (eC (.int 1))) (eTup (aCons (eTup (aCons (eC (.int 0)) (aCons (eTup (aCons (eOp pPow (eC (.int 10)) (eC (.int 12))) (aCons (eC (.int 1)) aNil))) aNil))) aNil))) (aCons (eOp pIdx (eLst (aCons (eOp pIdx (eVar 2) (eC (.int 2))) (aCons (eTup (aCons (eOp pPow (eC (.int 10)) (eC (.int 12))) (aCons (eC (.int 1)) aNil))) aNil))) (eCall f__law_next (aCons (eVar 1) (aCons (eC (.int 2)) aNil)))) aNil))))) sNil
      [S, some (.obj 1), some (.obj p), none, none, none, none, none, none, none, none] g3 = .nx [S, some (.obj 1), some (.obj p'), none, none, none, none, none, none, none, none] g4 ∧ g4[p']? = some (.lst [.int x'.1, tqs x'.2.1, fq x'.2.2]) ∧ 2 ≤ p' ∧ OkP x' ∧ Sh x' ∧ DS 1 0 g4 := by
  obtain ⟨b, g4, f4, b0, b1, d4, K4⟩ := draw d3 4 (by decide) (by decide)
  have gp4 := K4.get p _ (by omega) (by omega) gp
  have sc : Dr x.2.2 := ⟨Rat.le_trans c8 (by decide), by omega⟩
  have st : ∀ t ∈ x.2.1, (wq t.2).length ≤ 15 := fun t ht => dr_short (Rat.le_of_lt (ok.t t ht).pos) (dr t ht)
  by_cases c : b = 0
  · have l4 := d4.lt
    obtain ⟨u, g5, f5, u0, u1, d5, K5⟩ := draw (d4.app [.lst [fq x.2.2, fq 1000000000000]]) 2 (by decide) (by decide)
    have z5 := K5.get g4.length (.lst [fq x.2.2, fq 1000000000000]) (by omega) (by omega) (by simp)
    obtain ⟨c', ec, c0', c1', cs', ch'⟩ : ∃ c' : Rat, atI [fq x.2.2, fq 1000000000000] u = some (fq c') ∧ 0 ≤ c' ∧ c' ≤ 1000000000000 ∧ Sm 50 c' ∧ (wq c').length ≤ 15 := by
      rcases (show u = 0 ∨ u = 1 by omega) with rfl | rfl
      · exact ⟨_, rfl, ok.c0, ok.c1, ok.cs, dr_short ok.c0 sc⟩
      · exact ⟨_, rfl, by decide, by decide, smb, big_short⟩
    refine ⟨(x.1, x.2.1 ++ [(0, 1000000000000)], c'), g5.length, g5 ++ [.lst [.int x.1, tqs (x.2.1 ++ [(0, 1000000000000)]), fq c']], ?_, by simp, by have := d5.lt; omega, ⟨ok.r1, ok.r2, by simp; omega, fun t ht => ?_, c0', c1', cs'⟩, ⟨fun t ht => ?_, ch'⟩, d5.app _⟩
    · have g41 := fun t => get_old (t := t) gp4
      have ll : x.2.1.length + 1 ≤ 16777216 := by omega
      simp [f4, c, gp4, tqs, ll, fq_big, f5, z5, ec, tq]
    · rcases List.mem_append.mp ht with z | z
      · exact ok.t t z
      · simp at z; subst z
        have := ok.r1
        exact ⟨by decide, by simp; omega, by decide, by decide, smb⟩
    · rcases List.mem_append.mp ht with z | z
      · exact st t z
      · simp at z; subst z
        exact big_short
  · exact ⟨x, p, g4, by simp [f4, c], gp4, p2, ok, ⟨st, dr_short ok.c0 sc⟩, d4⟩
end WR

namespace WR
open PySem PySem.Spec PyProof.Rows L2
theorem join_sum (ls : List Str) (h : ∀ l ∈ ls, l.length ≤ 600) (n : ls.length ≤ 100) : (ls.map (·.length)).sum + ls.length * nl_.length ≤ 16777216 := by
  have e1 : nl_.length = 1 := by decide +kernel
  have k : ∀ ls : List Str, (∀ l ∈ ls, l.length ≤ 600) → (ls.map (·.length)).sum ≤ 600 * ls.length := by
    intro ls
    induction ls with
    | nil => intro _; simp
    | cons a r ih =>
      intro h
      have l := h a (by simp)
      have i := ih fun t ht => h t (by simp [ht])
      simp only [List.map_cons, List.sum_cons, List.length_cons]
      omega
  have := k ls h
  rw [e1] at *
  omega
end WR

namespace WR
open PySem PySem.Spec PyProof.Rows L2
/-! ### k09: the faulty lines -/
def bads : List Str := ["x", "1/", "/2", "2/4", "1/1", "-1", "01", "1/02", "1.5", "1/2/3", dI 1000000000001, "1/0", "+1"]
def heads (r b : Str) : List (Str × Nat) := [("road " ++ r ++ " cost 0", 1), ("roads 0 cost 0", 2), ("roads 6 cost 0", 2), ("roads", 2),
  ("roads " ++ r, 3), ("roads " ++ r ++ " costs 0", 3), ("roads " ++ r ++ " cost", 4), ("roads " ++ r ++ " cost " ++ b, 4), ("roads " ++ r ++ " cost 0 0", 5), ("", 1), ("roads 02 cost 1", 2), ("cost 0 roads 2", 1)]
def falls (r d b : Str) : List (Str × Nat) := [(r ++ " 1", 1), ("x 1", 1), (d, 2), (d ++ " " ++ b, 2), (d ++ " 0", 2), ("", 1), ("-1 1", 1), ("00 1", 1)]
def lineOk (s : Str) : Bool := (TL.tl s).all (fun c => decide (32 ≤ c) && decide (c < 1114112)) && decide (s.length ≤ 600) && (wordsOf s).all fun w => PyData.strOk w && decide (w.length ≤ 15)
def isL {α : Type} (a : Nat ⊕ α) (w : Nat) : Bool := match a with
  | .inl v => v == w
  | .inr _ => false
theorem isL_eq {α : Type} {a : Nat ⊕ α} {w : Nat} (h : isL a w = true) : a = .inl w := by
  cases a with
  | inl v => rw [beq_iff_eq.mp h]
  | inr _ => cases h
theorem heads_ok : ([1, 2, 3, 4, 5].all fun R : Int => bads.all fun b => (heads (dI R) b).all fun q => isL (headW (wordsOf q.1)) q.2 && lineOk q.1) = true := by decide +kernel
theorem falls_ok : ([1, 2, 3, 4, 5].all fun R : Int => [0, 1, 2, 3, 4].all fun d : Int => !decide (d < R) || bads.all fun b => (falls (dI R) (dI d) b).all fun q => isL (turnW R (wordsOf q.1)) q.2 && lineOk q.1) = true := by decide +kernel
end WR

namespace WR
open PySem PySem.Spec PyProof.Rows L2
/-! ### k09: what reading says of the changed lines -/
theorem turnsW_at {R : Int} {ws : List Str} {rest : List (List Str)} {w : Nat} (hw' : turnW R ws = .inl w) : ∀ (ts : List (Int × Rat)) (i : Nat), (∀ t ∈ ts, OkT R t) → i + ts.length < 60 → turnsW R (ts.map tw ++ ws :: rest) i = .inl (i + ts.length + 2, w)
  | [], i, _, h => by
    simp only [List.map_nil, List.nil_append, List.length_nil] at h ⊢
    unfold turnsW
    rw [if_neg (by omega), hw']
  | t :: ts, i, ok, h => by
    simp only [List.length_cons] at h
    have ih := turnsW_at hw' (rest := rest) ts (i + 1) (fun u hu => ok u (by simp [hu])) (by omega)
    rw [List.map_cons, List.cons_append]
    unfold turnsW
    rw [if_neg (by omega), turnW_tw (ok t (by simp)), ih]
    simp only [List.length_cons]
    congr 2
    omega
theorem turnsW_60 {R : Int} {ws : List Str} {rest : List (List Str)} : ∀ (ts : List (Int × Rat)) (i : Nat), (∀ t ∈ ts, OkT R t) → i + ts.length = 60 → turnsW R (ts.map tw ++ ws :: rest) i = .inl (62, 1)
  | [], i, _, h => by
    simp only [List.map_nil, List.nil_append, List.length_nil] at h ⊢
    unfold turnsW
    rw [if_pos (by omega), show i = 60 by omega]
  | t :: ts, i, ok, h => by
    simp only [List.length_cons] at h
    have ih := turnsW_60 (ws := ws) (rest := rest) ts (i + 1) (fun u hu => ok u (by simp [hu])) (by omega)
    rw [List.map_cons, List.cons_append]
    unfold turnsW
    rw [if_neg (by omega), turnW_tw (ok t (by simp)), ih]
/-- a line that may be read -/
structure LOk (l : Str) : Prop where
  a : Asc_ (TL.tl l)
  n : l.length ≤ 600
  w : WOk (wordsOf l)
theorem lok_of {l : Str} (h : lineOk l = true) : LOk l := by
  unfold lineOk at h
  simp only [Bool.and_eq_true, decide_eq_true_eq] at h
  obtain ⟨⟨h1, h2⟩, h3⟩ := h
  refine ⟨asc_const h1, h2, fun w hw' => ?_⟩
  have := List.all_eq_true.mp h3 w hw'
  simpa using this
theorem lines_lok {x : Pl} (o : OkP x) (s : Sh x) : ∀ l ∈ linesT x, LOk l := fun l hl => by
  refine ⟨lines_asc o l hl, lines_len o l hl, ?_⟩
  have : wordsOf l ∈ hw x.1 x.2.2 :: x.2.1.map tw := by rw [← lines_words o]; exact List.mem_map_of_mem hl
  rcases List.mem_cons.mp this with e | e
  · rw [e]; exact wok_hw o s
  · obtain ⟨t, ht, et⟩ := List.mem_map.mp e
    rw [← et]; exact wok_tw o s ht
/-- lines that fail at line l, word w -/
structure Flt (ls : List Str) (l w : Nat) : Prop where
  ne : ls ≠ []
  n : ls.length ≤ 100
  ok : ∀ s ∈ ls, LOk s
  rd : readW (ls.map wordsOf) = .inl (l, w)
theorem flt_head {x : Pl} (o : OkP x) (s : Sh x) {L : Str} {w : Nat} (hL : headW (wordsOf L) = .inl w) (k : LOk L) : Flt (L :: (linesT x).drop 1) 1 w := by
  have n := o.n
  refine ⟨by simp, by simp [linesT]; omega, fun z hz => ?_, ?_⟩
  · rcases List.mem_cons.mp hz with e | e
    · rw [e]; exact k
    · exact lines_lok o s z (List.mem_of_mem_drop e)
  · rw [List.map_cons]
    simp only [readW, hL]
theorem flt_turn {x : Pl} (o : OkP x) (s : Sh x) {k : Nat} (hk : k ≤ x.2.1.length) (h60 : x.2.1.length ≤ 12) {L : Str} {w : Nat} (hL : turnW x.1 (wordsOf L) = .inl w) (kl : LOk L) (j : Nat) : Flt ((linesT x).take (k + 1) ++ [L] ++ (linesT x).drop j) (k + 2) w := by
  refine ⟨by simp, by simp [linesT]; omega, fun z hz => ?_, ?_⟩
  · rcases List.mem_append.mp hz with e | e
    · rcases List.mem_append.mp e with e | e
      · exact lines_lok o s z (List.mem_of_mem_take e)
      · simp at e; rw [e]; exact kl
    · exact lines_lok o s z (List.mem_of_mem_drop e)
  · have e : ((linesT x).take (k + 1) ++ [L] ++ (linesT x).drop j).map wordsOf = hw x.1 x.2.2 :: ((x.2.1.take k).map tw ++ wordsOf L :: ((linesT x).drop j).map wordsOf) := by
      rw [List.map_append, List.map_append, List.map_take, lines_words o, List.take_succ_cons, ← List.map_take]
      simp
    rw [e]
    simp only [readW, headW_hw o.r1 o.r2 o.c0 o.c1]
    rw [turnsW_at hL _ 0 (fun t ht => o.t t (List.mem_of_mem_take ht)) (by simp; omega)]
    simp [Nat.min_eq_left hk]
theorem w_01 : wordsOf (Str.ofString "0 1") = tw (0, 1) := by decide +kernel
theorem lok_01 : lineOk (Str.ofString "0 1") = true := by decide +kernel
theorem flt_many {x : Pl} (o : OkP x) (s : Sh x) {L : Str} (kl : LOk L) : Flt ((linesT x).take 1 ++ List.replicate 60 (Str.ofString "0 1") ++ [L]) 62 1 := by
  refine ⟨by simp, by simp [linesT], fun z hz => ?_, ?_⟩
  · rcases List.mem_append.mp hz with e | e
    · rcases List.mem_append.mp e with e | e
      · exact lines_lok o s z (List.mem_of_mem_take e)
      · rw [List.eq_of_mem_replicate e]; exact lok_of lok_01
    · simp at e; rw [e]; exact kl
  · have e : ((linesT x).take 1 ++ List.replicate 60 (Str.ofString "0 1") ++ [L]).map wordsOf = hw x.1 x.2.2 :: ((List.replicate 60 ((0, 1) : Int × Rat)).map tw ++ wordsOf L :: []) := by
      rw [List.map_append, List.map_append, List.map_take, lines_words o, List.map_replicate, w_01, List.map_replicate]
      rfl
    rw [e]
    simp only [readW, headW_hw o.r1 o.r2 o.c0 o.c1]
    rw [turnsW_60 _ 0 (fun t ht => ?_) (by simp)]
    rw [List.eq_of_mem_replicate ht]
    have := o.r1
    exact ⟨by decide, by simp; omega, by decide, by decide, by constructor <;> decide⟩
theorem w_sp : turnW 1 (wordsOf (Str.ofString "  ")) = .inl 1 ∧ wordsOf (Str.ofString "  ") = [] := by
  have : wordsOf (Str.ofString "  ") = [] := by decide +kernel
  rw [this]; exact ⟨rfl, rfl⟩
theorem flt_gap {x : Pl} (o : OkP x) (s : Sh x) {k : Nat} (hk : k ≤ x.2.1.length + 1) (h60 : x.2.1.length ≤ 12) : Flt ((linesT x).take k ++ [Str.ofString "  "] ++ (linesT x).drop k) (k + 1) 1 := by
  have kl : LOk (Str.ofString "  ") := lok_of (by decide +kernel)
  cases k with
  | zero =>
    have n := o.n
    refine ⟨by simp, by simp [linesT]; omega, fun z hz => ?_, ?_⟩
    · simp at hz
      rcases hz with e | e
      · rw [e]; exact kl
      · exact lines_lok o s z e
    · simp only [List.take_zero, List.nil_append, List.drop_zero, List.singleton_append, List.map_cons, w_sp.2]
      simp [readW, headW]
  | succ k => exact flt_turn o s (by omega) h60 (by rw [w_sp.2]; rfl) kl (k + 1)
/-- a turn's line with a word too much -/
theorem words_more {t : Int × Rat} (r0 : 0 ≤ t.1) (c0 : 0 ≤ t.2) {e w : Str} (hw' : Wd w) (he : TL.tl e = 32 :: TL.tl w) : wordsOf (turnT t ++ e) = tw t ++ [w] := by
  have l1 := (Lo.nil 0).snoc (Wd.dI r0) 0
  have l2 := l1.snoc (Wd.wq c0) 0
  refine l2.last hw' ?_
  unfold turnT
  simp only [TL.tl_append, sp_tl, he]
  simp
theorem turnW_more {R : Int} {t : Int × Rat} (o : OkT R t) (w : Str) : turnW R (tw t ++ [w]) = .inl 3 := by
  have f := findN_dI (lo := 0) (v := t.1) (by decide) R.toNat 0 (by have := o.lo; omega) (by have := o.hi; have := o.lo; omega)
  have p := o.pos
  obtain ⟨n, w, m⟩ := fracW_wq (Rat.le_of_lt p)
  unfold turnW
  simp [tw, f, w, m, p, o.top]
theorem lok_more {x : Pl} (o : OkP x) (s : Sh x) {t : Int × Rat} (ht : t ∈ x.2.1) {e w : Str} (hw' : Wd w) (he : TL.tl e = 32 :: TL.tl w) (el : e.length ≤ 5) (ea : Asc_ (TL.tl e)) (wo : PyData.strOk w = true ∧ w.length ≤ 15) : LOk (turnT t ++ e) ∧ turnW x.1 (wordsOf (turnT t ++ e)) = .inl 3 := by
  have ot := o.t t ht
  have e1 := words_more ot.lo (Rat.le_of_lt ot.pos) hw' he
  refine ⟨⟨?_, ?_, ?_⟩, ?_⟩
  · rw [TL.tl_append]
    exact asc_app (asc_turn ot.lo (Rat.le_of_lt ot.pos)) ea
  · have := turnT_len ot o.r2
    rw [len_app]; omega
  · rw [e1]
    intro v hv
    rcases List.mem_append.mp hv with z | z
    · exact wok_tw o s ht v z
    · simp at z; rw [z]; exact wo
  · rw [e1]; exact turnW_more ot w
end WR

namespace WR
open PySem PySem.Spec PyProof.Rows L2
/-! ### k09: the walk of the faults -/
theorem rd_in {R : Int} (r1 : 1 ≤ R) (r2 : R ≤ 5) : R ∈ [(1 : Int), 2, 3, 4, 5] := by
  simp only [List.mem_cons, List.not_mem_nil, or_false]; omega
theorem head_bad {R : Int} (r1 : 1 ≤ R) (r2 : R ≤ 5) {b : Str} (hb : b ∈ bads) {q : Str × Nat} (hq : q ∈ heads (dI R) b) : headW (wordsOf q.1) = .inl q.2 ∧ LOk q.1 := by
  have a := List.all_eq_true.mp (List.all_eq_true.mp (List.all_eq_true.mp heads_ok R (rd_in r1 r2)) b hb) q hq
  obtain ⟨x, y⟩ := Bool.and_eq_true_iff.mp a
  exact ⟨isL_eq x, lok_of y⟩
theorem fall_bad {R d : Int} (r1 : 1 ≤ R) (r2 : R ≤ 5) (d0 : 0 ≤ d) (d1 : d < R) {b : Str} (hb : b ∈ bads) {q : Str × Nat} (hq : q ∈ falls (dI R) (dI d) b) : turnW R (wordsOf q.1) = .inl q.2 ∧ LOk q.1 := by
  have z := List.all_eq_true.mp (List.all_eq_true.mp falls_ok R (rd_in r1 r2)) d (by simp only [List.mem_cons, List.not_mem_nil, or_false]; omega)
  have z : (bads.all fun b => (falls (dI R) (dI d) b).all fun q => isL (turnW R (wordsOf q.1)) q.2 && lineOk q.1) = true := by
    rcases Bool.or_eq_true_iff.mp z with c | c
    · rw [decide_eq_true d1] at c; cases c
    · exact c
  have a := List.all_eq_true.mp (List.all_eq_true.mp z b hb) q hq
  obtain ⟨x, y⟩ := Bool.and_eq_true_iff.mp a
  exact ⟨isL_eq x, lok_of y⟩
theorem bad_len : (bads.all fun b => decide (b.length ≤ 15)) = true := by decide +kernel
theorem bad_le {b : Str} (hb : b ∈ bads) : b.length ≤ 15 := of_decide_eq_true (List.all_eq_true.mp bad_len b hb)
/-- what the walk is to show -/
def FaultIs (x : Pl) (h : IH) (v : PV) (h' : IH) : Prop := ∃ ls l w n m, v = .obj n ∧ h'[n]? = some (.lst [.obj m, .int (l : Nat), .int (w : Nat)]) ∧ h'[m]? = some (.lst (ls.map PV.str)) ∧ Flt ls l w ∧ DS 1 0 h' ∧ Kp 1 0 h h'
theorem ix_ex {α : Type} (xs : List α) {u : Int} (u0 : 0 ≤ u) (u1 : u < xs.length) : ∃ a, a ∈ xs ∧ atI xs u = some a := by
  have e := atI_pos xs u u0 u1
  have l : u.toNat < xs.length := by omega
  exact ⟨xs[u.toNat], List.getElem_mem l, by rw [e]; exact List.getElem?_eq_getElem l⟩
theorem K2.add {h g : IH} (k : Kp 1 0 h g) (t : IH) : Kp 1 0 h (g ++ t) := k.trans (Kp.app 1 0 g t)
end WR

namespace WR
open PySem PySem.Spec PyProof.Rows L2
def bK0 : SX := (sSeq (sSet 7 (eLst (aCons (eLst (aCons (eOp pAdd (eOp pAdd (eC (.str "road ")) (eVar 4)) (eC (.str " cost 0"))) (aCons (eC (.int 1)) aNil))) (aCons (eLst (aCons (eC (.str "roads 0 cost 0")) (aCons (eC (.int 2)) aNil))) (aCons (eLst (aCons (eC (.str "roads 6 cost 0")) (aCons (eC (.int 2)) aNil))) (aCons (eLst (aCons (eC (.str "roads")) (aCons (eC (.int 2)) aNil))) aNil))))))
    (sSeq (sSet 7 (eOp pAdd (eVar 7) (eLst (aCons (eLst (aCons (eOp pAdd (eC (.str "roads ")) (eVar 4)) (aCons (eC (.int 3)) aNil))) (aCons (eLst (aCons (eOp pAdd (eOp pAdd (eC (.str "roads ")) (eVar 4)) (eC (.str " costs 0"))) (aCons (eC (.int 3)) aNil))) (aCons (eLst (aCons (eOp pAdd (eOp pAdd (eC (.str "roads ")) (eVar 4)) (eC (.str " cost"))) (aCons (eC (.int 4)) aNil))) aNil))))))
    (sSeq (sExpr (eAppend (eVar 7) (aCons (eLst (aCons (eOp pAdd (eOp pAdd (eOp pAdd (eC (.str "roads ")) (eVar 4)) (eC (.str " cost "))) (eVar 6)) (aCons (eC (.int 4)) aNil))) aNil)))
    (sSeq (sSet 7 (eOp pAdd (eVar 7) (eLst (aCons (eLst (aCons (eOp pAdd (eOp pAdd (eC (.str "roads ")) (eVar 4)) (eC (.str " cost 0 0"))) (aCons (eC (.int 5)) aNil))) (aCons (eLst (aCons (eC (.str "")) (aCons (eC (.int 1)) aNil))) (aCons (eLst (aCons (eC (.str "roads 02 cost 1")) (aCons (eC (.int 2)) aNil))) (aCons (eLst (aCons (eC (.str "cost 0 roads 2")) (aCons (eC (.int 1)) aNil))) aNil)))))))
    (sSeq (sSet 8 (eOp pIdx (eVar 7) (eCall f__law_next (aCons (eVar 0) (aCons (eB pLen (aCons (eVar 7) aNil)) aNil)))))
    (sRet (eLst (aCons (eOp pAdd (eLst (aCons (eOp pIdx (eVar 8) (eC (.int 0))) aNil)) (eSl (eVar 2) (oSome (eC (.int 1))) oNone)) (aCons (eC (.int 1)) (aCons (eOp pIdx (eVar 8) (eC (.int 1))) aNil))))))))))
def bK1 : SX := (sSeq (sSet 9 (eCall f__law_next (aCons (eVar 0) (aCons (eOp pAdd (eB pLen (aCons (eVar 2) aNil)) (eC (.int 1))) aNil))))
    (sRet (eLst (aCons (eOp pAdd (eOp pAdd (eSl (eVar 2) oNone (oSome (eVar 9))) (eLst (aCons (eC (.str "  ")) aNil))) (eSl (eVar 2) (oSome (eVar 9)) oNone)) (aCons (eOp pAdd (eVar 9) (eC (.int 1))) (aCons (eC (.int 1)) aNil))))))
def bK3 : SX := (sSeq (sSet 10 (eCall f__law_next (aCons (eVar 0) (aCons (eB pLen (aCons (eOp pIdx (eVar 1) (eC (.int 1))) aNil)) aNil))))
    (sSeq (sSet 11 (eB pStr1 (aCons (eOp pIdx (eOp pIdx (eOp pIdx (eVar 1) (eC (.int 1))) (eVar 10)) (eC (.int 0))) aNil)))
    (sSeq (sSet 12 (eLst (aCons (eLst (aCons (eOp pAdd (eVar 4) (eC (.str " 1"))) (aCons (eC (.int 1)) aNil))) (aCons (eLst (aCons (eC (.str "x 1")) (aCons (eC (.int 1)) aNil))) (aCons (eLst (aCons (eVar 11) (aCons (eC (.int 2)) aNil))) (aCons (eLst (aCons (eOp pAdd (eOp pAdd (eVar 11) (eC (.str " "))) (eVar 6)) (aCons (eC (.int 2)) aNil))) (aCons (eLst (aCons (eOp pAdd (eVar 11) (eC (.str " 0"))) (aCons (eC (.int 2)) aNil))) (aCons (eLst (aCons (eC (.str "")) (aCons (eC (.int 1)) aNil))) aNil))))))))
    (sSeq (sExpr (eAppend (eVar 12) (aCons (eLst (aCons (eOp pAdd (eOp pIdx (eVar 2) (eOp pAdd (eVar 10) (eC (.int 1)))) (eC (.str " 1"))) (aCons (eC (.int 3)) aNil))) aNil)))
    (sSeq (sSet 12 (eOp pAdd (eVar 12) (eLst (aCons (eLst (aCons (eC (.str "-1 1")) (aCons (eC (.int 1)) aNil))) (aCons (eLst (aCons (eC (.str "00 1")) (aCons (eC (.int 1)) aNil))) (aCons (eLst (aCons (eOp pAdd (eOp pIdx (eVar 2) (eOp pAdd (eVar 10) (eC (.int 1)))) (eC (.str " x"))) (aCons (eC (.int 3)) aNil))) aNil))))))
    (sSeq (sSet 8 (eOp pIdx (eVar 12) (eCall f__law_next (aCons (eVar 0) (aCons (eB pLen (aCons (eVar 12) aNil)) aNil)))))
    (sRet (eLst (aCons (eOp pAdd (eOp pAdd (eSl (eVar 2) oNone (oSome (eOp pAdd (eVar 10) (eC (.int 1))))) (eLst (aCons (eOp pIdx (eVar 8) (eC (.int 0))) aNil))) (eSl (eVar 2) (oSome (eOp pAdd (eVar 10) (eC (.int 2)))) oNone)) (aCons (eOp pAdd (eVar 10) (eC (.int 2))) (aCons (eOp pIdx (eVar 8) (eC (.int 1))) aNil)))))))))))
end WR

namespace WR
open PySem PySem.Spec PyProof.Rows L2
theorem lines_n {x : Pl} (n12 : x.2.1.length ≤ 12) : (linesT x).length ≤ 13 := by simp [linesT]; omega
theorem k1_eq {x : Pl} (o : OkP x) (s : Sh x) (n12 : x.2.1.length ≤ 12) {k : Nat} {h g : IH} (d : DS 1 0 g) (K : Kp 1 0 h g) (k2 : 2 ≤ k) (ek : g[k]? = some (.lst ((linesT x).map .str))) (a1 a3 a4 a5 a6 a7 a8 a9 a10 a11 a12 : Option PV) {N : Fm → IH → Prop} :
    (bK1 [some (.obj 1), a1, some (.obj k), a3, a4, a5, a6, a7, a8, a9, a10, a11, a12] g).Is N (FaultIs x h) := by
  have ln := lines_n n12
  have l1 : (linesT x).length = x.2.1.length + 1 := by simp [linesT]
  unfold bK1
  obtain ⟨u, g1, f1, u0, u1, d1, K1⟩ := draw d (((linesT x).length : Int) + 1) (by omega) (by omega)
  have ek1 := K1.get k _ (by omega) (by omega) ek
  have ekk : ∀ t, (g1 ++ t)[k]? = some (.lst ((linesT x).map .str)) := fun t => get_old ek1
  refine w_seq (w_set (v := .int u) (h1 := g1) (by simp [ek, f1, show (linesT x).length ≤ 16777216 by omega]) ?_)
  obtain ⟨v, rfl⟩ := Int.eq_ofNat_of_zero_le u0
  have c1 := cut_to ((linesT x).map PV.str) (v : Int) (by omega)
  have c2 := cut_from ((linesT x).map PV.str) (v : Int) (by omega)
  rw [Int.toNat_natCast] at c1 c2
  have m1 : min v (linesT x).length ≤ 16777210 := by omega
  have F := flt_gap o s (k := v) (by omega) n12
  refine w_ret (v := .obj (g1.length + 5)) (h1 := g1 ++ [.lst (((linesT x).take v).map PV.str), .lst [.str (Str.ofString "  ")], .lst (((linesT x).take v ++ [Str.ofString "  "]).map PV.str), .lst (((linesT x).drop v).map PV.str), .lst (((linesT x).take v ++ [Str.ofString "  "] ++ (linesT x).drop v).map PV.str), .lst [.obj (g1.length + 4), .int ((v + 1 : Nat)), .int (1 : Nat)]]) ?_
    ⟨_, v + 1, 1, _, g1.length + 4, rfl, by simp, by simp, F, d1.app _, (K.trans K1).trans (Kp.app _ _ _ _)⟩
  simp [ekk, ek1, c1, c2, show min v (linesT x).length + 1 ≤ 16777216 by omega, show min v (linesT x).length + 1 + ((linesT x).length - v) ≤ 16777216 by omega]
end WR

namespace WR
open PySem PySem.Spec PyProof.Rows L2
theorem sl1 : (Str.ofString "road ").length = 5 := by decide +kernel
theorem sl2 : (Str.ofString "roads ").length = 6 := by decide +kernel
theorem sl3 : (Str.ofString " cost 0").length = 7 := by decide +kernel
theorem sl4 : (Str.ofString " costs 0").length = 8 := by decide +kernel
theorem sl5 : (Str.ofString " cost").length = 5 := by decide +kernel
theorem sl6 : (Str.ofString " cost ").length = 6 := by decide +kernel
theorem sl7 : (Str.ofString " cost 0 0").length = 9 := by decide +kernel
abbrev pr (q : Str × Nat) : MO := .lst [.str q.1, .int (q.2 : Nat)]
theorem k0_eq {x : Pl} (o : OkP x) (s : Sh x) (n12 : x.2.1.length ≤ 12) {k : Nat} {h g : IH} (d : DS 1 0 g) (K : Kp 1 0 h g) (k2 : 2 ≤ k) (ek : g[k]? = some (.lst ((linesT x).map .str))) {b : Str} (hb : b ∈ bads) (a1 a3 a5 a7 a8 a9 a10 a11 a12 : Option PV) {N : Fm → IH → Prop} :
    (bK0 [some (.obj 1), a1, some (.obj k), a3, some (.str (dI x.1)), a5, some (.str b), a7, a8, a9, a10, a11, a12] g).Is N (FaultIs x h) := by
  have ln := lines_n n12
  have hr := o.r1
  have hr2 := o.r2
  have L1 := dI_len15 (i := x.1) (by omega) (by omega)
  have L2 := bad_le hb
  have HB := fun q hq => head_bad hr hr2 hb (q := q) hq
  generalize hR : dI x.1 = R at L1 HB ⊢
  have l0 := d.lt
  unfold bK0
  refine w_seq (w_set (v := .obj (g.length + 4)) (h1 := g ++ [pr ("road " ++ R ++ " cost 0", 1), pr ("roads 0 cost 0", 2), pr ("roads 6 cost 0", 2), pr ("roads", 2), .lst [.obj g.length, .obj (g.length + 1), .obj (g.length + 2), .obj (g.length + 3)]]) (by simp [len_app, sl1, sl3, show 5 + R.length ≤ 16777216 by omega, show 5 + R.length + 7 ≤ 16777216 by omega]) ?_)
  refine w_seq (w_set (v := .obj (g.length + 9)) (h1 := g ++ [pr ("road " ++ R ++ " cost 0", 1), pr ("roads 0 cost 0", 2), pr ("roads 6 cost 0", 2), pr ("roads", 2), .lst [.obj g.length, .obj (g.length + 1), .obj (g.length + 2), .obj (g.length + 3)], pr ("roads " ++ R, 3), pr ("roads " ++ R ++ " costs 0", 3), pr ("roads " ++ R ++ " cost", 4), .lst [.obj (g.length + 5), .obj (g.length + 6), .obj (g.length + 7)], .lst [.obj g.length, .obj (g.length + 1), .obj (g.length + 2), .obj (g.length + 3), .obj (g.length + 5), .obj (g.length + 6), .obj (g.length + 7)]]) (by simp [Nat.add_assoc g.length, len_app, sl2, sl4, sl5, show 6 + R.length ≤ 16777216 by omega, show 6 + R.length + 8 ≤ 16777216 by omega, show 6 + R.length + 5 ≤ 16777216 by omega]) ?_)
  refine w_seq (w_expr (v := .non) (h1 := g ++ [pr ("road " ++ R ++ " cost 0", 1), pr ("roads 0 cost 0", 2), pr ("roads 6 cost 0", 2), pr ("roads", 2), .lst [.obj g.length, .obj (g.length + 1), .obj (g.length + 2), .obj (g.length + 3)], pr ("roads " ++ R, 3), pr ("roads " ++ R ++ " costs 0", 3), pr ("roads " ++ R ++ " cost", 4), .lst [.obj (g.length + 5), .obj (g.length + 6), .obj (g.length + 7)], .lst [.obj g.length, .obj (g.length + 1), .obj (g.length + 2), .obj (g.length + 3), .obj (g.length + 5), .obj (g.length + 6), .obj (g.length + 7), .obj (g.length + 10)], pr ("roads " ++ R ++ " cost " ++ b, 4)]) (by simp [Nat.add_assoc g.length, len_app, sl2, sl6, List.set_append, show 6 + R.length ≤ 16777216 by omega, show 6 + R.length + 6 ≤ 16777216 by omega, show 6 + R.length + 6 + b.length ≤ 16777216 by omega]) ?_)
  refine w_seq (w_set (v := .obj (g.length + 16)) (h1 := g ++ [pr ("road " ++ R ++ " cost 0", 1), pr ("roads 0 cost 0", 2), pr ("roads 6 cost 0", 2), pr ("roads", 2), .lst [.obj g.length, .obj (g.length + 1), .obj (g.length + 2), .obj (g.length + 3)], pr ("roads " ++ R, 3), pr ("roads " ++ R ++ " costs 0", 3), pr ("roads " ++ R ++ " cost", 4), .lst [.obj (g.length + 5), .obj (g.length + 6), .obj (g.length + 7)], .lst [.obj g.length, .obj (g.length + 1), .obj (g.length + 2), .obj (g.length + 3), .obj (g.length + 5), .obj (g.length + 6), .obj (g.length + 7), .obj (g.length + 10)], pr ("roads " ++ R ++ " cost " ++ b, 4), pr ("roads " ++ R ++ " cost 0 0", 5), pr ("", 1), pr ("roads 02 cost 1", 2), pr ("cost 0 roads 2", 1), .lst [.obj (g.length + 11), .obj (g.length + 12), .obj (g.length + 13), .obj (g.length + 14)], .lst [.obj g.length, .obj (g.length + 1), .obj (g.length + 2), .obj (g.length + 3), .obj (g.length + 5), .obj (g.length + 6), .obj (g.length + 7), .obj (g.length + 10), .obj (g.length + 11), .obj (g.length + 12), .obj (g.length + 13), .obj (g.length + 14)]]) (by simp [Nat.add_assoc g.length, len_app, sl2, sl7, show 6 + R.length ≤ 16777216 by omega, show 6 + R.length + 9 ≤ 16777216 by omega]) ?_)
  have d1 := d.app [pr ("road " ++ R ++ " cost 0", 1), pr ("roads 0 cost 0", 2), pr ("roads 6 cost 0", 2), pr ("roads", 2), .lst [.obj g.length, .obj (g.length + 1), .obj (g.length + 2), .obj (g.length + 3)], pr ("roads " ++ R, 3), pr ("roads " ++ R ++ " costs 0", 3), pr ("roads " ++ R ++ " cost", 4), .lst [.obj (g.length + 5), .obj (g.length + 6), .obj (g.length + 7)], .lst [.obj g.length, .obj (g.length + 1), .obj (g.length + 2), .obj (g.length + 3), .obj (g.length + 5), .obj (g.length + 6), .obj (g.length + 7), .obj (g.length + 10)], pr ("roads " ++ R ++ " cost " ++ b, 4), pr ("roads " ++ R ++ " cost 0 0", 5), pr ("", 1), pr ("roads 02 cost 1", 2), pr ("cost 0 roads 2", 1), .lst [.obj (g.length + 11), .obj (g.length + 12), .obj (g.length + 13), .obj (g.length + 14)], .lst [.obj g.length, .obj (g.length + 1), .obj (g.length + 2), .obj (g.length + 3), .obj (g.length + 5), .obj (g.length + 6), .obj (g.length + 7), .obj (g.length + 10), .obj (g.length + 11), .obj (g.length + 12), .obj (g.length + 13), .obj (g.length + 14)]]
  have K1 := K.trans (Kp.app 1 0 g [pr ("road " ++ R ++ " cost 0", 1), pr ("roads 0 cost 0", 2), pr ("roads 6 cost 0", 2), pr ("roads", 2), .lst [.obj g.length, .obj (g.length + 1), .obj (g.length + 2), .obj (g.length + 3)], pr ("roads " ++ R, 3), pr ("roads " ++ R ++ " costs 0", 3), pr ("roads " ++ R ++ " cost", 4), .lst [.obj (g.length + 5), .obj (g.length + 6), .obj (g.length + 7)], .lst [.obj g.length, .obj (g.length + 1), .obj (g.length + 2), .obj (g.length + 3), .obj (g.length + 5), .obj (g.length + 6), .obj (g.length + 7), .obj (g.length + 10)], pr ("roads " ++ R ++ " cost " ++ b, 4), pr ("roads " ++ R ++ " cost 0 0", 5), pr ("", 1), pr ("roads 02 cost 1", 2), pr ("cost 0 roads 2", 1), .lst [.obj (g.length + 11), .obj (g.length + 12), .obj (g.length + 13), .obj (g.length + 14)], .lst [.obj g.length, .obj (g.length + 1), .obj (g.length + 2), .obj (g.length + 3), .obj (g.length + 5), .obj (g.length + 6), .obj (g.length + 7), .obj (g.length + 10), .obj (g.length + 11), .obj (g.length + 12), .obj (g.length + 13), .obj (g.length + 14)]])
  obtain ⟨u, g2, f2, u0, u1, d2, K2⟩ := draw d1 12 (by decide) (by decide)
  have key : ∃ m q, q ∈ heads R b ∧ g.length ≤ m ∧ atI [PV.obj g.length, .obj (g.length + 1), .obj (g.length + 2), .obj (g.length + 3), .obj (g.length + 5), .obj (g.length + 6), .obj (g.length + 7), .obj (g.length + 10), .obj (g.length + 11), .obj (g.length + 12), .obj (g.length + 13), .obj (g.length + 14)] u = some (.obj m) ∧ g2[m]? = some (pr q) := by
    have G := fun n o e => K2.get (g.length + n) o (by omega) (by omega) e
    rcases (show u = 0 ∨ u = 1 ∨ u = 2 ∨ u = 3 ∨ u = 4 ∨ u = 5 ∨ u = 6 ∨ u = 7 ∨ u = 8 ∨ u = 9 ∨ u = 10 ∨ u = 11 by omega) with rfl | rfl | rfl | rfl | rfl | rfl | rfl | rfl | rfl | rfl | rfl | rfl
    · exact ⟨_, ("road " ++ R ++ " cost 0", 1), by simp [heads], Nat.le_refl _, rfl, G 0 _ (by simp)⟩
    · exact ⟨_, ("roads 0 cost 0", 2), by simp [heads], by omega, rfl, G 1 _ (by simp)⟩
    · exact ⟨_, ("roads 6 cost 0", 2), by simp [heads], by omega, rfl, G 2 _ (by simp)⟩
    · exact ⟨_, ("roads", 2), by simp [heads], by omega, rfl, G 3 _ (by simp)⟩
    · exact ⟨_, ("roads " ++ R, 3), by simp [heads], by omega, rfl, G 5 _ (by simp)⟩
    · exact ⟨_, ("roads " ++ R ++ " costs 0", 3), by simp [heads], by omega, rfl, G 6 _ (by simp)⟩
    · exact ⟨_, ("roads " ++ R ++ " cost", 4), by simp [heads], by omega, rfl, G 7 _ (by simp)⟩
    · exact ⟨_, ("roads " ++ R ++ " cost " ++ b, 4), by simp [heads], by omega, rfl, G 10 _ (by simp)⟩
    · exact ⟨_, ("roads " ++ R ++ " cost 0 0", 5), by simp [heads], by omega, rfl, G 11 _ (by simp)⟩
    · exact ⟨_, ("", 1), by simp [heads], by omega, rfl, G 12 _ (by simp)⟩
    · exact ⟨_, ("roads 02 cost 1", 2), by simp [heads], by omega, rfl, G 13 _ (by simp)⟩
    · exact ⟨_, ("cost 0 roads 2", 1), by simp [heads], by omega, rfl, G 14 _ (by simp)⟩
  obtain ⟨m, q, hq, hm, em, eq⟩ := key
  have e16 := K2.get (g.length + 16) _ (by omega) (by omega) (show (g ++ _)[g.length + 16]? = _ by simp; rfl)
  have ek1 := K2.get k _ (by omega) (by omega) (get_old ek)
  refine w_seq (w_set (v := .obj m) (h1 := g2) (by simp [f2, e16, em]) ?_)
  obtain ⟨b1, b2⟩ := HB q hq
  have F := flt_head o s b1 b2
  have c2 := cut_from ((linesT x).map PV.str) 1 (by decide)
  rw [show (1 : Int).toNat = 1 from rfl] at c2
  have eqq : ∀ t, (g2 ++ t)[m]? = some (pr q) := fun t => get_old eq
  have ekk : ∀ t, (g2 ++ t)[k]? = some (.lst ((linesT x).map .str)) := fun t => get_old ek1
  refine w_ret (v := .obj (g2.length + 3)) (h1 := g2 ++ [.lst [.str q.1], .lst (((linesT x).drop 1).map PV.str), .lst ((q.1 :: (linesT x).drop 1).map PV.str), .lst [.obj (g2.length + 2), .int (1 : Nat), .int (q.2 : Nat)]]) ?_
    ⟨_, 1, q.2, _, g2.length + 2, rfl, by simp, by simp, F, d2.app _, (K1.trans K2).trans (Kp.app _ _ _ _)⟩
  simp [eq, eqq, ekk, c2, show 1 + ((linesT x).length - 1) ≤ 16777216 by omega]
end WR

namespace WR
open PySem PySem.Spec PyProof.Rows L2
theorem sm1_ : (Str.ofString " 1").length = 2 := by decide +kernel
theorem sm2_ : (Str.ofString " ").length = 1 := by decide +kernel
theorem sm3_ : (Str.ofString " 0").length = 2 := by decide +kernel
theorem sm4_ : (Str.ofString " x").length = 2 := by decide +kernel
theorem line_at {x : Pl} {j : Nat} (hj : j < x.2.1.length) : atI ((linesT x).map PV.str) ((j : Int) + 1) = some (.str (turnT x.2.1[j])) := by
  rw [show (j : Int) + 1 = ((j + 1 : Nat) : Int) by omega, atI_nat]
  simp [linesT, hj]
theorem k3_eq {x : Pl} (o : OkP x) (s : Sh x) (n12 : x.2.1.length ≤ 12) (n0 : x.2.1 ≠ []) {k p : Nat} {h g0 : IH} (d0 : DS 1 0 g0) (K0 : Kp 1 0 h g0) (k2 : 2 ≤ k) (p2 : 2 ≤ p) (ek0 : g0[k]? = some (.lst ((linesT x).map .str))) (ep0 : g0[p]? = some (.lst [.int x.1, tqs x.2.1, fq x.2.2])) {b : Str} (hb : b ∈ bads) (a3 a5 a7 a8 a9 a10 a11 a12 : Option PV) {N : Fm → IH → Prop} :
    (bK3 [some (.obj 1), some (.obj p), some (.obj k), a3, some (.str (dI x.1)), a5, some (.str b), a7, a8, a9, a10, a11, a12] g0).Is N (FaultIs x h) := by
  have ln := lines_n n12
  have hr := o.r1
  have hr2 := o.r2
  have np : 0 < x.2.1.length := List.length_pos_iff.mpr n0
  have L1 := dI_len15 (i := x.1) (by omega) (by omega)
  have L2 := bad_le hb
  unfold bK3
  obtain ⟨u, g, f1, u0, u1, d, K1⟩ := draw d0 (x.2.1.length : Int) (by omega) (by omega)
  have ek := K1.get k _ (by omega) (by omega) ek0
  have ep := K1.get p _ (by omega) (by omega) ep0
  have K := K0.trans K1
  refine w_seq (w_set (v := .int u) (h1 := g) (by simp [ep0, tqs, f1]) ?_)
  clear f1
  obtain ⟨j, rfl⟩ := Int.eq_ofNat_of_zero_le u0
  have hj : j < x.2.1.length := by omega
  have ct : atI (x.2.1.map tq) (j : Int) = some (tq x.2.1[j]) := by rw [atI_nat]; simp [hj]
  have cr := line_at hj
  have ot := o.t _ (List.getElem_mem hj)
  have lo := ot.lo
  have hi := ot.hi
  have g2 := lg1920 (i := x.2.1[j].1) (by omega)
  have r2 : Str.ofString (Int.repr x.2.1[j].1) = dI x.2.1[j].1 := rfl
  refine w_seq (w_set (v := .str (dI x.2.1[j].1)) (h1 := g) (by simp [ep, tqs, ct, tq, g2, r2]) ?_)
  have FB := fun q hq => fall_bad hr hr2 lo hi hb (q := q) hq
  have L3 := dI_len15 (i := x.2.1[j].1) lo (by omega)
  have L4 := turnT_len ot hr2
  obtain ⟨y1, y2⟩ := lok_more o s (List.getElem_mem hj) (e := " 1") (w := "1") (by unfold Wd; decide +kernel) (by decide +kernel) (by decide +kernel) (asc_const (by decide +kernel)) (by decide +kernel)
  obtain ⟨y3, y4⟩ := lok_more o s (List.getElem_mem hj) (e := " x") (w := "x") (by unfold Wd; decide +kernel) (by decide +kernel) (by decide +kernel) (asc_const (by decide +kernel)) (by decide +kernel)
  have ekk : ∀ t, (g ++ t)[k]? = some (.lst ((linesT x).map .str)) := fun t => get_old ek
  generalize hD : dI x.2.1[j].1 = D at L3 FB ⊢
  generalize hT : turnT x.2.1[j] = T at L4 cr y1 y2 y3 y4 ⊢
  generalize hR : dI x.1 = R at L1 FB ⊢
  have M1 := And.intro y2 y1
  have M2 := And.intro y4 y3
  have l0 := d.lt
  refine w_seq (w_set (v := .obj (g.length + 6)) (h1 := g ++ [pr (R ++ " 1", 1), pr ("x 1", 1), pr (D, 2), pr (D ++ " " ++ b, 2), pr (D ++ " 0", 2), pr ("", 1), .lst [.obj g.length, .obj (g.length + 1), .obj (g.length + 2), .obj (g.length + 3), .obj (g.length + 4), .obj (g.length + 5)]]) (by simp [Nat.add_assoc g.length, len_app, sm1_, sm2_, sm3_, show R.length + 2 ≤ 16777216 by omega, show R.length ≤ 16777214 by omega, show D.length + 1 ≤ 16777216 by omega, show D.length ≤ 16777215 by omega, show D.length + 1 + b.length ≤ 16777216 by omega, show D.length + 2 ≤ 16777216 by omega, show D.length ≤ 16777214 by omega]) ?_)
  refine w_seq (w_expr (v := .non) (h1 := g ++ [pr (R ++ " 1", 1), pr ("x 1", 1), pr (D, 2), pr (D ++ " " ++ b, 2), pr (D ++ " 0", 2), pr ("", 1), .lst [.obj g.length, .obj (g.length + 1), .obj (g.length + 2), .obj (g.length + 3), .obj (g.length + 4), .obj (g.length + 5), .obj (g.length + 7)], pr (T ++ " 1", 3)]) (by simp [Nat.add_assoc g.length, ekk, cr, len_app, sm1_, List.set_append, show T.length + 2 ≤ 16777216 by omega, show T.length ≤ 16777214 by omega]) ?_)
  refine w_seq (w_set (v := .obj (g.length + 12)) (h1 := g ++ [pr (R ++ " 1", 1), pr ("x 1", 1), pr (D, 2), pr (D ++ " " ++ b, 2), pr (D ++ " 0", 2), pr ("", 1), .lst [.obj g.length, .obj (g.length + 1), .obj (g.length + 2), .obj (g.length + 3), .obj (g.length + 4), .obj (g.length + 5), .obj (g.length + 7)], pr (T ++ " 1", 3), pr ("-1 1", 1), pr ("00 1", 1), pr (T ++ " x", 3), .lst [.obj (g.length + 8), .obj (g.length + 9), .obj (g.length + 10)], .lst [.obj g.length, .obj (g.length + 1), .obj (g.length + 2), .obj (g.length + 3), .obj (g.length + 4), .obj (g.length + 5), .obj (g.length + 7), .obj (g.length + 8), .obj (g.length + 9), .obj (g.length + 10)]]) (by simp [Nat.add_assoc g.length, ekk, cr, len_app, sm4_, show T.length + 2 ≤ 16777216 by omega, show T.length ≤ 16777214 by omega]) ?_)
  have d1 := d.app [pr (R ++ " 1", 1), pr ("x 1", 1), pr (D, 2), pr (D ++ " " ++ b, 2), pr (D ++ " 0", 2), pr ("", 1), .lst [.obj g.length, .obj (g.length + 1), .obj (g.length + 2), .obj (g.length + 3), .obj (g.length + 4), .obj (g.length + 5), .obj (g.length + 7)], pr (T ++ " 1", 3), pr ("-1 1", 1), pr ("00 1", 1), pr (T ++ " x", 3), .lst [.obj (g.length + 8), .obj (g.length + 9), .obj (g.length + 10)], .lst [.obj g.length, .obj (g.length + 1), .obj (g.length + 2), .obj (g.length + 3), .obj (g.length + 4), .obj (g.length + 5), .obj (g.length + 7), .obj (g.length + 8), .obj (g.length + 9), .obj (g.length + 10)]]
  have K1 := K.trans (Kp.app 1 0 g [pr (R ++ " 1", 1), pr ("x 1", 1), pr (D, 2), pr (D ++ " " ++ b, 2), pr (D ++ " 0", 2), pr ("", 1), .lst [.obj g.length, .obj (g.length + 1), .obj (g.length + 2), .obj (g.length + 3), .obj (g.length + 4), .obj (g.length + 5), .obj (g.length + 7)], pr (T ++ " 1", 3), pr ("-1 1", 1), pr ("00 1", 1), pr (T ++ " x", 3), .lst [.obj (g.length + 8), .obj (g.length + 9), .obj (g.length + 10)], .lst [.obj g.length, .obj (g.length + 1), .obj (g.length + 2), .obj (g.length + 3), .obj (g.length + 4), .obj (g.length + 5), .obj (g.length + 7), .obj (g.length + 8), .obj (g.length + 9), .obj (g.length + 10)]])
  obtain ⟨u, g2, f2, u0, u1, d2, K2⟩ := draw d1 10 (by decide) (by decide)
  have key : ∃ m, ∃ q : Str × Nat, (turnW x.1 (wordsOf q.1) = .inl q.2 ∧ LOk q.1) ∧ g.length ≤ m ∧ atI [PV.obj g.length, .obj (g.length + 1), .obj (g.length + 2), .obj (g.length + 3), .obj (g.length + 4), .obj (g.length + 5), .obj (g.length + 7), .obj (g.length + 8), .obj (g.length + 9), .obj (g.length + 10)] u = some (.obj m) ∧ g2[m]? = some (pr q) := by
    have G := fun n o e => K2.get (g.length + n) o (by omega) (by omega) e
    rcases (show u = 0 ∨ u = 1 ∨ u = 2 ∨ u = 3 ∨ u = 4 ∨ u = 5 ∨ u = 6 ∨ u = 7 ∨ u = 8 ∨ u = 9 by omega) with rfl | rfl | rfl | rfl | rfl | rfl | rfl | rfl | rfl | rfl
    · exact ⟨_, (R ++ " 1", 1), FB _ (by simp [falls]), Nat.le_refl _, rfl, G 0 _ (by simp)⟩
    · exact ⟨_, ("x 1", 1), FB _ (by simp [falls]), by omega, rfl, G 1 _ (by simp)⟩
    · exact ⟨_, (D, 2), FB _ (by simp [falls]), by omega, rfl, G 2 _ (by simp)⟩
    · exact ⟨_, (D ++ " " ++ b, 2), FB _ (by simp [falls]), by omega, rfl, G 3 _ (by simp)⟩
    · exact ⟨_, (D ++ " 0", 2), FB _ (by simp [falls]), by omega, rfl, G 4 _ (by simp)⟩
    · exact ⟨_, ("", 1), FB _ (by simp [falls]), by omega, rfl, G 5 _ (by simp)⟩
    · exact ⟨_, (T ++ " 1", 3), M1, by omega, rfl, G 7 _ (by simp)⟩
    · exact ⟨_, ("-1 1", 1), FB _ (by simp [falls]), by omega, rfl, G 8 _ (by simp)⟩
    · exact ⟨_, ("00 1", 1), FB _ (by simp [falls]), by omega, rfl, G 9 _ (by simp)⟩
    · exact ⟨_, (T ++ " x", 3), M2, by omega, rfl, G 10 _ (by simp)⟩
  obtain ⟨m, q, ⟨b1, b2⟩, hm, em, eq⟩ := key
  have e16 := K2.get (g.length + 12) _ (by omega) (by omega) (show (g ++ _)[g.length + 12]? = _ by simp; rfl)
  have ek1 := K2.get k _ (by omega) (by omega) (get_old ek)
  refine w_seq (w_set (v := .obj m) (h1 := g2) (by simp [f2, e16, em]) ?_)
  have F := flt_turn o s (k := j) (by omega) n12 b1 b2 (j + 2)
  have c1 := cut_to ((linesT x).map PV.str) ((j : Int) + 1) (by omega)
  have c2 := cut_from ((linesT x).map PV.str) ((j : Int) + 2) (by omega)
  rw [show ((j : Int) + 1).toNat = j + 1 by omega] at c1
  rw [show ((j : Int) + 2).toNat = j + 2 by omega] at c2
  have eqq : ∀ t, (g2 ++ t)[m]? = some (pr q) := fun t => get_old eq
  have ekk : ∀ t, (g2 ++ t)[k]? = some (.lst ((linesT x).map .str)) := fun t => get_old ek1
  refine w_ret (v := .obj (g2.length + 5)) (h1 := g2 ++ [.lst (((linesT x).take (j + 1)).map PV.str), .lst [.str q.1], .lst (((linesT x).take (j + 1) ++ [q.1]).map PV.str), .lst (((linesT x).drop (j + 2)).map PV.str), .lst (((linesT x).take (j + 1) ++ [q.1] ++ (linesT x).drop (j + 2)).map PV.str), .lst [.obj (g2.length + 4), .int ((j + 2 : Nat)), .int (q.2 : Nat)]]) ?_
    ⟨_, j + 2, q.2, _, g2.length + 4, rfl, by simp, by simp, F, d2.app _, (K1.trans K2).trans (Kp.app _ _ _ _)⟩
  simp [Nat.add_assoc g2.length, eq, eqq, ekk, ek1, c1, c2, show min (j + 1) (linesT x).length + 1 ≤ 16777216 by omega, show min (j + 1) (linesT x).length + 1 + ((linesT x).length - (j + 2)) ≤ 16777216 by omega]
end WR

namespace WR
open PySem PySem.Spec PyProof.Rows L2
theorem fault_eq {x : Pl} (o : OkP x) (s : Sh x) (n12 : x.2.1.length ≤ 12) {k p : Nat} {h : IH} (d0 : DS 1 0 h) (k2 : 2 ≤ k) (p2 : 2 ≤ p) (ek0 : h[k]? = some (.lst ((linesT x).map .str))) (ep0 : h[p]? = some (.lst [.int x.1, tqs x.2.1, fq x.2.2])) :
    ∃ v h', f__law_fault [.obj 1, .obj p, .obj k] h = .ok v h' ∧ FaultIs x h v h' := by
  have ln := lines_n n12
  have hr := o.r1
  have hr2 := o.r2
  have G1 := lg1920 (i := x.1) (by omega)
  have R1 : Str.ofString (Int.repr x.1) = dI x.1 := rfl
  refine w_fn rfl ?_
  obtain ⟨kd, g1, f1, kd0, kd1, d1, K1⟩ := draw d0 4 (by decide) (by decide)
  have ek1 := K1.get k _ (by omega) (by omega) ek0
  have ep1 := K1.get p _ (by omega) (by omega) ep0
  refine w_seq (w_set (v := .int kd) (h1 := g1) (by simp [f1]) ?_)
  refine w_seq (w_set (v := .str (dI x.1)) (h1 := g1) (by simp [ep1, G1, R1]) ?_)
  have lgb : Nat.log2 1000000000001 < 1920 := by decide +kernel
  have rb : Str.ofString (Int.repr 1000000000001) = dI 1000000000001 := rfl
  refine w_seq (w_set (v := .obj g1.length) (h1 := g1 ++ [.lst (bads.map PV.str)]) (by simp [bads, rb, lgb]) ?_)
  have l1 := d1.lt
  obtain ⟨u, g, f2, u0, u1, d, K2⟩ := draw (d1.app [.lst (bads.map PV.str)]) 13 (by decide) (by decide)
  have eb := K2.get g1.length (.lst (bads.map PV.str)) (by omega) (by omega) (by simp)
  have ek := K2.get k _ (by omega) (by omega) (get_old ek1)
  have ep := K2.get p _ (by omega) (by omega) (get_old ep1)
  have K := (K1.trans (Kp.app 1 0 g1 [.lst (bads.map PV.str)])).trans K2
  obtain ⟨a, am, ea⟩ := ix_ex (bads.map PV.str) u0 (by simpa [bads] using u1)
  obtain ⟨b, hb, rfl⟩ := List.mem_map.mp am
  have bl : (bads.map PV.str).length = 13 := by decide +kernel
  refine w_seq (w_set (v := .str b) (h1 := g) ?_ ?_)
  · generalize bads.map PV.str = B at *
    simp [bl, f2, eb, ea]
  clear f1 f2 ea eb ek0 ep0 ek1 ep1
  by_cases c0 : kd = 0
  · exact w_seq (w_if (b := true) (h1 := g) (by simp [c0]) (fun _ => k0_eq o s n12 d K k2 ek hb _ _ _ _ _ _ _ _ _) (fun z => by cases z))
  refine w_seq (w_if (b := false) (h1 := g) (by simp [c0]) (fun z => by cases z) fun _ => w_nil ?_)
  by_cases c1 : kd = 1
  · exact w_seq (w_if (b := true) (h1 := g) (by simp [c1]) (fun _ => k1_eq o s n12 d K k2 ek _ _ _ _ _ _ _ _ _ _ _) (fun z => by cases z))
  refine w_seq (w_if (b := false) (h1 := g) (by simp [c1]) (fun z => by cases z) fun _ => w_nil ?_)
  have qt := EncOk.turns.eq (by decide) x.2.1 [] g
  rw [show tqs [] = PV.tup [] from rfl] at qt
  by_cases c2 : kd = 2 ∨ x.2.1 = []
  · refine w_seq (w_if (b := true) (h1 := g) ?_ (fun _ => ?_) (fun z => by cases z))
    · rcases c2 with c | c
      · simp [c]
      · by_cases c' : kd = 2
        · simp [c']
        · simp [c', ep, qt, c]
    · have lg := d.lt
      obtain ⟨T1, hT1⟩ : ∃ T1, T1 = ((linesT x).take 1).map PV.str := ⟨_, rfl⟩
      obtain ⟨RP, hRP⟩ : ∃ RP, RP = List.replicate 60 (PV.str (Str.ofString "0 1")) := ⟨_, rfl⟩
      have cc : cutA ((linesT x).map PV.str) none (some 1) = T1 := by
        rw [cut_to ((linesT x).map PV.str) 1 (by decide), hT1, List.map_take]; rfl
      have lt1 : T1.length ≤ 1 := by rw [hT1]; simp; omega
      have lrp : RP.length = 60 := by rw [hRP]; simp
      have rep : List.replicate 60 (PV.str (Str.ofString "0 1")) = RP := hRP.symm
      have ekk : ∀ t, (g ++ t)[k]? = some (.lst ((linesT x).map .str)) := fun t => get_old ek
      obtain ⟨u, g3, f3, u0, u1, d3, K3⟩ := draw (d.app [.lst T1, .lst [.str (Str.ofString "0 1")], .lst RP, .lst (T1 ++ RP), .lst [.str (Str.ofString "0 1"), .str (Str.ofString ""), .str (Str.ofString "x")]]) 3 (by decide) (by decide)
      have e3 := K3.get (g.length + 3) (.lst (T1 ++ RP)) (by omega) (by omega) (by simp)
      have e4 := K3.get (g.length + 4) (.lst [.str (Str.ofString "0 1"), .str (Str.ofString ""), .str (Str.ofString "x")]) (by omega) (by omega) (by simp)
      obtain ⟨L, eL, kl⟩ : ∃ L, atI [PV.str (Str.ofString "0 1"), .str (Str.ofString ""), .str (Str.ofString "x")] u = some (.str L) ∧ LOk L := by
        rcases (show u = 0 ∨ u = 1 ∨ u = 2 by omega) with rfl | rfl | rfl
        · exact ⟨_, rfl, lok_of (by decide +kernel)⟩
        · exact ⟨_, rfl, lok_of (by decide +kernel)⟩
        · exact ⟨_, rfl, lok_of (by decide +kernel)⟩
      have F := flt_many o s kl
      have e3' : ∀ t, (g3 ++ t)[g.length + 3]? = some (.lst (T1 ++ RP)) := fun t => get_old e3
      have em : ((linesT x).take 1 ++ List.replicate 60 (Str.ofString "0 1") ++ [L]).map PV.str = T1 ++ (RP ++ [.str L]) := by
        rw [hT1, hRP, List.map_append, List.map_append, List.map_replicate, List.append_assoc]; rfl
      refine w_ret (v := .obj (g3.length + 2)) (h1 := g3 ++ [.lst [.str L], .lst (T1 ++ (RP ++ [.str L])), .lst [.obj (g3.length + 1), .int (62 : Nat), .int (1 : Nat)]]) ?_
        ⟨_, 62, 1, _, g3.length + 1, rfl, by simp, by rw [em]; simp, F, d3.app _, ((K.trans (Kp.app _ _ _ _)).trans K3).trans (Kp.app _ _ _ _)⟩
      simp [-List.reduceReplicate, Nat.add_assoc g.length, ek, ekk, cc, rep, lrp, f3, e3, e3', e4, eL, show T1.length + 60 ≤ 16777216 by omega, show T1.length ≤ 16777156 by omega, show T1.length + 60 + 1 ≤ 16777216 by omega, show T1.length + (60 + 1) ≤ 16777216 by omega, show T1.length ≤ 16777155 by omega]
  · refine w_seq (w_if (b := false) (h1 := g) (by simp [show ¬ kd = 2 from fun z => c2 (.inl z), ep, qt, show ¬ x.2.1 = [] from fun z => c2 (.inr z)]) (fun z => by cases z) fun _ => w_nil ?_)
    exact k3_eq o s n12 (fun z => c2 (.inr z)) d K k2 p2 ek ep hb _ _ _ _ _ _ _ _
end WR

namespace WR
open PySem PySem.Spec PyProof.Rows L2
theorem lc_copy {ls : List Str} {m : Nat} {h : IH} (em : h[m]? = some (.lst (ls.map PV.str))) (n : ls.length ≤ 100) (a0 a1 a2 a3 a5 a6 a7 a8 a9 : Option PV) : eLc (eIter (eVar 4)) (gVar 9) tYesX (eVar 9) [9] [a0, a1, a2, a3, some (.obj m), a5, a6, a7, a8, a9] h = .ok (.obj h.length) (h ++ [.lst (ls.map PV.str)]) := by
  have em' : ∀ t, (h ++ t)[m]? = some (.lst (ls.map PV.str)) := fun t => get_old em
  obtain ⟨acc, h', e1, e2, e3, e4⟩ := w_lc (I := eIter (eVar 4)) (g := gVar 9) (c := tYesX) (A := eVar 9) (vs := [9]) (r := [a0, a1, a2, a3, some (.obj m), a5, a6, a7, a8, a9]) (h := h) (h1 := h) (it := itObj m) ls.length
    (fun i acc g => g = h ++ [.lst acc] ∧ acc = (ls.take i).map PV.str) (by simp [em]) (by omega) ⟨rfl, by simp⟩
    (fun i acc g hi ⟨b1, b2⟩ hlen gD => by
      subst b1
      refine ⟨.str ls[i], [a0, a1, a2, a3, some (.obj m), a5, a6, a7, a8, some (.str ls[i])], true, h ++ [.lst acc], by simp [em', hi], by simp, rfl, (fun z => by cases z), fun _ => ⟨.str ls[i], h ++ [.lst acc], by simp, gD, by simp [List.set_append], ?_⟩⟩
      rw [b2, List.take_succ_eq_append_getElem hi, List.map_append]; rfl)
    (fun acc g ⟨b1, b2⟩ gD => by subst b1; simp [em'])
  subst e3
  rw [List.take_length] at e4
  subst e4
  exact e1
theorem read_fail {ls : List Str} {l w : Nat} (F : Flt ls l w) (h : IH) : ∃ u, f_read_plan [.str (Txt.join nl_ ls)] h = .ex (ivx l w) (h ++ u) := by
  have sp := split_lines F.ne (fun l hl => (F.ok l hl).a)
  have R := read_plan_eq (join_len ls (fun l hl => (F.ok l hl).n) F.n) (join_ok fun l hl => (F.ok l hl).a) (by rw [sp]; intro l hl; exact (F.ok l hl).w) (by rw [sp]; have := F.n; omega) h
  rw [sp, F.rd] at R
  exact R
theorem law_true (ns : List Int) (hl : ns.length ≤ 63) : ∃ h, f_law [.fls (ns.map .int)] [] = .ok (.bl true) h := by
  obtain ⟨h1, e1, d1, k1⟩ := mix_eq ns 9 hl []
  simp only [List.length_nil, Nat.zero_add] at e1 d1 k1
  suffices H : ∃ v g, f_law [.fls (ns.map .int)] [] = .ok v g ∧ v = .bl true by
    obtain ⟨v, g, e, rfl⟩ := H
    exact ⟨g, e⟩
  refine w_fn rfl ?_
  refine w_seq (w_set (v := .obj 1) (h1 := h1) (by simp [e1]) ?_)
  have l1 := d1.lt
  obtain ⟨x, p, g3, f3, gp, pl, ok, tl, c4, c8, dr, d3, K3⟩ := plan_draw d1 12 (by decide) (by decide)
  have tl : x.2.1.length ≤ 12 := tl
  refine w_seq (w_set (v := .obj p) (h1 := g3) (by simp [f3]) ?_)
  have sh : Sh x := ⟨fun t ht => dr_short (Rat.le_of_lt (ok.t t ht).pos) (dr t ht), dr_short ok.c0 ⟨Rat.le_trans c8 (by decide), by omega⟩⟩
  -- the text
  have l3 := d3.lt
  have ie := init_eq ok (n := g3.length) (h := g3 ++ [.ins "Plan" []]) (by simp)
  obtain ⟨t6, w6⟩ := write_plan_eq ok (n := g3.length) (h := g3 ++ [.ins "Plan" [("held", pq x)]]) (by simp)
  refine w_seq (w_set (v := .str (textT x)) (h1 := g3 ++ [.ins "Plan" [("held", pq x)]] ++ t6) (by simp [gp, ie, w6]) ?_)
  have d4 := (d3.app [.ins "Plan" [("held", pq x)]]).app t6
  have gp4 := get_old (t := t6) (get_old (t := [.ins "Plan" [("held", pq x)]]) gp)
  generalize g3 ++ [.ins "Plan" [("held", pq x)]] ++ t6 = g4 at d4 gp4 ⊢
  -- the fault
  have sp := split_lines (ls := linesT x) (by simp [linesT]) (lines_asc ok)
  have jl := join_len (linesT x) (lines_len ok) (by simp [linesT]; omega)
  have jt : Txt.join nl_ (linesT x) = textT x := rfl
  rw [jt] at sp jl
  have l4 := d4.lt
  obtain ⟨v, g5, f5, ls, l, w, n, m, rfl, en, em, F, d5, K5⟩ := fault_eq ok sh tl (d4.app [.lst ((linesT x).map .str)]) (k := g4.length) (p := p) (by omega) (by omega) (by simp) (get_old gp4)
  have s2 : ¬ (Str.ofString "\n").length = 0 := by decide +kernel
  have asg : sAsgU [4, 5, 6] (eCall f__law_fault (aCons (eVar 1) (aCons (eVar 2) (aCons (eSplit (eVar 3) (eC (.str "\n"))) aNil)))) [some (.fls (ns.map .int)), some (.obj 1), some (.obj p), some (.str (textT x)), none, none, none, none, none, none] g4 = .nx [some (.fls (ns.map .int)), some (.obj 1), some (.obj p), some (.str (textT x)), some (.obj m), some (.int (l : Nat)), some (.int (w : Nat)), none, none, none] g5 := by
    simp [s2, sp, show (textT x).length + 2 ≤ 16777216 by omega, show (textT x).length ≤ 16777214 by omega, f5, en]
  refine w_seq (is_of2 asg ?_)
  show RS.Is _ _ _
  refine w_seq (w_set (v := .non) (h1 := g5) (by simp) ?_)
  -- read
  have gp5 := K5.get p _ (by omega) (by omega) (get_old gp4)
  have cp := lc_copy em F.n (some (.fls (ns.map .int))) (some (.obj 1)) (some (.obj p)) (some (.str (textT x))) (some (.int (l : Nat))) (some (.int (w : Nat))) (some .non) none none
  have js := join_sum ls (fun l hl => (F.ok l hl).n) F.n
  have sl := strsOf_map ls
  obtain ⟨u6, r6⟩ := read_fail F (g5 ++ [.lst (ls.map PV.str)])
  have jn : Txt.join (Str.ofString "\n") ls = Txt.join nl_ ls := rfl
  have body : sExpr (eCall f_read_plan (aCons (eJoin (eC (.str "\n")) (eLc (eIter (eVar 4)) (gVar 9) tYesX (eVar 9) [9])) aNil)) [some (.fls (ns.map .int)), some (.obj 1), some (.obj p), some (.str (textT x)), some (.obj m), some (.int (l : Nat)), some (.int (w : Nat)), some .non, none, none] g5 = .ex (ivx l w) [some (.fls (ns.map .int)), some (.obj 1), some (.obj p), some (.str (textT x)), some (.obj m), some (.int (l : Nat)), some (.int (w : Nat)), some .non, none, none] (g5 ++ [.lst (ls.map PV.str)] ++ u6) := by
    revert cp
    generalize eLc _ _ _ _ _ = E
    intro cp
    simp [cp, sl, js, jn, r6]
  have tr : sTryAs exCs (sExpr (eCall f_read_plan (aCons (eJoin (eC (.str "\n")) (eLc (eIter (eVar 4)) (gVar 9) tYesX (eVar 9) [9])) aNil))) "InvalidText" 8 (fun ev => sSet 7 (eIf (tTru (eIsE exCs ev "RoadError")) (eTup (aCons (eXf exCs exFl ev "line") (aCons (eXf exCs exFl ev "word") aNil))) (eC .non))) [some (.fls (ns.map .int)), some (.obj 1), some (.obj p), some (.str (textT x)), some (.obj m), some (.int (l : Nat)), some (.int (w : Nat)), some .non, none, none] g5
      = .nx [some (.fls (ns.map .int)), some (.obj 1), some (.obj p), some (.str (textT x)), some (.obj m), some (.int (l : Nat)), some (.int (w : Nat)), some (.tup [.int (l : Nat), .int (w : Nat)]), none, none] (g5 ++ [.lst (ls.map PV.str)] ++ u6) := by
    unfold sTryAs
    rw [body]
    rfl
  refine w_seq (is_of2 tr ?_)
  show RS.Is _ _ _
  have gp6 := get_old (t := u6) (get_old (t := [.lst (ls.map PV.str)]) gp5)
  generalize g5 ++ [.lst (ls.map PV.str)] ++ u6 = g6 at gp6 ⊢
  obtain ⟨m7, u7, r7, k7⟩ := read_lines ok sh (lines_asc ok) (lines_len ok) (lines_words ok) g6
  rw [jt] at r7
  have gp7 := get_old (t := u7) gp6
  generalize hg7 : g6 ++ u7 = g7 at r7 k7 gp7
  have ie7 := init_eq ok (n := g7.length) (h := g7 ++ [.ins "Plan" []]) (by simp)
  have k8 := get_old (t := [.ins "Plan" [("held", pq x)]]) k7
  have k9 : (g7 ++ [MO.ins "Plan" [("held", pq x)]])[g7.length]? = some (.ins "Plan" [("held", pq x)]) := by simp
  have pe := peq_eq k8 k9
  have qe := (EncOk.int.pair EncOk.int).eq (by decide) ((l : Int), (w : Int)) ((l : Int), (w : Int)) g6
  simp only at qe
  refine w_ret (v := .bl true) (h1 := g7 ++ [.ins "Plan" [("held", pq x)]]) (by simp [qe, r7, gp7, ie7, k8, k9, pe]) rfl
end WR

/-! each def does what its code says -/
namespace WR
open PySem PySem.Spec PyProof.Rows L2
def topS (i : Nat) : Stmt := PySem.Challenge.pw_whichroad_k09_whole_texts_refused.main.body.getD i (.Pass ⟨0, 0, 0, 0⟩)
structure Txt (K : PySem.W.Frag) (mg : Str → Option Value) : Prop where
  d_InvalidText___init__ : ∃ fd, Fun K "__init__" "InvalidText.__init__" (inClass (topS 6) 0) (He.ma K (He.ga K "InvalidText") "__init__") fd
  d_is_integer : ∃ fd, Fun K "is_integer" "is_integer" (topS 8) (He.ga K "is_integer") fd
  g_is_integer : mg "is_integer" = some (.ref (He.ga K "is_integer"))
  d_is_from : ∃ fd, Fun K "is_from" "is_from" (topS 9) (He.ga K "is_from") fd
  g_is_from : mg "is_from" = some (.ref (He.ga K "is_from"))
  d_common : ∃ fd, Fun K "common" "common" (topS 10) (He.ga K "common") fd
  g_common : mg "common" = some (.ref (He.ga K "common"))
  d_is_fraction : ∃ fd, Fun K "is_fraction" "is_fraction" (topS 11) (He.ga K "is_fraction") fd
  g_is_fraction : mg "is_fraction" = some (.ref (He.ga K "is_fraction"))
  d_is_within : ∃ fd, Fun K "is_within" "is_within" (topS 12) (He.ga K "is_within") fd
  g_is_within : mg "is_within" = some (.ref (He.ga K "is_within"))
  d_is_reach : ∃ fd, Fun K "is_reach" "is_reach" (topS 17) (He.ga K "is_reach") fd
  g_is_reach : mg "is_reach" = some (.ref (He.ga K "is_reach"))
  d_is_turn : ∃ fd, Fun K "is_turn" "is_turn" (topS 18) (He.ga K "is_turn") fd
  g_is_turn : mg "is_turn" = some (.ref (He.ga K "is_turn"))
  d_check_roads : ∃ fd, Fun K "check_roads" "check_roads" (topS 19) (He.ga K "check_roads") fd
  g_check_roads : mg "check_roads" = some (.ref (He.ga K "check_roads"))
  d_check_cost : ∃ fd, Fun K "check_cost" "check_cost" (topS 20) (He.ga K "check_cost") fd
  g_check_cost : mg "check_cost" = some (.ref (He.ga K "check_cost"))
  d_Plan___init__ : ∃ fd, Fun K "__init__" "Plan.__init__" (inClass (topS 21) 0) (He.ma K (He.ga K "Plan") "__init__") fd
  d_Plan_roads : ∃ fd, Fun K "roads" "Plan.roads" (inClass (topS 21) 1) (He5.wf K (He.ga K "Plan") "property" "roads") fd
  d_Plan_turns : ∃ fd, Fun K "turns" "Plan.turns" (inClass (topS 21) 2) (He5.wf K (He.ga K "Plan") "property" "turns") fd
  d_Plan_cost : ∃ fd, Fun K "cost" "Plan.cost" (inClass (topS 21) 3) (He5.wf K (He.ga K "Plan") "property" "cost") fd
  d_Plan___len__ : ∃ fd, Fun K "__len__" "Plan.__len__" (inClass (topS 21) 4) (He.ma K (He.ga K "Plan") "__len__") fd
  d_Plan___eq__ : ∃ fd, Fun K "__eq__" "Plan.__eq__" (inClass (topS 21) 5) (He.ma K (He.ga K "Plan") "__eq__") fd
  d_check_plan : ∃ fd, Fun K "check_plan" "check_plan" (topS 22) (He.ga K "check_plan") fd
  g_check_plan : mg "check_plan" = some (.ref (He.ga K "check_plan"))
  d_fraction_text : ∃ fd, Fun K "fraction_text" "fraction_text" (topS 24) (He.ga K "fraction_text") fd
  g_fraction_text : mg "fraction_text" = some (.ref (He.ga K "fraction_text"))
  d_write_plan : ∃ fd, Fun K "write_plan" "write_plan" (topS 25) (He.ga K "write_plan") fd
  g_write_plan : mg "write_plan" = some (.ref (He.ga K "write_plan"))
  d_integer_of : ∃ fd, Fun K "integer_of" "integer_of" (topS 26) (He.ga K "integer_of") fd
  g_integer_of : mg "integer_of" = some (.ref (He.ga K "integer_of"))
  d_fraction_of : ∃ fd, Fun K "fraction_of" "fraction_of" (topS 27) (He.ga K "fraction_of") fd
  g_fraction_of : mg "fraction_of" = some (.ref (He.ga K "fraction_of"))
  d_word_at : ∃ fd, Fun K "word_at" "word_at" (topS 28) (He.ga K "word_at") fd
  g_word_at : mg "word_at" = some (.ref (He.ga K "word_at"))
  d_check_name : ∃ fd, Fun K "check_name" "check_name" (topS 29) (He.ga K "check_name") fd
  g_check_name : mg "check_name" = some (.ref (He.ga K "check_name"))
  d_number_at : ∃ fd, Fun K "number_at" "number_at" (topS 30) (He.ga K "number_at") fd
  g_number_at : mg "number_at" = some (.ref (He.ga K "number_at"))
  d_check_length : ∃ fd, Fun K "check_length" "check_length" (topS 31) (He.ga K "check_length") fd
  g_check_length : mg "check_length" = some (.ref (He.ga K "check_length"))
  d_read_turn : ∃ fd, Fun K "read_turn" "read_turn" (topS 32) (He.ga K "read_turn") fd
  g_read_turn : mg "read_turn" = some (.ref (He.ga K "read_turn"))
  d_read_plan : ∃ fd, Fun K "read_plan" "read_plan" (topS 33) (He.ga K "read_plan") fd
  g_read_plan : mg "read_plan" = some (.ref (He.ga K "read_plan"))
  d__law_mix : ∃ fd, Fun K "_law_mix" "_law_mix" (topS 35) (He.ga K "_law_mix") fd
  g__law_mix : mg "_law_mix" = some (.ref (He.ga K "_law_mix"))
  d__law_next : ∃ fd, Fun K "_law_next" "_law_next" (topS 36) (He.ga K "_law_next") fd
  g__law_next : mg "_law_next" = some (.ref (He.ga K "_law_next"))
  d__law_part : ∃ fd, Fun K "_law_part" "_law_part" (topS 37) (He.ga K "_law_part") fd
  g__law_part : mg "_law_part" = some (.ref (He.ga K "_law_part"))
  d__law_f : ∃ fd, Fun K "_law_f" "_law_f" (topS 38) (He.ga K "_law_f") fd
  g__law_f : mg "_law_f" = some (.ref (He.ga K "_law_f"))
  d__law_add : ∃ fd, Fun K "_law_add" "_law_add" (topS 39) (He.ga K "_law_add") fd
  g__law_add : mg "_law_add" = some (.ref (He.ga K "_law_add"))
  d__law_mul : ∃ fd, Fun K "_law_mul" "_law_mul" (topS 40) (He.ga K "_law_mul") fd
  g__law_mul : mg "_law_mul" = some (.ref (He.ga K "_law_mul"))
  d__law_div : ∃ fd, Fun K "_law_div" "_law_div" (topS 41) (He.ga K "_law_div") fd
  g__law_div : mg "_law_div" = some (.ref (He.ga K "_law_div"))
  d__law_under : ∃ fd, Fun K "_law_under" "_law_under" (topS 42) (He.ga K "_law_under") fd
  g__law_under : mg "_law_under" = some (.ref (He.ga K "_law_under"))
  d__law_reach : ∃ fd, Fun K "_law_reach" "_law_reach" (topS 43) (He.ga K "_law_reach") fd
  g__law_reach : mg "_law_reach" = some (.ref (He.ga K "_law_reach"))
  d__law_turns : ∃ fd, Fun K "_law_turns" "_law_turns" (topS 44) (He.ga K "_law_turns") fd
  g__law_turns : mg "_law_turns" = some (.ref (He.ga K "_law_turns"))
  d__law_plan : ∃ fd, Fun K "_law_plan" "_law_plan" (topS 45) (He.ga K "_law_plan") fd
  g__law_plan : mg "_law_plan" = some (.ref (He.ga K "_law_plan"))
  d__law_walked : ∃ fd, Fun K "_law_walked" "_law_walked" (topS 46) (He.ga K "_law_walked") fd
  g__law_walked : mg "_law_walked" = some (.ref (He.ga K "_law_walked"))
  d__law_fault : ∃ fd, Fun K "_law_fault" "_law_fault" (topS 47) (He.ga K "_law_fault") fd
  g__law_fault : mg "_law_fault" = some (.ref (He.ga K "_law_fault"))
  d_law : ∃ fd, Fun K "law" "law" (topS 48) (He.ga K "law") fd
  g_law : mg "law" = some (.ref (He.ga K "law"))
  c_MOST_REACH : ∃ t, mg "MOST_REACH" = some (.int 1000000000000 t)
  c_MOST_ROADS : ∃ t, mg "MOST_ROADS" = some (.int 5 t)
  c_MOST_TURNS : ∃ t, mg "MOST_TURNS" = some (.int 60 t)
  z_int : mg "int" = none
  z_isinstance : mg "isinstance" = none
  z_bool : mg "bool" = none
  z_abs : mg "abs" = none
  z_tuple : mg "tuple" = none
  z_len : mg "len" = none
  z_enumerate : mg "enumerate" = none
  z_str : mg "str" = none
  z_range : mg "range" = none
  z_list : mg "list" = none
  z_max : mg "max" = none
  z_min : mg "min" = none
  gc_Plan : bGlo "Plan" K = true
  o_Plan : OwnC K mg "Plan" (He.ga K "Plan")
  na_Plan_held : NoAttr K (He.ga K "Plan") "held"
  mk_Plan : Mk K (He.ga K "Plan") (He.ma K (He.ga K "Plan") "__init__")
  p_Plan_roads : PropOf K (He.ga K "Plan") "roads" (He.ma K (He.ga K "Plan") "roads") (He5.wf K (He.ga K "Plan") "property" "roads")
  p_Plan_turns : PropOf K (He.ga K "Plan") "turns" (He.ma K (He.ga K "Plan") "turns") (He5.wf K (He.ga K "Plan") "property" "turns")
  p_Plan_cost : PropOf K (He.ga K "Plan") "cost" (He.ma K (He.ga K "Plan") "cost") (He5.wf K (He.ga K "Plan") "property" "cost")
  ln_Plan : PySem.W.findIn K (.ref (He.ga K "Plan")) "__len__" = some (some (.ref (He.ma K (He.ga K "Plan") "__len__"))) ∧ PySem.W.isFn K (.ref (He.ma K (He.ga K "Plan") "__len__")) = true
  eq_Plan : PySem.W.findIn K (.ref (He.ga K "Plan")) "__eq__" = some (some (.ref (He.ma K (He.ga K "Plan") "__eq__"))) ∧ PySem.W.isFn K (.ref (He.ma K (He.ga K "Plan") "__eq__")) = true
  nf_Plan : PySem.W.notFirst K (He.ga K "Plan") (.type "tuple") = true
  gi_InvalidText : bGlo "InvalidText" K = true
  xi_InvalidText : ExI K mg "InvalidText" (He.ga K "InvalidText") (He.ma K (He.ga K "InvalidText") "__init__")
  gx_RoadError : bGlo "RoadError" K = true
  x_RoadError : ExC K mg "RoadError" (He.ga K "RoadError")
  exs : ExCs K mg exCs
  exi : ExIs K mg exCs
  xfl : ExFl K mg exCs exFl
  os : OwnCs K mg ownCs
section
variable {P : Program} {w : World} {K : PySem.W.Frag} {mg : Str → Option Value} {base : Heap}
theorem sc_InvalidText___init__ : FnScope ["self", "line", "word"] ["self", "line", "word"] (defScope (inClass (topS 6) 0)) := ⟨rfl, rfl, rfl, by decide +kernel, rfl, by decide +kernel, by decide +kernel⟩
theorem ok_InvalidText___init__ (T : Txt K mg) : GX P w K mg base (He.ma K (He.ga K "InvalidText") "__init__") 1 3 (sp2 (He.ga K "InvalidText") "line" "word") := by
  obtain ⟨fd, F⟩ := T.d_InvalidText___init__
  exact gx_2 F sc_InvalidText___init__ (fun _ _ _ _ _ _ us hl => match us, hl with | [_, _, _], _ => rfl) T.xi_InvalidText.ox (T.xfl _ _ _ T.xi_InvalidText.gC (by decide +kernel) (by decide +kernel)) (T.xfl _ _ _ T.xi_InvalidText.gC (by decide +kernel) (by decide +kernel)) fun cdv A outer s H E => pss_cons (ps_ost (pe_var (i := 0) rfl (Or.inl rfl)) (pe_var (i := 1) rfl (Or.inl rfl))) (pss_one (ps_ost (pe_var (i := 0) rfl (Or.inl rfl)) (pe_var (i := 2) rfl (Or.inl rfl))))

theorem sc_is_integer : FnScope ["value"] ["value"] (defScope (topS 8)) := ⟨rfl, rfl, rfl, by decide +kernel, rfl, by decide +kernel, by decide +kernel⟩
theorem ok_is_integer (T : Txt K mg) : GF P w K mg base "is_integer" 1 1 f_is_integer := by
  obtain ⟨fd, F⟩ := T.d_is_integer
  refine gf_mk F T.g_is_integer sc_is_integer 0 rfl (fun _ _ _ _ _ _ us hl => match us, hl with | [_], _ => rfl) fun cdv A outer s H E cx => ?_
  exact is_one (is_ret (ie_and (ie_isi T.os T.z_isinstance (ia_cons (ie_var 0) (ia_cons (ie_tyB T.z_int) ia_nil))) (ie_one (ie_not (ie_isi T.os T.z_isinstance (ia_cons (ie_var 0) (ia_cons (ie_tyB T.z_bool) ia_nil)))))))

theorem sc_is_from : FnScope ["value", "low", "high"] ["value", "low", "high"] (defScope (topS 9)) := ⟨rfl, rfl, rfl, by decide +kernel, rfl, by decide +kernel, by decide +kernel⟩
theorem ok_is_from (T : Txt K mg) : GF P w K mg base "is_from" 2 3 f_is_from := by
  obtain ⟨fd, F⟩ := T.d_is_from
  have G_is_integer := ok_is_integer (P := P) (w := w) (base := base) T
  refine gf_mk F T.g_is_from sc_is_from 0 rfl (fun _ _ _ _ _ _ us hl => match us, hl with | [_, _, _], _ => rfl) fun cdv A outer s H E cx => ?_
  exact is_one (is_ret (ie_and (ie_callG cx G_is_integer (ia_cons (ie_var 0) ia_nil)) (ie_one (ie_lele (ie_var 1) (ie_var 0) (ie_var 2)))))

theorem sc_common : FnScope ["one", "other"] ["one", "other"] (defScope (topS 10)) := ⟨rfl, rfl, rfl, by decide +kernel, rfl, by decide +kernel, by decide +kernel⟩
theorem ok_common (T : Txt K mg) : GF P w K mg base "common" 1 2 f_common := by
  obtain ⟨fd, F⟩ := T.d_common
  refine gf_mk F T.g_common sc_common 0 rfl (fun _ _ _ _ _ _ us hl => match us, hl with | [_, _], _ => rfl) fun cdv A outer s H E cx => ?_
  exact is_cons (is_par (i := 0) (j := 1) cx (ia_cons (ie_abs T.z_abs (ia_cons (ie_var 0) ia_nil)) (ia_cons (ie_abs T.z_abs (ia_cons (ie_var 1) ia_nil)) ia_nil)))
    (is_cons (is_while cx (it_tru (ie_var 1)) (is_one (is_par (i := 0) (j := 1) cx (ia_cons (ie_var 1) (ia_cons (ie_mod (ie_var 0) (ie_var 1)) ia_nil)))))
    (is_one (is_ret (ie_var 0))))

theorem sc_is_fraction : FnScope ["value"] ["value"] (defScope (topS 11)) := ⟨rfl, rfl, rfl, by decide +kernel, rfl, by decide +kernel, by decide +kernel⟩
theorem ok_is_fraction (T : Txt K mg) : GF P w K mg base "is_fraction" 2 1 f_is_fraction := by
  obtain ⟨fd, F⟩ := T.d_is_fraction
  have G_common := ok_common (P := P) (w := w) (base := base) T
  have G_is_integer := ok_is_integer (P := P) (w := w) (base := base) T
  refine gf_mk F T.g_is_fraction sc_is_fraction 0 rfl (fun _ _ _ _ _ _ us hl => match us, hl with | [_], _ => rfl) fun cdv A outer s H E cx => ?_
  exact is_cons (is_if (PW.pt (iw_or (it_not (it_tru (ie_isi T.os T.z_isinstance (ia_cons (ie_var 0) (ia_cons (ie_tyB T.z_tuple) ia_nil))))) (iw_or1 (it_ne cx (ie_len T.z_len (ia_cons (ie_var 0) ia_nil)) ie_int)))) (is_one (is_ret ie_bl)) is_nil)
    (is_cons (is_if (PW.pt (iw_or (it_not (it_tru (ie_callG cx G_is_integer (ia_cons (ie_idx (ie_var 0) ie_int) ia_nil)))) (iw_or1 (it_not (it_tru (ie_callG cx G_is_integer (ia_cons (ie_idx (ie_var 0) ie_int) ia_nil))))))) (is_one (is_ret ie_bl)) is_nil)
    (is_one (is_ret (ie_and (ie_ge (ie_idx (ie_var 0) ie_int) ie_int) (ie_one (ie_eq cx (ie_callG cx G_common (ia_cons (ie_idx (ie_var 0) ie_int) (ia_cons (ie_idx (ie_var 0) ie_int) ia_nil))) ie_int))))))

theorem sc_is_within : FnScope ["value", "low", "high"] ["value", "low", "high"] (defScope (topS 12)) := ⟨rfl, rfl, rfl, by decide +kernel, rfl, by decide +kernel, by decide +kernel⟩
theorem ok_is_within (T : Txt K mg) : GF P w K mg base "is_within" 3 3 f_is_within := by
  obtain ⟨fd, F⟩ := T.d_is_within
  have G_is_fraction := ok_is_fraction (P := P) (w := w) (base := base) T
  refine gf_mk F T.g_is_within sc_is_within 0 rfl (fun _ _ _ _ _ _ us hl => match us, hl with | [_, _, _], _ => rfl) fun cdv A outer s H E cx => ?_
  exact is_cons (is_if (it_not (it_tru (ie_callG cx G_is_fraction (ia_cons (ie_var 0) ia_nil)))) (is_one (is_ret ie_bl)) is_nil)
    (is_one (is_ret (ie_lele (ie_mul (ie_var 1) (ie_idx (ie_var 0) ie_int)) (ie_idx (ie_var 0) ie_int) (ie_mul (ie_var 2) (ie_idx (ie_var 0) ie_int)))))

theorem sc_is_reach : FnScope ["value"] ["value"] (defScope (topS 17)) := ⟨rfl, rfl, rfl, by decide +kernel, rfl, by decide +kernel, by decide +kernel⟩
theorem ok_is_reach (T : Txt K mg) : GF P w K mg base "is_reach" 4 1 f_is_reach := by
  obtain ⟨fd, F⟩ := T.d_is_reach
  have G_is_within := ok_is_within (P := P) (w := w) (base := base) T
  refine gf_mk F T.g_is_reach sc_is_reach 0 rfl (fun _ _ _ _ _ _ us hl => match us, hl with | [_], _ => rfl) fun cdv A outer s H E cx => ?_
  exact is_one (is_ret (ie_and (ie_callG cx G_is_within (ia_cons (ie_var 0) (ia_cons ie_int (ia_cons (ie_gint rfl T.c_MOST_REACH) ia_nil)))) (ie_one (ie_gt (ie_idx (ie_var 0) ie_int) ie_int))))

theorem sc_is_turn : FnScope ["value", "roads"] ["value", "roads"] (defScope (topS 18)) := ⟨rfl, rfl, rfl, by decide +kernel, rfl, by decide +kernel, by decide +kernel⟩
theorem ok_is_turn (T : Txt K mg) : GF P w K mg base "is_turn" 5 2 f_is_turn := by
  obtain ⟨fd, F⟩ := T.d_is_turn
  have G_is_from := ok_is_from (P := P) (w := w) (base := base) T
  have G_is_reach := ok_is_reach (P := P) (w := w) (base := base) T
  refine gf_mk F T.g_is_turn sc_is_turn 0 rfl (fun _ _ _ _ _ _ us hl => match us, hl with | [_, _], _ => rfl) fun cdv A outer s H E cx => ?_
  exact is_cons (is_if (PW.pt (iw_or (it_not (it_tru (ie_isi T.os T.z_isinstance (ia_cons (ie_var 0) (ia_cons (ie_tyB T.z_tuple) ia_nil))))) (iw_or1 (it_ne cx (ie_len T.z_len (ia_cons (ie_var 0) ia_nil)) ie_int)))) (is_one (is_ret ie_bl)) is_nil)
    (is_one (is_ret (ie_and (ie_callG cx G_is_from (ia_cons (ie_idx (ie_var 0) ie_int) (ia_cons ie_int (ia_cons (ie_sub (ie_var 1) ie_int) ia_nil)))) (ie_one (ie_callG cx G_is_reach (ia_cons (ie_idx (ie_var 0) ie_int) ia_nil))))))

theorem sc_check_roads : FnScope ["value"] ["value"] (defScope (topS 19)) := ⟨rfl, rfl, rfl, by decide +kernel, rfl, by decide +kernel, by decide +kernel⟩
theorem ok_check_roads (T : Txt K mg) : GF P w K mg base "check_roads" 3 1 f_check_roads := by
  obtain ⟨fd, F⟩ := T.d_check_roads
  have G_is_from := ok_is_from (P := P) (w := w) (base := base) T
  refine gf_mk F T.g_check_roads sc_check_roads 0 rfl (fun _ _ _ _ _ _ us hl => match us, hl with | [_], _ => rfl) fun cdv A outer s H E cx => ?_
  exact is_one (is_if (it_not (it_tru (ie_callG cx G_is_from (ia_cons (ie_var 0) (ia_cons ie_int (ia_cons (ie_gint rfl T.c_MOST_ROADS) ia_nil)))))) (is_one is_bad) is_nil)

theorem sc_check_cost : FnScope ["value"] ["value"] (defScope (topS 20)) := ⟨rfl, rfl, rfl, by decide +kernel, rfl, by decide +kernel, by decide +kernel⟩
theorem ok_check_cost (T : Txt K mg) : GF P w K mg base "check_cost" 4 1 f_check_cost := by
  obtain ⟨fd, F⟩ := T.d_check_cost
  have G_is_within := ok_is_within (P := P) (w := w) (base := base) T
  refine gf_mk F T.g_check_cost sc_check_cost 0 rfl (fun _ _ _ _ _ _ us hl => match us, hl with | [_], _ => rfl) fun cdv A outer s H E cx => ?_
  exact is_one (is_if (it_not (it_tru (ie_callG cx G_is_within (ia_cons (ie_var 0) (ia_cons ie_int (ia_cons (ie_gint rfl T.c_MOST_REACH) ia_nil)))))) (is_one is_bad) is_nil)

theorem sc_Plan___init__ : FnScope ["self", "roads", "turns", "cost", "index", "turn"] ["self", "roads", "turns", "cost"] (defScope (inClass (topS 21) 0)) := ⟨rfl, rfl, rfl, by decide +kernel, rfl, by decide +kernel, by decide +kernel⟩
theorem ok_Plan___init__ (T : Txt K mg) : GA P w K mg base (He.ma K (He.ga K "Plan") "__init__") 6 4 f_Plan___init__ := by
  obtain ⟨fd, F⟩ := T.d_Plan___init__
  have G_check_cost := ok_check_cost (P := P) (w := w) (base := base) T
  have G_check_roads := ok_check_roads (P := P) (w := w) (base := base) T
  have G_is_turn := ok_is_turn (P := P) (w := w) (base := base) T
  refine ga_mk F sc_Plan___init__ 2 rfl (fun _ _ _ _ _ _ us hl => match us, hl with | [_, _, _, _], _ => rfl) fun cdv A outer s H E cx => ?_
  exact is_cons (is_expr (ie_callG cx G_check_roads (ia_cons (ie_var 1) ia_nil)))
    (is_cons (is_if (PW.pt (iw_or (it_not (it_tru (ie_isi T.os T.z_isinstance (ia_cons (ie_var 2) (ia_cons (ie_tyB T.z_tuple) ia_nil))))) (iw_or1 (it_gt (ie_len T.z_len (ia_cons (ie_var 2) ia_nil)) (ie_gint rfl T.c_MOST_TURNS))))) (is_one is_bad) is_nil)
    (is_cons (is_for cx (ii_enum T.z_enumerate (ia_cons (ie_var 2) ia_nil)) (ig_tup cx (igs_cons 4 cx.nd (igs_cons 5 cx.nd igs_nil))) (is_one (is_if (it_not (it_tru (ie_callG cx G_is_turn (ia_cons (ie_var 5) (ia_cons (ie_var 1) ia_nil))))) (is_one is_bad) is_nil)))
    (is_cons (is_expr (ie_callG cx G_check_cost (ia_cons (ie_var 3) ia_nil)))
    (is_one (is_fld T.o_Plan.gC T.o_Plan.cl T.na_Plan_held (ie_var 0) (ie_tup (ia_cons (ie_var 1) (ia_cons (ie_var 2) (ia_cons (ie_var 3) ia_nil)))))))))

theorem sc_Plan_roads : FnScope ["self"] ["self"] (defScope (inClass (topS 21) 1)) := ⟨rfl, rfl, rfl, by decide +kernel, rfl, by decide +kernel, by decide +kernel⟩
theorem ok_Plan_roads (T : Txt K mg) : GA P w K mg base (He5.wf K (He.ga K "Plan") "property" "roads") 1 1 f_Plan_roads := by
  obtain ⟨fd, F⟩ := T.d_Plan_roads
  refine ga_mk F sc_Plan_roads 0 rfl (fun _ _ _ _ _ _ us hl => match us, hl with | [_], _ => rfl) fun cdv A outer s H E cx => ?_
  exact is_one (is_ret (ie_idx (ie_fld T.o_Plan.gC T.o_Plan.cl T.na_Plan_held (ie_var 0)) ie_int))

theorem sc_Plan_turns : FnScope ["self"] ["self"] (defScope (inClass (topS 21) 2)) := ⟨rfl, rfl, rfl, by decide +kernel, rfl, by decide +kernel, by decide +kernel⟩
theorem ok_Plan_turns (T : Txt K mg) : GA P w K mg base (He5.wf K (He.ga K "Plan") "property" "turns") 1 1 f_Plan_turns := by
  obtain ⟨fd, F⟩ := T.d_Plan_turns
  refine ga_mk F sc_Plan_turns 0 rfl (fun _ _ _ _ _ _ us hl => match us, hl with | [_], _ => rfl) fun cdv A outer s H E cx => ?_
  exact is_one (is_ret (ie_idx (ie_fld T.o_Plan.gC T.o_Plan.cl T.na_Plan_held (ie_var 0)) ie_int))

theorem sc_Plan_cost : FnScope ["self"] ["self"] (defScope (inClass (topS 21) 3)) := ⟨rfl, rfl, rfl, by decide +kernel, rfl, by decide +kernel, by decide +kernel⟩
theorem ok_Plan_cost (T : Txt K mg) : GA P w K mg base (He5.wf K (He.ga K "Plan") "property" "cost") 1 1 f_Plan_cost := by
  obtain ⟨fd, F⟩ := T.d_Plan_cost
  refine ga_mk F sc_Plan_cost 0 rfl (fun _ _ _ _ _ _ us hl => match us, hl with | [_], _ => rfl) fun cdv A outer s H E cx => ?_
  exact is_one (is_ret (ie_idx (ie_fld T.o_Plan.gC T.o_Plan.cl T.na_Plan_held (ie_var 0)) ie_int))

theorem sc_Plan___len__ : FnScope ["self"] ["self"] (defScope (inClass (topS 21) 4)) := ⟨rfl, rfl, rfl, by decide +kernel, rfl, by decide +kernel, by decide +kernel⟩
theorem ok_Plan___len__ (T : Txt K mg) : GA P w K mg base (He.ma K (He.ga K "Plan") "__len__") 1 1 f_Plan___len__ := by
  obtain ⟨fd, F⟩ := T.d_Plan___len__
  refine ga_mk F sc_Plan___len__ 0 rfl (fun _ _ _ _ _ _ us hl => match us, hl with | [_], _ => rfl) fun cdv A outer s H E cx => ?_
  exact is_one (is_ret (ie_len T.z_len (ia_cons (ie_idx (ie_fld T.o_Plan.gC T.o_Plan.cl T.na_Plan_held (ie_var 0)) ie_int) ia_nil)))

theorem sc_Plan___eq__ : FnScope ["self", "other"] ["self", "other"] (defScope (inClass (topS 21) 5)) := ⟨rfl, rfl, rfl, by decide +kernel, rfl, by decide +kernel, by decide +kernel⟩
theorem ok_Plan___eq__ (T : Txt K mg) : GA P w K mg base (He.ma K (He.ga K "Plan") "__eq__") 1 2 f_Plan___eq__ := by
  obtain ⟨fd, F⟩ := T.d_Plan___eq__
  refine ga_mk F sc_Plan___eq__ 0 rfl (fun _ _ _ _ _ _ us hl => match us, hl with | [_, _], _ => rfl) fun cdv A outer s H E cx => ?_
  exact is_one (is_ret (ie_and (ie_isi T.os T.z_isinstance (ia_cons (ie_var 1) (ia_cons (ie_glo rfl T.o_Plan.gC) ia_nil))) (ie_one (ie_eq cx (ie_fld T.o_Plan.gC T.o_Plan.cl T.na_Plan_held (ie_var 0)) (ie_fld T.o_Plan.gC T.o_Plan.cl T.na_Plan_held (ie_var 1))))))

theorem sc_check_plan : FnScope ["value"] ["value"] (defScope (topS 22)) := ⟨rfl, rfl, rfl, by decide +kernel, rfl, by decide +kernel, by decide +kernel⟩
theorem ok_check_plan (T : Txt K mg) : GF P w K mg base "check_plan" 1 1 f_check_plan := by
  obtain ⟨fd, F⟩ := T.d_check_plan
  refine gf_mk F T.g_check_plan sc_check_plan 0 rfl (fun _ _ _ _ _ _ us hl => match us, hl with | [_], _ => rfl) fun cdv A outer s H E cx => ?_
  exact is_one (is_if (it_not (it_tru (ie_isi T.os T.z_isinstance (ia_cons (ie_var 0) (ia_cons (ie_glo rfl T.o_Plan.gC) ia_nil))))) (is_one is_bad) is_nil)

theorem sc_fraction_text : FnScope ["fraction"] ["fraction"] (defScope (topS 24)) := ⟨rfl, rfl, rfl, by decide +kernel, rfl, by decide +kernel, by decide +kernel⟩
theorem ok_fraction_text (T : Txt K mg) : GF P w K mg base "fraction_text" 1 1 f_fraction_text := by
  obtain ⟨fd, F⟩ := T.d_fraction_text
  refine gf_mk F T.g_fraction_text sc_fraction_text 0 rfl (fun _ _ _ _ _ _ us hl => match us, hl with | [_], _ => rfl) fun cdv A outer s H E cx => ?_
  exact is_cons (is_if (it_eq cx (ie_idx (ie_var 0) ie_int) ie_int) (is_one (is_ret (ie_str1 T.z_str (ia_cons (ie_idx (ie_var 0) ie_int) ia_nil)))) is_nil)
    (is_one (is_ret (ie_joined [eFmt (eOp pIdx (eVar 0) (eC (.int 0))), eC (.str "/"), eFmt (eOp pIdx (eVar 0) (eC (.int 1)))] (.cons (ie_fmt (ie_idx (ie_var 0) ie_int)) (.cons ie_str (.cons (ie_fmt (ie_idx (ie_var 0) ie_int)) (.nil)))))))

theorem sc_write_plan : FnScope ["plan", "roads", "turns", "cost", "lines", "road", "reach"] ["plan"] (defScope (topS 25)) := ⟨rfl, rfl, rfl, by decide +kernel, rfl, by decide +kernel, by decide +kernel⟩
theorem ok_write_plan (T : Txt K mg) : GF P w K mg base "write_plan" 2 1 f_write_plan := by
  obtain ⟨fd, F⟩ := T.d_write_plan
  have G_check_plan := ok_check_plan (P := P) (w := w) (base := base) T
  have G_fraction_text := ok_fraction_text (P := P) (w := w) (base := base) T
  refine gf_mk F T.g_write_plan sc_write_plan 6 rfl (fun _ _ _ _ _ _ us hl => match us, hl with | [_], _ => rfl) fun cdv A outer s H E cx => ?_
  exact is_cons (is_expr (ie_callG cx G_check_plan (ia_cons (ie_var 0) ia_nil)))
    (is_cons (is_asgT (ie_fld T.o_Plan.gC T.o_Plan.cl T.na_Plan_held (ie_var 0)) (ig_tup cx (igs_cons 1 cx.nd (igs_cons 2 cx.nd (igs_cons 3 cx.nd igs_nil)))))
    (is_cons (is_set (i := 4) cx (ie_lst (ia_cons (ie_joined [eC (.str "roads "), eFmt (eVar 1), eC (.str " cost "), eFmt (eCall f_fraction_text (aCons (eVar 3) aNil))] (.cons ie_str (.cons (ie_fmt (ie_var 1)) (.cons ie_str (.cons (ie_fmt (ie_callG cx G_fraction_text (ia_cons (ie_var 3) ia_nil))) (.nil)))))) ia_nil)))
    (is_cons (is_for cx (ii_seq (ie_var 2)) (ig_tup cx (igs_cons 5 cx.nd (igs_cons 6 cx.nd igs_nil))) (is_one (is_expr (ie_append (ie_var 4) (ia_cons (ie_joined [eFmt (eVar 5), eC (.str " "), eFmt (eCall f_fraction_text (aCons (eVar 6) aNil))] (.cons (ie_fmt (ie_var 5)) (.cons ie_str (.cons (ie_fmt (ie_callG cx G_fraction_text (ia_cons (ie_var 6) ia_nil))) (.nil))))) ia_nil)))))
    (is_one (is_ret (ie_join ie_str (ie_var 4)))))))

theorem sc_integer_of : FnScope ["text", "sign"] ["text"] (defScope (topS 26)) := ⟨rfl, rfl, rfl, by decide +kernel, rfl, by decide +kernel, by decide +kernel⟩
theorem ok_integer_of (T : Txt K mg) : GF P w K mg base "integer_of" 1 1 f_integer_of := by
  obtain ⟨fd, F⟩ := T.d_integer_of
  refine gf_mk F T.g_integer_of sc_integer_of 1 rfl (fun _ _ _ _ _ _ us hl => match us, hl with | [_], _ => rfl) fun cdv A outer s H E cx => ?_
  exact is_cons (is_if (PW.pt (iw_or (it_eq cx (ie_var 0) ie_str) (iw_or1 (PW.pt (iw_and (it_eq cx (ie_idx (ie_var 0) ie_int) ie_str) (iw_and1 (it_ne cx (ie_var 0) ie_str))))))) (is_one (is_ret ie_non)) is_nil)
    (is_cons (is_for cx (ii_chars (ie_var 0)) (ig_name 1 cx.nd) (is_one (is_if (it_notInT (ie_var 1) ie_str) (is_one (is_ret ie_non)) is_nil)))
    (is_one (is_ret (ie_ints T.z_int (ia_cons (ie_var 0) ia_nil)))))

theorem sc_fraction_of : FnScope ["word", "parts", "numbers", "found", "part"] ["word"] (defScope (topS 27)) := ⟨rfl, rfl, rfl, by decide +kernel, rfl, by decide +kernel, by decide +kernel⟩
theorem ok_fraction_of (T : Txt K mg) : GF P w K mg base "fraction_of" 3 1 f_fraction_of := by
  obtain ⟨fd, F⟩ := T.d_fraction_of
  have G_integer_of := ok_integer_of (P := P) (w := w) (base := base) T
  have G_is_fraction := ok_is_fraction (P := P) (w := w) (base := base) T
  refine gf_mk F T.g_fraction_of sc_fraction_of 4 rfl (fun _ _ _ _ _ _ us hl => match us, hl with | [_], _ => rfl) fun cdv A outer s H E cx => ?_
  exact is_cons (is_set (i := 1) cx (ie_split (ie_var 0) ie_str))
    (is_cons (is_setLc 2 [("part", 4)] cx (sw_true rfl rfl rfl (by decide +kernel)) (ii_seq (ie_var 1)) (blkOk_by (by rfl)) (fun _ _ _ _ _ cx => gw_name 4 cx.nd) (fun _ _ _ _ _ cx => it_none) (fun _ _ _ _ _ cx => ie_callG cx G_integer_of (ia_cons (ie_var 4) ia_nil)))
    (is_cons (is_if (PW.pt (iw_or (it_gt (ie_len T.z_len (ia_cons (ie_var 1) ia_nil)) ie_int) (iw_or1 (it_in cx ie_non (ie_var 2))))) (is_one (is_ret ie_non)) is_nil)
    (is_cons (is_if (it_eq cx (ie_len T.z_len (ia_cons (ie_var 1) ia_nil)) ie_int) (is_one (is_ret (ie_tup (ia_cons (ie_idx (ie_var 2) ie_int) (ia_cons ie_int ia_nil))))) is_nil)
    (is_cons (is_set (i := 3) cx (ie_tup (ia_cons (ie_idx (ie_var 2) ie_int) (ia_cons (ie_idx (ie_var 2) ie_int) ia_nil))))
    (is_cons (is_if (PW.pt (iw_or (it_lt (ie_idx (ie_var 2) ie_int) ie_int) (iw_or1 (it_not (it_tru (ie_callG cx G_is_fraction (ia_cons (ie_var 3) ia_nil))))))) (is_one (is_ret ie_non)) is_nil)
    (is_one (is_ret (ie_var 3))))))))

theorem sc_word_at : FnScope ["words", "line", "place"] ["words", "line", "place"] (defScope (topS 28)) := ⟨rfl, rfl, rfl, by decide +kernel, rfl, by decide +kernel, by decide +kernel⟩
theorem ok_word_at (T : Txt K mg) : GF P w K mg base "word_at" 3 3 f_word_at := by
  obtain ⟨fd, F⟩ := T.d_word_at
  have G_InvalidText___init__ := ok_InvalidText___init__ (P := P) (w := w) (base := base) T
  refine gf_mk F T.g_word_at sc_word_at 0 rfl (fun _ _ _ _ _ _ us hl => match us, hl with | [_, _, _], _ => rfl) fun cdv A outer s H E cx => ?_
  exact is_cons (is_if (it_ge (ie_var 2) (ie_len T.z_len (ia_cons (ie_var 0) ia_nil))) (is_one (is_raise2 cx T.xi_InvalidText G_InvalidText___init__ (ia_cons (ie_var 1) (ia_cons (ie_add (ie_var 2) ie_int) ia_nil)))) is_nil)
    (is_one (is_ret (ie_idx (ie_var 0) (ie_var 2))))

theorem sc_check_name : FnScope ["words", "place", "name"] ["words", "place", "name"] (defScope (topS 29)) := ⟨rfl, rfl, rfl, by decide +kernel, rfl, by decide +kernel, by decide +kernel⟩
theorem ok_check_name (T : Txt K mg) : GF P w K mg base "check_name" 4 3 f_check_name := by
  obtain ⟨fd, F⟩ := T.d_check_name
  have G_InvalidText___init__ := ok_InvalidText___init__ (P := P) (w := w) (base := base) T
  have G_word_at := ok_word_at (P := P) (w := w) (base := base) T
  refine gf_mk F T.g_check_name sc_check_name 0 rfl (fun _ _ _ _ _ _ us hl => match us, hl with | [_, _, _], _ => rfl) fun cdv A outer s H E cx => ?_
  exact is_one (is_if (it_ne cx (ie_callG cx G_word_at (ia_cons (ie_var 0) (ia_cons ie_int (ia_cons (ie_var 1) ia_nil)))) (ie_var 2)) (is_one (is_raise2 cx T.xi_InvalidText G_InvalidText___init__ (ia_cons ie_int (ia_cons (ie_add (ie_var 1) ie_int) ia_nil)))) is_nil)

theorem sc_number_at : FnScope ["words", "line", "place", "low", "high", "word", "number"] ["words", "line", "place", "low", "high"] (defScope (topS 30)) := ⟨rfl, rfl, rfl, by decide +kernel, rfl, by decide +kernel, by decide +kernel⟩
theorem ok_number_at (T : Txt K mg) : GF P w K mg base "number_at" 4 5 f_number_at := by
  obtain ⟨fd, F⟩ := T.d_number_at
  have G_InvalidText___init__ := ok_InvalidText___init__ (P := P) (w := w) (base := base) T
  have G_word_at := ok_word_at (P := P) (w := w) (base := base) T
  refine gf_mk F T.g_number_at sc_number_at 2 rfl (fun _ _ _ _ _ _ us hl => match us, hl with | [_, _, _, _, _], _ => rfl) fun cdv A outer s H E cx => ?_
  exact is_cons (is_set (i := 5) cx (ie_callG cx G_word_at (ia_cons (ie_var 0) (ia_cons (ie_var 1) (ia_cons (ie_var 2) ia_nil)))))
    (is_cons (is_for cx (ii_range2 T.z_range (ia_cons (ie_var 3) (ia_cons (ie_add (ie_var 4) ie_int) ia_nil))) (ig_name 6 cx.nd) (is_one (is_if (it_eq cx (ie_str1 T.z_str (ia_cons (ie_var 6) ia_nil)) (ie_var 5)) (is_one (is_ret (ie_var 6))) is_nil)))
    (is_one (is_raise2 cx T.xi_InvalidText G_InvalidText___init__ (ia_cons (ie_var 1) (ia_cons (ie_add (ie_var 2) ie_int) ia_nil)))))

theorem sc_check_length : FnScope ["words", "line", "many"] ["words", "line", "many"] (defScope (topS 31)) := ⟨rfl, rfl, rfl, by decide +kernel, rfl, by decide +kernel, by decide +kernel⟩
theorem ok_check_length (T : Txt K mg) : GF P w K mg base "check_length" 3 3 f_check_length := by
  obtain ⟨fd, F⟩ := T.d_check_length
  have G_InvalidText___init__ := ok_InvalidText___init__ (P := P) (w := w) (base := base) T
  refine gf_mk F T.g_check_length sc_check_length 0 rfl (fun _ _ _ _ _ _ us hl => match us, hl with | [_, _, _], _ => rfl) fun cdv A outer s H E cx => ?_
  exact is_one (is_if (it_gt (ie_len T.z_len (ia_cons (ie_var 0) ia_nil)) (ie_var 2)) (is_one (is_raise2 cx T.xi_InvalidText G_InvalidText___init__ (ia_cons (ie_var 1) (ia_cons (ie_add (ie_var 2) ie_int) ia_nil)))) is_nil)

theorem sc_read_turn : FnScope ["words", "line", "roads", "road", "reach"] ["words", "line", "roads"] (defScope (topS 32)) := ⟨rfl, rfl, rfl, by decide +kernel, rfl, by decide +kernel, by decide +kernel⟩
theorem ok_read_turn (T : Txt K mg) : GF P w K mg base "read_turn" 5 3 f_read_turn := by
  obtain ⟨fd, F⟩ := T.d_read_turn
  have G_InvalidText___init__ := ok_InvalidText___init__ (P := P) (w := w) (base := base) T
  have G_check_length := ok_check_length (P := P) (w := w) (base := base) T
  have G_fraction_of := ok_fraction_of (P := P) (w := w) (base := base) T
  have G_is_reach := ok_is_reach (P := P) (w := w) (base := base) T
  have G_number_at := ok_number_at (P := P) (w := w) (base := base) T
  have G_word_at := ok_word_at (P := P) (w := w) (base := base) T
  refine gf_mk F T.g_read_turn sc_read_turn 2 rfl (fun _ _ _ _ _ _ us hl => match us, hl with | [_, _, _], _ => rfl) fun cdv A outer s H E cx => ?_
  exact is_cons (is_set (i := 3) cx (ie_callG cx G_number_at (ia_cons (ie_var 0) (ia_cons (ie_var 1) (ia_cons ie_int (ia_cons ie_int (ia_cons (ie_sub (ie_var 2) ie_int) ia_nil)))))))
    (is_cons (is_set (i := 4) cx (ie_callG cx G_fraction_of (ia_cons (ie_callG cx G_word_at (ia_cons (ie_var 0) (ia_cons (ie_var 1) (ia_cons ie_int ia_nil)))) ia_nil)))
    (is_cons (is_if (PW.pt (iw_or (it_is (ie_var 4) ie_non) (iw_or1 (it_not (it_tru (ie_callG cx G_is_reach (ia_cons (ie_var 4) ia_nil))))))) (is_one (is_raise2 cx T.xi_InvalidText G_InvalidText___init__ (ia_cons (ie_var 1) (ia_cons ie_int ia_nil)))) is_nil)
    (is_cons (is_expr (ie_callG cx G_check_length (ia_cons (ie_var 0) (ia_cons (ie_var 1) (ia_cons ie_int ia_nil)))))
    (is_one (is_ret (ie_tup (ia_cons (ie_var 3) (ia_cons (ie_var 4) ia_nil))))))))

theorem sc_read_plan : FnScope ["text", "lines", "head", "roads", "cost", "turns", "index", "words", "word", "line"] ["text"] (defScope (topS 33)) := ⟨rfl, rfl, rfl, by decide +kernel, rfl, by decide +kernel, by decide +kernel⟩
theorem ok_read_plan (T : Txt K mg) : GF P w K mg base "read_plan" 8 1 f_read_plan := by
  obtain ⟨fd, F⟩ := T.d_read_plan
  have G_InvalidText___init__ := ok_InvalidText___init__ (P := P) (w := w) (base := base) T
  have G_Plan___init__ := ok_Plan___init__ (P := P) (w := w) (base := base) T
  have G_check_length := ok_check_length (P := P) (w := w) (base := base) T
  have G_check_name := ok_check_name (P := P) (w := w) (base := base) T
  have G_fraction_of := ok_fraction_of (P := P) (w := w) (base := base) T
  have G_is_within := ok_is_within (P := P) (w := w) (base := base) T
  have G_number_at := ok_number_at (P := P) (w := w) (base := base) T
  have G_read_turn := ok_read_turn (P := P) (w := w) (base := base) T
  have G_word_at := ok_word_at (P := P) (w := w) (base := base) T
  refine gf_mk F T.g_read_plan sc_read_plan 9 rfl (fun _ _ _ _ _ _ us hl => match us, hl with | [_], _ => rfl) fun cdv A outer s H E cx => ?_
  exact is_cons (is_setLc 1 [("line", 9)] cx (sw_true rfl rfl rfl (by decide +kernel)) (ii_seq (ie_split (ie_var 0) ie_str)) (blkOk_by (by rfl)) (fun _ _ _ _ _ cx => gw_name 9 cx.nd) (fun _ _ _ _ _ cx => it_none) (fun _ _ _ _ _ cx => ie_lc [("word", 8)] cx (ii_seq (ie_split (ie_var 9) ie_str)) (blkOk_by (by rfl)) (fun _ _ _ _ _ cx => gw_name 8 cx.nd) (fun _ _ _ _ _ cx => pts_one (it_ne cx (ie_var 8) ie_str)) (fun _ _ _ _ _ cx => ie_var 8)))
    (is_cons (is_set (i := 2) cx (ie_idx (ie_var 1) ie_int))
    (is_cons (is_expr (ie_callG cx G_check_name (ia_cons (ie_var 2) (ia_cons ie_int (ia_cons ie_str ia_nil)))))
    (is_cons (is_set (i := 3) cx (ie_callG cx G_number_at (ia_cons (ie_var 2) (ia_cons ie_int (ia_cons ie_int (ia_cons ie_int (ia_cons (ie_gint rfl T.c_MOST_ROADS) ia_nil)))))))
    (is_cons (is_expr (ie_callG cx G_check_name (ia_cons (ie_var 2) (ia_cons ie_int (ia_cons ie_str ia_nil)))))
    (is_cons (is_set (i := 4) cx (ie_callG cx G_fraction_of (ia_cons (ie_callG cx G_word_at (ia_cons (ie_var 2) (ia_cons ie_int (ia_cons ie_int ia_nil)))) ia_nil)))
    (is_cons (is_if (PW.pt (iw_or (it_is (ie_var 4) ie_non) (iw_or1 (it_not (it_tru (ie_callG cx G_is_within (ia_cons (ie_var 4) (ia_cons ie_int (ia_cons (ie_gint rfl T.c_MOST_REACH) ia_nil))))))))) (is_one (is_raise2 cx T.xi_InvalidText G_InvalidText___init__ (ia_cons ie_int (ia_cons ie_int ia_nil)))) is_nil)
    (is_cons (is_expr (ie_callG cx G_check_length (ia_cons (ie_var 2) (ia_cons ie_int (ia_cons ie_int ia_nil)))))
    (is_cons (is_set (i := 5) cx (ie_lst ia_nil))
    (is_cons (is_for cx (ii_enum T.z_enumerate (ia_cons (ie_sl (ie_var 1) (io_some ie_int) io_none) ia_nil)) (ig_tup cx (igs_cons 6 cx.nd (igs_cons 7 cx.nd igs_nil))) (is_cons (is_if (it_eq cx (ie_len T.z_len (ia_cons (ie_var 5) ia_nil)) (ie_gint rfl T.c_MOST_TURNS)) (is_one (is_raise2 cx T.xi_InvalidText G_InvalidText___init__ (ia_cons (ie_add (ie_var 6) ie_int) (ia_cons ie_int ia_nil)))) is_nil)
    (is_one (is_expr (ie_append (ie_var 5) (ia_cons (ie_callG cx G_read_turn (ia_cons (ie_var 7) (ia_cons (ie_add (ie_var 6) ie_int) (ia_cons (ie_var 3) ia_nil)))) ia_nil))))))
    (is_one (is_ret (ie_makeG cx T.mk_Plan T.o_Plan.gC G_Plan___init__ (ia_cons (ie_var 3) (ia_cons (ie_tuple1 T.z_tuple (ia_cons (ie_var 5) ia_nil)) (ia_cons (ie_var 4) ia_nil)))))))))))))))

theorem sc__law_mix : FnScope ["_law_script", "_law_seed", "_law_state", "_law_cell"] ["_law_script", "_law_seed"] (defScope (topS 35)) := ⟨rfl, rfl, rfl, by decide +kernel, rfl, by decide +kernel, by decide +kernel⟩
theorem ok__law_mix (T : Txt K mg) : GF P w K mg base "_law_mix" 1 2 f__law_mix := by
  obtain ⟨fd, F⟩ := T.d__law_mix
  refine gf_mk F T.g__law_mix sc__law_mix 2 rfl (fun _ _ _ _ _ _ us hl => match us, hl with | [_, _], _ => rfl) fun cdv A outer s H E cx => ?_
  exact is_cons (is_set (i := 2) cx (ie_var 1))
    (is_cons (is_for cx (ii_seq (ie_var 0)) (ig_name 3 cx.nd) (is_one (is_set (i := 2) cx (ie_mod (ie_int1 T.z_int (ia_cons (ie_add (ie_add (ie_mul (ie_var 2) ie_int) (ie_mod (ie_int1 T.z_int (ia_cons (ie_var 3) ia_nil)) ie_int)) ie_int) ia_nil)) ie_int))))
    (is_one (is_ret (ie_lst (ia_cons (ie_var 2) (ia_cons (ie_list1 T.z_list (ia_cons (ie_var 0) ia_nil)) (ia_cons ie_int ia_nil)))))))

theorem sc__law_next : FnScope ["_law_h", "_law_bound", "_law_cell", "_law_cells"] ["_law_h", "_law_bound"] (defScope (topS 36)) := ⟨rfl, rfl, rfl, by decide +kernel, rfl, by decide +kernel, by decide +kernel⟩
theorem ok__law_next (T : Txt K mg) : GF P w K mg base "_law_next" 1 2 f__law_next := by
  obtain ⟨fd, F⟩ := T.d__law_next
  refine gf_mk F T.g__law_next sc__law_next 2 rfl (fun _ _ _ _ _ _ us hl => match us, hl with | [_, _], _ => rfl) fun cdv A outer s H E cx => ?_
  exact is_cons (is_set (i := 2) cx (ie_idx (ie_add (ie_idx (ie_var 0) ie_int) (ie_lst (ia_cons ie_int ia_nil))) (ie_mod (ie_int1 T.z_int (ia_cons (ie_idx (ie_var 0) ie_int) ia_nil)) (ie_max2 cx T.z_max (ia_cons ie_int (ia_cons (ie_len T.z_len (ia_cons (ie_idx (ie_var 0) ie_int) ia_nil)) ia_nil))))))
    (is_cons (is_if (it_ge (ie_var 2) (ie_pow ie_int ie_int)) (is_cons (is_set (i := 3) cx (ie_idx (ie_var 0) ie_int))
    (is_cons (is_setix (ie_div (ie_var 2) (ie_var 1)) (ie_var 3) (ie_mod (ie_int1 T.z_int (ia_cons (ie_idx (ie_var 0) ie_int) ia_nil)) (ie_len T.z_len (ia_cons (ie_var 3) ia_nil))))
    (is_one (is_ret (ie_mod (ie_int1 T.z_int (ia_cons (ie_var 2) ia_nil)) (ie_var 1)))))) is_nil)
    (is_cons (is_setix (ie_mod (ie_int1 T.z_int (ia_cons (ie_add (ie_add (ie_mul (ie_idx (ie_var 0) ie_int) ie_int) (ie_mul (ie_var 2) ie_int)) ie_int) ia_nil)) ie_int) (ie_var 0) ie_int)
    (is_cons (is_setix (ie_add (ie_idx (ie_var 0) ie_int) ie_int) (ie_var 0) ie_int)
    (is_one (is_ret (ie_mod (ie_int1 T.z_int (ia_cons (ie_div (ie_idx (ie_var 0) ie_int) ie_int) ia_nil)) (ie_var 1)))))))

theorem sc__law_part : FnScope ["_law_one", "_law_other"] ["_law_one", "_law_other"] (defScope (topS 37)) := ⟨rfl, rfl, rfl, by decide +kernel, rfl, by decide +kernel, by decide +kernel⟩
theorem ok__law_part (T : Txt K mg) : GF P w K mg base "_law_part" 1 2 f__law_part := by
  obtain ⟨fd, F⟩ := T.d__law_part
  refine gf_mk F T.g__law_part sc__law_part 0 rfl (fun _ _ _ _ _ _ us hl => match us, hl with | [_, _], _ => rfl) fun cdv A outer s H E cx => ?_
  exact is_cons (is_par (i := 0) (j := 1) cx (ia_cons (ie_abs T.z_abs (ia_cons (ie_var 0) ia_nil)) (ia_cons (ie_abs T.z_abs (ia_cons (ie_var 1) ia_nil)) ia_nil)))
    (is_cons (is_while cx (it_ne cx (ie_var 1) ie_int) (is_one (is_par (i := 0) (j := 1) cx (ia_cons (ie_var 1) (ia_cons (ie_sub (ie_var 0) (ie_mul (ie_div (ie_var 0) (ie_var 1)) (ie_var 1))) ia_nil)))))
    (is_one (is_ret (ie_var 0))))

theorem sc__law_f : FnScope ["_law_n", "_law_d", "_law_part_here"] ["_law_n", "_law_d"] (defScope (topS 38)) := ⟨rfl, rfl, rfl, by decide +kernel, rfl, by decide +kernel, by decide +kernel⟩
theorem ok__law_f (T : Txt K mg) : GF P w K mg base "_law_f" 2 2 f__law_f := by
  obtain ⟨fd, F⟩ := T.d__law_f
  have G__law_part := ok__law_part (P := P) (w := w) (base := base) T
  refine gf_mk F T.g__law_f sc__law_f 1 rfl (fun _ _ _ _ _ _ us hl => match us, hl with | [_, _], _ => rfl) fun cdv A outer s H E cx => ?_
  exact is_cons (is_set (i := 2) cx (ie_callG cx G__law_part (ia_cons (ie_var 0) (ia_cons (ie_var 1) ia_nil))))
    (is_one (is_ret (ie_tup (ia_cons (ie_div (ie_var 0) (ie_var 2)) (ia_cons (ie_div (ie_var 1) (ie_var 2)) ia_nil)))))

theorem sc__law_add : FnScope ["_law_one", "_law_other"] ["_law_one", "_law_other"] (defScope (topS 39)) := ⟨rfl, rfl, rfl, by decide +kernel, rfl, by decide +kernel, by decide +kernel⟩
theorem ok__law_add (T : Txt K mg) : GF P w K mg base "_law_add" 3 2 f__law_add := by
  obtain ⟨fd, F⟩ := T.d__law_add
  have G__law_f := ok__law_f (P := P) (w := w) (base := base) T
  refine gf_mk F T.g__law_add sc__law_add 0 rfl (fun _ _ _ _ _ _ us hl => match us, hl with | [_, _], _ => rfl) fun cdv A outer s H E cx => ?_
  exact is_one (is_ret (ie_callG cx G__law_f (ia_cons (ie_add (ie_mul (ie_idx (ie_var 0) ie_int) (ie_idx (ie_var 1) ie_int)) (ie_mul (ie_idx (ie_var 1) ie_int) (ie_idx (ie_var 0) ie_int))) (ia_cons (ie_mul (ie_idx (ie_var 0) ie_int) (ie_idx (ie_var 1) ie_int)) ia_nil))))

theorem sc__law_mul : FnScope ["_law_one", "_law_other"] ["_law_one", "_law_other"] (defScope (topS 40)) := ⟨rfl, rfl, rfl, by decide +kernel, rfl, by decide +kernel, by decide +kernel⟩
theorem ok__law_mul (T : Txt K mg) : GF P w K mg base "_law_mul" 3 2 f__law_mul := by
  obtain ⟨fd, F⟩ := T.d__law_mul
  have G__law_f := ok__law_f (P := P) (w := w) (base := base) T
  refine gf_mk F T.g__law_mul sc__law_mul 0 rfl (fun _ _ _ _ _ _ us hl => match us, hl with | [_, _], _ => rfl) fun cdv A outer s H E cx => ?_
  exact is_one (is_ret (ie_callG cx G__law_f (ia_cons (ie_mul (ie_idx (ie_var 0) ie_int) (ie_idx (ie_var 1) ie_int)) (ia_cons (ie_mul (ie_idx (ie_var 0) ie_int) (ie_idx (ie_var 1) ie_int)) ia_nil))))

theorem sc__law_div : FnScope ["_law_one", "_law_other"] ["_law_one", "_law_other"] (defScope (topS 41)) := ⟨rfl, rfl, rfl, by decide +kernel, rfl, by decide +kernel, by decide +kernel⟩
theorem ok__law_div (T : Txt K mg) : GF P w K mg base "_law_div" 3 2 f__law_div := by
  obtain ⟨fd, F⟩ := T.d__law_div
  have G__law_f := ok__law_f (P := P) (w := w) (base := base) T
  refine gf_mk F T.g__law_div sc__law_div 0 rfl (fun _ _ _ _ _ _ us hl => match us, hl with | [_, _], _ => rfl) fun cdv A outer s H E cx => ?_
  exact is_one (is_ret (ie_callG cx G__law_f (ia_cons (ie_mul (ie_idx (ie_var 0) ie_int) (ie_idx (ie_var 1) ie_int)) (ia_cons (ie_mul (ie_idx (ie_var 0) ie_int) (ie_idx (ie_var 1) ie_int)) ia_nil))))

theorem sc__law_under : FnScope ["_law_one", "_law_other"] ["_law_one", "_law_other"] (defScope (topS 42)) := ⟨rfl, rfl, rfl, by decide +kernel, rfl, by decide +kernel, by decide +kernel⟩
theorem ok__law_under (T : Txt K mg) : GF P w K mg base "_law_under" 1 2 f__law_under := by
  obtain ⟨fd, F⟩ := T.d__law_under
  refine gf_mk F T.g__law_under sc__law_under 0 rfl (fun _ _ _ _ _ _ us hl => match us, hl with | [_, _], _ => rfl) fun cdv A outer s H E cx => ?_
  exact is_one (is_ret (ie_lt (ie_mul (ie_idx (ie_var 0) ie_int) (ie_idx (ie_var 1) ie_int)) (ie_mul (ie_idx (ie_var 1) ie_int) (ie_idx (ie_var 0) ie_int))))

theorem sc__law_reach : FnScope ["_law_h", "_law_base", "_law_kind"] ["_law_h", "_law_base"] (defScope (topS 43)) := ⟨rfl, rfl, rfl, by decide +kernel, rfl, by decide +kernel, by decide +kernel⟩
theorem ok__law_reach (T : Txt K mg) : GF P w K mg base "_law_reach" 3 2 f__law_reach := by
  obtain ⟨fd, F⟩ := T.d__law_reach
  have G__law_f := ok__law_f (P := P) (w := w) (base := base) T
  have G__law_next := ok__law_next (P := P) (w := w) (base := base) T
  refine gf_mk F T.g__law_reach sc__law_reach 1 rfl (fun _ _ _ _ _ _ us hl => match us, hl with | [_, _], _ => rfl) fun cdv A outer s H E cx => ?_
  exact is_cons (is_set (i := 2) cx (ie_callG cx G__law_next (ia_cons (ie_var 0) (ia_cons ie_int ia_nil))))
    (is_cons (is_if (it_eq cx (ie_var 2) ie_int) (is_one (is_ret (ie_callG cx G__law_f (ia_cons (ie_add ie_int (ie_callG cx G__law_next (ia_cons (ie_var 0) (ia_cons ie_int ia_nil)))) (ia_cons (ie_add ie_int (ie_callG cx G__law_next (ia_cons (ie_var 0) (ia_cons ie_int ia_nil)))) ia_nil))))) is_nil)
    (is_cons (is_if (it_eq cx (ie_var 2) ie_int) (is_one (is_ret (ie_callG cx G__law_f (ia_cons (ie_add ie_int (ie_callG cx G__law_next (ia_cons (ie_var 0) (ia_cons ie_int ia_nil)))) (ia_cons ie_int ia_nil))))) is_nil)
    (is_one (is_ret (ie_callG cx G__law_f (ia_cons (ie_add (ie_var 1) (ie_callG cx G__law_next (ia_cons (ie_var 0) (ia_cons (ie_add (ie_var 1) ie_int) ia_nil)))) (ia_cons (ie_add ie_int (ie_callG cx G__law_next (ia_cons (ie_var 0) (ia_cons ie_int ia_nil)))) ia_nil)))))))

theorem sc__law_turns : FnScope ["_law_h", "_law_roads", "_law_most", "_law_found", "_law_base", "_law_k", "_law_road"] ["_law_h", "_law_roads", "_law_most"] (defScope (topS 44)) := ⟨rfl, rfl, rfl, by decide +kernel, rfl, by decide +kernel, by decide +kernel⟩
theorem ok__law_turns (T : Txt K mg) : GF P w K mg base "_law_turns" 4 3 f__law_turns := by
  obtain ⟨fd, F⟩ := T.d__law_turns
  have G__law_next := ok__law_next (P := P) (w := w) (base := base) T
  have G__law_reach := ok__law_reach (P := P) (w := w) (base := base) T
  refine gf_mk F T.g__law_turns sc__law_turns 4 rfl (fun _ _ _ _ _ _ us hl => match us, hl with | [_, _, _], _ => rfl) fun cdv A outer s H E cx => ?_
  exact is_cons (is_par (i := 3) (j := 4) cx (ia_cons (ie_lst ia_nil) (ia_cons (ie_add ie_int (ie_callG cx G__law_next (ia_cons (ie_var 0) (ia_cons ie_int ia_nil)))) ia_nil)))
    (is_cons (is_for cx (ii_range1 T.z_range (ia_cons (ie_callG cx G__law_next (ia_cons (ie_var 0) (ia_cons (ie_add (ie_var 2) ie_int) ia_nil))) ia_nil)) (ig_name 5 cx.nd) (is_cons (is_set (i := 6) cx (ie_if (it_gt (ie_callG cx G__law_next (ia_cons (ie_var 0) (ia_cons ie_int ia_nil))) ie_int) (ie_sub (ie_var 5) (ie_mul (ie_div (ie_var 5) (ie_var 1)) (ie_var 1))) (ie_callG cx G__law_next (ia_cons (ie_var 0) (ia_cons (ie_var 1) ia_nil)))))
    (is_cons (is_expr (ie_append (ie_var 3) (ia_cons (ie_tup (ia_cons (ie_var 6) (ia_cons (ie_callG cx G__law_reach (ia_cons (ie_var 0) (ia_cons (ie_var 4) ia_nil))) ia_nil))) ia_nil)))
    (is_one (is_set (i := 4) cx (ie_min2 cx T.z_min (ia_cons (ie_pow ie_int ie_int) (ia_cons (ie_add (ie_var 4) (ie_callG cx G__law_next (ia_cons (ie_var 0) (ia_cons (ie_add (ie_var 4) ie_int) ia_nil)))) ia_nil))))))))
    (is_one (is_ret (ie_tuple1 T.z_tuple (ia_cons (ie_var 3) ia_nil)))))

theorem sc__law_plan : FnScope ["_law_h", "_law_most", "_law_roads", "_law_cost"] ["_law_h", "_law_most"] (defScope (topS 45)) := ⟨rfl, rfl, rfl, by decide +kernel, rfl, by decide +kernel, by decide +kernel⟩
theorem ok__law_plan (T : Txt K mg) : GF P w K mg base "_law_plan" 5 2 f__law_plan := by
  obtain ⟨fd, F⟩ := T.d__law_plan
  have G__law_f := ok__law_f (P := P) (w := w) (base := base) T
  have G__law_next := ok__law_next (P := P) (w := w) (base := base) T
  have G__law_turns := ok__law_turns (P := P) (w := w) (base := base) T
  refine gf_mk F T.g__law_plan sc__law_plan 2 rfl (fun _ _ _ _ _ _ us hl => match us, hl with | [_, _], _ => rfl) fun cdv A outer s H E cx => ?_
  exact is_cons (is_set (i := 2) cx (ie_add ie_int (ie_callG cx G__law_next (ia_cons (ie_var 0) (ia_cons ie_int ia_nil)))))
    (is_cons (is_set (i := 3) cx (ie_if (it_eq cx (ie_callG cx G__law_next (ia_cons (ie_var 0) (ia_cons ie_int ia_nil))) ie_int) (ie_tup (ia_cons ie_int (ia_cons ie_int ia_nil))) (ie_callG cx G__law_f (ia_cons (ie_callG cx G__law_next (ia_cons (ie_var 0) (ia_cons ie_int ia_nil))) (ia_cons (ie_add ie_int (ie_callG cx G__law_next (ia_cons (ie_var 0) (ia_cons ie_int ia_nil)))) ia_nil)))))
    (is_one (is_ret (ie_lst (ia_cons (ie_var 2) (ia_cons (ie_callG cx G__law_turns (ia_cons (ie_var 0) (ia_cons (ie_var 2) (ia_cons (ie_var 1) ia_nil)))) (ia_cons (ie_var 3) ia_nil)))))))

theorem sc__law_walked : FnScope ["_law_t", "_law_road", "_law_far", "_law_base", "_law_own", "_law_reach_here"] ["_law_t", "_law_road", "_law_far"] (defScope (topS 46)) := ⟨rfl, rfl, rfl, by decide +kernel, rfl, by decide +kernel, by decide +kernel⟩
theorem ok__law_walked (T : Txt K mg) : GF P w K mg base "_law_walked" 4 3 f__law_walked := by
  obtain ⟨fd, F⟩ := T.d__law_walked
  have G__law_add := ok__law_add (P := P) (w := w) (base := base) T
  have G__law_mul := ok__law_mul (P := P) (w := w) (base := base) T
  have G__law_under := ok__law_under (P := P) (w := w) (base := base) T
  refine gf_mk F T.g__law_walked sc__law_walked 3 rfl (fun _ _ _ _ _ _ us hl => match us, hl with | [_, _, _], _ => rfl) fun cdv A outer s H E cx => ?_
  exact is_cons (is_set (i := 3) cx (ie_tup (ia_cons ie_int (ia_cons ie_int ia_nil))))
    (is_cons (is_for cx (ii_seq (ie_idx (ie_var 0) ie_int)) (ig_tup cx (igs_cons 4 cx.nd (igs_cons 5 cx.nd igs_nil))) (is_cons (is_if (PW.pt (iw_and (it_eq cx (ie_var 4) (ie_var 1)) (iw_and1 (it_not (it_tru (ie_callG cx G__law_under (ia_cons (ie_var 5) (ia_cons (ie_var 2) ia_nil)))))))) (is_one (is_ret (ie_callG cx G__law_add (ia_cons (ie_var 3) (ia_cons (ie_var 2) ia_nil))))) is_nil)
    (is_one (is_set (i := 3) cx (ie_callG cx G__law_add (ia_cons (ie_var 3) (ia_cons (ie_callG cx G__law_add (ia_cons (ie_callG cx G__law_mul (ia_cons (ie_tup (ia_cons ie_int (ia_cons ie_int ia_nil))) (ia_cons (ie_var 5) ia_nil))) (ia_cons (ie_idx (ie_var 0) ie_int) ia_nil))) ia_nil)))))))
    (is_one (is_ret ie_non)))

theorem sc__law_fault : FnScope ["_law_h", "_law_t", "_law_rows", "_law_kind", "_law_r", "_law_bad", "_law_one", "_law_heads", "_law_made", "_law_spot", "_law_k", "_law_road", "_law_turns_here"] ["_law_h", "_law_t", "_law_rows"] (defScope (topS 47)) := ⟨rfl, rfl, rfl, by decide +kernel, rfl, by decide +kernel, by decide +kernel⟩
theorem ok__law_fault (T : Txt K mg) : GF P w K mg base "_law_fault" 2 3 f__law_fault := by
  obtain ⟨fd, F⟩ := T.d__law_fault
  have G__law_next := ok__law_next (P := P) (w := w) (base := base) T
  refine gf_mk F T.g__law_fault sc__law_fault 10 rfl (fun _ _ _ _ _ _ us hl => match us, hl with | [_, _, _], _ => rfl) fun cdv A outer s H E cx => ?_
  exact is_cons (is_set (i := 3) cx (ie_callG cx G__law_next (ia_cons (ie_var 0) (ia_cons ie_int ia_nil))))
    (is_cons (is_set (i := 4) cx (ie_str1 T.z_str (ia_cons (ie_idx (ie_var 1) ie_int) ia_nil)))
    (is_cons (is_set (i := 5) cx (ie_lst (ia_cons ie_str (ia_cons ie_str (ia_cons ie_str (ia_cons ie_str (ia_cons ie_str (ia_cons ie_str (ia_cons ie_str (ia_cons ie_str (ia_cons ie_str (ia_cons ie_str (ia_cons (ie_str1 T.z_str (ia_cons (ie_add (ie_pow ie_int ie_int) ie_int) ia_nil)) (ia_cons ie_str (ia_cons ie_str ia_nil)))))))))))))))
    (is_cons (is_set (i := 6) cx (ie_idx (ie_var 5) (ie_callG cx G__law_next (ia_cons (ie_var 0) (ia_cons (ie_len T.z_len (ia_cons (ie_var 5) ia_nil)) ia_nil)))))
    (is_cons (is_if (it_eq cx (ie_var 3) ie_int) (is_cons (is_set (i := 7) cx (ie_lst (ia_cons (ie_lst (ia_cons (ie_add (ie_add ie_str (ie_var 4)) ie_str) (ia_cons ie_int ia_nil))) (ia_cons (ie_lst (ia_cons ie_str (ia_cons ie_int ia_nil))) (ia_cons (ie_lst (ia_cons ie_str (ia_cons ie_int ia_nil))) (ia_cons (ie_lst (ia_cons ie_str (ia_cons ie_int ia_nil))) ia_nil))))))
    (is_cons (is_set (i := 7) cx (ie_add (ie_var 7) (ie_lst (ia_cons (ie_lst (ia_cons (ie_add ie_str (ie_var 4)) (ia_cons ie_int ia_nil))) (ia_cons (ie_lst (ia_cons (ie_add (ie_add ie_str (ie_var 4)) ie_str) (ia_cons ie_int ia_nil))) (ia_cons (ie_lst (ia_cons (ie_add (ie_add ie_str (ie_var 4)) ie_str) (ia_cons ie_int ia_nil))) ia_nil))))))
    (is_cons (is_expr (ie_append (ie_var 7) (ia_cons (ie_lst (ia_cons (ie_add (ie_add (ie_add ie_str (ie_var 4)) ie_str) (ie_var 6)) (ia_cons ie_int ia_nil))) ia_nil)))
    (is_cons (is_set (i := 7) cx (ie_add (ie_var 7) (ie_lst (ia_cons (ie_lst (ia_cons (ie_add (ie_add ie_str (ie_var 4)) ie_str) (ia_cons ie_int ia_nil))) (ia_cons (ie_lst (ia_cons ie_str (ia_cons ie_int ia_nil))) (ia_cons (ie_lst (ia_cons ie_str (ia_cons ie_int ia_nil))) (ia_cons (ie_lst (ia_cons ie_str (ia_cons ie_int ia_nil))) ia_nil)))))))
    (is_cons (is_set (i := 8) cx (ie_idx (ie_var 7) (ie_callG cx G__law_next (ia_cons (ie_var 0) (ia_cons (ie_len T.z_len (ia_cons (ie_var 7) ia_nil)) ia_nil)))))
    (is_one (is_ret (ie_lst (ia_cons (ie_add (ie_lst (ia_cons (ie_idx (ie_var 8) ie_int) ia_nil)) (ie_sl (ie_var 2) (io_some ie_int) io_none)) (ia_cons ie_int (ia_cons (ie_idx (ie_var 8) ie_int) ia_nil))))))))))) is_nil)
    (is_cons (is_if (it_eq cx (ie_var 3) ie_int) (is_cons (is_set (i := 9) cx (ie_callG cx G__law_next (ia_cons (ie_var 0) (ia_cons (ie_add (ie_len T.z_len (ia_cons (ie_var 2) ia_nil)) ie_int) ia_nil))))
    (is_one (is_ret (ie_lst (ia_cons (ie_add (ie_add (ie_sl (ie_var 2) io_none (io_some (ie_var 9))) (ie_lst (ia_cons ie_str ia_nil))) (ie_sl (ie_var 2) (io_some (ie_var 9)) io_none)) (ia_cons (ie_add (ie_var 9) ie_int) (ia_cons ie_int ia_nil))))))) is_nil)
    (is_cons (is_if (PW.pt (iw_or (it_eq cx (ie_var 3) ie_int) (iw_or1 (it_eq cx (ie_idx (ie_var 1) ie_int) (ie_tup ia_nil))))) (is_one (is_ret (ie_lst (ia_cons (ie_add (ie_add (ie_sl (ie_var 2) io_none (io_some ie_int)) (ie_mulL (ie_lst (ia_cons ie_str ia_nil)) ie_int)) (ie_lst (ia_cons (ie_idx (ie_lst (ia_cons ie_str (ia_cons ie_str (ia_cons ie_str ia_nil)))) (ie_callG cx G__law_next (ia_cons (ie_var 0) (ia_cons ie_int ia_nil)))) ia_nil))) (ia_cons ie_int (ia_cons ie_int ia_nil)))))) is_nil)
    (is_cons (is_set (i := 10) cx (ie_callG cx G__law_next (ia_cons (ie_var 0) (ia_cons (ie_len T.z_len (ia_cons (ie_idx (ie_var 1) ie_int) ia_nil)) ia_nil))))
    (is_cons (is_set (i := 11) cx (ie_str1 T.z_str (ia_cons (ie_idx (ie_idx (ie_idx (ie_var 1) ie_int) (ie_var 10)) ie_int) ia_nil)))
    (is_cons (is_set (i := 12) cx (ie_lst (ia_cons (ie_lst (ia_cons (ie_add (ie_var 4) ie_str) (ia_cons ie_int ia_nil))) (ia_cons (ie_lst (ia_cons ie_str (ia_cons ie_int ia_nil))) (ia_cons (ie_lst (ia_cons (ie_var 11) (ia_cons ie_int ia_nil))) (ia_cons (ie_lst (ia_cons (ie_add (ie_add (ie_var 11) ie_str) (ie_var 6)) (ia_cons ie_int ia_nil))) (ia_cons (ie_lst (ia_cons (ie_add (ie_var 11) ie_str) (ia_cons ie_int ia_nil))) (ia_cons (ie_lst (ia_cons ie_str (ia_cons ie_int ia_nil))) ia_nil))))))))
    (is_cons (is_expr (ie_append (ie_var 12) (ia_cons (ie_lst (ia_cons (ie_add (ie_idx (ie_var 2) (ie_add (ie_var 10) ie_int)) ie_str) (ia_cons ie_int ia_nil))) ia_nil)))
    (is_cons (is_set (i := 12) cx (ie_add (ie_var 12) (ie_lst (ia_cons (ie_lst (ia_cons ie_str (ia_cons ie_int ia_nil))) (ia_cons (ie_lst (ia_cons ie_str (ia_cons ie_int ia_nil))) (ia_cons (ie_lst (ia_cons (ie_add (ie_idx (ie_var 2) (ie_add (ie_var 10) ie_int)) ie_str) (ia_cons ie_int ia_nil))) ia_nil))))))
    (is_cons (is_set (i := 8) cx (ie_idx (ie_var 12) (ie_callG cx G__law_next (ia_cons (ie_var 0) (ia_cons (ie_len T.z_len (ia_cons (ie_var 12) ia_nil)) ia_nil)))))
    (is_one (is_ret (ie_lst (ia_cons (ie_add (ie_add (ie_sl (ie_var 2) io_none (io_some (ie_add (ie_var 10) ie_int))) (ie_lst (ia_cons (ie_idx (ie_var 8) ie_int) ia_nil))) (ie_sl (ie_var 2) (io_some (ie_add (ie_var 10) ie_int)) io_none)) (ia_cons (ie_add (ie_var 10) ie_int) (ia_cons (ie_idx (ie_var 8) ie_int) ia_nil))))))))))))))))))

theorem sc_law : FnScope ["_law_script", "_law_h", "_law_t", "_law_text", "_law_rows", "_law_line", "_law_word", "_law_told", "e", "_law_row"] ["_law_script"] (defScope (topS 48)) := ⟨rfl, rfl, rfl, by decide +kernel, rfl, by decide +kernel, by decide +kernel⟩
theorem ok_law (T : Txt K mg) {f : Addr} {fd : FuncData} (F : Fun K "law" "law" (topS 48) f fd) : FnOk P w K mg base (L2.CX P w) 9 f fd ["_law_script"] (SpF K mg 1 f_law) := by
  have G_Plan___eq__ := ok_Plan___eq__ (P := P) (w := w) (base := base) T
  have G_Plan___init__ := ok_Plan___init__ (P := P) (w := w) (base := base) T
  have G__law_fault := ok__law_fault (P := P) (w := w) (base := base) T
  have G__law_mix := ok__law_mix (P := P) (w := w) (base := base) T
  have G__law_plan := ok__law_plan (P := P) (w := w) (base := base) T
  have G_read_plan := ok_read_plan (P := P) (w := w) (base := base) T
  have G_write_plan := ok_write_plan (P := P) (w := w) (base := base) T
  exact ok_of F sc_law 9 rfl fun cdv A outer s H E cx => (is_cons (is_set (i := 1) cx (ie_callG cx G__law_mix (ia_cons (ie_var 0) (ia_cons ie_int ia_nil))))
    (is_cons (is_set (i := 2) cx (ie_callG cx G__law_plan (ia_cons (ie_var 1) (ia_cons ie_int ia_nil))))
    (is_cons (is_set (i := 3) cx (ie_callG cx G_write_plan (ia_cons (ie_makeG cx T.mk_Plan T.o_Plan.gC G_Plan___init__ (ia_cons (ie_idx (ie_var 2) ie_int) (ia_cons (ie_idx (ie_var 2) ie_int) (ia_cons (ie_idx (ie_var 2) ie_int) ia_nil)))) ia_nil)))
    (is_cons (is_asgU cx (ie_callG cx G__law_fault (ia_cons (ie_var 1) (ia_cons (ie_var 2) (ia_cons (ie_split (ie_var 3) ie_str) ia_nil)))) (igs_cons 4 cx.nd (igs_cons 5 cx.nd (igs_cons 6 cx.nd igs_nil))))
    (is_cons (is_set (i := 7) cx ie_non)
    (is_cons (is_tryAs (i := 8) cx T.exs T.xi_InvalidText.gC (fun _ _ _ cx => is_one (is_expr (ie_callG cx G_read_plan (ia_cons (ie_join ie_str (ie_lc [("_law_row", 9)] cx (ii_seq (ie_var 4)) (blkOk_by (by rfl)) (fun _ _ _ _ _ cx => gw_name 9 cx.nd) (fun _ _ _ _ _ cx => it_none) (fun _ _ _ _ _ cx => ie_var 9))) ia_nil)))) (fun ev _ _ _ _ _ hx hz hd => fs_one (fs_setl (j := 7) cx.nd (fe_if XF.mon (ft_tru (fe_isE T.exi T.x_RoadError.gC hx hz hd T.z_isinstance)) (fe_tup (fa_cons XF.mon (fe_xf T.exi (T.xfl _ _) hz hd) (fa_cons XF.mon (fe_xf T.exi (T.xfl _ _) hz hd) (fa_of ia_nil)))) (fe_of ie_non)))))
    (is_one (is_ret (ie_and (ie_eq cx (ie_var 7) (ie_tup (ia_cons (ie_var 5) (ia_cons (ie_var 6) ia_nil)))) (ie_one (ie_eqG cx T.o_Plan.gC T.eq_Plan.1 T.eq_Plan.2 T.nf_Plan G_Plan___eq__ (ie_callG cx G_read_plan (ia_cons (ie_var 3) ia_nil)) (ie_makeG cx T.mk_Plan T.o_Plan.gC G_Plan___init__ (ia_cons (ie_idx (ie_var 2) ie_int) (ia_cons (ie_idx (ie_var 2) ie_int) (ia_cons (ie_idx (ie_var 2) ie_int) ia_nil)))))))))))))))

end
end WR

/-! the head: what the top leaves, by one run of the kernel -/
namespace WR
open PySem PySem.Spec PyProof.Rows L2
theorem meth2 {K : PySem.W.Frag} {c m : Str} (e : bMeth c m K = true) : PySem.W.findIn K (.ref (He.ga K c)) m = some (some (.ref (He.ma K (He.ga K c) m))) ∧ PySem.W.isFn K (.ref (He.ma K (He.ga K c) m)) = true := by
  obtain ⟨e1, e⟩ := He.ba e
  exact ⟨He.eqO_ok e1, (He.ba e).1⟩
def exF0 : List FrB := [bGlo "is_integer",
  bGlo "is_from",
  bGlo "common",
  bGlo "is_fraction",
  bGlo "is_within",
  bGlo "is_reach",
  bGlo "is_turn",
  bGlo "check_roads",
  bGlo "check_cost",
  bGlo "check_plan",
  bGlo "fraction_text",
  bGlo "write_plan",
  bGlo "integer_of",
  bGlo "fraction_of",
  bGlo "word_at",
  bGlo "check_name",
  bGlo "number_at",
  bGlo "check_length",
  bGlo "read_turn",
  bGlo "read_plan",
  bGlo "_law_mix",
  bGlo "_law_next",
  bGlo "_law_part",
  bGlo "_law_f",
  bGlo "_law_add",
  bGlo "_law_mul",
  bGlo "_law_div",
  bGlo "_law_under",
  bGlo "_law_reach",
  bGlo "_law_turns",
  bGlo "_law_plan",
  bGlo "_law_walked",
  bGlo "_law_fault",
  bGlo "law",
  bInt "MOST_REACH" 1000000000000,
  bInt "MOST_ROADS" 5,
  bInt "MOST_TURNS" 60,
  bFree "int",
  bFree "isinstance",
  bFree "bool",
  bFree "abs",
  bFree "tuple",
  bFree "len",
  bFree "enumerate",
  bFree "str",
  bFree "range",
  bFree "list",
  bFree "max",
  bFree "min",
  bGlo "Plan",
  bOwn "Plan",
  bNoat "Plan" "held",
  bMk "Plan",
  bProp "Plan" "roads",
  bProp "Plan" "turns",
  bProp "Plan" "cost",
  bMeth "Plan" "__len__",
  bMeth "Plan" "__eq__",
  bNf "Plan",
  bGlo "InvalidText",
  bExn "InvalidText",
  bGlo "RoadError",
  bExc "RoadError",
  bExcs exCs,
  bExis exCs,
  bXfl exCs exFl,
  bTwo ownCs]
def fnF0 : List He5.DefA := [dA (fun K => (He.ma K (He.ga K "InvalidText") "__init__")) "__init__" "InvalidText.__init__" (inClass (topS 6) 0),
  dA (fun K => (He.ga K "is_integer")) "is_integer" "is_integer" (topS 8),
  dA (fun K => (He.ga K "is_from")) "is_from" "is_from" (topS 9),
  dA (fun K => (He.ga K "common")) "common" "common" (topS 10),
  dA (fun K => (He.ga K "is_fraction")) "is_fraction" "is_fraction" (topS 11),
  dA (fun K => (He.ga K "is_within")) "is_within" "is_within" (topS 12),
  dA (fun K => (He.ga K "is_reach")) "is_reach" "is_reach" (topS 17),
  dA (fun K => (He.ga K "is_turn")) "is_turn" "is_turn" (topS 18),
  dA (fun K => (He.ga K "check_roads")) "check_roads" "check_roads" (topS 19),
  dA (fun K => (He.ga K "check_cost")) "check_cost" "check_cost" (topS 20),
  dA (fun K => (He.ma K (He.ga K "Plan") "__init__")) "__init__" "Plan.__init__" (inClass (topS 21) 0),
  dA (fun K => (He5.wf K (He.ga K "Plan") "property" "roads")) "roads" "Plan.roads" (inClass (topS 21) 1),
  dA (fun K => (He5.wf K (He.ga K "Plan") "property" "turns")) "turns" "Plan.turns" (inClass (topS 21) 2),
  dA (fun K => (He5.wf K (He.ga K "Plan") "property" "cost")) "cost" "Plan.cost" (inClass (topS 21) 3),
  dA (fun K => (He.ma K (He.ga K "Plan") "__len__")) "__len__" "Plan.__len__" (inClass (topS 21) 4),
  dA (fun K => (He.ma K (He.ga K "Plan") "__eq__")) "__eq__" "Plan.__eq__" (inClass (topS 21) 5),
  dA (fun K => (He.ga K "check_plan")) "check_plan" "check_plan" (topS 22),
  dA (fun K => (He.ga K "fraction_text")) "fraction_text" "fraction_text" (topS 24),
  dA (fun K => (He.ga K "write_plan")) "write_plan" "write_plan" (topS 25),
  dA (fun K => (He.ga K "integer_of")) "integer_of" "integer_of" (topS 26),
  dA (fun K => (He.ga K "fraction_of")) "fraction_of" "fraction_of" (topS 27),
  dA (fun K => (He.ga K "word_at")) "word_at" "word_at" (topS 28),
  dA (fun K => (He.ga K "check_name")) "check_name" "check_name" (topS 29),
  dA (fun K => (He.ga K "number_at")) "number_at" "number_at" (topS 30),
  dA (fun K => (He.ga K "check_length")) "check_length" "check_length" (topS 31),
  dA (fun K => (He.ga K "read_turn")) "read_turn" "read_turn" (topS 32),
  dA (fun K => (He.ga K "read_plan")) "read_plan" "read_plan" (topS 33),
  dA (fun K => (He.ga K "_law_mix")) "_law_mix" "_law_mix" (topS 35),
  dA (fun K => (He.ga K "_law_next")) "_law_next" "_law_next" (topS 36),
  dA (fun K => (He.ga K "_law_part")) "_law_part" "_law_part" (topS 37),
  dA (fun K => (He.ga K "_law_f")) "_law_f" "_law_f" (topS 38),
  dA (fun K => (He.ga K "_law_add")) "_law_add" "_law_add" (topS 39),
  dA (fun K => (He.ga K "_law_mul")) "_law_mul" "_law_mul" (topS 40),
  dA (fun K => (He.ga K "_law_div")) "_law_div" "_law_div" (topS 41),
  dA (fun K => (He.ga K "_law_under")) "_law_under" "_law_under" (topS 42),
  dA (fun K => (He.ga K "_law_reach")) "_law_reach" "_law_reach" (topS 43),
  dA (fun K => (He.ga K "_law_turns")) "_law_turns" "_law_turns" (topS 44),
  dA (fun K => (He.ga K "_law_plan")) "_law_plan" "_law_plan" (topS 45),
  dA (fun K => (He.ga K "_law_walked")) "_law_walked" "_law_walked" (topS 46),
  dA (fun K => (He.ga K "_law_fault")) "_law_fault" "_law_fault" (topS 47),
  dA (fun K => (He.ga K "law")) "law" "law" (topS 48)]
def exF : List FrB := exF0
def fnF : List He5.DefA := fnF0
def looseF : List Str := (["RoadError", "BadRoads", "BadTurns", "BadCost", "BadPlan", "InvalidText", "is_integer", "is_from", "common", "is_fraction", "is_within", "MOST_ROADS", "MOST_TURNS", "MOST_REACH", "is_reach", "is_turn"] : List Str) ++ (["check_roads", "check_cost", "Plan", "check_plan", "fraction_text", "write_plan", "integer_of", "fraction_of", "word_at", "check_name", "number_at", "check_length", "read_turn", "read_plan", "_law_mix", "_law_next"] : List Str) ++ (["_law_part", "_law_f", "_law_add", "_law_mul", "_law_div", "_law_under", "_law_reach", "_law_turns", "_law_plan", "_law_walked", "_law_fault"] : List Str)
theorem txt_of {K : PySem.W.Frag} {mg : Str → Option Value} {h : Heap} (X : K.In h) (G : h.Ns mainGlobals mg) (c : SaysW exF fnF K) : Txt K mg :=
  {
    d_InvalidText___init__ := c.fun_ 0
    d_is_integer := c.fun_ 1
    g_is_integer := He.glo_ok X G (c.fact (f := bGlo "is_integer") (List.mem_of_getElem? (i := 0) rfl))
    d_is_from := c.fun_ 2
    g_is_from := He.glo_ok X G (c.fact (f := bGlo "is_from") (List.mem_of_getElem? (i := 1) rfl))
    d_common := c.fun_ 3
    g_common := He.glo_ok X G (c.fact (f := bGlo "common") (List.mem_of_getElem? (i := 2) rfl))
    d_is_fraction := c.fun_ 4
    g_is_fraction := He.glo_ok X G (c.fact (f := bGlo "is_fraction") (List.mem_of_getElem? (i := 3) rfl))
    d_is_within := c.fun_ 5
    g_is_within := He.glo_ok X G (c.fact (f := bGlo "is_within") (List.mem_of_getElem? (i := 4) rfl))
    d_is_reach := c.fun_ 6
    g_is_reach := He.glo_ok X G (c.fact (f := bGlo "is_reach") (List.mem_of_getElem? (i := 5) rfl))
    d_is_turn := c.fun_ 7
    g_is_turn := He.glo_ok X G (c.fact (f := bGlo "is_turn") (List.mem_of_getElem? (i := 6) rfl))
    d_check_roads := c.fun_ 8
    g_check_roads := He.glo_ok X G (c.fact (f := bGlo "check_roads") (List.mem_of_getElem? (i := 7) rfl))
    d_check_cost := c.fun_ 9
    g_check_cost := He.glo_ok X G (c.fact (f := bGlo "check_cost") (List.mem_of_getElem? (i := 8) rfl))
    d_Plan___init__ := c.fun_ 10
    d_Plan_roads := c.fun_ 11
    d_Plan_turns := c.fun_ 12
    d_Plan_cost := c.fun_ 13
    d_Plan___len__ := c.fun_ 14
    d_Plan___eq__ := c.fun_ 15
    d_check_plan := c.fun_ 16
    g_check_plan := He.glo_ok X G (c.fact (f := bGlo "check_plan") (List.mem_of_getElem? (i := 9) rfl))
    d_fraction_text := c.fun_ 17
    g_fraction_text := He.glo_ok X G (c.fact (f := bGlo "fraction_text") (List.mem_of_getElem? (i := 10) rfl))
    d_write_plan := c.fun_ 18
    g_write_plan := He.glo_ok X G (c.fact (f := bGlo "write_plan") (List.mem_of_getElem? (i := 11) rfl))
    d_integer_of := c.fun_ 19
    g_integer_of := He.glo_ok X G (c.fact (f := bGlo "integer_of") (List.mem_of_getElem? (i := 12) rfl))
    d_fraction_of := c.fun_ 20
    g_fraction_of := He.glo_ok X G (c.fact (f := bGlo "fraction_of") (List.mem_of_getElem? (i := 13) rfl))
    d_word_at := c.fun_ 21
    g_word_at := He.glo_ok X G (c.fact (f := bGlo "word_at") (List.mem_of_getElem? (i := 14) rfl))
    d_check_name := c.fun_ 22
    g_check_name := He.glo_ok X G (c.fact (f := bGlo "check_name") (List.mem_of_getElem? (i := 15) rfl))
    d_number_at := c.fun_ 23
    g_number_at := He.glo_ok X G (c.fact (f := bGlo "number_at") (List.mem_of_getElem? (i := 16) rfl))
    d_check_length := c.fun_ 24
    g_check_length := He.glo_ok X G (c.fact (f := bGlo "check_length") (List.mem_of_getElem? (i := 17) rfl))
    d_read_turn := c.fun_ 25
    g_read_turn := He.glo_ok X G (c.fact (f := bGlo "read_turn") (List.mem_of_getElem? (i := 18) rfl))
    d_read_plan := c.fun_ 26
    g_read_plan := He.glo_ok X G (c.fact (f := bGlo "read_plan") (List.mem_of_getElem? (i := 19) rfl))
    d__law_mix := c.fun_ 27
    g__law_mix := He.glo_ok X G (c.fact (f := bGlo "_law_mix") (List.mem_of_getElem? (i := 20) rfl))
    d__law_next := c.fun_ 28
    g__law_next := He.glo_ok X G (c.fact (f := bGlo "_law_next") (List.mem_of_getElem? (i := 21) rfl))
    d__law_part := c.fun_ 29
    g__law_part := He.glo_ok X G (c.fact (f := bGlo "_law_part") (List.mem_of_getElem? (i := 22) rfl))
    d__law_f := c.fun_ 30
    g__law_f := He.glo_ok X G (c.fact (f := bGlo "_law_f") (List.mem_of_getElem? (i := 23) rfl))
    d__law_add := c.fun_ 31
    g__law_add := He.glo_ok X G (c.fact (f := bGlo "_law_add") (List.mem_of_getElem? (i := 24) rfl))
    d__law_mul := c.fun_ 32
    g__law_mul := He.glo_ok X G (c.fact (f := bGlo "_law_mul") (List.mem_of_getElem? (i := 25) rfl))
    d__law_div := c.fun_ 33
    g__law_div := He.glo_ok X G (c.fact (f := bGlo "_law_div") (List.mem_of_getElem? (i := 26) rfl))
    d__law_under := c.fun_ 34
    g__law_under := He.glo_ok X G (c.fact (f := bGlo "_law_under") (List.mem_of_getElem? (i := 27) rfl))
    d__law_reach := c.fun_ 35
    g__law_reach := He.glo_ok X G (c.fact (f := bGlo "_law_reach") (List.mem_of_getElem? (i := 28) rfl))
    d__law_turns := c.fun_ 36
    g__law_turns := He.glo_ok X G (c.fact (f := bGlo "_law_turns") (List.mem_of_getElem? (i := 29) rfl))
    d__law_plan := c.fun_ 37
    g__law_plan := He.glo_ok X G (c.fact (f := bGlo "_law_plan") (List.mem_of_getElem? (i := 30) rfl))
    d__law_walked := c.fun_ 38
    g__law_walked := He.glo_ok X G (c.fact (f := bGlo "_law_walked") (List.mem_of_getElem? (i := 31) rfl))
    d__law_fault := c.fun_ 39
    g__law_fault := He.glo_ok X G (c.fact (f := bGlo "_law_fault") (List.mem_of_getElem? (i := 32) rfl))
    d_law := c.fun_ 40
    g_law := He.glo_ok X G (c.fact (f := bGlo "law") (List.mem_of_getElem? (i := 33) rfl))
    c_MOST_REACH := He.int_ok X G (c.fact (f := bInt "MOST_REACH" 1000000000000) (List.mem_of_getElem? (i := 34) rfl))
    c_MOST_ROADS := He.int_ok X G (c.fact (f := bInt "MOST_ROADS" 5) (List.mem_of_getElem? (i := 35) rfl))
    c_MOST_TURNS := He.int_ok X G (c.fact (f := bInt "MOST_TURNS" 60) (List.mem_of_getElem? (i := 36) rfl))
    z_int := He.free_ok X G (c.fact (f := bFree "int") (List.mem_of_getElem? (i := 37) rfl))
    z_isinstance := He.free_ok X G (c.fact (f := bFree "isinstance") (List.mem_of_getElem? (i := 38) rfl))
    z_bool := He.free_ok X G (c.fact (f := bFree "bool") (List.mem_of_getElem? (i := 39) rfl))
    z_abs := He.free_ok X G (c.fact (f := bFree "abs") (List.mem_of_getElem? (i := 40) rfl))
    z_tuple := He.free_ok X G (c.fact (f := bFree "tuple") (List.mem_of_getElem? (i := 41) rfl))
    z_len := He.free_ok X G (c.fact (f := bFree "len") (List.mem_of_getElem? (i := 42) rfl))
    z_enumerate := He.free_ok X G (c.fact (f := bFree "enumerate") (List.mem_of_getElem? (i := 43) rfl))
    z_str := He.free_ok X G (c.fact (f := bFree "str") (List.mem_of_getElem? (i := 44) rfl))
    z_range := He.free_ok X G (c.fact (f := bFree "range") (List.mem_of_getElem? (i := 45) rfl))
    z_list := He.free_ok X G (c.fact (f := bFree "list") (List.mem_of_getElem? (i := 46) rfl))
    z_max := He.free_ok X G (c.fact (f := bFree "max") (List.mem_of_getElem? (i := 47) rfl))
    z_min := He.free_ok X G (c.fact (f := bFree "min") (List.mem_of_getElem? (i := 48) rfl))
    gc_Plan := (c.fact (f := bGlo "Plan") (List.mem_of_getElem? (i := 49) rfl))
    o_Plan := bOwn_ok X G (c.fact (f := bGlo "Plan") (List.mem_of_getElem? (i := 49) rfl)) (c.fact (f := bOwn "Plan") (List.mem_of_getElem? (i := 50) rfl))
    na_Plan_held := He.noat_ok (c.fact (f := bNoat "Plan" "held") (List.mem_of_getElem? (i := 51) rfl))
    mk_Plan := He.mkr_ok (c.fact (f := bMk "Plan") (List.mem_of_getElem? (i := 52) rfl))
    p_Plan_roads := bProp_ok (c.fact (f := bProp "Plan" "roads") (List.mem_of_getElem? (i := 53) rfl))
    p_Plan_turns := bProp_ok (c.fact (f := bProp "Plan" "turns") (List.mem_of_getElem? (i := 54) rfl))
    p_Plan_cost := bProp_ok (c.fact (f := bProp "Plan" "cost") (List.mem_of_getElem? (i := 55) rfl))
    ln_Plan := meth2 (c.fact (f := bMeth "Plan" "__len__") (List.mem_of_getElem? (i := 56) rfl))
    eq_Plan := meth2 (c.fact (f := bMeth "Plan" "__eq__") (List.mem_of_getElem? (i := 57) rfl))
    nf_Plan := (c.fact (f := bNf "Plan") (List.mem_of_getElem? (i := 58) rfl))
    gi_InvalidText := (c.fact (f := bGlo "InvalidText") (List.mem_of_getElem? (i := 59) rfl))
    xi_InvalidText := bExn_ok X G (c.fact (f := bGlo "InvalidText") (List.mem_of_getElem? (i := 59) rfl)) (c.fact (f := bExn "InvalidText") (List.mem_of_getElem? (i := 60) rfl))
    gx_RoadError := (c.fact (f := bGlo "RoadError") (List.mem_of_getElem? (i := 61) rfl))
    x_RoadError := bExc_ok X G (c.fact (f := bGlo "RoadError") (List.mem_of_getElem? (i := 61) rfl)) (c.fact (f := bExc "RoadError") (List.mem_of_getElem? (i := 62) rfl))
    exs := bExcs_ok X G (c.fact (f := bExcs exCs) (List.mem_of_getElem? (i := 63) rfl))
    exi := bExis_ok X G (c.fact (f := bExis exCs) (List.mem_of_getElem? (i := 64) rfl))
    xfl := bXfl_ok X G (c.fact (f := bXfl exCs exFl) (List.mem_of_getElem? (i := 65) rfl))
    os := bTwo_ok X G (fun d hd => by
      have h := mem_of_contains hd
      simp only [ownCs, List.mem_cons, List.not_mem_nil, or_false] at h
      subst h; exact bOwn_ok X G (c.fact (f := bGlo "Plan") (List.mem_of_getElem? (i := 49) rfl)) (c.fact (f := bOwn "Plan") (List.mem_of_getElem? (i := 50) rfl))) (c.fact (f := bTwo ownCs) (List.mem_of_getElem? (i := 66) rfl)) }
abbrev RW : PySem.W.OpenRow := PySem.W.OpenLaw.row PySem.Challenge.rw_whichroad_k09_whole_texts_refused
abbrev hkF : PySem.W.Hook := hookW 6 exF fnF
def obF (s : PySem.W.SharedT) : He.AlD := obsW 6 exF fnF (HandSHeadRun.getT s)
theorem obF_eq (s : PySem.W.SharedT) : obF s = hkF.obs s.abs := obsW_eq (HandSHeadRun.getT_eq s)
theorem run_of {S A B D : Type} {o : Option S} {f : S → A} {g : S → B} {h : S → D} {a : A} {b : B} {d : D} (p : o.map f = some a) (q : o.map g = some b) (r : o.map h = some d) : o.map (fun s => (f s, g s, h s)) = some (a, b, d) := by
  cases o with
  | none => cases p
  | some s => cases p; cases q; cases r; rfl
abbrev frK (s : PySem.W.SharedT) : PySem.W.Frag := He.frG (HandSHeadRun.getT s) (asW (HandSHeadRun.getT s) 6)
theorem all_app {S A : Type} {o : Option S} {l m : List A} {p : S → A → Bool} (a : o.map (fun s => l.all (p s)) = some true) (b : o.map (fun s => m.all (p s)) = some true) : o.map (fun s => (l ++ m).all (p s)) = some true := by
  cases o with
  | none => cases a
  | some s => simp only [Option.map_some, Option.some.injEq] at a b ⊢; rw [List.all_append, a, b]; rfl
theorem map_app {S A B : Type} {o : Option S} {l m : List A} {f : S → A → B} {x y : List B} (a : o.map (fun s => l.map (f s)) = some x) (b : o.map (fun s => m.map (f s)) = some y) : o.map (fun s => (l ++ m).map (f s)) = some (x ++ y) := by
  cases o with
  | none => cases a
  | some s => simp only [Option.map_some, Option.some.injEq] at a b ⊢; rw [List.map_append, a, b]
theorem ob_of {o : Option PySem.W.SharedT} {w : World} (a : o.map (fun s => exF.all fun f => f (frK s)) = some true) (b : o.map (fun s => fnF.all fun d => d.ok (frK s)) = some true) (c : o.map (fun s => fnF.map fun d => He5.fnA (frK s) (d.at_ (frK s))) = some (fnF.map He5.DefA.val)) : o.map obF = some (hkF.val w) := by
  cases o with
  | none => cases a
  | some s =>
    simp only [Option.map_some, Option.some.injEq] at a b c ⊢
    have e : obF s = ((exF.all fun f => f (frK s)) && fnF.all fun d => d.ok (frK s), fnF.map fun d => He5.fnA (frK s) (d.at_ (frK s))) := rfl
    rw [e, a, b, c]; rfl
end WR
section
open PySem PySem.W PySem.Calls PyProof.Rows HandSHeadRun WR
theorem WR.run1 (w : World) (os : OsState) : (endF (stepQ (denQ tabQ) RW.prog w) 8000 RW.prog w os).map (fun s => looksF RW.prog (boot_heap w.params) s.abs) = some true := by
  kernel_rfl
theorem WR.run2 (w : World) (os : OsState) : (endF (stepQ (denQ tabQ) RW.prog w) 8000 RW.prog w os).map (fun s => seenQ (view RW.prog [48]) looseF (importedModules RW.prog.main.body) (fun s => xlAt (view RW.prog [48]) [] s && recOk RW.toRowW.records s) s.abs) = some (openGood (view RW.prog [48]) looseF) := by
  kernel_rfl
theorem WR.run_xe0 (w : World) (os : OsState) : (endF (stepQ (denQ tabQ) RW.prog w) 8000 RW.prog w os).map (fun s => exF0.all fun f => f (frK s)) = some true := by
  kernel_rfl
theorem WR.run_fa0 (w : World) (os : OsState) : (endF (stepQ (denQ tabQ) RW.prog w) 8000 RW.prog w os).map (fun s => fnF0.all fun d => d.ok (frK s)) = some true := by
  kernel_rfl
theorem WR.run_fm0 (w : World) (os : OsState) : (endF (stepQ (denQ tabQ) RW.prog w) 8000 RW.prog w os).map (fun s => fnF0.map fun d => He5.fnA (frK s) (d.at_ (frK s))) = some (fnF0.map He5.DefA.val) := by
  kernel_rfl
theorem WR.run3 (w : World) (os : OsState) : (endF (stepQ (denQ tabQ) RW.prog w) 8000 RW.prog w os).map obF = some (hkF.val w) := ob_of (run_xe0 w os) (run_fa0 w os) ((run_fm0 w os).trans (congrArg some (by simp only [fnF, List.map_append])))
theorem WR.runF (w : World) : RunEq RW (view RW.prog [48]) hkF obF 8000 looseF w := fun os => run_of (run1 w os) (run2 w os) (run3 w os)
end

open PySem PySem.W PySem.Calls PyProof.Rows
set_option maxHeartbeats 0 in
theorem PySem.Challenge.cw_whichroad_k09_whole_texts_refused_holds : PySem.Challenge.rw_whichroad_k09_whole_texts_refused.Holds := by
  w_on; o_law
  refine HandSHeadRun.head_any (r := OpenLaw.row PySem.Challenge.rw_whichroad_k09_whole_texts_refused) (q := view (OpenLaw.row PySem.Challenge.rw_whichroad_k09_whole_texts_refused).prog [48]) (H := WR.hkF) (ob := WR.obF) (M := 8000) (loose := WR.looseF) (d := HandSHeadRun.topDef (OpenLaw.row PySem.Challenge.rw_whichroad_k09_whole_texts_refused).prog 48) (kwd := []) WR.obF_eq
    (by kernel_rfl) (fun s => by kernel_rfl) WR.runF (by kernel_rfl) (by kernel_rfl) (by kernel_rfl) (by rfl) (by first | assumption | decide +kernel) (by decide +kernel) ⟨rfl, rfl, rfl, rfl, rfl, by decide +kernel⟩ ?hw ?hc
  case hw => w_witness2
  case hc =>
    refine WR.walk_W (l := PySem.Challenge.rw_whichroad_k09_whole_texts_refused) (k := 9) (x := "_law_script") (F := WR.f_law) rfl (by kernel_rfl) ⟨rfl, by decide, by decide⟩ ?F WR.law_true
    intro w mg fa h Y G hmg0
    obtain ⟨K, KX, c⟩ := Y
    have T := WR.txt_of KX G c
    have hmg : mg ("law" : PySem.Str) = some (.ref fa) := by
      have e : (HandSHeadRun.topDef (OpenLaw.row PySem.Challenge.rw_whichroad_k09_whole_texts_refused).prog 48).name = ("law" : PySem.Str) := by kernel_rfl
      rw [← e]
      exact hmg0
    obtain ⟨fd, F⟩ := T.d_law
    have e := hmg.symm.trans T.g_law
    cases e
    exact ⟨K, fd, KX, fun s v => WR.fun_bA (ps := ["_law_script"]) F (fun _ _ _ _ _ _ us hl => match us, hl with | [_], _ => rfl) s [v] rfl, fun base _ _ => WR.ok_law T F⟩


