import PyProof.Rows.All
import Wide.All
import OpenK.AllK
import Wide.FinOn
import PyProof.EqAt
import PyProof.EqKinds
import PyProof.TupleCall
import HandS.ForMost
import HandS.ForExc
import HandS.Wide
import HandS.WideBits
import HandS.TupAny
import HandS.TupMul
import HandS.IsInst
import HandS.Property
import HandS.OwnEq
import HandS.Deep
import HandS.Zip
import HandS.Lambda
import HandS.HeadHook1
import HandS.ExcCtx
import HandS.HotCalls
import HandS.WordsExc
import HandS.CallSlots
import HandS.Flow
import KE.GoesEnum
import KE.GoesMore
import KE.GoesZip
import KE.KStateDown
import HandS.More
import HandS.Defaults
import HandS.Head0
import HandS.Head1
import HandS.Head2
import HandS.HeadEnd
import HandS.HeadHook2
import HandS.HeadNt
import HandS.Comp
import HandS.Style
import HandS.SetFor
import HandS.Dict
import HandS.TupLe
import PyProof.ListMulRoad
import PyProof.FactsAll.tuple_2
import HandS.TryMany
import HandS.Small
import HandS.Remove
import KE.DataFind
import KE.KEqNest
import HandS.ExcIs
import HandS.ExcField
import KE.KExcIs
import HandS.Text
import HandS.FStr
import HandS.Iter
import HandS.Rev
import HandS.ExcInit
import HandS.NoneIn
import KE.SortKeyHeap
import KE.KTupSum
import HandS.SortKw
import HandS.EndTab
import HandS.Conv
import KE.KDictDisplayH
import PySem.Challenge.RW_whichroad_k10_questions_refused
set_option Elab.async false
set_option linter.all false
set_option maxRecDepth 100000
set_option maxHeartbeats 1000000
/-! the functional reading: values, heaps, results; how they stand in the layer's abstract heap -/
namespace WR
open PySem PySem.Spec PyProof.Rows L2

/-- a value; lists, dicts, instances are objects of the small heap; fls: a list that is only read (the script) -/
inductive PV where
  | non | bl (b : Bool) | int (i : Int) | str (x : Str) | tup (xs : List PV) | fls (xs : List PV) | obj (n : Nat) | glo (x : Str) | ty (n : String) | key (ks : List Int)
inductive MO where
  | lst (xs : List PV)
  | ins (c : Str) (fs : List (Str × PV))
  | dct (kvs : List (List Int × PV))
  | dks (kvs : List (Str × PV))
  | tbl (x : Str)
abbrev IH := List MO
abbrev Fm := List (Option PV)
/-- an exception: its class's name, its own fields -/
structure XV where
  cls : Str
  fs : List (Str × PV)
inductive Res (α : Type) where
  | ok (a : α) (h : IH)
  | ex (x : XV) (h : IH)
  | bad
def Res.bind {α β : Type} (r : Res α) (f : α → IH → Res β) : Res β := match r with
  | .ok a h => f a h
  | .ex x h => .ex x h
  | .bad => .bad
@[simp] theorem bind_ok {α β : Type} (a : α) (h : IH) (f : α → IH → Res β) : (Res.ok a h).bind f = f a h := rfl
@[simp] theorem bind_ex {α β : Type} (x : XV) (h : IH) (f : α → IH → Res β) : (Res.ex x h : Res α).bind f = .ex x h := rfl
@[simp] theorem bind_bad {α β : Type} (f : α → IH → Res β) : (Res.bad : Res α).bind f = .bad := rfl
abbrev EX := Fm → IH → Res PV
abbrev TX := Fm → IH → Res Bool
abbrev AX := Fm → IH → Res (List PV)
inductive RS where
  | nx (r : Fm) (h : IH)
  | rt (v : PV) (h : IH)
  | bk (r : Fm) (h : IH)
  | ct (r : Fm) (h : IH)
  | ex (x : XV) (r : Fm) (h : IH)
  | bad
abbrev SX := Fm → IH → RS

/-! ### how a value stands -/
/-- a list that is read only -/
def SqF (K : PySem.W.Frag) (H : Hp) (a : Addr) (ys : List V) : Prop := (∃ o, H a = some (.frz o (.lst ys))) ∨
    ∃ (o : Obj) (its : Array Value) (n : Nat), K.lookup a = some o ∧ o.cls = .type "list" ∧ o.dict = none ∧ o.data = .seq its n ∧ its.size ≤ sizeLine ∧ Vals ys its.toList
theorem SqF.sq {K : PySem.W.Frag} {H : Hp} {a : Addr} {ys : List V} (h : SqF K H a ys) : SqL K H a ys := by
  rcases h with ⟨o, h⟩ | h
  · exact .inl (.inr ⟨o, h⟩)
  · exact .inr h
mutual
inductive RP (K : PySem.W.Frag) (mg : Str → Option Value) (H : Hp) (as : List Addr) : PV → V → Prop
  | non : RP K mg H as .non .non
  | bl (b : Bool) : RP K mg H as (.bl b) (.bl b)
  | int (i : Int) : RP K mg H as (.int i) (.int i)
  | str (x : Str) : RP K mg H as (.str x) (.str x)
  | tup {xs : List PV} {a : Addr} {ys : List V} : SqT K H a ys → RPs K mg H as xs ys → RP K mg H as (.tup xs) (.ref a)
  | fls {xs : List PV} {a : Addr} {ys : List V} : SqF K H a ys → RPs K mg H as xs ys → RP K mg H as (.fls xs) (.ref a)
  | obj {n : Nat} {a : Addr} : as[n]? = some a → RP K mg H as (.obj n) (.ref a)
  | glo {x : Str} {u : Value} {v : V} : mg x = some u → RelV v u → RP K mg H as (.glo x) v
  | ty (n : String) : RP K mg H as (.ty n) (.ty n)
  | key {ks : List Int} {a : Addr} : H a = some (.tup (ks.map V.int)) → RP K mg H as (.key ks) (.ref a)
inductive RPs (K : PySem.W.Frag) (mg : Str → Option Value) (H : Hp) (as : List Addr) : List PV → List V → Prop
  | nil : RPs K mg H as [] []
  | cons {p : PV} {ps : List PV} {v : V} {vs : List V} : RP K mg H as p v → RPs K mg H as ps vs → RPs K mg H as (p :: ps) (v :: vs)
end
/-- what a step of the code leaves -/
structure Stp (as : List Addr) (H : Hp) (as' : List Addr) (H' : Hp) : Prop where
  pre : ∃ more, as' = as ++ more ∧ ∀ b ∈ more, H b = none
  tup : ∀ b ys, H b = some (.tup ys) → H' b = some (.tup ys)
  frz : ∀ b o u, H b = some (.frz o u) → H' b = some (.frz o u)
  oth : ∀ b o, H b = some o → b ∉ as → H' b = some o
  liv : ∀ b, H b ≠ none → H' b ≠ none
theorem Stp.refl (as : List Addr) (H : Hp) : Stp as H as H := ⟨⟨[], by simp, by simp⟩, fun _ _ h => h, fun _ _ _ h => h, fun _ _ h _ => h, fun _ h => h⟩
theorem Stp.trans {as as1 as2 : List Addr} {H H1 H2 : Hp} (a : Stp as H as1 H1) (b : Stp as1 H1 as2 H2) : Stp as H as2 H2 := by
  obtain ⟨m1, e1, f1⟩ := a.pre
  obtain ⟨m2, e2, f2⟩ := b.pre
  refine ⟨⟨m1 ++ m2, by rw [e2, e1, List.append_assoc], fun c hc => ?_⟩, fun c ys h => b.tup c ys (a.tup c ys h), fun c o u h => b.frz c o u (a.frz c o u h), fun c o h hc => b.oth c o (a.oth c o h hc) fun z => ?_, fun c h => b.liv c (a.liv c h)⟩
  · rcases List.mem_append.mp hc with h | h
    · exact f1 c h
    · cases q : H c with
      | none => rfl
      | some o => exact absurd (f2 c h) (a.liv c (by rw [q]; simp))
  · rw [e1] at z
    rcases List.mem_append.mp z with z | z
    · exact hc z
    · rw [f1 c z] at h; cases h
theorem Stp.get {as as' : List Addr} {H H' : Hp} (s : Stp as H as' H') {n : Nat} {a : Addr} (h : as[n]? = some a) : as'[n]? = some a := by
  obtain ⟨m, e, _⟩ := s.pre
  rw [e, List.getElem?_append_left (List.getElem?_eq_some_iff.mp h).1]
  exact h
section
variable {K : PySem.W.Frag} {mg : Str → Option Value} {as as' : List Addr} {H H' : Hp}
theorem Stp.sqT (s : Stp as H as' H') {a : Addr} {ys : List V} (h : SqT K H a ys) : SqT K H' a ys := by
  rcases h with (h | ⟨o, h⟩) | h
  · exact .inl (.inl (s.tup _ _ h))
  · exact .inl (.inr ⟨o, s.frz _ _ _ h⟩)
  · exact .inr h
theorem Stp.sqF (s : Stp as H as' H') {a : Addr} {ys : List V} (h : SqF K H a ys) : SqF K H' a ys := by
  rcases h with ⟨o, h⟩ | h
  · exact .inl ⟨o, s.frz _ _ _ h⟩
  · exact .inr h
mutual
theorem RP.mono (s : Stp as H as' H') : ∀ {p : PV} {v : V}, RP K mg H as p v → RP K mg H' as' p v
  | _, _, .non => .non
  | _, _, .bl b => .bl b
  | _, _, .int i => .int i
  | _, _, .str x => .str x
  | _, _, .tup h r => .tup (s.sqT h) (RPs.mono s r)
  | _, _, .fls h r => .fls (s.sqF h) (RPs.mono s r)
  | _, _, .obj h => .obj (s.get h)
  | _, _, .glo h r => .glo h r
  | _, _, .ty n => .ty n
  | _, _, .key h => .key (s.tup _ _ h)
theorem RPs.mono (s : Stp as H as' H') : ∀ {ps : List PV} {vs : List V}, RPs K mg H as ps vs → RPs K mg H' as' ps vs
  | _, _, .nil => .nil
  | _, _, .cons h t => .cons (RP.mono s h) (RPs.mono s t)
end
theorem RPs.length : ∀ {ps : List PV} {vs : List V}, RPs K mg H as ps vs → ps.length = vs.length
  | _, _, .nil => rfl
  | _, _, .cons _ t => by rw [List.length_cons, List.length_cons, RPs.length t]
theorem RPs.get : ∀ {ps : List PV} {vs : List V} {i : Nat} {p : PV}, RPs K mg H as ps vs → ps[i]? = some p → ∃ v, vs[i]? = some v ∧ RP K mg H as p v
  | _, _, _, _, .nil, e => by simp at e
  | _, _, 0, _, .cons r _, e => by simp at e; subst e; exact ⟨_, rfl, r⟩
  | _, _, i + 1, p, .cons _ t, e => by
    obtain ⟨v, h1, h2⟩ := RPs.get (i := i) (p := p) t (by simpa using e)
    exact ⟨v, by simpa using h1, h2⟩
theorem RPs.append : ∀ {xs ys : List PV} {us ws : List V}, RPs K mg H as xs us → RPs K mg H as ys ws → RPs K mg H as (xs ++ ys) (us ++ ws)
  | _, _, _, _, .nil, s => s
  | _, _, _, _, .cons r t, s => .cons r (RPs.append t s)
theorem RPs.take : ∀ {xs : List PV} {us : List V} (n : Nat), RPs K mg H as xs us → RPs K mg H as (xs.take n) (us.take n)
  | _, _, 0, _ => .nil
  | _, _, _ + 1, .nil => .nil
  | _, _, n + 1, .cons r t => .cons r (RPs.take n t)
theorem RPs.drop : ∀ {xs : List PV} {us : List V} (n : Nat), RPs K mg H as xs us → RPs K mg H as (xs.drop n) (us.drop n)
  | _, _, 0, r => r
  | _, _, _ + 1, .nil => .nil
  | _, _, n + 1, .cons _ t => RPs.drop n t
theorem RPs.set {x : PV} {u : V} (r : RP K mg H as x u) : ∀ {xs : List PV} {us : List V} (i : Nat), RPs K mg H as xs us → RPs K mg H as (xs.set i x) (us.set i u)
  | _, _, _, .nil => .nil
  | _, _, 0, .cons _ t => .cons r t
  | _, _, i + 1, .cons q t => .cons q (RPs.set r i t)
theorem RPs.one {p : PV} {v : V} (h : RP K mg H as p v) : RPs K mg H as [p] [v] := .cons h .nil
theorem RPs.inv1 {p : PV} {vs : List V} (h : RPs K mg H as [p] vs) : ∃ v, vs = [v] ∧ RP K mg H as p v := by
  cases h with | cons a b => cases b; exact ⟨_, rfl, a⟩
theorem RPs.inv2 {p q : PV} {vs : List V} (h : RPs K mg H as [p, q] vs) : ∃ v w, vs = [v, w] ∧ RP K mg H as p v ∧ RP K mg H as q w := by
  cases h with | cons a b => cases b with | cons b c => cases c; exact ⟨_, _, rfl, a, b⟩
theorem RPs.reverse {xs : List PV} {us : List V} (h : RPs K mg H as xs us) : RPs K mg H as xs.reverse us.reverse := by
  induction xs generalizing us with
  | nil => cases h; exact .nil
  | cons x r ih =>
    cases h with
    | cons a b =>
      rw [List.reverse_cons, List.reverse_cons]
      exact (ih b).append (.one a)
end

/-! ### how the small heap stands -/
/-- the code object of the def x, its table -/
def cdOf (K : PySem.W.Frag) (f : Addr) : Addr := match K.lookup f with
  | some ⟨_, _, .func fd, _⟩ => (match fd.code with
    | .ref c => c
    | _ => 0)
  | _ => 0
def tbOf (K : PySem.W.Frag) (c : Addr) : Addr := match K.lookup c with
  | some ⟨_, _, .fields vs, _⟩ => (match vs.getD 11 .none with
    | .ref P => P
    | _ => 0)
  | _ => 0
abbrev cdAt (K : PySem.W.Frag) (x : Str) : Addr := cdOf K (He.ga K x)
abbrev tbAt (K : PySem.W.Frag) (x : Str) : Addr := tbOf K (cdAt K x)
def lamQ (x : Str) : Str := x ++ ".<locals>." ++ "<lambda>"
def RO (K : PySem.W.Frag) (mg : Str → Option Value) (H : Hp) (as : List Addr) (a : Addr) : MO → Prop
  | .lst xs => ∃ ys, H a = some (.lst ys) ∧ RPs K mg H as xs ys
  | .ins c fs => ∃ C dx gs, mg c = some (.ref C) ∧ H a = some (.ins C dx gs) ∧ gs.map (·.1) = fs.map (·.1) ∧ RPs K mg H as (fs.map (·.2)) (gs.map (·.2))
  | .dks kvs => ∃ gs, H a = some (.dK gs) ∧ gs.map (·.1) = kvs.map (fun q => (Sum.inr q.1 : Key)) ∧ RPs K mg H as (kvs.map (·.2)) (gs.map (·.2))
  | .tbl x => a = tbAt K x ∧ ∃ ps : Array Value, H a = some (.tbl ps) ∧ TriplesOk ps.toList ∧ ∀ (pos : Pos) (cv : Value), codeAmong pos ps.toList = some cv → ∃ c, cv = .ref c ∧ H c = some (LamX.CodeO c (lamQ x)) ∧ c ∉ as
  | .dct kvs => ∃ gs, H a = some (.dT gs) ∧ gs.map (·.1) = kvs.map (fun q => q.1.map (Sum.inl : Int → Key)) ∧ RPs K mg H as (kvs.map (·.2)) (gs.map (·.2))
structure RH (K : PySem.W.Frag) (mg : Str → Option Value) (H : Hp) (as : List Addr) (h : IH) : Prop where
  len : as.length = h.length
  nd : as.Nodup
  at_ : ∀ (n : Nat) (o : MO), h[n]? = some o → ∃ a, as[n]? = some a ∧ RO K mg H as a o
structure RF (K : PySem.W.Frag) (mg : Str → Option Value) (H : Hp) (as : List Addr) (r : Fm) (s : L2.St) : Prop where
  len : r.length = s.length
  at_ : ∀ (i : Nat) (p : PV), r[i]? = some (some p) → ∃ v, s[i]? = some (some v) ∧ RP K mg H as p v
section
variable {K : PySem.W.Frag} {mg : Str → Option Value} {as as' : List Addr} {H H' : Hp} {h : IH} {r : Fm} {s : L2.St}
theorem RF.mono (S : Stp as H as' H') (f : RF K mg H as r s) : RF K mg H' as' r s := ⟨f.len, fun i p e => by
  obtain ⟨v, h1, h2⟩ := f.at_ i p e
  exact ⟨v, h1, h2.mono S⟩⟩
theorem RF.set {i : Nat} {p : PV} {v : V} (f : RF K mg H as r s) (hp : RP K mg H as p v) : RF K mg H as (r.set i (some p)) (s.set i (some v)) := by
  refine ⟨by simp [f.len], fun j q e => ?_⟩
  by_cases hj : j = i
  · subst hj
    by_cases hl : j < r.length
    · rw [List.getElem?_set_self hl] at e
      cases e
      exact ⟨v, List.getElem?_set_self (by rw [← f.len]; exact hl), hp⟩
    · rw [List.getElem?_eq_none (by simpa using hl)] at e; cases e
  · rw [List.getElem?_set_ne (Ne.symm hj)] at e
    rw [List.getElem?_set_ne (Ne.symm hj)]
    exact f.at_ j q e
theorem RO.isS {a : Addr} {o : MO} (x : RO K mg H as a o) : ∃ u, H a = some u := by
  cases o with
  | lst xs => obtain ⟨ys, e, _⟩ := x; exact ⟨_, e⟩
  | ins c fs => obtain ⟨C, dx, gs, _, e, _⟩ := x; exact ⟨_, e⟩
  | dct kvs => obtain ⟨gs, e, _⟩ := x; exact ⟨_, e⟩
  | dks kvs => obtain ⟨gs, e, _⟩ := x; exact ⟨_, e⟩
  | tbl y => obtain ⟨_, ps, e, _⟩ := x; exact ⟨_, e⟩
theorem RH.mem (x : RH K mg H as h) {a : Addr} (ha : a ∈ as) : H a ≠ none := by
  obtain ⟨n, hn, e⟩ := List.getElem_of_mem ha
  have hn' : n < h.length := by rw [← x.len]; exact hn
  obtain ⟨b, h1, h2⟩ := x.at_ n h[n] (by simp [hn'])
  rw [List.getElem?_eq_getElem hn] at h1
  have e2 : b = a := by rw [← e]; exact (Option.some.inj h1).symm
  subst e2
  obtain ⟨u, q⟩ := h2.isS
  rw [q]; simp
theorem RO.mono {a : Addr} {o : MO} (S : Stp as H as' H') (e : H' a = H a) (x : RO K mg H as a o) : RO K mg H' as' a o := by
  cases o with
  | lst xs => obtain ⟨ys, e1, r⟩ := x; exact ⟨ys, e.trans e1, r.mono S⟩
  | ins c fs => obtain ⟨C, dx, gs, e0, e1, e2, r⟩ := x; exact ⟨C, dx, gs, e0, e.trans e1, e2, r.mono S⟩
  | dct kvs => obtain ⟨gs, e1, e2, r⟩ := x; exact ⟨gs, e.trans e1, e2, r.mono S⟩
  | dks kvs => obtain ⟨gs, e1, e2, r⟩ := x; exact ⟨gs, e.trans e1, e2, r.mono S⟩
  | tbl y =>
    obtain ⟨ea, ps, e1, e2, e3⟩ := x
    refine ⟨ea, ps, e.trans e1, e2, fun pos cv hc => ?_⟩
    obtain ⟨c, e4, e5, e6⟩ := e3 pos cv hc
    refine ⟨c, e4, S.oth _ _ e5 e6, fun z => ?_⟩
    obtain ⟨more, em, hm⟩ := S.pre
    rw [em] at z
    rcases List.mem_append.mp z with z | z
    · exact e6 z
    · rw [hm _ z] at e5; cases e5
/-- something that is no object of ours is laid -/
theorem Stp.lay {p : Addr} {o : HO} (x : RH K mg H as h) (n : H p = none) : Stp as H as (upd H p o) :=
  ⟨⟨[], by simp, by simp⟩, fun b ys e => by rw [upd_ne (ne_of_none e n)]; exact e, fun b u v e => by rw [upd_ne (ne_of_none e n)]; exact e, fun b u e _ => by rw [upd_ne (ne_of_none e n)]; exact e, fun b e z => by
    by_cases hb : b = p
    · subst hb; exact e n
    · rw [upd_ne hb] at z; exact e z⟩
theorem RH.lay {p : Addr} {o : HO} (x : RH K mg H as h) (n : H p = none) : RH K mg (upd H p o) as h :=
  ⟨x.len, x.nd, fun m q e => by
    obtain ⟨a, h1, h2⟩ := x.at_ m q e
    obtain ⟨u, hu⟩ := h2.isS
    exact ⟨a, h1, h2.mono (Stp.lay x n) (upd_ne (ne_of_none hu n))⟩⟩
/-- a new object of ours -/
theorem Stp.new {p : Addr} {o : HO} (x : RH K mg H as h) (n : H p = none) : Stp as H (as ++ [p]) (upd H p o) := by
  have q := Stp.lay (o := o) x n
  exact ⟨⟨[p], rfl, fun b hb => by rw [List.mem_singleton.mp hb]; exact n⟩, q.tup, q.frz, q.oth, q.liv⟩
theorem RH.new {p : Addr} {o : HO} {m : MO} (x : RH K mg H as h) (n : H p = none) (hm : RO K mg (upd H p o) (as ++ [p]) p m) : RH K mg (upd H p o) (as ++ [p]) (h ++ [m]) := by
  refine ⟨by simp [x.len], ?_, fun k q e => ?_⟩
  · rw [List.nodup_append]
    refine ⟨x.nd, by simp, fun a ha b hb => ?_⟩
    rw [List.mem_singleton.mp hb]
    exact fun z => x.mem ha (by rw [z]; exact n)
  · by_cases hk : k < h.length
    · rw [List.getElem?_append_left hk] at e
      obtain ⟨a, h1, h2⟩ := x.at_ k q e
      obtain ⟨u, hu⟩ := h2.isS
      exact ⟨a, (Stp.new (o := o) x n).get h1, h2.mono (Stp.new x n) (upd_ne (ne_of_none hu n))⟩
    · rw [List.getElem?_append_right (by omega)] at e
      have e0 : k - h.length = 0 := by
        cases z : k - h.length with
        | zero => rfl
        | succ y => rw [z] at e; simp at e
      rw [e0] at e
      cases e
      refine ⟨p, ?_, hm⟩
      rw [List.getElem?_append_right (by rw [x.len]; omega), x.len, e0]
      rfl
/-- an object of ours is changed -/
def isMut : HO → Bool
  | .lst _ => true
  | .ins _ _ _ => true
  | .dT _ => true
  | .dK _ => true
  | .tbl _ => true
  | _ => false
theorem RO.isM {a : Addr} {o : MO} (x : RO K mg H as a o) : ∃ u, H a = some u ∧ isMut u = true := by
  cases o with
  | lst xs => obtain ⟨ys, e, _⟩ := x; exact ⟨_, e, rfl⟩
  | ins c fs => obtain ⟨C, dx, gs, _, e, _⟩ := x; exact ⟨_, e, rfl⟩
  | dct kvs => obtain ⟨gs, e, _⟩ := x; exact ⟨_, e, rfl⟩
  | dks kvs => obtain ⟨gs, e, _⟩ := x; exact ⟨_, e, rfl⟩
  | tbl y => obtain ⟨_, ps, e, _⟩ := x; exact ⟨_, e, rfl⟩
theorem Stp.put {n : Nat} {a : Addr} {o : HO} {q : MO} (x : RH K mg H as h) (ha : as[n]? = some a) (hq : h[n]? = some q) : Stp as H as (upd H a o) := by
  obtain ⟨b, h1, h2⟩ := x.at_ n q hq
  rw [ha] at h1; cases h1
  obtain ⟨u, hu, hm⟩ := h2.isM
  refine ⟨⟨[], by simp, by simp⟩, fun b ys e => ?_, fun b v w e => ?_, fun b v e hb => ?_, fun b e z => ?_⟩
  · rw [upd_ne (fun z => by rw [z, hu] at e; cases e; cases hm)]; exact e
  · rw [upd_ne (fun z => by rw [z, hu] at e; cases e; cases hm)]; exact e
  · rw [upd_ne (fun z => hb (by rw [z]; exact List.mem_of_getElem? ha))]; exact e
  · by_cases hb : b = a
    · subst hb; rw [upd_same] at z; cases z
    · rw [upd_ne hb] at z; exact e z
theorem RH.put {n : Nat} {a : Addr} {o : HO} {q m : MO} (x : RH K mg H as h) (ha : as[n]? = some a) (hq : h[n]? = some q) (hm : RO K mg (upd H a o) as a m) : RH K mg (upd H a o) as (h.set n m) := by
  refine ⟨by simp [x.len], x.nd, fun k p e => ?_⟩
  by_cases hk : k = n
  · subst hk
    have hl : k < h.length := (List.getElem?_eq_some_iff.mp hq).1
    rw [List.getElem?_set_self hl] at e
    cases e
    exact ⟨a, ha, hm⟩
  · rw [List.getElem?_set_ne (Ne.symm hk)] at e
    obtain ⟨b, h1, h2⟩ := x.at_ k p e
    have hne : b ≠ a := fun z => by
      subst z
      obtain ⟨l1, e1⟩ := List.getElem?_eq_some_iff.mp h1
      obtain ⟨l2, e2⟩ := List.getElem?_eq_some_iff.mp ha
      exact hk ((List.getElem_inj x.nd).mp (e1.trans e2.symm))
    exact ⟨b, h1, h2.mono (Stp.put x ha hq) (upd_ne hne)⟩
end
/-- nothing comes out of a call that lets nothing out -/
theorem passN {X : Cx} : Passes (L2N.CX X.prog X.w) X E0 := fun pins sg hp st er st' inv out => by
  rcases out with ⟨ad, bs, hq, kl, di, q1, q2, q3, q4, q5, q6, q7, never⟩
  exact absurd never id
end WR

/-! the readings that the functional code gives, and the rules: statements, loops, names, calls -/
namespace WR
open PySem PySem.Spec PyProof.Rows L2

/-- how an exception stands -/
def RX (K : PySem.W.Frag) (mg : Str → Option Value) (H : Hp) (as : List Addr) (x : XV) (cls : Value) (d : Option Addr) : Prop :=
  ∃ C, mg x.cls = some (.ref C) ∧ cls = .ref C ∧ ((x.fs = [] ∧ d = none) ∨ ∃ dd gs, x.fs ≠ [] ∧ d = some dd ∧ H dd = some (.xd gs) ∧ dd ∉ as ∧ gs.map (·.1) = x.fs.map (·.1) ∧ RPs K mg H as (x.fs.map (·.2)) (gs.map (·.2)))
def Out {α β : Type} (K : PySem.W.Frag) (mg : Str → Option Value) (R : Hp → List Addr → α → β → Prop) (W : WX) (s : L2.St) (as : List Addr) (H : Hp) (Q : β → Hp → Prop) : Res α → Prop
  | .ok a h' => ∀ b H' as', Stp as H as' H' → RH K mg H' as' h' → R H' as' a b → Q b H'
  | .ex x h' => ∀ cls d H' as', Stp as H as' H' → RH K mg H' as' h' → RX K mg H' as' x cls d → W cls d s H'
  | .bad => False
section
variable {α β γ δ : Type} {K : PySem.W.Frag} {mg : Str → Option Value} {R : Hp → List Addr → α → β → Prop} {R' : Hp → List Addr → γ → δ → Prop} {W : WX} {s : L2.St} {as as' : List Addr} {H H' : Hp} {Q Q' : β → Hp → Prop}
theorem Out.shift {r : Res α} (S : Stp as H as' H') (o : Out K mg R W s as H Q r) : Out K mg R W s as' H' Q r := by
  cases r with
  | ok a h => exact fun b H1 as1 S1 R1 r1 => o b H1 as1 (S.trans S1) R1 r1
  | ex x h => exact fun c d H1 as1 S1 R1 r1 => o c d H1 as1 (S.trans S1) R1 r1
  | bad => exact o
theorem Out.imp {r : Res α} (o : Out K mg R W s as H Q r) (h : ∀ b H', Q b H' → Q' b H') : Out K mg R W s as H Q' r := by
  cases r with
  | ok a h' => exact fun b H1 as1 S1 R1 r1 => h _ _ (o b H1 as1 S1 R1 r1)
  | ex x h' => exact o
  | bad => exact o
theorem Out.bind {Q : δ → Hp → Prop} {r : Res α} {f : α → IH → Res γ} (o : Out K mg R' W s as H Q (r.bind f)) :
    Out K mg R W s as H (fun b H1 => ∃ as1 h1 a, Stp as H as1 H1 ∧ RH K mg H1 as1 h1 ∧ R H1 as1 a b ∧ Out K mg R' W s as1 H1 Q (f a h1)) r := by
  cases r with
  | ok a h => exact fun b H1 as1 S1 R1 r1 => ⟨as1, h, a, S1, R1, r1, o.shift S1⟩
  | ex x h => exact o
  | bad => exact o
theorem Out.here {a : α} {b : β} {h : IH} (o : Out K mg R W s as H Q (.ok a h)) (x : RH K mg H as h) (r : R H as a b) : Q b H := o b H as (Stp.refl as H) x r
end
/-- the reading of an expression, a test, a list of arguments, an iterator: by its functional code -/
def IG {α β : Type} (K : PySem.W.Frag) (mg : Str → Option Value) (R : Hp → List Addr → α → β → Prop) (W : WX) (A : Fm → IH → Res α) : L2.St → Hp → (β → Hp → Prop) → Prop :=
  fun s H Q => ∃ as r h, RF K mg H as r s ∧ RH K mg H as h ∧ Out K mg R W s as H Q (A r h)
abbrev IE (K : PySem.W.Frag) (mg : Str → Option Value) (W : WX) (A : EX) : TE := IG K mg (fun H as p v => RP K mg H as p v) W A
abbrev IT (K : PySem.W.Frag) (mg : Str → Option Value) (W : WX) (A : TX) : TT := IG K mg (fun _ _ p v => p = v) W A
abbrev IA (K : PySem.W.Frag) (mg : Str → Option Value) (W : WX) (A : AX) : TA := IG K mg (fun H as p v => RPs K mg H as p v) W A
def OutS (K : PySem.W.Frag) (mg : Str → Option Value) (W : WX) (as : List Addr) (H : Hp) (D : Ends) : RS → Prop
  | .nx r h => ∀ s' H' as', Stp as H as' H' → RH K mg H' as' h → RF K mg H' as' r s' → D.nx s' H'
  | .rt v h => ∀ V H' as', Stp as H as' H' → RH K mg H' as' h → RP K mg H' as' v V → D.rt V H'
  | .bk r h => ∀ s' H' as', Stp as H as' H' → RH K mg H' as' h → RF K mg H' as' r s' → D.bk s' H'
  | .ct r h => ∀ s' H' as', Stp as H as' H' → RH K mg H' as' h → RF K mg H' as' r s' → D.ct s' H'
  | .ex x r h => ∀ cls d s' H' as', Stp as H as' H' → RH K mg H' as' h → RF K mg H' as' r s' → RX K mg H' as' x cls d → W cls d s' H'
  | .bad => False
def IS (K : PySem.W.Frag) (mg : Str → Option Value) (W : WX) (B : SX) : TS := fun D s H => ∃ as r h, RF K mg H as r s ∧ RH K mg H as h ∧ OutS K mg W as H D (B r h)
section
variable {K : PySem.W.Frag} {mg : Str → Option Value} {W : WX} {as as' : List Addr} {H H' : Hp} {D D' : Ends}
theorem OutS.shift {r : RS} (S : Stp as H as' H') (o : OutS K mg W as H D r) : OutS K mg W as' H' D r := by
  cases r with
  | nx r h => exact fun b H1 as1 S1 => o b H1 as1 (S.trans S1)
  | rt r h => exact fun b H1 as1 S1 => o b H1 as1 (S.trans S1)
  | bk r h => exact fun b H1 as1 S1 => o b H1 as1 (S.trans S1)
  | ct r h => exact fun b H1 as1 S1 => o b H1 as1 (S.trans S1)
  | ex x r h => exact fun c d s H1 as1 S1 => o c d s H1 as1 (S.trans S1)
  | bad => exact o
end
/-! ### the code -/
@[simp] def eVar (i : Nat) : EX := fun r h => match r[i]? with
  | some (some v) => .ok v h
  | _ => .bad
@[simp] def eC (v : PV) : EX := fun _ h => .ok v h
@[simp] def aNil : AX := fun _ h => .ok [] h
@[simp] def aCons (A : EX) (B : AX) : AX := fun r h => (A r h).bind fun x h1 => (B r h1).bind fun xs h2 => .ok (x :: xs) h2
@[simp] def sNil : SX := fun r h => .nx r h
@[simp] def sSeq (B C : SX) : SX := fun r h => match B r h with
  | .nx r1 h1 => C r1 h1
  | o => o
/-- an expression's end as a statement's -/
@[simp] def toS {α : Type} (o : Res α) (r : Fm) (k : α → IH → RS) : RS := match o with
  | .ok a h => k a h
  | .ex x h => .ex x r h
  | .bad => .bad
@[simp] def sSet (i : Nat) (A : EX) : SX := fun r h => toS (A r h) r fun v h1 => .nx (r.set i (some v)) h1
@[simp] def sPar (i j : Nat) (A : AX) : SX := fun r h => toS (A r h) r fun vs h1 => match vs with
  | [v, w] => .nx ((r.set i (some v)).set j (some w)) h1
  | _ => .bad
@[simp] def sExpr (A : EX) : SX := fun r h => toS (A r h) r fun _ h1 => .nx r h1
@[simp] def sRet (A : EX) : SX := fun r h => toS (A r h) r fun v h1 => .rt v h1
@[simp] def sIf (c : TX) (B C : SX) : SX := fun r h => toS (c r h) r fun b h1 => if b then B r h1 else C r h1
@[simp] def sBad : SX := fun _ _ => .bad
@[simp] def sBreak : SX := fun r h => .bk r h
/-- a function: its body over the arguments and n empty places -/
@[simp] def fn (ps n : Nat) (B : SX) : List PV → IH → Res PV := fun us h => if us.length = ps then (match B (us.map some ++ List.replicate n none) h with
  | .nx _ h1 => .ok .non h1
  | .rt v h1 => .ok v h1
  | .ex x _ h1 => .ex x h1
  | _ => .bad) else .bad
@[simp] def eCall (F : List PV → IH → Res PV) (A : AX) : EX := fun r h => (A r h).bind F
def whileL (c : TX) (B : SX) : Nat → SX
  | 0 => fun _ _ => .bad
  | n + 1 => fun r h => toS (c r h) r fun b h1 => if b then (match B r h1 with
    | .nx r2 h2 => whileL c B n r2 h2
    | .ct r2 h2 => whileL c B n r2 h2
    | .bk r2 h2 => .nx r2 h2
    | o => o) else .nx r h1
/-- what a loop walks: at turn i it yields, it stops, or we do not know -/
abbrev ItF := Nat → IH → Option (Option PV)
abbrev TgF := PV → Fm → Option Fm
def forL (it : ItF) (g : TgF) (B : SX) : Nat → Nat → SX
  | 0, _ => fun _ _ => .bad
  | n + 1, i => fun r h => match it i h with
    | none => .bad
    | some none => .nx r h
    | some (some v) => (match g v r with
      | none => .bad
      | some r1 => (match B r1 h with
        | .nx r2 h2 => forL it g B n (i + 1) r2 h2
        | .ct r2 h2 => forL it g B n (i + 1) r2 h2
        | .bk r2 h2 => .nx r2 h2
        | o => o))
def LIM : Nat := 1048576
def sWhile (c : TX) (B : SX) : SX := whileL c B LIM
def sFor (I : Fm → IH → Res ItF) (g : TgF) (B : SX) : SX := fun r h => toS (I r h) r fun it h1 => forL it g B LIM 0 r h1
@[simp] def gVar (i : Nat) : TgF := fun v r => some (r.set i (some v))
@[simp] def setAll : List Nat → List PV → Fm → Option Fm
  | [], [], r => some r
  | i :: is, v :: vs, r => setAll is vs (r.set i (some v))
  | _, _, _ => none
@[simp] def gTupF (is : List Nat) : TgF := fun v r => match v with
  | .tup vs => setAll is vs r
  | _ => none
@[simp] def sAsgT (g : TgF) (A : EX) : SX := fun r h => toS (A r h) r fun v h1 => match g v r with
  | some r1 => .nx r1 h1
  | none => .bad

/-! ### the rules -/
/-- where the code runs -/
structure Ctx (X : Cx) (W : WX) (k : Nat) : Prop where
  tk : L2N.Takes X W
  po : PassesOwn (model X.prog X.w) X.A X.env X.xe
  calm : X.calm = true
  nd : X.N.Nodup
  room : Room k X.A
section
variable {X : Cx} {W : WX} {k : Nat} {e : Expr} {es : List Expr} {pos : Pos} {A : EX} {L : AX} {c : TX} {B C : SX} {st : Stmt} {sts : List Stmt}
theorem peImp {t t' : TE} (h : PE X e t) (hi : ∀ s H Q, t' s H Q → t s H Q) : PE X e t' := ⟨fun pins s σ H Q I q => h.run pins s σ H Q I (hi σ H Q q)⟩
theorem ptImp {t t' : TT} (h : PT X e t) (hi : ∀ s H Q, t' s H Q → t s H Q) : PT X e t' := ⟨fun pins s σ H Q I q => h.run pins s σ H Q I (hi σ H Q q)⟩
theorem paImp {t t' : TA} (h : PA X es t) (hi : ∀ s H Q, t' s H Q → t s H Q) : PA X es t' := ⟨fun pos pins s σ H Q I q => h.run pos pins s σ H Q I (hi σ H Q q)⟩
theorem psImp {t t' : TS} (h : PS X st t) (hi : ∀ D s H, t' D s H → t D s H) : PS X st t' := ⟨fun pins s σ H D I q => h.run pins s σ H D I (hi D σ H q)⟩
theorem pssImp {t t' : TS} (h : PSs X sts t) (hi : ∀ D s H, t' D s H → t D s H) : PSs X sts t' := ⟨fun pins s σ H D I q => h.run pins s σ H D I (hi D σ H q)⟩
theorem piImp {tg : Expr} {t t' : TI} (h : PI X tg e t) (hi : ∀ s H Q, t' s H Q → t s H Q) : PI X tg e t' := ⟨fun pins s σ H Q I q => h.run pins s σ H Q I (hi σ H Q q)⟩

theorem ie_var (i : Nat) {x : Str} (hN : X.N[i]? = some x := by rfl) (hv : Vis X.env.scope x := by first | exact Or.inl rfl | exact Or.inr (Or.inl rfl) | exact Or.inr (Or.inr rfl)) (hd : (x == ("__debug__" : Str)) = false := by decide)
    (hcd : (x == ("__classdict__" : Str)) = false := by decide) : PE X (.Name x pos) (IE X.K X.mg W (eVar i)) := by
  refine peImp (pe_var hN hv hd hcd) fun s H Q ⟨as, r, h, f, x, o⟩ => ?_
  unfold eVar at o
  split at o
  · rename_i v e1
    obtain ⟨V, e2, rv⟩ := f.at_ i v e1
    exact ⟨V, e2, o.here x rv⟩
  · exact o.elim
/-- a constant that is a plain value -/
theorem ie_const {V : V} {p : PV} (h : PE X e (tC V)) (r : ∀ H as, RP X.K X.mg H as p V) : PE X e (IE X.K X.mg W (eC p)) :=
  peImp h fun s H Q ⟨as, _, _, _, x, o⟩ => o.here x (r H as)
theorem ie_int {i j} : PE X (.Constant (.int i) j pos) (IE X.K X.mg W (eC (.int i))) := ie_const pe_int fun _ _ => .int i
theorem ie_bl {b j} : PE X (.Constant (.bool b) j pos) (IE X.K X.mg W (eC (.bl b))) := ie_const pe_bl fun _ _ => .bl b
theorem ie_non {j} : PE X (.Constant .none j pos) (IE X.K X.mg W (eC .non)) := ie_const pe_non fun _ _ => .non
theorem ie_str {x j} : PE X (.Constant (.str x) j pos) (IE X.K X.mg W (eC (.str x))) := ie_const pe_str fun _ _ => .str x
theorem ie_gint {x : Str} {i : Int} (hg : Gl X x) (hm : ∃ t, X.mg x = some (.int i t)) (hd : (x == ("__debug__" : Str)) = false := by decide) : PE X (.Name x pos) (IE X.K X.mg W (eC (.int i))) := by
  obtain ⟨t, hm⟩ := hm
  exact ie_const (pe_glob (v := .int i) hg hm ⟨t, rfl⟩ hd) fun _ _ => .int i
/-- a tuple of the top -/
theorem ie_gtup {x : Str} {a : Addr} {ys : List V} {ps : List PV} (hg : Gl X x) (hm : X.mg x = some (.ref a)) (hs : ∀ H, SqT X.K H a ys) (hp : ∀ H as, RPs X.K X.mg H as ps ys) (hd : (x == ("__debug__" : Str)) = false := by decide) : PE X (.Name x pos) (IE X.K X.mg W (eC (.tup ps))) :=
  ie_const (pe_glob (v := .ref a) hg hm rfl hd) fun H as => .tup (hs H) (hp H as)
/-- a def or class of the top as a value -/
theorem ie_glo {x : Str} {a : Addr} (hg : Gl X x) (hm : X.mg x = some (.ref a)) (hd : (x == ("__debug__" : Str)) = false := by decide) : PE X (.Name x pos) (IE X.K X.mg W (eC (.glo x))) :=
  ie_const (pe_glob (v := .ref a) hg hm rfl hd) fun H as => .glo hm rfl
/-- a built-in type as a value -/
theorem ie_ty {x : Str} {n : String} (hg : Gl X x) (hm : X.mg x = none) (hv : bootBuiltins x = some (.type n)) (hn : x ≠ "__name__" := by decide) (hd : (x == ("__debug__" : Str)) = false := by decide) : PE X (.Name x pos) (IE X.K X.mg W (eC (.ty n))) :=
  ie_const (pe_bltn (v := .ty n) hg hm hv rfl hn hd) fun _ _ => .ty n

theorem ia_nil : PA X [] (IA X.K X.mg W aNil) := paImp pa_nil fun s H Q ⟨as, _, _, _, x, o⟩ => o.here x RPs.nil
theorem ia_cons (ha : PE X e (IE X.K X.mg W A)) (hr : PA X es (IA X.K X.mg W L)) (hs : starEach (e :: es) X.env = (false, eval e X.env) :: starEach es X.env := by rfl) : PA X (e :: es) (IA X.K X.mg W (aCons A L)) := by
  refine paImp (pa_cons ha hr hs) fun s H Q ⟨as, r, h, f, x, o⟩ => ?_
  refine ⟨as, r, h, f, x, (Out.bind o).imp fun V H1 ⟨as1, h1, p, S1, x1, r1, o1⟩ => ?_⟩
  refine ⟨as1, r, h1, f.mono S1, x1, (Out.bind o1).imp fun Vs H2 ⟨as2, h2, ps, S2, x2, r2, o2⟩ => ?_⟩
  exact o2.here x2 (RPs.cons (r1.mono S2) r2)

theorem is_nil : PSs X [] (IS X.K X.mg W sNil) := pssImp pss_nil fun D s H ⟨as, r, h, f, x, o⟩ => o s H as (Stp.refl _ _) x f
theorem is_cons (h1 : PS X st (IS X.K X.mg W B)) (h2 : PSs X sts (IS X.K X.mg W C)) : PSs X (st :: sts) (IS X.K X.mg W (sSeq B C)) := by
  refine pssImp (pss_cons h1 h2) fun D s H ⟨as, r, h, f, x, o⟩ => ?_
  refine ⟨as, r, h, f, x, ?_⟩
  unfold sSeq at o
  cases q : B r h with
  | nx r1 h1 =>
    rw [q] at o
    exact fun s' H' as' S' x' f' => ⟨as', r1, h1, f', x', o.shift S'⟩
  | rt v h1 => rw [q] at o; exact o
  | bk r1 h1 => rw [q] at o; exact o
  | ct r1 h1 => rw [q] at o; exact o
  | ex z r1 h1 => rw [q] at o; exact o
  | bad => rw [q] at o; exact o
theorem is_one (h1 : PS X st (IS X.K X.mg W B)) : PSs X [st] (IS X.K X.mg W B) := pss_one h1
/-- from an expression's end to a statement's -/
theorem outS_of {α β : Type} {K : PySem.W.Frag} {mg : Str → Option Value} {R : Hp → List Addr → α → β → Prop} {s : L2.St} {as : List Addr} {H : Hp} {D : Ends} {o : Res α} {r : Fm} {kk : α → IH → RS} (f : RF K mg H as r s) (h : OutS K mg W as H D (toS o r kk)) :
    Out K mg R W s as H (fun b H1 => ∃ as1 h1 a, Stp as H as1 H1 ∧ RH K mg H1 as1 h1 ∧ R H1 as1 a b ∧ OutS K mg W as1 H1 D (kk a h1)) o := by
  cases o with
  | ok a h1 => exact fun b H1 as1 S1 R1 r1 => ⟨as1, h1, a, S1, R1, r1, OutS.shift S1 h⟩
  | ex z h1 => exact fun c d H1 as1 S1 R1 r1 => h c d s H1 as1 S1 R1 (f.mono S1) r1
  | bad => exact h
theorem is_set {i : Nat} {x : Str} {pos' : Pos} (cx : Ctx X W k) (he : PE X e (IE X.K X.mg W A)) (hi : X.N[i]? = some x := by rfl) (hx : Loc X.env.scope x := by first | exact Or.inl rfl | exact Or.inr rfl) (hs : swapsWith e (some (.Name x pos')) pos.line X.env = pure false := by rfl)
    (hf : X.fn x = true ∨ X.env.scope.names.lookup x = some .local := by first | exact .inl rfl | exact .inr rfl | assumption) : PS X (.Assign [.Name x pos'] e pos) (IS X.K X.mg W (sSet i A)) := by
  refine psImp (ps_set cx.nd hi hx he hs hf) fun D s H ⟨as, r, h, f, x, o⟩ => ?_
  refine ⟨as, r, h, f, x, (outS_of f o).imp fun V H1 ⟨as1, h1, p, S1, x1, r1, o1⟩ => ?_⟩
  exact o1 _ H1 as1 (Stp.refl _ _) x1 ((f.mono S1).set r1)
theorem is_par {i j : Nat} {x y : Str} {a b : Expr} {px py pt : Pos} {kt k2 pt2} (cx : Ctx X W k) (ha : PA X [a, b] (IA X.K X.mg W L)) (hij : i ≠ j := by decide) (hi : X.N[i]? = some x := by rfl) (hj : X.N[j]? = some y := by rfl)
    (hx : X.env.scope.names.lookup x = some .local := by rfl) (hy : X.env.scope.names.lookup y = some .local := by rfl)
    (hw : swappedStores [.Tuple [.Name x px, .Name y py] kt pt] (.Tuple [a, b] k2 pt2) X.env = pure (some [x, y]) := by rfl)
    (hs : swapsWithSole [.Tuple [.Name x px, .Name y py] kt pt] (.Tuple [a, b] k2 pt2) pos.line X.env = pure false := by rfl) :
    PS X (.Assign [.Tuple [.Name x px, .Name y py] kt pt] (.Tuple [a, b] k2 pt2) pos) (IS X.K X.mg W (sPar i j L)) := by
  refine psImp (ps_par cx.calm cx.nd hi hj hij hx hy ha hw hs) fun D s H ⟨as, r, h, f, x, o⟩ => ?_
  refine ⟨as, r, h, f, x, (outS_of f o).imp fun Vs H1 ⟨as1, h1, ps, S1, x1, r1, o1⟩ => ?_⟩
  split at o1
  · obtain ⟨v, w, e1, rv, rw'⟩ := RPs.inv2 r1
    exact ⟨v, w, e1, o1 _ H1 as1 (Stp.refl _ _) x1 (((f.mono S1).set rv).set rw')⟩
  · exact o1.elim
theorem is_expr (he : PE X e (IE X.K X.mg W A)) (hs : swapsWith e none pos.line X.env = pure false := by rfl) : PS X (.Expr e pos) (IS X.K X.mg W (sExpr A)) := by
  refine psImp (ps_expr he hs) fun D s H ⟨as, r, h, f, x, o⟩ => ?_
  refine ⟨as, r, h, f, x, (outS_of f o).imp fun V H1 ⟨as1, h1, p, S1, x1, r1, o1⟩ => ?_⟩
  exact o1 s H1 as1 (Stp.refl _ _) x1 (f.mono S1)
theorem is_ret (he : PE X e (IE X.K X.mg W A)) : PS X (.Return (some e) pos) (IS X.K X.mg W (sRet A)) := by
  refine psImp (ps_ret he) fun D s H ⟨as, r, h, f, x, o⟩ => ?_
  refine ⟨as, r, h, f, x, (outS_of f o).imp fun V H1 ⟨as1, h1, p, S1, x1, r1, o1⟩ => ?_⟩
  exact o1 V H1 as1 (Stp.refl _ _) x1 r1
theorem is_if {t : Expr} {a b : List Stmt} (hc : PT X t (IT X.K X.mg W c)) (ha : PSs X a (IS X.K X.mg W B)) (hb : PSs X b (IS X.K X.mg W C)) : PS X (.If t a b pos) (IS X.K X.mg W (sIf c B C)) := by
  refine psImp (ps_if hc ha hb) fun D s H ⟨as, r, h, f, x, o⟩ => ?_
  refine ⟨as, r, h, f, x, (outS_of f o).imp fun d H1 ⟨as1, h1, p, S1, x1, r1, o1⟩ => ?_⟩
  obtain rfl : p = d := r1
  cases p with
  | true => exact ⟨as1, r, h1, f.mono S1, x1, o1⟩
  | false => exact ⟨as1, r, h1, f.mono S1, x1, o1⟩
theorem is_bad : PS X st (IS X.K X.mg W sBad) := psImp ps_never fun D s H ⟨as, r, h, f, x, o⟩ => o
theorem is_break : PS X (.Break pos) (IS X.K X.mg W sBreak) := psImp ps_break fun D s H ⟨as, r, h, f, x, o⟩ => o s H as (Stp.refl _ _) x f

/-! ### loops -/
theorem is_while {t : Expr} {body : List Stmt} (cx : Ctx X W k) (hc : PT X t (IT X.K X.mg W c)) (hb : PSs X body (IS X.K X.mg W B)) : PS X (.While t body [] pos) (IS X.K X.mg W (sWhile c B)) := by
  refine psImp (ps_while cx.po hc hb) fun D s H ⟨as, r, h, f, x, o⟩ => ?_
  refine ⟨fun m s1 H1 => ∃ as1 r1 h1, RF X.K X.mg H1 as1 r1 s1 ∧ RH X.K X.mg H1 as1 h1 ∧ OutS X.K X.mg W as1 H1 D (whileL c B m r1 h1), ⟨LIM, as, r, h, f, x, o⟩, ?_⟩
  rintro m s1 H1 ⟨as1, r1, h1, f1, x1, o1⟩
  cases m with
  | zero => exact o1.elim
  | succ m =>
    refine ⟨as1, r1, h1, f1, x1, (outS_of f1 o1).imp fun d H2 ⟨as2, h2, p, S2, x2, e2, o2⟩ => ?_⟩
    obtain rfl : p = d := e2
    cases p with
    | false => exact o2 s1 H2 as2 (Stp.refl _ _) x2 (f1.mono S2)
    | true =>
      refine ⟨fun s3 H3 => ∃ as3 r3 h3, RF X.K X.mg H3 as3 r3 s3 ∧ RH X.K X.mg H3 as3 h3 ∧ OutS X.K X.mg W as3 H3 D (whileL c B m r3 h3), fun s3 H3 ⟨as3, r3, h3, f3, x3, o3⟩ => ⟨m, Nat.lt_succ_self m, as3, r3, h3, f3, x3, o3⟩, ?_⟩
      refine ⟨as2, r1, h2, f1.mono S2, x2, ?_⟩
      have o2' : OutS X.K X.mg W as2 H2 D (match B r1 h2 with
        | .nx r2 h2 => whileL c B m r2 h2
        | .ct r2 h2 => whileL c B m r2 h2
        | .bk r2 h2 => .nx r2 h2
        | o => o) := o2
      cases q : B r1 h2 with
      | nx r3 h3 => rw [q] at o2'; exact fun s' H' as' S' x' f' => ⟨as', r3, h3, f', x', o2'.shift S'⟩
      | ct r3 h3 => rw [q] at o2'; exact fun s' H' as' S' x' f' => ⟨as', r3, h3, f', x', o2'.shift S'⟩
      | bk r3 h3 => rw [q] at o2'; exact o2'
      | rt v h3 => rw [q] at o2'; exact o2'
      | ex z r3 h3 => rw [q] at o2'; exact o2'
      | bad => rw [q] at o2'; exact o2'
/-- the layer's walk J does what it says, from as, H on -/
def RI (K : PySem.W.Frag) (mg : Str → Option Value) (H : Hp) (as : List Addr) (it : ItF) (J : It) : Prop :=
  ∀ i as' H' h', Stp as H as' H' → RH K mg H' as' h' → match it i h' with
    | some (some v) => J.go i H' ∧ ∀ x H'', J.yld i H' x H'' → Stp as' H' as' H'' ∧ RH K mg H'' as' h' ∧ RP K mg H'' as' v x
    | some none => J.stop i H'
    | none => True
theorem RI.mono {K : PySem.W.Frag} {mg : Str → Option Value} {as as' : List Addr} {H H' : Hp} {it : ItF} {J : It} (S : Stp as H as' H') (q : RI K mg H as it J) : RI K mg H' as' it J := fun i a h z S' x => q i a h z (S.trans S') x
abbrev II (K : PySem.W.Frag) (mg : Str → Option Value) (W : WX) (A : Fm → IH → Res ItF) : TI := IG K mg (fun H as p v => RI K mg H as p v) W A
/-- a target -/
def GI (K : PySem.W.Frag) (mg : Str → Option Value) (g : TgF) : TG := fun v s H Q => ∃ as r p r1 h, RF K mg H as r s ∧ RH K mg H as h ∧ RP K mg H as p v ∧ g p r = some r1 ∧ ∀ s1, RF K mg H as r1 s1 → Q s1 H
theorem is_for {tg it : Expr} {body : List Stmt} {I : Fm → IH → Res ItF} {g : TgF} (cx : Ctx X W k) (hi : PI X tg it (II X.K X.mg W I)) (hg : PG X tg (GI X.K X.mg g)) (hb : PSs X body (IS X.K X.mg W B))
    (hs : ∀ x, foldedSetIterable it X.env x = pure x := by intro _; rfl) : PS X (.For tg it body [] pos) (IS X.K X.mg W (sFor I g B)) := by
  refine psImp (ps_for cx.po cx.calm hi hg hb hs) fun D s H ⟨as, r, h, f, x, o⟩ => ?_
  refine ⟨as, r, h, f, x, (outS_of f o).imp fun J H1 ⟨as1, h1, itf, S1, x1, ri, o1⟩ => ?_⟩
  refine ⟨fun i m s2 H2 => ∃ as2 r2 h2, RF X.K X.mg H2 as2 r2 s2 ∧ RH X.K X.mg H2 as2 h2 ∧ RI X.K X.mg H2 as2 itf J ∧ OutS X.K X.mg W as2 H2 D (forL itf g B m i r2 h2), ⟨LIM, as1, r, h1, f.mono S1, x1, ri, o1⟩, ?_⟩
  rintro i m s2 H2 ⟨as2, r2, h2, f2, x2, ri2, o2⟩
  cases m with
  | zero => exact o2.elim
  | succ m =>
    have z := ri2 i as2 H2 h2 (Stp.refl _ _) x2
    unfold forL at o2
    cases q : itf i h2 with
    | none => rw [q] at o2; exact o2.elim
    | some w =>
      rw [q] at z o2
      cases w with
      | none => exact .inl ⟨z, o2 s2 H2 as2 (Stp.refl _ _) x2 f2⟩
      | some v =>
        refine .inr ⟨z.1, fun s3 H3 => ∃ as3 r3 h3, RF X.K X.mg H3 as3 r3 s3 ∧ RH X.K X.mg H3 as3 h3 ∧ RI X.K X.mg H3 as3 itf J ∧ OutS X.K X.mg W as3 H3 D (forL itf g B m (i + 1) r3 h3),
          fun s3 H3 ⟨as3, r3, h3, f3, x3, ri3, o3⟩ => ⟨m, Nat.lt_succ_self m, as3, r3, h3, f3, x3, ri3, o3⟩, fun y H3 hy => ?_⟩
        obtain ⟨S3, x3, rv⟩ := z.2 y H3 hy
        have o2' : OutS X.K X.mg W as2 H2 D (match g v r2 with
          | none => .bad
          | some r1 => (match B r1 h2 with
            | .nx r2 h2 => forL itf g B m (i + 1) r2 h2
            | .ct r2 h2 => forL itf g B m (i + 1) r2 h2
            | .bk r2 h2 => .nx r2 h2
            | o => o)) := o2
        cases qg : g v r2 with
        | none => rw [qg] at o2'; exact o2'.elim
        | some r3 =>
          rw [qg] at o2'
          refine ⟨as2, r2, v, r3, h2, f2.mono S3, x3, rv, qg, fun s4 f4 => ⟨as2, r3, h2, f4, x3, ?_⟩⟩
          have o3 := OutS.shift S3 o2'
          cases qb : B r3 h2 with
          | nx r5 h5 => simp only [qb] at o3; exact fun s' H' as' S' x' f' => ⟨as', r5, h5, f', x', (ri2.mono S3).mono S', o3.shift S'⟩
          | ct r5 h5 => simp only [qb] at o3; exact fun s' H' as' S' x' f' => ⟨as', r5, h5, f', x', (ri2.mono S3).mono S', o3.shift S'⟩
          | bk r5 h5 => simp only [qb] at o3; exact o3
          | rt v h5 => simp only [qb] at o3; exact o3
          | ex z r5 h5 => simp only [qb] at o3; exact o3
          | bad => simp only [qb] at o3; exact o3

/-! ### targets -/
theorem pgImp {tg : Expr} {t t' : TG} (h : PG X tg t) (hi : ∀ v s H Q, t' v s H Q → t v s H Q) : PG X tg t' := ⟨fun pins s σ H v u Q I r q => h.run pins s σ H v u Q I r (hi v σ H Q q)⟩
theorem ig_name (i : Nat) {x : Str} (hN : X.N.Nodup) (hi : X.N[i]? = some x := by rfl) (hx : Loc X.env.scope x := by first | exact Or.inl rfl | exact Or.inr rfl) (hf : X.fn x = true ∨ X.env.scope.names.lookup x = some .local := by first | exact .inl rfl | exact .inr rfl | assumption) :
    PG X (.Name x pos) (GI X.K X.mg (gVar i)) := by
  refine pgImp (pg_name hN hi hx hf) fun v s H Q ⟨as, r, p, r1, h, f, x, rp, e, q⟩ => ?_
  cases e
  exact q _ (f.set rp)
/-- several names, one after the other -/
def GIs (K : PySem.W.Frag) (mg : Str → Option Value) (is : List Nat) : TGs := fun vs s H Q => ∃ as r ps r1, RF K mg H as r s ∧ RPs K mg H as ps vs ∧ setAll is ps r = some r1 ∧ ∀ s1, RF K mg H as r1 s1 → Q s1 H
theorem igs_nil : PGs X [] (GIs X.K X.mg []) := by
  refine ⟨fun pins s σ H vs us Q I r q => pgs_nil.run pins s σ H vs us Q I r ?_⟩
  obtain ⟨as, r, ps, r1, f, rp, e, q⟩ := q
  cases ps with
  | nil => cases rp; cases e; exact ⟨rfl, q _ f⟩
  | cons p ps => cases e
theorem igs_cons (i : Nat) {is : List Nat} {x : Str} (hN : X.N.Nodup) (h2 : PGs X es (GIs X.K X.mg is)) (hi : X.N[i]? = some x := by rfl) (hx : Loc X.env.scope x := by first | exact Or.inl rfl | exact Or.inr rfl) (hf : X.fn x = true ∨ X.env.scope.names.lookup x = some .local := by first | exact .inl rfl | exact .inr rfl | assumption)
    (hs : (assignEach (.Name x pos :: es) X.env).map (·.2) = assign (.Name x pos) X.env :: (assignEach es X.env).map (·.2) := by rfl) : PGs X (.Name x pos :: es) (GIs X.K X.mg (i :: is)) := by
  refine ⟨fun pins s σ H vs us Q I r q => (pgs_cons (pg_name (pos := pos) hN hi hx hf) h2 hs).run pins s σ H vs us Q I r ?_⟩
  obtain ⟨as, r, ps, r1, f, rp, e, q⟩ := q
  cases rp with
  | nil => cases e
  | cons a b => exact ⟨_, _, rfl, as, _, _, r1, f.set a, b, e, q⟩
theorem ig_tup {is : List Nat} {kk : Nat} (cx : Ctx X W k) (h : PGs X es (GIs X.K X.mg is)) (hl : is.length = es.length := by rfl) (hn : (assignEach es X.env).length = es.length := by rfl) (hst : (assignEach es X.env).findIdx? (·.1) = none := by rfl) :
    PG X (.Tuple es kk pos) (GI X.K X.mg (gTupF is)) := by
  refine pgImp (pg_tup cx.calm h hn hst) fun v s H Q ⟨as, r, p, r1, h, f, x, rp, e, q⟩ => ?_
  cases rp with
  | tup hs rs =>
    refine ⟨_, _, rfl, hs, ?_, as, r, _, r1, f, rs, e, q⟩
    rw [← rs.length, ← hl]
    have key : ∀ (is : List Nat) (ps : List PV) (r : Fm) (r1 : Fm), setAll is ps r = some r1 → ps.length = is.length := by
      intro is
      induction is with
      | nil => intro ps r r1 e; cases ps with
        | nil => rfl
        | cons _ _ => cases e
      | cons i is ih => intro ps r r1 e; cases ps with
        | nil => cases e
        | cons p ps => rw [List.length_cons, List.length_cons, ih ps _ _ e]
    exact key _ _ _ _ e
  | non => cases e
  | bl => cases e
  | int => cases e
  | str => cases e
  | fls => cases e
  | obj => cases e
  | glo => cases e
  | ty => cases e
  | key => cases e
/-- a, b = e, by a target -/
theorem is_asgT {tg : Expr} {g : TgF} (he : PE X e (IE X.K X.mg W A)) (hg : PG X tg (GI X.K X.mg g)) (hs : swapsWithSole [tg] e pos.line X.env = pure false := by rfl) (hw : swappedStores [tg] e X.env = pure none := by rfl)
    (h1 : (assignEach [tg] X.env).map (·.2) = [assign tg X.env] := by rfl) : PS X (.Assign [tg] e pos) (IS X.K X.mg W (sAsgT g A)) := by
  refine psImp (ps_asg he hg hs hw h1) fun D s H ⟨as, r, h, f, x, o⟩ => ?_
  refine ⟨as, r, h, f, x, (outS_of f o).imp fun V H1 ⟨as1, h1, p, S1, x1, r1, o1⟩ => ?_⟩
  cases qg : g p r with
  | none => simp only [qg] at o1; exact o1.elim
  | some r2 => simp only [qg] at o1; exact ⟨as1, r, p, r2, h1, f.mono S1, x1, r1, qg, fun s1 f1 => o1 s1 H1 as1 (Stp.refl _ _) x1 f1⟩

/-! ### calls of defs -/
/-- a def's promise, by its functional code -/
def SpF (K : PySem.W.Frag) (mg : Str → Option Value) (n : Nat) (F : List PV → IH → Res PV) : Sp := fun vs H Q E => ∃ as us h, us.length = n ∧ RPs K mg H as us vs ∧ RH K mg H as h ∧ Out K mg (fun H as p v => RP K mg H as p v) (fun c d _ H' => E c d H') [] as H Q (F us h)
theorem SpF.of {K : PySem.W.Frag} {mg : Str → Option Value} {n : Nat} {F : List PV → IH → Res PV} {s : L2.St} {us : List PV} {vs : List V} {as : List Addr} {H : Hp} {h : IH} {Q : VK} (x : RH K mg H as h) (rs : RPs K mg H as us vs) (hl : us.length = n)
    (o : Out K mg (fun H as p v => RP K mg H as p v) W s as H Q (F us h)) : SpF K mg n F vs H Q (WE W s) := by
  refine ⟨as, us, h, hl, rs, x, ?_⟩
  cases q : F us h with
  | ok a h1 => rw [q] at o; exact o
  | ex z h1 => rw [q] at o; exact o
  | bad => rw [q] at o; exact o
theorem ie_call {f : Addr} {fd : FuncData} {ps : List Str} {x : Str} {p : Pos} {F : List PV → IH → Res PV} {n : Nat} {j : Nat} (cx : Ctx X W k) (G : FnOk X.prog X.w X.K X.mg X.base (L2N.CX X.prog X.w) j f fd ps (SpF X.K X.mg n F)) (hj : j ≤ k) (hm : X.mg x = some (.ref f)) (hk : PySem.W.keepIn X.K (.ref f) = true)
    (hb : Binds X.K fd ps []) (ha : PA X (e :: es) (IA X.K X.mg W L)) (hF : ∀ us h, us.length ≠ n → F us h = .bad) (hg : Gl X x := by rfl) (hdb : (x == ("__debug__" : Str)) = false := by decide) (he : starEach (e :: es) X.env = (false, eval e X.env) :: starEach es X.env := by rfl) (hpl : (backTo pos (starEach es X.env)).any (·.1) = false := by rfl) :
    PE X (.Call (.Name x p) (e :: es) [] pos) (IE X.K X.mg W (eCall F L)) := by
  refine peImp (pe_callS G (cx.room.mono hj) hg hm hk hb (fun s => L2N.passAt cx.tk s) ha hdb he hpl) fun s H Q ⟨as, r, h, f, x, o⟩ => ?_
  refine ⟨as, r, h, f, x, (Out.bind o).imp fun Vs H1 ⟨as1, h1, us, S1, x1, r1, o1⟩ => ?_⟩
  refine SpF.of x1 r1 ?_ o1
  by_cases hn : us.length = n
  · exact hn
  · rw [hF us h1 hn] at o1; exact o1.elim
theorem ie_call0 {f : Addr} {fd : FuncData} {ps : List Str} {x : Str} {p : Pos} {F : List PV → IH → Res PV} {j : Nat} (cx : Ctx X W k) (G : FnOk X.prog X.w X.K X.mg X.base (L2N.CX X.prog X.w) j f fd ps (SpF X.K X.mg 0 F)) (hj : j ≤ k) (hm : X.mg x = some (.ref f)) (hk : PySem.W.keepIn X.K (.ref f) = true)
    (hb : Binds X.K fd ps []) (hg : Gl X x := by rfl) (hdb : (x == ("__debug__" : Str)) = false := by decide) :
    PE X (.Call (.Name x p) [] [] pos) (IE X.K X.mg W (eCall F aNil)) := by
  have base : PE X (.Call (.Name x p) [] [] pos) (tCallS (SpF X.K X.mg 0 F) (WE W) tNil) := by
    refine ⟨fun pins s σ H Q I h => ?_⟩
    refine wpAny_Call_Name_kw (ld_glob I hg hm ?_ hdb)
    exact PySem.W.callWith_K0 I.kIn hk (run_fnS (us := []) G (cx.room.mono hj) hb (L2N.passAt cx.tk σ) I .nil h)
  refine peImp base fun s H Q ⟨as, r, h, f, x, o⟩ => ?_
  exact SpF.of x RPs.nil rfl o
theorem fn_bad {ps n : Nat} {B : SX} (us : List PV) (h : IH) (hl : us.length ≠ ps) : fn ps n B us h = .bad := if_neg hl
end
/-- what a def wishes of exceptions -/
def WD (E : XK) : WX := fun c d _ H => E c d H
theorem cdOf_eq {K : PySem.W.Frag} {f : Addr} {oc : Value} {od : Option Addr} {fd : FuncData} {osl : Array (Option Value)} {qual : Str} (l : K.lookup f = some ⟨oc, od, .func fd, osl⟩) (c : PySem.W.codeIn K fd.code qual = true) : fd.code = .ref (cdOf K f) := by
  unfold cdOf
  rw [l]
  unfold PySem.W.codeIn at c
  simp only
  split at c
  · rename_i c' e
    rw [e]
  · cases c
/-- a def by its body -/
theorem ok_of {P : Program} {w : World} {K : PySem.W.Frag} {mg : Str → Option Value} {base : Heap} {x qual : Str} {st : Stmt} {f : Addr} {fd : FuncData} {N ps : List Str} {k : Nat} {B : SX} (F : Fun K x qual st f fd) (S : FnScope N ps (defScope st)) (m : Nat) (hm : N.length = ps.length + m)
    (body : ∀ (cdv : Value), cdv = .ref (cdOf K f) → ∀ (A : Around) (outer : List Env) (s : Shared) (H : Hp) (E : XK), Ctx (cxOf (L2N.CX P w) P w K mg base N qual (defScope st) f cdv A outer s H E) (WD E) k →
      PSs (cxOf (L2N.CX P w) P w K mg base N qual (defScope st) f cdv A outer s H E) (defBody st) (IS K mg (WD E) B)) :
    FnOk P w K mg base (L2N.CX P w) (k + 1) f fd ps (SpF K mg ps.length (fn ps.length m B)) := by
  obtain ⟨oc, od, kV, doc, pm, an, cdv, ct, osl, rfl, lk, hcd⟩ := F.ex
  have hcv : cdv = .ref (cdOf K f) := cdOf_eq lk hcd
  refine fn_of lk hcd S (fun vs H Q E h => ?_) (fun A outer s H vs Q E hr h => ?_)
  · obtain ⟨as, us, h, hl, rs, _⟩ := h
    rw [← rs.length, hl]
  · obtain ⟨as, us, h, hl, rs, x, o⟩ := h
    refine ⟨_, body cdv hcv A outer s H E ⟨L2N.takes_of rfl rfl rfl rfl, passes_of rfl, rfl, S.nd, hr⟩, ?_⟩
    refine ⟨as, us.map some ++ List.replicate m none, h, ⟨?_, fun i p e => ?_⟩, x, ?_⟩
    · unfold L2.start
      rw [List.length_append, List.length_append, List.length_map, List.length_map, List.length_replicate, List.length_replicate, rs.length]
      have := rs.length
      omega
    · by_cases hi : i < us.length
      · rw [List.getElem?_append_left (by simpa using hi), List.getElem?_map] at e
        cases q : us[i]? with
        | none => rw [q] at e; cases e
        | some p' =>
          rw [q] at e
          cases e
          obtain ⟨v, h1, h2⟩ := rs.get q
          refine ⟨v, ?_, h2⟩
          unfold L2.start
          rw [List.getElem?_append_left (by rw [List.length_map, ← rs.length]; exact hi), List.getElem?_map, h1]
          rfl
      · rw [List.getElem?_append_right (by simpa using hi), List.getElem?_replicate] at e
        split at e <;> cases e
    · unfold fn at o
      rw [if_pos hl] at o
      cases q : B (us.map some ++ List.replicate m none) h with
      | nx r1 h1 => rw [q] at o; exact fun s' H' as' S' x' f' => o .non H' as' S' x' .non
      | rt v h1 => rw [q] at o; exact o
      | ex z r1 h1 => rw [q] at o; exact fun c d s' H' as' S' x' f' rx => o c d H' as' S' x' rx
      | bk r1 h1 => rw [q] at o; exact (show False from o).elim
      | ct r1 h1 => rw [q] at o; exact (show False from o).elim
      | bad => rw [q] at o; exact o
end WR

/-! operators, tests, displays, subscripts, built-ins -/
namespace WR
open PySem PySem.Spec PyProof.Rows L2

/-! ### the code -/
@[simp] def eOp (p : PV → PV → IH → Res PV) (A B : EX) : EX := fun r h => (A r h).bind fun x h1 => (B r h1).bind fun y h2 => p x y h2
@[simp] def eUn (p : PV → IH → Res PV) (A : EX) : EX := fun r h => (A r h).bind p
@[simp] def eB (p : List PV → IH → Res PV) (L : AX) : EX := fun r h => (L r h).bind p
@[simp] def opt {α : Type} (o : Option α) (h : IH) : Res α := match o with
  | some a => .ok a h
  | none => .bad
@[simp] def mkL (xs : List PV) (h : IH) : Res PV := if xs.length ≤ 16777216 then .ok (.obj h.length) (h ++ [.lst xs]) else .bad
@[simp] def pAdd : PV → PV → IH → Res PV
  | .int i, .int j, h => .ok (.int (i + j)) h
  | .str a, .str b, h => if a.length + b.length ≤ 16777216 then .ok (.str (a ++ b)) h else .bad
  | .tup xs, .tup ys, h => if xs.length + ys.length ≤ 16777216 then .ok (.tup (xs ++ ys)) h else .bad
  | .obj m, .obj n, h => (match h[m]?, h[n]? with
    | some (.lst xs), some (.lst ys) => if xs.length + ys.length ≤ 16777216 then .ok (.obj h.length) (h ++ [.lst (xs ++ ys)]) else .bad
    | _, _ => .bad)
  | _, _, _ => .bad
@[simp] def pSub : PV → PV → IH → Res PV
  | .int i, .int j, h => .ok (.int (i - j)) h
  | _, _, _ => .bad
def mulOk (i j : Int) : Bool := decide (i.natAbs < 18446744073709551616) || decide (j.natAbs < 18446744073709551616) || decide (i.natAbs.log2 + j.natAbs.log2 < 1000000)
@[simp] def pMul : PV → PV → IH → Res PV
  | .int i, .int j, h => if mulOk i j then .ok (.int (i * j)) h else .bad
  | _, _, _ => .bad
@[simp] def pDiv : PV → PV → IH → Res PV
  | .int i, .int j, h => if 0 < j ∧ j.natAbs.log2 < 9000 then .ok (.int (i / j)) h else .bad
  | _, _, _ => .bad
@[simp] def pMod : PV → PV → IH → Res PV
  | .int i, .int j, h => if 0 < j then .ok (.int (i % j)) h else .bad
  | _, _, _ => .bad
@[simp] def pPow : PV → PV → IH → Res PV
  | .int i, .int j, h => if 0 ≤ j ∧ j ≤ 1000000 ∧ i.natAbs < 18446744073709551616 then .ok (.int (i ^ j.toNat)) h else .bad
  | _, _, _ => .bad
@[simp] def pNeg : PV → IH → Res PV
  | .int i, h => .ok (.int (-i)) h
  | _, _ => .bad
@[simp] def pCI (f : Int → Int → Bool) : PV → PV → IH → Res PV
  | .int i, .int j, h => .ok (.bl (f i j)) h
  | _, _, _ => .bad
abbrev pLt := pCI fun i j => decide (i < j)
abbrev pLe := pCI fun i j => decide (i ≤ j)
abbrev pGt := pCI fun i j => decide (j < i)
abbrev pGe := pCI fun i j => decide (j ≤ i)
@[simp] def isN : PV → Bool
  | .non => true
  | _ => false
@[simp] def pIsN : PV → PV → IH → Res PV
  | x, .non, h => (match x with
    | .glo _ => .bad
    | _ => .ok (.bl (isN x)) h)
  | _, _, _ => .bad
@[simp] def pNotN : PV → PV → IH → Res PV
  | x, .non, h => (match x with
    | .glo _ => .bad
    | _ => .ok (.bl (!isN x)) h)
  | _, _, _ => .bad
/-- data as the library has it -/
def optAll {α β : Type} (f : α → Option β) : List α → Option (List β)
  | [] => some []
  | x :: xs => (match f x, optAll f xs with
    | some y, some ys => some (y :: ys)
    | _, _ => none)
def dataOf : Nat → IH → PV → Option PyData
  | _, _, .non => some .none
  | _, _, .bl b => some (.bool b)
  | _, _, .int i => some (.int i)
  | _, _, .str x => some (.str x)
  | _, _, .key ks => some (.tuple (ks.map .int))
  | n + 1, h, .tup xs => (optAll (dataOf n h) xs).map .tuple
  | n + 1, h, .fls xs => (optAll (dataOf n h) xs).map .list
  | n + 1, h, .obj k => (match h[k]? with
    | some (.lst xs) => (optAll (dataOf n h) xs).map .list
    | _ => none)
  | _, _, _ => none
def DEP : Nat := 12
def pEqB (x y : PV) (h : IH) : Option Bool := match dataOf DEP h x, dataOf DEP h y with
  | some d, some e => if SeqAt.shaped d && SeqAt.shaped e then some (PyData.eqv d e) else none
  | _, _ => none
@[simp] def pEq (x y : PV) (h : IH) : Res PV := opt ((pEqB x y h).map .bl) h
@[simp] def pNe (x y : PV) (h : IH) : Res PV := opt ((pEqB x y h).map fun b => .bl (!b)) h
@[simp] def pIdx : PV → PV → IH → Res PV
  | .tup xs, .int i, h => opt (atI xs i) h
  | .fls xs, .int i, h => opt (atI xs i) h
  | .str z, .int i, h => if z.length ≤ 16777216 then opt ((atI z.cps.toList i).map fun c => .str ⟨#[c]⟩) h else .bad
  | .obj n, .int i, h => (match h[n]? with
    | some (.lst xs) => opt (atI xs i) h
    | _ => .bad)
  | _, _, _ => .bad
def cutA {α : Type} (xs : List α) (lo hi : Option Int) : List α := (xs.drop (HT.sIx xs.length 0 lo)).take (HT.sIx xs.length xs.length hi - HT.sIx xs.length 0 lo)
abbrev OX := Fm → IH → Res (Option Int)
@[simp] def oNone : OX := fun _ h => .ok none h
@[simp] def oSome (A : EX) : OX := fun r h => (A r h).bind fun v h1 => match v with
  | .int i => .ok (some i) h1
  | _ => .bad
@[simp] def pSl : PV → Option Int → Option Int → IH → Res PV
  | .tup xs, lo, hi, h => .ok (.tup (cutA xs lo hi)) h
  | .obj n, lo, hi, h => (match h[n]? with
    | some (.lst xs) => .ok (.obj h.length) (h ++ [.lst (cutA xs lo hi)])
    | _ => .bad)
  | _, _, _, _ => .bad
@[simp] def eSl (A : EX) (l u : OX) : EX := fun r h => (A r h).bind fun x h1 => (l r h1).bind fun lo h2 => (u r h2).bind fun hi h3 => pSl x lo hi h3
@[simp] def eTup (L : AX) : EX := fun r h => (L r h).bind fun xs h1 => if xs.length ≤ 16777216 then .ok (.tup xs) h1 else .bad
@[simp] def eLst (L : AX) : EX := fun r h => (L r h).bind mkL
@[simp] def pTru : PV → IH → Option Bool
  | .non, _ => some false
  | .bl b, _ => some b
  | .int i, _ => some (i != 0)
  | .str y, _ => if y.length ≤ 16777216 then some ((y.length : Int) != 0) else none
  | .tup xs, _ => some !xs.isEmpty
  | .fls xs, _ => some !xs.isEmpty
  | .obj n, h => (match h[n]? with
    | some (.lst xs) => some !xs.isEmpty
    | _ => none)
  | _, _ => none
@[simp] def tTru (A : EX) : TX := fun r h => (A r h).bind fun v h1 => opt (pTru v h1) h1
@[simp] def tBl (A : EX) : TX := fun r h => (A r h).bind fun v h1 => match v with
  | .bl b => .ok b h1
  | _ => .bad
@[simp] def tAndX (c d : TX) : TX := fun r h => (c r h).bind fun b h1 => if b then d r h1 else .ok false h1
@[simp] def tOrX (c d : TX) : TX := fun r h => (c r h).bind fun b h1 => if b then .ok true h1 else d r h1
@[simp] def tNotX (c : TX) : TX := fun r h => (c r h).bind fun b h1 => .ok (!b) h1
@[simp] def eAnd (A B : EX) : EX := fun r h => (A r h).bind fun v h1 => match v with
  | .bl b => if b then B r h1 else .ok (.bl false) h1
  | _ => .bad
@[simp] def eOr (A B : EX) : EX := fun r h => (A r h).bind fun v h1 => match v with
  | .bl b => if b then .ok (.bl true) h1 else B r h1
  | _ => .bad
@[simp] def eNot (A : EX) : EX := fun r h => (A r h).bind fun v h1 => opt ((pTru v h1).map fun b => .bl (!b)) h1
@[simp] def eIf (c : TX) (A B : EX) : EX := fun r h => (c r h).bind fun b h1 => if b then A r h1 else B r h1
@[simp] def eChain (p q : PV → PV → IH → Res PV) (A B C : EX) : EX := fun r h => (A r h).bind fun x h1 => (B r h1).bind fun y h2 => (p x y h2).bind fun v h3 => match v with
  | .bl b => if b then (C r h3).bind fun z h4 => q y z h4 else .ok (.bl false) h3
  | _ => .bad

/-! ### what each asks of the layer -/
section
variable {X : Cx} {W : WX} {k : Nat} {a b e : Expr} {es : List Expr} {pos : Pos} {A B C : EX} {L : AX} {c d : TX}
def Snd (K : PySem.W.Frag) (mg : Str → Option Value) (p : PV → PV → IH → Res PV) (r : R2) : Prop :=
  ∀ {W : WX} {s : L2.St} {as : List Addr} {H : Hp} {h : IH} {x y : PV} {U V : V} {Q : VK}, RH K mg H as h → RP K mg H as x U → RP K mg H as y V → Out K mg (fun H as p v => RP K mg H as p v) W s as H Q (p x y h) → r U V H Q
def SndC (K : PySem.W.Frag) (mg : Str → Option Value) (p : List PV → IH → Res PV) (r : List V → Hp → VK → Prop) : Prop :=
  ∀ {W : WX} {s : L2.St} {as : List Addr} {H : Hp} {h : IH} {xs : List PV} {Us : List V} {Q : VK}, RH K mg H as h → RPs K mg H as xs Us → Out K mg (fun H as p v => RP K mg H as p v) W s as H Q (p xs h) → r Us H Q
theorem tOp_of {p : PV → PV → IH → Res PV} {r : R2} {ta tb : TE} (hp : Snd X.K X.mg p r) {s : L2.St} {H : Hp} {Q : VK} (h : IE X.K X.mg W (eOp p A B) s H Q) : tOp r (IE X.K X.mg W A) (IE X.K X.mg W B) s H Q := by
  obtain ⟨as, ρ, hh, f, x, o⟩ := h
  refine ⟨as, ρ, hh, f, x, (Out.bind o).imp fun V H1 ⟨as1, h1, p1, S1, x1, r1, o1⟩ => ?_⟩
  refine ⟨as1, ρ, h1, f.mono S1, x1, (Out.bind o1).imp fun U H2 ⟨as2, h2, p2, S2, x2, r2, o2⟩ => ?_⟩
  exact hp x2 (r1.mono S2) r2 o2
theorem ie_op {op : Operator} {p : PV → PV → IH → Res PV} {r : R2} (ho : OpR X (binaryOp op) r) (hp : Snd X.K X.mg p r) (ha : PE X a (IE X.K X.mg W A)) (hb : PE X b (IE X.K X.mg W B)) : PE X (.BinOp a op b pos) (IE X.K X.mg W (eOp p A B)) :=
  peImp (pe_op ho ha hb) fun _ _ _ h => tOp_of (ta := IE X.K X.mg W A) (tb := IE X.K X.mg W B) hp h
theorem ie_cmp {op : CmpOp} {p : PV → PV → IH → Res PV} {r : R2} (ho : OpR X (compareOp op) r) (hp : Snd X.K X.mg p r) (ha : PE X a (IE X.K X.mg W A)) (hb : PE X b (IE X.K X.mg W B)) (hm : behindInMarks op b = false) : PE X (.Compare a [op] [b] pos) (IE X.K X.mg W (eOp p A B)) :=
  peImp (pe_cmpR ho ha hb hm) fun _ _ _ h => tOp_of (ta := IE X.K X.mg W A) (tb := IE X.K X.mg W B) hp h
theorem tTest_of {t : TE} {s : L2.St} {H : Hp} {Q : Bool → Hp → Prop} (ht : ∀ Q', IE X.K X.mg W A s H Q' → t s H Q') (h : IT X.K X.mg W (tBl A) s H Q) : tTest t s H Q := by
  obtain ⟨as, ρ, hh, f, x, o⟩ := h
  refine ht _ ⟨as, ρ, hh, f, x, (Out.bind o).imp fun V H1 ⟨as1, h1, p1, S1, x1, r1, o1⟩ => ?_⟩
  cases r1 with
  | bl q => exact ⟨q, rfl, o1.here x1 rfl⟩
  | non => exact o1.elim
  | int => exact o1.elim
  | str => exact o1.elim
  | tup => exact o1.elim
  | fls => exact o1.elim
  | obj => exact o1.elim
  | glo => exact o1.elim
  | ty => exact o1.elim
  | key => exact o1.elim
theorem it_cmp {op : CmpOp} {p : PV → PV → IH → Res PV} {r : R2} (ho : OpR X (compareOp op) r) (hp : Snd X.K X.mg p r) (ha : PE X a (IE X.K X.mg W A)) (hb : PE X b (IE X.K X.mg W B)) (hm : behindInMarks op b = false) : PT X (.Compare a [op] [b] pos) (IT X.K X.mg W (tBl (eOp p A B))) :=
  ptImp (pt_cmpR ho ha hb hm) fun _ _ _ h => tTest_of (fun Q' h => tOp_of (ta := IE X.K X.mg W A) (tb := IE X.K X.mg W B) hp h) h
theorem tru_of {v : PV} {V : V} {as : List Addr} {H : Hp} {h : IH} {q : Bool} (x : RH X.K X.mg H as h) (r : RP X.K X.mg H as v V) (e : pTru v h = some q) : TruV X.K V H q := by
  cases r with
  | non => cases e; rfl
  | bl b => cases e; rfl
  | int i => cases e; rfl
  | str y =>
    simp only [pTru] at e
    split at e
    · rename_i hl
      cases e
      exact ⟨by rw [sizeLine_eq]; exact hl, rfl⟩
    · cases e
  | tup hs rs =>
    cases e
    refine .inr (.inl ⟨_, hs, ?_⟩)
    cases rs <;> rfl
  | fls hs rs =>
    cases e
    refine .inl ⟨_, hs.sq, ?_⟩
    cases rs <;> rfl
  | obj ha =>
    simp only [pTru] at e
    split at e
    · rename_i xs hx
      obtain ⟨a, h1, ys, h2, rs⟩ := x.at_ _ _ hx
      rw [ha] at h1; cases h1
      cases e
      refine .inl ⟨_, SqL.of h2, ?_⟩
      cases rs <;> rfl
    · cases e
  | glo => cases e
  | ty => cases e
  | key => cases e
theorem it_tru (ha : PE X a (IE X.K X.mg W A)) (he : ∀ whole, isTrue a X.env whole = (do let v ← whole; standAt a.pos; holding [v] (truthy v)) := by intro _; rfl) : PT X a (IT X.K X.mg W (tTru A)) := by
  refine ptImp (pt_truth ha he) fun s H Q ⟨as, ρ, hh, f, x, o⟩ => ?_
  refine ⟨as, ρ, hh, f, x, (Out.bind o).imp fun V H1 ⟨as1, h1, p1, S1, x1, r1, o1⟩ => ?_⟩
  cases q : pTru p1 h1 with
  | none => rw [q] at o1; exact o1.elim
  | some z => rw [q] at o1; exact ⟨z, tru_of x1 r1 q, o1.here x1 rfl⟩
theorem it_not (ha : PT X a (IT X.K X.mg W c)) : PT X (.UnaryOp .Not a pos) (IT X.K X.mg W (tNotX c)) := by
  refine ptImp (pt_not ha) fun s H Q ⟨as, ρ, hh, f, x, o⟩ => ?_
  refine ⟨as, ρ, hh, f, x, (Out.bind o).imp fun V H1 ⟨as1, h1, p1, S1, x1, r1, o1⟩ => ?_⟩
  obtain rfl : p1 = V := r1
  exact o1.here x1 rfl
/-- and, or as tests: lists of at least two -/
theorem iw_and1 (ha : PT X a (IT X.K X.mg W c)) : PW X (.BoolOp .And [a] pos) (IT X.K X.mg W c) := pw_and1 ha
theorem iw_or1 (ha : PT X a (IT X.K X.mg W c)) : PW X (.BoolOp .Or [a] pos) (IT X.K X.mg W c) := pw_or1 ha
theorem pwImp {t t' : TT} (h : PW X e t) (hi : ∀ s H Q, t' s H Q → t s H Q) : PW X e t' := ⟨fun wh pins s σ H Q I q => h.run wh pins s σ H Q I (hi σ H Q q)⟩
theorem iw_and {rest : List Expr} (ha : PT X a (IT X.K X.mg W c)) (hb : PW X (.BoolOp .And (b :: rest) pos) (IT X.K X.mg W d)) : PW X (.BoolOp .And (a :: b :: rest) pos) (IT X.K X.mg W (tAndX c d)) := by
  refine pwImp (pw_and ha hb) fun s H Q ⟨as, ρ, hh, f, x, o⟩ => ?_
  refine ⟨as, ρ, hh, f, x, (Out.bind o).imp fun V H1 ⟨as1, h1, p1, S1, x1, r1, o1⟩ => ?_⟩
  obtain rfl : p1 = V := r1
  cases p1 with
  | true => exact ⟨as1, ρ, h1, f.mono S1, x1, o1⟩
  | false => exact o1.here x1 rfl
theorem iw_or {rest : List Expr} (ha : PT X a (IT X.K X.mg W c)) (hb : PW X (.BoolOp .Or (b :: rest) pos) (IT X.K X.mg W d)) : PW X (.BoolOp .Or (a :: b :: rest) pos) (IT X.K X.mg W (tOrX c d)) := by
  refine pwImp (pw_or ha hb) fun s H Q ⟨as, ρ, hh, f, x, o⟩ => ?_
  refine ⟨as, ρ, hh, f, x, (Out.bind o).imp fun V H1 ⟨as1, h1, p1, S1, x1, r1, o1⟩ => ?_⟩
  obtain rfl : p1 = V := r1
  cases p1 with
  | false => exact ⟨as1, ρ, h1, f.mono S1, x1, o1⟩
  | true => exact o1.here x1 rfl
theorem ie_one {op} (h : PE X a (IE X.K X.mg W A)) : PE X (.BoolOp op [a] pos) (IE X.K X.mg W A) := pe_one h
theorem ie_and {rest : List Expr} (ha : PE X a (IE X.K X.mg W A)) (hb : PE X (.BoolOp .And (b :: rest) pos) (IE X.K X.mg W B)) : PE X (.BoolOp .And (a :: b :: rest) pos) (IE X.K X.mg W (eAnd A B)) := by
  refine peImp (pe_and ha hb) fun s H Q ⟨as, ρ, hh, f, x, o⟩ => ?_
  refine ⟨as, ρ, hh, f, x, (Out.bind o).imp fun V H1 ⟨as1, h1, p1, S1, x1, r1, o1⟩ => ?_⟩
  cases r1 with
  | bl q =>
    refine ⟨q, rfl, ?_⟩
    cases q with
    | true => exact ⟨as1, ρ, h1, f.mono S1, x1, o1⟩
    | false => exact o1.here x1 (.bl false)
  | non => exact o1.elim
  | int => exact o1.elim
  | str => exact o1.elim
  | tup => exact o1.elim
  | fls => exact o1.elim
  | obj => exact o1.elim
  | glo => exact o1.elim
  | ty => exact o1.elim
  | key => exact o1.elim
theorem ie_or {rest : List Expr} (ha : PE X a (IE X.K X.mg W A)) (hb : PE X (.BoolOp .Or (b :: rest) pos) (IE X.K X.mg W B)) : PE X (.BoolOp .Or (a :: b :: rest) pos) (IE X.K X.mg W (eOr A B)) := by
  refine peImp (pe_or ha hb) fun s H Q ⟨as, ρ, hh, f, x, o⟩ => ?_
  refine ⟨as, ρ, hh, f, x, (Out.bind o).imp fun V H1 ⟨as1, h1, p1, S1, x1, r1, o1⟩ => ?_⟩
  cases r1 with
  | bl q =>
    refine ⟨q, rfl, ?_⟩
    cases q with
    | false => exact ⟨as1, ρ, h1, f.mono S1, x1, o1⟩
    | true => exact o1.here x1 (.bl true)
  | non => exact o1.elim
  | int => exact o1.elim
  | str => exact o1.elim
  | tup => exact o1.elim
  | fls => exact o1.elim
  | obj => exact o1.elim
  | glo => exact o1.elim
  | ty => exact o1.elim
  | key => exact o1.elim
theorem ie_not (ha : PE X a (IE X.K X.mg W A)) : PE X (.UnaryOp .Not a pos) (IE X.K X.mg W (eNot A)) := by
  refine peImp (pe_notT ha) fun s H Q ⟨as, ρ, hh, f, x, o⟩ => ?_
  refine ⟨as, ρ, hh, f, x, (Out.bind o).imp fun V H1 ⟨as1, h1, p1, S1, x1, r1, o1⟩ => ?_⟩
  cases q : pTru p1 h1 with
  | none => rw [q] at o1; exact o1.elim
  | some z => rw [q] at o1; exact ⟨z, tru_of x1 r1 q, o1.here x1 (.bl _)⟩
theorem ie_if (hc : PT X e (IT X.K X.mg W c)) (ha : PE X a (IE X.K X.mg W A)) (hb : PE X b (IE X.K X.mg W B)) : PE X (.IfExp e a b pos) (IE X.K X.mg W (eIf c A B)) := by
  refine peImp (pe_ifExp hc ha hb) fun s H Q ⟨as, ρ, hh, f, x, o⟩ => ?_
  refine ⟨as, ρ, hh, f, x, (Out.bind o).imp fun V H1 ⟨as1, h1, p1, S1, x1, r1, o1⟩ => ?_⟩
  obtain rfl : p1 = V := r1
  cases p1 with
  | true => exact ⟨as1, ρ, h1, f.mono S1, x1, o1⟩
  | false => exact ⟨as1, ρ, h1, f.mono S1, x1, o1⟩
/-! ### the numbers -/
theorem snd_add {K : PySem.W.Frag} {mg : Str → Option Value} : Snd K mg pAdd (fun x y H Q => (rI0 fun i j => .int (i + j)) x y H Q ∨ (∃ i j, x = .str i ∧ y = .str j ∧ i.length + j.length ≤ sizeLine ∧ Q (.str (i ++ j)) H) ∨ rCatA K x y H Q ∨ rCat x y H Q) := by
  intro W s as H h x y U V Q rh rx ry o
  unfold pAdd at o
  split at o
  · cases rx; cases ry; exact .inl ⟨_, _, rfl, rfl, o.here rh (.int _)⟩
  · cases rx; cases ry
    split at o
    · rename_i hl
      exact .inr (.inl ⟨_, _, rfl, rfl, by rw [sizeLine_eq]; exact hl, o.here rh (.str _)⟩)
    · exact o.elim
  · split at o
    · rename_i hl
      cases rx with
      | tup h1 r1 =>
        cases ry with
        | tup h2 r2 =>
          refine .inr (.inr (.inl ⟨_, _, _, _, rfl, rfl, h1, h2, by rw [sizeLine_eq, ← r1.length, ← r2.length]; exact hl, fun e => ?_, fun _ e => ?_, fun _ _ p np => ?_⟩))
          · subst e
            cases r1
            exact o.here rh (.tup h2 r2)
          · subst e
            cases r2
            rw [List.append_nil] at o
            exact o.here rh (.tup h1 r1)
          · exact o _ _ as (Stp.lay rh np) (rh.lay np) (.tup (SqT.of upd_same) ((r1.append r2).mono (Stp.lay rh np)))
    · exact o.elim
  · cases rx with
    | obj ha =>
      cases ry with
      | obj hb =>
        split at o
        · rename_i xs ys hx hy
          split at o
          · rename_i hl
            obtain ⟨a1, e1, us, g1, r1⟩ := rh.at_ _ _ hx
            obtain ⟨a2, e2, ws, g2, r2⟩ := rh.at_ _ _ hy
            rw [ha] at e1; cases e1
            rw [hb] at e2; cases e2
            refine .inr (.inr (.inr ⟨_, _, us, ws, rfl, rfl, g1, g2, by rw [sizeLine_eq, ← r1.length, ← r2.length]; exact hl, fun p np => ?_⟩))
            have S := Stp.new (o := .lst (us ++ ws)) rh np
            refine o _ _ _ S (rh.new np ⟨_, upd_same, (r1.append r2).mono S⟩) (.obj ?_)
            rw [List.getElem?_append_right (by rw [rh.len]; exact Nat.le_refl _), rh.len, Nat.sub_self]
            rfl
          · exact o.elim
        · exact o.elim
  · exact o.elim
theorem snd_sub {K : PySem.W.Frag} {mg : Str → Option Value} : Snd K mg pSub (rI0 fun i j => .int (i - j)) := by
  intro W s as H h x y U V Q rh rx ry o
  unfold pSub at o
  split at o
  · cases rx; cases ry; exact ⟨_, _, rfl, rfl, o.here rh (.int _)⟩
  · exact o.elim
theorem CMul.of {i : Int} (h : i.natAbs < 18446744073709551616) : -(2 ^ 64) < i ∧ i < 2 ^ 64 := by
  have e : (2 : Int) ^ 64 = 18446744073709551616 := by decide
  rw [e]
  omega
theorem snd_mul {K : PySem.W.Frag} {mg : Str → Option Value} : Snd K mg pMul (fun x y H Q => (rI CMul fun i j => .int (i * j)) x y H Q ∨ (rI CMulW fun i j => .int (i * j)) x y H Q) := by
  intro W s as H h x y U V Q rh rx ry o
  unfold pMul at o
  split at o
  · cases rx; cases ry
    split at o
    · rename_i i j hm
      have q := o.here rh (.int (i * j))
      unfold mulOk at hm
      rcases Bool.or_eq_true_iff.mp hm with hm | hm
      · rcases Bool.or_eq_true_iff.mp hm with hm | hm
        · exact .inl ⟨_, _, rfl, rfl, .inl (CMul.of (of_decide_eq_true hm)), q⟩
        · exact .inl ⟨_, _, rfl, rfl, .inr (CMul.of (of_decide_eq_true hm)), q⟩
      · have hm' : i.natAbs.log2 + j.natAbs.log2 < 1000000 := of_decide_eq_true hm
        exact .inr ⟨_, _, rfl, rfl, hm', q⟩
    · exact o.elim
  · exact o.elim
theorem snd_div {K : PySem.W.Frag} {mg : Str → Option Value} : Snd K mg pDiv (rI CDivW fun i j => .int (i / j)) := by
  intro W s as H h x y U V Q rh rx ry o
  unfold pDiv at o
  split at o
  · cases rx; cases ry
    split at o
    · rename_i hm
      exact ⟨_, _, rfl, rfl, hm, o.here rh (.int _)⟩
    · exact o.elim
  · exact o.elim
theorem snd_mod {K : PySem.W.Frag} {mg : Str → Option Value} : Snd K mg pMod (rI (fun _ j => 0 < j) fun i j => .int (i % j)) := by
  intro W s as H h x y U V Q rh rx ry o
  unfold pMod at o
  split at o
  · cases rx; cases ry
    split at o
    · rename_i hm
      exact ⟨_, _, rfl, rfl, hm, o.here rh (.int _)⟩
    · exact o.elim
  · exact o.elim
theorem snd_pow {K : PySem.W.Frag} {mg : Str → Option Value} : Snd K mg pPow (rI CPow fun i j => .int (i ^ j.toNat)) := by
  intro W s as H h x y U V Q rh rx ry o
  unfold pPow at o
  split at o
  · cases rx; cases ry
    split at o
    · rename_i hm
      exact ⟨_, _, rfl, rfl, hm, o.here rh (.int _)⟩
    · exact o.elim
  · exact o.elim
theorem ie_add (ha : PE X a (IE X.K X.mg W A)) (hb : PE X b (IE X.K X.mg W B)) : PE X (.BinOp a .Add b pos) (IE X.K X.mg W (eOp pAdd A B)) := ie_op (op_add.or (op_add_str.or (op_catA.or op_cat))) snd_add ha hb
theorem ie_sub (ha : PE X a (IE X.K X.mg W A)) (hb : PE X b (IE X.K X.mg W B)) : PE X (.BinOp a .Sub b pos) (IE X.K X.mg W (eOp pSub A B)) := ie_op op_sub snd_sub ha hb
theorem ie_mul (ha : PE X a (IE X.K X.mg W A)) (hb : PE X b (IE X.K X.mg W B)) : PE X (.BinOp a .Mult b pos) (IE X.K X.mg W (eOp pMul A B)) := ie_op (op_mul.or op_mulW) snd_mul ha hb
theorem ie_div (ha : PE X a (IE X.K X.mg W A)) (hb : PE X b (IE X.K X.mg W B)) : PE X (.BinOp a .FloorDiv b pos) (IE X.K X.mg W (eOp pDiv A B)) := ie_op op_fdivW snd_div ha hb
theorem ie_mod (ha : PE X a (IE X.K X.mg W A)) (hb : PE X b (IE X.K X.mg W B)) : PE X (.BinOp a .Mod b pos) (IE X.K X.mg W (eOp pMod A B)) := ie_op op_mod snd_mod ha hb
theorem ie_pow (ha : PE X a (IE X.K X.mg W A)) (hb : PE X b (IE X.K X.mg W B)) : PE X (.BinOp a .Pow b pos) (IE X.K X.mg W (eOp pPow A B)) := ie_op op_pow snd_pow ha hb
theorem ie_neg (ha : PE X a (IE X.K X.mg W A)) : PE X (.UnaryOp .USub a pos) (IE X.K X.mg W (eUn pNeg A)) := by
  refine peImp (pe_un un_neg ha) fun s H Q ⟨as, ρ, hh, f, x, o⟩ => ?_
  refine ⟨as, ρ, hh, f, x, (Out.bind o).imp fun V H1 ⟨as1, h1, p1, S1, x1, r1, o1⟩ => ?_⟩
  unfold pNeg at o1
  split at o1
  · cases r1; exact ⟨_, rfl, o1.here x1 (.int _)⟩
  · exact o1.elim
theorem snd_ci {K : PySem.W.Frag} {mg : Str → Option Value} {g : Int → Int → Bool} : Snd K mg (pCI g) (rI0 fun i j => .bl (g i j)) := by
  intro W s as H h x y U V Q rh rx ry o
  unfold pCI at o
  split at o
  · cases rx; cases ry; exact ⟨_, _, rfl, rfl, o.here rh (.bl _)⟩
  · exact o.elim
theorem isN_of {K : PySem.W.Frag} {mg : Str → Option Value} {as : List Addr} {H : Hp} {x : PV} {U : V} (r : RP K mg H as x U) (hg : ∀ z, x ≠ .glo z) : isN x = decide (U = .non) := by
  cases r with
  | glo => exact absurd rfl (hg _)
  | _ => rfl
theorem snd_isn {K : PySem.W.Frag} {mg : Str → Option Value} : Snd K mg pIsN (fun x y H Q => y = .non ∧ Q (.bl (decide (x = .non))) H) := by
  intro W s as H h x y U V Q rh rx ry o
  unfold pIsN at o
  split at o
  · cases ry
    split at o
    · exact o.elim
    · rename_i hg
      refine ⟨rfl, ?_⟩
      rw [← isN_of rx fun z e => hg z e]
      exact o.here rh (.bl _)
  · exact o.elim
theorem snd_notn {K : PySem.W.Frag} {mg : Str → Option Value} : Snd K mg pNotN (fun x y H Q => y = .non ∧ Q (.bl (!decide (x = .non))) H) := by
  intro W s as H h x y U V Q rh rx ry o
  unfold pNotN at o
  split at o
  · cases ry
    split at o
    · exact o.elim
    · rename_i hg
      refine ⟨rfl, ?_⟩
      rw [← isN_of rx fun z e => hg z e]
      exact o.here rh (.bl _)
  · exact o.elim
/-! ### data -/
theorem dpAll {K : PySem.W.Frag} {mg : Str → Option Value} {as : List Addr} {H : Hp} {g : PV → Option PyData} (hg : ∀ p v d, RP K mg H as p v → g p = some d → Dp K H v d) : ∀ {ps : List PV} {vs : List V} {ds : List PyData}, RPs K mg H as ps vs → optAll g ps = some ds → DpAll K H vs ds := by
  intro ps
  induction ps with
  | nil => intro vs ds r e; cases r; cases e; exact .nil
  | cons p ps ih =>
    intro vs ds r e
    cases r with
    | cons a b =>
      unfold optAll at e
      split at e
      · rename_i y ys e1 e2
        cases e
        exact .cons (hg _ _ _ a e1) (ih b e2)
      · cases e
theorem dp_ints {K : PySem.W.Frag} {H : Hp} : ∀ ks : List Int, DpAll K H (ks.map V.int) (ks.map PyData.int)
  | [] => .nil
  | k :: r => .cons (.int k) (dp_ints r)
theorem dp_of {K : PySem.W.Frag} {mg : Str → Option Value} {as : List Addr} {H : Hp} {h : IH} (x : RH K mg H as h) : ∀ (n : Nat) (p : PV) (v : V) (d : PyData), RP K mg H as p v → dataOf n h p = some d → Dp K H v d := by
  intro n
  induction n with
  | zero =>
    intro p v d r e
    cases r with
    | non => simp only [dataOf] at e; cases e; exact .non
    | bl b => simp only [dataOf] at e; cases e; exact .bl b
    | int i => simp only [dataOf] at e; cases e; exact .int i
    | str y => simp only [dataOf] at e; cases e; exact .str y
    | tup => simp only [dataOf] at e; cases e
    | fls => simp only [dataOf] at e; cases e
    | obj => simp only [dataOf] at e; cases e
    | glo => simp only [dataOf] at e; cases e
    | ty => simp only [dataOf] at e; cases e
    | key h => simp only [dataOf] at e; cases e; exact .tup (SqT.of h) (dp_ints _)
  | succ n ih =>
    intro p v d r e
    cases r with
    | non => simp only [dataOf] at e; cases e; exact .non
    | bl b => simp only [dataOf] at e; cases e; exact .bl b
    | int i => simp only [dataOf] at e; cases e; exact .int i
    | str y => simp only [dataOf] at e; cases e; exact .str y
    | tup hs rs =>
      simp only [dataOf, Option.map_eq_some_iff] at e
      obtain ⟨ds, e1, rfl⟩ := e
      exact .tup hs (dpAll ih rs e1)
    | fls hs rs =>
      simp only [dataOf, Option.map_eq_some_iff] at e
      obtain ⟨ds, e1, rfl⟩ := e
      exact .lst hs.sq (dpAll ih rs e1)
    | obj ha =>
      simp only [dataOf] at e
      split at e
      · rename_i xs hx
        obtain ⟨a, h1, ys, h2, rs⟩ := x.at_ _ _ hx
        rw [ha] at h1; cases h1
        rw [Option.map_eq_some_iff] at e
        obtain ⟨ds, e1, rfl⟩ := e
        exact .lst (SqL.of h2) (dpAll ih rs e1)
      · cases e
    | glo => simp only [dataOf] at e; cases e
    | ty => simp only [dataOf] at e; cases e
    | key h => simp only [dataOf] at e; cases e; exact .tup (SqT.of h) (dp_ints _)
theorem eqB_of {K : PySem.W.Frag} {mg : Str → Option Value} {as : List Addr} {H : Hp} {h : IH} {x y : PV} {U V : V} {q : Bool} (rh : RH K mg H as h) (rx : RP K mg H as x U) (ry : RP K mg H as y V) (e : pEqB x y h = some q) :
    ∃ d e, Dp K H U d ∧ Dp K H V e ∧ SeqAt.shaped d = true ∧ SeqAt.shaped e = true ∧ PyData.eqv d e = q := by
  unfold pEqB at e
  split at e
  · rename_i d1 d2 e1 e2
    split at e
    · rename_i hs
      obtain ⟨s1, s2⟩ := Bool.and_eq_true_iff.mp hs
      cases e
      exact ⟨d1, d2, dp_of rh _ _ _ _ rx e1, dp_of rh _ _ _ _ ry e2, s1, s2, rfl⟩
    · cases e
  · cases e
theorem snd_eq {K : PySem.W.Frag} {mg : Str → Option Value} : Snd K mg pEq (rEqD K) := by
  intro W s as H h x y U V Q rh rx ry o
  unfold pEq at o
  cases q : pEqB x y h with
  | none => rw [q] at o; exact o.elim
  | some z =>
    rw [q] at o
    obtain ⟨d, e, h1, h2, h3, h4, rfl⟩ := eqB_of rh rx ry q
    exact ⟨d, e, h1, h2, h3, h4, o.here rh (.bl _)⟩
theorem snd_ne {K : PySem.W.Frag} {mg : Str → Option Value} : Snd K mg pNe (rNeD K) := by
  intro W s as H h x y U V Q rh rx ry o
  unfold pNe at o
  cases q : pEqB x y h with
  | none => rw [q] at o; exact o.elim
  | some z =>
    rw [q] at o
    obtain ⟨d, e, h1, h2, h3, h4, rfl⟩ := eqB_of rh rx ry q
    exact ⟨d, e, h1, h2, h3, h4, o.here rh (.bl _)⟩
/-! ### subscripts -/
theorem RPs.atI {K : PySem.W.Frag} {mg : Str → Option Value} {as : List Addr} {H : Hp} {ps : List PV} {vs : List V} {i : Int} {p : PV} (r : RPs K mg H as ps vs) (e : L2.atI ps i = some p) : ∃ v, L2.atI vs i = some v ∧ RP K mg H as p v := by
  unfold L2.atI at e ⊢
  rw [← r.length]
  cases q : ixN ps.length i with
  | none => rw [q] at e; cases e
  | some j =>
    rw [q] at e
    exact r.get e
theorem snd_idx {K : PySem.W.Frag} {mg : Str → Option Value} : Snd K mg pIdx (rIx K) := by
  intro W s as H h x y U V Q rh rx ry o
  unfold pIdx at o
  split at o
  · cases rx with
    | tup hs rs =>
      cases ry
      unfold opt at o
      split at o
      · rename_i p e
        obtain ⟨v, e1, r1⟩ := rs.atI e
        exact .inr (.inl ⟨_, _, _, v, rfl, rfl, hs, e1, o.here rh r1⟩)
      · exact o.elim
  · cases rx with
    | fls hs rs =>
      cases ry
      unfold opt at o
      split at o
      · rename_i p e
        obtain ⟨v, e1, r1⟩ := rs.atI e
        exact .inl ⟨_, _, _, v, rfl, rfl, hs.sq, e1, o.here rh r1⟩
      · exact o.elim
  · cases rx
    cases ry
    split at o
    · rename_i hl
      unfold opt at o
      split at o
      · rename_i p e
        rw [Option.map_eq_some_iff] at e
        obtain ⟨c, e1, rfl⟩ := e
        exact .inr (.inr ⟨_, _, c, rfl, rfl, by rw [sizeLine_eq]; exact hl, e1, o.here rh (.str _)⟩)
      · exact o.elim
    · exact o.elim
  · cases rx with
    | obj ha =>
      cases ry
      split at o
      · rename_i xs hx
        obtain ⟨a, h1, ys, h2, rs⟩ := rh.at_ _ _ hx
        rw [ha] at h1; cases h1
        unfold opt at o
        split at o
        · rename_i p e
          obtain ⟨v, e1, r1⟩ := rs.atI e
          exact .inl ⟨_, _, _, v, rfl, rfl, SqL.of h2, e1, o.here rh r1⟩
        · exact o.elim
      · exact o.elim
  · exact o.elim
theorem ie_idx (ha : PE X a (IE X.K X.mg W A)) (hb : PE X b (IE X.K X.mg W B)) (hs : PlainIx b := by intro _ _; rfl) : PE X (.Subscript a b pos) (IE X.K X.mg W (eOp pIdx A B)) :=
  peImp (pe_ix ix_seq ha hb hs) fun _ _ _ h => tOp_of (ta := IE X.K X.mg W A) (tb := IE X.K X.mg W B) snd_idx h
abbrev IO (K : PySem.W.Frag) (mg : Str → Option Value) (W : WX) (A : OX) : TO := IG K mg (fun _ _ p v => p = v) W A
theorem poImp {oe : Option Expr} {t t' : TO} (h : PO X oe t) (hi : ∀ s H Q, t' s H Q → t s H Q) : PO X oe t' := ⟨fun pins s σ H Q I q => h.run pins s σ H Q I (hi σ H Q q)⟩
theorem io_none : PO X none (IO X.K X.mg W oNone) := poImp po_none fun s H Q ⟨as, ρ, hh, f, x, o⟩ => o.here x rfl
theorem io_some (h : PE X e (IE X.K X.mg W A)) : PO X (some e) (IO X.K X.mg W (oSome A)) := by
  refine poImp (po_some h) fun s H Q ⟨as, ρ, hh, f, x, o⟩ => ?_
  refine ⟨as, ρ, hh, f, x, (Out.bind o).imp fun V H1 ⟨as1, h1, p1, S1, x1, r1, o1⟩ => ?_⟩
  split at o1
  · cases r1; exact ⟨_, rfl, o1.here x1 rfl⟩
  · exact o1.elim
theorem RPs.cut {K : PySem.W.Frag} {mg : Str → Option Value} {as : List Addr} {H : Hp} {ps : List PV} {vs : List V} {lo hi : Option Int} (r : RPs K mg H as ps vs) : RPs K mg H as (cutA ps lo hi) (cutV vs lo hi) := by
  unfold cutA cutV
  rw [← r.length]
  exact (r.drop _).take _
theorem ie_sl {lo hi : Option Expr} {p2 : Pos} {l u : OX} (he : PE X e (IE X.K X.mg W A)) (hl : PO X lo (IO X.K X.mg W l)) (hu : PO X hi (IO X.K X.mg W u)) : PE X (.Subscript e (.Slice lo hi none p2) pos) (IE X.K X.mg W (eSl A l u)) := by
  refine peImp (pe_slice (sl_tupA.or sl_list) he hl hu) fun s H Q ⟨as, ρ, hh, f, x, o⟩ => ?_
  refine ⟨as, ρ, hh, f, x, (Out.bind o).imp fun V H1 ⟨as1, h1, p1, S1, x1, r1, o1⟩ => ?_⟩
  refine ⟨as1, ρ, h1, f.mono S1, x1, (Out.bind o1).imp fun lo' H2 ⟨as2, h2, p2, S2, x2, r2, o2⟩ => ?_⟩
  refine ⟨as2, ρ, h2, (f.mono S1).mono S2, x2, (Out.bind o2).imp fun hi' H3 ⟨as3, h3, p3, S3, x3, r3, o3⟩ => ?_⟩
  obtain rfl : p2 = lo' := r2
  obtain rfl : p3 = hi' := r3
  have r1' := (r1.mono S2).mono S3
  unfold pSl at o3
  split at o3
  · cases r1' with
    | tup hs rs =>
      refine .inl ⟨_, _, rfl, hs, fun hw => ?_, fun _ p np => ?_⟩
      · have e : ∀ {α : Type} (l : List α), HT.sIx l.length 0 p2 = 0 ∧ HT.sIx l.length l.length p3 = l.length → cutA l p2 p3 = l := fun l z => by
          unfold cutA
          rw [z.1, z.2]
          simp
        rw [← rs.length] at hw
        rw [e _ hw] at o3
        exact o3.here x3 (.tup hs rs)
      · exact o3 _ _ as3 (Stp.lay x3 np) (x3.lay np) (.tup (SqT.of upd_same) (rs.cut.mono (Stp.lay x3 np)))
  · cases r1' with
    | obj ha =>
      split at o3
      · rename_i xs hx
        obtain ⟨a, g1, ys, g2, rs⟩ := x3.at_ _ _ hx
        rw [ha] at g1; cases g1
        refine .inr ⟨_, _, rfl, SqL.of g2, fun p np => ?_⟩
        have S := Stp.new (o := .lst (cutV ys p2 p3)) x3 np
        refine o3 _ _ _ S (x3.new np ⟨_, upd_same, rs.cut.mono S⟩) (.obj ?_)
        rw [List.getElem?_append_right (by rw [x3.len]; exact Nat.le_refl _), x3.len, Nat.sub_self]
        rfl
      · exact o3.elim
  · exact o3.elim
/-! ### displays -/
theorem ie_tup {x1} (h : PA X es (IA X.K X.mg W L)) : PE X (.Tuple es x1 pos) (IE X.K X.mg W (eTup L)) := by
  refine peImp (pe_tup h) fun s H Q ⟨as, ρ, hh, f, x, o⟩ => ?_
  refine ⟨as, ρ, hh, f, x, (Out.bind o).imp fun Vs H1 ⟨as1, h1, p1, S1, x1, r1, o1⟩ => ?_⟩
  split at o1
  · rename_i hl
    refine ⟨by rw [sizeLine_eq, ← r1.length]; exact hl, fun p np => ?_⟩
    exact o1 _ _ as1 (Stp.lay x1 np) (x1.lay np) (.tup (SqT.of upd_same) (r1.mono (Stp.lay x1 np)))
  · exact o1.elim
theorem mkL_of {K : PySem.W.Frag} {mg : Str → Option Value} {s : L2.St} {as : List Addr} {H : Hp} {h : IH} {ps : List PV} {vs : List V} {Q : VK} (x : RH K mg H as h) (r : RPs K mg H as ps vs) (o : Out K mg (fun H as p v => RP K mg H as p v) W s as H Q (mkL ps h)) :
    vs.length ≤ sizeLine ∧ ∀ p, H p = none → Q (.ref p) (upd H p (.lst vs)) := by
  unfold mkL at o
  split at o
  · rename_i hl
    refine ⟨by rw [sizeLine_eq, ← r.length]; exact hl, fun p np => ?_⟩
    have S := Stp.new (o := .lst vs) x np
    refine o _ _ _ S (x.new np ⟨_, upd_same, r.mono S⟩) (.obj ?_)
    rw [List.getElem?_append_right (by rw [x.len]; exact Nat.le_refl _), x.len, Nat.sub_self]
    rfl
  · exact o.elim
theorem ie_lst (h : PA X es (IA X.K X.mg W L)) : PE X (.List es pos) (IE X.K X.mg W (eLst L)) := by
  refine peImp (pe_lst h) fun s H Q ⟨as, ρ, hh, f, x, o⟩ => ?_
  exact ⟨as, ρ, hh, f, x, (Out.bind o).imp fun Vs H1 ⟨as1, h1, p1, S1, x1, r1, o1⟩ => mkL_of x1 r1 o1⟩
end
end WR

/-! what loops walk: lists, tuples, ranges, enumerate, zip of lists and tuples in any mix -/
namespace PySem
open Builtin Builtin.Str
theorem WR_meets_enum1 {v : Value} {o : Obj} {H : Heap → Prop} (B : Begins v o H) :
    Meets (Builtin.«enumerate.__new__» ⟨[.type "enumerate", v], []⟩) (fun _ R s => H s.heap ∧
      R (.ok (.ret (.ref (s.heap.push o).objs.size))) { s with heap := (s.heap.push o).push { cls := .type "enumerate", data := .fields #[.none, .bool false, .ref s.heap.objs.size, rawInt 0, .none, .none] } }) :=
  .of_wp fun prog w A R s h => by
    obtain ⟨hp, g, d, tk, os⟩ := s; obtain ⟨h1, h⟩ := h
    have hsub := sub_enumerate
    have q1 : ∀ {A' : Around} {E : Value → Shared → Prop} {Q : Value → Shared → Prop}, Q (.ref hp.objs.size) ⟨hp.push o, g, d, tk, os⟩ → wpAny (model prog w) A' (pyIter v) Q E ⟨hp, g, d, tk, os⟩ :=
      fun q => B.iter prog w _ _ ⟨hp, g, d, tk, os⟩ _ h1 q
    wp_walk using q1
    refine wpAny_stack_any fun st => wpAny_pure ?_
    split
    · rename_i c _ _ _ _ _
      cases (c == Value.type "enumerate")
      · wp_walk using q1
        exact ⟨_, rfl, h⟩
      · wp_walk using q1
        exact ⟨_, rfl, h⟩
    · wp_walk using q1
      exact ⟨_, rfl, h⟩
theorem WR_enum1 {prog : Program} {w : World} {A : Around} {E : Value → Shared → Prop} {s : Shared} {v : Value} {o : Obj} {H : Heap → Prop} {Q : Value → Shared → Prop} (B : Begins v o H) (h1 : H s.heap)
    (h : ∀ h', IsEnum h' (s.heap.objs.size + 1) s.heap.objs.size 0 .none → h'.get? s.heap.objs.size = some o → h'.objs.size = s.heap.objs.size + 2 →
      (∀ b o, s.heap.get? b = some o → h'.get? b = some o) → Q (.ref (s.heap.objs.size + 1)) { s with heap := h' }) :
    wpAny (model prog w) A (call (.type "enumerate") [v]) Q E s := by
  refine callType_new F.called_enumerate (by decide) (F.typeCall_enumerate_1 _) (F.newCall_enumerate_1 _) (fun obj => F.args_object_init_2 obj _) F.entry_enumerate_new
    (WR_meets_enum1 B) ⟨h1, ?_⟩
  have hz : (s.heap.push o).objs.size = s.heap.objs.size + 1 := Heap.size_push ..
  show _ ∧ _
  rw [hz]
  have he : IsEnum ((s.heap.push o).push { cls := .type "enumerate", data := .fields #[.none, .bool false, .ref s.heap.objs.size, rawInt 0, .none, .none] }) (s.heap.objs.size + 1) s.heap.objs.size 0 .none := by
    have := Heap.get?_push_size (s.heap.push o) (o := { cls := .type "enumerate", data := .fields #[.none, .bool false, .ref s.heap.objs.size, rawInt 0, .none, .none] }) rfl
    rw [hz] at this; exact this
  exact ⟨⟨_, he, rfl⟩, h _ he (Heap.get?_push_of_some _ (Heap.get?_push_size _ B.free)) (by rw [Heap.size_push, hz]) fun b o x => Heap.get?_push_of_some _ (Heap.get?_push_of_some _ x)⟩
end PySem
namespace WR
open PySem PySem.Spec PyProof.Rows L2
/-! ### a list or a tuple -/
def SqK (t : Bool) (K : PySem.W.Frag) (H : Hp) (a : Addr) (xs : List V) : Prop := match t with
  | true => SqT K H a xs
  | false => SqL K H a xs
def ItAt (t : Bool) (h : Heap) (it a : Addr) (i : Nat) : Prop := match t with
  | true => h.IsTupleIter it a i
  | false => h.IsListIter it a i
def CtAt (t : Bool) (h : Heap) (a : Addr) (its : Array Value) : Prop := match t with
  | true => h.IsTuple a its
  | false => h.IsList a its
def itO (t : Bool) (a : Addr) : Obj := match t with
  | true => { cls := .type "tuple_iterator", data := .fields #[.ref a, .int 0 0] }
  | false => { cls := .type "list_iterator", data := .fields #[.ref a, .int 0 0] }
theorem ItAt.at {t : Bool} {h h' : Heap} {it a : Addr} {i : Nat} (x : ItAt t h it a i) (k : ∀ o, h.get? it = some o → h'.get? it = some o) : ItAt t h' it a i := by
  cases t with
  | true => exact Heap.IsTupleIter.at x k
  | false => exact Heap.IsListIter.at x k
theorem ItAt.obj {t : Bool} {h : Heap} {it a : Addr} {i : Nat} (x : ItAt t h it a i) : ∃ o, h.get? it = some o ∧ ∀ v, o.data ≠ .cell v := by
  cases t with
  | true => obtain ⟨o, e, _, d⟩ := x; exact ⟨o, e, fun v q => by rw [d] at q; cases q⟩
  | false => obtain ⟨o, e, _, d⟩ := x; exact ⟨o, e, fun v q => by rw [d] at q; cases q⟩
theorem ItAt.new {t : Bool} {h : Heap} {it a : Addr} (e : h.get? it = some (itO t a)) : ItAt t h it a 0 := by
  cases t with
  | true => exact ⟨_, e, rfl, rfl⟩
  | false => exact ⟨_, e, rfl, rfl⟩
theorem draws_k (t : Bool) {prog : Program} {w : World} {A : Around} (hh : A.handled = none) (it l : Addr) (hne : l ≠ it) (items : Array Value) :
    Draws prog w A it [it, l] items.size (fun i v => items[i]? = some v) (fun i h => ItAt t h it l i ∧ CtAt t h l items) := by
  cases t with
  | true => exact Draws.tuple hh it l hne items
  | false => exact Draws.list hh it l hne items
theorem begins_k (t : Bool) (l : Addr) (items : Array Value) : Begins (.ref l) (itO t l) fun h => CtAt t h l items := by
  cases t with
  | true => exact begins_tuple l items
  | false => exact begins_list l items
section
variable {X : Cx} {pins : List (Addr × Obj)} {σ : L2.St} {H : Hp} {s : Shared} {a : Addr} {xs ys : List V} {t : Bool}
theorem seqK (I : Inv X pins σ H s) (h : SqK t X.K H a xs) : ∃ its : List Value, Vals xs its ∧ CtAt t s.heap a its.toArray := by
  cases t with
  | true => obtain ⟨its, r, p, _⟩ := I.tuple h; exact ⟨its, r, p⟩
  | false => obtain ⟨its, r, p, _⟩ := I.list h; exact ⟨its, r, p.isList⟩
theorem seqK_inj (I : Inv X pins σ H s) (h : SqK t X.K H a xs) (h' : SqK t X.K H a ys) : xs = ys := by
  cases t with
  | true => exact I.tuple_inj h h'
  | false => exact I.list_inj h h'
end
/-! ### enumerate -/
def ItE (t : Bool) (K : PySem.W.Frag) (a : Addr) : It :=
  ⟨fun i H => ∃ (xs : List V) (x : V), SqK t K H a xs ∧ xs[i]? = some x, fun i H v H' => ∃ T x, v = .ref T ∧ H T = none ∧ H' = upd H T (.tup [.int (i : Nat), x]) ∧ ∀ xs, SqK t K H a xs → xs[i]? = some x, fun i H => ∃ xs : List V, SqK t K H a xs ∧ xs.length = i⟩
theorem turn_E {P : Program} {w : World} {K : PySem.W.Frag} {elts : List Expr} {kk : Nat} {tpos : Pos} (t : Bool) (a e it : Addr) (hei : e ≠ it) (hea : e ≠ a) (hai : a ≠ it) :
    Turn P w K (.Tuple elts kk tpos) (ItE t K a) [e, it] e (fun i h => (∃ old, IsEnum h e it ((i : Nat) : Int) old) ∧ ItAt t h it a i) where
  mem := by simp
  obj := fun i h st b hb => by
    obtain ⟨⟨old, he⟩, hi⟩ := st
    have e' : b = e ∨ b = it := by simpa using hb
    rcases e' with z | z
    · rw [z]; exact ⟨_, he, fun v q => nomatch q⟩
    · rw [z]; exact hi.obj
  keep := fun i h h' st k => let ⟨⟨old, he⟩, hi⟩ := st; ⟨⟨old, k e (by simp) _ he⟩, hi.at fun o q => k it (by simp) o q⟩
  item := by
    intro X hP hw hK hc i pins s σ H E I hf st hg
    subst hP hw hK
    obtain ⟨⟨old, he⟩, hit⟩ := st
    obtain ⟨xs, x, hq, hx⟩ := hg
    obtain ⟨its, rv, p⟩ := seqK I hq
    obtain ⟨u, hu, ru⟩ := rv.get hx
    have hel : e < s.heap.objs.size := Heap.lt_size he
    have hil : it < s.heap.objs.size := by obtain ⟨_, q, _⟩ := hit.obj; exact Heap.lt_size q
    have hlt : i < its.toArray.size := by
      have := (List.getElem?_eq_some_iff.mp hu).1
      simpa using this
    refine wpAny_pyNext_enum_itemD (draws_k t (A := X.A.in1) (I.ok.hd hc) it a hai its.toArray) he ⟨hit, p⟩ hlt hei (by simp [hei, hea]) fun x' h' tk hP ho hst hT hsz hk => ?_
    have ex : x' = u := by
      have h1 : its.toArray[i]? = some u := by simpa using hu
      rw [h1] at hP
      exact (Option.some.inj hP).symm
    subst ex
    refine ⟨_, rfl, wpAny_letOwnedTupleGo_enum (s := { s with heap := h', toks := tk + 1 }) ho fun h'' he' sb => ?_⟩
    have hT2 : h''.get? s.heap.objs.size = some { cls := .type "tuple", data := .seq #[.int i tk, x'] } := (sb.2 _ (Nat.ne_of_gt hel)).trans hT
    have new : ObjOk X.prog X.w (upd H s.heap.objs.size (.tup [.int (i : Nat), x])) h'' s.heap.objs.size (.tup [.int (i : Nat), x]) :=
      ⟨by show 2 ≤ sizeLine; decide, [.int i tk, x'], .cons ⟨_, rfl⟩ (.cons ru .nil), ⟨_, hT2, rfl, _, rfl⟩⟩
    have I1 : Inv X pins σ (upd H s.heap.objs.size (.tup [.int (i : Nat), x])) { s with heap := h'', toks := tk + 1 } :=
      I.turnedNew (ch := [e, it]) (fun b ob hb q => (sb.2 b (fun z => hb (by simp [z]))).trans (hk b ob (fun z => hb (by simp [z])) (fun z => hb (by simp [z])) q)) hf (Nat.le_refl _) new
    refine ⟨.ref s.heap.objs.size, _, I1, rfl, ⟨_, x, rfl, I.hok.fresh (Nat.le_refl _), rfl, fun ys hy => by rw [seqK_inj I hy hq]; exact hx⟩, ⟨⟨x', ?_⟩, hst.1.at fun o q => (sb.2 it (Ne.symm hei)).trans q⟩, fun b hb => ?_⟩
    · have e1 : ((i + 1 : Nat) : Int) = (i : Int) + 1 := by omega
      rw [e1]; exact he'
    · have hb' : b < s.heap.objs.size := by
        have e' : b = e ∨ b = it := by simpa using hb
        rcases e' with z | z
        · rw [z]; exact hel
        · rw [z]; exact hil
      rw [upd_ne (Nat.ne_of_lt hb')]
      exact (hf b hb).1
  done := by
    intro X hP hw hK hc i pins s σ H E I hf st hg
    subst hP hw hK
    obtain ⟨⟨old, he⟩, hit⟩ := st
    obtain ⟨xs, hq, hx⟩ := hg
    obtain ⟨its, rv, p⟩ := seqK I hq
    obtain ⟨f0, f1, f2, f3, f4, f5⟩ := hf it (by simp)
    have hl := rv.length
    have en : its.toArray.size = i := by simp; omega
    subst en
    exact wpAny_pyNext_enum_endD (draws_k t (A := X.A.in1) (I.ok.hd hc) it a hai its.toArray) he ⟨hit, p⟩ fun h' eb => ⟨rfl, I.turned (t' := s.toks) (fun b o hb q => eb b o hb q) f0 f1 f3 f4 f5⟩
  self := fun A i s Q E st h => let ⟨⟨_, he⟩, _⟩ := st; wpAny_pyIter_enum he h
def iE (K : PySem.W.Frag) (ta : TA) : TI := fun σ H R => ta σ H fun vs H1 => ∃ t a xs, vs = [.ref a] ∧ SqK t K H1 a xs ∧ R (ItE t K a) H1
theorem pi_E {X : Cx} {e : Expr} {ta : TA} {p pos tpos : Pos} {elts : List Expr} {kk : Nat} (hg : Gl X "enumerate") (hm : X.mg "enumerate" = none) (ha : PA X [e] ta) (hs : starEach [e] X.env = [(false, eval e X.env)] := by rfl) :
    PI X (.Tuple elts kk tpos) (.Call (.Name "enumerate" p) [e] [] pos) (iE X.K ta) := by
  refine ⟨fun pins s σ H R I h => ?_⟩
  refine Call_ (ld_blt I hg hm boot_enumerate (PyProof.Rows.callWith_type1 (thn (ha.run pos pins s σ H _ I h) fun us s1 ⟨vs, H1, I1, r1, q1⟩ => ?_) hs rfl))
  obtain ⟨t, a, xs, ex, hq, q⟩ := q1
  subst ex
  cases r1 with
  | cons r rr =>
    cases rr
    cases r
    obtain ⟨its, rv, p'⟩ := seqK I1 hq
    have hal : a < s1.heap.objs.size := by
      cases t with
      | true => obtain ⟨o, e, _⟩ := p'; exact Heap.lt_size e
      | false => obtain ⟨o, e, _⟩ := p'; exact Heap.lt_size e
    refine WR_enum1 (begins_k t a its.toArray) p' fun h' he hit hsz hk => wpAny_pyIter_enum he ?_
    have I2 : Inv X pins σ H1 { s1 with heap := h' } := I1.kept (t' := s1.toks) hk
    refine ⟨s1.heap.objs.size + 1, [s1.heap.objs.size + 1, s1.heap.objs.size], _, _, H1, rfl, I2, turn_E t a (s1.heap.objs.size + 1) s1.heap.objs.size (Nat.succ_ne_self _) (Nat.ne_of_gt (Nat.lt_succ_of_lt hal)) (Nat.ne_of_lt hal), ⟨⟨.none, he⟩, ItAt.new hit⟩, fun b hb => ?_, q⟩
    have e' : b = s1.heap.objs.size + 1 ∨ b = s1.heap.objs.size := by simpa using hb
    have hle : s1.heap.objs.size ≤ b := by
      rcases e' with z | z
      · rw [z]; exact Nat.le_add_right _ _
      · rw [z]; exact Nat.le_refl _
    exact I1.fpOk hle (I1.hok.fresh hle)
/-! ### zip -/
def ItZ (t u : Bool) (K : PySem.W.Frag) (a b : Addr) : It :=
  ⟨fun i H => ∃ (xs ys : List V) (x y : V), SqK t K H a xs ∧ SqK u K H b ys ∧ xs[i]? = some x ∧ ys[i]? = some y,
    fun i H v H' => ∃ T x y, v = .ref T ∧ H T = none ∧ H' = upd H T (.tup [x, y]) ∧ (∀ xs, SqK t K H a xs → xs[i]? = some x) ∧ ∀ ys, SqK u K H b ys → ys[i]? = some y,
    fun i H => ∃ xs ys : List V, SqK t K H a xs ∧ SqK u K H b ys ∧ i ≤ xs.length ∧ i ≤ ys.length ∧ (i = xs.length ∨ i = ys.length)⟩
theorem turn_Z {P : Program} {w : World} {K : PySem.W.Frag} {elts : List Expr} {kk : Nat} {tpos : Pos} (t u : Bool) {a b z TI TO i1 i2 : Addr} (S : ZipSep2 z TI TO i1 i2 [i1, a] [i2, b]) (ha : a ≠ i1) (hb : b ≠ i2) :
    Turn P w K (.Tuple elts kk tpos) (ItZ t u K a b) [z, TI, TO, i1, i2] z (fun i h => IsZip h z TI TO .none ∧ IsTupOf2 h TI (.ref i1) (.ref i2) ∧ (∃ x y, IsTupOf2 h TO x y) ∧ ItAt t h i1 a i ∧ ItAt u h i2 b i) where
  mem := by simp
  obj := fun i h st c hc => by
    obtain ⟨hz, hTI, ⟨x, y, hTO⟩, h1, h2⟩ := st
    have e' : c = z ∨ c = TI ∨ c = TO ∨ c = i1 ∨ c = i2 := by simpa using hc
    rcases e' with q | q | q | q | q
    · rw [q]; exact ⟨_, hz, fun v q => nomatch q⟩
    · rw [q]; exact ⟨_, hTI, fun v q => nomatch q⟩
    · rw [q]; exact ⟨_, hTO, fun v q => nomatch q⟩
    · rw [q]; exact h1.obj
    · rw [q]; exact h2.obj
  keep := fun i h h' st k => by
    obtain ⟨hz, hTI, ⟨x, y, hTO⟩, h1, h2⟩ := st
    exact ⟨k z (by simp) _ hz, k TI (by simp) _ hTI, ⟨x, y, k TO (by simp) _ hTO⟩, h1.at fun o q => k i1 (by simp) o q, h2.at fun o q => k i2 (by simp) o q⟩
  item := by
    intro X hP hw hK hc i pins s σ H E I hf st hg
    subst hP hw hK
    obtain ⟨hz, hTI, ⟨x0, y0, hTO⟩, h1, h2⟩ := st
    obtain ⟨xs, ys, x, y, hqx, hqy, hx, hy⟩ := hg
    obtain ⟨its, rv, p⟩ := seqK I hqx
    obtain ⟨its2, rv2, p2⟩ := seqK I hqy
    obtain ⟨v1, hu, ru⟩ := rv.get hx
    obtain ⟨v2, hu2, ru2⟩ := rv2.get hy
    have hzl : z < s.heap.objs.size := Heap.lt_size hz
    have l1 : i < its.toArray.size := by
      have := (List.getElem?_eq_some_iff.mp hu).1
      simpa using this
    have l2 : i < its2.toArray.size := by
      have := (List.getElem?_eq_some_iff.mp hu2).1
      simpa using this
    refine wpAny_pyNext_zipD2_item S (draws_k t (A := X.A.in1) (I.ok.hd hc) i1 a ha its.toArray) (draws_k u (A := X.A.in1) (I.ok.hd hc) i2 b hb its2.toArray) hz hTI hTO ⟨h1, p⟩ ⟨h2, p2⟩ l1 l2 fun w1 w2 h' tk hP1 hP2 z' TO' h1' h2' hT hsz hk => ?_
    have e1 : w1 = v1 := by
      have q : its.toArray[i]? = some v1 := by simpa using hu
      rw [q] at hP1
      exact (Option.some.inj hP1).symm
    have e2 : w2 = v2 := by
      have q : its2.toArray[i]? = some v2 := by simpa using hu2
      rw [q] at hP2
      exact (Option.some.inj hP2).symm
    subst e1
    subst e2
    refine ⟨_, rfl, wpAny_letOwnedTupleGo_zip (s := { s with heap := h', toks := tk }) z' fun h'' z'' sb => ?_⟩
    have hT2 : h''.get? s.heap.objs.size = some { cls := .type "tuple", data := .seq #[w1, w2] } := (sb.2 _ (Nat.ne_of_gt hzl)).trans hT
    have new : ObjOk X.prog X.w (upd H s.heap.objs.size (.tup [x, y])) h'' s.heap.objs.size (.tup [x, y]) :=
      ⟨by show 2 ≤ sizeLine; decide, [w1, w2], .cons ru (.cons ru2 .nil), ⟨_, hT2, rfl, _, rfl⟩⟩
    have I1 : Inv X pins σ (upd H s.heap.objs.size (.tup [x, y])) { s with heap := h'', toks := tk } :=
      I.turnedNew (t' := tk) (ch := [z, TI, TO, i1, i2]) (fun c o hb q => (sb.2 c (fun q' => hb (by simp [q']))).trans (hk c o (fun q' => hb (by simp [q'])) (fun q' => hb (by simp [q'])) (fun q' => hb (by simp [q'])) (fun q' => hb (by simp [q'])) q)) hf (Nat.le_refl _) new
    refine ⟨.ref s.heap.objs.size, _, I1, rfl, ⟨_, x, y, rfl, I.hok.fresh (Nat.le_refl _), rfl, fun l hl => by rw [seqK_inj I hl hqx]; exact hx, fun l hl => by rw [seqK_inj I hl hqy]; exact hy⟩, ⟨z'', ?_, ⟨w1, w2, ?_⟩, ?_, ?_⟩, fun c hcm => ?_⟩
    · exact (sb.2 _ S.TIz).trans (hk _ _ S.TIz S.TITO S.TIi1 S.TIi2 hTI)
    · exact (sb.2 _ S.TOz).trans TO'
    · exact h1'.1.at fun o q => (sb.2 _ (Ne.symm S.zi1)).trans q
    · exact h2'.1.at fun o q => (sb.2 _ (Ne.symm S.zi2)).trans q
    · have hlt : c < s.heap.objs.size := by
        have e' : c = z ∨ c = TI ∨ c = TO ∨ c = i1 ∨ c = i2 := by simpa using hcm
        rcases e' with q | q | q | q | q
        · rw [q]; exact hzl
        · rw [q]; exact Heap.lt_size hTI
        · rw [q]; exact Heap.lt_size hTO
        · rw [q]; obtain ⟨_, e1, _⟩ := h1.obj; exact Heap.lt_size e1
        · rw [q]; obtain ⟨_, e2, _⟩ := h2.obj; exact Heap.lt_size e2
      rw [upd_ne (Nat.ne_of_lt hlt)]
      exact (hf c hcm).1
  done := by
    intro X hP hw hK hc i pins s σ H E I hf st hg
    subst hP hw hK
    obtain ⟨hz, hTI, ⟨x0, y0, hTO⟩, h1, h2⟩ := st
    obtain ⟨xs, ys, hqx, hqy, g1, g2, hend⟩ := hg
    obtain ⟨its, rv, p⟩ := seqK I hqx
    obtain ⟨its2, rv2, p2⟩ := seqK I hqy
    have l1 := rv.length
    have l2 := rv2.length
    refine wpAny_pyNext_zipD2_end S (draws_k t (A := X.A.in1) (I.ok.hd hc) i1 a ha its.toArray) (draws_k u (A := X.A.in1) (I.ok.hd hc) i2 b hb its2.toArray) hz hTI hTO ⟨h1, p⟩ ⟨h2, p2⟩ (by simp; omega) (by simp; omega) (by simp; omega) fun h' tk hk => ⟨rfl, ?_⟩
    exact I.turnedL (t' := tk) (ch := [z, TI, TO, i1, i2]) (fun c o hb q =>
      hk c o (fun q' => hb (by simp [q'])) (fun q' => hb (by simp [q'])) (fun q' => hb (by simp [q'])) (fun q' => hb (by simp [q'])) q) hf
  self := fun A i s Q E st h => wpAny_pyIter_zip st.1 h
def iZ (K : PySem.W.Frag) (ta : TA) : TI := fun σ H R => ta σ H fun vs H1 => ∃ t u a b xs ys, vs = [.ref a, .ref b] ∧ SqK t K H1 a xs ∧ SqK u K H1 b ys ∧ R (ItZ t u K a b) H1
theorem pi_Z {X : Cx} {e e2 : Expr} {ta : TA} {p pos tpos : Pos} {elts : List Expr} {kk : Nat} (hg : Gl X "zip") (hm : X.mg "zip" = none) (ha : PA X [e, e2] ta)
    (hs : starEach [e, e2] X.env = (false, eval e X.env) :: starEach [e2] X.env := by rfl) (hpl : (backTo pos (starEach [e2] X.env)).any (·.1) = false := by rfl) :
    PI X (.Tuple elts kk tpos) (.Call (.Name "zip" p) [e, e2] [] pos) (iZ X.K ta) := by
  refine ⟨fun pins s σ H R I h => ?_⟩
  refine Call_ (ld_blt I hg hm PyProof.Rows.boot_zip (PyProof.Rows.callWith_type1 (thn (ha.run pos pins s σ H _ I h) fun us s1 ⟨vs, H1, I1, r1, q1⟩ => ?_) hs hpl))
  obtain ⟨t, u, a, b, xs, ys, ex, hqx, hqy, q⟩ := q1
  subst ex
  cases r1 with
  | cons r rr =>
    cases rr with
    | cons r' rr =>
      cases rr
      cases r
      cases r'
      obtain ⟨its, rv, p1⟩ := seqK I1 hqx
      obtain ⟨its2, rv2, p2⟩ := seqK I1 hqy
      have lt : ∀ {t : Bool} {a : Addr} {its : Array Value}, CtAt t s1.heap a its → a < s1.heap.objs.size := fun {t a its} p' => by
        cases t with
        | true => obtain ⟨o, e, _⟩ := p'; exact Heap.lt_size e
        | false => obtain ⟨o, e, _⟩ := p'; exact Heap.lt_size e
      have la := lt p1
      have lb := lt p2
      refine zip_begins2 (begins_k t a its.toArray) (begins_k u b its2.toArray) p1 p2 fun h' hz hTI hTO hi1 hi2 hsz hk => wpAny_pyIter_zip hz ?_
      have I2 : Inv X pins σ H1 { s1 with heap := h' } := I1.kept (t' := s1.toks) hk
      refine ⟨_, [s1.heap.objs.size + 4, s1.heap.objs.size + 2, s1.heap.objs.size + 3, s1.heap.objs.size, s1.heap.objs.size + 1], _, _, H1, rfl, I2,
        turn_Z t u (zip_sep2 (fp1 := [a]) (fp2 := [b]) (by simpa using la) (by simpa using lb)) (Nat.ne_of_lt la) (Nat.ne_of_lt (Nat.lt_succ_of_lt lb)), ⟨hz, hTI, ⟨_, _, hTO⟩, ItAt.new hi1, ItAt.new hi2⟩, fun c hc => ?_, q⟩
      have hle : s1.heap.objs.size ≤ c := by
        simp at hc
        rcases hc with z | z | z | z | z <;> rw [z] <;> omega
      exact I1.fpOk hle (I1.hok.fresh hle)
/-! ### the code of what is walked -/
@[simp] def itList (xs : List PV) : ItF := fun i _ => some xs[i]?
@[simp] def itObj (n : Nat) : ItF := fun i h => match h[n]? with
  | some (.lst xs) => some xs[i]?
  | _ => none
@[simp] def eIter (A : EX) : Fm → IH → Res ItF := fun r h => (A r h).bind fun v h1 => match v with
  | .tup xs => .ok (itList xs) h1
  | .fls xs => .ok (itList xs) h1
  | .obj n => (match h1[n]? with
    | some (.lst _) => .ok (itObj n) h1
    | _ => .bad)
  | _ => .bad
@[simp] def itRange (lo : Int) (n : Nat) : ItF := fun i _ => some (if i < n then some (.int (lo + i)) else none)
def rngOk (i : Int) : Bool := decide (i.natAbs < 4611686018427387904)
theorem rngOk_of {i : Int} (h : rngOk i = true) : -4611686018427387904 ≤ i ∧ i < 4611686018427387904 := by
  have := of_decide_eq_true h
  omega
@[simp] def eRange1 (L : AX) : Fm → IH → Res ItF := fun r h => (L r h).bind fun vs h1 => match vs with
  | [.int j] => if rngOk j then .ok (itRange 0 j.toNat) h1 else .bad
  | _ => .bad
@[simp] def eRange2 (L : AX) : Fm → IH → Res ItF := fun r h => (L r h).bind fun vs h1 => match vs with
  | [.int i, .int j] => if rngOk i && rngOk j then .ok (itRange i (j - i).toNat) h1 else .bad
  | _ => .bad
/-- the items of a list or tuple as they stand -/
@[simp] def seqOf (v : PV) (h : IH) : Option (List PV) := match v with
  | .tup xs => some xs
  | .fls xs => some xs
  | .obj n => (match h[n]? with
    | some (.lst xs) => some xs
    | _ => none)
  | _ => none
@[simp] def itEnum (v : PV) : ItF := fun i h => match seqOf v h with
  | some xs => (match xs[i]? with
    | some x => some (some (.tup [.int i, x]))
    | none => if xs.length = i then some none else none)
  | none => none
@[simp] def eEnum (L : AX) : Fm → IH → Res ItF := fun r h => (L r h).bind fun vs h1 => match vs with
  | [v] => (match seqOf v h1 with
    | some _ => .ok (itEnum v) h1
    | none => .bad)
  | _ => .bad
@[simp] def itZip (v w : PV) : ItF := fun i h => match seqOf v h, seqOf w h with
  | some xs, some ys => (match xs[i]?, ys[i]? with
    | some x, some y => some (some (.tup [x, y]))
    | _, _ => if i ≤ xs.length ∧ i ≤ ys.length then some none else none)
  | _, _ => none
@[simp] def eZip (L : AX) : Fm → IH → Res ItF := fun r h => (L r h).bind fun vs h1 => match vs with
  | [v, w] => (match seqOf v h1, seqOf w h1 with
    | some _, some _ => .ok (itZip v w) h1
    | _, _ => .bad)
  | _ => .bad
section
variable {X : Cx} {W : WX} {k : Nat} {a b e tg : Expr} {es : List Expr} {pos : Pos} {A B C : EX} {L : AX}
/-- where a value that is walked stands -/
def kindK : PV → Bool
  | .tup _ => true
  | _ => false
theorem seqOf_at {K : PySem.W.Frag} {mg : Str → Option Value} {as : List Addr} {H : Hp} {h : IH} {v : PV} {V : V} {xs : List PV} (x : RH K mg H as h) (r : RP K mg H as v V) (e : seqOf v h = some xs) :
    ∃ a ys, V = .ref a ∧ SqK (kindK v) K H a ys ∧ RPs K mg H as xs ys := by
  cases r with
  | tup hs rs => cases e; exact ⟨_, _, rfl, hs, rs⟩
  | fls hs rs => cases e; exact ⟨_, _, rfl, hs.sq, rs⟩
  | obj ha =>
    simp only [seqOf] at e
    split at e
    · rename_i zs hz
      cases e
      obtain ⟨a, h1, ys, h2, rs⟩ := x.at_ _ _ hz
      rw [ha] at h1; cases h1
      exact ⟨_, _, rfl, SqL.of h2, rs⟩
    · cases e
  | non => cases e
  | bl => cases e
  | int => cases e
  | str => cases e
  | glo => cases e
  | ty => cases e
  | key => cases e
theorem RPs.none {K : PySem.W.Frag} {mg : Str → Option Value} {as : List Addr} {H : Hp} {xs : List PV} {ys : List V} {i : Nat} (r : RPs K mg H as xs ys) (e : xs[i]? = none) : ys.length ≤ i := by
  rw [← r.length]; exact List.getElem?_eq_none_iff.mp e
theorem ri_list {K : PySem.W.Frag} {mg : Str → Option Value} {as : List Addr} {H : Hp} {a : Addr} {xs : List PV} {ys : List V} (hs : SqF K H a ys) (r : RPs K mg H as xs ys) : RI K mg H as (itList xs) (Itl K a) := by
  intro i as' H' h' S x
  have hs' := S.sqF hs
  unfold itList
  cases q : xs[i]? with
  | none => exact ⟨ys, hs'.sq, r.none q⟩
  | some p =>
    obtain ⟨v, e1, r1⟩ := r.get q
    refine ⟨⟨ys, v, hs'.sq, e1⟩, fun y H'' hy => ?_⟩
    obtain ⟨rfl, z⟩ := hy
    have : y = v := Option.some.inj ((z _ hs'.sq).symm.trans e1)
    subst this
    exact ⟨Stp.refl _ _, x, r1.mono S⟩
theorem ri_tup {K : PySem.W.Frag} {mg : Str → Option Value} {as : List Addr} {H : Hp} {a : Addr} {xs : List PV} {ys : List V} (hs : SqT K H a ys) (r : RPs K mg H as xs ys) : RI K mg H as (itList xs) (Itt K a) := by
  intro i as' H' h' S x
  have hs' := S.sqT hs
  unfold itList
  cases q : xs[i]? with
  | none => exact ⟨ys, hs', r.none q⟩
  | some p =>
    obtain ⟨v, e1, r1⟩ := r.get q
    refine ⟨⟨ys, v, hs', e1⟩, fun y H'' hy => ?_⟩
    obtain ⟨rfl, z⟩ := hy
    have : y = v := Option.some.inj ((z _ hs').symm.trans e1)
    subst this
    exact ⟨Stp.refl _ _, x, r1.mono S⟩
theorem ri_obj {K : PySem.W.Frag} {mg : Str → Option Value} {as : List Addr} {H : Hp} {a : Addr} {n : Nat} (ha : as[n]? = some a) : RI K mg H as (itObj n) (Itl K a) := by
  intro i as' H' h' S x
  unfold itObj
  cases q : h'[n]? with
  | none => trivial
  | some o =>
    cases o with
    | lst xs =>
      obtain ⟨b, e1, ys, e2, rs⟩ := x.at_ _ _ q
      rw [S.get ha] at e1; cases e1
      cases qi : xs[i]? with
      | none =>
        simp only [qi]
        exact ⟨ys, SqL.of e2, rs.none qi⟩
      | some p =>
        simp only [qi]
        obtain ⟨v, e3, r3⟩ := rs.get qi
        refine ⟨⟨ys, v, SqL.of e2, e3⟩, fun y H'' hy => ?_⟩
        obtain ⟨rfl, z⟩ := hy
        have : y = v := Option.some.inj ((z _ (SqL.of e2)).symm.trans e3)
        subst this
        exact ⟨Stp.refl _ _, x, r3⟩
    | ins => trivial
    | dct => trivial
    | dks => trivial
    | tbl => trivial
theorem ii_seq (ha : PE X a (IE X.K X.mg W A)) : PI X tg a (II X.K X.mg W (eIter A)) := by
  have base : PI X tg a (fun s H R => iList X.K (IE X.K X.mg W A) s H R ∨ iTup X.K (IE X.K X.mg W A) s H R) := by
    refine ⟨fun pins s σ H R I h => ?_⟩
    rcases h with h | h
    · exact (pi_list ha).run pins s σ H R I h
    · exact (pi_tup ha).run pins s σ H R I h
  refine piImp base fun s H Q ⟨as, ρ, hh, f, x, o⟩ => ?_
  unfold eIter at o
  cases q : A ρ hh with
  | bad => rw [q] at o; exact o.elim
  | ex z h1 => rw [q] at o; exact .inl ⟨as, ρ, hh, f, x, by rw [q]; exact o⟩
  | ok v h1 =>
    rw [q] at o
    cases v with
    | tup xs =>
      refine .inr ⟨as, ρ, hh, f, x, ?_⟩
      rw [q]
      intro V H1 as1 S1 x1 r1
      cases r1 with
      | tup hs rs => exact ⟨_, rfl, ⟨_, hs⟩, o _ _ _ S1 x1 (ri_tup hs rs)⟩
    | fls xs =>
      refine .inl ⟨as, ρ, hh, f, x, ?_⟩
      rw [q]
      intro V H1 as1 S1 x1 r1
      cases r1 with
      | fls hs rs => exact ⟨_, rfl, ⟨_, hs.sq⟩, o _ _ _ S1 x1 (ri_list hs rs)⟩
    | obj n =>
      refine .inl ⟨as, ρ, hh, f, x, ?_⟩
      rw [q]
      intro V H1 as1 S1 x1 r1
      cases r1 with
      | obj ha =>
        have o1 : Out X.K X.mg (fun H as p v => RI X.K X.mg H as p v) W s as H Q (match h1[n]? with
          | some (.lst _) => .ok (itObj n) h1
          | _ => .bad) := o
        cases qn : h1[n]? with
        | none => simp only [qn] at o1; exact o1.elim
        | some ob =>
          cases ob with
          | lst xs =>
            simp only [qn] at o1
            obtain ⟨b, e1, ys, e2, rs⟩ := x1.at_ _ _ qn
            rw [ha] at e1; cases e1
            exact ⟨_, rfl, ⟨_, SqL.of e2⟩, o1 _ _ _ S1 x1 (ri_obj ha)⟩
          | ins => simp only [qn] at o1; exact o1.elim
          | dct => simp only [qn] at o1; exact o1.elim
          | dks => simp only [qn] at o1; exact o1.elim
          | tbl => simp only [qn] at o1; exact o1.elim
    | non => exact (show False from o).elim
    | bl => exact (show False from o).elim
    | int => exact (show False from o).elim
    | str => exact (show False from o).elim
    | glo => exact (show False from o).elim
    | ty => exact (show False from o).elim
    | key => exact (show False from o).elim
theorem ri_range {K : PySem.W.Frag} {mg : Str → Option Value} {as : List Addr} {H : Hp} {lo : Int} {n : Nat} : RI K mg H as (itRange lo n) (Itr lo n) := by
  intro i as' H' h' S x
  unfold itRange
  by_cases hi : i < n
  · rw [if_pos hi]
    refine ⟨hi, fun y H'' hy => ?_⟩
    obtain ⟨rfl, rfl⟩ := hy
    exact ⟨Stp.refl _ _, x, .int _⟩
  · rw [if_neg hi]
    exact Nat.le_of_not_lt hi
theorem rng_of {i : Int} (h : rngOk i = true) : -(2 ^ 62) ≤ i ∧ i < 2 ^ 62 := by
  have q := rngOk_of h
  have e : (2 : Int) ^ 62 = 4611686018427387904 := by decide
  rw [e]
  exact q
theorem ii_range1 {p : Pos} (hm : X.mg "range" = none) (ha : PA X [e] (IA X.K X.mg W L)) (hg : Gl X "range" := by rfl) (hs : starEach [e] X.env = [(false, eval e X.env)] := by rfl) : PI X tg (.Call (.Name "range" p) [e] [] pos) (II X.K X.mg W (eRange1 L)) := by
  refine piImp (pi_range1 hg hm ha hs) fun s H Q ⟨as, ρ, hh, f, x, o⟩ => ?_
  refine ⟨as, ρ, hh, f, x, (Out.bind o).imp fun Vs H1 ⟨as1, h1, p1, S1, x1, r1, o1⟩ => ?_⟩
  split at o1
  · obtain ⟨v, rfl, rv⟩ := r1.inv1
    cases rv
    split at o1
    · rename_i hr
      obtain ⟨q1, q2⟩ := rng_of hr
      exact ⟨_, rfl, q1, q2, o1.here x1 ri_range⟩
    · exact o1.elim
  · exact o1.elim
theorem ii_range2 {p : Pos} (hm : X.mg "range" = none) (ha : PA X [a, b] (IA X.K X.mg W L)) (hg : Gl X "range" := by rfl) (hs : starEach [a, b] X.env = [(false, eval a X.env), (false, eval b X.env)] := by rfl) (hs2 : starEach [b] X.env = [(false, eval b X.env)] := by rfl) : PI X tg (.Call (.Name "range" p) [a, b] [] pos) (II X.K X.mg W (eRange2 L)) := by
  refine piImp (pi_range2 hg hm ha hs hs2) fun s H Q ⟨as, ρ, hh, f, x, o⟩ => ?_
  refine ⟨as, ρ, hh, f, x, (Out.bind o).imp fun Vs H1 ⟨as1, h1, p1, S1, x1, r1, o1⟩ => ?_⟩
  split at o1
  · obtain ⟨v, w, rfl, rv, rw'⟩ := r1.inv2
    cases rv
    cases rw'
    split at o1
    · rename_i hr
      obtain ⟨g1, g2⟩ := Bool.and_eq_true_iff.mp hr
      obtain ⟨q1, q2⟩ := rng_of g1
      obtain ⟨q3, q4⟩ := rng_of g2
      exact ⟨_, _, rfl, ⟨q1, q2, q3, q4⟩, o1.here x1 ri_range⟩
    · exact o1.elim
  · exact o1.elim
/-- a value that is walked stays where it stands -/
theorem seq_in {K : PySem.W.Frag} {mg : Str → Option Value} {as : List Addr} {H : Hp} {h : IH} {v : PV} {a : Addr} {xs : List PV} (x : RH K mg H as h) (r : RP K mg H as v (.ref a)) (e : seqOf v h = some xs) :
    ∃ ys, SqK (kindK v) K H a ys ∧ RPs K mg H as xs ys := by
  obtain ⟨b, ys, e1, h1, h2⟩ := seqOf_at x r e
  cases e1
  exact ⟨ys, h1, h2⟩
theorem ri_enum {K : PySem.W.Frag} {mg : Str → Option Value} {as : List Addr} {H : Hp} {v : PV} {a : Addr} (r : RP K mg H as v (.ref a)) : RI K mg H as (itEnum v) (ItE (kindK v) K a) := by
  intro i as' H' h' S x
  unfold itEnum
  cases q : seqOf v h' with
  | none => trivial
  | some xs =>
    obtain ⟨ys, hs, rs⟩ := seq_in x (r.mono S) q
    cases qi : xs[i]? with
    | none =>
      simp only [qi]
      by_cases hl : xs.length = i
      · rw [if_pos hl]
        exact ⟨ys, hs, by rw [← rs.length]; exact hl⟩
      · rw [if_neg hl]
        trivial
    | some p =>
      simp only [qi]
      obtain ⟨w, e3, r3⟩ := rs.get qi
      refine ⟨⟨ys, w, hs, e3⟩, fun y H'' hy => ?_⟩
      obtain ⟨T, z, rfl, nT, rfl, hz⟩ := hy
      have : z = w := Option.some.inj ((hz _ hs).symm.trans e3)
      subst this
      have S2 := Stp.lay (o := .tup [.int (i : Nat), z]) x nT
      exact ⟨S2, x.lay nT, .tup (SqT.of upd_same) (.cons (.int _) (.cons (r3.mono S2) .nil))⟩
theorem ri_zip {K : PySem.W.Frag} {mg : Str → Option Value} {as : List Addr} {H : Hp} {v w : PV} {a b : Addr} (r : RP K mg H as v (.ref a)) (r' : RP K mg H as w (.ref b)) : RI K mg H as (itZip v w) (ItZ (kindK v) (kindK w) K a b) := by
  intro i as' H' h' S x
  unfold itZip
  cases q : seqOf v h' with
  | none => trivial
  | some xs =>
    cases q' : seqOf w h' with
    | none => trivial
    | some ys =>
      obtain ⟨us, hs, rs⟩ := seq_in x (r.mono S) q
      obtain ⟨ws, hs', rs'⟩ := seq_in x (r'.mono S) q'
      have stp : ∀ (hn : xs[i]? = none ∨ ys[i]? = none), match (if i ≤ xs.length ∧ i ≤ ys.length then some none else none : Option (Option PV)) with
          | some (some v) => (ItZ (kindK v) (kindK w) K a b).go i H' ∧ ∀ x H'', (ItZ (kindK v) (kindK w) K a b).yld i H' x H'' → Stp as' H' as' H'' ∧ RH K mg H'' as' h' ∧ RP K mg H'' as' v x
          | some none => ∃ xs ys : List V, SqK (kindK v) K H' a xs ∧ SqK (kindK w) K H' b ys ∧ i ≤ xs.length ∧ i ≤ ys.length ∧ (i = xs.length ∨ i = ys.length)
          | none => True := fun hn => by
        by_cases hl : i ≤ xs.length ∧ i ≤ ys.length
        · rw [if_pos hl]
          have l1 := rs.length
          have l2 := rs'.length
          refine ⟨us, ws, hs, hs', by omega, by omega, ?_⟩
          rcases hn with hn | hn
          · have := List.getElem?_eq_none_iff.mp hn; omega
          · have := List.getElem?_eq_none_iff.mp hn; omega
        · rw [if_neg hl]
          trivial
      cases qi : xs[i]? with
      | none =>
        simp only [qi]
        have z := stp (.inl qi)
        by_cases hl : i ≤ xs.length ∧ i ≤ ys.length
        · rw [if_pos hl] at z ⊢; exact z
        · rw [if_neg hl]; trivial
      | some p =>
        cases qj : ys[i]? with
        | none =>
          simp only [qi, qj]
          have z := stp (.inr qj)
          by_cases hl : i ≤ xs.length ∧ i ≤ ys.length
          · rw [if_pos hl] at z ⊢; exact z
          · rw [if_neg hl]; trivial
        | some p' =>
          simp only [qi, qj]
          obtain ⟨c1, e3, r3⟩ := rs.get qi
          obtain ⟨c2, e4, r4⟩ := rs'.get qj
          refine ⟨⟨us, ws, c1, c2, hs, hs', e3, e4⟩, fun y H'' hy => ?_⟩
          obtain ⟨T, z1, z2, rfl, nT, rfl, g1, g2⟩ := hy
          have f1 : z1 = c1 := Option.some.inj ((g1 _ hs).symm.trans e3)
          have f2 : z2 = c2 := Option.some.inj ((g2 _ hs').symm.trans e4)
          subst f1
          subst f2
          have S2 := Stp.lay (o := .tup [z1, z2]) x nT
          exact ⟨S2, x.lay nT, .tup (SqT.of upd_same) (.cons (r3.mono S2) (.cons (r4.mono S2) .nil))⟩
theorem ii_enum {p : Pos} {elts : List Expr} {kk : Nat} {tpos : Pos} (hm : X.mg "enumerate" = none) (ha : PA X [e] (IA X.K X.mg W L)) (hg : Gl X "enumerate" := by rfl) (hs : starEach [e] X.env = [(false, eval e X.env)] := by rfl) : PI X (.Tuple elts kk tpos) (.Call (.Name "enumerate" p) [e] [] pos) (II X.K X.mg W (eEnum L)) := by
  refine piImp (pi_E hg hm ha hs) fun s H Q ⟨as, ρ, hh, f, x, o⟩ => ?_
  refine ⟨as, ρ, hh, f, x, (Out.bind o).imp fun Vs H1 ⟨as1, h1, p1, S1, x1, r1, o1⟩ => ?_⟩
  split at o1
  · obtain ⟨v, rfl, rv⟩ := r1.inv1
    split at o1
    · rename_i zs hz
      obtain ⟨a, ys, rfl, h2, _⟩ := seqOf_at x1 rv hz
      exact ⟨_, a, ys, rfl, h2, o1.here x1 (ri_enum rv)⟩
    · exact o1.elim
  · exact o1.elim
theorem ii_zip {p : Pos} {elts : List Expr} {kk : Nat} {tpos : Pos} (hm : X.mg "zip" = none) (ha : PA X [a, b] (IA X.K X.mg W L)) (hg : Gl X "zip" := by rfl) (hs : starEach [a, b] X.env = (false, eval a X.env) :: starEach [b] X.env := by rfl) (hpl : (backTo pos (starEach [b] X.env)).any (·.1) = false := by rfl) :
    PI X (.Tuple elts kk tpos) (.Call (.Name "zip" p) [a, b] [] pos) (II X.K X.mg W (eZip L)) := by
  refine piImp (pi_Z hg hm ha hs hpl) fun s H Q ⟨as, ρ, hh, f, x, o⟩ => ?_
  refine ⟨as, ρ, hh, f, x, (Out.bind o).imp fun Vs H1 ⟨as1, h1, p1, S1, x1, r1, o1⟩ => ?_⟩
  split at o1
  · obtain ⟨v, w, rfl, rv, rw'⟩ := r1.inv2
    split at o1
    · rename_i zs zs' hz hz'
      obtain ⟨a, ys, rfl, h2, _⟩ := seqOf_at x1 rv hz
      obtain ⟨b, ys', rfl, h3, _⟩ := seqOf_at x1 rw' hz'
      exact ⟨_, _, a, b, ys, ys', rfl, h2, h3, o1.here x1 (ri_zip rv rw')⟩
    · exact o1.elim
  · exact o1.elim
end
end WR

/-! built-ins, methods of lists, own classes -/
namespace WR
open PySem PySem.Spec PyProof.Rows L2
/-! ### the code -/
@[simp] def pAbs : List PV → IH → Res PV
  | [.int i], h => .ok (.int (if i < 0 then -i else i)) h
  | _, _ => .bad
@[simp] def pMax2 : List PV → IH → Res PV
  | [.int i, .int j], h => .ok (.int (if j > i then j else i)) h
  | _, _ => .bad
@[simp] def pMin2 : List PV → IH → Res PV
  | [.int i, .int j], h => .ok (.int (if j < i then j else i)) h
  | _, _ => .bad
@[simp] def pInt1 : List PV → IH → Res PV
  | [.int i], h => .ok (.int i) h
  | [.bl b], h => .ok (.int (if b then 1 else 0)) h
  | _, _ => .bad
@[simp] def pLen : List PV → IH → Res PV
  | [v], h => (match v with
    | .str y => if y.length ≤ 16777216 then .ok (.int y.length) h else .bad
    | _ => (match seqOf v h with
      | some xs => .ok (.int xs.length) h
      | none => .bad))
  | _, _ => .bad
@[simp] def pList1 : List PV → IH → Res PV
  | [v], h => (match seqOf v h with
    | some xs => .ok (.obj h.length) (h ++ [.lst xs])
    | none => .bad)
  | _, _ => .bad
@[simp] def pTuple1 : List PV → IH → Res PV
  | [v], h => (match seqOf v h with
    | some xs => .ok (.tup xs) h
    | none => .bad)
  | _, _ => .bad
/-- the type of a value: a built-in's name, or an own class's -/
@[simp] def tyOf : PV → IH → Option (String ⊕ Str)
  | .non, _ => some (.inl "NoneType")
  | .bl _, _ => some (.inl "bool")
  | .int _, _ => some (.inl "int")
  | .str _, _ => some (.inl "str")
  | .tup _, _ => some (.inl "tuple")
  | .fls _, _ => some (.inl "list")
  | .obj n, h => (match h[n]? with
    | some (.lst _) => some (.inl "list")
    | some (.ins c _) => some (.inr c)
    | some (.dct _) => some (.inl "dict")
    | _ => none)
  | _, _ => none
def tyNames : List String := ["NoneType", "bool", "int", "str", "tuple", "list", "dict"]
def subTy (a b : String) : Bool := a == b || (a == "bool" && b == "int")
/-- isinstance(x, c), the own classes being cs -/
@[simp] def pIsi (cs : List Str) : List PV → IH → Res PV
  | [x, c], h => (match tyOf x h, c with
    | some (.inl a), .ty n => if tyNames.contains n then .ok (.bl (subTy a n)) h else .bad
    | some (.inl _), .glo C => if cs.contains C then .ok (.bl false) h else .bad
    | some (.inr D), .glo C => if cs.contains C && cs.contains D then .ok (.bl (D == C)) h else .bad
    | some (.inr D), .ty n => if cs.contains D && tyNames.contains n then .ok (.bl false) h else .bad
    | _, _ => .bad)
  | _, _ => .bad
@[simp] def eAppend (A : EX) (L : AX) : EX := fun r h => (A r h).bind fun x h1 => match x with
  | .obj n => (match h1[n]? with
    | some (.lst _) => (L r h1).bind fun vs h2 => (match vs, h2[n]? with
      | [y], some (.lst xs) => if xs.length < 16777216 then .ok .non (h2.set n (.lst (xs ++ [y]))) else .bad
      | _, _ => .bad)
    | _ => .bad)
  | _ => .bad
@[simp] def sSetIx (O I V : EX) : SX := fun r h => toS ((V r h).bind fun v h1 => (O r h1).bind fun o h2 => (I r h2).bind fun i h3 => (match o, i with
    | .obj n, .int k => (match h3[n]? with
      | some (.lst xs) => (match ixN xs.length k with
        | some j => Res.ok () (h3.set n (.lst (xs.set j v)))
        | none => .bad)
      | _ => .bad)
    | _, _ => .bad)) r fun _ h1 => .nx r h1
@[simp] def putP (f : Str) (v : PV) : List (Str × PV) → List (Str × PV)
  | [] => [(f, v)]
  | (g, y) :: r => if g = f then (g, v) :: r else (g, y) :: putP f v r
@[simp] def eFld (c f : Str) (A : EX) : EX := fun r h => (A r h).bind fun x h1 => match x with
  | .obj n => (match h1[n]? with
    | some (.ins c' fs) => if c' = c then opt (fs.lookup f) h1 else .bad
    | _ => .bad)
  | _ => .bad
@[simp] def sFldX (c f : Str) (A V : EX) : SX := fun r h => toS ((V r h).bind fun v h1 => (A r h1).bind fun x h2 => (match x with
    | .obj n => (match h2[n]? with
      | some (.ins c' fs) => if c' = c ∧ fs.length < 1000 then Res.ok () (h2.set n (.ins c (putP f v fs))) else .bad
      | _ => .bad)
    | _ => .bad)) r fun _ h1 => .nx r h1
/-- C(..): a new instance, then __init__ -/
def mk (c : Str) (F : List PV → IH → Res PV) : List PV → IH → Res PV := fun us h => (F (.obj h.length :: us) (h ++ [.ins c []])).bind fun _ h1 => .ok (.obj h.length) h1
/-- o.m(..) -/
@[simp] def eMeth (c m : Str) (F : List PV → IH → Res PV) (A : EX) (L : AX) : EX := fun r h => (A r h).bind fun x h1 => match x with
  | .obj n => (match h1[n]? with
    | some (.ins c' fs) => if c' = c ∧ fs.lookup m = none then (L r h1).bind fun vs h2 => F (x :: vs) h2 else .bad
    | _ => .bad)
  | _ => .bad
/-- a call that lets no exception out -/
@[simp] def noX {α : Type} : Res α → Res α
  | .ok a h => .ok a h
  | _ => .bad
@[simp] def eProp (c : Str) (F : List PV → IH → Res PV) (A : EX) : EX := fun r h => (A r h).bind fun x h1 => match x with
  | .obj n => (match h1[n]? with
    | some (.ins c' _) => if c' = c then noX (F [x] h1) else .bad
    | _ => .bad)
  | _ => .bad
/-- len(o), == of own classes -/
@[simp] def pLenO (c : Str) (F : List PV → IH → Res PV) : List PV → IH → Res PV
  | [x], h => (match x with
    | .obj n => (match h[n]? with
      | some (.ins c' _) => if c' = c then (match F [x] h with
        | .ok (.int i) h1 => if 0 ≤ i ∧ i < 9223372036854775808 then .ok (.int i) h1 else .bad
        | _ => .bad) else .bad
      | _ => .bad)
    | _ => .bad)
  | _, _ => .bad
@[simp] def isTupOr (c : Str) (y : PV) (h : IH) : Bool := match y with
  | .tup _ => true
  | .obj n => (match h[n]? with
    | some (.ins c' _) => c' == c
    | _ => false)
  | _ => false
@[simp] def pEqO (c : Str) (F : List PV → IH → Res PV) (x y : PV) (h : IH) : Res PV := match x with
  | .obj n => (match h[n]? with
    | some (.ins c' _) => if c' = c ∧ isTupOr c y h = true then (match F [x, y] h with
      | .ok (.bl b) h1 => .ok (.bl b) h1
      | _ => .bad) else .bad
    | _ => .bad)
  | _ => .bad
/-! ### the rules -/
section
variable {X : Cx} {W : WX} {k : Nat} {a b e o : Expr} {es : List Expr} {pos : Pos} {A B C : EX} {L : AX}
theorem ie_callB {id : String} {x : Str} {p : Pos} {r : List V → Hp → VK → Prop} {f : List PV → IH → Res PV} (hc : CallR X (.builtin id) r) (hf : SndC X.K X.mg f r) (hm : X.mg x = none) (hv : bootBuiltins x = some (.builtin id)) (ha : PA X (e :: es) (IA X.K X.mg W L)) (hg : Gl X x := by rfl) (hn : x ≠ "__name__" := by decide) (hdb : (x == ("__debug__" : Str)) = false := by decide)
    (he : starEach (e :: es) X.env = (false, eval e X.env) :: starEach es X.env := by rfl) (hpl : (backTo pos (starEach es X.env)).any (·.1) = false := by rfl) : PE X (.Call (.Name x p) (e :: es) [] pos) (IE X.K X.mg W (eB f L)) := by
  refine peImp (pe_callB hc hg hm hv ha hn hdb he hpl) fun s H Q ⟨as, ρ, hh, g, z, o⟩ => ?_
  exact ⟨as, ρ, hh, g, z, (Out.bind o).imp fun Vs H1 ⟨as1, h1, p1, S1, x1, r1, o1⟩ => hf x1 r1 o1⟩
theorem ie_callT {T : String} {x : Str} {p : Pos} {r : List V → Hp → VK → Prop} {f : List PV → IH → Res PV} (hc : CallR X (.type T) r) (hf : SndC X.K X.mg f r) (hm : X.mg x = none) (hv : bootBuiltins x = some (.type T)) (ha : PA X (e :: es) (IA X.K X.mg W L)) (hg : Gl X x := by rfl) (hn : x ≠ "__name__" := by decide) (hdb : (x == ("__debug__" : Str)) = false := by decide)
    (he : starEach (e :: es) X.env = (false, eval e X.env) :: starEach es X.env := by rfl) (hpl : (backTo pos (starEach es X.env)).any (·.1) = false := by rfl) : PE X (.Call (.Name x p) (e :: es) [] pos) (IE X.K X.mg W (eB f L)) := by
  refine peImp (pe_callTy hc hg hm hv ha hn hdb he hpl) fun s H Q ⟨as, ρ, hh, g, z, o⟩ => ?_
  exact ⟨as, ρ, hh, g, z, (Out.bind o).imp fun Vs H1 ⟨as1, h1, p1, S1, x1, r1, o1⟩ => hf x1 r1 o1⟩
variable {K : PySem.W.Frag} {mg : Str → Option Value}
theorem snd_abs : SndC K mg pAbs (fun xs H Q => ∃ i, xs = [.int i] ∧ Q (.int (if i < 0 then -i else i)) H) := by
  intro W s as H h xs Us Q rh rs o
  unfold pAbs at o
  split at o
  · obtain ⟨v, rfl, rv⟩ := rs.inv1; cases rv; exact ⟨_, rfl, o.here rh (.int _)⟩
  · exact o.elim
theorem snd_max2 : SndC K mg pMax2 (fun xs H Q => ∃ i j, xs = [.int i, .int j] ∧ Q (.int (if j > i then j else i)) H) := by
  intro W s as H h xs Us Q rh rs o
  unfold pMax2 at o
  split at o
  · obtain ⟨v, w, rfl, rv, rw'⟩ := rs.inv2; cases rv; cases rw'; exact ⟨_, _, rfl, o.here rh (.int _)⟩
  · exact o.elim
theorem snd_min2 : SndC K mg pMin2 (fun xs H Q => ∃ i j, xs = [.int i, .int j] ∧ Q (.int (if j < i then j else i)) H) := by
  intro W s as H h xs Us Q rh rs o
  unfold pMin2 at o
  split at o
  · obtain ⟨v, w, rfl, rv, rw'⟩ := rs.inv2; cases rv; cases rw'; exact ⟨_, _, rfl, o.here rh (.int _)⟩
  · exact o.elim
theorem snd_int1 : SndC K mg pInt1 (fun xs H Q => (∃ i, xs = [.int i] ∧ Q (.int i) H) ∨ ∃ k, xs = [.bl k] ∧ Q (.int (if k then 1 else 0)) H) := by
  intro W s as H h xs Us Q rh rs o
  unfold pInt1 at o
  split at o
  · obtain ⟨v, rfl, rv⟩ := rs.inv1; cases rv; exact .inl ⟨_, rfl, o.here rh (.int _)⟩
  · obtain ⟨v, rfl, rv⟩ := rs.inv1; cases rv; exact .inr ⟨_, rfl, o.here rh (.int _)⟩
  · exact o.elim
theorem SqK.or {t : Bool} {H : Hp} {a : Addr} {ys : List V} (h : SqK t K H a ys) : SqL K H a ys ∨ SqT K H a ys := by
  cases t with
  | true => exact .inr h
  | false => exact .inl h
theorem snd_len : SndC K mg pLen (fun xs H Q => ∃ x n, xs = [x] ∧ LenV K x H n ∧ Q (.int n) H) := by
  intro W s as H h xs Us Q rh rs o
  unfold pLen at o
  split at o
  · obtain ⟨v, rfl, rv⟩ := rs.inv1
    split at o
    · cases rv
      split at o
      · rename_i hl
        exact ⟨_, _, rfl, ⟨by rw [sizeLine_eq]; exact hl, rfl⟩, o.here rh (.int _)⟩
      · exact o.elim
    · split at o
      · rename_i zs hz
        obtain ⟨a, ys, rfl, h1, r1⟩ := seqOf_at rh rv hz
        refine ⟨_, _, rfl, ?_, o.here rh (.int _)⟩
        rcases SqK.or h1 with h1 | h1
        · exact .inl ⟨ys, h1, r1.length⟩
        · exact .inr ⟨ys, h1, r1.length⟩
      · exact o.elim
  · exact o.elim
theorem snd_list1 : SndC K mg pList1 (fun xs H Q => ∃ p ys, xs = [.ref p] ∧ (SqL K H p ys ∨ SqT K H p ys) ∧ ∀ l, H l = none → Q (.ref l) (upd H l (.lst ys))) := by
  intro W s as H h xs Us Q rh rs o
  unfold pList1 at o
  split at o
  · obtain ⟨v, rfl, rv⟩ := rs.inv1
    split at o
    · rename_i p _ zs hz
      obtain ⟨a, ys, rfl, h1, r1⟩ := seqOf_at rh rv hz
      refine ⟨_, ys, rfl, ?_, fun l nl => ?_⟩
      · cases hk : kindK p with
        | true => rw [hk] at h1; exact .inr h1
        | false => rw [hk] at h1; exact .inl h1
      · have S := Stp.new (o := .lst ys) rh nl
        refine o _ _ _ S (rh.new nl ⟨_, upd_same, r1.mono S⟩) (.obj ?_)
        rw [List.getElem?_append_right (by rw [rh.len]; exact Nat.le_refl _), rh.len, Nat.sub_self]
        rfl
    · exact o.elim
  · exact o.elim
theorem snd_tuple1 : SndC K mg pTuple1 (fun xs H Q => ∃ p ys, xs = [.ref p] ∧ ((SqL K H p ys ∧ ∀ l, H l = none → Q (.ref l) (upd H l (.tup ys))) ∨ (SqT K H p ys ∧ Q (.ref p) H))) := by
  intro W s as H h xs Us Q rh rs o
  unfold pTuple1 at o
  split at o
  · obtain ⟨v, rfl, rv⟩ := rs.inv1
    split at o
    · rename_i p _ zs hz
      obtain ⟨a, ys, rfl, h1, r1⟩ := seqOf_at rh rv hz
      refine ⟨_, ys, rfl, ?_⟩
      cases hk : kindK p with
      | true =>
        rw [hk] at h1
        exact .inr ⟨h1, o.here rh (.tup h1 r1)⟩
      | false =>
        rw [hk] at h1
        exact .inl ⟨h1, fun l nl => o _ _ _ (Stp.lay rh nl) (rh.lay nl) (.tup (SqT.of upd_same) (r1.mono (Stp.lay rh nl)))⟩
    · exact o.elim
  · exact o.elim
/-! ### own classes -/
/-- what the top says of an own class -/
structure OwnC (K : PySem.W.Frag) (mg : Str → Option Value) (c : Str) (C : Addr) : Prop where
  gC : mg c = some (.ref C)
  cl : Cls K C
  ha : PySem.W.findIn K (.ref C) "__class__" = some (some (.builtin "object.__class__"))
  hn : PySem.W.specialIn K (.builtin "object.__class__") "__get__" = some (some (.builtin "getset_descriptor.__get__"))
  htk : PySem.W.takesIn K (.builtin "object.__class__") = some true
  hm : PySem.W.mroIn K C (.type "object") = some true
  bi : ∀ n, tyNames.contains n = true → PySem.W.kitOne K (.type n) (.ref C) = some false
  bo : ∀ n, tyNames.contains n = true → PySem.W.kitOne K (.ref C) (.type n) = some false
/-- .. and of all of them together -/
structure OwnCs (K : PySem.W.Frag) (mg : Str → Option Value) (cs : List Str) : Prop where
  one : ∀ c, cs.contains c = true → ∃ C, OwnC K mg c C
  two : ∀ c d C D, cs.contains c = true → cs.contains d = true → mg c = some (.ref C) → mg d = some (.ref D) → PySem.W.kitOne K (.ref D) (.ref C) = some (d == c)
theorem sub_kit : ∀ a ∈ tyNames, ∀ b ∈ tyNames, kitB a b = some (subTy a b) := by decide +kernel
theorem ty_in {v : PV} {h : IH} {a : String} (e : tyOf v h = some (.inl a)) : a ∈ tyNames := by
  cases v with
  | non => cases e; decide
  | bl => cases e; decide
  | int => cases e; decide
  | str => cases e; decide
  | tup => cases e; decide
  | fls => cases e; decide
  | obj n =>
    simp only [tyOf] at e
    split at e
    · cases e; decide
    · cases e
    · cases e; decide
    · cases e
  | glo => cases e
  | ty => cases e
  | key => cases e
theorem mem_of_contains {α : Type} [BEq α] [LawfulBEq α] {a : α} {l : List α} (h : l.contains a = true) : a ∈ l := by simpa using h
theorem tyX_of {as : List Addr} {H : Hp} {h : IH} {v : PV} {V : V} {cs : List Str} (O : OwnCs K mg cs) (x : RH K mg H as h) (r : RP K mg H as v V) {q : String ⊕ Str} (e : tyOf v h = some q) (hc : ∀ c, q = .inr c → cs.contains c = true) :
    ∃ t, TyX K H V t ∧ match q with
      | .inl a => t = .type a
      | .inr c => ∃ C, OwnC K mg c C ∧ t = .ref C := by
  cases r with
  | non => cases e; exact ⟨_, .base .non, rfl⟩
  | bl b => cases e; exact ⟨_, .base (.bl b), rfl⟩
  | int i => cases e; exact ⟨_, .base (.int i), rfl⟩
  | str y => cases e; exact ⟨_, .base (.str y), rfl⟩
  | tup hs rs =>
    cases e
    rcases hs with (hs | ⟨o, hs⟩) | ⟨o, its, n, h1, h2, _⟩
    · exact ⟨_, .base (.tup hs), rfl⟩
    · exact ⟨_, .fTuple hs, rfl⟩
    · exact ⟨_, .kTuple h1 h2, rfl⟩
  | fls hs rs =>
    cases e
    rcases hs with ⟨o, hs⟩ | ⟨o, its, n, h1, h2, _⟩
    · exact ⟨_, .base (.frz hs), rfl⟩
    · exact ⟨_, .kList h1 h2, rfl⟩
  | obj ha =>
    simp only [tyOf] at e
    split at e
    · rename_i zs hz
      cases e
      obtain ⟨b, e1, ys, e2, rs⟩ := x.at_ _ _ hz
      rw [ha] at e1; cases e1
      exact ⟨_, .base (.lst e2), rfl⟩
    · rename_i c fs hz
      cases e
      obtain ⟨b, e1, C, dx, gs, g0, e2, _⟩ := x.at_ _ _ hz
      rw [ha] at e1; cases e1
      obtain ⟨C', oc⟩ := O.one c (hc c rfl)
      have : C' = C := by
        have := oc.gC.symm.trans g0
        cases this
        rfl
      subst this
      exact ⟨_, .base (.ins e2 oc.cl oc.ha oc.hn oc.htk oc.hm), C', oc, rfl⟩
    · rename_i kvs hz
      cases e
      obtain ⟨b, e1, gs, e2, _⟩ := x.at_ _ _ hz
      rw [ha] at e1; cases e1
      exact ⟨_, .base (.dT e2), rfl⟩
    · cases e
  | glo => cases e
  | ty => cases e
  | key => cases e
theorem snd_isi {cs : List Str} (O : OwnCs K mg cs) : SndC K mg (pIsi cs) (rIsi K) := by
  intro W s as H h xs Us Q rh rs o
  unfold pIsi at o
  split at o
  · obtain ⟨v, w, rfl, rv, rw'⟩ := rs.inv2
    split at o
    · rename_i a n e
      split at o
      · rename_i hn
        obtain ⟨t, h1, rfl⟩ := tyX_of O rh rv e (fun c z => nomatch z)
        cases rw'
        exact ⟨_, _, _, _, _, rfl, .ty n, h1, kit_ty (sub_kit _ (ty_in e) _ (mem_of_contains hn)), o.here rh (.bl _)⟩
      · exact o.elim
    · rename_i a C e
      split at o
      · rename_i hn
        obtain ⟨t, h1, rfl⟩ := tyX_of O rh rv e (fun c z => nomatch z)
        obtain ⟨D, oc⟩ := O.one _ hn
        cases rw' with
        | glo g1 g2 =>
          rw [oc.gC] at g1
          cases g1
          have g3 : w = .ref D := by
            cases w <;> first | (obtain ⟨_, z⟩ := g2; cases z) | cases g2
            all_goals rfl
          subst g3
          exact ⟨_, _, _, _, _, rfl, .own D, h1, oc.bi _ (by simpa using ty_in e), o.here rh (.bl _)⟩
      · exact o.elim
    · rename_i D C e
      split at o
      · rename_i hn
        obtain ⟨n1, n2⟩ := Bool.and_eq_true_iff.mp hn
        obtain ⟨t, h1, E', oc, rfl⟩ := tyX_of O rh rv e (fun c z => by cases z; exact n2)
        obtain ⟨G, oc'⟩ := O.one _ n1
        cases rw' with
        | glo g1 g2 =>
          rw [oc'.gC] at g1
          cases g1
          have g3 : w = .ref G := by
            cases w <;> first | (obtain ⟨_, z⟩ := g2; cases z) | cases g2
            all_goals rfl
          subst g3
          exact ⟨_, _, _, _, _, rfl, .own G, h1, O.two _ _ _ _ n1 n2 oc'.gC oc.gC, o.here rh (.bl _)⟩
      · exact o.elim
    · rename_i D n e
      split at o
      · rename_i hn
        obtain ⟨n1, n2⟩ := Bool.and_eq_true_iff.mp hn
        obtain ⟨t, h1, E', oc, rfl⟩ := tyX_of O rh rv e (fun c z => by cases z; exact n1)
        cases rw'
        exact ⟨_, _, _, _, _, rfl, .ty n, h1, oc.bo _ n2, o.here rh (.bl _)⟩
      · exact o.elim
    · exact o.elim
  · exact o.elim

/-! ### lists, fields -/
theorem ie_append {apos : Pos} (ho : PE X o (IE X.K X.mg W A)) (ha : PA X (e :: es) (IA X.K X.mg W L)) (hbase : attributeBase o "append" X.env (eval o X.env) = eval o X.env := by rfl)
    (hfew : ((backTo pos (starEach (e :: es) X.env)).all (fun x => !x.1) && (backToKw pos (keywordEach [] X.env)).all (fun x => x.1.isSome)
      && decide ((e :: es).length + ([] : List Keyword).length + (if ([] : List Keyword).isEmpty then 0 else 1) < 30)) = true := by rfl)
    (hline : (apos.endLine == pos.line) = true := by rfl) (hs : starEach (e :: es) X.env = (false, eval e X.env) :: starEach es X.env := by rfl) (hplain : (backTo pos (starEach es X.env)).any (·.1) = false := by rfl) :
    PE X (.Call (.Attribute o "append" apos) (e :: es) [] pos) (IE X.K X.mg W (eAppend A L)) := by
  refine peImp (pe_bm PySem.F.plainAttrs_list PySem.F.slot_list_append PySem.F.type_list_append mt_append ho ha hbase hfew hline hs hplain) fun s H Q ⟨as, ρ, hh, f, x, o⟩ => ?_
  refine ⟨as, ρ, hh, f, x, (Out.bind o).imp fun V H1 ⟨as1, h1, p1, S1, x1, r1, o1⟩ => ?_⟩
  split at o1
  · rename_i n
    cases r1 with
    | obj hn =>
      split at o1
      · rename_i ys hy
        obtain ⟨b, e1, us, e2, rs⟩ := x1.at_ _ _ hy
        rw [hn] at e1; cases e1
        refine ⟨.inl ⟨rfl, _, SqL.of e2⟩, as1, ρ, h1, f.mono S1, x1, (Out.bind o1).imp fun Vs H2 ⟨as2, h2, p2, S2, x2, r2, o2⟩ => ?_⟩
        split at o2
        · rename_i y xs hx
          split at o2
          · rename_i hl
            obtain ⟨v, rfl, rv⟩ := r2.inv1
            obtain ⟨b', e3, ws, e4, rs'⟩ := x2.at_ _ _ hx
            have hn2 := S2.get hn
            rw [hn2] at e3; cases e3
            refine ⟨_, ws, v, rfl, rfl, e4, by rw [sizeLine_eq, ← rs'.length]; exact hl, ?_⟩
            have S3 := Stp.put (o := .lst (ws ++ [v])) x2 hn2 hx
            exact o2 _ _ _ S3 (x2.put hn2 hx ⟨_, upd_same, (rs'.append (.one rv)).mono S3⟩) .non
          · exact o2.elim
        · exact o2.elim
      · exact o1.elim
  · exact o1.elim
theorem is_setix {i v : Expr} {ppos : Pos} {O I V : EX} (hv : PE X v (IE X.K X.mg W V)) (ho : PE X o (IE X.K X.mg W O)) (hi : PE X i (IE X.K X.mg W I))
    (hset : ∀ v, assign (.Subscript o i ppos) X.env v = (do
      let ov ← holding [v] (eval o X.env)
      let iv ← holding [v, ov] (eval i X.env)
      standAt ppos
      holding [v, ov, iv] (setItem ov iv v)
      release [v, ov, iv] []) := by intro _; rfl)
    (hs : swapsWithSole [.Subscript o i ppos] v pos.line X.env = pure false := by rfl) (hw : swappedStores [.Subscript o i ppos] v X.env = pure none := by rfl)
    (h1 : (assignEach [.Subscript o i ppos] X.env).map (·.2) = [assign (.Subscript o i ppos) X.env] := by rfl) : PS X (.Assign [.Subscript o i ppos] v pos) (IS X.K X.mg W (sSetIx O I V)) := by
  refine psImp (ps_asg hv (pg_sub ho hi set_list hset) hs hw h1) fun D s H ⟨as, r, h, f, x, out⟩ => ?_
  have o' := outS_of (R := fun _ _ (_ : Unit) (_ : Unit) => True) f out
  refine ⟨as, r, h, f, x, (Out.bind o').imp fun U H1 ⟨as1, h1, p1, S1, x1, r1, o1⟩ => ?_⟩
  refine ⟨as1, r, h1, f.mono S1, x1, (Out.bind o1).imp fun U2 H2 ⟨as2, h2, p2, S2, x2, r2, o2⟩ => ?_⟩
  refine ⟨as2, r, h2, (f.mono S1).mono S2, x2, (Out.bind o2).imp fun U3 H3 ⟨as3, h3, p3, S3, x3, r3, o3⟩ => ?_⟩
  have r2' := r2.mono S3
  have r1' := (r1.mono S2).mono S3
  split at o3
  · cases r2' with
    | obj hn =>
      cases r3
      split at o3
      · rename_i xs hx
        split at o3
        · rename_i j hj
          obtain ⟨b, e1, us, e2, rs⟩ := x3.at_ _ _ hx
          rw [hn] at e1; cases e1
          refine ⟨_, us, _, j, rfl, rfl, e2, by rw [← rs.length]; exact hj, ?_⟩
          have S4 := Stp.put (o := .lst (us.set j U)) x3 hn hx
          obtain ⟨as5, h5, _, S5, x5, _, o5⟩ := o3 () _ _ S4 (x3.put hn hx ⟨_, upd_same, (RPs.set r1' j rs).mono S4⟩) trivial
          exact o5 s _ as5 (Stp.refl _ _) x5 (f.mono S5)
        · exact o3.elim
      · exact o3.elim
  · exact o3.elim
/-- the fields of an instance -/
theorem fld_at {as : List Addr} {H : Hp} : ∀ {fs : List (Str × PV)} {gs : List (Str × V)} {f : Str} {v : PV}, gs.map (·.1) = fs.map (·.1) → RPs K mg H as (fs.map (·.2)) (gs.map (·.2)) → fs.lookup f = some v → ∃ V, gs.lookup f = some V ∧ RP K mg H as v V
  | [], _, _, _, _, _, e => by cases e
  | _ :: _, [], _, _, h, _, _ => by cases h
  | (n, p) :: fs, (m, q) :: gs, f, v, h, r, e => by
    rw [List.map_cons, List.map_cons] at h
    injection h with h1 h2
    have h1' : m = n := h1
    subst h1'
    cases r with
    | cons a b =>
      simp only [List.lookup] at e ⊢
      split at e
      · cases e
        exact ⟨q, rfl, a⟩
      · exact fld_at h2 b e
theorem fld_none {fs : List (Str × PV)} {gs : List (Str × V)} {f : Str} (h : gs.map (·.1) = fs.map (·.1)) (e : fs.lookup f = none) : gs.lookup f = none := by
  induction fs generalizing gs with
  | nil =>
    cases gs with
    | nil => rfl
    | cons _ _ => cases h
  | cons p fs ih =>
    cases gs with
    | nil => cases h
    | cons q gs =>
      obtain ⟨n, p⟩ := p
      obtain ⟨m, q⟩ := q
      rw [List.map_cons, List.map_cons] at h
      injection h with h1 h2
      have h1' : m = n := h1
      subst h1'
      simp only [List.lookup] at e ⊢
      split at e
      · cases e
      · exact ih h2 e
theorem put_keys (f : Str) (v : PV) (V : V) : ∀ {fs : List (Str × PV)} {gs : List (Str × L2.V)}, gs.map (·.1) = fs.map (·.1) → (putF f V gs).map (·.1) = (putP f v fs).map (·.1)
  | [], [], _ => rfl
  | [], _ :: _, h => by cases h
  | _ :: _, [], h => by cases h
  | (n, p) :: fs, (m, q) :: gs, h => by
    rw [List.map_cons, List.map_cons] at h
    injection h with h1 h2
    have h1' : m = n := h1
    subst h1'
    unfold putF putP
    split
    · rw [List.map_cons, List.map_cons, h2]
    · rw [List.map_cons, List.map_cons, put_keys f v V h2]
theorem put_vals {as : List Addr} {H : Hp} {f : Str} {v : PV} {V : V} (rv : RP K mg H as v V) : ∀ {fs : List (Str × PV)} {gs : List (Str × L2.V)}, gs.map (·.1) = fs.map (·.1) → RPs K mg H as (fs.map (·.2)) (gs.map (·.2)) → RPs K mg H as ((putP f v fs).map (·.2)) ((putF f V gs).map (·.2))
  | [], [], _, _ => .one rv
  | [], _ :: _, h, _ => by cases h
  | _ :: _, [], h, _ => by cases h
  | (n, p) :: fs, (m, q) :: gs, h, r => by
    rw [List.map_cons, List.map_cons] at h
    injection h with h1 h2
    have h1' : m = n := h1
    subst h1'
    cases r with
    | cons a b =>
      unfold putF putP
      split
      · exact .cons rv b
      · exact .cons a (put_vals rv h2 b)
theorem ie_fld {c f : Str} {Cc : Addr} (gc : X.mg c = some (.ref Cc)) (cl : Cls X.K Cc) (na : NoAttr X.K Cc f) (he : PE X e (IE X.K X.mg W A)) (hb : attributeBase e f X.env (eval e X.env) = eval e X.env := by rfl) : PE X (.Attribute e f pos) (IE X.K X.mg W (eFld c f A)) := by
  refine peImp (pe_fld he hb) fun s H Q ⟨as, ρ, hh, g, x, o⟩ => ?_
  refine ⟨as, ρ, hh, g, x, (Out.bind o).imp fun V H1 ⟨as1, h1, p1, S1, x1, r1, o1⟩ => ?_⟩
  split at o1
  · cases r1 with
    | obj hn =>
      split at o1
      · rename_i c' fs hx
        split at o1
        · rename_i hc
          subst hc
          obtain ⟨b, e1, C', dx, gs, g0, e2, e3, rs⟩ := x1.at_ _ _ hx
          rw [hn] at e1; cases e1
          rw [gc] at g0; cases g0
          unfold opt at o1
          split at o1
          · rename_i v hv
            obtain ⟨V', l1, rv⟩ := fld_at e3 rs hv
            exact ⟨_, _, dx, gs, V', rfl, e2, cl, na, l1, o1.here x1 rv⟩
          · exact o1.elim
        · exact o1.elim
      · exact o1.elim
  · exact o1.elim
theorem is_fld {c f : Str} {Cc : Addr} {v : Expr} {V : EX} {ppos : Pos} (gc : X.mg c = some (.ref Cc)) (cl : Cls X.K Cc) (na : NoAttr X.K Cc f) (ha : PE X o (IE X.K X.mg W A)) (hv : PE X v (IE X.K X.mg W V)) (hs : swapsWith v (some (.Attribute o f ppos)) pos.line X.env = pure false := by rfl) :
    PS X (.Assign [.Attribute o f ppos] v pos) (IS X.K X.mg W (sFldX c f A V)) := by
  refine psImp (ps_fld ha hv hs) fun D s H ⟨as, r, h, g, x, out⟩ => ?_
  have o' := outS_of (R := fun _ _ (_ : Unit) (_ : Unit) => True) g out
  refine ⟨as, r, h, g, x, (Out.bind o').imp fun U H1 ⟨as1, h1, p1, S1, x1, r1, o1⟩ => ?_⟩
  refine ⟨as1, r, h1, g.mono S1, x1, (Out.bind o1).imp fun U2 H2 ⟨as2, h2, p2, S2, x2, r2, o2⟩ => ?_⟩
  have r1' := r1.mono S2
  split at o2
  · cases r2 with
    | obj hn =>
      split at o2
      · rename_i c' fs hx
        split at o2
        · rename_i hc
          obtain ⟨hc, hl⟩ := hc
          subst hc
          obtain ⟨b, e1, C', dx, gs, g0, e2, e3, rs⟩ := x2.at_ _ _ hx
          rw [hn] at e1; cases e1
          rw [gc] at g0; cases g0
          have el : gs.length = fs.length := by
            have := congrArg List.length e3
            simpa using this
          refine ⟨_, _, dx, gs, rfl, e2, cl, na, by rw [el]; exact hl, ?_⟩
          have S3 := Stp.put (o := .ins Cc dx (putF f U gs)) x2 hn hx
          obtain ⟨as5, h5, _, S5, x5, _, o5⟩ := o2 () _ _ S3 (x2.put hn hx ⟨Cc, dx, _, gc, upd_same, put_keys f _ U e3, put_vals (r1'.mono S3) e3 (rs.mono S3)⟩) trivial
          exact o5 s _ as5 (Stp.refl _ _) x5 (g.mono S5)
        · exact o2.elim
      · exact o2.elim
  · exact o2.elim
end
end WR

/-! instances made, methods, properties, own len and ==; chains of comparisons -/
namespace WR
open PySem PySem.Spec PyProof.Rows L2
@[simp] def mkO (c : Str) (F : List PV → IH → Res PV) : List PV → IH → Res PV := fun us h => (F (.obj h.length :: us) (h ++ [.ins c []])).bind fun v h1 => match v with
  | .non => .ok (.obj h.length) h1
  | _ => .bad
section
variable {X : Cx} {CX : CXT} {k : Nat} {f C : Addr} {fd : FuncData} {ps : List Str} {sp : Sp} {E : L2.St → XK} {x m : Str} {p pos apos : Pos} {e o : Expr} {es : List Expr} {ta : TE} {t : TA}
theorem run_makeS {pins : List (Addr × Obj)} {σ : L2.St} {H : Hp} {s : Shared} {Q : VK} {us : List Value} {vs : List V} (M : Mk X.K C f) (F : FnOk X.prog X.w X.K X.mg X.base CX k f fd ps sp) (hr : Room (k + 1) X.A) (hb : Binds X.K fd ps [])
    (hx : PassesAt CX X σ (E σ)) (I : Inv X pins σ H s) (r : Vals vs us)
    (h : ∀ x dx, H x = none → H dx = none → dx ≠ x → sp (.ref x :: vs) (upd (upd H dx (.own x)) x (.ins C dx [])) (fun v H2 => v = .non ∧ Q (.ref x) H2) (E σ)) :
    wpAny (model X.prog X.w) X.A (call (.ref C) us) (EP X pins σ Q) X.xe s := by
  have hq := h (s.heap.objs.size + 1) s.heap.objs.size (I.hok.fresh (Nat.le_succ _)) (I.hok.fresh (Nat.le_refl _)) (Nat.ne_of_lt (Nat.lt_succ_self _))
  have I2 := Inv.made (C := C) I
  have r2 : Vals (V.ref (s.heap.objs.size + 1) :: vs) (Value.ref (s.heap.objs.size + 1) :: us) := .cons rfl r
  have hl : (Value.ref (s.heap.objs.size + 1) :: us).length = ps.length := by
    have e := r2.length
    rw [F.len _ _ _ _ hq] at e
    exact e.symm
  have bb := hb _ (Value.ref (s.heap.objs.size + 1) :: us) I2.kIn (by rw [List.append_nil]; exact hl)
  rw [List.append_nil] at bb
  refine wpAny_call (make_map (f := f) I.kIn M.makes M.init (beq_iff_eq.mp M.fn) (codeAny_mono (F.run _ X.stack _ _ ⟨Value.ref (s.heap.objs.size + 1) :: us, []⟩ (Value.ref (s.heap.objs.size + 1) :: us) _ _ (E σ) (hr.make C us [])
    (I2.env0.make C us []) bb r2 hq) fun r s' hq' => ?_))
  cases r with
  | error e => exact hx pins _ _ e s' I2 hq'
  | ok fl =>
    cases fl with
    | ret u =>
      obtain ⟨v, H', I3, rv, ev, q3⟩ := I2.after hq'
      subst ev
      exact ⟨rv, ⟨V.ref (s.heap.objs.size + 1), H', I3, rfl, q3⟩⟩
    | next => exact False.elim hq'
    | brk => exact False.elim hq'
    | cont => exact False.elim hq'
def tMakeS (C : Addr) (sp : Sp) (E : L2.St → XK) (t : TA) : TE := fun σ H Q => t σ H fun vs H1 => ∀ x dx, H1 x = none → H1 dx = none → dx ≠ x →
  sp (.ref x :: vs) (upd (upd H1 dx (.own x)) x (.ins C dx [])) (fun v H2 => v = .non ∧ Q (.ref x) H2) (E σ)
theorem pe_makeS (M : Mk X.K C f) (F : FnOk X.prog X.w X.K X.mg X.base CX k f fd ps sp) (hr : Room (k + 1) X.A) (hg : Gl X x) (hm : X.mg x = some (.ref C)) (hb : Binds X.K fd ps []) (hx : ∀ σ, PassesAt CX X σ (E σ))
    (ha : PA X (e :: es) t) (hdb : (x == ("__debug__" : Str)) = false := by decide) (he : starEach (e :: es) X.env = (false, eval e X.env) :: starEach es X.env := by rfl) (hpl : (backTo pos (starEach es X.env)).any (·.1) = false := by rfl) :
    PE X (.Call (.Name x p) (e :: es) [] pos) (tMakeS C sp E t) := by
  refine ⟨fun pins s σ H Q I h => ?_⟩
  refine wpAny_Call_Name_kw (ld_glob I hg hm ?_ hdb)
  refine PySem.W.callWith_K (h₀ := X.base) I.ok.mod.kin M.kp (thn (ha.run pos pins s σ H _ I h) fun us s1 ⟨vs, H1, I1, r, q⟩ => ⟨I1.kIn, ?_⟩) he hpl
  exact run_makeS M F hr hb (hx σ) I1 r q
def tMethS (C : Addr) (m : Str) (sp : Sp) (E : L2.St → XK) (ta : TE) (t : TA) : TE := fun σ H Q => ta σ H fun x H1 => ∃ a dx fs, x = .ref a ∧ H1 a = some (.ins C dx fs) ∧ fs.lookup m = none ∧
  t σ H1 fun vs H2 => sp (x :: vs) H2 Q (E σ)
theorem pe_methS {pl : Sem Bool} (he : PE X o ta) (c : Cls X.K C) (hm : Meth X.K C m f) (F : FnOk X.prog X.w X.K X.mg X.base CX k f fd ps sp) (hr : Room k X.A) (hb : Binds X.K fd ps []) (hx : ∀ σ, PassesAt CX X σ (E σ)) (ha : PA X (e :: es) t)
    (hst : starEach (e :: es) X.env = (false, eval e X.env) :: starEach es X.env := by rfl) (hpl : (backTo pos (starEach es X.env)).any (·.1) = false := by rfl)
    (ht : eval (.Call (.Attribute o m apos) (e :: es) [] pos) X.env = (do
      let ov ← eval o X.env
      standAt apos.atName
      let (f, first) ← holding [ov] (getMethod ov m pl)
      callWith pos f first (backTo pos (starEach (e :: es) X.env)) (backToKw pos (keywordEach [] X.env))) := by rfl) :
    PE X (.Call (.Attribute o m apos) (e :: es) [] pos) (tMethS C m sp E ta t) := by
  refine ⟨fun pins s σ H Q I h => ?_⟩
  refine PySem.W.methodCall_KW (pl := pl) (thn (he.run pins s σ H _ I h) fun u s1 ⟨x, H1, I1, rx, a, dx, fs, ex, ea, l, q⟩ => ?_) ht
  subst ex
  obtain rfl : u = Value.ref a := rx
  refine getmeth_ok I1 ea c hm l ?_
  refine PySem.W.callWith_K (first := [.ref a]) (h₀ := X.base) I.ok.mod.kin hm.kp (thn (ha.run pos pins s1 σ H1 _ I1 q) fun us s2 ⟨vs, H2, I2, r, q2⟩ => ⟨I2.kIn, ?_⟩) hst hpl
  exact run_fnS (us := .ref a :: us) (vs := .ref a :: vs) F hr hb (hx σ) I2 (.cons rfl r) q2
theorem pe_methS0 {pl : Sem Bool} (he : PE X o ta) (c : Cls X.K C) (hm : Meth X.K C m f) (F : FnOk X.prog X.w X.K X.mg X.base CX k f fd ps sp) (hr : Room k X.A) (hb : Binds X.K fd ps []) (hx : ∀ σ, PassesAt CX X σ (E σ))
    (ht : eval (.Call (.Attribute o m apos) [] [] pos) X.env = (do
      let ov ← eval o X.env
      standAt apos.atName
      let (f, first) ← holding [ov] (getMethod ov m pl)
      callWith pos f first (backTo pos (starEach [] X.env)) (backToKw pos (keywordEach [] X.env))) := by rfl) :
    PE X (.Call (.Attribute o m apos) [] [] pos) (tMethS C m sp E ta tNil) := by
  refine ⟨fun pins s σ H Q I h => ?_⟩
  refine PySem.W.methodCall_KW (pl := pl) (thn (he.run pins s σ H _ I h) fun u s1 ⟨x, H1, I1, rx, a, dx, fs, ex, ea, l, q⟩ => ?_) ht
  subst ex
  obtain rfl : u = Value.ref a := rx
  refine getmeth_ok I1 ea c hm l ?_
  exact PySem.W.callWith_K0 (first := [.ref a]) I1.kIn hm.kp (run_fnS (us := [.ref a]) (vs := [.ref a]) F hr hb (hx σ) I1 (.cons rfl .nil) q)
/-- len of an own class's instance -/
def rLenO (C : Addr) (sp : Sp) : List V → Hp → VK → Prop := fun xs H Q => ∃ a dx fs, xs = [.ref a] ∧ H a = some (.ins C dx fs) ∧ sp [.ref a] H (fun v H' => ∃ n : Int, v = .int n ∧ 0 ≤ n ∧ n < 2 ^ 63 ∧ Q (.int n) H') E0
theorem call_lenO (F : FnOk X.prog X.w X.K X.mg X.base (L2N.CX X.prog X.w) k f fd ps sp) (hs : PySem.W.findIn X.K (.ref C) "__len__" = some (some (.ref f))) (hf : PySem.W.isFn X.K (.ref f) = true) (hb : Binds X.K fd ps []) (hr : Room (k + 1) X.A) : CallR X (.builtin "len") (rLenO C sp) := by
  intro pins s σ H xs us Q I r h
  obtain ⟨a, dx, fs, rfl, ea, q⟩ := h
  obtain ⟨u, rfl, ru⟩ := vals1 r
  cases ru
  obtain ⟨mA, J, _⟩ := ins_get I.hok ea
  obtain ⟨od, J, _⟩ := J.look
  obtain ⟨m, hF⟩ := I.fr
  have hl := F.len _ _ _ _ q
  have bb := hb s [.ref a] I.kIn (by simpa using hl)
  refine PySem.W.len_K hF I.ok.mod.kin J hs hf ?_
  refine wpAny_call (codeAny_mono (F.run X.A.in1 X.stack s H ⟨[.ref a], []⟩ [.ref a] [.ref a] _ E0 hr.in1 I.env0.in1 (by simpa using bb) (.cons rfl .nil) q) fun r s' hq => ?_)
  cases r with
  | error er => exact (passN (X := X.nox) pins σ H s er s' (I.wish _) hq).elim
  | ok fl =>
    cases fl with
    | ret w =>
      obtain ⟨v, H', I', rv, n, rfl, h0, h1, qn⟩ := I.after hq
      obtain ⟨tk, rfl⟩ := rv
      exact ⟨⟨h0, h1⟩, ⟨.int n, H', I'.tok _, ⟨_, rfl⟩, qn⟩⟩
    | next => exact False.elim hq
    | brk => exact False.elim hq
    | cont => exact False.elim hq
/-- == of an own class's instance and another one, or a tuple -/
def rEqO (K : PySem.W.Frag) (C : Addr) (sp : Sp) : R2 := fun x y H Q => ∃ a b dx fs, x = .ref a ∧ y = .ref b ∧ H a = some (.ins C dx fs) ∧ ((∃ dy gs, H b = some (.ins C dy gs)) ∨ ∃ ys, SqT K H b ys) ∧
  sp [.ref a, .ref b] H (fun v H' => ∃ q : Bool, v = .bl q ∧ Q (.bl q) H') E0
theorem op_eqO (F : FnOk X.prog X.w X.K X.mg X.base (L2N.CX X.prog X.w) k f fd ps sp) (hs : PySem.W.findIn X.K (.ref C) "__eq__" = some (some (.ref f))) (hf : PySem.W.isFn X.K (.ref f) = true) (hb : Binds X.K fd ps []) (hr : Room k X.A)
    (hn : PySem.W.notFirst X.K C (.type "tuple") = true) : OpR X (compareOp .Eq) (rEqO X.K C sp) := by
  intro pins s σ H x y v u Q I rx ry h
  obtain ⟨a, b, dx, fs, rfl, rfl, ea, eb, q⟩ := h
  cases rx
  cases ry
  obtain ⟨mA, J, _⟩ := ins_get I.hok ea
  obtain ⟨od, J, _⟩ := J.look
  obtain ⟨m, hF⟩ := I.fr
  have hl := F.len _ _ _ _ q
  have bb := hb s [.ref a, .ref b] I.kIn (by simpa using hl)
  have go : wpAny (model X.prog X.w) X.A (call (.ref f) [.ref a, .ref b]) (PySem.W.CmpBack (EP X pins σ Q)) X.xe s := by
    refine wpAny_call (codeAny_mono (F.run X.A X.stack s H ⟨[.ref a, .ref b], []⟩ [.ref a, .ref b] [.ref a, .ref b] _ E0 hr I.env0 (by simpa using bb) (.cons rfl (.cons rfl .nil)) q) fun r s' hq => ?_)
    cases r with
    | error er => exact passN pins σ H s er s' I hq
    | ok fl =>
      cases fl with
      | ret w =>
        obtain ⟨v, H', I', rv, n, rfl, qn⟩ := I.after hq
        cases rv
        exact ⟨.bl n, H', I', rfl, qn⟩
      | next => exact False.elim hq
      | brk => exact False.elim hq
      | cont => exact False.elim hq
  show wpAny (model X.prog X.w) X.A (richCompare .Eq (.ref a) (.ref b)) (EP X pins σ Q) X.xe s
  rcases eb with ⟨dy, gs, eb⟩ | ⟨ys, eb⟩
  · obtain ⟨mB, J', _⟩ := ins_get I.hok eb
    obtain ⟨od', J', _⟩ := J'.look
    exact PySem.W.cmp_K (op := .Eq) (tb := .ref C) hr.units0 hF I.ok.mod.kin J J'.type (by simp [PySem.W.notFirst]) hs hf go
  · obtain ⟨its, rv, ⟨ob, ho, hc, _⟩, _⟩ := I.tuple eb
    have L : PySem.W.Looks (model X.prog X.w) s.heap (typeOf (.ref b)) (.type "tuple") := fun A Q E s k q => wpAny_typeOf_ref (k _ _ ho) (by rw [hc]; exact q)
    exact PySem.W.cmp_K (op := .Eq) (tb := .type "tuple") hr.units0 hF I.ok.mod.kin J L hn hs hf go
end
section
variable {X : Cx} {W : WX} {k : Nat} {a b e o c : Expr} {es : List Expr} {pos : Pos} {A B C : EX} {L : AX}
theorem ie_make {f Cc : Addr} {fd : FuncData} {ps : List Str} {x : Str} {p : Pos} {F : List PV → IH → Res PV} {n j : Nat} (cx : Ctx X W k) (M : Mk X.K Cc f) (G : FnOk X.prog X.w X.K X.mg X.base (L2N.CX X.prog X.w) j f fd ps (SpF X.K X.mg n F)) (hj : j + 1 ≤ k) (hm : X.mg x = some (.ref Cc)) (hb : Binds X.K fd ps [])
    (ha : PA X (e :: es) (IA X.K X.mg W L)) (hF : ∀ us h, us.length ≠ n → F us h = .bad) (hg : Gl X x := by rfl) (hdb : (x == ("__debug__" : Str)) = false := by decide) (he : starEach (e :: es) X.env = (false, eval e X.env) :: starEach es X.env := by rfl) (hpl : (backTo pos (starEach es X.env)).any (·.1) = false := by rfl) :
    PE X (.Call (.Name x p) (e :: es) [] pos) (IE X.K X.mg W (eCall (mkO x F) L)) := by
  refine peImp (pe_makeS M G (cx.room.mono hj) hg hm hb (fun s => L2N.passAt cx.tk s) ha hdb he hpl) fun s H Q ⟨as, r, h, g, z, o⟩ => ?_
  refine ⟨as, r, h, g, z, (Out.bind o).imp fun Vs H1 ⟨as1, h1, us, S1, x1, r1, o1⟩ => ?_⟩
  intro y dy ny nd hne
  have x2 : RH X.K X.mg (upd H1 dy (.own y)) as1 h1 := x1.lay nd
  have S2 : Stp as1 H1 as1 (upd H1 dy (.own y)) := Stp.lay x1 nd
  have ny' : upd H1 dy (.own y) y = none := by rw [upd_ne (Ne.symm hne)]; exact ny
  have S3 := Stp.new (o := .ins Cc dy []) x2 ny'
  have x3 : RH X.K X.mg (upd (upd H1 dy (.own y)) y (.ins Cc dy [])) (as1 ++ [y]) (h1 ++ [.ins x []]) := x2.new ny' ⟨Cc, dy, [], hm, upd_same, rfl, .nil⟩
  have ro : RP X.K X.mg (upd (upd H1 dy (.own y)) y (.ins Cc dy [])) (as1 ++ [y]) (.obj h1.length) (.ref y) := .obj (by
    rw [List.getElem?_append_right (by rw [x1.len]; exact Nat.le_refl _), x1.len, Nat.sub_self]
    rfl)
  have rs : RPs X.K X.mg (upd (upd H1 dy (.own y)) y (.ins Cc dy [])) (as1 ++ [y]) (.obj h1.length :: us) (.ref y :: Vs) := .cons ro ((r1.mono S2).mono S3)
  have o2 := Out.shift (S2.trans S3) o1
  unfold mkO at o2
  refine SpF.of (W := W) (s := s) x3 rs ?_ ((Out.bind o2).imp fun V H4 ⟨as4, h4, v, S4, x4, r4, o4⟩ => ?_)
  · by_cases hn : (PV.obj h1.length :: us).length = n
    · exact hn
    · rw [hF _ _ hn] at o2; exact o2.elim
  · cases r4 with
    | non => exact ⟨rfl, o4.here x4 (ro.mono S4)⟩
    | bl => exact o4.elim
    | int => exact o4.elim
    | str => exact o4.elim
    | tup => exact o4.elim
    | fls => exact o4.elim
    | obj => exact o4.elim
    | glo => exact o4.elim
    | ty => exact o4.elim
    | key => exact o4.elim
theorem ie_meth {f Cc : Addr} {fd : FuncData} {ps : List Str} {m cn : Str} {apos : Pos} {F : List PV → IH → Res PV} {n j : Nat} (pl : Sem Bool) (cx : Ctx X W k) (gc : X.mg cn = some (.ref Cc)) (cl : Cls X.K Cc) (hm : Meth X.K Cc m f) (G : FnOk X.prog X.w X.K X.mg X.base (L2N.CX X.prog X.w) j f fd ps (SpF X.K X.mg n F)) (hj : j ≤ k) (hb : Binds X.K fd ps [])
    (ho : PE X o (IE X.K X.mg W A)) (ha : PA X (e :: es) (IA X.K X.mg W L)) (hF : ∀ us h, us.length ≠ n → F us h = .bad)
    (hst : starEach (e :: es) X.env = (false, eval e X.env) :: starEach es X.env := by rfl) (hpl : (backTo pos (starEach es X.env)).any (·.1) = false := by rfl)
    (ht : eval (.Call (.Attribute o m apos) (e :: es) [] pos) X.env = (do
      let ov ← eval o X.env
      standAt apos.atName
      let (f, first) ← holding [ov] (getMethod ov m pl)
      callWith pos f first (backTo pos (starEach (e :: es) X.env)) (backToKw pos (keywordEach [] X.env))) := by rfl) :
    PE X (.Call (.Attribute o m apos) (e :: es) [] pos) (IE X.K X.mg W (eMeth cn m F A L)) := by
  refine peImp (pe_methS ho cl hm G (cx.room.mono hj) hb (fun s => L2N.passAt cx.tk s) ha hst hpl ht) fun s H Q ⟨as, r, h, g, z, o⟩ => ?_
  refine ⟨as, r, h, g, z, (Out.bind o).imp fun V H1 ⟨as1, h1, p1, S1, x1, r1, o1⟩ => ?_⟩
  split at o1
  · cases r1 with
    | obj hn =>
      split at o1
      · rename_i c' fs hx
        split at o1
        · rename_i hc
          obtain ⟨hc, hl⟩ := hc
          subst hc
          obtain ⟨b, e1, C', dx, gs, g0, e2, e3, rs⟩ := x1.at_ _ _ hx
          rw [hn] at e1; cases e1
          rw [gc] at g0; cases g0
          refine ⟨_, dx, gs, rfl, e2, fld_none e3 hl, as1, r, h1, g.mono S1, x1, (Out.bind o1).imp fun Vs H2 ⟨as2, h2, us, S2, x2, r2, o2⟩ => ?_⟩
          refine SpF.of x2 (RPs.cons (.obj (S2.get hn)) r2) ?_ o2
          by_cases hn' : us.length + 1 = n
          · rw [List.length_cons]; exact hn'
          · rw [hF _ _ (by rw [List.length_cons]; exact hn')] at o2; exact o2.elim
        · exact o1.elim
      · exact o1.elim
  · exact o1.elim
theorem ie_meth0 {f Cc : Addr} {fd : FuncData} {ps : List Str} {m cn : Str} {apos : Pos} {F : List PV → IH → Res PV} {j : Nat} (pl : Sem Bool) (cx : Ctx X W k) (gc : X.mg cn = some (.ref Cc)) (cl : Cls X.K Cc) (hm : Meth X.K Cc m f) (G : FnOk X.prog X.w X.K X.mg X.base (L2N.CX X.prog X.w) j f fd ps (SpF X.K X.mg 1 F)) (hj : j ≤ k) (hb : Binds X.K fd ps [])
    (ho : PE X o (IE X.K X.mg W A))
    (ht : eval (.Call (.Attribute o m apos) [] [] pos) X.env = (do
      let ov ← eval o X.env
      standAt apos.atName
      let (f, first) ← holding [ov] (getMethod ov m pl)
      callWith pos f first (backTo pos (starEach [] X.env)) (backToKw pos (keywordEach [] X.env))) := by rfl) :
    PE X (.Call (.Attribute o m apos) [] [] pos) (IE X.K X.mg W (eMeth cn m F A aNil)) := by
  refine peImp (pe_methS0 ho cl hm G (cx.room.mono hj) hb (fun s => L2N.passAt cx.tk s) ht) fun s H Q ⟨as, r, h, g, z, o⟩ => ?_
  refine ⟨as, r, h, g, z, (Out.bind o).imp fun V H1 ⟨as1, h1, p1, S1, x1, r1, o1⟩ => ?_⟩
  split at o1
  · cases r1 with
    | obj hn =>
      split at o1
      · rename_i c' fs hx
        split at o1
        · rename_i hc
          obtain ⟨hc, hl⟩ := hc
          subst hc
          obtain ⟨b, e1, C', dx, gs, g0, e2, e3, rs⟩ := x1.at_ _ _ hx
          rw [hn] at e1; cases e1
          rw [gc] at g0; cases g0
          exact ⟨_, dx, gs, rfl, e2, fld_none e3 hl, SpF.of x1 (RPs.one (.obj hn)) rfl o1⟩
        · exact o1.elim
      · exact o1.elim
  · exact o1.elim
theorem noX_of {K : PySem.W.Frag} {mg : Str → Option Value} {s : L2.St} {as : List Addr} {H : Hp} {Q : VK} {r : Res PV} (o : Out K mg (fun H as p v => RP K mg H as p v) W s as H Q (noX r)) : Out K mg (fun H as p v => RP K mg H as p v) (fun c d _ H' => E0 c d H') [] as H Q r := by
  cases r with
  | ok a h => exact o
  | ex z h => exact (show False from o).elim
  | bad => exact o
theorem ie_prop {f pa Cc : Addr} {fd : FuncData} {ps : List Str} {m cn : Str} {F : List PV → IH → Res PV} {j : Nat} (cx : Ctx X W k) (gc : X.mg cn = some (.ref Cc)) (cl : Cls X.K Cc) (hp : PropOf X.K Cc m pa f) (G : FnOk X.prog X.w X.K X.mg X.base (L2N.CX X.prog X.w) j f fd ps (SpF X.K X.mg 1 F)) (hj : j + 1 ≤ k) (hb : Binds X.K fd ps [])
    (he : PE X e (IE X.K X.mg W A)) (hab : attributeBase e m X.env (eval e X.env) = eval e X.env := by rfl) : PE X (.Attribute e m pos) (IE X.K X.mg W (eProp cn F A)) := by
  refine peImp (pe_prop he cl hp G (cx.room.mono hj) hb .nil (passN (X := X.nox)) hab) fun s H Q ⟨as, r, h, g, z, o⟩ => ?_
  refine ⟨as, r, h, g, z, (Out.bind o).imp fun V H1 ⟨as1, h1, p1, S1, x1, r1, o1⟩ => ?_⟩
  split at o1
  · cases r1 with
    | obj hn =>
      split at o1
      · rename_i c' fs hx
        split at o1
        · rename_i hc
          subst hc
          obtain ⟨b, e1, C', dx, gs, g0, e2, e3, rs⟩ := x1.at_ _ _ hx
          rw [hn] at e1; cases e1
          rw [gc] at g0; cases g0
          exact ⟨_, dx, gs, rfl, e2, as1, _, h1, rfl, RPs.one (.obj hn), x1, noX_of o1⟩
        · exact o1.elim
      · exact o1.elim
  · exact o1.elim
theorem snd_lenO {K : PySem.W.Frag} {mg : Str → Option Value} {cn : Str} {Cc : Addr} {F : List PV → IH → Res PV} (gc : mg cn = some (.ref Cc)) : SndC K mg (pLenO cn F) (rLenO Cc (SpF K mg 1 F)) := by
  intro W s as H h xs Us Q rh rs o
  unfold pLenO at o
  split at o
  · obtain ⟨v, rfl, rv⟩ := rs.inv1
    split at o
    · cases rv with
      | obj hn =>
        split at o
        · rename_i c' fs hx
          split at o
          · rename_i hc
            subst hc
            obtain ⟨b, e1, C', dx, gs, g0, e2, e3, rs'⟩ := rh.at_ _ _ hx
            rw [hn] at e1; cases e1
            rw [gc] at g0; cases g0
            refine ⟨_, dx, gs, rfl, e2, as, _, h, rfl, RPs.one (.obj hn), rh, ?_⟩
            split at o
            · rename_i i h1 hF
              split at o
              · rename_i hi
                rw [hF]
                intro V H' as' S x' r'
                cases r'
                have e63 : (2 : Int) ^ 63 = 9223372036854775808 := by decide
                exact ⟨_, rfl, hi.1, by rw [e63]; exact hi.2, o _ _ _ S x' (.int _)⟩
              · exact o.elim
            · exact o.elim
          · exact o.elim
        · exact o.elim
    · exact o.elim
  · exact o.elim
theorem snd_eqO {K : PySem.W.Frag} {mg : Str → Option Value} {cn : Str} {Cc : Addr} {F : List PV → IH → Res PV} (gc : mg cn = some (.ref Cc)) : Snd K mg (pEqO cn F) (rEqO K Cc (SpF K mg 2 F)) := by
  intro W s as H h x y U V Q rh rx ry o
  unfold pEqO at o
  split at o
  · cases rx with
    | obj hn =>
      split at o
      · rename_i c' fs hx
        split at o
        · rename_i hc
          obtain ⟨hc, ht⟩ := hc
          subst hc
          obtain ⟨b, e1, C', dx, gs, g0, e2, e3, rs'⟩ := rh.at_ _ _ hx
          rw [hn] at e1; cases e1
          rw [gc] at g0; cases g0
          have hy : ∃ b', V = .ref b' ∧ ((∃ dy gs, H b' = some (.ins Cc dy gs)) ∨ ∃ ys, SqT K H b' ys) := by
            unfold isTupOr at ht
            split at ht
            · cases ry with
              | tup hs rs => exact ⟨_, rfl, .inr ⟨_, hs⟩⟩
            · cases ry with
              | obj hm =>
                split at ht
                · rename_i c2 fs2 hx2
                  obtain ⟨b2, e1', C2, dx2, gs2, g0', e2', _⟩ := rh.at_ _ _ hx2
                  rw [hm] at e1'; cases e1'
                  have : c2 = c' := by simpa using ht
                  subst this
                  rw [gc] at g0'; cases g0'
                  exact ⟨_, rfl, .inl ⟨_, _, e2'⟩⟩
                · cases ht
            · cases ht
          obtain ⟨b', rfl, hy⟩ := hy
          refine ⟨_, _, dx, gs, rfl, rfl, e2, hy, as, _, h, rfl, RPs.cons (.obj hn) (RPs.one ry), rh, ?_⟩
          split at o
          · rename_i q h1 hF
            rw [hF]
            intro V H' as' S x' r'
            cases r'
            exact ⟨_, rfl, o _ _ _ S x' (.bl _)⟩
          · exact o.elim
        · exact o.elim
      · exact o.elim
  · exact o.elim
theorem ie_chain {op op' : CmpOp} {p q : PV → PV → IH → Res PV} {r r' : R2} (ho : OpR X (compareOp op) r) (ho' : OpR X (compareOp op') r') (hp : Snd X.K X.mg p r) (hq : Snd X.K X.mg q r') (ha : PE X a (IE X.K X.mg W A)) (hb : PE X b (IE X.K X.mg W B)) (hc : PE X c (IE X.K X.mg W C))
    (hm : lastMarks [op, op'] [b, c] = false := by with_unfolding_all rfl) : PE X (.Compare a [op, op'] [b, c] pos) (IE X.K X.mg W (eChain p q A B C)) := by
  refine peImp (pe_chain ho ho' ha hb hc hm) fun s H Q ⟨as, ρ, h, g, z, o⟩ => ?_
  refine ⟨as, ρ, h, g, z, (Out.bind o).imp fun V1 H1 ⟨as1, h1, p1, S1, x1, r1, o1⟩ => ?_⟩
  refine ⟨as1, ρ, h1, g.mono S1, x1, (Out.bind o1).imp fun V2 H2 ⟨as2, h2, p2, S2, x2, r2, o2⟩ => ?_⟩
  refine hp x2 (r1.mono S2) r2 ((Out.bind o2).imp fun V3 H3 ⟨as3, h3, p3, S3, x3, r3, o3⟩ => ?_)
  cases r3 with
  | bl d =>
    refine ⟨d, rfl, ?_⟩
    cases d with
    | false => exact o3.here x3 (.bl false)
    | true =>
      refine ⟨as3, ρ, h3, ((g.mono S1).mono S2).mono S3, x3, (Out.bind o3).imp fun V4 H4 ⟨as4, h4, p4, S4, x4, r4, o4⟩ => ?_⟩
      exact hq x4 ((r2.mono S3).mono S4) r4 o4
  | non => exact o3.elim
  | int => exact o3.elim
  | str => exact o3.elim
  | tup => exact o3.elim
  | fls => exact o3.elim
  | obj => exact o3.elim
  | glo => exact o3.elim
  | ty => exact o3.elim
  | key => exact o3.elim
end
end WR

/-! bundles for defs, classes; the head's Hook; the law's end -/
namespace WR
open PySem PySem.Spec PyProof.Rows L2
section
variable {P : Program} {w : World} {K : PySem.W.Frag} {mg : Str → Option Value} {base : Heap}
/-- a def of the top -/
structure GF (P : Program) (w : World) (K : PySem.W.Frag) (mg : Str → Option Value) (base : Heap) (x : Str) (j n : Nat) (F : List PV → IH → Res PV) : Prop where
  bad : ∀ us h, us.length ≠ n → F us h = .bad
  ex : ∃ f fd ps, FnOk P w K mg base (L2N.CX P w) j f fd ps (SpF K mg n F) ∧ mg x = some (.ref f) ∧ PySem.W.keepIn K (.ref f) = true ∧ Binds K fd ps []
/-- a def of a class, at f -/
structure GA (P : Program) (w : World) (K : PySem.W.Frag) (mg : Str → Option Value) (base : Heap) (f : Addr) (j n : Nat) (F : List PV → IH → Res PV) : Prop where
  bad : ∀ us h, us.length ≠ n → F us h = .bad
  ex : ∃ fd ps, FnOk P w K mg base (L2N.CX P w) j f fd ps (SpF K mg n F) ∧ Binds K fd ps []
theorem ga_mk {x qual : Str} {st : Stmt} {f : Addr} {fd : FuncData} {N ps : List Str} {k : Nat} {B : SX} (F : Fun K x qual st f fd) (S : FnScope N ps (defScope st)) (m : Nat) (hm : N.length = ps.length + m)
    (hb : ∀ (kV doc pm : Value) (an : Option Addr) (cdv ct : Value) (us : List Value), us.length = ps.length → bindArgs (PySem.W.fnOf x qual (defArgs st) (defBody st) (defScope st) .none kV doc pm an cdv ct) ⟨us, []⟩ = pure (ps.zip us))
    (body : ∀ (cdv : Value), cdv = .ref (cdOf K f) → ∀ (A : Around) (outer : List Env) (s : Shared) (H : Hp) (E : XK), Ctx (cxOf (L2N.CX P w) P w K mg base N qual (defScope st) f cdv A outer s H E) (WD E) k →
      PSs (cxOf (L2N.CX P w) P w K mg base N qual (defScope st) f cdv A outer s H E) (defBody st) (IS K mg (WD E) B)) :
    GA P w K mg base f (k + 1) ps.length (fn ps.length m B) := ⟨fn_bad, fd, ps, ok_of F S m hm body, F.binds hb⟩
theorem gf_mk {x qual : Str} {st : Stmt} {f : Addr} {fd : FuncData} {N ps : List Str} {k : Nat} {B : SX} (F : Fun K x qual st f fd) (g : mg x = some (.ref f)) (S : FnScope N ps (defScope st)) (m : Nat) (hm : N.length = ps.length + m)
    (hb : ∀ (kV doc pm : Value) (an : Option Addr) (cdv ct : Value) (us : List Value), us.length = ps.length → bindArgs (PySem.W.fnOf x qual (defArgs st) (defBody st) (defScope st) .none kV doc pm an cdv ct) ⟨us, []⟩ = pure (ps.zip us))
    (body : ∀ (cdv : Value), cdv = .ref (cdOf K f) → ∀ (A : Around) (outer : List Env) (s : Shared) (H : Hp) (E : XK), Ctx (cxOf (L2N.CX P w) P w K mg base N qual (defScope st) f cdv A outer s H E) (WD E) k →
      PSs (cxOf (L2N.CX P w) P w K mg base N qual (defScope st) f cdv A outer s H E) (defBody st) (IS K mg (WD E) B)) :
    GF P w K mg base x (k + 1) ps.length (fn ps.length m B) := ⟨fn_bad, f, fd, ps, ok_of F S m hm body, g, F.kp, F.binds hb⟩
end
section
variable {X : Cx} {W : WX} {k : Nat} {a b e o c : Expr} {es : List Expr} {pos p apos : Pos} {A B C : EX} {L : AX} {x m cn : Str} {j n : Nat} {F : List PV → IH → Res PV} {f Cc pa : Addr}
theorem ie_callG (cx : Ctx X W k) (G : GF X.prog X.w X.K X.mg X.base x j n F) (ha : PA X (e :: es) (IA X.K X.mg W L)) (hj : j ≤ k := by decide) (hg : Gl X x := by rfl) (hdb : (x == ("__debug__" : Str)) = false := by decide) (he : starEach (e :: es) X.env = (false, eval e X.env) :: starEach es X.env := by rfl) (hpl : (backTo pos (starEach es X.env)).any (·.1) = false := by rfl) :
    PE X (.Call (.Name x p) (e :: es) [] pos) (IE X.K X.mg W (eCall F L)) := by
  obtain ⟨f, fd, ps, G1, hm, hk, hb⟩ := G.ex
  exact ie_call cx G1 hj hm hk hb ha G.bad hg hdb he hpl
theorem ie_callG0 (cx : Ctx X W k) (G : GF X.prog X.w X.K X.mg X.base x j 0 F) (hj : j ≤ k := by decide) (hg : Gl X x := by rfl) (hdb : (x == ("__debug__" : Str)) = false := by decide) : PE X (.Call (.Name x p) [] [] pos) (IE X.K X.mg W (eCall F aNil)) := by
  obtain ⟨f, fd, ps, G1, hm, hk, hb⟩ := G.ex
  exact ie_call0 cx G1 hj hm hk hb hg hdb
theorem ie_makeG (cx : Ctx X W k) (M : Mk X.K Cc f) (hm : X.mg x = some (.ref Cc)) (G : GA X.prog X.w X.K X.mg X.base f j n F) (ha : PA X (e :: es) (IA X.K X.mg W L)) (hj : j + 1 ≤ k := by decide) (hg : Gl X x := by rfl) (hdb : (x == ("__debug__" : Str)) = false := by decide) (he : starEach (e :: es) X.env = (false, eval e X.env) :: starEach es X.env := by rfl) (hpl : (backTo pos (starEach es X.env)).any (·.1) = false := by rfl) :
    PE X (.Call (.Name x p) (e :: es) [] pos) (IE X.K X.mg W (eCall (mkO x F) L)) := by
  obtain ⟨fd, ps, G1, hb⟩ := G.ex
  exact ie_make cx M G1 hj hm hb ha G.bad hg hdb he hpl
theorem ie_propG (cx : Ctx X W k) (gc : X.mg cn = some (.ref Cc)) (cl : Cls X.K Cc) (hp : PropOf X.K Cc m pa f) (G : GA X.prog X.w X.K X.mg X.base f j 1 F) (he : PE X e (IE X.K X.mg W A)) (hj : j + 1 ≤ k := by decide) (hab : attributeBase e m X.env (eval e X.env) = eval e X.env := by rfl) :
    PE X (.Attribute e m pos) (IE X.K X.mg W (eProp cn F A)) := by
  obtain ⟨fd, ps, G1, hb⟩ := G.ex
  exact ie_prop cx gc cl hp G1 hj hb he hab
theorem ie_lenG (cx : Ctx X W k) (gc : X.mg cn = some (.ref Cc)) (hs : PySem.W.findIn X.K (.ref Cc) "__len__" = some (some (.ref f))) (hf : PySem.W.isFn X.K (.ref f) = true) (G : GA X.prog X.w X.K X.mg X.base f j 1 F) (hm : X.mg "len" = none) (ha : PA X (e :: es) (IA X.K X.mg W L)) (hj : j + 1 ≤ k := by decide) (hg : Gl X "len" := by rfl)
    (he : starEach (e :: es) X.env = (false, eval e X.env) :: starEach es X.env := by rfl) (hpl : (backTo pos (starEach es X.env)).any (·.1) = false := by rfl) : PE X (.Call (.Name "len" p) (e :: es) [] pos) (IE X.K X.mg W (eB (pLenO cn F) L)) := by
  obtain ⟨fd, ps, G1, hb⟩ := G.ex
  exact ie_callB (call_lenO G1 hs hf hb (cx.room.mono hj)) (snd_lenO gc) hm PySem.boot_len ha hg (by decide) (by decide) he hpl
theorem ie_eqG (cx : Ctx X W k) (gc : X.mg cn = some (.ref Cc)) (hs : PySem.W.findIn X.K (.ref Cc) "__eq__" = some (some (.ref f))) (hf : PySem.W.isFn X.K (.ref f) = true) (hn : PySem.W.notFirst X.K Cc (.type "tuple") = true) (G : GA X.prog X.w X.K X.mg X.base f j 2 F) (ha : PE X a (IE X.K X.mg W A)) (hb' : PE X b (IE X.K X.mg W B)) (hj : j ≤ k := by decide) :
    PE X (.Compare a [.Eq] [b] pos) (IE X.K X.mg W (eOp (pEqO cn F) A B)) := by
  obtain ⟨fd, ps, G1, hb⟩ := G.ex
  exact ie_cmp (op_eqO G1 hs hf hb (cx.room.mono hj) hn) (snd_eqO gc) ha hb' (nomark _)
theorem it_eqG (cx : Ctx X W k) (gc : X.mg cn = some (.ref Cc)) (hs : PySem.W.findIn X.K (.ref Cc) "__eq__" = some (some (.ref f))) (hf : PySem.W.isFn X.K (.ref f) = true) (hn : PySem.W.notFirst X.K Cc (.type "tuple") = true) (G : GA X.prog X.w X.K X.mg X.base f j 2 F) (ha : PE X a (IE X.K X.mg W A)) (hb' : PE X b (IE X.K X.mg W B)) (hj : j ≤ k := by decide) :
    PT X (.Compare a [.Eq] [b] pos) (IT X.K X.mg W (tBl (eOp (pEqO cn F) A B))) := by
  obtain ⟨fd, ps, G1, hb⟩ := G.ex
  exact it_cmp (op_eqO G1 hs hf hb (cx.room.mono hj) hn) (snd_eqO gc) ha hb' (nomark _)
theorem ie_methG (pl : Sem Bool) (cx : Ctx X W k) (gc : X.mg cn = some (.ref Cc)) (cl : Cls X.K Cc) (hm : Meth X.K Cc m f) (G : GA X.prog X.w X.K X.mg X.base f j n F) (ho : PE X o (IE X.K X.mg W A)) (ha : PA X (e :: es) (IA X.K X.mg W L)) (hj : j ≤ k := by decide)
    (hst : starEach (e :: es) X.env = (false, eval e X.env) :: starEach es X.env := by rfl) (hpl : (backTo pos (starEach es X.env)).any (·.1) = false := by rfl)
    (ht : eval (.Call (.Attribute o m apos) (e :: es) [] pos) X.env = (do
      let ov ← eval o X.env
      standAt apos.atName
      let (f, first) ← holding [ov] (getMethod ov m pl)
      callWith pos f first (backTo pos (starEach (e :: es) X.env)) (backToKw pos (keywordEach [] X.env))) := by rfl) : PE X (.Call (.Attribute o m apos) (e :: es) [] pos) (IE X.K X.mg W (eMeth cn m F A L)) := by
  obtain ⟨fd, ps, G1, hb⟩ := G.ex
  exact ie_meth pl cx gc cl hm G1 hj hb ho ha G.bad hst hpl ht
theorem ie_methG0 (pl : Sem Bool) (cx : Ctx X W k) (gc : X.mg cn = some (.ref Cc)) (cl : Cls X.K Cc) (hm : Meth X.K Cc m f) (G : GA X.prog X.w X.K X.mg X.base f j 1 F) (ho : PE X o (IE X.K X.mg W A)) (hj : j ≤ k := by decide)
    (ht : eval (.Call (.Attribute o m apos) [] [] pos) X.env = (do
      let ov ← eval o X.env
      standAt apos.atName
      let (f, first) ← holding [ov] (getMethod ov m pl)
      callWith pos f first (backTo pos (starEach [] X.env)) (backToKw pos (keywordEach [] X.env))) := by rfl) : PE X (.Call (.Attribute o m apos) [] [] pos) (IE X.K X.mg W (eMeth cn m F A aNil)) := by
  obtain ⟨fd, ps, G1, hb⟩ := G.ex
  exact ie_meth0 pl cx gc cl hm G1 hj hb ho ht
/-! the built-ins, in short -/
theorem ie_abs (hm : X.mg "abs" = none) (ha : PA X (e :: es) (IA X.K X.mg W L)) (hg : Gl X "abs" := by rfl) (he : starEach (e :: es) X.env = (false, eval e X.env) :: starEach es X.env := by rfl) (hpl : (backTo pos (starEach es X.env)).any (·.1) = false := by rfl) : PE X (.Call (.Name "abs" p) (e :: es) [] pos) (IE X.K X.mg W (eB pAbs L)) :=
  ie_callB call_abs snd_abs hm (by decide +kernel) ha hg (by decide) (by decide) he hpl
theorem ie_max2 (cx : Ctx X W k) (hm : X.mg "max" = none) (ha : PA X (e :: es) (IA X.K X.mg W L)) (hg : Gl X "max" := by rfl) (he : starEach (e :: es) X.env = (false, eval e X.env) :: starEach es X.env := by rfl) (hpl : (backTo pos (starEach es X.env)).any (·.1) = false := by rfl) : PE X (.Call (.Name "max" p) (e :: es) [] pos) (IE X.K X.mg W (eB pMax2 L)) :=
  ie_callB (call_max2 cx.calm) snd_max2 hm (by decide +kernel) ha hg (by decide) (by decide) he hpl
theorem ie_min2 (cx : Ctx X W k) (hm : X.mg "min" = none) (ha : PA X (e :: es) (IA X.K X.mg W L)) (hg : Gl X "min" := by rfl) (he : starEach (e :: es) X.env = (false, eval e X.env) :: starEach es X.env := by rfl) (hpl : (backTo pos (starEach es X.env)).any (·.1) = false := by rfl) : PE X (.Call (.Name "min" p) (e :: es) [] pos) (IE X.K X.mg W (eB pMin2 L)) :=
  ie_callB (call_min2 cx.calm) snd_min2 hm (by decide +kernel) ha hg (by decide) (by decide) he hpl
theorem ie_int1 (hm : X.mg "int" = none) (ha : PA X (e :: es) (IA X.K X.mg W L)) (hg : Gl X "int" := by rfl) (he : starEach (e :: es) X.env = (false, eval e X.env) :: starEach es X.env := by rfl) (hpl : (backTo pos (starEach es X.env)).any (·.1) = false := by rfl) : PE X (.Call (.Name "int" p) (e :: es) [] pos) (IE X.K X.mg W (eB pInt1 L)) :=
  ie_callT call_int1 snd_int1 hm (by decide +kernel) ha hg (by decide) (by decide) he hpl
theorem ie_len (hm : X.mg "len" = none) (ha : PA X (e :: es) (IA X.K X.mg W L)) (hg : Gl X "len" := by rfl) (he : starEach (e :: es) X.env = (false, eval e X.env) :: starEach es X.env := by rfl) (hpl : (backTo pos (starEach es X.env)).any (·.1) = false := by rfl) : PE X (.Call (.Name "len" p) (e :: es) [] pos) (IE X.K X.mg W (eB pLen L)) :=
  ie_callB call_len snd_len hm (by decide +kernel) ha hg (by decide) (by decide) he hpl
theorem ie_list1 (hm : X.mg "list" = none) (ha : PA X (e :: es) (IA X.K X.mg W L)) (hg : Gl X "list" := by rfl) (he : starEach (e :: es) X.env = (false, eval e X.env) :: starEach es X.env := by rfl) (hpl : (backTo pos (starEach es X.env)).any (·.1) = false := by rfl) : PE X (.Call (.Name "list" p) (e :: es) [] pos) (IE X.K X.mg W (eB pList1 L)) :=
  ie_callT call_list_of snd_list1 hm (by decide +kernel) ha hg (by decide) (by decide) he hpl
theorem ie_tuple1 (hm : X.mg "tuple" = none) (ha : PA X (e :: es) (IA X.K X.mg W L)) (hg : Gl X "tuple" := by rfl) (he : starEach (e :: es) X.env = (false, eval e X.env) :: starEach es X.env := by rfl) (hpl : (backTo pos (starEach es X.env)).any (·.1) = false := by rfl) : PE X (.Call (.Name "tuple" p) (e :: es) [] pos) (IE X.K X.mg W (eB pTuple1 L)) :=
  ie_callT call_tuple_of snd_tuple1 hm (by decide +kernel) ha hg (by decide) (by decide) he hpl
theorem ie_isi {cs : List Str} (O : OwnCs X.K X.mg cs) (hm : X.mg "isinstance" = none) (ha : PA X (e :: es) (IA X.K X.mg W L)) (hg : Gl X "isinstance" := by rfl) (he : starEach (e :: es) X.env = (false, eval e X.env) :: starEach es X.env := by rfl) (hpl : (backTo pos (starEach es X.env)).any (·.1) = false := by rfl) : PE X (.Call (.Name "isinstance" p) (e :: es) [] pos) (IE X.K X.mg W (eB (pIsi cs) L)) :=
  ie_callB call_isi (snd_isi O) hm (by decide +kernel) ha hg (by decide) (by decide) he hpl
theorem ie_tyB {x : Str} {n : String} (hm : X.mg x = none) (hv : bootBuiltins x = some (.type n) := by decide +kernel) (hg : Gl X x := by rfl) (hn : x ≠ "__name__" := by decide) (hd : (x == ("__debug__" : Str)) = false := by decide) : PE X (.Name x pos) (IE X.K X.mg W (eC (.ty n))) := ie_ty hg hm hv hn hd
/-! comparisons, in short -/
theorem ie_lt (ha : PE X a (IE X.K X.mg W A)) (hb : PE X b (IE X.K X.mg W B)) : PE X (.Compare a [.Lt] [b] pos) (IE X.K X.mg W (eOp pLt A B)) := ie_cmp op_lt snd_ci ha hb (nomark _)
theorem ie_le (ha : PE X a (IE X.K X.mg W A)) (hb : PE X b (IE X.K X.mg W B)) : PE X (.Compare a [.LtE] [b] pos) (IE X.K X.mg W (eOp pLe A B)) := ie_cmp op_le snd_ci ha hb (nomark _)
theorem ie_gt (ha : PE X a (IE X.K X.mg W A)) (hb : PE X b (IE X.K X.mg W B)) : PE X (.Compare a [.Gt] [b] pos) (IE X.K X.mg W (eOp pGt A B)) := ie_cmp op_gt snd_ci ha hb (nomark _)
theorem ie_ge (ha : PE X a (IE X.K X.mg W A)) (hb : PE X b (IE X.K X.mg W B)) : PE X (.Compare a [.GtE] [b] pos) (IE X.K X.mg W (eOp pGe A B)) := ie_cmp op_ge snd_ci ha hb (nomark _)
theorem ie_eq (cx : Ctx X W k) (ha : PE X a (IE X.K X.mg W A)) (hb : PE X b (IE X.K X.mg W B)) : PE X (.Compare a [.Eq] [b] pos) (IE X.K X.mg W (eOp pEq A B)) := ie_cmp (op_eqD cx.room.units) snd_eq ha hb (nomark _)
theorem ie_ne (cx : Ctx X W k) (ha : PE X a (IE X.K X.mg W A)) (hb : PE X b (IE X.K X.mg W B)) : PE X (.Compare a [.NotEq] [b] pos) (IE X.K X.mg W (eOp pNe A B)) := ie_cmp (op_neD cx.room.units) snd_ne ha hb (nomark _)
theorem ie_is (ha : PE X a (IE X.K X.mg W A)) (hb : PE X b (IE X.K X.mg W B)) : PE X (.Compare a [.Is] [b] pos) (IE X.K X.mg W (eOp pIsN A B)) := ie_cmp op_isN snd_isn ha hb (nomark _)
theorem ie_isnot (ha : PE X a (IE X.K X.mg W A)) (hb : PE X b (IE X.K X.mg W B)) : PE X (.Compare a [.IsNot] [b] pos) (IE X.K X.mg W (eOp pNotN A B)) := ie_cmp op_notN snd_notn ha hb (nomark _)
theorem it_lt (ha : PE X a (IE X.K X.mg W A)) (hb : PE X b (IE X.K X.mg W B)) : PT X (.Compare a [.Lt] [b] pos) (IT X.K X.mg W (tBl (eOp pLt A B))) := it_cmp op_lt snd_ci ha hb (nomark _)
theorem it_le (ha : PE X a (IE X.K X.mg W A)) (hb : PE X b (IE X.K X.mg W B)) : PT X (.Compare a [.LtE] [b] pos) (IT X.K X.mg W (tBl (eOp pLe A B))) := it_cmp op_le snd_ci ha hb (nomark _)
theorem it_gt (ha : PE X a (IE X.K X.mg W A)) (hb : PE X b (IE X.K X.mg W B)) : PT X (.Compare a [.Gt] [b] pos) (IT X.K X.mg W (tBl (eOp pGt A B))) := it_cmp op_gt snd_ci ha hb (nomark _)
theorem it_ge (ha : PE X a (IE X.K X.mg W A)) (hb : PE X b (IE X.K X.mg W B)) : PT X (.Compare a [.GtE] [b] pos) (IT X.K X.mg W (tBl (eOp pGe A B))) := it_cmp op_ge snd_ci ha hb (nomark _)
theorem it_eq (cx : Ctx X W k) (ha : PE X a (IE X.K X.mg W A)) (hb : PE X b (IE X.K X.mg W B)) : PT X (.Compare a [.Eq] [b] pos) (IT X.K X.mg W (tBl (eOp pEq A B))) := it_cmp (op_eqD cx.room.units) snd_eq ha hb (nomark _)
theorem it_ne (cx : Ctx X W k) (ha : PE X a (IE X.K X.mg W A)) (hb : PE X b (IE X.K X.mg W B)) : PT X (.Compare a [.NotEq] [b] pos) (IT X.K X.mg W (tBl (eOp pNe A B))) := it_cmp (op_neD cx.room.units) snd_ne ha hb (nomark _)
theorem it_is (ha : PE X a (IE X.K X.mg W A)) (hb : PE X b (IE X.K X.mg W B)) : PT X (.Compare a [.Is] [b] pos) (IT X.K X.mg W (tBl (eOp pIsN A B))) := it_cmp op_isN snd_isn ha hb (nomark _)
theorem it_isnot (ha : PE X a (IE X.K X.mg W A)) (hb : PE X b (IE X.K X.mg W B)) : PT X (.Compare a [.IsNot] [b] pos) (IT X.K X.mg W (tBl (eOp pNotN A B))) := it_cmp op_notN snd_notn ha hb (nomark _)
theorem ie_lele (ha : PE X a (IE X.K X.mg W A)) (hb : PE X b (IE X.K X.mg W B)) (hc : PE X c (IE X.K X.mg W C)) (hm : lastMarks [.LtE, .LtE] [b, c] = false := by with_unfolding_all rfl) : PE X (.Compare a [.LtE, .LtE] [b, c] pos) (IE X.K X.mg W (eChain pLe pLe A B C)) := ie_chain op_le op_le snd_ci snd_ci ha hb hc hm
end
/-! ### the head's Hook -/
abbrev FrB := PySem.W.Frag → Bool
/-- what the names reach, step by step -/
def nextV (g : Addr → Option Obj) (as : List Addr) : List Addr := as.flatMap fun a => match g a with
  | some o => He.refsD o
  | none => []
def asV (g : Addr → Option Obj) : Nat → List Addr → List Addr
  | 0, as => as
  | n + 1, as => as ++ asV g n (nextV g as)
def asW (g : Addr → Option Obj) (n : Nat) : List Addr := asV g n [mainGlobals] ++ [PySem.cStatics]
def obsW (n : Nat) (ex : List FrB) (fn : List He5.DefA) (g : Addr → Option Obj) : He.AlD := ((ex.all fun f => f (He.frG g (asW g n))) && fn.all fun d => d.ok (He.frG g (asW g n)), fn.map fun d => He5.fnA (He.frG g (asW g n)) (d.at_ (He.frG g (asW g n))))
def SaysW (ex : List FrB) (fn : List He5.DefA) (K : PySem.W.Frag) : Prop := ((ex.all fun f => f K) && fn.all fun d => d.ok K, fn.map fun d => He5.fnA K (d.at_ K)) = He5.valA fn
def hookW (n : Nat) (ex : List FrB) (fn : List He5.DefA) : PySem.W.Hook where
  α := He.AlD
  obs := fun s => obsW n ex fn s.heap.get?
  val := fun _ => He5.valA fn
  says := fun _ h => ∃ K : PySem.W.Frag, K.In h ∧ SaysW ex fn K
  of := fun _ _ e => ⟨_, He.frG_in, e⟩
  keeps := fun _ _ _ ⟨K, hK, c⟩ k => ⟨K, PySem.W.Frag.In.keeps hK k, c⟩
theorem obsW_eq {n : Nat} {ex : List FrB} {fn : List He5.DefA} {g : Addr → Option Obj} {s : Shared} (h : ∀ a, g a = s.heap.get? a) : obsW n ex fn g = (hookW n ex fn).obs s := by
  have e : g = s.heap.get? := funext h
  rw [e] <;> rfl
section
variable {ex : List FrB} {fn : List He5.DefA} {K : PySem.W.Frag}
theorem SaysW.fact (c : SaysW ex fn K) {f : FrB} (h : f ∈ ex) : f K = true := by
  have c1 := (He.ba (show ((ex.all fun f => f K) && fn.all fun d => d.ok K) = true from congrArg (fun z : He.AlD => z.1) c)).1
  exact List.all_eq_true.mp c1 f h
theorem SaysW.def_ (c : SaysW ex fn K) (i : Nat) {d : He5.DefA} (h : fn[i]? = some d := by rfl) : ∃ fd, L2.FunD K d.name d.qual d.params d.body d.scope (d.dvs K) (d.kws K) (d.at_ K) fd := by
  have c2 := (He.ba (show ((ex.all fun f => f K) && fn.all fun d => d.ok K) = true from congrArg (fun z : He.AlD => z.1) c)).2
  have e : fn.map (fun d => He5.fnA K (d.at_ K)) = fn.map He5.DefA.val := congrArg (fun z : He.AlD => z.2) c
  have e2 : (fn.map fun d => He5.fnA K (d.at_ K))[i]? = (fn.map He5.DefA.val)[i]? := by rw [e]
  rw [List.getElem?_map, List.getElem?_map, h] at e2
  exact He5.DefA.funD (Option.some.inj e2) (List.all_eq_true.mp c2 d (List.mem_of_getElem? h))
end
/-- a def of the text, where it stands -/
def dA (at_ : PySem.W.Frag → Addr) (x q : Str) (st : Stmt) : He5.DefA := ⟨at_, x, q, defArgs st, defBody st, defScope st, [], []⟩
theorem SaysW.fun_ {ex : List FrB} {fn : List He5.DefA} {K : PySem.W.Frag} (c : SaysW ex fn K) (i : Nat) {at_ : PySem.W.Frag → Addr} {x q : Str} {st : Stmt} (h : fn[i]? = some (dA at_ x q st) := by rfl) : ∃ fd, Fun K x q st (at_ K) fd := by
  obtain ⟨fd, F⟩ := c.def_ i h
  exact ⟨fd, He5.fun_of F⟩
/-! facts as Bools -/
def bGlo (x : Str) : FrB := fun K => (He.Fa.glo x).ok K
def bFree (x : Str) : FrB := fun K => (He.Fa.free x).ok K
def bInt (x : Str) (i : Int) : FrB := fun K => (He.Fa.int x i).ok K
def bTup (x : Str) (vs : List He.Dv) : FrB := fun K => He.tupB K x vs
def bOwn (c : Str) : FrB := fun K => (He.Fa.cls c).ok K && (He.eqO (PySem.W.findIn K (.ref (He.ga K c)) "__class__") (some (some (.builtin "object.__class__"))) && (He.eqO (PySem.W.specialIn K (.builtin "object.__class__") "__get__") (some (some (.builtin "getset_descriptor.__get__"))) &&
  (decide (PySem.W.takesIn K (.builtin "object.__class__") = some true) && (decide (PySem.W.mroIn K (He.ga K c) (.type "object") = some true) &&
  (tyNames.all (fun n => decide (PySem.W.kitOne K (.type n) (.ref (He.ga K c)) = some false)) && tyNames.all (fun n => decide (PySem.W.kitOne K (.ref (He.ga K c)) (.type n) = some false)))))))
def bTwo (cs : List Str) : FrB := fun K => cs.all fun c => cs.all fun d => decide (PySem.W.kitOne K (.ref (He.ga K d)) (.ref (He.ga K c)) = some (d == c))
def bNoat (c f : Str) : FrB := fun K => (He.Fa.noat c f).ok K
def bMk (c : Str) : FrB := fun K => (He.Fa.mkr c).ok K
def bMeth (c m : Str) : FrB := fun K => (He.Fa.meth c m).ok K
def bProp (c m : Str) : FrB := fun K => He.eqO (PySem.W.findIn K (.ref (He.ga K c)) m) (some (some (.ref (He.ma K (He.ga K c) m)))) && (He.eqO (PySem.W.specialIn K (.ref (He.ma K (He.ga K c) m)) "__get__") (some (some (.builtin "property.__get__"))) &&
  (decide (PySem.W.takesIn K (.ref (He.ma K (He.ga K c) m)) = some true) && (match PySem.W.recIn K (He.ma K (He.ga K c) m) "property" with
    | some (.ref f :: _) => decide (f = He5.wf K (He.ga K c) "property" m)
    | _ => false)))
def bNf (c : Str) : FrB := fun K => PySem.W.notFirst K (He.ga K c) (.type "tuple")
section
variable {K : PySem.W.Frag} {mg : Str → Option Value} {h : Heap}
theorem bOwn_ok (X : K.In h) (G : h.Ns mainGlobals mg) {c : Str} (g : bGlo c K = true) (e : bOwn c K = true) : OwnC K mg c (He.ga K c) := by
  obtain ⟨e1, e⟩ := He.ba e
  obtain ⟨e2, e⟩ := He.ba e
  obtain ⟨e3, e⟩ := He.ba e
  obtain ⟨e4, e⟩ := He.ba e
  obtain ⟨e5, e⟩ := He.ba e
  obtain ⟨e6, e7⟩ := He.ba e
  exact ⟨He.glo_ok X G g, He.cls_ok e1, He.eqO_ok e2, He.eqO_ok e3, of_decide_eq_true e4, of_decide_eq_true e5,
    fun n hn => of_decide_eq_true (List.all_eq_true.mp e6 n (mem_of_contains hn)), fun n hn => of_decide_eq_true (List.all_eq_true.mp e7 n (mem_of_contains hn))⟩
theorem bTwo_ok (X : K.In h) (G : h.Ns mainGlobals mg) {cs : List Str} (o : ∀ c, cs.contains c = true → OwnC K mg c (He.ga K c)) (e : bTwo cs K = true) : OwnCs K mg cs :=
  ⟨fun c hc => ⟨_, o c hc⟩, fun c d C D hc hd gc gd => by
    have z := List.all_eq_true.mp (List.all_eq_true.mp e c (mem_of_contains hc)) d (mem_of_contains hd)
    have e1 := (o c hc).gC.symm.trans gc
    have e2 := (o d hd).gC.symm.trans gd
    cases e1
    cases e2
    exact of_decide_eq_true z⟩
theorem bProp_ok {c m : Str} (e : bProp c m K = true) : PropOf K (He.ga K c) m (He.ma K (He.ga K c) m) (He5.wf K (He.ga K c) "property" m) := by
  obtain ⟨e1, e⟩ := He.ba e
  obtain ⟨e2, e⟩ := He.ba e
  obtain ⟨e3, e4⟩ := He.ba e
  refine ⟨He.eqO_ok e1, He.eqO_ok e2, of_decide_eq_true e3, ?_⟩
  split at e4
  · rename_i f r hr
    have : f = He5.wf K (He.ga K c) "property" m := of_decide_eq_true e4
    rw [← this]
    exact ⟨r, hr⟩
  · cases e4
theorem bTup_ok {x : Str} {vs : List He.Dv} (e : bTup x vs K = true) (H : Hp) : SqT K H (He.ga K x) (vs.map (He.Dv.v K)) := He.tupB_ok e H
end
/-- the law's promise from the functional code -/
theorem law_sp {K : PySem.W.Frag} {mg : Str → Option Value} {F : List PV → IH → Res PV} (hF : ∀ ns : List Int, ns.length ≤ 63 → ∃ h, F [.fls (ns.map .int)] [] = .ok (.bl true) h) (H : Hp) (a : Addr) (ns : List Int) (hl : ns.length ≤ 63) (hO : Only H) (hS : SqL K H a (ns.map V.int)) :
    SpF K mg 1 F [.ref a] H (fun v _ => v = .bl true) fun _ _ _ => False := by
  have hf : SqF K H a (ns.map V.int) := by
    rcases hS with (hS | ⟨o, hS⟩) | hS
    · rcases hO a with z | ⟨o, xs, z⟩
      · rw [z] at hS; cases hS
      · rw [z] at hS; cases hS
    · exact .inl ⟨o, hS⟩
    · exact .inr hS
  have rs : ∀ l : List Int, RPs K mg H [] (l.map PV.int) (l.map V.int) := fun l => by
    induction l with
    | nil => exact .nil
    | cons x r ih => exact .cons (.int x) ih
  obtain ⟨h, e⟩ := hF ns hl
  refine ⟨[], [.fls (ns.map .int)], [], rfl, .one (.fls hf (rs ns)), ⟨rfl, List.nodup_nil, fun n o z => by cases z⟩, ?_⟩
  rw [e]
  intro V H' as' _ _ r
  cases r
  rfl
theorem fun_bA {K : PySem.W.Frag} {x qual : Str} {st : Stmt} {f : Addr} {fd : FuncData} {ps : List Str} (F : Fun K x qual st f fd)
    (h : ∀ (kV doc pm : Value) (an : Option Addr) (cdv ct : Value) (us : List Value), us.length = ps.length → bindArgs (PySem.W.fnOf x qual (defArgs st) (defBody st) (defScope st) .none kV doc pm an cdv ct) ⟨us, []⟩ = pure (ps.zip us)) (s : Shared) (us : List Value) (hl : us.length = ps.length) : BindsTo s fd ⟨us, []⟩ (ps.zip us) := by
  obtain ⟨oc, od, kV, doc, pm, an, cdv, ct, osl, e, _⟩ := F.ex
  rw [e]
  exact BindsTo.of_eq (h kV doc pm an cdv ct us hl)
theorem cx_none {P : Program} {w : World} {H : Hp} {s : Shared} {e : Value} {s' : Shared} (z : L2N.CX P w [] H s (fun _ _ _ => False) e s') : False := by
  obtain ⟨_, _, _, _, _, _, _, _, _, _, _, _, q⟩ := z
  exact q
/-- a law from its functional code -/
theorem walk_W {l : PySem.W.OpenLaw} {k : Nat} {q : Program} {loose : List Str} {XP : (Str → Option Value) → Heap → Prop} {YP : World → Heap → Prop} {d : DefRec} {x : Str} {F : List PV → IH → Res PV}
    (hn : l.most = some 63) (hdf : d.params.defaults = []) (hr : Room k callerA)
    (hF : ∀ (w : World) (mg : Str → Option Value) (fa : Addr) (h : Heap), YP w h → h.Ns mainGlobals mg → mg d.name = some (.ref fa) →
      ∃ (K : PySem.W.Frag) (fd : FuncData), K.In h ∧ (∀ (s : Shared) (u : Value), BindsTo s fd ⟨[u], []⟩ [(x, u)]) ∧ ∀ base : Heap, K.In base → base.Ns mainGlobals mg → FnOk l.prog w K mg base (L2N.CX l.prog w) k fa fd [x] (SpF K mg 1 F))
    (hl : ∀ ns : List Int, ns.length ≤ 63 → ∃ h, F [.fls (ns.map .int)] [] = .ok (.bl true) h) : PySem.W.WalkO q loose XP YP l.row.toRowW d [] (fun f vs => PySem.call f vs) := by
  refine Att.attach_call hn hdf fun w s0 s1 mg mb fa o pm cd doc a vs ns G Y ho hd hcd hmg hobj hints hlen hg => ?_
  obtain ⟨K, fd, KX, hb, hk⟩ := hF w mg fa _ Y G.T.g hmg
  exact law_call KX G.T.g G.T.b G.T.builtins G.T.nolimit hg hobj hints (by rw [sizeLine_eq]; omega) hr hk hb (fun H hO hS => law_sp hl H a ns hlen hO hS) fun H e s' z => cx_none z
end WR

/-! comprehensions -/
namespace WR
open PySem PySem.Spec PyProof.Rows L2
@[simp] def wipeF (r : Fm) : List Nat → Fm
  | [] => r
  | v :: vs => (wipeF r vs).set v none
def lcL (it : ItF) (g : TgF) (c : TX) (A : EX) (r0 : Fm) (D : Nat) : Nat → Nat → IH → Res Unit
  | 0, _, _ => .bad
  | n + 1, i, h => match it i h with
    | none => .bad
    | some none => .ok () h
    | some (some v) => (match g v r0 with
      | none => .bad
      | some r1 => (match c r1 h with
        | .ok b h2 => if b then (match A r1 h2 with
          | .ok y h3 => (match h3[D]? with
            | some (.lst acc) => if acc.length < 16777216 then lcL it g c A r0 D n (i + 1) (h3.set D (.lst (acc ++ [y]))) else .bad
            | _ => .bad)
          | _ => .bad) else lcL it g c A r0 D n (i + 1) h2
        | _ => .bad))
/-- [elt for tg in iter if c] -/
def eLc (I : Fm → IH → Res ItF) (g : TgF) (c : TX) (A : EX) (vs : List Nat) : EX := fun r h => (I r h).bind fun it h1 => (lcL it g c A (wipeF r vs) h1.length LIM 0 (h1 ++ [.lst []])).bind fun _ h2 => .ok (.obj h1.length) h2
@[simp] def tYesX : TX := fun _ h => .ok true h
section
variable {K : PySem.W.Frag} {mg : Str → Option Value} {as : List Addr} {H : Hp} {r : Fm} {s : L2.St}
theorem RF.unset {i : Nat} (f : RF K mg H as r s) : RF K mg H as (r.set i none) (s.set i none) := by
  refine ⟨by simp [f.len], fun j q e => ?_⟩
  by_cases hj : j = i
  · subst hj
    by_cases hl : j < r.length
    · rw [List.getElem?_set_self hl] at e; cases e
    · rw [List.getElem?_eq_none (by simpa using hl)] at e; cases e
  · rw [List.getElem?_set_ne (Ne.symm hj)] at e ⊢
    exact f.at_ j q e
theorem RF.wipe (f : RF K mg H as r s) : ∀ vs, RF K mg H as (wipeF r vs) (L2.wipe s vs)
  | [] => f
  | v :: vs => (RF.wipe f vs).unset
end
theorem wipe_get (s : L2.St) (j : Nat) : ∀ vs : List Nat, (L2.wipe s vs)[j]? = if j ∈ vs then s[j]?.map (fun _ => none) else s[j]?
  | [] => by simp [L2.wipe]
  | v :: vs => by
    have ih := wipe_get s j vs
    have hl := L2.wipe_length s vs
    unfold L2.wipe
    by_cases e : v = j
    · subst e
      rw [if_pos (by simp)]
      by_cases l : v < s.length
      · rw [List.getElem?_set_self (by rw [hl]; exact l), List.getElem?_eq_getElem l]; rfl
      · rw [List.getElem?_eq_none (by simp [hl]; omega), List.getElem?_eq_none (by omega)]; rfl
    · rw [List.getElem?_set_ne e, ih]
      by_cases m : j ∈ vs
      · rw [if_pos m, if_pos (by simp [m])]
      · rw [if_neg m, if_neg (by simp [m]; exact fun z => e z.symm)]
theorem wipe_set {s : L2.St} {i : Nat} {x : Option V} {vs : List Nat} (h : i ∈ vs) : L2.wipe (s.set i x) vs = L2.wipe s vs := by
  apply List.ext_getElem?
  intro j
  rw [wipe_get, wipe_get]
  by_cases m : j ∈ vs
  · rw [if_pos m, if_pos m]
    by_cases e : i = j
    · subst e
      by_cases l : i < s.length
      · rw [List.getElem?_set_self l, List.getElem?_eq_getElem l]; rfl
      · rw [List.getElem?_eq_none (by simp; omega), List.getElem?_eq_none (by omega)]
    · rw [List.getElem?_set_ne e]
  · rw [if_neg m, if_neg m, List.getElem?_set_ne (fun e : i = j => m (by rw [← e]; exact h))]
theorem wipe_wipe (s : L2.St) (vs : List Nat) : L2.wipe (L2.wipe s vs) vs = L2.wipe s vs := by
  apply List.ext_getElem?
  intro j
  rw [wipe_get, wipe_get]
  by_cases m : j ∈ vs
  · rw [if_pos m, if_pos m]; cases s[j]? <;> rfl
  · rw [if_neg m, if_neg m]
/-- a target within a block -/
def GW (K : PySem.W.Frag) (mg : Str → Option Value) (vs : List Nat) (g : TgF) : TG := fun v s H Q => ∃ as r p r1 h, RF K mg H as r s ∧ RH K mg H as h ∧ RP K mg H as p v ∧ g p r = some r1 ∧ ∀ s1, RF K mg H as r1 s1 → L2.wipe s1 vs = L2.wipe s vs → Q s1 H
def GWs (K : PySem.W.Frag) (mg : Str → Option Value) (vs is : List Nat) : TGs := fun us s H Q => ∃ as r ps r1, RF K mg H as r s ∧ RPs K mg H as ps us ∧ setAll is ps r = some r1 ∧ ∀ s1, RF K mg H as r1 s1 → L2.wipe s1 vs = L2.wipe s vs → Q s1 H
def W0 : WX := fun _ _ _ _ => False
section
variable {X : Cx} {W : WX} {k : Nat} {e : Expr} {es : List Expr} {pos : Pos}
theorem gw_name (i : Nat) {vs : List Nat} {x : Str} (hN : X.N.Nodup) (hi : X.N[i]? = some x := by rfl) (hx : Loc X.env.scope x := by first | exact Or.inl rfl | exact Or.inr rfl) (hf : X.fn x = true ∨ X.env.scope.names.lookup x = some .local := by first | exact .inl rfl | exact .inr rfl | assumption) (hv : i ∈ vs := by decide) :
    PG X (.Name x pos) (GW X.K X.mg vs (gVar i)) := by
  refine pgImp (pg_name hN hi hx hf) fun v s H Q ⟨as, r, p, r1, h, f, x, rp, e, q⟩ => ?_
  cases e
  exact q _ (f.set rp) (wipe_set hv)
theorem gws_nil {vs : List Nat} : PGs X [] (GWs X.K X.mg vs []) := by
  refine ⟨fun pins s σ H us ws Q I r q => pgs_nil.run pins s σ H us ws Q I r ?_⟩
  obtain ⟨as, r, ps, r1, f, rp, e, q⟩ := q
  cases ps with
  | nil => cases rp; cases e; exact ⟨rfl, q _ f rfl⟩
  | cons p ps => cases e
theorem gws_cons (i : Nat) {vs is : List Nat} {x : Str} (hN : X.N.Nodup) (h2 : PGs X es (GWs X.K X.mg vs is)) (hi : X.N[i]? = some x := by rfl) (hx : Loc X.env.scope x := by first | exact Or.inl rfl | exact Or.inr rfl) (hf : X.fn x = true ∨ X.env.scope.names.lookup x = some .local := by first | exact .inl rfl | exact .inr rfl | assumption) (hv : i ∈ vs := by decide)
    (hs : (assignEach (.Name x pos :: es) X.env).map (·.2) = assign (.Name x pos) X.env :: (assignEach es X.env).map (·.2) := by rfl) : PGs X (.Name x pos :: es) (GWs X.K X.mg vs (i :: is)) := by
  refine ⟨fun pins s σ H us ws Q I r q => (pgs_cons (pg_name (pos := pos) hN hi hx hf) h2 hs).run pins s σ H us ws Q I r ?_⟩
  obtain ⟨as, r, ps, r1, f, rp, e, q⟩ := q
  cases rp with
  | nil => cases e
  | cons a b => exact ⟨_, _, rfl, as, _, _, r1, f.set a, b, e, fun s1 f1 w1 => q s1 f1 (w1.trans (wipe_set hv))⟩
theorem gw_tup {vs is : List Nat} {kk : Nat} (cx : Ctx X W k) (h : PGs X es (GWs X.K X.mg vs is)) (hl : is.length = es.length := by rfl) (hn : (assignEach es X.env).length = es.length := by rfl) (hst : (assignEach es X.env).findIdx? (·.1) = none := by rfl) :
    PG X (.Tuple es kk pos) (GW X.K X.mg vs (gTupF is)) := by
  refine pgImp (pg_tup cx.calm h hn hst) fun v s H Q ⟨as, r, p, r1, h, f, x, rp, e, q⟩ => ?_
  cases rp with
  | tup hs rs =>
    refine ⟨_, _, rfl, hs, ?_, as, r, _, r1, f, rs, e, q⟩
    rw [← rs.length, ← hl]
    have key : ∀ (is : List Nat) (ps : List PV) (r : Fm) (r1 : Fm), setAll is ps r = some r1 → ps.length = is.length := by
      intro is
      induction is with
      | nil => intro ps r r1 e; cases ps with
        | nil => rfl
        | cons _ _ => cases e
      | cons i is ih => intro ps r r1 e; cases ps with
        | nil => cases e
        | cons p ps => rw [List.length_cons, List.length_cons, ih ps _ _ e]
    exact key _ _ _ _ e
  | non => cases e
  | bl => cases e
  | int => cases e
  | str => cases e
  | fls => cases e
  | obj => cases e
  | glo => cases e
  | ty => cases e
  | key => cases e
theorem Ctx.blk (cx : Ctx X W k) (s : Shared) (H : Hp) (scope : Scope) (cenv : Env) (fp : List Addr) : Ctx (X.blk s H scope cenv fp) W0 k :=
  ⟨fun u s' ⟨a, B, sI, pins, σ, H, cls, d, e, I, nb, up, sky, na, os, ag, w⟩ => w.elim, PassesOwn.never, cx.calm, cx.nd, cx.room⟩
theorem lc_sound {I : Fm → IH → Res ItF} {g : TgF} {c : TX} {A : EX} {vs : List Nat} {K : PySem.W.Frag} {mg : Str → Option Value} {s : L2.St} {H : Hp} {Q : VK} {as : List Addr} {r : Fm} {h : IH} (f : RF K mg H as r s) (x : RH K mg H as h)
    (o : Out K mg (fun H as p v => RP K mg H as p v) W s as H Q (eLc I g c A vs r h)) : tLc (II K mg W I) (GW K mg vs g) (IT K mg W0 c) (IE K mg W0 A) vs s H Q := by
  refine ⟨as, r, h, f, x, (Out.bind o).imp fun J H1 ⟨as1, h1, itf, S1, x1, ri, o1⟩ => ?_⟩
  intro D nD
  have SD := Stp.new (o := .lst []) x1 nD
  refine ⟨fun i m H2 => ∃ as2 h2, Stp as H as2 H2 ∧ RH K mg H2 as2 h2 ∧ RI K mg H2 as2 itf J ∧ as2[h1.length]? = some D ∧
    Out K mg (fun H as p v => RP K mg H as p v) W s as2 H2 Q ((lcL itf g c A (wipeF r vs) h1.length m i h2).bind fun _ h2 => .ok (.obj h1.length) h2),
    ⟨LIM, as1 ++ [D], h1 ++ [.lst []], S1.trans SD, x1.new (m := .lst []) nD ⟨_, upd_same, .nil⟩, ri.mono SD, ?_, o1.shift SD⟩, ?_⟩
  · rw [List.getElem?_append_right (by rw [x1.len]; exact Nat.le_refl _), x1.len, Nat.sub_self]; rfl
  rintro i m H2 ⟨as2, h2, S2, x2, ri2, d2, o2⟩
  cases m with
  | zero => exact o2.elim
  | succ m =>
    have z := ri2 i as2 H2 h2 (Stp.refl _ _) x2
    unfold lcL at o2
    cases q : itf i h2 with
    | none => rw [q] at o2; exact o2.elim
    | some w =>
      rw [q] at z o2
      cases w with
      | none => exact .inl ⟨z, o2.here x2 (.obj d2)⟩
      | some v =>
        refine .inr ⟨z.1, fun H3 => ∃ as3 h3, Stp as H as3 H3 ∧ RH K mg H3 as3 h3 ∧ RI K mg H3 as3 itf J ∧ as3[h1.length]? = some D ∧
          Out K mg (fun H as p v => RP K mg H as p v) W s as3 H3 Q ((lcL itf g c A (wipeF r vs) h1.length m (i + 1) h3).bind fun _ h2 => .ok (.obj h1.length) h2), fun H3 t => ⟨m, Nat.lt_succ_self m, t⟩, fun y H3 hy => ?_⟩
        obtain ⟨S3, x3, rv⟩ := z.2 y H3 hy
        cases qg : g v (wipeF r vs) with
        | none => simp only [qg] at o2; exact o2.elim
        | some r3 =>
          simp only [qg] at o2
          have S23 := S2.trans S3
          refine ⟨as2, wipeF r vs, v, r3, h2, (f.mono S23).wipe vs, x3, rv, qg, fun s4 f4 w4 => ⟨w4.trans (wipe_wipe _ _), as2, r3, h2, f4, x3, ?_⟩⟩
          have o3 := Out.shift S3 o2
          cases qc : c r3 h2 with
          | ex z r5 => simp only [qc] at o3; exact o3.elim
          | bad => simp only [qc] at o3; exact o3.elim
          | ok b h4 =>
            simp only [qc] at o3
            intro b' H4 as4 S4 x4 eb
            subst eb
            have o4 := Out.shift S4 o3
            cases b with
            | false =>
              simp only [Bool.false_eq_true, if_false] at o4 ⊢
              exact ⟨as4, h4, S23.trans S4, x4, (ri2.mono S3).mono S4, S4.get d2, o4⟩
            | true =>
              simp only [if_true] at o4 ⊢
              refine ⟨as4, r3, h4, f4.mono S4, x4, ?_⟩
              cases qa : A r3 h4 with
              | ex z r5 => simp only [qa] at o4; exact o4.elim
              | bad => simp only [qa] at o4; exact o4.elim
              | ok u h5 =>
                simp only [qa] at o4
                intro U H5 as5 S5 x5 ru
                have o5 := Out.shift S5 o4
                have d5 := S5.get (S4.get d2)
                split at o5
                · rename_i acc ha
                  split at o5
                  · rename_i hl
                    obtain ⟨b', e3, ws, e4, rs'⟩ := x5.at_ _ _ ha
                    rw [d5] at e3; cases e3
                    refine ⟨ws, e4, by rw [sizeLine_eq, ← rs'.length]; exact hl, ?_⟩
                    have S6 := Stp.put (o := .lst (ws ++ [U])) x5 d5 ha
                    exact ⟨as5, _, ((S23.trans S4).trans S5).trans S6, x5.put (m := .lst (acc ++ [u])) d5 ha ⟨_, upd_same, (rs'.append (.one ru)).mono S6⟩, (((ri2.mono S3).mono S4).mono S5).mono S6, S6.get d5, o5.shift S6⟩
                  · exact o5.elim
                · exact o5.elim
/-- as a value -/
theorem ie_lc {elt tg iter : Expr} {ifs : List Expr} {scope : Scope} {I : Fm → IH → Res ItF} {g : TgF} {c : TX} {A : EX} {vs : List Nat} (own : List (Str × Nat)) (cx : Ctx X W k) (hi : PI X tg iter (II X.K X.mg W I)) (ok : BlkOk X.N X.env.scope scope own)
    (hg : ∀ (s : Shared) (H : Hp) (C : Addr) (cl : List (Str × Addr)) (fp : List Addr), Ctx (X.blk s H scope (compEnvC scope cl C X.env) fp) W0 k → PG (X.blk s H scope (compEnvC scope cl C X.env) fp) tg (GW X.K X.mg vs g))
    (ht : ∀ (s : Shared) (H : Hp) (C : Addr) (cl : List (Str × Addr)) (fp : List Addr), Ctx (X.blk s H scope (compEnvC scope cl C X.env) fp) W0 k → PTs (X.blk s H scope (compEnvC scope cl C X.env) fp) ifs (IT X.K X.mg W0 c))
    (he : ∀ (s : Shared) (H : Hp) (C : Addr) (cl : List (Str × Addr)) (fp : List Addr), Ctx (X.blk s H scope (compEnvC scope cl C X.env) fp) W0 k → PE (X.blk s H scope (compEnvC scope cl C X.env) fp) elt (IE X.K X.mg W0 A))
    (hv : own.map (·.2) = vs := by rfl) (hs : ∀ x, foldedSetIterable iter X.env x = pure x := by intro _; rfl) : PE X (.ListComp elt [⟨tg, iter, ifs, 0⟩] scope pos) (IE X.K X.mg W (eLc I g c A vs)) := by
  subst hv
  exact peImp (pe_lc cx.calm cx.nd hi ok (fun s H C cl fp => hg s H C cl fp (cx.blk ..)) (fun s H C cl fp => ht s H C cl fp (cx.blk ..)) (fun s H C cl fp => he s H C cl fp (cx.blk ..)) hs) fun s H Q ⟨as, r, h, f, x, o⟩ => lc_sound f x o
theorem it_none : PTs X [] (IT X.K X.mg W tYesX) := ⟨fun pins s σ H Q I h => pts_nil.run pins s σ H Q I (by obtain ⟨as, r, h, f, x, o⟩ := h; exact o.here x rfl)⟩
/-- name = [..] on one line, the name a local -/
theorem is_setLc (i : Nat) {y : Str} {py spos : Pos} {elt tg iter : Expr} {ifs : List Expr} {scope : Scope} {I : Fm → IH → Res ItF} {g : TgF} {c : TX} {A : EX} {vs : List Nat} (own : List (Str × Nat)) (cx : Ctx X W k)
    (hsw : swapsWith (.ListComp elt [⟨tg, iter, ifs, 0⟩] scope pos) (some (.Name y py)) spos.line X.env = pure true) (hi : PI X tg iter (II X.K X.mg W I)) (ok : BlkOk X.N X.env.scope scope own)
    (hg : ∀ (s : Shared) (H : Hp) (C : Addr) (cl : List (Str × Addr)) (fp : List Addr), Ctx (X.blk s H scope (compEnvC scope cl C X.env) fp) W0 k → PG (X.blk s H scope (compEnvC scope cl C X.env) fp) tg (GW X.K X.mg vs g))
    (ht : ∀ (s : Shared) (H : Hp) (C : Addr) (cl : List (Str × Addr)) (fp : List Addr), Ctx (X.blk s H scope (compEnvC scope cl C X.env) fp) W0 k → PTs (X.blk s H scope (compEnvC scope cl C X.env) fp) ifs (IT X.K X.mg W0 c))
    (he : ∀ (s : Shared) (H : Hp) (C : Addr) (cl : List (Str × Addr)) (fp : List Addr), Ctx (X.blk s H scope (compEnvC scope cl C X.env) fp) W0 k → PE (X.blk s H scope (compEnvC scope cl C X.env) fp) elt (IE X.K X.mg W0 A))
    (hy : X.N[i]? = some y := by rfl) (hyl : X.env.scope.names.lookup y = some .local := by rfl)
    (hv : own.map (·.2) = vs := by rfl) (hs : ∀ x, foldedSetIterable iter X.env x = pure x := by intro _; rfl) : PS X (.Assign [.Name y py] (.ListComp elt [⟨tg, iter, ifs, 0⟩] scope pos) spos) (IS X.K X.mg W (sSet i (eLc I g c A vs))) := by
  subst hv
  refine psImp (ps_setLc cx.calm cx.nd hy hyl hsw hi ok (fun s H C cl fp => hg s H C cl fp (cx.blk ..)) (fun s H C cl fp => ht s H C cl fp (cx.blk ..)) (fun s H C cl fp => he s H C cl fp (cx.blk ..)) hs) fun D s H ⟨as, r, h, f, x, o⟩ => ?_
  refine lc_sound f x ((outS_of f o).imp fun V H1 ⟨as1, h1, p, S1, x1, r1, o1⟩ => ?_)
  exact o1 _ H1 as1 (Stp.refl _ _) x1 ((f.mono S1).set r1)
end
end WR

/-! more statements; in -/
namespace WR
open PySem PySem.Spec PyProof.Rows L2
@[simp] def sPar3 (i j l : Nat) (A : AX) : SX := fun r h => toS (A r h) r fun vs h1 => match vs with
  | [v, w, u] => .nx (((r.set i (some v)).set j (some w)).set l (some u)) h1
  | _ => .bad
@[simp] def sCont : SX := fun r h => .ct r h
@[simp] def sAugAdd (i : Nat) (A : EX) : SX := fun r h => match r[i]? with
  | some (some (.int x)) => toS (A r h) r fun v h1 => (match v with
    | .int y => .nx (r.set i (some (.int (x + y)))) h1
    | _ => .bad)
  | _ => .bad
def pInB (x y : PV) (h : IH) : Option Bool := match y with
  | .tup ys => (match x with
    | .int i => if ys.all (fun y => match y with | .int _ => true | _ => false) then some (ys.any fun y => match y with | .int j => j == i | _ => false) else none
    | _ => none)
  | _ => (match dataOf DEP h x, dataOf DEP h y with
    | some d, some (.list ds) => if SeqAt.shaped d && SeqAt.shaped (.list ds) then some (ds.any fun z => PyData.eqv z d) else none
    | _, _ => none)
@[simp] def pIn (x y : PV) (h : IH) : Res PV := opt ((pInB x y h).map .bl) h
@[simp] def pNotIn (x y : PV) (h : IH) : Res PV := opt ((pInB x y h).map fun b => .bl (!b)) h
section
variable {K : PySem.W.Frag} {mg : Str → Option Value}
theorem ints_flat {as : List Addr} {H : Hp} : ∀ {ys : List PV} {us : List V}, RPs K mg H as ys us → ys.all (fun y => match y with | .int _ => true | _ => false) = true → ∀ i : Int, us.all flatV = true ∧ inV (.int i) us = ys.any fun y => match y with | .int j => j == i | _ => false
  | [], _, .nil, _, i => ⟨rfl, rfl⟩
  | p :: ps, _, .cons r t, e, i => by
    rw [List.all_cons, Bool.and_eq_true] at e
    obtain ⟨e1, e2⟩ := e
    obtain ⟨h1, h2⟩ := ints_flat t e2 i
    cases r with
    | int j => exact ⟨by simp [flatV, h1], by unfold inV at *; rw [List.any_cons, List.any_cons, h2]; rfl⟩
    | _ => cases e1
theorem inB_of {as : List Addr} {H : Hp} {h : IH} {x y : PV} {U V : V} {q : Bool} (rh : RH K mg H as h) (rx : RP K mg H as x U) (ry : RP K mg H as y V) (e : pInB x y h = some q) :
    (∃ d ds, Dp K H U d ∧ Dp K H V (.list ds) ∧ SeqAt.shaped d = true ∧ SeqAt.shaped (.list ds) = true ∧ (ds.any fun z => PyData.eqv z d) = q) ∨
    ∃ p xs, V = .ref p ∧ (SqL K H p xs ∨ SqT K H p xs) ∧ flatV U = true ∧ xs.all flatV = true ∧ inV U xs = q := by
  unfold pInB at e
  split at e
  · split at e
    · split at e
      · rename_i hf
        cases ry with
        | tup hs rs =>
          cases rx
          cases e
          obtain ⟨h1, h2⟩ := ints_flat rs hf _
          exact .inr ⟨_, _, rfl, .inr hs, rfl, h1, h2⟩
      · cases e
    · cases e
  · split at e
    · rename_i d1 ds e1 e2
      split at e
      · rename_i hs
        obtain ⟨s1, s2⟩ := Bool.and_eq_true_iff.mp hs
        cases e
        exact .inl ⟨d1, ds, dp_of rh _ _ _ _ rx e1, dp_of rh _ _ _ _ ry e2, s1, s2, rfl⟩
      · cases e
    · cases e
theorem snd_in : Snd K mg pIn (fun x y H Q => rInD K x y H Q ∨ rIn K false x y H Q) := by
  intro W s as H h x y U V Q rh rx ry o
  unfold pIn at o
  cases q : pInB x y h with
  | none => rw [q] at o; exact o.elim
  | some z =>
    rw [q] at o
    rcases inB_of rh rx ry q with ⟨d, ds, h1, h2, h3, h4, rfl⟩ | ⟨p, xs, h1, h2, h3, h4, rfl⟩
    · exact .inl ⟨d, ds, h1, h2, h3, h4, o.here rh (.bl _)⟩
    · exact .inr ⟨p, xs, h1, h2, h3, h4, o.here rh (.bl _)⟩
theorem snd_notin : Snd K mg pNotIn (fun x y H Q => rNotInD K x y H Q ∨ rIn K true x y H Q) := by
  intro W s as H h x y U V Q rh rx ry o
  unfold pNotIn at o
  cases q : pInB x y h with
  | none => rw [q] at o; exact o.elim
  | some z =>
    rw [q] at o
    rcases inB_of rh rx ry q with ⟨d, ds, h1, h2, h3, h4, rfl⟩ | ⟨p, xs, h1, h2, h3, h4, rfl⟩
    · exact .inl ⟨d, ds, h1, h2, h3, h4, o.here rh (.bl _)⟩
    · exact .inr ⟨p, xs, h1, h2, h3, h4, o.here rh (.bl _)⟩
end
section
variable {X : Cx} {W : WX} {k : Nat} {a b e : Expr} {es : List Expr} {pos : Pos} {A B : EX} {L : AX}
theorem units65 {A : Around} (h : Room k A) : A.units + 65 < cLine := by
  have := h.un
  omega
theorem ie_in (cx : Ctx X W k) (ha : PE X a (IE X.K X.mg W A)) (hb : PE X b (IE X.K X.mg W B)) (hm : behindInMarks .In b = false := by rfl) : PE X (.Compare a [.In] [b] pos) (IE X.K X.mg W (eOp pIn A B)) := ie_cmp ((op_inD (units65 cx.room)).or op_in_seq) snd_in ha hb hm
theorem ie_notin (cx : Ctx X W k) (ha : PE X a (IE X.K X.mg W A)) (hb : PE X b (IE X.K X.mg W B)) (hm : behindInMarks .NotIn b = false := by rfl) : PE X (.Compare a [.NotIn] [b] pos) (IE X.K X.mg W (eOp pNotIn A B)) := ie_cmp ((op_notInD (units65 cx.room)).or op_notIn_seq) snd_notin ha hb hm
theorem it_in (cx : Ctx X W k) (ha : PE X a (IE X.K X.mg W A)) (hb : PE X b (IE X.K X.mg W B)) (hm : behindInMarks .In b = false := by rfl) : PT X (.Compare a [.In] [b] pos) (IT X.K X.mg W (tBl (eOp pIn A B))) := it_cmp ((op_inD (units65 cx.room)).or op_in_seq) snd_in ha hb hm
theorem it_notin (cx : Ctx X W k) (ha : PE X a (IE X.K X.mg W A)) (hb : PE X b (IE X.K X.mg W B)) (hm : behindInMarks .NotIn b = false := by rfl) : PT X (.Compare a [.NotIn] [b] pos) (IT X.K X.mg W (tBl (eOp pNotIn A B))) := it_cmp ((op_notInD (units65 cx.room)).or op_notIn_seq) snd_notin ha hb hm
theorem is_pass : PS X (.Pass pos) (IS X.K X.mg W sNil) := psImp ps_pass fun D s H ⟨as, r, h, f, x, o⟩ => o _ _ _ (Stp.refl _ _) x f
theorem is_cont : PS X (.Continue pos) (IS X.K X.mg W sCont) := psImp ps_continue fun D s H ⟨as, r, h, f, x, o⟩ => o _ _ _ (Stp.refl _ _) x f
theorem is_par3 {i j l : Nat} {x y z : Str} {a b c : Expr} {px py pz pt : Pos} {kt k2 pt2} (cx : Ctx X W k) (ha : PA X [a, b, c] (IA X.K X.mg W L)) (hi : X.N[i]? = some x := by rfl) (hj : X.N[j]? = some y := by rfl) (hl : X.N[l]? = some z := by rfl) (hij : i ≠ j := by decide) (hil : i ≠ l := by decide) (hjl : j ≠ l := by decide)
    (hx : X.env.scope.names.lookup x = some .local := by rfl) (hy : X.env.scope.names.lookup y = some .local := by rfl) (hz : X.env.scope.names.lookup z = some .local := by rfl)
    (hw : swappedStores [.Tuple [.Name x px, .Name y py, .Name z pz] kt pt] (.Tuple [a, b, c] k2 pt2) X.env = pure (some [x, y, z]) := by rfl)
    (hs : swapsWithSole [.Tuple [.Name x px, .Name y py, .Name z pz] kt pt] (.Tuple [a, b, c] k2 pt2) pos.line X.env = pure false := by rfl) :
    PS X (.Assign [.Tuple [.Name x px, .Name y py, .Name z pz] kt pt] (.Tuple [a, b, c] k2 pt2) pos) (IS X.K X.mg W (sPar3 i j l L)) := by
  refine psImp (ps_par3 cx.calm cx.nd hi hj hl hij hil hjl hx hy hz ha hw hs) fun D s H ⟨as, r, h, f, x, o⟩ => ?_
  refine ⟨as, r, h, f, x, (outS_of f o).imp fun Vs H1 ⟨as1, h1, ps, S1, x1, r1, o1⟩ => ?_⟩
  split at o1
  · cases r1 with
    | cons rv r1 => cases r1 with
      | cons rw' r1 => cases r1 with
        | cons ru r1 => cases r1; exact ⟨_, _, _, rfl, o1 _ H1 as1 (Stp.refl _ _) x1 ((((f.mono S1).set rv).set rw').set ru)⟩
  · exact o1.elim
theorem is_augAdd {i : Nat} {x : Str} {pos' : Pos} (cx : Ctx X W k) (he : PE X e (IE X.K X.mg W A)) (hi : X.N[i]? = some x := by rfl) (hx : Loc X.env.scope x := by first | exact Or.inl rfl | exact Or.inr rfl) (hf : X.fn x = true ∨ X.env.scope.names.lookup x = some .local := by first | exact .inl rfl | exact .inr rfl | assumption) :
    PS X (.AugAssign (.Name x pos') .Add e pos) (IS X.K X.mg W (sAugAdd i A)) := by
  refine psImp (ps_aug cx.nd hi hx he ip_add hf) fun D s H ⟨as, r, h, f, x, o⟩ => ?_
  unfold sAugAdd at o
  split at o
  · rename_i n e1
    obtain ⟨V, e2, rv⟩ := f.at_ i _ e1
    cases rv
    refine ⟨_, e2, as, r, h, f, x, (outS_of f o).imp fun V H1 ⟨as1, h1, p, S1, x1, r1, o1⟩ => ?_⟩
    split at o1
    · cases r1
      exact ⟨_, _, rfl, rfl, o1 _ H1 as1 (Stp.refl _ _) x1 ((f.mono S1).set (.int _))⟩
    · exact o1.elim
  · exact o.elim
end
end WR

/-! more of lists -/
namespace WR
open PySem PySem.Spec PyProof.Rows L2
@[simp] def eInsert (A : EX) (L : AX) : EX := fun r h => (A r h).bind fun x h1 => match x with
  | .obj n => (match h1[n]? with
    | some (.lst _) => (L r h1).bind fun vs h2 => (match vs, h2[n]? with
      | [.int i, y], some (.lst xs) => if xs.length < 16777216 ∧ 0 ≤ i ∧ i < 1000000000 then .ok .non (h2.set n (.lst (xs.take i.toNat ++ [y] ++ xs.drop i.toNat))) else .bad
      | _, _ => .bad)
    | _ => .bad)
  | _ => .bad
section
variable {X : Cx} {W : WX} {k : Nat} {a b e o : Expr} {es : List Expr} {pos : Pos} {A B C : EX} {L : AX}
theorem ie_insert {apos : Pos} (ho : PE X o (IE X.K X.mg W A)) (ha : PA X (e :: es) (IA X.K X.mg W L)) (hbase : attributeBase o "insert" X.env (eval o X.env) = eval o X.env := by rfl)
    (hfew : ((backTo pos (starEach (e :: es) X.env)).all (fun x => !x.1) && (backToKw pos (keywordEach [] X.env)).all (fun x => x.1.isSome)
      && decide ((e :: es).length + ([] : List Keyword).length + (if ([] : List Keyword).isEmpty then 0 else 1) < 30)) = true := by rfl)
    (hline : (apos.endLine == pos.line) = true := by rfl) (hs : starEach (e :: es) X.env = (false, eval e X.env) :: starEach es X.env := by rfl) (hplain : (backTo pos (starEach es X.env)).any (·.1) = false := by rfl) :
    PE X (.Call (.Attribute o "insert" apos) (e :: es) [] pos) (IE X.K X.mg W (eInsert A L)) := by
  refine peImp (pe_bm PySem.F.plainAttrs_list PySem.F.slot_list_insert PySem.F.type_list_insert mt_insert ho ha hbase hfew hline hs hplain) fun s H Q ⟨as, ρ, hh, f, x, o⟩ => ?_
  refine ⟨as, ρ, hh, f, x, (Out.bind o).imp fun V H1 ⟨as1, h1, p1, S1, x1, r1, o1⟩ => ?_⟩
  split at o1
  · rename_i n
    cases r1 with
    | obj hn =>
      split at o1
      · rename_i ys hy
        obtain ⟨b, e1, us, e2, rs⟩ := x1.at_ _ _ hy
        rw [hn] at e1; cases e1
        refine ⟨.inl ⟨rfl, _, SqL.of e2⟩, as1, ρ, h1, f.mono S1, x1, (Out.bind o1).imp fun Vs H2 ⟨as2, h2, p2, S2, x2, r2, o2⟩ => ?_⟩
        split at o2
        · rename_i i y xs hx
          split at o2
          · rename_i hl
            obtain ⟨v, w, rfl, rv, rw'⟩ := r2.inv2
            cases rv
            obtain ⟨b', e3, ws, e4, rs'⟩ := x2.at_ _ _ hx
            have hn2 := S2.get hn
            rw [hn2] at e3; cases e3
            refine ⟨_, ws, i, w, rfl, rfl, e4, by rw [sizeLine_eq, ← rs'.length]; exact hl.1, hl.2.1, by omega, ?_⟩
            have S3 := Stp.put (o := .lst (ws.take i.toNat ++ [w] ++ ws.drop i.toNat)) x2 hn2 hx
            exact o2 _ _ _ S3 (x2.put (m := .lst (xs.take i.toNat ++ [y] ++ xs.drop i.toNat)) hn2 hx ⟨_, upd_same, (((rs'.take _).append (.one rw')).append (rs'.drop _)).mono S3⟩) .non
          · exact o2.elim
        · exact o2.elim
      · exact o1.elim
  · exact o1.elim
end
end WR

/-! keys (tuples of ints that stand in H), dicts of them, sums, two clauses, calls of items -/
namespace WR
open PySem PySem.Spec PyProof.Rows L2
@[simp] def nrm : PV → PV
  | .key ks => .tup (ks.map .int)
  | v => v
@[simp] def eF (A : EX) : EX := fun r h => (A r h).bind fun v h1 => .ok (nrm v) h1
@[simp] def keyOf : List PV → Option (List Int)
  | [] => some []
  | .int i :: r => (keyOf r).map (i :: ·)
  | _ => none
@[simp] def eKey (L : AX) : EX := fun r h => (L r h).bind fun xs h1 => match keyOf xs with
  | some ks => if ks.length ≤ 16777216 then .ok (.key ks) h1 else .bad
  | none => .bad
@[simp] def pAddK : PV → PV → IH → Res PV
  | .key a, .key b, h => if a.length + b.length ≤ 16777216 then .ok (.key (a ++ b)) h else .bad
  | _, _, _ => .bad
@[simp] def pSlK : PV → Option Int → Option Int → IH → Res PV
  | .key ks, lo, hi, h => .ok (.key (cutA ks lo hi)) h
  | _, _, _, _ => .bad
@[simp] def eSlK (A : EX) (l u : OX) : EX := fun r h => (A r h).bind fun x h1 => (l r h1).bind fun lo h2 => (u r h2).bind fun hi h3 => pSlK x lo hi h3
section
variable {K : PySem.W.Frag} {mg : Str → Option Value} {as : List Addr} {H : Hp}
theorem RPs.ints : ∀ (ks : List Int), RPs K mg H as (ks.map .int) (ks.map V.int)
  | [] => .nil
  | k :: r => .cons (.int k) (RPs.ints r)
theorem RP.nrm {p : PV} {v : V} (r : RP K mg H as p v) : RP K mg H as (nrm p) v := by
  cases r with
  | key h => exact .tup (SqT.of h) (RPs.ints _)
  | non => exact .non
  | bl b => exact .bl b
  | int i => exact .int i
  | str x => exact .str x
  | tup a b => exact .tup a b
  | fls a b => exact .fls a b
  | obj a => exact .obj a
  | glo a b => exact .glo a b
  | ty n => exact .ty n
theorem keyOf_of : ∀ {ps : List PV} {vs : List V} {ks : List Int}, RPs K mg H as ps vs → keyOf ps = some ks → vs = ks.map V.int
  | [], _, _, .nil, e => by cases e; rfl
  | p :: ps, _, ks, .cons r t, e => by
    cases r with
    | int i =>
      simp only [keyOf, Option.map_eq_some_iff] at e
      obtain ⟨ks', e1, rfl⟩ := e
      rw [keyOf_of t e1]; rfl
    | _ => cases e
end
section
variable {X : Cx} {W : WX} {k : Nat} {a b e o : Expr} {es : List Expr} {pos p apos : Pos} {A B C : EX} {L : AX}
theorem ie_f (ha : PE X a (IE X.K X.mg W A)) : PE X a (IE X.K X.mg W (eF A)) := by
  refine peImp ha fun s H Q ⟨as, ρ, hh, f, x, o⟩ => ?_
  refine ⟨as, ρ, hh, f, x, (Out.bind o).imp fun V H1 ⟨as1, h1, p1, S1, x1, r1, o1⟩ => ?_⟩
  exact o1.here x1 r1.nrm
theorem ie_key {x1} (h : PA X es (IA X.K X.mg W L)) : PE X (.Tuple es x1 pos) (IE X.K X.mg W (eKey L)) := by
  refine peImp (pe_tup h) fun s H Q ⟨as, ρ, hh, f, x, o⟩ => ?_
  refine ⟨as, ρ, hh, f, x, (Out.bind o).imp fun Vs H1 ⟨as1, h1, p1, S1, x1, r1, o1⟩ => ?_⟩
  split at o1
  · rename_i ks hk
    have e := keyOf_of r1 hk
    subst e
    split at o1
    · rename_i hl
      refine ⟨by rw [sizeLine_eq, List.length_map]; exact hl, fun p np => ?_⟩
      exact o1 _ _ as1 (Stp.lay x1 np) (x1.lay np) (.key upd_same)
    · exact o1.elim
  · exact o1.elim
theorem snd_addK {K : PySem.W.Frag} {mg : Str → Option Value} : Snd K mg pAddK (rCatA K) := by
  intro W s as H h x y U V Q rh rx ry o
  unfold pAddK at o
  split at o
  · rename_i ks ls
    cases rx with
    | key ha => cases ry with
      | key hb =>
        split at o
        · rename_i hl
          refine ⟨_, _, _, _, rfl, rfl, SqT.of ha, SqT.of hb, by rw [sizeLine_eq, List.length_map, List.length_map]; exact hl, fun e => ?_, fun _ e => ?_, fun _ _ p np => ?_⟩
          · have e' : ks = [] := List.map_eq_nil_iff.mp e
            subst e'
            exact o.here rh (.key hb)
          · have e' : ls = [] := List.map_eq_nil_iff.mp e
            subst e'
            rw [List.append_nil] at o
            exact o.here rh (.key ha)
          · exact o _ _ as (Stp.lay rh np) (rh.lay np) (.key (by rw [upd_same, List.map_append]))
        · exact o.elim
  · exact o.elim
theorem ie_addK (ha : PE X a (IE X.K X.mg W A)) (hb : PE X b (IE X.K X.mg W B)) : PE X (.BinOp a .Add b pos) (IE X.K X.mg W (eOp pAddK A B)) := ie_op op_catA snd_addK ha hb
theorem cut_map {α β : Type} (g : α → β) (l : List α) (lo hi : Option Int) : (cutA l lo hi).map g = cutA (l.map g) lo hi := by
  unfold cutA
  rw [List.map_take, List.map_drop, List.length_map]
theorem ie_slK {lo hi : Option Expr} {p2 : Pos} {l u : OX} (he : PE X e (IE X.K X.mg W A)) (hl : PO X lo (IO X.K X.mg W l)) (hu : PO X hi (IO X.K X.mg W u)) : PE X (.Subscript e (.Slice lo hi none p2) pos) (IE X.K X.mg W (eSlK A l u)) := by
  refine peImp (pe_slice (sl_tupA.or sl_list) he hl hu) fun s H Q ⟨as, ρ, hh, f, x, o⟩ => ?_
  refine ⟨as, ρ, hh, f, x, (Out.bind o).imp fun V H1 ⟨as1, h1, p1, S1, x1, r1, o1⟩ => ?_⟩
  refine ⟨as1, ρ, h1, f.mono S1, x1, (Out.bind o1).imp fun lo' H2 ⟨as2, h2, p2, S2, x2, r2, o2⟩ => ?_⟩
  refine ⟨as2, ρ, h2, (f.mono S1).mono S2, x2, (Out.bind o2).imp fun hi' H3 ⟨as3, h3, p3, S3, x3, r3, o3⟩ => ?_⟩
  obtain rfl : p2 = lo' := r2
  obtain rfl : p3 = hi' := r3
  have r1' := (r1.mono S2).mono S3
  unfold pSlK at o3
  split at o3
  · rename_i ks
    cases r1' with
    | key hs =>
      refine .inl ⟨_, _, rfl, SqT.of hs, fun hw => ?_, fun _ p np => ?_⟩
      · have e : ∀ {α : Type} (l : List α), HT.sIx l.length 0 p2 = 0 ∧ HT.sIx l.length l.length p3 = l.length → cutA l p2 p3 = l := fun l z => by
          unfold cutA
          rw [z.1, z.2]
          simp
        rw [List.length_map] at hw
        rw [e _ hw] at o3
        exact o3.here x3 (.key hs)
      · refine o3 _ _ as3 (Stp.lay x3 np) (x3.lay np) (.key ?_)
        rw [upd_same, cut_map]; rfl
  · exact o3.elim
end
/-! ### dicts -/
def dGet (kvs : List (List Int × PV)) (k : List Int) : Option PV := (kvs.find? fun q => decide (q.1 = k)).map (·.2)
def dPut (kvs : List (List Int × PV)) (k : List Int) (v : PV) : List (List Int × PV) :=
  if (kvs.any fun q => decide (q.1 = k)) = true then kvs.map (fun q => if q.1 = k then (q.1, v) else q) else kvs ++ [(k, v)]
@[simp] def eDNew : EX := fun _ h => .ok (.obj h.length) (h ++ [.dct []])
@[simp] def pDGet (x y : PV) (h : IH) : Res PV := match x, y with
  | .obj n, .key k => (match h[n]? with
    | some (.dct kvs) => opt (dGet kvs k) h
    | _ => .bad)
  | _, _ => .bad
@[simp] def pDIn (y x : PV) (h : IH) : Res PV := match x, y with
  | .obj n, .key k => (match h[n]? with
    | some (.dct kvs) => .ok (.bl (dGet kvs k).isSome) h
    | _ => .bad)
  | _, _ => .bad
@[simp] def pDNotIn (y x : PV) (h : IH) : Res PV := match x, y with
  | .obj n, .key k => (match h[n]? with
    | some (.dct kvs) => .ok (.bl (!(dGet kvs k).isSome)) h
    | _ => .bad)
  | _, _ => .bad
/-- d[k] = v: v first -/
@[simp] def sDPutX (D Kx V : EX) : SX := fun r h => toS (V r h) r fun v h1 => toS (D r h1) r fun d h2 => toS (Kx r h2) r fun kk h3 => match d, kk with
  | .obj n, .key k => (match h3[n]? with
    | some (.dct kvs) => if kvs.length < 16777216 then .nx r (h3.set n (.dct (dPut kvs k v))) else .bad
    | _ => .bad)
  | _, _ => .bad
theorem kV_map (k : List Int) : (k.map (Sum.inl : Int → Key)).map kV = k.map V.int := by
  rw [List.map_map]; rfl
theorem inl_inj {a b : List Int} : a.map (Sum.inl : Int → Key) = b.map Sum.inl ↔ a = b := by
  constructor
  · intro h
    induction a generalizing b with
    | nil => cases b with
      | nil => rfl
      | cons _ _ => cases h
    | cons x r ih => cases b with
      | nil => cases h
      | cons y t =>
        simp only [List.map_cons, List.cons.injEq, Sum.inl.injEq] at h
        rw [h.1, ih h.2]
  · intro h; rw [h]
section
variable {K : PySem.W.Frag} {mg : Str → Option Value} {as : List Addr} {H : Hp}
theorem dGet_of (k : List Int) : ∀ {kvs : List (List Int × PV)} {gs : List (List Key × V)}, gs.map (·.1) = kvs.map (fun q => q.1.map (Sum.inl : Int → Key)) → RPs K mg H as (kvs.map (·.2)) (gs.map (·.2)) →
    (∃ p v, dGet kvs k = some p ∧ valV gs (k.map Sum.inl) = some v ∧ RP K mg H as p v) ∨ (dGet kvs k = none ∧ valV gs (k.map Sum.inl) = none)
  | [], [], _, _ => .inr ⟨rfl, rfl⟩
  | [], g :: gs, e, _ => by cases e
  | q :: kvs, [], e, _ => by cases e
  | q :: kvs, g :: gs, e, r => by
    simp only [List.map_cons, List.cons.injEq] at e
    cases r with
    | cons r1 r2 =>
      by_cases hk : q.1 = k
      · refine .inl ⟨q.2, g.2, by simp [dGet, List.find?_cons, hk], valV_pos (by rw [e.1, hk]), r1⟩
      · have hk' : ¬ g.1 = k.map (Sum.inl : Int → Key) := by rw [e.1]; exact fun z => hk (inl_inj.mp z)
        have e2 : dGet (q :: kvs) k = dGet kvs k := by simp [dGet, List.find?_cons, hk]
        rw [e2, valV_neg hk']
        exact dGet_of k e.2 r2
theorem any_of (k : List Int) {kvs : List (List Int × PV)} {gs : List (List Key × V)} (e : gs.map (·.1) = kvs.map (fun q => q.1.map (Sum.inl : Int → Key))) :
    (gs.any fun kv => decide (kv.1 = k.map Sum.inl)) = (kvs.any fun q => decide (q.1 = k)) := by
  induction kvs generalizing gs with
  | nil => cases gs with
    | nil => rfl
    | cons _ _ => cases e
  | cons q kvs ih => cases gs with
    | nil => cases e
    | cons g gs =>
      simp only [List.map_cons, List.cons.injEq] at e
      rw [List.any_cons, List.any_cons, ih e.2, e.1]
      congr 1
      rw [decide_eq_decide]
      exact inl_inj
theorem dPut_of (k : List Int) {v : PV} {u : V} (rv : RP K mg H as v u) {kvs : List (List Int × PV)} {gs : List (List Key × V)} (e : gs.map (·.1) = kvs.map (fun q => q.1.map (Sum.inl : Int → Key))) (r : RPs K mg H as (kvs.map (·.2)) (gs.map (·.2))) :
    (putK gs (k.map Sum.inl) u).map (·.1) = (dPut kvs k v).map (fun q => q.1.map (Sum.inl : Int → Key)) ∧ RPs K mg H as ((dPut kvs k v).map (·.2)) ((putK gs (k.map Sum.inl) u).map (·.2)) := by
  unfold putK dPut
  rw [any_of k e]
  split
  · rename_i hc
    clear hc
    induction kvs generalizing gs with
    | nil => cases gs with
      | nil => exact ⟨rfl, .nil⟩
      | cons _ _ => cases e
    | cons q kvs ih => cases gs with
      | nil => cases e
      | cons g gs =>
        simp only [List.map_cons, List.cons.injEq] at e
        cases r with
        | cons r1 r2 =>
          obtain ⟨i1, i2⟩ := ih e.2 r2
          by_cases hk : q.1 = k
          · have hg : g.1 = k.map (Sum.inl : Int → Key) := by rw [e.1, hk]
            simp only [List.map_cons, if_pos hk, if_pos hg]
            exact ⟨by rw [i1, hg, hk], .cons rv i2⟩
          · have hg : ¬ g.1 = k.map (Sum.inl : Int → Key) := by rw [e.1]; exact fun z => hk (inl_inj.mp z)
            simp only [List.map_cons, if_neg hk, if_neg hg]
            exact ⟨by rw [i1, e.1], .cons r1 i2⟩
  · simp only [List.map_append, List.map_cons, List.map_nil]
    exact ⟨by rw [e], r.append (.one rv)⟩
theorem dget_rel {h : IH} {n : Nat} {k : List Int} {kvs : List (List Int × PV)} {U V : V} (rh : RH K mg H as h) (rx : RP K mg H as (.obj n) U) (ry : RP K mg H as (.key k) V) (e : h[n]? = some (.dct kvs)) :
    ∃ a ov, U = .ref a ∧ DGet H a V ov ∧ ((∃ p v, dGet kvs k = some p ∧ ov = some v ∧ RP K mg H as p v) ∨ (dGet kvs k = none ∧ ov = none)) := by
  cases rx with
  | obj ha => cases ry with
    | key hb =>
      obtain ⟨a, g1, gs, g2, ek, rs⟩ := rh.at_ _ _ e
      rw [ha] at g1; cases g1
      refine ⟨_, _, rfl, DGet.t g2 (k := k.map Sum.inl) (by rw [hb, kV_map]), ?_⟩
      rcases dGet_of k ek rs with ⟨p, v, h1, h2, h3⟩ | ⟨h1, h2⟩
      · exact .inl ⟨p, v, h1, h2, h3⟩
      · exact .inr ⟨h1, h2⟩
end
section
variable {X : Cx} {W : WX} {k : Nat} {a b e o i : Expr} {es : List Expr} {pos p apos : Pos} {A B C : EX} {L : AX}
theorem ie_dnew : PE X (.Dict [] [] pos) (IE X.K X.mg W eDNew) := by
  refine peImp pe_dnewT fun s H Q ⟨as, ρ, hh, f, x, o⟩ => ?_
  intro p np
  have S := Stp.new (o := .dT []) x np
  refine o _ _ _ S (x.new np ⟨_, upd_same, rfl, .nil⟩) (.obj ?_)
  rw [List.getElem?_append_right (by rw [x.len]; exact Nat.le_refl _), x.len, Nat.sub_self]
  rfl
theorem ie_dget (cx : Ctx X W k) (ha : PE X a (IE X.K X.mg W A)) (hb : PE X b (IE X.K X.mg W B)) (hs : NoSl b := by intro _ _; rfl) : PE X (.Subscript a b pos) (IE X.K X.mg W (eOp pDGet A B)) := by
  refine peImp (pe_dget (hu_of cx.room) ha hb hs) fun s H Q ⟨as, ρ, hh, f, x, o⟩ => ?_
  refine ⟨as, ρ, hh, f, x, (Out.bind o).imp fun V H1 ⟨as1, h1, p1, S1, x1, r1, o1⟩ => ?_⟩
  refine ⟨as1, ρ, h1, f.mono S1, x1, (Out.bind o1).imp fun V2 H2 ⟨as2, h2, p2, S2, x2, r2, o2⟩ => ?_⟩
  unfold pDGet at o2
  split at o2
  · split at o2
    · rename_i kvs hk
      obtain ⟨a, ov, rfl, g, z⟩ := dget_rel x2 (r1.mono S2) r2 hk
      rcases z with ⟨p, v, h1, rfl, h3⟩ | ⟨h1, h2⟩
      · rw [h1] at o2
        exact ⟨_, _, rfl, g, o2.here x2 h3⟩
      · rw [h1] at o2; exact o2.elim
    · exact o2.elim
  · exact o2.elim
theorem op_din (hu : X.A.units + 1 < cLine) : OpR X (compareOp .In) (fun y x H Q => ∃ a o, x = .ref a ∧ DGet H a y o ∧ Q (.bl o.isSome) H) := by
  intro pins s σ H x y v u Q I rx ry h
  obtain ⟨a, o, rfl, g, q⟩ := h
  obtain rfl : u = Value.ref a := ry
  exact d_in hu I g rx fun s3 I3 => ⟨.bl o.isSome, H, I3, rfl, q⟩
theorem op_dnotin (hu : X.A.units + 1 < cLine) : OpR X (compareOp .NotIn) (fun y x H Q => ∃ a o, x = .ref a ∧ DGet H a y o ∧ Q (.bl (!o.isSome)) H) := by
  intro pins s σ H x y v u Q I rx ry h
  obtain ⟨a, o, rfl, g, q⟩ := h
  obtain rfl : u = Value.ref a := ry
  exact d_notIn hu I g rx fun s3 I3 => ⟨.bl (!o.isSome), H, I3, rfl, q⟩
theorem snd_din {K : PySem.W.Frag} {mg : Str → Option Value} : Snd K mg pDIn (fun y x H Q => ∃ a o, x = .ref a ∧ DGet H a y o ∧ Q (.bl o.isSome) H) := by
  intro W s as H h x y U V Q rh rx ry o
  unfold pDIn at o
  split at o
  · split at o
    · rename_i kvs hk
      obtain ⟨a, ov, rfl, g, z⟩ := dget_rel rh ry rx hk
      refine ⟨_, _, rfl, g, ?_⟩
      rcases z with ⟨p, v, h1, rfl, h3⟩ | ⟨h1, rfl⟩
      · rw [h1] at o; exact o.here rh (.bl _)
      · rw [h1] at o; exact o.here rh (.bl _)
    · exact o.elim
  · exact o.elim
theorem snd_dnotin {K : PySem.W.Frag} {mg : Str → Option Value} : Snd K mg pDNotIn (fun y x H Q => ∃ a o, x = .ref a ∧ DGet H a y o ∧ Q (.bl (!o.isSome)) H) := by
  intro W s as H h x y U V Q rh rx ry o
  unfold pDNotIn at o
  split at o
  · split at o
    · rename_i kvs hk
      obtain ⟨a, ov, rfl, g, z⟩ := dget_rel rh ry rx hk
      refine ⟨_, _, rfl, g, ?_⟩
      rcases z with ⟨p, v, h1, rfl, h3⟩ | ⟨h1, rfl⟩
      · rw [h1] at o; exact o.here rh (.bl _)
      · rw [h1] at o; exact o.here rh (.bl _)
    · exact o.elim
  · exact o.elim
theorem ie_din (cx : Ctx X W k) (ha : PE X a (IE X.K X.mg W A)) (hb : PE X b (IE X.K X.mg W B)) (hm : behindInMarks .In b = false := by rfl) : PE X (.Compare a [.In] [b] pos) (IE X.K X.mg W (eOp pDIn A B)) := ie_cmp (op_din (hu_of cx.room)) snd_din ha hb hm
theorem it_din (cx : Ctx X W k) (ha : PE X a (IE X.K X.mg W A)) (hb : PE X b (IE X.K X.mg W B)) (hm : behindInMarks .In b = false := by rfl) : PT X (.Compare a [.In] [b] pos) (IT X.K X.mg W (tBl (eOp pDIn A B))) := it_cmp (op_din (hu_of cx.room)) snd_din ha hb hm
theorem ie_dnotin (cx : Ctx X W k) (ha : PE X a (IE X.K X.mg W A)) (hb : PE X b (IE X.K X.mg W B)) (hm : behindInMarks .NotIn b = false := by rfl) : PE X (.Compare a [.NotIn] [b] pos) (IE X.K X.mg W (eOp pDNotIn A B)) := ie_cmp (op_dnotin (hu_of cx.room)) snd_dnotin ha hb hm
theorem it_dnotin (cx : Ctx X W k) (ha : PE X a (IE X.K X.mg W A)) (hb : PE X b (IE X.K X.mg W B)) (hm : behindInMarks .NotIn b = false := by rfl) : PT X (.Compare a [.NotIn] [b] pos) (IT X.K X.mg W (tBl (eOp pDNotIn A B))) := it_cmp (op_dnotin (hu_of cx.room)) snd_dnotin ha hb hm
theorem is_dput {value : Expr} {pos' : Pos} (cx : Ctx X W k) (hv : PE X value (IE X.K X.mg W C)) (ho : PE X o (IE X.K X.mg W A)) (hi : PE X i (IE X.K X.mg W B)) (hs : swapsWith value (some (.Subscript o i pos')) pos.line X.env = pure false := by rfl) :
    PS X (.Assign [.Subscript o i pos'] value pos) (IS X.K X.mg W (sDPutX A B C)) := by
  refine psImp (ps_dput (hu_of cx.room) ho hi hv hs) fun D s H ⟨as, r, h, f, x, o⟩ => ?_
  refine ⟨as, r, h, f, x, (outS_of f o).imp fun V H1 ⟨as1, h1, p1, S1, x1, r1, o1⟩ => ?_⟩
  refine ⟨as1, r, h1, f.mono S1, x1, (outS_of (f.mono S1) o1).imp fun V2 H2 ⟨as2, h2, p2, S2, x2, r2, o2⟩ => ?_⟩
  refine ⟨as2, r, h2, (f.mono S1).mono S2, x2, (outS_of ((f.mono S1).mono S2) o2).imp fun V3 H3 ⟨as3, h3, p3, S3, x3, r3, o3⟩ => ?_⟩
  split at o3
  · rename_i n kk _
    split at o3
    · rename_i kvs hk
      split at o3
      · rename_i hl
        have r2' := r2.mono S3
        have r1' := (r1.mono S2).mono S3
        cases r2' with
        | obj ha => cases r3 with
          | key hb =>
            obtain ⟨a, g1, gs, g2, ek, rs⟩ := x3.at_ _ _ hk
            rw [ha] at g1; cases g1
            have hlen : gs.length = kvs.length := by have := congrArg List.length ek; simpa using this
            refine ⟨_, _, rfl, DPut.t g2 (k := kk.map Sum.inl) (by rw [hb, kV_map]) (by rw [sizeLine_eq, hlen]; exact hl), ?_⟩
            have S4 := Stp.put (o := .dT (putK gs (kk.map Sum.inl) V)) x3 ha hk
            obtain ⟨q1, q2⟩ := dPut_of kk r1' ek rs
            exact o3 _ _ as3 S4 (x3.put (m := .dct (dPut kvs kk p1)) ha hk ⟨_, upd_same, q1, q2.mono S4⟩) ((((f.mono S1).mono S2).mono S3).mono S4)
      · exact o3.elim
    · exact o3.elim
  · exact o3.elim
end
/-! ### sums -/
@[simp] def pSum : List PV → IH → Res PV
  | [.obj n], h => (match h[n]? with
    | some (.lst xs) => (match keyOf xs with
      | some ns => .ok (.int ns.sum) h
      | none => .bad)
    | _ => .bad)
  | _, _ => .bad
theorem snd_sum {K : PySem.W.Frag} {mg : Str → Option Value} : SndC K mg pSum (rSum K) := by
  intro W s as H h us vs Q rh rs o
  unfold pSum at o
  split at o
  · split at o
    · rename_i xs hx
      split at o
      · rename_i ns hn
        obtain ⟨v, rfl, rv⟩ := rs.inv1
        cases rv with
        | obj ha =>
          obtain ⟨a, g1, ys, g2, r2⟩ := rh.at_ _ _ hx
          rw [ha] at g1; cases g1
          have e := keyOf_of r2 hn
          subst e
          exact ⟨_, ns, rfl, SqL.of g2, o.here rh (.int _)⟩
      · exact o.elim
    · exact o.elim
  · exact o.elim
section
variable {X : Cx} {W : WX} {k : Nat} {a b e o i : Expr} {es : List Expr} {pos p apos : Pos} {A B C : EX} {L : AX}
theorem ie_sum (cx : Ctx X W k) (hm : X.mg "sum" = none) (ha : PA X (e :: es) (IA X.K X.mg W L)) (hg : Gl X "sum" := by rfl) (he : starEach (e :: es) X.env = (false, eval e X.env) :: starEach es X.env := by rfl) (hpl : (backTo pos (starEach es X.env)).any (·.1) = false := by rfl) : PE X (.Call (.Name "sum" p) (e :: es) [] pos) (IE X.K X.mg W (eB pSum L)) :=
  ie_callB (cr_sum cx.calm) snd_sum hm (by decide +kernel) ha hg (by decide) (by decide) he hpl
end
end WR

/-! comprehensions of two clauses, calls of items, the base of a def that calls itself -/
namespace WR
open PySem PySem.Spec PyProof.Rows L2
def lc2L (it : ItF) (g : TgF) (c : TX) (I1 : Fm → IH → Res ItF) (g1 : TgF) (c1 : TX) (A : EX) (r0 : Fm) (vs1 : List Nat) (D : Nat) : Nat → Nat → IH → Res Unit
  | 0, _, _ => .bad
  | n + 1, i, h => match it i h with
    | none => .bad
    | some none => .ok () h
    | some (some v) => (match g v r0 with
      | none => .bad
      | some r1 => (match c r1 h with
        | .ok b h2 => if b then (match I1 r1 h2 with
          | .ok it1 h3 => (match lcL it1 g1 c1 A (wipeF r1 vs1) D LIM 0 h3 with
            | .ok _ h4 => lc2L it g c I1 g1 c1 A r0 vs1 D n (i + 1) h4
            | _ => .bad)
          | _ => .bad) else lc2L it g c I1 g1 c1 A r0 vs1 D n (i + 1) h2
        | _ => .bad))
def eLc2 (I : Fm → IH → Res ItF) (g : TgF) (c : TX) (I1 : Fm → IH → Res ItF) (g1 : TgF) (c1 : TX) (A : EX) (vs vs1 : List Nat) : EX := fun r h => (I r h).bind fun it h1 => (lc2L it g c I1 g1 c1 A (wipeF r vs) vs1 h1.length LIM 0 (h1 ++ [.lst []])).bind fun _ h2 => .ok (.obj h1.length) h2
section
variable {X : Cx} {W : WX} {k : Nat} {e : Expr} {es : List Expr} {pos : Pos}
theorem lc2_sound {I I1 : Fm → IH → Res ItF} {g g1 : TgF} {c c1 : TX} {A : EX} {vs vs1 : List Nat} {K : PySem.W.Frag} {mg : Str → Option Value} {s : L2.St} {H : Hp} {Q : VK} {as : List Addr} {r : Fm} {h : IH} (f : RF K mg H as r s) (x : RH K mg H as h)
    (o : Out K mg (fun H as p v => RP K mg H as p v) W s as H Q (eLc2 I g c I1 g1 c1 A vs vs1 r h)) : tLc2 (II K mg W I) (GW K mg vs g) (IT K mg W0 c) (II K mg W0 I1) (GW K mg vs1 g1) (IT K mg W0 c1) (IE K mg W0 A) vs vs1 s H Q := by
  refine ⟨as, r, h, f, x, (Out.bind o).imp fun J H1 ⟨as1, h1, itf, S1, x1, ri, o1⟩ => ?_⟩
  intro D nD
  have SD := Stp.new (o := .lst []) x1 nD
  refine ⟨fun i m H2 => ∃ as2 h2, Stp as H as2 H2 ∧ RH K mg H2 as2 h2 ∧ RI K mg H2 as2 itf J ∧ as2[h1.length]? = some D ∧
    Out K mg (fun H as p v => RP K mg H as p v) W s as2 H2 Q ((lc2L itf g c I1 g1 c1 A (wipeF r vs) vs1 h1.length m i h2).bind fun _ h2 => .ok (.obj h1.length) h2),
    ⟨LIM, as1 ++ [D], h1 ++ [.lst []], S1.trans SD, x1.new (m := .lst []) nD ⟨_, upd_same, .nil⟩, ri.mono SD, ?_, o1.shift SD⟩, ?_⟩
  · rw [List.getElem?_append_right (by rw [x1.len]; exact Nat.le_refl _), x1.len, Nat.sub_self]; rfl
  rintro i m H2 ⟨as2, h2, S2, x2, ri2, d2, o2⟩
  cases m with
  | zero => exact o2.elim
  | succ m =>
    have z := ri2 i as2 H2 h2 (Stp.refl _ _) x2
    unfold lc2L at o2
    cases q : itf i h2 with
    | none => rw [q] at o2; exact o2.elim
    | some w =>
      rw [q] at z o2
      cases w with
      | none => exact .inl ⟨z, o2.here x2 (.obj d2)⟩
      | some v =>
        refine .inr ⟨z.1, fun H3 => ∃ as3 h3, Stp as H as3 H3 ∧ RH K mg H3 as3 h3 ∧ RI K mg H3 as3 itf J ∧ as3[h1.length]? = some D ∧
          Out K mg (fun H as p v => RP K mg H as p v) W s as3 H3 Q ((lc2L itf g c I1 g1 c1 A (wipeF r vs) vs1 h1.length m (i + 1) h3).bind fun _ h2 => .ok (.obj h1.length) h2), fun H3 t => ⟨m, Nat.lt_succ_self m, t⟩, fun y H3 hy => ?_⟩
        obtain ⟨S3, x3, rv⟩ := z.2 y H3 hy
        cases qg : g v (wipeF r vs) with
        | none => simp only [qg] at o2; exact o2.elim
        | some r3 =>
          simp only [qg] at o2
          have S23 := S2.trans S3
          refine ⟨as2, wipeF r vs, v, r3, h2, (f.mono S23).wipe vs, x3, rv, qg, fun s4 f4 w4 => ⟨w4.trans (wipe_wipe _ _), as2, r3, h2, f4, x3, ?_⟩⟩
          have o3 := Out.shift S3 o2
          cases qc : c r3 h2 with
          | ex z r5 => simp only [qc] at o3; exact o3.elim
          | bad => simp only [qc] at o3; exact o3.elim
          | ok b h4 =>
            simp only [qc] at o3
            intro b' H4 as4 S4 x4 eb
            subst eb
            have o4 := Out.shift S4 o3
            cases b with
            | false =>
              simp only [Bool.false_eq_true, if_false] at o4 ⊢
              exact ⟨as4, h4, S23.trans S4, x4, (ri2.mono S3).mono S4, S4.get d2, o4⟩
            | true =>
              simp only [if_true] at o4 ⊢
              refine ⟨as4, r3, h4, f4.mono S4, x4, ?_⟩
              cases qi : I1 r3 h4 with
              | ex z r5 => simp only [qi] at o4; exact o4.elim
              | bad => simp only [qi] at o4; exact o4.elim
              | ok it1 h5 =>
                simp only [qi] at o4
                intro J1 H5 as5 S5 x5 rj
                have o5 := Out.shift S5 o4
                have d5 := S5.get (S4.get d2)
                have ri5 := ((ri2.mono S3).mono S4).mono S5
                have S05 := (S23.trans S4).trans S5
                have f5 := (f4.mono S4).mono S5
                refine ⟨fun j k' H6 => ∃ as6 h6, Stp as5 H5 as6 H6 ∧ RH K mg H6 as6 h6 ∧ RI K mg H6 as6 it1 J1 ∧
                  Out K mg (fun H as p v => RP K mg H as p v) W s as6 H6 Q ((match lcL it1 g1 c1 A (wipeF r3 vs1) h1.length k' j h6 with
                    | .ok _ h4 => lc2L itf g c I1 g1 c1 A (wipeF r vs) vs1 h1.length m (i + 1) h4
                    | _ => .bad).bind fun _ h2 => .ok (.obj h1.length) h2), ⟨LIM, as5, h5, Stp.refl _ _, x5, rj, o5⟩, ?_⟩
                rintro j k' H6 ⟨as6, h6, S6, x6, rj6, o6⟩
                cases k' with
                | zero => exact o6.elim
                | succ k' =>
                  have z6 := rj6 j as6 H6 h6 (Stp.refl _ _) x6
                  unfold lcL at o6
                  cases q6 : it1 j h6 with
                  | none => rw [q6] at o6; exact o6.elim
                  | some w6 =>
                    rw [q6] at z6 o6
                    cases w6 with
                    | none => exact .inl ⟨z6, as6, h6, S05.trans S6, x6, ri5.mono S6, S6.get d5, o6⟩
                    | some v6 =>
                      refine .inr ⟨z6.1, fun H7 => ∃ as7 h7, Stp as5 H5 as7 H7 ∧ RH K mg H7 as7 h7 ∧ RI K mg H7 as7 it1 J1 ∧
                        Out K mg (fun H as p v => RP K mg H as p v) W s as7 H7 Q ((match lcL it1 g1 c1 A (wipeF r3 vs1) h1.length k' (j + 1) h7 with
                          | .ok _ h4 => lc2L itf g c I1 g1 c1 A (wipeF r vs) vs1 h1.length m (i + 1) h4
                          | _ => .bad).bind fun _ h2 => .ok (.obj h1.length) h2), fun H7 t => ⟨k', Nat.lt_succ_self k', t⟩, fun y7 H7 hy7 => ?_⟩
                      obtain ⟨S7, x7, rv7⟩ := z6.2 y7 H7 hy7
                      cases qg7 : g1 v6 (wipeF r3 vs1) with
                      | none => simp only [qg7] at o6; exact o6.elim
                      | some r7 =>
                        simp only [qg7] at o6
                        have S67 := S6.trans S7
                        refine ⟨as6, wipeF r3 vs1, v6, r7, h6, (f5.mono S67).wipe vs1, x7, rv7, qg7, fun s8 f8 w8 => ⟨w8.trans (wipe_wipe _ _), as6, r7, h6, f8, x7, ?_⟩⟩
                        have o7 := Out.shift S7 o6
                        cases qc7 : c1 r7 h6 with
                        | ex z r5 => simp only [qc7] at o7; exact o7.elim
                        | bad => simp only [qc7] at o7; exact o7.elim
                        | ok b7 h7 =>
                          simp only [qc7] at o7
                          intro b7' H8 as8 S8 x8 eb
                          subst eb
                          have o8 := Out.shift S8 o7
                          cases b7 with
                          | false =>
                            simp only [Bool.false_eq_true, if_false] at o8 ⊢
                            exact ⟨as8, h7, S67.trans S8, x8, (rj6.mono S7).mono S8, o8⟩
                          | true =>
                            simp only [if_true] at o8 ⊢
                            refine ⟨as8, r7, h7, f8.mono S8, x8, ?_⟩
                            cases qa : A r7 h7 with
                            | ex z r5 => simp only [qa] at o8; exact o8.elim
                            | bad => simp only [qa] at o8; exact o8.elim
                            | ok u h9 =>
                              simp only [qa] at o8
                              intro U H9 as9 S9 x9 ru
                              have o9 := Out.shift S9 o8
                              have d9 := S9.get (S8.get (S67.get d5))
                              cases qd : h9[h1.length]? with
                              | none => simp only [qd] at o9; exact o9.elim
                              | some ob =>
                                cases ob with
                                | ins _ _ => simp only [qd] at o9; exact o9.elim
                                | dct _ => simp only [qd] at o9; exact o9.elim
                                | dks _ => simp only [qd] at o9; exact o9.elim
                                | tbl _ => simp only [qd] at o9; exact o9.elim
                                | lst acc =>
                                  simp only [qd] at o9
                                  by_cases hl : acc.length < 16777216
                                  · simp only [hl, if_true] at o9
                                    obtain ⟨b', e3, ws, e4, rs'⟩ := x9.at_ _ _ qd
                                    rw [d9] at e3; cases e3
                                    refine ⟨ws, e4, by rw [sizeLine_eq, ← rs'.length]; exact hl, ?_⟩
                                    have S10 := Stp.put (o := .lst (ws ++ [U])) x9 d9 qd
                                    exact ⟨as9, _, ((S67.trans S8).trans S9).trans S10, x9.put (m := .lst (acc ++ [u])) d9 qd ⟨_, upd_same, (rs'.append (.one ru)).mono S10⟩, (((rj6.mono S7).mono S8).mono S9).mono S10, o9.shift S10⟩
                                  · simp only [hl, if_false] at o9; exact o9.elim
theorem ie_lc2 {elt tg iter tg1 iter1 : Expr} {ifs ifs1 : List Expr} {scope : Scope} {I I1 : Fm → IH → Res ItF} {g g1 : TgF} {c c1 : TX} {A : EX} {vs vs1 : List Nat} (own : List (Str × Nat)) (cx : Ctx X W k) (hi : PI X tg iter (II X.K X.mg W I)) (ok : BlkOk X.N X.env.scope scope own)
    (hg : ∀ (s : Shared) (H : Hp) (C : Addr) (cl : List (Str × Addr)) (fp : List Addr), Ctx (X.blk s H scope (compEnvC scope cl C X.env) fp) W0 k → PG (X.blk s H scope (compEnvC scope cl C X.env) fp) tg (GW X.K X.mg vs g))
    (ht : ∀ (s : Shared) (H : Hp) (C : Addr) (cl : List (Str × Addr)) (fp : List Addr), Ctx (X.blk s H scope (compEnvC scope cl C X.env) fp) W0 k → PTs (X.blk s H scope (compEnvC scope cl C X.env) fp) ifs (IT X.K X.mg W0 c))
    (hi1 : ∀ (s : Shared) (H : Hp) (C : Addr) (cl : List (Str × Addr)) (fp : List Addr), Ctx (X.blk s H scope (compEnvC scope cl C X.env) fp) W0 k → PI (X.blk s H scope (compEnvC scope cl C X.env) fp) tg1 iter1 (II X.K X.mg W0 I1))
    (hg1 : ∀ (s : Shared) (H : Hp) (C : Addr) (cl : List (Str × Addr)) (fp : List Addr), Ctx (X.blk s H scope (compEnvC scope cl C X.env) fp) W0 k → PG (X.blk s H scope (compEnvC scope cl C X.env) fp) tg1 (GW X.K X.mg vs1 g1))
    (ht1 : ∀ (s : Shared) (H : Hp) (C : Addr) (cl : List (Str × Addr)) (fp : List Addr), Ctx (X.blk s H scope (compEnvC scope cl C X.env) fp) W0 k → PTs (X.blk s H scope (compEnvC scope cl C X.env) fp) ifs1 (IT X.K X.mg W0 c1))
    (he : ∀ (s : Shared) (H : Hp) (C : Addr) (cl : List (Str × Addr)) (fp : List Addr), Ctx (X.blk s H scope (compEnvC scope cl C X.env) fp) W0 k → PE (X.blk s H scope (compEnvC scope cl C X.env) fp) elt (IE X.K X.mg W0 A))
    (hv : own.map (·.2) = vs := by rfl) (hv1 : ∀ i ∈ vs1, i ∈ vs := by decide) (hs : ∀ x, foldedSetIterable iter X.env x = pure x := by intro _; rfl) (hs1 : ∀ env x, foldedSetIterable iter1 env x = pure x := by intro _ _; rfl) :
    PE X (.ListComp elt [⟨tg, iter, ifs, 0⟩, ⟨tg1, iter1, ifs1, 0⟩] scope pos) (IE X.K X.mg W (eLc2 I g c I1 g1 c1 A vs vs1)) := by
  subst hv
  exact peImp (pe_lc2 cx.calm cx.nd hi ok hv1 (fun s H C cl fp => hg s H C cl fp (cx.blk ..)) (fun s H C cl fp => ht s H C cl fp (cx.blk ..)) (fun s H C cl fp => hi1 s H C cl fp (cx.blk ..)) (fun s H C cl fp => hg1 s H C cl fp (cx.blk ..)) (fun s H C cl fp => ht1 s H C cl fp (cx.blk ..)) (fun s H C cl fp => he s H C cl fp (cx.blk ..)) hs hs1) fun s H Q ⟨as, r, h, f, x, o⟩ => lc2_sound f x o
theorem is_setLc2 (i : Nat) {y : Str} {py spos : Pos} {elt tg iter tg1 iter1 : Expr} {ifs ifs1 : List Expr} {scope : Scope} {I I1 : Fm → IH → Res ItF} {g g1 : TgF} {c c1 : TX} {A : EX} {vs vs1 : List Nat} (own : List (Str × Nat)) (cx : Ctx X W k)
    (hsw : swapsWith (.ListComp elt [⟨tg, iter, ifs, 0⟩, ⟨tg1, iter1, ifs1, 0⟩] scope pos) (some (.Name y py)) spos.line X.env = pure true) (hi : PI X tg iter (II X.K X.mg W I)) (ok : BlkOk X.N X.env.scope scope own)
    (hg : ∀ (s : Shared) (H : Hp) (C : Addr) (cl : List (Str × Addr)) (fp : List Addr), Ctx (X.blk s H scope (compEnvC scope cl C X.env) fp) W0 k → PG (X.blk s H scope (compEnvC scope cl C X.env) fp) tg (GW X.K X.mg vs g))
    (ht : ∀ (s : Shared) (H : Hp) (C : Addr) (cl : List (Str × Addr)) (fp : List Addr), Ctx (X.blk s H scope (compEnvC scope cl C X.env) fp) W0 k → PTs (X.blk s H scope (compEnvC scope cl C X.env) fp) ifs (IT X.K X.mg W0 c))
    (hi1 : ∀ (s : Shared) (H : Hp) (C : Addr) (cl : List (Str × Addr)) (fp : List Addr), Ctx (X.blk s H scope (compEnvC scope cl C X.env) fp) W0 k → PI (X.blk s H scope (compEnvC scope cl C X.env) fp) tg1 iter1 (II X.K X.mg W0 I1))
    (hg1 : ∀ (s : Shared) (H : Hp) (C : Addr) (cl : List (Str × Addr)) (fp : List Addr), Ctx (X.blk s H scope (compEnvC scope cl C X.env) fp) W0 k → PG (X.blk s H scope (compEnvC scope cl C X.env) fp) tg1 (GW X.K X.mg vs1 g1))
    (ht1 : ∀ (s : Shared) (H : Hp) (C : Addr) (cl : List (Str × Addr)) (fp : List Addr), Ctx (X.blk s H scope (compEnvC scope cl C X.env) fp) W0 k → PTs (X.blk s H scope (compEnvC scope cl C X.env) fp) ifs1 (IT X.K X.mg W0 c1))
    (he : ∀ (s : Shared) (H : Hp) (C : Addr) (cl : List (Str × Addr)) (fp : List Addr), Ctx (X.blk s H scope (compEnvC scope cl C X.env) fp) W0 k → PE (X.blk s H scope (compEnvC scope cl C X.env) fp) elt (IE X.K X.mg W0 A))
    (hy : X.N[i]? = some y := by rfl) (hyl : X.env.scope.names.lookup y = some .local := by rfl)
    (hv : own.map (·.2) = vs := by rfl) (hv1 : ∀ i ∈ vs1, i ∈ vs := by decide) (hs : ∀ x, foldedSetIterable iter X.env x = pure x := by intro _; rfl) (hs1 : ∀ env x, foldedSetIterable iter1 env x = pure x := by intro _ _; rfl) :
    PS X (.Assign [.Name y py] (.ListComp elt [⟨tg, iter, ifs, 0⟩, ⟨tg1, iter1, ifs1, 0⟩] scope pos) spos) (IS X.K X.mg W (sSet i (eLc2 I g c I1 g1 c1 A vs vs1))) := by
  subst hv
  refine psImp (ps_setLc2 cx.calm cx.nd hy hyl hsw hi ok hv1 (fun s H C cl fp => hg s H C cl fp (cx.blk ..)) (fun s H C cl fp => ht s H C cl fp (cx.blk ..)) (fun s H C cl fp => hi1 s H C cl fp (cx.blk ..)) (fun s H C cl fp => hg1 s H C cl fp (cx.blk ..)) (fun s H C cl fp => ht1 s H C cl fp (cx.blk ..)) (fun s H C cl fp => he s H C cl fp (cx.blk ..)) hs hs1) fun D s H ⟨as, r, h, f, x, o⟩ => ?_
  refine lc2_sound f x ((outS_of f o).imp fun V H1 ⟨as1, h1, p, S1, x1, r1, o1⟩ => ?_)
  exact o1 _ H1 as1 (Stp.refl _ _) x1 ((f.mono S1).set r1)
end
/-! ### calls of an item -/
abbrev FT := List (Str × (List PV → IH → Res PV))
@[simp] def eCallV (tbl : FT) (A : EX) (L : AX) : EX := fun r h => (A r h).bind fun f h1 => match f with
  | .glo x => (match tbl.lookup x with
    | some F => (L r h1).bind F
    | none => .bad)
  | _ => .bad
section
variable {X : Cx} {W : WX} {k j n : Nat} {a e fe : Expr} {es : List Expr} {pos : Pos} {A : EX} {L : AX} {tbl : FT}
def GT (X : Cx) (j n : Nat) (tbl : FT) : Prop := ∀ x F, tbl.lookup x = some F → GF X.prog X.w X.K X.mg X.base x j n F
theorem ref_of {v : V} {f : Addr} (r : RelV v (.ref f)) : v = .ref f := by
  cases v <;> first
    | (cases r; done)
    | (cases r; rfl)
    | (obtain ⟨_, e⟩ := r; cases e)
    | (obtain ⟨_, e, _⟩ := r; cases e)
theorem ie_callV (cx : Ctx X W k) (G : GT X j n tbl) (hf : PE X fe (IE X.K X.mg W A)) (ha : PA X (e :: es) (IA X.K X.mg W L)) (hj : j ≤ k := by decide)
    (hev : eval (.Call fe (e :: es) [] pos) X.env = (do callWith pos (← eval fe X.env) [] (backTo pos (starEach (e :: es) X.env)) (backToKw pos (keywordEach [] X.env))) := by rfl)
    (he : starEach (e :: es) X.env = (false, eval e X.env) :: starEach es X.env := by rfl) (hpl : (backTo pos (starEach es X.env)).any (·.1) = false := by rfl) : PE X (.Call fe (e :: es) [] pos) (IE X.K X.mg W (eCallV tbl A L)) := by
  refine ⟨fun pins s σ H Q I h => ?_⟩
  obtain ⟨as, r, h0, f, x, o⟩ := h
  rw [hev]
  refine wpAny_bind ?_
  refine thn (hf.run pins s σ H _ I ⟨as, r, h0, f, x, Out.bind o⟩) fun u s1 ⟨v, H1, I1, r1, as1, h1, p1, S1, x1, rp, o1⟩ => ?_
  split at o1
  · rename_i nm
    cases q : tbl.lookup nm with
    | none => rw [q] at o1; exact o1.elim
    | some F =>
      rw [q] at o1
      obtain ⟨ff, fd, ps, G1, hm, hk, hb⟩ := (G _ _ q).ex
      cases rp with
      | glo g1 g2 =>
        rw [hm] at g1; cases g1
        have ev := ref_of g2
        subst ev
        obtain rfl : u = Value.ref ff := r1
        refine PySem.W.callWith_K (h₀ := X.base) I.ok.mod.kin hk (thn (ha.run pos pins s1 σ H1 _ I1 ⟨as1, r, h1, f.mono S1, x1, Out.bind o1⟩) fun us s2 ⟨vs, H2, I2, r2, as2, h2, ps2, S2, x2, rs2, o2⟩ => ⟨I2.kIn, ?_⟩) he hpl
        refine run_fnS G1 (cx.room.mono hj) hb (L2N.passAt cx.tk σ) I2 r2 (SpF.of x2 rs2 ?_ o2)
        by_cases hn : ps2.length = n
        · exact hn
        · rw [(G _ _ q).bad ps2 h2 hn] at o2; exact o2.elim
  · exact o1.elim
theorem ie_callV0 (cx : Ctx X W k) (G : GT X j 0 tbl) (hf : PE X fe (IE X.K X.mg W A)) (hj : j ≤ k := by decide)
    (hev : eval (.Call fe [] [] pos) X.env = (do callWith pos (← eval fe X.env) [] (backTo pos (starEach [] X.env)) (backToKw pos (keywordEach [] X.env))) := by rfl) : PE X (.Call fe [] [] pos) (IE X.K X.mg W (eCallV tbl A aNil)) := by
  refine ⟨fun pins s σ H Q I h => ?_⟩
  obtain ⟨as, r, h0, f, x, o⟩ := h
  rw [hev]
  refine wpAny_bind ?_
  refine thn (hf.run pins s σ H _ I ⟨as, r, h0, f, x, Out.bind o⟩) fun u s1 ⟨v, H1, I1, r1, as1, h1, p1, S1, x1, rp, o1⟩ => ?_
  split at o1
  · rename_i nm
    cases q : tbl.lookup nm with
    | none => rw [q] at o1; exact o1.elim
    | some F =>
      rw [q] at o1
      obtain ⟨ff, fd, ps, G1, hm, hk, hb⟩ := (G _ _ q).ex
      cases rp with
      | glo g1 g2 =>
        rw [hm] at g1; cases g1
        have ev := ref_of g2
        subst ev
        obtain rfl : u = Value.ref ff := r1
        exact PySem.W.callWith_K0 I1.kIn hk (run_fnS (us := []) G1 (cx.room.mono hj) hb (L2N.passAt cx.tk σ) I1 .nil (SpF.of x1 RPs.nil rfl o1))
  · exact o1.elim
theorem GT.nil : GT X j n [] := fun x F e => by cases e
theorem GT.cons {x : Str} {F : List PV → IH → Res PV} {j' : Nat} (G : GF X.prog X.w X.K X.mg X.base x j' n F) (hj : j' ≤ j) (r : GT X j n tbl) : GT X j n ((x, F) :: tbl) := fun y F' e => by
  rw [List.lookup_cons] at e
  split at e
  · rename_i hy
    cases e
    have e2 : y = x := by simpa using hy
    subst e2
    obtain ⟨f, fd, ps, G1, hm, hk, hb⟩ := G.ex
    exact ⟨G.bad, f, fd, ps, G1.mono hj, hm, hk, hb⟩
  · exact r y F' e
end
/-! ### a def that calls itself: where the depth ends -/
theorem iss_bad {X : Cx} {W : WX} {sts : List Stmt} : PSs X sts (IS X.K X.mg W sBad) := ⟨fun pins s σ H D I q => by
  obtain ⟨as, r, h, f, x, o⟩ := q
  exact o.elim⟩
end WR

/-! max of two things that are compared by a rule of the heap -/
namespace PySem
open Sem (wp)
section
variable {prog : Program} {w : World} {A : Around} {R : Result → Shared → Prop} {I : Addr} {fp wr : List Addr} {P : Nat → Value → Prop} {St : Nat → Heap → Prop}
theorem wr_nm : (toString "max" ++ toString ".loop" : String) = "max.loop" := by decide
theorem wr_max_end {n c : Nat} {s : Shared} {vb : Value} (W : Walks prog w A.in1 I fp wr n P St) (S : Addr) (hf : S ∉ fp) (hst : St n s.heap) (hS : s.heap.get? S = some ⟨.type "list", none, .seq #[vb, vb] c, #[]⟩)
    (hR : ∀ h' tk, (∀ b o, b ∉ wr → b ≠ S → s.heap.get? b = some o → h'.get? b = some o) → R (.ok (.ret vb)) { s with heap := h', toks := tk }) : codeAny (model prog w) A (.builtin "max.loop" ⟨[.ref I, .none, .ref S], []⟩) R s := by
  refine codeAny_builtin F.entry_max_loop ?_; rw [Around.under_plainId F.plain_max_loop _]; show wpAny _ A.in1 (seqItems? (.ref S) >>= _) _ _ s; refine wpAny_bind (wpAny_seqItems hS rfl ?_); show wpAny _ A.in1 (tryCatch (pyNext (.ref I)) _ >>= _) _ _ s
  refine wpAny_bind (wpAny_tryCatch (W.done s _ _ hst fun h1 tk k1 => ?_)); show wpAny _ A.in1 (updateSeq S (fun _ => #[]) >>= _) _ _ _
  refine wpAny_bind (wpAny_updateSeq (k1 S _ (fun z => hf (W.sub _ z)) hS) rfl (wpAny_bind (wpAny_letGo (wpAny_pure (hR _ tk fun b o b1 b2 e => ?_)))))
  exact (Heap.get?_update_other _ _ (Ne.symm b2)).trans (k1 b o b1 e)
theorem wr_max_turn {n i c : Nat} {g : Bool} {s : Shared} {vb y : Value} (W : Walks prog w A.in1 I fp wr n P St) (S : Addr) (hf : S ∉ fp) (hi : i < n) (hst : St i s.heap) (hP : ∀ v, P i v → v = y) (hS : s.heap.get? S = some ⟨.type "list", none, .seq #[vb, vb] c, #[]⟩)
    (hc : ∀ (s' : Shared) Q E, (∀ b o, b ∉ wr → s.heap.get? b = some o → s'.heap.get? b = some o) → Q (.bool g) s' → wpAny (model prog w) A.in1 (richCompare .Gt y vb) Q E s')
    (hn : ∀ h' tk c', St (i + 1) h' → h'.get? S = some ⟨.type "list", none, .seq #[if g then y else vb, if g then y else vb] c', #[]⟩ → (∀ b o, b ∉ wr → b ≠ S → s.heap.get? b = some o → h'.get? b = some o) →
      codeAny (model prog w) A (.builtin "max.loop" ⟨[.ref I, .none, .ref S], []⟩) R { s with heap := h', toks := tk }) : codeAny (model prog w) A (.builtin "max.loop" ⟨[.ref I, .none, .ref S], []⟩) R s := by
  refine codeAny_builtin F.entry_max_loop ?_; rw [Around.under_plainId F.plain_max_loop _]; show wpAny _ A.in1 (seqItems? (.ref S) >>= _) _ _ s; refine wpAny_bind (wpAny_seqItems hS rfl ?_); show wpAny _ A.in1 (tryCatch (pyNext (.ref I)) _ >>= _) _ _ s
  refine wpAny_bind (wpAny_tryCatch (W.item i s _ _ hi hst fun v h1 tk pv st1 k1 => ?_))
  obtain rfl := hP v pv
  have S1 := k1 S _ (fun z => hf (W.sub _ z)) hS; show wpAny _ A.in1 (tryCatch (holding [v, v] (richCompare .Gt v vb >>= _)) _ >>= _) _ _ _
  refine wpAny_bind (wpAny_tryCatch (wpAny_holding (wpAny_bind (hc _ _ _ (fun b o b1 e => k1 b o b1 e) ?_))))
  refine wpAny_bind (wpAny_holding (wpAny_truthy_bool ?_)); refine wpAny_bind (wpAny_letGo (wpAny_pure ?_))
  cases g with
  | true =>
    simp only [if_true] at hn ⊢
    refine wpAny_bind (wpAny_updateSeq S1 rfl (wpAny_bind (wpAny_letGo ?_))); rw [wr_nm]
    refine wpAny_pure ⟨plainId_quiet F.plain_max_loop _, hn _ tk _ (W.frame _ _ _ st1 fun b hb o e => ?_) (Heap.get?_update_self _ S1 rfl) fun b o b1 b2 e => ?_⟩
    · exact (Heap.get?_update_other _ _ (fun z : S = b => hf (by rw [z]; exact hb))).trans e
    · exact (Heap.get?_update_other _ _ (Ne.symm b2)).trans (k1 b o b1 e)
  | false =>
    simp only [Bool.false_eq_true, if_false] at hn ⊢
    refine wpAny_bind (wpAny_letGo ?_); rw [wr_nm]
    exact wpAny_pure ⟨plainId_quiet F.plain_max_loop _, hn _ tk _ st1 S1 fun b o b1 _ e => k1 b o b1 e⟩
theorem wr_max_first {n c : Nat} {s : Shared} {x : Value} (W : Walks prog w A.in1 I fp wr n P St) (S : Addr) (hf : S ∉ fp) (hi : 0 < n) (hst : St 0 s.heap) (hP : ∀ v, P 0 v → v = x) (hS : s.heap.get? S = some ⟨.type "list", none, .seq #[] c, #[]⟩)
    (hn : ∀ h' tk c', St 1 h' → h'.get? S = some ⟨.type "list", none, .seq #[x, x] c', #[]⟩ → (∀ b o, b ∉ wr → b ≠ S → s.heap.get? b = some o → h'.get? b = some o) →
      codeAny (model prog w) A (.builtin "max.loop" ⟨[.ref I, .none, .ref S], []⟩) R { s with heap := h', toks := tk }) : codeAny (model prog w) A (.builtin "max.loop" ⟨[.ref I, .none, .ref S], []⟩) R s := by
  refine codeAny_builtin F.entry_max_loop ?_; rw [Around.under_plainId F.plain_max_loop _]; show wpAny _ A.in1 (seqItems? (.ref S) >>= _) _ _ s; refine wpAny_bind (wpAny_seqItems hS rfl ?_); show wpAny _ A.in1 (tryCatch (pyNext (.ref I)) _ >>= _) _ _ s
  refine wpAny_bind (wpAny_tryCatch (W.item 0 s _ _ hi hst fun v h1 tk pv st1 k1 => ?_))
  obtain rfl := hP v pv
  have S1 := k1 S _ (fun z => hf (W.sub _ z)) hS; show wpAny _ A.in1 (updateSeq S (fun _ => #[v, v]) >>= _) _ _ _
  refine wpAny_bind (wpAny_updateSeq S1 rfl ?_); rw [wr_nm]
  refine wpAny_pure ⟨plainId_quiet F.plain_max_loop _, hn _ tk _ (W.frame _ _ _ st1 fun b hb o e => ?_) (Heap.get?_update_self _ S1 rfl) fun b o b1 b2 e => ?_⟩
  · exact (Heap.get?_update_other _ _ (fun z : S = b => hf (by rw [z]; exact hb))).trans e
  · exact (Heap.get?_update_other _ _ (Ne.symm b2)).trans (k1 b o b1 e)
end
section
variable {prog : Program} {w : World} {A : Around} {E : Value → Shared → Prop} {s : Shared}
theorem wr_max2 {x y : Value} {g : Bool} {Q : Value → Shared → Prop} (hh : A.handled = none)
    (hc : ∀ (s' : Shared) Q E, (∀ b o, s.heap.get? b = some o → s'.heap.get? b = some o) → Q (.bool g) s' → wpAny (model prog w) A.in1 (richCompare .Gt y x) Q E s')
    (h : ∀ h' tk, (∀ b o, s.heap.get? b = some o → h'.get? b = some o) → Q (if g then y else x) { s with heap := h', toks := tk }) : wpAny (model prog w) A (call (.builtin "max") [x, y]) Q E s := by
  refine call_function_tree F.kind_max F.plain_max F.entry_max (F.args_max2 _ _) ?_
  show wpAny _ A.in1 (Builtin.Builtins.bindParams "max" ["key", "default"] 0 ⟨[], []⟩ >>= _) _ _ s; refine wpAny_bind (wpAny_of_eq (show Builtin.Builtins.bindParams "max" ["key", "default"] 0 ⟨[], []⟩ = pure [none, none] from rfl) ?_); show wpAny _ A.in1 (newTuple [x, y] >>= _) _ _ s
  refine wpAny_bind (wpAny_newObj_type ?_)
  have hT : (s.heap.push { cls := .type "tuple", data := .seq #[x, y] }).IsTuple s.heap.objs.size #[x, y] := ⟨_, Heap.get?_push_size _ rfl, rfl, 0, rfl⟩
  have z1 : (s.heap.push { cls := .type "tuple", data := .seq #[x, y] }).objs.size = s.heap.objs.size + 1 := Heap.size_push ..
  refine wpAny_bind (wpAny_pyIter_tuple hT ?_)
  generalize hh1 : s.heap.push { cls := .type "tuple", data := .seq #[x, y] } = h1 at hT z1
  have W := Walks.tuple (prog := prog) (w := w) (A := A.in1) hh h1.objs.size s.heap.objs.size (by rw [z1]; exact Nat.ne_of_lt (Nat.lt_succ_self _)) #[x, y]
  have hk1 : ∀ b o, s.heap.get? b = some o → h1.get? b = some o := fun b o e => by rw [← hh1]; exact Heap.get?_push_of_some _ e
  have hI : (h1.push { cls := .type "tuple_iterator", data := .fields #[.ref s.heap.objs.size, .int 0 0] }).IsTupleIter h1.objs.size s.heap.objs.size 0 := ⟨_, Heap.get?_push_size _ rfl, rfl, rfl⟩
  have hT2 : (h1.push { cls := .type "tuple_iterator", data := .fields #[.ref s.heap.objs.size, .int 0 0] }).IsTuple s.heap.objs.size #[x, y] := hT.push _
  have z2 : (h1.push { cls := .type "tuple_iterator", data := .fields #[.ref s.heap.objs.size, .int 0 0] }).objs.size = h1.objs.size + 1 := Heap.size_push ..
  have hk2 : ∀ b o, h1.get? b = some o → (h1.push { cls := .type "tuple_iterator", data := .fields #[.ref s.heap.objs.size, .int 0 0] }).get? b = some o := fun b o e => Heap.get?_push_of_some _ e
  generalize h1.push { cls := .type "tuple_iterator", data := .fields #[.ref s.heap.objs.size, .int 0 0] } = h2 at hI hT2 z2 hk2 ⊢
  refine wpAny_bind (wpAny_newObj_type ?_)
  have hf : h2.objs.size ∉ [h1.objs.size, s.heap.objs.size] := by
    simp only [List.mem_cons, List.not_mem_nil, or_false, not_or]
    exact ⟨by omega, by omega⟩
  rw [wr_nm]
  refine wpAny_pure ⟨plainId_quiet F.plain_max_loop _, ?_⟩
  have low : ∀ b o, s.heap.get? b = some o → b < s.heap.objs.size := fun b o e => Heap.lt_size e
  have hk3 : ∀ b o, s.heap.get? b = some o → (h2.push { cls := .type "list", data := .seq #[] }).get? b = some o := fun b o e => Heap.get?_push_of_some _ (hk2 b o (hk1 b o e))
  refine wr_max_first W h2.objs.size hf (by simp) (W.frame 0 h2 _ ⟨hI, hT2⟩ fun b _ o e => Heap.get?_push_of_some _ e) (x := x) (fun v e => by simpa using e.symm) (Heap.get?_push_size _ rfl) fun h3 tk3 c3 st3 S3 k3 => ?_
  have nw : ∀ b o, s.heap.get? b = some o → b ∉ [h1.objs.size] ∧ b ≠ h2.objs.size := fun b o e => by
    have := low b o e
    simp only [List.mem_cons, List.not_mem_nil, or_false]
    exact ⟨fun z => absurd (show h1.objs.size < s.heap.objs.size from z ▸ this) (by omega), fun z => absurd (show h2.objs.size < s.heap.objs.size from z ▸ this) (by omega)⟩
  have k03 : ∀ b o, s.heap.get? b = some o → h3.get? b = some o := fun b o e => k3 b o (nw b o e).1 (nw b o e).2 (hk3 b o e)
  refine wr_max_turn (g := g) (y := y) W h2.objs.size hf (by decide : 1 < 2) st3 (fun v e => by simpa using e.symm) S3 (fun s' Q E k q => hc s' Q E (fun b o e => k b o (nw b o e).1 (k03 b o e)) q) fun h4 tk4 c4 st4 S4 k4 => ?_
  have k04 : ∀ b o, s.heap.get? b = some o → h4.get? b = some o := fun b o e => k4 b o (nw b o e).1 (nw b o e).2 (k03 b o e)
  exact wr_max_end W h2.objs.size hf st4 S4 fun h5 tk5 k5 => h h5 tk5 fun b o e => k5 b o (nw b o e).1 (nw b o e).2 (k04 b o e)
end
end PySem
namespace WR
open PySem PySem.Spec PyProof.Rows L2
def lexGt : List Int → List Int → Bool
  | [], _ => false
  | _ :: _, [] => true
  | x :: xs, y :: ys => if x = y then lexGt xs ys else decide (y < x)
theorem lexGt_at : ∀ (ns ms : List Int) (i : Nat), i ≤ ns.length → i ≤ ms.length → Ob.lexAt (fun j => decide (ns.getD j 0 = ms.getD j 0)) (fun j => decide (ms.getD j 0 < ns.getD j 0)) (decide (ns.length > ms.length)) i (min ns.length ms.length - i) = lexGt (ns.drop i) (ms.drop i) := by
  intro ns ms i h1 h2
  generalize hk : min ns.length ms.length - i = k
  induction k generalizing i with
  | zero =>
    rw [Ob.lexAt_zero]
    by_cases a : i = ns.length
    · have e : ns.drop i = [] := List.drop_of_length_le (by omega)
      rw [e, lexGt]; exact decide_eq_false (by omega)
    · have hm : i = ms.length := by omega
      have e : ms.drop i = [] := List.drop_of_length_le (by omega)
      have hl : i < ns.length := by omega
      rw [e, List.drop_eq_getElem_cons hl, lexGt]; exact decide_eq_true (by omega)
  | succ k ih =>
    have l1 : i < ns.length := by omega
    have l2 : i < ms.length := by omega
    rw [Ob.lexAt_succ, List.drop_eq_getElem_cons l1, List.drop_eq_getElem_cons l2, lexGt]
    have e1 : ns.getD i 0 = ns[i] := by simp [List.getD, l1]
    have e2 : ms.getD i 0 = ms[i] := by simp [List.getD, l2]
    rw [e1, e2]
    by_cases q : ns[i] = ms[i]
    · rw [if_pos (decide_eq_true q), if_pos q]; exact ih (i + 1) l1 l2 (by omega)
    · rw [if_neg (by simpa using q), if_neg q]
theorem isTup_at {h h' : Heap} {a : Addr} {its : Array Value} (k : ∀ b o, h.get? b = some o → h'.get? b = some o) (p : h.IsTuple a its) : h'.IsTuple a its := let ⟨o, e, r⟩ := p; ⟨o, k a o e, r⟩
/-- > of two tuples of ints -/
theorem rc_gt {X : Cx} {pins : List (Addr × Obj)} {σ : L2.St} {H : Hp} {s s' : Shared} {A : Around} {a b : Addr} {ns ms : List Int} (I : Inv X pins σ H s) (k : ∀ b o, s.heap.get? b = some o → s'.heap.get? b = some o) (ha : SqT X.K H a (ns.map V.int)) (hb : SqT X.K H b (ms.map V.int)) (hu : A.units < cLine) :
    Ob.RcOp .Gt A s' (.ref a) (.ref b) (lexGt ns ms) := by
  obtain ⟨its, r1, p1, _⟩ := I.tuple ha
  obtain ⟨its2, r2, p2, _⟩ := I.tuple hb
  have i1 : IntsAre its ns := Vals.ints r1
  have i2 : IntsAre its2 ms := Vals.ints r2
  have e1 : its.toArray.size = ns.length := by rw [List.size_toArray]; exact i1.length
  have e2 : its2.toArray.size = ms.length := by rw [List.size_toArray]; exact i2.length
  have at1 : ∀ j (h1 : j < its.toArray.size), ∃ t, its.toArray[j] = .int (ns.getD j 0) t := fun j h1 => by exact PyProof.Rows.IntsAre.int_at i1 _ _ (by simp at h1; simp [h1])
  have at2 : ∀ j (h1 : j < its2.toArray.size), ∃ t, its2.toArray[j] = .int (ms.getD j 0) t := fun j h1 => by exact PyProof.Rows.IntsAre.int_at i2 _ _ (by simp at h1; simp [h1])
  have R := Ob.RcOp.tuples_gt (A := A) (s := s') (e := fun j => decide (ns.getD j 0 = ms.getD j 0)) (r := fun j => decide (ms.getD j 0 < ns.getD j 0)) (isTup_at k p1) (isTup_at k p2) hu (fun j h1 h2 => by
    obtain ⟨t, et⟩ := at1 j h1; obtain ⟨t', et'⟩ := at2 j h2
    rw [et, et', show decide (ns.getD j 0 = ms.getD j 0) = (ns.getD j 0 == ms.getD j 0) from by rw [Bool.eq_iff_iff]; simp]
    exact SeqAt.EqAt.int_int _ _ _ _) (fun j h1 h2 _ => by
    obtain ⟨t, et⟩ := at1 j h1; obtain ⟨t', et'⟩ := at2 j h2
    rw [et, et']; exact Ob.RcOp.gt_int _ _ _ _)
  rw [e1, e2] at R
  have z := lexGt_at ns ms 0 (Nat.zero_le _) (Nat.zero_le _)
  rw [Nat.sub_zero] at z
  rw [z] at R
  exact R
theorem all_eq : ∀ (ns ms : List Int), ((List.range (min ns.length ms.length)).all (fun j => ns.getD j 0 == ms.getD j 0) && ns.length == ms.length) = decide (ns = ms) := by
  intro ns ms
  rw [Bool.eq_iff_iff]
  simp only [Bool.and_eq_true, List.all_eq_true, List.mem_range, beq_iff_eq, decide_eq_true_eq]
  constructor
  · rintro ⟨h1, h2⟩
    apply List.ext_getElem h2
    intro i a b
    have := h1 i (by omega)
    simpa [List.getD, a, b] using this
  · rintro rfl; exact ⟨fun _ _ => rfl, rfl⟩
/-- == of two tuples of ints, as items -/
theorem eq_tt {X : Cx} {pins : List (Addr × Obj)} {σ : L2.St} {H : Hp} {s s' : Shared} {A : Around} {a b : Addr} {ns ms : List Int} (I : Inv X pins σ H s) (k : ∀ b o, s.heap.get? b = some o → s'.heap.get? b = some o) (ha : SqT X.K H a (ns.map V.int)) (hb : SqT X.K H b (ms.map V.int)) (hu : A.units < cLine) :
    SeqAt.EqAt A s' (.ref a) (.ref b) (decide (ns = ms)) := by
  by_cases q : a = b
  · subst q
    have e := I.tuple_inj ha hb
    have e2 : ns = ms := by
      have := congrArg (List.map fun v => match v with | V.int i => i | _ => 0) e
      simpa [List.map_map, Function.comp_def] using this
    rw [decide_eq_true e2]
    exact SeqAt.EqAt.same _
  · obtain ⟨its, r1, p1, _⟩ := I.tuple ha
    obtain ⟨its2, r2, p2, _⟩ := I.tuple hb
    have i1 : IntsAre its ns := Vals.ints r1
    have i2 : IntsAre its2 ms := Vals.ints r2
    have e1 : its.toArray.size = ns.length := by rw [List.size_toArray]; exact i1.length
    have e2 : its2.toArray.size = ms.length := by rw [List.size_toArray]; exact i2.length
    have g1 : ∀ j (h1 : j < its.toArray.size), ∃ t, its.toArray[j] = .int (ns.getD j 0) t := fun j h1 => by exact PyProof.Rows.IntsAre.int_at i1 _ _ (by simp at h1; simp [h1])
    have g2 : ∀ j (h1 : j < its2.toArray.size), ∃ t, its2.toArray[j] = .int (ms.getD j 0) t := fun j h1 => by exact PyProof.Rows.IntsAre.int_at i2 _ _ (by simp at h1; simp [h1])
    have R := SeqAt.RcAt.tuples (A := A) (s := s') (e := fun j => ns.getD j 0 == ms.getD j 0) (isTup_at k p1) (isTup_at k p2) hu (fun j h1 h2 => by
      obtain ⟨t, et⟩ := g1 j h1
      obtain ⟨t', et'⟩ := g2 j h2
      rw [et, et']
      exact SeqAt.EqAt.int_int _ _ _ _)
    rw [e1, e2, all_eq] at R
    exact SeqAt.EqAt.of_refs q R
/-- (j, b) > (i, a) -/
def gtP (j : Int) (ms : List Int) (i : Int) (ns : List Int) : Bool := if j = i then lexGt ms ns else decide (i < j)
theorem rc_gtP {X : Cx} {pins : List (Addr × Obj)} {σ : L2.St} {H : Hp} {s s' : Shared} {A : Around} {p q a b : Addr} {i j : Int} {ns ms : List Int} (I : Inv X pins σ H s) (k : ∀ b o, s.heap.get? b = some o → s'.heap.get? b = some o) (hp : SqT X.K H p [.int i, .ref a]) (hq : SqT X.K H q [.int j, .ref b])
    (ha : SqT X.K H a (ns.map V.int)) (hb : SqT X.K H b (ms.map V.int)) (hu : A.units + 2 < cLine) : Ob.RcOp .Gt A s' (.ref q) (.ref p) (gtP j ms i ns) := by
  obtain ⟨its, r1, p1, _⟩ := I.tuple hp
  obtain ⟨its2, r2, p2, _⟩ := I.tuple hq
  obtain ⟨u1, u2, rfl, ⟨t, rfl⟩, x2⟩ := vals2 r1
  obtain ⟨w1, w2, rfl, ⟨t', rfl⟩, y2⟩ := vals2 r2
  obtain rfl : u2 = Value.ref a := x2
  obtain rfl : w2 = Value.ref b := y2
  have hu1 : A.in1.units < cLine := by have : A.in1.units = A.units + 1 := rfl; omega
  have R := Ob.RcOp.tuples_gt (A := A) (s := s') (e := fun n => if n = 0 then decide (j = i) else decide (ms = ns)) (r := fun n => if n = 0 then decide (i < j) else lexGt ms ns) (isTup_at k p2) (isTup_at k p1) (by omega) (fun n h1 h2 => by
    have : n = 0 ∨ n = 1 := by simp at h1; omega
    rcases this with rfl | rfl
    · rw [show (if (0 : Nat) = 0 then decide (j = i) else decide (ms = ns)) = (j == i) from by rw [Bool.eq_iff_iff]; simp]
      exact SeqAt.EqAt.int_int _ _ _ _
    · exact eq_tt I k hb ha hu1) (fun n h1 h2 e => by
    have : n = 0 ∨ n = 1 := by simp at h1; omega
    rcases this with rfl | rfl
    · exact Ob.RcOp.gt_int _ _ _ _
    · exact rc_gt I k hb ha hu1)
  have e : Ob.lexAt (fun n => if n = 0 then decide (j = i) else decide (ms = ns)) (fun n => if n = 0 then decide (i < j) else lexGt ms ns) (decide ((#[Value.int j t', .ref b] : Array Value).size > (#[Value.int i t, .ref a] : Array Value).size)) 0 (min (#[Value.int j t', .ref b] : Array Value).size (#[Value.int i t, .ref a] : Array Value).size) = gtP j ms i ns := by
    show (if (decide (j = i)) = true then (if decide (ms = ns) = true then decide (2 > 2) else lexGt ms ns) else decide (i < j)) = _
    unfold gtP
    by_cases q : j = i
    · simp only [q, decide_true, if_true]
      by_cases z : ms = ns
      · subst z
        have nn : ∀ l : List Int, lexGt l l = false := fun l => by
          induction l with
          | nil => rfl
          | cons x r ih => simp [lexGt, ih]
        simp [nn]
      · simp [z]
    · simp [q]
  have R2 : Ob.RcOp .Gt A s' (.ref q) (.ref p) _ := R
  rw [← e]
  exact R2
def rMaxP (K : PySem.W.Frag) : List V → Hp → VK → Prop := fun vs H Q => ∃ (p q a b : Addr) (i j : Int) (ns ms : List Int), vs = [.ref p, .ref q] ∧ SqT K H p [.int i, .ref a] ∧ SqT K H q [.int j, .ref b] ∧ SqT K H a (ns.map V.int) ∧ SqT K H b (ms.map V.int) ∧ Q (if gtP j ms i ns then .ref q else .ref p) H
theorem cr_maxP {X : Cx} (hc : X.calm = true) (hu : X.A.units + 3 < cLine) : CallR X (.builtin "max") (rMaxP X.K) := by
  intro pins s σ H vs us Q I r h
  obtain ⟨p, q, a, b, i, j, ns, ms, rfl, hp, hq, ha, hb, z⟩ := h
  obtain ⟨u, w', rfl, r1, r2⟩ := vals2 r
  obtain rfl : u = Value.ref p := r1
  obtain rfl : w' = Value.ref q := r2
  have hu1 : X.A.in1.units + 2 < cLine := by have : X.A.in1.units = X.A.units + 1 := rfl; omega
  refine wr_max2 (g := gtP j ms i ns) (I.ok.hd hc) (fun s' Q' E' k qq => rc_gtP I k hp hq ha hb hu1 _ _ _ _ qq) fun h' tk k => ⟨_, H, I.kept k, ?_, z⟩
  split <;> rfl
@[simp] def pMaxP : List PV → IH → Res PV
  | [.tup [.int i, .key ns], .tup [.int j, .key ms]], h => .ok (if gtP j ms i ns then .tup [.int j, .key ms] else .tup [.int i, .key ns]) h
  | _, _ => .bad
theorem snd_maxP {K : PySem.W.Frag} {mg : Str → Option Value} : SndC K mg pMaxP (rMaxP K) := by
  intro W s as H h us vs Q rh rs o
  unfold pMaxP at o
  split at o
  · rename_i i ns j ms
    obtain ⟨v, w', rfl, rv, rw'⟩ := rs.inv2
    cases rv with
    | tup h1 q1 => cases rw' with
      | tup h2 q2 =>
        obtain ⟨a1, a2, rfl, b1, b2⟩ := q1.inv2
        obtain ⟨c1, c2, rfl, d1, d2⟩ := q2.inv2
        have b2' := b2
        have d2' := d2
        cases b1
        cases d1
        cases b2 with
        | key k1 => cases d2 with
          | key k2 =>
            refine ⟨_, _, _, _, i, j, ns, ms, rfl, h1, h2, SqT.of k1, SqT.of k2, ?_⟩
            cases g : gtP j ms i ns with
            | true => rw [g] at o; exact o.here rh (.tup h2 (.cons (.int _) (.one d2')))
            | false => rw [g] at o; exact o.here rh (.tup h1 (.cons (.int _) (.one b2')))
  · exact o.elim
section
variable {X : Cx} {W : WX} {k : Nat} {a b e o i : Expr} {es : List Expr} {pos p apos : Pos} {A B C : EX} {L : AX}
theorem ie_maxP (cx : Ctx X W k) (hm : X.mg "max" = none) (ha : PA X (e :: es) (IA X.K X.mg W L)) (hg : Gl X "max" := by rfl) (he : starEach (e :: es) X.env = (false, eval e X.env) :: starEach es X.env := by rfl) (hpl : (backTo pos (starEach es X.env)).any (·.1) = false := by rfl) : PE X (.Call (.Name "max" p) (e :: es) [] pos) (IE X.K X.mg W (eB pMaxP L)) :=
  ie_callB (cr_maxP cx.calm (by have := units65 cx.room; omega)) snd_maxP hm (by decide +kernel) ha hg (by decide) (by decide) he hpl
end
end WR

/-! a tuple times a number -/
namespace L2
open PySem PySem.Spec PyProof.Rows
theorem wr_tuple_mul1 (l : Addr) (its : Array Value) (n : Nat) (dd : Option Addr) (sl : Array (Option Value)) (u : Tok) : Meets (Builtin.«tuple.__mul__» ⟨[.ref l, .int 1 u], []⟩)
    (fun _ R s => s.heap.get? l = some ⟨.type "tuple", dd, .seq its n, sl⟩ ∧ R (.ok (.ret (Value.ref l))) s) :=
  .of_wp fun prog w A R s h => by
    obtain ⟨hp, g, d, tk, os⟩ := s; obtain ⟨hl, h⟩ := h; have f1 := AutoSeq1.idx_int
    wp_walk using wpAny_loadPart' hl
    repeat (first
      | (refine wpAny_ite_false (decide_eq_false (by decide)) ?_; wp_walk using wpAny_loadPart' hl)
      | (refine wpAny_ite_true (decide_eq_true (by simp)) ?_; wp_walk using wpAny_loadPart' hl))
    exact ⟨_, rfl, h⟩
def rRep1 (K : PySem.W.Frag) : R2 := fun x y H Q => ∃ l xs, x = .ref l ∧ y = .int 1 ∧ SqT K H l xs ∧ Q (.ref l) H
theorem op_rep1 {X : Cx} : OpR X (binaryOp .Mult) (rRep1 X.K) := by
  intro pins s σ H x y v u Q I rx ry h
  obtain ⟨l, xs, rfl, rfl, hT, q⟩ := h
  cases rx
  obtain ⟨t, rfl⟩ := ry
  obtain ⟨its, r, ⟨⟨cls, dd, data, sl⟩, ho, hc, n, hd⟩, hs⟩ := I.tuple hT
  simp only at hc hd
  subst hc hd
  exact wpAny_binaryOp_repeat_ref (T := "tuple") (U := "int") (by decide) ⟨_, ho, rfl⟩ (fun s' => typeIs_int s' 1 t) noFill_tuple_mul F.fills_int_mul F.slot_int_rmul repeat_tuple F.slot_int_index.lookup
    (call_meets F.slot_int_rmul (typeIs_int s 1 t) F.entry_int_rmul (F.args_int_rmul_2 _ _) (int_rmul_tuple 1 t l its.toArray n dd sl)
      ⟨ho, rfl, ⟨_, ho, rfl⟩, call_meets F.slot_tuple_mul ⟨_, ho, rfl⟩ F.entry_tuple_mul (F.args_tuple_mul_2 _ _) (wr_tuple_mul1 l its.toArray n dd sl t) ⟨ho, ⟨.ref l, H, I, rfl, q⟩⟩⟩)
end L2
namespace WR
open PySem PySem.Spec PyProof.Rows L2
@[simp] def pMulK : PV → PV → IH → Res PV
  | .key (a :: r), .int k, h => if k = 1 then .ok (.key (a :: r)) h else if 2 ≤ k ∧ k ≤ 1000 ∧ (a :: r).length ≤ 1000 then .ok (.key (List.replicate k.toNat (a :: r)).flatten) h else .bad
  | _, _, _ => .bad
theorem rep_map (n : Nat) (l : List Int) : (List.replicate n l).flatten.map V.int = (List.replicate n (l.map V.int)).flatten := by
  rw [List.map_flatten, List.map_replicate]
theorem snd_mulK {K : PySem.W.Frag} {mg : Str → Option Value} : Snd K mg pMulK (fun x y H Q => rRep1 K x y H Q ∨ rRepT K x y H Q) := by
  intro W s as H h x y U V Q rh rx ry o
  unfold pMulK at o
  split at o
  · rename_i a r k
    cases rx with
    | key ha =>
      cases ry
      split at o
      · rename_i e
        subst e
        exact .inl ⟨_, _, rfl, rfl, SqT.of ha, o.here rh (.key ha)⟩
      · split at o
        · rename_i hk
          refine .inr ⟨_, _, _, rfl, rfl, SqT.of ha, by simp, hk.1, hk.2.1, by simpa using hk.2.2, fun p np => ?_⟩
          exact o _ _ as (Stp.lay rh np) (rh.lay np) (.key (by rw [upd_same, rep_map]))
        · exact o.elim
  · exact o.elim
theorem ie_mulK {X : Cx} {W : WX} {a b : Expr} {pos : Pos} {A B : EX} (ha : PE X a (IE X.K X.mg W A)) (hb : PE X b (IE X.K X.mg W B)) : PE X (.BinOp a .Mult b pos) (IE X.K X.mg W (eOp pMulK A B)) := ie_op (op_rep1.or op_repT) snd_mulK ha hb
end WR

/-! raise and try -/
namespace WR
open PySem PySem.Spec PyProof.Rows L2
/-- an own exception class without an own __init__ -/
structure ExC (K : PySem.W.Frag) (mg : Str → Option Value) (c : Str) (C : Addr) : Prop where
  gC : mg c = some (.ref C)
  ex : PySem.W.excIn K C He.veBase "ValueError.__new__" = true
  kp : PySem.W.keepIn K (.ref C) = true
  sb : PySem.W.subIn K (.ref C) (.type "BaseException") = some true
  ty : PySem.W.typeIn K (.ref C) = some (.type "type")
def bExc (c : Str) : FrB := fun K => (He.Fa.exc c).ok K
theorem bExc_ok {K : PySem.W.Frag} {mg : Str → Option Value} {h : Heap} {c : Str} (X : K.In h) (G : h.Ns mainGlobals mg) (g : bGlo c K = true) (e : bExc c K = true) : ExC K mg c (He.ga K c) := by
  obtain ⟨a, b, c1, d⟩ := He.exc_ok e
  exact ⟨He.glo_ok X G g, a, b, c1, d⟩
/-- which class an exception is of -/
@[simp] def exSub (x y : Str) : Bool := x == y || y == "RoadError"
structure ExCs (K : PySem.W.Frag) (mg : Str → Option Value) (cs : List Str) : Prop where
  two : ∀ x y C D, cs.contains x = true → cs.contains y = true → mg x = some (.ref C) → mg y = some (.ref D) → PySem.W.exmOne K (.ref C) (.ref D) = some (exSub x y)
def bExcs (cs : List Str) : FrB := fun K => cs.all fun x => bGlo x K && cs.all fun y => (He.Fa.exm x y (exSub x y)).ok K
theorem bExcs_ok {K : PySem.W.Frag} {mg : Str → Option Value} {h : Heap} {cs : List Str} (X : K.In h) (G : h.Ns mainGlobals mg) (e : bExcs cs K = true) : ExCs K mg cs := by
  have e' := List.all_eq_true.mp e
  refine ⟨fun x y C D hx hy gx gy => ?_⟩
  have mx := mem_of_contains hx
  have my := mem_of_contains hy
  obtain ⟨a, b⟩ := He.ba (e' x mx)
  obtain ⟨c, _⟩ := He.ba (e' y my)
  have b' := List.all_eq_true.mp b y my
  rw [He.glo_ok X G a] at gx
  rw [He.glo_ok X G c] at gy
  cases gx
  cases gy
  exact He.exm_ok b'
@[simp] def sRaise (c : Str) : SX := fun r h => .ex ⟨c, []⟩ r h
@[simp] def pickH (x : XV) : List (Str × SX) → Option SX
  | [] => none
  | (c, S) :: r => if exSub x.cls c then some S else pickH x r
@[simp] def noEx : RS → RS
  | .ex _ _ _ => .bad
  | o => o
@[simp] def sTry (cs : List Str) (B : SX) (hs : List (Str × SX)) : SX := fun r h => match B r h with
  | .ex x r1 h1 => if cs.contains x.cls && hs.all (fun q => cs.contains q.1) then (match pickH x hs with
    | some S => noEx (S r1 h1)
    | none => .ex x r1 h1) else .bad
  | o => o
section
variable {X : Cx} {W : WX} {k : Nat} {c : Str} {C : Addr} {p pos pos' : Pos} {body : List Stmt} {h₀ : ExceptHandler} {hds : List ExceptHandler} {B : SX} {hs : List (Str × SX)} {cs : List Str}
theorem pmk_own0 (e : ExC X.K X.mg c C) (hg : Gl X c) (hdb : (c == ("__debug__" : Str)) = false) : L2N.PMk X (.Call (.Name c p) [] [] pos) (fun _ H Q => Q (.ref C) none H) := by
  intro pins s σ H Q I h
  refine wpAny_Call_Name_kw (ld_glob I hg e.gC ?_ hdb)
  refine PySem.W.callWith_K0 I.kIn e.kp ?_
  obtain ⟨bm, N, nm, qn, bs, hdct, sn, sub, ab, col, dd, k0, k1, k2, k3, k5, mN, hC, hN, hni, T⟩ := exc_obj I.kIn e.ex
  refine wpAny_call_exc_subT F.excBase_ValueError T hC hN hni (fun h' e' hm => ?_) (by show 0 ≤ sizeLine; omega)
  exact L2N.mk_of I hm (raises_own e.sb e.ty) h (I.hok.gone hm.new)
theorem is_raise0 (cx : Ctx X W k) (e : ExC X.K X.mg c C) (hg : Gl X c := by rfl) (hdb : (c == ("__debug__" : Str)) = false := by decide) : PS X (.Raise (some (.Call (.Name c p) [] [] pos)) none pos') (IS X.K X.mg W (sRaise c)) := by
  refine psImp (L2N.ps_raise cx.calm cx.tk (pmk_own0 e hg hdb)) fun D s H ⟨as, r, h, f, x, o⟩ => ?_
  exact o (.ref C) none s H as (Stp.refl _ _) x f ⟨C, e.gC, rfl, .inl ⟨rfl, rfl⟩⟩
inductive Mts (X : Cx) : List (Value × (Addr → Value → Option Addr → TS)) → List (Str × SX) → Prop
  | nil : Mts X [] []
  | cons {c : Str} {C : Addr} {S : SX} {l : List (Value × (Addr → Value → Option Addr → TS))} {hs : List (Str × SX)} (g : X.mg c = some (.ref C)) (r : Mts X l hs) : Mts X ((.ref C, fun _ _ _ => IS X.K X.mg W0 S) :: l) ((c, S) :: hs)
def HdR (X : Cx) (hds : List ExceptHandler) (hs : List (Str × SX)) : Prop := ∃ l, L2N.HdsOk X hds l ∧ Mts X l hs
theorem hd_nil : HdR X [] [] := ⟨[], .nil, .nil⟩
theorem hd_cons {S : SX} {b₀ : Stmt} {suite : List Stmt} {np : Pos} (gC : X.mg c = some (.ref C)) (hsu : ∀ (a : Addr) (oe : Obj) (pn : List (Addr × Obj)), PSs (X.suite a ((a, oe) :: pn)) (b₀ :: suite) (IS X.K X.mg W0 S)) (r : HdR X hds hs)
    (hg : Gl X c := by rfl) (hdb : (c == ("__debug__" : Str)) = false := by decide) : HdR X (.ExceptHandler (some (.Name c np)) none (b₀ :: suite) pos' :: hds) ((c, S) :: hs) := by
  obtain ⟨l, a, b⟩ := r
  exact ⟨_, .cons ⟨hg, hdb, .inl gC⟩ (fun a oe cls d pn _ _ => hsu a oe pn) a, .cons gC b⟩
theorem noEx_out {K : PySem.W.Frag} {mg : Str → Option Value} {W : WX} {as : List Addr} {H : Hp} {D : Ends} {o : RS} (z : OutS K mg W as H D (noEx o)) : OutS K mg W0 as H D o := by
  cases o with
  | ex x r h => exact z.elim
  | nx r h => exact z
  | rt r h => exact z
  | bk r h => exact z
  | ct r h => exact z
  | bad => exact z
theorem many_of {l : List (Value × (Addr → Value → Option Addr → TS))} (mt : Mts X l hs) (E : ExCs X.K X.mg cs) {x1 : XV} {r1 : Fm} {h1 : IH} {d : Option Addr} {s' : L2.St} {H H' : Hp} {as as' : List Addr} {D : Ends} (hc1 : cs.contains x1.cls = true) (hc2 : hs.all (fun q => cs.contains q.1) = true)
    (gC : X.mg x1.cls = some (.ref C)) (S : Stp as H as' H') (x' : RH X.K X.mg H' as' h1) (f' : RF X.K X.mg H' as' r1 s') (rx : RX X.K X.mg H' as' x1 (.ref C) d)
    (o : OutS X.K X.mg W as H D (match pickH x1 hs with
      | some S => noEx (S r1 h1)
      | none => .ex x1 r1 h1)) : wMany X.K W D l (.ref C) d s' H' := by
  induction mt with
  | nil => exact o (.ref C) d s' H' as' S x' f' rx
  | @cons c Cc Sx l hs g r' ih =>
    rw [List.all_cons, Bool.and_eq_true] at hc2
    have ee := E.two x1.cls c C Cc hc1 hc2.1 gC g
    refine ⟨_, ee, fun hb => fun a na => ?_, fun hb => ?_⟩
    · simp only [pickH, hb, if_true] at o
      exact ⟨as', r1, h1, f', x', noEx_out (o.shift S)⟩
    · refine ih hc2.2 ?_
      simp only [pickH, hb] at o
      exact o
theorem is_try (cx : Ctx X W k) (E : ExCs X.K X.mg cs) (hb : ∀ (W' : WX) (pn : List (Addr × Obj)) (xe : Value → Shared → Prop), Ctx (X.tr pn xe) W' k → PSs (X.tr pn xe) body (IS X.K X.mg W' B)) (hh : HdR X (h₀ :: hds) hs)
    (hs0 : X.stack = X.env :: X.outer := by rfl) (hf0 : X.env.frame = some X.env.locals := by rfl) : PS X (.Try body (h₀ :: hds) [] [] pos) (IS X.K X.mg W (sTry cs B hs)) := by
  obtain ⟨l, ok, mt⟩ := hh
  refine psImp (L2N.ps_try_many hs0 hf0 cx.tk (fun W' pn xe tk po => hb W' pn xe ⟨tk, po, cx.calm, cx.nd, cx.room⟩) ok) fun D s H ⟨as, r, h, f, x, o⟩ => ?_
  refine ⟨as, r, h, f, x, ?_⟩
  unfold sTry at o
  cases q : B r h with
  | nx r1 h1 => rw [q] at o; exact o
  | rt r1 h1 => rw [q] at o; exact o
  | bk r1 h1 => rw [q] at o; exact o
  | ct r1 h1 => rw [q] at o; exact o
  | bad => rw [q] at o; exact o
  | ex x1 r1 h1 =>
    rw [q] at o
    simp only at o
    split at o
    · rename_i hc
      obtain ⟨hc1, hc2⟩ := Bool.and_eq_true_iff.mp hc
      intro cls d s' H' as' S x' f' rx
      have rx' := rx
      obtain ⟨C, gC, rfl, fs⟩ := rx
      exact many_of mt E hc1 hc2 gC S x' f' rx' o
    · exact o.elim
end
end WR

/-! remove and index of data -/
namespace L2
open PySem PySem.Spec PyProof.Rows
section
variable {X : Cx}
def rRemD (K : PySem.W.Frag) : V → List V → Hp → VK → Prop := fun x xs H Q => ∃ (l : Addr) (ys : List V) (y : V) (d : PyData) (ds : List PyData) (j : Nat) (z : PyData), x = V.ref l ∧ xs = [y] ∧ H l = some (.lst ys) ∧ DpAll K H ys ds ∧ Dp K H y d ∧
  SeqAt.shaped (.list ds) = true ∧ SeqAt.shaped d = true ∧ ds[j]? = some z ∧ PyData.eqv z d = true ∧ (∀ (m : Nat) (z' : PyData), m < j → ds[m]? = some z' → PyData.eqv z' d = false) ∧ Q .non (upd H l (.lst (ys.eraseIdx j)))
theorem mt_removeD (hu : X.A.units + 65 < cLine) : MtR X "list.remove" (rRemD X.K) := by
  intro pins s σ H x xs v us Q I rx rxs h
  obtain ⟨a, ys, y, d, ds, j, z, rfl, rfl, hH, hl, hy, sl, sd, hz, hzj, hno, q⟩ := h
  cases rx
  obtain ⟨uy, rfl, ry⟩ := rxs.one
  obtain ⟨bs, r1⟩ := Dp.reads I d y uy hy ry
  have hxs : PyData.canLayAll0 ds = true := SeqAt.canLay_of_shaped sl
  have hroom : X.A.units + 1 + min (PyData.depthAll ds) d.depth < cLine := room_in_shaped sd hu
  obtain ⟨zl, its, n, r, hln, e⟩ := I.lstM hH
  obtain ⟨as, h4⟩ := Dp.readsAll I ds _ its hl r
  have hn : its.length = ds.length := SeqAt.ReadsAll.length ds its as h4
  have hmap : its.map (SeqAt.readOf s.heap) = ds := SeqAt.readsAll_map ds its as hxs h4
  have hvl := r.length
  have hsl := sizeLine_eq
  obtain ⟨hjd, _⟩ := List.getElem?_eq_some_iff.mp hz
  have hjl : j < its.length := by omega
  have hj : j < its.toArray.size := by simpa using hjl
  have at_ : ∀ (m : Nat) (hm : m < its.toArray.size) (z' : PyData), ds[m]? = some z' → SeqAt.readOf s.heap its.toArray[m] = z' := by
    intro m hm z' hz'
    have hml : m < its.length := by simpa using hm
    rw [← hmap, List.getElem?_map, List.getElem?_eq_getElem hml] at hz'
    have e1 : SeqAt.readOf s.heap its[m] = z' := Option.some.inj (show some (SeqAt.readOf s.heap its[m]) = some z' from hz')
    simpa using e1
  refine call_meets PySem.F.slot_list_remove ⟨_, e, rfl⟩ PySem.F.entry_list_remove (PySem.F.args_list_remove_2 _ _)
    (SeqAt.list_removeAt a its.toArray n none #[] uy (fun u => PyData.eqv (SeqAt.readOf s.heap u) d) j hj ?_ ?_ (by rw [List.size_toArray]; omega)) ⟨e, SeqAt.items_eqAt (vs := its.toArray) (show ReadsAll s.heap its.toArray.toList ds as from h4) r1 hxs (SeqAt.canLay_of_shaped sd) hroom, ?_⟩
  · show PyData.eqv (SeqAt.readOf s.heap its.toArray[j]) d = true
    rw [at_ j hj z hz]
    exact hzj
  · intro m hm hmj
    have hmd : m < ds.length := by omega
    have hz' : ds[m]? = some ds[m] := List.getElem?_eq_getElem hmd
    show PyData.eqv (SeqAt.readOf s.heap its.toArray[m]) d = false
    rw [at_ m hm _ hz']
    exact hno m _ hmj hz'
  · have rr := r.eraseIdx j
    refine ⟨.non, _, I.lset (its' := its.eraseIdx j) (t' := s.toks) hH e ?_ rr ?_, rfl, q⟩
    · show its.toArray.eraseIdxIfInBounds j = (its.eraseIdx j).toArray
      rw [List.eraseIdxIfInBounds_toArray]
    · have z2 := List.length_eraseIdx_le ys j
      omega
end
end L2
namespace WR
open PySem PySem.Spec PyProof.Rows L2
/-- the first place of an equal item -/
def ixAt (xs : List PV) (y : PV) (h : IH) : Option Nat := match optAll (dataOf 11 h) xs, dataOf DEP h y with
  | some ds, some d => if SeqAt.shaped (.list ds) && SeqAt.shaped d then ds.findIdx? (fun z => PyData.eqv z d) else none
  | _, _ => none
@[simp] def eRemove (A : EX) (L : AX) : EX := fun r h => (A r h).bind fun x h1 => match x with
  | .obj n => (match h1[n]? with
    | some (.lst _) => (L r h1).bind fun vs h2 => (match vs, h2[n]? with
      | [y], some (.lst xs) => (match ixAt xs y h2 with
        | some j => .ok .non (h2.set n (.lst (xs.eraseIdx j)))
        | none => .bad)
      | _, _ => .bad)
    | _ => .bad)
  | _ => .bad
@[simp] def eIndex (A : EX) (L : AX) : EX := fun r h => (A r h).bind fun x h1 => match x with
  | .obj n => (match h1[n]? with
    | some (.lst _) => (L r h1).bind fun vs h2 => (match vs, h2[n]? with
      | [y], some (.lst xs) => (match ixAt xs y h2 with
        | some j => .ok (.int j) h2
        | none => .bad)
      | _, _ => .bad)
    | _ => .bad)
  | _ => .bad
theorem ixAt_of {K : PySem.W.Frag} {mg : Str → Option Value} {as : List Addr} {H : Hp} {h : IH} {xs : List PV} {ys : List V} {y : PV} {w : V} {j : Nat} (rh : RH K mg H as h) (rs : RPs K mg H as xs ys) (ry : RP K mg H as y w) (e : ixAt xs y h = some j) :
    ∃ d ds z, DpAll K H ys ds ∧ Dp K H w d ∧ SeqAt.shaped (.list ds) = true ∧ SeqAt.shaped d = true ∧ ds[j]? = some z ∧ PyData.eqv z d = true ∧ (∀ (m : Nat) (z' : PyData), m < j → ds[m]? = some z' → PyData.eqv z' d = false) := by
  unfold ixAt at e
  split at e
  · rename_i ds d e1 e2
    split at e
    · rename_i hs
      obtain ⟨s1, s2⟩ := Bool.and_eq_true_iff.mp hs
      obtain ⟨hj, h1, h2⟩ := List.findIdx?_eq_some_iff_getElem.mp e
      refine ⟨d, ds, ds[j], dpAll (fun p v d r => dp_of rh 11 p v d r) rs e1, dp_of rh _ _ _ _ ry e2, s1, s2, List.getElem?_eq_getElem hj, h1, fun m z' hm hz => ?_⟩
      obtain ⟨hm2, rfl⟩ := List.getElem?_eq_some_iff.mp hz
      have := h2 m hm
      simpa using this
    · cases e
  · cases e
theorem RPs.eraseIdx {K : PySem.W.Frag} {mg : Str → Option Value} {as : List Addr} {H : Hp} : ∀ {xs : List PV} {us : List V} (j : Nat), RPs K mg H as xs us → RPs K mg H as (xs.eraseIdx j) (us.eraseIdx j)
  | _, _, _, .nil => by simpa using .nil
  | _, _, 0, .cons r t => by simpa using t
  | _, _, j + 1, .cons r t => by simpa using .cons r (RPs.eraseIdx j t)
section
variable {X : Cx} {W : WX} {k : Nat} {a b e o : Expr} {es : List Expr} {pos : Pos} {A B C : EX} {L : AX}
theorem ie_remove {apos : Pos} (cx : Ctx X W k) (ho : PE X o (IE X.K X.mg W A)) (ha : PA X (e :: es) (IA X.K X.mg W L)) (hbase : attributeBase o "remove" X.env (eval o X.env) = eval o X.env := by rfl)
    (hfew : ((backTo pos (starEach (e :: es) X.env)).all (fun x => !x.1) && (backToKw pos (keywordEach [] X.env)).all (fun x => x.1.isSome)
      && decide ((e :: es).length + ([] : List Keyword).length + (if ([] : List Keyword).isEmpty then 0 else 1) < 30)) = true := by rfl)
    (hline : (apos.endLine == pos.line) = true := by rfl) (hs : starEach (e :: es) X.env = (false, eval e X.env) :: starEach es X.env := by rfl) (hplain : (backTo pos (starEach es X.env)).any (·.1) = false := by rfl) :
    PE X (.Call (.Attribute o "remove" apos) (e :: es) [] pos) (IE X.K X.mg W (eRemove A L)) := by
  refine peImp (pe_bm PySem.F.plainAttrs_list PySem.F.slot_list_remove PySem.F.type_list_remove (mt_removeD (by have := units65 cx.room; omega)) ho ha hbase hfew hline hs hplain) fun s H Q ⟨as, ρ, hh, f, x, o⟩ => ?_
  refine ⟨as, ρ, hh, f, x, (Out.bind o).imp fun V H1 ⟨as1, h1, p1, S1, x1, r1, o1⟩ => ?_⟩
  split at o1
  · rename_i n
    cases r1 with
    | obj hn =>
      split at o1
      · rename_i ys hy
        obtain ⟨b, e1, us, e2, rs⟩ := x1.at_ _ _ hy
        rw [hn] at e1; cases e1
        refine ⟨.inl ⟨rfl, _, SqL.of e2⟩, as1, ρ, h1, f.mono S1, x1, (Out.bind o1).imp fun Vs H2 ⟨as2, h2, p2, S2, x2, r2, o2⟩ => ?_⟩
        split at o2
        · rename_i y xs hx
          split at o2
          · rename_i j hj
            obtain ⟨w, rfl, rw'⟩ := r2.inv1
            obtain ⟨b', e3, ws, e4, rs'⟩ := x2.at_ _ _ hx
            have hn2 := S2.get hn
            rw [hn2] at e3; cases e3
            obtain ⟨d, ds, z, q1, q2, q3, q4, q5, q6, q7⟩ := ixAt_of x2 rs' rw' hj
            refine ⟨_, ws, w, d, ds, j, z, rfl, rfl, e4, q1, q2, q3, q4, q5, q6, q7, ?_⟩
            have S3 := Stp.put (o := .lst (ws.eraseIdx j)) x2 hn2 hx
            exact o2 _ _ _ S3 (x2.put (m := .lst (xs.eraseIdx j)) hn2 hx ⟨_, upd_same, (rs'.eraseIdx j).mono S3⟩) .non
          · exact o2.elim
        · exact o2.elim
      · exact o1.elim
  · exact o1.elim
theorem ie_index {apos : Pos} (cx : Ctx X W k) (ho : PE X o (IE X.K X.mg W A)) (ha : PA X (e :: es) (IA X.K X.mg W L)) (hbase : attributeBase o "index" X.env (eval o X.env) = eval o X.env := by rfl)
    (hfew : ((backTo pos (starEach (e :: es) X.env)).all (fun x => !x.1) && (backToKw pos (keywordEach [] X.env)).all (fun x => x.1.isSome)
      && decide ((e :: es).length + ([] : List Keyword).length + (if ([] : List Keyword).isEmpty then 0 else 1) < 30)) = true := by rfl)
    (hline : (apos.endLine == pos.line) = true := by rfl) (hs : starEach (e :: es) X.env = (false, eval e X.env) :: starEach es X.env := by rfl) (hplain : (backTo pos (starEach es X.env)).any (·.1) = false := by rfl) :
    PE X (.Call (.Attribute o "index" apos) (e :: es) [] pos) (IE X.K X.mg W (eIndex A L)) := by
  refine peImp (pe_bm PySem.F.plainAttrs_list PySem.F.slot_list_index PySem.F.type_list_index (mt_indexD (by have := units65 cx.room; omega)) ho ha hbase hfew hline hs hplain) fun s H Q ⟨as, ρ, hh, f, x, o⟩ => ?_
  refine ⟨as, ρ, hh, f, x, (Out.bind o).imp fun V H1 ⟨as1, h1, p1, S1, x1, r1, o1⟩ => ?_⟩
  split at o1
  · rename_i n
    cases r1 with
    | obj hn =>
      split at o1
      · rename_i ys hy
        obtain ⟨b, e1, us, e2, rs⟩ := x1.at_ _ _ hy
        rw [hn] at e1; cases e1
        refine ⟨.inl ⟨rfl, _, SqL.of e2⟩, as1, ρ, h1, f.mono S1, x1, (Out.bind o1).imp fun Vs H2 ⟨as2, h2, p2, S2, x2, r2, o2⟩ => ?_⟩
        split at o2
        · rename_i y xs hx
          split at o2
          · rename_i j hj
            obtain ⟨w, rfl, rw'⟩ := r2.inv1
            obtain ⟨b', e3, ws, e4, rs'⟩ := x2.at_ _ _ hx
            have hn2 := S2.get hn
            rw [hn2] at e3; cases e3
            obtain ⟨d, ds, z, q1, q2, q3, q4, q5, q6, q7⟩ := ixAt_of x2 rs' rw' hj
            exact ⟨_, w, d, ds, j, z, rfl, rfl, .lst (SqL.of e4) q1, q2, q3, q4, q5, q6, q7, o2.here x2 (.int _)⟩
          · exact o2.elim
        · exact o2.elim
      · exact o1.elim
  · exact o1.elim
theorem chain_of {p q : PV → PV → IH → Res PV} {r r' : R2} {c : Expr} (hp : Snd X.K X.mg p r) (hq : Snd X.K X.mg q r') {s : L2.St} {H : Hp} {Q : VK} (h : IE X.K X.mg W (eChain p q A B C) s H Q) : tChain r r' (IE X.K X.mg W A) (IE X.K X.mg W B) (IE X.K X.mg W C) s H Q := by
  obtain ⟨as, ρ, h, g, z, o⟩ := h
  refine ⟨as, ρ, h, g, z, (Out.bind o).imp fun V1 H1 ⟨as1, h1, p1, S1, x1, r1, o1⟩ => ?_⟩
  refine ⟨as1, ρ, h1, g.mono S1, x1, (Out.bind o1).imp fun V2 H2 ⟨as2, h2, p2, S2, x2, r2, o2⟩ => ?_⟩
  refine hp x2 (r1.mono S2) r2 ((Out.bind o2).imp fun V3 H3 ⟨as3, h3, p3, S3, x3, r3, o3⟩ => ?_)
  cases r3 with
  | bl d =>
    refine ⟨d, rfl, ?_⟩
    cases d with
    | false => exact o3.here x3 (.bl false)
    | true =>
      refine ⟨as3, ρ, h3, ((g.mono S1).mono S2).mono S3, x3, (Out.bind o3).imp fun V4 H4 ⟨as4, h4, p4, S4, x4, r4, o4⟩ => ?_⟩
      exact hq x4 ((r2.mono S3).mono S4) r4 o4
  | non => exact o3.elim
  | int => exact o3.elim
  | str => exact o3.elim
  | tup => exact o3.elim
  | fls => exact o3.elim
  | obj => exact o3.elim
  | glo => exact o3.elim
  | ty => exact o3.elim
  | key => exact o3.elim
theorem it_lele {c : Expr} (ha : PE X a (IE X.K X.mg W A)) (hb : PE X b (IE X.K X.mg W B)) (hc : PE X c (IE X.K X.mg W C)) (hm : lastMarks [.LtE, .LtE] [b, c] = false := by with_unfolding_all rfl) : PT X (.Compare a [.LtE, .LtE] [b, c] pos) (IT X.K X.mg W (tBl (eChain pLe pLe A B C))) :=
  ptImp (pt_chain op_le op_le ha hb hc hm) fun _ _ _ h => tTest_of (fun Q' h => chain_of (c := c) snd_ci snd_ci h) h
end
end WR

/-! == of a pair whose second item is an own class's instance -/
namespace PySem.SeqAt
open AutoSeq1 (wpAny_loadPart')
open MeetsSeq MeetsSeq2 MeetsSeq3 SeqRoads2
section
variable {prog : Program} {w : World}
theorem wr_tuple_eq2 (l b : Addr) (v1 v2 w1 w2 : Value) (n n2 : Nat) (dd dd2 : Option Addr) (sl sl2 : Array (Option Value)) (q : Bool) :
    MeetsIn prog w (Builtin.«tuple.__eq__» ⟨[.ref l, .ref b], []⟩)
      (fun A R s => s.heap.get? l = some { cls := .type "tuple", dict := dd, data := .seq #[v1, v2] n, slots := sl } ∧ s.heap.get? b = some { cls := .type "tuple", dict := dd2, data := .seq #[w1, w2] n2, slots := sl2 } ∧
        EqIn prog w A.in1 s v1 w1 q ∧ (q = false → R (.ok (.ret (.bool false))) s) ∧
        (q = true → wpAny (model prog w) A.in1 (eqBool v2 w2) (fun r s' => R (.ok (.ret (.bool r))) s') (fun e s' => R (.error e) s') s)) :=
  .of_wp fun A R s h => by
    obtain ⟨hp, g, d, tk, os⟩ := s; obtain ⟨hl, hb, he, h0, h2⟩ := h
    have f2 := AutoSeq1.sub_tuple_tuple
    wp_walk using wpAny_loadPart' hl, wpAny_loadPart' hb, wpAny_forIn_list _ (fun rest b s' => b.1 = none ∧ ((rest = [(v1, w1), (v2, w2)] ∧ s' = ⟨hp, g, d, tk, os⟩) ∨ (rest = [(v2, w2)] ∧ q = true ∧ s' = ⟨hp, g, d, tk, os⟩) ∨ (rest = [] ∧ R (.ok (.ret (.bool true))) s'))) _
    case turn =>
      rintro ⟨y, x⟩ rest b s' ⟨hb', hz⟩
      rcases hz with ⟨hz, rfl⟩ | ⟨hz, hq, rfl⟩ | ⟨hz, _⟩
      · injection hz with e1 e2
        injection e1 with ea eb
        subst ea eb e2
        refine wpAny_bind (he _ _ ?_)
        cases hy : q with
        | true =>
          wp_walk
          exact ⟨rfl, .inr (.inl ⟨rfl, rfl, rfl⟩)⟩
        | false =>
          wp_walk
          exact ⟨_, rfl, h0 hy⟩
      · injection hz with e1 e2
        injection e1 with ea eb
        subst ea eb e2
        refine wpAny_bind (wpAny_mono (h2 hq) (fun r s1 hr => ?_) (fun _ _ x => x))
        cases r with
        | true =>
          wp_walk
          exact ⟨rfl, .inr (.inr ⟨rfl, hr⟩)⟩
        | false =>
          wp_walk
          exact ⟨_, rfl, hr⟩
      · cases hz
    case fin =>
      rintro ⟨b1, b2⟩ s' ⟨hb', hz⟩
      simp only at hb'
      subst hb'
      rcases hz with ⟨hz, _⟩ | ⟨hz, _⟩ | ⟨_, hR⟩
      · cases hz
      · cases hz
      · wp_walk
        exact ⟨_, rfl, by simpa [Builtin.Tuple.tupleCompareSizes] using hR⟩
    case h =>
      exact ⟨rfl, .inl ⟨rfl, rfl⟩⟩
end
end PySem.SeqAt
namespace WR
open PySem PySem.Spec PyProof.Rows L2 PySem.SeqAt
open MeetsSeq MeetsSeq2 MeetsSeq3 SeqRoads2
section
variable {X : Cx} {k : Nat} {f C : Addr} {fd : FuncData} {ps : List Str} {sp : Sp}
def rEqP (K : PySem.W.Frag) (C : Addr) (sp : Sp) : R2 := fun x y H Q => ∃ (p q a b : Addr) (i j : Int) (dx dy : Addr) (fs gs : List (Str × V)), x = .ref p ∧ y = .ref q ∧ SqT K H p [.int i, .ref a] ∧ SqT K H q [.int j, .ref b] ∧ a ≠ b ∧ H a = some (.ins C dx fs) ∧ H b = some (.ins C dy gs) ∧
  (i ≠ j → Q (.bl false) H) ∧ (i = j → sp [.ref a, .ref b] H (fun v H' => ∃ r : Bool, v = .bl r ∧ Q (.bl r) H') E0)
theorem op_eqP (FO : FnOk X.prog X.w X.K X.mg X.base (L2N.CX X.prog X.w) k f fd ps sp) (hs : PySem.W.findIn X.K (.ref C) "__eq__" = some (some (.ref f))) (hf : PySem.W.isFn X.K (.ref f) = true) (hb : Binds X.K fd ps []) (hr : Room k X.A.in1) (hr0 : Room k X.A) :
    OpR X (compareOp .Eq) (rEqP X.K C sp) := by
  intro pins s σ H x y v u Q I rx ry h
  obtain ⟨p, q, a, b, i, j, dx, dy, fs, gs, rfl, rfl, hp, hq, hne, ea, eb, q0, q1⟩ := h
  cases rx
  cases ry
  obtain ⟨its, r1, p1, _⟩ := I.tuple hp
  obtain ⟨its2, r2, p2, _⟩ := I.tuple hq
  obtain ⟨u1, u2, rfl, ⟨t, rfl⟩, x2⟩ := vals2 r1
  obtain ⟨w1, w2, rfl, ⟨t', rfl⟩, y2⟩ := vals2 r2
  obtain rfl : u2 = Value.ref a := x2
  obtain rfl : w2 = Value.ref b := y2
  obtain ⟨⟨cls, dd, data, sl⟩, ho, hc, n, hd⟩ := id p1
  obtain ⟨⟨cls2, dd2, data2, sl2⟩, ho2, hc2, n2, hd2⟩ := id p2
  simp only at hc hd hc2 hd2
  subst hc hd hc2 hd2
  obtain ⟨mA, J, _⟩ := ins_get I.hok ea
  obtain ⟨od, J, _⟩ := J.look
  obtain ⟨mB, J', _⟩ := ins_get I.hok eb
  obtain ⟨od', J', _⟩ := J'.look
  obtain ⟨m, hF⟩ := I.fr
  show wpAny (model X.prog X.w) X.A (richCompare .Eq (.ref p) (.ref q)) (EP X pins σ Q) X.xe s
  refine wpAny_richCompare_same_room (T := "tuple") (op := .Eq) ⟨_, ho, rfl⟩ ⟨_, ho2, rfl⟩ F.slot_tuple_eq (call_meetsIn F.slot_tuple_eq ⟨_, ho, rfl⟩ F.entry_tuple_eq (F.args_tuple_eq_2 _ _) (wr_tuple_eq2 p q _ _ _ _ n n2 dd dd2 sl sl2 (i == j))
    ⟨ho, ho2, (EqAt.int_int _ _ _ _).inModel _ _, fun e => ?_, fun e => ?_⟩) hr0.units0
  · exact ⟨(fun x => nomatch x), .bl false, H, I, rfl, q0 (by simpa using e)⟩
  · have q := q1 (by simpa using e)
    have hl := FO.len _ _ _ _ q
    have bb := hb s [.ref a, .ref b] I.kIn (by simpa using hl)
    unfold eqBool
    refine wpAny_holding ?_
    refine wpAny_ite_split (fun hab => absurd (by have := eq_of_beq hab; injection this) hne) (fun _ => wpAny_bind ?_)
    refine PySem.W.cmp_K (op := .Eq) (tb := .ref C) hr.units0 hF I.ok.mod.kin J J'.type (by simp [PySem.W.notFirst]) hs hf ?_
    refine wpAny_call (codeAny_mono (FO.run X.A.in1 X.stack s H ⟨[.ref a, .ref b], []⟩ [.ref a, .ref b] [.ref a, .ref b] _ E0 hr I.env0.in1 (by simpa using bb) (.cons rfl (.cons rfl .nil)) q) fun r s' hq => ?_)
    cases r with
    | error er => exact passN pins σ H s er s' I hq
    | ok fl =>
      cases fl with
      | ret w =>
        obtain ⟨v, H', I', rv, n, rfl, qn⟩ := I.after hq
        cases rv
        exact wpAny_truthy_bool ⟨(fun x => nomatch x), .bl n, H', I', rfl, qn⟩
      | next => exact False.elim hq
      | brk => exact False.elim hq
      | cont => exact False.elim hq
end
@[simp] def isIns (c : Str) (n : Nat) (h : IH) : Bool := match h[n]? with
  | some (.ins c' _) => c' == c
  | _ => false
/-- (i, x) == (j, y), x and y of an own class -/
@[simp] def pEqP (c : Str) (F : List PV → IH → Res PV) (x y : PV) (h : IH) : Res PV := match x, y with
  | .tup [.int i, .obj m], .tup [.int j, .obj n] => if m ≠ n ∧ isIns c m h = true ∧ isIns c n h = true then (if i = j then (match F [.obj m, .obj n] h with
      | .ok (.bl b) h1 => .ok (.bl b) h1
      | _ => .bad) else .ok (.bl false) h) else .bad
  | _, _ => .bad
theorem isIns_at {K : PySem.W.Frag} {mg : Str → Option Value} {cn : Str} {Cc : Addr} (gc : mg cn = some (.ref Cc)) {H : Hp} {as : List Addr} {h : IH} (rh : RH K mg H as h) {n : Nat} {a : Addr} (hn : as[n]? = some a) (e : isIns cn n h = true) : ∃ dx gs, H a = some (.ins Cc dx gs) := by
  unfold isIns at e
  split at e
  · rename_i c' fs hx
    have : c' = cn := by simpa using e
    subst this
    obtain ⟨b, e1, C', dx, gs, g0, e2, _⟩ := rh.at_ _ _ hx
    rw [hn] at e1; cases e1
    rw [gc] at g0; cases g0
    exact ⟨_, _, e2⟩
  · cases e
theorem snd_eqP {K : PySem.W.Frag} {mg : Str → Option Value} {cn : Str} {Cc : Addr} {F : List PV → IH → Res PV} (gc : mg cn = some (.ref Cc)) : Snd K mg (pEqP cn F) (rEqP K Cc (SpF K mg 2 F)) := by
  intro W s as H h x y U V Q rh rx ry o
  unfold pEqP at o
  split at o
  · rename_i i m j n
    split at o
    · rename_i hc
      obtain ⟨hmn, hm, hn⟩ := hc
      cases rx with
      | tup h1 rs1 =>
        cases ry with
        | tup h2 rs2 =>
          cases rs1 with
          | cons ri rs1 =>
            cases ri
            cases rs1 with
            | cons ro rs1 =>
              cases rs1
              cases rs2 with
              | cons rj rs2 =>
                cases rj
                cases rs2 with
                | cons rp rs2 =>
                  cases rs2
                  cases ro with
                  | obj am =>
                    cases rp with
                    | obj an =>
                      obtain ⟨dx, fs, e1⟩ := isIns_at gc rh am hm
                      obtain ⟨dy, gs, e2⟩ := isIns_at gc rh an hn
                      refine ⟨_, _, _, _, i, j, dx, dy, fs, gs, rfl, rfl, h1, h2, fun z => hmn ?_, e1, e2, fun z => ?_, fun z => ?_⟩
                      · subst z
                        exact (List.getElem?_inj (by
                          rcases Nat.lt_or_ge m as.length with y | y
                          · exact y
                          · rw [List.getElem?_eq_none y] at am; cases am) rh.nd).mp (am.trans an.symm)
                      · rw [if_neg z] at o
                        exact o.here rh (.bl false)
                      · rw [if_pos z] at o
                        refine ⟨as, _, h, rfl, RPs.cons (.obj am) (RPs.one (.obj an)), rh, ?_⟩
                        split at o
                        · rename_i q h1 hF
                          rw [hF]
                          intro V H' as' S x' r'
                          cases r'
                          exact ⟨_, rfl, o _ _ _ S x' (.bl _)⟩
                        · exact o.elim
    · exact o.elim
  · exact o.elim
section
variable {X : Cx} {W : WX} {k : Nat} {a b : Expr} {pos : Pos} {A B : EX} {cn : Str} {Cc f : Addr} {j : Nat} {F : List PV → IH → Res PV}
theorem ie_eqP (cx : Ctx X W k) (gc : X.mg cn = some (.ref Cc)) (hs : PySem.W.findIn X.K (.ref Cc) "__eq__" = some (some (.ref f))) (hf : PySem.W.isFn X.K (.ref f) = true) (G : GA X.prog X.w X.K X.mg X.base f j 2 F) (ha : PE X a (IE X.K X.mg W A)) (hb' : PE X b (IE X.K X.mg W B)) (hj : j + 1 ≤ k := by decide) :
    PE X (.Compare a [.Eq] [b] pos) (IE X.K X.mg W (eOp (pEqP cn F) A B)) := by
  obtain ⟨fd, ps, G1, hb⟩ := G.ex
  exact ie_cmp (op_eqP G1 hs hf hb (cx.room.mono hj).in1 (cx.room.mono (Nat.le_of_succ_le hj))) (snd_eqP gc) ha hb' (nomark _)
end
end WR

/-! except C as e; dicts with texts as keys; o[i], x = a, b -/
namespace WR
open PySem PySem.Spec PyProof.Rows L2
/-! ### readings that keep a fact -/
abbrev Fac := L2.St → Hp → List Addr → Prop
def Mon (φ : Fac) : Prop := ∀ {s : L2.St} {as as' : List Addr} {H H' : Hp}, Stp as H as' H' → φ s H as → φ s H' as'
def IGf {α β : Type} (φ : Fac) (K : PySem.W.Frag) (mg : Str → Option Value) (R : Hp → List Addr → α → β → Prop) (W : WX) (A : Fm → IH → Res α) : L2.St → Hp → (β → Hp → Prop) → Prop :=
  fun s H Q => ∃ as r h, RF K mg H as r s ∧ RH K mg H as h ∧ φ s H as ∧ Out K mg R W s as H Q (A r h)
abbrev IEf (φ : Fac) (K : PySem.W.Frag) (mg : Str → Option Value) (W : WX) (A : EX) : TE := IGf φ K mg (fun H as p v => RP K mg H as p v) W A
abbrev ITf (φ : Fac) (K : PySem.W.Frag) (mg : Str → Option Value) (W : WX) (A : TX) : TT := IGf φ K mg (fun _ _ p v => p = v) W A
abbrev IAf (φ : Fac) (K : PySem.W.Frag) (mg : Str → Option Value) (W : WX) (A : AX) : TA := IGf φ K mg (fun H as p v => RPs K mg H as p v) W A
def ISf (φ : Fac) (K : PySem.W.Frag) (mg : Str → Option Value) (W : WX) (B : SX) : TS := fun D s H => ∃ as r h, RF K mg H as r s ∧ RH K mg H as h ∧ φ s H as ∧ OutS K mg W as H D (B r h)
section
variable {X : Cx} {W : WX} {k : Nat} {a b e : Expr} {es : List Expr} {pos : Pos} {A B C : EX} {L : AX} {c d : TX} {φ : Fac} {S T : SX} {st : Stmt} {sts : List Stmt}
theorem fe_of (h : PE X e (IE X.K X.mg W A)) : PE X e (IEf φ X.K X.mg W A) := peImp h fun s H Q ⟨as, r, h, f, x, _, o⟩ => ⟨as, r, h, f, x, o⟩
theorem ft_of (h : PT X e (IT X.K X.mg W c)) : PT X e (ITf φ X.K X.mg W c) := ptImp h fun s H Q ⟨as, r, h, f, x, _, o⟩ => ⟨as, r, h, f, x, o⟩
theorem fa_of (h : PA X es (IA X.K X.mg W L)) : PA X es (IAf φ X.K X.mg W L) := paImp h fun s H Q ⟨as, r, h, f, x, _, o⟩ => ⟨as, r, h, f, x, o⟩
theorem fs_of (h : PS X st (IS X.K X.mg W S)) : PS X st (ISf φ X.K X.mg W S) := psImp h fun D s H ⟨as, r, h, f, x, _, o⟩ => ⟨as, r, h, f, x, o⟩
theorem fss_of (h : PSs X sts (IS X.K X.mg W S)) : PSs X sts (ISf φ X.K X.mg W S) := pssImp h fun D s H ⟨as, r, h, f, x, _, o⟩ => ⟨as, r, h, f, x, o⟩
theorem fs_one (h : PS X st (ISf φ X.K X.mg W S)) : PSs X [st] (ISf φ X.K X.mg W S) := pss_one h
theorem fe_op {op : Operator} {p : PV → PV → IH → Res PV} {r : R2} (m : Mon φ) (ho : OpR X (binaryOp op) r) (hp : Snd X.K X.mg p r) (ha : PE X a (IEf φ X.K X.mg W A)) (hb : PE X b (IEf φ X.K X.mg W B)) : PE X (.BinOp a op b pos) (IEf φ X.K X.mg W (eOp p A B)) := by
  refine peImp (pe_op ho ha hb) fun s H Q ⟨as, ρ, hh, f, x, fx, o⟩ => ?_
  refine ⟨as, ρ, hh, f, x, fx, (Out.bind o).imp fun V H1 ⟨as1, h1, p1, S1, x1, r1, o1⟩ => ?_⟩
  refine ⟨as1, ρ, h1, f.mono S1, x1, m S1 fx, (Out.bind o1).imp fun U H2 ⟨as2, h2, p2, S2, x2, r2, o2⟩ => ?_⟩
  exact hp x2 (r1.mono S2) r2 o2
theorem fe_cmp {op : CmpOp} {p : PV → PV → IH → Res PV} {r : R2} (m : Mon φ) (ho : OpR X (compareOp op) r) (hp : Snd X.K X.mg p r) (ha : PE X a (IEf φ X.K X.mg W A)) (hb : PE X b (IEf φ X.K X.mg W B)) (hm : behindInMarks op b = false := by rfl) : PE X (.Compare a [op] [b] pos) (IEf φ X.K X.mg W (eOp p A B)) := by
  refine peImp (pe_cmpR ho ha hb hm) fun s H Q ⟨as, ρ, hh, f, x, fx, o⟩ => ?_
  refine ⟨as, ρ, hh, f, x, fx, (Out.bind o).imp fun V H1 ⟨as1, h1, p1, S1, x1, r1, o1⟩ => ?_⟩
  refine ⟨as1, ρ, h1, f.mono S1, x1, m S1 fx, (Out.bind o1).imp fun U H2 ⟨as2, h2, p2, S2, x2, r2, o2⟩ => ?_⟩
  exact hp x2 (r1.mono S2) r2 o2
theorem fe_if (m : Mon φ) (hc : PT X e (ITf φ X.K X.mg W c)) (ha : PE X a (IEf φ X.K X.mg W A)) (hb : PE X b (IEf φ X.K X.mg W B)) : PE X (.IfExp e a b pos) (IEf φ X.K X.mg W (eIf c A B)) := by
  refine peImp (pe_ifExp hc ha hb) fun s H Q ⟨as, ρ, hh, f, x, fx, o⟩ => ?_
  refine ⟨as, ρ, hh, f, x, fx, (Out.bind o).imp fun V H1 ⟨as1, h1, p1, S1, x1, r1, o1⟩ => ?_⟩
  obtain rfl : p1 = V := r1
  cases p1 with
  | true => exact ⟨as1, ρ, h1, f.mono S1, x1, m S1 fx, o1⟩
  | false => exact ⟨as1, ρ, h1, f.mono S1, x1, m S1 fx, o1⟩
theorem ft_tru (ha : PE X a (IEf φ X.K X.mg W A)) (he : ∀ whole, isTrue a X.env whole = (do let v ← whole; standAt a.pos; holding [v] (truthy v)) := by intro _; rfl) : PT X a (ITf φ X.K X.mg W (tTru A)) := by
  refine ptImp (pt_truth ha he) fun s H Q ⟨as, ρ, hh, f, x, fx, o⟩ => ?_
  refine ⟨as, ρ, hh, f, x, fx, (Out.bind o).imp fun V H1 ⟨as1, h1, p1, S1, x1, r1, o1⟩ => ?_⟩
  cases q : pTru p1 h1 with
  | none => rw [q] at o1; exact o1.elim
  | some z => rw [q] at o1; exact ⟨z, tru_of x1 r1 q, o1.here x1 rfl⟩
theorem ft_cmp {op : CmpOp} {p : PV → PV → IH → Res PV} {r : R2} (m : Mon φ) (ho : OpR X (compareOp op) r) (hp : Snd X.K X.mg p r) (ha : PE X a (IEf φ X.K X.mg W A)) (hb : PE X b (IEf φ X.K X.mg W B)) (hm : behindInMarks op b = false := by rfl) : PT X (.Compare a [op] [b] pos) (ITf φ X.K X.mg W (tBl (eOp p A B))) := by
  refine ptImp (pt_cmpR ho ha hb hm) fun s H Q ⟨as, ρ, hh, f, x, fx, o⟩ => ?_
  refine ⟨as, ρ, hh, f, x, fx, ?_⟩
  have o' : Out X.K X.mg (fun H as p v => RP X.K X.mg H as p v) W s as H (fun v H' => ∃ q : Bool, v = .bl q ∧ Q q H') (eOp p A B ρ hh) := (Out.bind o).imp fun V3 H3 ⟨as3, h3, p3, S3, x3, r3, o3⟩ => by
    cases r3 with
    | bl q => exact ⟨q, rfl, o3.here x3 rfl⟩
    | non => exact o3.elim
    | int => exact o3.elim
    | str => exact o3.elim
    | tup => exact o3.elim
    | fls => exact o3.elim
    | obj => exact o3.elim
    | glo => exact o3.elim
    | ty => exact o3.elim
    | key => exact o3.elim
  refine (Out.bind o').imp fun V H1 ⟨as1, h1, p1, S1, x1, r1, o1⟩ => ?_
  refine ⟨as1, ρ, h1, f.mono S1, x1, m S1 fx, (Out.bind o1).imp fun U H2 ⟨as2, h2, p2, S2, x2, r2, o2⟩ => ?_⟩
  exact hp x2 (r1.mono S2) r2 o2
theorem fa_cons (m : Mon φ) (ha : PE X e (IEf φ X.K X.mg W A)) (hr : PA X es (IAf φ X.K X.mg W L)) (hs : starEach (e :: es) X.env = (false, eval e X.env) :: starEach es X.env := by rfl) : PA X (e :: es) (IAf φ X.K X.mg W (aCons A L)) := by
  refine paImp (pa_cons ha hr hs) fun s H Q ⟨as, r, h, f, x, fx, o⟩ => ?_
  refine ⟨as, r, h, f, x, fx, (Out.bind o).imp fun V H1 ⟨as1, h1, p, S1, x1, r1, o1⟩ => ?_⟩
  refine ⟨as1, r, h1, f.mono S1, x1, m S1 fx, (Out.bind o1).imp fun Vs H2 ⟨as2, h2, ps, S2, x2, r2, o2⟩ => ?_⟩
  exact o2.here x2 (RPs.cons (r1.mono S2) r2)
theorem fe_tup {x1} (h : PA X es (IAf φ X.K X.mg W L)) : PE X (.Tuple es x1 pos) (IEf φ X.K X.mg W (eTup L)) := by
  refine peImp (pe_tup h) fun s H Q ⟨as, ρ, hh, f, x, fx, o⟩ => ?_
  refine ⟨as, ρ, hh, f, x, fx, (Out.bind o).imp fun Vs H1 ⟨as1, h1, p1, S1, x1, r1, o1⟩ => ?_⟩
  split at o1
  · rename_i hl
    refine ⟨by rw [sizeLine_eq, ← r1.length]; exact hl, fun p np => ?_⟩
    exact o1 _ _ as1 (Stp.lay x1 np) (x1.lay np) (.tup (SqT.of upd_same) (r1.mono (Stp.lay x1 np)))
  · exact o1.elim
theorem fs_ret (he : PE X e (IEf φ X.K X.mg W A)) : PS X (.Return (some e) pos) (ISf φ X.K X.mg W (sRet A)) := by
  refine psImp (ps_ret he) fun D s H ⟨as, r, h, f, x, fx, o⟩ => ?_
  refine ⟨as, r, h, f, x, fx, (outS_of f o).imp fun V H1 ⟨as1, h1, p, S1, x1, r1, o1⟩ => ?_⟩
  exact o1 V H1 as1 (Stp.refl _ _) x1 r1
theorem fs_if {t : Expr} {a b : List Stmt} (m : Mon φ) (hc : PT X t (ITf φ X.K X.mg W c)) (ha : PSs X a (ISf φ X.K X.mg W S)) (hb : PSs X b (ISf φ X.K X.mg W T)) : PS X (.If t a b pos) (ISf φ X.K X.mg W (sIf c S T)) := by
  refine psImp (ps_if hc ha hb) fun D s H ⟨as, r, h, f, x, fx, o⟩ => ?_
  refine ⟨as, r, h, f, x, fx, (outS_of f o).imp fun d H1 ⟨as1, h1, p, S1, x1, r1, o1⟩ => ?_⟩
  obtain rfl : p = d := r1
  cases p with
  | true => exact ⟨as1, r, h1, f.mono S1, x1, m S1 fx, o1⟩
  | false => exact ⟨as1, r, h1, f.mono S1, x1, m S1 fx, o1⟩
theorem fs_setl {j : Nat} {x : Str} {pos' : Pos} (nd : X.N.Nodup) (he : PE X e (IEf φ X.K X.mg W A)) (hi : X.N[j]? = some x := by rfl) (hx : Loc X.env.scope x := by first | exact Or.inl rfl | exact Or.inr rfl) (hs : swapsWith e (some (.Name x pos')) pos.line X.env = pure false := by rfl)
    (hf : X.fn x = true ∨ X.env.scope.names.lookup x = some .local := by first | exact .inl rfl | exact .inr rfl | assumption) : PS X (.Assign [.Name x pos'] e pos) (ISf φ X.K X.mg W (sSet j A)) := by
  refine psImp (ps_set nd hi hx he hs hf) fun D s H ⟨as, r, h, f, x, fx, o⟩ => ?_
  refine ⟨as, r, h, f, x, fx, (outS_of f o).imp fun V H1 ⟨as1, h1, p, S1, x1, r1, o1⟩ => ?_⟩
  exact o1 _ H1 as1 (Stp.refl _ _) x1 ((f.mono S1).set r1)
/-- x = e ahead of others: the fact stays -/
theorem fs_set {j : Nat} {x : Str} {pos' : Pos} (m : Mon φ) (mj : ∀ {s : L2.St} {H : Hp} {as : List Addr} (v : V), φ s H as → φ (s.set j (some v)) H as) (nd : X.N.Nodup) (he : PE X e (IEf φ X.K X.mg W A)) (h2 : PSs X sts (ISf φ X.K X.mg W T)) (hi : X.N[j]? = some x := by rfl) (hx : Loc X.env.scope x := by first | exact Or.inl rfl | exact Or.inr rfl) (hs : swapsWith e (some (.Name x pos')) pos.line X.env = pure false := by rfl)
    (hf : X.fn x = true ∨ X.env.scope.names.lookup x = some .local := by first | exact .inl rfl | exact .inr rfl | assumption) : PSs X (.Assign [.Name x pos'] e pos :: sts) (ISf φ X.K X.mg W (sSeq (sSet j A) T)) := by
  refine pssImp (pss_cons (ps_set nd hi hx he hs hf) h2) fun D s H ⟨as, r, h, f, x, fx, o⟩ => ?_
  refine ⟨as, r, h, f, x, fx, ?_⟩
  unfold sSeq sSet at o
  cases q : A r h with
  | ok v h1 =>
    rw [q] at o
    intro V H1 as1 S1 x1 r1
    exact ⟨as1, r.set j (some v), h1, (f.mono S1).set r1, x1, mj _ (m S1 fx), OutS.shift S1 o⟩
  | ex z h1 => rw [q] at o; exact fun cc d H1 as1 S1 R1 r1 => o cc d s H1 as1 S1 R1 (f.mono S1) r1
  | bad => rw [q] at o; exact o
end
/-! ### the caught exception -/
theorem RX.mono {K : PySem.W.Frag} {mg : Str → Option Value} {as as' : List Addr} {H H' : Hp} {x : XV} {cls : Value} {d : Option Addr} (S : Stp as H as' H') (q : RX K mg H as x cls d) : RX K mg H' as' x cls d := by
  obtain ⟨C, g, e, q⟩ := q
  refine ⟨C, g, e, ?_⟩
  rcases q with q | ⟨dd, gs, e0, e1, e2, e3, e4, e5⟩
  · exact .inl q
  · refine .inr ⟨dd, gs, e0, e1, S.oth _ _ e2 e3, fun z => ?_, e4, e5.mono S⟩
    obtain ⟨more, em, hm⟩ := S.pre
    rw [em] at z
    rcases List.mem_append.mp z with z | z
    · exact e3 z
    · rw [hm _ z] at e2; cases e2
/-- slot i holds the caught exception -/
def XF (K : PySem.W.Frag) (mg : Str → Option Value) (i : Nat) (a : Addr) (x : XV) (cls : Value) (d : Option Addr) : Fac := fun s H as => s[i]? = some (some (.ref a)) ∧ RX K mg H as x cls d
theorem XF.mon {K : PySem.W.Frag} {mg : Str → Option Value} {i : Nat} {a : Addr} {x : XV} {cls : Value} {d : Option Addr} : Mon (XF K mg i a x cls d) := fun S q => ⟨q.1, q.2.mono S⟩
theorem XF.set {K : PySem.W.Frag} {mg : Str → Option Value} {i j : Nat} {a : Addr} {x : XV} {cls : Value} {d : Option Addr} (hj : j ≠ i) {s : L2.St} {H : Hp} {as : List Addr} (v : V) (q : XF K mg i a x cls d s H as) : XF K mg i a x cls d (s.set j (some v)) H as :=
  ⟨by rw [List.getElem?_set_ne hj]; exact q.1, q.2⟩
@[simp] def unI (i : Nat) : RS → RS
  | .nx r h => .nx (r.set i none) h
  | .bk r h => .bk (r.set i none) h
  | .ct r h => .ct (r.set i none) h
  | .rt v h => .rt v h
  | _ => .bad
@[simp] def sTryAs (cs : List Str) (B : SX) (c : Str) (i : Nat) (S : XV → SX) : SX := fun r h => match B r h with
  | .ex x r1 h1 => if cs.contains x.cls && (cs.contains c && decide (i < r1.length)) then (if exSub x.cls c then unI i (S x (r1.set i none) h1) else .ex x r1 h1) else .bad
  | o => o
theorem RF.unsetO {K : PySem.W.Frag} {mg : Str → Option Value} {H : Hp} {as : List Addr} {r : Fm} {s : L2.St} {i : Nat} {o : Option V} (f : RF K mg H as r s) : RF K mg H as (r.set i none) (s.set i o) := by
  refine ⟨by simp [f.len], fun j q e => ?_⟩
  by_cases hj : j = i
  · subst hj
    by_cases hl : j < r.length
    · rw [List.getElem?_set_self hl] at e; cases e
    · rw [List.getElem?_eq_none (by simpa using hl)] at e; cases e
  · rw [List.getElem?_set_ne (Ne.symm hj)] at e
    rw [List.getElem?_set_ne (Ne.symm hj)]
    exact f.at_ j q e
theorem unI_out {K : PySem.W.Frag} {mg : Str → Option Value} {W : WX} {as : List Addr} {H : Hp} {D : Ends} {i : Nat} {o : RS} (z : OutS K mg W as H D (unI i o)) :
    OutS K mg W0 as H { nx := fun σ' H' => D.nx (σ'.set i none) H', rt := D.rt, bk := fun σ' H' => D.bk (σ'.set i none) H', ct := fun σ' H' => D.ct (σ'.set i none) H' } o := by
  cases o with
  | ex x r h => exact (show False from z).elim
  | nx r h => exact fun s' H' as' S x f => z _ H' as' S x f.unsetO
  | rt r h => exact z
  | bk r h => exact fun s' H' as' S x f => z _ H' as' S x f.unsetO
  | ct r h => exact fun s' H' as' S x f => z _ H' as' S x f.unsetO
  | bad => exact z
section
variable {X : Cx} {W : WX} {k : Nat} {c n : Str} {C : Addr} {p np pos pos' : Pos} {body suite : List Stmt} {b₀ : Stmt} {B : SX} {cs : List Str} {i : Nat} {S : XV → SX}
theorem is_tryAs (cx : Ctx X W k) (E : ExCs X.K X.mg cs) (gC : X.mg c = some (.ref C)) (hb : ∀ (W' : WX) (pn : List (Addr × Obj)) (xe : Value → Shared → Prop), Ctx (X.tr pn xe) W' k → PSs (X.tr pn xe) body (IS X.K X.mg W' B))
    (hsu : ∀ (x : XV) (a : Addr) (oe : Obj) (cls : Value) (d : Option Addr) (pn : List (Addr × Obj)), cs.contains x.cls = true → L2N.Zn cls d oe → (∃ vs, oe.data = .fields vs) → PSs (X.suite a ((a, oe) :: pn)) (b₀ :: suite) (ISf (XF X.K X.mg i a x cls d) X.K X.mg W0 (S x)))
    (hi : X.N[i]? = some n := by rfl) (hln : X.env.kindOf n = some .local := by rfl) (hg : Gl X c := by rfl) (hdb : (c == ("__debug__" : Str)) = false := by decide)
    (hs0 : X.stack = X.env :: X.outer := by rfl) (hf0 : X.env.frame = some X.env.locals := by rfl) : PS X (.Try body [.ExceptHandler (some (.Name c np)) (some n) (b₀ :: suite) pos'] [] [] pos) (IS X.K X.mg W (sTryAs cs B c i S)) := by
  refine psImp (L2N.ps_try_as (ts := fun a cls d D s H => ∃ x : XV, cs.contains x.cls = true ∧ ISf (XF X.K X.mg i a x cls d) X.K X.mg W0 (S x) D s H) hs0 hf0 cx.nd hi hln ⟨hg, hdb, .inl gC⟩ cx.tk (fun W' pn xe tk po => hb W' pn xe ⟨tk, po, cx.calm, cx.nd, cx.room⟩)
    (fun a oe cls d pn hz hd => ⟨fun pins s σ H D I ⟨x, hx, q⟩ => (hsu x a oe cls d pn hx hz hd).run pins s σ H D I q⟩)) fun D s H ⟨as, r, h, f, x, o⟩ => ?_
  refine ⟨as, r, h, f, x, ?_⟩
  unfold sTryAs at o
  cases q : B r h with
  | nx r1 h1 => rw [q] at o; exact o
  | rt r1 h1 => rw [q] at o; exact o
  | bk r1 h1 => rw [q] at o; exact o
  | ct r1 h1 => rw [q] at o; exact o
  | bad => rw [q] at o; exact o
  | ex x1 r1 h1 =>
    rw [q] at o
    simp only at o
    split at o
    · rename_i hc
      obtain ⟨hc1, hc2⟩ := Bool.and_eq_true_iff.mp hc
      obtain ⟨hc2, hc3⟩ := Bool.and_eq_true_iff.mp hc2
      have hc3 := of_decide_eq_true hc3
      intro cls d s' H' as' S' x' f' rx
      have rx' := rx
      obtain ⟨D1, gD, rfl, fs⟩ := rx
      refine ⟨_, E.two x1.cls c D1 C hc1 hc2 gD gC, fun hb => fun a na => ?_, fun hb => ?_⟩
      · rw [if_pos hb] at o
        refine ⟨x1, hc1, as', r1.set i none, h1, f'.unsetO, x', ⟨?_, rx'⟩, unI_out (o.shift S')⟩
        have hl : i < s'.length := by rw [← f'.len]; exact hc3
        rw [List.getElem?_set_self hl]
      · rw [if_neg (by rw [hb]; simp)] at o
        exact o (.ref D1) d s' H' as' S' x' f' rx'
    · exact o.elim
end
end WR

/-! isinstance of a caught exception, its fields; dicts with texts as keys; o[i], x = a, b -/
namespace WR
open PySem PySem.Spec PyProof.Rows L2
/-! ### what the top says of the exceptions' classes -/
structure ExIs (K : PySem.W.Frag) (mg : Str → Option Value) (cs : List Str) : Prop where
  one : ∀ x C, cs.contains x = true → mg x = some (.ref C) → ExcC K C
  two : ∀ x y C D, cs.contains x = true → cs.contains y = true → mg x = some (.ref C) → mg y = some (.ref D) → PySem.W.kitOne K (.ref C) (.ref D) = some (exSub x y)
def bExi (K : PySem.W.Frag) (C : Addr) : Bool := He.eqO (PySem.W.findIn K (.ref C) "__getattribute__") (some (some (.builtin "BaseException.__getattribute__"))) && (He.eqO (PySem.W.findIn K (.ref C) "__getattr__") (some none) && (decide (PySem.W.subIn K (.ref C) (.type "BaseException") = some true) && (PySem.W.hasDictIn K C &&
  (He.eqO (PySem.W.findIn K (.ref C) "__class__") (some (some (.builtin "object.__class__"))) && (He.eqO (PySem.W.specialIn K (.builtin "object.__class__") "__get__") (some (some (.builtin "getset_descriptor.__get__"))) && (decide (PySem.W.takesIn K (.builtin "object.__class__") = some true) && decide (PySem.W.mroIn K C (.type "object") = some true)))))))
theorem bExi_ok {K : PySem.W.Frag} {C : Addr} (e : bExi K C = true) : ExcC K C := by
  obtain ⟨e1, e⟩ := He.ba e
  obtain ⟨e2, e⟩ := He.ba e
  obtain ⟨e3, e⟩ := He.ba e
  obtain ⟨e4, e⟩ := He.ba e
  obtain ⟨e5, e⟩ := He.ba e
  obtain ⟨e6, e⟩ := He.ba e
  obtain ⟨e7, e8⟩ := He.ba e
  exact ⟨He.eqO_ok e1, He.eqO_ok e2, of_decide_eq_true e3, e4, He.eqO_ok e5, He.eqO_ok e6, of_decide_eq_true e7, of_decide_eq_true e8⟩
def bExis (cs : List Str) : FrB := fun K => cs.all fun x => bGlo x K && (bExi K (He.ga K x) && cs.all fun y => decide (PySem.W.kitOne K (.ref (He.ga K x)) (.ref (He.ga K y)) = some (exSub x y)))
theorem bExis_ok {K : PySem.W.Frag} {mg : Str → Option Value} {h : Heap} {cs : List Str} (X : K.In h) (G : h.Ns mainGlobals mg) (e : bExis cs K = true) : ExIs K mg cs := by
  have e' := List.all_eq_true.mp e
  have gl : ∀ x C, cs.contains x = true → mg x = some (.ref C) → C = He.ga K x := fun x C hx g => by
    obtain ⟨a, _⟩ := He.ba (e' x (mem_of_contains hx))
    rw [He.glo_ok X G a] at g
    cases g
    rfl
  refine ⟨fun x C hx g => ?_, fun x y C D hx hy gx gy => ?_⟩
  · obtain ⟨_, b⟩ := He.ba (e' x (mem_of_contains hx))
    obtain ⟨b, _⟩ := He.ba b
    rw [gl x C hx g]
    exact bExi_ok b
  · obtain ⟨_, b⟩ := He.ba (e' x (mem_of_contains hx))
    obtain ⟨_, b⟩ := He.ba b
    rw [gl x C hx gx, gl y D hy gy]
    exact of_decide_eq_true (List.all_eq_true.mp b y (mem_of_contains hy))
/-- isinstance(e, c) of a caught exception -/
@[simp] def eIsE (cs : List Str) (x : XV) (c : Str) : EX := fun _ h => if cs.contains c then .ok (.bl (exSub x.cls c)) h else .bad
/-- an exception that has fields -/
def rIsF (K : PySem.W.Frag) (D a dd : Addr) : List V → Hp → VK → Prop := fun xs H Q => ∃ (c : V) (cv : Value) (b : Bool) (gs : List (Str × V)), xs = [.ref a, c] ∧ (∀ u, RelV c u → u = cv) ∧ PySem.W.kitOne K (.ref D) cv = some b ∧ H dd = some (.xd gs) ∧ Q (.bl b) H
theorem call_isF {X : Cx} {a D dd : Addr} {oe : Obj} {pn : List (Addr × Obj)} (C : ExcC X.K D) (hz : Zc (.ref D) (some dd) oe) (hf : ∃ vs, oe.data = .fields vs) : CallR (X.suite a ((a, oe) :: pn)) (.builtin "isinstance") (rIsF X.K D a dd) := by
  intro pins s σ H xs us Q I r h
  obtain ⟨c, cv, b, gs, rfl, hcv, e, ea, q⟩ := h
  obtain ⟨hget, _⟩ := I.pin (a, oe) (List.mem_append_left _ List.mem_cons_self)
  obtain ⟨vs, hv⟩ := hf
  have hx : ObjOk X.prog X.w H s.heap dd (.xd gs) := I.hok dd _ ea
  obtain ⟨mA, hns, hr⟩ := hx
  obtain ⟨od, ho, hl⟩ := lookIn_ns hns
  have J : PySem.W.InstAt s.heap a oe D (some od) := ⟨hget, hz.1, by unfold PySem.W.notCls; rw [hv] <;> rfl, by rw [hz.2]; exact ho⟩
  have hcl : (PySem.W.clsIn X.K D).isSome = true := by
    obtain ⟨cd, hc, _⟩ := PySem.W.any_some C.hd
    rw [hc]; rfl
  cases r with
  | cons rx rr =>
    cases rr with
    | cons rt rr =>
      cases rr
      cases rx
      have ec := hcv _ rt
      subst ec
      exact PySem.W.kia_one (PySem.W.kitx_exc hcl C.hg C.hk C.hs C.ha C.hn C.ht C.hm) I.kIn J e (fun z => nomatch z) fun tk => ⟨.bl b, H, I.kept (t' := tk) fun _ _ z => z, rfl, q⟩
section
variable {X : Cx} {W : WX} {n c : Str} {C : Addr} {pos q q' q'' : Pos} {a : Addr} {oe : Obj} {pn : List (Addr × Obj)} {cs : List Str} {i : Nat} {x : XV} {cls : Value} {d : Option Addr}
theorem fe_isE (E : ExIs X.K X.mg cs) (gC : X.mg c = some (.ref C)) (hx : cs.contains x.cls = true) (hz : Zc cls d oe) (hd : ∃ vs, oe.data = .fields vs) (hm : X.mg "isinstance" = none) (hN : X.N[i]? = some n := by rfl) (hv : Vis X.env.scope n := by first | exact Or.inl rfl | exact Or.inr (Or.inl rfl) | exact Or.inr (Or.inr rfl)) (hdn : (n == ("__debug__" : Str)) = false := by decide) (hcd : (n == ("__classdict__" : Str)) = false := by decide)
    (hg : Gl X "isinstance" := by rfl) (hgc : Gl X c := by rfl) (hdc : (c == ("__debug__" : Str)) = false := by decide) :
    PE (X.suite a ((a, oe) :: pn)) (.Call (.Name "isinstance" q) [.Name n q', .Name c q''] [] pos) (IEf (XF X.K X.mg i a x cls d) X.K X.mg W (eIsE cs x c)) := by
  refine ⟨fun pins s σ H Q I h => ?_⟩
  obtain ⟨as, r, h, f, rh, ⟨hs, rx⟩, o⟩ := h
  unfold eIsE at o
  split at o
  · rename_i h1
    obtain ⟨D, gD, rfl, fs⟩ := rx
    rcases fs with ⟨_, e⟩ | ⟨dd, gs, e0, e1, e2, e3, e4, e5⟩
    · subst e
      have base : PE (X.suite a ((a, oe) :: pn)) (.Call (.Name "isinstance" q) [.Name n q', .Name c q''] [] pos) (tCB (rIsE X.K D a) (tCons (tVar i) (tCons (tC (.ref C)) tNil))) :=
        pe_callB (call_isE (E.one _ _ hx gD) hz hd) hg hm rfl (pa_cons (pe_var hN hv hdn hcd) (pa_cons (pe_glob (v := .ref C) hgc gC rfl hdc) pa_nil (by rfl)) (by rfl))
      exact base.run pins s σ H Q I ⟨_, hs, .ref C, .ref C, exSub x.cls c, rfl, fun u hu => hu, E.two _ _ _ _ hx h1 gD gC, o.here rh (.bl _)⟩
    · subst e1
      have base : PE (X.suite a ((a, oe) :: pn)) (.Call (.Name "isinstance" q) [.Name n q', .Name c q''] [] pos) (tCB (rIsF X.K D a dd) (tCons (tVar i) (tCons (tC (.ref C)) tNil))) :=
        pe_callB (call_isF (E.one _ _ hx gD) hz hd) hg hm rfl (pa_cons (pe_var hN hv hdn hcd) (pa_cons (pe_glob (v := .ref C) hgc gC rfl hdc) pa_nil (by rfl)) (by rfl))
      exact base.run pins s σ H Q I ⟨_, hs, .ref C, .ref C, exSub x.cls c, gs, rfl, fun u hu => hu, E.two _ _ _ _ hx h1 gD gC, e2, o.here rh (.bl _)⟩
  · exact o.elim
/-- e.f -/
@[simp] def eXf (cs fl : List Str) (x : XV) (f : Str) : EX := fun _ h => if fl.contains f && cs.contains x.cls then opt (x.fs.lookup f) h else .bad
theorem look_of {K : PySem.W.Frag} {mg : Str → Option Value} {as : List Addr} {H : Hp} {f : Str} : ∀ {fs : List (Str × PV)} {gs : List (Str × V)}, gs.map (·.1) = fs.map (·.1) → RPs K mg H as (fs.map (·.2)) (gs.map (·.2)) → ∀ {p : PV}, fs.lookup f = some p → ∃ v, gs.lookup f = some v ∧ RP K mg H as p v
  | [], _, _, _, p, e => by cases e
  | q :: fs, [], e, _, _, _ => by cases e
  | (y, v) :: fs, (y', v') :: gs, e, r, p, l => by
    simp only [List.map_cons, List.cons.injEq] at e
    obtain ⟨e1, e2⟩ := e
    subst e1
    cases r with
    | cons r1 r2 =>
      rw [List.lookup_cons] at l ⊢
      split at l
      · cases l; exact ⟨_, rfl, r1⟩
      · exact look_of e2 r2 l
theorem fe_xf {f : Str} {fl : List Str} (E : ExIs X.K X.mg cs) (hn : ∀ C, X.mg x.cls = some (.ref C) → cs.contains x.cls = true → fl.contains f = true → PySem.W.findIn X.K (.ref C) f = some none) (hz : Zc cls d oe) (hd : ∃ vs, oe.data = .fields vs)
    (hN : X.N[i]? = some n := by rfl) (hv : Vis X.env.scope n := by first | exact Or.inl rfl | exact Or.inr (Or.inl rfl) | exact Or.inr (Or.inr rfl)) (hdn : (n == ("__debug__" : Str)) = false := by decide) (hcd : (n == ("__classdict__" : Str)) = false := by decide)
    (hb : attributeBase (.Name n q) f X.env (eval (.Name n q) X.env) = eval (.Name n q) X.env := by rfl) :
    PE (X.suite a ((a, oe) :: pn)) (.Attribute (.Name n q) f pos) (IEf (XF X.K X.mg i a x cls d) X.K X.mg W (eXf cs fl x f)) := by
  refine ⟨fun pins s σ H Q I h => ?_⟩
  obtain ⟨as, r, h, g, rh, ⟨hs, rx⟩, o⟩ := h
  unfold eXf at o
  split at o
  · rename_i hc
    obtain ⟨h0, h1⟩ := Bool.and_eq_true_iff.mp hc
    obtain ⟨D, gD, rfl, fs⟩ := rx
    cases hl : x.fs.lookup f with
    | none => rw [hl] at o; exact o.elim
    | some p =>
      rw [hl] at o
      rcases fs with ⟨e, _⟩ | ⟨dd, gs, e0, e1, e2, e3, e4, e5⟩
      · rw [e] at hl; cases hl
      · obtain ⟨v, l1, l2⟩ := look_of e4 e5 hl
        have ec := E.one _ _ h1 gD
        have base := pe_xf (X := X) (a := a) (pn := pn) (pos := pos) (n := f) ⟨ec.hg, ec.hk, ec.hs, ec.hd⟩ (hn D gD h1 h0) hz hd (pe_var (X := X.suite a ((a, oe) :: pn)) (i := i) (x := n) (pos := q) hN hv hdn hcd) hb
        exact base.run pins s σ H Q I ⟨_, hs, rfl, rfl, dd, gs, v, e1, e2, l1, o.here rh l2⟩
  · exact o.elim
end
/-! ### dicts with texts as keys -/
def sGet (kvs : List (Str × PV)) (k : Str) : Option PV := (kvs.find? fun q => decide (q.1 = k)).map (·.2)
def sPut (kvs : List (Str × PV)) (k : Str) (v : PV) : List (Str × PV) :=
  if (kvs.any fun q => decide (q.1 = k)) = true then kvs.map (fun q => if q.1 = k then (q.1, v) else q) else kvs ++ [(k, v)]
@[simp] def pSGet (x y : PV) (h : IH) : Res PV := match x, y with
  | .obj n, .str k => (match h[n]? with
    | some (.dks kvs) => opt (sGet kvs k) h
    | _ => .bad)
  | _, _ => .bad
@[simp] def pSIn (y x : PV) (h : IH) : Res PV := match x, y with
  | .obj n, .str k => (match h[n]? with
    | some (.dks kvs) => .ok (.bl (sGet kvs k).isSome) h
    | _ => .bad)
  | _, _ => .bad
@[simp] def sSPutX (D Kx V : EX) : SX := fun r h => toS (V r h) r fun v h1 => toS (D r h1) r fun d h2 => toS (Kx r h2) r fun kk h3 => match d, kk with
  | .obj n, .str k => (match h3[n]? with
    | some (.dks kvs) => if kvs.length < 16777216 then .nx r (h3.set n (.dks (sPut kvs k v))) else .bad
    | _ => .bad)
  | _, _ => .bad
@[simp] def eVals : List (Str × EX) → AX
  | [] => aNil
  | q :: L => aCons q.2 (eVals L)
@[simp] def eDisp (L : List (Str × EX)) : EX := fun r h => (eVals L r (h ++ [.dks []])).bind fun vs h1 => match h1[h.length]? with
  | some (.dks []) => .ok (.obj h.length) (h1.set h.length (.dks (((L.map (·.1)).zip vs).foldl (fun acc kv => sPut acc kv.1 kv.2) [])))
  | _ => .bad
section
variable {K : PySem.W.Frag} {mg : Str → Option Value} {as : List Addr} {H : Hp}
theorem inr_inj {a b : Str} : (Sum.inr a : Key) = Sum.inr b ↔ a = b := ⟨fun h => Sum.inr.inj h, fun h => by rw [h]⟩
theorem sGet_of (k : Str) : ∀ {kvs : List (Str × PV)} {gs : List (Key × V)}, gs.map (·.1) = kvs.map (fun q => (Sum.inr q.1 : Key)) → RPs K mg H as (kvs.map (·.2)) (gs.map (·.2)) →
    (∃ p v, sGet kvs k = some p ∧ valV gs (Sum.inr k) = some v ∧ RP K mg H as p v) ∨ (sGet kvs k = none ∧ valV gs (Sum.inr k) = none)
  | [], [], _, _ => .inr ⟨rfl, rfl⟩
  | [], g :: gs, e, _ => by cases e
  | q :: kvs, [], e, _ => by cases e
  | q :: kvs, g :: gs, e, r => by
    simp only [List.map_cons, List.cons.injEq] at e
    cases r with
    | cons r1 r2 =>
      by_cases hk : q.1 = k
      · refine .inl ⟨q.2, g.2, by simp [sGet, List.find?_cons, hk], valV_pos (by rw [e.1, hk]), r1⟩
      · have hk' : ¬ g.1 = Sum.inr k := by rw [e.1]; exact fun z => hk (inr_inj.mp z)
        have e2 : sGet (q :: kvs) k = sGet kvs k := by simp [sGet, List.find?_cons, hk]
        rw [e2, valV_neg hk']
        exact sGet_of k e.2 r2
theorem anyS_of (k : Str) {kvs : List (Str × PV)} {gs : List (Key × V)} (e : gs.map (·.1) = kvs.map (fun q => (Sum.inr q.1 : Key))) :
    (gs.any fun kv => decide (kv.1 = Sum.inr k)) = (kvs.any fun q => decide (q.1 = k)) := by
  induction kvs generalizing gs with
  | nil => cases gs with
    | nil => rfl
    | cons _ _ => cases e
  | cons q kvs ih => cases gs with
    | nil => cases e
    | cons g gs =>
      simp only [List.map_cons, List.cons.injEq] at e
      rw [List.any_cons, List.any_cons, ih e.2, e.1]
      congr 1
      rw [decide_eq_decide]
      exact inr_inj
theorem sPut_of (k : Str) {v : PV} {u : V} (rv : RP K mg H as v u) {kvs : List (Str × PV)} {gs : List (Key × V)} (e : gs.map (·.1) = kvs.map (fun q => (Sum.inr q.1 : Key))) (r : RPs K mg H as (kvs.map (·.2)) (gs.map (·.2))) :
    (putK gs (Sum.inr k) u).map (·.1) = (sPut kvs k v).map (fun q => (Sum.inr q.1 : Key)) ∧ RPs K mg H as ((sPut kvs k v).map (·.2)) ((putK gs (Sum.inr k) u).map (·.2)) := by
  unfold putK sPut
  rw [anyS_of k e]
  split
  · rename_i hc
    clear hc
    induction kvs generalizing gs with
    | nil => cases gs with
      | nil => exact ⟨rfl, .nil⟩
      | cons _ _ => cases e
    | cons q kvs ih => cases gs with
      | nil => cases e
      | cons g gs =>
        simp only [List.map_cons, List.cons.injEq] at e
        cases r with
        | cons r1 r2 =>
          obtain ⟨i1, i2⟩ := ih e.2 r2
          by_cases hk : q.1 = k
          · have hg : g.1 = Sum.inr k := by rw [e.1, hk]
            simp only [List.map_cons, if_pos hk, if_pos hg]
            exact ⟨by rw [i1, hg, hk], .cons rv i2⟩
          · have hg : ¬ g.1 = Sum.inr k := by rw [e.1]; exact fun z => hk (inr_inj.mp z)
            simp only [List.map_cons, if_neg hk, if_neg hg]
            exact ⟨by rw [i1, e.1], .cons r1 i2⟩
  · simp only [List.map_append, List.map_cons, List.map_nil]
    exact ⟨by rw [e], r.append (.one rv)⟩
theorem merge_of : ∀ {ks : List Str} {ps : List PV} {vs : List V} {kvs : List (Str × PV)} {gs : List (Key × V)}, RPs K mg H as ps vs → gs.map (·.1) = kvs.map (fun q => (Sum.inr q.1 : Key)) → RPs K mg H as (kvs.map (·.2)) (gs.map (·.2)) →
    (((ks.map (Sum.inr : Str → Key)).zip vs).foldl (fun acc kv => putK acc kv.1 kv.2) gs).map (·.1) = ((ks.zip ps).foldl (fun acc kv => sPut acc kv.1 kv.2) kvs).map (fun q => (Sum.inr q.1 : Key)) ∧
    RPs K mg H as (((ks.zip ps).foldl (fun acc kv => sPut acc kv.1 kv.2) kvs).map (·.2)) ((((ks.map (Sum.inr : Str → Key)).zip vs).foldl (fun acc kv => putK acc kv.1 kv.2) gs).map (·.2))
  | [], _, _, _, _, _, e, r => by simpa using ⟨e, r⟩
  | k :: ks, _, _, _, _, .nil, e, r => by simpa using ⟨e, r⟩
  | k :: ks, _, _, _, _, .cons r1 r2, e, r => by
    obtain ⟨q1, q2⟩ := sPut_of k r1 e r
    exact merge_of (ks := ks) r2 q1 q2
theorem sget_rel {h : IH} {n : Nat} {k : Str} {kvs : List (Str × PV)} {U V : V} (rh : RH K mg H as h) (rx : RP K mg H as (.obj n) U) (ry : RP K mg H as (.str k) V) (e : h[n]? = some (.dks kvs)) :
    ∃ a ov, U = .ref a ∧ DGet H a V ov ∧ ((∃ p v, sGet kvs k = some p ∧ ov = some v ∧ RP K mg H as p v) ∨ (sGet kvs k = none ∧ ov = none)) := by
  cases rx with
  | obj ha => cases ry with
    | str _ =>
      obtain ⟨a, g1, gs, g2, ek, rs⟩ := rh.at_ _ _ e
      rw [ha] at g1; cases g1
      refine ⟨_, _, rfl, DGet.k g2 (k := Sum.inr k), ?_⟩
      rcases sGet_of k ek rs with ⟨p, v, h1, h2, h3⟩ | ⟨h1, h2⟩
      · exact .inl ⟨p, v, h1, h2, h3⟩
      · exact .inr ⟨h1, h2⟩
end
section
variable {X : Cx} {W : WX} {k : Nat} {a b e o i : Expr} {es : List Expr} {pos p apos : Pos} {A B C : EX} {L : AX}
theorem ie_sget (cx : Ctx X W k) (ha : PE X a (IE X.K X.mg W A)) (hb : PE X b (IE X.K X.mg W B)) (hs : NoSl b := by intro _ _; rfl) : PE X (.Subscript a b pos) (IE X.K X.mg W (eOp pSGet A B)) := by
  refine peImp (pe_dget (hu_of cx.room) ha hb hs) fun s H Q ⟨as, ρ, hh, f, x, o⟩ => ?_
  refine ⟨as, ρ, hh, f, x, (Out.bind o).imp fun V H1 ⟨as1, h1, p1, S1, x1, r1, o1⟩ => ?_⟩
  refine ⟨as1, ρ, h1, f.mono S1, x1, (Out.bind o1).imp fun V2 H2 ⟨as2, h2, p2, S2, x2, r2, o2⟩ => ?_⟩
  unfold pSGet at o2
  split at o2
  · split at o2
    · rename_i kvs hk
      obtain ⟨a, ov, rfl, g, z⟩ := sget_rel x2 (r1.mono S2) r2 hk
      rcases z with ⟨p, v, h1, rfl, h3⟩ | ⟨h1, h2⟩
      · rw [h1] at o2
        exact ⟨_, _, rfl, g, o2.here x2 h3⟩
      · rw [h1] at o2; exact o2.elim
    · exact o2.elim
  · exact o2.elim
theorem snd_sin {K : PySem.W.Frag} {mg : Str → Option Value} : Snd K mg pSIn (fun y x H Q => ∃ a o, x = .ref a ∧ DGet H a y o ∧ Q (.bl o.isSome) H) := by
  intro W s as H h x y U V Q rh rx ry o
  unfold pSIn at o
  split at o
  · split at o
    · rename_i kvs hk
      obtain ⟨a, ov, rfl, g, z⟩ := sget_rel rh ry rx hk
      refine ⟨_, _, rfl, g, ?_⟩
      rcases z with ⟨p, v, h1, rfl, h3⟩ | ⟨h1, rfl⟩
      · rw [h1] at o; exact o.here rh (.bl _)
      · rw [h1] at o; exact o.here rh (.bl _)
    · exact o.elim
  · exact o.elim
theorem ie_sin (cx : Ctx X W k) (ha : PE X a (IE X.K X.mg W A)) (hb : PE X b (IE X.K X.mg W B)) (hm : behindInMarks .In b = false := by rfl) : PE X (.Compare a [.In] [b] pos) (IE X.K X.mg W (eOp pSIn A B)) := ie_cmp (op_din (hu_of cx.room)) snd_sin ha hb hm
theorem it_sin (cx : Ctx X W k) (ha : PE X a (IE X.K X.mg W A)) (hb : PE X b (IE X.K X.mg W B)) (hm : behindInMarks .In b = false := by rfl) : PT X (.Compare a [.In] [b] pos) (IT X.K X.mg W (tBl (eOp pSIn A B))) := it_cmp (op_din (hu_of cx.room)) snd_sin ha hb hm
theorem is_sput {value : Expr} {pos' : Pos} (cx : Ctx X W k) (hv : PE X value (IE X.K X.mg W C)) (ho : PE X o (IE X.K X.mg W A)) (hi : PE X i (IE X.K X.mg W B)) (hs : swapsWith value (some (.Subscript o i pos')) pos.line X.env = pure false := by rfl) :
    PS X (.Assign [.Subscript o i pos'] value pos) (IS X.K X.mg W (sSPutX A B C)) := by
  refine psImp (ps_dput (hu_of cx.room) ho hi hv hs) fun D s H ⟨as, r, h, f, x, o⟩ => ?_
  refine ⟨as, r, h, f, x, (outS_of f o).imp fun V H1 ⟨as1, h1, p1, S1, x1, r1, o1⟩ => ?_⟩
  refine ⟨as1, r, h1, f.mono S1, x1, (outS_of (f.mono S1) o1).imp fun V2 H2 ⟨as2, h2, p2, S2, x2, r2, o2⟩ => ?_⟩
  refine ⟨as2, r, h2, (f.mono S1).mono S2, x2, (outS_of ((f.mono S1).mono S2) o2).imp fun V3 H3 ⟨as3, h3, p3, S3, x3, r3, o3⟩ => ?_⟩
  split at o3
  · rename_i n kk _
    split at o3
    · rename_i kvs hk
      split at o3
      · rename_i hl
        have r2' := r2.mono S3
        have r1' := (r1.mono S2).mono S3
        cases r2' with
        | obj ha => cases r3 with
          | str _ =>
            obtain ⟨a, g1, gs, g2, ek, rs⟩ := x3.at_ _ _ hk
            rw [ha] at g1; cases g1
            have hlen : gs.length = kvs.length := by have := congrArg List.length ek; simpa using this
            refine ⟨_, _, rfl, DPut.k g2 (k := Sum.inr kk) (by rw [sizeLine_eq, hlen]; exact hl), ?_⟩
            have S4 := Stp.put (o := .dK (putK gs (Sum.inr kk) V)) x3 ha hk
            obtain ⟨q1, q2⟩ := sPut_of kk r1' ek rs
            exact o3 _ _ as3 S4 (x3.put (m := .dks (sPut kvs kk p1)) ha hk ⟨_, upd_same, q1, q2.mono S4⟩) ((((f.mono S1).mono S2).mono S3).mono S4)
      · exact o3.elim
    · exact o3.elim
  · exact o3.elim
theorem pairs_of : ∀ (L : List (Str × EX)) {s : L2.St} {H : Hp} {as : List Addr} {r : Fm} {h : IH} {Q : List (V × V) → Hp → Prop}, RF X.K X.mg H as r s → RH X.K X.mg H as h →
    Out X.K X.mg (fun H as p v => RPs X.K X.mg H as p v) W s as H (fun Vs H2 => Q ((L.map fun q => V.str q.1).zip Vs) H2) (eVals L r h) → tPairs (L.map fun q => (tC (.str q.1), IE X.K X.mg W q.2)) s H Q
  | [], s, H, as, r, h, Q, f, x, o => o.here x RPs.nil
  | q :: L, s, H, as, r, h, Q, f, x, o => by
    refine ⟨as, r, h, f, x, (Out.bind o).imp fun V H1 ⟨as1, h1, p, S1, x1, r1, o1⟩ => ?_⟩
    refine pairs_of L (f.mono S1) x1 ((Out.bind o1).imp fun Vs H2 ⟨as2, h2, ps, S2, x2, r2, o2⟩ => ?_)
    exact o2.here x2 (RPs.cons (r1.mono S2) r2)
theorem ie_disp (L : List (Str × EX)) {keys : List (Option Expr)} {values : List Expr} (hp : PPs X pos keys values (L.map fun q => (tC (.str q.1), IE X.K X.mg W q.2))) (hl : keys.length = L.length := by rfl) (h15 : L.length ≤ 15 := by decide)
    (hall : keys.all (·.isSome) = true := by rfl) (hv : keys.length = values.length := by rfl) (h0 : keys ≠ [] := by intro h; cases h) : PE X (.Dict keys values pos) (IE X.K X.mg W (eDisp L)) := by
  refine peImp (pe_disp hp hall hv h0 (by rw [hl]; exact h15)) fun s H Q ⟨as, ρ, hh, f, x, o⟩ => ?_
  intro p np
  have S := Stp.new (o := .dK []) x np
  have x1 := x.new (m := .dks []) np ⟨[], upd_same, rfl, .nil⟩
  refine pairs_of L (f.mono S) x1 ((Out.bind (Out.shift S o)).imp fun Vs H2 ⟨as2, h2, ps, S2, x2, r2, o2⟩ => ?_)
  have ap : (as ++ [p])[hh.length]? = some p := by rw [List.getElem?_append_right (by rw [x.len]; exact Nat.le_refl _), x.len, Nat.sub_self]; rfl
  have ap2 := S2.get ap
  split at o2
  · rename_i hk
    obtain ⟨a, g1, gs, g2, ek, rs⟩ := x2.at_ _ _ hk
    rw [ap2] at g1; cases g1
    have eg : gs = [] := by cases gs with
      | nil => rfl
      | cons _ _ => cases ek
    subst eg
    refine ⟨g2, ((L.map fun q => (Sum.inr q.1 : Key)).zip Vs), ?_, ?_, ?_⟩
    · rw [List.map_zip_eq_zipWith, List.zip_eq_zipWith, List.zipWith_map_left, List.zipWith_map_left]
      rfl
    · rw [List.length_zip, List.length_map]; omega
    · obtain ⟨q1, q2⟩ := merge_of (ks := L.map (·.1)) (kvs := []) (gs := []) r2 rfl .nil
      rw [List.map_map] at q1 q2
      have S3 := Stp.put (o := .dK (mergeK [] ((L.map fun q => (Sum.inr q.1 : Key)).zip Vs))) x2 ap2 hk
      exact o2 _ _ as2 S3 (x2.put ap2 hk ⟨_, upd_same, q1, q2.mono S3⟩) (.obj ap2)
  · exact o2.elim
/-! ### o[i], x = a, b -/
@[simp] def sIxVar (O I : EX) (j : Nat) (L : AX) : SX := fun r h => toS (L r h) r fun vs h1 => match vs with
  | [v, w] => toS (O r h1) r fun o h2 => toS (I r h2) r fun i h3 => (match o, i with
    | .obj n, .int k => (match h3[n]? with
      | some (.lst xs) => (match ixN xs.length k with
        | some m => .nx (r.set j (some w)) (h3.set n (.lst (xs.set m v)))
        | none => .bad)
      | _ => .bad)
    | _, _ => .bad)
  | _ => .bad
theorem is_ixvar {x : Str} {px ppos pt : Pos} {kt k2 pt2} {O I : EX} {j : Nat} (cx : Ctx X W k) (ha : PA X [a, b] (IA X.K X.mg W L)) (ho : PE X o (IE X.K X.mg W O)) (hi : PE X i (IE X.K X.mg W I))
    (hset : ∀ v, assign (.Subscript o i ppos) X.env v = (do
      let ov ← holding [v] (eval o X.env)
      let iv ← holding [v, ov] (eval i X.env)
      standAt ppos
      holding [v, ov, iv] (setItem ov iv v)
      release [v, ov, iv] []) := by intro _; rfl)
    (hj : X.N[j]? = some x := by rfl) (hx : Loc X.env.scope x := by first | exact Or.inl rfl | exact Or.inr rfl) (hf : X.fn x = true ∨ X.env.scope.names.lookup x = some .local := by first | exact .inl rfl | exact .inr rfl | assumption)
    (h2 : (assignEach [.Subscript o i ppos, .Name x px] X.env).map (·.2) = assign (.Subscript o i ppos) X.env :: (assignEach [.Name x px] X.env).map (·.2) := by rfl) (h3 : (assignEach [.Name x px] X.env).map (·.2) = assign (.Name x px) X.env :: (assignEach [] X.env).map (·.2) := by rfl)
    (hn : (assignEach [.Subscript o i ppos, .Name x px] X.env).length = 2 := by rfl) (hst : (assignEach [.Subscript o i ppos, .Name x px] X.env).findIdx? (·.1) = none := by rfl)
    (hs : swapsWithSole [.Tuple [.Subscript o i ppos, .Name x px] kt pt] (.Tuple [a, b] k2 pt2) pos.line X.env = pure false := by rfl) (hw : swappedStores [.Tuple [.Subscript o i ppos, .Name x px] kt pt] (.Tuple [a, b] k2 pt2) X.env = pure none := by rfl)
    (h1 : (assignEach [.Tuple [.Subscript o i ppos, .Name x px] kt pt] X.env).map (·.2) = [assign (.Tuple [.Subscript o i ppos, .Name x px] kt pt) X.env] := by rfl) :
    PS X (.Assign [.Tuple [.Subscript o i ppos, .Name x px] kt pt] (.Tuple [a, b] k2 pt2) pos) (IS X.K X.mg W (sIxVar O I j L)) := by
  refine psImp (ps_asg (pe_tup ha) (pg_tup cx.calm (pgs_cons (pg_sub ho hi set_list hset) (pgs_cons (pg_name cx.nd hj hx hf) pgs_nil h3) h2) hn hst) hs hw h1) fun D s H ⟨as, r, h, f, x, o⟩ => ?_
  refine ⟨as, r, h, f, x, (outS_of f o).imp fun Vs H1 ⟨as1, h1, ps, S1, x1, r1, o1⟩ => ?_⟩
  split at o1
  · obtain ⟨v, w, rfl, rv, rw'⟩ := r1.inv2
    refine ⟨by rw [sizeLine_eq]; show 2 ≤ 16777216; omega, fun p np => ?_⟩
    have S2 := Stp.lay (o := .tup [v, w]) x1 np
    have x2 := x1.lay (o := .tup [v, w]) np
    refine ⟨p, _, rfl, SqT.of upd_same, rfl, _, _, rfl, as1, r, h1, (f.mono S1).mono S2, x2, (outS_of ((f.mono S1).mono S2) (OutS.shift S2 o1)).imp fun V3 H3 ⟨as3, h3, p3, S3, x3, r3, o3⟩ => ?_⟩
    refine ⟨as3, r, h3, ((f.mono S1).mono S2).mono S3, x3, (outS_of (((f.mono S1).mono S2).mono S3) o3).imp fun V4 H4 ⟨as4, h4, p4, S4, x4, r4, o4⟩ => ?_⟩
    split at o4
    · split at o4
      · rename_i xs hx
        split at o4
        · rename_i m hm
          have r3' := r3.mono S4
          cases r3' with
          | obj ha => cases r4 with
            | int kk =>
              obtain ⟨a, g1, ys, g2, rs⟩ := x4.at_ _ _ hx
              rw [ha] at g1; cases g1
              have S5 := Stp.put (o := .lst (ys.set m v)) x4 ha hx
              have q := (((rv.mono S2).mono S3).mono S4).mono S5
              have q' := (((rw'.mono S2).mono S3).mono S4).mono S5
              refine ⟨_, ys, _, m, rfl, rfl, g2, by rw [← rs.length]; exact hm, _, _, rfl, rfl, ?_⟩
              exact o4 _ _ as4 S5 (x4.put (m := .lst (xs.set m _)) ha hx ⟨_, upd_same, RPs.set q m (rs.mono S5)⟩) ((((((f.mono S1).mono S2).mono S3).mono S4).mono S5).set q')
        · exact o4.elim
      · exact o4.elim
    · exact o4.elim
  · exact o1.elim
theorem fe_add {φ : Fac} (m : Mon φ) (ha : PE X a (IEf φ X.K X.mg W A)) (hb : PE X b (IEf φ X.K X.mg W B)) : PE X (.BinOp a .Add b pos) (IEf φ X.K X.mg W (eOp pAdd A B)) := fe_op m (op_add.or (op_add_str.or (op_catA.or op_cat))) snd_add ha hb
theorem fe_eq {φ : Fac} (m : Mon φ) (hu : X.A.units + 64 < cLine) (ha : PE X a (IEf φ X.K X.mg W A)) (hb : PE X b (IEf φ X.K X.mg W B)) : PE X (.Compare a [.Eq] [b] pos) (IEf φ X.K X.mg W (eOp pEq A B)) := fe_cmp m (op_eqD hu) snd_eq ha hb (nomark _)
theorem ft_eq {φ : Fac} (m : Mon φ) (hu : X.A.units + 64 < cLine) (ha : PE X a (IEf φ X.K X.mg W A)) (hb : PE X b (IEf φ X.K X.mg W B)) : PT X (.Compare a [.Eq] [b] pos) (ITf φ X.K X.mg W (tBl (eOp pEq A B))) := ft_cmp m (op_eqD hu) snd_eq ha hb (nomark _)
theorem ft_ne {φ : Fac} (m : Mon φ) (hu : X.A.units + 64 < cLine) (ha : PE X a (IEf φ X.K X.mg W A)) (hb : PE X b (IEf φ X.K X.mg W B)) : PT X (.Compare a [.NotEq] [b] pos) (ITf φ X.K X.mg W (tBl (eOp pNe A B))) := ft_cmp m (op_neD hu) snd_ne ha hb (nomark _)
end
/-- the names of the exceptions' fields -/
def ExFl (K : PySem.W.Frag) (mg : Str → Option Value) (cs fl : List Str) : Prop := ∀ x f C, mg x = some (.ref C) → cs.contains x = true → fl.contains f = true → PySem.W.findIn K (.ref C) f = some none
def bXfl (cs fl : List Str) : FrB := fun K => cs.all fun x => bGlo x K && fl.all fun f => He.eqO (PySem.W.findIn K (.ref (He.ga K x)) f) (some none)
theorem bXfl_ok {K : PySem.W.Frag} {mg : Str → Option Value} {h : Heap} {cs fl : List Str} (X : K.In h) (G : h.Ns mainGlobals mg) (e : bXfl cs fl K = true) : ExFl K mg cs fl := by
  intro x f C g hx hf
  obtain ⟨a, b⟩ := He.ba (List.all_eq_true.mp e x (mem_of_contains hx))
  rw [He.glo_ok X G a] at g
  cases g
  exact He.eqO_ok (List.all_eq_true.mp b f (mem_of_contains hf))
end WR

/-! texts, reversed -/
namespace WR
open PySem PySem.Spec PyProof.Rows L2
/-! ### the code -/
@[simp] def pStr1 : List PV → IH → Res PV
  | [.int i], h => if i.natAbs.log2 < 1920 then .ok (.str (toString i)) h else .bad
  | _, _ => .bad
@[simp] def pIntS : List PV → IH → Res PV
  | [.str a], h => if a.length ≤ 640 then opt ((PySem.intText? a).map .int) h else .bad
  | _, _ => .bad
@[simp] def eFmt (A : EX) : EX := fun r h => (A r h).bind fun v h1 => match v with
  | .str y => if y.length ≤ 16777216 then .ok (.str y) h1 else .bad
  | .int i => if i.natAbs.log2 < 1920 then .ok (.str (toString i)) h1 else .bad
  | _ => .bad
@[simp] def eJs : List EX → Str → Fm → IH → Res PV
  | [], acc, _, h => .ok (.str acc) h
  | A :: L, acc, r, h => (A r h).bind fun v h1 => match v with
    | .str y => if (acc ++ y).length ≤ 16777216 then eJs L (acc ++ y) r h1 else .bad
    | _ => .bad
@[simp] def eJoined (L : List EX) : EX := fun r h => eJs L Str.empty r h
@[simp] def strsOf : List PV → Option (List Str)
  | [] => some []
  | .str x :: r => (strsOf r).map (x :: ·)
  | _ => none
@[simp] def eSplit (A B : EX) : EX := fun r h => (A r h).bind fun x h1 => match x with
  | .str a => (B r h1).bind fun y h2 => (match y with
    | .str b => if (b.length == 0) = false ∧ a.length + 2 ≤ 16777216 then .ok (.obj h2.length) (h2 ++ [.lst ((Txt.split a b).map .str)]) else .bad
    | _ => .bad)
  | _ => .bad
@[simp] def eJoin (A B : EX) : EX := fun r h => (A r h).bind fun x h1 => match x with
  | .str a => (B r h1).bind fun y h2 => (match seqOf y h2 with
    | some ys => (match strsOf ys with
      | some zs => if (zs.map (·.length)).sum + zs.length * a.length ≤ 16777216 then .ok (.str (Txt.join a zs)) h2 else .bad
      | none => .bad)
    | none => .bad)
  | _ => .bad
@[simp] def eRstrip (A : EX) : EX := fun r h => (A r h).bind fun x h1 => match x with
  | .str a => if a.length ≤ 16777216 then .ok (.str (Txt.rstrip a)) h1 else .bad
  | _ => .bad
@[simp] def pInT : PV → PV → IH → Res PV
  | .str x, .str z, h => (match x.cps.toList with
    | [c] => .ok (.bl (decide (c ∈ z.cps.toList))) h
    | _ => .bad)
  | _, _, _ => .bad
@[simp] def pNotInT : PV → PV → IH → Res PV
  | .str x, .str z, h => (match x.cps.toList with
    | [c] => .ok (.bl (!decide (c ∈ z.cps.toList))) h
    | _ => .bad)
  | _, _, _ => .bad
@[simp] def itStr (x : Str) : ItF := fun i _ => match x.cps.toList[i]? with
  | some c => some (some (.str ⟨#[c]⟩))
  | none => some none
@[simp] def eChars (A : EX) : Fm → IH → Res ItF := fun r h => (A r h).bind fun v h1 => match v with
  | .str x => .ok (itStr x) h1
  | _ => .bad
/-- reversed(list): the list stays as it is -/
@[simp] def itRev (m n : Nat) : ItF := fun i h => match h[m]? with
  | some (.lst xs) => if xs.length = n then (if i < n then (match xs[n - 1 - i]? with
    | some v => some (some v)
    | none => none) else some none) else none
  | _ => none
@[simp] def eRev (L : AX) : Fm → IH → Res ItF := fun r h => (L r h).bind fun vs h1 => match vs with
  | [.obj m] => (match h1[m]? with
    | some (.lst xs) => .ok (itRev m xs.length) h1
    | _ => .bad)
  | _ => .bad
section
variable {X : Cx} {W : WX} {k : Nat} {a b e o tg : Expr} {es : List Expr} {pos p apos : Pos} {A B C : EX} {L : AX}
theorem strs_rp {K : PySem.W.Frag} {mg : Str → Option Value} {H : Hp} {as : List Addr} : ∀ zs : List Str, RPs K mg H as (zs.map PV.str) (zs.map V.str)
  | [] => .nil
  | z :: zs => .cons (.str z) (strs_rp zs)
theorem ie_str1 (hm : X.mg "str" = none) (ha : PA X [e] (IA X.K X.mg W L)) (hg : Gl X "str" := by rfl) (he : starEach [e] X.env = (false, eval e X.env) :: starEach [] X.env := by rfl) : PE X (.Call (.Name "str" p) [e] [] pos) (IE X.K X.mg W (eB pStr1 L)) := by
  refine ie_callT call_str_int (fun {W s as H h xs Us Q} rh rs o => ?_) hm PyProof.Rows.Boot.«str» ha hg (by decide) (by decide) he rfl
  unfold pStr1 at o
  split at o
  · obtain ⟨v, rfl, rv⟩ := rs.inv1
    cases rv
    split at o
    · rename_i hl; exact ⟨_, rfl, hl, o.here rh (.str _)⟩
    · exact o.elim
  · exact o.elim
theorem ie_ints (hm : X.mg "int" = none) (ha : PA X [e] (IA X.K X.mg W L)) (hg : Gl X "int" := by rfl) (he : starEach [e] X.env = (false, eval e X.env) :: starEach [] X.env := by rfl) : PE X (.Call (.Name "int" p) [e] [] pos) (IE X.K X.mg W (eB pIntS L)) := by
  refine ie_callT call_int_str (fun {W s as H h xs Us Q} rh rs o => ?_) hm PyProof.Rows.Boot.«int» ha hg (by decide) (by decide) he rfl
  unfold pIntS at o
  split at o
  · obtain ⟨v, rfl, rv⟩ := rs.inv1
    cases rv
    split at o
    · rename_i x hl
      cases q : PySem.intText? x with
      | none => rw [q] at o; exact o.elim
      | some n => rw [q] at o; exact ⟨_, n, rfl, q, hl, o.here rh (.int _)⟩
    · exact o.elim
  · exact o.elim
theorem ie_fmt (ha : PE X e (IE X.K X.mg W A)) : PE X (.FormattedValue e (-1) none pos) (IE X.K X.mg W (eFmt A)) := by
  refine peImp (pe_fmt ha) fun s H Q ⟨as, ρ, hh, f, x, o⟩ => ?_
  refine ⟨as, ρ, hh, f, x, (Out.bind o).imp fun V H1 ⟨as1, h1, p1, S1, x1, r1, o1⟩ => ?_⟩
  cases r1 with
  | str y =>
    simp only at o1
    split at o1
    · rename_i hl; exact .inl ⟨y, rfl, by rw [sizeLine_eq]; exact hl, o1.here x1 (.str _)⟩
    · exact o1.elim
  | int i =>
    simp only at o1
    split at o1
    · rename_i hl; exact .inr ⟨i, rfl, hl, o1.here x1 (.str _)⟩
    · exact o1.elim
  | non => exact o1.elim
  | bl => exact o1.elim
  | tup => exact o1.elim
  | fls => exact o1.elim
  | obj => exact o1.elim
  | glo => exact o1.elim
  | ty => exact o1.elim
  | key => exact o1.elim
theorem js_of : ∀ (L : List EX) (acc : Str) {s : L2.St} {H : Hp} {as : List Addr} {r : Fm} {h : IH} {Q : VK}, RF X.K X.mg H as r s → RH X.K X.mg H as h → Out X.K X.mg (fun H as p v => RP X.K X.mg H as p v) W s as H Q (eJs L acc r h) →
    tJs (L.map fun A => IE X.K X.mg W A) acc s H fun out H1 => Q (.str out) H1
  | [], acc, s, H, as, r, h, Q, f, x, o => o.here x (.str _)
  | A :: L, acc, s, H, as, r, h, Q, f, x, o => by
    refine ⟨as, r, h, f, x, (Out.bind o).imp fun V H1 ⟨as1, h1, p1, S1, x1, r1, o1⟩ => ?_⟩
    cases r1 with
    | str y =>
      simp only at o1
      split at o1
      · rename_i hl; exact ⟨y, rfl, by rw [sizeLine_eq]; exact hl, js_of L (acc ++ y) (f.mono S1) x1 o1⟩
      · exact o1.elim
    | int i => exact o1.elim
    | non => exact o1.elim
    | bl => exact o1.elim
    | tup => exact o1.elim
    | fls => exact o1.elim
    | obj => exact o1.elim
    | glo => exact o1.elim
    | ty => exact o1.elim
    | key => exact o1.elim
theorem ie_joined (L : List EX) {v1 v2 : Expr} {rest : List Expr} (h : PJ X (v1 :: v2 :: rest) (L.map fun A => IE X.K X.mg W A)) : PE X (.JoinedStr (v1 :: v2 :: rest) pos) (IE X.K X.mg W (eJoined L)) :=
  peImp (pe_joined h) fun s H Q ⟨as, ρ, hh, f, x, o⟩ => js_of L Str.empty f x o
theorem ie_split (ho : PE X o (IE X.K X.mg W A)) (he : PE X e (IE X.K X.mg W B)) (hs : starEach [e] X.env = [(false, eval e X.env)] := by rfl) (hbase : attributeBase o "split" X.env (eval o X.env) = eval o X.env := by rfl) (hline : (apos.endLine == pos.line) = true := by rfl) :
    PE X (.Call (.Attribute o "split" apos) [e] [] pos) (IE X.K X.mg W (eSplit A B)) := by
  refine peImp (pe_split ho he hs hbase hline) fun s H Q ⟨as, ρ, hh, f, x, o⟩ => ?_
  refine ⟨as, ρ, hh, f, x, (Out.bind o).imp fun V H1 ⟨as1, h1, p1, S1, x1, r1, o1⟩ => ?_⟩
  split at o1
  · rename_i aa
    cases r1
    refine ⟨⟨_, rfl⟩, as1, ρ, h1, f.mono S1, x1, (Out.bind o1).imp fun V2 H2 ⟨as2, h2, p2, S2, x2, r2, o2⟩ => ?_⟩
    split at o2
    · rename_i bb
      cases r2
      split at o2
      · rename_i hl
        refine ⟨_, _, rfl, rfl, hl.1, by rw [sizeLine_eq]; exact hl.2, fun q nq => ?_⟩
        have S := Stp.new (o := .lst ((Txt.split aa bb).map V.str)) x2 nq
        refine o2 _ _ _ S (x2.new nq ⟨_, upd_same, ?_⟩) (.obj ?_)
        · exact strs_rp _
        · rw [List.getElem?_append_right (by rw [x2.len]; exact Nat.le_refl _), x2.len, Nat.sub_self]; rfl
      · exact o2.elim
    · exact o2.elim
  · exact o1.elim
theorem ie_rstrip (ho : PE X o (IE X.K X.mg W A)) (hbase : attributeBase o "rstrip" X.env (eval o X.env) = eval o X.env := by rfl) (hline : (apos.endLine == pos.line) = true := by rfl) : PE X (.Call (.Attribute o "rstrip" apos) [] [] pos) (IE X.K X.mg W (eRstrip A)) := by
  refine peImp (pe_m0 F.slot_str_rstrip F.type_str_rstrip mt_rstrip ho hbase hline) fun s H Q ⟨as, ρ, hh, f, x, o⟩ => ?_
  refine ⟨as, ρ, hh, f, x, (Out.bind o).imp fun V H1 ⟨as1, h1, p1, S1, x1, r1, o1⟩ => ?_⟩
  split at o1
  · rename_i aa
    cases r1
    split at o1
    · rename_i hl
      exact ⟨⟨_, rfl⟩, aa, rfl, rfl, by rw [sizeLine_eq]; exact hl, o1.here x1 (.str _)⟩
    · exact o1.elim
  · exact o1.elim
theorem strsOf_eq : ∀ {ys : List PV} {zs : List Str}, strsOf ys = some zs → ys = zs.map PV.str
  | [], zs, e => by cases e; rfl
  | .str x :: r, zs, e => by
    simp only [strsOf] at e
    cases q : strsOf r with
    | none => rw [q] at e; cases e
    | some ws => rw [q] at e; cases e; rw [strsOf_eq q]; rfl
  | .non :: r, _, e => by cases e
  | .bl _ :: r, _, e => by cases e
  | .int _ :: r, _, e => by cases e
  | .tup _ :: r, _, e => by cases e
  | .fls _ :: r, _, e => by cases e
  | .obj _ :: r, _, e => by cases e
  | .glo _ :: r, _, e => by cases e
  | .ty _ :: r, _, e => by cases e
  | .key _ :: r, _, e => by cases e
theorem strs_vals {K : PySem.W.Frag} {mg : Str → Option Value} {H : Hp} {as : List Addr} : ∀ {zs : List Str} {vs : List V}, RPs K mg H as (zs.map PV.str) vs → vs = zs.map V.str
  | [], _, .nil => rfl
  | z :: zs, _, .cons a b => by
    cases a
    rw [strs_vals b]; rfl
theorem ie_join (ho : PE X o (IE X.K X.mg W A)) (he : PE X e (IE X.K X.mg W B)) (hs : starEach [e] X.env = [(false, eval e X.env)] := by rfl) (hbase : attributeBase o "join" X.env (eval o X.env) = eval o X.env := by rfl) (hline : (apos.endLine == pos.line) = true := by rfl) :
    PE X (.Call (.Attribute o "join" apos) [e] [] pos) (IE X.K X.mg W (eJoin A B)) := by
  refine peImp (pe_join ho he hs hbase hline) fun s H Q ⟨as, ρ, hh, f, x, o⟩ => ?_
  refine ⟨as, ρ, hh, f, x, (Out.bind o).imp fun V H1 ⟨as1, h1, p1, S1, x1, r1, o1⟩ => ?_⟩
  split at o1
  · rename_i aa
    cases r1
    refine ⟨⟨_, rfl⟩, as1, ρ, h1, f.mono S1, x1, (Out.bind o1).imp fun V2 H2 ⟨as2, h2, p2, S2, x2, r2, o2⟩ => ?_⟩
    split at o2
    · rename_i ys hy
      obtain ⟨q, vs, rfl, h3, r3⟩ := seqOf_at x2 r2 hy
      split at o2
      · rename_i zs hz
        split at o2
        · rename_i hl
          rw [strsOf_eq hz] at r3
          have ev := strs_vals r3
          subst ev
          refine ⟨aa, q, zs, rfl, rfl, SqK.or h3, hl, o2.here x2 (.str _)⟩
        · exact o2.elim
      · exact o2.elim
    · exact o2.elim
  · exact o1.elim
theorem cps_one {x : Str} {c : Nat} (e : x.cps.toList = [c]) : x = ⟨#[c]⟩ := by
  obtain ⟨⟨l⟩⟩ := x
  simp only at e
  subst e
  rfl
theorem snd_inT {K : PySem.W.Frag} {mg : Str → Option Value} : Snd K mg pInT (fun x y H Q => ∃ (c : Nat) (z : Str), x = .str ⟨#[c]⟩ ∧ y = .str z ∧ Q (.bl (decide (c ∈ z.cps.toList))) H) := by
  intro W s as H h x y U V Q rh rx ry o
  unfold pInT at o
  split at o
  · cases rx
    cases ry
    split at o
    · rename_i c hc
      exact ⟨c, _, by rw [cps_one hc], rfl, o.here rh (.bl _)⟩
    · exact o.elim
  · exact o.elim
theorem snd_notInT {K : PySem.W.Frag} {mg : Str → Option Value} : Snd K mg pNotInT (fun x y H Q => ∃ (c : Nat) (z : Str), x = .str ⟨#[c]⟩ ∧ y = .str z ∧ Q (.bl (!decide (c ∈ z.cps.toList))) H) := by
  intro W s as H h x y U V Q rh rx ry o
  unfold pNotInT at o
  split at o
  · cases rx
    cases ry
    split at o
    · rename_i c hc
      exact ⟨c, _, by rw [cps_one hc], rfl, o.here rh (.bl _)⟩
    · exact o.elim
  · exact o.elim
theorem it_notInT (ha : PE X a (IE X.K X.mg W A)) (hb : PE X b (IE X.K X.mg W B)) (hm : behindInMarks .NotIn b = false := by rfl) : PT X (.Compare a [.NotIn] [b] pos) (IT X.K X.mg W (tBl (eOp pNotInT A B))) := it_cmp op_notIn_sign snd_notInT ha hb hm
theorem ri_str {K : PySem.W.Frag} {mg : Str → Option Value} {as : List Addr} {H : Hp} {x : Str} : RI K mg H as (itStr x) (Its x) := by
  intro i as' H' h' S rh
  unfold itStr
  cases q : x.cps.toList[i]? with
  | none =>
    have := List.getElem?_eq_none_iff.mp q
    show x.cps.size ≤ i
    simpa using this
  | some c =>
    have hl := (List.getElem?_eq_some_iff.mp q).1
    refine ⟨(show i < x.cps.size by simpa using hl), fun y H'' hy => ?_⟩
    obtain ⟨rfl, c', e1, rfl⟩ := hy
    have : c' = c := by
      rw [← Array.getElem?_toList, q] at e1
      exact (Option.some.inj e1).symm
    subst this
    exact ⟨Stp.refl _ _, rh, .str _⟩
theorem ii_chars (ha : PE X a (IE X.K X.mg W A)) : PI X tg a (II X.K X.mg W (eChars A)) := by
  refine piImp (pi_str ha) fun s H Q ⟨as, ρ, hh, f, x, o⟩ => ?_
  refine ⟨as, ρ, hh, f, x, (Out.bind o).imp fun V H1 ⟨as1, h1, p1, S1, x1, r1, o1⟩ => ?_⟩
  split at o1
  · cases r1
    exact ⟨_, rfl, o1.here x1 ri_str⟩
  · exact o1.elim
theorem ri_rev {K : PySem.W.Frag} {mg : Str → Option Value} {as : List Addr} {H : Hp} {c : Addr} {m n : Nat} (hm : as[m]? = some c) : RI K mg H as (itRev m n) (Itv K c n) := by
  intro i as' H' h' S x
  unfold itRev
  cases q : h'[m]? with
  | none => trivial
  | some ob =>
    cases ob with
    | lst xs =>
      obtain ⟨b, e1, ys, e2, rs⟩ := x.at_ _ _ q
      rw [S.get hm] at e1; cases e1
      simp only
      by_cases hn : xs.length = n
      · rw [if_pos hn]
        by_cases hi : i < n
        · rw [if_pos hi]
          cases qi : xs[n - 1 - i]? with
          | none => trivial
          | some p =>
            obtain ⟨v, e3, r3⟩ := rs.get qi
            simp only
            refine ⟨⟨hi, ys, v, SqL.of e2, e3⟩, fun y H'' hy => ?_⟩
            obtain ⟨rfl, z⟩ := hy
            have : y = v := Option.some.inj ((z _ (SqL.of e2)).symm.trans e3)
            subst this
            exact ⟨Stp.refl _ _, x, r3⟩
        · rw [if_neg hi]
          exact Nat.le_of_not_lt hi
      · rw [if_neg hn]; trivial
    | ins => trivial
    | dct => trivial
    | dks => trivial
    | tbl => trivial
theorem ii_rev {p : Pos} (hm : X.mg "reversed" = none) (ha : PA X [e] (IA X.K X.mg W L)) (hg : Gl X "reversed" := by rfl) (hs : starEach [e] X.env = [(false, eval e X.env)] := by rfl) : PI X tg (.Call (.Name "reversed" p) [e] [] pos) (II X.K X.mg W (eRev L)) := by
  refine piImp (pi_reversed hg hm ha hs) fun s H Q ⟨as, ρ, hh, f, x, o⟩ => ?_
  refine ⟨as, ρ, hh, f, x, (Out.bind o).imp fun Vs H1 ⟨as1, h1, p1, S1, x1, r1, o1⟩ => ?_⟩
  split at o1
  · obtain ⟨v, rfl, rv⟩ := r1.inv1
    cases rv with
    | obj hq =>
      split at o1
      · rename_i xs hx
        obtain ⟨b, e1, ys, e2, rs⟩ := x1.at_ _ _ hx
        rw [hq] at e1; cases e1
        refine ⟨_, ys, rfl, SqL.of e2, ?_⟩
        rw [← rs.length]
        exact o1.here x1 (ri_rev hq)
      · exact o1.elim
  · exact o1.elim
end
end WR

/-! raise C(a, b), C keeping them as its fields -/
namespace WR
open PySem PySem.Spec PyProof.Rows L2
def bOx (K : PySem.W.Frag) (C : Addr) : Bool := match K.lookup C with
  | some ⟨.type "type", _, .cls cd, sl⟩ => (match cd.mro with
    | .ref D :: bm => D == C && (!cd.hasDel && (cd.hasDict && (PySem.HandSPX.refsVE bm && (match sl.toList with
      | [_, _, _, _, some (.builtin n), _] => n == "ValueError.__new__"
      | _ => false))))
    | _ => false)
  | _ => false
theorem bOx_ok {K : PySem.W.Frag} {C : Addr} (e : bOx K C = true) : ∃ nm q N bs bm sn sub ab col dd k0 k1 k2 k3 k5, K.lookup C = some (excClassObj nm q C N bs bm true sn sub ab col dd k0 k1 k2 k3 k5 "ValueError.__new__") ∧ PySem.HandSPX.refsVE bm = true := by
  unfold bOx at e
  split at e
  · rename_i dd cd sl ho
    split at e
    · rename_i D bm hm
      obtain ⟨e1, e⟩ := He.ba e
      obtain ⟨e2, e⟩ := He.ba e
      obtain ⟨e3, e⟩ := He.ba e
      obtain ⟨e4, e⟩ := He.ba e
      split at e
      · rename_i k0 k1 k2 k3 n k5 hs
        have e1 : D = C := beq_iff_eq.mp e1
        have e5 : n = "ValueError.__new__" := beq_iff_eq.mp e
        subst e1 e5
        obtain ⟨nm, bs, mro, ns, qn, hd, sn, sub, ab, col, del⟩ := cd
        dsimp only at hm e2 e3
        have e2 : del = false := by simpa using e2
        subst hm e2 e3
        have hsl : sl = #[k0, k1, k2, k3, some (.builtin "ValueError.__new__"), k5] := by
          obtain ⟨l⟩ := sl
          simp only at hs
          rw [hs]
        subst hsl
        exact ⟨nm, qn, ns, bs, bm, sn, sub, ab, col, dd, k0, k1, k2, k3, k5, ho, e4⟩
      · cases e
    · cases e
  · cases e
/-- an own exception class with an own __init__ -/
structure ExI (K : PySem.W.Frag) (mg : Str → Option Value) (c : Str) (C fI : Addr) : Prop where
  gC : mg c = some (.ref C)
  ox : OexC K C
  iC : PySem.W.findIn K (.ref C) "__init__" = some (some (.ref fI))
  tI : PySem.W.typeIn K (.ref fI) = some (.type "function")
def bExn (c : Str) : FrB := fun K => bOx K (He.ga K c) && (He.eqO (PySem.W.findIn K (.ref (He.ga K c)) "__setattr__") (some (some (.builtin "object.__setattr__"))) && (decide (PySem.W.subIn K (.ref (He.ga K c)) (.type "BaseException") = some true) && (decide (PySem.W.typeIn K (.ref (He.ga K c)) = some (.type "type")) &&
  (PySem.W.keepIn K (.ref (He.ga K c)) && (He.eqO (PySem.W.findIn K (.ref (He.ga K c)) "__init__") (some (some (.ref (He.ma K (He.ga K c) "__init__")))) && decide (PySem.W.typeIn K (.ref (He.ma K (He.ga K c) "__init__")) = some (.type "function")))))))
theorem bExn_ok {K : PySem.W.Frag} {mg : Str → Option Value} {h : Heap} {c : Str} (X : K.In h) (G : h.Ns mainGlobals mg) (g : bGlo c K = true) (e : bExn c K = true) : ExI K mg c (He.ga K c) (He.ma K (He.ga K c) "__init__") := by
  obtain ⟨e1, e⟩ := He.ba e
  obtain ⟨e2, e⟩ := He.ba e
  obtain ⟨e3, e⟩ := He.ba e
  obtain ⟨e4, e⟩ := He.ba e
  obtain ⟨e5, e⟩ := He.ba e
  obtain ⟨e6, e7⟩ := He.ba e
  exact ⟨He.glo_ok X G g, ⟨bOx_ok e1, He.eqO_ok e2, of_decide_eq_true e3, of_decide_eq_true e4, e5⟩, He.eqO_ok e6, of_decide_eq_true e7⟩
/-- what such an __init__ promises: two fields, one field -/
def sp2 (C : Addr) (f g : Str) : Sp := fun vs H Q _ => ∃ a x y, vs = [.ref a, x, y] ∧ H a = some (exo a C none) ∧ ∀ d, H d = none → d ≠ a → Q .non (upd (upd (upd H d (exd d [(f, x)])) a (exo a C (some d))) d (exd d [(g, y), (f, x)]))
def sp1 (C : Addr) (f : Str) : Sp := fun vs H Q _ => ∃ a x, vs = [.ref a, x] ∧ H a = some (exo a C none) ∧ ∀ d, H d = none → d ≠ a → Q .non (upd (upd H d (exd d [(f, x)])) a (exo a C (some d)))
/-- .. in the place where it stands -/
structure GX (P : Program) (w : World) (K : PySem.W.Frag) (mg : Str → Option Value) (base : Heap) (f : Addr) (j : Nat) (n : Nat) (sp : Sp) : Prop where
  ex : ∃ fd ps, FnOk P w K mg base (L2N.CX P w) j f fd ps sp ∧ Binds K fd ps [] ∧ ps.length = n
@[simp] def sRaiseN (c : Str) (fl : List Str) (L : AX) : SX := fun r h => toS (L r h) r fun vs h1 => if vs.length = fl.length then .ex ⟨c, (fl.zip vs).reverse⟩ r h1 else .bad
section
variable {X : Cx} {W : WX} {k j : Nat} {c : Str} {C fI : Addr} {p pos pos' : Pos} {e : Expr} {es : List Expr} {L : AX} {f g : Str}
theorem hp_end {H : Hp} {a d C : Addr} {o1 o2 o3 o4 o5 : HO} (na : H a = none) (da : d ≠ a) : upd (del (upd (upd (upd (upd H a o1) d o2) a o3) d o4) a) d o5 = upd H d o5 := by
  funext b
  by_cases h1 : b = d
  · subst h1; rw [upd_same, upd_same]
  · rw [upd_ne h1, upd_ne h1]
    by_cases h2 : b = a
    · subst h2; rw [del_same, na]
    · rw [del_ne h2, upd_ne h1, upd_ne h2, upd_ne h1, upd_ne h2]
theorem hp_end1 {H : Hp} {a d C : Addr} {o1 o2 o3 o5 : HO} (na : H a = none) (da : d ≠ a) : upd (del (upd (upd (upd H a o1) d o2) a o3) a) d o5 = upd H d o5 := by
  funext b
  by_cases h1 : b = d
  · subst h1; rw [upd_same, upd_same]
  · rw [upd_ne h1, upd_ne h1]
    by_cases h2 : b = a
    · subst h2; rw [del_same, na]
    · rw [del_ne h2, upd_ne h2, upd_ne h1, upd_ne h2]
theorem rx_of {K : PySem.W.Frag} {mg : Str → Option Value} {H1 : Hp} {as1 : List Addr} {h1 : IH} {d : Addr} {fs : List (Str × PV)} {gs : List (Str × V)} (gC : mg c = some (.ref C)) (x1 : RH K mg H1 as1 h1) (nd : H1 d = none) (ne : fs ≠ []) (e1 : gs.map (·.1) = fs.map (·.1)) (e2 : RPs K mg H1 as1 (fs.map (·.2)) (gs.map (·.2))) :
    RX K mg (upd H1 d (.xd gs)) as1 ⟨c, fs⟩ (.ref C) (some d) :=
  ⟨C, gC, rfl, .inr ⟨d, gs, ne, rfl, upd_same, fun z => x1.mem z nd, e1, e2.mono (Stp.lay x1 nd)⟩⟩
/-- C(e, ..) of a class with an own __init__: what is made has no context yet -/
theorem made_calm {X : Cx} {cxt : CXT} {nam : Str} {e : Expr} {es : List Expr} {ta : TA} {p pos : Pos} {C ini : Addr} {n : Nat} {data : FuncData} {pars : List Str} {want : Sp} (oc : OexC X.K C)
    (hasI : PySem.W.findIn X.K (.ref C) "__init__" = some (some (.ref ini))) (isF : PySem.W.typeIn X.K (.ref ini) = some (.type "function")) (code : FnOk X.prog X.w X.K X.mg X.base cxt n ini data pars want)
    (room : Room (n + 1) X.A) (bind : Binds X.K data pars []) (lets : Passes cxt X (fun _ _ _ => False)) (gl : Gl X nam) (at_ : X.mg nam = some (.ref C)) (args : PA X (e :: es) ta)
    (nodb : (nam == ("__debug__" : Str)) = false) (st : starEach (e :: es) X.env = (false, eval e X.env) :: starEach es X.env) (pl : (backTo pos (starEach es X.env)).any (·.1) = false) :
    L2N.PMk X (.Call (.Name nam p) (e :: es) [] pos) (tMkO C want [] ta) := by
  intro pns sh sg H0 QQ inv wanted
  obtain ⟨_, _, _, _, names, _, _, _, _, _, _, _, _, _, _, inK, has⟩ := oc.cls
  refine wpAny_Call_Name_kw (ld_glob inv gl at_ ?_ nodb)
  refine PySem.W.callWith_K (h₀ := X.base) inv.ok.mod.kin oc.kC (thn (args.run pos pns sh sg H0 _ inv wanted) fun given mid got => ⟨got.choose_spec.choose_spec.1.kIn, ?_⟩) st pl
  obtain ⟨ws, Hm, invM, rel, few, goes⟩ := got
  show wpAny _ _ (call (.ref C) given) _ _ _
  obtain ⟨heap, gens, drawn, toks, oss⟩ := mid
  let at1 : Addr := heap.objs.size + 1
  let heap2 : Heap := (heap.push (PySem.W.kdv_tup given)).push (PySem.HandSPX.excO C heap.objs.size)
  have le1 : heap.objs.size ≤ at1 := Nat.le_succ _
  have none1 : Hm at1 = none := invM.hok.fresh le1
  have goes1 := goes at1 none1
  rw [List.append_nil] at goes1
  have stays : ∀ b o, heap.get? b = some o → heap2.get? b = some o := fun b o e0 => Heap.get?_push_of_some _ (Heap.get?_push_of_some _ e0)
  have there : heap2.get? at1 = some (PySem.HandSPX.excO C heap.objs.size) := by
    show ((heap.push _).push _).get? (heap.objs.size + 1) = _
    heap_get
  have invN : Inv X pns sg (upd Hm at1 (exo at1 C none)) ⟨heap2, gens, drawn, toks, oss⟩ := invM.laid (t' := toks) (a := at1) (o := exo at1 C none) (h' := heap2) stays le1 (exo_ok there)
  have rel2 : Vals (V.ref at1 :: ws) (Value.ref at1 :: given) := .cons rfl rel
  have len : (Value.ref at1 :: given).length = pars.length := rel2.length.symm.trans (code.len _ _ _ _ goes1)
  have small : given.length ≤ sizeLine := by
    rw [← Paired.length rel, sizeLine_eq]
    exact Nat.le_trans few (by decide)
  have bound := bind _ (Value.ref at1 :: given) invN.kIn (by rw [List.append_nil]; exact len)
  rw [List.append_nil] at bound
  refine wpAny_call (PySem.HandSPX.call_own F.excBase_ValueError (fun Y => PySem.HandSPX.refsVE_contains Y names has) (invM.kIn _ _ inK)
    (PySem.W.looks_findIn invM.kIn hasI) (fun me => PySem.W.bind_fn invM.kIn me isF) small (codeAny_mono (code.run _ X.stack _ _ ⟨Value.ref at1 :: given, []⟩ (Value.ref at1 :: given) _ _ (fun _ _ _ => False)
      (room.make C given []) (invN.env0.make C given []) bound rel2 goes1) fun how after good => ?_))
  match how, good with
  | .error er, bad => exact lets pns sg _ _ er after invN bad
  | .ok .next, bad => exact bad.elim
  | .ok .brk, bad => exact bad.elim
  | .ok .cont, bad => exact bad.elim
  | .ok (.ret u), good =>
    obtain ⟨v, Hz, os2, bareZ, unZ, hokZ, relZ, isN, dd, fs, isA, isD, noD, last⟩ := good
    subst isN
    obtain ⟨heapZ, gensZ, drawnZ, toksZ, ossZ⟩ := after
    obtain ⟨tu, small2, invZ, kept, gone, obj, out⟩ := mk_end0 (d2 := drawnZ) (t2 := toksZ) invM le1 stays unZ hokZ os2 bareZ isA isD noD
    exact ⟨relZ, at1, _, _, ⟨small2, gensZ, drawnZ, toksZ, ossZ⟩, _, .ref C, some dd, rfl, invZ, kept, gone, obj, ⟨rfl, rfl, fun vs hv => by cases hv; rfl⟩, rfl, rfl, out, rfl, bareZ, raises_own oc.exC oc.tyC, last⟩
theorem is_raise2 {a b : Expr} (cx : Ctx X W k) (E : ExI X.K X.mg c C fI) (G : GX X.prog X.w X.K X.mg X.base fI j 3 (sp2 C f g)) (ha : PA X [a, b] (IA X.K X.mg W L)) (hj : j + 1 ≤ k := by decide) (hg : Gl X c := by rfl) (hdb : (c == ("__debug__" : Str)) = false := by decide)
    (he : starEach [a, b] X.env = (false, eval a X.env) :: starEach [b] X.env := by rfl) (hpl : (backTo pos (starEach [b] X.env)).any (·.1) = false := by rfl) : PS X (.Raise (some (.Call (.Name c p) [a, b] [] pos)) none pos') (IS X.K X.mg W (sRaiseN c [f, g] L)) := by
  obtain ⟨fd, ps, G1, hb, hl⟩ := G.ex
  refine psImp (L2N.ps_raise cx.calm cx.tk (made_calm E.ox E.iC E.tI G1 (cx.room.mono hj) hb passN hg E.gC ha hdb he hpl)) fun D s H ⟨as, r, h, fr, x, o⟩ => ?_
  refine ⟨as, r, h, fr, x, (outS_of fr o).imp fun Vs H1 ⟨as1, h1, vs, S1, x1, r1, o1⟩ => ?_⟩
  split at o1
  · rename_i hv
    match vs, hv, r1, o1 with
    | [u, v], _, r1, o1 =>
      obtain ⟨U, V, rfl, ru, rv⟩ := r1.inv2
      refine ⟨by show 2 ≤ 1000; omega, fun a na => ⟨a, U, V, rfl, upd_same, fun d nd da => ⟨rfl, d, [(g, V), (f, U)], ?_, upd_same, ?_, ?_⟩⟩⟩
      · rw [upd_ne (Ne.symm da), upd_same]
      · rw [upd_ne da] at nd; exact nd
      · rw [upd_ne da] at nd
        rw [hp_end (C := C) na da]
        exact o1 (.ref C) (some d) s _ as1 (Stp.lay x1 nd) (x1.lay nd) ((fr.mono S1).mono (Stp.lay x1 nd)) (rx_of E.gC x1 nd (by simp) rfl (.cons rv (.one ru)))
  · exact o1.elim
theorem is_raise1 {a : Expr} (cx : Ctx X W k) (E : ExI X.K X.mg c C fI) (G : GX X.prog X.w X.K X.mg X.base fI j 2 (sp1 C f)) (ha : PA X [a] (IA X.K X.mg W L)) (hj : j + 1 ≤ k := by decide) (hg : Gl X c := by rfl) (hdb : (c == ("__debug__" : Str)) = false := by decide)
    (he : starEach [a] X.env = (false, eval a X.env) :: starEach [] X.env := by rfl) (hpl : (backTo pos (starEach [] X.env)).any (·.1) = false := by rfl) : PS X (.Raise (some (.Call (.Name c p) [a] [] pos)) none pos') (IS X.K X.mg W (sRaiseN c [f] L)) := by
  obtain ⟨fd, ps, G1, hb, hl⟩ := G.ex
  refine psImp (L2N.ps_raise cx.calm cx.tk (made_calm E.ox E.iC E.tI G1 (cx.room.mono hj) hb passN hg E.gC ha hdb he hpl)) fun D s H ⟨as, r, h, fr, x, o⟩ => ?_
  refine ⟨as, r, h, fr, x, (outS_of fr o).imp fun Vs H1 ⟨as1, h1, vs, S1, x1, r1, o1⟩ => ?_⟩
  split at o1
  · rename_i hv
    match vs, hv, r1, o1 with
    | [u], _, r1, o1 =>
      obtain ⟨U, rfl, ru⟩ := r1.inv1
      refine ⟨by show 1 ≤ 1000; omega, fun a na => ⟨a, U, rfl, upd_same, fun d nd da => ⟨rfl, d, [(f, U)], upd_same, ?_, ?_, ?_⟩⟩⟩
      · rw [upd_ne da, upd_same]
      · rw [upd_ne da] at nd; exact nd
      · rw [upd_ne da] at nd
        rw [hp_end1 (C := C) na da]
        exact o1 (.ref C) (some d) s _ as1 (Stp.lay x1 nd) (x1.lay nd) ((fr.mono S1).mono (Stp.lay x1 nd)) (rx_of E.gC x1 nd (by simp) rfl (.one ru))
  · exact o1.elim
end
/-! ### the __init__s -/
section
variable {P : Program} {w : World} {K : PySem.W.Frag} {mg : Str → Option Value} {base : Heap} {qual : Str} {st : Stmt} {f C : Addr} {fd : FuncData} {x y g1 g2 : Str} {p1 p2 p3 p4 p5 p6 p7 p8 : Pos}
theorem okN {st : Stmt} {f : Addr} {fd : FuncData} {nam qual : Str} {N ps : List Str} {k : Nat} {sp : Sp} (F : Fun K nam qual st f fd) (S : FnScope N ps (defScope st)) (many : ∀ vs H Q E, sp vs H Q E → vs.length = ps.length)
    (body : ∀ (cdv : Value) (A : Around) (outer : List Env) (s : Shared) (H : Hp) (vs : List V) (Q : VK) (E : XK), Room k (A.deeper (envOfC qual (defScope st) s.heap.objs.size f cdv)) → sp vs H Q E →
      ∃ t, PSs (cxOf (L2N.CX P w) P w K mg base N qual (defScope st) f cdv A outer s H E) (defBody st) t ∧ t { nx := fun _ H' => Q .non H', rt := Q } (L2.start N vs) H) : FnOk P w K mg base (L2N.CX P w) (k + 1) f fd ps sp := by
  obtain ⟨_, _, _, _, _, _, _, _, _, rfl, at_, co⟩ := F.ex
  exact fn_of at_ co S many fun A outer s H vs Q E room ask => body _ A outer s H vs Q E room ask
theorem gx_2 (F : Fun K "__init__" qual st f fd) (S : FnScope ["self", x, y] ["self", x, y] (defScope st)) (hb : ∀ (kV doc pm : Value) (an : Option Addr) (cdv ct : Value) (us : List Value), us.length = 3 → bindArgs (PySem.W.fnOf "__init__" qual (defArgs st) (defBody st) (defScope st) .none kV doc pm an cdv ct) ⟨us, []⟩ = pure ((["self", x, y] : List Str).zip us)) (ox : OexC K C) (n1 : PySem.W.findIn K (.ref C) g1 = some none) (n2 : PySem.W.findIn K (.ref C) g2 = some none)
    (body : ∀ (cdv : Value) (A : Around) (outer : List Env) (s : Shared) (H : Hp) (E : XK), PSs (cxOf (L2N.CX P w) P w K mg base ["self", x, y] qual (defScope st) f cdv A outer s H E) (defBody st) (tSeq (tOst K g1 (tVar 0) (tVar 1)) (tOst K g2 (tVar 0) (tVar 2)))) :
    GX P w K mg base f 1 3 (sp2 C g1 g2) := by
  refine ⟨fd, ["self", x, y], okN F S (fun vs H Q E h => ?_) (fun cdv A outer s H vs Q E hr h => ?_), F.binds hb, rfl⟩
  · obtain ⟨a, u, v, rfl, _⟩ := h; rfl
  · obtain ⟨a, u, v, rfl, ea, h⟩ := h
    refine ⟨_, body cdv A outer s H E, ?_⟩
    refine ⟨u, rfl, .ref a, rfl, a, C, rfl, ox, n1, .inl ⟨ea, fun d nd da => ?_⟩⟩
    refine ⟨v, rfl, .ref a, rfl, a, C, rfl, ox, n2, .inr ⟨d, [(g1, u)], upd_same, ?_, by show 1 ≤ 900; omega, h d nd da⟩⟩
    rw [upd_ne da, upd_same]
theorem gx_1 (F : Fun K "__init__" qual st f fd) (S : FnScope ["self", x] ["self", x] (defScope st)) (hb : ∀ (kV doc pm : Value) (an : Option Addr) (cdv ct : Value) (us : List Value), us.length = 2 → bindArgs (PySem.W.fnOf "__init__" qual (defArgs st) (defBody st) (defScope st) .none kV doc pm an cdv ct) ⟨us, []⟩ = pure ((["self", x] : List Str).zip us)) (ox : OexC K C) (n1 : PySem.W.findIn K (.ref C) g1 = some none)
    (body : ∀ (cdv : Value) (A : Around) (outer : List Env) (s : Shared) (H : Hp) (E : XK), PSs (cxOf (L2N.CX P w) P w K mg base ["self", x] qual (defScope st) f cdv A outer s H E) (defBody st) (tOst K g1 (tVar 0) (tVar 1))) :
    GX P w K mg base f 1 2 (sp1 C g1) := by
  refine ⟨fd, ["self", x], okN F S (fun vs H Q E h => ?_) (fun cdv A outer s H vs Q E hr h => ?_), F.binds hb, rfl⟩
  · obtain ⟨a, u, rfl, _⟩ := h; rfl
  · obtain ⟨a, u, rfl, ea, h⟩ := h
    refine ⟨_, body cdv A outer s H E, ?_⟩
    exact ⟨u, rfl, .ref a, rfl, a, C, rfl, ox, n1, .inl ⟨ea, fun d nd da => h d nd da⟩⟩
end
end WR

/-! a, b, .. = a list -/
namespace WR
open PySem PySem.Spec PyProof.Rows L2
@[simp] def sAsgU (is : List Nat) (A : EX) : SX := fun r h => toS (A r h) r fun v h1 => match v with
  | .obj n => (match h1[n]? with
    | some (.lst vs) => (match setAll is vs r with
      | some r1 => .nx r1 h1
      | none => .bad)
    | _ => .bad)
  | _ => .bad
theorem setAll_len : ∀ (is : List Nat) (ps : List PV) (r : Fm) (r1 : Fm), setAll is ps r = some r1 → ps.length = is.length
  | [], [], _, _, _ => rfl
  | [], _ :: _, _, _, e => by cases e
  | _ :: _, [], _, _, e => by cases e
  | i :: is, p :: ps, r, r1, e => by rw [List.length_cons, List.length_cons, setAll_len is ps _ _ e]
section
variable {X : Cx} {W : WX} {k : Nat} {pos tpos : Pos} {es : List Expr} {e : Expr} {A : EX}
theorem is_asgU {is : List Nat} {kk : Nat} (cx : Ctx X W k) (he : PE X e (IE X.K X.mg W A)) (h : PGs X es (GIs X.K X.mg is)) (hl : is.length = es.length := by rfl) (hn : (assignEach es X.env).length = es.length := by rfl) (hst : (assignEach es X.env).findIdx? (·.1) = none := by rfl)
    (hs : swapsWithSole [.Tuple es kk tpos] e pos.line X.env = pure false := by rfl) (hw : swappedStores [.Tuple es kk tpos] e X.env = pure none := by rfl)
    (h1 : (assignEach [.Tuple es kk tpos] X.env).map (·.2) = [assign (.Tuple es kk tpos) X.env] := by rfl) : PS X (.Assign [.Tuple es kk tpos] e pos) (IS X.K X.mg W (sAsgU is A)) := by
  refine psImp (ps_asg he (pg_unl cx.calm h hn hst) hs hw h1) fun D s H ⟨as, r, h, f, x, o⟩ => ?_
  refine ⟨as, r, h, f, x, (outS_of f o).imp fun V H1 ⟨as1, h1, p, S1, x1, r1, o1⟩ => ?_⟩
  cases p with
  | obj n =>
    cases qn : h1[n]? with
    | none => simp only [qn] at o1; exact o1.elim
    | some ob =>
      cases ob with
      | lst vs =>
        cases qg : setAll is vs r with
        | none => simp only [qn, qg] at o1; exact o1.elim
        | some r2 =>
          simp only [qn, qg] at o1
          obtain ⟨a, ys, e1, e2, rs⟩ := seqOf_at x1 r1 (xs := vs) (by simp only [seqOf, qn])
          refine ⟨a, ys, e1, e2, ?_, as1, r, vs, r2, f.mono S1, rs, qg, fun s1 f1 => o1 s1 H1 as1 (Stp.refl _ _) x1 f1⟩
          rw [← rs.length, ← hl]
          exact setAll_len _ _ _ _ qg
      | ins => simp only [qn] at o1; exact o1.elim
      | dct => simp only [qn] at o1; exact o1.elim
      | dks => simp only [qn] at o1; exact o1.elim
      | tbl => simp only [qn] at o1; exact o1.elim
  | non => exact o1.elim
  | bl => exact o1.elim
  | int => exact o1.elim
  | str => exact o1.elim
  | tup => exact o1.elim
  | fls => exact o1.elim
  | glo => exact o1.elim
  | ty => exact o1.elim
  | key => exact o1.elim
end
/-! a list times an int -/
@[simp] def pMulL : PV → PV → IH → Res PV
  | .obj m, .int k, h => (match h[m]? with
    | some (.lst xs) => if 0 ≤ k ∧ k ≤ 1000 ∧ xs.length ≤ 1000 then .ok (.obj h.length) (h ++ [.lst (List.replicate k.toNat xs).flatten]) else .bad
    | _ => .bad)
  | _, _, _ => .bad
theorem RPs.rep {K : PySem.W.Frag} {mg : Str → Option Value} {as : List Addr} {H : Hp} {xs : List PV} {us : List V} (r : RPs K mg H as xs us) : ∀ n : Nat, RPs K mg H as (List.replicate n xs).flatten (List.replicate n us).flatten
  | 0 => .nil
  | n + 1 => by
    rw [List.replicate_succ, List.replicate_succ, List.flatten_cons, List.flatten_cons]
    exact r.append (RPs.rep r n)
theorem snd_mulL {K : PySem.W.Frag} {mg : Str → Option Value} : Snd K mg pMulL rRep := by
  intro W s as H h x y U V Q rh rx ry o
  unfold pMulL at o
  split at o
  · rename_i m k
    cases rx with
    | obj ha =>
      cases ry
      split at o
      · rename_i xs hx
        split at o
        · rename_i hk
          obtain ⟨a1, e1, us, g1, r1⟩ := rh.at_ _ _ hx
          rw [ha] at e1; cases e1
          have hm : us.length * k.toNat ≤ 1000 * 1000 := Nat.mul_le_mul (by rw [← r1.length]; exact hk.2.2) (by omega)
          refine ⟨_, _, us, rfl, rfl, g1, by omega, by omega, by rw [sizeLine_eq]; omega, fun p np => ?_⟩
          have S := Stp.new (o := .lst (List.replicate k.toNat us).flatten) rh np
          refine o _ _ _ S (rh.new np ⟨_, upd_same, (r1.rep k.toNat).mono S⟩) (.obj ?_)
          rw [List.getElem?_append_right (by rw [rh.len]; exact Nat.le_refl _), rh.len, Nat.sub_self]
          rfl
        · exact o.elim
      · exact o.elim
  · exact o.elim
theorem ie_mulL {X : Cx} {W : WX} {a b : Expr} {pos : Pos} {A B : EX} (ha : PE X a (IE X.K X.mg W A)) (hb : PE X b (IE X.K X.mg W B)) : PE X (.BinOp a .Mult b pos) (IE X.K X.mg W (eOp pMulL A B)) := ie_op op_rep snd_mulL ha hb
end WR

/-! sorted(xs, key=lambda d: (sum(d), d)), xs a list of tuples of ints; xs[::-1]; tuple(xs) as a key -/
namespace WR
open PySem PySem.Spec PyProof.Rows L2
/-! ### the lambda is made -/
section
variable {X : Cx} {pins : List (Addr × Obj)} {σ : L2.St} {H : Hp} {s : Shared}
structure LamB (X : Cx) (y : Str) (params : Arguments) (body : Expr) (scope : Scope) : Prop where
  kind : scope.kind = .function
  co : scope.isCoroutine = false
  gen : scope.isGenerator = false
  own : scope.names.lookup y = some .local
  blt : scope.names.lookup ("sum" : Str) = some .globalImplicit
  non : ∀ z ∈ scope.names, z.2 ≠ .free ∧ z.2 ≠ .cell
  dft : defaultsOf params X.env = ([], [])
  bnd : ∀ (q : Str) (cl : List (Str × Addr)) (pm cv ctv u : Value), bindArgs (PySem.W.kla_fn "<lambda>" q params body scope cl pm cv ctv) ⟨[u], []⟩ = pure [(y, u)]
/-- what the making leaves of the abstract heap -/
def MadeH (H : Hp) (P : Addr) (ps : Array Value) (q : Str) (c : Addr) (H1 : Hp) : Prop := H1 = H ∨ ∃ more : Array Value, H c = none ∧ c ≠ P ∧ H1 = upd (upd H P (.tbl (ps ++ more))) c (LamX.CodeO c q) ∧ TriplesOk (ps ++ more).toList ∧ ∀ (pos : Pos) (cv : Value), codeAmong pos (ps ++ more).toList = some cv → codeAmong pos ps.toList = some cv ∨ cv = .ref c
theorem lam_mk {P c : Addr} {y q : Str} {params : Arguments} {body : Expr} {scope : Scope} {pos : Pos} {ps : Array Value} {E Q : Value → Shared → Prop} (I : Inv X pins σ H s) (B : LamX.TabB X.base X.mg c P) (L : LamB X y params body scope) (hc : X.env.code = .ref c) (hq : X.env.qual ++ "<lambda>" = q)
    (hP : H P = some (.tbl ps)) (ht : TriplesOk ps.toList) (hk : ∀ (pos : Pos) (cv : Value), codeAmong pos ps.toList = some cv → ∃ c, cv = .ref c ∧ H c = some (LamX.CodeO c q))
    (h : ∀ (f d : Addr) (pm ctv : Value) (H1 : Hp) (s1 : Shared), Inv X pins σ H1 s1 → MadeH H P ps q d H1 → H1 d = some (LamX.CodeO d q) → s1.heap.get? f = some (PySem.W.kla_obj "<lambda>" q params body scope (cloFrom X.env.cells scope.names []) pm d ctv) → Q (.ref f) s1) :
    wpAny (model X.prog X.w) X.A (eval (.Lambda params body scope pos) X.env) Q E s := by
  have cl := closure_ok (scope := scope) (env := X.env) fun z hz e => absurd e (L.non z hz).1
  have b1 := B.bm.keeps I.bk
  have b2 : s.heap.get? P = some { cls := .none, data := .fields ps } := I.hok P _ hP
  have b3 := I.mod.glob.keeps I.bk
  have b4 := B.code.keeps I.bk
  refine PySem.W.kla_eval L.dft ?_
  rw [hq]
  cases z : codeAmong pos ps.toList with
  | some cv =>
    obtain ⟨d, rfl, hd⟩ := hk pos cv z
    refine PySem.W.kla_makeFunctionHit (mg := X.mg) (P := P) cl I.ok.glob b3 hc b4 b2 ht z b1 fun ctv h1 tk k1 _ => ?_
    refine h _ d _ ctv H _ (I.kept (t' := tk) fun b o e => Heap.get?_push_of_some _ (k1 b o e)) (.inl rfl) hd (Heap.get?_push_size _ rfl)
  | none =>
    refine PySem.W.kla_makeFunction (mg := X.mg) (P := P) cl I.ok.glob b3 hc b4 b2 ht z B.gP b1 fun d ctv h1 tk k1 k2 k3 k4 k5 => ?_
    obtain ⟨d', oc, vs, t, e, g1, g2, g3⟩ := k4
    cases e
    have nd : H d = none := I.hok.fresh k2
    have eL : (ps ++ #[rawInt pos.line, rawInt pos.col, .ref d]).toList = ps.toList ++ [rawInt pos.line, rawInt pos.col, .ref d] := by simp
    refine h _ d _ ctv _ _ (LamX.inv_table (t' := tk) I hP (more := #[rawInt pos.line, rawInt pos.col, .ref d]) (fun b o n e => Heap.get?_push_of_some _ (k1 b o n e)) (Heap.get?_push_of_some _ k5) k2 ⟨oc, vs, t, Heap.get?_push_of_some _ g1, g2, g3⟩) (.inr ⟨_, nd, (ne_of_none hP nd).symm, rfl, ?_, fun pos cv w => ?_⟩) upd_same (Heap.get?_push_size _ rfl)
    · rw [eL]; exact PySem.TriplesOk_snoc _ _ _ _ ht
    · rw [eL] at w
      exact LamX.among_app _ ht w
end
/-! ### the key -/
def keyD (ks : List Int) : PyData := .tuple [.int ks.sum, .tuple (ks.map .int)]
theorem reads_ints {h : Heap} : ∀ {us : List Value} {ns : List Int}, IntsAre us ns → ReadsAll h us (ns.map PyData.int) []
  | [], [], _ => .nil
  | [], _ :: _, x => by cases x
  | _ :: _, [], x => by cases x
  | u :: us, n :: ns, x => by
    cases x with
    | cons _ t b => exact .cons (.int _ _) (reads_ints b)
section
variable {prog : Program} {w : World} {A : Around} {E : Value → Shared → Prop} {s : Shared}
theorem sum_tup {a : Addr} {its : List Value} {ns : List Int} {Q : Value → Shared → Prop} (hh : A.handled = none) (hl : IsTup s.heap a its.toArray) (hi : IntsAre its ns)
    (h : ∀ h1 tk t1, (∀ b o, s.heap.get? b = some o → h1.get? b = some o) → Q (.int ns.sum t1) { s with heap := h1, toks := tk }) : wpAny (model prog w) A (call (.builtin "sum") [.ref a]) Q E s := by
  obtain ⟨xs, e⟩ := hi.allInts.items
  have hn : numsOf (intItems xs).toList = ns := by rw [← e]; exact hi.numsOf
  rw [nums_intItems] at hn
  rw [e] at hl
  refine PySem.W.ktm_sumG hh hl fun h1 tk t1 hk => ?_
  have := h h1 tk t1 hk
  rw [preSum_eq, List.take_of_length_le (by simp), hn]
  exact this
/-- the lambda called -/
theorem lam_run {f d a : Addr} {y q : Str} {params : Arguments} {scope : Scope} {cl : List (Str × Addr)} {pm ctv : Value} {mg mb : Str → Option Value} {its : List Value} {ks : List Int} {p1 p2 p3 p4 p5 : Pos} {x1}
    (hh : A.handled = none) (hr : A.depth < recursionLimit) (hf : s.heap.get? f = some (PySem.W.kla_obj "<lambda>" q params (.Tuple [.Call (.Name "sum" p1) [.Name y p2] [] p3, .Name y p4] x1 p5) scope cl pm d ctv))
    (hcd : s.heap.CodeRec (.ref d) q) (lim : s.heap.NoLimit) (hg : s.heap.Ns mainGlobals mg) (hb : s.heap.Ns builtinsNs mb) (hs : mg "sum" = none) (hv : mb "sum" = some (.builtin "sum"))
    (k1 : scope.kind = .function) (k2 : scope.isCoroutine = false) (k3 : scope.isGenerator = false) (k4 : scope.names.lookup y = some .local) (k5 : scope.names.lookup ("sum" : Str) = some .globalImplicit) (k6 : ∀ z ∈ scope.names, z.2 ≠ .cell)
    (hbd : ∀ u : Value, bindArgs (PySem.W.kla_fn "<lambda>" q params (.Tuple [.Call (.Name "sum" p1) [.Name y p2] [] p3, .Name y p4] x1 p5) scope cl pm (.ref d) ctv) ⟨[u], []⟩ = pure [(y, u)]) (hy : (y == ("__debug__" : Str)) = false)
    (ht : IsTup s.heap a its.toArray) (hi : IntsAre its ks) : wpAny (model prog w) A (call (.ref f) [.ref a]) (PySem.W.KeyPure (keyD ks) s) (fun _ _ => False) s := by
  refine wpAny_call (PySem.W.kla_callFunE hr hf rfl k2 k3 rfl hcd ?_)
  rw [hbd]
  refine wpAny_pure (wpAny_newFunctionEnv k6 (fun z hz => by rw [List.mem_singleton.mp hz]; exact k4) (fun h1 n1 sb => ⟨lim.fresh _ sb, ?_⟩) k1)
  have kp : ∀ b o, s.heap.get? b = some o → h1.get? b = some o := fun b o e => sb.extBut b o (Nat.ne_of_lt (Heap.lt_size e)) (Heap.get?_push_of_some _ e)
  have var : ∀ {h2 : Heap} {tk : Nat} {p : Pos} {Q E : Value → Shared → Prop} {A' : Around}, (∀ b o, h1.get? b = some o → h2.get? b = some o) → Q (.ref a) { s with heap := h2, toks := tk } → wpAny (model prog w) A' (eval (.Name y p) (newEnv scope s.heap.objs.size mainGlobals cl (q ++ ".<locals>.") (some f) (.ref d) none builtinsNs)) Q E { s with heap := h2, toks := tk } := fun {h2 tk p Q E A'} k q => by
    refine wpAny_Name (wpAny_loadName_local k1 k4 (n1.keeps k) ?_ q) hy
    simp [List.lookup]
  refine PySem.W.kla_codeExpr ?_
  refine wpAny_Tuple_spliced ?_
  refine Calls.spliced_cons ?_
  refine wpAny_Call_Name_kw ?_
  refine Calls.Name_function_global (env := newEnv scope s.heap.objs.size mainGlobals cl (q ++ ".<locals>.") (some f) (.ref d) none builtinsNs) k1 k5 (Calls.loadGlobal_builtin (mg := mg) (mb := mb) (hg.keeps kp) hs (hb.keeps kp) hv ?_) (by decide)
  refine PyProof.Rows.callWith_builtin1 (Calls.spliced_cons (var (fun _ _ e => e) (Calls.spliced_nil ?_))) rfl rfl
  refine sum_tup hh (ht.keeps kp) hi fun h2 tk t2 k2 => ?_
  refine Calls.spliced_cons (var k2 (Calls.spliced_nil ?_))
  refine ⟨by rw [sizeLine_eq]; simp, ?_⟩
  refine ⟨_, tk, rfl, fun b o e => Heap.get?_push_of_some _ (k2 _ _ (kp _ _ e)), ?_⟩
  obtain ⟨o, g1, g2, n, g3⟩ := ht
  refine .tuple (as := [] ++ ([] ++ [])) (Heap.get?_push_size _ rfl) rfl rfl (.cons (.int _ _) (.cons (.tuple (Heap.get?_push_of_some _ (k2 _ _ (kp _ _ g1))) g2 g3 (reads_ints hi)) .nil))
end
/-! ### the rules -/
def keyL : List PV → Option (List (List Int))
  | [] => some []
  | .key ks :: r => (keyL r).map (ks :: ·)
  | _ => none
def tabOk (x : Str) : IH → Bool
  | .tbl y :: _ => y == x
  | _ => false
def sortK (kss : List (List Int)) : List (List Int) := kss.mergeSort (PySem.W.dataLe false keyD)
@[simp] def eSortK (x : Str) (A : EX) : EX := fun r h => (A r h).bind fun v h1 => match v with
  | .obj n => (match h1[n]? with
    | some (.lst xs) => (match keyL xs with
      | some kss => if tabOk x h1 = true then .ok (.obj h1.length) (h1 ++ [.lst ((sortK kss).map .key)]) else .bad
      | none => .bad)
    | _ => .bad)
  | _ => .bad
@[simp] def eRevL (A : EX) : EX := fun r h => (A r h).bind fun v h1 => match v with
  | .obj n => (match h1[n]? with
    | some (.lst xs) => .ok (.obj h1.length) (h1 ++ [.lst xs.reverse])
    | _ => .bad)
  | _ => .bad
@[simp] def pTuple1K : List PV → IH → Res PV
  | [.obj n], h => (match h[n]? with
    | some (.lst xs) => (match keyOf xs with
      | some ks => .ok (.key ks) h
      | none => .bad)
    | _ => .bad)
  | _, _ => .bad
section
variable {K : PySem.W.Frag} {mg : Str → Option Value}
theorem snd_tuple1K : SndC K mg pTuple1K (fun xs H Q => ∃ p ys, xs = [.ref p] ∧ ((SqL K H p ys ∧ ∀ l, H l = none → Q (.ref l) (upd H l (.tup ys))) ∨ (SqT K H p ys ∧ Q (.ref p) H))) := by
  intro W s as H h xs Us Q rh rs o
  unfold pTuple1K at o
  split at o
  · split at o
    · rename_i xs hx
      split at o
      · rename_i ks hn
        obtain ⟨v, rfl, rv⟩ := rs.inv1
        cases rv with
        | obj ha =>
          obtain ⟨a, g1, ys, g2, r2⟩ := rh.at_ _ _ hx
          rw [ha] at g1; cases g1
          have e := keyOf_of r2 hn
          subst e
          exact ⟨_, _, rfl, .inl ⟨SqL.of g2, fun l nl => o _ _ _ (Stp.lay rh nl) (rh.lay nl) (.key upd_same)⟩⟩
      · exact o.elim
    · exact o.elim
  · exact o.elim
/-- a table is written, a code object is laid -/
theorem stp_made {as : List Addr} {H H1 : Hp} {h : IH} {x : Str} {n : Nat} {P d : Addr} {ps : Array Value} (rh : RH K mg H as h) (h0 : h[n]? = some (.tbl x)) (hp : as[n]? = some P) (e : H P = some (.tbl ps)) (m : MadeH H P ps (lamQ x) d H1) : Stp as H as H1 ∧ RH K mg H1 as h := by
  rcases m with rfl | ⟨more, nd, ne, rfl, t1, t2⟩
  · exact ⟨Stp.refl _ _, rh⟩
  · have nm : ∀ b u, H b = some u → b ≠ d := fun b u q => ne_of_none q nd
    have S : Stp as H as (upd (upd H P (.tbl (ps ++ more))) d (LamX.CodeO d (lamQ x))) := by
      refine ⟨⟨[], by simp, by simp⟩, fun b ys q => ?_, fun b o u q => ?_, fun b o q hb => ?_, fun b q => ?_⟩
      · rw [upd_ne (nm _ _ q), upd_ne (fun z => by rw [z, e] at q; cases q)]; exact q
      · rw [upd_ne (nm _ _ q), upd_ne (fun z => by rw [z, e] at q; cases q)]; exact q
      · rw [upd_ne (nm _ _ q), upd_ne (fun z => hb (by rw [z]; exact List.mem_of_getElem? hp))]; exact q
      · by_cases z : b = d
        · subst z; exact absurd nd q
        · rw [upd_ne z]
          by_cases z2 : b = P
          · subst z2; rw [upd_same]; simp
          · rw [upd_ne z2]; exact q
    refine ⟨S, rh.len, rh.nd, fun k o q => ?_⟩
    obtain ⟨a, g1, g2⟩ := rh.at_ k o q
    by_cases hk : a = P
    · subst hk
      have ek : k = n := by
        obtain ⟨l1, e1⟩ := List.getElem?_eq_some_iff.mp g1
        obtain ⟨l2, e2⟩ := List.getElem?_eq_some_iff.mp hp
        exact (List.getElem_inj rh.nd).mp (e1.trans e2.symm)
      subst ek
      rw [h0] at q
      cases q
      obtain ⟨ea, ps', e1, e2, e3⟩ := g2
      rw [e] at e1
      cases e1
      refine ⟨a, g1, ea, ps ++ more, by rw [upd_ne ne.symm, upd_same], t1, fun pos cv hc => ?_⟩
      rcases t2 pos cv hc with hc | hc
      · obtain ⟨c, r1, r2, r3⟩ := e3 pos cv hc
        exact ⟨c, r1, by rw [upd_ne (nm _ _ r2), upd_ne (fun z => by rw [z, e] at r2; unfold LamX.CodeO at r2; cases r2)]; exact r2, r3⟩
      · exact ⟨d, hc, upd_same, fun z => rh.mem z nd⟩
    · obtain ⟨u, hu⟩ := g2.isS
      exact ⟨a, g1, g2.mono S (by rw [upd_ne (nm _ _ hu), upd_ne hk])⟩
theorem tabOk_at {x : Str} {h : IH} (e : tabOk x h = true) : h[0]? = some (.tbl x) := by
  unfold tabOk at e
  split at e
  · rename_i y t
    have := eq_of_beq e
    subst this
    rfl
  · cases e
theorem keyL_of {as : List Addr} {H : Hp} : ∀ {ps : List PV} {vs : List V} {its : List Value} {kss : List (List Int)}, RPs K mg H as ps vs → Vals vs its → keyL ps = some kss → PySem.W.EachIs (fun v ks => ∃ a, v = Value.ref a ∧ H a = some (.tup (ks.map V.int))) its kss
  | [], _, _, _, .nil, .nil, e => by cases e; exact .nil
  | p :: ps, _, _, kss, .cons r t, .cons rv tv, e => by
    cases r with
    | key hk =>
      simp only [keyL, Option.map_eq_some_iff] at e
      obtain ⟨ks', e1, rfl⟩ := e
      cases rv
      exact .cons ⟨_, rfl, hk⟩ (keyL_of t tv e1)
    | _ => cases e
theorem keyL_back {H : Hp} : ∀ {out : List Value} {kss : List (List Int)}, PySem.W.EachIs (fun v ks => ∃ a, v = Value.ref a ∧ H a = some (.tup (ks.map V.int))) out kss → ∃ vs : List V, Vals vs out ∧ ∀ (as : List Addr) (H1 : Hp), (∀ b ys, H b = some (.tup ys) → H1 b = some (.tup ys)) → RPs K mg H1 as (kss.map .key) vs
  | _, _, .nil => ⟨[], .nil, fun _ _ _ => .nil⟩
  | _, _, .cons ⟨a, e, g⟩ t => by
    obtain ⟨vs, r1, r2⟩ := keyL_back t
    subst e
    exact ⟨.ref a :: vs, .cons rfl r1, fun as H1 S => .cons (.key (S _ _ g)) (r2 as H1 S)⟩
end
section
variable {X : Cx} {W : WX} {k : Nat} {e : Expr} {es : List Expr} {pos p : Pos} {A : EX} {L : AX}
theorem ie_tuple1K (hm : X.mg "tuple" = none) (ha : PA X (e :: es) (IA X.K X.mg W L)) (hg : Gl X "tuple" := by rfl) (he : starEach (e :: es) X.env = (false, eval e X.env) :: starEach es X.env := by rfl) (hpl : (backTo pos (starEach es X.env)).any (·.1) = false := by rfl) : PE X (.Call (.Name "tuple" p) (e :: es) [] pos) (IE X.K X.mg W (eB pTuple1K L)) :=
  ie_callT call_tuple_of snd_tuple1K hm (by decide +kernel) ha hg (by decide) (by decide) he hpl
theorem ie_revL {j : Nat} {p1 p2 p3 : Pos} (ha : PE X e (IE X.K X.mg W A)) : PE X (.Subscript e (.Slice none none (some (.UnaryOp .USub (.Constant (.int 1) j p1) p2)) p3) pos) (IE X.K X.mg W (eRevL A)) := by
  refine peImp (pe_revL ha) fun s H Q ⟨as, r, h, f, x, o⟩ => ?_
  refine ⟨as, r, h, f, x, (Out.bind o).imp fun V H1 ⟨as1, h1, p1, S1, x1, r1, o1⟩ => ?_⟩
  split at o1
  · split at o1
    · rename_i xs hx
      cases r1 with
      | obj ha =>
        obtain ⟨a, g1, ys, g2, r2⟩ := x1.at_ _ _ hx
        rw [ha] at g1; cases g1
        refine ⟨_, ys, rfl, SqL.of g2, fun l nl => ?_⟩
        have S := Stp.new (o := .lst ys.reverse) x1 nl
        refine o1 _ _ _ S (x1.new nl ⟨_, upd_same, r2.reverse.mono S⟩) (.obj ?_)
        rw [List.getElem?_append_right (by rw [x1.len]; exact Nat.le_refl _), x1.len, Nat.sub_self]
        rfl
    · exact o1.elim
  · exact o1.elim
theorem ie_sortK {x y : Str} {params : Arguments} {scope : Scope} {lpos kpos p1 p2 p3 p4 p5 : Pos} {x1} (cx : Ctx X W k) (B : LamX.TabB X.base X.mg (cdAt X.K x) (tbAt X.K x)) (hc : X.env.code = .ref (cdAt X.K x)) (hm : X.mg "sorted" = none) (hs : X.mg "sum" = none)
    (Lb : LamB X y params (.Tuple [.Call (.Name "sum" p1) [.Name y p2] [] p3, .Name y p4] x1 p5) scope) (ha : PE X e (IE X.K X.mg W A)) (hg : Gl X "sorted" := by rfl) (hq : X.env.qual ++ "<lambda>" = lamQ x := by rfl) (hy : (y == ("__debug__" : Str)) = false := by decide)
    (he : starEach [e] X.env = [(false, eval e X.env)] := by rfl) :
    PE X (.Call (.Name "sorted" p) [e] [⟨some "key", .Lambda params (.Tuple [.Call (.Name "sum" p1) [.Name y p2] [] p3, .Name y p4] x1 p5) scope lpos, kpos⟩] pos) (IE X.K X.mg W (eSortK x A)) := by
  refine ⟨fun pins s σ H Q I h => ?_⟩
  obtain ⟨as, r, h, f, rh, o⟩ := h
  have hb0 : bootBuiltins "sorted" = some (.builtin "sorted") := by decide +kernel
  refine wpAny_Call_Name_kw (ld_blt I hg hm hb0 ?_ (by decide) (by decide))
  refine PyProof.Rows.callWith_kw ?_ (by rw [he]; rfl) (by rw [he]; rfl) rfl rfl
  rw [he]
  show wpAny _ _ (spliced [(false, eval e X.env)]) _ _ s
  refine Calls.spliced_cons (thn (ha.run pins s σ H _ I ⟨as, r, h, f, rh, Out.bind o⟩) fun u s1 ⟨v, H1, I1, r1, as1, h1, p1, S1, rh1, rp, o1⟩ => ?_)
  refine Calls.spliced_nil ?_
  split at o1
  case h_2 => exact o1.elim
  split at o1
  case h_2 => exact o1.elim
  rename_i n _ _ xs hx
  split at o1
  case h_2 => exact o1.elim
  rename_i kss hkl
  by_cases tb : tabOk x h1 = true
  case neg => rw [if_neg tb] at o1; exact o1.elim
  rw [if_pos tb] at o1
  have h0 := tabOk_at tb
  obtain ⟨P, g1, ea, ps, g2, g3, g4⟩ := rh1.at_ _ _ h0
  cases rp with
  | @obj _ l hl =>
  cases r1
  obtain ⟨l', q1, ys, q2, q3⟩ := rh1.at_ _ _ hx
  rw [hl] at q1
  rw [← Option.some.inj q1] at q2
  show wpAny _ _ (evalAll [(do let v ← eval (.Lambda params (.Tuple [.Call (.Name "sum" _) [.Name y p2] [] p3, .Name y p4] x1 p5) scope lpos) X.env; standAt pos; pure v)]) _ _ s1
  refine wpAny_evalAll_cons (wpAny_bind (lam_mk (P := P) (c := cdAt X.K x) (q := lamQ x) I1 (by rw [ea]; exact B) Lb hc hq g2 g3 (fun pos cv z => by obtain ⟨c, z1, z2, _⟩ := g4 pos cv z; exact ⟨c, z1, z2⟩) fun fa d pm ctv H2 s2 I2 mH hd hf => wpAny_bind (wpAny_standAt (wpAny_pure (wpAny_evalAll_nil ?_)))))
  obtain ⟨S2, rh2⟩ := stp_made rh1 h0 g1 g2 mH
  have q2' : H2 l = some (.lst ys) := by
    rcases mH with rfl | ⟨more, nd, ne, rfl, _, _⟩
    · exact q2
    · rw [upd_ne (ne_of_none q2 nd), upd_ne (fun z => by rw [z, g2] at q2; cases q2)]; exact q2
  obtain ⟨its, rv, pl, hz⟩ := I2.list (SqL.of q2')
  have ei := keyL_of (q3.mono S2) rv hkl
  have uu := cx.room.un
  show wpAny _ _ (call (.builtin "sorted") [.ref l] [(Str.ofString "key", .ref fa)]) _ _ s2
  refine PySem.W.sorted_key_data (b := false) (R := fun v ks => ∃ a, v = Value.ref a ∧ H2 a = some (.tup (ks.map V.int))) keyD pl.isList ei (PySem.W.AllAlike.of fun a b => ?_) (PySem.W.Sortable.tuples fun a => ⟨_, _, rfl⟩) (by rw [← ei.length, ← rv.length]; exact hz) (fun ks _ => ?_) (PyProof.Rows.ksk_s1 _ _) (fun _ => PyProof.Rows.ksk_l1 _ _) (fun _ => PyProof.Rows.ksk_t1 _ _) (fun v ks hR _ h3 tk k3 => ?_) fun out c h4 tk k4 fr at4 ol eo => ?_
  · have al : ∀ xs ys : List Int, PySem.W.alikeAll (xs.map PyData.int) (ys.map PyData.int) = true := by
      intro xs
      induction xs with
      | nil => intro ys; rfl
      | cons x xs ih =>
        intro ys
        cases ys with
        | nil => rfl
        | cons y ys => simp [PySem.W.alikeAll, PySem.W.alike, ih]
    simp [keyD, PySem.W.alikeAll, PySem.W.alike, al]
  · have dp : ∀ xs : List Int, PyData.depthAll (xs.map PyData.int) = 0 := by
      intro xs
      induction xs with
      | nil => rfl
      | cons x xs ih => simp [PyData.depthAll, PyData.depth, ih]
    have hd : (keyD ks).depth ≤ 2 := by simp [keyD, PyData.depth, PyData.depthAll, dp]
    omega
  · obtain ⟨a, rfl, ga⟩ := hR
    have I3 : Inv X pins σ H2 { s2 with heap := h3, toks := tk } := I2.kept k3
    obtain ⟨_, us, rus, tus⟩ := I3.hok a _ ga
    obtain ⟨⟨oc, vs, t, hoc, hdc, hvc⟩, _, _⟩ := I3.hok d _ hd
    obtain ⟨mb, b1, b2⟩ := I3.mod.blt
    exact lam_run (s := { s2 with heap := h3, toks := tk }) (A := X.A.in1.in1) cx.room.hd (show X.A.depth < recursionLimit from cx.room.depth) (k3 _ _ hf) ⟨d, oc, vs, t, rfl, hoc, hdc, hvc⟩ I3.nolimit (I3.mod.glob.keeps I3.bk) (b1.keeps I3.bk) hs ((b2 "sum" (by decide)).trans (by decide +kernel)) Lb.kind Lb.co Lb.gen Lb.own Lb.blt (fun z hz => (Lb.non z hz).2) (fun u => Lb.bnd _ _ _ _ _ u) hy tus (rus.ints)
  · obtain ⟨vs, w1, w2⟩ := keyL_back (K := X.K) (mg := X.mg) eo
    have nl : H2 (s2.heap.objs.size + 1) = none := I2.hok.fresh (Nat.le_succ _)
    have lenv : vs.length ≤ sizeLine := by
      rw [w1.length, ol, ← ei.length, ← rv.length]; exact hz
    have S3 := Stp.new (o := .lst vs) rh2 nl
    have w3 := w2 (as1 ++ [s2.heap.objs.size + 1]) (upd H2 (s2.heap.objs.size + 1) (.lst vs)) fun b ys q => by rw [upd_ne (ne_of_none q nl)]; exact q
    refine ⟨.ref _, upd H2 (s2.heap.objs.size + 1) (.lst vs), I2.laid (t' := tk) k4 (Nat.le_succ _) ⟨lenv, out, c, w1, at4⟩, rfl, ?_⟩
    refine o1 _ _ _ (S2.trans S3) (rh2.new nl ⟨_, upd_same, w3⟩) (.obj ?_)
    rw [List.getElem?_append_right (by rw [rh2.len]; exact Nat.le_refl _), rh2.len, Nat.sub_self]
    rfl
end
end WR

/-! a law with a table of code objects: its Hook, its end -/
namespace WR
open PySem PySem.Spec PyProof.Rows L2
def isTab : Option Obj → Bool
  | some ⟨.none, none, .fields vs, sl⟩ => vs.toList.isEmpty && sl.toList.isEmpty
  | _ => false
theorem isTab_ok {o : Option Obj} (e : isTab o = true) : o = some { cls := .none, data := .fields #[] } := by
  unfold isTab at e
  split at e
  · rename_i vs sl
    obtain ⟨e1, e2⟩ := Bool.and_eq_true_iff.mp e
    have h1 : vs = #[] := by
      apply Array.toList_inj.mp
      cases z : vs.toList with
      | nil => rfl
      | cons a r => rw [z] at e1; cases e1
    have h2 : sl = #[] := by
      apply Array.toList_inj.mp
      cases z : sl.toList with
      | nil => rfl
      | cons a r => rw [z] at e2; cases e2
    rw [h1, h2]
  · cases e
def codeHdB (K : PySem.W.Frag) (c P : Addr) : Bool := match K.lookup c with
  | some ⟨.type t, _, .fields vs, _⟩ => t == "code" && (match (vs[11]? : Option Value), vs.getD 18 .none, vs.getD 7 .none, vs.getD 9 .none, vs.getD 10 .none with
    | some (.ref Q), .str _ _, .int _ _, .bool _, .int _ _ => Q == P && c != P
    | _, _, _, _, _ => false)
  | _ => false
theorem codeHd_ok {K : PySem.W.Frag} {h : Heap} {c P : Addr} (X : K.In h) (e : codeHdB K c P = true) : PySem.W.CodeHd h c P := by
  unfold codeHdB at e
  split at e
  · rename_i t _ vs _ hl
    obtain ⟨e1, e2⟩ := Bool.and_eq_true_iff.mp e
    split at e2
    · rename_i Q file tf flags tg inF text tt g1 g2 g3 g4 g5
      obtain ⟨e3, e4⟩ := Bool.and_eq_true_iff.mp e2
      have hQ : Q = P := eq_of_beq e3
      subst hQ
      have ht : t = "code" := eq_of_beq e1
      subst ht
      have g6 : vs.getD 11 .none = .ref Q := by rw [Array.getD_eq_getD_getElem?, g1]; rfl
      exact ⟨_, vs, _, _, _, _, _, _, _, X _ _ hl, rfl, rfl, g1, g6, g2, g3, g4, g5, by simpa using e4⟩
    · cases e2
  · cases e
def bTab (x : Str) : FrB := fun K => (K.lookup (tbAt K x)).isNone && codeHdB K (cdAt K x) (tbAt K x)
def asT (x : Str) (g : Addr → Option Obj) (n : Nat) : List Addr := (asW g n).filter fun a => a != tbAt (He.frG g (asW g n)) x
def obsT (x : Str) (n : Nat) (ex : List FrB) (fn : List He5.DefA) (g : Addr → Option Obj) : He.AlD :=
  (isTab (g (tbAt (He.frG g (asT x g n)) x)) && ((ex.all fun f => f (He.frG g (asT x g n))) && fn.all fun d => d.ok (He.frG g (asT x g n))), fn.map fun d => He5.fnA (He.frG g (asT x g n)) (d.at_ (He.frG g (asT x g n))))
def hookT (x : Str) (n : Nat) (ex : List FrB) (fn : List He5.DefA) : PySem.W.Hook where
  α := He.AlD
  obs := fun s => obsT x n ex fn s.heap.get?
  val := fun _ => He5.valA fn
  says := fun _ h => ∃ K : PySem.W.Frag, K.In h ∧ SaysW ex fn K ∧ h.get? (tbAt K x) = some { cls := .none, data := .fields #[] }
  of := fun _ s e => by
    have e1 : (isTab (s.heap.get? (tbAt (He.frG s.heap.get? (asT x s.heap.get? n)) x)) && ((ex.all fun f => f (He.frG s.heap.get? (asT x s.heap.get? n))) && fn.all fun d => d.ok (He.frG s.heap.get? (asT x s.heap.get? n)))) = true := congrArg (fun z : He.AlD => z.1) e
    have e2 : fn.map (fun d => He5.fnA (He.frG s.heap.get? (asT x s.heap.get? n)) (d.at_ (He.frG s.heap.get? (asT x s.heap.get? n)))) = fn.map He5.DefA.val := congrArg (fun z : He.AlD => z.2) e
    obtain ⟨e3, e4⟩ := Bool.and_eq_true_iff.mp e1
    exact ⟨_, He.frG_in, Prod.ext e4 e2, isTab_ok e3⟩
  keeps := fun _ _ _ ⟨K, hK, c, t⟩ k => ⟨K, PySem.W.Frag.In.keeps hK k, c, k _ _ t⟩
theorem obsT_eq {x : Str} {n : Nat} {ex : List FrB} {fn : List He5.DefA} {g : Addr → Option Obj} {s : Shared} (h : ∀ a, g a = s.heap.get? a) : obsT x n ex fn g = (hookT x n ex fn).obs s := by
  have e : g = s.heap.get? := funext h
  rw [e] <;> rfl
/-! ### the end -/
theorem cx_no {P : Program} {w : World} {outer : List Env} {H : Hp} {s : Shared} {e : Value} {s' : Shared} (z : L2N.CX P w outer H s (fun _ _ _ => False) e s') : False := by
  obtain ⟨_, _, _, _, _, _, _, _, _, _, _, _, q⟩ := z
  exact q
def SpT (K : PySem.W.Frag) (y : Str) : Sp := fun vs H Q _ => ∃ (a : Addr) (ns : List Int), vs = [.ref a] ∧ ns.length ≤ 63 ∧ H (tbAt K y) = some (.tbl #[]) ∧ SqL K H a (ns.map V.int) ∧ ∀ H1, Q (.bl true) H1
theorem law_spT {K : PySem.W.Frag} {mg : Str → Option Value} {y : Str} {F : List PV → IH → Res PV} (hF : ∀ ns : List Int, ns.length ≤ 63 → ∃ h, F [.fls (ns.map .int)] [.tbl y] = .ok (.bl true) h) {H : Hp} {a : Addr} {ns : List Int} {Q : VK} (hl : ns.length ≤ 63) (hT : H (tbAt K y) = some (.tbl #[])) (hS : SqF K H a (ns.map V.int)) (q : ∀ H1, Q (.bl true) H1) :
    SpF K mg 1 F [.ref a] H Q fun _ _ _ => False := by
  obtain ⟨h, e⟩ := hF ns hl
  refine ⟨[tbAt K y], [.fls (ns.map .int)], [.tbl y], rfl, .one (.fls hS (RPs.ints ns)), ⟨rfl, by simp, fun n o z => ?_⟩, ?_⟩
  · cases n with
    | zero =>
      cases z
      refine ⟨_, rfl, rfl, #[], hT, trivial, fun pos cv hc => ?_⟩
      have z : codeAmong pos [] = some cv := hc
      simp [codeAmong] at z
    | succ m => simp at z
  · rw [e]
    intro V H' as' _ _ r
    cases r
    exact q H'
theorem fn_T {P : Program} {w : World} {K : PySem.W.Frag} {mg : Str → Option Value} {base : Heap} {k : Nat} {fa : Addr} {fd : FuncData} {x y : Str} {F : List PV → IH → Res PV} (G : FnOk P w K mg base (L2N.CX P w) k fa fd [x] (SpF K mg 1 F))
    (hF : ∀ ns : List Int, ns.length ≤ 63 → ∃ h, F [.fls (ns.map .int)] [.tbl y] = .ok (.bl true) h) : FnOk P w K mg base (L2N.CX P w) k fa fd [x] (SpT K y) := by
  refine ⟨fun vs H Q E h => by obtain ⟨a, ns, rfl, _⟩ := h; rfl, fun A outer s H args us vs Q E hr e0 hb r h => ?_⟩
  obtain ⟨a, ns, rfl, hl, hT, hS, q⟩ := h
  have go : ∀ H1 : Hp, Env0 P w K mg base A outer s H1 → H1 (tbAt K y) = some (.tbl #[]) → SqF K H1 a (ns.map V.int) → (∀ H2 h2, Un (frs outer) [] H1 H2 s.heap h2 → Un (frs outer) [] H H2 s.heap h2) → codeAny (model P w) A (.call (.ref fa) args) (CR (L2N.CX P w) outer P w H s Q E) s := by
    intro H1 e1 hT1 hS1 hU
    refine codeAny_mono (G.run A outer s H1 args us [.ref a] Q (fun _ _ _ => False) hr e1 hb r (law_spT hF hl hT1 hS1 q)) fun r s' z => ?_
    cases r with
    | error e => exact (cx_no z).elim
    | ok fl =>
      cases fl with
      | ret u =>
        obtain ⟨v, H2, z1, z2, z3, z4, z5, z6⟩ := z
        exact ⟨v, H2, z1, z2, hU _ _ z3, z4, z5, z6⟩
      | next => exact z
      | brk => exact z
      | cont => exact z
  rcases hS with (hS | ⟨o, hS⟩) | hS
  · obtain ⟨hz, its, n, rv, ho⟩ := e0.hok a _ hS
    have nT : a ≠ tbAt K y := fun z => by rw [z, hT] at hS; cases hS
    have at_ : ∀ b, b ≠ a → upd H a (.frz { cls := .type "list", data := .seq its.toArray n } (.lst (ns.map V.int))) b = H b := fun b hb => upd_ne hb
    have nn : ∀ b, H b = none → b ≠ a := fun b e z => by rw [z, hS] at e; cases e
    have hok1 : HOk P w (upd H a (.frz { cls := .type "list", data := .seq its.toArray n } (.lst (ns.map V.int)))) s.heap := fun b u e => by
      have ko : ∀ (c : Addr) (o : HO), ObjOk P w H s.heap c o → ObjOk P w (upd H a (.frz { cls := .type "list", data := .seq its.toArray n } (.lst (ns.map V.int)))) s.heap c o := fun c o x => x.stay (fun d v _ q => q) (fun d q => by rw [at_ d (fun z => by rw [z, hS] at q; cases q)]; exact q) fun d xs q => by rw [at_ d (fun z => by rw [z, hS] at q; cases q)]; exact q
      by_cases hb : b = a
      · subst hb
        rw [upd_same] at e
        cases e
        exact ⟨ho, ko b _ (e0.hok b _ hS)⟩
      · rw [at_ b hb] at e
        exact ko b u (e0.hok b u e)
    refine go _ ⟨e0.frames, e0.mod, fun b o e => ⟨(e0.bs b o e).1, by rw [at_ b (nn b (e0.bs b o e).2)]; exact (e0.bs b o e).2⟩, e0.bsz, e0.funs, fun b hb => by rw [at_ b (nn b (e0.frf b hb))]; exact e0.frf b hb, hok1, e0.bare⟩ (by rw [at_ _ nT.symm]; exact hT) (.inl ⟨_, upd_same⟩) fun H2 h2 u => ?_
    exact ⟨fun b o e n => u.keep b o e (by rw [at_ b (nn b n)]; exact n), fun b o e n => u.slot b o e (by rw [at_ b (nn b n)]; exact n), fun b o e n => u.free b o e (by rw [at_ b (nn b n)]; exact n), u.there,
      fun b xs e => u.tups b xs (by rw [at_ b (fun z => by rw [z, hS] at e; cases e)]; exact e), fun b o v e => u.frzs b o v (by rw [at_ b (fun z => by rw [z, hS] at e; cases e)]; exact e), fun b ps e => u.tbls b ps (by rw [at_ b (fun z => by rw [z, hS] at e; cases e)]; exact e)⟩
  · exact go H e0 hT (.inl ⟨o, hS⟩) fun _ _ u => u
  · exact go H e0 hT (.inr hS) fun _ _ u => u
theorem walk_T {l : PySem.W.OpenLaw} {k : Nat} {q : Program} {loose : List Str} {XP : (Str → Option Value) → Heap → Prop} {YP : World → Heap → Prop} {d : DefRec} {x y : Str} {F : List PV → IH → Res PV}
    (hn : l.most = some 63) (hdf : d.params.defaults = []) (hr : Room k callerA)
    (hF : ∀ (w : World) (mg : Str → Option Value) (fa : Addr) (h : Heap), YP w h → h.Ns mainGlobals mg → mg d.name = some (.ref fa) →
      ∃ (K : PySem.W.Frag) (fd : FuncData), K.In h ∧ bTab y K = true ∧ h.get? (tbAt K y) = some { cls := .none, data := .fields #[] } ∧ (∀ (s : Shared) (u : Value), BindsTo s fd ⟨[u], []⟩ [(x, u)]) ∧ ∀ base : Heap, K.In base → base.Ns mainGlobals mg → LamX.TabB base mg (cdAt K y) (tbAt K y) → FnOk l.prog w K mg base (L2N.CX l.prog w) k fa fd [x] (SpF K mg 1 F))
    (hl : ∀ ns : List Int, ns.length ≤ 63 → ∃ h, F [.fls (ns.map .int)] [.tbl y] = .ok (.bl true) h) : PySem.W.WalkO q loose XP YP l.row.toRowW d [] (fun f vs => PySem.call f vs) := by
  refine Att.attach_call hn hdf fun w s0 s1 mg mb fa o pm cd doc a vs ns G Y ho hd hcd hmg hobj hints hlen hg => ?_
  obtain ⟨K, fd, KX, bt, ht, hb, hk⟩ := hF w mg fa _ Y G.T.g hmg
  obtain ⟨b1, b2⟩ := Bool.and_eq_true_iff.mp bt
  refine LamX.law_callTs (cs := [(cdAt K y, tbAt K y)]) (sp := SpT K y) KX G.T.g G.T.b G.T.builtins G.T.nolimit hg (fun p hp => ?_) (fun p hp => ?_) (fun p hp => ?_) G.T.bmain hobj hints (by rw [sizeLine_eq]; omega) hr (fun base B1 B2 B3 => fn_T (hk base B1 B2 (B3 _ (List.mem_singleton.mpr rfl))) hl) hb (fun H hT hS => ?_) fun H e s' z => cx_no z
  · rw [List.mem_singleton.mp hp]; exact ht
  · rw [List.mem_singleton.mp hp]; exact Option.isNone_iff_eq_none.mp b1
  · rw [List.mem_singleton.mp hp]; exact codeHd_ok KX b2
  · exact ⟨a, ns, rfl, hlen, hT _ (List.mem_singleton.mpr rfl), hS, fun _ => rfl⟩
/-! ### list(range(n)) -/
@[simp] def eListRg (A : EX) : EX := fun r h => (A r h).bind fun v h1 => match v with
  | .int n => if n.natAbs ≤ 16777216 ∧ 0 ≤ n then .ok (.obj h1.length) (h1 ++ [.lst ((List.range n.toNat).map fun i => .int (i : Nat))]) else .bad
  | _ => .bad
theorem rps_range {K : PySem.W.Frag} {mg : Str → Option Value} {H : Hp} {as : List Addr} : ∀ l : List Nat, RPs K mg H as (l.map fun i => PV.int (i : Nat)) (l.map fun i => V.int (0 + (i : Nat)))
  | [] => .nil
  | k :: r => by
    rw [List.map_cons, List.map_cons, Int.zero_add]
    exact .cons (.int _) (rps_range r)
section
variable {X : Cx} {W : WX} {k : Nat} {e : Expr} {pos p p2 pos2 : Pos} {A : EX}
theorem ie_listRg (cx : Ctx X W k) (hm : X.mg "list" = none) (hm2 : X.mg "range" = none) (ha : PE X e (IE X.K X.mg W A)) (hg : Gl X "list" := by rfl) (hg2 : Gl X "range" := by rfl) (he : starEach [e] X.env = (false, eval e X.env) :: starEach [] X.env := by rfl)
    (he2 : starEach [Expr.Call (.Name "range" p2) [e] [] pos2] X.env = (false, eval (Expr.Call (.Name "range" p2) [e] [] pos2) X.env) :: starEach [] X.env := by rfl) : PE X (.Call (.Name "list" p) [.Call (.Name "range" p2) [e] [] pos2] [] pos) (IE X.K X.mg W (eListRg A)) := by
  refine peImp (pe_listRg cx.calm hg hm (prg_1 hg2 hm2 ha he) he2) fun s H Q ⟨as, r, h, f, x, o⟩ => ?_
  refine ⟨as, r, h, f, x, (Out.bind o).imp fun V H1 ⟨as1, h1, p1, S1, x1, r1, o1⟩ => ?_⟩
  split at o1
  · rename_i n
    split at o1
    · rename_i hc
      cases r1
      refine ⟨n, rfl, RgOk.of_le (by omega) (by omega) (by omega) (by omega), fun l nl => ?_⟩
      have S := Stp.new (o := .lst (rgV 0 n)) x1 nl
      refine o1 _ _ _ S (x1.new nl ⟨_, upd_same, ?_⟩) (.obj ?_)
      · have q := rps_range (K := X.K) (mg := X.mg) (H := upd H1 l (.lst (rgV 0 n))) (as := as1 ++ [l]) (List.range n.toNat)
        have e : rgV 0 n = (List.range n.toNat).map fun i => V.int (0 + (i : Nat)) := by unfold rgV; rw [Int.sub_zero]
        rw [e] at q ⊢
        exact q
      · rw [List.getElem?_append_right (by rw [x1.len]; exact Nat.le_refl _), x1.len, Nat.sub_self]
        rfl
    · exact o1.elim
  · exact o1.elim
end
end WR

/-! {k: v} with one key that is a tuple of ints -/
namespace WR
open PySem PySem.Spec PyProof.Rows L2
def tDisp1 (tk tv : TE) : TE := fun σ H Q => ∀ p, H p = none → tPairs [(tk, tv)] σ (upd H p (.dT [])) fun ps H2 =>
  ∃ (b : Addr) (k : List Key) (y : V), ps = [(V.ref b, y)] ∧ H2 p = some (.dT []) ∧ H2 b = some (.tup (k.map kV)) ∧ Q (.ref p) (upd H2 p (.dT [(k, y)]))
theorem pe_disp1 {X : Cx} {pos : Pos} {ke ve : Expr} {tk tv : TE} (hu : X.A.units + 1 < cLine) (hk : PE X ke tk) (hv : PE X ve tv) : PE X (.Dict [some ke] [ve] pos) (tDisp1 tk tv) := by
  refine ⟨fun pins s σ H Q I q => ?_⟩
  have hn := I.hok.fresh (Nat.le_refl s.heap.objs.size)
  have I1 := I.laid (a := s.heap.objs.size) (o := .dT []) (h' := s.heap.push { cls := .type "dict", data := .dict #[] }) (t' := s.toks) (fun _ _ q => Heap.get?_push_of_some _ q) (Nat.le_refl _) (dt_empty s.heap I.big)
  have run := (pps_cons (pos := pos) hk hv pps_nil).run pins _ σ _ _ I1 (q _ hn)
  rw [arm_eval_Dict, zip_pairTrees [some ke] [ve] X.env pos rfl rfl, dictDisplay_pairs _ (by simp [pairTrees]) (by simp [pairTrees])]
  refine wpAny_bind (wpAny_standAt (wpAny_bind (wpAny_subDictH (knd := tupleKind (mixKind X.prog X.w)) (Q := fun d s' => wpAny (model X.prog X.w) X.A (pure (Value.ref d)) _ _ s') (show X.A.units < cLine by omega) (by simp [pairTrees]) (thn run fun vs s1 ⟨ps, H2, I2, rel, b, k, y, e, e0, eb, q2⟩ => ?_))))
  subst e
  cases rel with
  | @cons p1 q1 ps1 qs1 hr rest =>
    cases rest
    obtain ⟨u, w⟩ := q1
    obtain ⟨r1, r2⟩ := hr
    cases (show u = Value.ref b from r1)
    obtain ⟨z, hd, xs, rk, dd⟩ := dt_of I2.hok e0
    cases rk
    refine ⟨[(k, b, w)], ⟨rfl, rfl, key_of I2.hok eb, trivial⟩, dd, fun h' tk dd' hs => wpAny_pure ⟨.ref s.heap.objs.size, _, ?_, rfl, q2⟩⟩
    obtain ⟨o, es, ep, hq, h2, h3, h4, _, h5⟩ := dd'
    have sz : ([(k, y)] : List (List Key × V)).length ≤ sizeLine := by rw [sizeLine_eq]; show 1 ≤ _; decide
    refine d_write I2 (by rw [e0]; exact True.intro) hs ⟨o, hq⟩ ⟨sz, hd, [(k, b, w)], .cons ⟨rfl, ?_, r2⟩ .nil, o, es, ep, hq, h2, h3, h4, h5⟩
    rw [upd_ne (ne_of eb e0 (fun z => nomatch z))]
    exact eb
@[simp] def eDisp1 (Kx Vx : EX) : EX := fun r h => (Kx r (h ++ [.dct []])).bind fun kk h1 => (Vx r h1).bind fun v h2 => match kk with
  | .key k => (match h2[h.length]? with
    | some (.dct []) => .ok (.obj h.length) (h2.set h.length (.dct [(k, v)]))
    | _ => .bad)
  | _ => .bad
theorem ie_disp1 {X : Cx} {W : WX} {k : Nat} {a b : Expr} {pos : Pos} {A B : EX} (cx : Ctx X W k) (ha : PE X a (IE X.K X.mg W A)) (hb : PE X b (IE X.K X.mg W B)) : PE X (.Dict [some a] [b] pos) (IE X.K X.mg W (eDisp1 A B)) := by
  refine peImp (pe_disp1 (hu_of cx.room) ha hb) fun s H Q ⟨as, ρ, hh, f, x, o⟩ => ?_
  intro p np
  have S := Stp.new (o := .dT []) x np
  have x1 := x.new (m := .dct []) np ⟨[], upd_same, rfl, .nil⟩
  refine ⟨_, ρ, _, f.mono S, x1, (Out.bind (Out.shift S o)).imp fun V1 H1 ⟨as1, h1, p1, S1, x1', r1, o1⟩ => ?_⟩
  refine ⟨as1, ρ, h1, (f.mono S).mono S1, x1', (Out.bind o1).imp fun V2 H2 ⟨as2, h2, p2, S2, x2, r2, o2⟩ => ?_⟩
  have ap : (as ++ [p])[hh.length]? = some p := by rw [List.getElem?_append_right (by rw [x.len]; exact Nat.le_refl _), x.len, Nat.sub_self]; rfl
  have ap2 := S2.get (S1.get ap)
  cases p1 with
  | key kk =>
    dsimp only at o2
    split at o2
    · rename_i hk
      obtain ⟨c, g1, gs, g2, ek, rs⟩ := x2.at_ _ _ hk
      rw [ap2] at g1; cases g1
      have eg : gs = [] := by cases gs with
        | nil => rfl
        | cons _ _ => cases ek
      subst eg
      have r1' := r1.mono S2
      cases r1' with
      | key hb =>
        refine ⟨_, kk.map Sum.inl, _, rfl, g2, by rw [hb, kV_map], ?_⟩
        have S3 := Stp.put (o := .dT [(kk.map Sum.inl, V2)]) x2 ap2 hk
        exact o2 _ _ as2 S3 (x2.put ap2 hk ⟨_, upd_same, rfl, (RPs.one r2).mono S3⟩) (.obj ap2)
    · exact o2.elim
  | _ => exact o2.elim
/-! ### max of a list of ints -/
def mxL : List Int → Int
  | [] => 0
  | [i] => i
  | i :: r => max i (mxL r)
theorem mxL_spec : ∀ {ns : List Int}, ns ≠ [] → mxL ns ∈ ns ∧ ∀ y ∈ ns, y ≤ mxL ns
  | [], h => absurd rfl h
  | [i], _ => by simp [mxL]
  | i :: j :: r, _ => by
    obtain ⟨h1, h2⟩ := mxL_spec (ns := j :: r) (by simp)
    show max i (mxL (j :: r)) ∈ _ ∧ ∀ y ∈ _, y ≤ max i (mxL (j :: r))
    refine ⟨?_, fun y hy => ?_⟩
    · rcases Int.le_total i (mxL (j :: r)) with z | z
      · rw [Int.max_eq_right z]; exact List.mem_cons_of_mem _ h1
      · rw [Int.max_eq_left z]; exact List.mem_cons_self ..
    · rcases List.mem_cons.mp hy with rfl | hy
      · exact Int.le_max_left _ _
      · exact Int.le_trans (h2 y hy) (Int.le_max_right _ _)
theorem mxL_uniq {ns : List Int} {m : Int} (h1 : m ∈ ns) (h2 : ∀ y ∈ ns, y ≤ m) : mxL ns = m := by
  obtain ⟨a, b⟩ := mxL_spec (ns := ns) (fun z => by rw [z] at h1; cases h1)
  exact Int.le_antisymm (h2 _ a) (b _ h1)
@[simp] def pMaxL : List PV → IH → Res PV
  | [.obj n], h => (match h[n]? with
    | some (.lst xs) => (match keyOf xs with
      | some ns => if ns.isEmpty then .bad else .ok (.int (mxL ns)) h
      | none => .bad)
    | _ => .bad)
  | _, _ => .bad
theorem snd_maxL {K : PySem.W.Frag} {mg : Str → Option Value} : SndC K mg pMaxL (rMax K) := by
  intro W s as H h us vs Q rh rs o
  unfold pMaxL at o
  split at o
  · split at o
    · rename_i xs hx
      split at o
      · rename_i ns hn
        split at o
        · exact o.elim
        · rename_i ne
          obtain ⟨v, rfl, rv⟩ := rs.inv1
          cases rv with
          | obj ha =>
            obtain ⟨a, g1, ys, g2, r2⟩ := rh.at_ _ _ hx
            rw [ha] at g1; cases g1
            have e := keyOf_of r2 hn
            subst e
            refine ⟨_, ns, rfl, SqL.of g2, ?_, fun m m1 m2 => ?_⟩
            · cases ns with
              | nil => exact absurd rfl ne
              | cons _ _ => simp
            · rw [mxL_uniq m1 m2] at o
              exact o.here rh (.int _)
      · exact o.elim
    · exact o.elim
  · exact o.elim
theorem ie_maxL {X : Cx} {W : WX} {k : Nat} {e : Expr} {es : List Expr} {pos p : Pos} {L : AX} (cx : Ctx X W k) (hm : X.mg "max" = none) (ha : PA X (e :: es) (IA X.K X.mg W L)) (hg : Gl X "max" := by rfl) (he : starEach (e :: es) X.env = (false, eval e X.env) :: starEach es X.env := by rfl) (hpl : (backTo pos (starEach es X.env)).any (·.1) = false := by rfl) : PE X (.Call (.Name "max" p) (e :: es) [] pos) (IE X.K X.mg W (eB pMaxL L)) :=
  ie_callB (cr_max cx.calm) snd_maxL hm (by decide +kernel) ha hg (by decide) (by decide) he hpl
end WR

/-! list.reverse -/
namespace WR
open PySem PySem.Spec PyProof.Rows L2
@[simp] def eReverse (A : EX) : EX := fun r h => (A r h).bind fun x h1 => match x with
  | .obj n => (match h1[n]? with
    | some (.lst xs) => .ok .non (h1.set n (.lst xs.reverse))
    | _ => .bad)
  | _ => .bad
section
variable {X : Cx} {W : WX} {k : Nat} {o : Expr} {pos : Pos} {A : EX}
theorem ie_reverse {apos : Pos} (ho : PE X o (IE X.K X.mg W A)) (hbase : attributeBase o "reverse" X.env (eval o X.env) = eval o X.env := by rfl) (hline : (apos.endLine == pos.line) = true := by rfl) :
    PE X (.Call (.Attribute o "reverse" apos) [] [] pos) (IE X.K X.mg W (eReverse A)) := by
  refine peImp (pe_bm0 PySem.F.plainAttrs_list PySem.F.slot_list_reverse PySem.F.type_list_reverse mt_reverse ho hbase hline) fun s H Q ⟨as, ρ, hh, f, x, o⟩ => ?_
  refine ⟨as, ρ, hh, f, x, (Out.bind o).imp fun V H1 ⟨as1, h1, p1, S1, x1, r1, o1⟩ => ?_⟩
  split at o1
  · rename_i n
    cases r1 with
    | obj hn =>
      split at o1
      · rename_i xs hx
        obtain ⟨b, e1, us, e2, rs⟩ := x1.at_ _ _ hx
        rw [hn] at e1; cases e1
        have S3 := Stp.put (o := .lst us.reverse) x1 hn hx
        exact ⟨.inl ⟨rfl, _, SqL.of e2⟩, _, us, rfl, rfl, e2, o1 _ _ _ S3 (x1.put (m := .lst xs.reverse) hn hx ⟨_, upd_same, (rs.reverse).mono S3⟩) .non⟩
      · exact o1.elim
  · exact o1.elim
end
end WR

/-! list comprehensions where an exception is handled -/
namespace WR
open PySem PySem.Spec PyProof.Rows L2
abbrev HotC := L2H.HotC
/-- a block in which the handled exception stays pinned -/
abbrev blkP (X : Cx) (s : Shared) (H : Hp) (scope : Scope) (cenv : Env) (fp : List Addr) (p : Addr × Obj) : Cx := { X.blk s H scope cenv fp with pn := [p] }
theorem pin_in {X : Cx} {σ : L2.St} {H H0 : Hp} {s s0 : Shared} {scope : Scope} {cenv : Env} {fp : List Addr} {p : Addr × Obj} (I : Inv (X.blk s0 H0 scope cenv fp) [] σ H s)
    (there : s.heap.get? p.1 = some p.2) (none_ : H p.1 = none) (nl : p.1 ≠ cenv.locals) (nf : p.1 ∉ frs X.stack) (nc : ∀ v, p.2.data ≠ .cell v) : Inv (blkP X s0 H0 scope cenv fp p) [] σ H s where
  ok := ⟨I.ok.mod, I.ok.kind, I.ok.glob, I.ok.blt, I.ok.above, I.ok.inj, I.ok.has, I.ok.cab, I.ok.hd, I.ok.frames, I.ok.stk, I.ok.exf, I.ok.bs, I.ok.bsz, I.ok.noex, I.ok.exfs, I.ok.funs, I.ok.frf⟩
  os := I.os
  bare := I.bare
  base := I.base
  loc := I.loc
  cell := I.cell
  free := I.free
  freeC := I.freeC
  pin := fun q hq => by
    have e : q = p := by simpa using (show q ∈ [p] ++ ([] : List (Addr × Obj)) from hq)
    subst e
    exact ⟨there, none_, nl, nf, nc⟩
  hok := I.hok
  len := I.len
section
variable {X : Cx} {elt tg iter : Expr} {ifs : List Expr} {scope : Scope} {own : List (Str × Nat)} {pos : Pos} {wi : TI} {g : TG} {tt : TT} {te : TE}
theorem pe_lcH (hot : HotC X) (nd : X.N.Nodup) (hi : L2H.PIH X tg iter wi) (ok : BlkOk X.N X.env.scope scope own)
    (hg : ∀ s H C cl fp p, PG (blkP X s H scope (compEnvC scope cl C X.env) fp p) tg g) (ht : ∀ s H C cl fp p, PTs (blkP X s H scope (compEnvC scope cl C X.env) fp p) ifs tt)
    (he : ∀ s H C cl fp p, PE (blkP X s H scope (compEnvC scope cl C X.env) fp p) elt te) (hs : ∀ x, foldedSetIterable iter X.env x = pure x) :
    PE X (.ListComp elt [⟨tg, iter, ifs, 0⟩] scope pos) (tLc wi g tt te (own.map (·.2))) := by
  obtain ⟨p, hp1, hp2⟩ := hot
  constructor
  intro pins s σ H Q inv want
  rw [eval_ListComp]
  have seen : ∀ y ∈ scope.names, y.2 = .free → ∃ c, X.env.cells.lookup y.1 = some c := by
    intro y hy e
    exact inv.ok.has _ (ok.free y hy e)
  apply wpAny_comprehension_free (use := none) rfl hs (closure_ok seen) ok.kind (fun y hy e => (ok.uniq y hy).trans (congrArg some e))
  refine thn (hi.run pins s σ H _ inv want) fun xv sa ha => thn ha fun itv sb hb => ?_
  obtain ⟨it, fp, tn, J, Hb, rfl, invB, T, stB, fpB, ask⟩ := hb
  refine wpAny_newObj_type (newEnv_comp ?_) (by show 0 ≤ sizeLine; decide)
  obtain ⟨D, eD⟩ : ∃ D, sb.heap.objs.size = D := ⟨_, rfl⟩
  rw [eD]
  have noD : Hb D = none := invB.hok.fresh (Nat.le_of_eq eD)
  obtain ⟨W, ⟨m0, w0⟩, turn⟩ := ask D noD
  obtain ⟨sc, eC⟩ : ∃ sc : Shared, ({ sb with heap := sb.heap.push { cls := .type "list", data := .seq ([] : List Value).toArray } } : Shared) = sc := ⟨_, rfl⟩
  have hC : sc.heap = sb.heap.push { cls := .type "list", data := .seq ([] : List Value).toArray } := by rw [← eC]
  have keepC : ∀ b o, sb.heap.get? b = some o → sc.heap.get? b = some o := fun b o e => by rw [hC]; exact Heap.get?_push_of_some _ e
  have invC : Inv X pins σ (upd Hb D (.lst [])) sc := by
    rw [← eC]
    apply invB.laid (t' := sb.toks) (fun b o e => Heap.get?_push_of_some _ e) (Nat.le_of_eq eD)
    exact ⟨Nat.zero_le _, [], 0, .nil, eD ▸ Heap.get?_push_size _ rfl⟩
  have below : ∀ b ∈ fp, b < sb.heap.objs.size := fun b hb => by
    obtain ⟨_, e, _⟩ := T.obj _ _ stB b hb
    exact Heap.lt_size e
  have fpC : ∀ b ∈ fp, FpOk X pins (upd Hb D (.lst [])) b ∧ b < sc.heap.objs.size := fun b hb =>
    ⟨⟨(upd_ne (eD ▸ Nat.ne_of_lt (below b hb))).trans (fpB b hb).1, (fpB b hb).2⟩, by rw [hC, Heap.size_push]; exact Nat.lt_succ_of_lt (below b hb)⟩
  have stC : tn 0 sc.heap := T.keep _ _ _ stB fun b _ o e => keepC b o e
  have invD := block_start invC ok nd fpC
  obtain ⟨cl, ecl⟩ : ∃ cl, cellsFrom (sc.heap.objs.size + 1) scope.names (cloFrom X.env.cells scope.names []) = cl := ⟨_, rfl⟩
  obtain ⟨H1, eH1⟩ : ∃ H1, upd Hb D (.lst []) = H1 := ⟨_, rfl⟩
  have free1 : ∀ b ∈ fp, H1 b = none := fun b hb => eH1 ▸ (fpC b hb).1.1
  rw [ecl] at invD
  rw [eH1] at invD invC fpC w0
  obtain ⟨sd, eS⟩ : ∃ sd : Shared, ({ sc with heap := pushCells (sc.heap.push { cls := .type "dict", data := .dict #[] }) scope.names } : Shared) = sd := ⟨_, rfl⟩
  have keepD : ∀ b o, sc.heap.get? b = some o → sd.heap.get? b = some o := fun b o e => by rw [← eS]; exact pushCells_keeps _ _ _ _ (Heap.get?_push_of_some _ e)
  rw [eS] at invD
  have stD : tn 0 sd.heap := T.keep _ _ _ stC fun b _ o e => keepD b o e
  -- the handled exception
  obtain ⟨pg1, pg2, pg3, pg4, pg5⟩ := invC.pin p (List.mem_append_left _ hp2)
  have pnl : p.1 ≠ (compEnvC scope cl sc.heap.objs.size X.env).locals := Nat.ne_of_lt (Heap.lt_size pg1)
  have pns : p.1 ∉ frs X.stack := by
    rcases invC.ok.stk with e | ⟨e, fr⟩
    · rw [e]; exact pg4
    · rw [e]
      intro z
      obtain ⟨v, hv, q⟩ := List.mem_filterMap.mp z
      rcases List.mem_cons.mp hv with rfl | hv
      · rw [fr] at q
        exact pg3 (Option.some.inj q).symm
      · exact pg4 (List.mem_filterMap.mpr ⟨v, hv, q⟩)
  have invP : Inv (blkP X sc H1 scope (compEnvC scope cl sc.heap.objs.size X.env) fp p) [] (wipe σ (own.map (·.2))) H1 sd := pin_in invD (keepD _ _ pg1) pg2 pnl pns pg5
  have hotB : HotC (blkP X sc H1 scope (compEnvC scope cl sc.heap.objs.size X.env) fp p) := ⟨p, hp1, List.mem_singleton.mpr rfl⟩
  have pg := hg sc H1 sc.heap.objs.size cl fp p
  have pt := ht sc H1 sc.heap.objs.size cl fp p
  have pe := he sc H1 sc.heap.objs.size cl fp p
  have still : ∀ {σ' : L2.St} {H' : Hp} {s' : Shared}, Inv (blkP X sc H1 scope (compEnvC scope cl sc.heap.objs.size X.env) fp p) [] σ' H' s' → (∀ b ∈ fp, H' b = none) →
      ∀ b ∈ fp, FpOk (blkP X sc H1 scope (compEnvC scope cl sc.heap.objs.size X.env) fp p) [] H' b := fun I' nn b hb =>
    ⟨nn b hb, (I'.ok.exf b hb).1, I'.ok.exfs b hb, Or.inl hb, (I'.ok.exf b hb).2, fun q hq => by
      have e : q = p := by simpa using (show q ∈ [p] ++ ([] : List (Addr × Obj)) from hq)
      subst e
      exact (fpC b hb).1.2.2.2.2.2 q (List.mem_append_left _ hp2)⟩
  have loop : codeAny (model X.prog X.w) X.A (.compLoop (.ListComp elt [⟨tg, iter, ifs, 0⟩] scope pos) 0 (.ref it) (.ref D) (compEnvC scope cl sc.heap.objs.size X.env)) (compPost (model X.prog X.w) X.A X.xe none (EP X pins σ Q) (.ref D) sc.heap.objs.size) sd := by
    refine compLoop_any (fun n s' => ∃ i H', Inv (blkP X sc H1 scope (compEnvC scope cl sc.heap.objs.size X.env) fp p) [] (wipe σ (own.map (·.2))) H' s' ∧ tn i s'.heap ∧ (∀ b ∈ fp, H' b = none) ∧ W i n H') ?_ m0 ⟨0, H1, invP, stD, free1, w0⟩
    intro n s5 before
    obtain ⟨i, H5, I5, st5, n5, w5⟩ := before
    rcases turn i n H5 w5 with ⟨stop, qq⟩ | ⟨go, Nx, less, step⟩
    · refine thnF (T.done (blkP X sc H1 scope (compEnvC scope cl sc.heap.objs.size X.env) fp p) rfl rfl rfl hotB i [] s5 _ H5 (fun _ _ => False) I5 (still I5 n5) st5 stop) fun r s6 hr => ?_
      obtain ⟨rfl, I6⟩ := hr
      have back : Inv X pins σ H5 s6 := invC.call' (ch := fp) I6.os I6.base I6.hok I6.bare fun b hb =>
        let f := (fpC b hb).1.2
        ⟨f.2.2.1, f.1, f.2.2.2.1, f.2.2.2.2⟩
      obtain ⟨m, ns, _⟩ := I6.loc
      obtain ⟨f0, f1, f2, f3, f4, f5⟩ := invC.fpOk (H' := H5) (Nat.le_refl _) I6.free
      exact ⟨m, ns, fun h2 same => ⟨.ref D, H5, back.turned (t' := s6.toks) (fun b o hb e => (same.2 b hb).trans e) f0 f1 f3 f4 f5, rfl, qq⟩⟩
    · refine thnF (T.item (blkP X sc H1 scope (compEnvC scope cl sc.heap.objs.size X.env) fp p) rfl rfl rfl hotB i [] s5 _ H5 (fun _ _ => False) I5 (still I5 n5) st5 go) fun r s6 hr => ?_
      obtain ⟨u, rfl, more⟩ := hr
      refine thnF more fun _ s7 hz => ?_
      obtain ⟨x, H7, I7, r7, y7, st7, n7⟩ := hz
      have I7p := I7.pinned (still I7 n7) (T.obj _ _ st7)
      refine thnF (pg.run _ s7 _ H7 x u _ I7p r7 (step x H7 y7)) fun _ s8 hy => ?_
      obtain ⟨σ8, H8, I8, w8, q8⟩ := hy
      refine thnF (pt.run _ s8 σ8 H8 _ I8 q8) fun b s9 hx => ?_
      obtain ⟨H9, I9, q9⟩ := hx
      have again : ∀ {s' : Shared} {H' : Hp}, Inv (blkP X sc H1 scope (compEnvC scope cl sc.heap.objs.size X.env) fp p) ([] ++ pinsAt fp s7.heap) σ8 H' s' → Nx H' →
          ∃ m, m < n ∧ ∃ i H', Inv (blkP X sc H1 scope (compEnvC scope cl sc.heap.objs.size X.env) fp p) [] (wipe σ (own.map (·.2))) H' s' ∧ tn i s'.heap ∧ (∀ b ∈ fp, H' b = none) ∧ W i m H' := fun {s' H'} I' nx => by
        obtain ⟨m2, lt2, w2⟩ := less H' nx
        have held : ∀ b ∈ fp, ∀ o, s7.heap.get? b = some o → s'.heap.get? b = some o ∧ H' b = none := fun b hb o e => by
          have z := I'.pin (b, o) (List.mem_append_right _ (List.mem_append_right _ (mem_pinsAt hb e)))
          exact ⟨z.1, z.2.1⟩
        refine ⟨m2, lt2, i + 1, H', I'.unpinned.weak ?_ ?_, T.keep _ _ _ st7 fun b hb o e => (held b hb o e).1, fun b hb => ?_, w2⟩
        · rw [← w8, wipe_length]
        · intro j v e
          rw [← w8] at e
          exact (wipe_some e).1
        · obtain ⟨o, e, _⟩ := T.obj _ _ st7 b hb
          exact (held b hb o e).2
      cases b with
      | false => exact again I9 q9
      | true =>
        refine thnF (pe.run _ s9 σ8 H9 _ I9 q9) fun z s10 hw => ?_
        obtain ⟨yv, H10, I10, r10, acc, isD, few, nx⟩ := hw
        exact app_ok (X := blkP X sc H1 scope (compEnvC scope cl sc.heap.objs.size X.env) fp p) I10 isD few r10 fun s11 I11 => again I11 nx
  have all := codeAny_compStart_list loop (T.self X.A 0 _ _ _ stD loop)
  subst eS ecl eC
  exact all
end
end WR

/-! defs that are called where an exception is handled -/
namespace WR
open PySem PySem.Spec PyProof.Rows L2
structure CtxH (X : Cx) (k : Nat) : Prop where
  nd : X.N.Nodup
  hot : HotC X
  room : L2H.RoomH k X.A
/-- a def's promise where an exception is handled: what is asked may speak of the handled one -/
structure FnP (P : Program) (w : World) (K : PySem.W.Frag) (mg : Str → Option Value) (base : Heap) (k : Nat) (f : Addr) (fd : FuncData) (ps : List Str) (sp : Addr × Obj → Sp) : Prop where
  len : ∀ p vs H Q E, sp p vs H Q E → vs.length = ps.length
  run : ∀ (A : Around) (outer : List Env) (s : Shared) (H : Hp) (given : Args) (us : List Value) (vs : List V) (Q : VK) (E : XK) (p : Addr × Obj), L2H.RoomH k A → L2H.Hot1 A p → L2H.PinOk outer H s p → Env0 P w K mg base A outer s H →
    BindsTo s fd given (ps.zip us) → Vals vs us → sp p vs H Q E → codeAny (model P w) A (.call (.ref f) given) (CR (L2N.CX P w) outer P w H s Q E) s
section
variable {P : Program} {w : World} {K : PySem.W.Frag} {mg : Str → Option Value} {base : Heap} {x qual : Str} {st : Stmt} {f : Addr} {fd : FuncData} {N ps : List Str} {k : Nat}
theorem fnP_of {sp : Addr × Obj → Sp} (F : Fun K x qual st f fd) (S : FnScope N ps (defScope st)) (many : ∀ p vs H Q E, sp p vs H Q E → vs.length = ps.length)
    (body : ∀ (cdv : Value) (A : Around) (outer : List Env) (s : Shared) (H : Hp) (vs : List V) (Q : VK) (E : XK) (p : Addr × Obj), CtxH (L2H.cxH (L2N.CX P w) P w K mg base N qual (defScope st) f cdv A outer s H E p) k → sp p vs H Q E →
      ∃ t, PSs (L2H.cxH (L2N.CX P w) P w K mg base N qual (defScope st) f cdv A outer s H E p) (defBody st) t ∧ t { nx := fun _ H' => Q .non H', rt := Q } (L2.start N vs) H) : FnP P w K mg base (k + 1) f fd ps sp := by
  obtain ⟨_, _, kV, doc, pm, an, cdv, ct, _, rfl, at_, co⟩ := F.ex
  refine ⟨many, fun A outer s H given us vs Q E p room hot pin e0 bound rel ask => ?_⟩
  have steady : ∀ b o, base.get? b = some o → s.heap.get? b = some o := fun b o e => (e0.bs b o e).1
  have inK : K.In s.heap := e0.mod.kin.keeps steady
  have free := e0.mod.nolimit.keeps steady
  refine codeAny_call_function room.depth (inK _ _ at_) rfl S.co S.gen rfl (PySem.W.codeRec_of inK co) (bound _ _ _ _ (wpAny_newFunctionEnv_cells S.kind (fun y hy => ?_) fun env he s1 call => ?_))
  · rcases S.par y.1 (List.of_mem_zip hy).1 with q | q
    · exact Or.inl q
    · exact Or.inr ⟨q, PySem.W.cellsFrom_some _ _ _ (Or.inl q)⟩
  subst he
  refine ⟨free.keeps call.toInCall.keep, codeAny_func ?_⟩
  obtain ⟨t, ht, hq⟩ := body cdv A outer s H vs Q E p ⟨S.nd, ⟨p, ⟨hot.1, hot.2⟩, List.mem_singleton.mpr rfl⟩, room.deeper _⟩ ask
  have inv : Inv (L2H.cxH (L2N.CX P w) P w K mg base N qual (defScope st) f cdv A outer s H E p) [] (L2.start N vs) H s1 := L2H.inv_startH S pin e0 (many _ _ _ _ _ ask) rel call
  have leave : ∀ {how : V} {u : Value} {σ' : L2.St} {H' : Hp} {after : Shared}, Inv (L2H.cxH (L2N.CX P w) P w K mg base N qual (defScope st) f cdv A outer s H E p) [] σ' H' after → RelV how u → Q how H' → CE outer P w H s Q u after :=
    fun {how _ _ H' _} J r q => ⟨how, H', J.os, J.bare, J.base, J.hok, r, q⟩
  refine wpAny_mono (ht.run [] s1 (L2.start N vs) H _ inv hq) (fun how after good => ?_) (fun _ _ z => z)
  match how, good with
  | .ret u, ⟨v, _, _, J, r, q⟩ => exact leave J r q
  | .next, ⟨_, _, J, q⟩ => exact leave (how := V.non) J rfl q
  | .brk, ⟨_, _, _, q⟩ => exact q.elim
  | .cont, ⟨_, _, _, q⟩ => exact q.elim
theorem rf_start {us : List PV} {vs : List V} {as : List Addr} {H : Hp} {m : Nat} (rs : RPs K mg H as us vs) (hN : N.length = us.length + m) : RF K mg H as (us.map some ++ List.replicate m none) (L2.start N vs) := by
  refine ⟨?_, fun i p e => ?_⟩
  · unfold L2.start
    have := rs.length
    simp only [List.length_append, List.length_map, List.length_replicate]
    omega
  · by_cases hi : i < us.length
    · rw [List.getElem?_append_left (by simpa using hi), List.getElem?_map] at e
      cases q : us[i]? with
      | none => rw [q] at e; cases e
      | some p' =>
        rw [q] at e
        cases e
        obtain ⟨v, h1, h2⟩ := rs.get q
        refine ⟨v, ?_, h2⟩
        unfold L2.start
        rw [List.getElem?_append_left (by rw [List.length_map, ← rs.length]; exact hi), List.getElem?_map, h1]
        rfl
    · rw [List.getElem?_append_right (by simpa using hi), List.getElem?_replicate] at e
      split at e <;> cases e
/-- a def that takes data -/
theorem okH_of {B : SX} (F : Fun K x qual st f fd) (S : FnScope N ps (defScope st)) (m : Nat) (hm : N.length = ps.length + m)
    (body : ∀ (cdv : Value) (A : Around) (outer : List Env) (s : Shared) (H : Hp) (E : XK) (p : Addr × Obj), CtxH (L2H.cxH (L2N.CX P w) P w K mg base N qual (defScope st) f cdv A outer s H E p) k →
      PSs (L2H.cxH (L2N.CX P w) P w K mg base N qual (defScope st) f cdv A outer s H E p) (defBody st) (IS K mg (WD E) B)) : FnP P w K mg base (k + 1) f fd ps (fun _ => SpF K mg ps.length (fn ps.length m B)) := by
  refine fnP_of F S (fun _ vs H Q E h => ?_) (fun cdv A outer s H vs Q E p cx h => ?_)
  · obtain ⟨as, us, h, hl, rs, _⟩ := h
    rw [← rs.length, hl]
  · obtain ⟨as, us, h, hl, rs, x, o⟩ := h
    refine ⟨_, body cdv A outer s H E p cx, as, us.map some ++ List.replicate m none, h, rf_start rs (by rw [hm, hl]), x, ?_⟩
    unfold fn at o
    rw [if_pos hl] at o
    cases q : B (us.map some ++ List.replicate m none) h with
    | nx r1 h1 => rw [q] at o; exact fun s' H' as' S' x' f' => o .non H' as' S' x' .non
    | rt v h1 => rw [q] at o; exact o
    | ex z r1 h1 => rw [q] at o; exact fun c d s' H' as' S' x' f' rx => o c d H' as' S' x' rx
    | bk r1 h1 => rw [q] at o; exact (show False from o).elim
    | ct r1 h1 => rw [q] at o; exact (show False from o).elim
    | bad => rw [q] at o; exact o
/-- a def that takes the handled exception -/
def SpX (K : PySem.W.Frag) (mg : Str → Option Value) (cs : List Str) (F : XV → IH → Res PV) (p : Addr × Obj) : Sp := fun vs H Q E => ∃ as h x cls d, vs = [.ref p.1] ∧ cs.contains x.cls = true ∧ RX K mg H as x cls d ∧ L2N.Zn cls d p.2 ∧ (∃ us, p.2.data = .fields us) ∧
    RH K mg H as h ∧ Out K mg (fun H as p v => RP K mg H as p v) (fun c d _ H' => E c d H') [] as H Q (F x h)
@[simp] def fnX (m : Nat) (B : XV → SX) : XV → IH → Res PV := fun x h => match B x (List.replicate (1 + m) none) h with
  | .nx _ h1 => .ok .non h1
  | .rt v h1 => .ok v h1
  | .ex z _ h1 => .ex z h1
  | _ => .bad
theorem okX_of {B : XV → SX} {y : Str} {cs : List Str} (F : Fun K x qual st f fd) (S : FnScope N [y] (defScope st)) (m : Nat) (hm : N.length = 1 + m)
    (body : ∀ (cdv : Value) (A : Around) (outer : List Env) (s : Shared) (H : Hp) (E : XK) (p : Addr × Obj) (x : XV) (cls : Value) (d : Option Addr), CtxH (L2H.cxH (L2N.CX P w) P w K mg base N qual (defScope st) f cdv A outer s H E p) k →
      cs.contains x.cls = true → L2N.Zn cls d p.2 → (∃ us, p.2.data = .fields us) →
      PSs (L2H.cxH (L2N.CX P w) P w K mg base N qual (defScope st) f cdv A outer s H E p) (defBody st) (ISf (XF K mg 0 p.1 x cls d) K mg (WD E) (B x))) : FnP P w K mg base (k + 1) f fd [y] (SpX K mg cs (fnX m B)) := by
  refine fnP_of F S (fun _ vs H Q E h => ?_) (fun cdv A outer s H vs Q E p cx h => ?_)
  · obtain ⟨as, h, x, cls, d, rfl, _⟩ := h
    rfl
  · obtain ⟨as, h, x, cls, d, rfl, hx, rx, hz, hd, rh, o⟩ := h
    refine ⟨_, body cdv A outer s H E p x cls d cx hx hz hd, as, List.replicate (1 + m) none, h, ⟨?_, fun i q e => ?_⟩, rh, ⟨rfl, rx⟩, ?_⟩
    · unfold L2.start
      simp only [List.length_append, List.length_map, List.length_replicate, List.length_cons, List.length_nil]
      omega
    · rw [List.getElem?_replicate] at e
      split at e <;> cases e
    · unfold fnX at o
      cases q : B x (List.replicate (1 + m) none) h with
      | nx r1 h1 => rw [q] at o; exact fun s' H' as' S' x' f' => o .non H' as' S' x' .non
      | rt v h1 => rw [q] at o; exact o
      | ex z r1 h1 => rw [q] at o; exact fun c d s' H' as' S' x' f' rx => o c d H' as' S' x' rx
      | bk r1 h1 => rw [q] at o; exact (show False from o).elim
      | ct r1 h1 => rw [q] at o; exact (show False from o).elim
      | bad => rw [q] at o; exact o
end
/-- .. in the place where it stands -/
structure HF (P : Program) (w : World) (K : PySem.W.Frag) (mg : Str → Option Value) (base : Heap) (x : Str) (j n : Nat) (F : List PV → IH → Res PV) : Prop where
  bad : ∀ us h, us.length ≠ n → F us h = .bad
  ex : ∃ f fd ps, FnP P w K mg base j f fd ps (fun _ => SpF K mg n F) ∧ mg x = some (.ref f) ∧ PySem.W.keepIn K (.ref f) = true ∧ Binds K fd ps []
structure HX (P : Program) (w : World) (K : PySem.W.Frag) (mg : Str → Option Value) (base : Heap) (cs : List Str) (x : Str) (j : Nat) (F : XV → IH → Res PV) : Prop where
  ex : ∃ f fd ps, FnP P w K mg base j f fd ps (SpX K mg cs F) ∧ mg x = some (.ref f) ∧ PySem.W.keepIn K (.ref f) = true ∧ Binds K fd ps []
section
variable {X : Cx} {W : WX} {k j n : Nat} {e : Expr} {es : List Expr} {pos q q' : Pos} {A : EX} {L : AX} {x y : Str} {f : Addr} {fd : FuncData} {ps : List Str} {t : TA} {F : List PV → IH → Res PV}
theorem pe_callP {sp : Addr × Obj → Sp} {p : Addr × Obj} (G : FnP X.prog X.w X.K X.mg X.base j f fd ps sp) (room : L2H.RoomH j X.A) (hot : L2H.Hot1 X.A p) (mem : p ∈ X.pn) (gl : Gl X x) (at_ : X.mg x = some (.ref f)) (kp : PySem.W.keepIn X.K (.ref f) = true) (bd : Binds X.K fd ps [])
    (args : PA X (e :: es) t) (nodb : (x == ("__debug__" : Str)) = false) (sta : starEach (e :: es) X.env = (false, eval e X.env) :: starEach es X.env) (pl : (backTo pos (starEach es X.env)).any (·.1) = false) :
    PE X (.Call (.Name x q) (e :: es) [] pos) (tCallS (sp p) (WE W0) t) := by
  constructor
  intro pins s σ H Q inv want
  refine wpAny_Call_Name_kw (ld_glob inv gl at_ ?_ nodb)
  refine PySem.W.callWith_K (h₀ := X.base) inv.ok.mod.kin kp (thn (args.run pos pins s σ H _ inv want) fun us s1 got => ⟨got.choose_spec.choose_spec.1.kIn, ?_⟩) sta pl
  obtain ⟨vs, H1, inv1, rel, ask⟩ := got
  have many : (us ++ []).length = ps.length := by rw [List.append_nil, ← rel.length]; exact G.len _ _ _ _ _ ask
  have bound := bd s1 us inv1.kIn many
  rw [List.append_nil] at bound
  obtain ⟨g1, g2, g3, g4, g5⟩ := inv1.pin p (List.mem_append_left _ mem)
  have pin : L2H.PinOk X.stack H1 s1 p := ⟨g1, g2, fun z => by
    rcases List.mem_cons.mp (inv1.stkSub p.1 z) with y | y
    · exact g3 y
    · exact g4 y, g5⟩
  refine wpAny_call (codeAny_mono (G.run X.A X.stack s1 H1 ⟨us, []⟩ us vs Q (WE W0 σ) p room hot pin inv1.env0 bound rel ask) fun r s2 good => ?_)
  match r, good with
  | .ok (.ret u), good => exact inv1.after good
  | .ok .next, good => exact False.elim good
  | .ok .brk, good => exact False.elim good
  | .ok .cont, good => exact False.elim good
  | .error er, ⟨_, _, _, _, _, _, _, _, _, _, _, _, never⟩ => exact False.elim never
end
end WR

/-! the rules where an exception is handled -/
namespace WR
open PySem PySem.Spec PyProof.Rows L2
section
variable {X : Cx} {W : WX} {k j n : Nat} {e : Expr} {es : List Expr} {pos q q' q'' : Pos} {A B : EX} {L : AX} {x y : Str} {F : List PV → IH → Res PV} {a : Addr} {oe : Obj} {pn : List (Addr × Obj)} {cs : List Str} {i : Nat} {ev : XV} {cls : Value} {d : Option Addr} {φ : Fac} {c : TX} {S T : SX} {st : Stmt} {sts : List Stmt}
/-- what a suite is -/
theorem hot_suite (hz : L2N.Zn cls d oe) (hd : ∃ vs, oe.data = .fields vs) : L2H.Hot1 (X.suite a ((a, oe) :: pn)).A (a, oe) := by
  obtain ⟨vs, hv⟩ := hd
  exact ⟨rfl, vs, hv, hz.2.2 vs hv⟩
theorem Ctx.suite (cx : Ctx X W k) (hz : L2N.Zn cls d oe) (hd : ∃ vs, oe.data = .fields vs) : CtxH (X.suite a ((a, oe) :: pn)) k :=
  ⟨cx.nd, ⟨_, hot_suite hz hd, List.mem_cons_self⟩, ⟨cx.room.dp, cx.room.un⟩⟩
/-- a call of a def that takes data -/
theorem ie_callH (cx : CtxH X k) (G : HF X.prog X.w X.K X.mg X.base x j n F) (ha : PA X (e :: es) (IA X.K X.mg W0 L)) (hj : j ≤ k := by decide) (hg : Gl X x := by rfl) (hdb : (x == ("__debug__" : Str)) = false := by decide)
    (he : starEach (e :: es) X.env = (false, eval e X.env) :: starEach es X.env := by rfl) (hpl : (backTo pos (starEach es X.env)).any (·.1) = false := by rfl) : PE X (.Call (.Name x q) (e :: es) [] pos) (IE X.K X.mg W0 (eCall F L)) := by
  obtain ⟨f, fd, ps, G1, hm, hk, hb⟩ := G.ex
  obtain ⟨p, hp, mem⟩ := cx.hot
  refine peImp (pe_callP G1 (cx.room.mono hj) hp mem hg hm hk hb ha hdb he hpl) fun s H Q ⟨as, r, h, f, x, o⟩ => ?_
  refine ⟨as, r, h, f, x, (Out.bind o).imp fun Vs H1 ⟨as1, h1, us, S1, x1, r1, o1⟩ => ?_⟩
  refine SpF.of x1 r1 ?_ o1
  by_cases hn : us.length = n
  · exact hn
  · rw [G.bad us h1 hn] at o1; exact o1.elim
/-- a call with the caught exception -/
theorem fe_callX {F : XV → IH → Res PV} (cx : Ctx X W k) (G : HX X.prog X.w X.K X.mg X.base cs x j F) (hx : cs.contains ev.cls = true) (hz : L2N.Zn cls d oe) (hd : ∃ vs, oe.data = .fields vs) (hj : j ≤ k := by decide) (hN : X.N[i]? = some y := by rfl)
    (hv : Vis X.env.scope y := by first | exact Or.inl rfl | exact Or.inr (Or.inl rfl) | exact Or.inr (Or.inr rfl)) (hdn : (y == ("__debug__" : Str)) = false := by decide) (hcd : (y == ("__classdict__" : Str)) = false := by decide) (hg : Gl X x := by rfl) (hdb : (x == ("__debug__" : Str)) = false := by decide) :
    PE (X.suite a ((a, oe) :: pn)) (.Call (.Name x q) [.Name y q'] [] pos) (IEf (XF X.K X.mg i a ev cls d) X.K X.mg W0 (fun _ h => F ev h)) := by
  obtain ⟨f, fd, ps, G1, hm, hk, hb⟩ := G.ex
  have base : PE (X.suite a ((a, oe) :: pn)) (.Call (.Name x q) [.Name y q'] [] pos) (tCallS (SpX X.K X.mg cs F (a, oe)) (WE W0) (tCons (tVar i) tNil)) :=
    pe_callP (X := X.suite a ((a, oe) :: pn)) G1 ⟨(cx.room.mono hj).dp, (cx.room.mono hj).un⟩ (hot_suite hz hd) List.mem_cons_self hg hm hk hb (pa_cons (pe_var hN hv hdn hcd) pa_nil (by rfl)) hdb rfl rfl
  refine peImp base fun s H Q ⟨as, r, h, f, rh, ⟨hs, rx⟩, o⟩ => ?_
  refine ⟨_, hs, as, h, ev, cls, d, rfl, hx, rx, hz, hd, rh, ?_⟩
  simp only at o
  cases q : F ev h with
  | ok v h1 => rw [q] at o; exact o
  | ex z h1 => rw [q] at o; exact o
  | bad => rw [q] at o; exact o
/-! ### isinstance of the handled exception -/
theorem inst_of {P : Program} {w : World} {D : Addr} {H : Hp} {h : Heap} (get : h.get? a = some oe) (hz : Zc (.ref D) d oe) (hd : ∃ vs, oe.data = .fields vs) (ok : HOk P w H h) (fs : d = none ∨ ∃ dd gs, d = some dd ∧ H dd = some (.xd gs)) : ∃ od, PySem.W.InstAt h a oe D od := by
  obtain ⟨vs, hv⟩ := hd
  rcases fs with rfl | ⟨dd, gs, rfl, e⟩
  · exact ⟨none, get, hz.1, by unfold PySem.W.notCls; rw [hv], by rw [hz.2]; trivial⟩
  · obtain ⟨mA, hns, _⟩ := ok dd _ e
    obtain ⟨od, ho, _⟩ := lookIn_ns hns
    exact ⟨some od, get, hz.1, by unfold PySem.W.notCls; rw [hv], by rw [hz.2]; exact ho⟩
def rIsP (K : PySem.W.Frag) (D a : Addr) (d : Option Addr) : List V → Hp → VK → Prop := fun xs H Q => ∃ (c : V) (cv : Value) (b : Bool), xs = [.ref a, c] ∧ (∀ u, RelV c u → u = cv) ∧ PySem.W.kitOne K (.ref D) cv = some b ∧ (d = none ∨ ∃ dd gs, d = some dd ∧ H dd = some (.xd gs)) ∧ Q (.bl b) H
theorem call_isP {D : Addr} (mem : (a, oe) ∈ X.pn) (E : ExcC X.K D) (hz : Zc (.ref D) d oe) (hd : ∃ vs, oe.data = .fields vs) : CallR X (.builtin "isinstance") (rIsP X.K D a d) := by
  intro pins s σ H xs us Q inv rel ask
  obtain ⟨c, cv, b, rfl, only, e, fs, last⟩ := ask
  obtain ⟨_, J⟩ := inst_of (inv.pin (a, oe) (List.mem_append_left _ mem)).1 hz hd inv.hok fs
  have isC : (PySem.W.clsIn X.K D).isSome = true := by
    obtain ⟨cd, hc, _⟩ := PySem.W.any_some E.hd
    exact Option.isSome_iff_exists.mpr ⟨cd, hc⟩
  match us, rel with
  | [u, v], .cons r1 (.cons r2 .nil) =>
    obtain rfl : u = .ref a := r1
    obtain rfl := only v r2
    exact PySem.W.kia_one (PySem.W.kitx_exc isC E.hg E.hk E.hs E.ha E.hn E.ht E.hm) inv.kIn J e (fun z => nomatch z) fun tk => ⟨.bl b, H, inv.kept (t' := tk) fun _ _ z => z, rfl, last⟩
theorem rx_fs {K : PySem.W.Frag} {mg : Str → Option Value} {H : Hp} {as : List Addr} (rx : RX K mg H as ev cls d) : ∃ D, mg ev.cls = some (.ref D) ∧ cls = .ref D ∧ (d = none ∨ ∃ dd gs, d = some dd ∧ H dd = some (.xd gs)) := by
  obtain ⟨D, gD, e, fs⟩ := rx
  refine ⟨D, gD, e, ?_⟩
  rcases fs with ⟨_, e⟩ | ⟨dd, gs, _, e1, e2, _⟩
  · exact .inl e
  · exact .inr ⟨dd, gs, e1, e2⟩
theorem fe_isP {C : Addr} {c : Str} (mem : (a, oe) ∈ X.pn) (E : ExIs X.K X.mg cs) (gC : X.mg c = some (.ref C)) (hx : cs.contains ev.cls = true) (hz : L2N.Zn cls d oe) (hd : ∃ vs, oe.data = .fields vs) (hm : X.mg "isinstance" = none) (hN : X.N[i]? = some y := by rfl)
    (hv : Vis X.env.scope y := by first | exact Or.inl rfl | exact Or.inr (Or.inl rfl) | exact Or.inr (Or.inr rfl)) (hdn : (y == ("__debug__" : Str)) = false := by decide) (hcd : (y == ("__classdict__" : Str)) = false := by decide) (hg : Gl X "isinstance" := by rfl) (hgc : Gl X c := by rfl) (hdc : (c == ("__debug__" : Str)) = false := by decide) :
    PE X (.Call (.Name "isinstance" q) [.Name y q', .Name c q''] [] pos) (IEf (XF X.K X.mg i a ev cls d) X.K X.mg W (eIsE cs ev c)) := by
  refine ⟨fun pins s σ H Q I h => ?_⟩
  obtain ⟨as, r, h, f, rh, ⟨hs, rx⟩, o⟩ := h
  unfold eIsE at o
  split at o
  · rename_i h1
    obtain ⟨D, gD, rfl, fs⟩ := rx_fs rx
    have base : PE X (.Call (.Name "isinstance" q) [.Name y q', .Name c q''] [] pos) (tCB (rIsP X.K D a d) (tCons (tVar i) (tCons (tC (.ref C)) tNil))) :=
      pe_callB (call_isP mem (E.one _ _ hx gD) hz.zc hd) hg hm rfl (pa_cons (pe_var hN hv hdn hcd) (pa_cons (pe_glob (v := .ref C) hgc gC rfl hdc) pa_nil (by rfl)) (by rfl))
    exact base.run pins s σ H Q I ⟨_, hs, .ref C, .ref C, exSub ev.cls c, rfl, fun u hu => hu, E.two _ _ _ _ hx h1 gD gC, fs, o.here rh (.bl _)⟩
  · exact o.elim
def ExVs (K : PySem.W.Frag) (mg : Str → Option Value) (cs : List Str) : Prop := ∀ x C, cs.contains x = true → mg x = some (.ref C) → PySem.W.kitOne K (.ref C) (.type "ValueError") = some true
def bExv (cs : List Str) : FrB := fun K => cs.all fun x => bGlo x K && decide (PySem.W.kitOne K (.ref (He.ga K x)) (.type "ValueError") = some true)
theorem bExv_ok {K : PySem.W.Frag} {mg : Str → Option Value} {h : Heap} (X : K.In h) (G : h.Ns mainGlobals mg) (e : bExv cs K = true) : ExVs K mg cs := fun x C hx g => by
  obtain ⟨e1, e2⟩ := He.ba (List.all_eq_true.mp e x (mem_of_contains hx))
  rw [He.glo_ok X G e1] at g
  cases g
  exact of_decide_eq_true e2
/-- isinstance(e, ValueError) of a handled exception -/
@[simp] def eIsV : EX := fun _ h => .ok (.bl true) h
theorem fe_isV (mem : (a, oe) ∈ X.pn) (E : ExIs X.K X.mg cs) (V : ExVs X.K X.mg cs) (hx : cs.contains ev.cls = true) (hz : L2N.Zn cls d oe) (hd : ∃ vs, oe.data = .fields vs) (hm : X.mg "isinstance" = none) (hmV : X.mg "ValueError" = none) (hN : X.N[i]? = some y := by rfl)
    (hv : Vis X.env.scope y := by first | exact Or.inl rfl | exact Or.inr (Or.inl rfl) | exact Or.inr (Or.inr rfl)) (hdn : (y == ("__debug__" : Str)) = false := by decide) (hcd : (y == ("__classdict__" : Str)) = false := by decide) (hg : Gl X "isinstance" := by rfl) (hgc : Gl X "ValueError" := by rfl) :
    PE X (.Call (.Name "isinstance" q) [.Name y q', .Name "ValueError" q''] [] pos) (IEf (XF X.K X.mg i a ev cls d) X.K X.mg W eIsV) := by
  refine ⟨fun pins s σ H Q I h => ?_⟩
  obtain ⟨as, r, h, f, rh, ⟨hs, rx⟩, o⟩ := h
  obtain ⟨D, gD, rfl, fs⟩ := rx_fs rx
  have base : PE X (.Call (.Name "isinstance" q) [.Name y q', .Name "ValueError" q''] [] pos) (tCB (rIsP X.K D a d) (tCons (tVar i) (tCons (tC (.ty "ValueError")) tNil))) :=
    pe_callB (call_isP mem (E.one _ _ hx gD) hz.zc hd) hg hm rfl (pa_cons (pe_var hN hv hdn hcd) (pa_cons (pe_bltn (v := .ty "ValueError") hgc hmV (by decide +kernel) rfl (by decide) (by decide)) pa_nil (by rfl)) (by rfl))
  exact base.run pins s σ H Q I ⟨_, hs, .ty "ValueError", .type "ValueError", true, rfl, fun u hu => hu, V _ _ hx gD, fs, Out.here (a := PV.bl true) o rh (.bl _)⟩
/-! ### lists, tests, statements that keep a fact -/
theorem fe_lst (h : PA X es (IAf φ X.K X.mg W L)) : PE X (.List es pos) (IEf φ X.K X.mg W (eLst L)) := by
  refine peImp (pe_lst h) fun s H Q ⟨as, ρ, hh, f, x, fx, o⟩ => ?_
  exact ⟨as, ρ, hh, f, x, fx, (Out.bind o).imp fun Vs H1 ⟨as1, h1, p1, S1, x1, r1, o1⟩ => mkL_of x1 r1 o1⟩
theorem ft_not (ha : PT X e (ITf φ X.K X.mg W c)) : PT X (.UnaryOp .Not e pos) (ITf φ X.K X.mg W (tNotX c)) := by
  refine ptImp (pt_not ha) fun s H Q ⟨as, ρ, hh, f, x, fx, o⟩ => ?_
  refine ⟨as, ρ, hh, f, x, fx, (Out.bind o).imp fun V H1 ⟨as1, h1, p1, S1, x1, r1, o1⟩ => ?_⟩
  obtain rfl : p1 = V := r1
  exact o1.here x1 rfl
theorem fs_consI (h1 : PS X st (ISf φ X.K X.mg W S)) (h2 : PSs X sts (IS X.K X.mg W T)) : PSs X (st :: sts) (ISf φ X.K X.mg W (sSeq S T)) := by
  refine pssImp (pss_cons h1 h2) fun D s H ⟨as, r, h, f, x, fx, o⟩ => ?_
  refine ⟨as, r, h, f, x, fx, ?_⟩
  unfold sSeq at o
  cases q : S r h with
  | nx r1 h1 =>
    rw [q] at o
    exact fun s' H' as' S' x' f' => ⟨as', r1, h1, f', x', o.shift S'⟩
  | rt v h1 => rw [q] at o; exact o
  | bk r1 h1 => rw [q] at o; exact o
  | ct r1 h1 => rw [q] at o; exact o
  | ex z r1 h1 => rw [q] at o; exact o
  | bad => rw [q] at o; exact o
/-! ### the comprehension -/
theorem pihImp {tg iter : Expr} {w w' : TI} (h : L2H.PIH X tg iter w) (hi : ∀ s H R, w' s H R → w s H R) : L2H.PIH X tg iter w' := ⟨fun pins s σ H R I q => h.run pins s σ H R I (hi σ H R q)⟩
theorem ii_range1H {tg : Expr} {p : Pos} (hm : X.mg "range" = none) (ha : PA X [e] (IA X.K X.mg W L)) (hg : Gl X "range" := by rfl) (hs : starEach [e] X.env = [(false, eval e X.env)] := by rfl) : L2H.PIH X tg (.Call (.Name "range" p) [e] [] pos) (II X.K X.mg W (eRange1 L)) := by
  refine pihImp (L2H.pi_range1H hg hm ha hs) fun s H Q ⟨as, ρ, hh, f, x, o⟩ => ?_
  refine ⟨as, ρ, hh, f, x, (Out.bind o).imp fun Vs H1 ⟨as1, h1, p1, S1, x1, r1, o1⟩ => ?_⟩
  split at o1
  · obtain ⟨v, rfl, rv⟩ := r1.inv1
    cases rv
    split at o1
    · rename_i hr
      obtain ⟨q1, q2⟩ := rng_of hr
      exact ⟨_, rfl, q1, q2, o1.here x1 ri_range⟩
    · exact o1.elim
  · exact o1.elim
theorem ie_lcH {elt tg iter : Expr} {ifs : List Expr} {scope : Scope} {I : Fm → IH → Res ItF} {g : TgF} {vs : List Nat} (own : List (Str × Nat)) (cx : CtxH X k) (hi : L2H.PIH X tg iter (II X.K X.mg W I)) (ok : BlkOk X.N X.env.scope scope own)
    (hg : ∀ s H C cl fp p, PG (blkP X s H scope (compEnvC scope cl C X.env) fp p) tg (GW X.K X.mg vs g))
    (ht : ∀ s H C cl fp p, PTs (blkP X s H scope (compEnvC scope cl C X.env) fp p) ifs (IT X.K X.mg W0 c))
    (he : ∀ s H C cl fp p, PE (blkP X s H scope (compEnvC scope cl C X.env) fp p) elt (IE X.K X.mg W0 A))
    (hv : own.map (·.2) = vs := by rfl) (hs : ∀ x, foldedSetIterable iter X.env x = pure x := by intro _; rfl) : PE X (.ListComp elt [⟨tg, iter, ifs, 0⟩] scope pos) (IE X.K X.mg W (eLc I g c A vs)) := by
  subst hv
  exact peImp (pe_lcH cx.hot cx.nd hi ok hg ht he hs) fun s H Q ⟨as, r, h, f, x, o⟩ => lc_sound f x o
theorem unitsH {Y : Around} (h : L2H.RoomH k Y) : Y.units + 65 < cLine := by
  have := h.un
  omega
theorem it_notinH {Y : Cx} {a b : Expr} (un : Y.A.units + 65 < cLine) (ha : PE Y a (IE Y.K Y.mg W A)) (hb : PE Y b (IE Y.K Y.mg W B)) (hm : behindInMarks .NotIn b = false := by rfl) : PT Y (.Compare a [.NotIn] [b] pos) (IT Y.K Y.mg W (tBl (eOp pNotIn A B))) := it_cmp ((op_notInD un).or op_notIn_seq) snd_notin ha hb hm
end
section
variable {P : Program} {w : World} {K : PySem.W.Frag} {mg : Str → Option Value} {base : Heap} {x qual : Str} {st : Stmt} {f : Addr} {fd : FuncData} {N ps : List Str} {k : Nat}
theorem hf_mk {B : SX} (F : Fun K x qual st f fd) (g : mg x = some (.ref f)) (S : FnScope N ps (defScope st)) (m : Nat) (hm : N.length = ps.length + m)
    (hb : ∀ (kV doc pm : Value) (an : Option Addr) (cdv ct : Value) (us : List Value), us.length = ps.length → bindArgs (PySem.W.fnOf x qual (defArgs st) (defBody st) (defScope st) .none kV doc pm an cdv ct) ⟨us, []⟩ = pure (ps.zip us))
    (body : ∀ (cdv : Value) (A : Around) (outer : List Env) (s : Shared) (H : Hp) (E : XK) (p : Addr × Obj), CtxH (L2H.cxH (L2N.CX P w) P w K mg base N qual (defScope st) f cdv A outer s H E p) k →
      PSs (L2H.cxH (L2N.CX P w) P w K mg base N qual (defScope st) f cdv A outer s H E p) (defBody st) (IS K mg (WD E) B)) :
    HF P w K mg base x (k + 1) ps.length (fn ps.length m B) := ⟨fn_bad, f, fd, ps, okH_of F S m hm body, g, F.kp, F.binds hb⟩
theorem hx_mk {B : XV → SX} {y : Str} {cs : List Str} (F : Fun K x qual st f fd) (g : mg x = some (.ref f)) (S : FnScope N [y] (defScope st)) (m : Nat) (hm : N.length = 1 + m)
    (hb : ∀ (kV doc pm : Value) (an : Option Addr) (cdv ct : Value) (us : List Value), us.length = 1 → bindArgs (PySem.W.fnOf x qual (defArgs st) (defBody st) (defScope st) .none kV doc pm an cdv ct) ⟨us, []⟩ = pure ([y].zip us))
    (body : ∀ (cdv : Value) (A : Around) (outer : List Env) (s : Shared) (H : Hp) (E : XK) (p : Addr × Obj) (x : XV) (cls : Value) (d : Option Addr), CtxH (L2H.cxH (L2N.CX P w) P w K mg base N qual (defScope st) f cdv A outer s H E p) k →
      cs.contains x.cls = true → L2N.Zn cls d p.2 → (∃ us, p.2.data = .fields us) →
      PSs (L2H.cxH (L2N.CX P w) P w K mg base N qual (defScope st) f cdv A outer s H E p) (defBody st) (ISf (XF K mg 0 p.1 x cls d) K mg (WD E) (B x))) :
    HX P w K mg base cs x (k + 1) (fnX m B) := ⟨f, fd, [y], okX_of F S m hm body, g, F.kp, F.binds hb⟩
end
end WR

/-! several clauses, some with a name -/
namespace WR
open PySem PySem.Spec PyProof.Rows L2
abbrev Clause := Value × Option Nat × (Addr → Value → Option Addr → TS)
/-- what is wanted behind a suite whose name goes -/
def endsI (i : Nat) (D : Ends) : Ends := { nx := fun σ H => D.nx (σ.set i none) H, rt := D.rt, bk := fun σ H => D.bk (σ.set i none) H, ct := fun σ H => D.ct (σ.set i none) H }
def wMix (K : PySem.W.Frag) (Wout : WX) (D : Ends) : List Clause → WX
  | [] => Wout
  | (c, nm, ts) :: r => fun cls d σ H => ∃ b, PySem.W.exmOne K cls c = some b ∧
      (b = true → ∀ a, H a = none → (match nm with
        | none => ts a cls d D σ H
        | some i => ts a cls d (endsI i D) (σ.set i (some (.ref a))) H)) ∧ (b = false → wMix K Wout D r cls d σ H)
inductive HdsMix (X : Cx) : List ExceptHandler → List Clause → Prop
  | nil : HdsMix X [] []
  | bare {y : Str} {c : Value} {ts : Addr → Value → Option Addr → TS} {st : Stmt} {sts : List Stmt} {np ps : Pos} {more : List ExceptHandler} {l : List Clause} (isC : Names X y c)
      (suite : ∀ (a : Addr) (oe : Obj) (cls : Value) (d : Option Addr) (pn : List (Addr × Obj)), L2N.Zn cls d oe → (∃ vs, oe.data = .fields vs) → PSs (X.suite a ((a, oe) :: pn)) (st :: sts) (ts a cls d)) (rest : HdsMix X more l) :
      HdsMix X (.ExceptHandler (some (.Name y np)) none (st :: sts) ps :: more) ((c, none, ts) :: l)
  | named {y n : Str} {i : Nat} {c : Value} {ts : Addr → Value → Option Addr → TS} {st : Stmt} {sts : List Stmt} {np ps : Pos} {more : List ExceptHandler} {l : List Clause} (isC : Names X y c) (at_ : X.N[i]? = some n) (loc : X.env.kindOf n = some .local)
      (suite : ∀ (a : Addr) (oe : Obj) (cls : Value) (d : Option Addr) (pn : List (Addr × Obj)), L2N.Zn cls d oe → (∃ vs, oe.data = .fields vs) → PSs (X.suite a ((a, oe) :: pn)) (st :: sts) (ts a cls d)) (rest : HdsMix X more l) :
      HdsMix X (.ExceptHandler (some (.Name y np)) (some n) (st :: sts) ps :: more) ((c, some i, ts) :: l)
section
variable {X : Cx} {body : List Stmt} {h1 : ExceptHandler} {hds : List ExceptHandler} {l : List Clause} {pos : Pos} {tb : WX → TS} {Wout : WX}
theorem ps_try_mix (stk : X.stack = X.env :: X.outer) (frm : X.env.frame = some X.env.locals) (nd : X.N.Nodup) (out : L2N.Takes X Wout)
    (inner : ∀ (W : WX) (pn : List (Addr × Obj)) (xe : Value → Shared → Prop), L2N.Takes (X.tr pn xe) W → PassesOwn (model X.prog X.w) X.A X.env xe → PSs (X.tr pn xe) body (tb W)) (clauses : HdsMix X (h1 :: hds) l) :
    PS X (.Try body (h1 :: hds) [] [] pos) (fun D σ H => tb (wMix X.K Wout D l) D σ H) := by
  constructor
  intro pns sh sg H0 De inv want
  have okX := inv.ok
  have frames : X.A.frames = some (X.env :: X.outer) := okX.frames.trans (congrArg some stk)
  apply wpAny_Try_except
  refine wpAny_mono ((inner (wMix X.K Wout De l) (X.pn ++ pns) (fun er s1 => wpAny (model X.prog X.w) X.A (noteFrame er X.env) (fun _ s2 => wpAny (model X.prog X.w) X.A (setFlight er none)
    (fun _ s3 => wpAny (model X.prog X.w) X.A (handleBy er X.env (h1 :: hds)) (SP X pns De) X.xe s3) X.xe s2) X.xe s1) ?_ PassesOwn.looking).run [] sh sg H0 De (inv.toTry _) want) ?_ (fun _ _ z => z)
  · intro u after air
    obtain ⟨ad, Bq, sIn, pnq, sgq, Hq, cls, d, rfl, inTry, nbl, ups, sky, away, osq, agq, asked⟩ := air
    have J : Inv X pns sgq Hq sIn := inTry.ofTry okX
    rw [stk] at sky
    show wpAny (model X.prog X.w) X.A (noteFrame (.ref ad) X.env) _ _ _
    refine L2N.Sky.land L2N.Zn.steady frames frm sky fun hx flx upx => ?_
    have Jx : Inv X pns sgq Hq { after with heap := hx } := J.landed nbl flx.1 (ups.trans upx) osq agq
    obtain ⟨oq, vq, atq, znq, fieldsq⟩ := flx.there
    have outside : ad ∉ frs (X.env :: X.outer) := fun hm => by
      obtain ⟨_, o2, e2, no2⟩ := flx.2.2.1.mem hm
      rw [atq] at e2
      cases e2
      exact no2 _ fieldsq
    have notL : ad ≠ X.env.locals := fun z => outside (List.mem_filterMap.mpr ⟨X.env, List.mem_cons_self, frm.trans (congrArg some z.symm)⟩)
    have notF : ad ∉ X.fs := fun hm => by
      obtain ⟨e2, he2, q2⟩ := List.mem_filterMap.mp hm
      exact outside (List.mem_filterMap.mpr ⟨e2, List.mem_cons_of_mem _ he2, q2⟩)
    have Sx := Jx.suite atq fieldsq away notL notF
    have looks : PySem.W.Looks (model X.prog X.w) hx (typeOf (.ref ad)) cls := fun A Q E s keep q => wpAny_typeOf_ref (keep _ _ atq) (by rw [znq.1]; exact q)
    have name : ∀ {y : Str} {np : Pos} {c : Value}, Names X y c → ∀ {Q E : Value → Shared → Prop}, Q c { after with heap := hx } → wpAny (model X.prog X.w) (X.A.mark (some (.ref ad))) (eval (.Name y np) X.env) Q E { after with heap := hx } := by
      intro y np c hc Q E q
      rcases hc with ⟨g1, g2, g3 | ⟨g3, g4, g5⟩⟩
      · exact ld_glob (X := X.suite ad ((ad, oq) :: (X.pn ++ pns))) Sx g1 g3 q g2
      · exact ld_blt (X := X.suite ad ((ad, oq) :: (X.pn ++ pns))) Sx g1 g3 g4 q g5 g2
    -- the clauses, one after the other
    have each : ∀ {hs : List ExceptHandler} {cl : List Clause}, HdsMix X hs cl → wMix X.K Wout De cl cls d sgq Hq → wpAny (model X.prog X.w) X.A (handleBy (.ref ad) X.env hs) (SP X pns De) X.xe { after with heap := hx } := by
      intro hs cl ok
      induction ok with
      | nil =>
        intro passes
        apply wpAny_handleBy_nil
        have fl0 := flx
        obtain ⟨_, _, _, o0, v0, T0, oT0, ts0, p0, z0, d0, i0, r0⟩ := fl0
        unfold PySem.passOn
        refine wpAny_bind (wpAny_field p0 d0 i0 ?_)
        rw [if_neg (show ¬ ((Value.ref T0 == Value.none) = true) by simp)]
        have leave : wpAny (model X.prog X.w) X.A (setFlight (.ref ad) X.env.frame) (fun _ s4 => wpAny (model X.prog X.w) X.A (throw (.ref ad) : Sem Flow) (SP X pns De) X.xe s4) X.xe { after with heap := hx } := by
          rw [frm]
          refine HandSPX.setFlight_upZ flx fun hy holds upy => wpAny_throw (out _ _ ⟨ad, Bq, sIn, pns, sgq, Hq, cls, d, rfl, J, nbl, (ups.trans upx).trans upy, .inr (.inr (by rw [stk]; exact holds)), away, osq, agq, passes⟩)
        first
          | exact wpAny_bind leave
          | exact wpAny_bind (wpAny_pure (wpAny_bind leave))
      | @bare y c ts st sts np ps more l2 isC suite rest ih =>
        intro asks
        obtain ⟨b, eb, yes, no⟩ := asks
        refine wpAny_handleBy_cons (codeAny_handlers_test (name isC ((PySem.W.exm_one (M := model X.prog X.w) Jx.kIn looks eb).here ?_))) (by intro z; cases z)
        match b, yes, no with
        | false, _, no => exact ih (no rfl)
        | true, yes, _ =>
          refine codeAny_handlers_suite (HandSPX.lands_againZ flx fun hy fly upy => ?_)
          have Jy : Inv X pns sgq Hq { after with heap := hy } := J.landed nbl fly.1 ((ups.trans upx).trans upy) osq agq
          obtain ⟨oy, vy, aty, zny, fieldsy⟩ := fly.there
          refine wpAny_mono ((suite ad oy cls d (X.pn ++ pns) zny ⟨_, fieldsy⟩).run [] _ _ Hq _ (Jy.suite aty fieldsy away notL notF) (yes rfl ad away)) (fun how sz good => ?_) (fun _ _ never => never.elim)
          match how, good with
          | .next, ⟨_, _, S6, q6⟩ => exact ⟨_, _, S6.unsuite okX, q6⟩
          | .brk, ⟨_, _, S6, q6⟩ => exact ⟨_, _, S6.unsuite okX, q6⟩
          | .cont, ⟨_, _, S6, q6⟩ => exact ⟨_, _, S6.unsuite okX, q6⟩
          | .ret u, ⟨_, _, _, S6, r6, q6⟩ => exact ⟨_, _, _, S6.unsuite okX, r6, q6⟩
      | @named y n i c ts st sts np ps more l2 isC at_ loc suite rest ih =>
        intro asks
        obtain ⟨b, eb, yes, no⟩ := asks
        refine wpAny_handleBy_cons (codeAny_handlers_test (name isC ((PySem.W.exm_one (M := model X.prog X.w) Jx.kIn looks eb).here ?_))) (by intro z; cases z)
        match b, yes, no with
        | false, _, no => exact ih (no rfl)
        | true, yes, _ =>
          refine codeAny_handlers_suite_as (HandSPX.lands_againZ flx fun hy fly upy => ?_)
          have Jy : Inv X pns sgq Hq { after with heap := hy } := J.landed nbl fly.1 ((ups.trans upx).trans upy) osq agq
          obtain ⟨oy, vy, aty, zny, fieldsy⟩ := fly.there
          refine store_ok (X := X.suite ad ((ad, oy) :: (X.pn ++ pns))) (v := .ref ad) (Jy.suite aty fieldsy away notL notF) nd at_ (.inl loc) rfl (fun s5 S5 => ?_) (.inr loc)
          refine wpAny_mono ((suite ad oy cls d (X.pn ++ pns) zny ⟨_, fieldsy⟩).run [] s5 _ Hq _ S5 (yes rfl ad away)) (fun how sz good => ?_) (fun _ _ never => never.elim)
          have drop : ∀ {sy : L2.St} {Hy : Hp} {Q : Shared → Prop}, Inv (X.suite ad ((ad, oy) :: (X.pn ++ pns))) [] sy Hy sz → (∀ s7, Inv X pns (sy.set i none) Hy s7 → Q s7) →
              wpAny (model X.prog X.w) X.A (do bindName X.env n .none; unbindBehindTheSuite X.env n ps) (fun _ s7 => Q s7) X.xe sz := fun S6 hq => gone_ok (S6.unsuite okX) nd at_ loc hq
          match how, good with
          | .next, ⟨_, _, S6, q6⟩ => exact drop S6 fun s7 J7 => ⟨_, _, J7, q6⟩
          | .brk, ⟨_, _, S6, q6⟩ => exact drop S6 fun s7 J7 => ⟨_, _, J7, q6⟩
          | .cont, ⟨_, _, S6, q6⟩ => exact drop S6 fun s7 J7 => ⟨_, _, J7, q6⟩
          | .ret u, ⟨_, _, _, S6, r6, q6⟩ => exact drop S6 fun s7 J7 => ⟨_, _, _, J7, r6, q6⟩
    exact each clauses asked
  · intro how after good
    match how, good with
    | .next, ⟨_, _, J1, q⟩ => exact wpAny_execs_nil ⟨_, _, J1.ofTry okX, q⟩
    | .brk, ⟨_, _, J1, q⟩ => exact ⟨_, _, J1.ofTry okX, q⟩
    | .cont, ⟨_, _, J1, q⟩ => exact ⟨_, _, J1.ofTry okX, q⟩
    | .ret u, ⟨_, _, _, J1, r, q⟩ => exact ⟨_, _, _, J1.ofTry okX, r, q⟩
end
end WR

/-! several clauses, some with a name: the functional code -/
namespace WR
open PySem PySem.Spec PyProof.Rows L2
@[simp] def pickM (x : XV) : List (Str × Option Nat × (XV → SX)) → Option (Option Nat × (XV → SX))
  | [] => none
  | (c, nm, S) :: r => if exSub x.cls c then some (nm, S) else pickM x r
def okIx (n : Nat) : Option Nat → Bool
  | none => true
  | some i => decide (i < n)
def sTryM (cs : List Str) (B : SX) (hs : List (Str × Option Nat × (XV → SX))) : SX := fun r h => match B r h with
  | .ex x r1 h1 => if cs.contains x.cls && hs.all (fun q => cs.contains q.1 && okIx r1.length q.2.1) then (match pickM x hs with
    | some (none, S) => noEx (S x r1 h1)
    | some (some i, S) => unI i (S x (r1.set i none) h1)
    | none => .ex x r1 h1) else .bad
  | o => o
inductive MtM (X : Cx) (cs : List Str) : List Clause → List (Str × Option Nat × (XV → SX)) → Prop
  | nil : MtM X cs [] []
  | bare {c : Str} {C : Addr} {S : SX} {l : List Clause} {hs : List (Str × Option Nat × (XV → SX))} (g : X.mg c = some (.ref C)) (r : MtM X cs l hs) : MtM X cs ((.ref C, none, fun _ _ _ => IS X.K X.mg W0 S) :: l) ((c, none, fun _ => S) :: hs)
  | named {c : Str} {C : Addr} {i : Nat} {S : XV → SX} {l : List Clause} {hs : List (Str × Option Nat × (XV → SX))} (g : X.mg c = some (.ref C)) (r : MtM X cs l hs) :
      MtM X cs ((.ref C, some i, fun a cls d D s H => ∃ x : XV, cs.contains x.cls = true ∧ ISf (XF X.K X.mg i a x cls d) X.K X.mg W0 (S x) D s H) :: l) ((c, some i, S) :: hs)
def HdM (X : Cx) (cs : List Str) (hds : List ExceptHandler) (hs : List (Str × Option Nat × (XV → SX))) : Prop := ∃ l, HdsMix X hds l ∧ MtM X cs l hs
section
variable {X : Cx} {W : WX} {k : Nat} {c n : Str} {C : Addr} {pos pos' np : Pos} {body : List Stmt} {h₀ : ExceptHandler} {hds : List ExceptHandler} {hs : List (Str × Option Nat × (XV → SX))} {B : SX} {cs : List Str} {b₀ : Stmt} {suite : List Stmt}
theorem hm_nil : HdM X cs [] [] := ⟨[], .nil, .nil⟩
theorem hm_bare {S : SX} (gC : X.mg c = some (.ref C)) (hsu : ∀ (a : Addr) (oe : Obj) (pn : List (Addr × Obj)), PSs (X.suite a ((a, oe) :: pn)) (b₀ :: suite) (IS X.K X.mg W0 S)) (r : HdM X cs hds hs)
    (hg : Gl X c := by rfl) (hdb : (c == ("__debug__" : Str)) = false := by decide) : HdM X cs (.ExceptHandler (some (.Name c np)) none (b₀ :: suite) pos' :: hds) ((c, none, fun _ => S) :: hs) := by
  obtain ⟨l, a, b⟩ := r
  exact ⟨_, .bare ⟨hg, hdb, .inl gC⟩ (fun a oe cls d pn _ _ => hsu a oe pn) a, .bare gC b⟩
theorem hm_named {i : Nat} {S : XV → SX} (gC : X.mg c = some (.ref C)) (hsu : ∀ (x : XV) (a : Addr) (oe : Obj) (cls : Value) (d : Option Addr) (pn : List (Addr × Obj)), cs.contains x.cls = true → L2N.Zn cls d oe → (∃ vs, oe.data = .fields vs) → PSs (X.suite a ((a, oe) :: pn)) (b₀ :: suite) (ISf (XF X.K X.mg i a x cls d) X.K X.mg W0 (S x)))
    (r : HdM X cs hds hs) (hi : X.N[i]? = some n := by rfl) (hln : X.env.kindOf n = some .local := by rfl) (hg : Gl X c := by rfl) (hdb : (c == ("__debug__" : Str)) = false := by decide) : HdM X cs (.ExceptHandler (some (.Name c np)) (some n) (b₀ :: suite) pos' :: hds) ((c, some i, S) :: hs) := by
  obtain ⟨l, a, b⟩ := r
  exact ⟨_, .named ⟨hg, hdb, .inl gC⟩ hi hln (fun a oe cls d pn hz hd => ⟨fun pins s σ H D I ⟨x, hx, q⟩ => (hsu x a oe cls d pn hx hz hd).run pins s σ H D I q⟩) a, .named gC b⟩
theorem mix_of {l : List Clause} (mt : MtM X cs l hs) (E : ExCs X.K X.mg cs) {x1 : XV} {r1 : Fm} {h1 : IH} {d : Option Addr} {s' : L2.St} {H H' : Hp} {as as' : List Addr} {D : Ends} (hc1 : cs.contains x1.cls = true) (hc2 : hs.all (fun q => cs.contains q.1 && okIx r1.length q.2.1) = true)
    (gC : X.mg x1.cls = some (.ref C)) (S : Stp as H as' H') (x' : RH X.K X.mg H' as' h1) (f' : RF X.K X.mg H' as' r1 s') (rx : RX X.K X.mg H' as' x1 (.ref C) d)
    (o : OutS X.K X.mg W as H D (match pickM x1 hs with
      | some (none, S) => noEx (S x1 r1 h1)
      | some (some i, S) => unI i (S x1 (r1.set i none) h1)
      | none => .ex x1 r1 h1)) : wMix X.K W D l (.ref C) d s' H' := by
  induction mt with
  | nil => exact o (.ref C) d s' H' as' S x' f' rx
  | @bare c Cc Sx l hs g r' ih =>
    rw [List.all_cons, Bool.and_eq_true, Bool.and_eq_true] at hc2
    have ee := E.two x1.cls c C Cc hc1 hc2.1.1 gC g
    refine ⟨_, ee, fun hb => fun a na => ?_, fun hb => ?_⟩
    · simp only [pickM, hb, if_true] at o
      exact ⟨as', r1, h1, f', x', noEx_out (o.shift S)⟩
    · refine ih hc2.2 ?_
      simp only [pickM, hb] at o
      exact o
  | @named c Cc i Sx l hs g r' ih =>
    rw [List.all_cons, Bool.and_eq_true, Bool.and_eq_true] at hc2
    have ee := E.two x1.cls c C Cc hc1 hc2.1.1 gC g
    refine ⟨_, ee, fun hb => fun a na => ?_, fun hb => ?_⟩
    · simp only [pickM, hb, if_true] at o
      refine ⟨x1, hc1, as', r1.set i none, h1, f'.unsetO, x', ⟨?_, rx⟩, unI_out (o.shift S)⟩
      have hl : i < s'.length := by rw [← f'.len]; exact of_decide_eq_true hc2.1.2
      rw [List.getElem?_set_self hl]
    · refine ih hc2.2 ?_
      simp only [pickM, hb] at o
      exact o
theorem is_tryM (cx : Ctx X W k) (E : ExCs X.K X.mg cs) (hb : ∀ (W' : WX) (pn : List (Addr × Obj)) (xe : Value → Shared → Prop), Ctx (X.tr pn xe) W' k → PSs (X.tr pn xe) body (IS X.K X.mg W' B)) (hh : HdM X cs (h₀ :: hds) hs)
    (hs0 : X.stack = X.env :: X.outer := by rfl) (hf0 : X.env.frame = some X.env.locals := by rfl) : PS X (.Try body (h₀ :: hds) [] [] pos) (IS X.K X.mg W (sTryM cs B hs)) := by
  obtain ⟨l, ok, mt⟩ := hh
  refine psImp (ps_try_mix hs0 hf0 cx.nd cx.tk (fun W' pn xe tk po => hb W' pn xe ⟨tk, po, cx.calm, cx.nd, cx.room⟩) ok) fun D s H ⟨as, r, h, f, x, o⟩ => ?_
  refine ⟨as, r, h, f, x, ?_⟩
  unfold sTryM at o
  cases q : B r h with
  | nx r1 h1 => rw [q] at o; exact o
  | rt r1 h1 => rw [q] at o; exact o
  | bk r1 h1 => rw [q] at o; exact o
  | ct r1 h1 => rw [q] at o; exact o
  | bad => rw [q] at o; exact o
  | ex x1 r1 h1 =>
    rw [q] at o
    simp only at o
    split at o
    · rename_i hc
      obtain ⟨hc1, hc2⟩ := Bool.and_eq_true_iff.mp hc
      intro cls d s' H' as' S x' f' rx
      have rx' := rx
      obtain ⟨C, gC, rfl, fs⟩ := rx
      exact mix_of mt E hc1 hc2 gC S x' f' rx' o
    · exact o.elim
end
/-! ### in a suite; tuples multiplied -/
section
variable {X : Cx} {W : WX} {a b : Expr} {pos : Pos} {A B : EX}
theorem it_inH (un : X.A.units + 65 < cLine) (ha : PE X a (IE X.K X.mg W A)) (hb : PE X b (IE X.K X.mg W B)) (hm : behindInMarks .In b = false := by rfl) : PT X (.Compare a [.In] [b] pos) (IT X.K X.mg W (tBl (eOp pIn A B))) := it_cmp ((op_inD un).or op_in_seq) snd_in ha hb hm
theorem it_eqH (un : X.A.units + 65 < cLine) (ha : PE X a (IE X.K X.mg W A)) (hb : PE X b (IE X.K X.mg W B)) (hm : behindInMarks .Eq b = false := by rfl) : PT X (.Compare a [.Eq] [b] pos) (IT X.K X.mg W (tBl (eOp pEq A B))) := it_cmp (op_eqD (Nat.lt_trans (Nat.lt_succ_self _) un)) snd_eq ha hb hm
@[simp] def pMulT : PV → PV → IH → Res PV
  | .tup (x :: xs), .int k, h => if 2 ≤ k ∧ k ≤ 1000 ∧ (x :: xs).length ≤ 1000 then .ok (.tup (List.replicate k.toNat (x :: xs)).flatten) h else .bad
  | _, _, _ => .bad
theorem snd_mulT {K : PySem.W.Frag} {mg : Str → Option Value} : Snd K mg pMulT (rRepT K) := by
  intro W s as H h x y U V Q rh rx ry o
  unfold pMulT at o
  split at o
  · rename_i x xs k
    cases rx with
    | tup hs rs =>
      cases ry
      split at o
      · rename_i hk
        refine ⟨_, _, _, rfl, rfl, hs, fun z => ?_, hk.1, hk.2.1, by rw [← rs.length]; exact hk.2.2, fun p np => ?_⟩
        · rw [z] at rs
          cases rs
        · exact o _ _ as (Stp.lay rh np) (rh.lay np) (.tup (SqT.of upd_same) ((rs.rep k.toNat).mono (Stp.lay rh np)))
      · exact o.elim
  · exact o.elim
theorem ie_mulT (ha : PE X a (IE X.K X.mg W A)) (hb : PE X b (IE X.K X.mg W B)) : PE X (.BinOp a .Mult b pos) (IE X.K X.mg W (eOp pMulT A B)) := ie_op op_repT snd_mulT ha hb
end
end WR

/-! the defs as functional code -/
namespace WR
open PySem PySem.Spec PyProof.Rows L2
def ownCs : List Str := ["Plan", "Walk"]
def exCs : List Str := ["BadRoads", "BadTurns", "BadCost", "BadPlan", "BadRoad", "BadFar", "BadFirst", "BadRatio", "BadMany", "BadShare", "BadPlans", "BadMissing", "BadChances"]
def exFl : List Str := ["index"]

def b__wall : SX :=
    sWhile (tTru (eC (.bl true))) sNil
def f__wall : List PV → IH → Res PV := fn 1 0 b__wall

def b_is_integer : SX :=
    sRet (eAnd (eB (pIsi ownCs) (aCons (eVar 0) (aCons (eC (.ty "int")) aNil))) (eNot (eB (pIsi ownCs) (aCons (eVar 0) (aCons (eC (.ty "bool")) aNil)))))
def f_is_integer : List PV → IH → Res PV := fn 1 0 b_is_integer

def b_is_from : SX :=
    sRet (eAnd (eCall f_is_integer (aCons (eVar 0) aNil)) (eChain pLe pLe (eVar 1) (eVar 0) (eVar 2)))
def f_is_from : List PV → IH → Res PV := fn 3 0 b_is_from

def b_common : SX :=
    sSeq (sPar 0 1 (aCons (eB pAbs (aCons (eVar 0) aNil)) (aCons (eB pAbs (aCons (eVar 1) aNil)) aNil)))
    (sSeq (sWhile (tTru (eVar 1)) (sPar 0 1 (aCons (eVar 1) (aCons (eOp pMod (eVar 0) (eVar 1)) aNil))))
    (sRet (eVar 0)))
def f_common : List PV → IH → Res PV := fn 2 0 b_common

def b_ratio : SX :=
    sSeq (sSet 2 (eCall f_common (aCons (eVar 0) (aCons (eVar 1) aNil))))
    (sRet (eTup (aCons (eOp pDiv (eVar 0) (eVar 2)) (aCons (eOp pDiv (eVar 1) (eVar 2)) aNil))))
def f_ratio : List PV → IH → Res PV := fn 2 1 b_ratio

def b_is_fraction : SX :=
    sSeq (sIf (tOrX (tNotX (tTru (eB (pIsi ownCs) (aCons (eVar 0) (aCons (eC (.ty "tuple")) aNil))))) (tBl (eOp pNe (eB pLen (aCons (eVar 0) aNil)) (eC (.int 2))))) (sRet (eC (.bl false))) sNil)
    (sSeq (sIf (tOrX (tNotX (tTru (eCall f_is_integer (aCons (eOp pIdx (eVar 0) (eC (.int 0))) aNil)))) (tNotX (tTru (eCall f_is_integer (aCons (eOp pIdx (eVar 0) (eC (.int 1))) aNil))))) (sRet (eC (.bl false))) sNil)
    (sRet (eAnd (eOp pGe (eOp pIdx (eVar 0) (eC (.int 1))) (eC (.int 1))) (eOp pEq (eCall f_common (aCons (eOp pIdx (eVar 0) (eC (.int 0))) (aCons (eOp pIdx (eVar 0) (eC (.int 1))) aNil))) (eC (.int 1))))))
def f_is_fraction : List PV → IH → Res PV := fn 1 0 b_is_fraction

def b_plus : SX :=
    sRet (eCall f_ratio (aCons (eOp pAdd (eOp pMul (eOp pIdx (eVar 0) (eC (.int 0))) (eOp pIdx (eVar 1) (eC (.int 1)))) (eOp pMul (eOp pIdx (eVar 1) (eC (.int 0))) (eOp pIdx (eVar 0) (eC (.int 1))))) (aCons (eOp pMul (eOp pIdx (eVar 0) (eC (.int 1))) (eOp pIdx (eVar 1) (eC (.int 1)))) aNil)))
def f_plus : List PV → IH → Res PV := fn 2 0 b_plus

def b_minus : SX :=
    sRet (eCall f_ratio (aCons (eOp pSub (eOp pMul (eOp pIdx (eVar 0) (eC (.int 0))) (eOp pIdx (eVar 1) (eC (.int 1)))) (eOp pMul (eOp pIdx (eVar 1) (eC (.int 0))) (eOp pIdx (eVar 0) (eC (.int 1))))) (aCons (eOp pMul (eOp pIdx (eVar 0) (eC (.int 1))) (eOp pIdx (eVar 1) (eC (.int 1)))) aNil)))
def f_minus : List PV → IH → Res PV := fn 2 0 b_minus

def b_times : SX :=
    sRet (eCall f_ratio (aCons (eOp pMul (eOp pIdx (eVar 0) (eC (.int 0))) (eOp pIdx (eVar 1) (eC (.int 0)))) (aCons (eOp pMul (eOp pIdx (eVar 0) (eC (.int 1))) (eOp pIdx (eVar 1) (eC (.int 1)))) aNil)))
def f_times : List PV → IH → Res PV := fn 2 0 b_times

def b_over : SX :=
    sRet (eCall f_ratio (aCons (eOp pMul (eOp pIdx (eVar 0) (eC (.int 0))) (eOp pIdx (eVar 1) (eC (.int 1)))) (aCons (eOp pMul (eOp pIdx (eVar 0) (eC (.int 1))) (eOp pIdx (eVar 1) (eC (.int 0)))) aNil)))
def f_over : List PV → IH → Res PV := fn 2 0 b_over

def b_is_less : SX :=
    sRet (eOp pLt (eOp pMul (eOp pIdx (eVar 0) (eC (.int 0))) (eOp pIdx (eVar 1) (eC (.int 1)))) (eOp pMul (eOp pIdx (eVar 1) (eC (.int 0))) (eOp pIdx (eVar 0) (eC (.int 1)))))
def f_is_less : List PV → IH → Res PV := fn 2 0 b_is_less

def b_is_within : SX :=
    sSeq (sIf (tNotX (tTru (eCall f_is_fraction (aCons (eVar 0) aNil)))) (sRet (eC (.bl false))) sNil)
    (sRet (eChain pLe pLe (eOp pMul (eVar 1) (eOp pIdx (eVar 0) (eC (.int 1)))) (eOp pIdx (eVar 0) (eC (.int 0))) (eOp pMul (eVar 2) (eOp pIdx (eVar 0) (eC (.int 1))))))
def f_is_within : List PV → IH → Res PV := fn 3 0 b_is_within

def b_least_of : SX :=
    sSeq (sSet 1 (eOp pIdx (eVar 0) (eC (.int 0))))
    (sSeq (sFor (eIter (eVar 0)) (gVar 2) (sIf (tTru (eCall f_is_less (aCons (eVar 2) (aCons (eVar 1) aNil)))) (sSet 1 (eVar 2)) sNil))
    (sRet (eVar 1)))
def f_least_of : List PV → IH → Res PV := fn 1 2 b_least_of

def b_greatest_of : SX :=
    sSeq (sSet 1 (eOp pIdx (eVar 0) (eC (.int 0))))
    (sSeq (sFor (eIter (eVar 0)) (gVar 2) (sIf (tTru (eCall f_is_less (aCons (eVar 1) (aCons (eVar 2) aNil)))) (sSet 1 (eVar 2)) sNil))
    (sRet (eVar 1)))
def f_greatest_of : List PV → IH → Res PV := fn 1 2 b_greatest_of

def b_is_reach : SX :=
    sRet (eAnd (eCall f_is_within (aCons (eVar 0) (aCons (eC (.int 0)) (aCons (eC (.int 1000000000000)) aNil)))) (eOp pGt (eOp pIdx (eVar 0) (eC (.int 0))) (eC (.int 0))))
def f_is_reach : List PV → IH → Res PV := fn 1 0 b_is_reach

def b_is_turn : SX :=
    sSeq (sIf (tOrX (tNotX (tTru (eB (pIsi ownCs) (aCons (eVar 0) (aCons (eC (.ty "tuple")) aNil))))) (tBl (eOp pNe (eB pLen (aCons (eVar 0) aNil)) (eC (.int 2))))) (sRet (eC (.bl false))) sNil)
    (sRet (eAnd (eCall f_is_from (aCons (eOp pIdx (eVar 0) (eC (.int 0))) (aCons (eC (.int 0)) (aCons (eOp pSub (eVar 1) (eC (.int 1))) aNil)))) (eCall f_is_reach (aCons (eOp pIdx (eVar 0) (eC (.int 1))) aNil))))
def f_is_turn : List PV → IH → Res PV := fn 2 0 b_is_turn

def b_check_roads : SX :=
    sIf (tNotX (tTru (eCall f_is_from (aCons (eVar 0) (aCons (eC (.int 1)) (aCons (eC (.int 5)) aNil)))))) (sRaise "BadRoads") sNil
def f_check_roads : List PV → IH → Res PV := fn 1 0 b_check_roads

def b_check_cost : SX :=
    sIf (tNotX (tTru (eCall f_is_within (aCons (eVar 0) (aCons (eC (.int 0)) (aCons (eC (.int 1000000000000)) aNil)))))) (sRaise "BadCost") sNil
def f_check_cost : List PV → IH → Res PV := fn 1 0 b_check_cost

def b_Plan___init__ : SX :=
    sSeq (sExpr (eCall f_check_roads (aCons (eVar 1) aNil)))
    (sSeq (sIf (tOrX (tNotX (tTru (eB (pIsi ownCs) (aCons (eVar 2) (aCons (eC (.ty "tuple")) aNil))))) (tBl (eOp pGt (eB pLen (aCons (eVar 2) aNil)) (eC (.int 60))))) (sRaiseN "BadTurns" ["index"] (aCons (eC .non) aNil)) sNil)
    (sSeq (sFor (eEnum (aCons (eVar 2) aNil)) (gTupF [4, 5]) (sIf (tNotX (tTru (eCall f_is_turn (aCons (eVar 5) (aCons (eVar 1) aNil))))) (sRaiseN "BadTurns" ["index"] (aCons (eVar 4) aNil)) sNil))
    (sSeq (sExpr (eCall f_check_cost (aCons (eVar 3) aNil)))
    (sFldX "Plan" "held" (eVar 0) (eTup (aCons (eVar 1) (aCons (eVar 2) (aCons (eVar 3) aNil))))))))
def f_Plan___init__ : List PV → IH → Res PV := fn 4 2 b_Plan___init__

def b_Plan_roads : SX :=
    sRet (eOp pIdx (eFld "Plan" "held" (eVar 0)) (eC (.int 0)))
def f_Plan_roads : List PV → IH → Res PV := fn 1 0 b_Plan_roads

def b_Plan_turns : SX :=
    sRet (eOp pIdx (eFld "Plan" "held" (eVar 0)) (eC (.int 1)))
def f_Plan_turns : List PV → IH → Res PV := fn 1 0 b_Plan_turns

def b_Plan_cost : SX :=
    sRet (eOp pIdx (eFld "Plan" "held" (eVar 0)) (eC (.int 2)))
def f_Plan_cost : List PV → IH → Res PV := fn 1 0 b_Plan_cost

def b_Plan___len__ : SX :=
    sRet (eB pLen (aCons (eOp pIdx (eFld "Plan" "held" (eVar 0)) (eC (.int 1))) aNil))
def f_Plan___len__ : List PV → IH → Res PV := fn 1 0 b_Plan___len__

def b_Plan___eq__ : SX :=
    sRet (eAnd (eB (pIsi ownCs) (aCons (eVar 1) (aCons (eC (.glo "Plan")) aNil))) (eOp pEq (eFld "Plan" "held" (eVar 0)) (eFld "Plan" "held" (eVar 1))))
def f_Plan___eq__ : List PV → IH → Res PV := fn 2 0 b_Plan___eq__

def b_check_plan : SX :=
    sIf (tNotX (tTru (eB (pIsi ownCs) (aCons (eVar 0) (aCons (eC (.glo "Plan")) aNil))))) (sRaise "BadPlan") sNil
def f_check_plan : List PV → IH → Res PV := fn 1 0 b_check_plan

def b_check_road : SX :=
    sIf (tNotX (tTru (eCall f_is_from (aCons (eVar 1) (aCons (eC (.int 0)) (aCons (eOp pSub (eVar 0) (eC (.int 1))) aNil)))))) (sRaise "BadRoad") sNil
def f_check_road : List PV → IH → Res PV := fn 2 0 b_check_road

def b_is_far : SX :=
    sRet (eCall f_is_within (aCons (eVar 0) (aCons (eC (.int 1)) (aCons (eC (.int 1000000000000000000000000000000)) aNil))))
def f_is_far : List PV → IH → Res PV := fn 1 0 b_is_far

def b_check_far : SX :=
    sIf (tNotX (tTru (eCall f_is_far (aCons (eVar 0) aNil)))) (sRaise "BadFar") sNil
def f_check_far : List PV → IH → Res PV := fn 1 0 b_check_far

def b_bases_of : SX :=
    sSeq (sSet 1 (eLst (aCons (eC (.tup [.int 0, .int 1])) aNil)))
    (sSeq (sFor (eIter (eOp pIdx (eFld "Plan" "held" (eVar 0)) (eC (.int 1)))) (gTupF [2, 3]) (sExpr (eAppend (eVar 1) (aCons (eCall f_plus (aCons (eOp pIdx (eVar 1) (eUn pNeg (eC (.int 1)))) (aCons (eCall f_plus (aCons (eCall f_times (aCons (eTup (aCons (eC (.int 2)) (aCons (eC (.int 1)) aNil))) (aCons (eVar 3) aNil))) (aCons (eOp pIdx (eFld "Plan" "held" (eVar 0)) (eC (.int 2))) aNil))) aNil))) aNil))))
    (sRet (eVar 1)))
def f_bases_of : List PV → IH → Res PV := fn 1 3 b_bases_of

def b_walked_by : SX :=
    sSeq (sFor (eZip (aCons (eOp pIdx (eFld "Plan" "held" (eVar 0)) (eC (.int 1))) (aCons (eCall f_bases_of (aCons (eVar 0) aNil)) aNil))) (gTupF [3, 4]) (sIf (tAndX (tBl (eOp pEq (eOp pIdx (eVar 3) (eC (.int 0))) (eVar 1))) (tNotX (tTru (eCall f_is_less (aCons (eOp pIdx (eVar 3) (eC (.int 1))) (aCons (eVar 2) aNil)))))) (sRet (eCall f_plus (aCons (eVar 4) (aCons (eVar 2) aNil)))) sNil))
    (sRet (eC .non))
def f_walked_by : List PV → IH → Res PV := fn 3 2 b_walked_by

def b_check_place : SX :=
    sSeq (sExpr (eCall f_check_plan (aCons (eVar 0) aNil)))
    (sSeq (sExpr (eCall f_check_road (aCons (eOp pIdx (eFld "Plan" "held" (eVar 0)) (eC (.int 0))) (aCons (eVar 1) aNil))))
    (sExpr (eCall f_check_far (aCons (eVar 2) aNil))))
def f_check_place : List PV → IH → Res PV := fn 3 0 b_check_place

def b_walked : SX :=
    sSeq (sExpr (eCall f_check_place (aCons (eVar 0) (aCons (eVar 1) (aCons (eVar 2) aNil)))))
    (sRet (eCall f_walked_by (aCons (eVar 0) (aCons (eVar 1) (aCons (eVar 2) aNil)))))
def f_walked : List PV → IH → Res PV := fn 3 0 b_walked

def b_share : SX :=
    sSeq (sExpr (eCall f_check_place (aCons (eVar 0) (aCons (eVar 1) (aCons (eVar 2) aNil)))))
    (sSeq (sSet 3 (eCall f_walked_by (aCons (eVar 0) (aCons (eVar 1) (aCons (eVar 2) aNil)))))
    (sSeq (sIf (tBl (eOp pIsN (eVar 3) (eC .non))) (sRet (eC .non)) sNil)
    (sRet (eCall f_over (aCons (eVar 3) (aCons (eVar 2) aNil))))))
def f_share : List PV → IH → Res PV := fn 3 1 b_share

def b_pieces_of : SX :=
    sSeq (sSet 2 (eLst aNil))
    (sSeq (sSet 3 (eC (.tup [.int 0, .int 1])))
    (sSeq (sFor (eZip (aCons (eOp pIdx (eFld "Plan" "held" (eVar 0)) (eC (.int 1))) (aCons (eCall f_bases_of (aCons (eVar 0) aNil)) aNil))) (gTupF [4, 5]) (sSeq (sAsgT (gTupF [6, 7]) (eVar 4))
    (sIf (tAndX (tBl (eOp pEq (eVar 6) (eVar 1))) (tTru (eCall f_is_less (aCons (eVar 3) (aCons (eVar 7) aNil))))) (sSeq (sIf (tNotX (tTru (eCall f_is_less (aCons (eVar 7) (aCons (eC (.tup [.int 1, .int 1])) aNil))))) (sExpr (eAppend (eVar 2) (aCons (eTup (aCons (eCall f_greatest_of (aCons (eLst (aCons (eVar 3) (aCons (eC (.tup [.int 1, .int 1])) aNil))) aNil)) (aCons (eVar 7) (aCons (eVar 5) aNil)))) aNil))) sNil)
    (sSet 3 (eVar 7))) sNil)))
    (sRet (eVar 2))))
def f_pieces_of : List PV → IH → Res PV := fn 2 6 b_pieces_of

def b_pieces : SX :=
    sSeq (sExpr (eCall f_check_plan (aCons (eVar 0) aNil)))
    (sSeq (sExpr (eCall f_check_road (aCons (eOp pIdx (eFld "Plan" "held" (eVar 0)) (eC (.int 0))) (aCons (eVar 1) aNil))))
    (sRet (eCall f_pieces_of (aCons (eVar 0) (aCons (eVar 1) aNil)))))
def f_pieces : List PV → IH → Res PV := fn 2 0 b_pieces

def b_reach_of : SX :=
    sSeq (sSet 2 (eCall f_pieces_of (aCons (eVar 0) (aCons (eVar 1) aNil))))
    (sSeq (sIf (tNotX (tTru (eVar 2))) (sRet (eC (.tup [.int 0, .int 1]))) sNil)
    (sRet (eOp pIdx (eOp pIdx (eVar 2) (eUn pNeg (eC (.int 1)))) (eC (.int 1)))))
def f_reach_of : List PV → IH → Res PV := fn 2 1 b_reach_of

def b_cover : SX :=
    sSeq (sExpr (eCall f_check_plan (aCons (eVar 0) aNil)))
    (sRet (eCall f_least_of (aCons (eLc (eRange1 (aCons (eOp pIdx (eFld "Plan" "held" (eVar 0)) (eC (.int 0))) aNil)) (gVar 1) tYesX (eCall f_reach_of (aCons (eVar 0) (aCons (eVar 1) aNil))) [1]) aNil)))
def f_cover : List PV → IH → Res PV := fn 1 1 b_cover

def b_worst_of : SX :=
    sSeq (sSet 1 (eC .non))
    (sSeq (sFor (eRange1 (aCons (eOp pIdx (eFld "Plan" "held" (eVar 0)) (eC (.int 0))) aNil)) (gVar 2) (sFor (eEnum (aCons (eCall f_pieces_of (aCons (eVar 0) (aCons (eVar 2) aNil))) aNil)) (gTupF [3, 4]) (sSeq (sSet 5 (eCall f_plus (aCons (eC (.tup [.int 1, .int 1])) (aCons (eCall f_over (aCons (eOp pIdx (eVar 4) (eC (.int 2))) (aCons (eOp pIdx (eVar 4) (eC (.int 0))) aNil))) aNil))))
    (sIf (tOrX (tBl (eOp pIsN (eVar 1) (eC .non))) (tTru (eCall f_is_less (aCons (eOp pIdx (eVar 1) (eC (.int 0))) (aCons (eVar 5) aNil))))) (sSet 1 (eTup (aCons (eVar 5) (aCons (eVar 2) (aCons (eOp pIdx (eVar 4) (eC (.int 0))) (aCons (eOp pEq (eVar 3) (eC (.int 0))) aNil)))))) sNil))))
    (sRet (eVar 1)))
def f_worst_of : List PV → IH → Res PV := fn 1 5 b_worst_of

def b_worst : SX :=
    sSeq (sExpr (eCall f_check_plan (aCons (eVar 0) aNil)))
    (sRet (eCall f_worst_of (aCons (eVar 0) aNil)))
def f_worst : List PV → IH → Res PV := fn 1 0 b_worst

def b_is_chance : SX :=
    sSeq (sIf (tOrX (tNotX (tTru (eB (pIsi ownCs) (aCons (eVar 0) (aCons (eC (.ty "tuple")) aNil))))) (tBl (eOp pNe (eB pLen (aCons (eVar 0) aNil)) (eC (.int 3))))) (sRet (eC (.bl false))) sNil)
    (sSeq (sAsgT (gTupF [2, 3, 4]) (eVar 0))
    (sRet (eAnd (eCall f_is_from (aCons (eVar 2) (aCons (eC (.int 0)) (aCons (eOp pSub (eVar 1) (eC (.int 1))) aNil)))) (eAnd (eCall f_is_within (aCons (eVar 3) (aCons (eC (.int 1)) (aCons (eC (.int 1000000)) aNil)))) (eCall f_is_from (aCons (eVar 4) (aCons (eC (.int 1)) (aCons (eC (.int 999)) aNil))))))))
def f_is_chance : List PV → IH → Res PV := fn 2 3 b_is_chance

def b_check_chances : SX :=
    sSeq (sExpr (eCall f_check_roads (aCons (eVar 0) aNil)))
    (sSeq (sIf (tOrX (tNotX (tTru (eB (pIsi ownCs) (aCons (eVar 1) (aCons (eC (.ty "tuple")) aNil))))) (tNotX (tBl (eChain pLe pLe (eC (.int 1)) (eB pLen (aCons (eVar 1) aNil)) (eC (.int 8)))))) (sRaise "BadChances") sNil)
    (sSeq (sSet 2 (eLst aNil))
    (sFor (eIter (eVar 1)) (gVar 3) (sSeq (sIf (tOrX (tNotX (tTru (eCall f_is_chance (aCons (eVar 3) (aCons (eVar 0) aNil))))) (tBl (eOp pIn (eSl (eVar 3) oNone (oSome (eC (.int 2)))) (eVar 2)))) (sRaise "BadChances") sNil)
    (sExpr (eAppend (eVar 2) (aCons (eSl (eVar 3) oNone (oSome (eC (.int 2)))) aNil)))))))
def f_check_chances : List PV → IH → Res PV := fn 2 2 b_check_chances

def b_with_place : SX :=
    sSeq (sSet 3 (eB pLen (aCons (eLc (eIter (eVar 0)) (gVar 4) (tTru (eCall f_is_less (aCons (eOp pIdx (eVar 4) (eC (.int 0))) (aCons (eVar 1) aNil)))) (eVar 4) [4]) aNil)))
    (sRet (eOp pAdd (eOp pAdd (eSl (eVar 0) oNone (oSome (eVar 3))) (eLst (aCons (eTup (aCons (eVar 1) (aCons (eVar 2) aNil))) aNil))) (eSl (eVar 0) (oSome (eVar 3)) oNone)))
def f_with_place : List PV → IH → Res PV := fn 3 2 b_with_place

def b_rows_of : SX :=
    sSeq (sSet 2 (eLc (eRange1 (aCons (eVar 0) aNil)) (gVar 3) tYesX (eLst aNil) [3]))
    (sSeq (sFor (eIter (eVar 1)) (gTupF [3, 4, 5]) (sSetIx (eVar 2) (eVar 3) (eCall f_with_place (aCons (eOp pIdx (eVar 2) (eVar 3)) (aCons (eVar 4) (aCons (eVar 5) aNil))))))
    (sRet (eVar 2)))
def f_rows_of : List PV → IH → Res PV := fn 2 4 b_rows_of

def b_weight_behind : SX :=
    sSeq (sSet 2 (eC (.int 0)))
    (sSeq (sFor (eZip (aCons (eVar 0) (aCons (eF (eVar 1)) aNil))) (gTupF [3, 4]) (sAugAdd 2 (eB pSum (aCons (eLc (eIter (eSl (eVar 3) (oSome (eVar 4)) oNone)) (gTupF [5, 6]) tYesX (eVar 6) [5, 6]) aNil))))
    (sRet (eVar 2)))
def f_weight_behind : List PV → IH → Res PV := fn 2 5 b_weight_behind

def b_turn_costs : SX :=
    sSeq (sSet 2 (eLst aNil))
    (sSeq (sFor (eEnum (aCons (eVar 0) aNil)) (gTupF [3, 4]) (sSeq (sSet 5 (eC (.tup [.int 0, .int 1])))
    (sFor (eRange2 (aCons (eOp pIdx (eF (eVar 1)) (eVar 3)) (aCons (eB pLen (aCons (eVar 4) aNil)) aNil))) (gVar 6) (sSeq (sAsgT (gTupF [7, 8]) (eOp pIdx (eVar 4) (eVar 6)))
    (sSeq (sSet 5 (eCall f_plus (aCons (eVar 5) (aCons (eCall f_times (aCons (eVar 7) (aCons (eTup (aCons (eVar 8) (aCons (eC (.int 1)) aNil))) aNil))) aNil))))
    (sSeq (sSet 9 (eOp pAddK (eOp pAddK (eSlK (eVar 1) oNone (oSome (eVar 3))) (eKey (aCons (eOp pAdd (eVar 6) (eC (.int 1))) aNil))) (eSlK (eVar 1) (oSome (eOp pAdd (eVar 3) (eC (.int 1)))) oNone)))
    (sSeq (sSet 10 (eCall f_times (aCons (eVar 7) (aCons (eTup (aCons (eOp pMul (eC (.int 2)) (eCall f_weight_behind (aCons (eVar 0) (aCons (eVar 9) aNil)))) (aCons (eC (.int 1)) aNil))) aNil))))
    (sExpr (eAppend (eVar 2) (aCons (eTup (aCons (eTup (aCons (eVar 3) (aCons (eVar 7) aNil))) (aCons (eVar 9) (aCons (eCall f_plus (aCons (eVar 5) (aCons (eVar 10) aNil))) aNil)))) aNil))))))))))
    (sRet (eVar 2)))
def f_turn_costs : List PV → IH → Res PV := fn 2 9 b_turn_costs

def b_totals_of : SX :=
    sSeq (sSet 1 (eLst (aCons (eKey aNil) aNil)))
    (sSeq (sFor (eIter (eVar 0)) (gVar 2) (sSet 1 (eLc2 (eIter (eVar 1)) (gVar 10) tYesX (eRange1 (aCons (eOp pAdd (eB pLen (aCons (eVar 2) aNil)) (eC (.int 1))) aNil)) (gVar 11) tYesX (eOp pAddK (eVar 10) (eKey (aCons (eVar 11) aNil))) [10, 11] [11])))
    (sSeq (sSet 3 eDNew)
    (sSeq (sFor (eRev (aCons (eVar 1) aNil)) (gVar 4) (sSeq (sSet 5 (eC .non))
    (sSeq (sFor (eIter (eCall f_turn_costs (aCons (eVar 0) (aCons (eVar 4) aNil)))) (gTupF [6, 7, 8]) (sSeq (sSet 9 (eCall f_plus (aCons (eVar 8) (aCons (eOp pIdx (eOp pDGet (eVar 3) (eVar 7)) (eC (.int 0))) aNil))))
    (sIf (tOrX (tBl (eOp pIsN (eVar 5) (eC .non))) (tTru (eCall f_is_less (aCons (eVar 9) (aCons (eOp pIdx (eVar 5) (eC (.int 0))) aNil))))) (sSet 5 (eTup (aCons (eVar 9) (aCons (eVar 6) (aCons (eVar 7) aNil))))) sNil)))
    (sSeq (sIf (tBl (eOp pIsN (eVar 5) (eC .non))) (sSet 5 (eTup (aCons (eC (.tup [.int 0, .int 1])) (aCons (eC .non) (aCons (eC .non) aNil))))) sNil)
    (sDPutX (eVar 3) (eVar 4) (eVar 5))))))
    (sRet (eVar 3)))))
def f_totals_of : List PV → IH → Res PV := fn 1 11 b_totals_of

def b_least_walk : SX :=
    sSeq (sExpr (eCall f_check_chances (aCons (eVar 0) (aCons (eVar 1) aNil))))
    (sSeq (sSet 2 (eCall f_rows_of (aCons (eVar 0) (aCons (eVar 1) aNil))))
    (sSeq (sSet 3 (eOp pMulK (eKey (aCons (eC (.int 0)) aNil)) (eVar 0)))
    (sRet (eCall f_over (aCons (eOp pIdx (eOp pDGet (eCall f_totals_of (aCons (eVar 2) aNil)) (eVar 3)) (eC (.int 0))) (aCons (eTup (aCons (eCall f_weight_behind (aCons (eVar 2) (aCons (eVar 3) aNil))) (aCons (eC (.int 1)) aNil))) aNil))))))
def f_least_walk : List PV → IH → Res PV := fn 2 2 b_least_walk

def b_best_plan : SX :=
    sSeq (sExpr (eCall f_check_chances (aCons (eVar 0) (aCons (eVar 1) aNil))))
    (sSeq (sSet 2 (eCall f_totals_of (aCons (eCall f_rows_of (aCons (eVar 0) (aCons (eVar 1) aNil))) aNil)))
    (sSeq (sSet 3 (eOp pMulK (eKey (aCons (eC (.int 0)) aNil)) (eVar 0)))
    (sSeq (sSet 4 (eLst aNil))
    (sSeq (sWhile (tBl (eOp pNotN (eOp pIdx (eOp pDGet (eVar 2) (eVar 3)) (eC (.int 1))) (eC .non))) (sSeq (sExpr (eAppend (eVar 4) (aCons (eOp pIdx (eOp pDGet (eVar 2) (eVar 3)) (eC (.int 1))) aNil)))
    (sSet 3 (eOp pIdx (eOp pDGet (eVar 2) (eVar 3)) (eC (.int 2))))))
    (sRet (eCall (mkO "Plan" f_Plan___init__) (aCons (eVar 0) (aCons (eB pTuple1 (aCons (eVar 4) aNil)) (aCons (eC (.tup [.int 0, .int 1])) aNil)))))))))
def f_best_plan : List PV → IH → Res PV := fn 2 3 b_best_plan

def b_check_many_roads : SX :=
    sIf (tNotX (tTru (eCall f_is_from (aCons (eVar 0) (aCons (eC (.int 2)) (aCons (eC (.int 5)) aNil)))))) (sRaise "BadRoads") sNil
def f_check_many_roads : List PV → IH → Res PV := fn 1 0 b_check_many_roads

def b_check_ratio : SX :=
    sIf (tOrX (tNotX (tTru (eCall f_is_within (aCons (eVar 0) (aCons (eC (.int 1)) (aCons (eC (.int 100)) aNil)))))) (tBl (eOp pEq (eVar 0) (eC (.tup [.int 1, .int 1]))))) (sRaise "BadRatio") sNil
def f_check_ratio : List PV → IH → Res PV := fn 1 0 b_check_ratio

def b_check_first : SX :=
    sIf (tOrX (tNotX (tTru (eCall f_is_within (aCons (eVar 0) (aCons (eC (.int 0)) (aCons (eC (.int 1)) aNil)))))) (tBl (eOp pEq (eOp pIdx (eVar 0) (eC (.int 0))) (eC (.int 0))))) (sRaise "BadFirst") sNil
def f_check_first : List PV → IH → Res PV := fn 1 0 b_check_first

def b_power : SX :=
    sSeq (sSet 2 (eC (.tup [.int 1, .int 1])))
    (sSeq (sFor (eRange1 (aCons (eVar 1) aNil)) (gVar 3) (sSet 2 (eCall f_times (aCons (eVar 2) (aCons (eVar 0) aNil)))))
    (sRet (eVar 2)))
def f_power : List PV → IH → Res PV := fn 2 2 b_power

def b_bound_of : SX :=
    sRet (eCall f_plus (aCons (eC (.tup [.int 1, .int 1])) (aCons (eCall f_over (aCons (eCall f_times (aCons (eTup (aCons (eC (.int 2)) (aCons (eC (.int 1)) aNil))) (aCons (eCall f_power (aCons (eVar 1) (aCons (eVar 0) aNil))) aNil))) (aCons (eCall f_minus (aCons (eVar 1) (aCons (eC (.tup [.int 1, .int 1])) aNil))) aNil))) aNil)))
def f_bound_of : List PV → IH → Res PV := fn 2 0 b_bound_of

def b_most_share : SX :=
    sSeq (sExpr (eCall f_check_many_roads (aCons (eVar 0) aNil)))
    (sSeq (sExpr (eCall f_check_ratio (aCons (eVar 1) aNil)))
    (sRet (eCall f_bound_of (aCons (eVar 0) (aCons (eVar 1) aNil)))))
def f_most_share : List PV → IH → Res PV := fn 2 0 b_most_share

def b_best_ratio : SX :=
    sSeq (sExpr (eCall f_check_many_roads (aCons (eVar 0) aNil)))
    (sRet (eTup (aCons (eVar 0) (aCons (eOp pSub (eVar 0) (eC (.int 1))) aNil))))
def f_best_ratio : List PV → IH → Res PV := fn 1 0 b_best_ratio

def b_best_bound : SX :=
    sSeq (sExpr (eCall f_check_many_roads (aCons (eVar 0) aNil)))
    (sRet (eCall f_bound_of (aCons (eVar 0) (aCons (eTup (aCons (eVar 0) (aCons (eOp pSub (eVar 0) (eC (.int 1))) aNil))) aNil))))
def f_best_bound : List PV → IH → Res PV := fn 1 0 b_best_bound

def b_grown : SX :=
    sSeq (sExpr (eCall f_check_many_roads (aCons (eVar 0) aNil)))
    (sSeq (sExpr (eCall f_check_first (aCons (eVar 1) aNil)))
    (sSeq (sExpr (eCall f_check_ratio (aCons (eVar 2) aNil)))
    (sSeq (sIf (tNotX (tTru (eCall f_is_from (aCons (eVar 3) (aCons (eC (.int 0)) (aCons (eC (.int 60)) aNil)))))) (sRaise "BadMany") sNil)
    (sSeq (sSet 4 (eLst aNil))
    (sSeq (sSet 5 (eVar 1))
    (sSeq (sFor (eRange1 (aCons (eVar 3) aNil)) (gVar 6) (sSeq (sIf (tTru (eCall f_is_less (aCons (eTup (aCons (eC (.int 1000000000000)) (aCons (eC (.int 1)) aNil))) (aCons (eVar 5) aNil)))) sBad sNil)
    (sSeq (sExpr (eAppend (eVar 4) (aCons (eTup (aCons (eOp pMod (eVar 6) (eVar 0)) (aCons (eVar 5) aNil))) aNil)))
    (sSet 5 (eCall f_times (aCons (eVar 5) (aCons (eVar 2) aNil)))))))
    (sRet (eCall (mkO "Plan" f_Plan___init__) (aCons (eVar 0) (aCons (eB pTuple1 (aCons (eVar 4) aNil)) (aCons (eC (.tup [.int 0, .int 1])) aNil)))))))))))
def f_grown : List PV → IH → Res PV := fn 4 3 b_grown

def b_growing_walked : SX :=
    sSeq (sExpr (eCall f_check_many_roads (aCons (eVar 0) aNil)))
    (sSeq (sExpr (eCall f_check_first (aCons (eVar 1) aNil)))
    (sSeq (sExpr (eCall f_check_ratio (aCons (eVar 2) aNil)))
    (sSeq (sIf (tTru (eCall f_is_less (aCons (eVar 2) (aCons (eTup (aCons (eC (.int 11)) (aCons (eC (.int 10)) aNil))) aNil)))) (sRaise "BadRatio") sNil)
    (sSeq (sExpr (eCall f_check_road (aCons (eVar 0) (aCons (eVar 3) aNil))))
    (sSeq (sIf (tNotX (tTru (eCall f_is_far (aCons (eVar 4) aNil)))) (sRaise "BadFar") sNil)
    (sSeq (sPar3 5 6 7 (aCons (eC (.tup [.int 0, .int 1])) (aCons (eVar 1) (aCons (eC (.int 0)) aNil))))
    (sSeq (sWhile (tOrX (tBl (eOp pNe (eOp pMod (eVar 7) (eVar 0)) (eVar 3))) (tTru (eCall f_is_less (aCons (eVar 6) (aCons (eVar 4) aNil))))) (sSeq (sSet 5 (eCall f_plus (aCons (eVar 5) (aCons (eCall f_times (aCons (eTup (aCons (eC (.int 2)) (aCons (eC (.int 1)) aNil))) (aCons (eVar 6) aNil))) aNil))))
    (sSeq (sSet 6 (eCall f_times (aCons (eVar 6) (aCons (eVar 2) aNil))))
    (sAugAdd 7 (eC (.int 1))))))
    (sRet (eCall f_plus (aCons (eVar 5) (aCons (eVar 4) aNil)))))))))))
def f_growing_walked : List PV → IH → Res PV := fn 5 3 b_growing_walked

def b_check_team : SX :=
    sSeq (sIf (tOrX (tNotX (tTru (eB (pIsi ownCs) (aCons (eVar 0) (aCons (eC (.ty "tuple")) aNil))))) (tNotX (tBl (eChain pLe pLe (eC (.int 1)) (eB pLen (aCons (eVar 0) aNil)) (eC (.int 4)))))) (sRaise "BadPlans") sNil)
    (sSeq (sFor (eIter (eVar 0)) (gVar 2) (sIf (tOrX (tNotX (tTru (eB (pIsi ownCs) (aCons (eVar 2) (aCons (eC (.glo "Plan")) aNil))))) (tBl (eOp pNe (eOp pIdx (eFld "Plan" "held" (eVar 2)) (eC (.int 0))) (eOp pIdx (eFld "Plan" "held" (eOp pIdx (eVar 0) (eC (.int 0)))) (eC (.int 0)))))) (sRaise "BadPlans") sNil))
    (sIf (tNotX (tTru (eCall f_is_from (aCons (eVar 1) (aCons (eC (.int 0)) (aCons (eOp pSub (eB pLen (aCons (eVar 0) aNil)) (eC (.int 1))) aNil)))))) (sRaise "BadMissing") sNil))
def f_check_team : List PV → IH → Res PV := fn 2 1 b_check_team

def b_in_order : SX :=
    sSeq (sSet 1 (eLst aNil))
    (sSeq (sFor (eIter (eVar 0)) (gVar 2) (sSeq (sSet 3 (eB pLen (aCons (eLc (eIter (eVar 1)) (gVar 4) (tNotX (tTru (eCall f_is_less (aCons (eVar 2) (aCons (eVar 4) aNil))))) (eVar 4) [4]) aNil)))
    (sExpr (eInsert (eVar 1) (aCons (eVar 3) (aCons (eVar 2) aNil))))))
    (sRet (eVar 1)))
def f_in_order : List PV → IH → Res PV := fn 1 4 b_in_order

def b_team_time : SX :=
    sSeq (sSet 4 (eLc (eIter (eVar 0)) (gVar 6) tYesX (eCall f_walked_by (aCons (eVar 6) (aCons (eVar 2) (aCons (eVar 3) aNil)))) [6]))
    (sSeq (sSet 5 (eCall f_in_order (aCons (eLc (eIter (eVar 4)) (gVar 7) (tBl (eOp pNotN (eVar 7) (eC .non))) (eVar 7) [7]) aNil)))
    (sSeq (sIf (tBl (eOp pLe (eB pLen (aCons (eVar 5) aNil)) (eVar 1))) (sRet (eC .non)) sNil)
    (sRet (eOp pIdx (eVar 5) (eVar 1)))))
def f_team_time : List PV → IH → Res PV := fn 4 4 b_team_time

def b_team_walked : SX :=
    sSeq (sExpr (eCall f_check_team (aCons (eVar 0) (aCons (eVar 1) aNil))))
    (sSeq (sExpr (eCall f_check_road (aCons (eOp pIdx (eFld "Plan" "held" (eOp pIdx (eVar 0) (eC (.int 0)))) (eC (.int 0))) (aCons (eVar 2) aNil))))
    (sSeq (sExpr (eCall f_check_far (aCons (eVar 3) aNil)))
    (sRet (eCall f_team_time (aCons (eVar 0) (aCons (eVar 1) (aCons (eVar 2) (aCons (eVar 3) aNil))))))))
def f_team_walked : List PV → IH → Res PV := fn 4 0 b_team_walked

def b_bases_behind : SX :=
    sSeq (sSet 3 (eLst aNil))
    (sSeq (sFor (eIter (eVar 0)) (gVar 4) (sFor (eIter (eCall f_pieces_of (aCons (eVar 4) (aCons (eVar 1) aNil)))) (gTupF [5, 6, 7]) (sIf (tAndX (tNotX (tTru (eCall f_is_less (aCons (eVar 2) (aCons (eVar 5) aNil))))) (tTru (eCall f_is_less (aCons (eVar 2) (aCons (eVar 6) aNil))))) (sExpr (eAppend (eVar 3) (aCons (eVar 7) aNil))) sNil)))
    (sRet (eCall f_in_order (aCons (eVar 3) aNil))))
def f_bases_behind : List PV → IH → Res PV := fn 3 5 b_bases_behind

def b_lows_of : SX :=
    sSeq (sSet 2 (eLst (aCons (eC (.tup [.int 1, .int 1])) aNil)))
    (sSeq (sFor (eIter (eVar 0)) (gVar 3) (sFor (eIter (eCall f_pieces_of (aCons (eVar 3) (aCons (eVar 1) aNil)))) (gTupF [4, 5, 6]) (sFor (eIter (eTup (aCons (eVar 4) (aCons (eVar 5) aNil)))) (gVar 7) (sIf (tBl (eOp pNotIn (eVar 7) (eVar 2))) (sExpr (eAppend (eVar 2) (aCons (eVar 7) aNil))) sNil))))
    (sRet (eCall f_in_order (aCons (eVar 2) aNil))))
def f_lows_of : List PV → IH → Res PV := fn 2 6 b_lows_of

def b_share_at : SX :=
    sSeq (sSet 4 (eCall f_team_time (aCons (eVar 0) (aCons (eVar 1) (aCons (eVar 2) (aCons (eVar 3) aNil))))))
    (sSeq (sIf (tBl (eOp pNotN (eVar 4) (eC .non))) (sSet 4 (eCall f_over (aCons (eVar 4) (aCons (eVar 3) aNil)))) sNil)
    (sSeq (sSet 5 (eCall f_bases_behind (aCons (eVar 0) (aCons (eVar 2) (aCons (eVar 3) aNil)))))
    (sSeq (sSet 6 (eC .non))
    (sSeq (sIf (tBl (eOp pGt (eB pLen (aCons (eVar 5) aNil)) (eVar 1))) (sSet 6 (eCall f_plus (aCons (eC (.tup [.int 1, .int 1])) (aCons (eCall f_over (aCons (eOp pIdx (eVar 5) (eVar 1)) (aCons (eVar 3) aNil))) aNil)))) sNil)
    (sSeq (sIf (tAndX (tBl (eOp pEq (eVar 3) (eC (.tup [.int 1, .int 1])))) (tAndX (tBl (eOp pNotN (eVar 4) (eC .non))) (tOrX (tBl (eOp pIsN (eVar 6) (eC .non))) (tTru (eCall f_is_less (aCons (eVar 6) (aCons (eVar 4) aNil))))))) (sSet 6 (eVar 4)) sNil)
    (sRet (eTup (aCons (eVar 6) (aCons (eOp pEq (eVar 6) (eVar 4)) aNil)))))))))
def f_share_at : List PV → IH → Res PV := fn 4 3 b_share_at

def b_team_worst : SX :=
    sSeq (sExpr (eCall f_check_team (aCons (eVar 0) (aCons (eVar 1) aNil))))
    (sSeq (sSet 2 (eC .non))
    (sSeq (sFor (eRange1 (aCons (eOp pIdx (eFld "Plan" "held" (eOp pIdx (eVar 0) (eC (.int 0)))) (eC (.int 0))) aNil)) (gVar 3) (sFor (eIter (eCall f_lows_of (aCons (eVar 0) (aCons (eVar 3) aNil)))) (gVar 4) (sSeq (sAsgT (gTupF [5, 6]) (eCall f_share_at (aCons (eVar 0) (aCons (eVar 1) (aCons (eVar 3) (aCons (eVar 4) aNil))))))
    (sIf (tAndX (tBl (eOp pNotN (eVar 5) (eC .non))) (tOrX (tBl (eOp pIsN (eVar 2) (eC .non))) (tTru (eCall f_is_less (aCons (eOp pIdx (eVar 2) (eC (.int 0))) (aCons (eVar 5) aNil)))))) (sSet 2 (eTup (aCons (eVar 5) (aCons (eVar 3) (aCons (eVar 4) (aCons (eVar 6) aNil)))))) sNil))))
    (sRet (eVar 2))))
def f_team_worst : List PV → IH → Res PV := fn 2 5 b_team_worst

def b_fraction_text : SX :=
    sSeq (sIf (tBl (eOp pEq (eOp pIdx (eVar 0) (eC (.int 1))) (eC (.int 1)))) (sRet (eB pStr1 (aCons (eOp pIdx (eVar 0) (eC (.int 0))) aNil))) sNil)
    (sRet (eJoined [eFmt (eOp pIdx (eVar 0) (eC (.int 0))), eC (.str "/"), eFmt (eOp pIdx (eVar 0) (eC (.int 1)))]))
def f_fraction_text : List PV → IH → Res PV := fn 1 0 b_fraction_text

def b_write_plan : SX :=
    sSeq (sExpr (eCall f_check_plan (aCons (eVar 0) aNil)))
    (sSeq (sAsgT (gTupF [1, 2, 3]) (eFld "Plan" "held" (eVar 0)))
    (sSeq (sSet 4 (eLst (aCons (eJoined [eC (.str "roads "), eFmt (eVar 1), eC (.str " cost "), eFmt (eCall f_fraction_text (aCons (eVar 3) aNil))]) aNil)))
    (sSeq (sFor (eIter (eVar 2)) (gTupF [5, 6]) (sExpr (eAppend (eVar 4) (aCons (eJoined [eFmt (eVar 5), eC (.str " "), eFmt (eCall f_fraction_text (aCons (eVar 6) aNil))]) aNil))))
    (sRet (eJoin (eC (.str "\n")) (eVar 4))))))
def f_write_plan : List PV → IH → Res PV := fn 1 6 b_write_plan

def b_check_share : SX :=
    sIf (tOrX (tNotX (tTru (eCall f_is_within (aCons (eVar 0) (aCons (eC (.int 1)) (aCons (eC (.int 100)) aNil)))))) (tBl (eOp pGt (eOp pIdx (eVar 0) (eC (.int 1))) (eC (.int 1000))))) (sRaise "BadShare") sNil
def f_check_share : List PV → IH → Res PV := fn 1 0 b_check_share

def b_half_of : SX :=
    sRet (eCall f_ratio (aCons (eOp pSub (eOp pIdx (eVar 0) (eC (.int 0))) (eOp pIdx (eVar 0) (eC (.int 1)))) (aCons (eOp pMul (eC (.int 2)) (eOp pIdx (eVar 0) (eC (.int 1)))) aNil)))
def f_half_of : List PV → IH → Res PV := fn 1 0 b_half_of

def b_reaches_to : SX :=
    sSeq (sSet 2 (eLst aNil))
    (sSeq (sSet 3 (eC (.tup [.int 0, .int 1])))
    (sSeq (sSet 4 (eVar 0))
    (sSeq (sWhile (tBl (eOp pGt (eOp pIdx (eVar 4) (eC (.int 0))) (eC (.int 0)))) (sSeq (sExpr (eAppend (eVar 2) (aCons (eVar 4) aNil)))
    (sSeq (sIf (tAndX (tBl (eOp pNotN (eVar 1) (eC .non))) (tNotX (tTru (eCall f_is_less (aCons (eVar 4) (aCons (eVar 1) aNil)))))) sBreak sNil)
    (sSeq (sSet 3 (eCall f_plus (aCons (eVar 3) (aCons (eVar 4) aNil))))
    (sSet 4 (eCall f_minus (aCons (eCall f_times (aCons (eVar 0) (aCons (eVar 4) aNil))) (aCons (eVar 3) aNil))))))))
    (sRet (eVar 2)))))
def f_reaches_to : List PV → IH → Res PV := fn 2 3 b_reaches_to

def b_farthest_of : SX :=
    sSeq (sIf (tNotX (tTru (eCall f_is_less (aCons (eVar 0) (aCons (eTup (aCons (eC (.int 9)) (aCons (eC (.int 1)) aNil))) aNil))))) (sRet (eC .non)) sNil)
    (sSeq (sIf (tTru (eCall f_is_less (aCons (eVar 0) (aCons (eTup (aCons (eC (.int 3)) (aCons (eC (.int 1)) aNil))) aNil)))) (sRet (eC (.tup [.int 0, .int 1]))) sNil)
    (sRet (eCall f_greatest_of (aCons (eCall f_reaches_to (aCons (eCall f_half_of (aCons (eVar 0) aNil)) (aCons (eC .non) aNil))) aNil))))
def f_farthest_of : List PV → IH → Res PV := fn 1 0 b_farthest_of

def b_farthest : SX :=
    sSeq (sExpr (eCall f_check_share (aCons (eVar 0) aNil)))
    (sRet (eCall f_farthest_of (aCons (eVar 0) aNil)))
def f_farthest : List PV → IH → Res PV := fn 1 0 b_farthest

def b_plan_within : SX :=
    sSeq (sExpr (eCall f_check_share (aCons (eVar 0) aNil)))
    (sSeq (sIf (tNotX (tTru (eCall f_is_within (aCons (eVar 1) (aCons (eC (.int 1)) (aCons (eC (.int 1000000000000)) aNil)))))) (sRaise "BadFar") sNil)
    (sSeq (sSet 2 (eCall f_farthest_of (aCons (eVar 0) aNil)))
    (sSeq (sIf (tAndX (tBl (eOp pNotN (eVar 2) (eC .non))) (tTru (eCall f_is_less (aCons (eVar 2) (aCons (eVar 1) aNil))))) (sRet (eC .non)) sNil)
    (sSeq (sSet 3 (eOp pAdd (eSl (eCall f_reaches_to (aCons (eCall f_half_of (aCons (eVar 0) aNil)) (aCons (eVar 1) aNil))) oNone (oSome (eUn pNeg (eC (.int 1))))) (eLst (aCons (eVar 1) (aCons (eVar 1) aNil)))))
    (sRet (eCall (mkO "Plan" f_Plan___init__) (aCons (eC (.int 2)) (aCons (eB pTuple1 (aCons (eLc (eEnum (aCons (eVar 3) aNil)) (gTupF [4, 5]) tYesX (eTup (aCons (eOp pMod (eVar 4) (eC (.int 2))) (aCons (eVar 5) aNil))) [4, 5]) aNil)) (aCons (eC (.tup [.int 0, .int 1])) aNil)))))))))
def f_plan_within : List PV → IH → Res PV := fn 2 4 b_plan_within

def b_Walk___init__ : SX :=
    sSeq (sExpr (eCall f_check_roads (aCons (eVar 1) aNil)))
    (sSeq (sExpr (eCall f_check_cost (aCons (eVar 2) aNil)))
    (sFldX "Walk" "made" (eVar 0) (eCall (mkO "Plan" f_Plan___init__) (aCons (eVar 1) (aCons (eTup aNil) (aCons (eVar 2) aNil))))))
def f_Walk___init__ : List PV → IH → Res PV := fn 3 0 b_Walk___init__

def b_Walk_plan : SX :=
    sRet (eFld "Walk" "made" (eVar 0))
def f_Walk_plan : List PV → IH → Res PV := fn 1 0 b_Walk_plan

def b_Walk_go : SX :=
    sExpr (eCall f__wall (aCons (eC (.int 0)) aNil))
def f_Walk_go : List PV → IH → Res PV := fn 3 0 b_Walk_go

def b_Walk_room : SX :=
    sExpr (eCall f__wall (aCons (eC (.int 1)) aNil))
def f_Walk_room : List PV → IH → Res PV := fn 3 0 b_Walk_room

def b_Walk_undo : SX :=
    sExpr (eCall f__wall (aCons (eC (.int 2)) aNil))
def f_Walk_undo : List PV → IH → Res PV := fn 1 0 b_Walk_undo

def b_Walk_copy : SX :=
    sExpr (eCall f__wall (aCons (eC (.int 3)) aNil))
def f_Walk_copy : List PV → IH → Res PV := fn 1 0 b_Walk_copy

def b_Walk___len__ : SX :=
    sRet (eB pLen (aCons (eOp pIdx (eFld "Plan" "held" (eFld "Walk" "made" (eVar 0))) (eC (.int 1))) aNil))
def f_Walk___len__ : List PV → IH → Res PV := fn 1 0 b_Walk___len__

def b__law_mix : SX :=
    sSeq (sSet 2 (eVar 1))
    (sSeq (sFor (eIter (eVar 0)) (gVar 3) (sSet 2 (eOp pMod (eB pInt1 (aCons (eOp pAdd (eOp pAdd (eOp pMul (eVar 2) (eC (.int 48271))) (eOp pMod (eB pInt1 (aCons (eVar 3) aNil)) (eC (.int 2147483629)))) (eC (.int 1))) aNil)) (eC (.int 2147483647)))))
    (sRet (eLst (aCons (eVar 2) (aCons (eB pList1 (aCons (eVar 0) aNil)) (aCons (eC (.int 0)) aNil))))))
def f__law_mix : List PV → IH → Res PV := fn 2 2 b__law_mix

def b__law_next : SX :=
    sSeq (sSet 2 (eOp pIdx (eOp pAdd (eOp pIdx (eVar 0) (eC (.int 1))) (eLst (aCons (eC (.int 0)) aNil))) (eOp pMod (eB pInt1 (aCons (eOp pIdx (eVar 0) (eC (.int 2))) aNil)) (eB pMax2 (aCons (eC (.int 1)) (aCons (eB pLen (aCons (eOp pIdx (eVar 0) (eC (.int 1))) aNil)) aNil))))))
    (sSeq (sIf (tBl (eOp pGe (eVar 2) (eOp pPow (eC (.int 10)) (eC (.int 18))))) (sSeq (sSet 3 (eOp pIdx (eVar 0) (eC (.int 1))))
    (sSeq (sSetIx (eVar 3) (eOp pMod (eB pInt1 (aCons (eOp pIdx (eVar 0) (eC (.int 2))) aNil)) (eB pLen (aCons (eVar 3) aNil))) (eOp pDiv (eVar 2) (eVar 1)))
    (sRet (eOp pMod (eB pInt1 (aCons (eVar 2) aNil)) (eVar 1))))) sNil)
    (sSeq (sSetIx (eVar 0) (eC (.int 0)) (eOp pMod (eB pInt1 (aCons (eOp pAdd (eOp pAdd (eOp pMul (eOp pIdx (eVar 0) (eC (.int 0))) (eC (.int 48271))) (eOp pMul (eVar 2) (eC (.int 69621)))) (eC (.int 11))) aNil)) (eC (.int 2147483647))))
    (sSeq (sSetIx (eVar 0) (eC (.int 2)) (eOp pAdd (eOp pIdx (eVar 0) (eC (.int 2))) (eC (.int 1))))
    (sRet (eOp pMod (eB pInt1 (aCons (eOp pDiv (eOp pIdx (eVar 0) (eC (.int 0))) (eC (.int 7))) aNil)) (eVar 1))))))
def f__law_next : List PV → IH → Res PV := fn 2 2 b__law_next

def b__law_first : SX :=
    sSeq (sIf (tBl (eOp pEq (eVar 0) (eC (.int 0)))) (sRet (eCall (mkO "Plan" f_Plan___init__) (aCons (eOp pIdx (eVar 1) (eC (.int 0))) (aCons (eOp pIdx (eVar 1) (eC (.int 1))) (aCons (eOp pIdx (eVar 1) (eC (.int 2))) aNil))))) sNil)
    (sSeq (sIf (tBl (eOp pEq (eVar 0) (eC (.int 1)))) (sRet (eCallV [("walked", f_walked), ("share", f_share)] (eOp pIdx (eLst (aCons (eC (.glo "walked")) (aCons (eC (.glo "share")) aNil))) (eOp pMod (eVar 2) (eC (.int 2)))) (aCons (eOp pIdx (eVar 1) (eC (.int 0))) (aCons (eOp pIdx (eVar 1) (eC (.int 1))) (aCons (eOp pIdx (eVar 1) (eC (.int 2))) aNil))))) sNil)
    (sSeq (sIf (tBl (eOp pEq (eVar 0) (eC (.int 2)))) (sRet (eCall f_pieces (aCons (eOp pIdx (eVar 1) (eC (.int 0))) (aCons (eOp pIdx (eVar 1) (eC (.int 1))) aNil)))) sNil)
    (sSeq (sIf (tBl (eOp pEq (eVar 0) (eC (.int 3)))) (sRet (eCallV [("cover", f_cover), ("worst", f_worst), ("write_plan", f_write_plan)] (eOp pIdx (eLst (aCons (eC (.glo "cover")) (aCons (eC (.glo "worst")) (aCons (eC (.glo "write_plan")) aNil)))) (eOp pMod (eVar 2) (eC (.int 3)))) (aCons (eOp pIdx (eVar 1) (eC (.int 0))) aNil))) sNil)
    (sSeq (sIf (tBl (eOp pEq (eVar 0) (eC (.int 4)))) (sRet (eCallV [("best_ratio", f_best_ratio), ("best_bound", f_best_bound)] (eOp pIdx (eLst (aCons (eC (.glo "best_ratio")) (aCons (eC (.glo "best_bound")) aNil))) (eOp pMod (eVar 2) (eC (.int 2)))) (aCons (eOp pIdx (eVar 1) (eC (.int 0))) aNil))) sNil)
    (sSeq (sIf (tBl (eOp pEq (eVar 0) (eC (.int 5)))) (sRet (eCall f_most_share (aCons (eOp pIdx (eVar 1) (eC (.int 0))) (aCons (eOp pIdx (eVar 1) (eC (.int 1))) aNil)))) sNil)
    (sRet (eCall f_grown (aCons (eOp pIdx (eVar 1) (eC (.int 0))) (aCons (eOp pIdx (eVar 1) (eC (.int 1))) (aCons (eOp pIdx (eVar 1) (eC (.int 2))) (aCons (eOp pIdx (eVar 1) (eC (.int 3))) aNil)))))))))))
def f__law_first : List PV → IH → Res PV := fn 3 0 b__law_first

def b__law_ask : SX :=
    sSeq (sIf (tBl (eOp pLt (eVar 0) (eC (.int 7)))) (sRet (eCall f__law_first (aCons (eVar 0) (aCons (eVar 1) (aCons (eVar 2) aNil))))) sNil)
    (sSeq (sIf (tBl (eOp pEq (eVar 0) (eC (.int 7)))) (sRet (eCall f_growing_walked (aCons (eOp pIdx (eVar 1) (eC (.int 0))) (aCons (eOp pIdx (eVar 1) (eC (.int 1))) (aCons (eOp pIdx (eVar 1) (eC (.int 2))) (aCons (eOp pIdx (eVar 1) (eC (.int 3))) (aCons (eOp pIdx (eVar 1) (eC (.int 4))) aNil))))))) sNil)
    (sSeq (sIf (tBl (eOp pEq (eVar 0) (eC (.int 8)))) (sRet (eCall f_farthest (aCons (eOp pIdx (eVar 1) (eC (.int 0))) aNil))) sNil)
    (sSeq (sIf (tBl (eOp pEq (eVar 0) (eC (.int 9)))) (sRet (eCall f_plan_within (aCons (eOp pIdx (eVar 1) (eC (.int 0))) (aCons (eOp pIdx (eVar 1) (eC (.int 1))) aNil)))) sNil)
    (sSeq (sIf (tBl (eOp pEq (eVar 0) (eC (.int 10)))) (sRet (eCall f_team_walked (aCons (eOp pIdx (eVar 1) (eC (.int 0))) (aCons (eOp pIdx (eVar 1) (eC (.int 1))) (aCons (eOp pIdx (eVar 1) (eC (.int 2))) (aCons (eOp pIdx (eVar 1) (eC (.int 3))) aNil)))))) sNil)
    (sSeq (sIf (tBl (eOp pEq (eVar 0) (eC (.int 11)))) (sRet (eCall f_team_worst (aCons (eOp pIdx (eVar 1) (eC (.int 0))) (aCons (eOp pIdx (eVar 1) (eC (.int 1))) aNil)))) sNil)
    (sSeq (sIf (tBl (eOp pEq (eVar 0) (eC (.int 12)))) (sRet (eCallV [("least_walk", f_least_walk), ("best_plan", f_best_plan)] (eOp pIdx (eLst (aCons (eC (.glo "least_walk")) (aCons (eC (.glo "best_plan")) aNil))) (eOp pMod (eVar 2) (eC (.int 2)))) (aCons (eOp pIdx (eVar 1) (eC (.int 0))) (aCons (eOp pIdx (eVar 1) (eC (.int 1))) aNil)))) sNil)
    (sRet (eCall (mkO "Walk" f_Walk___init__) (aCons (eOp pIdx (eVar 1) (eC (.int 0))) (aCons (eOp pIdx (eVar 1) (eC (.int 1))) aNil))))))))))
def f__law_ask : List PV → IH → Res PV := fn 3 0 b__law_ask

def b__law_turn_at : SX :=
    sSeq (sIf (tOrX (tNotX (tTru (eB (pIsi ownCs) (aCons (eVar 0) (aCons (eC (.ty "tuple")) aNil))))) (tBl (eOp pGt (eB pLen (aCons (eVar 0) aNil)) (eC (.int 60))))) (sRet (eC .non)) sNil)
    (sRet (eOp pIdx (eLc (eRange1 (aCons (eB pLen (aCons (eVar 0) aNil)) aNil)) (gVar 1) (tBl (eOp pNotIn (eOp pIdx (eVar 0) (eVar 1)) (eLst (aCons (eTup (aCons (eC (.int 0)) (aCons (eTup (aCons (eC (.int 1)) (aCons (eC (.int 1)) aNil))) aNil))) (aCons (eTup (aCons (eC (.int 1)) (aCons (eTup (aCons (eC (.int 1)) (aCons (eC (.int 2)) aNil))) aNil))) aNil))))) (eVar 1) [1]) (eC (.int 0))))
def f__law_turn_at : List PV → IH → Res PV := fn 1 1 b__law_turn_at

def b__law_told : SX :=
    sSeq (sTryM exCs (sExpr (eCall f__law_ask (aCons (eVar 0) (aCons (eVar 1) (aCons (eVar 2) aNil))))) [("BadRoads", none, fun _ => sRet (eIf (tBl (eOp pIn (eVar 0) (eLst (aCons (eC (.int 4)) (aCons (eC (.int 5)) (aCons (eC (.int 6)) (aCons (eC (.int 7)) aNil))))))) (eC (.str "m")) (eC (.str "roads")))), ("BadTurns", some 3, fun ev => sRet (eIf (tBl (eOp pEq (eXf exCs exFl ev "index") (eCall f__law_turn_at (aCons (eOp pIdx (eVar 1) (eC (.int 1))) aNil)))) (eC (.str "turns")) (eC (.str "wrong")))), ("BadCost", none, fun _ => sRet (eC (.str "cost"))), ("BadPlan", none, fun _ => sRet (eC (.str "plan"))), ("BadRoad", none, fun _ => sRet (eC (.str "road"))), ("BadFar", none, fun _ => sRet (eIf (tBl (eOp pEq (eVar 0) (eC (.int 9)))) (eC (.str "near")) (eC (.str "far")))), ("BadFirst", none, fun _ => sRet (eC (.str "first"))), ("BadRatio", none, fun _ => sRet (eIf (tBl (eOp pEq (eVar 0) (eC (.int 7)))) (eC (.str "steep")) (eC (.str "ratio")))), ("BadMany", none, fun _ => sRet (eC (.str "many"))), ("BadShare", none, fun _ => sRet (eC (.str "share"))), ("BadPlans", none, fun _ => sRet (eC (.str "team"))), ("BadMissing", none, fun _ => sRet (eC (.str "missing"))), ("BadChances", none, fun _ => sRet (eC (.str "chances")))])
    (sRet (eC (.str "good")))
def f__law_told : List PV → IH → Res PV := fn 3 1 b__law_told

def b__law_good_one : SX :=
    sSeq (sSet 1 (eCall (mkO "Plan" f_Plan___init__) (aCons (eC (.int 2)) (aCons (eTup (aCons (eTup (aCons (eC (.int 0)) (aCons (eTup (aCons (eC (.int 1)) (aCons (eC (.int 1)) aNil))) aNil))) (aCons (eTup (aCons (eC (.int 1)) (aCons (eTup (aCons (eC (.int 2)) (aCons (eC (.int 1)) aNil))) aNil))) aNil))) (aCons (eTup (aCons (eC (.int 0)) (aCons (eC (.int 1)) aNil))) aNil)))))
    (sSeq (sSet 2 (eDisp [("roads", eC (.int 2)), ("turns", eTup (aCons (eTup (aCons (eC (.int 0)) (aCons (eTup (aCons (eC (.int 1)) (aCons (eC (.int 1)) aNil))) aNil))) (aCons (eTup (aCons (eC (.int 1)) (aCons (eTup (aCons (eC (.int 1)) (aCons (eC (.int 2)) aNil))) aNil))) aNil))), ("cost", eTup (aCons (eC (.int 0)) (aCons (eC (.int 1)) aNil))), ("plan", eVar 1), ("road", eC (.int 1))]))
    (sSeq (sSPutX (eVar 2) (eC (.str "far")) (eTup (aCons (eOp pPow (eC (.int 10)) (eC (.int 30))) (aCons (eC (.int 1)) aNil))))
    (sSeq (sSet 3 (eDisp [("m", eC (.int 2)), ("ratio", eTup (aCons (eC (.int 100)) (aCons (eC (.int 1)) aNil))), ("first", eTup (aCons (eC (.int 1)) (aCons (eC (.int 1)) aNil))), ("many", eC (.int 3)), ("steep", eTup (aCons (eC (.int 11)) (aCons (eC (.int 10)) aNil))), ("share", eTup (aCons (eC (.int 9001)) (aCons (eC (.int 1000)) aNil)))]))
    (sSeq (sSet 4 (eDisp [("near", eTup (aCons (eC (.int 3)) (aCons (eC (.int 2)) aNil))), ("team", eTup (aCons (eVar 1) (aCons (eVar 1) aNil))), ("missing", eC (.int 1)), ("chances", eTup (aCons (eTup (aCons (eC (.int 0)) (aCons (eTup (aCons (eC (.int 1)) (aCons (eC (.int 1)) aNil))) (aCons (eC (.int 1)) aNil)))) (aCons (eTup (aCons (eC (.int 1)) (aCons (eTup (aCons (eC (.int 1)) (aCons (eC (.int 1)) aNil))) (aCons (eC (.int 999)) aNil)))) aNil)))]))
    (sRet (eIf (tBl (eOp pSIn (eVar 0) (eVar 2))) (eOp pSGet (eVar 2) (eVar 0)) (eIf (tBl (eOp pSIn (eVar 0) (eVar 3))) (eOp pSGet (eVar 3) (eVar 0)) (eOp pSGet (eVar 4) (eVar 0)))))))))
def f__law_good_one : List PV → IH → Res PV := fn 1 4 b__law_good_one

def b__law_bad_one : SX :=
    sSeq (sSet 3 (eLst (aCons (eC .non) (aCons (eC (.bl true)) (aCons (eC (.str "1")) (aCons (eUn pNeg (eC (.int 1))) (aCons (eTup (aCons (eC (.int 1)) aNil)) (aCons (eLst (aCons (eC (.int 1)) (aCons (eC (.int 1)) aNil))) aNil))))))))
    (sSeq (sIf (tBl (eOp pEq (eVar 1) (eC (.str "roads")))) (sSet 3 (eOp pAdd (eVar 3) (eLst (aCons (eC (.int 0)) (aCons (eC (.int 6)) aNil))))) sNil)
    (sSeq (sIf (tBl (eOp pEq (eVar 1) (eC (.str "m")))) (sSet 3 (eOp pAdd (eVar 3) (eLst (aCons (eC (.int 1)) (aCons (eC (.int 6)) aNil))))) sNil)
    (sSeq (sIf (tBl (eOp pEq (eVar 1) (eC (.str "turns")))) (sSeq (sSet 4 (eTup (aCons (eC (.int 0)) (aCons (eTup (aCons (eC (.int 1)) (aCons (eC (.int 1)) aNil))) aNil))))
    (sSeq (sSet 3 (eLst (aCons (eC .non) (aCons (eLst aNil) (aCons (eOp pMulT (eTup (aCons (eVar 4) aNil)) (eC (.int 61))) (aCons (eTup (aCons (eVar 4) (aCons (eTup (aCons (eC (.int 2)) (aCons (eTup (aCons (eC (.int 1)) (aCons (eC (.int 1)) aNil))) aNil))) aNil))) (aCons (eTup (aCons (eVar 4) (aCons (eTup (aCons (eC (.int 1)) (aCons (eTup (aCons (eC (.int 0)) (aCons (eC (.int 1)) aNil))) aNil))) aNil))) (aCons (eTup (aCons (eVar 4) (aCons (eC .non) aNil))) (aCons (eC (.int 3)) aNil)))))))))
    (sSeq (sSet 3 (eOp pAdd (eVar 3) (eLst (aCons (eTup (aCons (eVar 4) (aCons (eTup (aCons (eC (.int 0)) (aCons (eTup (aCons (eOp pAdd (eOp pPow (eC (.int 10)) (eC (.int 12))) (eC (.int 1))) (aCons (eC (.int 1)) aNil))) aNil))) aNil))) (aCons (eTup (aCons (eVar 4) (aCons (eTup (aCons (eC (.bl true)) (aCons (eTup (aCons (eC (.int 1)) (aCons (eC (.int 1)) aNil))) aNil))) aNil))) (aCons (eTup (aCons (eVar 4) (aCons (eTup (aCons (eC (.int 0)) (aCons (eTup (aCons (eC (.int 2)) (aCons (eC (.int 2)) aNil))) aNil))) aNil))) aNil))))))
    (sSet 3 (eOp pAdd (eVar 3) (eLst (aCons (eTup (aCons (eVar 4) (aCons (eVar 4) (aCons (eC .non) (aCons (eTup (aCons (eC (.int 2)) (aCons (eTup (aCons (eC (.int 1)) (aCons (eC (.int 1)) aNil))) aNil))) aNil))))) (aCons (eTup (aCons (eC .non) (aCons (eVar 4) (aCons (eC (.int 3)) aNil)))) (aCons (eOp pAdd (eOp pMulT (eTup (aCons (eVar 4) aNil)) (eC (.int 59))) (eTup (aCons (eTup (aCons (eC (.int 0)) (aCons (eTup (aCons (eC (.int 0)) (aCons (eC (.int 1)) aNil))) aNil))) aNil))) aNil))))))))) sNil)
    (sSeq (sIf (tBl (eOp pEq (eVar 1) (eC (.str "plan")))) (sSet 3 (eLst (aCons (eC .non) (aCons (eTup (aCons (eC (.int 2)) (aCons (eTup aNil) (aCons (eTup (aCons (eC (.int 0)) (aCons (eC (.int 1)) aNil))) aNil)))) (aCons (eC (.int 3)) (aCons (eC (.str "a")) aNil)))))) sNil)
    (sSeq (sIf (tBl (eOp pEq (eVar 1) (eC (.str "road")))) (sSet 3 (eLst (aCons (eC .non) (aCons (eC (.bl true)) (aCons (eC (.str "0")) (aCons (eUn pNeg (eC (.int 1))) (aCons (eC (.int 2)) (aCons (eTup (aCons (eC (.int 0)) aNil)) aNil)))))))) sNil)
    (sSeq (sIf (tBl (eOp pIn (eVar 1) (eLst (aCons (eC (.str "cost")) (aCons (eC (.str "far")) (aCons (eC (.str "ratio")) (aCons (eC (.str "first")) (aCons (eC (.str "steep")) (aCons (eC (.str "share")) (aCons (eC (.str "near")) aNil)))))))))) (sSet 3 (eOp pAdd (eVar 3) (eLst (aCons (eTup (aCons (eC (.int 2)) (aCons (eC (.int 4)) aNil))) (aCons (eTup (aCons (eUn pNeg (eC (.int 1))) (aCons (eC (.int 2)) aNil))) (aCons (eTup (aCons (eC (.int 1)) (aCons (eC (.int 0)) aNil))) (aCons (eTup (aCons (eC (.bl true)) (aCons (eC (.int 1)) aNil))) aNil))))))) sNil)
    (sSeq (sIf (tBl (eOp pIn (eVar 1) (eLst (aCons (eC (.str "far")) (aCons (eC (.str "near")) aNil))))) (sSet 3 (eOp pAdd (eVar 3) (eLst (aCons (eTup (aCons (eC (.int 1)) (aCons (eC (.int 2)) aNil))) (aCons (eTup (aCons (eOp pAdd (eOp pPow (eC (.int 10)) (eC (.int 30))) (eC (.int 1))) (aCons (eC (.int 1)) aNil))) aNil))))) sNil)
    (sSeq (sIf (tBl (eOp pIn (eVar 1) (eLst (aCons (eC (.str "ratio")) (aCons (eC (.str "steep")) aNil))))) (sSet 3 (eOp pAdd (eVar 3) (eLst (aCons (eTup (aCons (eC (.int 1)) (aCons (eC (.int 1)) aNil))) (aCons (eTup (aCons (eC (.int 101)) (aCons (eC (.int 1)) aNil))) (aCons (eTup (aCons (eC (.int 99)) (aCons (eC (.int 100)) aNil))) aNil)))))) sNil)
    (sSeq (sIf (tBl (eOp pEq (eVar 1) (eC (.str "steep")))) (sSet 3 (eOp pAdd (eOp pAdd (eVar 3) (eLst (aCons (eTup (aCons (eC (.int 21)) (aCons (eC (.int 20)) aNil))) (aCons (eTup (aCons (eC (.int 31)) (aCons (eC (.int 30)) aNil))) aNil)))) (eOp pMulL (eLst (aCons (eTup (aCons (eC (.int 109)) (aCons (eC (.int 100)) aNil))) (aCons (eTup (aCons (eC (.int 1099)) (aCons (eC (.int 1000)) aNil))) aNil))) (eC (.int 6))))) sNil)
    (sSeq (sIf (tBl (eOp pEq (eVar 1) (eC (.str "first")))) (sSet 3 (eOp pAdd (eVar 3) (eLst (aCons (eTup (aCons (eC (.int 0)) (aCons (eC (.int 1)) aNil))) (aCons (eTup (aCons (eC (.int 2)) (aCons (eC (.int 1)) aNil))) (aCons (eTup (aCons (eC (.int 31)) (aCons (eC (.int 30)) aNil))) aNil)))))) sNil)
    (sSeq (sIf (tBl (eOp pEq (eVar 1) (eC (.str "cost")))) (sExpr (eAppend (eVar 3) (aCons (eTup (aCons (eOp pAdd (eOp pPow (eC (.int 10)) (eC (.int 12))) (eC (.int 1))) (aCons (eC (.int 1)) aNil))) aNil))) sNil)
    (sSeq (sIf (tBl (eOp pEq (eVar 1) (eC (.str "many")))) (sSet 3 (eOp pAdd (eVar 3) (eLst (aCons (eC (.int 61)) aNil)))) sNil)
    (sSeq (sIf (tBl (eOp pEq (eVar 1) (eC (.str "share")))) (sSet 3 (eOp pAdd (eOp pAdd (eVar 3) (eLst (aCons (eTup (aCons (eC (.int 1)) (aCons (eC (.int 2)) aNil))) (aCons (eTup (aCons (eC (.int 101)) (aCons (eC (.int 1)) aNil))) aNil)))) (eOp pMulL (eLst (aCons (eTup (aCons (eC (.int 1002)) (aCons (eC (.int 1001)) aNil))) (aCons (eTup (aCons (eC (.int 2003)) (aCons (eC (.int 1001)) aNil))) aNil))) (eC (.int 3))))) sNil)
    (sSeq (sIf (tBl (eOp pEq (eVar 1) (eC (.str "team")))) (sSeq (sSet 3 (eLst (aCons (eC .non) (aCons (eTup aNil) (aCons (eLst (aCons (eCall f__law_good_one (aCons (eC (.str "plan")) aNil)) aNil)) (aCons (eTup (aCons (eC .non) aNil)) (aCons (eC (.int 3)) aNil)))))))
    (sSeq (sSet 3 (eOp pAdd (eVar 3) (eOp pMulL (eLst (aCons (eTup (aCons (eCall f__law_good_one (aCons (eC (.str "plan")) aNil)) (aCons (eCall (mkO "Plan" f_Plan___init__) (aCons (eC (.int 3)) (aCons (eTup aNil) (aCons (eTup (aCons (eC (.int 0)) (aCons (eC (.int 1)) aNil))) aNil)))) aNil))) aNil)) (eC (.int 4)))))
    (sExpr (eAppend (eVar 3) (aCons (eOp pMulT (eTup (aCons (eCall f__law_good_one (aCons (eC (.str "plan")) aNil)) aNil)) (eC (.int 5))) aNil))))) sNil)
    (sSeq (sIf (tBl (eOp pEq (eVar 1) (eC (.str "missing")))) (sSet 3 (eOp pAdd (eVar 3) (eLst (aCons (eC (.int 2)) (aCons (eC (.int 4)) aNil))))) sNil)
    (sSeq (sIf (tBl (eOp pEq (eVar 1) (eC (.str "chances")))) (sSeq (sSet 3 (eLst (aCons (eC .non) (aCons (eTup aNil) (aCons (eLst (aCons (eTup (aCons (eC (.int 0)) (aCons (eTup (aCons (eC (.int 1)) (aCons (eC (.int 1)) aNil))) (aCons (eC (.int 1)) aNil)))) aNil)) (aCons (eTup (aCons (eTup (aCons (eC (.int 0)) (aCons (eTup (aCons (eC (.int 1)) (aCons (eC (.int 1)) aNil))) (aCons (eC (.int 1)) aNil)))) (aCons (eTup (aCons (eC (.int 0)) (aCons (eTup (aCons (eC (.int 1)) (aCons (eC (.int 1)) aNil))) (aCons (eC (.int 2)) aNil)))) aNil))) (aCons (eTup (aCons (eTup (aCons (eC (.int 2)) (aCons (eTup (aCons (eC (.int 1)) (aCons (eC (.int 1)) aNil))) (aCons (eC (.int 1)) aNil)))) aNil)) (aCons (eTup (aCons (eTup (aCons (eC (.int 0)) (aCons (eTup (aCons (eC (.int 1)) (aCons (eC (.int 2)) aNil))) (aCons (eC (.int 1)) aNil)))) aNil)) (aCons (eC (.int 3)) aNil)))))))))
    (sSet 3 (eOp pAdd (eVar 3) (eLst (aCons (eTup (aCons (eTup (aCons (eC (.int 0)) (aCons (eTup (aCons (eC (.int 1)) (aCons (eC (.int 1)) aNil))) (aCons (eC (.int 0)) aNil)))) aNil)) (aCons (eTup (aCons (eTup (aCons (eC (.int 0)) (aCons (eTup (aCons (eC (.int 1)) (aCons (eC (.int 1)) aNil))) (aCons (eC (.int 1000)) aNil)))) aNil)) (aCons (eTup (aCons (eTup (aCons (eC (.int 0)) (aCons (eTup (aCons (eOp pAdd (eOp pPow (eC (.int 10)) (eC (.int 6))) (eC (.int 1))) (aCons (eC (.int 1)) aNil))) (aCons (eC (.int 1)) aNil)))) aNil)) (aCons (eTup (aCons (eTup (aCons (eC (.int 0)) (aCons (eTup (aCons (eC (.int 1)) (aCons (eC (.int 1)) aNil))) aNil))) aNil)) aNil)))))))) sNil)
    (sRet (eOp pIdx (eVar 3) (eCall f__law_next (aCons (eVar 0) (aCons (eB pLen (aCons (eVar 3) aNil)) aNil)))))))))))))))))))))
def f__law_bad_one : List PV → IH → Res PV := fn 3 2 b__law_bad_one

def b_law : SX :=
    sSeq (sSet 1 (eCall f__law_mix (aCons (eVar 0) (aCons (eC (.int 10)) aNil))))
    (sSeq (sSet 2 (eLst (aCons (eLst (aCons (eC (.str "roads")) (aCons (eC (.str "turns")) (aCons (eC (.str "cost")) aNil)))) (aCons (eLst (aCons (eC (.str "plan")) (aCons (eC (.str "road")) (aCons (eC (.str "far")) aNil)))) (aCons (eLst (aCons (eC (.str "plan")) (aCons (eC (.str "road")) aNil))) (aCons (eLst (aCons (eC (.str "plan")) aNil)) (aCons (eLst (aCons (eC (.str "m")) aNil)) (aCons (eLst (aCons (eC (.str "m")) (aCons (eC (.str "ratio")) aNil))) aNil))))))))
    (sSeq (sSet 2 (eOp pAdd (eVar 2) (eLst (aCons (eLst (aCons (eC (.str "m")) (aCons (eC (.str "first")) (aCons (eC (.str "ratio")) (aCons (eC (.str "many")) aNil))))) (aCons (eLst (aCons (eC (.str "m")) (aCons (eC (.str "first")) (aCons (eC (.str "steep")) (aCons (eC (.str "road")) (aCons (eC (.str "far")) aNil)))))) (aCons (eLst (aCons (eC (.str "share")) aNil)) aNil))))))
    (sSeq (sSet 2 (eOp pAdd (eVar 2) (eLst (aCons (eLst (aCons (eC (.str "share")) (aCons (eC (.str "near")) aNil))) (aCons (eLst (aCons (eC (.str "team")) (aCons (eC (.str "missing")) (aCons (eC (.str "road")) (aCons (eC (.str "far")) aNil))))) (aCons (eLst (aCons (eC (.str "team")) (aCons (eC (.str "missing")) aNil))) aNil))))))
    (sSeq (sSet 2 (eOp pAdd (eVar 2) (eLst (aCons (eLst (aCons (eC (.str "roads")) (aCons (eC (.str "chances")) aNil))) (aCons (eLst (aCons (eC (.str "roads")) (aCons (eC (.str "cost")) aNil))) aNil)))))
    (sSeq (sSet 3 (eOp pIdx (eLst (aCons (eC (.int 0)) (aCons (eC (.int 1)) (aCons (eC (.int 2)) (aCons (eC (.int 3)) (aCons (eC (.int 4)) (aCons (eC (.int 5)) (aCons (eC (.int 6)) (aCons (eC (.int 7)) (aCons (eC (.int 8)) (aCons (eC (.int 9)) (aCons (eC (.int 10)) (aCons (eC (.int 11)) (aCons (eC (.int 12)) (aCons (eC (.int 13)) (aCons (eC (.int 7)) (aCons (eC (.int 7)) (aCons (eC (.int 8)) (aCons (eC (.int 9)) aNil))))))))))))))))))) (eCall f__law_next (aCons (eVar 1) (aCons (eC (.int 18)) aNil)))))
    (sSeq (sSet 4 (eOp pIdx (eVar 2) (eVar 3)))
    (sSeq (sSet 5 (eLc (eIter (eVar 4)) (gVar 9) tYesX (eOp pEq (eCall f__law_next (aCons (eVar 1) (aCons (eC (.int 3)) aNil))) (eC (.int 0))) [9]))
    (sSeq (sSet 6 (eLst aNil))
    (sSeq (sFor (eRange1 (aCons (eB pLen (aCons (eVar 4) aNil)) aNil)) (gVar 7) (sExpr (eAppend (eVar 6) (aCons (eIf (tTru (eOp pIdx (eVar 5) (eVar 7))) (eCall f__law_bad_one (aCons (eVar 1) (aCons (eOp pIdx (eVar 4) (eVar 7)) (aCons (eVar 3) aNil)))) (eCall f__law_good_one (aCons (eOp pIdx (eVar 4) (eVar 7)) aNil))) aNil))))
    (sSeq (sSet 8 (eOp pAdd (eLc (eRange1 (aCons (eB pLen (aCons (eVar 4) aNil)) aNil)) (gVar 7) (tTru (eOp pIdx (eVar 5) (eVar 7))) (eOp pIdx (eVar 4) (eVar 7)) [7]) (eLst (aCons (eC (.str "good")) aNil))))
    (sRet (eOp pEq (eCall f__law_told (aCons (eVar 3) (aCons (eVar 6) (aCons (eCall f__law_next (aCons (eVar 1) (aCons (eC (.int 6)) aNil))) aNil)))) (eOp pIdx (eVar 8) (eC (.int 0)))))))))))))))
def f_law : List PV → IH → Res PV := fn 1 9 b_law

end WR

namespace WR
open PySem PySem.Spec PyProof.Rows L2
/-! ### data -/
@[simp] theorem data_int (n : Nat) (h : IH) (i : Int) : dataOf n h (.int i) = some (.int i) := by cases n <;> rfl
@[simp] theorem data_bl (n : Nat) (h : IH) (b : Bool) : dataOf n h (.bl b) = some (.bool b) := by cases n <;> rfl
@[simp] theorem data_non (n : Nat) (h : IH) : dataOf n h .non = some .none := by cases n <;> rfl
@[simp] theorem data_str (n : Nat) (h : IH) (x : Str) : dataOf n h (.str x) = some (.str x) := by cases n <;> rfl
theorem shaped_int (i : Int) : SeqAt.shaped (.int i) = true := by
  simp [SeqAt.shaped, PyData.canLay0, PyData.depth]
@[simp] theorem eqB_int (i j : Int) (h : IH) : pEqB (.int i) (.int j) h = some (i == j) := by
  simp [pEqB, shaped_int, PyData.eqv]
/-! ### fractions -/
def fq (q : Rat) : PV := .tup [.int q.num, .int q.den]
/-- of at most N bits -/
def Sm (N : Nat) (q : Rat) : Prop := q.num.natAbs < 2 ^ N ∧ q.den < 2 ^ N
theorem Sm.mono {M N : Nat} {q : Rat} (h : Sm M q) (l : M ≤ N) : Sm N q := ⟨Nat.lt_of_lt_of_le h.1 (Nat.pow_le_pow_right (by decide) l), Nat.lt_of_lt_of_le h.2 (Nat.pow_le_pow_right (by decide) l)⟩
theorem log_of {n N : Nat} (h : n < 2 ^ N) (hN : 0 < N) : n.log2 < N := by
  by_cases h0 : n = 0
  · subst h0; simpa using hN
  · exact (Nat.log2_lt h0).mpr h
theorem mul_ok {i j : Int} {A B : Nat} (hi : i.natAbs < 2 ^ A) (hj : j.natAbs < 2 ^ B) (h : A + B ≤ 999990) : mulOk i j = true := by
  unfold mulOk
  have h1 : i.natAbs.log2 < A + 1 := log_of (Nat.lt_of_lt_of_le hi (Nat.pow_le_pow_right (by decide) (by omega))) (by omega)
  have h2 : j.natAbs.log2 < B + 1 := log_of (Nat.lt_of_lt_of_le hj (Nat.pow_le_pow_right (by decide) (by omega))) (by omega)
  have h3 : i.natAbs.log2 + j.natAbs.log2 < 1000000 := by omega
  rw [Bool.or_eq_true]
  exact .inr (decide_eq_true h3)
/-! ### Euclid -/
theorem euc_loop {c : TX} {B : SX} {P : Int → Int → Prop} (r : Fm) (h : IH) (hc0 : ∀ a, c (some (.int a) :: some (.int 0) :: r) h = .ok false h)
    (hc : ∀ a b, 0 < b → c (some (.int a) :: some (.int b) :: r) h = .ok true h)
    (hB : ∀ a b, 0 ≤ a → 0 < b → P a b → B (some (.int a) :: some (.int b) :: r) h = .nx (some (.int b) :: some (.int (a % b)) :: r) h ∧ P b (a % b)) :
    ∀ (n : Nat) (a b : Int), 0 ≤ a → 0 ≤ b → b < 2 ^ n → P a b → ∀ k, 2 * n + 1 ≤ k →
    ∃ z, whileL c B k (some (.int a) :: some (.int b) :: r) h = .nx (some (.int (Int.gcd a b)) :: some (.int z) :: r) h := by
  intro n
  induction n with
  | zero =>
    intro a b ha hb hl hp k hk
    have b0 : b = 0 := by omega
    subst b0
    obtain ⟨k, rfl⟩ : ∃ m, k = m + 1 := ⟨k - 1, by omega⟩
    refine ⟨0, ?_⟩
    simp [whileL, hc0, Int.natAbs_of_nonneg ha]
  | succ n ih =>
    intro a b ha hb hl hp k hk
    obtain ⟨k, rfl⟩ : ∃ m, k = m + 2 := ⟨k - 2, by omega⟩
    by_cases b0 : b = 0
    · subst b0
      refine ⟨0, ?_⟩
      simp [whileL, hc0, Int.natAbs_of_nonneg ha]
    · have bp : 0 < b := by omega
      obtain ⟨s1, p1⟩ := hB a b ha bp hp
      have e1 : whileL c B (k + 2) (some (.int a) :: some (.int b) :: r) h = whileL c B (k + 1) (some (.int b) :: some (.int (a % b)) :: r) h := by
        rw [show k + 2 = (k + 1) + 1 from rfl]
        conv => lhs; unfold whileL
        simp [hc a b bp, s1]
      have m0 := Int.emod_nonneg a b0
      have m1 := Int.emod_lt_of_pos a bp
      by_cases r0 : a % b = 0
      · refine ⟨0, ?_⟩
        rw [e1, r0]
        have g : (Int.gcd a b : Int) = b := Int.gcd_eq_right hb (Int.dvd_of_emod_eq_zero r0)
        rw [g]
        simp [whileL, hc0]
      · have rp : 0 < a % b := by omega
        obtain ⟨s2, p2⟩ := hB b (a % b) hb rp p1
        have e2 : whileL c B (k + 1) (some (.int b) :: some (.int (a % b)) :: r) h = whileL c B k (some (.int (a % b)) :: some (.int (b % (a % b))) :: r) h := by
          conv => lhs; unfold whileL
          simp [hc b (a % b) rp, s2]
        rw [e1, e2]
        have q0 := Int.emod_nonneg b r0
        have q1 := Int.emod_lt_of_pos b rp
        have half : 2 * (b % (a % b)) < b := by
          have d := Int.emod_add_mul_ediv b (a % b)
          have dp : 1 ≤ b / (a % b) := Int.le_ediv_of_mul_le rp (show 1 * (a % b) ≤ b by omega)
          have : (a % b) * 1 ≤ (a % b) * (b / (a % b)) := Int.mul_le_mul_of_nonneg_left dp m0
          omega
        have hl2 : b % (a % b) < 2 ^ n := by
          rw [Int.pow_succ] at hl
          omega
        obtain ⟨z, e⟩ := ih (a % b) (b % (a % b)) m0 q0 hl2 p2 k (by omega)
        refine ⟨z, ?_⟩
        rw [e]
        have g : Int.gcd (a % b) (b % (a % b)) = Int.gcd a b := by
          obtain ⟨m, rfl⟩ := Int.eq_ofNat_of_zero_le ha
          obtain ⟨n', rfl⟩ := Int.eq_ofNat_of_zero_le hb
          rw [← Int.natCast_emod, ← Int.natCast_emod, Int.gcd_natCast_natCast, Int.gcd_natCast_natCast, Nat.gcd_comm, ← Nat.gcd_rec, ← Nat.gcd_rec, Nat.gcd_comm]
        rw [g]
theorem cast_lt {b : Int} {N : Nat} (hb : b.natAbs < 2 ^ N) : (b.natAbs : Int) < 2 ^ N := by
  have := Int.ofNat_lt.mpr hb
  rwa [Int.natCast_pow] at this
theorem abs_eq (a : Int) : (if a < 0 then -a else a) = (a.natAbs : Int) := by omega
theorem gcd_abs (a b : Int) : Int.gcd (a.natAbs : Int) (b.natAbs : Int) = Int.gcd a b := by simp [Int.gcd]
theorem common_eq (a b : Int) (h : IH) (hb : b.natAbs < 2 ^ 9000) : f_common [.int a, .int b] h = .ok (.int (Int.gcd a b)) h := by
  obtain ⟨z, e⟩ := euc_loop (c := tTru (eVar 1)) (B := sPar 0 1 (aCons (eVar 1) (aCons (eOp pMod (eVar 0) (eVar 1)) aNil))) (P := fun _ _ => True) [] h (by intro a; simp) (by intro a b hb; simp; omega)
    (by intro a b ha hb _; simp [hb]) 9000 (a.natAbs : Int) (b.natAbs : Int) (by omega) (by omega) (cast_lt hb) trivial LIM (by decide)
  rw [gcd_abs] at e
  simp [f_common, b_common, sWhile, abs_eq, e]
/-! ### reduced fractions -/
theorem div_ok {n : Int} {d : Nat} (hd : 0 < d) (hs : d < 2 ^ 9000) : (0 : Int) < (Int.gcd n d : Int) ∧ ((Int.gcd n d : Int)).natAbs.log2 < 9000 := by
  have g0 : 0 < Int.gcd n d := Int.gcd_pos_of_ne_zero_right n (by omega)
  have g1 : Int.gcd n d ≤ d := Nat.gcd_le_right n.natAbs hd
  refine ⟨Int.natCast_pos.mpr g0, ?_⟩
  rw [Int.natAbs_natCast]
  exact log_of (Nat.lt_of_le_of_lt g1 hs) (by decide)
theorem fq_mk (n : Int) (d : Nat) (hd : 0 < d) : fq (mkRat n d) = .tup [.int (n / (Int.gcd n d : Int)), .int ((d : Int) / (Int.gcd n d : Int))] := by
  have e : Int.gcd n d = d.gcd n.natAbs := by rw [Int.gcd_comm]; rfl
  unfold fq
  rw [Rat.num_mkRat, Rat.den_mkRat, if_neg (by omega), if_neg (by omega), e]
  rw [Int.natCast_ediv]
theorem ratio_eq (n : Int) (d : Nat) (h : IH) (hd : 0 < d) (hs : d < 2 ^ 9000) : f_ratio [.int n, .int d] h = .ok (fq (mkRat n d)) h := by
  obtain ⟨q0, q1⟩ := div_ok (n := n) hd hs
  have c := common_eq n d h (by rw [Int.natAbs_natCast]; exact hs)
  rw [fq_mk n d hd]
  generalize ((Int.gcd n d : Nat) : Int) = g at c q0 q1 ⊢
  simp [f_ratio, b_ratio, c, q0, q1]
theorem add_mk (a b : Rat) : a + b = mkRat (a.num * b.den + b.num * a.den) (a.den * b.den) := by
  rw [Rat.add_def, Rat.mkRat_def, dif_neg (Nat.mul_ne_zero a.den_nz b.den_nz)]
theorem mul_mk (a b : Rat) : a * b = mkRat (a.num * b.num) (a.den * b.den) := by
  rw [Rat.mul_def, Rat.mkRat_def, dif_neg (Nat.mul_ne_zero a.den_nz b.den_nz)]
theorem den_lt {a b : Rat} {A B : Nat} (ha : Sm A a) (hb : Sm B b) : a.den * b.den < 2 ^ (A + B) := by
  rw [Nat.pow_add]; exact Nat.mul_lt_mul'' ha.2 hb.2
theorem den_pos (a : Rat) : 0 < a.den := Nat.pos_of_ne_zero a.den_nz
theorem Sm.dn {A : Nat} {a : Rat} (h : Sm A a) : (a.den : Int).natAbs < 2 ^ A := by rw [Int.natAbs_natCast]; exact h.2
theorem plus_eq {A B : Nat} {a b : Rat} (ha : Sm A a) (hb : Sm B b) (hn : A + B ≤ 9000) (h : IH) : f_plus [fq a, fq b] h = .ok (fq (a + b)) h := by
  have r := ratio_eq (a.num * b.den + b.num * a.den) (a.den * b.den) h (Nat.mul_pos (den_pos a) (den_pos b)) (Nat.lt_of_lt_of_le (den_lt ha hb) (Nat.pow_le_pow_right (by decide) hn))
  rw [Int.natCast_mul] at r
  simp [f_plus, b_plus, fq, atI, ixN, mul_ok ha.1 hb.dn (by omega), mul_ok hb.1 ha.dn (by omega), mul_ok ha.dn hb.dn (by omega), r, add_mk]
theorem times_eq {A B : Nat} {a b : Rat} (ha : Sm A a) (hb : Sm B b) (hn : A + B ≤ 9000) (h : IH) : f_times [fq a, fq b] h = .ok (fq (a * b)) h := by
  have r := ratio_eq (a.num * b.num) (a.den * b.den) h (Nat.mul_pos (den_pos a) (den_pos b)) (Nat.lt_of_lt_of_le (den_lt ha hb) (Nat.pow_le_pow_right (by decide) hn))
  rw [Int.natCast_mul] at r
  simp [f_times, b_times, fq, atI, ixN, mul_ok ha.1 hb.1 (by omega), mul_ok ha.dn hb.dn (by omega), r, mul_mk]
theorem less_eq {A B : Nat} {a b : Rat} (ha : Sm A a) (hb : Sm B b) (hn : A + B ≤ 9000) (h : IH) : f_is_less [fq a, fq b] h = .ok (.bl (decide (a < b))) h := by
  simp [f_is_less, b_is_less, fq, atI, ixN, mul_ok ha.1 hb.dn (by omega), mul_ok hb.1 ha.dn (by omega), Rat.lt_iff]
theorem num_pos {b : Rat} (hb : 0 < b) : 0 < b.num := by
  have := (Rat.lt_iff 0 b).mp hb
  simpa using this
theorem div_mk (a b : Rat) (hb : 0 < b) : a / b = mkRat (a.num * b.den) (a.den * b.num.natAbs) := by
  have p := num_pos hb
  rw [Rat.div_def, mul_mk, Rat.num_inv, Rat.den_inv, if_neg (by omega), Int.sign_eq_one_of_pos p, Int.one_mul]
theorem over_eq {A B : Nat} {a b : Rat} (ha : Sm A a) (hb : Sm B b) (hp : 0 < b) (hn : A + B ≤ 9000) (h : IH) : f_over [fq a, fq b] h = .ok (fq (a / b)) h := by
  have p := num_pos hp
  have dl : a.den * b.num.natAbs < 2 ^ (A + B) := by rw [Nat.pow_add]; exact Nat.mul_lt_mul'' ha.2 hb.1
  have r := ratio_eq (a.num * b.den) (a.den * b.num.natAbs) h (Nat.mul_pos (den_pos a) (by omega)) (Nat.lt_of_lt_of_le dl (Nat.pow_le_pow_right (by decide) hn))
  rw [Int.natCast_mul, Int.natAbs_of_nonneg (Int.le_of_lt p)] at r
  simp [f_over, b_over, fq, atI, ixN, mul_ok ha.1 hb.dn (by omega), mul_ok ha.dn hb.1 (by omega), r, div_mk a b hp]
/-! sizes of results -/
theorem mk_small {n : Int} {d N : Nat} (hn : n.natAbs < 2 ^ N) (hd : d < 2 ^ N) (h0 : 0 < d) : Sm N (mkRat n d) := by
  have e1 : (mkRat n d).num.natAbs ≤ n.natAbs := by
    rw [Rat.num_mkRat, if_neg (by omega)]
    exact Int.natAbs_ediv_le_natAbs _ _
  have e2 : (mkRat n d).den ≤ d := by
    rw [Rat.den_mkRat, if_neg (by omega)]
    exact Nat.div_le_self _ _
  exact ⟨Nat.lt_of_le_of_lt e1 hn, Nat.lt_of_le_of_lt e2 hd⟩
theorem Sm.add {A B : Nat} {a b : Rat} (ha : Sm A a) (hb : Sm B b) : Sm (A + B + 1) (a + b) := by
  rw [add_mk]
  refine mk_small ?_ (Nat.lt_of_lt_of_le (den_lt ha hb) (Nat.pow_le_pow_right (by decide) (by omega))) (Nat.mul_pos (den_pos a) (den_pos b))
  have x : (a.num * b.den).natAbs < 2 ^ (A + B) := by rw [Int.natAbs_mul, Nat.pow_add]; exact Nat.mul_lt_mul'' ha.1 hb.dn
  have y : (b.num * a.den).natAbs < 2 ^ (A + B) := by rw [Int.natAbs_mul, Nat.pow_add, Nat.mul_comm]; exact Nat.mul_lt_mul'' ha.dn hb.1
  have z := Int.natAbs_add_le (a.num * b.den) (b.num * a.den)
  rw [Nat.pow_succ]
  generalize 2 ^ (A + B) = M at x y ⊢
  omega
theorem Sm.mul {A B : Nat} {a b : Rat} (ha : Sm A a) (hb : Sm B b) : Sm (A + B) (a * b) := by
  rw [mul_mk]
  refine mk_small ?_ (den_lt ha hb) (Nat.mul_pos (den_pos a) (den_pos b))
  rw [Int.natAbs_mul, Nat.pow_add]; exact Nat.mul_lt_mul'' ha.1 hb.1
theorem Sm.div {A B : Nat} {a b : Rat} (ha : Sm A a) (hb : Sm B b) (hp : 0 < b) : Sm (A + B) (a / b) := by
  have p := num_pos hp
  rw [div_mk a b hp]
  refine mk_small ?_ (by rw [Nat.pow_add]; exact Nat.mul_lt_mul'' ha.2 hb.1) (Nat.mul_pos (den_pos a) (by omega))
  rw [Int.natAbs_mul, Nat.pow_add]; exact Nat.mul_lt_mul'' ha.1 hb.dn
end WR

namespace WR
open PySem PySem.Spec PyProof.Rows L2
/-! ### the heap -/
theorem get_new {h : IH} {o : MO} : (h ++ [o])[h.length]? = some o := by simp
@[simp] theorem ga0 {h t : IH} : (h ++ t)[h.length]? = t[0]? := by rw [List.getElem?_append_right (Nat.le_refl _), Nat.sub_self]
@[simp] theorem ga1 {h t : IH} {k : Nat} : (h ++ t)[h.length + k]? = t[k]? := by rw [List.getElem?_append_right (by omega)]; congr 1; omega
theorem get_old {h : IH} {o : MO} {t : IH} {n : Nat} (e : h[n]? = some o) : (h ++ t)[n]? = some o := by
  rw [List.getElem?_append_left (List.getElem?_eq_some_iff.mp e).1]; exact e
theorem lt_of_get {h : IH} {o : MO} {n : Nat} (e : h[n]? = some o) : n < h.length := (List.getElem?_eq_some_iff.mp e).1
theorem atI_pos {α : Type} (xs : List α) (i : Int) (h0 : 0 ≤ i) (h1 : i < xs.length) : atI xs i = xs[i.toNat]? := by
  simp [atI, ixN, h0, h1]
@[simp] theorem atI_0 {α : Type} (x : α) (xs : List α) : atI (x :: xs) 0 = some x := by rw [atI_pos _ _ (by decide) (by simp)]; rfl
@[simp] theorem atI_1 {α : Type} (x y : α) (xs : List α) : atI (x :: y :: xs) 1 = some y := by rw [atI_pos _ _ (by decide) (by simp; omega)]; rfl
@[simp] theorem atI_2 {α : Type} (x y z : α) (xs : List α) : atI (x :: y :: z :: xs) 2 = some z := by rw [atI_pos _ _ (by decide) (by simp; omega)]; rfl
@[simp] theorem atI_m1 {α : Type} (x : α) (xs : List α) : atI (xs ++ [x]) (-1) = some x := by
  have : (1 : Int) ≤ (xs.length : Int) + 1 := by omega
  have t : (-1 + ((xs.length : Int) + 1)).toNat = xs.length := by omega
  simp [atI, ixN, this, t]
/-- the draw machine -/
structure DS (hi ci : Nat) (h : IH) : Prop where
  ne : hi ≠ ci
  st : ∃ a b : Int, h[hi]? = some (.lst [.int a, .obj ci, .int b])
  ce : ∃ cs : List Int, h[ci]? = some (.lst (cs.map .int)) ∧ cs.length ≤ 63
/-- all but the machine stays -/
structure Kp (hi ci : Nat) (h h' : IH) : Prop where
  le : h.length ≤ h'.length
  get : ∀ n o, n ≠ hi → n ≠ ci → h[n]? = some o → h'[n]? = some o
theorem Kp.refl (hi ci : Nat) (h : IH) : Kp hi ci h h := ⟨Nat.le_refl _, fun _ _ _ _ e => e⟩
theorem Kp.trans {hi ci : Nat} {h h1 h2 : IH} (a : Kp hi ci h h1) (b : Kp hi ci h1 h2) : Kp hi ci h h2 := ⟨Nat.le_trans a.le b.le, fun n o x y e => b.get n o x y (a.get n o x y e)⟩
theorem Kp.app (hi ci : Nat) (h t : IH) : Kp hi ci h (h ++ t) := ⟨by simp, fun _ _ _ _ e => get_old e⟩
theorem DS.app {hi ci : Nat} {h : IH} (d : DS hi ci h) (t : IH) : DS hi ci (h ++ t) := by
  obtain ⟨a, b, e⟩ := d.st
  obtain ⟨cs, f, l⟩ := d.ce
  exact ⟨d.ne, ⟨a, b, get_old e⟩, ⟨cs, get_old f, l⟩⟩
theorem next_eq {hi ci : Nat} {h : IH} (d : DS hi ci h) (b : Int) (h0 : 0 < b) (hs : b.natAbs.log2 < 9000) :
    ∃ r h', f__law_next [.obj hi, .int b] h = .ok (.int r) h' ∧ 0 ≤ r ∧ r < b ∧ DS hi ci h' ∧ Kp hi ci h h' := by
  obtain ⟨a, ix, e⟩ := d.st
  obtain ⟨cs, f, l⟩ := d.ce
  have hne := d.ne
  have lh := lt_of_get e
  have lc := lt_of_get f
  obtain ⟨M, hM, mb, m6, mn⟩ : ∃ M : Int, (if 1 < (cs.length : Int) then (cs.length : Int) else 1) = M ∧ 0 < M ∧ M ≤ 63 ∧ M ≤ cs.length + 1 := by
    refine ⟨_, rfl, ?_, ?_, ?_⟩ <;> split <;> omega
  have ml : M.natAbs.log2 < 9000 := log_of (Nat.lt_of_lt_of_le (show _ < 2 ^ 7 by omega) (Nat.pow_le_pow_right (by decide) (by decide))) (by decide)
  have i0 := Int.emod_nonneg ix (show M ≠ 0 by omega)
  have i1 := Int.emod_lt_of_pos ix mb
  obtain ⟨c, hc, h1⟩ : ∃ c : Int, atI (cs.map PV.int ++ [.int 0]) (ix % M) = some (.int c) ∧ (0 < c → 0 < cs.length) := by
    rw [atI_pos _ _ i0 (by simp; omega)]
    by_cases q : (ix % M).toNat < cs.length
    · exact ⟨cs[(ix % M).toNat], by rw [List.getElem?_append_left (by simpa using q)]; simp [q], fun _ => by omega⟩
    · have : (ix % M).toNat = cs.length := by omega
      exact ⟨0, by rw [this]; simp, by simp⟩
  have e1 : ∀ t, (h ++ t)[hi]? = some (.lst [.int a, .obj ci, .int ix]) := fun t => get_old e
  have f1 : ∀ t, (h ++ t)[ci]? = some (.lst (cs.map .int)) := fun t => get_old f
  have gb : (10 : Int) ^ 18 = 1000000000000000000 := by decide
  have l2 : cs.length ≤ 16777215 := by omega
  by_cases big : (1000000000000000000 : Int) ≤ c
  · have n0 : 0 < cs.length := h1 (by omega)
    have n0' : (0 : Int) < cs.length := by omega
    have nl : cs.length.log2 < 9000 := log_of (Nat.lt_of_lt_of_le (show _ < 2 ^ 7 by omega) (Nat.pow_le_pow_right (by decide) (by decide))) (by decide)
    have j0 := Int.emod_nonneg ix (show (cs.length : Int) ≠ 0 by omega)
    have j1 := Int.emod_lt_of_pos ix n0'
    simp [f__law_next, b__law_next, e, f, e1, f1, hc, hM, mb, ml, l2, big, hs, h0, hne, hne.symm, ixN, mulOk, gb, n0, nl, j0, j1]
    refine ⟨_, _, ⟨rfl, rfl⟩, Int.emod_nonneg _ (by omega), Int.emod_lt_of_pos _ h0, ⟨hne, ⟨a, ix, ?_⟩, ⟨cs.set (ix % cs.length).toNat (c / b), ?_, ?_⟩⟩, ⟨by simp, fun n o p q r => ?_⟩⟩
    · rw [List.getElem?_set_ne (Ne.symm hne)]; exact e1 _
    · rw [List.getElem?_set_self (by simp; omega), List.map_set]
    · simpa using l
    · rw [List.getElem?_set_ne (Ne.symm q)]; exact get_old r
  · have w1 : ∀ t o, ((h ++ t).set hi o)[hi]? = some o := fun t o => by rw [List.getElem?_set_self (by simp; omega)]
    simp [f__law_next, b__law_next, e, f, e1, f1, hc, hM, mb, ml, l2, big, hs, h0, hne, hne.symm, ixN, mulOk, gb, w1, show Nat.log2 7 < 9000 from by decide]
    refine ⟨_, _, ⟨rfl, rfl⟩, Int.emod_nonneg _ (by omega), Int.emod_lt_of_pos _ h0, ⟨hne, ⟨_, _, w1 _ _⟩, ⟨cs, ?_, l⟩⟩, ⟨by simp, fun n o p q r => ?_⟩⟩
    · rw [List.getElem?_set_ne hne]; exact f1 _
    · rw [List.getElem?_set_ne (Ne.symm p)]; exact get_old r
/-! ### the first state -/
theorem mix_loop (h : IH) (ns : List Int) (s : Int) (v : PV) : ∀ (k : Nat) (i : Nat) (a : Int) (c : Option PV), ns.length - i < k →
    ∃ a' c', forL (itList (ns.map PV.int)) (gVar 3) (sSet 2 (eOp pMod (eB pInt1 (aCons (eOp pAdd (eOp pAdd (eOp pMul (eVar 2) (eC (.int 48271))) (eOp pMod (eB pInt1 (aCons (eVar 3) aNil)) (eC (.int 2147483629)))) (eC (.int 1))) aNil)) (eC (.int 2147483647)))) k i [some v, some (.int s), some (.int a), c] h
      = .nx [some v, some (.int s), some (.int a'), c'] h := by
  intro k
  induction k with
  | zero => intro i a c hk; omega
  | succ k ih =>
    intro i a c hk
    by_cases q : i < ns.length
    · obtain ⟨a', c', e⟩ := ih (i + 1) ((a * 48271 + ns[i] % 2147483629 + 1) % 2147483647) (some (.int ns[i])) (by omega)
      refine ⟨a', c', ?_⟩
      rw [← e]
      conv => lhs; unfold forL
      simp [q, mulOk]
    · refine ⟨a, c, ?_⟩
      unfold forL
      simp [q]
theorem mix_eq (ns : List Int) (s : Int) (hl : ns.length ≤ 63) (h : IH) : ∃ h', f__law_mix [.fls (ns.map .int), .int s] h = .ok (.obj (h.length + 1)) h' ∧ DS (h.length + 1) h.length h' ∧ Kp (h.length + 1) h.length h h' := by
  obtain ⟨a', c', e⟩ := mix_loop h ns s (.fls (ns.map .int)) LIM 0 s none (by simp [LIM]; omega)
  refine ⟨h ++ [.lst (ns.map .int), .lst [.int a', .obj h.length, .int 0]], ?_, ⟨by omega, ⟨a', 0, by rw [ga1]; rfl⟩, ⟨ns, by rw [ga0]; rfl, hl⟩⟩, Kp.app _ _ _ _⟩
  simp [f__law_mix, b__law_mix, sFor, e, show ns.length ≤ 16777216 by omega]
end WR

namespace WR
open PySem PySem.Spec PyProof.Rows L2
/-! ### equality of data -/
structure EncOk {α : Type} [DecidableEq α] (n : Nat) (enc : α → PV) (den : α → PyData) : Prop where
  dat : ∀ m h a, n ≤ m → dataOf m h (enc a) = some (den a)
  lay : ∀ a, (den a).canLay0 = true
  dep : ∀ a, (den a).depth ≤ n + 1
  eqv : ∀ a b, PyData.eqv (den a) (den b) = decide (a = b)
theorem EncOk.eq {α : Type} [DecidableEq α] {n : Nat} {enc : α → PV} {den : α → PyData} (e : EncOk n enc den) (hn : n ≤ 12) (a b : α) (h : IH) : pEqB (enc a) (enc b) h = some (decide (a = b)) := by
  have s : ∀ a, SeqAt.shaped (den a) = true := fun a => by
    have := e.dep a
    simp [SeqAt.shaped, e.lay a]; omega
  simp [pEqB, e.dat DEP h _ hn, s, e.eqv]
theorem EncOk.int : EncOk 0 PV.int PyData.int := ⟨fun m h a _ => by simp, fun a => by simp [PyData.canLay0], fun a => by simp [PyData.depth], fun a b => by simp [PyData.eqv]; rfl⟩
theorem optAll_map {α β γ : Type} {f : β → Option γ} {g : α → β} {d : α → γ} (xs : List α) (h : ∀ a ∈ xs, f (g a) = some (d a)) : optAll f (xs.map g) = some (xs.map d) := by
  induction xs with
  | nil => rfl
  | cons x xs ih => simp only [List.map, optAll, h x (by simp), ih fun a ha => h a (by simp [ha])]
theorem canAll {α : Type} {d : α → PyData} (xs : List α) (h : ∀ a, (d a).canLay0 = true) : PyData.canLayAll0 (xs.map d) = true := by
  induction xs with
  | nil => rfl
  | cons x xs ih => simp [PyData.canLayAll0, h, ih]
theorem depAll {α : Type} {d : α → PyData} {n : Nat} (xs : List α) (h : ∀ a, (d a).depth ≤ n) : PyData.depthAll (xs.map d) ≤ n := by
  induction xs with
  | nil => simp [PyData.depthAll]
  | cons x xs ih =>
    have := h x
    simp only [List.map, PyData.depthAll]; omega
theorem eqvAll_map {α : Type} [DecidableEq α] {d : α → PyData} (h : ∀ a b, PyData.eqv (d a) (d b) = decide (a = b)) : ∀ xs ys : List α, PyData.eqvAll (xs.map d) (ys.map d) = decide (xs = ys)
  | [], [] => by simp [PyData.eqvAll]
  | [], y :: ys => by simp [PyData.eqvAll]
  | x :: xs, [] => by simp [PyData.eqvAll]
  | x :: xs, y :: ys => by simp [PyData.eqvAll, h, eqvAll_map h xs ys]
theorem EncOk.list {α : Type} [DecidableEq α] {n : Nat} {enc : α → PV} {den : α → PyData} (e : EncOk n enc den) : EncOk (n + 1) (fun xs : List α => .tup (xs.map enc)) (fun xs => .tuple (xs.map den)) := by
  refine ⟨fun m h a hm => ?_, fun a => ?_, fun a => ?_, fun a b => ?_⟩
  · obtain ⟨m, rfl⟩ : ∃ k, m = k + 1 := ⟨m - 1, by omega⟩
    simp only [dataOf, optAll_map a fun x _ => e.dat m h x (by omega), Option.map]
  · simp [PyData.canLay0, canAll a e.lay]
  · have := depAll a e.dep
    simp [PyData.depth]; omega
  · simp [PyData.eqv, eqvAll_map e.eqv]
theorem EncOk.pair {α β : Type} [DecidableEq α] [DecidableEq β] {n m : Nat} {enc : α → PV} {den : α → PyData} {enc' : β → PV} {den' : β → PyData} (e : EncOk n enc den) (f : EncOk m enc' den') :
    EncOk (n + m + 1) (fun x : α × β => .tup [enc x.1, enc' x.2]) (fun x => .tuple [den x.1, den' x.2]) := by
  refine ⟨fun k h a hm => ?_, fun a => ?_, fun a => ?_, fun a b => ?_⟩
  · obtain ⟨k, rfl⟩ : ∃ j, k = j + 1 := ⟨k - 1, by omega⟩
    simp only [dataOf, optAll, e.dat k h _ (by omega), f.dat k h _ (by omega), Option.map]
  · simp [PyData.canLay0, PyData.canLayAll0, e.lay, f.lay]
  · have := e.dep a.1
    have := f.dep a.2
    simp [PyData.depth, PyData.depthAll]; omega
  · simp [PyData.eqv, PyData.eqvAll, e.eqv, f.eqv, Prod.ext_iff]
theorem EncOk.rat : EncOk 1 fq fun q => .tuple [.int q.num, .int q.den] := by
  refine ⟨fun k h a hm => ?_, fun a => ?_, fun a => ?_, fun a b => ?_⟩
  · obtain ⟨k, rfl⟩ : ∃ j, k = j + 1 := ⟨k - 1, by omega⟩
    simp [fq, dataOf, optAll]
  · simp [PyData.canLay0, PyData.canLayAll0]
  · simp [PyData.depth, PyData.depthAll]
  · have x : (a = b) ↔ (a.num = b.num ∧ a.den = b.den) := ⟨fun h => by subst h; exact ⟨rfl, rfl⟩, fun h => Rat.ext h.1 h.2⟩
    simp only [PyData.eqv, PyData.eqvAll, decide_eq_decide.mpr x]
    simp [Int.natCast_inj, Bool.beq_eq_decide_eq]
/-- a fraction or None -/
def oq : Option Rat → PV
  | none => .non
  | some q => fq q
def oqD : Option Rat → PyData
  | none => .none
  | some q => .tuple [.int q.num, .int q.den]
theorem EncOk.opt : EncOk 1 oq oqD := by
  have e := EncOk.rat
  refine ⟨fun k h a hm => ?_, fun a => ?_, fun a => ?_, fun a b => ?_⟩
  · cases a with
    | none => simp [oq, oqD]
    | some q => exact e.dat k h q hm
  · cases a with
    | none => simp [oqD, PyData.canLay0]
    | some q => exact e.lay q
  · cases a with
    | none => simp [oqD, PyData.depth]
    | some q => exact e.dep q
  · cases a <;> cases b
    · simp [oqD, PyData.eqv]
    · simp [oqD, PyData.eqv]
    · simp [oqD, PyData.eqv]
    · rename_i a b
      have := e.eqv a b
      simp [oqD]
      rw [this]
@[simp] theorem eq_oq (a b : Option Rat) (h : IH) : pEqB (oq a) (oq b) h = some (decide (a = b)) := EncOk.opt.eq (by decide) a b h
@[simp] theorem eq_fq (a b : Rat) (h : IH) : pEqB (fq a) (fq b) h = some (decide (a = b)) := EncOk.rat.eq (by decide) a b h
/-- a turn -/
def tq (t : Int × Rat) : PV := .tup [.int t.1, fq t.2]
def tqs (T : List (Int × Rat)) : PV := .tup (T.map tq)
theorem EncOk.turn : EncOk 2 tq fun t => .tuple [.int t.1, .tuple [.int t.2.num, .int t.2.den]] := EncOk.int.pair EncOk.rat
theorem EncOk.turns : EncOk 3 tqs fun T => .tuple (T.map fun t => .tuple [.int t.1, .tuple [.int t.2.num, .int t.2.den]]) := EncOk.turn.list
/-- what a plan holds -/
def pq (x : Int × List (Int × Rat) × Rat) : PV := .tup [.int x.1, tqs x.2.1, fq x.2.2]
def pqD (x : Int × List (Int × Rat) × Rat) : PyData := .tuple [.int x.1, .tuple (x.2.1.map fun t => .tuple [.int t.1, .tuple [.int t.2.num, .int t.2.den]]), .tuple [.int x.2.2.num, .int x.2.2.den]]
theorem EncOk.plan : EncOk 4 pq pqD := by
  have e := EncOk.turns
  have f := EncOk.rat
  refine ⟨fun k h a hm => ?_, fun a => ?_, fun a => ?_, fun a b => ?_⟩
  · obtain ⟨k, rfl⟩ : ∃ j, k = j + 1 := ⟨k - 1, by omega⟩
    simp only [pq, pqD, dataOf, optAll, data_int, e.dat k h _ (by omega), f.dat k h _ (by omega), Option.map]
  · have := e.lay a.2.1
    have := f.lay a.2.2
    simp [pqD, PyData.canLay0, PyData.canLayAll0] at *; assumption
  · have := e.dep a.2.1
    simp [pqD, PyData.depth, PyData.depthAll] at *; omega
  · have := e.eqv a.2.1 b.2.1
    have g := f.eqv a.2.2 b.2.2
    simp only [pqD, PyData.eqv, PyData.eqvAll] at *
    rw [this, g]
    simp [Prod.ext_iff, Bool.beq_eq_decide_eq]
@[simp] theorem eq_pq (a b : Int × List (Int × Rat) × Rat) (h : IH) : pEqB (pq a) (pq b) h = some (decide (a = b)) := EncOk.plan.eq (by decide) a b h
@[simp] theorem eq_tqs (a b : List (Int × Rat)) (h : IH) : pEqB (tqs a) (tqs b) h = some (decide (a = b)) := EncOk.turns.eq (by decide) a b h
@[simp] theorem eq_tqs0 (a : List (Int × Rat)) (h : IH) : pEqB (tqs a) (.tup []) h = some (decide (a = [])) := EncOk.turns.eq (by decide) a [] h
/-! ### loops -/
@[simp] def stepF (it : ItF) (g : TgF) (B : SX) (i : Nat) (r : Fm) (h : IH) : RS := match it i h with
  | some (some v) => (match g v r with
    | some r1 => B r1 h
    | none => .bad)
  | _ => .bad
theorem for_nx {it : ItF} {g : TgF} {B : SX} {k i : Nat} {r r2 : Fm} {h h2 : IH} (e : stepF it g B i r h = .nx r2 h2) : forL it g B (k + 1) i r h = forL it g B k (i + 1) r2 h2 := by
  conv => lhs; unfold forL
  unfold stepF at e
  split at e
  · rename_i v q
    rw [q]
    split at e
    · rename_i r1 q1
      simp only [q1, e]
    · cases e
  · cases e
theorem for_rt {it : ItF} {g : TgF} {B : SX} {k i : Nat} {r : Fm} {h h2 : IH} {v : PV} (e : stepF it g B i r h = .rt v h2) : forL it g B (k + 1) i r h = .rt v h2 := by
  conv => lhs; unfold forL
  unfold stepF at e
  split at e
  · rename_i v q
    rw [q]
    split at e
    · rename_i r1 q1
      simp only [q1, e]
    · cases e
  · cases e
theorem for_end {it : ItF} {g : TgF} {B : SX} {k i : Nat} {r : Fm} {h : IH} (e : it i h = some none) : forL it g B (k + 1) i r h = .nx r h := by
  unfold forL
  rw [e]
theorem forE (I : Fm → IH → Res ItF) (g : TgF) (B : SX) (r : Fm) (h : IH) : sFor I g B r h = toS (I r h) r fun it h1 => forL it g B LIM 0 r h1 := rfl
/-- a loop that returns nowhere -/
theorem for_inv {it : ItF} {g : TgF} {B : SX} {n : Nat} (I : Nat → Fm → IH → Prop)
    (hs : ∀ i r h, i < n → I i r h → ∃ r2 h2, stepF it g B i r h = .nx r2 h2 ∧ I (i + 1) r2 h2)
    (he : ∀ r h, I n r h → it n h = some none) : ∀ (k i : Nat) (r : Fm) (h : IH), n - i < k → i ≤ n → I i r h → ∃ r' h', forL it g B k i r h = .nx r' h' ∧ I n r' h' := by
  intro k
  induction k with
  | zero => intro i r h hk; omega
  | succ k ih =>
    intro i r h hk hi hI
    by_cases q : i < n
    · obtain ⟨r2, h2, e3, e4⟩ := hs i r h q hI
      rw [for_nx e3]
      exact ih (i + 1) r2 h2 (by omega) (by omega) e4
    · have : i = n := by omega
      subst this
      exact ⟨r, h, for_end (he r h hI), hI⟩
/-- a loop that may return -/
theorem for_ret {it : ItF} {g : TgF} {B : SX} {n : Nat} (I : Nat → Fm → IH → Prop) (P : PV → IH → Prop)
    (hs : ∀ i r h, i < n → I i r h → (∃ r2 h2, stepF it g B i r h = .nx r2 h2 ∧ I (i + 1) r2 h2) ∨ ∃ w h2, stepF it g B i r h = .rt w h2 ∧ P w h2)
    (he : ∀ r h, I n r h → it n h = some none) : ∀ (k i : Nat) (r : Fm) (h : IH), n - i < k → i ≤ n → I i r h → (∃ r' h', forL it g B k i r h = .nx r' h' ∧ I n r' h') ∨ ∃ w h', forL it g B k i r h = .rt w h' ∧ P w h' := by
  intro k
  induction k with
  | zero => intro i r h hk; omega
  | succ k ih =>
    intro i r h hk hi hI
    by_cases q : i < n
    · rcases hs i r h q hI with ⟨r2, h2, e3, e4⟩ | ⟨w, h2, e3, e4⟩
      · rw [for_nx e3]
        exact ih (i + 1) r2 h2 (by omega) (by omega) e4
      · exact .inr ⟨w, h2, for_rt e3, e4⟩
    · have : i = n := by omega
      subst this
      exact .inl ⟨r, h, for_end (he r h hI), hI⟩
end WR

namespace WR
open PySem PySem.Spec PyProof.Rows L2
/-! ### what a statement leaves -/
abbrev Pl := Int × List (Int × Rat) × Rat
def RS.Is (o : RS) (N : Fm → IH → Prop) (R : PV → IH → Prop) : Prop := match o with
  | .nx r h => N r h
  | .rt v h => R v h
  | _ => False
@[simp] theorem is_nx0 {r : Fm} {h : IH} {N : Fm → IH → Prop} {R : PV → IH → Prop} : (RS.nx r h).Is N R = N r h := rfl
@[simp] theorem is_rt0 {v : PV} {h : IH} {N : Fm → IH → Prop} {R : PV → IH → Prop} : (RS.rt v h).Is N R = R v h := rfl
theorem RS.Is.imp {o : RS} {N N' : Fm → IH → Prop} {R R' : PV → IH → Prop} (h : o.Is N R) (f : ∀ r h, N r h → N' r h) (g : ∀ v h, R v h → R' v h) : o.Is N' R' := by
  cases o with
  | nx r h1 => exact f _ _ h
  | rt v h1 => exact g _ _ h
  | _ => exact h.elim
theorem w_seq {A B : SX} {r : Fm} {h : IH} {N : Fm → IH → Prop} {R : PV → IH → Prop} (e : (A r h).Is (fun r1 h1 => (B r1 h1).Is N R) R) : (sSeq A B r h).Is N R := by
  simp only [sSeq]
  cases q : A r h with
  | nx r1 h1 => rw [q] at e; exact e
  | rt v h1 => rw [q] at e; exact e
  | bk r1 h1 => rw [q] at e; exact e.elim
  | ct r1 h1 => rw [q] at e; exact e.elim
  | ex x r1 h1 => rw [q] at e; exact e.elim
  | bad => rw [q] at e; exact e.elim
theorem w_for {I0 : Fm → IH → Res ItF} {g : TgF} {B : SX} {r : Fm} {h : IH} {N : Fm → IH → Prop} {R : PV → IH → Prop} {it : ItF} {h1 : IH} (n : Nat) (J : Nat → Fm → IH → Prop)
    (hI : I0 r h = .ok it h1) (hn : n < 1000000) (h0 : J 0 r h1)
    (hs : ∀ i r h, i < n → J i r h → ∃ v r1, it i h = some (some v) ∧ g v r = some r1 ∧ (B r1 h).Is (J (i + 1)) R)
    (he : ∀ r h, J n r h → it n h = some none ∧ N r h) : (sFor I0 g B r h).Is N R := by
  have key : ∀ k i r h, n - i < k → i ≤ n → J i r h → (forL it g B k i r h).Is N R := by
    intro k
    induction k with
    | zero => intro i r h hk; omega
    | succ k ih =>
      intro i r h hk hi hJ
      by_cases q : i < n
      · obtain ⟨v, r1, e1, e2, e3⟩ := hs i r h q hJ
        unfold forL
        simp only [e1, e2]
        cases z : B r1 h with
        | nx r2 h2 => rw [z] at e3; exact ih (i + 1) r2 h2 (by omega) (by omega) e3
        | rt v h2 => rw [z] at e3; exact e3
        | bk r1 h1 => rw [z] at e3; exact e3.elim
        | ct r1 h1 => rw [z] at e3; exact e3.elim
        | ex x r1 h1 => rw [z] at e3; exact e3.elim
        | bad => rw [z] at e3; exact e3.elim
      · have : i = n := by omega
        subst this
        obtain ⟨e1, e2⟩ := he r h hJ
        rw [for_end e1]
        exact e2
  show (toS (I0 r h) r fun it h1 => forL it g B LIM 0 r h1).Is N R
  rw [hI]
  exact key LIM 0 r h1 (by simp [LIM]; omega) (by omega) h0
theorem w_while {c : TX} {B : SX} {r : Fm} {h : IH} {N : Fm → IH → Prop} {R : PV → IH → Prop} (n : Nat) (J : Nat → Fm → IH → Prop) (hn : n < 1000000) (h0 : J n r h)
    (hs : ∀ i r h, J i r h → ∃ b h1, c r h = .ok b h1 ∧ (b = true → ∃ j, i = j + 1 ∧ (B r h1).Is (J j) R) ∧ (b = false → N r h1)) : (sWhile c B r h).Is N R := by
  have key : ∀ k i r h, i < k → J i r h → (whileL c B k r h).Is N R := by
    intro k
    induction k with
    | zero => intro i r h hk; omega
    | succ k ih =>
      intro i r h hk hJ
      obtain ⟨b, h1, e1, e2, e3⟩ := hs i r h hJ
      unfold whileL
      simp only [e1, toS]
      cases b with
      | false => exact e3 rfl
      | true =>
        obtain ⟨j, rfl, e4⟩ := e2 rfl
        simp only [if_true]
        cases z : B r h1 with
        | nx r2 h2 => rw [z] at e4; exact ih j r2 h2 (by omega) e4
        | rt v h2 => rw [z] at e4; exact e4
        | bk r1 h1 => rw [z] at e4; exact e4.elim
        | ct r1 h1 => rw [z] at e4; exact e4.elim
        | ex x r1 h1 => rw [z] at e4; exact e4.elim
        | bad => rw [z] at e4; exact e4.elim
  exact key LIM n r h (by simp [LIM]; omega) h0
theorem w_fn {ps n : Nat} {B : SX} {us : List PV} {h : IH} {P : PV → IH → Prop} (hl : us.length = ps) (e : (B (us.map some ++ List.replicate n none) h).Is (fun _ h1 => P .non h1) P) : ∃ v h1, fn ps n B us h = .ok v h1 ∧ P v h1 := by
  unfold fn
  simp only [hl, if_true]
  cases z : B (us.map some ++ List.replicate n none) h with
  | nx r2 h2 => rw [z] at e; exact ⟨_, _, rfl, e⟩
  | rt v h2 => rw [z] at e; exact ⟨_, _, rfl, e⟩
  | bk r1 h1 => rw [z] at e; exact e.elim
  | ct r1 h1 => rw [z] at e; exact e.elim
  | ex x r1 h1 => rw [z] at e; exact e.elim
  | bad => rw [z] at e; exact e.elim
theorem w_set {A : EX} {i : Nat} {r : Fm} {h h1 : IH} {v : PV} {N : Fm → IH → Prop} {R : PV → IH → Prop} (e : A r h = .ok v h1) (k : N (r.set i (some v)) h1) : (sSet i A r h).Is N R := by
  simp only [sSet, e, toS]; exact k
theorem w_nil {r : Fm} {h : IH} {N : Fm → IH → Prop} {R : PV → IH → Prop} (k : N r h) : (sNil r h).Is N R := k
theorem w_expr {A : EX} {r : Fm} {h h1 : IH} {v : PV} {N : Fm → IH → Prop} {R : PV → IH → Prop} (e : A r h = .ok v h1) (k : N r h1) : (sExpr A r h).Is N R := by
  simp only [sExpr, e, toS]; exact k
theorem w_ret {A : EX} {r : Fm} {h h1 : IH} {v : PV} {N : Fm → IH → Prop} {R : PV → IH → Prop} (e : A r h = .ok v h1) (k : R v h1) : (sRet A r h).Is N R := by
  simp only [sRet, e, toS]; exact k
theorem w_if {c : TX} {A B : SX} {r : Fm} {h h1 : IH} {b : Bool} {N : Fm → IH → Prop} {R : PV → IH → Prop} (e : c r h = .ok b h1) (k1 : b = true → (A r h1).Is N R) (k2 : b = false → (B r h1).Is N R) : (sIf c A B r h).Is N R := by
  simp only [sIf, e, toS]
  cases b with
  | true => exact k1 rfl
  | false => exact k2 rfl
/-! ### heaps that only grow -/
def Pre (h g : IH) : Prop := ∃ u, g = h ++ u
theorem Pre.refl (h : IH) : Pre h h := ⟨[], by simp⟩
theorem Pre.trans {h g k : IH} (a : Pre h g) (b : Pre g k) : Pre h k := by
  obtain ⟨u, rfl⟩ := a
  obtain ⟨v, rfl⟩ := b
  exact ⟨u ++ v, by simp⟩
theorem Pre.of (h t : IH) : Pre h (h ++ t) := ⟨t, rfl⟩
theorem Pre.app {h g : IH} (a : Pre h g) (t : IH) : Pre h (g ++ t) := a.trans (.of g t)
theorem Pre.get {h g : IH} (a : Pre h g) {n : Nat} {o : MO} (e : h[n]? = some o) : g[n]? = some o := by
  obtain ⟨u, rfl⟩ := a
  exact get_old e
theorem Pre.le {h g : IH} (a : Pre h g) : h.length ≤ g.length := by
  obtain ⟨u, rfl⟩ := a
  simp
theorem Pre.set {h g : IH} (a : Pre h g) {n : Nat} (o : MO) (hn : h.length ≤ n) : Pre h (g.set n o) := by
  obtain ⟨u, rfl⟩ := a
  rw [List.set_append_right _ _ hn]
  exact ⟨_, rfl⟩
theorem get_set_ne {g : IH} {n m : Nat} {o : MO} (h : n ≠ m) : (g.set n o)[m]? = g[m]? := List.getElem?_set_ne h
theorem get_set_eq {g : IH} {n : Nat} {o q : MO} (e : g[n]? = some q) : (g.set n o)[n]? = some o := List.getElem?_set_self (lt_of_get e)
/-! ### slices -/
theorem cut_to {α : Type} (xs : List α) (k : Int) (h0 : 0 ≤ k) : cutA xs none (some k) = xs.take k.toNat := by
  have : ¬ k < 0 := by omega
  simp only [cutA, HT.sIx, List.drop_zero, Nat.sub_zero]
  simp only [this, if_false]
  rw [List.take_eq_take_iff]
  omega
theorem cut_from {α : Type} (xs : List α) (k : Int) (h0 : 0 ≤ k) : cutA xs (some k) none = xs.drop k.toNat := by
  have : ¬ k < 0 := by omega
  simp only [cutA, HT.sIx]
  simp only [this, if_false]
  rw [List.take_of_length_le (by simp)]
  by_cases q : k.toNat ≤ xs.length
  · rw [show min k.toNat xs.length = k.toNat by omega]
  · rw [List.drop_eq_nil_of_le (by omega), List.drop_eq_nil_of_le (by omega)]
/-! ### a comprehension with a test -/
theorem lc_gen {it : ItF} {g : TgF} {c : TX} {A : EX} {r0 : Fm} {base : IH} {n : Nat} (F : Nat → PV) (b : Nat → Bool) (hn : n < 16777216)
    (hit : ∀ i t, i < n → ∃ v r1 t', it i (base ++ t) = some (some v) ∧ g v r0 = some r1 ∧ c r1 (base ++ t) = .ok (b i) (base ++ (t ++ t')) ∧ (b i = true → ∃ t2, A r1 (base ++ (t ++ t')) = .ok (F i) (base ++ (t ++ (t' ++ t2)))))
    (hend : ∀ t, it n (base ++ t) = some none) : ∀ k i t, i ≤ n → n - i < k → ∃ t', lcL it g c A r0 base.length k i (base ++ .lst (((List.range i).filter b).map F) :: t) = .ok () (base ++ .lst (((List.range n).filter b).map F) :: t') := by
  intro k
  induction k with
  | zero => intro i t _ h; omega
  | succ k ih =>
    intro i t hi hk
    by_cases q : i < n
    · obtain ⟨v, r1, t', e1, e2, e3, e4⟩ := hit i (.lst (((List.range i).filter b).map F) :: t) q
      have fl : ((List.range i).filter b).length < 16777216 := by
        have := List.length_filter_le b (List.range i)
        simp at this; omega
      cases hb : b i with
      | true =>
        obtain ⟨t2, e4⟩ := e4 hb
        obtain ⟨t3, e⟩ := ih (i + 1) (t ++ (t' ++ t2)) (by omega) (by omega)
        refine ⟨t3, ?_⟩
        rw [← e]
        conv => lhs; unfold lcL
        rw [hb] at e3
        simp only [List.cons_append] at e3 e4
        simp [e1, e2, e3, e4, fl, List.range_succ, List.filter_append, hb]
      | false =>
        obtain ⟨t3, e⟩ := ih (i + 1) (t ++ t') (by omega) (by omega)
        refine ⟨t3, ?_⟩
        rw [← e]
        conv => lhs; unfold lcL
        rw [hb] at e3
        simp only [List.cons_append] at e3
        simp [e1, e2, e3, List.range_succ, List.filter_append, hb]
    · have : i = n := by omega
      subst this
      refine ⟨t, ?_⟩
      unfold lcL
      simp [hend]
/-- the whole of it -/
theorem lc_all {I : Fm → IH → Res ItF} {it : ItF} {g : TgF} {c : TX} {A : EX} {vs : List Nat} {r : Fm} {h base : IH} {n : Nat} (F : Nat → PV) (b : Nat → Bool) (hn : n < 1000000) (hI : I r h = .ok it base)
    (hit : ∀ i t, i < n → ∃ v r1 t', it i (base ++ t) = some (some v) ∧ g v (wipeF r vs) = some r1 ∧ c r1 (base ++ t) = .ok (b i) (base ++ (t ++ t')) ∧ (b i = true → ∃ t2, A r1 (base ++ (t ++ t')) = .ok (F i) (base ++ (t ++ (t' ++ t2)))))
    (hend : ∀ t, it n (base ++ t) = some none) : ∃ t, eLc I g c A vs r h = .ok (.obj base.length) (base ++ .lst (((List.range n).filter b).map F) :: t) := by
  obtain ⟨t, e⟩ := lc_gen F b (by omega) hit hend LIM 0 [] (by omega) (by simp [LIM]; omega)
  refine ⟨t, ?_⟩
  simp only [List.range_zero, List.filter_nil, List.map_nil] at e
  simp [eLc, hI, e]
theorem filt_range {α : Type} (L : List α) (d : α) (P : α → Bool) : ((List.range L.length).filter fun i => P (L.getD i d)).map (fun i => L.getD i d) = L.filter P := by
  have e : (List.range L.length).map (fun i => L.getD i d) = L := by
    apply List.ext_getElem
    · simp
    · intro i h1 h2; simp at h1; simp [h1]
  conv => rhs; rw [← e]
  rw [List.filter_map]; rfl
theorem any_eqv {α : Type} [DecidableEq α] {n : Nat} {enc : α → PV} {den : α → PyData} (e : EncOk n enc den) (a : α) (xs : List α) : ((xs.map den).any fun z => PyData.eqv z (den a)) = decide (a ∈ xs) := by
  induction xs with
  | nil => rfl
  | cons b bs ih =>
    rw [List.map_cons, List.any_cons, ih, e.eqv]
    by_cases q : b = a
    · subst q; simp
    · have : ¬ a = b := fun z => q z.symm
      simp [q, this]
theorem EncOk.in_obj {α : Type} [DecidableEq α] {n : Nat} {enc : α → PV} {den : α → PyData} (e : EncOk n enc den) (hn : n ≤ 11) (a : α) {k : Nat} {xs : List α} {h : IH} (hk : h[k]? = some (.lst (xs.map enc))) : pInB (enc a) (.obj k) h = some (decide (a ∈ xs)) := by
  have x := optAll_map xs fun z _ => e.dat 11 h z hn
  have y := e.dat 12 h a (by omega)
  have s : SeqAt.shaped (.list (xs.map den)) = true := by
    have l := canAll xs e.lay
    have d := depAll xs e.dep
    simp [SeqAt.shaped, PyData.canLay0, PyData.depth, l]; omega
  have s2 : SeqAt.shaped (den a) = true := by
    have := e.dep a
    simp [SeqAt.shaped, e.lay a]; omega
  have z : dataOf 12 h (.obj k) = some (.list (xs.map den)) := by simp [dataOf, hk, x]
  simp only [pInB, DEP, y, z, s, s2, any_eqv e]
  rfl
end WR

namespace WR
open PySem PySem.Spec PyProof.Rows L2
/-! ### expressions step by step -/
section
variable {A B C : EX} {L : AX} {c d : TX} {r : Fm} {h h1 h2 h3 : IH} {v w u : PV} {vs ws : List PV} {p q : PV → PV → IH → Res PV} {f : List PV → IH → Res PV} {b : Bool} {i : Nat}
theorem x_var (e : r[i]? = some (some v)) : eVar i r h = .ok v h := by simp [e]
theorem x_c : eC v r h = .ok v h := rfl
theorem x_op (a : A r h = .ok v h1) (b : B r h1 = .ok w h2) (e : p v w h2 = .ok u h3) : eOp p A B r h = .ok u h3 := by simp [a, b, e]
theorem x_nil : aNil r h = .ok [] h := rfl
theorem x_cons (a : A r h = .ok v h1) (b : L r h1 = .ok vs h2) : aCons A L r h = .ok (v :: vs) h2 := by simp [a, b]
theorem x_call (a : L r h = .ok vs h1) (e : f vs h1 = .ok v h2) : eCall f L r h = .ok v h2 := by simp [a, e]
theorem x_b (a : L r h = .ok vs h1) (e : f vs h1 = .ok v h2) : eB f L r h = .ok v h2 := by simp [a, e]
theorem x_tup (a : L r h = .ok vs h1) (e : vs.length ≤ 16777216) : eTup L r h = .ok (.tup vs) h1 := by simp [a, e]
theorem x_lst (a : L r h = .ok vs h1) (e : vs.length ≤ 16777216) : eLst L r h = .ok (.obj h1.length) (h1 ++ [.lst vs]) := by simp [a, e]
theorem x_f (a : A r h = .ok v h1) : eF A r h = .ok (nrm v) h1 := by simp [a]
theorem x_key {ks : List Int} (a : L r h = .ok vs h1) (e : keyOf vs = some ks) (l : ks.length ≤ 16777216) : eKey L r h = .ok (.key ks) h1 := by simp [a, e, l]
theorem x_ifT (a : c r h = .ok true h1) (e : A r h1 = .ok v h2) : eIf c A B r h = .ok v h2 := by simp [a, e]
theorem x_ifF (a : c r h = .ok false h1) (e : B r h1 = .ok v h2) : eIf c A B r h = .ok v h2 := by simp [a, e]
theorem x_if (a : c r h = .ok b h1) (e1 : b = true → A r h1 = .ok v h2) (e2 : b = false → B r h1 = .ok v h2) : eIf c A B r h = .ok v h2 := by
  cases b with
  | true => exact x_ifT a (e1 rfl)
  | false => exact x_ifF a (e2 rfl)
theorem x_app {n : Nat} {xs : List PV} (a : A r h = .ok (.obj n) h1) (g : h1[n]? = some (.lst xs)) (e : L r h1 = .ok [w] h2) (g2 : h2[n]? = some (.lst xs)) (l : xs.length < 16777216) : eAppend A L r h = .ok .non (h2.set n (.lst (xs ++ [w]))) := by
  simp [a, g, e, g2, l]
theorem x_sl {lo hi : Option Int} {l o : OX} (a : A r h = .ok v h1) (e1 : l r h1 = .ok lo h1) (e2 : o r h1 = .ok hi h1) (e : pSl v lo hi h1 = .ok w h2) : eSl A l o r h = .ok w h2 := by
  unfold eSl; simp only [a, e1, e2, bind_ok, e]
theorem x_slK {lo hi : Option Int} {l o : OX} (a : A r h = .ok v h1) (e1 : l r h1 = .ok lo h1) (e2 : o r h1 = .ok hi h1) (e : pSlK v lo hi h1 = .ok w h2) : eSlK A l o r h = .ok w h2 := by
  unfold eSlK; simp only [a, e1, e2, bind_ok, e]
theorem o_none : oNone r h = .ok none h := rfl
theorem o_some {k : Int} (a : A r h = .ok (.int k) h1) : oSome A r h = .ok (some k) h1 := by simp [a]
theorem t_bl (a : A r h = .ok (.bl b) h1) : tBl A r h = .ok b h1 := by simp [a]
theorem t_tru (a : A r h = .ok v h1) (e : pTru v h1 = some b) : tTru A r h = .ok b h1 := by simp only [tTru, a, bind_ok, e, opt]
theorem t_not (a : c r h = .ok b h1) : tNotX c r h = .ok (!b) h1 := by simp [a]
theorem t_and {b2 : Bool} (a : c r h = .ok b h1) (e1 : b = true → d r h1 = .ok b2 h2) (e2 : b = false → b2 = false ∧ h2 = h1) : tAndX c d r h = .ok b2 h2 := by
  cases b with
  | true => simp [a, e1 rfl]
  | false => obtain ⟨rfl, rfl⟩ := e2 rfl; simp [a]
theorem t_or {b2 : Bool} (a : c r h = .ok b h1) (e1 : b = false → d r h1 = .ok b2 h2) (e2 : b = true → b2 = true ∧ h2 = h1) : tOrX c d r h = .ok b2 h2 := by
  cases b with
  | false => simp [a, e1 rfl]
  | true => obtain ⟨rfl, rfl⟩ := e2 rfl; simp [a]
/-! the operations -/
theorem p_addI {x y : Int} : pAdd (.int x) (.int y) h = .ok (.int (x + y)) h := rfl
theorem p_addT {xs ys : List PV} (l : xs.length + ys.length ≤ 16777216) : pAdd (.tup xs) (.tup ys) h = .ok (.tup (xs ++ ys)) h := by simp [l]
theorem p_addL {m n : Nat} {xs ys : List PV} (a : h[m]? = some (.lst xs)) (b : h[n]? = some (.lst ys)) (l : xs.length + ys.length ≤ 16777216) : pAdd (.obj m) (.obj n) h = .ok (.obj h.length) (h ++ [.lst (xs ++ ys)]) := by simp [a, b, l]
theorem p_slTo {n : Nat} {xs : List PV} {k : Int} (a : h[n]? = some (.lst xs)) (k0 : 0 ≤ k) : pSl (.obj n) none (some k) h = .ok (.obj h.length) (h ++ [.lst (xs.take k.toNat)]) := by simp [a, cut_to _ _ k0]
theorem p_slFrom {n : Nat} {xs : List PV} {k : Int} (a : h[n]? = some (.lst xs)) (k0 : 0 ≤ k) : pSl (.obj n) (some k) none h = .ok (.obj h.length) (h ++ [.lst (xs.drop k.toNat)]) := by simp [a, cut_from _ _ k0]
theorem p_slT {xs : List PV} {k : Int} (k0 : 0 ≤ k) : pSl (.tup xs) none (some k) h = .ok (.tup (xs.take k.toNat)) h := by simp [cut_to _ _ k0]
theorem p_idxT {xs : List PV} {k : Int} (k0 : 0 ≤ k) (e : xs[k.toNat]? = some v) : pIdx (.tup xs) (.int k) h = .ok v h := by
  have l : k.toNat < xs.length := (List.getElem?_eq_some_iff.mp e).1
  simp [atI_pos xs k k0 (by omega), e]
theorem p_idxL {n : Nat} {xs : List PV} {k : Int} (a : h[n]? = some (.lst xs)) (k0 : 0 ≤ k) (e : xs[k.toNat]? = some v) : pIdx (.obj n) (.int k) h = .ok v h := by
  have l : k.toNat < xs.length := (List.getElem?_eq_some_iff.mp e).1
  simp [a, atI_pos xs k k0 (by omega), e]
theorem p_lenL {n : Nat} {xs : List PV} (a : h[n]? = some (.lst xs)) : pLen [.obj n] h = .ok (.int xs.length) h := by simp [a]
theorem p_lenT {xs : List PV} : pLen [.tup xs] h = .ok (.int xs.length) h := by simp
theorem p_in (e : pInB v w h = some b) : pIn v w h = .ok (.bl b) h := by simp only [pIn, e, Option.map, opt]
theorem p_notin (e : pInB v w h = some b) : pNotIn v w h = .ok (.bl (!b)) h := by simp only [pNotIn, e, Option.map, opt]
theorem p_eq (e : pEqB v w h = some b) : pEq v w h = .ok (.bl b) h := by simp only [pEq, e, Option.map, opt]
theorem p_ne (e : pEqB v w h = some b) : pNe v w h = .ok (.bl (!b)) h := by simp only [pNe, e, Option.map, opt]
theorem w_par {i j : Nat} {N : Fm → IH → Prop} {R : PV → IH → Prop} (e : L r h = .ok [v, w] h1) (k : N ((r.set i (some v)).set j (some w)) h1) : (sPar i j L r h).Is N R := by
  simp only [sPar, e, toS]; exact k
theorem w_asg {is : List Nat} {r1 : Fm} {N : Fm → IH → Prop} {R : PV → IH → Prop} (e : A r h = .ok (.tup vs) h1) (s : setAll is vs r = some r1) (k : N r1 h1) : (sAsgT (gTupF is) A r h).Is N R := by
  simp only [sAsgT, e, toS, gTupF, s]; exact k
theorem w_fn2 {ps n : Nat} {Bd : SX} {us : List PV} {P : PV → IH → Prop} (hl : us.length = ps) (e : (Bd (us.map some ++ List.replicate n none) h).Is (fun _ h1 => P .non h1) P) : ∃ v h1, fn ps n Bd us h = .ok v h1 ∧ P v h1 := w_fn hl e
theorem sl1 {o o2 : MO} : (h ++ [o]).set h.length o2 = h ++ [o2] := by simp
theorem gl {o : MO} : (h ++ [o])[h.length]? = some o := by simp
theorem w_dput {n : Nat} {ks : List Int} {kvs : List (List Int × PV)} {D K V : EX} {N : Fm → IH → Prop} {R : PV → IH → Prop} (a : V r h = .ok v h1) (b : D r h1 = .ok (.obj n) h2) (e : K r h2 = .ok (.key ks) h3) (g : h3[n]? = some (.dct kvs)) (l : kvs.length < 16777216) (k : N r (h3.set n (.dct (dPut kvs ks v)))) : (sDPutX D K V r h).Is N R := by
  simp only [sDPutX, a, b, e, toS, g, l, if_true]; exact k
theorem w_setix {n : Nat} {xs : List PV} {k : Int} {O I V : EX} {N : Fm → IH → Prop} {R : PV → IH → Prop} (a : V r h = .ok v h1) (b : O r h1 = .ok (.obj n) h2) (e : I r h2 = .ok (.int k) h3) (g : h3[n]? = some (.lst xs)) (k0 : 0 ≤ k) (k1 : k.toNat < xs.length) (q : N r (h3.set n (.lst (xs.set k.toNat v)))) : (sSetIx O I V r h).Is N R := by
  have z : ixN xs.length k = some k.toNat := by simp [ixN, k0, show k < (xs.length : Int) by omega]
  simp only [sSetIx, a, b, e, bind_ok, g, z, toS]
  exact q
theorem w_aug {i : Nat} {x y : Int} {N : Fm → IH → Prop} {R : PV → IH → Prop} (g : r[i]? = some (some (.int x))) (e : A r h = .ok (.int y) h1) (k : N (r.set i (some (.int (x + y)))) h1) : (sAugAdd i A r h).Is N R := by
  simp only [sAugAdd, g, e, toS]; exact k
end
/-! ### dicts -/
theorem dGet_put_self (kvs : List (List Int × PV)) (k : List Int) (v : PV) : dGet (dPut kvs k v) k = some v := by
  unfold dPut
  split
  · rename_i hk
    induction kvs with
    | nil => simp at hk
    | cons q t ih =>
      unfold dGet
      rw [List.map_cons, List.find?_cons]
      by_cases hq : q.1 = k
      · simp [hq]
      · simp only [hq, if_false, decide_false]
        have hk' : (t.any fun q => decide (q.1 = k)) = true := by simpa [hq] using hk
        exact ih hk'
  · rename_i hk
    unfold dGet
    rw [List.find?_append]
    have : (kvs.find? fun q => decide (q.1 = k)) = none := by
      rw [List.find?_eq_none]
      intro x hx
      intro z
      exact hk (List.any_eq_true.mpr ⟨x, hx, z⟩)
    simp [this]
theorem dGet_put_ne (kvs : List (List Int × PV)) {k k' : List Int} (v : PV) (h : k' ≠ k) : dGet (dPut kvs k v) k' = dGet kvs k' := by
  unfold dPut
  split
  · rename_i hk
    clear hk
    unfold dGet
    induction kvs with
    | nil => rfl
    | cons q t ih =>
      rw [List.map_cons, List.find?_cons, List.find?_cons]
      by_cases hq : q.1 = k
      · have hn : ¬ k = k' := fun z => h z.symm
        simp only [hq, if_true, hn, decide_false]
        exact ih
      · simp only [hq, if_false]
        split
        · rfl
        · exact ih
  · unfold dGet
    rw [List.find?_append]
    cases z : kvs.find? fun q => decide (q.1 = k') with
    | some y => simp
    | none =>
      have hn : ¬ k = k' := fun z => h z.symm
      simp [hn]
theorem dPut_len (kvs : List (List Int × PV)) (k : List Int) (v : PV) : (dPut kvs k v).length ≤ kvs.length + 1 := by
  unfold dPut
  split
  · simp
  · simp
end WR

namespace WR
open PySem PySem.Spec PyProof.Rows L2
/-! ### the same code in a heap that has more in front: objects are renamed by adding -/
mutual
def upV (d : Nat) : PV → PV
  | .tup xs => .tup (upVs d xs)
  | .fls xs => .fls (upVs d xs)
  | .obj n => .obj (n + d)
  | .non => .non
  | .bl b => .bl b
  | .int i => .int i
  | .str x => .str x
  | .glo x => .glo x
  | .ty n => .ty n
  | .key ks => .key ks
def upVs (d : Nat) : List PV → List PV
  | [] => []
  | x :: xs => upV d x :: upVs d xs
end
theorem upVs_map (d : Nat) : ∀ xs, upVs d xs = xs.map (upV d)
  | [] => by rw [upVs]; rfl
  | x :: xs => by rw [upVs, upVs_map d xs]; rfl
@[simp] theorem up_tup (d : Nat) (xs : List PV) : upV d (.tup xs) = .tup (xs.map (upV d)) := by rw [upV, upVs_map]
@[simp] theorem up_fls (d : Nat) (xs : List PV) : upV d (.fls xs) = .fls (xs.map (upV d)) := by rw [upV, upVs_map]
@[simp] theorem up_obj (d n : Nat) : upV d (.obj n) = .obj (n + d) := by rw [upV]
@[simp] theorem up_non (d : Nat) : upV d .non = .non := by rw [upV]
@[simp] theorem up_bl (d : Nat) (b : Bool) : upV d (.bl b) = .bl b := by rw [upV]
@[simp] theorem up_int (d : Nat) (i : Int) : upV d (.int i) = .int i := by rw [upV]
@[simp] theorem up_str (d : Nat) (x : Str) : upV d (.str x) = .str x := by rw [upV]
@[simp] theorem up_glo (d : Nat) (x : Str) : upV d (.glo x) = .glo x := by rw [upV]
@[simp] theorem up_ty (d : Nat) (x : String) : upV d (.ty x) = .ty x := by rw [upV]
@[simp] theorem up_key (d : Nat) (ks : List Int) : upV d (.key ks) = .key ks := by rw [upV]
def upM (d : Nat) : MO → MO
  | .lst xs => .lst (xs.map (upV d))
  | .ins c fs => .ins c (fs.map fun q => (q.1, upV d q.2))
  | .dct kvs => .dct (kvs.map fun q => (q.1, upV d q.2))
  | .dks kvs => .dks (kvs.map fun q => (q.1, upV d q.2))
  | .tbl x => .tbl x
def upH (p h : IH) : IH := p ++ h.map (upM p.length)
def upX (p : IH) (x : XV) : XV := ⟨x.cls, x.fs.map fun q => (q.1, upV p.length q.2)⟩
abbrev uV (p : IH) : PV → PV := upV p.length
abbrev uF (p : IH) (r : Fm) : Fm := r.map (Option.map (uV p))
theorem uget (p h : IH) (n : Nat) : (upH p h)[n + p.length]? = (h[n]?).map (upM p.length) := by
  unfold upH
  rw [List.getElem?_append_right (by omega), Nat.add_sub_cancel, List.getElem?_map]
theorem uset (p h : IH) (n : Nat) (o : MO) : upH p (h.set n o) = (upH p h).set (n + p.length) (upM p.length o) := by
  unfold upH
  rw [List.set_append_right _ _ (by omega), Nat.add_sub_cancel, List.map_set]
theorem uapp (p h t : IH) : upH p (h ++ t) = upH p h ++ t.map (upM p.length) := by
  unfold upH; rw [List.map_append, List.append_assoc]
theorem ulen (p h : IH) : (upH p h).length = h.length + p.length := by
  unfold upH; rw [List.length_append, List.length_map, Nat.add_comm]
theorem up_nil (p : IH) : upH p [] = p := by simp [upH]
def RR {α : Type} (p : IH) (u : α → α) (a b : Res α) : Prop := match a with
  | .ok v h => b = .ok (u v) (upH p h)
  | .ex x h => b = .ex (upX p x) (upH p h)
  | .bad => True
def RS' (p : IH) (a b : RS) : Prop := match a with
  | .nx r h => b = .nx (uF p r) (upH p h)
  | .rt v h => b = .rt (uV p v) (upH p h)
  | .bk r h => b = .bk (uF p r) (upH p h)
  | .ct r h => b = .ct (uF p r) (upH p h)
  | .ex x r h => b = .ex (upX p x) (uF p r) (upH p h)
  | .bad => True
theorem RR.bind {α β : Type} {p : IH} {u : α → α} {w : β → β} {a b : Res α} {f g : α → IH → Res β} (e : RR p u a b) (k : ∀ v h, RR p w (f v h) (g (u v) (upH p h))) : RR p w (a.bind f) (b.bind g) := by
  cases a with
  | ok v h => rw [show b = _ from e]; exact k v h
  | ex x h => rw [show b = _ from e]; exact rfl
  | bad => exact True.intro
theorem RR.ok {α : Type} {p : IH} {u : α → α} {v w : α} {h k : IH} (e1 : w = u v) (e2 : k = upH p h) : RR p u (.ok v h) (.ok w k) := by subst e1 e2; exact rfl
theorem RR.toS {α : Type} {p : IH} {u : α → α} {a b : Res α} {r : Fm} {k k' : α → IH → RS} (e : RR p u a b) (q : ∀ v h, RS' p (k v h) (k' (u v) (upH p h))) : RS' p (WR.toS a r k) (WR.toS b (uF p r) k') := by
  cases a with
  | ok v h => rw [show b = _ from e]; exact q v h
  | ex x h => rw [show b = _ from e]; exact rfl
  | bad => exact True.intro
def URel (p : IH) (it it' : ItF) : Prop := ∀ i h, match it i h with
  | none => True
  | some o => it' i (upH p h) = some (o.map (uV p))
class UE (A : EX) : Prop where
  go : ∀ p r h, RR p (uV p) (A r h) (A (uF p r) (upH p h))
class UT (c : TX) : Prop where
  go : ∀ p r h, RR p id (c r h) (c (uF p r) (upH p h))
class UA (L : AX) : Prop where
  go : ∀ p r h, RR p (List.map (uV p)) (L r h) (L (uF p r) (upH p h))
class UO (o : OX) : Prop where
  go : ∀ p r h, RR p id (o r h) (o (uF p r) (upH p h))
class UI (I : Fm → IH → Res ItF) : Prop where
  go : ∀ p r h, match I r h with
    | .ok it h1 => ∃ it', I (uF p r) (upH p h) = .ok it' (upH p h1) ∧ URel p it it'
    | .ex x h1 => I (uF p r) (upH p h) = .ex (upX p x) (upH p h1)
    | .bad => True
class UG (g : TgF) : Prop where
  go : ∀ p v r, match g v r with
    | some r1 => g (uV p v) (uF p r) = some (uF p r1)
    | none => True
class US (B : SX) : Prop where
  go : ∀ p r h, RS' p (B r h) (B (uF p r) (upH p h))
class U1 (f : List PV → IH → Res PV) : Prop where
  go : ∀ p vs h, RR p (uV p) (f vs h) (f (vs.map (uV p)) (upH p h))
class U2 (f : PV → PV → IH → Res PV) : Prop where
  go : ∀ p x y h, RR p (uV p) (f x y h) (f (uV p x) (uV p y) (upH p h))
class UU (f : PV → IH → Res PV) : Prop where
  go : ∀ p x h, RR p (uV p) (f x h) (f (uV p x) (upH p h))
/-! combinators of expressions -/
instance (i : Nat) : UE (eVar i) := ⟨fun p r h => by
  simp only [eVar, List.getElem?_map]
  cases r[i]? with
  | none => exact True.intro
  | some o => cases o with
    | none => exact True.intro
    | some v => exact rfl⟩
class UC (v : PV) : Prop where
  go : ∀ d, upV d v = v
class UCs (vs : List PV) : Prop where
  go : ∀ d, vs.map (upV d) = vs
instance : UC .non := ⟨up_non⟩
instance (b : Bool) : UC (.bl b) := ⟨fun d => up_bl d b⟩
instance (i : Int) : UC (.int i) := ⟨fun d => up_int d i⟩
instance (x : Str) : UC (.str x) := ⟨fun d => up_str d x⟩
instance (x : Str) : UC (.glo x) := ⟨fun d => up_glo d x⟩
instance (x : String) : UC (.ty x) := ⟨fun d => up_ty d x⟩
instance : UCs [] := ⟨fun _ => rfl⟩
instance (v : PV) (vs : List PV) [a : UC v] [b : UCs vs] : UCs (v :: vs) := ⟨fun d => by rw [List.map_cons, a.go, b.go]⟩
instance (vs : List PV) [b : UCs vs] : UC (.tup vs) := ⟨fun d => by rw [up_tup, b.go]⟩
instance (v : PV) [c : UC v] : UE (eC v) := ⟨fun p r h => RR.ok (c.go _).symm rfl⟩
instance : UA aNil := ⟨fun p r h => rfl⟩
instance (A : EX) (B : AX) [a : UE A] [b : UA B] : UA (aCons A B) := ⟨fun p r h => (a.go p r h).bind fun v h1 => (b.go p r h1).bind fun vs h2 => rfl⟩
instance (f : PV → PV → IH → Res PV) (A B : EX) [q : U2 f] [a : UE A] [b : UE B] : UE (eOp f A B) := ⟨fun p r h => (a.go p r h).bind fun v h1 => (b.go p r h1).bind fun w h2 => q.go p v w h2⟩
instance (f : PV → IH → Res PV) (A : EX) [q : UU f] [a : UE A] : UE (eUn f A) := ⟨fun p r h => (a.go p r h).bind fun v h1 => q.go p v h1⟩
instance (f : List PV → IH → Res PV) (L : AX) [q : U1 f] [a : UA L] : UE (eB f L) := ⟨fun p r h => (a.go p r h).bind fun v h1 => q.go p v h1⟩
instance (f : List PV → IH → Res PV) (L : AX) [q : U1 f] [a : UA L] : UE (eCall f L) := ⟨fun p r h => (a.go p r h).bind fun v h1 => q.go p v h1⟩
instance (L : AX) [a : UA L] : UE (eTup L) := ⟨fun p r h => (a.go p r h).bind fun vs h1 => by
  rw [List.length_map]
  split
  · exact RR.ok (up_tup _ _).symm rfl
  · exact True.intro⟩
instance (L : AX) [a : UA L] : UE (eLst L) := ⟨fun p r h => (a.go p r h).bind fun vs h1 => by
  simp only [mkL, List.length_map]
  split
  · exact RR.ok (by rw [ulen]; exact (up_obj _ _).symm) (by rw [uapp]; rfl)
  · exact True.intro⟩
instance : UO oNone := ⟨fun p r h => rfl⟩
instance (A : EX) [a : UE A] : UO (oSome A) := ⟨fun p r h => (a.go p r h).bind fun v h1 => by
  cases v <;> first | exact True.intro | (simp only [uV, up_int]; exact rfl)⟩
theorem ucut {α β : Type} (f : α → β) (xs : List α) (lo hi : Option Int) : cutA (xs.map f) lo hi = (cutA xs lo hi).map f := by
  unfold cutA; rw [List.length_map, List.map_take, List.map_drop]
theorem usl (p : IH) (x : PV) (lo hi : Option Int) (h : IH) : RR p (uV p) (pSl x lo hi h) (pSl (uV p x) lo hi (upH p h)) := by
  cases x <;> try exact True.intro
  · rename_i xs
    simp only [uV, up_tup, pSl, ucut]
    exact RR.ok (up_tup _ _).symm rfl
  · rename_i n
    simp only [uV, up_obj, pSl, uget]
    cases h[n]? with
    | none => exact True.intro
    | some o => cases o <;> try exact True.intro
                simp only [Option.map, upM, ucut]
                exact RR.ok (by rw [ulen, up_obj]) (by rw [uapp]; rfl)
instance (A : EX) (l o : OX) [a : UE A] [b : UO l] [c : UO o] : UE (eSl A l o) := ⟨fun p r h => (a.go p r h).bind fun v h1 => (b.go p r h1).bind fun lo h2 => (c.go p r h2).bind fun hi h3 => usl p v lo hi h3⟩
theorem utru (p : IH) (v : PV) (h : IH) : pTru (uV p v) (upH p h) = pTru v h := by
  cases v <;> simp only [uV, up_non, up_bl, up_int, up_str, up_tup, up_fls, up_glo, up_ty, up_key, up_obj, pTru, List.isEmpty_map, uget]
  rename_i n
  cases h[n]? with
  | none => rfl
  | some o => cases o <;> simp [upM]
instance (A : EX) [a : UE A] : UT (tTru A) := ⟨fun p r h => (a.go p r h).bind fun v h1 => by
  rw [utru]
  cases pTru v h1 with
  | none => exact True.intro
  | some b => exact rfl⟩
instance (A : EX) [a : UE A] : UT (tBl A) := ⟨fun p r h => (a.go p r h).bind fun v h1 => by
  cases v <;> first | exact True.intro | (simp only [uV, up_bl]; exact rfl)⟩
instance (c d : TX) [a : UT c] [b : UT d] : UT (tAndX c d) := ⟨fun p r h => (a.go p r h).bind fun v h1 => by
  cases v with
  | true => exact b.go p r h1
  | false => exact rfl⟩
instance (c d : TX) [a : UT c] [b : UT d] : UT (tOrX c d) := ⟨fun p r h => (a.go p r h).bind fun v h1 => by
  cases v with
  | true => exact rfl
  | false => exact b.go p r h1⟩
instance (c : TX) [a : UT c] : UT (tNotX c) := ⟨fun p r h => (a.go p r h).bind fun v h1 => rfl⟩
instance : UT tYesX := ⟨fun p r h => rfl⟩
instance (A B : EX) [a : UE A] [b : UE B] : UE (eAnd A B) := ⟨fun p r h => (a.go p r h).bind fun v h1 => by
  cases v <;> try exact True.intro
  rename_i q
  simp only [uV, up_bl]
  cases q with
  | true => exact b.go p r h1
  | false => exact RR.ok (up_bl _ _).symm rfl⟩
instance (A B : EX) [a : UE A] [b : UE B] : UE (eOr A B) := ⟨fun p r h => (a.go p r h).bind fun v h1 => by
  cases v <;> try exact True.intro
  rename_i q
  simp only [uV, up_bl]
  cases q with
  | true => exact RR.ok (up_bl _ _).symm rfl
  | false => exact b.go p r h1⟩
instance (A : EX) [a : UE A] : UE (eNot A) := ⟨fun p r h => (a.go p r h).bind fun v h1 => by
  rw [utru]
  cases pTru v h1 with
  | none => exact True.intro
  | some b => exact RR.ok (up_bl _ _).symm rfl⟩
instance (c : TX) (A B : EX) [a : UT c] [b : UE A] [d : UE B] : UE (eIf c A B) := ⟨fun p r h => (a.go p r h).bind fun v h1 => by
  cases v with
  | true => exact b.go p r h1
  | false => exact d.go p r h1⟩
instance (f g : PV → PV → IH → Res PV) (A B C : EX) [u : U2 f] [w : U2 g] [a : UE A] [b : UE B] [c : UE C] : UE (eChain f g A B C) := ⟨fun p r h => (a.go p r h).bind fun x h1 => (b.go p r h1).bind fun y h2 => (u.go p x y h2).bind fun v h3 => by
  cases v <;> try exact True.intro
  rename_i q
  simp only [uV, up_bl]
  cases q with
  | true => exact (c.go p r h3).bind fun z h4 => w.go p y z h4
  | false => exact RR.ok (up_bl _ _).symm rfl⟩
/-! operations -/
instance : U2 pAdd := ⟨fun p x y h => by
  cases x <;> cases y <;> try exact True.intro
  · exact RR.ok (by simp only [up_int]) rfl
  · simp only [uV, up_str, pAdd]
    split
    · exact RR.ok (up_str _ _).symm rfl
    · exact True.intro
  · simp only [uV, up_tup, pAdd, List.length_map]
    split
    · exact RR.ok (by rw [up_tup, List.map_append]) rfl
    · exact True.intro
  · rename_i m n
    simp only [uV, up_obj, pAdd, uget]
    cases h[m]? with
    | none => exact True.intro
    | some o => cases o <;> try exact True.intro
                cases h[n]? with
                | none => exact True.intro
                | some o2 => cases o2 <;> try exact True.intro
                             simp only [Option.map, upM, List.length_map]
                             split
                             · exact RR.ok (by rw [ulen, up_obj]) (by rw [uapp]; simp only [List.map_cons, List.map_nil, upM, List.map_append])
                             · exact True.intro⟩
instance : U2 pSub := ⟨fun p x y h => by
  cases x <;> cases y <;> try exact True.intro
  exact RR.ok (by simp only [up_int]) rfl⟩
instance : U2 pMul := ⟨fun p x y h => by
  cases x <;> cases y <;> try exact True.intro
  simp only [uV, up_int, pMul]
  split
  · exact RR.ok (up_int _ _).symm rfl
  · exact True.intro⟩
instance : U2 pDiv := ⟨fun p x y h => by
  cases x <;> cases y <;> try exact True.intro
  simp only [uV, up_int, pDiv]
  split
  · exact RR.ok (up_int _ _).symm rfl
  · exact True.intro⟩
instance : U2 pMod := ⟨fun p x y h => by
  cases x <;> cases y <;> try exact True.intro
  simp only [uV, up_int, pMod]
  split
  · exact RR.ok (up_int _ _).symm rfl
  · exact True.intro⟩
instance : U2 pPow := ⟨fun p x y h => by
  cases x <;> cases y <;> try exact True.intro
  simp only [uV, up_int, pPow]
  split
  · exact RR.ok (up_int _ _).symm rfl
  · exact True.intro⟩
instance : UU pNeg := ⟨fun p x h => by
  cases x <;> try exact True.intro
  exact RR.ok (by simp only [up_int]) rfl⟩
instance (f : Int → Int → Bool) : U2 (pCI f) := ⟨fun p x y h => by
  cases x <;> cases y <;> try exact True.intro
  simp only [uV, up_int, pCI]
  exact RR.ok (up_bl _ _).symm rfl⟩
instance : U2 pIsN := ⟨fun p x y h => by
  cases y <;> try exact True.intro
  cases x <;> first | exact True.intro | (simp only [uV, up_non, up_bl, up_int, up_str, up_tup, up_fls, up_ty, up_key, up_obj, pIsN, isN]; exact RR.ok (up_bl _ _).symm rfl)⟩
instance : U2 pNotN := ⟨fun p x y h => by
  cases y <;> try exact True.intro
  cases x <;> first | exact True.intro | (simp only [uV, up_non, up_bl, up_int, up_str, up_tup, up_fls, up_ty, up_key, up_obj, pNotN, isN]; exact RR.ok (up_bl _ _).symm rfl)⟩
theorem uall {α β : Type} {f : α → Option β} {g : α → Option β} {u : α → α} (e : ∀ x, g (u x) = f x) : ∀ xs : List α, optAll g (xs.map u) = optAll f xs
  | [] => rfl
  | x :: xs => by simp only [List.map, optAll, e, uall e xs]
theorem udat (p h : IH) : ∀ (n : Nat) (v : PV), dataOf n (upH p h) (uV p v) = dataOf n h v := by
  intro n
  induction n with
  | zero => intro v; cases v <;> simp [dataOf]
  | succ n ih =>
    intro v
    cases v <;> simp only [uV, up_non, up_bl, up_int, up_str, up_tup, up_fls, up_glo, up_ty, up_key, up_obj, dataOf, uget]
    · rw [uall ih]
    · rw [uall ih]
    · rename_i k
      cases h[k]? with
      | none => rfl
      | some o => cases o <;> simp only [Option.map, upM]
                  rw [uall ih]
theorem ueqB (p h : IH) (x y : PV) : pEqB (uV p x) (uV p y) (upH p h) = pEqB x y h := by
  unfold pEqB; rw [udat, udat]
instance : U2 pEq := ⟨fun p x y h => by
  unfold pEq
  rw [ueqB]
  cases pEqB x y h with
  | none => exact True.intro
  | some b => exact RR.ok (up_bl _ _).symm rfl⟩
instance : U2 pNe := ⟨fun p x y h => by
  unfold pNe
  rw [ueqB]
  cases pEqB x y h with
  | none => exact True.intro
  | some b => exact RR.ok (up_bl _ _).symm rfl⟩
def isI : PV → Bool
  | .int _ => true
  | _ => false
def eqI (i : Int) : PV → Bool
  | .int j => j == i
  | _ => false
theorem pInB_it (i : Int) (ys : List PV) (h : IH) : pInB (.int i) (.tup ys) h = if ys.all isI then some (ys.any (eqI i)) else none := rfl
theorem uall2 (d : Nat) (xs : List PV) : (xs.map (upV d)).all isI = xs.all isI := by
  rw [List.all_map]
  congr 1
  funext y
  cases y <;> simp [isI]
theorem uany2 (d : Nat) (i : Int) (xs : List PV) : (xs.map (upV d)).any (eqI i) = xs.any (eqI i) := by
  rw [List.any_map]
  congr 1
  funext y
  cases y <;> simp [eqI]
theorem uinB (p h : IH) (x y : PV) : pInB (uV p x) (uV p y) (upH p h) = pInB x y h := by
  have e1 := udat p h DEP x
  have e2 := udat p h DEP y
  cases y with
  | tup ys =>
    simp only [uV, up_tup]
    cases x <;> simp only [up_non, up_bl, up_int, up_str, up_tup, up_fls, up_glo, up_ty, up_key, up_obj] <;> try rfl
    rw [pInB_it, pInB_it, uall2, uany2]
  | _ =>
    simp only [uV, up_non, up_bl, up_int, up_str, up_fls, up_glo, up_ty, up_key, up_obj] at e1 e2 ⊢
    unfold pInB
    simp only
    rw [e1, e2]
instance : U2 pIn := ⟨fun p x y h => by
  unfold pIn
  rw [uinB]
  cases pInB x y h with
  | none => exact True.intro
  | some b => exact RR.ok (up_bl _ _).symm rfl⟩
instance : U2 pNotIn := ⟨fun p x y h => by
  unfold pNotIn
  rw [uinB]
  cases pInB x y h with
  | none => exact True.intro
  | some b => exact RR.ok (up_bl _ _).symm rfl⟩
theorem uatI {α β : Type} (f : α → β) (xs : List α) (i : Int) : atI (xs.map f) i = (atI xs i).map f := by
  unfold atI
  rw [List.length_map]
  cases ixN xs.length i with
  | none => rfl
  | some j => simp
theorem RR.opt {p h : IH} {o : Option PV} : RR p (uV p) (WR.opt o h) (WR.opt (o.map (uV p)) (upH p h)) := by
  cases o with
  | none => exact True.intro
  | some v => exact rfl
instance : U2 pIdx := ⟨fun p x y h => by
  cases x <;> cases y <;> try exact True.intro
  · simp only [uV, up_str, up_int, pIdx]
    split
    · rename_i z i _
      cases atI z.cps.toList i with
      | none => exact True.intro
      | some c => exact RR.ok (up_str _ _).symm rfl
    · exact True.intro
  · simp only [uV, up_tup, up_int, pIdx, uatI]; exact RR.opt
  · simp only [uV, up_fls, up_int, pIdx, uatI]; exact RR.opt
  · rename_i n i
    simp only [uV, up_obj, up_int, pIdx, uget]
    cases h[n]? with
    | none => exact True.intro
    | some o => cases o <;> try exact True.intro
                simp only [Option.map, upM, uatI]; exact RR.opt⟩
theorem useq (p h : IH) (v : PV) : seqOf (uV p v) (upH p h) = (seqOf v h).map (List.map (uV p)) := by
  cases v <;> simp only [uV, up_non, up_bl, up_int, up_str, up_tup, up_fls, up_glo, up_ty, up_key, up_obj, seqOf, Option.map, uget]
  rename_i n
  cases h[n]? with
  | none => rfl
  | some o => cases o <;> rfl
theorem U1.one {f : List PV → IH → Res PV} (h1 : ∀ p v h, RR p (uV p) (f [v] h) (f [uV p v] (upH p h))) (h0 : ∀ h, f [] h = .bad) (h2 : ∀ v w vs h, f (v :: w :: vs) h = .bad) : U1 f := ⟨fun p vs h => by
  match vs with
  | [] => rw [h0]; exact True.intro
  | [v] => exact h1 p v h
  | v :: w :: vs => rw [h2]; exact True.intro⟩
theorem U1.two {f : List PV → IH → Res PV} (h2 : ∀ p v w h, RR p (uV p) (f [v, w] h) (f [uV p v, uV p w] (upH p h))) (h0 : ∀ h, f [] h = .bad) (h1 : ∀ v h, f [v] h = .bad) (h3 : ∀ u v w vs h, f (u :: v :: w :: vs) h = .bad) : U1 f := ⟨fun p vs h => by
  match vs with
  | [] => rw [h0]; exact True.intro
  | [v] => rw [h1]; exact True.intro
  | [v, w] => exact h2 p v w h
  | u :: v :: w :: vs => rw [h3]; exact True.intro⟩
instance : U1 pAbs := U1.one (fun p v h => by
  cases v <;> try exact True.intro
  exact RR.ok (by simp only [up_int]) rfl) (fun _ => rfl) (fun v w vs h => by cases v <;> rfl)
instance : U1 pInt1 := U1.one (fun p v h => by
  cases v <;> try exact True.intro
  · simp only [uV, up_bl]; exact RR.ok (up_int _ _).symm rfl
  · simp only [uV, up_int]; exact RR.ok (up_int _ _).symm rfl) (fun _ => rfl) (fun v w vs h => by cases v <;> rfl)
instance : U1 pMax2 := U1.two (fun p v w h => by
  cases v <;> cases w <;> try exact True.intro
  simp only [uV, up_int]; exact RR.ok (up_int _ _).symm rfl) (fun _ => rfl) (fun v h => by cases v <;> rfl) (fun u v w vs h => by cases u <;> cases v <;> rfl)
instance : U1 pMin2 := U1.two (fun p v w h => by
  cases v <;> cases w <;> try exact True.intro
  simp only [uV, up_int]; exact RR.ok (up_int _ _).symm rfl) (fun _ => rfl) (fun v h => by cases v <;> rfl) (fun u v w vs h => by cases u <;> cases v <;> rfl)
instance : U1 pLen := U1.one (fun p v h => by
  have e := useq p h v
  cases v <;> simp only [uV, up_non, up_bl, up_int, up_str, up_tup, up_fls, up_glo, up_ty, up_key, up_obj] at e ⊢ <;> simp only [pLen]
  case str =>
    split
    · exact RR.ok (up_int _ _).symm rfl
    · exact True.intro
  all_goals
    rw [e]
    split
    · rename_i xs z
      rw [z]
      exact RR.ok (by rw [List.length_map]; exact (up_int _ _).symm) rfl
    · exact True.intro) (fun _ => rfl) (fun v w vs h => by cases v <;> rfl)
instance : U1 pList1 := U1.one (fun p v h => by
  have e := useq p h v
  simp only [pList1]
  rw [e]
  cases seqOf v h with
  | none => exact True.intro
  | some xs => exact RR.ok (by rw [ulen]; exact (up_obj _ _).symm) (by rw [uapp]; rfl)) (fun _ => rfl) (fun v w vs h => by cases v <;> rfl)
instance : U1 pTuple1 := U1.one (fun p v h => by
  have e := useq p h v
  simp only [pTuple1]
  rw [e]
  cases seqOf v h with
  | none => exact True.intro
  | some xs => exact RR.ok (up_tup _ _).symm rfl) (fun _ => rfl) (fun v w vs h => by cases v <;> rfl)
theorem utyOf (p h : IH) (v : PV) : tyOf (uV p v) (upH p h) = tyOf v h := by
  cases v <;> simp only [uV, up_non, up_bl, up_int, up_str, up_tup, up_fls, up_glo, up_ty, up_key, up_obj, tyOf, uget]
  rename_i n
  cases h[n]? with
  | none => rfl
  | some o => cases o <;> rfl
instance (cs : List Str) : U1 (pIsi cs) := U1.two (fun p v w h => by
  have e := utyOf p h v
  simp only [pIsi]
  rw [e]
  cases tyOf v h with
  | none => exact True.intro
  | some t =>
    cases t <;> cases w <;> try exact True.intro
    all_goals
      simp only [uV, up_ty, up_glo]
      split
      · exact RR.ok (up_bl _ _).symm rfl
      · exact True.intro) (fun _ => rfl) (fun v h => rfl) (fun u v w vs h => rfl)
theorem ulook (d : Nat) (f : Str) : ∀ fs : List (Str × PV), (fs.map fun q => (q.1, upV d q.2)).lookup f = (fs.lookup f).map (upV d)
  | [] => rfl
  | (g, v) :: fs => by
    simp only [List.map_cons, List.lookup_cons]
    cases f == g with
    | true => rfl
    | false => exact ulook d f fs
instance (c f : Str) (A : EX) [a : UE A] : UE (eFld c f A) := ⟨fun p r h => (a.go p r h).bind fun v h1 => by
  cases v <;> try exact True.intro
  rename_i n
  simp only [uV, up_obj, uget]
  cases h1[n]? with
  | none => exact True.intro
  | some o =>
    cases o <;> try exact True.intro
    simp only [Option.map, upM]
    split
    · rw [ulook]; exact RR.opt
    · exact True.intro⟩
theorem uput (d : Nat) (f : Str) (v : PV) : ∀ fs : List (Str × PV), (putP f v fs).map (fun q => (q.1, upV d q.2)) = putP f (upV d v) (fs.map fun q => (q.1, upV d q.2))
  | [] => rfl
  | (g, y) :: fs => by
    simp only [putP, List.map_cons]
    split
    · rfl
    · rw [List.map_cons, uput d f v fs]
theorem RR.unit {p : IH} {a b : Res Unit} (e : RR p id a b) : RR p id a b := e
instance (c f : Str) (A V : EX) [a : UE A] [b : UE V] : US (sFldX c f A V) := ⟨fun p r h => by
  unfold sFldX
  refine RR.toS (u := id) ((b.go p r h).bind fun v h1 => (a.go p r h1).bind fun x h2 => ?_) fun _ h1 => rfl
  cases x <;> try exact True.intro
  rename_i n
  simp only [uV, up_obj, uget]
  cases h2[n]? with
  | none => exact True.intro
  | some o =>
    cases o <;> try exact True.intro
    simp only [Option.map, upM, List.length_map]
    split
    · exact RR.ok rfl (by rw [uset]; simp only [upM, uput])
    · exact True.intro⟩
instance (c m : Str) (F : List PV → IH → Res PV) (A : EX) (L : AX) [f : U1 F] [a : UE A] [l : UA L] : UE (eMeth c m F A L) := ⟨fun p r h => (a.go p r h).bind fun v h1 => by
  cases v <;> try exact True.intro
  rename_i n
  simp only [uV, up_obj, uget]
  cases h1[n]? with
  | none => exact True.intro
  | some o =>
    cases o <;> try exact True.intro
    rename_i c' fs
    simp only [Option.map, upM, ulook]
    by_cases q : c' = c ∧ fs.lookup m = none
    · rw [if_pos q, if_pos (by rw [q.2]; exact ⟨q.1, rfl⟩)]
      refine (l.go p r h1).bind fun vs h2 => ?_
      have := f.go p (.obj n :: vs) h2
      rw [List.map_cons] at this
      simp only [uV, up_obj] at this
      exact this
    · rw [if_neg q]; exact True.intro⟩
theorem RR.noX {p : IH} {a b : Res PV} (e : RR p (uV p) a b) : RR p (uV p) (WR.noX a) (WR.noX b) := by
  cases a with
  | ok v h => rw [show b = _ from e]; exact rfl
  | ex x h => exact True.intro
  | bad => exact True.intro
instance (c : Str) (F : List PV → IH → Res PV) (A : EX) [f : U1 F] [a : UE A] : UE (eProp c F A) := ⟨fun p r h => (a.go p r h).bind fun v h1 => by
  cases v <;> try exact True.intro
  rename_i n
  simp only [uV, up_obj, uget]
  cases h1[n]? with
  | none => exact True.intro
  | some o =>
    cases o <;> try exact True.intro
    simp only [Option.map, upM]
    split
    · have := f.go p [.obj n] h1
      simp only [List.map_cons, List.map_nil, uV, up_obj] at this
      exact RR.noX this
    · exact True.intro⟩
instance (c : Str) (F : List PV → IH → Res PV) [f : U1 F] : U1 (mkO c F) := ⟨fun p vs h => by
  unfold mkO
  have := f.go p (.obj h.length :: vs) (h ++ [.ins c []])
  simp only [List.map_cons, uV, up_obj, uapp] at this
  rw [ulen]
  refine RR.bind this fun v h1 => ?_
  cases v <;> try exact True.intro
  simp only [uV, up_non]
  exact RR.ok (up_obj _ _).symm rfl⟩
instance (c : Str) (F : List PV → IH → Res PV) [f : U1 F] : U1 (pLenO c F) := U1.one (fun p v h => by
  cases v <;> try exact True.intro
  rename_i n
  have g := f.go p [.obj n] h
  simp only [List.map_cons, List.map_nil, uV, up_obj] at g
  simp only [pLenO, uV, up_obj, uget]
  cases h[n]? with
  | none => exact True.intro
  | some o =>
    cases o <;> try exact True.intro
    simp only [Option.map, upM]
    split
    · cases z : F [.obj n] h with
      | ok w h1 =>
        rw [z] at g
        rw [show F [.obj (n + p.length)] (upH p h) = _ from g]
        cases w <;> try exact True.intro
        simp only [uV, up_int]
        split
        · exact RR.ok (up_int _ _).symm rfl
        · exact True.intro
      | ex x h1 => exact True.intro
      | bad => exact True.intro
    · exact True.intro) (fun _ => rfl) (fun v w vs h => by cases v <;> rfl)
theorem utup (c : Str) (p h : IH) (y : PV) : isTupOr c (uV p y) (upH p h) = isTupOr c y h := by
  cases y <;> simp only [uV, up_non, up_bl, up_int, up_str, up_tup, up_fls, up_glo, up_ty, up_key, up_obj, isTupOr, uget]
  rename_i n
  cases h[n]? with
  | none => rfl
  | some o => cases o <;> rfl
instance (c : Str) (F : List PV → IH → Res PV) [f : U1 F] : U2 (pEqO c F) := ⟨fun p x y h => by
  cases x <;> try exact True.intro
  rename_i n
  have g := f.go p [.obj n, y] h
  simp only [List.map_cons, List.map_nil] at g
  rw [show uV p (.obj n) = .obj (n + p.length) from up_obj _ _] at g ⊢
  unfold pEqO
  simp only [uget, utup]
  cases h[n]? with
  | none => exact True.intro
  | some o =>
    cases o <;> try exact True.intro
    simp only [Option.map, upM]
    split
    · cases z : F [.obj n, y] h with
      | ok w h1 =>
        rw [z] at g
        rw [show F [.obj (n + p.length), uV p y] (upH p h) = _ from g]
        cases w <;> try exact True.intro
        simp only [uV, up_bl]
        exact RR.ok (up_bl _ _).symm rfl
      | ex x h1 => exact True.intro
      | bad => exact True.intro
    · exact True.intro⟩
instance (A : EX) (L : AX) [a : UE A] [l : UA L] : UE (eAppend A L) := ⟨fun p r h => (a.go p r h).bind fun v h1 => by
  cases v <;> try exact True.intro
  rename_i n
  simp only [uV, up_obj, uget]
  cases h1[n]? with
  | none => exact True.intro
  | some o =>
    cases o <;> try exact True.intro
    simp only [Option.map, upM]
    refine (l.go p r h1).bind fun vs h2 => ?_
    match vs with
    | [] => exact True.intro
    | v :: w :: vs => exact True.intro
    | [v] =>
      simp only [List.map_cons, List.map_nil, uget]
      cases h2[n]? with
      | none => exact True.intro
      | some o2 =>
        cases o2 <;> try exact True.intro
        simp only [Option.map, upM, List.length_map]
        split
        · exact RR.ok (up_non _).symm (by rw [uset]; simp only [upM, List.map_append, List.map_cons, List.map_nil])
        · exact True.intro⟩
instance (A : EX) (L : AX) [a : UE A] [l : UA L] : UE (eInsert A L) := ⟨fun p r h => (a.go p r h).bind fun v h1 => by
  cases v <;> try exact True.intro
  rename_i n
  simp only [uV, up_obj, uget]
  cases h1[n]? with
  | none => exact True.intro
  | some o =>
    cases o <;> try exact True.intro
    simp only [Option.map, upM]
    refine (l.go p r h1).bind fun vs h2 => ?_
    match vs with
    | [] => exact True.intro
    | [v] => exact (by cases v <;> exact True.intro)
    | u :: v :: w :: vs => exact (by cases u <;> exact True.intro)
    | [u, v] =>
      cases u <;> try exact True.intro
      simp only [List.map_cons, List.map_nil, uget, uV, up_int]
      cases h2[n]? with
      | none => exact True.intro
      | some o2 =>
        cases o2 <;> try exact True.intro
        simp only [Option.map, upM, List.length_map]
        split
        · exact RR.ok (up_non _).symm (by rw [uset]; simp only [upM, List.map_append, List.map_cons, List.map_nil, List.map_take, List.map_drop])
        · exact True.intro⟩
instance (A : EX) [a : UE A] : UE (eReverse A) := ⟨fun p r h => (a.go p r h).bind fun v h1 => by
  cases v <;> try exact True.intro
  rename_i n
  simp only [uV, up_obj, uget]
  cases h1[n]? with
  | none => exact True.intro
  | some o =>
    cases o <;> try exact True.intro
    simp only [Option.map, upM]
    exact RR.ok (up_non _).symm (by rw [uset]; simp only [upM, List.map_reverse])⟩
instance (O I V : EX) [a : UE O] [b : UE I] [c : UE V] : US (sSetIx O I V) := ⟨fun p r h => by
  unfold sSetIx
  refine RR.toS (u := id) ((c.go p r h).bind fun v h1 => (a.go p r h1).bind fun o h2 => (b.go p r h2).bind fun i h3 => ?_) fun _ h1 => rfl
  cases o <;> cases i <;> try exact True.intro
  rename_i n k
  simp only [uV, up_obj, up_int, uget]
  cases h3[n]? with
  | none => exact True.intro
  | some o =>
    cases o <;> try exact True.intro
    rename_i xs
    simp only [Option.map, upM, List.length_map]
    cases ixN xs.length k with
    | none => exact True.intro
    | some j => exact RR.ok rfl (by rw [uset]; simp only [upM, List.map_set])⟩
end WR

namespace WR
open PySem PySem.Spec PyProof.Rows L2
/-! keys and dicts -/
theorem ukeyOf (d : Nat) : ∀ xs : List PV, keyOf (xs.map (upV d)) = keyOf xs
  | [] => rfl
  | x :: xs => by
    cases x <;> simp only [List.map_cons, up_non, up_bl, up_int, up_str, up_tup, up_fls, up_glo, up_ty, up_key, up_obj, keyOf]
    rw [ukeyOf d xs]
theorem unrm (d : Nat) (v : PV) : nrm (upV d v) = upV d (nrm v) := by
  cases v <;> simp only [up_non, up_bl, up_int, up_str, up_tup, up_fls, up_glo, up_ty, up_key, up_obj, nrm]
  rw [List.map_map]
  congr 1
instance (A : EX) [a : UE A] : UE (eF A) := ⟨fun p r h => (a.go p r h).bind fun v h1 => RR.ok (unrm _ _) rfl⟩
instance (L : AX) [a : UA L] : UE (eKey L) := ⟨fun p r h => (a.go p r h).bind fun vs h1 => by
  rw [ukeyOf]
  cases keyOf vs with
  | none => exact True.intro
  | some ks =>
    simp only
    split
    · exact RR.ok (up_key _ _).symm rfl
    · exact True.intro⟩
instance : U2 pAddK := ⟨fun p x y h => by
  cases x <;> cases y <;> try exact True.intro
  simp only [uV, up_key, pAddK]
  split
  · exact RR.ok (up_key _ _).symm rfl
  · exact True.intro⟩
instance : U2 pMulK := ⟨fun p x y h => by
  cases x with
  | key ks =>
    cases ks with
    | nil => cases y <;> exact True.intro
    | cons a r =>
      cases y <;> try exact True.intro
      simp only [uV, up_key, up_int, pMulK]
      split
      · exact RR.ok (up_key _ _).symm rfl
      · split
        · exact RR.ok (up_key _ _).symm rfl
        · exact True.intro
  | _ => cases y <;> exact True.intro⟩
instance (A : EX) (l o : OX) [a : UE A] [b : UO l] [c : UO o] : UE (eSlK A l o) := ⟨fun p r h => (a.go p r h).bind fun v h1 => (b.go p r h1).bind fun lo h2 => (c.go p r h2).bind fun hi h3 => by
  cases v <;> try exact True.intro
  simp only [uV, up_key, id, pSlK]
  exact RR.ok (up_key _ _).symm rfl⟩
instance : UE eDNew := ⟨fun p r h => RR.ok (by rw [ulen]; exact (up_obj _ _).symm) (by rw [uapp]; rfl)⟩
theorem udGet (d : Nat) (kvs : List (List Int × PV)) (k : List Int) : dGet (kvs.map fun q => (q.1, upV d q.2)) k = (dGet kvs k).map (upV d) := by
  unfold dGet
  induction kvs with
  | nil => rfl
  | cons q t ih =>
    simp only [List.map_cons, List.find?_cons]
    cases decide (q.1 = k) with
    | true => rfl
    | false => exact ih
theorem udPut (d : Nat) (kvs : List (List Int × PV)) (k : List Int) (v : PV) : dPut (kvs.map fun q => (q.1, upV d q.2)) k (upV d v) = (dPut kvs k v).map fun q => (q.1, upV d q.2) := by
  unfold dPut
  rw [List.any_map]
  have e : ((fun q : List Int × PV => decide (q.1 = k)) ∘ fun q : List Int × PV => (q.1, upV d q.2)) = fun q : List Int × PV => decide (q.1 = k) := rfl
  rw [e]
  split
  · rw [List.map_map, List.map_map]
    apply List.map_congr_left
    intro q _
    simp only [Function.comp]
    split <;> rfl
  · rw [List.map_append]; rfl
instance : U2 pDGet := ⟨fun p x y h => by
  cases x <;> cases y <;> try exact True.intro
  rename_i n k
  simp only [uV, up_obj, up_key, pDGet, uget]
  cases h[n]? with
  | none => exact True.intro
  | some o =>
    cases o <;> try exact True.intro
    simp only [Option.map, upM, udGet]; exact RR.opt⟩
instance : U2 pDIn := ⟨fun p x y h => by
  cases y <;> cases x <;> try exact True.intro
  rename_i n k
  simp only [uV, up_obj, up_key, pDIn, uget]
  cases h[n]? with
  | none => exact True.intro
  | some o =>
    cases o <;> try exact True.intro
    simp only [Option.map_some, upM, udGet, Option.isSome_map]; exact RR.ok (up_bl _ _).symm rfl⟩
instance : U2 pDNotIn := ⟨fun p x y h => by
  cases y <;> cases x <;> try exact True.intro
  rename_i n k
  simp only [uV, up_obj, up_key, pDNotIn, uget]
  cases h[n]? with
  | none => exact True.intro
  | some o =>
    cases o <;> try exact True.intro
    simp only [Option.map_some, upM, udGet, Option.isSome_map]; exact RR.ok (up_bl _ _).symm rfl⟩
instance (D K V : EX) [a : UE D] [b : UE K] [c : UE V] : US (sDPutX D K V) := ⟨fun p r h => by
  unfold sDPutX
  refine (c.go p r h).toS fun v h1 => (a.go p r h1).toS fun d h2 => (b.go p r h2).toS fun k h3 => ?_
  cases d <;> cases k <;> try exact True.intro
  rename_i n k
  simp only [uV, up_obj, up_key, uget]
  cases h3[n]? with
  | none => exact True.intro
  | some o =>
    cases o <;> try exact True.intro
    simp only [Option.map, upM, List.length_map]
    split
    · show _ = _
      rw [uset]; simp only [upM, udPut]
    · exact True.intro⟩
instance : U1 pSum := U1.one (fun p v h => by
  cases v <;> try exact True.intro
  rename_i n
  simp only [uV, up_obj, pSum, uget]
  cases h[n]? with
  | none => exact True.intro
  | some o =>
    cases o <;> try exact True.intro
    rename_i xs
    simp only [Option.map, upM, ukeyOf]
    cases keyOf xs with
    | none => exact True.intro
    | some ks => exact RR.ok (up_int _ _).symm rfl) (fun _ => rfl) (fun v w vs h => by cases v <;> rfl)
/-! texts -/
instance : U1 pStr1 := U1.one (fun p v h => by
  cases v <;> try exact True.intro
  simp only [uV, up_int, pStr1]
  split
  · exact RR.ok (up_str _ _).symm rfl
  · exact True.intro) (fun _ => rfl) (fun v w vs h => by cases v <;> rfl)
instance : U1 pIntS := U1.one (fun p v h => by
  cases v <;> try exact True.intro
  rename_i a
  simp only [uV, up_str, pIntS]
  split
  · cases PySem.intText? a with
    | none => exact True.intro
    | some i => exact RR.ok (up_int _ _).symm rfl
  · exact True.intro) (fun _ => rfl) (fun v w vs h => by cases v <;> rfl)
instance (A : EX) [a : UE A] : UE (eFmt A) := ⟨fun p r h => (a.go p r h).bind fun v h1 => by
  cases v <;> try exact True.intro
  · simp only [uV, up_int]
    split
    · exact RR.ok (up_str _ _).symm rfl
    · exact True.intro
  · simp only [uV, up_str]
    split
    · exact RR.ok (up_str _ _).symm rfl
    · exact True.intro⟩
class UEs (L : List EX) : Prop where
  go : ∀ A ∈ L, UE A
instance : UEs [] := ⟨fun A h => nomatch h⟩
instance (A : EX) (L : List EX) [a : UE A] [l : UEs L] : UEs (A :: L) := ⟨fun B h => by
  rcases List.mem_cons.mp h with rfl | h
  · exact a
  · exact l.go B h⟩
theorem ujs (p : IH) (r : Fm) : ∀ (L : List EX), (∀ A ∈ L, UE A) → ∀ (acc : Str) (h : IH), RR p (uV p) (eJs L acc r h) (eJs L acc (uF p r) (upH p h))
  | [], _, acc, h => RR.ok (up_str _ _).symm rfl
  | A :: L, hL, acc, h => ((hL A (by simp)).go p r h).bind fun v h1 => by
    cases v <;> try exact True.intro
    simp only [uV, up_str]
    split
    · exact ujs p r L (fun B hB => hL B (by simp [hB])) _ h1
    · exact True.intro
instance (L : List EX) [l : UEs L] : UE (eJoined L) := ⟨fun p r h => ujs p r L l.go _ h⟩
theorem ustrs (d : Nat) : ∀ xs : List PV, strsOf (xs.map (upV d)) = strsOf xs
  | [] => rfl
  | x :: xs => by
    cases x <;> simp only [List.map_cons, up_non, up_bl, up_int, up_str, up_tup, up_fls, up_glo, up_ty, up_key, up_obj, strsOf]
    rw [ustrs d xs]
theorem ustrL (d : Nat) (l : List Str) : (l.map PV.str).map (upV d) = l.map PV.str := by
  rw [List.map_map]
  apply List.map_congr_left
  intro a _
  simp
instance (A B : EX) [a : UE A] [b : UE B] : UE (eSplit A B) := ⟨fun p r h => (a.go p r h).bind fun v h1 => by
  cases v <;> try exact True.intro
  simp only [uV, up_str]
  refine (b.go p r h1).bind fun w h2 => ?_
  cases w <;> try exact True.intro
  simp only [uV, up_str]
  split
  · exact RR.ok (by rw [ulen]; exact (up_obj _ _).symm) (by rw [uapp]; simp only [List.map_cons, List.map_nil, upM, ustrL])
  · exact True.intro⟩
instance (A B : EX) [a : UE A] [b : UE B] : UE (eJoin A B) := ⟨fun p r h => (a.go p r h).bind fun v h1 => by
  cases v <;> try exact True.intro
  simp only [uV, up_str]
  refine (b.go p r h1).bind fun w h2 => ?_
  rw [useq]
  cases seqOf w h2 with
  | none => exact True.intro
  | some ys =>
    simp only [Option.map, ustrs]
    cases strsOf ys with
    | none => exact True.intro
    | some zs =>
      simp only
      split
      · exact RR.ok (up_str _ _).symm rfl
      · exact True.intro⟩
instance (A : EX) [a : UE A] : UE (eRstrip A) := ⟨fun p r h => (a.go p r h).bind fun v h1 => by
  cases v <;> try exact True.intro
  simp only [uV, up_str]
  split
  · exact RR.ok (up_str _ _).symm rfl
  · exact True.intro⟩
instance : U2 pInT := ⟨fun p x y h => by
  cases x <;> cases y <;> try exact True.intro
  rename_i x z
  simp only [uV, up_str, pInT]
  split
  · exact RR.ok (up_bl _ _).symm rfl
  · exact True.intro⟩
instance : U2 pNotInT := ⟨fun p x y h => by
  cases x <;> cases y <;> try exact True.intro
  rename_i x z
  simp only [uV, up_str, pNotInT]
  split
  · exact RR.ok (up_bl _ _).symm rfl
  · exact True.intro⟩
/-! what is walked -/
theorem URel.same {p : IH} {it : ItF} (h : ∀ i g, it i (upH p g) = (it i g).map (Option.map (uV p))) : URel p it it := fun i g => by
  have := h i g
  cases q : it i g with
  | none => exact True.intro
  | some o => rw [q] at this; exact this
def UIs {p : IH} (a b : Res ItF) : Prop := match a with
  | .ok it h1 => ∃ it', b = .ok it' (upH p h1) ∧ URel p it it'
  | .ex x h1 => b = .ex (upX p x) (upH p h1)
  | .bad => True
theorem UIs.bind {α : Type} {p : IH} {u : α → α} {a b : Res α} {f g : α → IH → Res ItF} (e : RR p u a b) (k : ∀ v h, UIs (p := p) (f v h) (g (u v) (upH p h))) : UIs (p := p) (a.bind f) (b.bind g) := by
  cases a with
  | ok v h => rw [show b = _ from e]; exact k v h
  | ex x h => rw [show b = _ from e]; exact rfl
  | bad => exact True.intro
theorem urel_list (p : IH) (xs : List PV) : URel p (itList xs) (itList (xs.map (uV p))) := fun i g => by
  simp only [itList, List.getElem?_map]
theorem urel_obj (p : IH) (n : Nat) : URel p (itObj n) (itObj (n + p.length)) := fun i g => by
  simp only [itObj, uget]
  cases g[n]? with
  | none => exact True.intro
  | some o =>
    cases o <;> try exact True.intro
    simp only [Option.map, upM, List.getElem?_map]
instance (A : EX) [a : UE A] : UI (eIter A) := ⟨fun p r h => UIs.bind (a.go p r h) fun v h1 => by
  cases v <;> try exact True.intro
  · simp only [uV, up_tup]; exact ⟨_, rfl, urel_list p _⟩
  · simp only [uV, up_fls]; exact ⟨_, rfl, urel_list p _⟩
  · rename_i n
    simp only [uV, up_obj, uget]
    cases h1[n]? with
    | none => exact True.intro
    | some o =>
      cases o <;> try exact True.intro
      exact ⟨_, rfl, urel_obj p n⟩⟩
theorem urel_range (p : IH) (lo : Int) (n : Nat) : URel p (itRange lo n) (itRange lo n) := fun i g => by
  simp only [itRange]
  split <;> simp
instance (L : AX) [a : UA L] : UI (eRange1 L) := ⟨fun p r h => UIs.bind (a.go p r h) fun vs h1 => by
  match vs with
  | [] => exact True.intro
  | v :: w :: vs => exact (by cases v <;> exact True.intro)
  | [v] =>
    cases v <;> try exact True.intro
    simp only [List.map_cons, List.map_nil, uV, up_int]
    split
    · exact ⟨_, rfl, urel_range p _ _⟩
    · exact True.intro⟩
instance (L : AX) [a : UA L] : UI (eRange2 L) := ⟨fun p r h => UIs.bind (a.go p r h) fun vs h1 => by
  match vs with
  | [] => exact True.intro
  | [v] => exact (by cases v <;> exact True.intro)
  | u :: v :: w :: vs => exact (by cases u <;> cases v <;> exact True.intro)
  | [v, w] =>
    cases v <;> cases w <;> try exact True.intro
    simp only [List.map_cons, List.map_nil, uV, up_int]
    split
    · exact ⟨_, rfl, urel_range p _ _⟩
    · exact True.intro⟩
theorem urel_enum (p : IH) (v : PV) : URel p (itEnum v) (itEnum (uV p v)) := fun i g => by
  simp only [itEnum, useq]
  cases seqOf v g with
  | none => exact True.intro
  | some xs =>
    simp only [Option.map, List.getElem?_map, List.length_map]
    cases xs[i]? with
    | none =>
      simp only [Option.map_none]
      by_cases q : xs.length = i
      · simp [q]
      · simp [q]
    | some x => simp
instance (L : AX) [a : UA L] : UI (eEnum L) := ⟨fun p r h => UIs.bind (a.go p r h) fun vs h1 => by
  match vs with
  | [] => exact True.intro
  | v :: w :: vs => exact True.intro
  | [v] =>
    simp only [List.map_cons, List.map_nil, useq]
    cases seqOf v h1 with
    | none => exact True.intro
    | some xs => exact ⟨_, rfl, urel_enum p v⟩⟩
theorem urel_zip (p : IH) (v w : PV) : URel p (itZip v w) (itZip (uV p v) (uV p w)) := fun i g => by
  simp only [itZip, useq]
  cases seqOf v g with
  | none => exact True.intro
  | some xs =>
    cases seqOf w g with
    | none => exact True.intro
    | some ys =>
      simp only [Option.map, List.getElem?_map, List.length_map]
      cases xs[i]? with
      | none =>
        simp only [Option.map_none]
        by_cases q : i ≤ xs.length ∧ i ≤ ys.length
        · simp [q]
        · simp [q]
      | some x =>
        cases ys[i]? with
        | none =>
          simp only [Option.map_some, Option.map_none]
          by_cases q : i ≤ xs.length ∧ i ≤ ys.length
          · simp [q]
          · simp [q]
        | some y => simp
instance (L : AX) [a : UA L] : UI (eZip L) := ⟨fun p r h => UIs.bind (a.go p r h) fun vs h1 => by
  match vs with
  | [] => exact True.intro
  | [v] => exact True.intro
  | u :: v :: w :: vs => exact True.intro
  | [v, w] =>
    simp only [List.map_cons, List.map_nil, useq]
    cases seqOf v h1 with
    | none => exact True.intro
    | some xs =>
      cases seqOf w h1 with
      | none => exact True.intro
      | some ys => exact ⟨_, rfl, urel_zip p v w⟩⟩
theorem urel_str (p : IH) (x : Str) : URel p (itStr x) (itStr x) := fun i g => by
  simp only [itStr]
  cases x.cps.toList[i]? <;> simp
instance (A : EX) [a : UE A] : UI (eChars A) := ⟨fun p r h => UIs.bind (a.go p r h) fun v h1 => by
  cases v <;> try exact True.intro
  simp only [uV, up_str]
  exact ⟨_, rfl, urel_str p _⟩⟩
theorem urel_rev (p : IH) (m n : Nat) : URel p (itRev m n) (itRev (m + p.length) n) := fun i g => by
  simp only [itRev, uget]
  cases g[m]? with
  | none => exact True.intro
  | some o =>
    cases o <;> try exact True.intro
    rename_i xs
    simp only [Option.map, upM, List.length_map, List.getElem?_map]
    by_cases q : xs.length = n
    · simp only [if_pos q]
      by_cases z : i < n
      · simp only [if_pos z]
        cases xs[n - 1 - i]? with
        | none => exact True.intro
        | some v => simp
      · simp only [if_neg z]
        try simp
    · simp only [if_neg q]
instance (L : AX) [a : UA L] : UI (eRev L) := ⟨fun p r h => UIs.bind (a.go p r h) fun vs h1 => by
  match vs with
  | [] => exact True.intro
  | v :: w :: vs => exact (by cases v <;> exact True.intro)
  | [v] =>
    cases v <;> try exact True.intro
    rename_i m
    simp only [List.map_cons, List.map_nil, uV, up_obj, uget]
    cases h1[m]? with
    | none => exact True.intro
    | some o =>
      cases o <;> try exact True.intro
      simp only [Option.map, upM, List.length_map]
      exact ⟨_, rfl, urel_rev p _ _⟩⟩
/-! targets -/
theorem uFset (p : IH) (r : Fm) (i : Nat) (v : Option PV) : uF p (r.set i v) = (uF p r).set i (v.map (uV p)) := by
  unfold uF; rw [List.map_set]
instance (i : Nat) : UG (gVar i) := ⟨fun p v r => by
  simp only [gVar]
  rw [uFset]; rfl⟩
theorem usetAll (p : IH) : ∀ (is : List Nat) (vs : List PV) (r : Fm), setAll is (vs.map (uV p)) (uF p r) = (setAll is vs r).map (uF p)
  | [], [], r => rfl
  | i :: is, v :: vs, r => by
    simp only [List.map_cons, setAll]
    have := usetAll p is vs (r.set i (some v))
    rw [uFset] at this
    exact this
  | [], _ :: _, _ => rfl
  | _ :: _, [], _ => rfl
instance (is : List Nat) : UG (gTupF is) := ⟨fun p v r => by
  cases v <;> try exact True.intro
  simp only [gTupF, uV, up_tup]
  rw [usetAll]
  cases setAll is _ r with
  | none => exact True.intro
  | some r1 => exact rfl⟩
/-! statements -/
instance : US sNil := ⟨fun p r h => rfl⟩
instance : US sBad := ⟨fun p r h => True.intro⟩
instance : US sBreak := ⟨fun p r h => rfl⟩
instance : US sCont := ⟨fun p r h => rfl⟩
instance (B C : SX) [a : US B] [b : US C] : US (sSeq B C) := ⟨fun p r h => by
  have q := a.go p r h
  unfold sSeq
  cases z : B r h with
  | nx r1 h1 => rw [z] at q; rw [show B (uF p r) (upH p h) = _ from q]; exact b.go p r1 h1
  | rt v h1 => rw [z] at q; rw [show B (uF p r) (upH p h) = _ from q]; exact rfl
  | bk r1 h1 => rw [z] at q; rw [show B (uF p r) (upH p h) = _ from q]; exact rfl
  | ct r1 h1 => rw [z] at q; rw [show B (uF p r) (upH p h) = _ from q]; exact rfl
  | ex x r1 h1 => rw [z] at q; rw [show B (uF p r) (upH p h) = _ from q]; exact rfl
  | bad => exact True.intro⟩
theorem RS'.nx {p : IH} {r : Fm} {h : IH} {r2 : Fm} {h2 : IH} (e1 : r2 = uF p r) (e2 : h2 = upH p h) : RS' p (.nx r h) (.nx r2 h2) := by subst e1 e2; exact rfl
instance (i : Nat) (A : EX) [a : UE A] : US (sSet i A) := ⟨fun p r h => (a.go p r h).toS fun v h1 => RS'.nx (by rw [uFset]; rfl) rfl⟩
instance (i j : Nat) (L : AX) [a : UA L] : US (sPar i j L) := ⟨fun p r h => (a.go p r h).toS fun vs h1 => by
  match vs with
  | [] => exact True.intro
  | [v] => exact True.intro
  | u :: v :: w :: vs => exact True.intro
  | [v, w] => exact RS'.nx (by rw [uFset, uFset]; rfl) rfl⟩
instance (i j l : Nat) (L : AX) [a : UA L] : US (sPar3 i j l L) := ⟨fun p r h => (a.go p r h).toS fun vs h1 => by
  match vs with
  | [] => exact True.intro
  | [v] => exact True.intro
  | [v, w] => exact True.intro
  | t :: u :: v :: w :: vs => exact True.intro
  | [u, v, w] => exact RS'.nx (by rw [uFset, uFset, uFset]; rfl) rfl⟩
instance (A : EX) [a : UE A] : US (sExpr A) := ⟨fun p r h => (a.go p r h).toS fun v h1 => rfl⟩
instance (A : EX) [a : UE A] : US (sRet A) := ⟨fun p r h => (a.go p r h).toS fun v h1 => rfl⟩
instance (c : TX) (B C : SX) [a : UT c] [b : US B] [d : US C] : US (sIf c B C) := ⟨fun p r h => (a.go p r h).toS fun v h1 => by
  cases v with
  | true => exact b.go p r h1
  | false => exact d.go p r h1⟩
instance (g : TgF) (A : EX) [q : UG g] [a : UE A] : US (sAsgT g A) := ⟨fun p r h => (a.go p r h).toS fun v h1 => by
  have z := q.go p v r
  cases y : g v r with
  | none => exact True.intro
  | some r1 =>
    rw [y] at z
    simp only [z]
    exact rfl⟩
instance (i : Nat) (A : EX) [a : UE A] : US (sAugAdd i A) := ⟨fun p r h => by
  unfold sAugAdd
  rw [show (uF p r)[i]? = (r[i]?).map (Option.map (uV p)) from List.getElem?_map]
  cases r[i]? with
  | none => exact True.intro
  | some o =>
    cases o with
    | none => exact True.intro
    | some x =>
      cases x <;> try exact True.intro
      simp only [Option.map, uV, up_int]
      refine (a.go p r h).toS fun v h1 => ?_
      cases v <;> try exact True.intro
      simp only [uV, up_int]
      exact RS'.nx (by rw [uFset]; simp) rfl⟩
theorem uwhile (c : TX) (B : SX) [a : UT c] [b : US B] (p : IH) : ∀ (n : Nat) (r : Fm) (h : IH), RS' p (whileL c B n r h) (whileL c B n (uF p r) (upH p h))
  | 0, _, _ => True.intro
  | n + 1, r, h => (a.go p r h).toS fun v h1 => by
    cases v with
    | false => exact rfl
    | true =>
      simp only [id, if_true]
      have q := b.go p r h1
      cases z : B r h1 with
      | nx r1 h1 => rw [z] at q; rw [show B (uF p r) _ = _ from q]; exact uwhile c B p n r1 h1
      | rt v h1 => rw [z] at q; rw [show B (uF p r) _ = _ from q]; exact rfl
      | bk r1 h1 => rw [z] at q; rw [show B (uF p r) _ = _ from q]; exact rfl
      | ct r1 h1 => rw [z] at q; rw [show B (uF p r) _ = _ from q]; exact uwhile c B p n r1 h1
      | ex x r1 h1 => rw [z] at q; rw [show B (uF p r) _ = _ from q]; exact rfl
      | bad => exact True.intro
instance (c : TX) (B : SX) [a : UT c] [b : US B] : US (sWhile c B) := ⟨fun p r h => uwhile c B p LIM r h⟩
theorem ufor {it it' : ItF} (g : TgF) (B : SX) [a : UG g] [b : US B] (p : IH) (hi : URel p it it') : ∀ (n i : Nat) (r : Fm) (h : IH), RS' p (forL it g B n i r h) (forL it' g B n i (uF p r) (upH p h))
  | 0, _, _, _ => True.intro
  | n + 1, i, r, h => by
    unfold forL
    have q := hi i h
    cases z : it i h with
    | none => exact True.intro
    | some o =>
      rw [z] at q
      rw [show it' i (upH p h) = _ from q]
      cases o with
      | none => exact rfl
      | some v =>
        have y := a.go p v r
        cases x : g v r with
        | none => simp only [x]; exact True.intro
        | some r1 =>
          rw [x] at y
          simp only [Option.map, x]
          rw [show g (uV p v) (uF p r) = _ from y]
          simp only
          have w := b.go p r1 h
          cases t : B r1 h with
          | nx r2 h2 => rw [t] at w; rw [show B (uF p r1) _ = _ from w]; exact ufor g B p hi n (i + 1) r2 h2
          | rt v h2 => rw [t] at w; rw [show B (uF p r1) _ = _ from w]; exact rfl
          | bk r2 h2 => rw [t] at w; rw [show B (uF p r1) _ = _ from w]; exact rfl
          | ct r2 h2 => rw [t] at w; rw [show B (uF p r1) _ = _ from w]; exact ufor g B p hi n (i + 1) r2 h2
          | ex x r2 h2 => rw [t] at w; rw [show B (uF p r1) _ = _ from w]; exact rfl
          | bad => exact True.intro
instance (I : Fm → IH → Res ItF) (g : TgF) (B : SX) [i : UI I] [a : UG g] [b : US B] : US (sFor I g B) := ⟨fun p r h => by
  have q := i.go p r h
  unfold sFor
  cases z : I r h with
  | bad => exact True.intro
  | ex x h1 => rw [z] at q; rw [show I (uF p r) _ = _ from q]; exact rfl
  | ok it h1 =>
    rw [z] at q
    obtain ⟨it', e, hr⟩ := q
    rw [e]
    exact ufor g B p hr LIM 0 r h1⟩
/-! comprehensions -/
theorem uwipe (p : IH) : ∀ (vs : List Nat) (r : Fm), wipeF (uF p r) vs = uF p (wipeF r vs)
  | [], r => rfl
  | v :: vs, r => by simp only [wipeF]; rw [uwipe p vs r, uFset]; rfl
theorem ulc {it it' : ItF} (g : TgF) (c : TX) (A : EX) [a : UG g] [b : UT c] [d : UE A] (p : IH) (hi : URel p it it') (r0 : Fm) (D : Nat) : ∀ (n i : Nat) (h : IH), RR p id (lcL it g c A r0 D n i h) (lcL it' g c A (uF p r0) (D + p.length) n i (upH p h))
  | 0, _, _ => True.intro
  | n + 1, i, h => by
    unfold lcL
    have q := hi i h
    cases z : it i h with
    | none => exact True.intro
    | some o =>
      rw [z] at q
      rw [show it' i (upH p h) = _ from q]
      cases o with
      | none => exact rfl
      | some v =>
        have y := a.go p v r0
        cases x : g v r0 with
        | none => simp only [x]; exact True.intro
        | some r1 =>
          rw [x] at y
          simp only [Option.map, x]
          rw [show g (uV p v) (uF p r0) = _ from y]
          simp only
          have w := b.go p r1 h
          cases t : c r1 h with
          | ex x h2 => exact True.intro
          | bad => exact True.intro
          | ok b1 h2 =>
            rw [t] at w
            rw [show c (uF p r1) _ = _ from w]
            cases b1 with
            | false => exact ulc g c A p hi r0 D n (i + 1) h2
            | true =>
              simp only [id, if_true]
              have u := d.go p r1 h2
              cases k : A r1 h2 with
              | ex x h3 => exact True.intro
              | bad => exact True.intro
              | ok y1 h3 =>
                rw [k] at u
                rw [show A (uF p r1) _ = _ from u]
                simp only [uget]
                cases h3[D]? with
                | none => exact True.intro
                | some o =>
                  cases o <;> try exact True.intro
                  rename_i acc
                  simp only [Option.map, upM, List.length_map]
                  split
                  · have e := ulc g c A p hi r0 D n (i + 1) (h3.set D (.lst (acc ++ [y1])))
                    rw [uset] at e
                    simp only [upM, List.map_append, List.map_cons, List.map_nil] at e
                    exact e
                  · exact True.intro
instance (I : Fm → IH → Res ItF) (g : TgF) (c : TX) (A : EX) (vs : List Nat) [i : UI I] [a : UG g] [b : UT c] [d : UE A] : UE (eLc I g c A vs) := ⟨fun p r h => by
  have q := i.go p r h
  unfold eLc
  cases z : I r h with
  | bad => exact True.intro
  | ex x h1 => rw [z] at q; rw [show I (uF p r) _ = _ from q]; exact rfl
  | ok it h1 =>
    rw [z] at q
    obtain ⟨it', e, hr⟩ := q
    rw [e]
    have l := ulc g c A p hr (wipeF r vs) h1.length LIM 0 (h1 ++ [.lst []])
    rw [uapp] at l
    simp only [bind_ok]
    rw [ulen, uwipe]
    refine RR.bind l fun _ h2 => RR.ok (up_obj _ _).symm rfl⟩
theorem ulc2 {it it' : ItF} (g g1 : TgF) (c c1 : TX) (I1 : Fm → IH → Res ItF) (A : EX) [a : UG g] [a1 : UG g1] [b : UT c] [b1 : UT c1] [i1 : UI I1] [d : UE A] (p : IH) (hi : URel p it it') (r0 : Fm) (vs1 : List Nat) (D : Nat) : ∀ (n i : Nat) (h : IH), RR p id (lc2L it g c I1 g1 c1 A r0 vs1 D n i h) (lc2L it' g c I1 g1 c1 A (uF p r0) vs1 (D + p.length) n i (upH p h))
  | 0, _, _ => True.intro
  | n + 1, i, h => by
    unfold lc2L
    have q := hi i h
    cases z : it i h with
    | none => exact True.intro
    | some o =>
      rw [z] at q
      rw [show it' i (upH p h) = _ from q]
      cases o with
      | none => exact rfl
      | some v =>
        have y := a.go p v r0
        cases x : g v r0 with
        | none => simp only [x]; exact True.intro
        | some r1 =>
          rw [x] at y
          simp only [Option.map, x]
          rw [show g (uV p v) (uF p r0) = _ from y]
          simp only
          have w := b.go p r1 h
          cases t : c r1 h with
          | ex x h2 => exact True.intro
          | bad => exact True.intro
          | ok bb h2 =>
            rw [t] at w
            rw [show c (uF p r1) _ = _ from w]
            cases bb with
            | false => exact ulc2 g g1 c c1 I1 A p hi r0 vs1 D n (i + 1) h2
            | true =>
              simp only [id, if_true]
              have u := i1.go p r1 h2
              cases k : I1 r1 h2 with
              | ex x h3 => exact True.intro
              | bad => exact True.intro
              | ok it1 h3 =>
                rw [k] at u
                obtain ⟨it1', e1, hr1⟩ := u
                rw [e1]
                simp only
                have l := ulc g1 c1 A p hr1 (wipeF r1 vs1) D LIM 0 h3
                rw [uwipe]
                cases m : lcL it1 g1 c1 A (wipeF r1 vs1) D LIM 0 h3 with
                | ex x h4 => exact True.intro
                | bad => exact True.intro
                | ok _ h4 =>
                  rw [m] at l
                  rw [show lcL it1' g1 c1 A (uF p (wipeF r1 vs1)) (D + p.length) LIM 0 (upH p h3) = _ from l]
                  exact ulc2 g g1 c c1 I1 A p hi r0 vs1 D n (i + 1) h4
instance (I I1 : Fm → IH → Res ItF) (g g1 : TgF) (c c1 : TX) (A : EX) (vs vs1 : List Nat) [i : UI I] [i1 : UI I1] [a : UG g] [a1 : UG g1] [b : UT c] [b1 : UT c1] [d : UE A] : UE (eLc2 I g c I1 g1 c1 A vs vs1) := ⟨fun p r h => by
  have q := i.go p r h
  unfold eLc2
  cases z : I r h with
  | bad => exact True.intro
  | ex x h1 => rw [z] at q; rw [show I (uF p r) _ = _ from q]; exact rfl
  | ok it h1 =>
    rw [z] at q
    obtain ⟨it', e, hr⟩ := q
    rw [e]
    have l := ulc2 g g1 c c1 I1 A p hr (wipeF r vs) vs1 h1.length LIM 0 (h1 ++ [.lst []])
    rw [uapp] at l
    simp only [bind_ok]
    rw [ulen, uwipe]
    refine RR.bind l fun _ h2 => RR.ok (up_obj _ _).symm rfl⟩
/-! functions -/
theorem uframe (p : IH) (us : List PV) (n : Nat) : uF p (us.map some ++ List.replicate n none) = (us.map (uV p)).map some ++ List.replicate n none := by
  unfold uF
  rw [List.map_append, List.map_map, List.map_map, List.map_replicate]
  rfl
instance (ps n : Nat) (B : SX) [b : US B] : U1 (fn ps n B) := ⟨fun p us h => by
  unfold fn
  simp only [List.length_map]
  split
  · have q := b.go p (us.map some ++ List.replicate n none) h
    rw [uframe] at q
    cases z : B (us.map some ++ List.replicate n none) h with
    | nx r2 h2 => rw [z] at q; rw [show B ((us.map (uV p)).map some ++ List.replicate n none) _ = _ from q]; exact RR.ok (up_non _).symm rfl
    | rt v h2 => rw [z] at q; rw [show B ((us.map (uV p)).map some ++ List.replicate n none) _ = _ from q]; exact rfl
    | bk r2 h2 => exact True.intro
    | ct r2 h2 => exact True.intro
    | ex x r2 h2 => rw [z] at q; rw [show B ((us.map (uV p)).map some ++ List.replicate n none) _ = _ from q]; exact rfl
    | bad => exact True.intro
  · exact True.intro⟩
/-! exceptions -/
instance (c : Str) : US (sRaise c) := ⟨fun p r h => rfl⟩
theorem uzip (p : IH) : ∀ (fl : List Str) (vs : List PV), (fl.zip vs).map (fun q => (q.1, uV p q.2)) = fl.zip (vs.map (uV p))
  | [], _ => rfl
  | _ :: _, [] => rfl
  | f :: fl, v :: vs => by simp only [List.zip_cons_cons, List.map_cons, uzip p fl vs]
instance (c : Str) (fl : List Str) (L : AX) [a : UA L] : US (sRaiseN c fl L) := ⟨fun p r h => (a.go p r h).toS fun vs h1 => by
  rw [List.length_map]
  split
  · show _ = RS.ex (upX p _) _ _
    simp only [upX, List.map_reverse, uzip]
  · exact True.intro⟩
/-- a closed answer, in any heap -/
theorem closed_ok {f : List PV → IH → Res PV} [u : U1 f] {vs : List PV} [c : UCs vs] {v : PV} {t : IH} (e : f vs [] = .ok v t) (h : IH) : f vs h = .ok (upV h.length v) (h ++ t.map (upM h.length)) := by
  have := u.go h vs []
  rw [e, up_nil] at this
  have q : vs.map (uV h) = vs := c.go h.length
  rw [q] at this
  exact this
theorem closed_ex {f : List PV → IH → Res PV} [u : U1 f] {vs : List PV} [c : UCs vs] {x : XV} {t : IH} (e : f vs [] = .ex x t) (h : IH) : f vs h = .ex (upX h x) (h ++ t.map (upM h.length)) := by
  have := u.go h vs []
  rw [e, up_nil] at this
  have q : vs.map (uV h) = vs := c.go h.length
  rw [q] at this
  exact this
end WR

namespace WR
open PySem PySem.Spec PyProof.Rows L2
/-! ### renamings: dicts with texts as keys, calls of items, several clauses -/
theorem usGet (d : Nat) (kvs : List (Str × PV)) (k : Str) : sGet (kvs.map fun q => (q.1, upV d q.2)) k = (sGet kvs k).map (upV d) := by
  unfold sGet
  rw [List.find?_map]
  have e : ((fun q : Str × PV => decide (q.1 = k)) ∘ fun q : Str × PV => (q.1, upV d q.2)) = fun q : Str × PV => decide (q.1 = k) := rfl
  rw [e, Option.map_map, Option.map_map]
  rfl
theorem usPut (d : Nat) (kvs : List (Str × PV)) (k : Str) (v : PV) : sPut (kvs.map fun q => (q.1, upV d q.2)) k (upV d v) = (sPut kvs k v).map fun q => (q.1, upV d q.2) := by
  unfold sPut
  rw [List.any_map]
  have e : ((fun q : Str × PV => decide (q.1 = k)) ∘ fun q : Str × PV => (q.1, upV d q.2)) = fun q : Str × PV => decide (q.1 = k) := rfl
  rw [e]
  split
  · rw [List.map_map, List.map_map]
    apply List.map_congr_left
    intro q _
    simp only [Function.comp]
    split <;> rfl
  · rw [List.map_append]; rfl
instance : U2 pSGet := ⟨fun p x y h => by
  cases x <;> cases y <;> try exact True.intro
  rename_i n k
  simp only [uV, up_obj, up_str, pSGet, uget]
  cases h[n]? with
  | none => exact True.intro
  | some o =>
    cases o <;> try exact True.intro
    simp only [Option.map, upM, usGet]; exact RR.opt⟩
instance : U2 pSIn := ⟨fun p x y h => by
  cases y <;> cases x <;> try exact True.intro
  rename_i n k
  simp only [uV, up_obj, up_str, pSIn, uget]
  cases h[n]? with
  | none => exact True.intro
  | some o =>
    cases o <;> try exact True.intro
    simp only [Option.map_some, upM, usGet, Option.isSome_map]; exact RR.ok (up_bl _ _).symm rfl⟩
instance (D K V : EX) [a : UE D] [b : UE K] [c : UE V] : US (sSPutX D K V) := ⟨fun p r h => by
  unfold sSPutX
  refine (c.go p r h).toS fun v h1 => (a.go p r h1).toS fun d h2 => (b.go p r h2).toS fun k h3 => ?_
  cases d <;> cases k <;> try exact True.intro
  rename_i n k
  simp only [uV, up_obj, up_str, uget]
  cases h3[n]? with
  | none => exact True.intro
  | some o =>
    cases o <;> try exact True.intro
    simp only [Option.map, upM, List.length_map]
    split
    · show _ = _
      rw [uset]; simp only [upM, usPut]
    · exact True.intro⟩
instance : UA (eVals []) := ⟨fun p r h => rfl⟩
instance (k : Str) (A : EX) (L : List (Str × EX)) [a : UE A] [b : UA (eVals L)] : UA (eVals ((k, A) :: L)) := ⟨fun p r h => (a.go p r h).bind fun v h1 => (b.go p r h1).bind fun vs h2 => rfl⟩
theorem usFold (d : Nat) : ∀ (l : List (Str × PV)) (acc : List (Str × PV)), (l.map fun q => (q.1, upV d q.2)).foldl (fun acc kv => sPut acc kv.1 kv.2) (acc.map fun q => (q.1, upV d q.2)) = (l.foldl (fun acc kv => sPut acc kv.1 kv.2) acc).map fun q => (q.1, upV d q.2)
  | [], acc => rfl
  | q :: l, acc => by
    rw [List.map_cons, List.foldl_cons, List.foldl_cons]
    show (l.map _).foldl _ (sPut (acc.map _) q.1 (upV d q.2)) = _
    rw [usPut, usFold d l]
instance (L : List (Str × EX)) [a : UA (eVals L)] : UE (eDisp L) := ⟨fun p r h => by
  unfold eDisp
  have e : upH p h ++ [MO.dks []] = upH p (h ++ [.dks []]) := by rw [uapp]; rfl
  rw [e]
  refine (a.go p r (h ++ [.dks []])).bind fun vs h1 => ?_
  rw [ulen, uget]
  cases z : h1[h.length]? with
  | none => exact True.intro
  | some o =>
    cases o <;> try exact True.intro
    rename_i kvs
    cases kvs with
    | cons _ _ => exact True.intro
    | nil =>
      refine RR.ok (up_obj _ _).symm ?_
      rw [uset]
      congr 1
      show MO.dks _ = MO.dks _
      congr 1
      have z2 := usFold p.length ((L.map (·.1)).zip vs) []
      rw [List.map_nil, uzip] at z2
      exact z2⟩
class UTb (t : FT) : Prop where
  go : ∀ x F, t.lookup x = some F → U1 F
instance : UTb [] := ⟨fun x F e => by cases e⟩
instance (y : Str) (G : List PV → IH → Res PV) (t : FT) [g : U1 G] [u : UTb t] : UTb ((y, G) :: t) := ⟨fun x F e => by
  rw [List.lookup_cons] at e
  split at e
  · cases e; exact g
  · exact u.go x F e⟩
instance (t : FT) (A : EX) (L : AX) [u : UTb t] [a : UE A] [l : UA L] : UE (eCallV t A L) := ⟨fun p r h => (a.go p r h).bind fun f h1 => by
  cases f <;> try exact True.intro
  rename_i x
  simp only [uV, up_glo]
  cases e : t.lookup x with
  | none => exact True.intro
  | some F =>
    have := u.go x F e
    exact (l.go p r h1).bind fun vs h2 => this.go p vs h2⟩
/-! a suite that may read the exception -/
class UH1 (S : XV → SX) : Prop where
  go : ∀ p x r h, RS' p (S x r h) (S (upX p x) (uF p r) (upH p h))
instance (S : SX) [s : US S] : UH1 (fun _ => S) := ⟨fun p x r h => s.go p r h⟩
theorem uxlook (d : Nat) : ∀ (fs : List (Str × PV)) (f : Str), (fs.map fun q => (q.1, upV d q.2)).lookup f = (fs.lookup f).map (upV d)
  | [], f => rfl
  | q :: fs, f => by
    rw [List.map_cons, List.lookup_cons, List.lookup_cons]
    split
    · rfl
    · exact uxlook d fs f
theorem u_xf (cs fl : List Str) (f : Str) (p : IH) (x : XV) (r : Fm) (h : IH) : RR p (uV p) (eXf cs fl x f r h) (eXf cs fl (upX p x) f (uF p r) (upH p h)) := by
  unfold eXf
  show RR p (uV p) (if fl.contains f && cs.contains x.cls then opt (x.fs.lookup f) h else .bad) (if fl.contains f && cs.contains x.cls then opt ((x.fs.map fun q => (q.1, upV p.length q.2)).lookup f) (upH p h) else .bad)
  split
  · rw [uxlook]; exact RR.opt
  · exact True.intro
instance (cs fl : List Str) (f : Str) (E : EX) (s t : Str) [e : UE E] : UH1 (fun ev => sRet (eIf (tBl (eOp pEq (eXf cs fl ev f) E)) (eC (.str s)) (eC (.str t)))) := ⟨fun p x r h => by
  refine RR.toS (u := uV p) ?_ fun v h1 => rfl
  refine RR.bind (u := id) (RR.bind (u := uV p) (RR.bind (u := uV p) (u_xf cs fl f p x r h) fun v h1 => (e.go p r h1).bind fun w h2 => U2.go (f := pEq) p v w h2) fun v h1 => ?_) fun b h1 => ?_
  · cases v <;> first | exact True.intro | (simp only [uV, up_bl]; exact rfl)
  · cases b with
    | true => exact RR.ok (up_str _ _).symm rfl
    | false => exact RR.ok (up_str _ _).symm rfl⟩
class UHs (hs : List (Str × Option Nat × (XV → SX))) : Prop where
  go : ∀ c nm S, (c, nm, S) ∈ hs → UH1 S
instance : UHs [] := ⟨fun c nm S h => by cases h⟩
instance (c : Str) (nm : Option Nat) (S : XV → SX) (hs : List (Str × Option Nat × (XV → SX))) [s : UH1 S] [u : UHs hs] : UHs ((c, nm, S) :: hs) := ⟨fun c' nm' S' h => by
  rcases List.mem_cons.mp h with e | h
  · cases e; exact s
  · exact u.go c' nm' S' h⟩
theorem upick (p : IH) (x : XV) : ∀ hs, pickM (upX p x) hs = pickM x hs
  | [] => rfl
  | (c, nm, S) :: hs => by
    unfold pickM
    show (if exSub x.cls c then _ else _) = _
    rw [upick p x hs]
theorem pick_mem {x : XV} {nm : Option Nat} {S : XV → SX} : ∀ {hs : List (Str × Option Nat × (XV → SX))}, pickM x hs = some (nm, S) → ∃ c, (c, nm, S) ∈ hs
  | [], e => by cases e
  | (c, nm', S') :: hs, e => by
    unfold pickM at e
    split at e
    · cases e; exact ⟨c, List.mem_cons_self⟩
    · obtain ⟨c', h⟩ := pick_mem e
      exact ⟨c', List.mem_cons_of_mem _ h⟩
theorem uF_len (p : IH) (r : Fm) : (uF p r).length = r.length := List.length_map _
theorem uF_set (p : IH) (r : Fm) (i : Nat) : (uF p r).set i none = uF p (r.set i none) := by
  unfold uF
  rw [List.map_set]
  rfl
instance (cs : List Str) (B : SX) (hs : List (Str × Option Nat × (XV → SX))) [b : US B] [u : UHs hs] : US (sTryM cs B hs) := ⟨fun p r h => by
  have q := b.go p r h
  unfold sTryM
  cases z : B r h with
  | nx r1 h1 => rw [z] at q; rw [show B (uF p r) (upH p h) = _ from q]; exact rfl
  | rt v h1 => rw [z] at q; rw [show B (uF p r) (upH p h) = _ from q]; exact rfl
  | bk r1 h1 => rw [z] at q; rw [show B (uF p r) (upH p h) = _ from q]; exact rfl
  | ct r1 h1 => rw [z] at q; rw [show B (uF p r) (upH p h) = _ from q]; exact rfl
  | bad => exact True.intro
  | ex x r1 h1 =>
    rw [z] at q
    rw [show B (uF p r) (upH p h) = _ from q]
    simp only [upick, uF_len]
    show RS' p (if cs.contains x.cls && _ then _ else _) (if cs.contains x.cls && _ then _ else _)
    split
    · cases e : pickM x hs with
      | none => exact rfl
      | some t =>
        obtain ⟨nm, S⟩ := t
        obtain ⟨c, hm⟩ := pick_mem e
        have U := u.go c nm S hm
        cases nm with
        | none =>
          have k := U.go p x r1 h1
          simp only
          cases y : S x r1 h1 with
          | nx r2 h2 => rw [y] at k; rw [show S (upX p x) (uF p r1) (upH p h1) = _ from k]; exact rfl
          | rt v h2 => rw [y] at k; rw [show S (upX p x) (uF p r1) (upH p h1) = _ from k]; exact rfl
          | bk r2 h2 => rw [y] at k; rw [show S (upX p x) (uF p r1) (upH p h1) = _ from k]; exact rfl
          | ct r2 h2 => rw [y] at k; rw [show S (upX p x) (uF p r1) (upH p h1) = _ from k]; exact rfl
          | ex x2 r2 h2 => exact True.intro
          | bad => exact True.intro
        | some i =>
          have k := U.go p x (r1.set i none) h1
          rw [← uF_set] at k
          simp only
          cases y : S x (r1.set i none) h1 with
          | nx r2 h2 => rw [y] at k; rw [show S (upX p x) ((uF p r1).set i none) (upH p h1) = _ from k]; show RS.nx _ _ = RS.nx _ _; rw [uF_set]
          | rt v h2 => rw [y] at k; rw [show S (upX p x) ((uF p r1).set i none) (upH p h1) = _ from k]; exact rfl
          | bk r2 h2 => rw [y] at k; rw [show S (upX p x) ((uF p r1).set i none) (upH p h1) = _ from k]; show RS.bk _ _ = RS.bk _ _; rw [uF_set]
          | ct r2 h2 => rw [y] at k; rw [show S (upX p x) ((uF p r1).set i none) (upH p h1) = _ from k]; show RS.ct _ _ = RS.ct _ _; rw [uF_set]
          | ex x2 r2 h2 => exact True.intro
          | bad => exact True.intro
    · exact True.intro⟩
end WR

namespace WR
open PySem PySem.Spec PyProof.Rows L2
/-! the defs in any heap (printed by genu.py) -/
set_option synthInstance.maxHeartbeats 0 in
set_option synthInstance.maxSize 100000 in
instance : U1 f_is_integer := by
  unfold f_is_integer b_is_integer
  infer_instance
set_option synthInstance.maxHeartbeats 0 in
set_option synthInstance.maxSize 100000 in
instance : U1 f_is_from := by
  unfold f_is_from b_is_from
  infer_instance
set_option synthInstance.maxHeartbeats 0 in
set_option synthInstance.maxSize 100000 in
instance : U1 f_common := by
  unfold f_common b_common
  infer_instance
set_option synthInstance.maxHeartbeats 0 in
set_option synthInstance.maxSize 100000 in
instance : U1 f_ratio := by
  unfold f_ratio b_ratio
  infer_instance
set_option synthInstance.maxHeartbeats 0 in
set_option synthInstance.maxSize 100000 in
instance : U1 f_is_fraction := by
  unfold f_is_fraction b_is_fraction
  infer_instance
set_option synthInstance.maxHeartbeats 0 in
set_option synthInstance.maxSize 100000 in
instance : U1 f_plus := by
  unfold f_plus b_plus
  infer_instance
set_option synthInstance.maxHeartbeats 0 in
set_option synthInstance.maxSize 100000 in
instance : U1 f_minus := by
  unfold f_minus b_minus
  infer_instance
set_option synthInstance.maxHeartbeats 0 in
set_option synthInstance.maxSize 100000 in
instance : U1 f_times := by
  unfold f_times b_times
  infer_instance
set_option synthInstance.maxHeartbeats 0 in
set_option synthInstance.maxSize 100000 in
instance : U1 f_over := by
  unfold f_over b_over
  infer_instance
set_option synthInstance.maxHeartbeats 0 in
set_option synthInstance.maxSize 100000 in
instance : U1 f_is_less := by
  unfold f_is_less b_is_less
  infer_instance
set_option synthInstance.maxHeartbeats 0 in
set_option synthInstance.maxSize 100000 in
instance : U1 f_is_within := by
  unfold f_is_within b_is_within
  infer_instance
set_option synthInstance.maxHeartbeats 0 in
set_option synthInstance.maxSize 100000 in
instance : U1 f_least_of := by
  unfold f_least_of b_least_of
  infer_instance
set_option synthInstance.maxHeartbeats 0 in
set_option synthInstance.maxSize 100000 in
instance : U1 f_greatest_of := by
  unfold f_greatest_of b_greatest_of
  infer_instance
set_option synthInstance.maxHeartbeats 0 in
set_option synthInstance.maxSize 100000 in
instance : U1 f_is_reach := by
  unfold f_is_reach b_is_reach
  infer_instance
set_option synthInstance.maxHeartbeats 0 in
set_option synthInstance.maxSize 100000 in
instance : U1 f_is_turn := by
  unfold f_is_turn b_is_turn
  infer_instance
set_option synthInstance.maxHeartbeats 0 in
set_option synthInstance.maxSize 100000 in
instance : U1 f_check_roads := by
  unfold f_check_roads b_check_roads
  infer_instance
set_option synthInstance.maxHeartbeats 0 in
set_option synthInstance.maxSize 100000 in
instance : U1 f_check_cost := by
  unfold f_check_cost b_check_cost
  infer_instance
set_option synthInstance.maxHeartbeats 0 in
set_option synthInstance.maxSize 100000 in
instance : U1 f_Plan___init__ := by
  unfold f_Plan___init__ b_Plan___init__
  infer_instance
set_option synthInstance.maxHeartbeats 0 in
set_option synthInstance.maxSize 100000 in
instance : U1 f_check_plan := by
  unfold f_check_plan b_check_plan
  infer_instance
set_option synthInstance.maxHeartbeats 0 in
set_option synthInstance.maxSize 100000 in
instance : U1 f_check_road := by
  unfold f_check_road b_check_road
  infer_instance
set_option synthInstance.maxHeartbeats 0 in
set_option synthInstance.maxSize 100000 in
instance : U1 f_is_far := by
  unfold f_is_far b_is_far
  infer_instance
set_option synthInstance.maxHeartbeats 0 in
set_option synthInstance.maxSize 100000 in
instance : U1 f_check_far := by
  unfold f_check_far b_check_far
  infer_instance
set_option synthInstance.maxHeartbeats 0 in
set_option synthInstance.maxSize 100000 in
instance : U1 f_bases_of := by
  unfold f_bases_of b_bases_of
  infer_instance
set_option synthInstance.maxHeartbeats 0 in
set_option synthInstance.maxSize 100000 in
instance : U1 f_walked_by := by
  unfold f_walked_by b_walked_by
  infer_instance
set_option synthInstance.maxHeartbeats 0 in
set_option synthInstance.maxSize 100000 in
instance : U1 f_check_place := by
  unfold f_check_place b_check_place
  infer_instance
set_option synthInstance.maxHeartbeats 0 in
set_option synthInstance.maxSize 100000 in
instance : U1 f_walked := by
  unfold f_walked b_walked
  infer_instance
set_option synthInstance.maxHeartbeats 0 in
set_option synthInstance.maxSize 100000 in
instance : U1 f_share := by
  unfold f_share b_share
  infer_instance
set_option synthInstance.maxHeartbeats 0 in
set_option synthInstance.maxSize 100000 in
instance : U1 f_pieces_of := by
  unfold f_pieces_of b_pieces_of
  infer_instance
set_option synthInstance.maxHeartbeats 0 in
set_option synthInstance.maxSize 100000 in
instance : U1 f_pieces := by
  unfold f_pieces b_pieces
  infer_instance
set_option synthInstance.maxHeartbeats 0 in
set_option synthInstance.maxSize 100000 in
instance : U1 f_reach_of := by
  unfold f_reach_of b_reach_of
  infer_instance
set_option synthInstance.maxHeartbeats 0 in
set_option synthInstance.maxSize 100000 in
instance : U1 f_cover := by
  unfold f_cover b_cover
  infer_instance
set_option synthInstance.maxHeartbeats 0 in
set_option synthInstance.maxSize 100000 in
instance : U1 f_worst_of := by
  unfold f_worst_of b_worst_of
  infer_instance
set_option synthInstance.maxHeartbeats 0 in
set_option synthInstance.maxSize 100000 in
instance : U1 f_worst := by
  unfold f_worst b_worst
  infer_instance
set_option synthInstance.maxHeartbeats 0 in
set_option synthInstance.maxSize 100000 in
instance : U1 f_is_chance := by
  unfold f_is_chance b_is_chance
  infer_instance
set_option synthInstance.maxHeartbeats 0 in
set_option synthInstance.maxSize 100000 in
instance : U1 f_check_chances := by
  unfold f_check_chances b_check_chances
  infer_instance
set_option synthInstance.maxHeartbeats 0 in
set_option synthInstance.maxSize 100000 in
instance : U1 f_with_place := by
  unfold f_with_place b_with_place
  infer_instance
set_option synthInstance.maxHeartbeats 0 in
set_option synthInstance.maxSize 100000 in
instance : U1 f_rows_of := by
  unfold f_rows_of b_rows_of
  infer_instance
set_option synthInstance.maxHeartbeats 0 in
set_option synthInstance.maxSize 100000 in
instance : U1 f_weight_behind := by
  unfold f_weight_behind b_weight_behind
  infer_instance
set_option synthInstance.maxHeartbeats 0 in
set_option synthInstance.maxSize 100000 in
instance : U1 f_turn_costs := by
  unfold f_turn_costs b_turn_costs
  infer_instance
set_option synthInstance.maxHeartbeats 0 in
set_option synthInstance.maxSize 100000 in
instance : U1 f_totals_of := by
  unfold f_totals_of b_totals_of
  infer_instance
set_option synthInstance.maxHeartbeats 0 in
set_option synthInstance.maxSize 100000 in
instance : U1 f_least_walk := by
  unfold f_least_walk b_least_walk
  infer_instance
set_option synthInstance.maxHeartbeats 0 in
set_option synthInstance.maxSize 100000 in
instance : U1 f_best_plan := by
  unfold f_best_plan b_best_plan
  infer_instance
set_option synthInstance.maxHeartbeats 0 in
set_option synthInstance.maxSize 100000 in
instance : U1 f_check_many_roads := by
  unfold f_check_many_roads b_check_many_roads
  infer_instance
set_option synthInstance.maxHeartbeats 0 in
set_option synthInstance.maxSize 100000 in
instance : U1 f_check_ratio := by
  unfold f_check_ratio b_check_ratio
  infer_instance
set_option synthInstance.maxHeartbeats 0 in
set_option synthInstance.maxSize 100000 in
instance : U1 f_check_first := by
  unfold f_check_first b_check_first
  infer_instance
set_option synthInstance.maxHeartbeats 0 in
set_option synthInstance.maxSize 100000 in
instance : U1 f_power := by
  unfold f_power b_power
  infer_instance
set_option synthInstance.maxHeartbeats 0 in
set_option synthInstance.maxSize 100000 in
instance : U1 f_bound_of := by
  unfold f_bound_of b_bound_of
  infer_instance
set_option synthInstance.maxHeartbeats 0 in
set_option synthInstance.maxSize 100000 in
instance : U1 f_most_share := by
  unfold f_most_share b_most_share
  infer_instance
set_option synthInstance.maxHeartbeats 0 in
set_option synthInstance.maxSize 100000 in
instance : U1 f_best_ratio := by
  unfold f_best_ratio b_best_ratio
  infer_instance
set_option synthInstance.maxHeartbeats 0 in
set_option synthInstance.maxSize 100000 in
instance : U1 f_best_bound := by
  unfold f_best_bound b_best_bound
  infer_instance
set_option synthInstance.maxHeartbeats 0 in
set_option synthInstance.maxSize 100000 in
instance : U1 f_grown := by
  unfold f_grown b_grown
  infer_instance
set_option synthInstance.maxHeartbeats 0 in
set_option synthInstance.maxSize 100000 in
instance : U1 f_growing_walked := by
  unfold f_growing_walked b_growing_walked
  infer_instance
set_option synthInstance.maxHeartbeats 0 in
set_option synthInstance.maxSize 100000 in
instance : U1 f_check_team := by
  unfold f_check_team b_check_team
  infer_instance
set_option synthInstance.maxHeartbeats 0 in
set_option synthInstance.maxSize 100000 in
instance : U1 f_in_order := by
  unfold f_in_order b_in_order
  infer_instance
set_option synthInstance.maxHeartbeats 0 in
set_option synthInstance.maxSize 100000 in
instance : U1 f_team_time := by
  unfold f_team_time b_team_time
  infer_instance
set_option synthInstance.maxHeartbeats 0 in
set_option synthInstance.maxSize 100000 in
instance : U1 f_team_walked := by
  unfold f_team_walked b_team_walked
  infer_instance
set_option synthInstance.maxHeartbeats 0 in
set_option synthInstance.maxSize 100000 in
instance : U1 f_bases_behind := by
  unfold f_bases_behind b_bases_behind
  infer_instance
set_option synthInstance.maxHeartbeats 0 in
set_option synthInstance.maxSize 100000 in
instance : U1 f_lows_of := by
  unfold f_lows_of b_lows_of
  infer_instance
set_option synthInstance.maxHeartbeats 0 in
set_option synthInstance.maxSize 100000 in
instance : U1 f_share_at := by
  unfold f_share_at b_share_at
  infer_instance
set_option synthInstance.maxHeartbeats 0 in
set_option synthInstance.maxSize 100000 in
instance : U1 f_team_worst := by
  unfold f_team_worst b_team_worst
  infer_instance
set_option synthInstance.maxHeartbeats 0 in
set_option synthInstance.maxSize 100000 in
instance : U1 f_fraction_text := by
  unfold f_fraction_text b_fraction_text
  infer_instance
set_option synthInstance.maxHeartbeats 0 in
set_option synthInstance.maxSize 100000 in
instance : U1 f_write_plan := by
  unfold f_write_plan b_write_plan
  infer_instance
set_option synthInstance.maxHeartbeats 0 in
set_option synthInstance.maxSize 100000 in
instance : U1 f_check_share := by
  unfold f_check_share b_check_share
  infer_instance
set_option synthInstance.maxHeartbeats 0 in
set_option synthInstance.maxSize 100000 in
instance : U1 f_half_of := by
  unfold f_half_of b_half_of
  infer_instance
set_option synthInstance.maxHeartbeats 0 in
set_option synthInstance.maxSize 100000 in
instance : U1 f_reaches_to := by
  unfold f_reaches_to b_reaches_to
  infer_instance
set_option synthInstance.maxHeartbeats 0 in
set_option synthInstance.maxSize 100000 in
instance : U1 f_farthest_of := by
  unfold f_farthest_of b_farthest_of
  infer_instance
set_option synthInstance.maxHeartbeats 0 in
set_option synthInstance.maxSize 100000 in
instance : U1 f_farthest := by
  unfold f_farthest b_farthest
  infer_instance
set_option synthInstance.maxHeartbeats 0 in
set_option synthInstance.maxSize 100000 in
instance : U1 f_plan_within := by
  unfold f_plan_within b_plan_within
  infer_instance
set_option synthInstance.maxHeartbeats 0 in
set_option synthInstance.maxSize 100000 in
instance : U1 f_Walk___init__ := by
  unfold f_Walk___init__ b_Walk___init__
  infer_instance
set_option synthInstance.maxHeartbeats 0 in
set_option synthInstance.maxSize 100000 in
instance : U1 f__law_first := by
  unfold f__law_first b__law_first
  infer_instance
set_option synthInstance.maxHeartbeats 0 in
set_option synthInstance.maxSize 100000 in
instance : U1 f__law_ask := by
  unfold f__law_ask b__law_ask
  infer_instance
set_option synthInstance.maxHeartbeats 0 in
set_option synthInstance.maxSize 100000 in
instance : U1 f__law_turn_at := by
  unfold f__law_turn_at b__law_turn_at
  infer_instance
set_option synthInstance.maxHeartbeats 0 in
set_option synthInstance.maxSize 100000 in
instance : U1 f__law_told := by
  unfold f__law_told b__law_told
  infer_instance
set_option synthInstance.maxHeartbeats 0 in
set_option synthInstance.maxSize 100000 in
instance : U1 f__law_good_one := by
  unfold f__law_good_one b__law_good_one
  infer_instance
end WR

namespace WR
open PySem PySem.Spec PyProof.Rows L2
/-! ### a frame with more slots filled gives the same answer -/
structure FExt (r r' : Fm) : Prop where
  len : r.length = r'.length
  get : ∀ (i : Nat) (v : PV), r[i]? = some (some v) → r'[i]? = some (some v)
theorem FExt.set {r r' : Fm} (e : FExt r r') (i : Nat) (v : Option PV) : FExt (r.set i v) (r'.set i v) := by
  refine ⟨by simp [e.len], fun j w h => ?_⟩
  by_cases q : i = j
  · subst q
    by_cases l : i < r.length
    · rw [List.getElem?_set_self l] at h
      rw [List.getElem?_set_self (e.len ▸ l)]; exact h
    · rw [List.getElem?_eq_none (by simpa using l)] at h; cases h
  · rw [List.getElem?_set_ne q] at h ⊢; exact e.get j w h
class MX {α : Type} (A : Fm → IH → Res α) : Prop where
  go : ∀ (r r' : Fm) (h : IH) (v : α) (h1 : IH), FExt r r' → A r h = .ok v h1 → A r' h = .ok v h1
class MS (B : SX) : Prop where
  go : ∀ (r r' : Fm) (h : IH) (r1 : Fm) (h1 : IH), FExt r r' → B r h = .nx r1 h1 → ∃ r1', B r' h = .nx r1' h1 ∧ FExt r1 r1' ∧ ∀ i : Nat, r1[i]? = some none → r[i]? = some none ∧ r1'[i]? = r'[i]?
theorem bind_some {α β : Type} {a : Res α} {f : α → IH → Res β} {v : β} {h : IH} (e : a.bind f = .ok v h) : ∃ x h1, a = .ok x h1 ∧ f x h1 = .ok v h := by
  cases a with
  | ok x h1 => exact ⟨x, h1, rfl, e⟩
  | ex x h1 => cases e
  | bad => cases e
theorem toS_some {α : Type} {a : Res α} {r : Fm} {f : α → IH → RS} {r1 : Fm} {h : IH} (e : toS a r f = .nx r1 h) : ∃ x h1, a = .ok x h1 ∧ f x h1 = .nx r1 h := by
  cases a with
  | ok x h1 => exact ⟨x, h1, rfl, e⟩
  | ex x h1 => cases e
  | bad => cases e
instance (i : Nat) : MX (eVar i) := ⟨fun r r' h v h1 x e => by
  unfold eVar at e ⊢
  cases q : r[i]? with
  | none => rw [q] at e; cases e
  | some o =>
    cases o with
    | none => rw [q] at e; cases e
    | some w =>
      rw [q] at e
      rw [x.get i w q]
      exact e⟩
instance (v : PV) : MX (eC v) := ⟨fun r r' h w h1 x e => e⟩
instance : MX aNil := ⟨fun r r' h w h1 x e => e⟩
instance (A : EX) (L : AX) [a : MX A] [l : MX L] : MX (aCons A L) := ⟨fun r r' h v h1 x e => by
  unfold aCons at e ⊢
  obtain ⟨u, h2, e1, e⟩ := bind_some e
  rw [a.go r r' h u h2 x e1]
  obtain ⟨us, h3, e2, e⟩ := bind_some e
  simp only [bind_ok]
  rw [l.go r r' h2 us h3 x e2]
  exact e⟩
instance (L : AX) [l : MX L] : MX (eLst L) := ⟨fun r r' h v h1 x e => by
  unfold eLst at e ⊢
  obtain ⟨u, h2, e1, e⟩ := bind_some e
  rw [l.go r r' h u h2 x e1]; exact e⟩
instance (L : AX) [l : MX L] : MX (eTup L) := ⟨fun r r' h v h1 x e => by
  unfold eTup at e ⊢
  obtain ⟨u, h2, e1, e⟩ := bind_some e
  rw [l.go r r' h u h2 x e1]; exact e⟩
instance (f : List PV → IH → Res PV) (L : AX) [l : MX L] : MX (eCall f L) := ⟨fun r r' h v h1 x e => by
  unfold eCall at e ⊢
  obtain ⟨u, h2, e1, e⟩ := bind_some e
  rw [l.go r r' h u h2 x e1]; exact e⟩
instance (f : List PV → IH → Res PV) (L : AX) [l : MX L] : MX (eB f L) := ⟨fun r r' h v h1 x e => by
  unfold eB at e ⊢
  obtain ⟨u, h2, e1, e⟩ := bind_some e
  rw [l.go r r' h u h2 x e1]; exact e⟩
instance (f : PV → PV → IH → Res PV) (A B : EX) [a : MX A] [b : MX B] : MX (eOp f A B) := ⟨fun r r' h v h1 x e => by
  unfold eOp at e ⊢
  obtain ⟨u, h2, e1, e⟩ := bind_some e
  rw [a.go r r' h u h2 x e1]
  obtain ⟨w, h3, e2, e⟩ := bind_some e
  simp only [bind_ok]
  rw [b.go r r' h2 w h3 x e2]
  exact e⟩
instance (f : PV → IH → Res PV) (A : EX) [a : MX A] : MX (eUn f A) := ⟨fun r r' h v h1 x e => by
  unfold eUn at e ⊢
  obtain ⟨u, h2, e1, e⟩ := bind_some e
  rw [a.go r r' h u h2 x e1]; exact e⟩
instance (A : EX) [a : MX A] : MX (tBl A) := ⟨fun r r' h v h1 x e => by
  unfold tBl at e ⊢
  obtain ⟨u, h2, e1, e⟩ := bind_some e
  rw [a.go r r' h u h2 x e1]; exact e⟩
instance (A : EX) (L : AX) [a : MX A] [l : MX L] : MX (eAppend A L) := ⟨fun r r' h v h1 x e => by
  unfold eAppend at e ⊢
  obtain ⟨u, h2, e1, e⟩ := bind_some e
  rw [a.go r r' h u h2 x e1]
  simp only [bind_ok]
  split at e
  · split at e
    · obtain ⟨us, h3, e2, e⟩ := bind_some e
      rw [l.go r r' h2 us h3 x e2]
      exact e
    · cases e
  · cases e⟩
instance : MS sNil := ⟨fun r r' h r1 h1 x e => by
  cases e
  exact ⟨r', rfl, x, fun i z => ⟨z, rfl⟩⟩⟩
instance (A : EX) (j : Nat) [a : MX A] : MS (sSet j A) := ⟨fun r r' h r1 h1 x e => by
  unfold sSet at e ⊢
  obtain ⟨v, h2, e1, e⟩ := toS_some e
  rw [a.go r r' h v h2 x e1]
  cases e
  refine ⟨r'.set j (some v), rfl, x.set j _, fun i z => ?_⟩
  by_cases q : j = i
  · subst q
    by_cases l : j < r.length
    · rw [List.getElem?_set_self l] at z; cases z
    · rw [List.getElem?_eq_none (by simpa using l)] at z; cases z
  · rw [List.getElem?_set_ne q] at z ⊢
    exact ⟨z, rfl⟩⟩
instance (A : EX) [a : MX A] : MS (sExpr A) := ⟨fun r r' h r1 h1 x e => by
  unfold sExpr at e ⊢
  obtain ⟨v, h2, e1, e⟩ := toS_some e
  rw [a.go r r' h v h2 x e1]
  cases e
  exact ⟨r', rfl, x, fun i z => ⟨z, rfl⟩⟩⟩
instance (B C : SX) [b : MS B] [c : MS C] : MS (sSeq B C) := ⟨fun r r' h r1 h1 x e => by
  unfold sSeq at e ⊢
  cases q : B r h with
  | nx r2 h2 =>
    rw [q] at e
    obtain ⟨r2', e2, x2, k2⟩ := b.go r r' h r2 h2 x q
    obtain ⟨r1', e1, x1, k1⟩ := c.go r2 r2' h2 r1 h1 x2 e
    refine ⟨r1', by rw [e2]; exact e1, x1, fun i z => ?_⟩
    obtain ⟨z2, y2⟩ := k1 i z
    obtain ⟨z3, y3⟩ := k2 i z2
    exact ⟨z3, y2.trans y3⟩
  | rt v h2 => rw [q] at e; cases e
  | bk r2 h2 => rw [q] at e; cases e
  | ct r2 h2 => rw [q] at e; cases e
  | ex z r2 h2 => rw [q] at e; cases e
  | bad => rw [q] at e; cases e⟩
instance (c : TX) (B C : SX) [t : MX c] [b : MS B] [d : MS C] : MS (sIf c B C) := ⟨fun r r' h r1 h1 x e => by
  unfold sIf at e ⊢
  obtain ⟨v, h2, e1, e⟩ := toS_some e
  rw [t.go r r' h v h2 x e1]
  cases v with
  | true => exact b.go r r' h2 r1 h1 x e
  | false => exact d.go r r' h2 r1 h1 x e⟩
/-- statements ahead of the last -/
def catS : List SX → SX → SX
  | [], C => C
  | A :: l, C => sSeq A (catS l C)
theorem cat_run : ∀ (l : List SX) (C : SX) {r r1 : Fm} {h h1 : IH}, catS l sNil r h = .nx r1 h1 → catS l C r h = C r1 h1
  | [], C, r, r1, h, h1, e => by cases e; rfl
  | A :: l, C, r, r1, h, h1, e => by
    unfold catS sSeq at e ⊢
    cases q : A r h with
    | nx r2 h2 => rw [q] at e; exact cat_run l C e
    | rt v h2 => rw [q] at e; cases e
    | bk r2 h2 => rw [q] at e; cases e
    | ct r2 h2 => rw [q] at e; cases e
    | ex z r2 h2 => rw [q] at e; cases e
    | bad => rw [q] at e; cases e
end WR

namespace WR
open PySem PySem.Spec PyProof.Rows L2
/-! ### bad_one: its statements, the last apart (printed by genb.py) -/
instance : U2 pMulT := ⟨fun p x y h => by
  cases x with
  | tup xs =>
    cases xs with
    | nil => rw [uV, up_tup]; exact True.intro
    | cons x xs =>
      cases y with
      | int k =>
        simp only [uV, up_tup, up_int, List.map_cons, pMulT, List.length_cons, List.length_map]
        split
        · refine RR.ok ?_ rfl
          rw [up_tup, List.map_flatten, List.map_replicate, List.map_cons]
        · exact True.intro
      | _ => exact True.intro
  | _ => exact True.intro⟩
instance : U2 pMulL := ⟨fun p x y h => by
  cases x <;> cases y <;> try exact True.intro
  rename_i m k
  simp only [uV, up_obj, up_int, pMulL, uget]
  cases h[m]? with
  | none => exact True.intro
  | some o =>
    cases o <;> try exact True.intro
    rename_i xs
    simp only [Option.map, upM, List.length_map]
    split
    · refine RR.ok (by rw [ulen]; exact (up_obj _ _).symm) ?_
      rw [uapp]
      simp only [List.map_cons, List.map_nil, upM, List.map_flatten, List.map_replicate]
    · exact True.intro⟩
def bd_0 : SX := (sSet 3 (eLst (aCons (eC .non) (aCons (eC (.bl true)) (aCons (eC (.str "1")) (aCons (eUn pNeg (eC (.int 1))) (aCons (eTup (aCons (eC (.int 1)) aNil)) (aCons (eLst (aCons (eC (.int 1)) (aCons (eC (.int 1)) aNil))) aNil))))))))
def bd_1 : SX := (sIf (tBl (eOp pEq (eVar 1) (eC (.str "roads")))) (sSet 3 (eOp pAdd (eVar 3) (eLst (aCons (eC (.int 0)) (aCons (eC (.int 6)) aNil))))) sNil)
def bd_2 : SX := (sIf (tBl (eOp pEq (eVar 1) (eC (.str "m")))) (sSet 3 (eOp pAdd (eVar 3) (eLst (aCons (eC (.int 1)) (aCons (eC (.int 6)) aNil))))) sNil)
def bd_3 : SX := (sIf (tBl (eOp pEq (eVar 1) (eC (.str "turns")))) (sSeq (sSet 4 (eTup (aCons (eC (.int 0)) (aCons (eTup (aCons (eC (.int 1)) (aCons (eC (.int 1)) aNil))) aNil))))
    (sSeq (sSet 3 (eLst (aCons (eC .non) (aCons (eLst aNil) (aCons (eOp pMulT (eTup (aCons (eVar 4) aNil)) (eC (.int 61))) (aCons (eTup (aCons (eVar 4) (aCons (eTup (aCons (eC (.int 2)) (aCons (eTup (aCons (eC (.int 1)) (aCons (eC (.int 1)) aNil))) aNil))) aNil))) (aCons (eTup (aCons (eVar 4) (aCons (eTup (aCons (eC (.int 1)) (aCons (eTup (aCons (eC (.int 0)) (aCons (eC (.int 1)) aNil))) aNil))) aNil))) (aCons (eTup (aCons (eVar 4) (aCons (eC .non) aNil))) (aCons (eC (.int 3)) aNil)))))))))
    (sSeq (sSet 3 (eOp pAdd (eVar 3) (eLst (aCons (eTup (aCons (eVar 4) (aCons (eTup (aCons (eC (.int 0)) (aCons (eTup (aCons (eOp pAdd (eOp pPow (eC (.int 10)) (eC (.int 12))) (eC (.int 1))) (aCons (eC (.int 1)) aNil))) aNil))) aNil))) (aCons (eTup (aCons (eVar 4) (aCons (eTup (aCons (eC (.bl true)) (aCons (eTup (aCons (eC (.int 1)) (aCons (eC (.int 1)) aNil))) aNil))) aNil))) (aCons (eTup (aCons (eVar 4) (aCons (eTup (aCons (eC (.int 0)) (aCons (eTup (aCons (eC (.int 2)) (aCons (eC (.int 2)) aNil))) aNil))) aNil))) aNil))))))
    (sSet 3 (eOp pAdd (eVar 3) (eLst (aCons (eTup (aCons (eVar 4) (aCons (eVar 4) (aCons (eC .non) (aCons (eTup (aCons (eC (.int 2)) (aCons (eTup (aCons (eC (.int 1)) (aCons (eC (.int 1)) aNil))) aNil))) aNil))))) (aCons (eTup (aCons (eC .non) (aCons (eVar 4) (aCons (eC (.int 3)) aNil)))) (aCons (eOp pAdd (eOp pMulT (eTup (aCons (eVar 4) aNil)) (eC (.int 59))) (eTup (aCons (eTup (aCons (eC (.int 0)) (aCons (eTup (aCons (eC (.int 0)) (aCons (eC (.int 1)) aNil))) aNil))) aNil))) aNil))))))))) sNil)
def bd_4 : SX := (sIf (tBl (eOp pEq (eVar 1) (eC (.str "plan")))) (sSet 3 (eLst (aCons (eC .non) (aCons (eTup (aCons (eC (.int 2)) (aCons (eTup aNil) (aCons (eTup (aCons (eC (.int 0)) (aCons (eC (.int 1)) aNil))) aNil)))) (aCons (eC (.int 3)) (aCons (eC (.str "a")) aNil)))))) sNil)
def bd_5 : SX := (sIf (tBl (eOp pEq (eVar 1) (eC (.str "road")))) (sSet 3 (eLst (aCons (eC .non) (aCons (eC (.bl true)) (aCons (eC (.str "0")) (aCons (eUn pNeg (eC (.int 1))) (aCons (eC (.int 2)) (aCons (eTup (aCons (eC (.int 0)) aNil)) aNil)))))))) sNil)
def bd_6 : SX := (sIf (tBl (eOp pIn (eVar 1) (eLst (aCons (eC (.str "cost")) (aCons (eC (.str "far")) (aCons (eC (.str "ratio")) (aCons (eC (.str "first")) (aCons (eC (.str "steep")) (aCons (eC (.str "share")) (aCons (eC (.str "near")) aNil)))))))))) (sSet 3 (eOp pAdd (eVar 3) (eLst (aCons (eTup (aCons (eC (.int 2)) (aCons (eC (.int 4)) aNil))) (aCons (eTup (aCons (eUn pNeg (eC (.int 1))) (aCons (eC (.int 2)) aNil))) (aCons (eTup (aCons (eC (.int 1)) (aCons (eC (.int 0)) aNil))) (aCons (eTup (aCons (eC (.bl true)) (aCons (eC (.int 1)) aNil))) aNil))))))) sNil)
def bd_7 : SX := (sIf (tBl (eOp pIn (eVar 1) (eLst (aCons (eC (.str "far")) (aCons (eC (.str "near")) aNil))))) (sSet 3 (eOp pAdd (eVar 3) (eLst (aCons (eTup (aCons (eC (.int 1)) (aCons (eC (.int 2)) aNil))) (aCons (eTup (aCons (eOp pAdd (eOp pPow (eC (.int 10)) (eC (.int 30))) (eC (.int 1))) (aCons (eC (.int 1)) aNil))) aNil))))) sNil)
def bd_8 : SX := (sIf (tBl (eOp pIn (eVar 1) (eLst (aCons (eC (.str "ratio")) (aCons (eC (.str "steep")) aNil))))) (sSet 3 (eOp pAdd (eVar 3) (eLst (aCons (eTup (aCons (eC (.int 1)) (aCons (eC (.int 1)) aNil))) (aCons (eTup (aCons (eC (.int 101)) (aCons (eC (.int 1)) aNil))) (aCons (eTup (aCons (eC (.int 99)) (aCons (eC (.int 100)) aNil))) aNil)))))) sNil)
def bd_9 : SX := (sIf (tBl (eOp pEq (eVar 1) (eC (.str "steep")))) (sSet 3 (eOp pAdd (eOp pAdd (eVar 3) (eLst (aCons (eTup (aCons (eC (.int 21)) (aCons (eC (.int 20)) aNil))) (aCons (eTup (aCons (eC (.int 31)) (aCons (eC (.int 30)) aNil))) aNil)))) (eOp pMulL (eLst (aCons (eTup (aCons (eC (.int 109)) (aCons (eC (.int 100)) aNil))) (aCons (eTup (aCons (eC (.int 1099)) (aCons (eC (.int 1000)) aNil))) aNil))) (eC (.int 6))))) sNil)
def bd_10 : SX := (sIf (tBl (eOp pEq (eVar 1) (eC (.str "first")))) (sSet 3 (eOp pAdd (eVar 3) (eLst (aCons (eTup (aCons (eC (.int 0)) (aCons (eC (.int 1)) aNil))) (aCons (eTup (aCons (eC (.int 2)) (aCons (eC (.int 1)) aNil))) (aCons (eTup (aCons (eC (.int 31)) (aCons (eC (.int 30)) aNil))) aNil)))))) sNil)
def bd_11 : SX := (sIf (tBl (eOp pEq (eVar 1) (eC (.str "cost")))) (sExpr (eAppend (eVar 3) (aCons (eTup (aCons (eOp pAdd (eOp pPow (eC (.int 10)) (eC (.int 12))) (eC (.int 1))) (aCons (eC (.int 1)) aNil))) aNil))) sNil)
def bd_12 : SX := (sIf (tBl (eOp pEq (eVar 1) (eC (.str "many")))) (sSet 3 (eOp pAdd (eVar 3) (eLst (aCons (eC (.int 61)) aNil)))) sNil)
def bd_13 : SX := (sIf (tBl (eOp pEq (eVar 1) (eC (.str "share")))) (sSet 3 (eOp pAdd (eOp pAdd (eVar 3) (eLst (aCons (eTup (aCons (eC (.int 1)) (aCons (eC (.int 2)) aNil))) (aCons (eTup (aCons (eC (.int 101)) (aCons (eC (.int 1)) aNil))) aNil)))) (eOp pMulL (eLst (aCons (eTup (aCons (eC (.int 1002)) (aCons (eC (.int 1001)) aNil))) (aCons (eTup (aCons (eC (.int 2003)) (aCons (eC (.int 1001)) aNil))) aNil))) (eC (.int 3))))) sNil)
def bd_14 : SX := (sIf (tBl (eOp pEq (eVar 1) (eC (.str "team")))) (sSeq (sSet 3 (eLst (aCons (eC .non) (aCons (eTup aNil) (aCons (eLst (aCons (eCall f__law_good_one (aCons (eC (.str "plan")) aNil)) aNil)) (aCons (eTup (aCons (eC .non) aNil)) (aCons (eC (.int 3)) aNil)))))))
    (sSeq (sSet 3 (eOp pAdd (eVar 3) (eOp pMulL (eLst (aCons (eTup (aCons (eCall f__law_good_one (aCons (eC (.str "plan")) aNil)) (aCons (eCall (mkO "Plan" f_Plan___init__) (aCons (eC (.int 3)) (aCons (eTup aNil) (aCons (eTup (aCons (eC (.int 0)) (aCons (eC (.int 1)) aNil))) aNil)))) aNil))) aNil)) (eC (.int 4)))))
    (sExpr (eAppend (eVar 3) (aCons (eOp pMulT (eTup (aCons (eCall f__law_good_one (aCons (eC (.str "plan")) aNil)) aNil)) (eC (.int 5))) aNil))))) sNil)
def bd_15 : SX := (sIf (tBl (eOp pEq (eVar 1) (eC (.str "missing")))) (sSet 3 (eOp pAdd (eVar 3) (eLst (aCons (eC (.int 2)) (aCons (eC (.int 4)) aNil))))) sNil)
def bd_16 : SX := (sIf (tBl (eOp pEq (eVar 1) (eC (.str "chances")))) (sSeq (sSet 3 (eLst (aCons (eC .non) (aCons (eTup aNil) (aCons (eLst (aCons (eTup (aCons (eC (.int 0)) (aCons (eTup (aCons (eC (.int 1)) (aCons (eC (.int 1)) aNil))) (aCons (eC (.int 1)) aNil)))) aNil)) (aCons (eTup (aCons (eTup (aCons (eC (.int 0)) (aCons (eTup (aCons (eC (.int 1)) (aCons (eC (.int 1)) aNil))) (aCons (eC (.int 1)) aNil)))) (aCons (eTup (aCons (eC (.int 0)) (aCons (eTup (aCons (eC (.int 1)) (aCons (eC (.int 1)) aNil))) (aCons (eC (.int 2)) aNil)))) aNil))) (aCons (eTup (aCons (eTup (aCons (eC (.int 2)) (aCons (eTup (aCons (eC (.int 1)) (aCons (eC (.int 1)) aNil))) (aCons (eC (.int 1)) aNil)))) aNil)) (aCons (eTup (aCons (eTup (aCons (eC (.int 0)) (aCons (eTup (aCons (eC (.int 1)) (aCons (eC (.int 2)) aNil))) (aCons (eC (.int 1)) aNil)))) aNil)) (aCons (eC (.int 3)) aNil)))))))))
    (sSet 3 (eOp pAdd (eVar 3) (eLst (aCons (eTup (aCons (eTup (aCons (eC (.int 0)) (aCons (eTup (aCons (eC (.int 1)) (aCons (eC (.int 1)) aNil))) (aCons (eC (.int 0)) aNil)))) aNil)) (aCons (eTup (aCons (eTup (aCons (eC (.int 0)) (aCons (eTup (aCons (eC (.int 1)) (aCons (eC (.int 1)) aNil))) (aCons (eC (.int 1000)) aNil)))) aNil)) (aCons (eTup (aCons (eTup (aCons (eC (.int 0)) (aCons (eTup (aCons (eOp pAdd (eOp pPow (eC (.int 10)) (eC (.int 6))) (eC (.int 1))) (aCons (eC (.int 1)) aNil))) (aCons (eC (.int 1)) aNil)))) aNil)) (aCons (eTup (aCons (eTup (aCons (eC (.int 0)) (aCons (eTup (aCons (eC (.int 1)) (aCons (eC (.int 1)) aNil))) aNil))) aNil)) aNil)))))))) sNil)
def badl : List SX := [bd_0, bd_1, bd_2, bd_3, bd_4, bd_5, bd_6, bd_7, bd_8, bd_9, bd_10, bd_11, bd_12, bd_13, bd_14, bd_15, bd_16]
abbrev badE : EX := (eOp pIdx (eVar 3) (eCall f__law_next (aCons (eVar 0) (aCons (eB pLen (aCons (eVar 3) aNil)) aNil))))
theorem bad_cat : b__law_bad_one = catS badl (sRet badE) := rfl
set_option synthInstance.maxHeartbeats 0 in
set_option synthInstance.maxSize 100000 in
instance : US bd_0 := by
  unfold bd_0
  infer_instance
set_option synthInstance.maxHeartbeats 0 in
set_option synthInstance.maxSize 100000 in
instance : US bd_1 := by
  unfold bd_1
  infer_instance
set_option synthInstance.maxHeartbeats 0 in
set_option synthInstance.maxSize 100000 in
instance : US bd_2 := by
  unfold bd_2
  infer_instance
set_option synthInstance.maxHeartbeats 0 in
set_option synthInstance.maxSize 100000 in
instance : US bd_3 := by
  unfold bd_3
  infer_instance
set_option synthInstance.maxHeartbeats 0 in
set_option synthInstance.maxSize 100000 in
instance : US bd_4 := by
  unfold bd_4
  infer_instance
set_option synthInstance.maxHeartbeats 0 in
set_option synthInstance.maxSize 100000 in
instance : US bd_5 := by
  unfold bd_5
  infer_instance
set_option synthInstance.maxHeartbeats 0 in
set_option synthInstance.maxSize 100000 in
instance : US bd_6 := by
  unfold bd_6
  infer_instance
set_option synthInstance.maxHeartbeats 0 in
set_option synthInstance.maxSize 100000 in
instance : US bd_7 := by
  unfold bd_7
  infer_instance
set_option synthInstance.maxHeartbeats 0 in
set_option synthInstance.maxSize 100000 in
instance : US bd_8 := by
  unfold bd_8
  infer_instance
set_option synthInstance.maxHeartbeats 0 in
set_option synthInstance.maxSize 100000 in
instance : US bd_9 := by
  unfold bd_9
  infer_instance
set_option synthInstance.maxHeartbeats 0 in
set_option synthInstance.maxSize 100000 in
instance : US bd_10 := by
  unfold bd_10
  infer_instance
set_option synthInstance.maxHeartbeats 0 in
set_option synthInstance.maxSize 100000 in
instance : US bd_11 := by
  unfold bd_11
  infer_instance
set_option synthInstance.maxHeartbeats 0 in
set_option synthInstance.maxSize 100000 in
instance : US bd_12 := by
  unfold bd_12
  infer_instance
set_option synthInstance.maxHeartbeats 0 in
set_option synthInstance.maxSize 100000 in
instance : US bd_13 := by
  unfold bd_13
  infer_instance
set_option synthInstance.maxHeartbeats 0 in
set_option synthInstance.maxSize 100000 in
instance : US bd_14 := by
  unfold bd_14
  infer_instance
set_option synthInstance.maxHeartbeats 0 in
set_option synthInstance.maxSize 100000 in
instance : US bd_15 := by
  unfold bd_15
  infer_instance
set_option synthInstance.maxHeartbeats 0 in
set_option synthInstance.maxSize 100000 in
instance : US bd_16 := by
  unfold bd_16
  infer_instance
instance : US (catS badl sNil) := by
  unfold badl
  simp only [catS]
  infer_instance
set_option synthInstance.maxHeartbeats 0 in
set_option synthInstance.maxSize 100000 in
instance : MS bd_0 := by
  unfold bd_0
  infer_instance
set_option synthInstance.maxHeartbeats 0 in
set_option synthInstance.maxSize 100000 in
instance : MS bd_1 := by
  unfold bd_1
  infer_instance
set_option synthInstance.maxHeartbeats 0 in
set_option synthInstance.maxSize 100000 in
instance : MS bd_2 := by
  unfold bd_2
  infer_instance
set_option synthInstance.maxHeartbeats 0 in
set_option synthInstance.maxSize 100000 in
instance : MS bd_3 := by
  unfold bd_3
  infer_instance
set_option synthInstance.maxHeartbeats 0 in
set_option synthInstance.maxSize 100000 in
instance : MS bd_4 := by
  unfold bd_4
  infer_instance
set_option synthInstance.maxHeartbeats 0 in
set_option synthInstance.maxSize 100000 in
instance : MS bd_5 := by
  unfold bd_5
  infer_instance
set_option synthInstance.maxHeartbeats 0 in
set_option synthInstance.maxSize 100000 in
instance : MS bd_6 := by
  unfold bd_6
  infer_instance
set_option synthInstance.maxHeartbeats 0 in
set_option synthInstance.maxSize 100000 in
instance : MS bd_7 := by
  unfold bd_7
  infer_instance
set_option synthInstance.maxHeartbeats 0 in
set_option synthInstance.maxSize 100000 in
instance : MS bd_8 := by
  unfold bd_8
  infer_instance
set_option synthInstance.maxHeartbeats 0 in
set_option synthInstance.maxSize 100000 in
instance : MS bd_9 := by
  unfold bd_9
  infer_instance
set_option synthInstance.maxHeartbeats 0 in
set_option synthInstance.maxSize 100000 in
instance : MS bd_10 := by
  unfold bd_10
  infer_instance
set_option synthInstance.maxHeartbeats 0 in
set_option synthInstance.maxSize 100000 in
instance : MS bd_11 := by
  unfold bd_11
  infer_instance
set_option synthInstance.maxHeartbeats 0 in
set_option synthInstance.maxSize 100000 in
instance : MS bd_12 := by
  unfold bd_12
  infer_instance
set_option synthInstance.maxHeartbeats 0 in
set_option synthInstance.maxSize 100000 in
instance : MS bd_13 := by
  unfold bd_13
  infer_instance
set_option synthInstance.maxHeartbeats 0 in
set_option synthInstance.maxSize 100000 in
instance : MS bd_14 := by
  unfold bd_14
  infer_instance
set_option synthInstance.maxHeartbeats 0 in
set_option synthInstance.maxSize 100000 in
instance : MS bd_15 := by
  unfold bd_15
  infer_instance
set_option synthInstance.maxHeartbeats 0 in
set_option synthInstance.maxSize 100000 in
instance : MS bd_16 := by
  unfold bd_16
  infer_instance
instance : MS (catS badl sNil) := by
  unfold badl
  simp only [catS]
  infer_instance
/-- the frame in which the prefix is judged: the machine and the kind are not read -/
abbrev bfr (w : Str) : Fm := [none, some (.str w), none, none, none]
def badR (w : Str) : RS := catS badl sNil (bfr w) []
def badT (w : Str) : IH := match badR w with
  | .nx _ t => t
  | _ => []
def badJ (w : Str) : Nat := match badR w with
  | .nx r _ => (match r.getD 3 none with
    | some (PV.obj j) => j
    | _ => 0)
  | _ => 0
def badL (w : Str) : List PV := match (badT w)[badJ w]? with
  | some (.lst xs) => xs
  | _ => []
def badOk (w : Str) : Bool := match badR w with
  | .nx r t => (match r with
    | [none, _, none, some (.obj j), _] => (match t[j]? with
      | some (.lst xs) => decide (0 < xs.length) && decide (xs.length < 64)
      | _ => false)
    | _ => false)
  | _ => false
def words : List Str := ["roads", "turns", "cost", "plan", "road", "far", "m", "ratio", "first", "many", "steep", "share", "near", "team", "missing", "chances"]
theorem bads_ok : words.all badOk = true := by kernel_rfl
end WR

namespace WR
open PySem PySem.Spec PyProof.Rows L2
/-! ### k10: a draw with what it lays; bad_one -/
theorem next_eq3 {hi ci : Nat} {h : IH} (d : DS hi ci h) (b : Int) (h0 : 0 < b) (hs : b.natAbs.log2 < 9000) :
    ∃ r h', f__law_next [.obj hi, .int b] h = .ok (.int r) h' ∧ 0 ≤ r ∧ r < b ∧ DS hi ci h' ∧ Kp hi ci h h' ∧ h'.length = h.length + 2 ∧ (∃ xs : List Int, h'[h.length]? = some (.lst (xs.map .int))) ∧ (∃ xs : List Int, h'[h.length + 1]? = some (.lst (xs.map .int))) := by
  obtain ⟨a, ix, e⟩ := d.st
  obtain ⟨cs, f, l⟩ := d.ce
  have hne := d.ne
  have lh := lt_of_get e
  have lc := lt_of_get f
  obtain ⟨M, hM, mb, m6, mn⟩ : ∃ M : Int, (if 1 < (cs.length : Int) then (cs.length : Int) else 1) = M ∧ 0 < M ∧ M ≤ 63 ∧ M ≤ cs.length + 1 := by
    refine ⟨_, rfl, ?_, ?_, ?_⟩ <;> split <;> omega
  have ml : M.natAbs.log2 < 9000 := log_of (Nat.lt_of_lt_of_le (show _ < 2 ^ 7 by omega) (Nat.pow_le_pow_right (by decide) (by decide))) (by decide)
  have i0 := Int.emod_nonneg ix (show M ≠ 0 by omega)
  have i1 := Int.emod_lt_of_pos ix mb
  obtain ⟨c, hc, h1⟩ : ∃ c : Int, atI (cs.map PV.int ++ [.int 0]) (ix % M) = some (.int c) ∧ (0 < c → 0 < cs.length) := by
    rw [atI_pos _ _ i0 (by simp; omega)]
    by_cases q : (ix % M).toNat < cs.length
    · exact ⟨cs[(ix % M).toNat], by rw [List.getElem?_append_left (by simpa using q)]; simp [q], fun _ => by omega⟩
    · have : (ix % M).toNat = cs.length := by omega
      exact ⟨0, by rw [this]; simp, by simp⟩
  have e1 : ∀ t, (h ++ t)[hi]? = some (.lst [.int a, .obj ci, .int ix]) := fun t => get_old e
  have f1 : ∀ t, (h ++ t)[ci]? = some (.lst (cs.map .int)) := fun t => get_old f
  have gb : (10 : Int) ^ 18 = 1000000000000000000 := by decide
  have l2 : cs.length ≤ 16777215 := by omega
  by_cases big : (1000000000000000000 : Int) ≤ c
  · have n0 : 0 < cs.length := h1 (by omega)
    have n0' : (0 : Int) < cs.length := by omega
    have nl : cs.length.log2 < 9000 := log_of (Nat.lt_of_lt_of_le (show _ < 2 ^ 7 by omega) (Nat.pow_le_pow_right (by decide) (by decide))) (by decide)
    have j0 := Int.emod_nonneg ix (show (cs.length : Int) ≠ 0 by omega)
    have j1 := Int.emod_lt_of_pos ix n0'
    simp [f__law_next, b__law_next, e, f, e1, f1, hc, hM, mb, ml, l2, big, hs, h0, hne, hne.symm, ixN, mulOk, gb, n0, nl, j0, j1]
    refine ⟨_, _, ⟨rfl, rfl⟩, Int.emod_nonneg _ (by omega), Int.emod_lt_of_pos _ h0, ⟨hne, ⟨a, ix, ?_⟩, ⟨cs.set (ix % cs.length).toNat (c / b), ?_, ?_⟩⟩, ⟨by simp, fun n o p q r => ?_⟩, by simp, ⟨[0], ?_⟩, ⟨cs ++ [0], ?_⟩⟩
    · rw [List.getElem?_set_ne (Ne.symm hne)]; exact e1 _
    · rw [List.getElem?_set_self (by simp; omega), List.map_set]
    · simpa using l
    · rw [List.getElem?_set_ne (Ne.symm q)]; exact get_old r
    · rw [List.getElem?_set_ne (by omega), ga0]; rfl
    · rw [List.getElem?_set_ne (by omega), ga1]; simp
  · have w1 : ∀ t o, ((h ++ t).set hi o)[hi]? = some o := fun t o => by rw [List.getElem?_set_self (by simp; omega)]
    simp [f__law_next, b__law_next, e, f, e1, f1, hc, hM, mb, ml, l2, big, hs, h0, hne, hne.symm, ixN, mulOk, gb, w1, show Nat.log2 7 < 9000 from by decide]
    refine ⟨_, _, ⟨rfl, rfl⟩, Int.emod_nonneg _ (by omega), Int.emod_lt_of_pos _ h0, ⟨hne, ⟨_, _, w1 _ _⟩, ⟨cs, ?_, l⟩⟩, ⟨by simp, fun n o p q r => ?_⟩, by simp, ⟨[0], ?_⟩, ⟨cs ++ [0], ?_⟩⟩
    · rw [List.getElem?_set_ne hne]; exact f1 _
    · rw [List.getElem?_set_ne (Ne.symm p)]; exact get_old r
    · rw [List.getElem?_set_ne (by omega), ga0]; rfl
    · rw [List.getElem?_set_ne (by omega), ga1]; simp
theorem mix_eq2 (ns : List Int) (s : Int) (hl : ns.length ≤ 63) (h : IH) : ∃ h', f__law_mix [.fls (ns.map .int), .int s] h = .ok (.obj (h.length + 1)) h' ∧ DS (h.length + 1) h.length h' ∧ Kp (h.length + 1) h.length h h' ∧ h'.length = h.length + 2 := by
  obtain ⟨a', c', e⟩ := mix_loop h ns s (.fls (ns.map .int)) LIM 0 s none (by simp [LIM]; omega)
  refine ⟨h ++ [.lst (ns.map .int), .lst [.int a', .obj h.length, .int 0]], ?_, ⟨by omega, ⟨a', 0, by rw [ga1]; rfl⟩, ⟨ns, by rw [ga0]; rfl, hl⟩⟩, Kp.app _ _ _ _, by simp⟩
  simp [f__law_mix, b__law_mix, sFor, e, show ns.length ≤ 16777216 by omega]

theorem uframe5 (h : IH) (w : Str) : uF h (bfr w) = bfr w := by simp [uF, uV]
/-- bad_one: a value of the closed list, its segment, the draw's two lists -/
theorem bad_eq {w : Str} (hw : w ∈ words) {k : PV} {h : IH} (d : DS 1 0 h) (h2 : 2 ≤ h.length) : ∃ v h', f__law_bad_one [.obj 1, .str w, k] h = .ok (upV h.length v) h' ∧ v ∈ badL w ∧ DS 1 0 h' ∧ Kp 1 0 h h' ∧ h'.length = h.length + (badT w).length + 2 ∧
    (∀ i o, (badT w)[i]? = some o → h'[h.length + i]? = some (upM h.length o)) ∧ (∃ xs : List Int, h'[h.length + (badT w).length]? = some (.lst (xs.map .int))) ∧ (∃ xs : List Int, h'[h.length + (badT w).length + 1]? = some (.lst (xs.map .int))) := by
  have ok := List.all_eq_true.mp bads_ok w hw
  unfold badOk at ok
  cases q : badR w with
  | rt v t => rw [q] at ok; cases ok
  | bk v t => rw [q] at ok; cases ok
  | ct v t => rw [q] at ok; cases ok
  | ex x v t => rw [q] at ok; cases ok
  | bad => rw [q] at ok; cases ok
  | nx r t =>
    rw [q] at ok
    simp only at ok
    split at ok
    · rename_i s1 j s4
      split at ok
      · rename_i xs hx
        rw [Bool.and_eq_true, decide_eq_true_eq, decide_eq_true_eq] at ok
        have eT : badT w = t := by unfold badT; rw [q]
        have eJ : badJ w = j := by unfold badJ; rw [q]; rfl
        have eL : badL w = xs := by unfold badL; rw [eT, eJ, hx]
        rw [eT, eL]
        have U := US.go (B := catS badl sNil) h (bfr w) []
        rw [uframe5, up_nil] at U
        have q' : catS badl sNil (bfr w) [] = .nx _ t := q
        rw [q'] at U
        have U : catS badl sNil (bfr w) h = .nx (uF h [none, s1, none, some (.obj j), s4]) (upH h t) := U
        have x0 : FExt (bfr w) [some (.obj 1), some (.str w), some k, none, none] := ⟨rfl, fun i v e => by
          rcases i with _ | _ | _ | _ | _ | i <;> first | (cases e; done) | (cases e; rfl) | (simp at e)⟩
        obtain ⟨r', M, x1, keep⟩ := MS.go (B := catS badl sNil) _ _ _ _ _ x0 U
        have a0 : r'[0]? = some (some (.obj 1)) := (keep 0 rfl).2
        have a3 : r'[3]? = some (some (.obj (j + h.length))) := x1.get 3 _ (by simp [uF, uV])
        have l0 : (upH h t)[j + h.length]? = some (.lst (xs.map (upV h.length))) := by rw [uget, hx]; rfl
        have lu : (upH h t).length = t.length + h.length := ulen h t
        have du : DS 1 0 (upH h t) := d.app _
        obtain ⟨m, h', e, m0, m1, d', K, ln, y1, y2⟩ := next_eq3 du xs.length (by omega) (log_of (Nat.lt_of_lt_of_le (show _ < 2 ^ 7 by omega) (Nat.pow_le_pow_right (by decide) (by decide))) (by decide))
        have l1 := K.get _ _ (show j + h.length ≠ 1 by omega) (by omega) l0
        have hm : m.toNat < xs.length := by omega
        have lp : pLen [.obj (j + h.length)] (upH h t) = .ok (.int xs.length) (upH h t) := by rw [p_lenL l0, List.length_map]
        have E : badE r' (upH h t) = .ok (upV h.length xs[m.toNat]) h' := x_op (x_var a3) (x_call (x_cons (x_var a0) (x_cons (x_b (x_cons (x_var a3) x_nil) lp) x_nil)) e) (p_idxL l1 m0 (by rw [List.getElem?_map, List.getElem?_eq_getElem hm]; rfl))
        have B : b__law_bad_one [some (.obj 1), some (.str w), some k, none, none] h = .rt (upV h.length xs[m.toNat]) h' := by
          rw [bad_cat, cat_run badl (sRet badE) M]
          simp only [sRet, E]
          rfl
        refine ⟨xs[m.toNat], h', ?_, List.getElem_mem hm, d', ?_, by omega, fun i o ho => ?_, ?_, ?_⟩
        · have F : f__law_bad_one [.obj 1, .str w, k] h = (match b__law_bad_one [some (.obj 1), some (.str w), some k, none, none] h with
            | .nx _ h1 => Res.ok PV.non h1
            | .rt v h1 => .ok v h1
            | .ex x _ h1 => .ex x h1
            | _ => .bad) := rfl
          rw [F, B]
        · exact (Kp.app _ _ _ _).trans K
        · refine K.get _ _ (by omega) (by omega) ?_
          rw [Nat.add_comm, uget, ho]; rfl
        · obtain ⟨ys, y⟩ := y1
          exact ⟨ys, by rw [← y]; congr 1; omega⟩
        · obtain ⟨ys, y⟩ := y2
          exact ⟨ys, by rw [← y]; congr 1; omega⟩
      · cases ok
    · cases ok
end WR

namespace WR
open PySem PySem.Spec PyProof.Rows L2
/-! ### k10: the values' heap; told, judged closed -/
def goodR (w : Str) : Res PV := f__law_good_one [.str w] []
def goodT (w : Str) : IH := match goodR w with
  | .ok _ t => t
  | _ => []
def goodV (w : Str) : PV := match goodR w with
  | .ok v _ => v
  | _ => .non
def goodOk (w : Str) : Bool := match goodR w with
  | .ok _ _ => true
  | _ => false
theorem goods_ok : words.all goodOk = true := by kernel_rfl
/-- one value: of a word, good, or bad with the draw's two lists -/
inductive Ch where
  | good (w : Str)
  | bad (w : Str) (v : PV) (y1 y2 : MO)
def stepS (S : IH) (c : Ch) : IH := match S with
  | .lst vs :: rest => (match c with
    | .good w => .lst (vs ++ [upV S.length (goodV w)]) :: (rest ++ (goodT w).map (upM S.length))
    | .bad w v y1 y2 => .lst (vs ++ [upV S.length v]) :: (rest ++ ((badT w).map (upM S.length) ++ [y1, y2])))
  | S => S
def mkS (cs : List Ch) : IH := cs.foldl stepS [.lst []]
/-- the answer is w, and the list at n still begins with w -/
def isT (w : Str) (n : Nat) : Res PV → Bool
  | .ok (.str x) h => decide (x = w) && (match h[n]? with
    | some (.lst (.str y :: _)) => decide (y = w)
    | _ => false)
  | _ => false
/-- told at a heap of values: behind it the three due lists and the last draw's two -/
def tells (k : Int) (w : Str) (S : IH) (o1 o2 : MO) (q : List PV) (o4 o5 : MO) (u : Int) : Bool :=
  isT w (S.length + 2) (f__law_told [.int k, .obj 0, .int u] (S ++ [o1, o2, .lst (.str w :: q), o4, o5]))
def six : List Int := [0, 1, 2, 3, 4, 5]
theorem six_of {p : Int → Bool} (h : six.all p = true) {u : Int} (u0 : 0 ≤ u) (u6 : u < 6) : p u = true :=
  List.all_eq_true.mp h u (by simp only [six, List.mem_cons, List.not_mem_nil, or_false]; omega)
/-- the choices for the words -/
inductive Okb : List Str → List Bool → List Ch → Prop
  | nil : Okb [] [] []
  | good {w : Str} {ws : List Str} {bs : List Bool} {cs : List Ch} (r : Okb ws bs cs) : Okb (w :: ws) (false :: bs) (.good w :: cs)
  | bad {w : Str} {v : PV} {y1 y2 : MO} {ws : List Str} {bs : List Bool} {cs : List Ch} (hv : v ∈ badL w) (r : Okb ws bs cs) : Okb (w :: ws) (true :: bs) (.bad w v y1 y2 :: cs)
def dueW : List Ch → Str
  | [] => "good"
  | .bad w _ _ _ :: _ => w
  | .good _ :: cs => dueW cs
end WR

namespace WR
open PySem PySem.Spec PyProof.Rows L2
/-! ### k10: the good question of the kind 7: a walk to 10 ** 30 -/
theorem q_two : PV.tup [.int 2, .int 1] = fq 2 := rfl
theorem qs2 : Sm 2 2 := by constructor <;> decide
theorem qs1 : Sm 1 1 := by constructor <;> decide
def ra : Nat → Rat
  | 0 => 1
  | k + 1 => ra k * (11 / 10)
def rb : Nat → Rat
  | 0 => 0
  | k + 1 => rb k + 2 * ra k
abbrev big : Rat := 1000000000000000000000000000000
theorem s11 : Sm 4 (11 / 10 : Rat) := by constructor <;> decide +kernel
theorem q_11 : PV.tup [.int 11, .int 10] = fq (11 / 10) := by
  have a : (11 / 10 : Rat).num = 11 := by decide +kernel
  have b : (11 / 10 : Rat).den = 10 := by decide +kernel
  unfold fq; rw [a, b]; rfl
theorem q_big : PV.tup [.int 1000000000000000000000000000000, .int 1] = fq big := rfl
theorem sbig : Sm 100 big := by constructor <;> decide +kernel
theorem ra_sm : ∀ k, Sm (4 * k + 1) (ra k)
  | 0 => qs1
  | k + 1 => ((ra_sm k).mul s11).mono (by omega)
theorem Sm.sub1 {A : Nat} {a : Rat} (h : Sm A a) : Sm (A + 2) (a - 1) := by
  have n : Sm 1 (-1 : Rat) := by constructor <;> decide
  rw [Rat.sub_eq_add_neg]; exact (h.add n).mono (by omega)
theorem rb_eq : ∀ k, rb k = 20 * (ra k - 1)
  | 0 => by simp [rb, ra]; grind
  | k + 1 => by
    have ih := rb_eq k
    show rb k + 2 * ra k = 20 * (ra k * (11 / 10) - 1)
    grind
theorem rb_sm (k : Nat) : Sm (4 * k + 10) (rb k) := by
  rw [rb_eq]
  have s20 : Sm 5 (20 : Rat) := by constructor <;> decide
  exact (s20.mul (ra_sm k).sub1).mono (by omega)
theorem ra_pos : ∀ k, 0 < ra k
  | 0 => by show (0 : Rat) < 1; decide
  | k + 1 => Rat.mul_pos (ra_pos k) (by decide +kernel)
theorem ra_mono (i : Nat) : ∀ d, ra i ≤ ra (i + d)
  | 0 => Rat.le_refl
  | d + 1 => by
    have a := ra_mono i d
    have p := ra_pos (i + d)
    show ra i ≤ ra (i + d) * (11 / 10)
    grind
theorem ra_low : ra 724 < big := by decide +kernel
theorem ra_high : big ≤ ra 725 := by decide +kernel
theorem ra_lt {j : Nat} (h : j ≤ 724) : ra j < big := by
  have a := ra_mono j (724 - j)
  rw [show j + (724 - j) = 724 by omega] at a
  exact Rat.not_le.mp fun z => absurd (Rat.le_trans z a) (Rat.not_le.mpr ra_low)
theorem ra_0 : fq (ra 0) = .tup [.int 1, .int 1] := rfl
theorem rb_0 : fq (rb 0) = .tup [.int 0, .int 1] := rfl
theorem stop_at {j : Nat} (h : j ≤ 725) : decide (ra j < big) = !decide (j = 725) := by
  by_cases c : j = 725
  · have e : ¬ ra j < big := by rw [c]; exact Rat.not_lt.mpr ra_high
    rw [decide_eq_false e, decide_eq_true c]; rfl
  · rw [decide_eq_true (ra_lt (by omega)), decide_eq_false c]; rfl
theorem gw_gen {ra rb : Nat → Rat} (ra_0 : fq (ra 0) = .tup [.int 1, .int 1]) (rb_0 : fq (rb 0) = .tup [.int 0, .int 1]) (ra_s : ∀ k, ra (k + 1) = ra k * (11 / 10)) (rb_s : ∀ k, rb (k + 1) = rb k + 2 * ra k)
    (ra_sm : ∀ k, Sm (4 * k + 1) (ra k)) (rb_sm : ∀ k, Sm (4 * k + 10) (rb k)) (stop_at : ∀ {j : Nat}, j ≤ 725 → decide (ra j < big) = !decide (j = 725)) (h : IH)
    {m f r t b : PV} (hm : m = .int 2) (hf : f = .tup [.int 1, .int 1]) (hr : r = .tup [.int 11, .int 10]) (ht : t = .int 1) (hb : b = .tup [.int 1000000000000000000000000000000, .int 1]) :
    ∃ v, f_growing_walked [m, f, r, t, b] h = .ok v h := by
  have c1 : f_check_many_roads [m] h = .ok .non h := by subst hm; kernel_rfl
  have c2 : f_check_first [f] h = .ok .non h := by subst hf; kernel_rfl
  have c3 : f_check_ratio [r] h = .ok .non h := by subst hr; kernel_rfl
  have c4 : f_is_less [r, .tup [.int 11, .int 10]] h = .ok (.bl false) h := by subst hr; kernel_rfl
  have c5 : f_check_road [m, t] h = .ok .non h := by subst hm ht; kernel_rfl
  have c6 : f_is_far [b] h = .ok (.bl true) h := by subst hb; kernel_rfl
  have n16 : ([PV.int 11, PV.int 10] : List PV).length ≤ 16777216 := by decide
  rw [q_11] at hr
  rw [q_big] at hb
  rw [← ra_0] at hf
  have key : ∃ v g, f_growing_walked [m, f, r, t, b] h = .ok v g ∧ g = h := by
    refine w_fn rfl ?_
    refine w_seq (w_expr (v := .non) (h1 := h) (x_call (x_cons (x_var rfl) x_nil) c1) ?_)
    refine w_seq (w_expr (v := .non) (h1 := h) (x_call (x_cons (x_var rfl) x_nil) c2) ?_)
    refine w_seq (w_expr (v := .non) (h1 := h) (x_call (x_cons (x_var rfl) x_nil) c3) ?_)
    refine w_seq (w_if (b := false) (h1 := h) (t_tru (x_call (x_cons (x_var rfl) (x_cons (x_tup (x_cons x_c (x_cons x_c x_nil)) n16) x_nil)) c4) rfl) (fun z => by cases z) (fun _ => w_nil ?_))
    refine w_seq (w_expr (v := .non) (h1 := h) (x_call (x_cons (x_var rfl) (x_cons (x_var rfl) x_nil)) c5) ?_)
    refine w_seq (w_if (b := false) (h1 := h) (t_not (b := true) (t_tru (x_call (x_cons (x_var rfl) x_nil) c6) rfl)) (fun z => by cases z) (fun _ => w_nil ?_))
    refine w_seq (?_ : (_ : RS).Is _ _)
    have st : ∀ q : Fm, q[1]? = some (some f) → sPar3 5 6 7 (aCons (eC (.tup [.int 0, .int 1])) (aCons (eVar 1) (aCons (eC (.int 0)) aNil))) q h = .nx (((q.set 5 (some (fq (rb 0)))).set 6 (some f)).set 7 (some (.int 0))) h := fun q hq => by
      rw [rb_0]; simp [hq]
    rw [st _ rfl]
    simp only [is_nx0]
    refine w_seq (w_while 725 (fun i q g => g = h ∧ ∃ j, j + i = 725 ∧ q = [some m, some f, some r, some t, some b, some (fq (rb j)), some (fq (ra j)), some (.int (j : Nat))]) (by omega) ⟨rfl, 0, by omega, by rw [hf]; rfl⟩ ?_)
    rintro i q g ⟨rfl, j, hj, rfl⟩
    have sr : Sm 2901 (ra j) := (ra_sm j).mono (by omega)
    have sb : Sm 2910 (rb j) := (rb_sm j).mono (by omega)
    have le := less_eq sr sbig (by decide) g
    rw [stop_at (by omega)] at le
    subst hm ht hr hb
    refine ⟨!decide (j = 725), g, ?_, fun hb => ?_, fun hb => ?_⟩
    · by_cases c1 : j % 2 = 1
      · have c1' : ((j : Int) % 2 == 1) = true := by simp; omega
        simp [c1', le]
      · have c1' : ((j : Int) % 2 == 1) = false := by simp; omega
        have c2 : ¬ j = 725 := by omega
        simp [c1', c2]
    · have ns : ¬ j = 725 := by simpa using hb
      obtain ⟨i', rfl⟩ : ∃ i', i = i' + 1 := ⟨i - 1, by omega⟩
      refine ⟨i', rfl, ?_⟩
      have t1 := times_eq qs2 sr (by decide) g
      have t2 := plus_eq sb (qs2.mul sr) (by decide) g
      have t3 := times_eq sr s11 (by decide) g
      rw [← rb_s] at t2
      rw [← ra_s] at t3
      refine w_seq (w_set (v := fq (rb (j + 1))) (h1 := g) (by simp [q_two, t1, t2]) ?_)
      refine w_seq (w_set (v := fq (ra (j + 1))) (h1 := g) (by simp [t3]) ?_)
      have ag : ∀ q : Fm, q[7]? = some (some (.int (j : Nat))) → sAugAdd 7 (eC (.int 1)) q g = .nx (q.set 7 (some (.int ((j : Int) + 1)))) g := fun q hq => by simp [hq]
      rw [ag _ rfl]
      exact ⟨rfl, j + 1, by omega, rfl⟩
    · have pl := plus_eq sb sbig (by decide) g
      exact w_ret (v := fq (rb j + big)) (h1 := g) (by simp [pl]) rfl
  obtain ⟨v, g, e, rfl⟩ := key
  exact ⟨v, e⟩
theorem gw30 (h : IH) : ∃ v, f_growing_walked [.int 2, .tup [.int 1, .int 1], .tup [.int 11, .int 10], .int 1, .tup [.int 1000000000000000000000000000000, .int 1]] h = .ok v h :=
  gw_gen ra_0 rb_0 (fun _ => rfl) (fun _ => rfl) ra_sm rb_sm stop_at h rfl rfl rfl rfl rfl
theorem told_gw {h : IH} {u : Int} (e : h[0]? = some (.lst [.int 2, .tup [.int 1, .int 1], .tup [.int 11, .int 10], .int 1, .tup [.int 1000000000000000000000000000000, .int 1]])) : f__law_told [.int 7, .obj 0, .int u] h = .ok (.str "good") h := by
  obtain ⟨w, gw⟩ := gw30 h
  have a : ∃ v g, f__law_ask [.int 7, .obj 0, .int u] h = .ok v g ∧ g = h := by
    refine w_fn rfl ?_
    refine w_seq (w_if (b := false) (h1 := h) (by kernel_rfl) (fun z => by cases z) fun _ => w_nil ?_)
    refine w_seq (w_if (b := true) (h1 := h) (by kernel_rfl) (fun _ => w_ret (x_call (x_cons (x_op (x_var rfl) x_c (p_idxL e (by decide) rfl)) (x_cons (x_op (x_var rfl) x_c (p_idxL e (by decide) rfl)) (x_cons (x_op (x_var rfl) x_c (p_idxL e (by decide) rfl)) (x_cons (x_op (x_var rfl) x_c (p_idxL e (by decide) rfl)) (x_cons (x_op (x_var rfl) x_c (p_idxL e (by decide) rfl)) x_nil))))) gw) rfl) (fun z => by cases z))
  obtain ⟨v, g, a, rfl⟩ := a
  simp [f__law_told, b__law_told, sTryM, a]
theorem t7_ggggg (o1 o2 o4 o5 : MO) (q : List PV) (u : Int) : tells 7 "good" (mkS [.good "m", .good "first", .good "steep", .good "road", .good "far"]) o1 o2 q o4 o5 u = true := by
  unfold tells
  rw [told_gw (by kernel_rfl)]
  kernel_rfl
end WR

namespace WR
open PySem PySem.Spec PyProof.Rows L2
/-! ### told, judged by the kernel (printed by genc.py) -/
theorem t0_ggg (o1 o2 o4 o5 : MO) (q : List PV) (u : Int) : (tells 0 "good" (mkS [.good "roads", .good "turns", .good "cost"]) o1 o2 q o4 o5 u) = true := by kernel_rfl
theorem t0_ggw (y2 z2 o1 o2 o4 o5 : MO) (q : List PV) (u : Int) : ((badL "cost").all fun v => (tells 0 "cost" (mkS [.good "roads", .good "turns", .bad "cost" v y2 z2]) o1 o2 q o4 o5 u)) = true := by kernel_rfl
theorem t0_gwg (y1 z1 o1 o2 o4 o5 : MO) (q : List PV) (u : Int) : ((badL "turns").all fun v => (tells 0 "turns" (mkS [.good "roads", .bad "turns" v y1 z1, .good "cost"]) o1 o2 q o4 o5 u)) = true := by kernel_rfl
theorem t0_gww (v2 : PV) (y1 z1 y2 z2 o1 o2 o4 o5 : MO) (q : List PV) (u : Int) : ((badL "turns").all fun v => (tells 0 "turns" (mkS [.good "roads", .bad "turns" v y1 z1, .bad "cost" v2 y2 z2]) o1 o2 q o4 o5 u)) = true := by kernel_rfl
theorem t0_wgg (y0 z0 o1 o2 o4 o5 : MO) (q : List PV) (u : Int) : ((badL "roads").all fun v => (tells 0 "roads" (mkS [.bad "roads" v y0 z0, .good "turns", .good "cost"]) o1 o2 q o4 o5 u)) = true := by kernel_rfl
theorem t0_wgw (v2 : PV) (y0 z0 y2 z2 o1 o2 o4 o5 : MO) (q : List PV) (u : Int) : ((badL "roads").all fun v => (tells 0 "roads" (mkS [.bad "roads" v y0 z0, .good "turns", .bad "cost" v2 y2 z2]) o1 o2 q o4 o5 u)) = true := by kernel_rfl
theorem t0_wwg (v1 : PV) (y0 z0 y1 z1 o1 o2 o4 o5 : MO) (q : List PV) (u : Int) : ((badL "roads").all fun v => (tells 0 "roads" (mkS [.bad "roads" v y0 z0, .bad "turns" v1 y1 z1, .good "cost"]) o1 o2 q o4 o5 u)) = true := by kernel_rfl
theorem t0_www (v1 v2 : PV) (y0 z0 y1 z1 y2 z2 o1 o2 o4 o5 : MO) (q : List PV) (u : Int) : ((badL "roads").all fun v => (tells 0 "roads" (mkS [.bad "roads" v y0 z0, .bad "turns" v1 y1 z1, .bad "cost" v2 y2 z2]) o1 o2 q o4 o5 u)) = true := by kernel_rfl
theorem told_0 {bs : List Bool} {cs : List Ch} (h : Okb ["roads", "turns", "cost"] bs cs) (o1 o2 o4 o5 : MO) (q : List PV) {u : Int} (u0 : 0 ≤ u) (u6 : u < 6) : tells 0 (dueW cs) (mkS cs) o1 o2 q o4 o5 u = true := by
  cases h with
  | good h1 =>
    cases h1 with
    | good h2 =>
      cases h2 with
      | good h3 =>
        cases h3
        exact t0_ggg o1 o2 o4 o5 q u
      | @bad _ v2 y2 z2 _ _ _ q2 h3 =>
        cases h3
        exact List.all_eq_true.mp (t0_ggw y2 z2 o1 o2 o4 o5 q u) v2 q2
    | @bad _ v1 y1 z1 _ _ _ q1 h2 =>
      cases h2 with
      | good h3 =>
        cases h3
        exact List.all_eq_true.mp (t0_gwg y1 z1 o1 o2 o4 o5 q u) v1 q1
      | @bad _ v2 y2 z2 _ _ _ q2 h3 =>
        cases h3
        exact List.all_eq_true.mp (t0_gww v2 y1 z1 y2 z2 o1 o2 o4 o5 q u) v1 q1
  | @bad _ v0 y0 z0 _ _ _ q0 h1 =>
    cases h1 with
    | good h2 =>
      cases h2 with
      | good h3 =>
        cases h3
        exact List.all_eq_true.mp (t0_wgg y0 z0 o1 o2 o4 o5 q u) v0 q0
      | @bad _ v2 y2 z2 _ _ _ q2 h3 =>
        cases h3
        exact List.all_eq_true.mp (t0_wgw v2 y0 z0 y2 z2 o1 o2 o4 o5 q u) v0 q0
    | @bad _ v1 y1 z1 _ _ _ q1 h2 =>
      cases h2 with
      | good h3 =>
        cases h3
        exact List.all_eq_true.mp (t0_wwg v1 y0 z0 y1 z1 o1 o2 o4 o5 q u) v0 q0
      | @bad _ v2 y2 z2 _ _ _ q2 h3 =>
        cases h3
        exact List.all_eq_true.mp (t0_www v1 v2 y0 z0 y1 z1 y2 z2 o1 o2 o4 o5 q u) v0 q0
theorem t1_ggg (o1 o2 o4 o5 : MO) (q : List PV) : (six.all fun u => tells 1 "good" (mkS [.good "plan", .good "road", .good "far"]) o1 o2 q o4 o5 u) = true := by kernel_rfl
theorem t1_ggw (y2 z2 o1 o2 o4 o5 : MO) (q : List PV) : ((badL "far").all fun v => (six.all fun u => tells 1 "far" (mkS [.good "plan", .good "road", .bad "far" v y2 z2]) o1 o2 q o4 o5 u)) = true := by kernel_rfl
theorem t1_gwg (y1 z1 o1 o2 o4 o5 : MO) (q : List PV) : ((badL "road").all fun v => (six.all fun u => tells 1 "road" (mkS [.good "plan", .bad "road" v y1 z1, .good "far"]) o1 o2 q o4 o5 u)) = true := by kernel_rfl
theorem t1_gww (v2 : PV) (y1 z1 y2 z2 o1 o2 o4 o5 : MO) (q : List PV) : ((badL "road").all fun v => (six.all fun u => tells 1 "road" (mkS [.good "plan", .bad "road" v y1 z1, .bad "far" v2 y2 z2]) o1 o2 q o4 o5 u)) = true := by kernel_rfl
theorem t1_wgg (y0 z0 o1 o2 o4 o5 : MO) (q : List PV) : ((badL "plan").all fun v => (six.all fun u => tells 1 "plan" (mkS [.bad "plan" v y0 z0, .good "road", .good "far"]) o1 o2 q o4 o5 u)) = true := by kernel_rfl
theorem t1_wgw (v2 : PV) (y0 z0 y2 z2 o1 o2 o4 o5 : MO) (q : List PV) : ((badL "plan").all fun v => (six.all fun u => tells 1 "plan" (mkS [.bad "plan" v y0 z0, .good "road", .bad "far" v2 y2 z2]) o1 o2 q o4 o5 u)) = true := by kernel_rfl
theorem t1_wwg (v1 : PV) (y0 z0 y1 z1 o1 o2 o4 o5 : MO) (q : List PV) : ((badL "plan").all fun v => (six.all fun u => tells 1 "plan" (mkS [.bad "plan" v y0 z0, .bad "road" v1 y1 z1, .good "far"]) o1 o2 q o4 o5 u)) = true := by kernel_rfl
theorem t1_www (v1 v2 : PV) (y0 z0 y1 z1 y2 z2 o1 o2 o4 o5 : MO) (q : List PV) : ((badL "plan").all fun v => (six.all fun u => tells 1 "plan" (mkS [.bad "plan" v y0 z0, .bad "road" v1 y1 z1, .bad "far" v2 y2 z2]) o1 o2 q o4 o5 u)) = true := by kernel_rfl
theorem told_1 {bs : List Bool} {cs : List Ch} (h : Okb ["plan", "road", "far"] bs cs) (o1 o2 o4 o5 : MO) (q : List PV) {u : Int} (u0 : 0 ≤ u) (u6 : u < 6) : tells 1 (dueW cs) (mkS cs) o1 o2 q o4 o5 u = true := by
  cases h with
  | good h1 =>
    cases h1 with
    | good h2 =>
      cases h2 with
      | good h3 =>
        cases h3
        exact six_of (t1_ggg o1 o2 o4 o5 q) u0 u6
      | @bad _ v2 y2 z2 _ _ _ q2 h3 =>
        cases h3
        exact six_of (List.all_eq_true.mp (t1_ggw y2 z2 o1 o2 o4 o5 q) v2 q2) u0 u6
    | @bad _ v1 y1 z1 _ _ _ q1 h2 =>
      cases h2 with
      | good h3 =>
        cases h3
        exact six_of (List.all_eq_true.mp (t1_gwg y1 z1 o1 o2 o4 o5 q) v1 q1) u0 u6
      | @bad _ v2 y2 z2 _ _ _ q2 h3 =>
        cases h3
        exact six_of (List.all_eq_true.mp (t1_gww v2 y1 z1 y2 z2 o1 o2 o4 o5 q) v1 q1) u0 u6
  | @bad _ v0 y0 z0 _ _ _ q0 h1 =>
    cases h1 with
    | good h2 =>
      cases h2 with
      | good h3 =>
        cases h3
        exact six_of (List.all_eq_true.mp (t1_wgg y0 z0 o1 o2 o4 o5 q) v0 q0) u0 u6
      | @bad _ v2 y2 z2 _ _ _ q2 h3 =>
        cases h3
        exact six_of (List.all_eq_true.mp (t1_wgw v2 y0 z0 y2 z2 o1 o2 o4 o5 q) v0 q0) u0 u6
    | @bad _ v1 y1 z1 _ _ _ q1 h2 =>
      cases h2 with
      | good h3 =>
        cases h3
        exact six_of (List.all_eq_true.mp (t1_wwg v1 y0 z0 y1 z1 o1 o2 o4 o5 q) v0 q0) u0 u6
      | @bad _ v2 y2 z2 _ _ _ q2 h3 =>
        cases h3
        exact six_of (List.all_eq_true.mp (t1_www v1 v2 y0 z0 y1 z1 y2 z2 o1 o2 o4 o5 q) v0 q0) u0 u6
theorem t2_gg (o1 o2 o4 o5 : MO) (q : List PV) (u : Int) : (tells 2 "good" (mkS [.good "plan", .good "road"]) o1 o2 q o4 o5 u) = true := by kernel_rfl
theorem t2_gw (y1 z1 o1 o2 o4 o5 : MO) (q : List PV) (u : Int) : ((badL "road").all fun v => (tells 2 "road" (mkS [.good "plan", .bad "road" v y1 z1]) o1 o2 q o4 o5 u)) = true := by kernel_rfl
theorem t2_wg (y0 z0 o1 o2 o4 o5 : MO) (q : List PV) (u : Int) : ((badL "plan").all fun v => (tells 2 "plan" (mkS [.bad "plan" v y0 z0, .good "road"]) o1 o2 q o4 o5 u)) = true := by kernel_rfl
theorem t2_ww (v1 : PV) (y0 z0 y1 z1 o1 o2 o4 o5 : MO) (q : List PV) (u : Int) : ((badL "plan").all fun v => (tells 2 "plan" (mkS [.bad "plan" v y0 z0, .bad "road" v1 y1 z1]) o1 o2 q o4 o5 u)) = true := by kernel_rfl
theorem told_2 {bs : List Bool} {cs : List Ch} (h : Okb ["plan", "road"] bs cs) (o1 o2 o4 o5 : MO) (q : List PV) {u : Int} (u0 : 0 ≤ u) (u6 : u < 6) : tells 2 (dueW cs) (mkS cs) o1 o2 q o4 o5 u = true := by
  cases h with
  | good h1 =>
    cases h1 with
    | good h2 =>
      cases h2
      exact t2_gg o1 o2 o4 o5 q u
    | @bad _ v1 y1 z1 _ _ _ q1 h2 =>
      cases h2
      exact List.all_eq_true.mp (t2_gw y1 z1 o1 o2 o4 o5 q u) v1 q1
  | @bad _ v0 y0 z0 _ _ _ q0 h1 =>
    cases h1 with
    | good h2 =>
      cases h2
      exact List.all_eq_true.mp (t2_wg y0 z0 o1 o2 o4 o5 q u) v0 q0
    | @bad _ v1 y1 z1 _ _ _ q1 h2 =>
      cases h2
      exact List.all_eq_true.mp (t2_ww v1 y0 z0 y1 z1 o1 o2 o4 o5 q u) v0 q0
theorem t3_g (o1 o2 o4 o5 : MO) (q : List PV) : (six.all fun u => tells 3 "good" (mkS [.good "plan"]) o1 o2 q o4 o5 u) = true := by kernel_rfl
theorem t3_w (y0 z0 o1 o2 o4 o5 : MO) (q : List PV) : ((badL "plan").all fun v => (six.all fun u => tells 3 "plan" (mkS [.bad "plan" v y0 z0]) o1 o2 q o4 o5 u)) = true := by kernel_rfl
theorem told_3 {bs : List Bool} {cs : List Ch} (h : Okb ["plan"] bs cs) (o1 o2 o4 o5 : MO) (q : List PV) {u : Int} (u0 : 0 ≤ u) (u6 : u < 6) : tells 3 (dueW cs) (mkS cs) o1 o2 q o4 o5 u = true := by
  cases h with
  | good h1 =>
    cases h1
    exact six_of (t3_g o1 o2 o4 o5 q) u0 u6
  | @bad _ v0 y0 z0 _ _ _ q0 h1 =>
    cases h1
    exact six_of (List.all_eq_true.mp (t3_w y0 z0 o1 o2 o4 o5 q) v0 q0) u0 u6
theorem t4_g (o1 o2 o4 o5 : MO) (q : List PV) : (six.all fun u => tells 4 "good" (mkS [.good "m"]) o1 o2 q o4 o5 u) = true := by kernel_rfl
theorem t4_w (y0 z0 o1 o2 o4 o5 : MO) (q : List PV) : ((badL "m").all fun v => (six.all fun u => tells 4 "m" (mkS [.bad "m" v y0 z0]) o1 o2 q o4 o5 u)) = true := by kernel_rfl
theorem told_4 {bs : List Bool} {cs : List Ch} (h : Okb ["m"] bs cs) (o1 o2 o4 o5 : MO) (q : List PV) {u : Int} (u0 : 0 ≤ u) (u6 : u < 6) : tells 4 (dueW cs) (mkS cs) o1 o2 q o4 o5 u = true := by
  cases h with
  | good h1 =>
    cases h1
    exact six_of (t4_g o1 o2 o4 o5 q) u0 u6
  | @bad _ v0 y0 z0 _ _ _ q0 h1 =>
    cases h1
    exact six_of (List.all_eq_true.mp (t4_w y0 z0 o1 o2 o4 o5 q) v0 q0) u0 u6
theorem t5_gg (o1 o2 o4 o5 : MO) (q : List PV) (u : Int) : (tells 5 "good" (mkS [.good "m", .good "ratio"]) o1 o2 q o4 o5 u) = true := by kernel_rfl
theorem t5_gw (y1 z1 o1 o2 o4 o5 : MO) (q : List PV) (u : Int) : ((badL "ratio").all fun v => (tells 5 "ratio" (mkS [.good "m", .bad "ratio" v y1 z1]) o1 o2 q o4 o5 u)) = true := by kernel_rfl
theorem t5_wg (y0 z0 o1 o2 o4 o5 : MO) (q : List PV) (u : Int) : ((badL "m").all fun v => (tells 5 "m" (mkS [.bad "m" v y0 z0, .good "ratio"]) o1 o2 q o4 o5 u)) = true := by kernel_rfl
theorem t5_ww (v1 : PV) (y0 z0 y1 z1 o1 o2 o4 o5 : MO) (q : List PV) (u : Int) : ((badL "m").all fun v => (tells 5 "m" (mkS [.bad "m" v y0 z0, .bad "ratio" v1 y1 z1]) o1 o2 q o4 o5 u)) = true := by kernel_rfl
theorem told_5 {bs : List Bool} {cs : List Ch} (h : Okb ["m", "ratio"] bs cs) (o1 o2 o4 o5 : MO) (q : List PV) {u : Int} (u0 : 0 ≤ u) (u6 : u < 6) : tells 5 (dueW cs) (mkS cs) o1 o2 q o4 o5 u = true := by
  cases h with
  | good h1 =>
    cases h1 with
    | good h2 =>
      cases h2
      exact t5_gg o1 o2 o4 o5 q u
    | @bad _ v1 y1 z1 _ _ _ q1 h2 =>
      cases h2
      exact List.all_eq_true.mp (t5_gw y1 z1 o1 o2 o4 o5 q u) v1 q1
  | @bad _ v0 y0 z0 _ _ _ q0 h1 =>
    cases h1 with
    | good h2 =>
      cases h2
      exact List.all_eq_true.mp (t5_wg y0 z0 o1 o2 o4 o5 q u) v0 q0
    | @bad _ v1 y1 z1 _ _ _ q1 h2 =>
      cases h2
      exact List.all_eq_true.mp (t5_ww v1 y0 z0 y1 z1 o1 o2 o4 o5 q u) v0 q0
end WR

namespace WR
open PySem PySem.Spec PyProof.Rows L2
/-! ### told, judged by the kernel (printed by genc.py) -/
theorem t6_gggg (o1 o2 o4 o5 : MO) (q : List PV) (u : Int) : (tells 6 "good" (mkS [.good "m", .good "first", .good "ratio", .good "many"]) o1 o2 q o4 o5 u) = true := by kernel_rfl
theorem t6_gggw (y3 z3 o1 o2 o4 o5 : MO) (q : List PV) (u : Int) : ((badL "many").all fun v => (tells 6 "many" (mkS [.good "m", .good "first", .good "ratio", .bad "many" v y3 z3]) o1 o2 q o4 o5 u)) = true := by kernel_rfl
theorem t6_ggwg (y2 z2 o1 o2 o4 o5 : MO) (q : List PV) (u : Int) : ((badL "ratio").all fun v => (tells 6 "ratio" (mkS [.good "m", .good "first", .bad "ratio" v y2 z2, .good "many"]) o1 o2 q o4 o5 u)) = true := by kernel_rfl
theorem t6_ggww (v3 : PV) (y2 z2 y3 z3 o1 o2 o4 o5 : MO) (q : List PV) (u : Int) : ((badL "ratio").all fun v => (tells 6 "ratio" (mkS [.good "m", .good "first", .bad "ratio" v y2 z2, .bad "many" v3 y3 z3]) o1 o2 q o4 o5 u)) = true := by kernel_rfl
theorem t6_gwgg (y1 z1 o1 o2 o4 o5 : MO) (q : List PV) (u : Int) : ((badL "first").all fun v => (tells 6 "first" (mkS [.good "m", .bad "first" v y1 z1, .good "ratio", .good "many"]) o1 o2 q o4 o5 u)) = true := by kernel_rfl
theorem t6_gwgw (v3 : PV) (y1 z1 y3 z3 o1 o2 o4 o5 : MO) (q : List PV) (u : Int) : ((badL "first").all fun v => (tells 6 "first" (mkS [.good "m", .bad "first" v y1 z1, .good "ratio", .bad "many" v3 y3 z3]) o1 o2 q o4 o5 u)) = true := by kernel_rfl
theorem t6_gwwg (v2 : PV) (y1 z1 y2 z2 o1 o2 o4 o5 : MO) (q : List PV) (u : Int) : ((badL "first").all fun v => (tells 6 "first" (mkS [.good "m", .bad "first" v y1 z1, .bad "ratio" v2 y2 z2, .good "many"]) o1 o2 q o4 o5 u)) = true := by kernel_rfl
theorem t6_gwww (v2 v3 : PV) (y1 z1 y2 z2 y3 z3 o1 o2 o4 o5 : MO) (q : List PV) (u : Int) : ((badL "first").all fun v => (tells 6 "first" (mkS [.good "m", .bad "first" v y1 z1, .bad "ratio" v2 y2 z2, .bad "many" v3 y3 z3]) o1 o2 q o4 o5 u)) = true := by kernel_rfl
theorem t6_wggg (y0 z0 o1 o2 o4 o5 : MO) (q : List PV) (u : Int) : ((badL "m").all fun v => (tells 6 "m" (mkS [.bad "m" v y0 z0, .good "first", .good "ratio", .good "many"]) o1 o2 q o4 o5 u)) = true := by kernel_rfl
theorem t6_wggw (v3 : PV) (y0 z0 y3 z3 o1 o2 o4 o5 : MO) (q : List PV) (u : Int) : ((badL "m").all fun v => (tells 6 "m" (mkS [.bad "m" v y0 z0, .good "first", .good "ratio", .bad "many" v3 y3 z3]) o1 o2 q o4 o5 u)) = true := by kernel_rfl
theorem t6_wgwg (v2 : PV) (y0 z0 y2 z2 o1 o2 o4 o5 : MO) (q : List PV) (u : Int) : ((badL "m").all fun v => (tells 6 "m" (mkS [.bad "m" v y0 z0, .good "first", .bad "ratio" v2 y2 z2, .good "many"]) o1 o2 q o4 o5 u)) = true := by kernel_rfl
theorem t6_wgww (v2 v3 : PV) (y0 z0 y2 z2 y3 z3 o1 o2 o4 o5 : MO) (q : List PV) (u : Int) : ((badL "m").all fun v => (tells 6 "m" (mkS [.bad "m" v y0 z0, .good "first", .bad "ratio" v2 y2 z2, .bad "many" v3 y3 z3]) o1 o2 q o4 o5 u)) = true := by kernel_rfl
theorem t6_wwgg (v1 : PV) (y0 z0 y1 z1 o1 o2 o4 o5 : MO) (q : List PV) (u : Int) : ((badL "m").all fun v => (tells 6 "m" (mkS [.bad "m" v y0 z0, .bad "first" v1 y1 z1, .good "ratio", .good "many"]) o1 o2 q o4 o5 u)) = true := by kernel_rfl
theorem t6_wwgw (v1 v3 : PV) (y0 z0 y1 z1 y3 z3 o1 o2 o4 o5 : MO) (q : List PV) (u : Int) : ((badL "m").all fun v => (tells 6 "m" (mkS [.bad "m" v y0 z0, .bad "first" v1 y1 z1, .good "ratio", .bad "many" v3 y3 z3]) o1 o2 q o4 o5 u)) = true := by kernel_rfl
theorem t6_wwwg (v1 v2 : PV) (y0 z0 y1 z1 y2 z2 o1 o2 o4 o5 : MO) (q : List PV) (u : Int) : ((badL "m").all fun v => (tells 6 "m" (mkS [.bad "m" v y0 z0, .bad "first" v1 y1 z1, .bad "ratio" v2 y2 z2, .good "many"]) o1 o2 q o4 o5 u)) = true := by kernel_rfl
theorem t6_wwww (v1 v2 v3 : PV) (y0 z0 y1 z1 y2 z2 y3 z3 o1 o2 o4 o5 : MO) (q : List PV) (u : Int) : ((badL "m").all fun v => (tells 6 "m" (mkS [.bad "m" v y0 z0, .bad "first" v1 y1 z1, .bad "ratio" v2 y2 z2, .bad "many" v3 y3 z3]) o1 o2 q o4 o5 u)) = true := by kernel_rfl
theorem told_6 {bs : List Bool} {cs : List Ch} (h : Okb ["m", "first", "ratio", "many"] bs cs) (o1 o2 o4 o5 : MO) (q : List PV) {u : Int} (u0 : 0 ≤ u) (u6 : u < 6) : tells 6 (dueW cs) (mkS cs) o1 o2 q o4 o5 u = true := by
  cases h with
  | good h1 =>
    cases h1 with
    | good h2 =>
      cases h2 with
      | good h3 =>
        cases h3 with
        | good h4 =>
          cases h4
          exact t6_gggg o1 o2 o4 o5 q u
        | @bad _ v3 y3 z3 _ _ _ q3 h4 =>
          cases h4
          exact List.all_eq_true.mp (t6_gggw y3 z3 o1 o2 o4 o5 q u) v3 q3
      | @bad _ v2 y2 z2 _ _ _ q2 h3 =>
        cases h3 with
        | good h4 =>
          cases h4
          exact List.all_eq_true.mp (t6_ggwg y2 z2 o1 o2 o4 o5 q u) v2 q2
        | @bad _ v3 y3 z3 _ _ _ q3 h4 =>
          cases h4
          exact List.all_eq_true.mp (t6_ggww v3 y2 z2 y3 z3 o1 o2 o4 o5 q u) v2 q2
    | @bad _ v1 y1 z1 _ _ _ q1 h2 =>
      cases h2 with
      | good h3 =>
        cases h3 with
        | good h4 =>
          cases h4
          exact List.all_eq_true.mp (t6_gwgg y1 z1 o1 o2 o4 o5 q u) v1 q1
        | @bad _ v3 y3 z3 _ _ _ q3 h4 =>
          cases h4
          exact List.all_eq_true.mp (t6_gwgw v3 y1 z1 y3 z3 o1 o2 o4 o5 q u) v1 q1
      | @bad _ v2 y2 z2 _ _ _ q2 h3 =>
        cases h3 with
        | good h4 =>
          cases h4
          exact List.all_eq_true.mp (t6_gwwg v2 y1 z1 y2 z2 o1 o2 o4 o5 q u) v1 q1
        | @bad _ v3 y3 z3 _ _ _ q3 h4 =>
          cases h4
          exact List.all_eq_true.mp (t6_gwww v2 v3 y1 z1 y2 z2 y3 z3 o1 o2 o4 o5 q u) v1 q1
  | @bad _ v0 y0 z0 _ _ _ q0 h1 =>
    cases h1 with
    | good h2 =>
      cases h2 with
      | good h3 =>
        cases h3 with
        | good h4 =>
          cases h4
          exact List.all_eq_true.mp (t6_wggg y0 z0 o1 o2 o4 o5 q u) v0 q0
        | @bad _ v3 y3 z3 _ _ _ q3 h4 =>
          cases h4
          exact List.all_eq_true.mp (t6_wggw v3 y0 z0 y3 z3 o1 o2 o4 o5 q u) v0 q0
      | @bad _ v2 y2 z2 _ _ _ q2 h3 =>
        cases h3 with
        | good h4 =>
          cases h4
          exact List.all_eq_true.mp (t6_wgwg v2 y0 z0 y2 z2 o1 o2 o4 o5 q u) v0 q0
        | @bad _ v3 y3 z3 _ _ _ q3 h4 =>
          cases h4
          exact List.all_eq_true.mp (t6_wgww v2 v3 y0 z0 y2 z2 y3 z3 o1 o2 o4 o5 q u) v0 q0
    | @bad _ v1 y1 z1 _ _ _ q1 h2 =>
      cases h2 with
      | good h3 =>
        cases h3 with
        | good h4 =>
          cases h4
          exact List.all_eq_true.mp (t6_wwgg v1 y0 z0 y1 z1 o1 o2 o4 o5 q u) v0 q0
        | @bad _ v3 y3 z3 _ _ _ q3 h4 =>
          cases h4
          exact List.all_eq_true.mp (t6_wwgw v1 v3 y0 z0 y1 z1 y3 z3 o1 o2 o4 o5 q u) v0 q0
      | @bad _ v2 y2 z2 _ _ _ q2 h3 =>
        cases h3 with
        | good h4 =>
          cases h4
          exact List.all_eq_true.mp (t6_wwwg v1 v2 y0 z0 y1 z1 y2 z2 o1 o2 o4 o5 q u) v0 q0
        | @bad _ v3 y3 z3 _ _ _ q3 h4 =>
          cases h4
          exact List.all_eq_true.mp (t6_wwww v1 v2 v3 y0 z0 y1 z1 y2 z2 y3 z3 o1 o2 o4 o5 q u) v0 q0
theorem t8_g (o1 o2 o4 o5 : MO) (q : List PV) (u : Int) : (tells 8 "good" (mkS [.good "share"]) o1 o2 q o4 o5 u) = true := by kernel_rfl
theorem t8_w (y0 z0 o1 o2 o4 o5 : MO) (q : List PV) (u : Int) : ((badL "share").all fun v => (tells 8 "share" (mkS [.bad "share" v y0 z0]) o1 o2 q o4 o5 u)) = true := by kernel_rfl
theorem told_8 {bs : List Bool} {cs : List Ch} (h : Okb ["share"] bs cs) (o1 o2 o4 o5 : MO) (q : List PV) {u : Int} (u0 : 0 ≤ u) (u6 : u < 6) : tells 8 (dueW cs) (mkS cs) o1 o2 q o4 o5 u = true := by
  cases h with
  | good h1 =>
    cases h1
    exact t8_g o1 o2 o4 o5 q u
  | @bad _ v0 y0 z0 _ _ _ q0 h1 =>
    cases h1
    exact List.all_eq_true.mp (t8_w y0 z0 o1 o2 o4 o5 q u) v0 q0
theorem t9_gg (o1 o2 o4 o5 : MO) (q : List PV) (u : Int) : (tells 9 "good" (mkS [.good "share", .good "near"]) o1 o2 q o4 o5 u) = true := by kernel_rfl
theorem t9_gw (y1 z1 o1 o2 o4 o5 : MO) (q : List PV) (u : Int) : ((badL "near").all fun v => (tells 9 "near" (mkS [.good "share", .bad "near" v y1 z1]) o1 o2 q o4 o5 u)) = true := by kernel_rfl
theorem t9_wg (y0 z0 o1 o2 o4 o5 : MO) (q : List PV) (u : Int) : ((badL "share").all fun v => (tells 9 "share" (mkS [.bad "share" v y0 z0, .good "near"]) o1 o2 q o4 o5 u)) = true := by kernel_rfl
theorem t9_ww (v1 : PV) (y0 z0 y1 z1 o1 o2 o4 o5 : MO) (q : List PV) (u : Int) : ((badL "share").all fun v => (tells 9 "share" (mkS [.bad "share" v y0 z0, .bad "near" v1 y1 z1]) o1 o2 q o4 o5 u)) = true := by kernel_rfl
theorem told_9 {bs : List Bool} {cs : List Ch} (h : Okb ["share", "near"] bs cs) (o1 o2 o4 o5 : MO) (q : List PV) {u : Int} (u0 : 0 ≤ u) (u6 : u < 6) : tells 9 (dueW cs) (mkS cs) o1 o2 q o4 o5 u = true := by
  cases h with
  | good h1 =>
    cases h1 with
    | good h2 =>
      cases h2
      exact t9_gg o1 o2 o4 o5 q u
    | @bad _ v1 y1 z1 _ _ _ q1 h2 =>
      cases h2
      exact List.all_eq_true.mp (t9_gw y1 z1 o1 o2 o4 o5 q u) v1 q1
  | @bad _ v0 y0 z0 _ _ _ q0 h1 =>
    cases h1 with
    | good h2 =>
      cases h2
      exact List.all_eq_true.mp (t9_wg y0 z0 o1 o2 o4 o5 q u) v0 q0
    | @bad _ v1 y1 z1 _ _ _ q1 h2 =>
      cases h2
      exact List.all_eq_true.mp (t9_ww v1 y0 z0 y1 z1 o1 o2 o4 o5 q u) v0 q0
theorem t11_gg (o1 o2 o4 o5 : MO) (q : List PV) (u : Int) : (tells 11 "good" (mkS [.good "team", .good "missing"]) o1 o2 q o4 o5 u) = true := by kernel_rfl
theorem t11_gw (y1 z1 o1 o2 o4 o5 : MO) (q : List PV) (u : Int) : ((badL "missing").all fun v => (tells 11 "missing" (mkS [.good "team", .bad "missing" v y1 z1]) o1 o2 q o4 o5 u)) = true := by kernel_rfl
theorem t11_wg (y0 z0 o1 o2 o4 o5 : MO) (q : List PV) (u : Int) : ((badL "team").all fun v => (tells 11 "team" (mkS [.bad "team" v y0 z0, .good "missing"]) o1 o2 q o4 o5 u)) = true := by kernel_rfl
theorem t11_ww (v1 : PV) (y0 z0 y1 z1 o1 o2 o4 o5 : MO) (q : List PV) (u : Int) : ((badL "team").all fun v => (tells 11 "team" (mkS [.bad "team" v y0 z0, .bad "missing" v1 y1 z1]) o1 o2 q o4 o5 u)) = true := by kernel_rfl
theorem told_11 {bs : List Bool} {cs : List Ch} (h : Okb ["team", "missing"] bs cs) (o1 o2 o4 o5 : MO) (q : List PV) {u : Int} (u0 : 0 ≤ u) (u6 : u < 6) : tells 11 (dueW cs) (mkS cs) o1 o2 q o4 o5 u = true := by
  cases h with
  | good h1 =>
    cases h1 with
    | good h2 =>
      cases h2
      exact t11_gg o1 o2 o4 o5 q u
    | @bad _ v1 y1 z1 _ _ _ q1 h2 =>
      cases h2
      exact List.all_eq_true.mp (t11_gw y1 z1 o1 o2 o4 o5 q u) v1 q1
  | @bad _ v0 y0 z0 _ _ _ q0 h1 =>
    cases h1 with
    | good h2 =>
      cases h2
      exact List.all_eq_true.mp (t11_wg y0 z0 o1 o2 o4 o5 q u) v0 q0
    | @bad _ v1 y1 z1 _ _ _ q1 h2 =>
      cases h2
      exact List.all_eq_true.mp (t11_ww v1 y0 z0 y1 z1 o1 o2 o4 o5 q u) v0 q0
theorem t12_gg (o1 o2 o4 o5 : MO) (q : List PV) : (six.all fun u => tells 12 "good" (mkS [.good "roads", .good "chances"]) o1 o2 q o4 o5 u) = true := by kernel_rfl
theorem t12_gw (y1 z1 o1 o2 o4 o5 : MO) (q : List PV) : ((badL "chances").all fun v => (six.all fun u => tells 12 "chances" (mkS [.good "roads", .bad "chances" v y1 z1]) o1 o2 q o4 o5 u)) = true := by kernel_rfl
theorem t12_wg (y0 z0 o1 o2 o4 o5 : MO) (q : List PV) : ((badL "roads").all fun v => (six.all fun u => tells 12 "roads" (mkS [.bad "roads" v y0 z0, .good "chances"]) o1 o2 q o4 o5 u)) = true := by kernel_rfl
theorem t12_ww (v1 : PV) (y0 z0 y1 z1 o1 o2 o4 o5 : MO) (q : List PV) : ((badL "roads").all fun v => (six.all fun u => tells 12 "roads" (mkS [.bad "roads" v y0 z0, .bad "chances" v1 y1 z1]) o1 o2 q o4 o5 u)) = true := by kernel_rfl
theorem told_12 {bs : List Bool} {cs : List Ch} (h : Okb ["roads", "chances"] bs cs) (o1 o2 o4 o5 : MO) (q : List PV) {u : Int} (u0 : 0 ≤ u) (u6 : u < 6) : tells 12 (dueW cs) (mkS cs) o1 o2 q o4 o5 u = true := by
  cases h with
  | good h1 =>
    cases h1 with
    | good h2 =>
      cases h2
      exact six_of (t12_gg o1 o2 o4 o5 q) u0 u6
    | @bad _ v1 y1 z1 _ _ _ q1 h2 =>
      cases h2
      exact six_of (List.all_eq_true.mp (t12_gw y1 z1 o1 o2 o4 o5 q) v1 q1) u0 u6
  | @bad _ v0 y0 z0 _ _ _ q0 h1 =>
    cases h1 with
    | good h2 =>
      cases h2
      exact six_of (List.all_eq_true.mp (t12_wg y0 z0 o1 o2 o4 o5 q) v0 q0) u0 u6
    | @bad _ v1 y1 z1 _ _ _ q1 h2 =>
      cases h2
      exact six_of (List.all_eq_true.mp (t12_ww v1 y0 z0 y1 z1 o1 o2 o4 o5 q) v0 q0) u0 u6
theorem t13_gg (o1 o2 o4 o5 : MO) (q : List PV) (u : Int) : (tells 13 "good" (mkS [.good "roads", .good "cost"]) o1 o2 q o4 o5 u) = true := by kernel_rfl
theorem t13_gw (y1 z1 o1 o2 o4 o5 : MO) (q : List PV) (u : Int) : ((badL "cost").all fun v => (tells 13 "cost" (mkS [.good "roads", .bad "cost" v y1 z1]) o1 o2 q o4 o5 u)) = true := by kernel_rfl
theorem t13_wg (y0 z0 o1 o2 o4 o5 : MO) (q : List PV) (u : Int) : ((badL "roads").all fun v => (tells 13 "roads" (mkS [.bad "roads" v y0 z0, .good "cost"]) o1 o2 q o4 o5 u)) = true := by kernel_rfl
theorem t13_ww (v1 : PV) (y0 z0 y1 z1 o1 o2 o4 o5 : MO) (q : List PV) (u : Int) : ((badL "roads").all fun v => (tells 13 "roads" (mkS [.bad "roads" v y0 z0, .bad "cost" v1 y1 z1]) o1 o2 q o4 o5 u)) = true := by kernel_rfl
theorem told_13 {bs : List Bool} {cs : List Ch} (h : Okb ["roads", "cost"] bs cs) (o1 o2 o4 o5 : MO) (q : List PV) {u : Int} (u0 : 0 ≤ u) (u6 : u < 6) : tells 13 (dueW cs) (mkS cs) o1 o2 q o4 o5 u = true := by
  cases h with
  | good h1 =>
    cases h1 with
    | good h2 =>
      cases h2
      exact t13_gg o1 o2 o4 o5 q u
    | @bad _ v1 y1 z1 _ _ _ q1 h2 =>
      cases h2
      exact List.all_eq_true.mp (t13_gw y1 z1 o1 o2 o4 o5 q u) v1 q1
  | @bad _ v0 y0 z0 _ _ _ q0 h1 =>
    cases h1 with
    | good h2 =>
      cases h2
      exact List.all_eq_true.mp (t13_wg y0 z0 o1 o2 o4 o5 q u) v0 q0
    | @bad _ v1 y1 z1 _ _ _ q1 h2 =>
      cases h2
      exact List.all_eq_true.mp (t13_ww v1 y0 z0 y1 z1 o1 o2 o4 o5 q u) v0 q0
end WR

namespace WR
open PySem PySem.Spec PyProof.Rows L2
/-! ### told, judged by the kernel (printed by genc.py) -/
theorem t7_ggggw (y4 z4 o1 o2 o4 o5 : MO) (q : List PV) (u : Int) : ((badL "far").all fun v => (tells 7 "far" (mkS [.good "m", .good "first", .good "steep", .good "road", .bad "far" v y4 z4]) o1 o2 q o4 o5 u)) = true := by kernel_rfl
theorem t7_gggwg (y3 z3 o1 o2 o4 o5 : MO) (q : List PV) (u : Int) : ((badL "road").all fun v => (tells 7 "road" (mkS [.good "m", .good "first", .good "steep", .bad "road" v y3 z3, .good "far"]) o1 o2 q o4 o5 u)) = true := by kernel_rfl
theorem t7_gggww (v4 : PV) (y3 z3 y4 z4 o1 o2 o4 o5 : MO) (q : List PV) (u : Int) : ((badL "road").all fun v => (tells 7 "road" (mkS [.good "m", .good "first", .good "steep", .bad "road" v y3 z3, .bad "far" v4 y4 z4]) o1 o2 q o4 o5 u)) = true := by kernel_rfl
theorem t7_ggwgg (y2 z2 o1 o2 o4 o5 : MO) (q : List PV) (u : Int) : ((badL "steep").all fun v => (tells 7 "steep" (mkS [.good "m", .good "first", .bad "steep" v y2 z2, .good "road", .good "far"]) o1 o2 q o4 o5 u)) = true := by kernel_rfl
theorem t7_ggwgw (v4 : PV) (y2 z2 y4 z4 o1 o2 o4 o5 : MO) (q : List PV) (u : Int) : ((badL "steep").all fun v => (tells 7 "steep" (mkS [.good "m", .good "first", .bad "steep" v y2 z2, .good "road", .bad "far" v4 y4 z4]) o1 o2 q o4 o5 u)) = true := by kernel_rfl
theorem t7_ggwwg (v3 : PV) (y2 z2 y3 z3 o1 o2 o4 o5 : MO) (q : List PV) (u : Int) : ((badL "steep").all fun v => (tells 7 "steep" (mkS [.good "m", .good "first", .bad "steep" v y2 z2, .bad "road" v3 y3 z3, .good "far"]) o1 o2 q o4 o5 u)) = true := by kernel_rfl
theorem t7_ggwww (v3 v4 : PV) (y2 z2 y3 z3 y4 z4 o1 o2 o4 o5 : MO) (q : List PV) (u : Int) : ((badL "steep").all fun v => (tells 7 "steep" (mkS [.good "m", .good "first", .bad "steep" v y2 z2, .bad "road" v3 y3 z3, .bad "far" v4 y4 z4]) o1 o2 q o4 o5 u)) = true := by kernel_rfl
theorem t7_gwggg (y1 z1 o1 o2 o4 o5 : MO) (q : List PV) (u : Int) : ((badL "first").all fun v => (tells 7 "first" (mkS [.good "m", .bad "first" v y1 z1, .good "steep", .good "road", .good "far"]) o1 o2 q o4 o5 u)) = true := by kernel_rfl
theorem t7_gwggw (v4 : PV) (y1 z1 y4 z4 o1 o2 o4 o5 : MO) (q : List PV) (u : Int) : ((badL "first").all fun v => (tells 7 "first" (mkS [.good "m", .bad "first" v y1 z1, .good "steep", .good "road", .bad "far" v4 y4 z4]) o1 o2 q o4 o5 u)) = true := by kernel_rfl
theorem t7_gwgwg (v3 : PV) (y1 z1 y3 z3 o1 o2 o4 o5 : MO) (q : List PV) (u : Int) : ((badL "first").all fun v => (tells 7 "first" (mkS [.good "m", .bad "first" v y1 z1, .good "steep", .bad "road" v3 y3 z3, .good "far"]) o1 o2 q o4 o5 u)) = true := by kernel_rfl
theorem t7_gwgww (v3 v4 : PV) (y1 z1 y3 z3 y4 z4 o1 o2 o4 o5 : MO) (q : List PV) (u : Int) : ((badL "first").all fun v => (tells 7 "first" (mkS [.good "m", .bad "first" v y1 z1, .good "steep", .bad "road" v3 y3 z3, .bad "far" v4 y4 z4]) o1 o2 q o4 o5 u)) = true := by kernel_rfl
theorem t7_gwwgg (v2 : PV) (y1 z1 y2 z2 o1 o2 o4 o5 : MO) (q : List PV) (u : Int) : ((badL "first").all fun v => (tells 7 "first" (mkS [.good "m", .bad "first" v y1 z1, .bad "steep" v2 y2 z2, .good "road", .good "far"]) o1 o2 q o4 o5 u)) = true := by kernel_rfl
theorem t7_gwwgw (v2 v4 : PV) (y1 z1 y2 z2 y4 z4 o1 o2 o4 o5 : MO) (q : List PV) (u : Int) : ((badL "first").all fun v => (tells 7 "first" (mkS [.good "m", .bad "first" v y1 z1, .bad "steep" v2 y2 z2, .good "road", .bad "far" v4 y4 z4]) o1 o2 q o4 o5 u)) = true := by kernel_rfl
theorem t7_gwwwg (v2 v3 : PV) (y1 z1 y2 z2 y3 z3 o1 o2 o4 o5 : MO) (q : List PV) (u : Int) : ((badL "first").all fun v => (tells 7 "first" (mkS [.good "m", .bad "first" v y1 z1, .bad "steep" v2 y2 z2, .bad "road" v3 y3 z3, .good "far"]) o1 o2 q o4 o5 u)) = true := by kernel_rfl
theorem t7_gwwww (v2 v3 v4 : PV) (y1 z1 y2 z2 y3 z3 y4 z4 o1 o2 o4 o5 : MO) (q : List PV) (u : Int) : ((badL "first").all fun v => (tells 7 "first" (mkS [.good "m", .bad "first" v y1 z1, .bad "steep" v2 y2 z2, .bad "road" v3 y3 z3, .bad "far" v4 y4 z4]) o1 o2 q o4 o5 u)) = true := by kernel_rfl
theorem t7_wgggg (y0 z0 o1 o2 o4 o5 : MO) (q : List PV) (u : Int) : ((badL "m").all fun v => (tells 7 "m" (mkS [.bad "m" v y0 z0, .good "first", .good "steep", .good "road", .good "far"]) o1 o2 q o4 o5 u)) = true := by kernel_rfl
theorem t7_wgggw (v4 : PV) (y0 z0 y4 z4 o1 o2 o4 o5 : MO) (q : List PV) (u : Int) : ((badL "m").all fun v => (tells 7 "m" (mkS [.bad "m" v y0 z0, .good "first", .good "steep", .good "road", .bad "far" v4 y4 z4]) o1 o2 q o4 o5 u)) = true := by kernel_rfl
theorem t7_wggwg (v3 : PV) (y0 z0 y3 z3 o1 o2 o4 o5 : MO) (q : List PV) (u : Int) : ((badL "m").all fun v => (tells 7 "m" (mkS [.bad "m" v y0 z0, .good "first", .good "steep", .bad "road" v3 y3 z3, .good "far"]) o1 o2 q o4 o5 u)) = true := by kernel_rfl
theorem t7_wggww (v3 v4 : PV) (y0 z0 y3 z3 y4 z4 o1 o2 o4 o5 : MO) (q : List PV) (u : Int) : ((badL "m").all fun v => (tells 7 "m" (mkS [.bad "m" v y0 z0, .good "first", .good "steep", .bad "road" v3 y3 z3, .bad "far" v4 y4 z4]) o1 o2 q o4 o5 u)) = true := by kernel_rfl
theorem t7_wgwgg (v2 : PV) (y0 z0 y2 z2 o1 o2 o4 o5 : MO) (q : List PV) (u : Int) : ((badL "m").all fun v => (tells 7 "m" (mkS [.bad "m" v y0 z0, .good "first", .bad "steep" v2 y2 z2, .good "road", .good "far"]) o1 o2 q o4 o5 u)) = true := by kernel_rfl
theorem t7_wgwgw (v2 v4 : PV) (y0 z0 y2 z2 y4 z4 o1 o2 o4 o5 : MO) (q : List PV) (u : Int) : ((badL "m").all fun v => (tells 7 "m" (mkS [.bad "m" v y0 z0, .good "first", .bad "steep" v2 y2 z2, .good "road", .bad "far" v4 y4 z4]) o1 o2 q o4 o5 u)) = true := by kernel_rfl
theorem t7_wgwwg (v2 v3 : PV) (y0 z0 y2 z2 y3 z3 o1 o2 o4 o5 : MO) (q : List PV) (u : Int) : ((badL "m").all fun v => (tells 7 "m" (mkS [.bad "m" v y0 z0, .good "first", .bad "steep" v2 y2 z2, .bad "road" v3 y3 z3, .good "far"]) o1 o2 q o4 o5 u)) = true := by kernel_rfl
theorem t7_wgwww (v2 v3 v4 : PV) (y0 z0 y2 z2 y3 z3 y4 z4 o1 o2 o4 o5 : MO) (q : List PV) (u : Int) : ((badL "m").all fun v => (tells 7 "m" (mkS [.bad "m" v y0 z0, .good "first", .bad "steep" v2 y2 z2, .bad "road" v3 y3 z3, .bad "far" v4 y4 z4]) o1 o2 q o4 o5 u)) = true := by kernel_rfl
theorem t7_wwggg (v1 : PV) (y0 z0 y1 z1 o1 o2 o4 o5 : MO) (q : List PV) (u : Int) : ((badL "m").all fun v => (tells 7 "m" (mkS [.bad "m" v y0 z0, .bad "first" v1 y1 z1, .good "steep", .good "road", .good "far"]) o1 o2 q o4 o5 u)) = true := by kernel_rfl
theorem t7_wwggw (v1 v4 : PV) (y0 z0 y1 z1 y4 z4 o1 o2 o4 o5 : MO) (q : List PV) (u : Int) : ((badL "m").all fun v => (tells 7 "m" (mkS [.bad "m" v y0 z0, .bad "first" v1 y1 z1, .good "steep", .good "road", .bad "far" v4 y4 z4]) o1 o2 q o4 o5 u)) = true := by kernel_rfl
theorem t7_wwgwg (v1 v3 : PV) (y0 z0 y1 z1 y3 z3 o1 o2 o4 o5 : MO) (q : List PV) (u : Int) : ((badL "m").all fun v => (tells 7 "m" (mkS [.bad "m" v y0 z0, .bad "first" v1 y1 z1, .good "steep", .bad "road" v3 y3 z3, .good "far"]) o1 o2 q o4 o5 u)) = true := by kernel_rfl
theorem t7_wwgww (v1 v3 v4 : PV) (y0 z0 y1 z1 y3 z3 y4 z4 o1 o2 o4 o5 : MO) (q : List PV) (u : Int) : ((badL "m").all fun v => (tells 7 "m" (mkS [.bad "m" v y0 z0, .bad "first" v1 y1 z1, .good "steep", .bad "road" v3 y3 z3, .bad "far" v4 y4 z4]) o1 o2 q o4 o5 u)) = true := by kernel_rfl
theorem t7_wwwgg (v1 v2 : PV) (y0 z0 y1 z1 y2 z2 o1 o2 o4 o5 : MO) (q : List PV) (u : Int) : ((badL "m").all fun v => (tells 7 "m" (mkS [.bad "m" v y0 z0, .bad "first" v1 y1 z1, .bad "steep" v2 y2 z2, .good "road", .good "far"]) o1 o2 q o4 o5 u)) = true := by kernel_rfl
theorem t7_wwwgw (v1 v2 v4 : PV) (y0 z0 y1 z1 y2 z2 y4 z4 o1 o2 o4 o5 : MO) (q : List PV) (u : Int) : ((badL "m").all fun v => (tells 7 "m" (mkS [.bad "m" v y0 z0, .bad "first" v1 y1 z1, .bad "steep" v2 y2 z2, .good "road", .bad "far" v4 y4 z4]) o1 o2 q o4 o5 u)) = true := by kernel_rfl
theorem t7_wwwwg (v1 v2 v3 : PV) (y0 z0 y1 z1 y2 z2 y3 z3 o1 o2 o4 o5 : MO) (q : List PV) (u : Int) : ((badL "m").all fun v => (tells 7 "m" (mkS [.bad "m" v y0 z0, .bad "first" v1 y1 z1, .bad "steep" v2 y2 z2, .bad "road" v3 y3 z3, .good "far"]) o1 o2 q o4 o5 u)) = true := by kernel_rfl
theorem t7_wwwww (v1 v2 v3 v4 : PV) (y0 z0 y1 z1 y2 z2 y3 z3 y4 z4 o1 o2 o4 o5 : MO) (q : List PV) (u : Int) : ((badL "m").all fun v => (tells 7 "m" (mkS [.bad "m" v y0 z0, .bad "first" v1 y1 z1, .bad "steep" v2 y2 z2, .bad "road" v3 y3 z3, .bad "far" v4 y4 z4]) o1 o2 q o4 o5 u)) = true := by kernel_rfl
theorem told_7 {bs : List Bool} {cs : List Ch} (h : Okb ["m", "first", "steep", "road", "far"] bs cs) (o1 o2 o4 o5 : MO) (q : List PV) {u : Int} (u0 : 0 ≤ u) (u6 : u < 6) : tells 7 (dueW cs) (mkS cs) o1 o2 q o4 o5 u = true := by
  cases h with
  | good h1 =>
    cases h1 with
    | good h2 =>
      cases h2 with
      | good h3 =>
        cases h3 with
        | good h4 =>
          cases h4 with
          | good h5 =>
            cases h5
            exact t7_ggggg o1 o2 o4 o5 q u
          | @bad _ v4 y4 z4 _ _ _ q4 h5 =>
            cases h5
            exact List.all_eq_true.mp (t7_ggggw y4 z4 o1 o2 o4 o5 q u) v4 q4
        | @bad _ v3 y3 z3 _ _ _ q3 h4 =>
          cases h4 with
          | good h5 =>
            cases h5
            exact List.all_eq_true.mp (t7_gggwg y3 z3 o1 o2 o4 o5 q u) v3 q3
          | @bad _ v4 y4 z4 _ _ _ q4 h5 =>
            cases h5
            exact List.all_eq_true.mp (t7_gggww v4 y3 z3 y4 z4 o1 o2 o4 o5 q u) v3 q3
      | @bad _ v2 y2 z2 _ _ _ q2 h3 =>
        cases h3 with
        | good h4 =>
          cases h4 with
          | good h5 =>
            cases h5
            exact List.all_eq_true.mp (t7_ggwgg y2 z2 o1 o2 o4 o5 q u) v2 q2
          | @bad _ v4 y4 z4 _ _ _ q4 h5 =>
            cases h5
            exact List.all_eq_true.mp (t7_ggwgw v4 y2 z2 y4 z4 o1 o2 o4 o5 q u) v2 q2
        | @bad _ v3 y3 z3 _ _ _ q3 h4 =>
          cases h4 with
          | good h5 =>
            cases h5
            exact List.all_eq_true.mp (t7_ggwwg v3 y2 z2 y3 z3 o1 o2 o4 o5 q u) v2 q2
          | @bad _ v4 y4 z4 _ _ _ q4 h5 =>
            cases h5
            exact List.all_eq_true.mp (t7_ggwww v3 v4 y2 z2 y3 z3 y4 z4 o1 o2 o4 o5 q u) v2 q2
    | @bad _ v1 y1 z1 _ _ _ q1 h2 =>
      cases h2 with
      | good h3 =>
        cases h3 with
        | good h4 =>
          cases h4 with
          | good h5 =>
            cases h5
            exact List.all_eq_true.mp (t7_gwggg y1 z1 o1 o2 o4 o5 q u) v1 q1
          | @bad _ v4 y4 z4 _ _ _ q4 h5 =>
            cases h5
            exact List.all_eq_true.mp (t7_gwggw v4 y1 z1 y4 z4 o1 o2 o4 o5 q u) v1 q1
        | @bad _ v3 y3 z3 _ _ _ q3 h4 =>
          cases h4 with
          | good h5 =>
            cases h5
            exact List.all_eq_true.mp (t7_gwgwg v3 y1 z1 y3 z3 o1 o2 o4 o5 q u) v1 q1
          | @bad _ v4 y4 z4 _ _ _ q4 h5 =>
            cases h5
            exact List.all_eq_true.mp (t7_gwgww v3 v4 y1 z1 y3 z3 y4 z4 o1 o2 o4 o5 q u) v1 q1
      | @bad _ v2 y2 z2 _ _ _ q2 h3 =>
        cases h3 with
        | good h4 =>
          cases h4 with
          | good h5 =>
            cases h5
            exact List.all_eq_true.mp (t7_gwwgg v2 y1 z1 y2 z2 o1 o2 o4 o5 q u) v1 q1
          | @bad _ v4 y4 z4 _ _ _ q4 h5 =>
            cases h5
            exact List.all_eq_true.mp (t7_gwwgw v2 v4 y1 z1 y2 z2 y4 z4 o1 o2 o4 o5 q u) v1 q1
        | @bad _ v3 y3 z3 _ _ _ q3 h4 =>
          cases h4 with
          | good h5 =>
            cases h5
            exact List.all_eq_true.mp (t7_gwwwg v2 v3 y1 z1 y2 z2 y3 z3 o1 o2 o4 o5 q u) v1 q1
          | @bad _ v4 y4 z4 _ _ _ q4 h5 =>
            cases h5
            exact List.all_eq_true.mp (t7_gwwww v2 v3 v4 y1 z1 y2 z2 y3 z3 y4 z4 o1 o2 o4 o5 q u) v1 q1
  | @bad _ v0 y0 z0 _ _ _ q0 h1 =>
    cases h1 with
    | good h2 =>
      cases h2 with
      | good h3 =>
        cases h3 with
        | good h4 =>
          cases h4 with
          | good h5 =>
            cases h5
            exact List.all_eq_true.mp (t7_wgggg y0 z0 o1 o2 o4 o5 q u) v0 q0
          | @bad _ v4 y4 z4 _ _ _ q4 h5 =>
            cases h5
            exact List.all_eq_true.mp (t7_wgggw v4 y0 z0 y4 z4 o1 o2 o4 o5 q u) v0 q0
        | @bad _ v3 y3 z3 _ _ _ q3 h4 =>
          cases h4 with
          | good h5 =>
            cases h5
            exact List.all_eq_true.mp (t7_wggwg v3 y0 z0 y3 z3 o1 o2 o4 o5 q u) v0 q0
          | @bad _ v4 y4 z4 _ _ _ q4 h5 =>
            cases h5
            exact List.all_eq_true.mp (t7_wggww v3 v4 y0 z0 y3 z3 y4 z4 o1 o2 o4 o5 q u) v0 q0
      | @bad _ v2 y2 z2 _ _ _ q2 h3 =>
        cases h3 with
        | good h4 =>
          cases h4 with
          | good h5 =>
            cases h5
            exact List.all_eq_true.mp (t7_wgwgg v2 y0 z0 y2 z2 o1 o2 o4 o5 q u) v0 q0
          | @bad _ v4 y4 z4 _ _ _ q4 h5 =>
            cases h5
            exact List.all_eq_true.mp (t7_wgwgw v2 v4 y0 z0 y2 z2 y4 z4 o1 o2 o4 o5 q u) v0 q0
        | @bad _ v3 y3 z3 _ _ _ q3 h4 =>
          cases h4 with
          | good h5 =>
            cases h5
            exact List.all_eq_true.mp (t7_wgwwg v2 v3 y0 z0 y2 z2 y3 z3 o1 o2 o4 o5 q u) v0 q0
          | @bad _ v4 y4 z4 _ _ _ q4 h5 =>
            cases h5
            exact List.all_eq_true.mp (t7_wgwww v2 v3 v4 y0 z0 y2 z2 y3 z3 y4 z4 o1 o2 o4 o5 q u) v0 q0
    | @bad _ v1 y1 z1 _ _ _ q1 h2 =>
      cases h2 with
      | good h3 =>
        cases h3 with
        | good h4 =>
          cases h4 with
          | good h5 =>
            cases h5
            exact List.all_eq_true.mp (t7_wwggg v1 y0 z0 y1 z1 o1 o2 o4 o5 q u) v0 q0
          | @bad _ v4 y4 z4 _ _ _ q4 h5 =>
            cases h5
            exact List.all_eq_true.mp (t7_wwggw v1 v4 y0 z0 y1 z1 y4 z4 o1 o2 o4 o5 q u) v0 q0
        | @bad _ v3 y3 z3 _ _ _ q3 h4 =>
          cases h4 with
          | good h5 =>
            cases h5
            exact List.all_eq_true.mp (t7_wwgwg v1 v3 y0 z0 y1 z1 y3 z3 o1 o2 o4 o5 q u) v0 q0
          | @bad _ v4 y4 z4 _ _ _ q4 h5 =>
            cases h5
            exact List.all_eq_true.mp (t7_wwgww v1 v3 v4 y0 z0 y1 z1 y3 z3 y4 z4 o1 o2 o4 o5 q u) v0 q0
      | @bad _ v2 y2 z2 _ _ _ q2 h3 =>
        cases h3 with
        | good h4 =>
          cases h4 with
          | good h5 =>
            cases h5
            exact List.all_eq_true.mp (t7_wwwgg v1 v2 y0 z0 y1 z1 y2 z2 o1 o2 o4 o5 q u) v0 q0
          | @bad _ v4 y4 z4 _ _ _ q4 h5 =>
            cases h5
            exact List.all_eq_true.mp (t7_wwwgw v1 v2 v4 y0 z0 y1 z1 y2 z2 y4 z4 o1 o2 o4 o5 q u) v0 q0
        | @bad _ v3 y3 z3 _ _ _ q3 h4 =>
          cases h4 with
          | good h5 =>
            cases h5
            exact List.all_eq_true.mp (t7_wwwwg v1 v2 v3 y0 z0 y1 z1 y2 z2 y3 z3 o1 o2 o4 o5 q u) v0 q0
          | @bad _ v4 y4 z4 _ _ _ q4 h5 =>
            cases h5
            exact List.all_eq_true.mp (t7_wwwww v1 v2 v3 v4 y0 z0 y1 z1 y2 z2 y3 z3 y4 z4 o1 o2 o4 o5 q u) v0 q0
end WR

namespace WR
open PySem PySem.Spec PyProof.Rows L2
/-! ### told, judged by the kernel (printed by genc.py) -/
theorem t10_gggg (o1 o2 o4 o5 : MO) (q : List PV) (u : Int) : (tells 10 "good" (mkS [.good "team", .good "missing", .good "road", .good "far"]) o1 o2 q o4 o5 u) = true := by kernel_rfl
theorem t10_gggw (y3 z3 o1 o2 o4 o5 : MO) (q : List PV) (u : Int) : ((badL "far").all fun v => (tells 10 "far" (mkS [.good "team", .good "missing", .good "road", .bad "far" v y3 z3]) o1 o2 q o4 o5 u)) = true := by kernel_rfl
theorem t10_ggwg (y2 z2 o1 o2 o4 o5 : MO) (q : List PV) (u : Int) : ((badL "road").all fun v => (tells 10 "road" (mkS [.good "team", .good "missing", .bad "road" v y2 z2, .good "far"]) o1 o2 q o4 o5 u)) = true := by kernel_rfl
theorem t10_ggww (v3 : PV) (y2 z2 y3 z3 o1 o2 o4 o5 : MO) (q : List PV) (u : Int) : ((badL "road").all fun v => (tells 10 "road" (mkS [.good "team", .good "missing", .bad "road" v y2 z2, .bad "far" v3 y3 z3]) o1 o2 q o4 o5 u)) = true := by kernel_rfl
theorem t10_gwgg (y1 z1 o1 o2 o4 o5 : MO) (q : List PV) (u : Int) : ((badL "missing").all fun v => (tells 10 "missing" (mkS [.good "team", .bad "missing" v y1 z1, .good "road", .good "far"]) o1 o2 q o4 o5 u)) = true := by kernel_rfl
theorem t10_gwgw (v3 : PV) (y1 z1 y3 z3 o1 o2 o4 o5 : MO) (q : List PV) (u : Int) : ((badL "missing").all fun v => (tells 10 "missing" (mkS [.good "team", .bad "missing" v y1 z1, .good "road", .bad "far" v3 y3 z3]) o1 o2 q o4 o5 u)) = true := by kernel_rfl
theorem t10_gwwg (v2 : PV) (y1 z1 y2 z2 o1 o2 o4 o5 : MO) (q : List PV) (u : Int) : ((badL "missing").all fun v => (tells 10 "missing" (mkS [.good "team", .bad "missing" v y1 z1, .bad "road" v2 y2 z2, .good "far"]) o1 o2 q o4 o5 u)) = true := by kernel_rfl
theorem t10_gwww (v2 v3 : PV) (y1 z1 y2 z2 y3 z3 o1 o2 o4 o5 : MO) (q : List PV) (u : Int) : ((badL "missing").all fun v => (tells 10 "missing" (mkS [.good "team", .bad "missing" v y1 z1, .bad "road" v2 y2 z2, .bad "far" v3 y3 z3]) o1 o2 q o4 o5 u)) = true := by kernel_rfl
theorem t10_wggg (y0 z0 o1 o2 o4 o5 : MO) (q : List PV) (u : Int) : ((badL "team").all fun v => (tells 10 "team" (mkS [.bad "team" v y0 z0, .good "missing", .good "road", .good "far"]) o1 o2 q o4 o5 u)) = true := by kernel_rfl
theorem t10_wggw (v3 : PV) (y0 z0 y3 z3 o1 o2 o4 o5 : MO) (q : List PV) (u : Int) : ((badL "team").all fun v => (tells 10 "team" (mkS [.bad "team" v y0 z0, .good "missing", .good "road", .bad "far" v3 y3 z3]) o1 o2 q o4 o5 u)) = true := by kernel_rfl
theorem t10_wgwg (v2 : PV) (y0 z0 y2 z2 o1 o2 o4 o5 : MO) (q : List PV) (u : Int) : ((badL "team").all fun v => (tells 10 "team" (mkS [.bad "team" v y0 z0, .good "missing", .bad "road" v2 y2 z2, .good "far"]) o1 o2 q o4 o5 u)) = true := by kernel_rfl
theorem t10_wgww (v2 v3 : PV) (y0 z0 y2 z2 y3 z3 o1 o2 o4 o5 : MO) (q : List PV) (u : Int) : ((badL "team").all fun v => (tells 10 "team" (mkS [.bad "team" v y0 z0, .good "missing", .bad "road" v2 y2 z2, .bad "far" v3 y3 z3]) o1 o2 q o4 o5 u)) = true := by kernel_rfl
theorem t10_wwgg (v1 : PV) (y0 z0 y1 z1 o1 o2 o4 o5 : MO) (q : List PV) (u : Int) : ((badL "team").all fun v => (tells 10 "team" (mkS [.bad "team" v y0 z0, .bad "missing" v1 y1 z1, .good "road", .good "far"]) o1 o2 q o4 o5 u)) = true := by kernel_rfl
theorem t10_wwgw (v1 v3 : PV) (y0 z0 y1 z1 y3 z3 o1 o2 o4 o5 : MO) (q : List PV) (u : Int) : ((badL "team").all fun v => (tells 10 "team" (mkS [.bad "team" v y0 z0, .bad "missing" v1 y1 z1, .good "road", .bad "far" v3 y3 z3]) o1 o2 q o4 o5 u)) = true := by kernel_rfl
theorem t10_wwwg (v1 v2 : PV) (y0 z0 y1 z1 y2 z2 o1 o2 o4 o5 : MO) (q : List PV) (u : Int) : ((badL "team").all fun v => (tells 10 "team" (mkS [.bad "team" v y0 z0, .bad "missing" v1 y1 z1, .bad "road" v2 y2 z2, .good "far"]) o1 o2 q o4 o5 u)) = true := by kernel_rfl
theorem t10_wwww (v1 v2 v3 : PV) (y0 z0 y1 z1 y2 z2 y3 z3 o1 o2 o4 o5 : MO) (q : List PV) (u : Int) : ((badL "team").all fun v => (tells 10 "team" (mkS [.bad "team" v y0 z0, .bad "missing" v1 y1 z1, .bad "road" v2 y2 z2, .bad "far" v3 y3 z3]) o1 o2 q o4 o5 u)) = true := by kernel_rfl
theorem told_10 {bs : List Bool} {cs : List Ch} (h : Okb ["team", "missing", "road", "far"] bs cs) (o1 o2 o4 o5 : MO) (q : List PV) {u : Int} (u0 : 0 ≤ u) (u6 : u < 6) : tells 10 (dueW cs) (mkS cs) o1 o2 q o4 o5 u = true := by
  cases h with
  | good h1 =>
    cases h1 with
    | good h2 =>
      cases h2 with
      | good h3 =>
        cases h3 with
        | good h4 =>
          cases h4
          exact t10_gggg o1 o2 o4 o5 q u
        | @bad _ v3 y3 z3 _ _ _ q3 h4 =>
          cases h4
          exact List.all_eq_true.mp (t10_gggw y3 z3 o1 o2 o4 o5 q u) v3 q3
      | @bad _ v2 y2 z2 _ _ _ q2 h3 =>
        cases h3 with
        | good h4 =>
          cases h4
          exact List.all_eq_true.mp (t10_ggwg y2 z2 o1 o2 o4 o5 q u) v2 q2
        | @bad _ v3 y3 z3 _ _ _ q3 h4 =>
          cases h4
          exact List.all_eq_true.mp (t10_ggww v3 y2 z2 y3 z3 o1 o2 o4 o5 q u) v2 q2
    | @bad _ v1 y1 z1 _ _ _ q1 h2 =>
      cases h2 with
      | good h3 =>
        cases h3 with
        | good h4 =>
          cases h4
          exact List.all_eq_true.mp (t10_gwgg y1 z1 o1 o2 o4 o5 q u) v1 q1
        | @bad _ v3 y3 z3 _ _ _ q3 h4 =>
          cases h4
          exact List.all_eq_true.mp (t10_gwgw v3 y1 z1 y3 z3 o1 o2 o4 o5 q u) v1 q1
      | @bad _ v2 y2 z2 _ _ _ q2 h3 =>
        cases h3 with
        | good h4 =>
          cases h4
          exact List.all_eq_true.mp (t10_gwwg v2 y1 z1 y2 z2 o1 o2 o4 o5 q u) v1 q1
        | @bad _ v3 y3 z3 _ _ _ q3 h4 =>
          cases h4
          exact List.all_eq_true.mp (t10_gwww v2 v3 y1 z1 y2 z2 y3 z3 o1 o2 o4 o5 q u) v1 q1
  | @bad _ v0 y0 z0 _ _ _ q0 h1 =>
    cases h1 with
    | good h2 =>
      cases h2 with
      | good h3 =>
        cases h3 with
        | good h4 =>
          cases h4
          exact List.all_eq_true.mp (t10_wggg y0 z0 o1 o2 o4 o5 q u) v0 q0
        | @bad _ v3 y3 z3 _ _ _ q3 h4 =>
          cases h4
          exact List.all_eq_true.mp (t10_wggw v3 y0 z0 y3 z3 o1 o2 o4 o5 q u) v0 q0
      | @bad _ v2 y2 z2 _ _ _ q2 h3 =>
        cases h3 with
        | good h4 =>
          cases h4
          exact List.all_eq_true.mp (t10_wgwg v2 y0 z0 y2 z2 o1 o2 o4 o5 q u) v0 q0
        | @bad _ v3 y3 z3 _ _ _ q3 h4 =>
          cases h4
          exact List.all_eq_true.mp (t10_wgww v2 v3 y0 z0 y2 z2 y3 z3 o1 o2 o4 o5 q u) v0 q0
    | @bad _ v1 y1 z1 _ _ _ q1 h2 =>
      cases h2 with
      | good h3 =>
        cases h3 with
        | good h4 =>
          cases h4
          exact List.all_eq_true.mp (t10_wwgg v1 y0 z0 y1 z1 o1 o2 o4 o5 q u) v0 q0
        | @bad _ v3 y3 z3 _ _ _ q3 h4 =>
          cases h4
          exact List.all_eq_true.mp (t10_wwgw v1 v3 y0 z0 y1 z1 y3 z3 o1 o2 o4 o5 q u) v0 q0
      | @bad _ v2 y2 z2 _ _ _ q2 h3 =>
        cases h3 with
        | good h4 =>
          cases h4
          exact List.all_eq_true.mp (t10_wwwg v1 v2 y0 z0 y1 z1 y2 z2 o1 o2 o4 o5 q u) v0 q0
        | @bad _ v3 y3 z3 _ _ _ q3 h4 =>
          cases h4
          exact List.all_eq_true.mp (t10_wwww v1 v2 v3 y0 z0 y1 z1 y2 z2 y3 z3 o1 o2 o4 o5 q u) v0 q0
end WR

namespace WR
open PySem PySem.Spec PyProof.Rows L2
/-! ### a comprehension whose code draws -/
theorem w_lc {I : Fm → IH → Res ItF} {it : ItF} {g : TgF} {c : TX} {A : EX} {vs : List Nat} {r : Fm} {h h1 : IH} (n : Nat) (J : Nat → List PV → IH → Prop) (hI : I r h = .ok it h1) (hn : n < 1000000) (h0 : J 0 [] (h1 ++ [.lst []]))
    (hs : ∀ i acc h, i < n → J i acc h → acc.length ≤ i → h[h1.length]? = some (.lst acc) → ∃ v r1 b h2, it i h = some (some v) ∧ g v (wipeF r vs) = some r1 ∧ c r1 h = .ok b h2 ∧ (b = false → h2[h1.length]? = some (.lst acc) ∧ J (i + 1) acc h2) ∧
      (b = true → ∃ y h3, A r1 h2 = .ok y h3 ∧ h3[h1.length]? = some (.lst acc) ∧ J (i + 1) (acc ++ [y]) (h3.set h1.length (.lst (acc ++ [y])))))
    (he : ∀ acc h, J n acc h → h[h1.length]? = some (.lst acc) → it n h = some none) : ∃ acc h', eLc I g c A vs r h = .ok (.obj h1.length) h' ∧ h'[h1.length]? = some (.lst acc) ∧ J n acc h' := by
  have key : ∀ k i acc h, n - i < k → i ≤ n → acc.length ≤ i → h[h1.length]? = some (.lst acc) → J i acc h → ∃ acc' h', lcL it g c A (wipeF r vs) h1.length k i h = .ok () h' ∧ h'[h1.length]? = some (.lst acc') ∧ J n acc' h' := by
    intro k
    induction k with
    | zero => intro i acc h hk; omega
    | succ k ih =>
      intro i acc h hk hi ha hD hJ
      by_cases q : i < n
      · obtain ⟨v, r1, b, h2, e1, e2, e3, e4, e5⟩ := hs i acc h q hJ ha hD
        unfold lcL
        simp only [e1, e2, e3]
        cases b with
        | false =>
          obtain ⟨x1, x2⟩ := e4 rfl
          simpa using ih (i + 1) acc h2 (by omega) (by omega) (by omega) x1 x2
        | true =>
          obtain ⟨y, h3, x1, x2, x3⟩ := e5 rfl
          have al : acc.length < 16777216 := by omega
          obtain ⟨acc', h', z1, z2⟩ := ih (i + 1) (acc ++ [y]) (h3.set h1.length (.lst (acc ++ [y]))) (by omega) (by omega) (by simp; omega) (List.getElem?_set_self (lt_of_get x2)) x3
          exact ⟨acc', h', by simp only [if_true, x1, x2, al, z1], z2⟩
      · have : i = n := by omega
        subst this
        unfold lcL
        simp only [he acc h hJ hD]
        exact ⟨acc, h, rfl, hD, hJ⟩
  obtain ⟨acc, h', e, e1, e2⟩ := key LIM 0 [] (h1 ++ [.lst []]) (by simp [LIM]; omega) (by omega) (by simp) (by simp) h0
  exact ⟨acc, h', by simp [eLc, hI, e], e1, e2⟩
end WR

namespace WR
open PySem PySem.Spec PyProof.Rows L2
/-! ### k10: which ones are wrong -/
theorem q_int (i j : Int) (g : IH) (b : Bool) (h : decide (i = j) = b) : pEqB (.int i) (.int j) g = some b := by
  subst h
  exact EncOk.int.eq (by decide) i j g
abbrev fr (s : PV) (a k wi : Nat) (b t x d y : Option PV) : Fm := [some s, some (.obj 1), some (.obj a), some (.int k), some (.obj wi), b, t, x, d, y]
theorem DS.put {h : IH} {n : Nat} {o : MO} (d : DS 1 0 h) (hn : 2 ≤ n) : DS 1 0 (h.set n o) := by
  obtain ⟨p, q, y⟩ := d.st
  obtain ⟨cs, z, lz⟩ := d.ce
  exact ⟨by decide, ⟨p, q, by rw [List.getElem?_set_ne (by omega)]; exact y⟩, ⟨cs, by rw [List.getElem?_set_ne (by omega)]; exact z, lz⟩⟩
theorem wrong_eq {s : PV} {a k wi : Nat} {ws : List Str} {h : IH} (hl : ws.length ≤ 5) (d : DS 1 0 h) (hw : 2 ≤ wi) (e : h[wi]? = some (.lst (ws.map .str))) :
    ∃ (bs : List Bool) (h' : IH), eLc (eIter (eVar 4)) (gVar 9) tYesX (eOp pEq (eCall f__law_next (aCons (eVar 1) (aCons (eC (.int 3)) aNil))) (eC (.int 0))) [9] (fr s a k wi none none none none none) h = .ok (.obj h.length) h' ∧ h'[h.length]? = some (.lst (bs.map PV.bl)) ∧ bs.length = ws.length ∧ DS 1 0 h' ∧ Kp 1 0 h h' := by
  have l2 : 1 < h.length := by obtain ⟨a, b, x⟩ := d.st; exact lt_of_get x
  have lw := lt_of_get e
  obtain ⟨acc, h', e1, e2, bs, e3, e4, e5, e6⟩ := w_lc (I := eIter (eVar 4)) (g := gVar 9) (c := tYesX) (A := eOp pEq (eCall f__law_next (aCons (eVar 1) (aCons (eC (.int 3)) aNil))) (eC (.int 0))) (vs := [9]) (r := fr s a k wi none none none none none) (h := h) (h1 := h) (it := itObj wi) ws.length
    (fun i acc g => ∃ bs : List Bool, acc = bs.map PV.bl ∧ bs.length = i ∧ DS 1 0 g ∧ Kp 1 0 h g) (by simp [e]) (by omega) ⟨[], rfl, rfl, d.app _, Kp.app _ _ _ _⟩
    (fun i acc g hi ⟨bs, a1, a2, a3, a4⟩ _ gD => by
      have ew : g[wi]? = some (.lst (ws.map .str)) := a4.get _ _ (by omega) (by omega) e
      obtain ⟨r, g', x1, r0, r1, x2, x3, x4, _, _⟩ := next_eq3 a3 3 (by decide) (by decide)
      refine ⟨.str ws[i], _, true, g, ?_, rfl, rfl, (fun z => by cases z), fun _ => ⟨.bl (decide (r = 0)), g', ?_, x3.get _ _ (by omega) (by omega) gD, bs ++ [decide (r = 0)], ?_, ?_, ?_, ?_⟩⟩
      · simp [ew, hi]
      · simp [x1, q_int r 0 g' _ rfl]
      · simp [a1]
      · simp [a2]
      · exact x2.put (by omega)
      · refine ⟨by simp; exact (a4.trans x3).le, fun n o p q y => ?_⟩
        have := lt_of_get y
        rw [List.getElem?_set_ne (by omega)]
        exact (a4.trans x3).get n o p q y)
    (fun acc g ⟨bs, a1, a2, a3, a4⟩ gD => by
      have ew : g[wi]? = some (.lst (ws.map .str)) := a4.get _ _ (by omega) (by omega) e
      simp [ew])
  exact ⟨bs, h', e1, by rw [e2, e3], e4, e5, e6⟩
end WR

namespace WR
open PySem PySem.Spec PyProof.Rows L2
/-! ### k10: the values' heap, step by step -/
mutual
theorem up_up (d n : Nat) : ∀ v : PV, upV d (upV n v) = upV (n + d) v
  | .tup xs => by rw [upV, upV, upV, ups_ups d n xs]
  | .fls xs => by rw [upV, upV, upV, ups_ups d n xs]
  | .obj m => by rw [upV, upV, upV, Nat.add_assoc]
  | .non => by rw [up_non, up_non, up_non]
  | .bl b => by rw [up_bl, up_bl, up_bl]
  | .int i => by rw [up_int, up_int, up_int]
  | .str x => by rw [up_str, up_str, up_str]
  | .glo x => by rw [up_glo, up_glo, up_glo]
  | .ty x => by rw [up_ty, up_ty, up_ty]
  | .key x => by rw [up_key, up_key, up_key]
theorem ups_ups (d n : Nat) : ∀ xs : List PV, upVs d (upVs n xs) = upVs (n + d) xs
  | [] => by rw [upVs, upVs, upVs]
  | x :: xs => by rw [upVs, upVs, upVs, up_up d n x, ups_ups d n xs]
end
theorem upm_up (d n : Nat) (o : MO) : upM d (upM n o) = upM (n + d) o := by
  cases o <;> simp only [upM, List.map_map, Function.comp_def, up_up]
theorem upm_ints (d : Nat) (xs : List Int) : upM d (.lst (xs.map .int)) = .lst (xs.map .int) := by
  simp [upM, List.map_map, Function.comp_def]
/-- S stands at d in g, g ends with it -/
structure Hs (d : Nat) (S g : IH) : Prop where
  len : g.length = d + S.length
  get : ∀ (i : Nat) (o : MO), S[i]? = some o → g[d + i]? = some (upM d o)
theorem Hs.step {d : Nat} {g h' : IH} {vs : List PV} {rest seg : IH} {v : PV} (H : Hs d (.lst vs :: rest) g) (d2 : 2 ≤ d) (keep : ∀ n o, n ≠ 1 → n ≠ 0 → g[n]? = some o → h'[n]? = some o) (ln : h'.length = g.length + seg.length)
    (new : ∀ (i : Nat) (o : MO), seg[i]? = some o → h'[g.length + i]? = some (upM d o)) :
    Hs d (.lst (vs ++ [upV (rest.length + 1) v]) :: (rest ++ seg)) (h'.set d (.lst (vs.map (upV d) ++ [upV g.length v]))) := by
  have gl := H.len
  simp only [List.length_cons] at gl
  refine ⟨by simp; omega, fun i o e => ?_⟩
  rcases i with _ | i
  · cases e
    rw [Nat.add_zero, List.getElem?_set_self (by omega)]
    simp only [upM, List.map_append, List.map_cons, List.map_nil, up_up]
    rw [show rest.length + 1 + d = g.length by omega]
  · rw [List.getElem?_set_ne (by omega)]
    have e : (rest ++ seg)[i]? = some o := e
    by_cases q : i < rest.length
    · rw [List.getElem?_append_left q] at e
      exact keep _ _ (by omega) (by omega) (H.get (i + 1) o e)
    · rw [List.getElem?_append_right (by omega)] at e
      have := new _ _ e
      rw [show d + (i + 1) = g.length + (i - rest.length) by omega]
      exact this
theorem fold_shape : ∀ (cs : List Ch) (vs : List PV) (rest : IH), ∃ vs' rest', cs.foldl stepS (.lst vs :: rest) = .lst vs' :: rest' ∧ vs'.length = vs.length + cs.length
  | [], vs, rest => ⟨vs, rest, rfl, rfl⟩
  | c :: cs, vs, rest => by
    cases c with
    | good w =>
      obtain ⟨vs', rest', e, l⟩ := fold_shape cs (vs ++ [upV (MO.lst vs :: rest).length (goodV w)]) (rest ++ (goodT w).map (upM (MO.lst vs :: rest).length))
      exact ⟨vs', rest', e, by rw [l]; simp; omega⟩
    | bad w v y z =>
      obtain ⟨vs', rest', e, l⟩ := fold_shape cs (vs ++ [upV (MO.lst vs :: rest).length v]) (rest ++ ((badT w).map (upM (MO.lst vs :: rest).length) ++ [y, z]))
      exact ⟨vs', rest', e, by rw [l]; simp; omega⟩
theorem mkS_shape (cs : List Ch) : ∃ vs rest, mkS cs = .lst vs :: rest ∧ vs.length = cs.length := by
  obtain ⟨vs, rest, e, l⟩ := fold_shape cs [] []
  exact ⟨vs, rest, e, by simpa using l⟩
theorem mkS_snoc (cs : List Ch) (c : Ch) : mkS (cs ++ [c]) = stepS (mkS cs) c := by unfold mkS; rw [List.foldl_append]; rfl
end WR

namespace WR
open PySem PySem.Spec PyProof.Rows L2
/-! ### k10: one value more -/
theorem Hs.head {d : Nat} {cs : List Ch} {g : IH} (H : Hs d (mkS cs) g) : ∃ vals, g[d]? = some (.lst vals) ∧ vals.length = cs.length := by
  obtain ⟨vs, rest, e, l⟩ := mkS_shape cs
  have := H.get 0 (.lst vs) (by rw [e]; rfl)
  exact ⟨vs.map (upV d), this, by simpa using l⟩
theorem bad_step {d : Nat} {cs : List Ch} {g : IH} {w : Str} {k : PV} {vals : List PV} (H : Hs d (mkS cs) g) (d2 : 2 ≤ d) (ds : DS 1 0 g) (hw : w ∈ words) (gd : g[d]? = some (.lst vals)) :
    ∃ v' h' v y z, f__law_bad_one [.obj 1, .str w, k] g = .ok v' h' ∧ h'[d]? = some (.lst vals) ∧ DS 1 0 h' ∧ Kp 1 0 g h' ∧ v ∈ badL w ∧ Hs d (mkS (cs ++ [.bad w v y z])) (h'.set d (.lst (vals ++ [v']))) := by
  obtain ⟨vs, rest, e, l⟩ := mkS_shape cs
  rw [e] at H
  have g0 := H.get 0 (.lst vs) rfl
  rw [Nat.add_zero, gd] at g0
  have ev : vals = vs.map (upV d) := by
    have := Option.some.inj g0
    simp only [upM] at this
    exact MO.lst.inj this
  have gl := H.len
  simp only [List.length_cons] at gl
  obtain ⟨v, h', b1, b2, b3, b4, b5, b6, ⟨ys, b7⟩, ⟨zs, b8⟩⟩ := bad_eq (k := k) hw ds (by omega)
  refine ⟨_, h', v, .lst (ys.map .int), .lst (zs.map .int), b1, b4.get _ _ (by omega) (by omega) gd, b3, b4, b2, ?_⟩
  rw [mkS_snoc, e, ev]
  refine Hs.step (seg := (badT w).map (upM (rest.length + 1)) ++ [.lst (ys.map .int), .lst (zs.map .int)]) H d2 b4.get (by simp; omega) fun i o ho => ?_
  by_cases q : i < (badT w).length
  · rw [List.getElem?_append_left (by simpa using q), List.getElem?_map] at ho
    cases q2 : (badT w)[i]? with
    | none => rw [q2] at ho; cases ho
    | some o2 =>
      rw [q2] at ho
      cases ho
      rw [b6 i o2 q2, upm_up, show rest.length + 1 + d = g.length by omega]
  · rw [List.getElem?_append_right (by simpa using q), List.length_map] at ho
    obtain ⟨j, rfl⟩ : ∃ j, i = (badT w).length + j := ⟨i - (badT w).length, by omega⟩
    rw [Nat.add_sub_cancel_left] at ho
    rcases j with _ | _ | j
    · cases ho
      rw [upm_ints]; exact b7
    · cases ho
      rw [upm_ints]; exact b8
    · simp at ho
theorem good_step {d : Nat} {cs : List Ch} {g : IH} {w : Str} {vals : List PV} (H : Hs d (mkS cs) g) (d2 : 2 ≤ d) (ds : DS 1 0 g) (hw : w ∈ words) (gd : g[d]? = some (.lst vals)) :
    ∃ v' h', f__law_good_one [.str w] g = .ok v' h' ∧ h'[d]? = some (.lst vals) ∧ DS 1 0 h' ∧ Kp 1 0 g h' ∧ Hs d (mkS (cs ++ [.good w])) (h'.set d (.lst (vals ++ [v']))) := by
  obtain ⟨vs, rest, e, l⟩ := mkS_shape cs
  rw [e] at H
  have g0 := H.get 0 (.lst vs) rfl
  rw [Nat.add_zero, gd] at g0
  have ev : vals = vs.map (upV d) := by
    have := Option.some.inj g0
    simp only [upM] at this
    exact MO.lst.inj this
  have gl := H.len
  simp only [List.length_cons] at gl
  have ok := List.all_eq_true.mp goods_ok w hw
  unfold goodOk at ok
  cases q : goodR w with
  | ex x t => rw [q] at ok; cases ok
  | bad => rw [q] at ok; cases ok
  | ok v t =>
    have eV : goodV w = v := by unfold goodV; rw [q]
    have eT : goodT w = t := by unfold goodT; rw [q]
    have c := closed_ok (f := f__law_good_one) (vs := [.str w]) q g
    refine ⟨_, _, c, get_old gd, ds.app _, Kp.app _ _ _ _, ?_⟩
    rw [mkS_snoc, e, ev]
    simp only [stepS, eV, eT]
    refine Hs.step (seg := t.map (upM (rest.length + 1))) H d2 (fun n o _ _ z => get_old z) (by simp) fun i o ho => ?_
    rw [List.getElem?_map] at ho
    cases q2 : t[i]? with
    | none => rw [q2] at ho; cases ho
    | some o2 =>
      rw [q2] at ho
      cases ho
      rw [ga1, List.getElem?_map, q2, upm_up, show rest.length + 1 + d = g.length by omega]
      rfl
end WR

namespace WR
open PySem PySem.Spec PyProof.Rows L2
/-! ### k10: the values -/
theorem Okb.good1 {w : Str} : ∀ {ws : List Str} {bs : List Bool} {cs : List Ch}, Okb ws bs cs → Okb (ws ++ [w]) (bs ++ [false]) (cs ++ [.good w])
  | _, _, _, .nil => .good .nil
  | _, _, _, .good r => .good (Okb.good1 r)
  | _, _, _, .bad hv r => .bad hv (Okb.good1 r)
theorem Okb.bad1 {w : Str} {v : PV} {y z : MO} (q : v ∈ badL w) : ∀ {ws : List Str} {bs : List Bool} {cs : List Ch}, Okb ws bs cs → Okb (ws ++ [w]) (bs ++ [true]) (cs ++ [.bad w v y z])
  | _, _, _, .nil => .bad q .nil
  | _, _, _, .good r => .good (Okb.bad1 q r)
  | _, _, _, .bad hv r => .bad hv (Okb.bad1 q r)
theorem Okb.lenc : ∀ {ws : List Str} {bs : List Bool} {cs : List Ch}, Okb ws bs cs → cs.length = ws.length
  | _, _, _, .nil => rfl
  | _, _, _, .good r => by simp [Okb.lenc r]
  | _, _, _, .bad hv r => by simp [Okb.lenc r]
abbrev itemE : EX := eIf (tTru (eOp pIdx (eVar 5) (eVar 7))) (eCall f__law_bad_one (aCons (eVar 1) (aCons (eOp pIdx (eVar 4) (eVar 7)) (aCons (eVar 3) aNil)))) (eCall f__law_good_one (aCons (eOp pIdx (eVar 4) (eVar 7)) aNil))
theorem t_loop {s : PV} {a k wi bi d : Nat} {ws : List Str} {bs : List Bool} {h : IH} {N : Fm → IH → Prop} {R : PV → IH → Prop} (hl : ws.length ≤ 5) (hb : bs.length = ws.length) (hw : ∀ w ∈ ws, w ∈ words) (ds : DS 1 0 h) (h2 : 2 ≤ wi) (h3 : 2 ≤ bi) (w1 : wi < d) (b1 : bi < d) (H : Hs d (mkS []) h)
    (ew : h[wi]? = some (.lst (ws.map .str))) (eb : h[bi]? = some (.lst (bs.map .bl)))
    (next : ∀ x cs g, DS 1 0 g → Hs d (mkS cs) g → Okb ws bs cs → (∀ (n : Nat) (o : MO), n < d → n ≠ 1 → n ≠ 0 → h[n]? = some o → g[n]? = some o) → N (fr s a k wi (some (.obj bi)) (some (.obj d)) x none none) g) :
    ((sFor (eRange1 (aCons (eB pLen (aCons (eVar 4) aNil)) aNil)) (gVar 7) (sExpr (eAppend (eVar 6) (aCons itemE aNil)))) (fr s a k wi (some (.obj bi)) (some (.obj d)) none none none) h).Is N R := by
  have lw : ws.length < 4611686018427387904 := by omega
  refine w_for ws.length (fun i r g => ∃ x cs, r = fr s a k wi (some (.obj bi)) (some (.obj d)) x none none ∧ DS 1 0 g ∧ Hs d (mkS cs) g ∧ Okb (ws.take i) (bs.take i) cs ∧ (∀ (n : Nat) (o : MO), n < d → n ≠ 1 → n ≠ 0 → h[n]? = some o → g[n]? = some o))
    (it := itRange 0 ws.length) (h1 := h) (by simp [ew, rngOk]; omega) (by omega) ⟨none, [], rfl, ds, H, .nil, fun _ _ _ _ _ z => z⟩ ?_ ?_
  · rintro i r g hi ⟨x, cs, rfl, d1, H1, ok, keep⟩
    have hib : i < bs.length := by omega
    have ew' := keep wi _ w1 (by omega) (by omega) ew
    have eb' := keep bi _ b1 (by omega) (by omega) eb
    refine ⟨.int (0 + i), _, by simp [hi], rfl, ?_⟩
    obtain ⟨vals, gd, vl⟩ := H1.head
    have cl : cs.length = i := by rw [ok.lenc, List.length_take]; omega
    have tw : ws.take (i + 1) = ws.take i ++ [ws[i]] := List.take_succ_eq_append_getElem hi
    have tb : bs.take (i + 1) = bs.take i ++ [bs[i]] := List.take_succ_eq_append_getElem hib
    have iw : pIdx (.obj wi) (.int (0 + i)) g = .ok (.str ws[i]) g := p_idxL ew' (by omega) (by simp [hi])
    have ib : pIdx (.obj bi) (.int (0 + i)) g = .ok (.bl bs[i]) g := p_idxL eb' (by omega) (by simp [hib])
    have tt : ∀ b : Bool, pTru (.bl b) g = some b := fun b => rfl
    have d2 : 2 ≤ d := by omega
    have hwi := hw _ (List.getElem_mem hi)
    have fin : ∀ (v' : PV) (h' : IH) (c : Ch), itemE (fr s a k wi (some (.obj bi)) (some (.obj d)) (some (.int (0 + i))) none none) g = .ok v' h' → h'[d]? = some (.lst vals) → DS 1 0 h' → Kp 1 0 g h' → Hs d (mkS (cs ++ [c])) (h'.set d (.lst (vals ++ [v']))) → Okb (ws.take i ++ [ws[i]]) (bs.take i ++ [bs[i]]) (cs ++ [c]) →
        ∃ g', eAppend (eVar 6) (aCons itemE aNil) (fr s a k wi (some (.obj bi)) (some (.obj d)) (some (.int (0 + i))) none none) g = .ok .non g' ∧ ∃ x cs, fr s a k wi (some (.obj bi)) (some (.obj d)) (some (.int (0 + i))) none none = fr s a k wi (some (.obj bi)) (some (.obj d)) x none none ∧ DS 1 0 g' ∧ Hs d (mkS cs) g' ∧ Okb (ws.take (i + 1)) (bs.take (i + 1)) cs ∧ (∀ (n : Nat) (o : MO), n < d → n ≠ 1 → n ≠ 0 → h[n]? = some o → g'[n]? = some o) := by
      intro v' h' c e1 e2 e3 e4 e5 e6
      refine ⟨_, x_app (x_var rfl) gd (x_cons e1 x_nil) e2 (by omega), _, cs ++ [c], rfl, e3.put d2, e5, by rw [tw, tb]; exact e6, fun n o n1 n2 n3 z => ?_⟩
      rw [List.getElem?_set_ne (by omega)]
      exact e4.get _ _ n2 n3 (keep n o n1 n2 n3 z)
    have run : ∃ g', eAppend (eVar 6) (aCons itemE aNil) (fr s a k wi (some (.obj bi)) (some (.obj d)) (some (.int (0 + i))) none none) g = .ok .non g' ∧ ∃ x cs, fr s a k wi (some (.obj bi)) (some (.obj d)) (some (.int (0 + i))) none none = fr s a k wi (some (.obj bi)) (some (.obj d)) x none none ∧ DS 1 0 g' ∧ Hs d (mkS cs) g' ∧ Okb (ws.take (i + 1)) (bs.take (i + 1)) cs ∧ (∀ (n : Nat) (o : MO), n < d → n ≠ 1 → n ≠ 0 → h[n]? = some o → g'[n]? = some o) := by
      cases hbi : bs[i] with
      | true =>
        obtain ⟨v', h', v, y, z, e1, e2, e3, e4, e5, e6⟩ := bad_step (k := .int k) H1 d2 d1 hwi gd
        exact fin v' h' _ (x_ifT (t_tru (x_op (x_var rfl) (x_var rfl) ib) (by rw [hbi]; rfl)) (x_call (x_cons (x_var rfl) (x_cons (x_op (x_var rfl) (x_var rfl) iw) (x_cons (x_var rfl) x_nil))) e1)) e2 e3 e4 e6 (by rw [hbi]; exact ok.bad1 e5)
      | false =>
        obtain ⟨v', h', e1, e2, e3, e4, e6⟩ := good_step H1 d2 d1 hwi gd
        exact fin v' h' _ (x_ifF (t_tru (x_op (x_var rfl) (x_var rfl) ib) (by rw [hbi]; rfl)) (x_call (x_cons (x_op (x_var rfl) (x_var rfl) iw) x_nil) e1)) e2 e3 e4 e6 (by rw [hbi]; exact ok.good1)
    obtain ⟨g', e1, e2⟩ := run
    have e3 : (sExpr (eAppend (eVar 6) (aCons itemE aNil))) (fr s a k wi (some (.obj bi)) (some (.obj d)) (some (.int (0 + i))) none none) g = .nx (fr s a k wi (some (.obj bi)) (some (.obj d)) (some (.int (0 + i))) none none) g' := by simp only [sExpr, e1]; rfl
    refine (show ((sExpr (eAppend (eVar 6) (aCons itemE aNil))) (fr s a k wi (some (.obj bi)) (some (.obj d)) (some (.int (0 + i))) none none) g).Is _ _ from ?_)
    rw [e3]
    exact e2
  · rintro r g ⟨x, cs, rfl, d1, H1, ok, keep⟩
    refine ⟨by simp, next x cs g d1 H1 (by rw [List.take_of_length_le (Nat.le_refl _), List.take_of_length_le (by omega)] at ok; exact ok) keep⟩
end WR

namespace WR
open PySem PySem.Spec PyProof.Rows L2
/-! ### k10: what is due -/
def dw (ws : List Str) (bs : List Bool) (i : Nat) : List Str := ((List.range i).filter fun j => bs[j]?.getD false).map fun j => ws[j]?.getD ""
theorem dw_succ (ws : List Str) (bs : List Bool) (i : Nat) : dw ws bs (i + 1) = dw ws bs i ++ (if bs[i]?.getD false = true then [ws[i]?.getD ""] else []) := by
  unfold dw
  rw [List.range_succ, List.filter_append, List.map_append]
  congr 1
  cases h : bs[i]?.getD false <;> simp [List.filter_cons, h]
theorem dw_cons (w : Str) (ws : List Str) (b : Bool) (bs : List Bool) (i : Nat) : dw (w :: ws) (b :: bs) (i + 1) = (if b then [w] else []) ++ dw ws bs i := by
  unfold dw
  rw [List.range_succ_eq_map, List.filter_cons, List.filter_map]
  cases b <;> simp [Function.comp_def]
theorem due_head : ∀ {ws : List Str} {bs : List Bool} {cs : List Ch}, Okb ws bs cs → (dw ws bs ws.length ++ [("good" : Str)])[0]? = some (dueW cs)
  | _, _, _, .nil => rfl
  | _, _, _, .good r => by
    rw [List.length_cons, dw_cons]
    simpa [dueW] using due_head r
  | _, _, _, .bad hv r => by
    rw [List.length_cons, dw_cons]
    simp [dueW]
theorem due_eq {s : PV} {a k wi bi : Nat} {t x : Option PV} {ws : List Str} {bs : List Bool} {h : IH} (hl : ws.length ≤ 5) (hb : bs.length = ws.length) (ew : h[wi]? = some (.lst (ws.map .str))) (eb : h[bi]? = some (.lst (bs.map .bl))) :
    eOp pAdd (eLc (eRange1 (aCons (eB pLen (aCons (eVar 4) aNil)) aNil)) (gVar 7) (tTru (eOp pIdx (eVar 5) (eVar 7))) (eOp pIdx (eVar 4) (eVar 7)) [7]) (eLst (aCons (eC (.str "good")) aNil)) (fr s a k wi (some (.obj bi)) t x none none) h
      = .ok (.obj (h.length + 2)) (h ++ [.lst ((dw ws bs ws.length).map .str), .lst [.str "good"], .lst ((dw ws bs ws.length).map .str ++ [.str "good"])]) := by
  obtain ⟨acc, h', e1, e2, e3, e4⟩ := w_lc (I := eRange1 (aCons (eB pLen (aCons (eVar 4) aNil)) aNil)) (g := gVar 7) (c := tTru (eOp pIdx (eVar 5) (eVar 7))) (A := eOp pIdx (eVar 4) (eVar 7)) (vs := [7]) (r := fr s a k wi (some (.obj bi)) t x none none) (h := h) (h1 := h) (it := itRange 0 ws.length) ws.length
    (fun i acc g => g = h ++ [.lst acc] ∧ acc = (dw ws bs i).map PV.str) (by simp [ew, rngOk]; omega) (by omega) ⟨rfl, rfl⟩
    (fun i acc g hi ⟨a1, a2⟩ hlen gD => by
      subst a1
      have hib : i < bs.length := by omega
      have aw : atI (ws.map PV.str) (i : Int) = some (.str ws[i]) := by rw [atI_pos _ _ (by omega) (by simp; omega)]; simp [hi]
      have ab : atI (bs.map PV.bl) (i : Int) = some (.bl bs[i]) := by rw [atI_pos _ _ (by omega) (by simp; omega)]; simp [hib]
      have ew' : ∀ t, (h ++ t)[wi]? = some (.lst (ws.map .str)) := fun t => get_old ew
      have eb' : ∀ t, (h ++ t)[bi]? = some (.lst (bs.map .bl)) := fun t => get_old eb
      refine ⟨.int (0 + i), _, bs[i], h ++ [.lst acc], by simp [hi], rfl, by simp [eb', ab], fun z => ⟨gD, rfl, ?_⟩, fun z => ⟨.str ws[i], h ++ [.lst acc], by simp [ew', aw], gD, by simp, ?_⟩⟩
      · rw [dw_succ, a2]; simp [hib, z]
      · rw [dw_succ, a2]; simp [hib, hi, z])
    (fun acc g _ _ => by simp)
  subst e3
  subst e4
  have dl : (dw ws bs ws.length).length ≤ 5 := by
    unfold dw
    rw [List.length_map]
    have := List.length_filter_le (fun j => bs[j]?.getD false) (List.range ws.length)
    simp at this
    omega
  have d2 : (dw ws bs ws.length).length + 1 ≤ 16777216 := by omega
  simp [e1, d2]
end WR

namespace WR
open PySem PySem.Spec PyProof.Rows L2
/-! ### k10: told, at the law's heap -/
theorem Hs.eq {d : Nat} {S g : IH} (H : Hs d S g) : g = upH (g.take d) S ∧ (g.take d).length = d := by
  have l := H.len
  have lt : (g.take d).length = d := by rw [List.length_take]; omega
  refine ⟨?_, lt⟩
  unfold upH
  apply List.ext_getElem?
  intro i
  by_cases q : i < d
  · rw [List.getElem?_append_left (by omega), List.getElem?_take_of_lt q]
  · rw [List.getElem?_append_right (by omega), lt]
    by_cases q2 : i - d < S.length
    · have := H.get (i - d) S[i - d] (List.getElem?_eq_getElem q2)
      rw [show d + (i - d) = i by omega] at this
      rw [this, List.getElem?_map, List.getElem?_eq_getElem q2]
      rfl
    · rw [List.getElem?_eq_none (by omega), List.getElem?_eq_none (by rw [List.length_map]; omega)]
theorem told_at {d : Nat} {S g : IH} {k u : Int} {w : Str} {o1 o2 o4 o5 : MO} {q : List PV} (H : Hs d (S ++ [o1, o2, .lst (.str w :: q), o4, o5]) g) (t : tells k w S o1 o2 q o4 o5 u = true) :
    ∃ g' q', f__law_told [.int k, .obj d, .int u] g = .ok (.str w) g' ∧ g'[d + (S.length + 2)]? = some (.lst (.str w :: q')) := by
  obtain ⟨e, l⟩ := H.eq
  unfold tells at t
  have U := U1.go (f := f__law_told) (g.take d) [.int k, .obj 0, .int u] (S ++ [o1, o2, .lst (.str w :: q), o4, o5])
  cases z : f__law_told [.int k, .obj 0, .int u] (S ++ [o1, o2, .lst (.str w :: q), o4, o5]) with
  | ex x h => rw [z] at t; cases t
  | bad => rw [z] at t; cases t
  | ok v h =>
    rw [z] at t U
    cases v <;> try (cases t; done)
    rename_i x
    have t : (decide (x = w) && (match h[S.length + 2]? with
      | some (.lst (.str y :: _)) => decide (y = w)
      | _ => false)) = true := t
    rw [Bool.and_eq_true] at t
    have := of_decide_eq_true t.1
    subst this
    have U : f__law_told (List.map (uV (g.take d)) [.int k, .obj 0, .int u]) (upH (g.take d) (S ++ [o1, o2, .lst (.str x :: q), o4, o5])) = .ok (uV (g.take d) (.str x)) (upH (g.take d) h) := U
    rw [← e] at U
    simp only [List.map_cons, List.map_nil, uV, up_int, up_obj, up_str, l, Nat.zero_add] at U
    cases y : h[S.length + 2]? with
    | none => rw [y] at t; cases t.2
    | some o =>
      rw [y] at t
      cases o <;> try (cases t.2; done)
      rename_i xs
      cases xs with
      | nil => cases t.2
      | cons a as =>
        cases a <;> try (cases t.2; done)
        rename_i b
        have t2 : decide (b = x) = true := t.2
        have := of_decide_eq_true t2
        subst this
        refine ⟨_, as.map (upV d), U, ?_⟩
        unfold upH
        rw [List.getElem?_append_right (by omega), l, Nat.add_sub_cancel_left, List.getElem?_map, y]
        simp only [Option.map, upM, List.map_cons, up_str]
/-- what lies behind, of texts and ints only -/
theorem Hs.app {d : Nat} {S g h' os : IH} (H : Hs d S g) (d2 : 2 ≤ d) (keep : ∀ n o, n ≠ 1 → n ≠ 0 → g[n]? = some o → h'[n]? = some o) (ln : h'.length = g.length + os.length) (new : ∀ (i : Nat) (o : MO), os[i]? = some o → h'[g.length + i]? = some (upM d o)) : Hs d (S ++ os) h' := by
  have gl := H.len
  refine ⟨by rw [ln, List.length_append]; omega, fun i o e => ?_⟩
  by_cases q : i < S.length
  · rw [List.getElem?_append_left q] at e
    exact keep _ _ (by omega) (by omega) (H.get i o e)
  · rw [List.getElem?_append_right (by omega)] at e
    have := new _ _ e
    rw [show d + i = g.length + (i - S.length) by omega]
    exact this
end WR

namespace WR
open PySem PySem.Spec PyProof.Rows L2
/-! ### k10: the law -/
theorem ok_words : ((("good" : Str) :: words).all fun w => PyData.strOk w) = true := by decide +kernel
theorem q_str {x : Str} (hx : x ∈ ("good" :: words : List Str)) (g : IH) : pEqB (.str x) (.str x) g = some true := by
  have := List.all_eq_true.mp ok_words x hx
  simp [pEqB, SeqAt.shaped, PyData.canLay0, PyData.depth, PyData.eqv, this]
theorem due_in : ∀ {ws : List Str} {bs : List Bool} {cs : List Ch}, Okb ws bs cs → dueW cs ∈ ("good" :: ws : List Str)
  | _, _, _, .nil => List.mem_cons_self
  | _, _, _, .good r => by
    rcases List.mem_cons.mp (due_in r) with z | z
    · exact List.mem_cons.mpr (.inl z)
    · exact List.mem_cons.mpr (.inr (List.mem_cons.mpr (.inr z)))
  | _, _, _, .bad hv r => List.mem_cons.mpr (.inr List.mem_cons_self)
theorem upm_strs (d : Nat) (xs : List Str) : upM d (.lst (xs.map .str)) = .lst (xs.map .str) := by
  simp [upM, List.map_map, Function.comp_def]
abbrev tailS : SX := sSeq (sSet 5 (eLc (eIter (eVar 4)) (gVar 9) tYesX (eOp pEq (eCall f__law_next (aCons (eVar 1) (aCons (eC (.int 3)) aNil))) (eC (.int 0))) [9]))
    (sSeq (sSet 6 (eLst aNil))
    (sSeq (sFor (eRange1 (aCons (eB pLen (aCons (eVar 4) aNil)) aNil)) (gVar 7) (sExpr (eAppend (eVar 6) (aCons itemE aNil))))
    (sSeq (sSet 8 (eOp pAdd (eLc (eRange1 (aCons (eB pLen (aCons (eVar 4) aNil)) aNil)) (gVar 7) (tTru (eOp pIdx (eVar 5) (eVar 7))) (eOp pIdx (eVar 4) (eVar 7)) [7]) (eLst (aCons (eC (.str "good")) aNil))))
    (sRet (eOp pEq (eCall f__law_told (aCons (eVar 3) (aCons (eVar 6) (aCons (eCall f__law_next (aCons (eVar 1) (aCons (eC (.int 6)) aNil))) aNil)))) (eOp pIdx (eVar 8) (eC (.int 0))))))))
theorem mid {s : PV} {a K wi : Nat} {ws : List Str} {h : IH} {N : Fm → IH → Prop} (hl : ws.length ≤ 5) (hw : ∀ w ∈ ws, w ∈ words) (ds : DS 1 0 h) (w2 : 2 ≤ wi) (e : h[wi]? = some (.lst (ws.map .str)))
    (T : ∀ {bs : List Bool} {cs : List Ch}, Okb ws bs cs → ∀ (o1 o2 o4 o5 : MO) (q : List PV) {u : Int}, 0 ≤ u → u < 6 → tells K (dueW cs) (mkS cs) o1 o2 q o4 o5 u = true) :
    (tailS (fr s a K wi none none none none none) h).Is N (fun v _ => v = .bl true) := by
  obtain ⟨bs, h1, e1, g1, lb, d1, k1⟩ := wrong_eq (s := s) (a := a) (k := K) hl ds w2 e
  have ew1 : h1[wi]? = some (.lst (ws.map .str)) := k1.get _ _ (by omega) (by omega) e
  have lw := lt_of_get e
  have lh1 := lt_of_get g1
  refine w_seq (w_set e1 ?_)
  refine w_seq (w_set (v := .obj h1.length) (h1 := h1 ++ [.lst []]) (x_lst x_nil (by decide)) ?_)
  refine w_seq ?_
  refine t_loop (s := s) (a := a) (k := K) (wi := wi) (bi := h.length) (d := h1.length) (ws := ws) (bs := bs) (h := h1 ++ [.lst []]) hl lb hw (d1.app _) w2 (by omega) (by omega) lh1 ?_ (get_old ew1) (get_old g1) ?_
  · refine ⟨by simp [mkS], fun i o q => ?_⟩
    rw [ga1]
    rcases i with _ | i
    · cases q; rfl
    · simp [mkS] at q
  intro x cs g dg H ok keep
  have ewg : g[wi]? = some (.lst (ws.map .str)) := keep _ _ (by omega) (by omega) (by omega) (get_old ew1)
  have ebg : g[h.length]? = some (.lst (bs.map .bl)) := keep _ _ lh1 (by omega) (by omega) (get_old g1)
  have due := due_eq (s := s) (a := a) (k := K) (t := some (.obj h1.length)) (x := x) hl lb ewg ebg
  refine w_seq (w_set due ?_)
  obtain ⟨rest, hr⟩ : ∃ rest, dw ws bs ws.length ++ [("good" : Str)] = dueW cs :: rest := by
    have z := due_head ok
    cases q : dw ws bs ws.length ++ [("good" : Str)] with
    | nil => simp at q
    | cons y ys =>
      rw [q] at z
      cases z
      exact ⟨ys, rfl⟩
  have hr2 : (dw ws bs ws.length).map PV.str ++ [.str "good"] = .str (dueW cs) :: rest.map .str := by
    have := congrArg (List.map PV.str) hr
    simpa using this
  rw [hr2]
  have H3 : Hs h1.length (mkS cs ++ [.lst ((dw ws bs ws.length).map .str), .lst [.str "good"], .lst (.str (dueW cs) :: rest.map .str)]) (g ++ [.lst ((dw ws bs ws.length).map .str), .lst [.str "good"], .lst (.str (dueW cs) :: rest.map .str)]) := by
    refine H.app (by omega) (fun n o _ _ z => get_old z) (by simp) fun i o z => ?_
    rw [ga1, z]
    rcases i with _ | _ | _ | i
    · cases z; rw [upm_strs]
    · cases z; exact congrArg some (upm_strs _ ["good"]).symm
    · cases z; exact congrArg some (upm_strs _ (dueW cs :: rest)).symm
    · simp at z
  obtain ⟨u, g4, en, u0, u6, d4, k4, l4, ⟨xs, x4⟩, ⟨ys, y4⟩⟩ := next_eq3 (dg.app [.lst ((dw ws bs ws.length).map .str), .lst [.str "good"], .lst (.str (dueW cs) :: rest.map .str)]) 6 (by decide) (by decide)
  have H5 : Hs h1.length ((mkS cs ++ [.lst ((dw ws bs ws.length).map .str), .lst [.str "good"], .lst (.str (dueW cs) :: rest.map .str)]) ++ [.lst (xs.map .int), .lst (ys.map .int)]) g4 := by
    refine H3.app (by omega) k4.get (by rw [l4]; rfl) fun i o z => ?_
    rcases i with _ | _ | i
    · cases z; rw [upm_ints]; exact x4
    · cases z; rw [upm_ints]; exact y4
    · simp at z
  rw [List.append_assoc] at H5
  obtain ⟨g', q', et, gd⟩ := told_at (k := K) (u := u) H5 (T ok _ _ _ _ _ u0 u6)
  have wd : dueW cs ∈ ("good" :: words : List Str) := by
    rcases List.mem_cons.mp (due_in ok) with z | z
    · exact List.mem_cons.mpr (.inl z)
    · exact List.mem_cons.mpr (.inr (hw _ z))
  have li : h1.length + ((mkS cs).length + 2) = g.length + 2 := by rw [H.len]; omega
  rw [li] at gd
  exact w_ret (x_op (x_call (x_cons (x_var rfl) (x_cons (x_var rfl) (x_cons (x_call (x_cons (x_var rfl) (x_cons x_c x_nil)) en) x_nil))) et) (x_op (x_var rfl) x_c (p_idxL gd (by decide) rfl)) (p_eq (q_str wd _))) rfl
abbrev asked : IH := [.lst [.str "roads", .str "turns", .str "cost"], .lst [.str "plan", .str "road", .str "far"], .lst [.str "plan", .str "road"], .lst [.str "plan"], .lst [.str "m"], .lst [.str "m", .str "ratio"],
  .lst [.obj 2, .obj 3, .obj 4, .obj 5, .obj 6, .obj 7],
  .lst [.str "m", .str "first", .str "ratio", .str "many"], .lst [.str "m", .str "first", .str "steep", .str "road", .str "far"], .lst [.str "share"],
  .lst [.obj 9, .obj 10, .obj 11], .lst [.obj 2, .obj 3, .obj 4, .obj 5, .obj 6, .obj 7, .obj 9, .obj 10, .obj 11],
  .lst [.str "share", .str "near"], .lst [.str "team", .str "missing", .str "road", .str "far"], .lst [.str "team", .str "missing"],
  .lst [.obj 14, .obj 15, .obj 16], .lst [.obj 2, .obj 3, .obj 4, .obj 5, .obj 6, .obj 7, .obj 9, .obj 10, .obj 11, .obj 14, .obj 15, .obj 16],
  .lst [.str "roads", .str "chances"], .lst [.str "roads", .str "cost"],
  .lst [.obj 19, .obj 20], .lst [.obj 2, .obj 3, .obj 4, .obj 5, .obj 6, .obj 7, .obj 9, .obj 10, .obj 11, .obj 14, .obj 15, .obj 16, .obj 19, .obj 20]]
abbrev kinds : List PV := [.int 0, .int 1, .int 2, .int 3, .int 4, .int 5, .int 6, .int 7, .int 8, .int 9, .int 10, .int 11, .int 12, .int 13, .int 7, .int 7, .int 8, .int 9]
theorem law_true (ns : List Int) (hl : ns.length ≤ 63) : ∃ h, f_law [.fls (ns.map .int)] [] = .ok (.bl true) h := by
  suffices H : ∃ v h, f_law [.fls (ns.map .int)] [] = .ok v h ∧ v = .bl true by
    obtain ⟨v, h, e, rfl⟩ := H
    exact ⟨h, e⟩
  refine w_fn rfl ?_
  obtain ⟨h1, e1, d1, k1, l1⟩ := mix_eq2 ns 10 hl []
  simp only [List.length_nil, Nat.zero_add] at e1 d1 k1 l1
  refine w_seq (w_set (v := .obj 1) (h1 := h1) (x_call (x_cons (x_var rfl) (x_cons x_c x_nil)) e1) ?_)
  obtain ⟨y0, y1, q1⟩ : ∃ y0 y1, h1 = [y0, y1] := by
    match h1, l1 with
    | [y0, y1], _ => exact ⟨y0, y1, rfl⟩
  obtain ⟨h2, q2⟩ : ∃ h2 : IH, h2 = [y0, y1] ++ asked.take 7 := ⟨_, rfl⟩
  obtain ⟨h3, q3⟩ : ∃ h3 : IH, h3 = [y0, y1] ++ asked.take 12 := ⟨_, rfl⟩
  obtain ⟨h4, q4⟩ : ∃ h4 : IH, h4 = [y0, y1] ++ asked.take 17 := ⟨_, rfl⟩
  obtain ⟨h5, q5⟩ : ∃ h5 : IH, h5 = [y0, y1] ++ asked := ⟨_, rfl⟩
  obtain ⟨h6, q6⟩ : ∃ h6 : IH, h6 = [y0, y1] ++ (asked ++ [.lst kinds]) := ⟨_, rfl⟩
  have d6 : DS 1 0 h6 := by rw [q6, ← q1]; exact d1.app _
  obtain ⟨sv, hsv⟩ : ∃ sv : PV, sv = .fls (ns.map .int) := ⟨_, rfl⟩
  refine w_seq (w_set (v := .obj 8) (h1 := h2) (by rw [← hsv, q1, q2]; clear e1 d1 k1 d6; kernel_rfl) ?_)
  refine w_seq (w_set (v := .obj 13) (h1 := h3) (by rw [← hsv, q2, q3]; clear e1 d1 k1 d6; kernel_rfl) ?_)
  refine w_seq (w_set (v := .obj 18) (h1 := h4) (by rw [← hsv, q3, q4]; clear e1 d1 k1 d6; kernel_rfl) ?_)
  refine w_seq (w_set (v := .obj 22) (h1 := h5) (by rw [← hsv, q4, q5]; clear e1 d1 k1 d6; kernel_rfl) ?_)
  obtain ⟨k, h7, e7, k0, k18, d7, K7, l7, _, _⟩ := next_eq3 d6 18 (by decide) (by decide)
  have G : ∀ i o, (asked ++ [MO.lst kinds])[i]? = some o → h7[2 + i]? = some o := fun i o q => K7.get _ _ (by omega) (by omega) (by
    have z := @ga1 [y0, y1] (asked ++ [MO.lst kinds]) i
    rw [q6, ← q]; exact z)
  have e23 : ∀ r : Fm, (eLst (aCons (eC (.int 0)) (aCons (eC (.int 1)) (aCons (eC (.int 2)) (aCons (eC (.int 3)) (aCons (eC (.int 4)) (aCons (eC (.int 5)) (aCons (eC (.int 6)) (aCons (eC (.int 7)) (aCons (eC (.int 8)) (aCons (eC (.int 9)) (aCons (eC (.int 10)) (aCons (eC (.int 11)) (aCons (eC (.int 12)) (aCons (eC (.int 13)) (aCons (eC (.int 7)) (aCons (eC (.int 7)) (aCons (eC (.int 8)) (aCons (eC (.int 9)) aNil))))))))))))))))))) r h5 = .ok (.obj 23) h6 := fun r => by
    rw [q5, q6]; clear e1 d1 k1 d6; kernel_rfl
  have fin : ∀ (K wi : Nat) (ws : List Str), kinds[k.toNat]? = some (.int K) → ([.obj 2, .obj 3, .obj 4, .obj 5, .obj 6, .obj 7, .obj 9, .obj 10, .obj 11, .obj 14, .obj 15, .obj 16, .obj 19, .obj 20] : List PV)[K]? = some (.obj wi) → 2 ≤ wi → (asked ++ [MO.lst kinds])[wi - 2]? = some (.lst (ws.map .str)) → ws.length ≤ 5 → (∀ w ∈ ws, w ∈ words) →
      (∀ {bs : List Bool} {cs : List Ch}, Okb ws bs cs → ∀ (o1 o2 o4 o5 : MO) (q : List PV) {u : Int}, 0 ≤ u → u < 6 → tells K (dueW cs) (mkS cs) o1 o2 q o4 o5 u = true) →
      (sSeq (sSet 3 (eOp pIdx (eLst (aCons (eC (.int 0)) (aCons (eC (.int 1)) (aCons (eC (.int 2)) (aCons (eC (.int 3)) (aCons (eC (.int 4)) (aCons (eC (.int 5)) (aCons (eC (.int 6)) (aCons (eC (.int 7)) (aCons (eC (.int 8)) (aCons (eC (.int 9)) (aCons (eC (.int 10)) (aCons (eC (.int 11)) (aCons (eC (.int 12)) (aCons (eC (.int 13)) (aCons (eC (.int 7)) (aCons (eC (.int 7)) (aCons (eC (.int 8)) (aCons (eC (.int 9)) aNil))))))))))))))))))) (eCall f__law_next (aCons (eVar 1) (aCons (eC (.int 18)) aNil)))))
        (sSeq (sSet 4 (eOp pIdx (eVar 2) (eVar 3))) tailS) [some (.fls (ns.map .int)), some (.obj 1), some (.obj 22), none, none, none, none, none, none, none] h5).Is (fun _ h1 => PV.non = .bl true) (fun v _ => v = .bl true) := by
    intro K wi ws p1 p2 p3 p4 p5 p6 T
    refine w_seq (w_set (v := .int K) (h1 := h7) (x_op (e23 _) (x_call (x_cons (x_var rfl) (x_cons x_c x_nil)) e7) (p_idxL (G 21 _ rfl) k0 p1)) ?_)
    refine w_seq (w_set (v := .obj wi) (h1 := h7) (x_op (x_var rfl) (x_var rfl) (p_idxL (G 20 _ rfl) (by omega) (by simpa using p2))) ?_)
    refine mid (s := .fls (ns.map .int)) (a := 22) (K := K) (wi := wi) (ws := ws) p5 p6 d7 p3 ?_ T
    have := G _ _ p4
    rwa [show 2 + (wi - 2) = wi by omega] at this
  rcases (show k = 0 ∨ k = 1 ∨ k = 2 ∨ k = 3 ∨ k = 4 ∨ k = 5 ∨ k = 6 ∨ k = 7 ∨ k = 8 ∨ k = 9 ∨ k = 10 ∨ k = 11 ∨ k = 12 ∨ k = 13 ∨ k = 14 ∨ k = 15 ∨ k = 16 ∨ k = 17 by omega) with
    rfl | rfl | rfl | rfl | rfl | rfl | rfl | rfl | rfl | rfl | rfl | rfl | rfl | rfl | rfl | rfl | rfl | rfl
  · exact fin 0 2 ["roads", "turns", "cost"] rfl rfl (by decide) rfl (by decide) (by decide) told_0
  · exact fin 1 3 ["plan", "road", "far"] rfl rfl (by decide) rfl (by decide) (by decide) told_1
  · exact fin 2 4 ["plan", "road"] rfl rfl (by decide) rfl (by decide) (by decide) told_2
  · exact fin 3 5 ["plan"] rfl rfl (by decide) rfl (by decide) (by decide) told_3
  · exact fin 4 6 ["m"] rfl rfl (by decide) rfl (by decide) (by decide) told_4
  · exact fin 5 7 ["m", "ratio"] rfl rfl (by decide) rfl (by decide) (by decide) told_5
  · exact fin 6 9 ["m", "first", "ratio", "many"] rfl rfl (by decide) rfl (by decide) (by decide) told_6
  · exact fin 7 10 ["m", "first", "steep", "road", "far"] rfl rfl (by decide) rfl (by decide) (by decide) told_7
  · exact fin 8 11 ["share"] rfl rfl (by decide) rfl (by decide) (by decide) told_8
  · exact fin 9 14 ["share", "near"] rfl rfl (by decide) rfl (by decide) (by decide) told_9
  · exact fin 10 15 ["team", "missing", "road", "far"] rfl rfl (by decide) rfl (by decide) (by decide) told_10
  · exact fin 11 16 ["team", "missing"] rfl rfl (by decide) rfl (by decide) (by decide) told_11
  · exact fin 12 19 ["roads", "chances"] rfl rfl (by decide) rfl (by decide) (by decide) told_12
  · exact fin 13 20 ["roads", "cost"] rfl rfl (by decide) rfl (by decide) (by decide) told_13
  · exact fin 7 10 ["m", "first", "steep", "road", "far"] rfl rfl (by decide) rfl (by decide) (by decide) told_7
  · exact fin 7 10 ["m", "first", "steep", "road", "far"] rfl rfl (by decide) rfl (by decide) (by decide) told_7
  · exact fin 8 11 ["share"] rfl rfl (by decide) rfl (by decide) (by decide) told_8
  · exact fin 9 14 ["share", "near"] rfl rfl (by decide) rfl (by decide) (by decide) told_9
end WR

/-! each def does what its code says -/
namespace WR
open PySem PySem.Spec PyProof.Rows L2
def topS (i : Nat) : Stmt := PySem.Challenge.pw_whichroad_k10_questions_refused.main.body.getD i (.Pass ⟨0, 0, 0, 0⟩)
structure Txt (K : PySem.W.Frag) (mg : Str → Option Value) : Prop where
  d_BadTurns___init__ : ∃ fd, Fun K "__init__" "BadTurns.__init__" (inClass (topS 4) 0) (He.ma K (He.ga K "BadTurns") "__init__") fd
  d__wall : ∃ fd, Fun K "_wall" "_wall" (topS 0) (He.ga K "_wall") fd
  g__wall : mg "_wall" = some (.ref (He.ga K "_wall"))
  d_is_integer : ∃ fd, Fun K "is_integer" "is_integer" (topS 20) (He.ga K "is_integer") fd
  g_is_integer : mg "is_integer" = some (.ref (He.ga K "is_integer"))
  d_is_from : ∃ fd, Fun K "is_from" "is_from" (topS 21) (He.ga K "is_from") fd
  g_is_from : mg "is_from" = some (.ref (He.ga K "is_from"))
  d_common : ∃ fd, Fun K "common" "common" (topS 22) (He.ga K "common") fd
  g_common : mg "common" = some (.ref (He.ga K "common"))
  d_ratio : ∃ fd, Fun K "ratio" "ratio" (topS 23) (He.ga K "ratio") fd
  g_ratio : mg "ratio" = some (.ref (He.ga K "ratio"))
  d_is_fraction : ∃ fd, Fun K "is_fraction" "is_fraction" (topS 24) (He.ga K "is_fraction") fd
  g_is_fraction : mg "is_fraction" = some (.ref (He.ga K "is_fraction"))
  d_plus : ∃ fd, Fun K "plus" "plus" (topS 25) (He.ga K "plus") fd
  g_plus : mg "plus" = some (.ref (He.ga K "plus"))
  d_minus : ∃ fd, Fun K "minus" "minus" (topS 26) (He.ga K "minus") fd
  g_minus : mg "minus" = some (.ref (He.ga K "minus"))
  d_times : ∃ fd, Fun K "times" "times" (topS 27) (He.ga K "times") fd
  g_times : mg "times" = some (.ref (He.ga K "times"))
  d_over : ∃ fd, Fun K "over" "over" (topS 28) (He.ga K "over") fd
  g_over : mg "over" = some (.ref (He.ga K "over"))
  d_is_less : ∃ fd, Fun K "is_less" "is_less" (topS 29) (He.ga K "is_less") fd
  g_is_less : mg "is_less" = some (.ref (He.ga K "is_less"))
  d_is_within : ∃ fd, Fun K "is_within" "is_within" (topS 30) (He.ga K "is_within") fd
  g_is_within : mg "is_within" = some (.ref (He.ga K "is_within"))
  d_least_of : ∃ fd, Fun K "least_of" "least_of" (topS 31) (He.ga K "least_of") fd
  g_least_of : mg "least_of" = some (.ref (He.ga K "least_of"))
  d_greatest_of : ∃ fd, Fun K "greatest_of" "greatest_of" (topS 32) (He.ga K "greatest_of") fd
  g_greatest_of : mg "greatest_of" = some (.ref (He.ga K "greatest_of"))
  d_is_reach : ∃ fd, Fun K "is_reach" "is_reach" (topS 38) (He.ga K "is_reach") fd
  g_is_reach : mg "is_reach" = some (.ref (He.ga K "is_reach"))
  d_is_turn : ∃ fd, Fun K "is_turn" "is_turn" (topS 39) (He.ga K "is_turn") fd
  g_is_turn : mg "is_turn" = some (.ref (He.ga K "is_turn"))
  d_check_roads : ∃ fd, Fun K "check_roads" "check_roads" (topS 40) (He.ga K "check_roads") fd
  g_check_roads : mg "check_roads" = some (.ref (He.ga K "check_roads"))
  d_check_cost : ∃ fd, Fun K "check_cost" "check_cost" (topS 41) (He.ga K "check_cost") fd
  g_check_cost : mg "check_cost" = some (.ref (He.ga K "check_cost"))
  d_Plan___init__ : ∃ fd, Fun K "__init__" "Plan.__init__" (inClass (topS 42) 0) (He.ma K (He.ga K "Plan") "__init__") fd
  d_Plan_roads : ∃ fd, Fun K "roads" "Plan.roads" (inClass (topS 42) 1) (He5.wf K (He.ga K "Plan") "property" "roads") fd
  d_Plan_turns : ∃ fd, Fun K "turns" "Plan.turns" (inClass (topS 42) 2) (He5.wf K (He.ga K "Plan") "property" "turns") fd
  d_Plan_cost : ∃ fd, Fun K "cost" "Plan.cost" (inClass (topS 42) 3) (He5.wf K (He.ga K "Plan") "property" "cost") fd
  d_Plan___len__ : ∃ fd, Fun K "__len__" "Plan.__len__" (inClass (topS 42) 4) (He.ma K (He.ga K "Plan") "__len__") fd
  d_Plan___eq__ : ∃ fd, Fun K "__eq__" "Plan.__eq__" (inClass (topS 42) 5) (He.ma K (He.ga K "Plan") "__eq__") fd
  d_check_plan : ∃ fd, Fun K "check_plan" "check_plan" (topS 43) (He.ga K "check_plan") fd
  g_check_plan : mg "check_plan" = some (.ref (He.ga K "check_plan"))
  d_check_road : ∃ fd, Fun K "check_road" "check_road" (topS 44) (He.ga K "check_road") fd
  g_check_road : mg "check_road" = some (.ref (He.ga K "check_road"))
  d_is_far : ∃ fd, Fun K "is_far" "is_far" (topS 45) (He.ga K "is_far") fd
  g_is_far : mg "is_far" = some (.ref (He.ga K "is_far"))
  d_check_far : ∃ fd, Fun K "check_far" "check_far" (topS 46) (He.ga K "check_far") fd
  g_check_far : mg "check_far" = some (.ref (He.ga K "check_far"))
  d_bases_of : ∃ fd, Fun K "bases_of" "bases_of" (topS 47) (He.ga K "bases_of") fd
  g_bases_of : mg "bases_of" = some (.ref (He.ga K "bases_of"))
  d_walked_by : ∃ fd, Fun K "walked_by" "walked_by" (topS 48) (He.ga K "walked_by") fd
  g_walked_by : mg "walked_by" = some (.ref (He.ga K "walked_by"))
  d_check_place : ∃ fd, Fun K "check_place" "check_place" (topS 49) (He.ga K "check_place") fd
  g_check_place : mg "check_place" = some (.ref (He.ga K "check_place"))
  d_walked : ∃ fd, Fun K "walked" "walked" (topS 50) (He.ga K "walked") fd
  g_walked : mg "walked" = some (.ref (He.ga K "walked"))
  d_share : ∃ fd, Fun K "share" "share" (topS 51) (He.ga K "share") fd
  g_share : mg "share" = some (.ref (He.ga K "share"))
  d_pieces_of : ∃ fd, Fun K "pieces_of" "pieces_of" (topS 52) (He.ga K "pieces_of") fd
  g_pieces_of : mg "pieces_of" = some (.ref (He.ga K "pieces_of"))
  d_pieces : ∃ fd, Fun K "pieces" "pieces" (topS 53) (He.ga K "pieces") fd
  g_pieces : mg "pieces" = some (.ref (He.ga K "pieces"))
  d_reach_of : ∃ fd, Fun K "reach_of" "reach_of" (topS 54) (He.ga K "reach_of") fd
  g_reach_of : mg "reach_of" = some (.ref (He.ga K "reach_of"))
  d_cover : ∃ fd, Fun K "cover" "cover" (topS 55) (He.ga K "cover") fd
  g_cover : mg "cover" = some (.ref (He.ga K "cover"))
  d_worst_of : ∃ fd, Fun K "worst_of" "worst_of" (topS 56) (He.ga K "worst_of") fd
  g_worst_of : mg "worst_of" = some (.ref (He.ga K "worst_of"))
  d_worst : ∃ fd, Fun K "worst" "worst" (topS 57) (He.ga K "worst") fd
  g_worst : mg "worst" = some (.ref (He.ga K "worst"))
  d_is_chance : ∃ fd, Fun K "is_chance" "is_chance" (topS 62) (He.ga K "is_chance") fd
  g_is_chance : mg "is_chance" = some (.ref (He.ga K "is_chance"))
  d_check_chances : ∃ fd, Fun K "check_chances" "check_chances" (topS 63) (He.ga K "check_chances") fd
  g_check_chances : mg "check_chances" = some (.ref (He.ga K "check_chances"))
  d_with_place : ∃ fd, Fun K "with_place" "with_place" (topS 64) (He.ga K "with_place") fd
  g_with_place : mg "with_place" = some (.ref (He.ga K "with_place"))
  d_rows_of : ∃ fd, Fun K "rows_of" "rows_of" (topS 65) (He.ga K "rows_of") fd
  g_rows_of : mg "rows_of" = some (.ref (He.ga K "rows_of"))
  d_weight_behind : ∃ fd, Fun K "weight_behind" "weight_behind" (topS 66) (He.ga K "weight_behind") fd
  g_weight_behind : mg "weight_behind" = some (.ref (He.ga K "weight_behind"))
  d_turn_costs : ∃ fd, Fun K "turn_costs" "turn_costs" (topS 67) (He.ga K "turn_costs") fd
  g_turn_costs : mg "turn_costs" = some (.ref (He.ga K "turn_costs"))
  d_totals_of : ∃ fd, Fun K "totals_of" "totals_of" (topS 68) (He.ga K "totals_of") fd
  g_totals_of : mg "totals_of" = some (.ref (He.ga K "totals_of"))
  d_least_walk : ∃ fd, Fun K "least_walk" "least_walk" (topS 69) (He.ga K "least_walk") fd
  g_least_walk : mg "least_walk" = some (.ref (He.ga K "least_walk"))
  d_best_plan : ∃ fd, Fun K "best_plan" "best_plan" (topS 70) (He.ga K "best_plan") fd
  g_best_plan : mg "best_plan" = some (.ref (He.ga K "best_plan"))
  d_check_many_roads : ∃ fd, Fun K "check_many_roads" "check_many_roads" (topS 75) (He.ga K "check_many_roads") fd
  g_check_many_roads : mg "check_many_roads" = some (.ref (He.ga K "check_many_roads"))
  d_check_ratio : ∃ fd, Fun K "check_ratio" "check_ratio" (topS 76) (He.ga K "check_ratio") fd
  g_check_ratio : mg "check_ratio" = some (.ref (He.ga K "check_ratio"))
  d_check_first : ∃ fd, Fun K "check_first" "check_first" (topS 77) (He.ga K "check_first") fd
  g_check_first : mg "check_first" = some (.ref (He.ga K "check_first"))
  d_power : ∃ fd, Fun K "power" "power" (topS 78) (He.ga K "power") fd
  g_power : mg "power" = some (.ref (He.ga K "power"))
  d_bound_of : ∃ fd, Fun K "bound_of" "bound_of" (topS 79) (He.ga K "bound_of") fd
  g_bound_of : mg "bound_of" = some (.ref (He.ga K "bound_of"))
  d_most_share : ∃ fd, Fun K "most_share" "most_share" (topS 80) (He.ga K "most_share") fd
  g_most_share : mg "most_share" = some (.ref (He.ga K "most_share"))
  d_best_ratio : ∃ fd, Fun K "best_ratio" "best_ratio" (topS 81) (He.ga K "best_ratio") fd
  g_best_ratio : mg "best_ratio" = some (.ref (He.ga K "best_ratio"))
  d_best_bound : ∃ fd, Fun K "best_bound" "best_bound" (topS 82) (He.ga K "best_bound") fd
  g_best_bound : mg "best_bound" = some (.ref (He.ga K "best_bound"))
  d_grown : ∃ fd, Fun K "grown" "grown" (topS 83) (He.ga K "grown") fd
  g_grown : mg "grown" = some (.ref (He.ga K "grown"))
  d_growing_walked : ∃ fd, Fun K "growing_walked" "growing_walked" (topS 84) (He.ga K "growing_walked") fd
  g_growing_walked : mg "growing_walked" = some (.ref (He.ga K "growing_walked"))
  d_check_team : ∃ fd, Fun K "check_team" "check_team" (topS 87) (He.ga K "check_team") fd
  g_check_team : mg "check_team" = some (.ref (He.ga K "check_team"))
  d_in_order : ∃ fd, Fun K "in_order" "in_order" (topS 88) (He.ga K "in_order") fd
  g_in_order : mg "in_order" = some (.ref (He.ga K "in_order"))
  d_team_time : ∃ fd, Fun K "team_time" "team_time" (topS 89) (He.ga K "team_time") fd
  g_team_time : mg "team_time" = some (.ref (He.ga K "team_time"))
  d_team_walked : ∃ fd, Fun K "team_walked" "team_walked" (topS 90) (He.ga K "team_walked") fd
  g_team_walked : mg "team_walked" = some (.ref (He.ga K "team_walked"))
  d_bases_behind : ∃ fd, Fun K "bases_behind" "bases_behind" (topS 91) (He.ga K "bases_behind") fd
  g_bases_behind : mg "bases_behind" = some (.ref (He.ga K "bases_behind"))
  d_lows_of : ∃ fd, Fun K "lows_of" "lows_of" (topS 92) (He.ga K "lows_of") fd
  g_lows_of : mg "lows_of" = some (.ref (He.ga K "lows_of"))
  d_share_at : ∃ fd, Fun K "share_at" "share_at" (topS 93) (He.ga K "share_at") fd
  g_share_at : mg "share_at" = some (.ref (He.ga K "share_at"))
  d_team_worst : ∃ fd, Fun K "team_worst" "team_worst" (topS 94) (He.ga K "team_worst") fd
  g_team_worst : mg "team_worst" = some (.ref (He.ga K "team_worst"))
  d_fraction_text : ∃ fd, Fun K "fraction_text" "fraction_text" (topS 96) (He.ga K "fraction_text") fd
  g_fraction_text : mg "fraction_text" = some (.ref (He.ga K "fraction_text"))
  d_write_plan : ∃ fd, Fun K "write_plan" "write_plan" (topS 97) (He.ga K "write_plan") fd
  g_write_plan : mg "write_plan" = some (.ref (He.ga K "write_plan"))
  d_check_share : ∃ fd, Fun K "check_share" "check_share" (topS 101) (He.ga K "check_share") fd
  g_check_share : mg "check_share" = some (.ref (He.ga K "check_share"))
  d_half_of : ∃ fd, Fun K "half_of" "half_of" (topS 102) (He.ga K "half_of") fd
  g_half_of : mg "half_of" = some (.ref (He.ga K "half_of"))
  d_reaches_to : ∃ fd, Fun K "reaches_to" "reaches_to" (topS 103) (He.ga K "reaches_to") fd
  g_reaches_to : mg "reaches_to" = some (.ref (He.ga K "reaches_to"))
  d_farthest_of : ∃ fd, Fun K "farthest_of" "farthest_of" (topS 104) (He.ga K "farthest_of") fd
  g_farthest_of : mg "farthest_of" = some (.ref (He.ga K "farthest_of"))
  d_farthest : ∃ fd, Fun K "farthest" "farthest" (topS 105) (He.ga K "farthest") fd
  g_farthest : mg "farthest" = some (.ref (He.ga K "farthest"))
  d_plan_within : ∃ fd, Fun K "plan_within" "plan_within" (topS 106) (He.ga K "plan_within") fd
  g_plan_within : mg "plan_within" = some (.ref (He.ga K "plan_within"))
  d_Walk___init__ : ∃ fd, Fun K "__init__" "Walk.__init__" (inClass (topS 108) 0) (He.ma K (He.ga K "Walk") "__init__") fd
  d_Walk_plan : ∃ fd, Fun K "plan" "Walk.plan" (inClass (topS 108) 1) (He5.wf K (He.ga K "Walk") "property" "plan") fd
  d_Walk_go : ∃ fd, Fun K "go" "Walk.go" (inClass (topS 108) 2) (He.ma K (He.ga K "Walk") "go") fd
  d_Walk_room : ∃ fd, Fun K "room" "Walk.room" (inClass (topS 108) 3) (He.ma K (He.ga K "Walk") "room") fd
  d_Walk_undo : ∃ fd, Fun K "undo" "Walk.undo" (inClass (topS 108) 4) (He.ma K (He.ga K "Walk") "undo") fd
  d_Walk_copy : ∃ fd, Fun K "copy" "Walk.copy" (inClass (topS 108) 5) (He.ma K (He.ga K "Walk") "copy") fd
  d_Walk___len__ : ∃ fd, Fun K "__len__" "Walk.__len__" (inClass (topS 108) 6) (He.ma K (He.ga K "Walk") "__len__") fd
  d__law_mix : ∃ fd, Fun K "_law_mix" "_law_mix" (topS 110) (He.ga K "_law_mix") fd
  g__law_mix : mg "_law_mix" = some (.ref (He.ga K "_law_mix"))
  d__law_next : ∃ fd, Fun K "_law_next" "_law_next" (topS 111) (He.ga K "_law_next") fd
  g__law_next : mg "_law_next" = some (.ref (He.ga K "_law_next"))
  d__law_first : ∃ fd, Fun K "_law_first" "_law_first" (topS 112) (He.ga K "_law_first") fd
  g__law_first : mg "_law_first" = some (.ref (He.ga K "_law_first"))
  d__law_ask : ∃ fd, Fun K "_law_ask" "_law_ask" (topS 113) (He.ga K "_law_ask") fd
  g__law_ask : mg "_law_ask" = some (.ref (He.ga K "_law_ask"))
  d__law_turn_at : ∃ fd, Fun K "_law_turn_at" "_law_turn_at" (topS 114) (He.ga K "_law_turn_at") fd
  g__law_turn_at : mg "_law_turn_at" = some (.ref (He.ga K "_law_turn_at"))
  d__law_told : ∃ fd, Fun K "_law_told" "_law_told" (topS 115) (He.ga K "_law_told") fd
  g__law_told : mg "_law_told" = some (.ref (He.ga K "_law_told"))
  d__law_good_one : ∃ fd, Fun K "_law_good_one" "_law_good_one" (topS 116) (He.ga K "_law_good_one") fd
  g__law_good_one : mg "_law_good_one" = some (.ref (He.ga K "_law_good_one"))
  d__law_bad_one : ∃ fd, Fun K "_law_bad_one" "_law_bad_one" (topS 117) (He.ga K "_law_bad_one") fd
  g__law_bad_one : mg "_law_bad_one" = some (.ref (He.ga K "_law_bad_one"))
  d_law : ∃ fd, Fun K "law" "law" (topS 118) (He.ga K "law") fd
  g_law : mg "law" = some (.ref (He.ga K "law"))
  c_MOST_FAR_chances : ∃ t, mg "MOST_FAR_chances" = some (.int 1000000 t)
  c_MOST_FAR_plans : ∃ t, mg "MOST_FAR_plans" = some (.int 1000000000000000000000000000000 t)
  c_MOST_FIRST : ∃ t, mg "MOST_FIRST" = some (.int 1 t)
  c_MOST_GROWING_ROADS : ∃ t, mg "MOST_GROWING_ROADS" = some (.int 5 t)
  c_MOST_PARTS : ∃ t, mg "MOST_PARTS" = some (.int 1000 t)
  c_MOST_PLACES : ∃ t, mg "MOST_PLACES" = some (.int 8 t)
  c_MOST_PLANS : ∃ t, mg "MOST_PLANS" = some (.int 4 t)
  c_MOST_RATIO : ∃ t, mg "MOST_RATIO" = some (.int 100 t)
  c_MOST_REACH : ∃ t, mg "MOST_REACH" = some (.int 1000000000000 t)
  c_MOST_ROADS : ∃ t, mg "MOST_ROADS" = some (.int 5 t)
  c_MOST_SHARE : ∃ t, mg "MOST_SHARE" = some (.int 100 t)
  c_MOST_TURNS : ∃ t, mg "MOST_TURNS" = some (.int 60 t)
  c_MOST_WEIGHT : ∃ t, mg "MOST_WEIGHT" = some (.int 999 t)
  g_ONE : mg "ONE" = some (.ref (He.ga K "ONE"))
  c_ONE : ∀ H, SqT K H (He.ga K "ONE") [.int 1, .int 1]
  g_ZERO : mg "ZERO" = some (.ref (He.ga K "ZERO"))
  c_ZERO : ∀ H, SqT K H (He.ga K "ZERO") [.int 0, .int 1]
  z_int : mg "int" = none
  z_isinstance : mg "isinstance" = none
  z_bool : mg "bool" = none
  z_abs : mg "abs" = none
  z_tuple : mg "tuple" = none
  z_len : mg "len" = none
  z_enumerate : mg "enumerate" = none
  z_zip : mg "zip" = none
  z_range : mg "range" = none
  z_sum : mg "sum" = none
  z_reversed : mg "reversed" = none
  z_str : mg "str" = none
  z_list : mg "list" = none
  z_max : mg "max" = none
  gc_Plan : bGlo "Plan" K = true
  o_Plan : OwnC K mg "Plan" (He.ga K "Plan")
  na_Plan_held : NoAttr K (He.ga K "Plan") "held"
  mk_Plan : Mk K (He.ga K "Plan") (He.ma K (He.ga K "Plan") "__init__")
  p_Plan_roads : PropOf K (He.ga K "Plan") "roads" (He.ma K (He.ga K "Plan") "roads") (He5.wf K (He.ga K "Plan") "property" "roads")
  p_Plan_turns : PropOf K (He.ga K "Plan") "turns" (He.ma K (He.ga K "Plan") "turns") (He5.wf K (He.ga K "Plan") "property" "turns")
  p_Plan_cost : PropOf K (He.ga K "Plan") "cost" (He.ma K (He.ga K "Plan") "cost") (He5.wf K (He.ga K "Plan") "property" "cost")
  ln_Plan : PySem.W.findIn K (.ref (He.ga K "Plan")) "__len__" = some (some (.ref (He.ma K (He.ga K "Plan") "__len__"))) ∧ PySem.W.isFn K (.ref (He.ma K (He.ga K "Plan") "__len__")) = true
  eq_Plan : PySem.W.findIn K (.ref (He.ga K "Plan")) "__eq__" = some (some (.ref (He.ma K (He.ga K "Plan") "__eq__"))) ∧ PySem.W.isFn K (.ref (He.ma K (He.ga K "Plan") "__eq__")) = true
  nf_Plan : PySem.W.notFirst K (He.ga K "Plan") (.type "tuple") = true
  gc_Walk : bGlo "Walk" K = true
  o_Walk : OwnC K mg "Walk" (He.ga K "Walk")
  na_Walk_made : NoAttr K (He.ga K "Walk") "made"
  mk_Walk : Mk K (He.ga K "Walk") (He.ma K (He.ga K "Walk") "__init__")
  p_Walk_plan : PropOf K (He.ga K "Walk") "plan" (He.ma K (He.ga K "Walk") "plan") (He5.wf K (He.ga K "Walk") "property" "plan")
  m_Walk_go : Meth K (He.ga K "Walk") "go" (He.ma K (He.ga K "Walk") "go")
  m_Walk_room : Meth K (He.ga K "Walk") "room" (He.ma K (He.ga K "Walk") "room")
  m_Walk_undo : Meth K (He.ga K "Walk") "undo" (He.ma K (He.ga K "Walk") "undo")
  m_Walk_copy : Meth K (He.ga K "Walk") "copy" (He.ma K (He.ga K "Walk") "copy")
  ln_Walk : PySem.W.findIn K (.ref (He.ga K "Walk")) "__len__" = some (some (.ref (He.ma K (He.ga K "Walk") "__len__"))) ∧ PySem.W.isFn K (.ref (He.ma K (He.ga K "Walk") "__len__")) = true
  gi_BadTurns : bGlo "BadTurns" K = true
  xi_BadTurns : ExI K mg "BadTurns" (He.ga K "BadTurns") (He.ma K (He.ga K "BadTurns") "__init__")
  gx_BadRoads : bGlo "BadRoads" K = true
  x_BadRoads : ExC K mg "BadRoads" (He.ga K "BadRoads")
  gx_BadCost : bGlo "BadCost" K = true
  x_BadCost : ExC K mg "BadCost" (He.ga K "BadCost")
  gx_BadPlan : bGlo "BadPlan" K = true
  x_BadPlan : ExC K mg "BadPlan" (He.ga K "BadPlan")
  gx_BadRoad : bGlo "BadRoad" K = true
  x_BadRoad : ExC K mg "BadRoad" (He.ga K "BadRoad")
  gx_BadFar : bGlo "BadFar" K = true
  x_BadFar : ExC K mg "BadFar" (He.ga K "BadFar")
  gx_BadFirst : bGlo "BadFirst" K = true
  x_BadFirst : ExC K mg "BadFirst" (He.ga K "BadFirst")
  gx_BadRatio : bGlo "BadRatio" K = true
  x_BadRatio : ExC K mg "BadRatio" (He.ga K "BadRatio")
  gx_BadMany : bGlo "BadMany" K = true
  x_BadMany : ExC K mg "BadMany" (He.ga K "BadMany")
  gx_BadShare : bGlo "BadShare" K = true
  x_BadShare : ExC K mg "BadShare" (He.ga K "BadShare")
  gx_BadPlans : bGlo "BadPlans" K = true
  x_BadPlans : ExC K mg "BadPlans" (He.ga K "BadPlans")
  gx_BadMissing : bGlo "BadMissing" K = true
  x_BadMissing : ExC K mg "BadMissing" (He.ga K "BadMissing")
  gx_BadChances : bGlo "BadChances" K = true
  x_BadChances : ExC K mg "BadChances" (He.ga K "BadChances")
  exs : ExCs K mg exCs
  exi : ExIs K mg exCs
  xfl : ExFl K mg exCs exFl
  os : OwnCs K mg ownCs
section
variable {P : Program} {w : World} {K : PySem.W.Frag} {mg : Str → Option Value} {base : Heap}
theorem sc_BadTurns___init__ : FnScope ["self", "index"] ["self", "index"] (defScope (inClass (topS 4) 0)) := ⟨rfl, rfl, rfl, by decide +kernel, rfl, by decide +kernel, by decide +kernel⟩
theorem ok_BadTurns___init__ (T : Txt K mg) : GX P w K mg base (He.ma K (He.ga K "BadTurns") "__init__") 1 2 (sp1 (He.ga K "BadTurns") "index") := by
  obtain ⟨fd, F⟩ := T.d_BadTurns___init__
  exact gx_1 F sc_BadTurns___init__ (fun _ _ _ _ _ _ us hl => match us, hl with | [_, _], _ => rfl) T.xi_BadTurns.ox (T.xfl _ _ _ T.xi_BadTurns.gC (by decide +kernel) (by decide +kernel)) fun cdv A outer s H E => pss_one (ps_ost (pe_var (i := 0) rfl (Or.inl rfl)) (pe_var (i := 1) rfl (Or.inl rfl)))

theorem sc__wall : FnScope ["k"] ["k"] (defScope (topS 0)) := ⟨rfl, rfl, rfl, by decide +kernel, rfl, by decide +kernel, by decide +kernel⟩
theorem ok__wall (T : Txt K mg) : GF P w K mg base "_wall" 1 1 f__wall := by
  obtain ⟨fd, F⟩ := T.d__wall
  refine gf_mk F T.g__wall sc__wall 0 rfl (fun _ _ _ _ _ _ us hl => match us, hl with | [_], _ => rfl) fun cdv hcv A outer s H E cx => ?_
  exact is_one (is_while cx (it_tru ie_bl) (is_one is_pass))

theorem sc_is_integer : FnScope ["value"] ["value"] (defScope (topS 20)) := ⟨rfl, rfl, rfl, by decide +kernel, rfl, by decide +kernel, by decide +kernel⟩
theorem ok_is_integer (T : Txt K mg) : GF P w K mg base "is_integer" 1 1 f_is_integer := by
  obtain ⟨fd, F⟩ := T.d_is_integer
  refine gf_mk F T.g_is_integer sc_is_integer 0 rfl (fun _ _ _ _ _ _ us hl => match us, hl with | [_], _ => rfl) fun cdv hcv A outer s H E cx => ?_
  exact is_one (is_ret (ie_and (ie_isi T.os T.z_isinstance (ia_cons (ie_var 0) (ia_cons (ie_tyB T.z_int) ia_nil))) (ie_one (ie_not (ie_isi T.os T.z_isinstance (ia_cons (ie_var 0) (ia_cons (ie_tyB T.z_bool) ia_nil)))))))

theorem sc_is_from : FnScope ["value", "low", "high"] ["value", "low", "high"] (defScope (topS 21)) := ⟨rfl, rfl, rfl, by decide +kernel, rfl, by decide +kernel, by decide +kernel⟩
theorem ok_is_from (T : Txt K mg) : GF P w K mg base "is_from" 2 3 f_is_from := by
  obtain ⟨fd, F⟩ := T.d_is_from
  have G_is_integer := ok_is_integer (P := P) (w := w) (base := base) T
  refine gf_mk F T.g_is_from sc_is_from 0 rfl (fun _ _ _ _ _ _ us hl => match us, hl with | [_, _, _], _ => rfl) fun cdv hcv A outer s H E cx => ?_
  exact is_one (is_ret (ie_and (ie_callG cx G_is_integer (ia_cons (ie_var 0) ia_nil)) (ie_one (ie_lele (ie_var 1) (ie_var 0) (ie_var 2)))))

theorem sc_common : FnScope ["one", "other"] ["one", "other"] (defScope (topS 22)) := ⟨rfl, rfl, rfl, by decide +kernel, rfl, by decide +kernel, by decide +kernel⟩
theorem ok_common (T : Txt K mg) : GF P w K mg base "common" 1 2 f_common := by
  obtain ⟨fd, F⟩ := T.d_common
  refine gf_mk F T.g_common sc_common 0 rfl (fun _ _ _ _ _ _ us hl => match us, hl with | [_, _], _ => rfl) fun cdv hcv A outer s H E cx => ?_
  exact is_cons (is_par (i := 0) (j := 1) cx (ia_cons (ie_abs T.z_abs (ia_cons (ie_var 0) ia_nil)) (ia_cons (ie_abs T.z_abs (ia_cons (ie_var 1) ia_nil)) ia_nil)))
    (is_cons (is_while cx (it_tru (ie_var 1)) (is_one (is_par (i := 0) (j := 1) cx (ia_cons (ie_var 1) (ia_cons (ie_mod (ie_var 0) (ie_var 1)) ia_nil)))))
    (is_one (is_ret (ie_var 0))))

theorem sc_ratio : FnScope ["n", "d", "part"] ["n", "d"] (defScope (topS 23)) := ⟨rfl, rfl, rfl, by decide +kernel, rfl, by decide +kernel, by decide +kernel⟩
theorem ok_ratio (T : Txt K mg) : GF P w K mg base "ratio" 2 2 f_ratio := by
  obtain ⟨fd, F⟩ := T.d_ratio
  have G_common := ok_common (P := P) (w := w) (base := base) T
  refine gf_mk F T.g_ratio sc_ratio 1 rfl (fun _ _ _ _ _ _ us hl => match us, hl with | [_, _], _ => rfl) fun cdv hcv A outer s H E cx => ?_
  exact is_cons (is_set (i := 2) cx (ie_callG cx G_common (ia_cons (ie_var 0) (ia_cons (ie_var 1) ia_nil))))
    (is_one (is_ret (ie_tup (ia_cons (ie_div (ie_var 0) (ie_var 2)) (ia_cons (ie_div (ie_var 1) (ie_var 2)) ia_nil)))))

theorem sc_is_fraction : FnScope ["value"] ["value"] (defScope (topS 24)) := ⟨rfl, rfl, rfl, by decide +kernel, rfl, by decide +kernel, by decide +kernel⟩
theorem ok_is_fraction (T : Txt K mg) : GF P w K mg base "is_fraction" 2 1 f_is_fraction := by
  obtain ⟨fd, F⟩ := T.d_is_fraction
  have G_common := ok_common (P := P) (w := w) (base := base) T
  have G_is_integer := ok_is_integer (P := P) (w := w) (base := base) T
  refine gf_mk F T.g_is_fraction sc_is_fraction 0 rfl (fun _ _ _ _ _ _ us hl => match us, hl with | [_], _ => rfl) fun cdv hcv A outer s H E cx => ?_
  exact is_cons (is_if (PW.pt (iw_or (it_not (it_tru (ie_isi T.os T.z_isinstance (ia_cons (ie_var 0) (ia_cons (ie_tyB T.z_tuple) ia_nil))))) (iw_or1 (it_ne cx (ie_len T.z_len (ia_cons (ie_var 0) ia_nil)) ie_int)))) (is_one (is_ret ie_bl)) is_nil)
    (is_cons (is_if (PW.pt (iw_or (it_not (it_tru (ie_callG cx G_is_integer (ia_cons (ie_idx (ie_var 0) ie_int) ia_nil)))) (iw_or1 (it_not (it_tru (ie_callG cx G_is_integer (ia_cons (ie_idx (ie_var 0) ie_int) ia_nil))))))) (is_one (is_ret ie_bl)) is_nil)
    (is_one (is_ret (ie_and (ie_ge (ie_idx (ie_var 0) ie_int) ie_int) (ie_one (ie_eq cx (ie_callG cx G_common (ia_cons (ie_idx (ie_var 0) ie_int) (ia_cons (ie_idx (ie_var 0) ie_int) ia_nil))) ie_int))))))

theorem sc_plus : FnScope ["one", "other"] ["one", "other"] (defScope (topS 25)) := ⟨rfl, rfl, rfl, by decide +kernel, rfl, by decide +kernel, by decide +kernel⟩
theorem ok_plus (T : Txt K mg) : GF P w K mg base "plus" 3 2 f_plus := by
  obtain ⟨fd, F⟩ := T.d_plus
  have G_ratio := ok_ratio (P := P) (w := w) (base := base) T
  refine gf_mk F T.g_plus sc_plus 0 rfl (fun _ _ _ _ _ _ us hl => match us, hl with | [_, _], _ => rfl) fun cdv hcv A outer s H E cx => ?_
  exact is_one (is_ret (ie_callG cx G_ratio (ia_cons (ie_add (ie_mul (ie_idx (ie_var 0) ie_int) (ie_idx (ie_var 1) ie_int)) (ie_mul (ie_idx (ie_var 1) ie_int) (ie_idx (ie_var 0) ie_int))) (ia_cons (ie_mul (ie_idx (ie_var 0) ie_int) (ie_idx (ie_var 1) ie_int)) ia_nil))))

theorem sc_minus : FnScope ["one", "other"] ["one", "other"] (defScope (topS 26)) := ⟨rfl, rfl, rfl, by decide +kernel, rfl, by decide +kernel, by decide +kernel⟩
theorem ok_minus (T : Txt K mg) : GF P w K mg base "minus" 3 2 f_minus := by
  obtain ⟨fd, F⟩ := T.d_minus
  have G_ratio := ok_ratio (P := P) (w := w) (base := base) T
  refine gf_mk F T.g_minus sc_minus 0 rfl (fun _ _ _ _ _ _ us hl => match us, hl with | [_, _], _ => rfl) fun cdv hcv A outer s H E cx => ?_
  exact is_one (is_ret (ie_callG cx G_ratio (ia_cons (ie_sub (ie_mul (ie_idx (ie_var 0) ie_int) (ie_idx (ie_var 1) ie_int)) (ie_mul (ie_idx (ie_var 1) ie_int) (ie_idx (ie_var 0) ie_int))) (ia_cons (ie_mul (ie_idx (ie_var 0) ie_int) (ie_idx (ie_var 1) ie_int)) ia_nil))))

theorem sc_times : FnScope ["one", "other"] ["one", "other"] (defScope (topS 27)) := ⟨rfl, rfl, rfl, by decide +kernel, rfl, by decide +kernel, by decide +kernel⟩
theorem ok_times (T : Txt K mg) : GF P w K mg base "times" 3 2 f_times := by
  obtain ⟨fd, F⟩ := T.d_times
  have G_ratio := ok_ratio (P := P) (w := w) (base := base) T
  refine gf_mk F T.g_times sc_times 0 rfl (fun _ _ _ _ _ _ us hl => match us, hl with | [_, _], _ => rfl) fun cdv hcv A outer s H E cx => ?_
  exact is_one (is_ret (ie_callG cx G_ratio (ia_cons (ie_mul (ie_idx (ie_var 0) ie_int) (ie_idx (ie_var 1) ie_int)) (ia_cons (ie_mul (ie_idx (ie_var 0) ie_int) (ie_idx (ie_var 1) ie_int)) ia_nil))))

theorem sc_over : FnScope ["one", "other"] ["one", "other"] (defScope (topS 28)) := ⟨rfl, rfl, rfl, by decide +kernel, rfl, by decide +kernel, by decide +kernel⟩
theorem ok_over (T : Txt K mg) : GF P w K mg base "over" 3 2 f_over := by
  obtain ⟨fd, F⟩ := T.d_over
  have G_ratio := ok_ratio (P := P) (w := w) (base := base) T
  refine gf_mk F T.g_over sc_over 0 rfl (fun _ _ _ _ _ _ us hl => match us, hl with | [_, _], _ => rfl) fun cdv hcv A outer s H E cx => ?_
  exact is_one (is_ret (ie_callG cx G_ratio (ia_cons (ie_mul (ie_idx (ie_var 0) ie_int) (ie_idx (ie_var 1) ie_int)) (ia_cons (ie_mul (ie_idx (ie_var 0) ie_int) (ie_idx (ie_var 1) ie_int)) ia_nil))))

theorem sc_is_less : FnScope ["one", "other"] ["one", "other"] (defScope (topS 29)) := ⟨rfl, rfl, rfl, by decide +kernel, rfl, by decide +kernel, by decide +kernel⟩
theorem ok_is_less (T : Txt K mg) : GF P w K mg base "is_less" 1 2 f_is_less := by
  obtain ⟨fd, F⟩ := T.d_is_less
  refine gf_mk F T.g_is_less sc_is_less 0 rfl (fun _ _ _ _ _ _ us hl => match us, hl with | [_, _], _ => rfl) fun cdv hcv A outer s H E cx => ?_
  exact is_one (is_ret (ie_lt (ie_mul (ie_idx (ie_var 0) ie_int) (ie_idx (ie_var 1) ie_int)) (ie_mul (ie_idx (ie_var 1) ie_int) (ie_idx (ie_var 0) ie_int))))

theorem sc_is_within : FnScope ["value", "low", "high"] ["value", "low", "high"] (defScope (topS 30)) := ⟨rfl, rfl, rfl, by decide +kernel, rfl, by decide +kernel, by decide +kernel⟩
theorem ok_is_within (T : Txt K mg) : GF P w K mg base "is_within" 3 3 f_is_within := by
  obtain ⟨fd, F⟩ := T.d_is_within
  have G_is_fraction := ok_is_fraction (P := P) (w := w) (base := base) T
  refine gf_mk F T.g_is_within sc_is_within 0 rfl (fun _ _ _ _ _ _ us hl => match us, hl with | [_, _, _], _ => rfl) fun cdv hcv A outer s H E cx => ?_
  exact is_cons (is_if (it_not (it_tru (ie_callG cx G_is_fraction (ia_cons (ie_var 0) ia_nil)))) (is_one (is_ret ie_bl)) is_nil)
    (is_one (is_ret (ie_lele (ie_mul (ie_var 1) (ie_idx (ie_var 0) ie_int)) (ie_idx (ie_var 0) ie_int) (ie_mul (ie_var 2) (ie_idx (ie_var 0) ie_int)))))

theorem sc_least_of : FnScope ["fractions", "found", "one"] ["fractions"] (defScope (topS 31)) := ⟨rfl, rfl, rfl, by decide +kernel, rfl, by decide +kernel, by decide +kernel⟩
theorem ok_least_of (T : Txt K mg) : GF P w K mg base "least_of" 2 1 f_least_of := by
  obtain ⟨fd, F⟩ := T.d_least_of
  have G_is_less := ok_is_less (P := P) (w := w) (base := base) T
  refine gf_mk F T.g_least_of sc_least_of 2 rfl (fun _ _ _ _ _ _ us hl => match us, hl with | [_], _ => rfl) fun cdv hcv A outer s H E cx => ?_
  exact is_cons (is_set (i := 1) cx (ie_idx (ie_var 0) ie_int))
    (is_cons (is_for cx (ii_seq (ie_var 0)) (ig_name 2 cx.nd) (is_one (is_if (it_tru (ie_callG cx G_is_less (ia_cons (ie_var 2) (ia_cons (ie_var 1) ia_nil)))) (is_one (is_set (i := 1) cx (ie_var 2))) is_nil)))
    (is_one (is_ret (ie_var 1))))

theorem sc_greatest_of : FnScope ["fractions", "found", "one"] ["fractions"] (defScope (topS 32)) := ⟨rfl, rfl, rfl, by decide +kernel, rfl, by decide +kernel, by decide +kernel⟩
theorem ok_greatest_of (T : Txt K mg) : GF P w K mg base "greatest_of" 2 1 f_greatest_of := by
  obtain ⟨fd, F⟩ := T.d_greatest_of
  have G_is_less := ok_is_less (P := P) (w := w) (base := base) T
  refine gf_mk F T.g_greatest_of sc_greatest_of 2 rfl (fun _ _ _ _ _ _ us hl => match us, hl with | [_], _ => rfl) fun cdv hcv A outer s H E cx => ?_
  exact is_cons (is_set (i := 1) cx (ie_idx (ie_var 0) ie_int))
    (is_cons (is_for cx (ii_seq (ie_var 0)) (ig_name 2 cx.nd) (is_one (is_if (it_tru (ie_callG cx G_is_less (ia_cons (ie_var 1) (ia_cons (ie_var 2) ia_nil)))) (is_one (is_set (i := 1) cx (ie_var 2))) is_nil)))
    (is_one (is_ret (ie_var 1))))

theorem sc_is_reach : FnScope ["value"] ["value"] (defScope (topS 38)) := ⟨rfl, rfl, rfl, by decide +kernel, rfl, by decide +kernel, by decide +kernel⟩
theorem ok_is_reach (T : Txt K mg) : GF P w K mg base "is_reach" 4 1 f_is_reach := by
  obtain ⟨fd, F⟩ := T.d_is_reach
  have G_is_within := ok_is_within (P := P) (w := w) (base := base) T
  refine gf_mk F T.g_is_reach sc_is_reach 0 rfl (fun _ _ _ _ _ _ us hl => match us, hl with | [_], _ => rfl) fun cdv hcv A outer s H E cx => ?_
  exact is_one (is_ret (ie_and (ie_callG cx G_is_within (ia_cons (ie_var 0) (ia_cons ie_int (ia_cons (ie_gint rfl T.c_MOST_REACH) ia_nil)))) (ie_one (ie_gt (ie_idx (ie_var 0) ie_int) ie_int))))

theorem sc_is_turn : FnScope ["value", "roads"] ["value", "roads"] (defScope (topS 39)) := ⟨rfl, rfl, rfl, by decide +kernel, rfl, by decide +kernel, by decide +kernel⟩
theorem ok_is_turn (T : Txt K mg) : GF P w K mg base "is_turn" 5 2 f_is_turn := by
  obtain ⟨fd, F⟩ := T.d_is_turn
  have G_is_from := ok_is_from (P := P) (w := w) (base := base) T
  have G_is_reach := ok_is_reach (P := P) (w := w) (base := base) T
  refine gf_mk F T.g_is_turn sc_is_turn 0 rfl (fun _ _ _ _ _ _ us hl => match us, hl with | [_, _], _ => rfl) fun cdv hcv A outer s H E cx => ?_
  exact is_cons (is_if (PW.pt (iw_or (it_not (it_tru (ie_isi T.os T.z_isinstance (ia_cons (ie_var 0) (ia_cons (ie_tyB T.z_tuple) ia_nil))))) (iw_or1 (it_ne cx (ie_len T.z_len (ia_cons (ie_var 0) ia_nil)) ie_int)))) (is_one (is_ret ie_bl)) is_nil)
    (is_one (is_ret (ie_and (ie_callG cx G_is_from (ia_cons (ie_idx (ie_var 0) ie_int) (ia_cons ie_int (ia_cons (ie_sub (ie_var 1) ie_int) ia_nil)))) (ie_one (ie_callG cx G_is_reach (ia_cons (ie_idx (ie_var 0) ie_int) ia_nil))))))

theorem sc_check_roads : FnScope ["value"] ["value"] (defScope (topS 40)) := ⟨rfl, rfl, rfl, by decide +kernel, rfl, by decide +kernel, by decide +kernel⟩
theorem ok_check_roads (T : Txt K mg) : GF P w K mg base "check_roads" 3 1 f_check_roads := by
  obtain ⟨fd, F⟩ := T.d_check_roads
  have G_is_from := ok_is_from (P := P) (w := w) (base := base) T
  refine gf_mk F T.g_check_roads sc_check_roads 0 rfl (fun _ _ _ _ _ _ us hl => match us, hl with | [_], _ => rfl) fun cdv hcv A outer s H E cx => ?_
  exact is_one (is_if (it_not (it_tru (ie_callG cx G_is_from (ia_cons (ie_var 0) (ia_cons ie_int (ia_cons (ie_gint rfl T.c_MOST_ROADS) ia_nil)))))) (is_one (is_raise0 cx T.x_BadRoads)) is_nil)

theorem sc_check_cost : FnScope ["value"] ["value"] (defScope (topS 41)) := ⟨rfl, rfl, rfl, by decide +kernel, rfl, by decide +kernel, by decide +kernel⟩
theorem ok_check_cost (T : Txt K mg) : GF P w K mg base "check_cost" 4 1 f_check_cost := by
  obtain ⟨fd, F⟩ := T.d_check_cost
  have G_is_within := ok_is_within (P := P) (w := w) (base := base) T
  refine gf_mk F T.g_check_cost sc_check_cost 0 rfl (fun _ _ _ _ _ _ us hl => match us, hl with | [_], _ => rfl) fun cdv hcv A outer s H E cx => ?_
  exact is_one (is_if (it_not (it_tru (ie_callG cx G_is_within (ia_cons (ie_var 0) (ia_cons ie_int (ia_cons (ie_gint rfl T.c_MOST_REACH) ia_nil)))))) (is_one (is_raise0 cx T.x_BadCost)) is_nil)

theorem sc_Plan___init__ : FnScope ["self", "roads", "turns", "cost", "index", "turn"] ["self", "roads", "turns", "cost"] (defScope (inClass (topS 42) 0)) := ⟨rfl, rfl, rfl, by decide +kernel, rfl, by decide +kernel, by decide +kernel⟩
theorem ok_Plan___init__ (T : Txt K mg) : GA P w K mg base (He.ma K (He.ga K "Plan") "__init__") 6 4 f_Plan___init__ := by
  obtain ⟨fd, F⟩ := T.d_Plan___init__
  have G_BadTurns___init__ := ok_BadTurns___init__ (P := P) (w := w) (base := base) T
  have G_check_cost := ok_check_cost (P := P) (w := w) (base := base) T
  have G_check_roads := ok_check_roads (P := P) (w := w) (base := base) T
  have G_is_turn := ok_is_turn (P := P) (w := w) (base := base) T
  refine ga_mk F sc_Plan___init__ 2 rfl (fun _ _ _ _ _ _ us hl => match us, hl with | [_, _, _, _], _ => rfl) fun cdv hcv A outer s H E cx => ?_
  exact is_cons (is_expr (ie_callG cx G_check_roads (ia_cons (ie_var 1) ia_nil)))
    (is_cons (is_if (PW.pt (iw_or (it_not (it_tru (ie_isi T.os T.z_isinstance (ia_cons (ie_var 2) (ia_cons (ie_tyB T.z_tuple) ia_nil))))) (iw_or1 (it_gt (ie_len T.z_len (ia_cons (ie_var 2) ia_nil)) (ie_gint rfl T.c_MOST_TURNS))))) (is_one (is_raise1 cx T.xi_BadTurns G_BadTurns___init__ (ia_cons ie_non ia_nil))) is_nil)
    (is_cons (is_for cx (ii_enum T.z_enumerate (ia_cons (ie_var 2) ia_nil)) (ig_tup cx (igs_cons 4 cx.nd (igs_cons 5 cx.nd igs_nil))) (is_one (is_if (it_not (it_tru (ie_callG cx G_is_turn (ia_cons (ie_var 5) (ia_cons (ie_var 1) ia_nil))))) (is_one (is_raise1 cx T.xi_BadTurns G_BadTurns___init__ (ia_cons (ie_var 4) ia_nil))) is_nil)))
    (is_cons (is_expr (ie_callG cx G_check_cost (ia_cons (ie_var 3) ia_nil)))
    (is_one (is_fld T.o_Plan.gC T.o_Plan.cl T.na_Plan_held (ie_var 0) (ie_tup (ia_cons (ie_var 1) (ia_cons (ie_var 2) (ia_cons (ie_var 3) ia_nil)))))))))

theorem sc_Plan_roads : FnScope ["self"] ["self"] (defScope (inClass (topS 42) 1)) := ⟨rfl, rfl, rfl, by decide +kernel, rfl, by decide +kernel, by decide +kernel⟩
theorem ok_Plan_roads (T : Txt K mg) : GA P w K mg base (He5.wf K (He.ga K "Plan") "property" "roads") 1 1 f_Plan_roads := by
  obtain ⟨fd, F⟩ := T.d_Plan_roads
  refine ga_mk F sc_Plan_roads 0 rfl (fun _ _ _ _ _ _ us hl => match us, hl with | [_], _ => rfl) fun cdv hcv A outer s H E cx => ?_
  exact is_one (is_ret (ie_idx (ie_fld T.o_Plan.gC T.o_Plan.cl T.na_Plan_held (ie_var 0)) ie_int))

theorem sc_Plan_turns : FnScope ["self"] ["self"] (defScope (inClass (topS 42) 2)) := ⟨rfl, rfl, rfl, by decide +kernel, rfl, by decide +kernel, by decide +kernel⟩
theorem ok_Plan_turns (T : Txt K mg) : GA P w K mg base (He5.wf K (He.ga K "Plan") "property" "turns") 1 1 f_Plan_turns := by
  obtain ⟨fd, F⟩ := T.d_Plan_turns
  refine ga_mk F sc_Plan_turns 0 rfl (fun _ _ _ _ _ _ us hl => match us, hl with | [_], _ => rfl) fun cdv hcv A outer s H E cx => ?_
  exact is_one (is_ret (ie_idx (ie_fld T.o_Plan.gC T.o_Plan.cl T.na_Plan_held (ie_var 0)) ie_int))

theorem sc_Plan_cost : FnScope ["self"] ["self"] (defScope (inClass (topS 42) 3)) := ⟨rfl, rfl, rfl, by decide +kernel, rfl, by decide +kernel, by decide +kernel⟩
theorem ok_Plan_cost (T : Txt K mg) : GA P w K mg base (He5.wf K (He.ga K "Plan") "property" "cost") 1 1 f_Plan_cost := by
  obtain ⟨fd, F⟩ := T.d_Plan_cost
  refine ga_mk F sc_Plan_cost 0 rfl (fun _ _ _ _ _ _ us hl => match us, hl with | [_], _ => rfl) fun cdv hcv A outer s H E cx => ?_
  exact is_one (is_ret (ie_idx (ie_fld T.o_Plan.gC T.o_Plan.cl T.na_Plan_held (ie_var 0)) ie_int))

theorem sc_Plan___len__ : FnScope ["self"] ["self"] (defScope (inClass (topS 42) 4)) := ⟨rfl, rfl, rfl, by decide +kernel, rfl, by decide +kernel, by decide +kernel⟩
theorem ok_Plan___len__ (T : Txt K mg) : GA P w K mg base (He.ma K (He.ga K "Plan") "__len__") 1 1 f_Plan___len__ := by
  obtain ⟨fd, F⟩ := T.d_Plan___len__
  refine ga_mk F sc_Plan___len__ 0 rfl (fun _ _ _ _ _ _ us hl => match us, hl with | [_], _ => rfl) fun cdv hcv A outer s H E cx => ?_
  exact is_one (is_ret (ie_len T.z_len (ia_cons (ie_idx (ie_fld T.o_Plan.gC T.o_Plan.cl T.na_Plan_held (ie_var 0)) ie_int) ia_nil)))

theorem sc_Plan___eq__ : FnScope ["self", "other"] ["self", "other"] (defScope (inClass (topS 42) 5)) := ⟨rfl, rfl, rfl, by decide +kernel, rfl, by decide +kernel, by decide +kernel⟩
theorem ok_Plan___eq__ (T : Txt K mg) : GA P w K mg base (He.ma K (He.ga K "Plan") "__eq__") 1 2 f_Plan___eq__ := by
  obtain ⟨fd, F⟩ := T.d_Plan___eq__
  refine ga_mk F sc_Plan___eq__ 0 rfl (fun _ _ _ _ _ _ us hl => match us, hl with | [_, _], _ => rfl) fun cdv hcv A outer s H E cx => ?_
  exact is_one (is_ret (ie_and (ie_isi T.os T.z_isinstance (ia_cons (ie_var 1) (ia_cons (ie_glo rfl T.o_Plan.gC) ia_nil))) (ie_one (ie_eq cx (ie_fld T.o_Plan.gC T.o_Plan.cl T.na_Plan_held (ie_var 0)) (ie_fld T.o_Plan.gC T.o_Plan.cl T.na_Plan_held (ie_var 1))))))

theorem sc_check_plan : FnScope ["value"] ["value"] (defScope (topS 43)) := ⟨rfl, rfl, rfl, by decide +kernel, rfl, by decide +kernel, by decide +kernel⟩
theorem ok_check_plan (T : Txt K mg) : GF P w K mg base "check_plan" 1 1 f_check_plan := by
  obtain ⟨fd, F⟩ := T.d_check_plan
  refine gf_mk F T.g_check_plan sc_check_plan 0 rfl (fun _ _ _ _ _ _ us hl => match us, hl with | [_], _ => rfl) fun cdv hcv A outer s H E cx => ?_
  exact is_one (is_if (it_not (it_tru (ie_isi T.os T.z_isinstance (ia_cons (ie_var 0) (ia_cons (ie_glo rfl T.o_Plan.gC) ia_nil))))) (is_one (is_raise0 cx T.x_BadPlan)) is_nil)

theorem sc_check_road : FnScope ["roads", "value"] ["roads", "value"] (defScope (topS 44)) := ⟨rfl, rfl, rfl, by decide +kernel, rfl, by decide +kernel, by decide +kernel⟩
theorem ok_check_road (T : Txt K mg) : GF P w K mg base "check_road" 3 2 f_check_road := by
  obtain ⟨fd, F⟩ := T.d_check_road
  have G_is_from := ok_is_from (P := P) (w := w) (base := base) T
  refine gf_mk F T.g_check_road sc_check_road 0 rfl (fun _ _ _ _ _ _ us hl => match us, hl with | [_, _], _ => rfl) fun cdv hcv A outer s H E cx => ?_
  exact is_one (is_if (it_not (it_tru (ie_callG cx G_is_from (ia_cons (ie_var 1) (ia_cons ie_int (ia_cons (ie_sub (ie_var 0) ie_int) ia_nil)))))) (is_one (is_raise0 cx T.x_BadRoad)) is_nil)

theorem sc_is_far : FnScope ["value"] ["value"] (defScope (topS 45)) := ⟨rfl, rfl, rfl, by decide +kernel, rfl, by decide +kernel, by decide +kernel⟩
theorem ok_is_far (T : Txt K mg) : GF P w K mg base "is_far" 4 1 f_is_far := by
  obtain ⟨fd, F⟩ := T.d_is_far
  have G_is_within := ok_is_within (P := P) (w := w) (base := base) T
  refine gf_mk F T.g_is_far sc_is_far 0 rfl (fun _ _ _ _ _ _ us hl => match us, hl with | [_], _ => rfl) fun cdv hcv A outer s H E cx => ?_
  exact is_one (is_ret (ie_callG cx G_is_within (ia_cons (ie_var 0) (ia_cons ie_int (ia_cons (ie_gint rfl T.c_MOST_FAR_plans) ia_nil)))))

theorem sc_check_far : FnScope ["value"] ["value"] (defScope (topS 46)) := ⟨rfl, rfl, rfl, by decide +kernel, rfl, by decide +kernel, by decide +kernel⟩
theorem ok_check_far (T : Txt K mg) : GF P w K mg base "check_far" 5 1 f_check_far := by
  obtain ⟨fd, F⟩ := T.d_check_far
  have G_is_far := ok_is_far (P := P) (w := w) (base := base) T
  refine gf_mk F T.g_check_far sc_check_far 0 rfl (fun _ _ _ _ _ _ us hl => match us, hl with | [_], _ => rfl) fun cdv hcv A outer s H E cx => ?_
  exact is_one (is_if (it_not (it_tru (ie_callG cx G_is_far (ia_cons (ie_var 0) ia_nil)))) (is_one (is_raise0 cx T.x_BadFar)) is_nil)

theorem sc_bases_of : FnScope ["plan", "found", "road", "reach"] ["plan"] (defScope (topS 47)) := ⟨rfl, rfl, rfl, by decide +kernel, rfl, by decide +kernel, by decide +kernel⟩
theorem ok_bases_of (T : Txt K mg) : GF P w K mg base "bases_of" 4 1 f_bases_of := by
  obtain ⟨fd, F⟩ := T.d_bases_of
  have G_plus := ok_plus (P := P) (w := w) (base := base) T
  have G_times := ok_times (P := P) (w := w) (base := base) T
  refine gf_mk F T.g_bases_of sc_bases_of 3 rfl (fun _ _ _ _ _ _ us hl => match us, hl with | [_], _ => rfl) fun cdv hcv A outer s H E cx => ?_
  exact is_cons (is_set (i := 1) cx (ie_lst (ia_cons (ie_gtup rfl T.g_ZERO T.c_ZERO (fun _ _ => .cons (.int 0) (.cons (.int 1) (.nil)))) ia_nil)))
    (is_cons (is_for cx (ii_seq (ie_idx (ie_fld T.o_Plan.gC T.o_Plan.cl T.na_Plan_held (ie_var 0)) ie_int)) (ig_tup cx (igs_cons 2 cx.nd (igs_cons 3 cx.nd igs_nil))) (is_one (is_expr (ie_append (ie_var 1) (ia_cons (ie_callG cx G_plus (ia_cons (ie_idx (ie_var 1) (ie_neg ie_int)) (ia_cons (ie_callG cx G_plus (ia_cons (ie_callG cx G_times (ia_cons (ie_tup (ia_cons ie_int (ia_cons ie_int ia_nil))) (ia_cons (ie_var 3) ia_nil))) (ia_cons (ie_idx (ie_fld T.o_Plan.gC T.o_Plan.cl T.na_Plan_held (ie_var 0)) ie_int) ia_nil))) ia_nil))) ia_nil)))))
    (is_one (is_ret (ie_var 1))))

theorem sc_walked_by : FnScope ["plan", "road", "far", "turn", "base"] ["plan", "road", "far"] (defScope (topS 48)) := ⟨rfl, rfl, rfl, by decide +kernel, rfl, by decide +kernel, by decide +kernel⟩
theorem ok_walked_by (T : Txt K mg) : GF P w K mg base "walked_by" 5 3 f_walked_by := by
  obtain ⟨fd, F⟩ := T.d_walked_by
  have G_bases_of := ok_bases_of (P := P) (w := w) (base := base) T
  have G_is_less := ok_is_less (P := P) (w := w) (base := base) T
  have G_plus := ok_plus (P := P) (w := w) (base := base) T
  refine gf_mk F T.g_walked_by sc_walked_by 2 rfl (fun _ _ _ _ _ _ us hl => match us, hl with | [_, _, _], _ => rfl) fun cdv hcv A outer s H E cx => ?_
  exact is_cons (is_for cx (ii_zip T.z_zip (ia_cons (ie_idx (ie_fld T.o_Plan.gC T.o_Plan.cl T.na_Plan_held (ie_var 0)) ie_int) (ia_cons (ie_callG cx G_bases_of (ia_cons (ie_var 0) ia_nil)) ia_nil))) (ig_tup cx (igs_cons 3 cx.nd (igs_cons 4 cx.nd igs_nil))) (is_one (is_if (PW.pt (iw_and (it_eq cx (ie_idx (ie_var 3) ie_int) (ie_var 1)) (iw_and1 (it_not (it_tru (ie_callG cx G_is_less (ia_cons (ie_idx (ie_var 3) ie_int) (ia_cons (ie_var 2) ia_nil)))))))) (is_one (is_ret (ie_callG cx G_plus (ia_cons (ie_var 4) (ia_cons (ie_var 2) ia_nil))))) is_nil)))
    (is_one (is_ret ie_non))

theorem sc_check_place : FnScope ["plan", "road", "far"] ["plan", "road", "far"] (defScope (topS 49)) := ⟨rfl, rfl, rfl, by decide +kernel, rfl, by decide +kernel, by decide +kernel⟩
theorem ok_check_place (T : Txt K mg) : GF P w K mg base "check_place" 6 3 f_check_place := by
  obtain ⟨fd, F⟩ := T.d_check_place
  have G_check_far := ok_check_far (P := P) (w := w) (base := base) T
  have G_check_plan := ok_check_plan (P := P) (w := w) (base := base) T
  have G_check_road := ok_check_road (P := P) (w := w) (base := base) T
  refine gf_mk F T.g_check_place sc_check_place 0 rfl (fun _ _ _ _ _ _ us hl => match us, hl with | [_, _, _], _ => rfl) fun cdv hcv A outer s H E cx => ?_
  exact is_cons (is_expr (ie_callG cx G_check_plan (ia_cons (ie_var 0) ia_nil)))
    (is_cons (is_expr (ie_callG cx G_check_road (ia_cons (ie_idx (ie_fld T.o_Plan.gC T.o_Plan.cl T.na_Plan_held (ie_var 0)) ie_int) (ia_cons (ie_var 1) ia_nil))))
    (is_one (is_expr (ie_callG cx G_check_far (ia_cons (ie_var 2) ia_nil)))))

theorem sc_walked : FnScope ["plan", "road", "far"] ["plan", "road", "far"] (defScope (topS 50)) := ⟨rfl, rfl, rfl, by decide +kernel, rfl, by decide +kernel, by decide +kernel⟩
theorem ok_walked (T : Txt K mg) : GF P w K mg base "walked" 7 3 f_walked := by
  obtain ⟨fd, F⟩ := T.d_walked
  have G_check_place := ok_check_place (P := P) (w := w) (base := base) T
  have G_walked_by := ok_walked_by (P := P) (w := w) (base := base) T
  refine gf_mk F T.g_walked sc_walked 0 rfl (fun _ _ _ _ _ _ us hl => match us, hl with | [_, _, _], _ => rfl) fun cdv hcv A outer s H E cx => ?_
  exact is_cons (is_expr (ie_callG cx G_check_place (ia_cons (ie_var 0) (ia_cons (ie_var 1) (ia_cons (ie_var 2) ia_nil)))))
    (is_one (is_ret (ie_callG cx G_walked_by (ia_cons (ie_var 0) (ia_cons (ie_var 1) (ia_cons (ie_var 2) ia_nil))))))

theorem sc_share : FnScope ["plan", "road", "far", "found"] ["plan", "road", "far"] (defScope (topS 51)) := ⟨rfl, rfl, rfl, by decide +kernel, rfl, by decide +kernel, by decide +kernel⟩
theorem ok_share (T : Txt K mg) : GF P w K mg base "share" 7 3 f_share := by
  obtain ⟨fd, F⟩ := T.d_share
  have G_check_place := ok_check_place (P := P) (w := w) (base := base) T
  have G_over := ok_over (P := P) (w := w) (base := base) T
  have G_walked_by := ok_walked_by (P := P) (w := w) (base := base) T
  refine gf_mk F T.g_share sc_share 1 rfl (fun _ _ _ _ _ _ us hl => match us, hl with | [_, _, _], _ => rfl) fun cdv hcv A outer s H E cx => ?_
  exact is_cons (is_expr (ie_callG cx G_check_place (ia_cons (ie_var 0) (ia_cons (ie_var 1) (ia_cons (ie_var 2) ia_nil)))))
    (is_cons (is_set (i := 3) cx (ie_callG cx G_walked_by (ia_cons (ie_var 0) (ia_cons (ie_var 1) (ia_cons (ie_var 2) ia_nil)))))
    (is_cons (is_if (it_is (ie_var 3) ie_non) (is_one (is_ret ie_non)) is_nil)
    (is_one (is_ret (ie_callG cx G_over (ia_cons (ie_var 3) (ia_cons (ie_var 2) ia_nil)))))))

theorem sc_pieces_of : FnScope ["plan", "road", "found", "most", "turn", "base", "own", "reach"] ["plan", "road"] (defScope (topS 52)) := ⟨rfl, rfl, rfl, by decide +kernel, rfl, by decide +kernel, by decide +kernel⟩
theorem ok_pieces_of (T : Txt K mg) : GF P w K mg base "pieces_of" 5 2 f_pieces_of := by
  obtain ⟨fd, F⟩ := T.d_pieces_of
  have G_bases_of := ok_bases_of (P := P) (w := w) (base := base) T
  have G_greatest_of := ok_greatest_of (P := P) (w := w) (base := base) T
  have G_is_less := ok_is_less (P := P) (w := w) (base := base) T
  refine gf_mk F T.g_pieces_of sc_pieces_of 6 rfl (fun _ _ _ _ _ _ us hl => match us, hl with | [_, _], _ => rfl) fun cdv hcv A outer s H E cx => ?_
  exact is_cons (is_set (i := 2) cx (ie_lst ia_nil))
    (is_cons (is_set (i := 3) cx (ie_gtup rfl T.g_ZERO T.c_ZERO (fun _ _ => .cons (.int 0) (.cons (.int 1) (.nil)))))
    (is_cons (is_for cx (ii_zip T.z_zip (ia_cons (ie_idx (ie_fld T.o_Plan.gC T.o_Plan.cl T.na_Plan_held (ie_var 0)) ie_int) (ia_cons (ie_callG cx G_bases_of (ia_cons (ie_var 0) ia_nil)) ia_nil))) (ig_tup cx (igs_cons 4 cx.nd (igs_cons 5 cx.nd igs_nil))) (is_cons (is_asgT (ie_var 4) (ig_tup cx (igs_cons 6 cx.nd (igs_cons 7 cx.nd igs_nil))))
    (is_one (is_if (PW.pt (iw_and (it_eq cx (ie_var 6) (ie_var 1)) (iw_and1 (it_tru (ie_callG cx G_is_less (ia_cons (ie_var 3) (ia_cons (ie_var 7) ia_nil))))))) (is_cons (is_if (it_not (it_tru (ie_callG cx G_is_less (ia_cons (ie_var 7) (ia_cons (ie_gtup rfl T.g_ONE T.c_ONE (fun _ _ => .cons (.int 1) (.cons (.int 1) (.nil)))) ia_nil))))) (is_one (is_expr (ie_append (ie_var 2) (ia_cons (ie_tup (ia_cons (ie_callG cx G_greatest_of (ia_cons (ie_lst (ia_cons (ie_var 3) (ia_cons (ie_gtup rfl T.g_ONE T.c_ONE (fun _ _ => .cons (.int 1) (.cons (.int 1) (.nil)))) ia_nil))) ia_nil)) (ia_cons (ie_var 7) (ia_cons (ie_var 5) ia_nil)))) ia_nil)))) is_nil)
    (is_one (is_set (i := 3) cx (ie_var 7)))) is_nil))))
    (is_one (is_ret (ie_var 2)))))

theorem sc_pieces : FnScope ["plan", "road"] ["plan", "road"] (defScope (topS 53)) := ⟨rfl, rfl, rfl, by decide +kernel, rfl, by decide +kernel, by decide +kernel⟩
theorem ok_pieces (T : Txt K mg) : GF P w K mg base "pieces" 6 2 f_pieces := by
  obtain ⟨fd, F⟩ := T.d_pieces
  have G_check_plan := ok_check_plan (P := P) (w := w) (base := base) T
  have G_check_road := ok_check_road (P := P) (w := w) (base := base) T
  have G_pieces_of := ok_pieces_of (P := P) (w := w) (base := base) T
  refine gf_mk F T.g_pieces sc_pieces 0 rfl (fun _ _ _ _ _ _ us hl => match us, hl with | [_, _], _ => rfl) fun cdv hcv A outer s H E cx => ?_
  exact is_cons (is_expr (ie_callG cx G_check_plan (ia_cons (ie_var 0) ia_nil)))
    (is_cons (is_expr (ie_callG cx G_check_road (ia_cons (ie_idx (ie_fld T.o_Plan.gC T.o_Plan.cl T.na_Plan_held (ie_var 0)) ie_int) (ia_cons (ie_var 1) ia_nil))))
    (is_one (is_ret (ie_callG cx G_pieces_of (ia_cons (ie_var 0) (ia_cons (ie_var 1) ia_nil))))))

theorem sc_reach_of : FnScope ["plan", "road", "found"] ["plan", "road"] (defScope (topS 54)) := ⟨rfl, rfl, rfl, by decide +kernel, rfl, by decide +kernel, by decide +kernel⟩
theorem ok_reach_of (T : Txt K mg) : GF P w K mg base "reach_of" 6 2 f_reach_of := by
  obtain ⟨fd, F⟩ := T.d_reach_of
  have G_pieces_of := ok_pieces_of (P := P) (w := w) (base := base) T
  refine gf_mk F T.g_reach_of sc_reach_of 1 rfl (fun _ _ _ _ _ _ us hl => match us, hl with | [_, _], _ => rfl) fun cdv hcv A outer s H E cx => ?_
  exact is_cons (is_set (i := 2) cx (ie_callG cx G_pieces_of (ia_cons (ie_var 0) (ia_cons (ie_var 1) ia_nil))))
    (is_cons (is_if (it_not (it_tru (ie_var 2))) (is_one (is_ret (ie_gtup rfl T.g_ZERO T.c_ZERO (fun _ _ => .cons (.int 0) (.cons (.int 1) (.nil)))))) is_nil)
    (is_one (is_ret (ie_idx (ie_idx (ie_var 2) (ie_neg ie_int)) ie_int))))

theorem sc_cover : FnScope ["plan", "road"] ["plan"] (defScope (topS 55)) := ⟨rfl, rfl, rfl, by decide +kernel, rfl, by decide +kernel, by decide +kernel⟩
theorem ok_cover (T : Txt K mg) : GF P w K mg base "cover" 7 1 f_cover := by
  obtain ⟨fd, F⟩ := T.d_cover
  have G_check_plan := ok_check_plan (P := P) (w := w) (base := base) T
  have G_least_of := ok_least_of (P := P) (w := w) (base := base) T
  have G_reach_of := ok_reach_of (P := P) (w := w) (base := base) T
  refine gf_mk F T.g_cover sc_cover 1 rfl (fun _ _ _ _ _ _ us hl => match us, hl with | [_], _ => rfl) fun cdv hcv A outer s H E cx => ?_
  exact is_cons (is_expr (ie_callG cx G_check_plan (ia_cons (ie_var 0) ia_nil)))
    (is_one (is_ret (ie_callG cx G_least_of (ia_cons (ie_lc [("road", 1)] cx (ii_range1 T.z_range (ia_cons (ie_idx (ie_fld T.o_Plan.gC T.o_Plan.cl T.na_Plan_held (ie_var 0)) ie_int) ia_nil)) (blkOk_by (by rfl)) (fun _ _ _ _ _ cx => gw_name 1 cx.nd) (fun _ _ _ _ _ cx => it_none) (fun _ _ _ _ _ cx => ie_callG cx G_reach_of (ia_cons (ie_var 0) (ia_cons (ie_var 1) ia_nil)))) ia_nil))))

theorem sc_worst_of : FnScope ["plan", "best", "road", "index", "piece", "own"] ["plan"] (defScope (topS 56)) := ⟨rfl, rfl, rfl, by decide +kernel, rfl, by decide +kernel, by decide +kernel⟩
theorem ok_worst_of (T : Txt K mg) : GF P w K mg base "worst_of" 6 1 f_worst_of := by
  obtain ⟨fd, F⟩ := T.d_worst_of
  have G_is_less := ok_is_less (P := P) (w := w) (base := base) T
  have G_over := ok_over (P := P) (w := w) (base := base) T
  have G_pieces_of := ok_pieces_of (P := P) (w := w) (base := base) T
  have G_plus := ok_plus (P := P) (w := w) (base := base) T
  refine gf_mk F T.g_worst_of sc_worst_of 5 rfl (fun _ _ _ _ _ _ us hl => match us, hl with | [_], _ => rfl) fun cdv hcv A outer s H E cx => ?_
  exact is_cons (is_set (i := 1) cx ie_non)
    (is_cons (is_for cx (ii_range1 T.z_range (ia_cons (ie_idx (ie_fld T.o_Plan.gC T.o_Plan.cl T.na_Plan_held (ie_var 0)) ie_int) ia_nil)) (ig_name 2 cx.nd) (is_one (is_for cx (ii_enum T.z_enumerate (ia_cons (ie_callG cx G_pieces_of (ia_cons (ie_var 0) (ia_cons (ie_var 2) ia_nil))) ia_nil)) (ig_tup cx (igs_cons 3 cx.nd (igs_cons 4 cx.nd igs_nil))) (is_cons (is_set (i := 5) cx (ie_callG cx G_plus (ia_cons (ie_gtup rfl T.g_ONE T.c_ONE (fun _ _ => .cons (.int 1) (.cons (.int 1) (.nil)))) (ia_cons (ie_callG cx G_over (ia_cons (ie_idx (ie_var 4) ie_int) (ia_cons (ie_idx (ie_var 4) ie_int) ia_nil))) ia_nil))))
    (is_one (is_if (PW.pt (iw_or (it_is (ie_var 1) ie_non) (iw_or1 (it_tru (ie_callG cx G_is_less (ia_cons (ie_idx (ie_var 1) ie_int) (ia_cons (ie_var 5) ia_nil))))))) (is_one (is_set (i := 1) cx (ie_tup (ia_cons (ie_var 5) (ia_cons (ie_var 2) (ia_cons (ie_idx (ie_var 4) ie_int) (ia_cons (ie_eq cx (ie_var 3) ie_int) ia_nil))))))) is_nil))))))
    (is_one (is_ret (ie_var 1))))

theorem sc_worst : FnScope ["plan"] ["plan"] (defScope (topS 57)) := ⟨rfl, rfl, rfl, by decide +kernel, rfl, by decide +kernel, by decide +kernel⟩
theorem ok_worst (T : Txt K mg) : GF P w K mg base "worst" 7 1 f_worst := by
  obtain ⟨fd, F⟩ := T.d_worst
  have G_check_plan := ok_check_plan (P := P) (w := w) (base := base) T
  have G_worst_of := ok_worst_of (P := P) (w := w) (base := base) T
  refine gf_mk F T.g_worst sc_worst 0 rfl (fun _ _ _ _ _ _ us hl => match us, hl with | [_], _ => rfl) fun cdv hcv A outer s H E cx => ?_
  exact is_cons (is_expr (ie_callG cx G_check_plan (ia_cons (ie_var 0) ia_nil)))
    (is_one (is_ret (ie_callG cx G_worst_of (ia_cons (ie_var 0) ia_nil))))

theorem sc_is_chance : FnScope ["value", "roads", "road", "far", "weight"] ["value", "roads"] (defScope (topS 62)) := ⟨rfl, rfl, rfl, by decide +kernel, rfl, by decide +kernel, by decide +kernel⟩
theorem ok_is_chance (T : Txt K mg) : GF P w K mg base "is_chance" 4 2 f_is_chance := by
  obtain ⟨fd, F⟩ := T.d_is_chance
  have G_is_from := ok_is_from (P := P) (w := w) (base := base) T
  have G_is_within := ok_is_within (P := P) (w := w) (base := base) T
  refine gf_mk F T.g_is_chance sc_is_chance 3 rfl (fun _ _ _ _ _ _ us hl => match us, hl with | [_, _], _ => rfl) fun cdv hcv A outer s H E cx => ?_
  exact is_cons (is_if (PW.pt (iw_or (it_not (it_tru (ie_isi T.os T.z_isinstance (ia_cons (ie_var 0) (ia_cons (ie_tyB T.z_tuple) ia_nil))))) (iw_or1 (it_ne cx (ie_len T.z_len (ia_cons (ie_var 0) ia_nil)) ie_int)))) (is_one (is_ret ie_bl)) is_nil)
    (is_cons (is_asgT (ie_var 0) (ig_tup cx (igs_cons 2 cx.nd (igs_cons 3 cx.nd (igs_cons 4 cx.nd igs_nil)))))
    (is_one (is_ret (ie_and (ie_callG cx G_is_from (ia_cons (ie_var 2) (ia_cons ie_int (ia_cons (ie_sub (ie_var 1) ie_int) ia_nil)))) (ie_and (ie_callG cx G_is_within (ia_cons (ie_var 3) (ia_cons ie_int (ia_cons (ie_gint rfl T.c_MOST_FAR_chances) ia_nil)))) (ie_one (ie_callG cx G_is_from (ia_cons (ie_var 4) (ia_cons ie_int (ia_cons (ie_gint rfl T.c_MOST_WEIGHT) ia_nil))))))))))

theorem sc_check_chances : FnScope ["roads", "value", "seen", "one"] ["roads", "value"] (defScope (topS 63)) := ⟨rfl, rfl, rfl, by decide +kernel, rfl, by decide +kernel, by decide +kernel⟩
theorem ok_check_chances (T : Txt K mg) : GF P w K mg base "check_chances" 5 2 f_check_chances := by
  obtain ⟨fd, F⟩ := T.d_check_chances
  have G_check_roads := ok_check_roads (P := P) (w := w) (base := base) T
  have G_is_chance := ok_is_chance (P := P) (w := w) (base := base) T
  refine gf_mk F T.g_check_chances sc_check_chances 2 rfl (fun _ _ _ _ _ _ us hl => match us, hl with | [_, _], _ => rfl) fun cdv hcv A outer s H E cx => ?_
  exact is_cons (is_expr (ie_callG cx G_check_roads (ia_cons (ie_var 0) ia_nil)))
    (is_cons (is_if (PW.pt (iw_or (it_not (it_tru (ie_isi T.os T.z_isinstance (ia_cons (ie_var 1) (ia_cons (ie_tyB T.z_tuple) ia_nil))))) (iw_or1 (it_not (it_lele ie_int (ie_len T.z_len (ia_cons (ie_var 1) ia_nil)) (ie_gint rfl T.c_MOST_PLACES)))))) (is_one (is_raise0 cx T.x_BadChances)) is_nil)
    (is_cons (is_set (i := 2) cx (ie_lst ia_nil))
    (is_one (is_for cx (ii_seq (ie_var 1)) (ig_name 3 cx.nd) (is_cons (is_if (PW.pt (iw_or (it_not (it_tru (ie_callG cx G_is_chance (ia_cons (ie_var 3) (ia_cons (ie_var 0) ia_nil))))) (iw_or1 (it_in cx (ie_sl (ie_var 3) io_none (io_some ie_int)) (ie_var 2))))) (is_one (is_raise0 cx T.x_BadChances)) is_nil)
    (is_one (is_expr (ie_append (ie_var 2) (ia_cons (ie_sl (ie_var 3) io_none (io_some ie_int)) ia_nil)))))))))

theorem sc_with_place : FnScope ["rows", "far", "weight", "place", "row"] ["rows", "far", "weight"] (defScope (topS 64)) := ⟨rfl, rfl, rfl, by decide +kernel, rfl, by decide +kernel, by decide +kernel⟩
theorem ok_with_place (T : Txt K mg) : GF P w K mg base "with_place" 2 3 f_with_place := by
  obtain ⟨fd, F⟩ := T.d_with_place
  have G_is_less := ok_is_less (P := P) (w := w) (base := base) T
  refine gf_mk F T.g_with_place sc_with_place 2 rfl (fun _ _ _ _ _ _ us hl => match us, hl with | [_, _, _], _ => rfl) fun cdv hcv A outer s H E cx => ?_
  exact is_cons (is_set (i := 3) cx (ie_len T.z_len (ia_cons (ie_lc [("row", 4)] cx (ii_seq (ie_var 0)) (blkOk_by (by rfl)) (fun _ _ _ _ _ cx => gw_name 4 cx.nd) (fun _ _ _ _ _ cx => pts_one (it_tru (ie_callG cx G_is_less (ia_cons (ie_idx (ie_var 4) ie_int) (ia_cons (ie_var 1) ia_nil))))) (fun _ _ _ _ _ cx => ie_var 4)) ia_nil)))
    (is_one (is_ret (ie_add (ie_add (ie_sl (ie_var 0) io_none (io_some (ie_var 3))) (ie_lst (ia_cons (ie_tup (ia_cons (ie_var 1) (ia_cons (ie_var 2) ia_nil))) ia_nil))) (ie_sl (ie_var 0) (io_some (ie_var 3)) io_none))))

theorem sc_rows_of : FnScope ["roads", "chances", "found", "road", "far", "weight"] ["roads", "chances"] (defScope (topS 65)) := ⟨rfl, rfl, rfl, by decide +kernel, rfl, by decide +kernel, by decide +kernel⟩
theorem ok_rows_of (T : Txt K mg) : GF P w K mg base "rows_of" 3 2 f_rows_of := by
  obtain ⟨fd, F⟩ := T.d_rows_of
  have G_with_place := ok_with_place (P := P) (w := w) (base := base) T
  refine gf_mk F T.g_rows_of sc_rows_of 4 rfl (fun _ _ _ _ _ _ us hl => match us, hl with | [_, _], _ => rfl) fun cdv hcv A outer s H E cx => ?_
  exact is_cons (is_setLc 2 [("road", 3)] cx (sw_true rfl rfl rfl (by decide +kernel)) (ii_range1 T.z_range (ia_cons (ie_var 0) ia_nil)) (blkOk_by (by rfl)) (fun _ _ _ _ _ cx => gw_name 3 cx.nd) (fun _ _ _ _ _ cx => it_none) (fun _ _ _ _ _ cx => ie_lst ia_nil))
    (is_cons (is_for cx (ii_seq (ie_var 1)) (ig_tup cx (igs_cons 3 cx.nd (igs_cons 4 cx.nd (igs_cons 5 cx.nd igs_nil)))) (is_one (is_setix (ie_callG cx G_with_place (ia_cons (ie_idx (ie_var 2) (ie_var 3)) (ia_cons (ie_var 4) (ia_cons (ie_var 5) ia_nil)))) (ie_var 2) (ie_var 3))))
    (is_one (is_ret (ie_var 2))))

theorem sc_weight_behind : FnScope ["rows", "standing", "total", "row", "many", "far", "weight"] ["rows", "standing"] (defScope (topS 66)) := ⟨rfl, rfl, rfl, by decide +kernel, rfl, by decide +kernel, by decide +kernel⟩
theorem ok_weight_behind (T : Txt K mg) : GF P w K mg base "weight_behind" 1 2 f_weight_behind := by
  obtain ⟨fd, F⟩ := T.d_weight_behind
  refine gf_mk F T.g_weight_behind sc_weight_behind 5 rfl (fun _ _ _ _ _ _ us hl => match us, hl with | [_, _], _ => rfl) fun cdv hcv A outer s H E cx => ?_
  exact is_cons (is_set (i := 2) cx ie_int)
    (is_cons (is_for cx (ii_zip T.z_zip (ia_cons (ie_var 0) (ia_cons (ie_f (ie_var 1)) ia_nil))) (ig_tup cx (igs_cons 3 cx.nd (igs_cons 4 cx.nd igs_nil))) (is_one (is_augAdd (i := 2) cx (ie_sum cx T.z_sum (ia_cons (ie_lc [("far", 5), ("weight", 6)] cx (ii_seq (ie_sl (ie_var 3) (io_some (ie_var 4)) io_none)) (blkOk_by (by rfl)) (fun _ _ _ _ _ cx => gw_tup cx (gws_cons 5 cx.nd (gws_cons 6 cx.nd gws_nil))) (fun _ _ _ _ _ cx => it_none) (fun _ _ _ _ _ cx => ie_var 6)) ia_nil)))))
    (is_one (is_ret (ie_var 2))))

theorem sc_turn_costs : FnScope ["rows", "standing", "found", "road", "row", "added", "many", "far", "weight", "behind", "back"] ["rows", "standing"] (defScope (topS 67)) := ⟨rfl, rfl, rfl, by decide +kernel, rfl, by decide +kernel, by decide +kernel⟩
theorem ok_turn_costs (T : Txt K mg) : GF P w K mg base "turn_costs" 4 2 f_turn_costs := by
  obtain ⟨fd, F⟩ := T.d_turn_costs
  have G_plus := ok_plus (P := P) (w := w) (base := base) T
  have G_times := ok_times (P := P) (w := w) (base := base) T
  have G_weight_behind := ok_weight_behind (P := P) (w := w) (base := base) T
  refine gf_mk F T.g_turn_costs sc_turn_costs 9 rfl (fun _ _ _ _ _ _ us hl => match us, hl with | [_, _], _ => rfl) fun cdv hcv A outer s H E cx => ?_
  exact is_cons (is_set (i := 2) cx (ie_lst ia_nil))
    (is_cons (is_for cx (ii_enum T.z_enumerate (ia_cons (ie_var 0) ia_nil)) (ig_tup cx (igs_cons 3 cx.nd (igs_cons 4 cx.nd igs_nil))) (is_cons (is_set (i := 5) cx (ie_gtup rfl T.g_ZERO T.c_ZERO (fun _ _ => .cons (.int 0) (.cons (.int 1) (.nil)))))
    (is_one (is_for cx (ii_range2 T.z_range (ia_cons (ie_idx (ie_f (ie_var 1)) (ie_var 3)) (ia_cons (ie_len T.z_len (ia_cons (ie_var 4) ia_nil)) ia_nil))) (ig_name 6 cx.nd) (is_cons (is_asgT (ie_idx (ie_var 4) (ie_var 6)) (ig_tup cx (igs_cons 7 cx.nd (igs_cons 8 cx.nd igs_nil))))
    (is_cons (is_set (i := 5) cx (ie_callG cx G_plus (ia_cons (ie_var 5) (ia_cons (ie_callG cx G_times (ia_cons (ie_var 7) (ia_cons (ie_tup (ia_cons (ie_var 8) (ia_cons ie_int ia_nil))) ia_nil))) ia_nil))))
    (is_cons (is_set (i := 9) cx (ie_addK (ie_addK (ie_slK (ie_var 1) io_none (io_some (ie_var 3))) (ie_key (ia_cons (ie_add (ie_var 6) ie_int) ia_nil))) (ie_slK (ie_var 1) (io_some (ie_add (ie_var 3) ie_int)) io_none)))
    (is_cons (is_set (i := 10) cx (ie_callG cx G_times (ia_cons (ie_var 7) (ia_cons (ie_tup (ia_cons (ie_mul ie_int (ie_callG cx G_weight_behind (ia_cons (ie_var 0) (ia_cons (ie_var 9) ia_nil)))) (ia_cons ie_int ia_nil))) ia_nil))))
    (is_one (is_expr (ie_append (ie_var 2) (ia_cons (ie_tup (ia_cons (ie_tup (ia_cons (ie_var 3) (ia_cons (ie_var 7) ia_nil))) (ia_cons (ie_var 9) (ia_cons (ie_callG cx G_plus (ia_cons (ie_var 5) (ia_cons (ie_var 10) ia_nil))) ia_nil)))) ia_nil))))))))))))
    (is_one (is_ret (ie_var 2))))

theorem sc_totals_of : FnScope ["rows", "ends", "row", "found", "standing", "best", "turn", "behind", "added", "whole", "one", "many"] ["rows"] (defScope (topS 68)) := ⟨rfl, rfl, rfl, by decide +kernel, rfl, by decide +kernel, by decide +kernel⟩
theorem ok_totals_of (T : Txt K mg) : GF P w K mg base "totals_of" 5 1 f_totals_of := by
  obtain ⟨fd, F⟩ := T.d_totals_of
  have G_is_less := ok_is_less (P := P) (w := w) (base := base) T
  have G_plus := ok_plus (P := P) (w := w) (base := base) T
  have G_turn_costs := ok_turn_costs (P := P) (w := w) (base := base) T
  refine gf_mk F T.g_totals_of sc_totals_of 11 rfl (fun _ _ _ _ _ _ us hl => match us, hl with | [_], _ => rfl) fun cdv hcv A outer s H E cx => ?_
  exact is_cons (is_set (i := 1) cx (ie_lst (ia_cons (ie_key ia_nil) ia_nil)))
    (is_cons (is_for cx (ii_seq (ie_var 0)) (ig_name 2 cx.nd) (is_one (is_setLc2 1 [("one", 10), ("many", 11)] cx (sw_true rfl rfl rfl (by decide +kernel)) (ii_seq (ie_var 1)) (blkOk_by (by rfl)) (fun _ _ _ _ _ cx => gw_name 10 cx.nd) (fun _ _ _ _ _ cx => it_none) (fun _ _ _ _ _ cx => ii_range1 T.z_range (ia_cons (ie_add (ie_len T.z_len (ia_cons (ie_var 2) ia_nil)) ie_int) ia_nil)) (fun _ _ _ _ _ cx => gw_name 11 cx.nd) (fun _ _ _ _ _ cx => it_none) (fun _ _ _ _ _ cx => ie_addK (ie_var 10) (ie_key (ia_cons (ie_var 11) ia_nil))))))
    (is_cons (is_set (i := 3) cx ie_dnew)
    (is_cons (is_for cx (ii_rev T.z_reversed (ia_cons (ie_var 1) ia_nil)) (ig_name 4 cx.nd) (is_cons (is_set (i := 5) cx ie_non)
    (is_cons (is_for cx (ii_seq (ie_callG cx G_turn_costs (ia_cons (ie_var 0) (ia_cons (ie_var 4) ia_nil)))) (ig_tup cx (igs_cons 6 cx.nd (igs_cons 7 cx.nd (igs_cons 8 cx.nd igs_nil)))) (is_cons (is_set (i := 9) cx (ie_callG cx G_plus (ia_cons (ie_var 8) (ia_cons (ie_idx (ie_dget cx (ie_var 3) (ie_var 7)) ie_int) ia_nil))))
    (is_one (is_if (PW.pt (iw_or (it_is (ie_var 5) ie_non) (iw_or1 (it_tru (ie_callG cx G_is_less (ia_cons (ie_var 9) (ia_cons (ie_idx (ie_var 5) ie_int) ia_nil))))))) (is_one (is_set (i := 5) cx (ie_tup (ia_cons (ie_var 9) (ia_cons (ie_var 6) (ia_cons (ie_var 7) ia_nil)))))) is_nil))))
    (is_cons (is_if (it_is (ie_var 5) ie_non) (is_one (is_set (i := 5) cx (ie_tup (ia_cons (ie_gtup rfl T.g_ZERO T.c_ZERO (fun _ _ => .cons (.int 0) (.cons (.int 1) (.nil)))) (ia_cons ie_non (ia_cons ie_non ia_nil)))))) is_nil)
    (is_one (is_dput cx (ie_var 5) (ie_var 3) (ie_var 4)))))))
    (is_one (is_ret (ie_var 3))))))

theorem sc_least_walk : FnScope ["roads", "chances", "rows", "begin"] ["roads", "chances"] (defScope (topS 69)) := ⟨rfl, rfl, rfl, by decide +kernel, rfl, by decide +kernel, by decide +kernel⟩
theorem ok_least_walk (T : Txt K mg) : GF P w K mg base "least_walk" 6 2 f_least_walk := by
  obtain ⟨fd, F⟩ := T.d_least_walk
  have G_check_chances := ok_check_chances (P := P) (w := w) (base := base) T
  have G_over := ok_over (P := P) (w := w) (base := base) T
  have G_rows_of := ok_rows_of (P := P) (w := w) (base := base) T
  have G_totals_of := ok_totals_of (P := P) (w := w) (base := base) T
  have G_weight_behind := ok_weight_behind (P := P) (w := w) (base := base) T
  refine gf_mk F T.g_least_walk sc_least_walk 2 rfl (fun _ _ _ _ _ _ us hl => match us, hl with | [_, _], _ => rfl) fun cdv hcv A outer s H E cx => ?_
  exact is_cons (is_expr (ie_callG cx G_check_chances (ia_cons (ie_var 0) (ia_cons (ie_var 1) ia_nil))))
    (is_cons (is_set (i := 2) cx (ie_callG cx G_rows_of (ia_cons (ie_var 0) (ia_cons (ie_var 1) ia_nil))))
    (is_cons (is_set (i := 3) cx (ie_mulK (ie_key (ia_cons ie_int ia_nil)) (ie_var 0)))
    (is_one (is_ret (ie_callG cx G_over (ia_cons (ie_idx (ie_dget cx (ie_callG cx G_totals_of (ia_cons (ie_var 2) ia_nil)) (ie_var 3)) ie_int) (ia_cons (ie_tup (ia_cons (ie_callG cx G_weight_behind (ia_cons (ie_var 2) (ia_cons (ie_var 3) ia_nil))) (ia_cons ie_int ia_nil))) ia_nil)))))))

theorem sc_best_plan : FnScope ["roads", "chances", "known", "here", "turns"] ["roads", "chances"] (defScope (topS 70)) := ⟨rfl, rfl, rfl, by decide +kernel, rfl, by decide +kernel, by decide +kernel⟩
theorem ok_best_plan (T : Txt K mg) : GF P w K mg base "best_plan" 8 2 f_best_plan := by
  obtain ⟨fd, F⟩ := T.d_best_plan
  have G_Plan___init__ := ok_Plan___init__ (P := P) (w := w) (base := base) T
  have G_check_chances := ok_check_chances (P := P) (w := w) (base := base) T
  have G_rows_of := ok_rows_of (P := P) (w := w) (base := base) T
  have G_totals_of := ok_totals_of (P := P) (w := w) (base := base) T
  refine gf_mk F T.g_best_plan sc_best_plan 3 rfl (fun _ _ _ _ _ _ us hl => match us, hl with | [_, _], _ => rfl) fun cdv hcv A outer s H E cx => ?_
  exact is_cons (is_expr (ie_callG cx G_check_chances (ia_cons (ie_var 0) (ia_cons (ie_var 1) ia_nil))))
    (is_cons (is_set (i := 2) cx (ie_callG cx G_totals_of (ia_cons (ie_callG cx G_rows_of (ia_cons (ie_var 0) (ia_cons (ie_var 1) ia_nil))) ia_nil)))
    (is_cons (is_set (i := 3) cx (ie_mulK (ie_key (ia_cons ie_int ia_nil)) (ie_var 0)))
    (is_cons (is_set (i := 4) cx (ie_lst ia_nil))
    (is_cons (is_while cx (it_isnot (ie_idx (ie_dget cx (ie_var 2) (ie_var 3)) ie_int) ie_non) (is_cons (is_expr (ie_append (ie_var 4) (ia_cons (ie_idx (ie_dget cx (ie_var 2) (ie_var 3)) ie_int) ia_nil)))
    (is_one (is_set (i := 3) cx (ie_idx (ie_dget cx (ie_var 2) (ie_var 3)) ie_int)))))
    (is_one (is_ret (ie_makeG cx T.mk_Plan T.o_Plan.gC G_Plan___init__ (ia_cons (ie_var 0) (ia_cons (ie_tuple1 T.z_tuple (ia_cons (ie_var 4) ia_nil)) (ia_cons (ie_gtup rfl T.g_ZERO T.c_ZERO (fun _ _ => .cons (.int 0) (.cons (.int 1) (.nil)))) ia_nil))))))))))

theorem sc_check_many_roads : FnScope ["value"] ["value"] (defScope (topS 75)) := ⟨rfl, rfl, rfl, by decide +kernel, rfl, by decide +kernel, by decide +kernel⟩
theorem ok_check_many_roads (T : Txt K mg) : GF P w K mg base "check_many_roads" 3 1 f_check_many_roads := by
  obtain ⟨fd, F⟩ := T.d_check_many_roads
  have G_is_from := ok_is_from (P := P) (w := w) (base := base) T
  refine gf_mk F T.g_check_many_roads sc_check_many_roads 0 rfl (fun _ _ _ _ _ _ us hl => match us, hl with | [_], _ => rfl) fun cdv hcv A outer s H E cx => ?_
  exact is_one (is_if (it_not (it_tru (ie_callG cx G_is_from (ia_cons (ie_var 0) (ia_cons ie_int (ia_cons (ie_gint rfl T.c_MOST_GROWING_ROADS) ia_nil)))))) (is_one (is_raise0 cx T.x_BadRoads)) is_nil)

theorem sc_check_ratio : FnScope ["value"] ["value"] (defScope (topS 76)) := ⟨rfl, rfl, rfl, by decide +kernel, rfl, by decide +kernel, by decide +kernel⟩
theorem ok_check_ratio (T : Txt K mg) : GF P w K mg base "check_ratio" 4 1 f_check_ratio := by
  obtain ⟨fd, F⟩ := T.d_check_ratio
  have G_is_within := ok_is_within (P := P) (w := w) (base := base) T
  refine gf_mk F T.g_check_ratio sc_check_ratio 0 rfl (fun _ _ _ _ _ _ us hl => match us, hl with | [_], _ => rfl) fun cdv hcv A outer s H E cx => ?_
  exact is_one (is_if (PW.pt (iw_or (it_not (it_tru (ie_callG cx G_is_within (ia_cons (ie_var 0) (ia_cons ie_int (ia_cons (ie_gint rfl T.c_MOST_RATIO) ia_nil)))))) (iw_or1 (it_eq cx (ie_var 0) (ie_gtup rfl T.g_ONE T.c_ONE (fun _ _ => .cons (.int 1) (.cons (.int 1) (.nil)))))))) (is_one (is_raise0 cx T.x_BadRatio)) is_nil)

theorem sc_check_first : FnScope ["value"] ["value"] (defScope (topS 77)) := ⟨rfl, rfl, rfl, by decide +kernel, rfl, by decide +kernel, by decide +kernel⟩
theorem ok_check_first (T : Txt K mg) : GF P w K mg base "check_first" 4 1 f_check_first := by
  obtain ⟨fd, F⟩ := T.d_check_first
  have G_is_within := ok_is_within (P := P) (w := w) (base := base) T
  refine gf_mk F T.g_check_first sc_check_first 0 rfl (fun _ _ _ _ _ _ us hl => match us, hl with | [_], _ => rfl) fun cdv hcv A outer s H E cx => ?_
  exact is_one (is_if (PW.pt (iw_or (it_not (it_tru (ie_callG cx G_is_within (ia_cons (ie_var 0) (ia_cons ie_int (ia_cons (ie_gint rfl T.c_MOST_FIRST) ia_nil)))))) (iw_or1 (it_eq cx (ie_idx (ie_var 0) ie_int) ie_int)))) (is_one (is_raise0 cx T.x_BadFirst)) is_nil)

theorem sc_power : FnScope ["one", "many", "found", "turn"] ["one", "many"] (defScope (topS 78)) := ⟨rfl, rfl, rfl, by decide +kernel, rfl, by decide +kernel, by decide +kernel⟩
theorem ok_power (T : Txt K mg) : GF P w K mg base "power" 4 2 f_power := by
  obtain ⟨fd, F⟩ := T.d_power
  have G_times := ok_times (P := P) (w := w) (base := base) T
  refine gf_mk F T.g_power sc_power 2 rfl (fun _ _ _ _ _ _ us hl => match us, hl with | [_, _], _ => rfl) fun cdv hcv A outer s H E cx => ?_
  exact is_cons (is_set (i := 2) cx (ie_gtup rfl T.g_ONE T.c_ONE (fun _ _ => .cons (.int 1) (.cons (.int 1) (.nil)))))
    (is_cons (is_for cx (ii_range1 T.z_range (ia_cons (ie_var 1) ia_nil)) (ig_name 3 cx.nd) (is_one (is_set (i := 2) cx (ie_callG cx G_times (ia_cons (ie_var 2) (ia_cons (ie_var 0) ia_nil))))))
    (is_one (is_ret (ie_var 2))))

theorem sc_bound_of : FnScope ["m", "by"] ["m", "by"] (defScope (topS 79)) := ⟨rfl, rfl, rfl, by decide +kernel, rfl, by decide +kernel, by decide +kernel⟩
theorem ok_bound_of (T : Txt K mg) : GF P w K mg base "bound_of" 5 2 f_bound_of := by
  obtain ⟨fd, F⟩ := T.d_bound_of
  have G_minus := ok_minus (P := P) (w := w) (base := base) T
  have G_over := ok_over (P := P) (w := w) (base := base) T
  have G_plus := ok_plus (P := P) (w := w) (base := base) T
  have G_power := ok_power (P := P) (w := w) (base := base) T
  have G_times := ok_times (P := P) (w := w) (base := base) T
  refine gf_mk F T.g_bound_of sc_bound_of 0 rfl (fun _ _ _ _ _ _ us hl => match us, hl with | [_, _], _ => rfl) fun cdv hcv A outer s H E cx => ?_
  exact is_one (is_ret (ie_callG cx G_plus (ia_cons (ie_gtup rfl T.g_ONE T.c_ONE (fun _ _ => .cons (.int 1) (.cons (.int 1) (.nil)))) (ia_cons (ie_callG cx G_over (ia_cons (ie_callG cx G_times (ia_cons (ie_tup (ia_cons ie_int (ia_cons ie_int ia_nil))) (ia_cons (ie_callG cx G_power (ia_cons (ie_var 1) (ia_cons (ie_var 0) ia_nil))) ia_nil))) (ia_cons (ie_callG cx G_minus (ia_cons (ie_var 1) (ia_cons (ie_gtup rfl T.g_ONE T.c_ONE (fun _ _ => .cons (.int 1) (.cons (.int 1) (.nil)))) ia_nil))) ia_nil))) ia_nil))))

theorem sc_most_share : FnScope ["m", "ratio"] ["m", "ratio"] (defScope (topS 80)) := ⟨rfl, rfl, rfl, by decide +kernel, rfl, by decide +kernel, by decide +kernel⟩
theorem ok_most_share (T : Txt K mg) : GF P w K mg base "most_share" 6 2 f_most_share := by
  obtain ⟨fd, F⟩ := T.d_most_share
  have G_bound_of := ok_bound_of (P := P) (w := w) (base := base) T
  have G_check_many_roads := ok_check_many_roads (P := P) (w := w) (base := base) T
  have G_check_ratio := ok_check_ratio (P := P) (w := w) (base := base) T
  refine gf_mk F T.g_most_share sc_most_share 0 rfl (fun _ _ _ _ _ _ us hl => match us, hl with | [_, _], _ => rfl) fun cdv hcv A outer s H E cx => ?_
  exact is_cons (is_expr (ie_callG cx G_check_many_roads (ia_cons (ie_var 0) ia_nil)))
    (is_cons (is_expr (ie_callG cx G_check_ratio (ia_cons (ie_var 1) ia_nil)))
    (is_one (is_ret (ie_callG cx G_bound_of (ia_cons (ie_var 0) (ia_cons (ie_var 1) ia_nil))))))

theorem sc_best_ratio : FnScope ["m"] ["m"] (defScope (topS 81)) := ⟨rfl, rfl, rfl, by decide +kernel, rfl, by decide +kernel, by decide +kernel⟩
theorem ok_best_ratio (T : Txt K mg) : GF P w K mg base "best_ratio" 4 1 f_best_ratio := by
  obtain ⟨fd, F⟩ := T.d_best_ratio
  have G_check_many_roads := ok_check_many_roads (P := P) (w := w) (base := base) T
  refine gf_mk F T.g_best_ratio sc_best_ratio 0 rfl (fun _ _ _ _ _ _ us hl => match us, hl with | [_], _ => rfl) fun cdv hcv A outer s H E cx => ?_
  exact is_cons (is_expr (ie_callG cx G_check_many_roads (ia_cons (ie_var 0) ia_nil)))
    (is_one (is_ret (ie_tup (ia_cons (ie_var 0) (ia_cons (ie_sub (ie_var 0) ie_int) ia_nil)))))

theorem sc_best_bound : FnScope ["m"] ["m"] (defScope (topS 82)) := ⟨rfl, rfl, rfl, by decide +kernel, rfl, by decide +kernel, by decide +kernel⟩
theorem ok_best_bound (T : Txt K mg) : GF P w K mg base "best_bound" 6 1 f_best_bound := by
  obtain ⟨fd, F⟩ := T.d_best_bound
  have G_bound_of := ok_bound_of (P := P) (w := w) (base := base) T
  have G_check_many_roads := ok_check_many_roads (P := P) (w := w) (base := base) T
  refine gf_mk F T.g_best_bound sc_best_bound 0 rfl (fun _ _ _ _ _ _ us hl => match us, hl with | [_], _ => rfl) fun cdv hcv A outer s H E cx => ?_
  exact is_cons (is_expr (ie_callG cx G_check_many_roads (ia_cons (ie_var 0) ia_nil)))
    (is_one (is_ret (ie_callG cx G_bound_of (ia_cons (ie_var 0) (ia_cons (ie_tup (ia_cons (ie_var 0) (ia_cons (ie_sub (ie_var 0) ie_int) ia_nil))) ia_nil)))))

theorem sc_grown : FnScope ["m", "first", "ratio", "many", "turns", "reach", "turn"] ["m", "first", "ratio", "many"] (defScope (topS 83)) := ⟨rfl, rfl, rfl, by decide +kernel, rfl, by decide +kernel, by decide +kernel⟩
theorem ok_grown (T : Txt K mg) : GF P w K mg base "grown" 8 4 f_grown := by
  obtain ⟨fd, F⟩ := T.d_grown
  have G_Plan___init__ := ok_Plan___init__ (P := P) (w := w) (base := base) T
  have G_check_first := ok_check_first (P := P) (w := w) (base := base) T
  have G_check_many_roads := ok_check_many_roads (P := P) (w := w) (base := base) T
  have G_check_ratio := ok_check_ratio (P := P) (w := w) (base := base) T
  have G_is_from := ok_is_from (P := P) (w := w) (base := base) T
  have G_is_less := ok_is_less (P := P) (w := w) (base := base) T
  have G_times := ok_times (P := P) (w := w) (base := base) T
  refine gf_mk F T.g_grown sc_grown 3 rfl (fun _ _ _ _ _ _ us hl => match us, hl with | [_, _, _, _], _ => rfl) fun cdv hcv A outer s H E cx => ?_
  exact is_cons (is_expr (ie_callG cx G_check_many_roads (ia_cons (ie_var 0) ia_nil)))
    (is_cons (is_expr (ie_callG cx G_check_first (ia_cons (ie_var 1) ia_nil)))
    (is_cons (is_expr (ie_callG cx G_check_ratio (ia_cons (ie_var 2) ia_nil)))
    (is_cons (is_if (it_not (it_tru (ie_callG cx G_is_from (ia_cons (ie_var 3) (ia_cons ie_int (ia_cons (ie_gint rfl T.c_MOST_TURNS) ia_nil)))))) (is_one (is_raise0 cx T.x_BadMany)) is_nil)
    (is_cons (is_set (i := 4) cx (ie_lst ia_nil))
    (is_cons (is_set (i := 5) cx (ie_var 1))
    (is_cons (is_for cx (ii_range1 T.z_range (ia_cons (ie_var 3) ia_nil)) (ig_name 6 cx.nd) (is_cons (is_if (it_tru (ie_callG cx G_is_less (ia_cons (ie_tup (ia_cons (ie_gint rfl T.c_MOST_REACH) (ia_cons ie_int ia_nil))) (ia_cons (ie_var 5) ia_nil)))) (is_one is_bad) is_nil)
    (is_cons (is_expr (ie_append (ie_var 4) (ia_cons (ie_tup (ia_cons (ie_mod (ie_var 6) (ie_var 0)) (ia_cons (ie_var 5) ia_nil))) ia_nil)))
    (is_one (is_set (i := 5) cx (ie_callG cx G_times (ia_cons (ie_var 5) (ia_cons (ie_var 2) ia_nil))))))))
    (is_one (is_ret (ie_makeG cx T.mk_Plan T.o_Plan.gC G_Plan___init__ (ia_cons (ie_var 0) (ia_cons (ie_tuple1 T.z_tuple (ia_cons (ie_var 4) ia_nil)) (ia_cons (ie_gtup rfl T.g_ZERO T.c_ZERO (fun _ _ => .cons (.int 0) (.cons (.int 1) (.nil)))) ia_nil))))))))))))

theorem sc_growing_walked : FnScope ["m", "first", "ratio", "road", "far", "base", "reach", "turn"] ["m", "first", "ratio", "road", "far"] (defScope (topS 84)) := ⟨rfl, rfl, rfl, by decide +kernel, rfl, by decide +kernel, by decide +kernel⟩
theorem ok_growing_walked (T : Txt K mg) : GF P w K mg base "growing_walked" 5 5 f_growing_walked := by
  obtain ⟨fd, F⟩ := T.d_growing_walked
  have G_check_first := ok_check_first (P := P) (w := w) (base := base) T
  have G_check_many_roads := ok_check_many_roads (P := P) (w := w) (base := base) T
  have G_check_ratio := ok_check_ratio (P := P) (w := w) (base := base) T
  have G_check_road := ok_check_road (P := P) (w := w) (base := base) T
  have G_is_far := ok_is_far (P := P) (w := w) (base := base) T
  have G_is_less := ok_is_less (P := P) (w := w) (base := base) T
  have G_plus := ok_plus (P := P) (w := w) (base := base) T
  have G_times := ok_times (P := P) (w := w) (base := base) T
  refine gf_mk F T.g_growing_walked sc_growing_walked 3 rfl (fun _ _ _ _ _ _ us hl => match us, hl with | [_, _, _, _, _], _ => rfl) fun cdv hcv A outer s H E cx => ?_
  exact is_cons (is_expr (ie_callG cx G_check_many_roads (ia_cons (ie_var 0) ia_nil)))
    (is_cons (is_expr (ie_callG cx G_check_first (ia_cons (ie_var 1) ia_nil)))
    (is_cons (is_expr (ie_callG cx G_check_ratio (ia_cons (ie_var 2) ia_nil)))
    (is_cons (is_if (it_tru (ie_callG cx G_is_less (ia_cons (ie_var 2) (ia_cons (ie_tup (ia_cons ie_int (ia_cons ie_int ia_nil))) ia_nil)))) (is_one (is_raise0 cx T.x_BadRatio)) is_nil)
    (is_cons (is_expr (ie_callG cx G_check_road (ia_cons (ie_var 0) (ia_cons (ie_var 3) ia_nil))))
    (is_cons (is_if (it_not (it_tru (ie_callG cx G_is_far (ia_cons (ie_var 4) ia_nil)))) (is_one (is_raise0 cx T.x_BadFar)) is_nil)
    (is_cons (is_par3 (i := 5) (j := 6) (l := 7) cx (ia_cons (ie_gtup rfl T.g_ZERO T.c_ZERO (fun _ _ => .cons (.int 0) (.cons (.int 1) (.nil)))) (ia_cons (ie_var 1) (ia_cons ie_int ia_nil))))
    (is_cons (is_while cx (PW.pt (iw_or (it_ne cx (ie_mod (ie_var 7) (ie_var 0)) (ie_var 3)) (iw_or1 (it_tru (ie_callG cx G_is_less (ia_cons (ie_var 6) (ia_cons (ie_var 4) ia_nil))))))) (is_cons (is_set (i := 5) cx (ie_callG cx G_plus (ia_cons (ie_var 5) (ia_cons (ie_callG cx G_times (ia_cons (ie_tup (ia_cons ie_int (ia_cons ie_int ia_nil))) (ia_cons (ie_var 6) ia_nil))) ia_nil))))
    (is_cons (is_set (i := 6) cx (ie_callG cx G_times (ia_cons (ie_var 6) (ia_cons (ie_var 2) ia_nil))))
    (is_one (is_augAdd (i := 7) cx ie_int)))))
    (is_one (is_ret (ie_callG cx G_plus (ia_cons (ie_var 5) (ia_cons (ie_var 4) ia_nil))))))))))))

theorem sc_check_team : FnScope ["plans", "missing", "plan"] ["plans", "missing"] (defScope (topS 87)) := ⟨rfl, rfl, rfl, by decide +kernel, rfl, by decide +kernel, by decide +kernel⟩
theorem ok_check_team (T : Txt K mg) : GF P w K mg base "check_team" 3 2 f_check_team := by
  obtain ⟨fd, F⟩ := T.d_check_team
  have G_is_from := ok_is_from (P := P) (w := w) (base := base) T
  refine gf_mk F T.g_check_team sc_check_team 1 rfl (fun _ _ _ _ _ _ us hl => match us, hl with | [_, _], _ => rfl) fun cdv hcv A outer s H E cx => ?_
  exact is_cons (is_if (PW.pt (iw_or (it_not (it_tru (ie_isi T.os T.z_isinstance (ia_cons (ie_var 0) (ia_cons (ie_tyB T.z_tuple) ia_nil))))) (iw_or1 (it_not (it_lele ie_int (ie_len T.z_len (ia_cons (ie_var 0) ia_nil)) (ie_gint rfl T.c_MOST_PLANS)))))) (is_one (is_raise0 cx T.x_BadPlans)) is_nil)
    (is_cons (is_for cx (ii_seq (ie_var 0)) (ig_name 2 cx.nd) (is_one (is_if (PW.pt (iw_or (it_not (it_tru (ie_isi T.os T.z_isinstance (ia_cons (ie_var 2) (ia_cons (ie_glo rfl T.o_Plan.gC) ia_nil))))) (iw_or1 (it_ne cx (ie_idx (ie_fld T.o_Plan.gC T.o_Plan.cl T.na_Plan_held (ie_var 2)) ie_int) (ie_idx (ie_fld T.o_Plan.gC T.o_Plan.cl T.na_Plan_held (ie_idx (ie_var 0) ie_int)) ie_int))))) (is_one (is_raise0 cx T.x_BadPlans)) is_nil)))
    (is_one (is_if (it_not (it_tru (ie_callG cx G_is_from (ia_cons (ie_var 1) (ia_cons ie_int (ia_cons (ie_sub (ie_len T.z_len (ia_cons (ie_var 0) ia_nil)) ie_int) ia_nil)))))) (is_one (is_raise0 cx T.x_BadMissing)) is_nil)))

theorem sc_in_order : FnScope ["fractions", "found", "one", "place", "other"] ["fractions"] (defScope (topS 88)) := ⟨rfl, rfl, rfl, by decide +kernel, rfl, by decide +kernel, by decide +kernel⟩
theorem ok_in_order (T : Txt K mg) : GF P w K mg base "in_order" 2 1 f_in_order := by
  obtain ⟨fd, F⟩ := T.d_in_order
  have G_is_less := ok_is_less (P := P) (w := w) (base := base) T
  refine gf_mk F T.g_in_order sc_in_order 4 rfl (fun _ _ _ _ _ _ us hl => match us, hl with | [_], _ => rfl) fun cdv hcv A outer s H E cx => ?_
  exact is_cons (is_set (i := 1) cx (ie_lst ia_nil))
    (is_cons (is_for cx (ii_seq (ie_var 0)) (ig_name 2 cx.nd) (is_cons (is_set (i := 3) cx (ie_len T.z_len (ia_cons (ie_lc [("other", 4)] cx (ii_seq (ie_var 1)) (blkOk_by (by rfl)) (fun _ _ _ _ _ cx => gw_name 4 cx.nd) (fun _ _ _ _ _ cx => pts_one (it_not (it_tru (ie_callG cx G_is_less (ia_cons (ie_var 2) (ia_cons (ie_var 4) ia_nil)))))) (fun _ _ _ _ _ cx => ie_var 4)) ia_nil)))
    (is_one (is_expr (ie_insert (ie_var 1) (ia_cons (ie_var 3) (ia_cons (ie_var 2) ia_nil)))))))
    (is_one (is_ret (ie_var 1))))

theorem sc_team_time : FnScope ["plans", "missing", "road", "far", "times_there", "found", "plan", "one"] ["plans", "missing", "road", "far"] (defScope (topS 89)) := ⟨rfl, rfl, rfl, by decide +kernel, rfl, by decide +kernel, by decide +kernel⟩
theorem ok_team_time (T : Txt K mg) : GF P w K mg base "team_time" 6 4 f_team_time := by
  obtain ⟨fd, F⟩ := T.d_team_time
  have G_in_order := ok_in_order (P := P) (w := w) (base := base) T
  have G_walked_by := ok_walked_by (P := P) (w := w) (base := base) T
  refine gf_mk F T.g_team_time sc_team_time 4 rfl (fun _ _ _ _ _ _ us hl => match us, hl with | [_, _, _, _], _ => rfl) fun cdv hcv A outer s H E cx => ?_
  exact is_cons (is_setLc 4 [("plan", 6)] cx (sw_true rfl rfl rfl (by decide +kernel)) (ii_seq (ie_var 0)) (blkOk_by (by rfl)) (fun _ _ _ _ _ cx => gw_name 6 cx.nd) (fun _ _ _ _ _ cx => it_none) (fun _ _ _ _ _ cx => ie_callG cx G_walked_by (ia_cons (ie_var 6) (ia_cons (ie_var 2) (ia_cons (ie_var 3) ia_nil)))))
    (is_cons (is_set (i := 5) cx (ie_callG cx G_in_order (ia_cons (ie_lc [("one", 7)] cx (ii_seq (ie_var 4)) (blkOk_by (by rfl)) (fun _ _ _ _ _ cx => gw_name 7 cx.nd) (fun _ _ _ _ _ cx => pts_one (it_isnot (ie_var 7) ie_non)) (fun _ _ _ _ _ cx => ie_var 7)) ia_nil)))
    (is_cons (is_if (it_le (ie_len T.z_len (ia_cons (ie_var 5) ia_nil)) (ie_var 1)) (is_one (is_ret ie_non)) is_nil)
    (is_one (is_ret (ie_idx (ie_var 5) (ie_var 1))))))

theorem sc_team_walked : FnScope ["plans", "missing", "road", "far"] ["plans", "missing", "road", "far"] (defScope (topS 90)) := ⟨rfl, rfl, rfl, by decide +kernel, rfl, by decide +kernel, by decide +kernel⟩
theorem ok_team_walked (T : Txt K mg) : GF P w K mg base "team_walked" 7 4 f_team_walked := by
  obtain ⟨fd, F⟩ := T.d_team_walked
  have G_check_far := ok_check_far (P := P) (w := w) (base := base) T
  have G_check_road := ok_check_road (P := P) (w := w) (base := base) T
  have G_check_team := ok_check_team (P := P) (w := w) (base := base) T
  have G_team_time := ok_team_time (P := P) (w := w) (base := base) T
  refine gf_mk F T.g_team_walked sc_team_walked 0 rfl (fun _ _ _ _ _ _ us hl => match us, hl with | [_, _, _, _], _ => rfl) fun cdv hcv A outer s H E cx => ?_
  exact is_cons (is_expr (ie_callG cx G_check_team (ia_cons (ie_var 0) (ia_cons (ie_var 1) ia_nil))))
    (is_cons (is_expr (ie_callG cx G_check_road (ia_cons (ie_idx (ie_fld T.o_Plan.gC T.o_Plan.cl T.na_Plan_held (ie_idx (ie_var 0) ie_int)) ie_int) (ia_cons (ie_var 2) ia_nil))))
    (is_cons (is_expr (ie_callG cx G_check_far (ia_cons (ie_var 3) ia_nil)))
    (is_one (is_ret (ie_callG cx G_team_time (ia_cons (ie_var 0) (ia_cons (ie_var 1) (ia_cons (ie_var 2) (ia_cons (ie_var 3) ia_nil)))))))))

theorem sc_bases_behind : FnScope ["plans", "road", "low", "found", "plan", "first", "last", "base"] ["plans", "road", "low"] (defScope (topS 91)) := ⟨rfl, rfl, rfl, by decide +kernel, rfl, by decide +kernel, by decide +kernel⟩
theorem ok_bases_behind (T : Txt K mg) : GF P w K mg base "bases_behind" 6 3 f_bases_behind := by
  obtain ⟨fd, F⟩ := T.d_bases_behind
  have G_in_order := ok_in_order (P := P) (w := w) (base := base) T
  have G_is_less := ok_is_less (P := P) (w := w) (base := base) T
  have G_pieces_of := ok_pieces_of (P := P) (w := w) (base := base) T
  refine gf_mk F T.g_bases_behind sc_bases_behind 5 rfl (fun _ _ _ _ _ _ us hl => match us, hl with | [_, _, _], _ => rfl) fun cdv hcv A outer s H E cx => ?_
  exact is_cons (is_set (i := 3) cx (ie_lst ia_nil))
    (is_cons (is_for cx (ii_seq (ie_var 0)) (ig_name 4 cx.nd) (is_one (is_for cx (ii_seq (ie_callG cx G_pieces_of (ia_cons (ie_var 4) (ia_cons (ie_var 1) ia_nil)))) (ig_tup cx (igs_cons 5 cx.nd (igs_cons 6 cx.nd (igs_cons 7 cx.nd igs_nil)))) (is_one (is_if (PW.pt (iw_and (it_not (it_tru (ie_callG cx G_is_less (ia_cons (ie_var 2) (ia_cons (ie_var 5) ia_nil))))) (iw_and1 (it_tru (ie_callG cx G_is_less (ia_cons (ie_var 2) (ia_cons (ie_var 6) ia_nil))))))) (is_one (is_expr (ie_append (ie_var 3) (ia_cons (ie_var 7) ia_nil)))) is_nil)))))
    (is_one (is_ret (ie_callG cx G_in_order (ia_cons (ie_var 3) ia_nil)))))

theorem sc_lows_of : FnScope ["plans", "road", "found", "plan", "first", "last", "base", "end"] ["plans", "road"] (defScope (topS 92)) := ⟨rfl, rfl, rfl, by decide +kernel, rfl, by decide +kernel, by decide +kernel⟩
theorem ok_lows_of (T : Txt K mg) : GF P w K mg base "lows_of" 6 2 f_lows_of := by
  obtain ⟨fd, F⟩ := T.d_lows_of
  have G_in_order := ok_in_order (P := P) (w := w) (base := base) T
  have G_pieces_of := ok_pieces_of (P := P) (w := w) (base := base) T
  refine gf_mk F T.g_lows_of sc_lows_of 6 rfl (fun _ _ _ _ _ _ us hl => match us, hl with | [_, _], _ => rfl) fun cdv hcv A outer s H E cx => ?_
  exact is_cons (is_set (i := 2) cx (ie_lst (ia_cons (ie_gtup rfl T.g_ONE T.c_ONE (fun _ _ => .cons (.int 1) (.cons (.int 1) (.nil)))) ia_nil)))
    (is_cons (is_for cx (ii_seq (ie_var 0)) (ig_name 3 cx.nd) (is_one (is_for cx (ii_seq (ie_callG cx G_pieces_of (ia_cons (ie_var 3) (ia_cons (ie_var 1) ia_nil)))) (ig_tup cx (igs_cons 4 cx.nd (igs_cons 5 cx.nd (igs_cons 6 cx.nd igs_nil)))) (is_one (is_for cx (ii_seq (ie_tup (ia_cons (ie_var 4) (ia_cons (ie_var 5) ia_nil)))) (ig_name 7 cx.nd) (is_one (is_if (it_notin cx (ie_var 7) (ie_var 2)) (is_one (is_expr (ie_append (ie_var 2) (ia_cons (ie_var 7) ia_nil)))) is_nil)))))))
    (is_one (is_ret (ie_callG cx G_in_order (ia_cons (ie_var 2) ia_nil)))))

theorem sc_share_at : FnScope ["plans", "missing", "road", "low", "own", "bases", "found"] ["plans", "missing", "road", "low"] (defScope (topS 93)) := ⟨rfl, rfl, rfl, by decide +kernel, rfl, by decide +kernel, by decide +kernel⟩
theorem ok_share_at (T : Txt K mg) : GF P w K mg base "share_at" 7 4 f_share_at := by
  obtain ⟨fd, F⟩ := T.d_share_at
  have G_bases_behind := ok_bases_behind (P := P) (w := w) (base := base) T
  have G_is_less := ok_is_less (P := P) (w := w) (base := base) T
  have G_over := ok_over (P := P) (w := w) (base := base) T
  have G_plus := ok_plus (P := P) (w := w) (base := base) T
  have G_team_time := ok_team_time (P := P) (w := w) (base := base) T
  refine gf_mk F T.g_share_at sc_share_at 3 rfl (fun _ _ _ _ _ _ us hl => match us, hl with | [_, _, _, _], _ => rfl) fun cdv hcv A outer s H E cx => ?_
  exact is_cons (is_set (i := 4) cx (ie_callG cx G_team_time (ia_cons (ie_var 0) (ia_cons (ie_var 1) (ia_cons (ie_var 2) (ia_cons (ie_var 3) ia_nil))))))
    (is_cons (is_if (it_isnot (ie_var 4) ie_non) (is_one (is_set (i := 4) cx (ie_callG cx G_over (ia_cons (ie_var 4) (ia_cons (ie_var 3) ia_nil))))) is_nil)
    (is_cons (is_set (i := 5) cx (ie_callG cx G_bases_behind (ia_cons (ie_var 0) (ia_cons (ie_var 2) (ia_cons (ie_var 3) ia_nil)))))
    (is_cons (is_set (i := 6) cx ie_non)
    (is_cons (is_if (it_gt (ie_len T.z_len (ia_cons (ie_var 5) ia_nil)) (ie_var 1)) (is_one (is_set (i := 6) cx (ie_callG cx G_plus (ia_cons (ie_gtup rfl T.g_ONE T.c_ONE (fun _ _ => .cons (.int 1) (.cons (.int 1) (.nil)))) (ia_cons (ie_callG cx G_over (ia_cons (ie_idx (ie_var 5) (ie_var 1)) (ia_cons (ie_var 3) ia_nil))) ia_nil))))) is_nil)
    (is_cons (is_if (PW.pt (iw_and (it_eq cx (ie_var 3) (ie_gtup rfl T.g_ONE T.c_ONE (fun _ _ => .cons (.int 1) (.cons (.int 1) (.nil))))) (iw_and (it_isnot (ie_var 4) ie_non) (iw_and1 (PW.pt (iw_or (it_is (ie_var 6) ie_non) (iw_or1 (it_tru (ie_callG cx G_is_less (ia_cons (ie_var 6) (ia_cons (ie_var 4) ia_nil))))))))))) (is_one (is_set (i := 6) cx (ie_var 4))) is_nil)
    (is_one (is_ret (ie_tup (ia_cons (ie_var 6) (ia_cons (ie_eq cx (ie_var 6) (ie_var 4)) ia_nil))))))))))

theorem sc_team_worst : FnScope ["plans", "missing", "best", "road", "low", "found", "met"] ["plans", "missing"] (defScope (topS 94)) := ⟨rfl, rfl, rfl, by decide +kernel, rfl, by decide +kernel, by decide +kernel⟩
theorem ok_team_worst (T : Txt K mg) : GF P w K mg base "team_worst" 8 2 f_team_worst := by
  obtain ⟨fd, F⟩ := T.d_team_worst
  have G_check_team := ok_check_team (P := P) (w := w) (base := base) T
  have G_is_less := ok_is_less (P := P) (w := w) (base := base) T
  have G_lows_of := ok_lows_of (P := P) (w := w) (base := base) T
  have G_share_at := ok_share_at (P := P) (w := w) (base := base) T
  refine gf_mk F T.g_team_worst sc_team_worst 5 rfl (fun _ _ _ _ _ _ us hl => match us, hl with | [_, _], _ => rfl) fun cdv hcv A outer s H E cx => ?_
  exact is_cons (is_expr (ie_callG cx G_check_team (ia_cons (ie_var 0) (ia_cons (ie_var 1) ia_nil))))
    (is_cons (is_set (i := 2) cx ie_non)
    (is_cons (is_for cx (ii_range1 T.z_range (ia_cons (ie_idx (ie_fld T.o_Plan.gC T.o_Plan.cl T.na_Plan_held (ie_idx (ie_var 0) ie_int)) ie_int) ia_nil)) (ig_name 3 cx.nd) (is_one (is_for cx (ii_seq (ie_callG cx G_lows_of (ia_cons (ie_var 0) (ia_cons (ie_var 3) ia_nil)))) (ig_name 4 cx.nd) (is_cons (is_asgT (ie_callG cx G_share_at (ia_cons (ie_var 0) (ia_cons (ie_var 1) (ia_cons (ie_var 3) (ia_cons (ie_var 4) ia_nil))))) (ig_tup cx (igs_cons 5 cx.nd (igs_cons 6 cx.nd igs_nil))))
    (is_one (is_if (PW.pt (iw_and (it_isnot (ie_var 5) ie_non) (iw_and1 (PW.pt (iw_or (it_is (ie_var 2) ie_non) (iw_or1 (it_tru (ie_callG cx G_is_less (ia_cons (ie_idx (ie_var 2) ie_int) (ia_cons (ie_var 5) ia_nil)))))))))) (is_one (is_set (i := 2) cx (ie_tup (ia_cons (ie_var 5) (ia_cons (ie_var 3) (ia_cons (ie_var 4) (ia_cons (ie_var 6) ia_nil))))))) is_nil))))))
    (is_one (is_ret (ie_var 2)))))

theorem sc_fraction_text : FnScope ["fraction"] ["fraction"] (defScope (topS 96)) := ⟨rfl, rfl, rfl, by decide +kernel, rfl, by decide +kernel, by decide +kernel⟩
theorem ok_fraction_text (T : Txt K mg) : GF P w K mg base "fraction_text" 1 1 f_fraction_text := by
  obtain ⟨fd, F⟩ := T.d_fraction_text
  refine gf_mk F T.g_fraction_text sc_fraction_text 0 rfl (fun _ _ _ _ _ _ us hl => match us, hl with | [_], _ => rfl) fun cdv hcv A outer s H E cx => ?_
  exact is_cons (is_if (it_eq cx (ie_idx (ie_var 0) ie_int) ie_int) (is_one (is_ret (ie_str1 T.z_str (ia_cons (ie_idx (ie_var 0) ie_int) ia_nil)))) is_nil)
    (is_one (is_ret (ie_joined [eFmt (eOp pIdx (eVar 0) (eC (.int 0))), eC (.str "/"), eFmt (eOp pIdx (eVar 0) (eC (.int 1)))] (.cons (ie_fmt (ie_idx (ie_var 0) ie_int)) (.cons ie_str (.cons (ie_fmt (ie_idx (ie_var 0) ie_int)) (.nil)))))))

theorem sc_write_plan : FnScope ["plan", "roads", "turns", "cost", "lines", "road", "reach"] ["plan"] (defScope (topS 97)) := ⟨rfl, rfl, rfl, by decide +kernel, rfl, by decide +kernel, by decide +kernel⟩
theorem ok_write_plan (T : Txt K mg) : GF P w K mg base "write_plan" 2 1 f_write_plan := by
  obtain ⟨fd, F⟩ := T.d_write_plan
  have G_check_plan := ok_check_plan (P := P) (w := w) (base := base) T
  have G_fraction_text := ok_fraction_text (P := P) (w := w) (base := base) T
  refine gf_mk F T.g_write_plan sc_write_plan 6 rfl (fun _ _ _ _ _ _ us hl => match us, hl with | [_], _ => rfl) fun cdv hcv A outer s H E cx => ?_
  exact is_cons (is_expr (ie_callG cx G_check_plan (ia_cons (ie_var 0) ia_nil)))
    (is_cons (is_asgT (ie_fld T.o_Plan.gC T.o_Plan.cl T.na_Plan_held (ie_var 0)) (ig_tup cx (igs_cons 1 cx.nd (igs_cons 2 cx.nd (igs_cons 3 cx.nd igs_nil)))))
    (is_cons (is_set (i := 4) cx (ie_lst (ia_cons (ie_joined [eC (.str "roads "), eFmt (eVar 1), eC (.str " cost "), eFmt (eCall f_fraction_text (aCons (eVar 3) aNil))] (.cons ie_str (.cons (ie_fmt (ie_var 1)) (.cons ie_str (.cons (ie_fmt (ie_callG cx G_fraction_text (ia_cons (ie_var 3) ia_nil))) (.nil)))))) ia_nil)))
    (is_cons (is_for cx (ii_seq (ie_var 2)) (ig_tup cx (igs_cons 5 cx.nd (igs_cons 6 cx.nd igs_nil))) (is_one (is_expr (ie_append (ie_var 4) (ia_cons (ie_joined [eFmt (eVar 5), eC (.str " "), eFmt (eCall f_fraction_text (aCons (eVar 6) aNil))] (.cons (ie_fmt (ie_var 5)) (.cons ie_str (.cons (ie_fmt (ie_callG cx G_fraction_text (ia_cons (ie_var 6) ia_nil))) (.nil))))) ia_nil)))))
    (is_one (is_ret (ie_join ie_str (ie_var 4)))))))

theorem sc_check_share : FnScope ["value"] ["value"] (defScope (topS 101)) := ⟨rfl, rfl, rfl, by decide +kernel, rfl, by decide +kernel, by decide +kernel⟩
theorem ok_check_share (T : Txt K mg) : GF P w K mg base "check_share" 4 1 f_check_share := by
  obtain ⟨fd, F⟩ := T.d_check_share
  have G_is_within := ok_is_within (P := P) (w := w) (base := base) T
  refine gf_mk F T.g_check_share sc_check_share 0 rfl (fun _ _ _ _ _ _ us hl => match us, hl with | [_], _ => rfl) fun cdv hcv A outer s H E cx => ?_
  exact is_one (is_if (PW.pt (iw_or (it_not (it_tru (ie_callG cx G_is_within (ia_cons (ie_var 0) (ia_cons ie_int (ia_cons (ie_gint rfl T.c_MOST_SHARE) ia_nil)))))) (iw_or1 (it_gt (ie_idx (ie_var 0) ie_int) (ie_gint rfl T.c_MOST_PARTS))))) (is_one (is_raise0 cx T.x_BadShare)) is_nil)

theorem sc_half_of : FnScope ["share"] ["share"] (defScope (topS 102)) := ⟨rfl, rfl, rfl, by decide +kernel, rfl, by decide +kernel, by decide +kernel⟩
theorem ok_half_of (T : Txt K mg) : GF P w K mg base "half_of" 3 1 f_half_of := by
  obtain ⟨fd, F⟩ := T.d_half_of
  have G_ratio := ok_ratio (P := P) (w := w) (base := base) T
  refine gf_mk F T.g_half_of sc_half_of 0 rfl (fun _ _ _ _ _ _ us hl => match us, hl with | [_], _ => rfl) fun cdv hcv A outer s H E cx => ?_
  exact is_one (is_ret (ie_callG cx G_ratio (ia_cons (ie_sub (ie_idx (ie_var 0) ie_int) (ie_idx (ie_var 0) ie_int)) (ia_cons (ie_mul ie_int (ie_idx (ie_var 0) ie_int)) ia_nil))))

theorem sc_reaches_to : FnScope ["half", "far", "found", "whole", "new"] ["half", "far"] (defScope (topS 103)) := ⟨rfl, rfl, rfl, by decide +kernel, rfl, by decide +kernel, by decide +kernel⟩
theorem ok_reaches_to (T : Txt K mg) : GF P w K mg base "reaches_to" 4 2 f_reaches_to := by
  obtain ⟨fd, F⟩ := T.d_reaches_to
  have G_is_less := ok_is_less (P := P) (w := w) (base := base) T
  have G_minus := ok_minus (P := P) (w := w) (base := base) T
  have G_plus := ok_plus (P := P) (w := w) (base := base) T
  have G_times := ok_times (P := P) (w := w) (base := base) T
  refine gf_mk F T.g_reaches_to sc_reaches_to 3 rfl (fun _ _ _ _ _ _ us hl => match us, hl with | [_, _], _ => rfl) fun cdv hcv A outer s H E cx => ?_
  exact is_cons (is_set (i := 2) cx (ie_lst ia_nil))
    (is_cons (is_set (i := 3) cx (ie_gtup rfl T.g_ZERO T.c_ZERO (fun _ _ => .cons (.int 0) (.cons (.int 1) (.nil)))))
    (is_cons (is_set (i := 4) cx (ie_var 0))
    (is_cons (is_while cx (it_gt (ie_idx (ie_var 4) ie_int) ie_int) (is_cons (is_expr (ie_append (ie_var 2) (ia_cons (ie_var 4) ia_nil)))
    (is_cons (is_if (PW.pt (iw_and (it_isnot (ie_var 1) ie_non) (iw_and1 (it_not (it_tru (ie_callG cx G_is_less (ia_cons (ie_var 4) (ia_cons (ie_var 1) ia_nil)))))))) (is_one is_break) is_nil)
    (is_cons (is_set (i := 3) cx (ie_callG cx G_plus (ia_cons (ie_var 3) (ia_cons (ie_var 4) ia_nil))))
    (is_one (is_set (i := 4) cx (ie_callG cx G_minus (ia_cons (ie_callG cx G_times (ia_cons (ie_var 0) (ia_cons (ie_var 4) ia_nil))) (ia_cons (ie_var 3) ia_nil)))))))))
    (is_one (is_ret (ie_var 2))))))

theorem sc_farthest_of : FnScope ["share"] ["share"] (defScope (topS 104)) := ⟨rfl, rfl, rfl, by decide +kernel, rfl, by decide +kernel, by decide +kernel⟩
theorem ok_farthest_of (T : Txt K mg) : GF P w K mg base "farthest_of" 5 1 f_farthest_of := by
  obtain ⟨fd, F⟩ := T.d_farthest_of
  have G_greatest_of := ok_greatest_of (P := P) (w := w) (base := base) T
  have G_half_of := ok_half_of (P := P) (w := w) (base := base) T
  have G_is_less := ok_is_less (P := P) (w := w) (base := base) T
  have G_reaches_to := ok_reaches_to (P := P) (w := w) (base := base) T
  refine gf_mk F T.g_farthest_of sc_farthest_of 0 rfl (fun _ _ _ _ _ _ us hl => match us, hl with | [_], _ => rfl) fun cdv hcv A outer s H E cx => ?_
  exact is_cons (is_if (it_not (it_tru (ie_callG cx G_is_less (ia_cons (ie_var 0) (ia_cons (ie_tup (ia_cons ie_int (ia_cons ie_int ia_nil))) ia_nil))))) (is_one (is_ret ie_non)) is_nil)
    (is_cons (is_if (it_tru (ie_callG cx G_is_less (ia_cons (ie_var 0) (ia_cons (ie_tup (ia_cons ie_int (ia_cons ie_int ia_nil))) ia_nil)))) (is_one (is_ret (ie_gtup rfl T.g_ZERO T.c_ZERO (fun _ _ => .cons (.int 0) (.cons (.int 1) (.nil)))))) is_nil)
    (is_one (is_ret (ie_callG cx G_greatest_of (ia_cons (ie_callG cx G_reaches_to (ia_cons (ie_callG cx G_half_of (ia_cons (ie_var 0) ia_nil)) (ia_cons ie_non ia_nil))) ia_nil)))))

theorem sc_farthest : FnScope ["share"] ["share"] (defScope (topS 105)) := ⟨rfl, rfl, rfl, by decide +kernel, rfl, by decide +kernel, by decide +kernel⟩
theorem ok_farthest (T : Txt K mg) : GF P w K mg base "farthest" 6 1 f_farthest := by
  obtain ⟨fd, F⟩ := T.d_farthest
  have G_check_share := ok_check_share (P := P) (w := w) (base := base) T
  have G_farthest_of := ok_farthest_of (P := P) (w := w) (base := base) T
  refine gf_mk F T.g_farthest sc_farthest 0 rfl (fun _ _ _ _ _ _ us hl => match us, hl with | [_], _ => rfl) fun cdv hcv A outer s H E cx => ?_
  exact is_cons (is_expr (ie_callG cx G_check_share (ia_cons (ie_var 0) ia_nil)))
    (is_one (is_ret (ie_callG cx G_farthest_of (ia_cons (ie_var 0) ia_nil))))

theorem sc_plan_within : FnScope ["share", "far", "most", "reaches", "index", "reach"] ["share", "far"] (defScope (topS 106)) := ⟨rfl, rfl, rfl, by decide +kernel, rfl, by decide +kernel, by decide +kernel⟩
theorem ok_plan_within (T : Txt K mg) : GF P w K mg base "plan_within" 8 2 f_plan_within := by
  obtain ⟨fd, F⟩ := T.d_plan_within
  have G_Plan___init__ := ok_Plan___init__ (P := P) (w := w) (base := base) T
  have G_check_share := ok_check_share (P := P) (w := w) (base := base) T
  have G_farthest_of := ok_farthest_of (P := P) (w := w) (base := base) T
  have G_half_of := ok_half_of (P := P) (w := w) (base := base) T
  have G_is_less := ok_is_less (P := P) (w := w) (base := base) T
  have G_is_within := ok_is_within (P := P) (w := w) (base := base) T
  have G_reaches_to := ok_reaches_to (P := P) (w := w) (base := base) T
  refine gf_mk F T.g_plan_within sc_plan_within 4 rfl (fun _ _ _ _ _ _ us hl => match us, hl with | [_, _], _ => rfl) fun cdv hcv A outer s H E cx => ?_
  exact is_cons (is_expr (ie_callG cx G_check_share (ia_cons (ie_var 0) ia_nil)))
    (is_cons (is_if (it_not (it_tru (ie_callG cx G_is_within (ia_cons (ie_var 1) (ia_cons ie_int (ia_cons (ie_gint rfl T.c_MOST_REACH) ia_nil)))))) (is_one (is_raise0 cx T.x_BadFar)) is_nil)
    (is_cons (is_set (i := 2) cx (ie_callG cx G_farthest_of (ia_cons (ie_var 0) ia_nil)))
    (is_cons (is_if (PW.pt (iw_and (it_isnot (ie_var 2) ie_non) (iw_and1 (it_tru (ie_callG cx G_is_less (ia_cons (ie_var 2) (ia_cons (ie_var 1) ia_nil))))))) (is_one (is_ret ie_non)) is_nil)
    (is_cons (is_set (i := 3) cx (ie_add (ie_sl (ie_callG cx G_reaches_to (ia_cons (ie_callG cx G_half_of (ia_cons (ie_var 0) ia_nil)) (ia_cons (ie_var 1) ia_nil))) io_none (io_some (ie_neg ie_int))) (ie_lst (ia_cons (ie_var 1) (ia_cons (ie_var 1) ia_nil)))))
    (is_one (is_ret (ie_makeG cx T.mk_Plan T.o_Plan.gC G_Plan___init__ (ia_cons ie_int (ia_cons (ie_tuple1 T.z_tuple (ia_cons (ie_lc [("index", 4), ("reach", 5)] cx (ii_enum T.z_enumerate (ia_cons (ie_var 3) ia_nil)) (blkOk_by (by rfl)) (fun _ _ _ _ _ cx => gw_tup cx (gws_cons 4 cx.nd (gws_cons 5 cx.nd gws_nil))) (fun _ _ _ _ _ cx => it_none) (fun _ _ _ _ _ cx => ie_tup (ia_cons (ie_mod (ie_var 4) ie_int) (ia_cons (ie_var 5) ia_nil)))) ia_nil)) (ia_cons (ie_gtup rfl T.g_ZERO T.c_ZERO (fun _ _ => .cons (.int 0) (.cons (.int 1) (.nil)))) ia_nil))))))))))

theorem sc_Walk___init__ : FnScope ["self", "roads", "cost"] ["self", "roads", "cost"] (defScope (inClass (topS 108) 0)) := ⟨rfl, rfl, rfl, by decide +kernel, rfl, by decide +kernel, by decide +kernel⟩
theorem ok_Walk___init__ (T : Txt K mg) : GA P w K mg base (He.ma K (He.ga K "Walk") "__init__") 8 3 f_Walk___init__ := by
  obtain ⟨fd, F⟩ := T.d_Walk___init__
  have G_Plan___init__ := ok_Plan___init__ (P := P) (w := w) (base := base) T
  have G_check_cost := ok_check_cost (P := P) (w := w) (base := base) T
  have G_check_roads := ok_check_roads (P := P) (w := w) (base := base) T
  refine ga_mk F sc_Walk___init__ 0 rfl (fun _ _ _ _ _ _ us hl => match us, hl with | [_, _, _], _ => rfl) fun cdv hcv A outer s H E cx => ?_
  exact is_cons (is_expr (ie_callG cx G_check_roads (ia_cons (ie_var 1) ia_nil)))
    (is_cons (is_expr (ie_callG cx G_check_cost (ia_cons (ie_var 2) ia_nil)))
    (is_one (is_fld T.o_Walk.gC T.o_Walk.cl T.na_Walk_made (ie_var 0) (ie_makeG cx T.mk_Plan T.o_Plan.gC G_Plan___init__ (ia_cons (ie_var 1) (ia_cons (ie_tup ia_nil) (ia_cons (ie_var 2) ia_nil)))))))

theorem sc_Walk_plan : FnScope ["self"] ["self"] (defScope (inClass (topS 108) 1)) := ⟨rfl, rfl, rfl, by decide +kernel, rfl, by decide +kernel, by decide +kernel⟩
theorem ok_Walk_plan (T : Txt K mg) : GA P w K mg base (He5.wf K (He.ga K "Walk") "property" "plan") 1 1 f_Walk_plan := by
  obtain ⟨fd, F⟩ := T.d_Walk_plan
  refine ga_mk F sc_Walk_plan 0 rfl (fun _ _ _ _ _ _ us hl => match us, hl with | [_], _ => rfl) fun cdv hcv A outer s H E cx => ?_
  exact is_one (is_ret (ie_fld T.o_Walk.gC T.o_Walk.cl T.na_Walk_made (ie_var 0)))

theorem sc_Walk_go : FnScope ["self", "road", "reach"] ["self", "road", "reach"] (defScope (inClass (topS 108) 2)) := ⟨rfl, rfl, rfl, by decide +kernel, rfl, by decide +kernel, by decide +kernel⟩
theorem ok_Walk_go (T : Txt K mg) : GA P w K mg base (He.ma K (He.ga K "Walk") "go") 2 3 f_Walk_go := by
  obtain ⟨fd, F⟩ := T.d_Walk_go
  have G__wall := ok__wall (P := P) (w := w) (base := base) T
  refine ga_mk F sc_Walk_go 0 rfl (fun _ _ _ _ _ _ us hl => match us, hl with | [_, _, _], _ => rfl) fun cdv hcv A outer s H E cx => ?_
  exact is_one (is_expr (ie_callG cx G__wall (ia_cons ie_int ia_nil)))

theorem sc_Walk_room : FnScope ["self", "road", "share"] ["self", "road", "share"] (defScope (inClass (topS 108) 3)) := ⟨rfl, rfl, rfl, by decide +kernel, rfl, by decide +kernel, by decide +kernel⟩
theorem ok_Walk_room (T : Txt K mg) : GA P w K mg base (He.ma K (He.ga K "Walk") "room") 2 3 f_Walk_room := by
  obtain ⟨fd, F⟩ := T.d_Walk_room
  have G__wall := ok__wall (P := P) (w := w) (base := base) T
  refine ga_mk F sc_Walk_room 0 rfl (fun _ _ _ _ _ _ us hl => match us, hl with | [_, _, _], _ => rfl) fun cdv hcv A outer s H E cx => ?_
  exact is_one (is_expr (ie_callG cx G__wall (ia_cons ie_int ia_nil)))

theorem sc_Walk_undo : FnScope ["self"] ["self"] (defScope (inClass (topS 108) 4)) := ⟨rfl, rfl, rfl, by decide +kernel, rfl, by decide +kernel, by decide +kernel⟩
theorem ok_Walk_undo (T : Txt K mg) : GA P w K mg base (He.ma K (He.ga K "Walk") "undo") 2 1 f_Walk_undo := by
  obtain ⟨fd, F⟩ := T.d_Walk_undo
  have G__wall := ok__wall (P := P) (w := w) (base := base) T
  refine ga_mk F sc_Walk_undo 0 rfl (fun _ _ _ _ _ _ us hl => match us, hl with | [_], _ => rfl) fun cdv hcv A outer s H E cx => ?_
  exact is_one (is_expr (ie_callG cx G__wall (ia_cons ie_int ia_nil)))

theorem sc_Walk_copy : FnScope ["self"] ["self"] (defScope (inClass (topS 108) 5)) := ⟨rfl, rfl, rfl, by decide +kernel, rfl, by decide +kernel, by decide +kernel⟩
theorem ok_Walk_copy (T : Txt K mg) : GA P w K mg base (He.ma K (He.ga K "Walk") "copy") 2 1 f_Walk_copy := by
  obtain ⟨fd, F⟩ := T.d_Walk_copy
  have G__wall := ok__wall (P := P) (w := w) (base := base) T
  refine ga_mk F sc_Walk_copy 0 rfl (fun _ _ _ _ _ _ us hl => match us, hl with | [_], _ => rfl) fun cdv hcv A outer s H E cx => ?_
  exact is_one (is_expr (ie_callG cx G__wall (ia_cons ie_int ia_nil)))

theorem sc_Walk___len__ : FnScope ["self"] ["self"] (defScope (inClass (topS 108) 6)) := ⟨rfl, rfl, rfl, by decide +kernel, rfl, by decide +kernel, by decide +kernel⟩
theorem ok_Walk___len__ (T : Txt K mg) : GA P w K mg base (He.ma K (He.ga K "Walk") "__len__") 1 1 f_Walk___len__ := by
  obtain ⟨fd, F⟩ := T.d_Walk___len__
  refine ga_mk F sc_Walk___len__ 0 rfl (fun _ _ _ _ _ _ us hl => match us, hl with | [_], _ => rfl) fun cdv hcv A outer s H E cx => ?_
  exact is_one (is_ret (ie_len T.z_len (ia_cons (ie_idx (ie_fld T.o_Plan.gC T.o_Plan.cl T.na_Plan_held (ie_fld T.o_Walk.gC T.o_Walk.cl T.na_Walk_made (ie_var 0))) ie_int) ia_nil)))

theorem sc__law_mix : FnScope ["_law_script", "_law_seed", "_law_state", "_law_cell"] ["_law_script", "_law_seed"] (defScope (topS 110)) := ⟨rfl, rfl, rfl, by decide +kernel, rfl, by decide +kernel, by decide +kernel⟩
theorem ok__law_mix (T : Txt K mg) : GF P w K mg base "_law_mix" 1 2 f__law_mix := by
  obtain ⟨fd, F⟩ := T.d__law_mix
  refine gf_mk F T.g__law_mix sc__law_mix 2 rfl (fun _ _ _ _ _ _ us hl => match us, hl with | [_, _], _ => rfl) fun cdv hcv A outer s H E cx => ?_
  exact is_cons (is_set (i := 2) cx (ie_var 1))
    (is_cons (is_for cx (ii_seq (ie_var 0)) (ig_name 3 cx.nd) (is_one (is_set (i := 2) cx (ie_mod (ie_int1 T.z_int (ia_cons (ie_add (ie_add (ie_mul (ie_var 2) ie_int) (ie_mod (ie_int1 T.z_int (ia_cons (ie_var 3) ia_nil)) ie_int)) ie_int) ia_nil)) ie_int))))
    (is_one (is_ret (ie_lst (ia_cons (ie_var 2) (ia_cons (ie_list1 T.z_list (ia_cons (ie_var 0) ia_nil)) (ia_cons ie_int ia_nil)))))))

theorem sc__law_next : FnScope ["_law_h", "_law_bound", "_law_cell", "_law_cells"] ["_law_h", "_law_bound"] (defScope (topS 111)) := ⟨rfl, rfl, rfl, by decide +kernel, rfl, by decide +kernel, by decide +kernel⟩
theorem ok__law_next (T : Txt K mg) : GF P w K mg base "_law_next" 1 2 f__law_next := by
  obtain ⟨fd, F⟩ := T.d__law_next
  refine gf_mk F T.g__law_next sc__law_next 2 rfl (fun _ _ _ _ _ _ us hl => match us, hl with | [_, _], _ => rfl) fun cdv hcv A outer s H E cx => ?_
  exact is_cons (is_set (i := 2) cx (ie_idx (ie_add (ie_idx (ie_var 0) ie_int) (ie_lst (ia_cons ie_int ia_nil))) (ie_mod (ie_int1 T.z_int (ia_cons (ie_idx (ie_var 0) ie_int) ia_nil)) (ie_max2 cx T.z_max (ia_cons ie_int (ia_cons (ie_len T.z_len (ia_cons (ie_idx (ie_var 0) ie_int) ia_nil)) ia_nil))))))
    (is_cons (is_if (it_ge (ie_var 2) (ie_pow ie_int ie_int)) (is_cons (is_set (i := 3) cx (ie_idx (ie_var 0) ie_int))
    (is_cons (is_setix (ie_div (ie_var 2) (ie_var 1)) (ie_var 3) (ie_mod (ie_int1 T.z_int (ia_cons (ie_idx (ie_var 0) ie_int) ia_nil)) (ie_len T.z_len (ia_cons (ie_var 3) ia_nil))))
    (is_one (is_ret (ie_mod (ie_int1 T.z_int (ia_cons (ie_var 2) ia_nil)) (ie_var 1)))))) is_nil)
    (is_cons (is_setix (ie_mod (ie_int1 T.z_int (ia_cons (ie_add (ie_add (ie_mul (ie_idx (ie_var 0) ie_int) ie_int) (ie_mul (ie_var 2) ie_int)) ie_int) ia_nil)) ie_int) (ie_var 0) ie_int)
    (is_cons (is_setix (ie_add (ie_idx (ie_var 0) ie_int) ie_int) (ie_var 0) ie_int)
    (is_one (is_ret (ie_mod (ie_int1 T.z_int (ia_cons (ie_div (ie_idx (ie_var 0) ie_int) ie_int) ia_nil)) (ie_var 1)))))))

theorem sc__law_first : FnScope ["_law_kind", "_law_t", "_law_turn"] ["_law_kind", "_law_t", "_law_turn"] (defScope (topS 112)) := ⟨rfl, rfl, rfl, by decide +kernel, rfl, by decide +kernel, by decide +kernel⟩
theorem ok__law_first (T : Txt K mg) : GF P w K mg base "_law_first" 9 3 f__law_first := by
  obtain ⟨fd, F⟩ := T.d__law_first
  have G_Plan___init__ := ok_Plan___init__ (P := P) (w := w) (base := base) T
  have G_best_bound := ok_best_bound (P := P) (w := w) (base := base) T
  have G_best_ratio := ok_best_ratio (P := P) (w := w) (base := base) T
  have G_cover := ok_cover (P := P) (w := w) (base := base) T
  have G_grown := ok_grown (P := P) (w := w) (base := base) T
  have G_most_share := ok_most_share (P := P) (w := w) (base := base) T
  have G_pieces := ok_pieces (P := P) (w := w) (base := base) T
  have G_share := ok_share (P := P) (w := w) (base := base) T
  have G_walked := ok_walked (P := P) (w := w) (base := base) T
  have G_worst := ok_worst (P := P) (w := w) (base := base) T
  have G_write_plan := ok_write_plan (P := P) (w := w) (base := base) T
  refine gf_mk F T.g__law_first sc__law_first 0 rfl (fun _ _ _ _ _ _ us hl => match us, hl with | [_, _, _], _ => rfl) fun cdv hcv A outer s H E cx => ?_
  exact is_cons (is_if (it_eq cx (ie_var 0) ie_int) (is_one (is_ret (ie_makeG cx T.mk_Plan T.o_Plan.gC G_Plan___init__ (ia_cons (ie_idx (ie_var 1) ie_int) (ia_cons (ie_idx (ie_var 1) ie_int) (ia_cons (ie_idx (ie_var 1) ie_int) ia_nil)))))) is_nil)
    (is_cons (is_if (it_eq cx (ie_var 0) ie_int) (is_one (is_ret (ie_callV (j := 7) cx (GT.cons G_walked (by decide) (GT.cons G_share (by decide) (GT.nil))) (ie_idx (ie_lst (ia_cons (ie_glo rfl T.g_walked) (ia_cons (ie_glo rfl T.g_share) ia_nil))) (ie_mod (ie_var 2) ie_int)) (ia_cons (ie_idx (ie_var 1) ie_int) (ia_cons (ie_idx (ie_var 1) ie_int) (ia_cons (ie_idx (ie_var 1) ie_int) ia_nil)))))) is_nil)
    (is_cons (is_if (it_eq cx (ie_var 0) ie_int) (is_one (is_ret (ie_callG cx G_pieces (ia_cons (ie_idx (ie_var 1) ie_int) (ia_cons (ie_idx (ie_var 1) ie_int) ia_nil))))) is_nil)
    (is_cons (is_if (it_eq cx (ie_var 0) ie_int) (is_one (is_ret (ie_callV (j := 7) cx (GT.cons G_cover (by decide) (GT.cons G_worst (by decide) (GT.cons G_write_plan (by decide) (GT.nil)))) (ie_idx (ie_lst (ia_cons (ie_glo rfl T.g_cover) (ia_cons (ie_glo rfl T.g_worst) (ia_cons (ie_glo rfl T.g_write_plan) ia_nil)))) (ie_mod (ie_var 2) ie_int)) (ia_cons (ie_idx (ie_var 1) ie_int) ia_nil)))) is_nil)
    (is_cons (is_if (it_eq cx (ie_var 0) ie_int) (is_one (is_ret (ie_callV (j := 6) cx (GT.cons G_best_ratio (by decide) (GT.cons G_best_bound (by decide) (GT.nil))) (ie_idx (ie_lst (ia_cons (ie_glo rfl T.g_best_ratio) (ia_cons (ie_glo rfl T.g_best_bound) ia_nil))) (ie_mod (ie_var 2) ie_int)) (ia_cons (ie_idx (ie_var 1) ie_int) ia_nil)))) is_nil)
    (is_cons (is_if (it_eq cx (ie_var 0) ie_int) (is_one (is_ret (ie_callG cx G_most_share (ia_cons (ie_idx (ie_var 1) ie_int) (ia_cons (ie_idx (ie_var 1) ie_int) ia_nil))))) is_nil)
    (is_one (is_ret (ie_callG cx G_grown (ia_cons (ie_idx (ie_var 1) ie_int) (ia_cons (ie_idx (ie_var 1) ie_int) (ia_cons (ie_idx (ie_var 1) ie_int) (ia_cons (ie_idx (ie_var 1) ie_int) ia_nil))))))))))))

theorem sc__law_ask : FnScope ["_law_kind", "_law_t", "_law_turn"] ["_law_kind", "_law_t", "_law_turn"] (defScope (topS 113)) := ⟨rfl, rfl, rfl, by decide +kernel, rfl, by decide +kernel, by decide +kernel⟩
theorem ok__law_ask (T : Txt K mg) : GF P w K mg base "_law_ask" 10 3 f__law_ask := by
  obtain ⟨fd, F⟩ := T.d__law_ask
  have G_Walk___init__ := ok_Walk___init__ (P := P) (w := w) (base := base) T
  have G__law_first := ok__law_first (P := P) (w := w) (base := base) T
  have G_best_plan := ok_best_plan (P := P) (w := w) (base := base) T
  have G_farthest := ok_farthest (P := P) (w := w) (base := base) T
  have G_growing_walked := ok_growing_walked (P := P) (w := w) (base := base) T
  have G_least_walk := ok_least_walk (P := P) (w := w) (base := base) T
  have G_plan_within := ok_plan_within (P := P) (w := w) (base := base) T
  have G_team_walked := ok_team_walked (P := P) (w := w) (base := base) T
  have G_team_worst := ok_team_worst (P := P) (w := w) (base := base) T
  refine gf_mk F T.g__law_ask sc__law_ask 0 rfl (fun _ _ _ _ _ _ us hl => match us, hl with | [_, _, _], _ => rfl) fun cdv hcv A outer s H E cx => ?_
  exact is_cons (is_if (it_lt (ie_var 0) ie_int) (is_one (is_ret (ie_callG cx G__law_first (ia_cons (ie_var 0) (ia_cons (ie_var 1) (ia_cons (ie_var 2) ia_nil)))))) is_nil)
    (is_cons (is_if (it_eq cx (ie_var 0) ie_int) (is_one (is_ret (ie_callG cx G_growing_walked (ia_cons (ie_idx (ie_var 1) ie_int) (ia_cons (ie_idx (ie_var 1) ie_int) (ia_cons (ie_idx (ie_var 1) ie_int) (ia_cons (ie_idx (ie_var 1) ie_int) (ia_cons (ie_idx (ie_var 1) ie_int) ia_nil)))))))) is_nil)
    (is_cons (is_if (it_eq cx (ie_var 0) ie_int) (is_one (is_ret (ie_callG cx G_farthest (ia_cons (ie_idx (ie_var 1) ie_int) ia_nil)))) is_nil)
    (is_cons (is_if (it_eq cx (ie_var 0) ie_int) (is_one (is_ret (ie_callG cx G_plan_within (ia_cons (ie_idx (ie_var 1) ie_int) (ia_cons (ie_idx (ie_var 1) ie_int) ia_nil))))) is_nil)
    (is_cons (is_if (it_eq cx (ie_var 0) ie_int) (is_one (is_ret (ie_callG cx G_team_walked (ia_cons (ie_idx (ie_var 1) ie_int) (ia_cons (ie_idx (ie_var 1) ie_int) (ia_cons (ie_idx (ie_var 1) ie_int) (ia_cons (ie_idx (ie_var 1) ie_int) ia_nil))))))) is_nil)
    (is_cons (is_if (it_eq cx (ie_var 0) ie_int) (is_one (is_ret (ie_callG cx G_team_worst (ia_cons (ie_idx (ie_var 1) ie_int) (ia_cons (ie_idx (ie_var 1) ie_int) ia_nil))))) is_nil)
    (is_cons (is_if (it_eq cx (ie_var 0) ie_int) (is_one (is_ret (ie_callV (j := 8) cx (GT.cons G_least_walk (by decide) (GT.cons G_best_plan (by decide) (GT.nil))) (ie_idx (ie_lst (ia_cons (ie_glo rfl T.g_least_walk) (ia_cons (ie_glo rfl T.g_best_plan) ia_nil))) (ie_mod (ie_var 2) ie_int)) (ia_cons (ie_idx (ie_var 1) ie_int) (ia_cons (ie_idx (ie_var 1) ie_int) ia_nil))))) is_nil)
    (is_one (is_ret (ie_makeG cx T.mk_Walk T.o_Walk.gC G_Walk___init__ (ia_cons (ie_idx (ie_var 1) ie_int) (ia_cons (ie_idx (ie_var 1) ie_int) ia_nil)))))))))))

theorem sc__law_turn_at : FnScope ["_law_value", "_law_k"] ["_law_value"] (defScope (topS 114)) := ⟨rfl, rfl, rfl, by decide +kernel, rfl, by decide +kernel, by decide +kernel⟩
theorem ok__law_turn_at (T : Txt K mg) : HF P w K mg base "_law_turn_at" 1 1 f__law_turn_at := by
  obtain ⟨fd, F⟩ := T.d__law_turn_at
  refine hf_mk F T.g__law_turn_at sc__law_turn_at 1 rfl (fun _ _ _ _ _ _ us hl => match us, hl with | [_], _ => rfl) fun cdv A outer s H E p cx => ?_
  exact is_cons (is_if (PW.pt (iw_or (it_not (it_tru (ie_isi T.os T.z_isinstance (ia_cons (ie_var 0) (ia_cons (ie_tyB T.z_tuple) ia_nil))))) (iw_or1 (it_gt (ie_len T.z_len (ia_cons (ie_var 0) ia_nil)) ie_int)))) (is_one (is_ret ie_non)) is_nil)
    (is_one (is_ret (ie_idx (ie_lcH [("_law_k", 1)] cx (ii_range1H T.z_range (ia_cons (ie_len T.z_len (ia_cons (ie_var 0) ia_nil)) ia_nil)) (blkOk_by (by rfl)) (fun _ _ _ _ _ _ => gw_name 1 cx.nd) (fun _ _ _ _ _ _ => pts_one (it_notinH (unitsH cx.room) (ie_idx (ie_var 0) (ie_var 1)) (ie_lst (ia_cons (ie_tup (ia_cons ie_int (ia_cons (ie_tup (ia_cons ie_int (ia_cons ie_int ia_nil))) ia_nil))) (ia_cons (ie_tup (ia_cons ie_int (ia_cons (ie_tup (ia_cons ie_int (ia_cons ie_int ia_nil))) ia_nil))) ia_nil))))) (fun _ _ _ _ _ _ => ie_var 1)) ie_int)))

theorem sc__law_told : FnScope ["_law_kind", "_law_t", "_law_turn", "e"] ["_law_kind", "_law_t", "_law_turn"] (defScope (topS 115)) := ⟨rfl, rfl, rfl, by decide +kernel, rfl, by decide +kernel, by decide +kernel⟩
theorem ok__law_told (T : Txt K mg) : GF P w K mg base "_law_told" 11 3 f__law_told := by
  obtain ⟨fd, F⟩ := T.d__law_told
  have G__law_ask := ok__law_ask (P := P) (w := w) (base := base) T
  have G__law_turn_at := ok__law_turn_at (P := P) (w := w) (base := base) T
  refine gf_mk F T.g__law_told sc__law_told 1 rfl (fun _ _ _ _ _ _ us hl => match us, hl with | [_, _, _], _ => rfl) fun cdv hcv A outer s H E cx => ?_
  exact is_cons (is_tryM cx T.exs (fun _ _ _ cx => is_one (is_expr (ie_callG cx G__law_ask (ia_cons (ie_var 0) (ia_cons (ie_var 1) (ia_cons (ie_var 2) ia_nil)))))) (hm_bare T.x_BadRoads.gC (fun _ _ _ => is_one (is_ret (ie_if (it_inH (have u := units65 cx.room; u) (ie_var 0) (ie_lst (ia_cons ie_int (ia_cons ie_int (ia_cons ie_int (ia_cons ie_int ia_nil)))))) ie_str ie_str))) (hm_named (i := 3) T.xi_BadTurns.gC (fun ev _ _ _ _ _ hx hz hd => fs_one (fs_ret (fe_if XF.mon (ft_eq XF.mon cx.room.units (fe_xf T.exi (T.xfl _ _) hz.zc hd) (fe_of (ie_callH (cx.suite hz hd) G__law_turn_at (ia_cons (ie_idx (ie_var 1) ie_int) ia_nil)))) (fe_of ie_str) (fe_of ie_str)))) (hm_bare T.x_BadCost.gC (fun _ _ _ => is_one (is_ret ie_str)) (hm_bare T.x_BadPlan.gC (fun _ _ _ => is_one (is_ret ie_str)) (hm_bare T.x_BadRoad.gC (fun _ _ _ => is_one (is_ret ie_str)) (hm_bare T.x_BadFar.gC (fun _ _ _ => is_one (is_ret (ie_if (it_eqH (have u := units65 cx.room; u) (ie_var 0) ie_int) ie_str ie_str))) (hm_bare T.x_BadFirst.gC (fun _ _ _ => is_one (is_ret ie_str)) (hm_bare T.x_BadRatio.gC (fun _ _ _ => is_one (is_ret (ie_if (it_eqH (have u := units65 cx.room; u) (ie_var 0) ie_int) ie_str ie_str))) (hm_bare T.x_BadMany.gC (fun _ _ _ => is_one (is_ret ie_str)) (hm_bare T.x_BadShare.gC (fun _ _ _ => is_one (is_ret ie_str)) (hm_bare T.x_BadPlans.gC (fun _ _ _ => is_one (is_ret ie_str)) (hm_bare T.x_BadMissing.gC (fun _ _ _ => is_one (is_ret ie_str)) (hm_bare T.x_BadChances.gC (fun _ _ _ => is_one (is_ret ie_str)) (hm_nil)))))))))))))))
    (is_one (is_ret ie_str))

theorem sc__law_good_one : FnScope ["_law_name", "_law_one", "_law_good", "_law_more", "_law_rest"] ["_law_name"] (defScope (topS 116)) := ⟨rfl, rfl, rfl, by decide +kernel, rfl, by decide +kernel, by decide +kernel⟩
theorem ok__law_good_one (T : Txt K mg) : GF P w K mg base "_law_good_one" 8 1 f__law_good_one := by
  obtain ⟨fd, F⟩ := T.d__law_good_one
  have G_Plan___init__ := ok_Plan___init__ (P := P) (w := w) (base := base) T
  refine gf_mk F T.g__law_good_one sc__law_good_one 4 rfl (fun _ _ _ _ _ _ us hl => match us, hl with | [_], _ => rfl) fun cdv hcv A outer s H E cx => ?_
  exact is_cons (is_set (i := 1) cx (ie_makeG cx T.mk_Plan T.o_Plan.gC G_Plan___init__ (ia_cons ie_int (ia_cons (ie_tup (ia_cons (ie_tup (ia_cons ie_int (ia_cons (ie_tup (ia_cons ie_int (ia_cons ie_int ia_nil))) ia_nil))) (ia_cons (ie_tup (ia_cons ie_int (ia_cons (ie_tup (ia_cons ie_int (ia_cons ie_int ia_nil))) ia_nil))) ia_nil))) (ia_cons (ie_tup (ia_cons ie_int (ia_cons ie_int ia_nil))) ia_nil)))))
    (is_cons (is_set (i := 2) cx (ie_disp [("roads", eC (.int 2)), ("turns", eTup (aCons (eTup (aCons (eC (.int 0)) (aCons (eTup (aCons (eC (.int 1)) (aCons (eC (.int 1)) aNil))) aNil))) (aCons (eTup (aCons (eC (.int 1)) (aCons (eTup (aCons (eC (.int 1)) (aCons (eC (.int 2)) aNil))) aNil))) aNil))), ("cost", eTup (aCons (eC (.int 0)) (aCons (eC (.int 1)) aNil))), ("plan", eVar 1), ("road", eC (.int 1))] (pps_cons pe_str ie_int (pps_cons pe_str (ie_tup (ia_cons (ie_tup (ia_cons ie_int (ia_cons (ie_tup (ia_cons ie_int (ia_cons ie_int ia_nil))) ia_nil))) (ia_cons (ie_tup (ia_cons ie_int (ia_cons (ie_tup (ia_cons ie_int (ia_cons ie_int ia_nil))) ia_nil))) ia_nil))) (pps_cons pe_str (ie_tup (ia_cons ie_int (ia_cons ie_int ia_nil))) (pps_cons pe_str (ie_var 1) (pps_cons pe_str ie_int (pps_nil))))))))
    (is_cons (is_sput cx (ie_tup (ia_cons (ie_pow ie_int ie_int) (ia_cons ie_int ia_nil))) (ie_var 2) ie_str)
    (is_cons (is_set (i := 3) cx (ie_disp [("m", eC (.int 2)), ("ratio", eTup (aCons (eC (.int 100)) (aCons (eC (.int 1)) aNil))), ("first", eTup (aCons (eC (.int 1)) (aCons (eC (.int 1)) aNil))), ("many", eC (.int 3)), ("steep", eTup (aCons (eC (.int 11)) (aCons (eC (.int 10)) aNil))), ("share", eTup (aCons (eC (.int 9001)) (aCons (eC (.int 1000)) aNil)))] (pps_cons pe_str ie_int (pps_cons pe_str (ie_tup (ia_cons ie_int (ia_cons ie_int ia_nil))) (pps_cons pe_str (ie_tup (ia_cons ie_int (ia_cons ie_int ia_nil))) (pps_cons pe_str ie_int (pps_cons pe_str (ie_tup (ia_cons ie_int (ia_cons ie_int ia_nil))) (pps_cons pe_str (ie_tup (ia_cons ie_int (ia_cons ie_int ia_nil))) (pps_nil)))))))))
    (is_cons (is_set (i := 4) cx (ie_disp [("near", eTup (aCons (eC (.int 3)) (aCons (eC (.int 2)) aNil))), ("team", eTup (aCons (eVar 1) (aCons (eVar 1) aNil))), ("missing", eC (.int 1)), ("chances", eTup (aCons (eTup (aCons (eC (.int 0)) (aCons (eTup (aCons (eC (.int 1)) (aCons (eC (.int 1)) aNil))) (aCons (eC (.int 1)) aNil)))) (aCons (eTup (aCons (eC (.int 1)) (aCons (eTup (aCons (eC (.int 1)) (aCons (eC (.int 1)) aNil))) (aCons (eC (.int 999)) aNil)))) aNil)))] (pps_cons pe_str (ie_tup (ia_cons ie_int (ia_cons ie_int ia_nil))) (pps_cons pe_str (ie_tup (ia_cons (ie_var 1) (ia_cons (ie_var 1) ia_nil))) (pps_cons pe_str ie_int (pps_cons pe_str (ie_tup (ia_cons (ie_tup (ia_cons ie_int (ia_cons (ie_tup (ia_cons ie_int (ia_cons ie_int ia_nil))) (ia_cons ie_int ia_nil)))) (ia_cons (ie_tup (ia_cons ie_int (ia_cons (ie_tup (ia_cons ie_int (ia_cons ie_int ia_nil))) (ia_cons ie_int ia_nil)))) ia_nil))) (pps_nil)))))))
    (is_one (is_ret (ie_if (it_sin cx (ie_var 0) (ie_var 2)) (ie_sget cx (ie_var 2) (ie_var 0)) (ie_if (it_sin cx (ie_var 0) (ie_var 3)) (ie_sget cx (ie_var 3) (ie_var 0)) (ie_sget cx (ie_var 4) (ie_var 0))))))))))

theorem sc__law_bad_one : FnScope ["_law_h", "_law_name", "_law_kind", "_law_bad", "_law_one"] ["_law_h", "_law_name", "_law_kind"] (defScope (topS 117)) := ⟨rfl, rfl, rfl, by decide +kernel, rfl, by decide +kernel, by decide +kernel⟩
theorem ok__law_bad_one (T : Txt K mg) : GF P w K mg base "_law_bad_one" 9 3 f__law_bad_one := by
  obtain ⟨fd, F⟩ := T.d__law_bad_one
  have G_Plan___init__ := ok_Plan___init__ (P := P) (w := w) (base := base) T
  have G__law_good_one := ok__law_good_one (P := P) (w := w) (base := base) T
  have G__law_next := ok__law_next (P := P) (w := w) (base := base) T
  refine gf_mk F T.g__law_bad_one sc__law_bad_one 2 rfl (fun _ _ _ _ _ _ us hl => match us, hl with | [_, _, _], _ => rfl) fun cdv hcv A outer s H E cx => ?_
  exact is_cons (is_set (i := 3) cx (ie_lst (ia_cons ie_non (ia_cons ie_bl (ia_cons ie_str (ia_cons (ie_neg ie_int) (ia_cons (ie_tup (ia_cons ie_int ia_nil)) (ia_cons (ie_lst (ia_cons ie_int (ia_cons ie_int ia_nil))) ia_nil))))))))
    (is_cons (is_if (it_eq cx (ie_var 1) ie_str) (is_one (is_set (i := 3) cx (ie_add (ie_var 3) (ie_lst (ia_cons ie_int (ia_cons ie_int ia_nil)))))) is_nil)
    (is_cons (is_if (it_eq cx (ie_var 1) ie_str) (is_one (is_set (i := 3) cx (ie_add (ie_var 3) (ie_lst (ia_cons ie_int (ia_cons ie_int ia_nil)))))) is_nil)
    (is_cons (is_if (it_eq cx (ie_var 1) ie_str) (is_cons (is_set (i := 4) cx (ie_tup (ia_cons ie_int (ia_cons (ie_tup (ia_cons ie_int (ia_cons ie_int ia_nil))) ia_nil))))
    (is_cons (is_set (i := 3) cx (ie_lst (ia_cons ie_non (ia_cons (ie_lst ia_nil) (ia_cons (ie_mulT (ie_tup (ia_cons (ie_var 4) ia_nil)) ie_int) (ia_cons (ie_tup (ia_cons (ie_var 4) (ia_cons (ie_tup (ia_cons ie_int (ia_cons (ie_tup (ia_cons ie_int (ia_cons ie_int ia_nil))) ia_nil))) ia_nil))) (ia_cons (ie_tup (ia_cons (ie_var 4) (ia_cons (ie_tup (ia_cons ie_int (ia_cons (ie_tup (ia_cons ie_int (ia_cons ie_int ia_nil))) ia_nil))) ia_nil))) (ia_cons (ie_tup (ia_cons (ie_var 4) (ia_cons ie_non ia_nil))) (ia_cons ie_int ia_nil)))))))))
    (is_cons (is_set (i := 3) cx (ie_add (ie_var 3) (ie_lst (ia_cons (ie_tup (ia_cons (ie_var 4) (ia_cons (ie_tup (ia_cons ie_int (ia_cons (ie_tup (ia_cons (ie_add (ie_pow ie_int ie_int) ie_int) (ia_cons ie_int ia_nil))) ia_nil))) ia_nil))) (ia_cons (ie_tup (ia_cons (ie_var 4) (ia_cons (ie_tup (ia_cons ie_bl (ia_cons (ie_tup (ia_cons ie_int (ia_cons ie_int ia_nil))) ia_nil))) ia_nil))) (ia_cons (ie_tup (ia_cons (ie_var 4) (ia_cons (ie_tup (ia_cons ie_int (ia_cons (ie_tup (ia_cons ie_int (ia_cons ie_int ia_nil))) ia_nil))) ia_nil))) ia_nil))))))
    (is_one (is_set (i := 3) cx (ie_add (ie_var 3) (ie_lst (ia_cons (ie_tup (ia_cons (ie_var 4) (ia_cons (ie_var 4) (ia_cons ie_non (ia_cons (ie_tup (ia_cons ie_int (ia_cons (ie_tup (ia_cons ie_int (ia_cons ie_int ia_nil))) ia_nil))) ia_nil))))) (ia_cons (ie_tup (ia_cons ie_non (ia_cons (ie_var 4) (ia_cons ie_int ia_nil)))) (ia_cons (ie_add (ie_mulT (ie_tup (ia_cons (ie_var 4) ia_nil)) ie_int) (ie_tup (ia_cons (ie_tup (ia_cons ie_int (ia_cons (ie_tup (ia_cons ie_int (ia_cons ie_int ia_nil))) ia_nil))) ia_nil))) ia_nil)))))))))) is_nil)
    (is_cons (is_if (it_eq cx (ie_var 1) ie_str) (is_one (is_set (i := 3) cx (ie_lst (ia_cons ie_non (ia_cons (ie_tup (ia_cons ie_int (ia_cons (ie_tup ia_nil) (ia_cons (ie_tup (ia_cons ie_int (ia_cons ie_int ia_nil))) ia_nil)))) (ia_cons ie_int (ia_cons ie_str ia_nil))))))) is_nil)
    (is_cons (is_if (it_eq cx (ie_var 1) ie_str) (is_one (is_set (i := 3) cx (ie_lst (ia_cons ie_non (ia_cons ie_bl (ia_cons ie_str (ia_cons (ie_neg ie_int) (ia_cons ie_int (ia_cons (ie_tup (ia_cons ie_int ia_nil)) ia_nil))))))))) is_nil)
    (is_cons (is_if (it_in cx (ie_var 1) (ie_lst (ia_cons ie_str (ia_cons ie_str (ia_cons ie_str (ia_cons ie_str (ia_cons ie_str (ia_cons ie_str (ia_cons ie_str ia_nil))))))))) (is_one (is_set (i := 3) cx (ie_add (ie_var 3) (ie_lst (ia_cons (ie_tup (ia_cons ie_int (ia_cons ie_int ia_nil))) (ia_cons (ie_tup (ia_cons (ie_neg ie_int) (ia_cons ie_int ia_nil))) (ia_cons (ie_tup (ia_cons ie_int (ia_cons ie_int ia_nil))) (ia_cons (ie_tup (ia_cons ie_bl (ia_cons ie_int ia_nil))) ia_nil)))))))) is_nil)
    (is_cons (is_if (it_in cx (ie_var 1) (ie_lst (ia_cons ie_str (ia_cons ie_str ia_nil)))) (is_one (is_set (i := 3) cx (ie_add (ie_var 3) (ie_lst (ia_cons (ie_tup (ia_cons ie_int (ia_cons ie_int ia_nil))) (ia_cons (ie_tup (ia_cons (ie_add (ie_pow ie_int ie_int) ie_int) (ia_cons ie_int ia_nil))) ia_nil)))))) is_nil)
    (is_cons (is_if (it_in cx (ie_var 1) (ie_lst (ia_cons ie_str (ia_cons ie_str ia_nil)))) (is_one (is_set (i := 3) cx (ie_add (ie_var 3) (ie_lst (ia_cons (ie_tup (ia_cons ie_int (ia_cons ie_int ia_nil))) (ia_cons (ie_tup (ia_cons ie_int (ia_cons ie_int ia_nil))) (ia_cons (ie_tup (ia_cons ie_int (ia_cons ie_int ia_nil))) ia_nil))))))) is_nil)
    (is_cons (is_if (it_eq cx (ie_var 1) ie_str) (is_one (is_set (i := 3) cx (ie_add (ie_add (ie_var 3) (ie_lst (ia_cons (ie_tup (ia_cons ie_int (ia_cons ie_int ia_nil))) (ia_cons (ie_tup (ia_cons ie_int (ia_cons ie_int ia_nil))) ia_nil)))) (ie_mulL (ie_lst (ia_cons (ie_tup (ia_cons ie_int (ia_cons ie_int ia_nil))) (ia_cons (ie_tup (ia_cons ie_int (ia_cons ie_int ia_nil))) ia_nil))) ie_int)))) is_nil)
    (is_cons (is_if (it_eq cx (ie_var 1) ie_str) (is_one (is_set (i := 3) cx (ie_add (ie_var 3) (ie_lst (ia_cons (ie_tup (ia_cons ie_int (ia_cons ie_int ia_nil))) (ia_cons (ie_tup (ia_cons ie_int (ia_cons ie_int ia_nil))) (ia_cons (ie_tup (ia_cons ie_int (ia_cons ie_int ia_nil))) ia_nil))))))) is_nil)
    (is_cons (is_if (it_eq cx (ie_var 1) ie_str) (is_one (is_expr (ie_append (ie_var 3) (ia_cons (ie_tup (ia_cons (ie_add (ie_pow ie_int ie_int) ie_int) (ia_cons ie_int ia_nil))) ia_nil)))) is_nil)
    (is_cons (is_if (it_eq cx (ie_var 1) ie_str) (is_one (is_set (i := 3) cx (ie_add (ie_var 3) (ie_lst (ia_cons ie_int ia_nil))))) is_nil)
    (is_cons (is_if (it_eq cx (ie_var 1) ie_str) (is_one (is_set (i := 3) cx (ie_add (ie_add (ie_var 3) (ie_lst (ia_cons (ie_tup (ia_cons ie_int (ia_cons ie_int ia_nil))) (ia_cons (ie_tup (ia_cons ie_int (ia_cons ie_int ia_nil))) ia_nil)))) (ie_mulL (ie_lst (ia_cons (ie_tup (ia_cons ie_int (ia_cons ie_int ia_nil))) (ia_cons (ie_tup (ia_cons ie_int (ia_cons ie_int ia_nil))) ia_nil))) ie_int)))) is_nil)
    (is_cons (is_if (it_eq cx (ie_var 1) ie_str) (is_cons (is_set (i := 3) cx (ie_lst (ia_cons ie_non (ia_cons (ie_tup ia_nil) (ia_cons (ie_lst (ia_cons (ie_callG cx G__law_good_one (ia_cons ie_str ia_nil)) ia_nil)) (ia_cons (ie_tup (ia_cons ie_non ia_nil)) (ia_cons ie_int ia_nil)))))))
    (is_cons (is_set (i := 3) cx (ie_add (ie_var 3) (ie_mulL (ie_lst (ia_cons (ie_tup (ia_cons (ie_callG cx G__law_good_one (ia_cons ie_str ia_nil)) (ia_cons (ie_makeG cx T.mk_Plan T.o_Plan.gC G_Plan___init__ (ia_cons ie_int (ia_cons (ie_tup ia_nil) (ia_cons (ie_tup (ia_cons ie_int (ia_cons ie_int ia_nil))) ia_nil)))) ia_nil))) ia_nil)) ie_int)))
    (is_one (is_expr (ie_append (ie_var 3) (ia_cons (ie_mulT (ie_tup (ia_cons (ie_callG cx G__law_good_one (ia_cons ie_str ia_nil)) ia_nil)) ie_int) ia_nil)))))) is_nil)
    (is_cons (is_if (it_eq cx (ie_var 1) ie_str) (is_one (is_set (i := 3) cx (ie_add (ie_var 3) (ie_lst (ia_cons ie_int (ia_cons ie_int ia_nil)))))) is_nil)
    (is_cons (is_if (it_eq cx (ie_var 1) ie_str) (is_cons (is_set (i := 3) cx (ie_lst (ia_cons ie_non (ia_cons (ie_tup ia_nil) (ia_cons (ie_lst (ia_cons (ie_tup (ia_cons ie_int (ia_cons (ie_tup (ia_cons ie_int (ia_cons ie_int ia_nil))) (ia_cons ie_int ia_nil)))) ia_nil)) (ia_cons (ie_tup (ia_cons (ie_tup (ia_cons ie_int (ia_cons (ie_tup (ia_cons ie_int (ia_cons ie_int ia_nil))) (ia_cons ie_int ia_nil)))) (ia_cons (ie_tup (ia_cons ie_int (ia_cons (ie_tup (ia_cons ie_int (ia_cons ie_int ia_nil))) (ia_cons ie_int ia_nil)))) ia_nil))) (ia_cons (ie_tup (ia_cons (ie_tup (ia_cons ie_int (ia_cons (ie_tup (ia_cons ie_int (ia_cons ie_int ia_nil))) (ia_cons ie_int ia_nil)))) ia_nil)) (ia_cons (ie_tup (ia_cons (ie_tup (ia_cons ie_int (ia_cons (ie_tup (ia_cons ie_int (ia_cons ie_int ia_nil))) (ia_cons ie_int ia_nil)))) ia_nil)) (ia_cons ie_int ia_nil)))))))))
    (is_one (is_set (i := 3) cx (ie_add (ie_var 3) (ie_lst (ia_cons (ie_tup (ia_cons (ie_tup (ia_cons ie_int (ia_cons (ie_tup (ia_cons ie_int (ia_cons ie_int ia_nil))) (ia_cons ie_int ia_nil)))) ia_nil)) (ia_cons (ie_tup (ia_cons (ie_tup (ia_cons ie_int (ia_cons (ie_tup (ia_cons ie_int (ia_cons ie_int ia_nil))) (ia_cons ie_int ia_nil)))) ia_nil)) (ia_cons (ie_tup (ia_cons (ie_tup (ia_cons ie_int (ia_cons (ie_tup (ia_cons (ie_add (ie_pow ie_int ie_int) ie_int) (ia_cons ie_int ia_nil))) (ia_cons ie_int ia_nil)))) ia_nil)) (ia_cons (ie_tup (ia_cons (ie_tup (ia_cons ie_int (ia_cons (ie_tup (ia_cons ie_int (ia_cons ie_int ia_nil))) ia_nil))) ia_nil)) ia_nil))))))))) is_nil)
    (is_one (is_ret (ie_idx (ie_var 3) (ie_callG cx G__law_next (ia_cons (ie_var 0) (ia_cons (ie_len T.z_len (ia_cons (ie_var 3) ia_nil)) ia_nil))))))))))))))))))))))

theorem sc_law : FnScope ["_law_script", "_law_h", "_law_asked", "_law_kind", "_law_words", "_law_wrong", "_law_t", "_law_k", "_law_due", "_law_word"] ["_law_script"] (defScope (topS 118)) := ⟨rfl, rfl, rfl, by decide +kernel, rfl, by decide +kernel, by decide +kernel⟩
theorem ok_law (T : Txt K mg) {f : Addr} {fd : FuncData} (F : Fun K "law" "law" (topS 118) f fd) : FnOk P w K mg base (L2N.CX P w) 12 f fd ["_law_script"] (SpF K mg 1 f_law) := by
  have G__law_bad_one := ok__law_bad_one (P := P) (w := w) (base := base) T
  have G__law_good_one := ok__law_good_one (P := P) (w := w) (base := base) T
  have G__law_mix := ok__law_mix (P := P) (w := w) (base := base) T
  have G__law_next := ok__law_next (P := P) (w := w) (base := base) T
  have G__law_told := ok__law_told (P := P) (w := w) (base := base) T
  exact ok_of F sc_law 9 rfl fun cdv hcv A outer s H E cx => (is_cons (is_set (i := 1) cx (ie_callG cx G__law_mix (ia_cons (ie_var 0) (ia_cons ie_int ia_nil))))
    (is_cons (is_set (i := 2) cx (ie_lst (ia_cons (ie_lst (ia_cons ie_str (ia_cons ie_str (ia_cons ie_str ia_nil)))) (ia_cons (ie_lst (ia_cons ie_str (ia_cons ie_str (ia_cons ie_str ia_nil)))) (ia_cons (ie_lst (ia_cons ie_str (ia_cons ie_str ia_nil))) (ia_cons (ie_lst (ia_cons ie_str ia_nil)) (ia_cons (ie_lst (ia_cons ie_str ia_nil)) (ia_cons (ie_lst (ia_cons ie_str (ia_cons ie_str ia_nil))) ia_nil))))))))
    (is_cons (is_set (i := 2) cx (ie_add (ie_var 2) (ie_lst (ia_cons (ie_lst (ia_cons ie_str (ia_cons ie_str (ia_cons ie_str (ia_cons ie_str ia_nil))))) (ia_cons (ie_lst (ia_cons ie_str (ia_cons ie_str (ia_cons ie_str (ia_cons ie_str (ia_cons ie_str ia_nil)))))) (ia_cons (ie_lst (ia_cons ie_str ia_nil)) ia_nil))))))
    (is_cons (is_set (i := 2) cx (ie_add (ie_var 2) (ie_lst (ia_cons (ie_lst (ia_cons ie_str (ia_cons ie_str ia_nil))) (ia_cons (ie_lst (ia_cons ie_str (ia_cons ie_str (ia_cons ie_str (ia_cons ie_str ia_nil))))) (ia_cons (ie_lst (ia_cons ie_str (ia_cons ie_str ia_nil))) ia_nil))))))
    (is_cons (is_set (i := 2) cx (ie_add (ie_var 2) (ie_lst (ia_cons (ie_lst (ia_cons ie_str (ia_cons ie_str ia_nil))) (ia_cons (ie_lst (ia_cons ie_str (ia_cons ie_str ia_nil))) ia_nil)))))
    (is_cons (is_set (i := 3) cx (ie_idx (ie_lst (ia_cons ie_int (ia_cons ie_int (ia_cons ie_int (ia_cons ie_int (ia_cons ie_int (ia_cons ie_int (ia_cons ie_int (ia_cons ie_int (ia_cons ie_int (ia_cons ie_int (ia_cons ie_int (ia_cons ie_int (ia_cons ie_int (ia_cons ie_int (ia_cons ie_int (ia_cons ie_int (ia_cons ie_int (ia_cons ie_int ia_nil))))))))))))))))))) (ie_callG cx G__law_next (ia_cons (ie_var 1) (ia_cons ie_int ia_nil)))))
    (is_cons (is_set (i := 4) cx (ie_idx (ie_var 2) (ie_var 3)))
    (is_cons (is_set (i := 5) cx (ie_lc [("_law_word", 9)] cx (ii_seq (ie_var 4)) (blkOk_by (by rfl)) (fun _ _ _ _ _ cx => gw_name 9 cx.nd) (fun _ _ _ _ _ cx => it_none) (fun _ _ _ _ _ cx => ie_eq cx (ie_callG cx G__law_next (ia_cons (ie_var 1) (ia_cons ie_int ia_nil))) ie_int)))
    (is_cons (is_set (i := 6) cx (ie_lst ia_nil))
    (is_cons (is_for cx (ii_range1 T.z_range (ia_cons (ie_len T.z_len (ia_cons (ie_var 4) ia_nil)) ia_nil)) (ig_name 7 cx.nd) (is_one (is_expr (ie_append (ie_var 6) (ia_cons (ie_if (it_tru (ie_idx (ie_var 5) (ie_var 7))) (ie_callG cx G__law_bad_one (ia_cons (ie_var 1) (ia_cons (ie_idx (ie_var 4) (ie_var 7)) (ia_cons (ie_var 3) ia_nil)))) (ie_callG cx G__law_good_one (ia_cons (ie_idx (ie_var 4) (ie_var 7)) ia_nil))) ia_nil)))))
    (is_cons (is_set (i := 8) cx (ie_add (ie_lc [("_law_k", 7)] cx (ii_range1 T.z_range (ia_cons (ie_len T.z_len (ia_cons (ie_var 4) ia_nil)) ia_nil)) (blkOk_by (by rfl)) (fun _ _ _ _ _ cx => gw_name 7 cx.nd) (fun _ _ _ _ _ cx => pts_one (it_tru (ie_idx (ie_var 5) (ie_var 7)))) (fun _ _ _ _ _ cx => ie_idx (ie_var 4) (ie_var 7))) (ie_lst (ia_cons ie_str ia_nil))))
    (is_one (is_ret (ie_eq cx (ie_callG cx G__law_told (ia_cons (ie_var 3) (ia_cons (ie_var 6) (ia_cons (ie_callG cx G__law_next (ia_cons (ie_var 1) (ia_cons ie_int ia_nil))) ia_nil)))) (ie_idx (ie_var 8) ie_int)))))))))))))))

end
end WR

/-! the head: what the top leaves, by one run of the kernel -/
namespace WR
open PySem PySem.Spec PyProof.Rows L2
theorem meth2 {K : PySem.W.Frag} {c m : Str} (e : bMeth c m K = true) : PySem.W.findIn K (.ref (He.ga K c)) m = some (some (.ref (He.ma K (He.ga K c) m))) ∧ PySem.W.isFn K (.ref (He.ma K (He.ga K c) m)) = true := by
  obtain ⟨e1, e⟩ := He.ba e
  exact ⟨He.eqO_ok e1, (He.ba e).1⟩
def exF0 : List FrB := [bGlo "_wall",
  bGlo "is_integer",
  bGlo "is_from",
  bGlo "common",
  bGlo "ratio",
  bGlo "is_fraction",
  bGlo "plus",
  bGlo "minus",
  bGlo "times",
  bGlo "over",
  bGlo "is_less",
  bGlo "is_within",
  bGlo "least_of",
  bGlo "greatest_of",
  bGlo "is_reach",
  bGlo "is_turn",
  bGlo "check_roads",
  bGlo "check_cost",
  bGlo "check_plan",
  bGlo "check_road",
  bGlo "is_far",
  bGlo "check_far",
  bGlo "bases_of",
  bGlo "walked_by",
  bGlo "check_place",
  bGlo "walked",
  bGlo "share",
  bGlo "pieces_of",
  bGlo "pieces",
  bGlo "reach_of",
  bGlo "cover",
  bGlo "worst_of",
  bGlo "worst",
  bGlo "is_chance",
  bGlo "check_chances",
  bGlo "with_place",
  bGlo "rows_of",
  bGlo "weight_behind",
  bGlo "turn_costs",
  bGlo "totals_of",
  bGlo "least_walk",
  bGlo "best_plan",
  bGlo "check_many_roads",
  bGlo "check_ratio",
  bGlo "check_first",
  bGlo "power",
  bGlo "bound_of",
  bGlo "most_share",
  bGlo "best_ratio",
  bGlo "best_bound"]
def exF1 : List FrB := [bGlo "grown",
  bGlo "growing_walked",
  bGlo "check_team",
  bGlo "in_order",
  bGlo "team_time",
  bGlo "team_walked",
  bGlo "bases_behind",
  bGlo "lows_of",
  bGlo "share_at",
  bGlo "team_worst",
  bGlo "fraction_text",
  bGlo "write_plan",
  bGlo "check_share",
  bGlo "half_of",
  bGlo "reaches_to",
  bGlo "farthest_of",
  bGlo "farthest",
  bGlo "plan_within",
  bGlo "_law_mix",
  bGlo "_law_next",
  bGlo "_law_first",
  bGlo "_law_ask",
  bGlo "_law_turn_at",
  bGlo "_law_told",
  bGlo "_law_good_one",
  bGlo "_law_bad_one",
  bGlo "law",
  bInt "MOST_FAR_chances" 1000000,
  bInt "MOST_FAR_plans" 1000000000000000000000000000000,
  bInt "MOST_FIRST" 1,
  bInt "MOST_GROWING_ROADS" 5,
  bInt "MOST_PARTS" 1000,
  bInt "MOST_PLACES" 8,
  bInt "MOST_PLANS" 4,
  bInt "MOST_RATIO" 100,
  bInt "MOST_REACH" 1000000000000,
  bInt "MOST_ROADS" 5,
  bInt "MOST_SHARE" 100,
  bInt "MOST_TURNS" 60,
  bInt "MOST_WEIGHT" 999,
  bGlo "ONE",
  bTup "ONE" [.int 1, .int 1],
  bGlo "ZERO",
  bTup "ZERO" [.int 0, .int 1],
  bFree "int",
  bFree "isinstance",
  bFree "bool",
  bFree "abs",
  bFree "tuple",
  bFree "len"]
def exF2 : List FrB := [bFree "enumerate",
  bFree "zip",
  bFree "range",
  bFree "sum",
  bFree "reversed",
  bFree "str",
  bFree "list",
  bFree "max",
  bGlo "Plan",
  bOwn "Plan",
  bNoat "Plan" "held",
  bMk "Plan",
  bProp "Plan" "roads",
  bProp "Plan" "turns",
  bProp "Plan" "cost",
  bMeth "Plan" "__len__",
  bMeth "Plan" "__eq__",
  bNf "Plan",
  bGlo "Walk",
  bOwn "Walk",
  bNoat "Walk" "made",
  bMk "Walk",
  bProp "Walk" "plan",
  bMeth "Walk" "go",
  bMeth "Walk" "room",
  bMeth "Walk" "undo",
  bMeth "Walk" "copy",
  bMeth "Walk" "__len__",
  bGlo "BadTurns",
  bExn "BadTurns",
  bGlo "BadRoads",
  bExc "BadRoads",
  bGlo "BadCost",
  bExc "BadCost",
  bGlo "BadPlan",
  bExc "BadPlan",
  bGlo "BadRoad",
  bExc "BadRoad",
  bGlo "BadFar",
  bExc "BadFar",
  bGlo "BadFirst",
  bExc "BadFirst",
  bGlo "BadRatio",
  bExc "BadRatio",
  bGlo "BadMany",
  bExc "BadMany",
  bGlo "BadShare",
  bExc "BadShare",
  bGlo "BadPlans",
  bExc "BadPlans"]
def exF3 : List FrB := [bGlo "BadMissing",
  bExc "BadMissing",
  bGlo "BadChances",
  bExc "BadChances",
  bExcs exCs,
  bExis exCs,
  bXfl exCs exFl,
  bTwo ownCs]
def fnF0 : List He5.DefA := [dA (fun K => (He.ma K (He.ga K "BadTurns") "__init__")) "__init__" "BadTurns.__init__" (inClass (topS 4) 0),
  dA (fun K => (He.ga K "_wall")) "_wall" "_wall" (topS 0),
  dA (fun K => (He.ga K "is_integer")) "is_integer" "is_integer" (topS 20),
  dA (fun K => (He.ga K "is_from")) "is_from" "is_from" (topS 21),
  dA (fun K => (He.ga K "common")) "common" "common" (topS 22),
  dA (fun K => (He.ga K "ratio")) "ratio" "ratio" (topS 23),
  dA (fun K => (He.ga K "is_fraction")) "is_fraction" "is_fraction" (topS 24),
  dA (fun K => (He.ga K "plus")) "plus" "plus" (topS 25),
  dA (fun K => (He.ga K "minus")) "minus" "minus" (topS 26),
  dA (fun K => (He.ga K "times")) "times" "times" (topS 27),
  dA (fun K => (He.ga K "over")) "over" "over" (topS 28),
  dA (fun K => (He.ga K "is_less")) "is_less" "is_less" (topS 29),
  dA (fun K => (He.ga K "is_within")) "is_within" "is_within" (topS 30),
  dA (fun K => (He.ga K "least_of")) "least_of" "least_of" (topS 31),
  dA (fun K => (He.ga K "greatest_of")) "greatest_of" "greatest_of" (topS 32),
  dA (fun K => (He.ga K "is_reach")) "is_reach" "is_reach" (topS 38),
  dA (fun K => (He.ga K "is_turn")) "is_turn" "is_turn" (topS 39),
  dA (fun K => (He.ga K "check_roads")) "check_roads" "check_roads" (topS 40),
  dA (fun K => (He.ga K "check_cost")) "check_cost" "check_cost" (topS 41),
  dA (fun K => (He.ma K (He.ga K "Plan") "__init__")) "__init__" "Plan.__init__" (inClass (topS 42) 0),
  dA (fun K => (He5.wf K (He.ga K "Plan") "property" "roads")) "roads" "Plan.roads" (inClass (topS 42) 1),
  dA (fun K => (He5.wf K (He.ga K "Plan") "property" "turns")) "turns" "Plan.turns" (inClass (topS 42) 2),
  dA (fun K => (He5.wf K (He.ga K "Plan") "property" "cost")) "cost" "Plan.cost" (inClass (topS 42) 3),
  dA (fun K => (He.ma K (He.ga K "Plan") "__len__")) "__len__" "Plan.__len__" (inClass (topS 42) 4),
  dA (fun K => (He.ma K (He.ga K "Plan") "__eq__")) "__eq__" "Plan.__eq__" (inClass (topS 42) 5),
  dA (fun K => (He.ga K "check_plan")) "check_plan" "check_plan" (topS 43),
  dA (fun K => (He.ga K "check_road")) "check_road" "check_road" (topS 44),
  dA (fun K => (He.ga K "is_far")) "is_far" "is_far" (topS 45),
  dA (fun K => (He.ga K "check_far")) "check_far" "check_far" (topS 46),
  dA (fun K => (He.ga K "bases_of")) "bases_of" "bases_of" (topS 47),
  dA (fun K => (He.ga K "walked_by")) "walked_by" "walked_by" (topS 48),
  dA (fun K => (He.ga K "check_place")) "check_place" "check_place" (topS 49),
  dA (fun K => (He.ga K "walked")) "walked" "walked" (topS 50),
  dA (fun K => (He.ga K "share")) "share" "share" (topS 51)]
def fnF1 : List He5.DefA := [dA (fun K => (He.ga K "pieces_of")) "pieces_of" "pieces_of" (topS 52),
  dA (fun K => (He.ga K "pieces")) "pieces" "pieces" (topS 53),
  dA (fun K => (He.ga K "reach_of")) "reach_of" "reach_of" (topS 54),
  dA (fun K => (He.ga K "cover")) "cover" "cover" (topS 55),
  dA (fun K => (He.ga K "worst_of")) "worst_of" "worst_of" (topS 56),
  dA (fun K => (He.ga K "worst")) "worst" "worst" (topS 57),
  dA (fun K => (He.ga K "is_chance")) "is_chance" "is_chance" (topS 62),
  dA (fun K => (He.ga K "check_chances")) "check_chances" "check_chances" (topS 63),
  dA (fun K => (He.ga K "with_place")) "with_place" "with_place" (topS 64),
  dA (fun K => (He.ga K "rows_of")) "rows_of" "rows_of" (topS 65),
  dA (fun K => (He.ga K "weight_behind")) "weight_behind" "weight_behind" (topS 66),
  dA (fun K => (He.ga K "turn_costs")) "turn_costs" "turn_costs" (topS 67),
  dA (fun K => (He.ga K "totals_of")) "totals_of" "totals_of" (topS 68),
  dA (fun K => (He.ga K "least_walk")) "least_walk" "least_walk" (topS 69),
  dA (fun K => (He.ga K "best_plan")) "best_plan" "best_plan" (topS 70),
  dA (fun K => (He.ga K "check_many_roads")) "check_many_roads" "check_many_roads" (topS 75),
  dA (fun K => (He.ga K "check_ratio")) "check_ratio" "check_ratio" (topS 76),
  dA (fun K => (He.ga K "check_first")) "check_first" "check_first" (topS 77),
  dA (fun K => (He.ga K "power")) "power" "power" (topS 78),
  dA (fun K => (He.ga K "bound_of")) "bound_of" "bound_of" (topS 79),
  dA (fun K => (He.ga K "most_share")) "most_share" "most_share" (topS 80),
  dA (fun K => (He.ga K "best_ratio")) "best_ratio" "best_ratio" (topS 81),
  dA (fun K => (He.ga K "best_bound")) "best_bound" "best_bound" (topS 82),
  dA (fun K => (He.ga K "grown")) "grown" "grown" (topS 83),
  dA (fun K => (He.ga K "growing_walked")) "growing_walked" "growing_walked" (topS 84),
  dA (fun K => (He.ga K "check_team")) "check_team" "check_team" (topS 87),
  dA (fun K => (He.ga K "in_order")) "in_order" "in_order" (topS 88),
  dA (fun K => (He.ga K "team_time")) "team_time" "team_time" (topS 89),
  dA (fun K => (He.ga K "team_walked")) "team_walked" "team_walked" (topS 90),
  dA (fun K => (He.ga K "bases_behind")) "bases_behind" "bases_behind" (topS 91),
  dA (fun K => (He.ga K "lows_of")) "lows_of" "lows_of" (topS 92),
  dA (fun K => (He.ga K "share_at")) "share_at" "share_at" (topS 93),
  dA (fun K => (He.ga K "team_worst")) "team_worst" "team_worst" (topS 94),
  dA (fun K => (He.ga K "fraction_text")) "fraction_text" "fraction_text" (topS 96)]
def fnF2 : List He5.DefA := [dA (fun K => (He.ga K "write_plan")) "write_plan" "write_plan" (topS 97),
  dA (fun K => (He.ga K "check_share")) "check_share" "check_share" (topS 101),
  dA (fun K => (He.ga K "half_of")) "half_of" "half_of" (topS 102),
  dA (fun K => (He.ga K "reaches_to")) "reaches_to" "reaches_to" (topS 103),
  dA (fun K => (He.ga K "farthest_of")) "farthest_of" "farthest_of" (topS 104),
  dA (fun K => (He.ga K "farthest")) "farthest" "farthest" (topS 105),
  dA (fun K => (He.ga K "plan_within")) "plan_within" "plan_within" (topS 106),
  dA (fun K => (He.ma K (He.ga K "Walk") "__init__")) "__init__" "Walk.__init__" (inClass (topS 108) 0),
  dA (fun K => (He5.wf K (He.ga K "Walk") "property" "plan")) "plan" "Walk.plan" (inClass (topS 108) 1),
  dA (fun K => (He.ma K (He.ga K "Walk") "go")) "go" "Walk.go" (inClass (topS 108) 2),
  dA (fun K => (He.ma K (He.ga K "Walk") "room")) "room" "Walk.room" (inClass (topS 108) 3),
  dA (fun K => (He.ma K (He.ga K "Walk") "undo")) "undo" "Walk.undo" (inClass (topS 108) 4),
  dA (fun K => (He.ma K (He.ga K "Walk") "copy")) "copy" "Walk.copy" (inClass (topS 108) 5),
  dA (fun K => (He.ma K (He.ga K "Walk") "__len__")) "__len__" "Walk.__len__" (inClass (topS 108) 6),
  dA (fun K => (He.ga K "_law_mix")) "_law_mix" "_law_mix" (topS 110),
  dA (fun K => (He.ga K "_law_next")) "_law_next" "_law_next" (topS 111),
  dA (fun K => (He.ga K "_law_first")) "_law_first" "_law_first" (topS 112),
  dA (fun K => (He.ga K "_law_ask")) "_law_ask" "_law_ask" (topS 113),
  dA (fun K => (He.ga K "_law_turn_at")) "_law_turn_at" "_law_turn_at" (topS 114),
  dA (fun K => (He.ga K "_law_told")) "_law_told" "_law_told" (topS 115),
  dA (fun K => (He.ga K "_law_good_one")) "_law_good_one" "_law_good_one" (topS 116),
  dA (fun K => (He.ga K "_law_bad_one")) "_law_bad_one" "_law_bad_one" (topS 117),
  dA (fun K => (He.ga K "law")) "law" "law" (topS 118)]
def exF : List FrB := exF0 ++ exF1 ++ exF2 ++ exF3
def fnF : List He5.DefA := fnF0 ++ fnF1 ++ fnF2
def looseF : List Str := (["_wall", "RoadError", "BadRoads", "BadTurns", "BadCost", "BadPlan", "BadRoad", "BadFar", "BadFirst", "BadRatio", "BadMany", "TooFar", "BadShare", "BadPlans", "BadMissing", "BadChances"] : List Str) ++ (["ZERO", "ONE", "is_integer", "is_from", "common", "ratio", "is_fraction", "plus", "minus", "times", "over", "is_less", "is_within", "least_of", "greatest_of", "MOST_ROADS"] : List Str) ++ (["MOST_TURNS", "MOST_REACH", "MOST_FAR_plans", "is_reach", "is_turn", "check_roads", "check_cost", "Plan", "check_plan", "check_road", "is_far", "check_far", "bases_of", "walked_by", "check_place", "walked"] : List Str) ++ (["share", "pieces_of", "pieces", "reach_of", "cover", "worst_of", "worst", "MOST_PLACES", "MOST_FAR_chances", "MOST_WEIGHT", "is_chance", "check_chances", "with_place", "rows_of", "weight_behind", "turn_costs"] : List Str) ++ (["totals_of", "least_walk", "best_plan", "MOST_GROWING_ROADS", "MOST_RATIO", "MOST_FIRST", "check_many_roads", "check_ratio", "check_first", "power", "bound_of", "most_share", "best_ratio", "best_bound", "grown", "growing_walked"] : List Str) ++ (["MOST_PLANS", "check_team", "in_order", "team_time", "team_walked", "bases_behind", "lows_of", "share_at", "team_worst", "fraction_text", "write_plan", "MOST_SHARE", "MOST_PARTS", "check_share", "half_of", "reaches_to"] : List Str) ++ (["farthest_of", "farthest", "plan_within", "Walk", "_law_mix", "_law_next", "_law_first", "_law_ask", "_law_turn_at", "_law_told", "_law_good_one", "_law_bad_one"] : List Str)
theorem txt_of {K : PySem.W.Frag} {mg : Str → Option Value} {h : Heap} (X : K.In h) (G : h.Ns mainGlobals mg) (c : SaysW exF fnF K) : Txt K mg :=
  {
    d_BadTurns___init__ := c.fun_ 0
    d__wall := c.fun_ 1
    g__wall := He.glo_ok X G (c.fact (f := bGlo "_wall") (List.mem_of_getElem? (i := 0) rfl))
    d_is_integer := c.fun_ 2
    g_is_integer := He.glo_ok X G (c.fact (f := bGlo "is_integer") (List.mem_of_getElem? (i := 1) rfl))
    d_is_from := c.fun_ 3
    g_is_from := He.glo_ok X G (c.fact (f := bGlo "is_from") (List.mem_of_getElem? (i := 2) rfl))
    d_common := c.fun_ 4
    g_common := He.glo_ok X G (c.fact (f := bGlo "common") (List.mem_of_getElem? (i := 3) rfl))
    d_ratio := c.fun_ 5
    g_ratio := He.glo_ok X G (c.fact (f := bGlo "ratio") (List.mem_of_getElem? (i := 4) rfl))
    d_is_fraction := c.fun_ 6
    g_is_fraction := He.glo_ok X G (c.fact (f := bGlo "is_fraction") (List.mem_of_getElem? (i := 5) rfl))
    d_plus := c.fun_ 7
    g_plus := He.glo_ok X G (c.fact (f := bGlo "plus") (List.mem_of_getElem? (i := 6) rfl))
    d_minus := c.fun_ 8
    g_minus := He.glo_ok X G (c.fact (f := bGlo "minus") (List.mem_of_getElem? (i := 7) rfl))
    d_times := c.fun_ 9
    g_times := He.glo_ok X G (c.fact (f := bGlo "times") (List.mem_of_getElem? (i := 8) rfl))
    d_over := c.fun_ 10
    g_over := He.glo_ok X G (c.fact (f := bGlo "over") (List.mem_of_getElem? (i := 9) rfl))
    d_is_less := c.fun_ 11
    g_is_less := He.glo_ok X G (c.fact (f := bGlo "is_less") (List.mem_of_getElem? (i := 10) rfl))
    d_is_within := c.fun_ 12
    g_is_within := He.glo_ok X G (c.fact (f := bGlo "is_within") (List.mem_of_getElem? (i := 11) rfl))
    d_least_of := c.fun_ 13
    g_least_of := He.glo_ok X G (c.fact (f := bGlo "least_of") (List.mem_of_getElem? (i := 12) rfl))
    d_greatest_of := c.fun_ 14
    g_greatest_of := He.glo_ok X G (c.fact (f := bGlo "greatest_of") (List.mem_of_getElem? (i := 13) rfl))
    d_is_reach := c.fun_ 15
    g_is_reach := He.glo_ok X G (c.fact (f := bGlo "is_reach") (List.mem_of_getElem? (i := 14) rfl))
    d_is_turn := c.fun_ 16
    g_is_turn := He.glo_ok X G (c.fact (f := bGlo "is_turn") (List.mem_of_getElem? (i := 15) rfl))
    d_check_roads := c.fun_ 17
    g_check_roads := He.glo_ok X G (c.fact (f := bGlo "check_roads") (List.mem_of_getElem? (i := 16) rfl))
    d_check_cost := c.fun_ 18
    g_check_cost := He.glo_ok X G (c.fact (f := bGlo "check_cost") (List.mem_of_getElem? (i := 17) rfl))
    d_Plan___init__ := c.fun_ 19
    d_Plan_roads := c.fun_ 20
    d_Plan_turns := c.fun_ 21
    d_Plan_cost := c.fun_ 22
    d_Plan___len__ := c.fun_ 23
    d_Plan___eq__ := c.fun_ 24
    d_check_plan := c.fun_ 25
    g_check_plan := He.glo_ok X G (c.fact (f := bGlo "check_plan") (List.mem_of_getElem? (i := 18) rfl))
    d_check_road := c.fun_ 26
    g_check_road := He.glo_ok X G (c.fact (f := bGlo "check_road") (List.mem_of_getElem? (i := 19) rfl))
    d_is_far := c.fun_ 27
    g_is_far := He.glo_ok X G (c.fact (f := bGlo "is_far") (List.mem_of_getElem? (i := 20) rfl))
    d_check_far := c.fun_ 28
    g_check_far := He.glo_ok X G (c.fact (f := bGlo "check_far") (List.mem_of_getElem? (i := 21) rfl))
    d_bases_of := c.fun_ 29
    g_bases_of := He.glo_ok X G (c.fact (f := bGlo "bases_of") (List.mem_of_getElem? (i := 22) rfl))
    d_walked_by := c.fun_ 30
    g_walked_by := He.glo_ok X G (c.fact (f := bGlo "walked_by") (List.mem_of_getElem? (i := 23) rfl))
    d_check_place := c.fun_ 31
    g_check_place := He.glo_ok X G (c.fact (f := bGlo "check_place") (List.mem_of_getElem? (i := 24) rfl))
    d_walked := c.fun_ 32
    g_walked := He.glo_ok X G (c.fact (f := bGlo "walked") (List.mem_of_getElem? (i := 25) rfl))
    d_share := c.fun_ 33
    g_share := He.glo_ok X G (c.fact (f := bGlo "share") (List.mem_of_getElem? (i := 26) rfl))
    d_pieces_of := c.fun_ 34
    g_pieces_of := He.glo_ok X G (c.fact (f := bGlo "pieces_of") (List.mem_of_getElem? (i := 27) rfl))
    d_pieces := c.fun_ 35
    g_pieces := He.glo_ok X G (c.fact (f := bGlo "pieces") (List.mem_of_getElem? (i := 28) rfl))
    d_reach_of := c.fun_ 36
    g_reach_of := He.glo_ok X G (c.fact (f := bGlo "reach_of") (List.mem_of_getElem? (i := 29) rfl))
    d_cover := c.fun_ 37
    g_cover := He.glo_ok X G (c.fact (f := bGlo "cover") (List.mem_of_getElem? (i := 30) rfl))
    d_worst_of := c.fun_ 38
    g_worst_of := He.glo_ok X G (c.fact (f := bGlo "worst_of") (List.mem_of_getElem? (i := 31) rfl))
    d_worst := c.fun_ 39
    g_worst := He.glo_ok X G (c.fact (f := bGlo "worst") (List.mem_of_getElem? (i := 32) rfl))
    d_is_chance := c.fun_ 40
    g_is_chance := He.glo_ok X G (c.fact (f := bGlo "is_chance") (List.mem_of_getElem? (i := 33) rfl))
    d_check_chances := c.fun_ 41
    g_check_chances := He.glo_ok X G (c.fact (f := bGlo "check_chances") (List.mem_of_getElem? (i := 34) rfl))
    d_with_place := c.fun_ 42
    g_with_place := He.glo_ok X G (c.fact (f := bGlo "with_place") (List.mem_of_getElem? (i := 35) rfl))
    d_rows_of := c.fun_ 43
    g_rows_of := He.glo_ok X G (c.fact (f := bGlo "rows_of") (List.mem_of_getElem? (i := 36) rfl))
    d_weight_behind := c.fun_ 44
    g_weight_behind := He.glo_ok X G (c.fact (f := bGlo "weight_behind") (List.mem_of_getElem? (i := 37) rfl))
    d_turn_costs := c.fun_ 45
    g_turn_costs := He.glo_ok X G (c.fact (f := bGlo "turn_costs") (List.mem_of_getElem? (i := 38) rfl))
    d_totals_of := c.fun_ 46
    g_totals_of := He.glo_ok X G (c.fact (f := bGlo "totals_of") (List.mem_of_getElem? (i := 39) rfl))
    d_least_walk := c.fun_ 47
    g_least_walk := He.glo_ok X G (c.fact (f := bGlo "least_walk") (List.mem_of_getElem? (i := 40) rfl))
    d_best_plan := c.fun_ 48
    g_best_plan := He.glo_ok X G (c.fact (f := bGlo "best_plan") (List.mem_of_getElem? (i := 41) rfl))
    d_check_many_roads := c.fun_ 49
    g_check_many_roads := He.glo_ok X G (c.fact (f := bGlo "check_many_roads") (List.mem_of_getElem? (i := 42) rfl))
    d_check_ratio := c.fun_ 50
    g_check_ratio := He.glo_ok X G (c.fact (f := bGlo "check_ratio") (List.mem_of_getElem? (i := 43) rfl))
    d_check_first := c.fun_ 51
    g_check_first := He.glo_ok X G (c.fact (f := bGlo "check_first") (List.mem_of_getElem? (i := 44) rfl))
    d_power := c.fun_ 52
    g_power := He.glo_ok X G (c.fact (f := bGlo "power") (List.mem_of_getElem? (i := 45) rfl))
    d_bound_of := c.fun_ 53
    g_bound_of := He.glo_ok X G (c.fact (f := bGlo "bound_of") (List.mem_of_getElem? (i := 46) rfl))
    d_most_share := c.fun_ 54
    g_most_share := He.glo_ok X G (c.fact (f := bGlo "most_share") (List.mem_of_getElem? (i := 47) rfl))
    d_best_ratio := c.fun_ 55
    g_best_ratio := He.glo_ok X G (c.fact (f := bGlo "best_ratio") (List.mem_of_getElem? (i := 48) rfl))
    d_best_bound := c.fun_ 56
    g_best_bound := He.glo_ok X G (c.fact (f := bGlo "best_bound") (List.mem_of_getElem? (i := 49) rfl))
    d_grown := c.fun_ 57
    g_grown := He.glo_ok X G (c.fact (f := bGlo "grown") (List.mem_of_getElem? (i := 50) rfl))
    d_growing_walked := c.fun_ 58
    g_growing_walked := He.glo_ok X G (c.fact (f := bGlo "growing_walked") (List.mem_of_getElem? (i := 51) rfl))
    d_check_team := c.fun_ 59
    g_check_team := He.glo_ok X G (c.fact (f := bGlo "check_team") (List.mem_of_getElem? (i := 52) rfl))
    d_in_order := c.fun_ 60
    g_in_order := He.glo_ok X G (c.fact (f := bGlo "in_order") (List.mem_of_getElem? (i := 53) rfl))
    d_team_time := c.fun_ 61
    g_team_time := He.glo_ok X G (c.fact (f := bGlo "team_time") (List.mem_of_getElem? (i := 54) rfl))
    d_team_walked := c.fun_ 62
    g_team_walked := He.glo_ok X G (c.fact (f := bGlo "team_walked") (List.mem_of_getElem? (i := 55) rfl))
    d_bases_behind := c.fun_ 63
    g_bases_behind := He.glo_ok X G (c.fact (f := bGlo "bases_behind") (List.mem_of_getElem? (i := 56) rfl))
    d_lows_of := c.fun_ 64
    g_lows_of := He.glo_ok X G (c.fact (f := bGlo "lows_of") (List.mem_of_getElem? (i := 57) rfl))
    d_share_at := c.fun_ 65
    g_share_at := He.glo_ok X G (c.fact (f := bGlo "share_at") (List.mem_of_getElem? (i := 58) rfl))
    d_team_worst := c.fun_ 66
    g_team_worst := He.glo_ok X G (c.fact (f := bGlo "team_worst") (List.mem_of_getElem? (i := 59) rfl))
    d_fraction_text := c.fun_ 67
    g_fraction_text := He.glo_ok X G (c.fact (f := bGlo "fraction_text") (List.mem_of_getElem? (i := 60) rfl))
    d_write_plan := c.fun_ 68
    g_write_plan := He.glo_ok X G (c.fact (f := bGlo "write_plan") (List.mem_of_getElem? (i := 61) rfl))
    d_check_share := c.fun_ 69
    g_check_share := He.glo_ok X G (c.fact (f := bGlo "check_share") (List.mem_of_getElem? (i := 62) rfl))
    d_half_of := c.fun_ 70
    g_half_of := He.glo_ok X G (c.fact (f := bGlo "half_of") (List.mem_of_getElem? (i := 63) rfl))
    d_reaches_to := c.fun_ 71
    g_reaches_to := He.glo_ok X G (c.fact (f := bGlo "reaches_to") (List.mem_of_getElem? (i := 64) rfl))
    d_farthest_of := c.fun_ 72
    g_farthest_of := He.glo_ok X G (c.fact (f := bGlo "farthest_of") (List.mem_of_getElem? (i := 65) rfl))
    d_farthest := c.fun_ 73
    g_farthest := He.glo_ok X G (c.fact (f := bGlo "farthest") (List.mem_of_getElem? (i := 66) rfl))
    d_plan_within := c.fun_ 74
    g_plan_within := He.glo_ok X G (c.fact (f := bGlo "plan_within") (List.mem_of_getElem? (i := 67) rfl))
    d_Walk___init__ := c.fun_ 75
    d_Walk_plan := c.fun_ 76
    d_Walk_go := c.fun_ 77
    d_Walk_room := c.fun_ 78
    d_Walk_undo := c.fun_ 79
    d_Walk_copy := c.fun_ 80
    d_Walk___len__ := c.fun_ 81
    d__law_mix := c.fun_ 82
    g__law_mix := He.glo_ok X G (c.fact (f := bGlo "_law_mix") (List.mem_of_getElem? (i := 68) rfl))
    d__law_next := c.fun_ 83
    g__law_next := He.glo_ok X G (c.fact (f := bGlo "_law_next") (List.mem_of_getElem? (i := 69) rfl))
    d__law_first := c.fun_ 84
    g__law_first := He.glo_ok X G (c.fact (f := bGlo "_law_first") (List.mem_of_getElem? (i := 70) rfl))
    d__law_ask := c.fun_ 85
    g__law_ask := He.glo_ok X G (c.fact (f := bGlo "_law_ask") (List.mem_of_getElem? (i := 71) rfl))
    d__law_turn_at := c.fun_ 86
    g__law_turn_at := He.glo_ok X G (c.fact (f := bGlo "_law_turn_at") (List.mem_of_getElem? (i := 72) rfl))
    d__law_told := c.fun_ 87
    g__law_told := He.glo_ok X G (c.fact (f := bGlo "_law_told") (List.mem_of_getElem? (i := 73) rfl))
    d__law_good_one := c.fun_ 88
    g__law_good_one := He.glo_ok X G (c.fact (f := bGlo "_law_good_one") (List.mem_of_getElem? (i := 74) rfl))
    d__law_bad_one := c.fun_ 89
    g__law_bad_one := He.glo_ok X G (c.fact (f := bGlo "_law_bad_one") (List.mem_of_getElem? (i := 75) rfl))
    d_law := c.fun_ 90
    g_law := He.glo_ok X G (c.fact (f := bGlo "law") (List.mem_of_getElem? (i := 76) rfl))
    c_MOST_FAR_chances := He.int_ok X G (c.fact (f := bInt "MOST_FAR_chances" 1000000) (List.mem_of_getElem? (i := 77) rfl))
    c_MOST_FAR_plans := He.int_ok X G (c.fact (f := bInt "MOST_FAR_plans" 1000000000000000000000000000000) (List.mem_of_getElem? (i := 78) rfl))
    c_MOST_FIRST := He.int_ok X G (c.fact (f := bInt "MOST_FIRST" 1) (List.mem_of_getElem? (i := 79) rfl))
    c_MOST_GROWING_ROADS := He.int_ok X G (c.fact (f := bInt "MOST_GROWING_ROADS" 5) (List.mem_of_getElem? (i := 80) rfl))
    c_MOST_PARTS := He.int_ok X G (c.fact (f := bInt "MOST_PARTS" 1000) (List.mem_of_getElem? (i := 81) rfl))
    c_MOST_PLACES := He.int_ok X G (c.fact (f := bInt "MOST_PLACES" 8) (List.mem_of_getElem? (i := 82) rfl))
    c_MOST_PLANS := He.int_ok X G (c.fact (f := bInt "MOST_PLANS" 4) (List.mem_of_getElem? (i := 83) rfl))
    c_MOST_RATIO := He.int_ok X G (c.fact (f := bInt "MOST_RATIO" 100) (List.mem_of_getElem? (i := 84) rfl))
    c_MOST_REACH := He.int_ok X G (c.fact (f := bInt "MOST_REACH" 1000000000000) (List.mem_of_getElem? (i := 85) rfl))
    c_MOST_ROADS := He.int_ok X G (c.fact (f := bInt "MOST_ROADS" 5) (List.mem_of_getElem? (i := 86) rfl))
    c_MOST_SHARE := He.int_ok X G (c.fact (f := bInt "MOST_SHARE" 100) (List.mem_of_getElem? (i := 87) rfl))
    c_MOST_TURNS := He.int_ok X G (c.fact (f := bInt "MOST_TURNS" 60) (List.mem_of_getElem? (i := 88) rfl))
    c_MOST_WEIGHT := He.int_ok X G (c.fact (f := bInt "MOST_WEIGHT" 999) (List.mem_of_getElem? (i := 89) rfl))
    g_ONE := He.glo_ok X G (c.fact (f := bGlo "ONE") (List.mem_of_getElem? (i := 90) rfl))
    c_ONE := (bTup_ok (c.fact (f := bTup "ONE" [.int 1, .int 1]) (List.mem_of_getElem? (i := 91) rfl)))
    g_ZERO := He.glo_ok X G (c.fact (f := bGlo "ZERO") (List.mem_of_getElem? (i := 92) rfl))
    c_ZERO := (bTup_ok (c.fact (f := bTup "ZERO" [.int 0, .int 1]) (List.mem_of_getElem? (i := 93) rfl)))
    z_int := He.free_ok X G (c.fact (f := bFree "int") (List.mem_of_getElem? (i := 94) rfl))
    z_isinstance := He.free_ok X G (c.fact (f := bFree "isinstance") (List.mem_of_getElem? (i := 95) rfl))
    z_bool := He.free_ok X G (c.fact (f := bFree "bool") (List.mem_of_getElem? (i := 96) rfl))
    z_abs := He.free_ok X G (c.fact (f := bFree "abs") (List.mem_of_getElem? (i := 97) rfl))
    z_tuple := He.free_ok X G (c.fact (f := bFree "tuple") (List.mem_of_getElem? (i := 98) rfl))
    z_len := He.free_ok X G (c.fact (f := bFree "len") (List.mem_of_getElem? (i := 99) rfl))
    z_enumerate := He.free_ok X G (c.fact (f := bFree "enumerate") (List.mem_of_getElem? (i := 100) rfl))
    z_zip := He.free_ok X G (c.fact (f := bFree "zip") (List.mem_of_getElem? (i := 101) rfl))
    z_range := He.free_ok X G (c.fact (f := bFree "range") (List.mem_of_getElem? (i := 102) rfl))
    z_sum := He.free_ok X G (c.fact (f := bFree "sum") (List.mem_of_getElem? (i := 103) rfl))
    z_reversed := He.free_ok X G (c.fact (f := bFree "reversed") (List.mem_of_getElem? (i := 104) rfl))
    z_str := He.free_ok X G (c.fact (f := bFree "str") (List.mem_of_getElem? (i := 105) rfl))
    z_list := He.free_ok X G (c.fact (f := bFree "list") (List.mem_of_getElem? (i := 106) rfl))
    z_max := He.free_ok X G (c.fact (f := bFree "max") (List.mem_of_getElem? (i := 107) rfl))
    gc_Plan := (c.fact (f := bGlo "Plan") (List.mem_of_getElem? (i := 108) rfl))
    o_Plan := bOwn_ok X G (c.fact (f := bGlo "Plan") (List.mem_of_getElem? (i := 108) rfl)) (c.fact (f := bOwn "Plan") (List.mem_of_getElem? (i := 109) rfl))
    na_Plan_held := He.noat_ok (c.fact (f := bNoat "Plan" "held") (List.mem_of_getElem? (i := 110) rfl))
    mk_Plan := He.mkr_ok (c.fact (f := bMk "Plan") (List.mem_of_getElem? (i := 111) rfl))
    p_Plan_roads := bProp_ok (c.fact (f := bProp "Plan" "roads") (List.mem_of_getElem? (i := 112) rfl))
    p_Plan_turns := bProp_ok (c.fact (f := bProp "Plan" "turns") (List.mem_of_getElem? (i := 113) rfl))
    p_Plan_cost := bProp_ok (c.fact (f := bProp "Plan" "cost") (List.mem_of_getElem? (i := 114) rfl))
    ln_Plan := meth2 (c.fact (f := bMeth "Plan" "__len__") (List.mem_of_getElem? (i := 115) rfl))
    eq_Plan := meth2 (c.fact (f := bMeth "Plan" "__eq__") (List.mem_of_getElem? (i := 116) rfl))
    nf_Plan := (c.fact (f := bNf "Plan") (List.mem_of_getElem? (i := 117) rfl))
    gc_Walk := (c.fact (f := bGlo "Walk") (List.mem_of_getElem? (i := 118) rfl))
    o_Walk := bOwn_ok X G (c.fact (f := bGlo "Walk") (List.mem_of_getElem? (i := 118) rfl)) (c.fact (f := bOwn "Walk") (List.mem_of_getElem? (i := 119) rfl))
    na_Walk_made := He.noat_ok (c.fact (f := bNoat "Walk" "made") (List.mem_of_getElem? (i := 120) rfl))
    mk_Walk := He.mkr_ok (c.fact (f := bMk "Walk") (List.mem_of_getElem? (i := 121) rfl))
    p_Walk_plan := bProp_ok (c.fact (f := bProp "Walk" "plan") (List.mem_of_getElem? (i := 122) rfl))
    m_Walk_go := He.meth_ok (c.fact (f := bMeth "Walk" "go") (List.mem_of_getElem? (i := 123) rfl))
    m_Walk_room := He.meth_ok (c.fact (f := bMeth "Walk" "room") (List.mem_of_getElem? (i := 124) rfl))
    m_Walk_undo := He.meth_ok (c.fact (f := bMeth "Walk" "undo") (List.mem_of_getElem? (i := 125) rfl))
    m_Walk_copy := He.meth_ok (c.fact (f := bMeth "Walk" "copy") (List.mem_of_getElem? (i := 126) rfl))
    ln_Walk := meth2 (c.fact (f := bMeth "Walk" "__len__") (List.mem_of_getElem? (i := 127) rfl))
    gi_BadTurns := (c.fact (f := bGlo "BadTurns") (List.mem_of_getElem? (i := 128) rfl))
    xi_BadTurns := bExn_ok X G (c.fact (f := bGlo "BadTurns") (List.mem_of_getElem? (i := 128) rfl)) (c.fact (f := bExn "BadTurns") (List.mem_of_getElem? (i := 129) rfl))
    gx_BadRoads := (c.fact (f := bGlo "BadRoads") (List.mem_of_getElem? (i := 130) rfl))
    x_BadRoads := bExc_ok X G (c.fact (f := bGlo "BadRoads") (List.mem_of_getElem? (i := 130) rfl)) (c.fact (f := bExc "BadRoads") (List.mem_of_getElem? (i := 131) rfl))
    gx_BadCost := (c.fact (f := bGlo "BadCost") (List.mem_of_getElem? (i := 132) rfl))
    x_BadCost := bExc_ok X G (c.fact (f := bGlo "BadCost") (List.mem_of_getElem? (i := 132) rfl)) (c.fact (f := bExc "BadCost") (List.mem_of_getElem? (i := 133) rfl))
    gx_BadPlan := (c.fact (f := bGlo "BadPlan") (List.mem_of_getElem? (i := 134) rfl))
    x_BadPlan := bExc_ok X G (c.fact (f := bGlo "BadPlan") (List.mem_of_getElem? (i := 134) rfl)) (c.fact (f := bExc "BadPlan") (List.mem_of_getElem? (i := 135) rfl))
    gx_BadRoad := (c.fact (f := bGlo "BadRoad") (List.mem_of_getElem? (i := 136) rfl))
    x_BadRoad := bExc_ok X G (c.fact (f := bGlo "BadRoad") (List.mem_of_getElem? (i := 136) rfl)) (c.fact (f := bExc "BadRoad") (List.mem_of_getElem? (i := 137) rfl))
    gx_BadFar := (c.fact (f := bGlo "BadFar") (List.mem_of_getElem? (i := 138) rfl))
    x_BadFar := bExc_ok X G (c.fact (f := bGlo "BadFar") (List.mem_of_getElem? (i := 138) rfl)) (c.fact (f := bExc "BadFar") (List.mem_of_getElem? (i := 139) rfl))
    gx_BadFirst := (c.fact (f := bGlo "BadFirst") (List.mem_of_getElem? (i := 140) rfl))
    x_BadFirst := bExc_ok X G (c.fact (f := bGlo "BadFirst") (List.mem_of_getElem? (i := 140) rfl)) (c.fact (f := bExc "BadFirst") (List.mem_of_getElem? (i := 141) rfl))
    gx_BadRatio := (c.fact (f := bGlo "BadRatio") (List.mem_of_getElem? (i := 142) rfl))
    x_BadRatio := bExc_ok X G (c.fact (f := bGlo "BadRatio") (List.mem_of_getElem? (i := 142) rfl)) (c.fact (f := bExc "BadRatio") (List.mem_of_getElem? (i := 143) rfl))
    gx_BadMany := (c.fact (f := bGlo "BadMany") (List.mem_of_getElem? (i := 144) rfl))
    x_BadMany := bExc_ok X G (c.fact (f := bGlo "BadMany") (List.mem_of_getElem? (i := 144) rfl)) (c.fact (f := bExc "BadMany") (List.mem_of_getElem? (i := 145) rfl))
    gx_BadShare := (c.fact (f := bGlo "BadShare") (List.mem_of_getElem? (i := 146) rfl))
    x_BadShare := bExc_ok X G (c.fact (f := bGlo "BadShare") (List.mem_of_getElem? (i := 146) rfl)) (c.fact (f := bExc "BadShare") (List.mem_of_getElem? (i := 147) rfl))
    gx_BadPlans := (c.fact (f := bGlo "BadPlans") (List.mem_of_getElem? (i := 148) rfl))
    x_BadPlans := bExc_ok X G (c.fact (f := bGlo "BadPlans") (List.mem_of_getElem? (i := 148) rfl)) (c.fact (f := bExc "BadPlans") (List.mem_of_getElem? (i := 149) rfl))
    gx_BadMissing := (c.fact (f := bGlo "BadMissing") (List.mem_of_getElem? (i := 150) rfl))
    x_BadMissing := bExc_ok X G (c.fact (f := bGlo "BadMissing") (List.mem_of_getElem? (i := 150) rfl)) (c.fact (f := bExc "BadMissing") (List.mem_of_getElem? (i := 151) rfl))
    gx_BadChances := (c.fact (f := bGlo "BadChances") (List.mem_of_getElem? (i := 152) rfl))
    x_BadChances := bExc_ok X G (c.fact (f := bGlo "BadChances") (List.mem_of_getElem? (i := 152) rfl)) (c.fact (f := bExc "BadChances") (List.mem_of_getElem? (i := 153) rfl))
    exs := bExcs_ok X G (c.fact (f := bExcs exCs) (List.mem_of_getElem? (i := 154) rfl))
    exi := bExis_ok X G (c.fact (f := bExis exCs) (List.mem_of_getElem? (i := 155) rfl))
    xfl := bXfl_ok X G (c.fact (f := bXfl exCs exFl) (List.mem_of_getElem? (i := 156) rfl))
    os := bTwo_ok X G (fun d hd => by
      have h := mem_of_contains hd
      simp only [ownCs, List.mem_cons, List.not_mem_nil, or_false] at h
      rcases h with h | h
      · subst h; exact bOwn_ok X G (c.fact (f := bGlo "Plan") (List.mem_of_getElem? (i := 108) rfl)) (c.fact (f := bOwn "Plan") (List.mem_of_getElem? (i := 109) rfl))
      · subst h; exact bOwn_ok X G (c.fact (f := bGlo "Walk") (List.mem_of_getElem? (i := 118) rfl)) (c.fact (f := bOwn "Walk") (List.mem_of_getElem? (i := 119) rfl))) (c.fact (f := bTwo ownCs) (List.mem_of_getElem? (i := 157) rfl)) }
abbrev RW : PySem.W.OpenRow := PySem.W.OpenLaw.row PySem.Challenge.rw_whichroad_k10_questions_refused
abbrev hkF : PySem.W.Hook := hookW 6 exF fnF
def obF (s : PySem.W.SharedT) : He.AlD := obsW 6 exF fnF (HandSHeadRun.getT s)
theorem obF_eq (s : PySem.W.SharedT) : obF s = hkF.obs s.abs := obsW_eq (HandSHeadRun.getT_eq s)
theorem run_of {S A B D : Type} {o : Option S} {f : S → A} {g : S → B} {h : S → D} {a : A} {b : B} {d : D} (p : o.map f = some a) (q : o.map g = some b) (r : o.map h = some d) : o.map (fun s => (f s, g s, h s)) = some (a, b, d) := by
  cases o with
  | none => cases p
  | some s => cases p; cases q; cases r; rfl
abbrev frK (s : PySem.W.SharedT) : PySem.W.Frag := He.frG (HandSHeadRun.getT s) (asW (HandSHeadRun.getT s) 6)
theorem all_app {S A : Type} {o : Option S} {l m : List A} {p : S → A → Bool} (a : o.map (fun s => l.all (p s)) = some true) (b : o.map (fun s => m.all (p s)) = some true) : o.map (fun s => (l ++ m).all (p s)) = some true := by
  cases o with
  | none => cases a
  | some s => simp only [Option.map_some, Option.some.injEq] at a b ⊢; rw [List.all_append, a, b]; rfl
theorem map_app {S A B : Type} {o : Option S} {l m : List A} {f : S → A → B} {x y : List B} (a : o.map (fun s => l.map (f s)) = some x) (b : o.map (fun s => m.map (f s)) = some y) : o.map (fun s => (l ++ m).map (f s)) = some (x ++ y) := by
  cases o with
  | none => cases a
  | some s => simp only [Option.map_some, Option.some.injEq] at a b ⊢; rw [List.map_append, a, b]
theorem ob_of {o : Option PySem.W.SharedT} {w : World} (a : o.map (fun s => exF.all fun f => f (frK s)) = some true) (b : o.map (fun s => fnF.all fun d => d.ok (frK s)) = some true) (c : o.map (fun s => fnF.map fun d => He5.fnA (frK s) (d.at_ (frK s))) = some (fnF.map He5.DefA.val)) : o.map obF = some (hkF.val w) := by
  cases o with
  | none => cases a
  | some s =>
    simp only [Option.map_some, Option.some.injEq] at a b c ⊢
    have e : obF s = ((exF.all fun f => f (frK s)) && fnF.all fun d => d.ok (frK s), fnF.map fun d => He5.fnA (frK s) (d.at_ (frK s))) := rfl
    rw [e, a, b, c]; rfl
end WR
section
open PySem PySem.W PySem.Calls PyProof.Rows HandSHeadRun WR
theorem WR.run1 (w : World) (os : OsState) : (endF (stepQ (denQ tabQ) RW.prog w) 12000 RW.prog w os).map (fun s => looksF RW.prog (boot_heap w.params) s.abs) = some true := by
  kernel_rfl
theorem WR.run2 (w : World) (os : OsState) : (endF (stepQ (denQ tabQ) RW.prog w) 12000 RW.prog w os).map (fun s => seenQ (view RW.prog [118]) looseF (importedModules RW.prog.main.body) (fun s => xlAt (view RW.prog [118]) [] s && recOk RW.toRowW.records s) s.abs) = some (openGood (view RW.prog [118]) looseF) := by
  kernel_rfl
theorem WR.run_xe0 (w : World) (os : OsState) : (endF (stepQ (denQ tabQ) RW.prog w) 12000 RW.prog w os).map (fun s => exF0.all fun f => f (frK s)) = some true := by
  kernel_rfl
theorem WR.run_xe1 (w : World) (os : OsState) : (endF (stepQ (denQ tabQ) RW.prog w) 12000 RW.prog w os).map (fun s => exF1.all fun f => f (frK s)) = some true := by
  kernel_rfl
theorem WR.run_xe2 (w : World) (os : OsState) : (endF (stepQ (denQ tabQ) RW.prog w) 12000 RW.prog w os).map (fun s => exF2.all fun f => f (frK s)) = some true := by
  kernel_rfl
theorem WR.run_xe3 (w : World) (os : OsState) : (endF (stepQ (denQ tabQ) RW.prog w) 12000 RW.prog w os).map (fun s => exF3.all fun f => f (frK s)) = some true := by
  kernel_rfl
theorem WR.run_fa0 (w : World) (os : OsState) : (endF (stepQ (denQ tabQ) RW.prog w) 12000 RW.prog w os).map (fun s => fnF0.all fun d => d.ok (frK s)) = some true := by
  kernel_rfl
theorem WR.run_fa1 (w : World) (os : OsState) : (endF (stepQ (denQ tabQ) RW.prog w) 12000 RW.prog w os).map (fun s => fnF1.all fun d => d.ok (frK s)) = some true := by
  kernel_rfl
theorem WR.run_fa2 (w : World) (os : OsState) : (endF (stepQ (denQ tabQ) RW.prog w) 12000 RW.prog w os).map (fun s => fnF2.all fun d => d.ok (frK s)) = some true := by
  kernel_rfl
theorem WR.run_fm0 (w : World) (os : OsState) : (endF (stepQ (denQ tabQ) RW.prog w) 12000 RW.prog w os).map (fun s => fnF0.map fun d => He5.fnA (frK s) (d.at_ (frK s))) = some (fnF0.map He5.DefA.val) := by
  kernel_rfl
theorem WR.run_fm1 (w : World) (os : OsState) : (endF (stepQ (denQ tabQ) RW.prog w) 12000 RW.prog w os).map (fun s => fnF1.map fun d => He5.fnA (frK s) (d.at_ (frK s))) = some (fnF1.map He5.DefA.val) := by
  kernel_rfl
theorem WR.run_fm2 (w : World) (os : OsState) : (endF (stepQ (denQ tabQ) RW.prog w) 12000 RW.prog w os).map (fun s => fnF2.map fun d => He5.fnA (frK s) (d.at_ (frK s))) = some (fnF2.map He5.DefA.val) := by
  kernel_rfl
theorem WR.run3 (w : World) (os : OsState) : (endF (stepQ (denQ tabQ) RW.prog w) 12000 RW.prog w os).map obF = some (hkF.val w) := ob_of (all_app (all_app (all_app (run_xe0 w os) (run_xe1 w os)) (run_xe2 w os)) (run_xe3 w os)) (all_app (all_app (run_fa0 w os) (run_fa1 w os)) (run_fa2 w os)) ((map_app (map_app (run_fm0 w os) (run_fm1 w os)) (run_fm2 w os)).trans (congrArg some (by simp only [fnF, List.map_append])))
theorem WR.runF (w : World) : RunEq RW (view RW.prog [118]) hkF obF 12000 looseF w := fun os => run_of (run1 w os) (run2 w os) (run3 w os)
end

open PySem PySem.W PySem.Calls PyProof.Rows
set_option maxHeartbeats 0 in
theorem PySem.Challenge.cw_whichroad_k10_questions_refused_holds : PySem.Challenge.rw_whichroad_k10_questions_refused.Holds := by
  w_on; o_law
  refine HandSHeadRun.head_any (r := OpenLaw.row PySem.Challenge.rw_whichroad_k10_questions_refused) (q := view (OpenLaw.row PySem.Challenge.rw_whichroad_k10_questions_refused).prog [118]) (H := WR.hkF) (ob := WR.obF) (M := 12000) (loose := WR.looseF) (d := HandSHeadRun.topDef (OpenLaw.row PySem.Challenge.rw_whichroad_k10_questions_refused).prog 118) (kwd := []) WR.obF_eq
    (by kernel_rfl) (fun s => by kernel_rfl) WR.runF (by kernel_rfl) (by kernel_rfl) (by kernel_rfl) (by rfl) (by first | assumption | decide +kernel) (by decide +kernel) ⟨rfl, rfl, rfl, rfl, rfl, by decide +kernel⟩ ?hw ?hc
  case hw => w_witness2
  case hc =>
    refine WR.walk_W (l := PySem.Challenge.rw_whichroad_k10_questions_refused) (k := 12) (x := "_law_script") (F := WR.f_law) rfl (by kernel_rfl) ⟨rfl, by decide, by decide⟩ ?F WR.law_true
    intro w mg fa h Y G hmg0
    obtain ⟨K, KX, c⟩ := Y
    have T := WR.txt_of KX G c
    have hmg : mg ("law" : PySem.Str) = some (.ref fa) := by
      have e : (HandSHeadRun.topDef (OpenLaw.row PySem.Challenge.rw_whichroad_k10_questions_refused).prog 118).name = ("law" : PySem.Str) := by kernel_rfl
      rw [← e]
      exact hmg0
    obtain ⟨fd, F⟩ := T.d_law
    have e := hmg.symm.trans T.g_law
    cases e
    exact ⟨K, fd, KX, fun s v => WR.fun_bA (ps := ["_law_script"]) F (fun _ _ _ _ _ _ us hl => match us, hl with | [_], _ => rfl) s [v] rfl, fun base _ _ => WR.ok_law T F⟩


