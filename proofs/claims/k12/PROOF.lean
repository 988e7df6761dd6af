import PyProof.Rows.All
import Wide.All
import OpenK.AllK
import Wide.FinOn
import HandS.ForMost
import HandS.ForExc
import HandS.HeadHook1
import KE.KDictCopyH
import HandS.TupAny
import HandS.Deep
import HandS.RevRange
import HandS.Conv
import HandS.Defaults
import HandS.HeadHook2
import HandS.IsInst
import HandS.SortKw
import KE.SortData
import KE.DataMinMax
import HandS.SetFor
import HandS.SortInts
import HandS.Strs
import HandS.ExcInit
import HandS.ClsMeth
import HandS.More
import HandS.DictComp
import HandS.Rev
import PyProof.ListNew
import PyProof.ListRange
import HandS.RevTup
import HandS.ExcIs
import HandS.Finally
import KE.KExcIs
import HandS.ExcField
import PyProof.EqAt
import HandS.HotCalls
import PySem.Challenge.RW_blockwring_k12_refusals_stand_apart
import KE.KStateDown
import Lean
import HandS.Base
import HandS.Call
import HandS.Ends
import HandS.Words
import HandS.WordsExc
import HandS.Head0
import HandS.Head1
import HandS.Head2
import HandS.HeadEnd
section
set_option Elab.async false
set_option linter.all false
set_option autoImplicit false
set_option maxRecDepth 100000
set_option maxHeartbeats 2000000
/-! Lv: a store of mutable objects beside frozen data; readings that are functions of it. -/
namespace Lv
open PySem PySem.Spec PyProof.Rows L2

/-- a value: data that never changes any more, or a mutable object by its number -/
inductive Val where
  | d (p : PyData)
  | ref (i : Nat)
/-- which program, which world -/
abbrev PgW := Program × World
/-- a dict whose keys are None, numbers, texts -/
def dNo (z : PgW) (a : Addr) (vs : List (Leaf × V)) : HO := .ext fun h => vs.length ≤ sizeLine ∧ (a == sysModules) = false ∧ ∃ us, KV vs us ∧ h.DictOf (leafKind z.1 z.2) a us
/-- an exception that leaves: its class, its fields -/
structure Xn where
  cls : Str
  fs : Option (List (Str × Val))
/-- a mutable object; an exception that a suite holds -/
inductive Ob where
  | lst (xs : List Val)
  | tup (xs : List Val)
  | dic (kvs : List (Key × Val))
  | dicN (z : PgW) (kvs : List (Leaf × Val))
  | dicL (kvs : List (Key × Val))
  | ins (C : Addr) (fs : List (Str × Val))
  | exc (x : Xn)
abbrev Sto := List Ob
abbrev Ev := List (Option Val)

inductive Rz where
  | ok (x : Val)
  | er (e : Xn)
abbrev Out := Option (Rz × Sto)
/-- an expression -/
abbrev M := Ev → Sto → Out

/-! ### heaps -/
def Ex (H H' : Hp) : Prop := ∀ a o, H a = some o → H' a = some o
theorem Ex.refl (H : Hp) : Ex H H := fun _ _ h => h
theorem Ex.trans {H H1 H2 : Hp} (a : Ex H H1) (b : Ex H1 H2) : Ex H H2 := fun x o h => b x o (a x o h)
theorem Ex.rd {H H' : Hp} {a : Addr} {u : HO} (e : Ex H H') (h : Rd H a u) : Rd H' a u := by
  rcases h with h | ⟨o, h⟩
  · exact .inl (e a _ h)
  · exact .inr ⟨o, e a _ h⟩
theorem Ex.sl {K : PySem.W.Frag} {H H' : Hp} {a : Addr} {xs : List V} (e : Ex H H') (h : SqL K H a xs) : SqL K H' a xs := by
  rcases h with h | h
  · exact .inl (e.rd h)
  · exact .inr h
theorem Ex.st {K : PySem.W.Frag} {H H' : Hp} {a : Addr} {xs : List V} (e : Ex H H') (h : SqT K H a xs) : SqT K H' a xs := by
  rcases h with h | h
  · exact .inl (e.rd h)
  · exact .inr h
mutual
theorem dp_mono {K : PySem.W.Frag} {H H' : Hp} (e : Ex H H') : ∀ (p : PyData) (v : V), Dp K H v p → Dp K H' v p
  | .none, _, h => by cases h; exact .non
  | .bool b, _, h => by cases h; exact .bl b
  | .int i, _, h => by cases h; exact .int i
  | .str x, _, h => by cases h; exact .str x
  | .list ds, _, h => by
    cases h with
    | lst hs ha => exact .lst (e.sl hs) (dps_mono e ds _ ha)
  | .tuple ds, _, h => by
    cases h with
    | tup hs ha => exact .tup (e.st hs) (dps_mono e ds _ ha)
  | .dict _, _, h => by cases h
theorem dps_mono {K : PySem.W.Frag} {H H' : Hp} (e : Ex H H') : ∀ (ps : List PyData) (vs : List V), DpAll K H vs ps → DpAll K H' vs ps
  | [], _, h => by cases h; exact .nil
  | p :: ps, _, h => by
    cases h with
    | cons h1 h2 => exact .cons (dp_mono e p _ h1) (dps_mono e ps _ h2)
end

/-- where the mutable objects stand, by their numbers; what is hidden for a while -/
structure Rg where
  ids : List Addr
  hid : List Addr
def Rg.out (ρ : Rg) (a : Addr) : Prop := a ∈ ρ.ids ∨ a ∈ ρ.hid
instance (ρ : Rg) (a : Addr) : Decidable (ρ.out a) := by unfold Rg.out; infer_instance
def Rg.add (ρ : Rg) (p : Addr) : Rg := ⟨ρ.ids ++ [p], ρ.hid⟩
def Rg.cut (ρ : Rg) (n : Nat) : Rg := ⟨ρ.ids.take n, ρ.hid⟩
/-- the heap without the mutable objects -/
def frz (ρ : Rg) (H : Hp) : Hp := fun a => if ρ.out a then none else H a
theorem frz_ex (ρ : Rg) (H : Hp) : Ex (frz ρ H) H := fun a o h => by
  unfold frz at h
  split at h
  · cases h
  · exact h
theorem frz_at {ρ : Rg} {H : Hp} {a : Addr} (h : ¬ ρ.out a) : frz ρ H a = H a := by unfold frz; rw [if_neg h]
theorem frz_in {ρ : Rg} {H : Hp} {a : Addr} (h : ρ.out a) : frz ρ H a = none := by unfold frz; rw [if_pos h]
/-- a new frozen object -/
theorem frz_new {ρ : Rg} {H : Hp} {p : Addr} {o : HO} (h : H p = none) : Ex (frz ρ H) (frz ρ (upd H p o)) := fun a u e => by
  unfold frz at e ⊢
  split at e
  · cases e
  · rename_i hn
    rw [if_neg hn, upd_ne (ne_of_none e h)]
    exact e
/-- a new mutable object -/
theorem frz_add {ρ : Rg} {H : Hp} {p : Addr} {o : HO} (h : H p = none) : Ex (frz ρ H) (frz (ρ.add p) (upd H p o)) := fun a u e => by
  unfold frz at e ⊢
  split at e
  · cases e
  · rename_i hn
    have ne : a ≠ p := ne_of_none e h
    rw [if_neg (fun z => hn (z.elim (fun z => .inl (by simpa [Rg.add, ne] using z)) .inr)), upd_ne ne]
    exact e
/-- a mutable object is written -/
theorem frz_upd {ρ : Rg} {H : Hp} {p : Addr} {o : HO} (h : ρ.out p) : frz ρ (upd H p o) = frz ρ H := by
  funext a
  unfold frz
  by_cases ha : ρ.out a
  · rw [if_pos ha, if_pos ha]
  · rw [if_neg ha, if_neg ha, upd_ne (fun e => ha (by rw [e]; exact h))]
theorem frz_cut {ρ : Rg} {H : Hp} (n : Nat) : Ex (frz ρ H) (frz (ρ.cut n) H) := fun a u e => by
  unfold frz at e ⊢
  split at e
  · cases e
  · rename_i hn
    rw [if_neg (fun z => hn (z.elim (fun z => .inl (List.mem_of_mem_take z)) .inr))]
    exact e

/-! ### what a value, an object, a store stands for -/
def VR (K : PySem.W.Frag) (ρ : Rg) (H : Hp) (v : V) : Val → Prop
  | .d p => Dp K (frz ρ H) v p
  | .ref i => ∃ a, ρ.ids[i]? = some a ∧ v = .ref a
abbrev VRs (K : PySem.W.Frag) (ρ : Rg) (H : Hp) : List V → List Val → Prop := Paired (VR K ρ H)
def KR {κ : Type} (K : PySem.W.Frag) (ρ : Rg) (H : Hp) : List (κ × V) → List (κ × Val) → Prop := Paired fun p q => p.1 = q.1 ∧ VR K ρ H p.2 q.2
def XR (K : PySem.W.Frag) (ρ : Rg) (H : Hp) (c : Value) (d : Option Addr) (e : Xn) : Prop :=
  c = Value.ref (He.ga K e.cls) ∧ match e.fs with
    | none => d = none
    | some fs => ∃ a vs, d = some a ∧ frz ρ H a = some (.xd vs) ∧ KR K ρ H vs fs
def OR (K : PySem.W.Frag) (ρ : Rg) (H : Hp) (a : Addr) : Ob → Prop
  | .lst xs => ∃ vs, H a = some (.lst vs) ∧ VRs K ρ H vs xs
  | .tup xs => ∃ vs, H a = some (.tup vs) ∧ VRs K ρ H vs xs
  | .dic kvs => ∃ vs, H a = some (.dK vs) ∧ KR K ρ H vs kvs
  | .dicN z kvs => ∃ vs, H a = some (dNo z a vs) ∧ KR K ρ H vs kvs
  | .dicL kvs => ∃ o vs, H a = some (.frz o (.dK vs)) ∧ KR K ρ H vs kvs
  | .ins C fs => ∃ dx vs, H a = some (.ins C dx vs) ∧ KR K ρ H vs fs
  | .exc x => ∃ oe, H a = some (.frz oe (.ext fun _ => True)) ∧ (∃ vs, oe.data = .fields vs) ∧ XR K ρ H oe.cls oe.dict x
structure RS (K : PySem.W.Frag) (ρ : Rg) (S : Sto) (H : Hp) : Prop where
  len : ρ.ids.length = S.length
  nd : ρ.ids.Nodup
  hid : ∀ a ∈ ρ.hid, a ∉ ρ.ids ∧ ∃ u, H a = some u
  ob : ∀ (i : Nat) (a : Addr) (o : Ob), ρ.ids[i]? = some a → S[i]? = some o → OR K ρ H a o
def ER (K : PySem.W.Frag) (ρ : Rg) (H : Hp) (σ : L2.St) (e : Ev) : Prop :=
  σ.length = e.length ∧ ∀ (i : Nat) (x : Val), e[i]? = some (some x) → ∃ v, σ[i]? = some (some v) ∧ VR K ρ H v x
structure Le (ρ : Rg) (H : Hp) (ρ' : Rg) (H' : Hp) : Prop where
  pre : ρ.ids <+: ρ'.ids
  hid : ρ'.hid = ρ.hid
  ex : Ex (frz ρ H) (frz ρ' H')
  hk : ∀ a ∈ ρ.hid, H' a = H a
  fz : ∀ (a : Addr) (o : Obj) (u : HO), H a = some (.frz o u) → H' a = some (.frz o u)
theorem Le.refl (ρ : Rg) (H : Hp) : Le ρ H ρ H := ⟨List.prefix_refl _, rfl, Ex.refl _, fun _ _ => rfl, fun _ _ _ z => z⟩
theorem Le.trans {ρ ρ1 ρ2 : Rg} {H H1 H2 : Hp} (a : Le ρ H ρ1 H1) (b : Le ρ1 H1 ρ2 H2) : Le ρ H ρ2 H2 := ⟨a.pre.trans b.pre, b.hid.trans a.hid, a.ex.trans b.ex, fun x h => (b.hk x (by rw [a.hid]; exact h)).trans (a.hk x h), fun x o u z => b.fz x o u (a.fz x o u z)⟩
theorem pre_get {α : Type} {a b : List α} (h : a <+: b) {i : Nat} {x : α} (e : a[i]? = some x) : b[i]? = some x := by
  obtain ⟨t, rfl⟩ := h
  have hi : i < a.length := by
    rw [List.getElem?_eq_some_iff] at e
    exact e.1
  rw [List.getElem?_append_left hi]
  exact e
section
variable {K : PySem.W.Frag} {ρ ρ' : Rg} {H H' : Hp} {S : Sto} {σ : L2.St} {e : Ev}
theorem VR.mono (l : Le ρ H ρ' H') {v : V} : ∀ {x : Val}, VR K ρ H v x → VR K ρ' H' v x
  | .d p, h => dp_mono l.ex p v h
  | .ref i, ⟨a, h, z⟩ => ⟨a, pre_get l.pre h, z⟩
theorem VRs.mono (l : Le ρ H ρ' H') {vs : List V} {xs : List Val} (h : VRs K ρ H vs xs) : VRs K ρ' H' vs xs := Paired.mapP h fun _ _ q => VR.mono l q
theorem KR.mono {κ : Type} (l : Le ρ H ρ' H') {vs : List (κ × V)} {xs : List (κ × Val)} (h : KR K ρ H vs xs) : KR K ρ' H' vs xs := Paired.mapP h fun _ _ q => ⟨q.1, VR.mono l q.2⟩
theorem XR.ex (l : Ex (frz ρ H) (frz ρ' H')) (mono : ∀ (v : V) (x : Val), VR K ρ H v x → VR K ρ' H' v x) {c : Value} {d : Option Addr} {x : Xn} (h : XR K ρ H c d x) : XR K ρ' H' c d x := by
  obtain ⟨cls, fs⟩ := x
  refine ⟨h.1, ?_⟩
  cases fs with
  | none => exact h.2
  | some fs =>
    obtain ⟨a, vs, e, q, r⟩ := h.2
    exact ⟨a, vs, e, l _ _ q, Paired.mapP r fun _ _ z => ⟨z.1, mono _ _ z.2⟩⟩
theorem ER.mono (l : Le ρ H ρ' H') (h : ER K ρ H σ e) : ER K ρ' H' σ e := ⟨h.1, fun i x q => let ⟨v, a, b⟩ := h.2 i x q; ⟨v, a, VR.mono l b⟩⟩
theorem ER.set (h : ER K ρ H σ e) {v : V} {x : Val} (r : VR K ρ H v x) (i : Nat) : ER K ρ H (σ.set i (some v)) (e.set i (some x)) := by
  refine ⟨by rw [List.length_set, List.length_set]; exact h.1, fun j y q => ?_⟩
  by_cases hj : i = j
  · subst hj
    rw [List.getElem?_set] at q
    split at q
    · split at q
      · rename_i _ hi
        have q := Option.some.inj (Option.some.inj q)
        subst q
        exact ⟨v, by rw [List.getElem?_set_self (by rw [h.1]; exact hi)], r⟩
      · cases q
    · rename_i z
      exact absurd rfl z
  · rw [List.getElem?_set_ne hj] at q
    obtain ⟨w, a, b⟩ := h.2 j y q
    exact ⟨w, by rw [List.getElem?_set_ne hj]; exact a, b⟩
/-- slots forgotten -/
theorem ER.none (h : ER K ρ H σ e) (i : Nat) : ER K ρ H σ (e.set i none) := by
  refine ⟨by rw [List.length_set]; exact h.1, fun j y q => ?_⟩
  rw [List.getElem?_set] at q
  split at q
  · split at q
    · cases q
    · cases q
  · exact h.2 j y q
theorem OR.some {a : Addr} {o : Ob} (h : OR K ρ H a o) : ∃ u, H a = some u := by
  cases o with
  | lst xs => obtain ⟨_, q, _⟩ := h; exact ⟨_, q⟩
  | tup xs => obtain ⟨_, q, _⟩ := h; exact ⟨_, q⟩
  | dic xs => obtain ⟨_, q, _⟩ := h; exact ⟨_, q⟩
  | dicN z xs => obtain ⟨_, q, _⟩ := h; exact ⟨_, q⟩
  | dicL xs => obtain ⟨_, _, q, _⟩ := h; exact ⟨_, q⟩
  | ins C xs => obtain ⟨_, _, q, _⟩ := h; exact ⟨_, q⟩
  | exc x => obtain ⟨_, q, _⟩ := h; exact ⟨_, q⟩
theorem RS.there (R : RS K ρ S H) {a : Addr} (h : ρ.out a) : ∃ u, H a = some u := by
  rcases h with h | h
  · obtain ⟨i, hi⟩ := List.getElem?_of_mem h
    have hl : i < S.length := by
      rw [List.getElem?_eq_some_iff] at hi
      rw [← R.len]
      exact hi.1
    exact (R.ob i a _ hi (List.getElem?_eq_getElem hl)).some
  · exact (R.hid a h).2
theorem RS.fresh (R : RS K ρ S H) {p : Addr} (h : H p = Option.none) : ¬ ρ.out p := fun z => by
  obtain ⟨u, q⟩ := R.there z
  rw [h] at q
  cases q
/-- an object's description leans on nothing but its own place, where the values are kept -/
theorem OR.stay {a : Addr} {o : Ob} (l : Le ρ H ρ' H') (ha : H' a = H a) (h : OR K ρ H a o) : OR K ρ' H' a o := by
  cases o with
  | lst xs => obtain ⟨vs, q, r⟩ := h; exact ⟨vs, ha.trans q, VRs.mono l r⟩
  | tup xs => obtain ⟨vs, q, r⟩ := h; exact ⟨vs, ha.trans q, VRs.mono l r⟩
  | dic xs => obtain ⟨vs, q, r⟩ := h; exact ⟨vs, ha.trans q, KR.mono l r⟩
  | dicN z xs => obtain ⟨vs, q, r⟩ := h; exact ⟨vs, ha.trans q, KR.mono l r⟩
  | dicL xs => obtain ⟨u, vs, q, r⟩ := h; exact ⟨u, vs, ha.trans q, KR.mono l r⟩
  | ins C xs => obtain ⟨dx, vs, q, r⟩ := h; exact ⟨dx, vs, ha.trans q, KR.mono l r⟩
  | exc x => obtain ⟨oe, q, z, r⟩ := h; exact ⟨oe, ha.trans q, z, XR.ex l.ex (fun _ _ q => VR.mono l q) r⟩
/-- a frozen object is new -/
theorem RS.frozen (R : RS K ρ S H) {p : Addr} {o : HO} (h : H p = Option.none) : RS K ρ S (upd H p o) ∧ Le ρ H ρ (upd H p o) := by
  have l : Le ρ H ρ (upd H p o) := ⟨List.prefix_refl _, rfl, frz_new h, fun a ha => upd_ne fun z => R.fresh h (.inr (z ▸ ha)), fun a o u z => (upd_ne (ne_of_none z h)).trans z⟩
  refine ⟨⟨R.len, R.nd, fun a ha => ⟨(R.hid a ha).1, by rw [l.hk a ha]; exact (R.hid a ha).2⟩, fun i a u e1 e2 => ?_⟩, l⟩
  have ha : a ≠ p := fun z => R.fresh h (.inl (z ▸ List.mem_of_getElem? e1))
  exact (R.ob i a u e1 e2).stay l (upd_ne ha)
theorem RS.addLe (R : RS K ρ S H) {p : Addr} {o : HO} (h : H p = Option.none) : Le ρ H (ρ.add p) (upd H p o) :=
  ⟨List.prefix_append ρ.ids [p], rfl, frz_add h, fun a ha => upd_ne fun z => R.fresh h (.inr (z ▸ ha)), fun a o u z => (upd_ne (ne_of_none z h)).trans z⟩
theorem RS.addIx (R : RS K ρ S H) {p : Addr} : (ρ.add p).ids[S.length]? = Option.some p := by
  show (ρ.ids ++ [p])[S.length]? = Option.some p
  rw [← R.len]
  simp
/-- a mutable object is new -/
theorem RS.add (R : RS K ρ S H) {p : Addr} {o : HO} {u : Ob} (h : H p = Option.none) (w : OR K (ρ.add p) (upd H p o) p u) : RS K (ρ.add p) (S ++ [u]) (upd H p o) ∧ Le ρ H (ρ.add p) (upd H p o) := by
  have np := R.fresh h
  have l : Le ρ H (ρ.add p) (upd H p o) := R.addLe h
  refine ⟨⟨by simp [Rg.add, R.len], ?_, fun a ha => ⟨fun z => ?_, by rw [l.hk a ha]; exact (R.hid a ha).2⟩, fun i a v e1 e2 => ?_⟩, l⟩
  · show (ρ.ids ++ [p]).Nodup
    rw [List.nodup_append]
    refine ⟨R.nd, by simp, fun a ha b hb => ?_⟩
    have : b = p := by simpa using hb
    subst this
    exact fun z => np (.inl (z ▸ ha))
  · rcases List.mem_append.mp (show a ∈ ρ.ids ++ [p] from z) with z | z
    · exact (R.hid a ha).1 z
    · have : a = p := by simpa using z
      exact np (.inr (this ▸ ha))
  · have e1 : (ρ.ids ++ [p])[i]? = Option.some a := e1
    by_cases hi : i < ρ.ids.length
    · rw [List.getElem?_append_left hi] at e1
      rw [List.getElem?_append_left (by rw [← R.len]; exact hi)] at e2
      have ha : a ≠ p := fun z => np (.inl (z ▸ List.mem_of_getElem? e1))
      exact (R.ob i a v e1 e2).stay l (upd_ne ha)
    · have hi' : i = ρ.ids.length := by
        rw [List.getElem?_eq_some_iff] at e1
        have := e1.1
        simp at this
        omega
      subst hi'
      rw [List.getElem?_append_right (Nat.le_refl _)] at e1
      rw [R.len, List.getElem?_append_right (Nat.le_refl _)] at e2
      simp at e1 e2
      subst e1 e2
      exact w
theorem Le.put (R : RS K ρ S H) {i : Nat} {a : Addr} {o : HO} (hi : ρ.ids[i]? = Option.some a) (hz : ∀ o u, H a ≠ Option.some (.frz o u)) : Le ρ H ρ (upd H a o) :=
  ⟨List.prefix_refl _, rfl, by rw [frz_upd (.inl (List.mem_of_getElem? hi))]; exact Ex.refl _, fun b hb => upd_ne fun z => (R.hid b hb).1 (z ▸ List.mem_of_getElem? hi), fun b o u z => (upd_ne fun q : b = a => hz o u (q ▸ z)).trans z⟩
/-- a mutable object is written -/
theorem RS.put (R : RS K ρ S H) {i : Nat} {a : Addr} {o : HO} {u : Ob} (hi : ρ.ids[i]? = Option.some a) (hz : ∀ o u, H a ≠ Option.some (.frz o u)) (w : OR K ρ (upd H a o) a u) : RS K ρ (S.set i u) (upd H a o) ∧ Le ρ H ρ (upd H a o) := by
  have ha : a ∈ ρ.ids := List.mem_of_getElem? hi
  have l : Le ρ H ρ (upd H a o) := Le.put R hi hz
  refine ⟨⟨by rw [List.length_set]; exact R.len, R.nd, fun b hb => ⟨(R.hid b hb).1, by rw [l.hk b hb]; exact (R.hid b hb).2⟩, fun j b v e1 e2 => ?_⟩, l⟩
  by_cases hj : i = j
  · subst hj
    rw [hi] at e1
    cases e1
    rw [List.getElem?_set] at e2
    split at e2
    · split at e2
      · cases e2
        exact w
      · cases e2
    · rename_i z
      exact absurd rfl z
  · rw [List.getElem?_set_ne hj] at e2
    have hb : b ≠ a := fun z => by
      subst z
      obtain ⟨h1, q1⟩ := List.getElem?_eq_some_iff.mp hi
      obtain ⟨h2, q2⟩ := List.getElem?_eq_some_iff.mp e1
      exact hj ((List.getElem_inj R.nd).mp (q1.trans q2.symm))
    exact (R.ob j b v e1 e2).stay l (upd_ne hb)
/-- a list is hidden for a while -/
def Rg.hide (ρ : Rg) (p : Addr) : Rg := ⟨ρ.ids, p :: ρ.hid⟩
theorem RS.hide (R : RS K ρ S H) {p : Addr} {o : HO} (h : H p = Option.none) : RS K (ρ.hide p) S (upd H p o) ∧ Ex (frz ρ H) (frz (ρ.hide p) (upd H p o)) := by
  have np := R.fresh h
  have l : Ex (frz ρ H) (frz (ρ.hide p) (upd H p o)) := fun a u e => by
    unfold frz at e ⊢
    split at e
    · cases e
    · rename_i hn
      have ne : a ≠ p := ne_of_none e h
      rw [if_neg (fun z => hn (z.elim .inl fun z => .inr (by simpa [Rg.hide, ne] using z))), upd_ne ne]
      exact e
  have mono : ∀ {v : V} {x : Val}, VR K ρ H v x → VR K (ρ.hide p) (upd H p o) v x := fun {v x} r => by
    cases x with
    | d q => exact dp_mono l q v r
    | ref i => exact r
  refine ⟨⟨R.len, R.nd, fun a ha => ?_, fun i a u e1 e2 => ?_⟩, l⟩
  · rcases List.mem_cons.mp (show a ∈ p :: ρ.hid from ha) with z | z
    · subst z
      exact ⟨fun z => np (.inl z), o, upd_same⟩
    · exact ⟨(R.hid a z).1, by rw [upd_ne (fun q : a = p => np (.inr (q ▸ z)))]; exact (R.hid a z).2⟩
  · have ha : a ≠ p := fun z => np (.inl (z ▸ List.mem_of_getElem? (show ρ.ids[i]? = Option.some a from e1)))
    have q := R.ob i a u e1 e2
    cases u with
    | lst xs => obtain ⟨vs, q, r⟩ := q; exact ⟨vs, (upd_ne ha).trans q, Paired.mapP r fun _ _ z => mono z⟩
    | tup xs => obtain ⟨vs, q, r⟩ := q; exact ⟨vs, (upd_ne ha).trans q, Paired.mapP r fun _ _ z => mono z⟩
    | dic xs => obtain ⟨vs, q, r⟩ := q; exact ⟨vs, (upd_ne ha).trans q, Paired.mapP r fun _ _ z => ⟨z.1, mono z.2⟩⟩
    | dicN z xs => obtain ⟨vs, q, r⟩ := q; exact ⟨vs, (upd_ne ha).trans q, Paired.mapP r fun _ _ z => ⟨z.1, mono z.2⟩⟩
    | dicL xs => obtain ⟨w, vs, q, r⟩ := q; exact ⟨w, vs, (upd_ne ha).trans q, Paired.mapP r fun _ _ z => ⟨z.1, mono z.2⟩⟩
    | ins C xs => obtain ⟨dx, vs, q, r⟩ := q; exact ⟨dx, vs, (upd_ne ha).trans q, Paired.mapP r fun _ _ z => ⟨z.1, mono z.2⟩⟩
    | exc x => obtain ⟨oe, q, z, r⟩ := q; exact ⟨oe, (upd_ne ha).trans q, z, XR.ex l (fun _ _ q => mono q) r⟩
/-- the hidden list is written -/
theorem RS.hput (R : RS K ρ S H) {p : Addr} {o : HO} (h : p ∈ ρ.hid) : RS K ρ S (upd H p o) ∧ frz ρ (upd H p o) = frz ρ H := by
  have e : frz ρ (upd H p o) = frz ρ H := frz_upd (.inr h)
  have mono : ∀ {v : V} {x : Val}, VR K ρ H v x → VR K ρ (upd H p o) v x := fun {v x} r => by
    cases x with
    | d q =>
      show Dp K (frz ρ (upd H p o)) v q
      rw [e]
      exact r
    | ref i => exact r
  refine ⟨⟨R.len, R.nd, fun a ha => ⟨(R.hid a ha).1, ?_⟩, fun i a u e1 e2 => ?_⟩, e⟩
  · by_cases z : a = p
    · subst z
      exact ⟨o, upd_same⟩
    · rw [upd_ne z]
      exact (R.hid a ha).2
  · have ha : a ≠ p := fun z => (R.hid p h).1 (z ▸ List.mem_of_getElem? e1)
    have q := R.ob i a u e1 e2
    cases u with
    | lst xs => obtain ⟨vs, q, r⟩ := q; exact ⟨vs, (upd_ne ha).trans q, Paired.mapP r fun _ _ z => mono z⟩
    | tup xs => obtain ⟨vs, q, r⟩ := q; exact ⟨vs, (upd_ne ha).trans q, Paired.mapP r fun _ _ z => mono z⟩
    | dic xs => obtain ⟨vs, q, r⟩ := q; exact ⟨vs, (upd_ne ha).trans q, Paired.mapP r fun _ _ z => ⟨z.1, mono z.2⟩⟩
    | dicN z xs => obtain ⟨vs, q, r⟩ := q; exact ⟨vs, (upd_ne ha).trans q, Paired.mapP r fun _ _ z => ⟨z.1, mono z.2⟩⟩
    | dicL xs => obtain ⟨w, vs, q, r⟩ := q; exact ⟨w, vs, (upd_ne ha).trans q, Paired.mapP r fun _ _ z => ⟨z.1, mono z.2⟩⟩
    | ins C xs => obtain ⟨dx, vs, q, r⟩ := q; exact ⟨dx, vs, (upd_ne ha).trans q, Paired.mapP r fun _ _ z => ⟨z.1, mono z.2⟩⟩
    | exc x => obtain ⟨oe, q, z, r⟩ := q; exact ⟨oe, (upd_ne ha).trans q, z, XR.ex (by rw [e]; exact Ex.refl _) (fun _ _ q => mono q) r⟩
/-- the hidden list is shown again: it is frozen from now on -/
theorem RS.show_ {ids : List Addr} {hid : List Addr} {p : Addr} (R : RS K ⟨ids, p :: hid⟩ S H) (hp : p ∉ hid) : RS K ⟨ids, hid⟩ S H ∧ Ex (frz ⟨ids, p :: hid⟩ H) (frz ⟨ids, hid⟩ H) ∧ frz ⟨ids, hid⟩ H p = H p := by
  have l : Ex (frz ⟨ids, p :: hid⟩ H) (frz ⟨ids, hid⟩ H) := fun a u e => by
    unfold frz at e ⊢
    split at e
    · cases e
    · rename_i hn
      rw [if_neg (fun z => hn (z.elim .inl fun z => .inr (List.mem_cons_of_mem _ z)))]
      exact e
  have mono : ∀ {v : V} {x : Val}, VR K ⟨ids, p :: hid⟩ H v x → VR K ⟨ids, hid⟩ H v x := fun {v x} r => by
    cases x with
    | d q => exact dp_mono l q v r
    | ref i => exact r
  refine ⟨⟨R.len, R.nd, fun a ha => R.hid a (List.mem_cons_of_mem _ ha), fun i a u e1 e2 => ?_⟩, l, frz_at fun z => ?_⟩
  · have q := R.ob i a u e1 e2
    cases u with
    | lst xs => obtain ⟨vs, q, r⟩ := q; exact ⟨vs, q, Paired.mapP r fun _ _ z => mono z⟩
    | tup xs => obtain ⟨vs, q, r⟩ := q; exact ⟨vs, q, Paired.mapP r fun _ _ z => mono z⟩
    | dic xs => obtain ⟨vs, q, r⟩ := q; exact ⟨vs, q, Paired.mapP r fun _ _ z => ⟨z.1, mono z.2⟩⟩
    | dicN z xs => obtain ⟨vs, q, r⟩ := q; exact ⟨vs, q, Paired.mapP r fun _ _ z => ⟨z.1, mono z.2⟩⟩
    | dicL xs => obtain ⟨w, vs, q, r⟩ := q; exact ⟨w, vs, q, Paired.mapP r fun _ _ z => ⟨z.1, mono z.2⟩⟩
    | ins C xs => obtain ⟨dx, vs, q, r⟩ := q; exact ⟨dx, vs, q, Paired.mapP r fun _ _ z => ⟨z.1, mono z.2⟩⟩
    | exc x => obtain ⟨oe, q, z, r⟩ := q; exact ⟨oe, q, z, XR.ex l (fun _ _ q => mono q) r⟩
  · rcases z with z | z
    · exact (R.hid p List.mem_cons_self).1 z
    · exact hp z
end

/-! ### readings -/
/-- what is wanted of an outcome -/
def Pn (K : PySem.W.Frag) (W : WX) (σ : L2.St) (o : Out) (ρ : Rg) (H : Hp) (Q : VK) : Prop :=
  ∃ r S', o = some (r, S') ∧ match r with
    | .ok x => ∀ v H' ρ', RS K ρ' S' H' → Le ρ H ρ' H' → VR K ρ' H' v x → Q v H'
    | .er e => ∀ c d H' ρ', RS K ρ' S' H' → Le ρ H ρ' H' → XR K ρ' H' c d e → W c d σ H'
def rE (K : PySem.W.Frag) (W : WX) (m : M) : TE := fun σ H Q => ∃ e S ρ, RS K ρ S H ∧ ER K ρ H σ e ∧ Pn K W σ (m e S) ρ H Q
def bnd (m : M) (k : Val → M) : M := fun e S => match m e S with
  | none => none
  | some (.er x, S1) => some (.er x, S1)
  | some (.ok x, S1) => k x e S1
section
variable {K : PySem.W.Frag} {W : WX} {ρ ρ' ρ1 : Rg} {H H' H1 : Hp} {S S1 : Sto} {σ : L2.St} {e : Ev} {Q : VK} {o : Out}
theorem Pn.le (l : Le ρ H ρ1 H1) (h : Pn K W σ o ρ H Q) : Pn K W σ o ρ1 H1 Q := by
  obtain ⟨r, S', eq, q⟩ := h
  refine ⟨r, S', eq, ?_⟩
  cases r with
  | ok x => exact fun v H' ρ' a b c => q v H' ρ' a (l.trans b) c
  | er x => exact fun c d H' ρ' a b z => q c d H' ρ' a (l.trans b) z
theorem Pn.ok {x : Val} {S' : Sto} {v : V} (h : Pn K W σ (some (.ok x, S')) ρ H Q) (R : RS K ρ' S' H') (l : Le ρ H ρ' H') (r : VR K ρ' H' v x) : Q v H' := by
  obtain ⟨r', S2, eq, q⟩ := h
  cases eq
  exact q v H' ρ' R l r
/-- the first part, then the rest -/
theorem rE_bnd {m : M} {k : Val → M} {T : VK} (R : RS K ρ S H) (E : ER K ρ H σ e) (h : Pn K W σ (bnd m k e S) ρ H Q)
    (hk : ∀ v H1 x S1 ρ1, RS K ρ1 S1 H1 → ER K ρ1 H1 σ e → Le ρ H ρ1 H1 → VR K ρ1 H1 v x → Pn K W σ (k x e S1) ρ1 H1 Q → T v H1) : rE K W m σ H T := by
  refine ⟨e, S, ρ, R, E, ?_⟩
  unfold bnd at h
  cases hm : m e S with
  | none =>
    rw [hm] at h
    obtain ⟨_, _, z, _⟩ := h
    cases z
  | some p =>
    obtain ⟨r, S1⟩ := p
    rw [hm] at h
    refine ⟨r, S1, rfl, ?_⟩
    cases r with
    | ok x => exact fun v H' ρ' a b c => hk v H' x S1 ρ' a (E.mono b) b c (h.le b)
    | er x =>
      obtain ⟨r', S2, eq, q⟩ := h
      cases eq
      exact q
end
/-- an expression's rule -/
structure PX (X : Cx) (W : WX) (e : Expr) (m : M) : Prop where
  pe : PE X e (rE X.K W m)
theorem PE.imp {X : Cx} {e : Expr} {t t' : TE} (h : PE X e t) (i : ∀ σ H Q, t' σ H Q → t σ H Q) : PE X e t' := ⟨fun pins s σ H Q I q => h.run pins s σ H Q I (i σ H Q q)⟩
theorem PE.or {X : Cx} {e : Expr} {t t' : TE} (h : PE X e t) (h' : PE X e t') : PE X e (fun σ H Q => t σ H Q ∨ t' σ H Q) := ⟨fun pins s σ H Q I q => q.elim (h.run pins s σ H Q I) (h'.run pins s σ H Q I)⟩
theorem PX.of {X : Cx} {W : WX} {e : Expr} {t : TE} {m : M} (h : PE X e t) (i : ∀ σ H Q ev S ρ, RS X.K ρ S H → ER X.K ρ H σ ev → Pn X.K W σ (m ev S) ρ H Q → t σ H Q) : PX X W e m :=
  ⟨PE.imp h fun σ H Q ⟨ev, S, ρ, R, E, p⟩ => i σ H Q ev S ρ R E p⟩

/-! ### names, constants -/
def mVar (i : Nat) : M := fun e S => match e[i]? with
  | some (some x) => some (.ok x, S)
  | _ => none
def mC (p : PyData) : M := fun _ S => some (.ok (.d p), S)
def mInt (i : Int) : M := mC (.int i)
def mStr (x : Str) : M := mC (.str x)
def mBool (b : Bool) : M := mC (.bool b)
def mNone : M := mC .none
section
variable {X : Cx} {W : WX}
theorem px_var (i : Nat) {x : Str} {pos : Pos} (hN : X.N[i]? = some x := by rfl) (hv : Vis X.env.scope x := by first | exact Or.inl rfl | exact Or.inr (Or.inl rfl) | exact Or.inr (Or.inr rfl)) (hd : (x == ("__debug__" : Str)) = false := by decide)
    (hcd : (x == ("__classdict__" : Str)) = false := by decide) : PX X W (.Name x pos) (mVar i) := by
  refine PX.of (pe_var hN hv hd hcd) fun σ H Q ev S ρ R E p => ?_
  unfold mVar at p
  obtain ⟨r, S', eq, q⟩ := p
  split at eq
  · rename_i y hy
    cases eq
    obtain ⟨v, a, b⟩ := E.2 i y hy
    exact ⟨v, a, q v H ρ R (Le.refl ρ H) b⟩
  · cases eq
theorem px_int {i j pos} : PX X W (.Constant (.int i) j pos) (mInt i) := PX.of pe_int fun σ H Q ev S ρ R E p => p.ok R (Le.refl ρ H) (.int i)
theorem px_bl {b j pos} : PX X W (.Constant (.bool b) j pos) (mBool b) := PX.of pe_bl fun σ H Q ev S ρ R E p => p.ok R (Le.refl ρ H) (.bl b)
theorem px_non {j pos} : PX X W (.Constant .none j pos) mNone := PX.of pe_non fun σ H Q ev S ρ R E p => p.ok R (Le.refl ρ H) .non
theorem px_str {x j pos} : PX X W (.Constant (.str x) j pos) (mStr x) := PX.of pe_str fun σ H Q ev S ρ R E p => p.ok R (Le.refl ρ H) (.str x)
end
end Lv
end
section
set_option Elab.async false
set_option linter.all false
set_option autoImplicit false
set_option maxRecDepth 100000
set_option maxHeartbeats 2000000
namespace Lv
open PySem PySem.Spec PyProof.Rows L2

/-! ### what is read off the store -/
def toD : Val → Option PyData
  | .d p => some p
  | .ref _ => none
def toDs : List Val → Option (List PyData)
  | [] => some []
  | x :: r => match toD x, toDs r with
    | some p, some ps => some (p :: ps)
    | _, _ => none
/-- the items of a list, all data -/
def lstD (S : Sto) : Val → Option (List PyData)
  | .d (.list ps) => some ps
  | .ref i => match S[i]? with
    | some (.lst xs) => toDs xs
    | _ => none
  | _ => none
/-- all or none -/
def mapO {α β : Type} (f : α → Option β) : List α → Option (List β)
  | [] => some []
  | x :: r => match f x, mapO f r with
    | some p, some ps => some (p :: ps)
    | _, _ => none
/-- all of it as data -/
def deepN : Nat → Sto → Val → Option PyData
  | 0, _, x => toD x
  | n + 1, S, x => match x with
    | .d p => some p
    | .ref i => match S[i]? with
      | some (.lst xs) => (mapO (deepN n S) xs).map .list
      | some (.tup xs) => (mapO (deepN n S) xs).map .tuple
      | _ => none
abbrev deep : Sto → Val → Option PyData := deepN 6

section
variable {K : PySem.W.Frag} {ρ : Rg} {H : Hp} {S : Sto}
theorem vr_int {v : V} {i : Int} (h : VR K ρ H v (.d (.int i))) : v = .int i := by cases h; rfl
theorem vr_str {v : V} {z : Str} (h : VR K ρ H v (.d (.str z))) : v = .str z := by cases h; rfl
theorem vr_bl {v : V} {b : Bool} (h : VR K ρ H v (.d (.bool b))) : v = .bl b := by cases h; rfl
theorem vr_non {v : V} (h : VR K ρ H v (.d .none)) : v = .non := by cases h; rfl
theorem vr_list {v : V} {ps : List PyData} (h : VR K ρ H v (.d (.list ps))) : ∃ a vs, v = .ref a ∧ SqL K H a vs ∧ DpAll K (frz ρ H) vs ps := by
  cases h with
  | lst hs ha => exact ⟨_, _, rfl, (frz_ex ρ H).sl hs, ha⟩
theorem vr_tuple {v : V} {ps : List PyData} (h : VR K ρ H v (.d (.tuple ps))) : ∃ a vs, v = .ref a ∧ SqT K H a vs ∧ DpAll K (frz ρ H) vs ps := by
  cases h with
  | tup hs ha => exact ⟨_, _, rfl, (frz_ex ρ H).st hs, ha⟩
theorem toDs_vrs : ∀ {xs : List Val} {ps : List PyData} {vs : List V}, toDs xs = some ps → VRs K ρ H vs xs → DpAll K (frz ρ H) vs ps
  | [], ps, vs, h, r => by
    cases h
    cases r
    exact .nil
  | x :: xs, ps, vs, h, r => by
    unfold toDs at h
    cases r with
    | cons r1 r2 =>
      cases x with
      | ref i => cases h
      | d p =>
        simp only [toD] at h
        split at h
        · rename_i p' ps' h1 h2
          cases h
          cases h1
          exact .cons r1 (toDs_vrs h2 r2)
        · cases h
theorem lstD_ok (R : RS K ρ S H) {v : V} {x : Val} {ps : List PyData} (r : VR K ρ H v x) (h : lstD S x = some ps) : ∃ a vs, v = .ref a ∧ SqL K H a vs ∧ DpAll K (frz ρ H) vs ps := by
  cases x with
  | d p =>
    cases p with
    | list ps' =>
      cases h
      exact vr_list r
    | _ => cases h
  | ref i =>
    obtain ⟨a, hi, rfl⟩ := r
    simp only [lstD] at h
    split at h
    · rename_i xs hS
      obtain ⟨vs, hv, q⟩ := R.ob i a _ hi hS
      exact ⟨a, vs, rfl, SqL.of hv, toDs_vrs h q⟩
    · cases h
theorem dpall_mono {H' : Hp} (e : Ex H H') {vs : List V} {ps : List PyData} (h : DpAll K H vs ps) : DpAll K H' vs ps := dps_mono e ps vs h
theorem deep_ok (R : RS K ρ S H) : ∀ (n : Nat) {v : V} {x : Val} {p : PyData}, VR K ρ H v x → deepN n S x = some p → Dp K H v p := by
  intro n
  induction n with
  | zero =>
    intro v x p r h
    cases x with
    | d q =>
      cases h
      exact dp_mono (frz_ex ρ H) _ _ r
    | ref i => cases h
  | succ n ih =>
    intro v x p r h
    have all : ∀ {xs : List Val} {ps : List PyData} {vs : List V}, mapO (deepN n S) xs = some ps → VRs K ρ H vs xs → DpAll K H vs ps := by
      intro xs
      induction xs with
      | nil =>
        intro ps vs h r
        cases h
        cases r
        exact .nil
      | cons x xs ihx =>
        intro ps vs h r
        cases r with
        | cons r1 r2 =>
          unfold mapO at h
          split at h
          · rename_i h1 h2
            cases h
            exact .cons (ih r1 h1) (ihx h2 r2)
          · cases h
    cases x with
    | d q =>
      cases h
      exact dp_mono (frz_ex ρ H) _ _ r
    | ref i =>
      obtain ⟨a, hi, rfl⟩ := r
      simp only [deepN] at h
      split at h
      · rename_i xs hS
        obtain ⟨vs, hv, q⟩ := R.ob i a _ hi hS
        obtain ⟨ps, e1, rfl⟩ := Option.map_eq_some_iff.mp h
        exact .lst (SqL.of hv) (all e1 q)
      · rename_i xs hS
        obtain ⟨vs, hv, q⟩ := R.ob i a _ hi hS
        obtain ⟨ps, e1, rfl⟩ := Option.map_eq_some_iff.mp h
        exact .tup (SqT.of hv) (all e1 q)
      · cases h
theorem dpall_len : ∀ {vs : List V} {ps : List PyData}, DpAll K H vs ps → vs.length = ps.length
  | _, [], h => by cases h; rfl
  | _, p :: ps, h => by
    cases h with
    | cons h1 h2 => simp [dpall_len h2]
theorem dpall_app : ∀ {vs ws : List V} {ps qs : List PyData}, DpAll K H vs ps → DpAll K H ws qs → DpAll K H (vs ++ ws) (ps ++ qs)
  | _, _, [], _, h, g => by cases h; exact g
  | _, _, p :: ps, _, h, g => by
    cases h with
    | cons h1 h2 => exact .cons h1 (dpall_app h2 g)
theorem dpall_get : ∀ {vs : List V} {ps : List PyData} {i : Nat} {p : PyData}, DpAll K H vs ps → ps[i]? = some p → ∃ v, vs[i]? = some v ∧ Dp K H v p
  | _, [], _, _, h, e => by simp at e
  | _, q :: ps, 0, p, h, e => by
    cases h with
    | cons h1 h2 =>
      simp at e
      subst e
      exact ⟨_, rfl, h1⟩
  | _, q :: ps, i + 1, p, h, e => by
    cases h with
    | cons h1 h2 =>
      obtain ⟨v, a, b⟩ := dpall_get (i := i) (p := p) h2 (by simpa using e)
      exact ⟨v, by simpa using a, b⟩
theorem dpall_take : ∀ (n : Nat) {vs : List V} {ps : List PyData}, DpAll K H vs ps → DpAll K H (vs.take n) (ps.take n)
  | 0, _, _, _ => by simp; exact .nil
  | n + 1, _, [], h => by cases h; exact .nil
  | n + 1, _, p :: ps, h => by
    cases h with
    | cons h1 h2 => exact .cons h1 (dpall_take n h2)
theorem dpall_drop : ∀ (n : Nat) {vs : List V} {ps : List PyData}, DpAll K H vs ps → DpAll K H (vs.drop n) (ps.drop n)
  | 0, _, _, h => by simpa using h
  | n + 1, _, [], h => by cases h; exact .nil
  | n + 1, _, p :: ps, h => by
    cases h with
    | cons h1 h2 => exact dpall_drop n h2
theorem dpall_set {v : V} {p : PyData} (r : Dp K H v p) : ∀ (i : Nat) {vs : List V} {ps : List PyData}, DpAll K H vs ps → DpAll K H (vs.set i v) (ps.set i p)
  | _, _, [], h => by cases h; exact .nil
  | 0, _, q :: ps, h => by
    cases h with
    | cons h1 h2 => exact .cons r h2
  | i + 1, _, q :: ps, h => by
    cases h with
    | cons h1 h2 => exact .cons h1 (dpall_set r i h2)
theorem vrs_get : ∀ {vs : List V} {xs : List Val} {i : Nat} {x : Val}, VRs K ρ H vs xs → xs[i]? = some x → ∃ v, vs[i]? = some v ∧ VR K ρ H v x
  | _, [], _, _, h, e => by simp at e
  | _, q :: ps, 0, p, h, e => by
    cases h with
    | cons h1 h2 =>
      simp at e
      subst e
      exact ⟨_, rfl, h1⟩
  | _, q :: ps, i + 1, p, h, e => by
    cases h with
    | cons h1 h2 =>
      obtain ⟨v, a, b⟩ := vrs_get (i := i) (x := p) h2 (by simpa using e)
      exact ⟨v, by simpa using a, b⟩
theorem vrs_set {v : V} {x : Val} (r : VR K ρ H v x) : ∀ (i : Nat) {vs : List V} {xs : List Val}, VRs K ρ H vs xs → VRs K ρ H (vs.set i v) (xs.set i x)
  | _, _, [], h => by cases h; exact .nil
  | 0, _, q :: ps, h => by
    cases h with
    | cons h1 h2 => exact .cons r h2
  | i + 1, _, q :: ps, h => by
    cases h with
    | cons h1 h2 => exact .cons h1 (vrs_set r i h2)
theorem vrs_app {vs ws : List V} {xs ys : List Val} (h : VRs K ρ H vs xs) (g : VRs K ρ H ws ys) : VRs K ρ H (vs ++ ws) (xs ++ ys) := by
  induction h with
  | nil => exact g
  | cons a _ ih => exact .cons a ih
theorem vrs_of_dp : ∀ {vs : List V} {ps : List PyData}, DpAll K (frz ρ H) vs ps → VRs K ρ H vs (ps.map .d)
  | _, [], h => by cases h; exact .nil
  | _, p :: ps, h => by
    cases h with
    | cons h1 h2 => exact .cons h1 (vrs_of_dp h2)
/-- a new list, a new tuple, frozen -/
theorem new_list {vs : List V} {ps : List PyData} {Q : VK} (R : RS K ρ S H) (hd : DpAll K (frz ρ H) vs ps)
    (h : ∀ w H' ρ', RS K ρ' S H' → Le ρ H ρ' H' → VR K ρ' H' w (.d (.list ps)) → Q w H') : ∀ p, H p = none → Q (.ref p) (upd H p (.lst vs)) := fun p hp => by
  obtain ⟨R', l⟩ := R.frozen (o := .lst vs) hp
  refine h _ _ ρ R' l ?_
  exact Dp.lst (SqL.of (by rw [frz_at (R.fresh hp)]; exact upd_same)) (dpall_mono l.ex hd)
theorem new_tuple {vs : List V} {ps : List PyData} {Q : VK} (R : RS K ρ S H) (hd : DpAll K (frz ρ H) vs ps)
    (h : ∀ w H' ρ', RS K ρ' S H' → Le ρ H ρ' H' → VR K ρ' H' w (.d (.tuple ps)) → Q w H') : ∀ p, H p = none → Q (.ref p) (upd H p (.tup vs)) := fun p hp => by
  obtain ⟨R', l⟩ := R.frozen (o := .tup vs) hp
  refine h _ _ ρ R' l ?_
  exact Dp.tup (SqT.of (by rw [frz_at (R.fresh hp)]; exact upd_same)) (dpall_mono l.ex hd)
/-- a new list, a new tuple in the store -/
theorem new_lst {vs : List V} {xs : List Val} {Q : VK} (R : RS K ρ S H) (hd : VRs K ρ H vs xs)
    (h : ∀ w H' ρ', RS K ρ' (S ++ [.lst xs]) H' → Le ρ H ρ' H' → VR K ρ' H' w (.ref S.length) → Q w H') : ∀ p, H p = none → Q (.ref p) (upd H p (.lst vs)) := fun p hp => by
  have l : Le ρ H (ρ.add p) (upd H p (.lst vs)) := R.addLe hp
  obtain ⟨R', _⟩ := R.add (o := .lst vs) (u := .lst xs) hp ⟨vs, upd_same, VRs.mono l hd⟩
  exact h _ _ (ρ.add p) R' l ⟨p, R.addIx, rfl⟩
theorem new_tup {vs : List V} {xs : List Val} {Q : VK} (R : RS K ρ S H) (hd : VRs K ρ H vs xs)
    (h : ∀ w H' ρ', RS K ρ' (S ++ [.tup xs]) H' → Le ρ H ρ' H' → VR K ρ' H' w (.ref S.length) → Q w H') : ∀ p, H p = none → Q (.ref p) (upd H p (.tup vs)) := fun p hp => by
  have l : Le ρ H (ρ.add p) (upd H p (.tup vs)) := R.addLe hp
  obtain ⟨R', _⟩ := R.add (o := .tup vs) (u := .tup xs) hp ⟨vs, upd_same, VRs.mono l hd⟩
  exact h _ _ (ρ.add p) R' l ⟨p, R.addIx, rfl⟩
end

/-! ### two-place operations -/
abbrev F2 := Val → Val → Sto → Option (Val × Sto)
abbrev F1 := Val → Sto → Option (Val × Sto)
/-- what an outcome of an operation gives -/
abbrev Fin (K : PySem.W.Frag) (ρ : Rg) (H : Hp) (z : Val) (S' : Sto) (Q : VK) : Prop := ∀ w H' ρ', RS K ρ' S' H' → Le ρ H ρ' H' → VR K ρ' H' w z → Q w H'
def Op2 (K : PySem.W.Frag) (r : R2) (f : F2) : Prop :=
  ∀ (ρ : Rg) (S : Sto) (H : Hp) (v u : V) (x y z : Val) (S' : Sto) (Q : VK), RS K ρ S H → VR K ρ H v x → VR K ρ H u y → f x y S = some (z, S') → Fin K ρ H z S' Q → r v u H Q
def Op1 (K : PySem.W.Frag) (r : V → Hp → VK → Prop) (f : F1) : Prop :=
  ∀ (ρ : Rg) (S : Sto) (H : Hp) (v : V) (x z : Val) (S' : Sto) (Q : VK), RS K ρ S H → VR K ρ H v x → f x S = some (z, S') → Fin K ρ H z S' Q → r v H Q
def lift (o : Option (Val × Sto)) : Out := match o with
  | some (z, S) => some (.ok z, S)
  | none => none
def mOp (f : F2) (a b : M) : M := bnd a fun x => bnd b fun y => fun _ S => lift (f x y S)
def mOp1 (f : F1) (a : M) : M := bnd a fun x => fun _ S => lift (f x S)
section
variable {K : PySem.W.Frag} {W : WX} {ρ ρ1 : Rg} {H H1 : Hp} {S : Sto} {σ : L2.St} {ev : Ev} {Q : VK}
theorem pn_lift {o : Option (Val × Sto)} (h : Pn K W σ (lift o) ρ H Q) : ∃ z S', o = some (z, S') ∧ Fin K ρ H z S' Q := by
  obtain ⟨r, S', eq, q⟩ := h
  cases o with
  | none => cases eq
  | some p =>
    obtain ⟨z, S2⟩ := p
    cases eq
    exact ⟨z, S', rfl, q⟩
theorem rE_op2 {r : R2} {f : F2} {a b : M} (o : Op2 K r f) (R : RS K ρ S H) (E : ER K ρ H σ ev) (p : Pn K W σ (mOp f a b ev S) ρ H Q) : tOp r (rE K W a) (rE K W b) σ H Q := by
  refine rE_bnd R E p fun v H1 x S1 ρ1 R1 E1 l1 rv p1 => ?_
  refine rE_bnd R1 E1 p1 fun u H2 y S2 ρ2 R2 E2 l2 ru p2 => ?_
  obtain ⟨z, S', eq, q⟩ := pn_lift p2
  exact o ρ2 S2 H2 v u x y z S' Q R2 (VR.mono l2 rv) ru eq q
theorem rE_op1 {r : V → Hp → VK → Prop} {f : F1} {a : M} (o : Op1 K r f) (R : RS K ρ S H) (E : ER K ρ H σ ev) (p : Pn K W σ (mOp1 f a ev S) ρ H Q) : tUn r (rE K W a) σ H Q := by
  refine rE_bnd R E p fun v H1 x S1 ρ1 R1 E1 l1 rv p1 => ?_
  obtain ⟨z, S', eq, q⟩ := pn_lift p1
  exact o ρ1 S1 H1 v x z S' Q R1 rv eq q
end
section
variable {X : Cx} {W : WX} {a b : Expr} {ma mb : M} {pos : Pos} {r : R2} {f : F2}
theorem px_bin {op : Operator} (ho : OpR X (binaryOp op) r) (o : Op2 X.K r f) (ha : PX X W a ma) (hb : PX X W b mb) : PX X W (.BinOp a op b pos) (mOp f ma mb) :=
  PX.of (pe_op ho ha.pe hb.pe) fun σ H Q ev S ρ R E p => rE_op2 o R E p
theorem px_un {op : UnaryOp} {r : V → Hp → VK → Prop} {f : F1} (ho : UnR X (unaryOp op) r) (o : Op1 X.K r f) (ha : PX X W a ma) : PX X W (.UnaryOp op a pos) (mOp1 f ma) :=
  PX.of (pe_un ho ha.pe) fun σ H Q ev S ρ R E p => rE_op1 o R E p
theorem px_cmp {op : CmpOp} (ho : OpR X (compareOp op) r) (o : Op2 X.K r f) (ha : PX X W a ma) (hb : PX X W b mb) (hm : behindInMarks op b = false) : PX X W (.Compare a [op] [b] pos) (mOp f ma mb) :=
  PX.of (pe_cmpR ho ha.pe hb.pe hm) fun σ H Q ev S ρ R E p => rE_op2 o R E p
end

/-! ### ints -/
def fI (C : Int → Int → Prop) [∀ i j, Decidable (C i j)] (g : Int → Int → Int) : F2 := fun x y S => match x, y with
  | .d (.int i), .d (.int j) => if C i j then some (.d (.int (g i j)), S) else none
  | _, _ => none
def fB (g : Int → Int → Bool) : F2 := fun x y S => match x, y with
  | .d (.int i), .d (.int j) => some (.d (.bool (g i j)), S)
  | _, _ => none
theorem o_I {K : PySem.W.Frag} {C : Int → Int → Prop} [∀ i j, Decidable (C i j)] {g : Int → Int → Int} : Op2 K (rI C fun i j => .int (g i j)) (fI C g) := by
  intro ρ S H v u x y z S' Q R rv ru eq q
  unfold fI at eq
  split at eq
  · rename_i i j
    split at eq
    · rename_i hc
      cases eq
      rw [vr_int rv, vr_int ru]
      exact ⟨i, j, rfl, rfl, hc, q _ _ ρ R (Le.refl ρ H) (.int _)⟩
    · cases eq
  · cases eq
theorem o_B {K : PySem.W.Frag} {g : Int → Int → Bool} : Op2 K (rI0 fun i j => .bl (g i j)) (fB g) := by
  intro ρ S H v u x y z S' Q R rv ru eq q
  unfold fB at eq
  split at eq
  · rename_i i j
    cases eq
    rw [vr_int rv, vr_int ru]
    exact ⟨i, j, rfl, rfl, q _ _ ρ R (Le.refl ρ H) (.bl _)⟩
  · cases eq
instance : ∀ i j : Int, Decidable (CMul i j) := fun i j => by unfold CMul; infer_instance
instance : ∀ i j : Int, Decidable (CDiv i j) := fun i j => by unfold CDiv; infer_instance
def fSub : F2 := fun x y S => match x, y with
  | .d (.int i), .d (.int j) => some (.d (.int (i - j)), S)
  | _, _ => none
theorem o_sub {K : PySem.W.Frag} : Op2 K (rI0 fun i j => .int (i - j)) fSub := by
  intro ρ S H v u x y z S' Q R rv ru eq q
  unfold fSub at eq
  split at eq
  · rename_i i j
    cases eq
    rw [vr_int rv, vr_int ru]
    exact ⟨i, j, rfl, rfl, q _ _ ρ R (Le.refl ρ H) (.int _)⟩
  · cases eq
def fMul : F2 := fI CMul (· * ·)
def fMod : F2 := fI (fun _ j => 0 < j) (· % ·)
def fDiv : F2 := fI CDiv (· / ·)
def fNeg : F1 := fun x S => match x with
  | .d (.int i) => some (.d (.int (-i)), S)
  | _ => none
theorem o_neg {K : PySem.W.Frag} : Op1 K (rU fun i => .int (-i)) fNeg := by
  intro ρ S H v x z S' Q R rv eq q
  unfold fNeg at eq
  split at eq
  · rename_i i
    cases eq
    rw [vr_int rv]
    exact ⟨i, rfl, q _ _ ρ R (Le.refl ρ H) (.int _)⟩
  · cases eq
def fLt : F2 := fB fun i j => decide (i < j)
def fLe : F2 := fB fun i j => decide (i ≤ j)
def fGt : F2 := fB fun i j => decide (j < i)
def fGe : F2 := fB fun i j => decide (j ≤ i)

/-! ### + -/
def fAdd : F2 := fun x y S => match x, y with
  | .d (.int i), .d (.int j) => some (.d (.int (i + j)), S)
  | .d (.str a), .d (.str b) => if a.length + b.length ≤ sizeLine then some (.d (.str (a ++ b)), S) else none
  | .d (.tuple a), .d (.tuple b) => if a.length + b.length ≤ sizeLine then some (.d (.tuple (a ++ b)), S) else none
  | x, y => match lstD S x, lstD S y with
    | some a, some b => if a.length + b.length ≤ sizeLine then some (.d (.list (a ++ b)), S) else none
    | _, _ => none
def rCatL (K : PySem.W.Frag) : R2 := fun x y H Q => ∃ a b xs ys, x = .ref a ∧ y = .ref b ∧ SqL K H a xs ∧ SqL K H b ys ∧ xs.length + ys.length ≤ sizeLine ∧ ∀ p, H p = none → Q (.ref p) (upd H p (.lst (xs ++ ys)))
theorem op_catL {X : Cx} : OpR X (binaryOp .Add) (rCatL X.K) := by
  intro pins s σ H x y v u Q I rx ry h
  obtain ⟨a, b, xs, ys, rfl, rfl, ha, hb, hz, q⟩ := h
  cases rx
  cases ry
  obtain ⟨its, r, ⟨⟨cls, dd, data, sl⟩, n, ho, hc, _, hd⟩, _⟩ := I.list ha
  obtain ⟨its2, r2, ⟨⟨cls2, dd2, data2, sl2⟩, n2, ho2, hc2, _, hd2⟩, _⟩ := I.list hb
  simp only at hc hd hc2 hd2
  subst hc hd hc2 hd2
  have e : its.toArray ++ its2.toArray = (its ++ its2).toArray := by simp
  have e1 := r.length
  have e2 := r2.length
  refine concat_meets ⟨_, ho, rfl⟩ ⟨_, ho2, rfl⟩ noFill_list_add seq_list_add PySem.F.slot_list_add PySem.F.entry_list_add (PySem.F.args_list_add_2 _ _) (list_addW a b its.toArray its2.toArray n n2 dd dd2 sl sl2 (by simp only [List.size_toArray]; omega)) ⟨ho, ho2, ?_⟩
  rw [e]
  exact ⟨.ref _, _, I.lnew (t' := s.toks) (r.append r2) (by rw [List.length_append]; exact hz), rfl, q _ I.fresh⟩
def rAddA (K : PySem.W.Frag) : R2 := fun x y H Q => rI0 (fun i j => .int (i + j)) x y H Q ∨ (∃ i j, x = .str i ∧ y = .str j ∧ i.length + j.length ≤ sizeLine ∧ Q (.str (i ++ j)) H) ∨ rCatA K x y H Q ∨ rCatL K x y H Q
theorem op_addA {X : Cx} : OpR X (binaryOp .Add) (rAddA X.K) := op_add.or (op_add_str.or (op_catA.or op_catL))
theorem o_add {K : PySem.W.Frag} : Op2 K (rAddA K) fAdd := by
  intro ρ S H v u x y z S' Q R rv ru eq q
  unfold fAdd at eq
  split at eq
  · rename_i i j
    cases eq
    rw [vr_int rv, vr_int ru]
    exact .inl ⟨i, j, rfl, rfl, q _ _ ρ R (Le.refl ρ H) (.int _)⟩
  · rename_i i j
    split at eq
    · rename_i hz
      cases eq
      rw [vr_str rv, vr_str ru]
      exact .inr (.inl ⟨i, j, rfl, rfl, hz, q _ _ ρ R (Le.refl ρ H) (.str _)⟩)
    · cases eq
  · rename_i ps qs
    split at eq
    · rename_i hz
      cases eq
      obtain ⟨a, vs, rfl, ha, da⟩ := vr_tuple rv
      obtain ⟨b, ws, rfl, hb, db⟩ := vr_tuple ru
      have la := dpall_len da
      have lb := dpall_len db
      refine .inr (.inr (.inl ⟨a, b, vs, ws, rfl, rfl, ha, hb, by rw [la, lb]; exact hz, fun e => ?_, fun e1 e2 => ?_, fun _ _ => new_tuple R (dpall_app da db) q⟩))
      · subst e
        cases da
        exact q _ _ ρ R (Le.refl ρ H) (by simpa using ru)
      · subst e2
        cases db
        exact q _ _ ρ R (Le.refl ρ H) (by simpa using rv)
    · cases eq
  · split at eq
    · rename_i ps qs h1 h2
      split at eq
      · rename_i hz
        cases eq
        obtain ⟨a, vs, rfl, ha, da⟩ := lstD_ok R rv h1
        obtain ⟨b, ws, rfl, hb, db⟩ := lstD_ok R ru h2
        exact .inr (.inr (.inr ⟨a, b, vs, ws, rfl, rfl, ha, hb, by rw [dpall_len da, dpall_len db]; exact hz, new_list R (dpall_app da db) q⟩))
      · cases eq
    · cases eq
end Lv
end
section
set_option Elab.async false
set_option linter.all false
set_option autoImplicit false
set_option maxRecDepth 100000
set_option maxHeartbeats 2000000
namespace Lv
open PySem PySem.Spec PyProof.Rows L2

theorem vr_deep {K : PySem.W.Frag} {ρ : Rg} {H : Hp} {S : Sto} (R : RS K ρ S H) {v : V} {x : Val} {p : PyData} (r : VR K ρ H v x) (h : deep S x = some p) : Dp K H v p := deep_ok R 6 r h
/-! ### == != in -/
def fEq : F2 := fun x y S => match deep S x, deep S y with
  | some p, some q => if SeqAt.shaped p = true ∧ SeqAt.shaped q = true then some (.d (.bool (PyData.eqv p q)), S) else none
  | _, _ => none
def fNe : F2 := fun x y S => match deep S x, deep S y with
  | some p, some q => if SeqAt.shaped p = true ∧ SeqAt.shaped q = true then some (.d (.bool (!PyData.eqv p q)), S) else none
  | _, _ => none
theorem o_eq {K : PySem.W.Frag} : Op2 K (rEqD K) fEq := by
  intro ρ S H v u x y z S' Q R rv ru eq q
  unfold fEq at eq
  split at eq
  · rename_i p p' h1 h2
    split at eq
    · rename_i hc
      cases eq
      exact ⟨p, p', vr_deep R rv h1, vr_deep R ru h2, hc.1, hc.2, q _ _ ρ R (Le.refl ρ H) (.bl _)⟩
    · cases eq
  · cases eq
theorem o_ne {K : PySem.W.Frag} : Op2 K (rNeD K) fNe := by
  intro ρ S H v u x y z S' Q R rv ru eq q
  unfold fNe at eq
  split at eq
  · rename_i p p' h1 h2
    split at eq
    · rename_i hc
      cases eq
      exact ⟨p, p', vr_deep R rv h1, vr_deep R ru h2, hc.1, hc.2, q _ _ ρ R (Le.refl ρ H) (.bl _)⟩
    · cases eq
  · cases eq

/-! ### dicts: what is read -/
def keyOf : Val → Option Key
  | .d (.int i) => some (.inl i)
  | .d (.str x) => some (.inr x)
  | _ => none
def valK {κ : Type} [DecidableEq κ] (kvs : List (κ × Val)) (k : κ) : Option Val := (kvs.find? fun kv => decide (kv.1 = k)).map (·.2)
def dicAt (S : Sto) : Val → Option (List (Key × Val))
  | .ref i => match S[i]? with
    | some (.dic kvs) => some kvs
    | some (.dicL kvs) => some kvs
    | _ => none
  | _ => none
section
variable {K : PySem.W.Frag} {ρ : Rg} {H : Hp} {S : Sto}
theorem key_ok {v : V} {x : Val} {k : Key} (r : VR K ρ H v x) (h : keyOf x = some k) : v = kV k := by
  unfold keyOf at h
  split at h
  · cases h
    exact vr_int r
  · cases h
    exact vr_str r
  · cases h
theorem dic_ok (R : RS K ρ S H) {v : V} {x : Val} {kvs : List (Key × Val)} (r : VR K ρ H v x) (h : dicAt S x = some kvs) : ∃ a vs, v = .ref a ∧ Rd H a (.dK vs) ∧ KR K ρ H vs kvs := by
  cases x with
  | d p => cases h
  | ref i =>
    obtain ⟨a, hi, rfl⟩ := r
    simp only [dicAt] at h
    split at h
    · rename_i xs hS
      cases h
      obtain ⟨vs, hv, q⟩ := R.ob i a _ hi hS
      exact ⟨a, vs, rfl, .inl hv, q⟩
    · rename_i xs hS
      cases h
      obtain ⟨o, vs, hv, q⟩ := R.ob i a _ hi hS
      exact ⟨a, vs, rfl, .inr ⟨o, hv⟩, q⟩
    · cases h
theorem kr_find {κ : Type} [DecidableEq κ] {vs : List (κ × V)} {kvs : List (κ × Val)} (k : κ) (h : KR K ρ H vs kvs) : (∀ x, valK kvs k = some x → ∃ v, valV vs k = some v ∧ VR K ρ H v x) ∧ (valK kvs k = none → valV vs k = none) := by
  unfold KR at h
  induction h with
  | nil => exact ⟨fun x e => by simp [valK] at e, fun _ => by simp [valV]⟩
  | @cons p q ps qs h t ih =>
    unfold valK valV at *
    rw [List.find?_cons, List.find?_cons]
    by_cases e : q.1 = k
    · have e' : p.1 = k := h.1.trans e
      simp only [e, e', decide_true]
      exact ⟨fun x z => ⟨p.2, rfl, by
        have z : q.2 = x := Option.some.inj z
        rw [← z]
        exact h.2⟩, fun z => by cases z⟩
    · have e' : ¬ p.1 = k := fun z => e (h.1.symm.trans z)
      simp only [e, e', decide_false]
      exact ih
theorem kr_some {κ : Type} [DecidableEq κ] {vs : List (κ × V)} {kvs : List (κ × Val)} (k : κ) (h : KR K ρ H vs kvs) : (valV vs k).isSome = (valK kvs k).isSome := by
  obtain ⟨a, b⟩ := kr_find k h
  cases e : valK kvs k with
  | none => rw [b e] <;> rfl
  | some x =>
    obtain ⟨v, e2, _⟩ := a x e
    rw [e2]
    rfl
theorem kr_len {κ : Type} {vs : List (κ × V)} {kvs : List (κ × Val)} (h : KR K ρ H vs kvs) : vs.length = kvs.length := Paired.length h
end
/-- y in d, by values -/
def rDIn (neg : Bool) : R2 := fun y x H Q => ∃ a o, x = .ref a ∧ DGet H a y o ∧ Q (.bl (if neg then !o.isSome else o.isSome)) H
theorem op_dIn {X : Cx} (hu : X.A.units + 1 < cLine) : OpR X (compareOp .In) (rDIn false) := by
  intro pins s σ H x y v u Q I rx ry h
  obtain ⟨a, o, rfl, g, q⟩ := h
  cases ry
  exact d_in hu I g rx fun s' I' => ⟨.bl o.isSome, H, I', rfl, q⟩
theorem op_dNotIn {X : Cx} (hu : X.A.units + 1 < cLine) : OpR X (compareOp .NotIn) (rDIn true) := by
  intro pins s σ H x y v u Q I rx ry h
  obtain ⟨a, o, rfl, g, q⟩ := h
  cases ry
  exact d_notIn hu I g rx fun s' I' => ⟨.bl (!o.isSome), H, I', rfl, q⟩
/-- one sign of a text -/
def sign1 : Val → Option Nat
  | .d (.str z) => if z.cps.size = 1 then z.cps[0]? else none
  | _ => none
theorem sign1_ok {K : PySem.W.Frag} {ρ : Rg} {H : Hp} {v : V} {x : Val} {c : Nat} (r : VR K ρ H v x) (h : sign1 x = some c) : v = .str ⟨#[c]⟩ := by
  unfold sign1 at h
  split at h
  · rename_i z
    split at h
    · rename_i hz
      rw [vr_str r]
      obtain ⟨l⟩ := z
      obtain ⟨l⟩ := l
      match l, hz with
      | [c'], _ =>
        have : c' = c := by simpa using h
        rw [this]
    · cases h
  · cases h
def inA (x y : Val) (S : Sto) : Option Bool :=
  match dicAt S y with
  | some kvs => (keyOf x).map fun k => (valK kvs k).isSome
  | none => match y with
    | .d (.str z) => (sign1 x).map fun c => decide (c ∈ z.cps.toList)
    | y => match toD x, lstD S y with
      | some p, some ps => if SeqAt.shaped p = true ∧ SeqAt.shaped (.list ps) = true then some (ps.any fun z => PyData.eqv z p) else none
      | _, _ => none
def fIn : F2 := fun x y S => (inA x y S).map fun b => (.d (.bool b), S)
def fNotIn : F2 := fun x y S => (inA x y S).map fun b => (.d (.bool (!b)), S)
/-- l a list of data, whatever stands for it -/
def rInX (K : PySem.W.Frag) (neg : Bool) : R2 := fun x y H Q => rDIn neg x y H Q ∨ (∃ (c : Nat) (z : Str), x = .str ⟨#[c]⟩ ∧ y = .str z ∧ Q (.bl (if neg then !decide (c ∈ z.cps.toList) else decide (c ∈ z.cps.toList))) H) ∨
  (∃ d ds, Dp K H x d ∧ Dp K H y (.list ds) ∧ SeqAt.shaped d = true ∧ SeqAt.shaped (.list ds) = true ∧ Q (.bl (if neg then !ds.any fun z => PyData.eqv z d else ds.any fun z => PyData.eqv z d)) H)
theorem op_inX {X : Cx} (hu : X.A.units + 65 < cLine) : OpR X (compareOp .In) (rInX X.K false) := (op_dIn (by omega)).or (op_in_sign.or (op_inD hu))
theorem op_notInX {X : Cx} (hu : X.A.units + 65 < cLine) : OpR X (compareOp .NotIn) (rInX X.K true) := (op_dNotIn (by omega)).or (op_notIn_sign.or (op_notInD hu))
theorem inA_ok {K : PySem.W.Frag} {ρ : Rg} {H : Hp} {S : Sto} {v u : V} {x y : Val} {b : Bool} {Q : VK} (neg : Bool) (R : RS K ρ S H) (rv : VR K ρ H v x) (ru : VR K ρ H u y) (h : inA x y S = some b) (q : Q (.bl (if neg then !b else b)) H) : rInX K neg v u H Q := by
  unfold inA at h
  split at h
  · rename_i kvs hd
    obtain ⟨k, hk, rfl⟩ := Option.map_eq_some_iff.mp h
    obtain ⟨a, vs, rfl, rd, kr⟩ := dic_ok R ru hd
    refine .inl ⟨a, valV vs k, rfl, .inl ⟨vs, k, rd, key_ok rv hk, rfl⟩, ?_⟩
    rw [kr_some k kr]
    exact q
  · split at h
    · rename_i z hd
      obtain ⟨c, hc, rfl⟩ := Option.map_eq_some_iff.mp h
      exact .inr (.inl ⟨c, z, sign1_ok rv hc, vr_str ru, q⟩)
    · split at h
      · rename_i p ps h1 h2
        split at h
        · rename_i hc
          cases h
          obtain ⟨a, vs, rfl, ha, da⟩ := lstD_ok R ru h2
          cases x with
          | ref i => cases h1
          | d p' =>
            obtain rfl : p' = p := Option.some.inj h1
            exact .inr (.inr ⟨p', ps, dp_mono (frz_ex ρ H) _ _ rv, .lst ha (dpall_mono (frz_ex ρ H) da), hc.1, hc.2, q⟩)
        · cases h
      · cases h
theorem o_in {K : PySem.W.Frag} : Op2 K (rInX K false) fIn := by
  intro ρ S H v u x y z S' Q R rv ru eq q
  obtain ⟨b, hb, e⟩ := Option.map_eq_some_iff.mp eq
  cases e
  exact inA_ok false R rv ru hb (q _ _ ρ R (Le.refl ρ H) (.bl _))
theorem o_notIn {K : PySem.W.Frag} : Op2 K (rInX K true) fNotIn := by
  intro ρ S H v u x y z S' Q R rv ru eq q
  obtain ⟨b, hb, e⟩ := Option.map_eq_some_iff.mp eq
  cases e
  exact inA_ok true R rv ru hb (q _ _ ρ R (Le.refl ρ H) (.bl _))

/-! ### is None -/
def isN : Val → Bool
  | .d .none => true
  | _ => false
def fIsN : F2 := fun x y S => match y with
  | .d .none => some (.d (.bool (isN x)), S)
  | _ => none
def fIsNot : F2 := fun x y S => match y with
  | .d .none => some (.d (.bool (!isN x)), S)
  | _ => none
theorem isN_ok {K : PySem.W.Frag} {ρ : Rg} {H : Hp} {v : V} {x : Val} (r : VR K ρ H v x) : decide (v = .non) = isN x := by
  cases x with
  | ref i =>
    obtain ⟨a, _, rfl⟩ := r
    rfl
  | d p =>
    cases p <;> cases r <;> rfl
theorem o_isN {K : PySem.W.Frag} : Op2 K (fun x y H Q => y = .non ∧ Q (.bl (decide (x = .non))) H) fIsN := by
  intro ρ S H v u x y z S' Q R rv ru eq q
  unfold fIsN at eq
  split at eq
  · cases eq
    exact ⟨vr_non ru, by rw [isN_ok rv]; exact q _ _ ρ R (Le.refl ρ H) (.bl _)⟩
  · cases eq
theorem o_isNot {K : PySem.W.Frag} : Op2 K (fun x y H Q => y = .non ∧ Q (.bl (!decide (x = .non))) H) fIsNot := by
  intro ρ S H v u x y z S' Q R rv ru eq q
  unfold fIsNot at eq
  split at eq
  · cases eq
    exact ⟨vr_non ru, by rw [isN_ok rv]; exact q _ _ ρ R (Le.refl ρ H) (.bl _)⟩
  · cases eq

/-! ### items -/
def fIx : F2 := fun x y S => match x, y with
  | .d (.list ps), .d (.int i) => (atI ps i).map fun p => (.d p, S)
  | .d (.tuple ps), .d (.int i) => (atI ps i).map fun p => (.d p, S)
  | .d (.str z), .d (.int i) => if z.length ≤ sizeLine then (atI z.cps.toList i).map fun c => (.d (.str ⟨#[c]⟩), S) else none
  | .ref r, y => match S[r]? with
    | some (.lst xs) => match y with
      | .d (.int i) => (atI xs i).map fun x => (x, S)
      | _ => none
    | some (.tup xs) => match y with
      | .d (.int i) => (atI xs i).map fun x => (x, S)
      | _ => none
    | some (.dic kvs) => (keyOf y).bind fun k => (valK kvs k).map fun x => (x, S)
    | some (.dicL kvs) => (keyOf y).bind fun k => (valK kvs k).map fun x => (x, S)
    | _ => none
  | _, _ => none
def rIxDic : R2 := fun x y H Q => ∃ a v, x = .ref a ∧ DGet H a y (some v) ∧ Q v H
theorem ix_dic {X : Cx} (hu : X.A.units + 1 < cLine) : IxR X rIxDic := by
  intro value slice pins s σ H x y v u Q I rx ry h hs
  obtain ⟨a, w, rfl, g, q⟩ := h
  cases rx
  exact tail_any (dict_typeIs I g) PySem.F.slot_dict_getitem.lookup (d_getItem hu I g ry fun w' s3 I3 rw' => ⟨w, H, I3, rw', q⟩) hs
def rIxA (K : PySem.W.Frag) : R2 := fun x y H Q => rIx K x y H Q ∨ rIxDic x y H Q
theorem ix_any {X : Cx} (hu : X.A.units + 1 < cLine) : IxR X (rIxA X.K) := ix_seq.or (ix_dic hu)
theorem atI_map {α β : Type} {R : α → β → Prop} {xs : List α} {ys : List β} {i : Int} {y : β} (hl : xs.length = ys.length) (h : ∀ (j : Nat) (y : β), ys[j]? = some y → ∃ x, xs[j]? = some x ∧ R x y) (e : atI ys i = some y) : ∃ x, atI xs i = some x ∧ R x y := by
  unfold atI at e ⊢
  rw [hl]
  cases h1 : ixN ys.length i with
  | none => rw [h1] at e; cases e
  | some j =>
    rw [h1] at e
    exact h j y e
theorem o_ix {K : PySem.W.Frag} : Op2 K (rIxA K) fIx := by
  intro ρ S H v u x y z S' Q R rv ru eq q
  unfold fIx at eq
  split at eq
  · rename_i ps i
    obtain ⟨p, hp, e⟩ := Option.map_eq_some_iff.mp eq
    cases e
    obtain ⟨a, vs, rfl, ha, da⟩ := vr_list rv
    obtain ⟨w, hw, rw'⟩ := atI_map (R := fun v p => Dp K (frz ρ H) v p) (dpall_len da) (fun j y e => dpall_get da e) hp
    rw [vr_int ru]
    exact .inl (.inl ⟨a, vs, i, w, rfl, rfl, ha, hw, q _ _ ρ R (Le.refl ρ H) rw'⟩)
  · rename_i ps i
    obtain ⟨p, hp, e⟩ := Option.map_eq_some_iff.mp eq
    cases e
    obtain ⟨a, vs, rfl, ha, da⟩ := vr_tuple rv
    obtain ⟨w, hw, rw'⟩ := atI_map (R := fun v p => Dp K (frz ρ H) v p) (dpall_len da) (fun j y e => dpall_get da e) hp
    rw [vr_int ru]
    exact .inl (.inr (.inl ⟨a, vs, i, w, rfl, rfl, ha, hw, q _ _ ρ R (Le.refl ρ H) rw'⟩))
  · rename_i w i
    split at eq
    · rename_i hz
      obtain ⟨c, hc, e⟩ := Option.map_eq_some_iff.mp eq
      cases e
      rw [vr_int ru, vr_str rv]
      exact .inl (.inr (.inr ⟨w, i, c, rfl, rfl, hz, hc, q _ _ ρ R (Le.refl ρ H) (.str _)⟩))
    · cases eq
  · rename_i r
    obtain ⟨a, hi, rfl⟩ := id rv
    split at eq
    · rename_i xs hS
      split at eq
      · rename_i i
        obtain ⟨p, hp, e⟩ := Option.map_eq_some_iff.mp eq
        cases e
        obtain ⟨vs, hv, vr⟩ := R.ob r a _ hi hS
        obtain ⟨w, hw, rw'⟩ := atI_map (R := fun v p => VR K ρ H v p) (Paired.length vr) (fun j y e => vrs_get vr e) hp
        rw [vr_int ru]
        exact .inl (.inl ⟨a, vs, i, w, rfl, rfl, SqL.of hv, hw, q _ _ ρ R (Le.refl ρ H) rw'⟩)
      · cases eq
    · rename_i xs hS
      split at eq
      · rename_i i
        obtain ⟨p, hp, e⟩ := Option.map_eq_some_iff.mp eq
        cases e
        obtain ⟨vs, hv, vr⟩ := R.ob r a _ hi hS
        obtain ⟨w, hw, rw'⟩ := atI_map (R := fun v p => VR K ρ H v p) (Paired.length vr) (fun j y e => vrs_get vr e) hp
        rw [vr_int ru]
        exact .inl (.inr (.inl ⟨a, vs, i, w, rfl, rfl, SqT.of hv, hw, q _ _ ρ R (Le.refl ρ H) rw'⟩))
      · cases eq
    · rename_i kvs hS
      obtain ⟨k, hk, e⟩ := Option.bind_eq_some_iff.mp eq
      obtain ⟨p, hp, e⟩ := Option.map_eq_some_iff.mp e
      cases e
      obtain ⟨vs, hv, kr⟩ := R.ob r a _ hi hS
      obtain ⟨w, hw, rw'⟩ := (kr_find k kr).1 _ hp
      exact .inr ⟨a, w, rfl, .inl ⟨vs, k, .inl hv, key_ok ru hk, hw.symm⟩, q _ _ ρ R (Le.refl ρ H) rw'⟩
    · rename_i kvs hS
      obtain ⟨k, hk, e⟩ := Option.bind_eq_some_iff.mp eq
      obtain ⟨p, hp, e⟩ := Option.map_eq_some_iff.mp e
      cases e
      obtain ⟨o, vs, hv, kr⟩ := R.ob r a _ hi hS
      obtain ⟨w, hw, rw'⟩ := (kr_find k kr).1 _ hp
      exact .inr ⟨a, w, rfl, .inl ⟨vs, k, .inr ⟨o, hv⟩, key_ok ru hk, hw.symm⟩, q _ _ ρ R (Le.refl ρ H) rw'⟩
    · cases eq
  · cases eq
section
variable {X : Cx} {W : WX} {a b : Expr} {ma mb : M} {pos : Pos}
theorem px_ix (hu : X.A.units + 1 < cLine) (ha : PX X W a ma) (hb : PX X W b mb) (hs : PlainIx b := by exact fun _ _ => rfl) : PX X W (.Subscript a b pos) (mOp fIx ma mb) :=
  PX.of (pe_ix (ix_any hu) ha.pe hb.pe hs) fun σ H Q ev S ρ R E p => rE_op2 o_ix R E p
end

/-! ### slices -/
def cutL {α : Type} (xs : List α) (lo hi : Option Int) : List α := (xs.drop (HT.sIx xs.length 0 lo)).take (HT.sIx xs.length xs.length hi - HT.sIx xs.length 0 lo)
abbrev F3 := Val → Option Int → Option Int → Sto → Option (Val × Sto)
def bndP (m : Option M) (k : Option Int → M) : M := match m with
  | none => k none
  | some m => bnd m fun x => match x with
    | .d (.int i) => k (some i)
    | _ => fun _ _ => none
def mSl (f : F3) (a : M) (lo hi : Option M) : M := bnd a fun x => bndP lo fun l => bndP hi fun h => fun _ S => lift (f x l h S)
def fSl : F3 := fun x lo hi S => match x with
  | .d (.str z) => if z.length ≤ sizeLine then some (.d (.str (cutS z lo hi)), S) else none
  | .d (.tuple ps) => some (.d (.tuple (cutL ps lo hi)), S)
  | x => (lstD S x).map fun ps => (.d (.list (cutL ps lo hi)), S)
/-- a list of the store, cut: a new one in the store -/
def fSlN : F3 := fun x lo hi S => match x with
  | .ref i => match S[i]? with
    | some (.lst xs) => some (.ref S.length, S ++ [.lst (cutL xs lo hi)])
    | _ => none
  | _ => none
def rSlX (K : PySem.W.Frag) : V → Option Int → Option Int → Hp → VK → Prop := fun x lo hi H Q => rSlS x lo hi H Q ∨ rSlA K x lo hi H Q ∨ rSlL K x lo hi H Q
theorem sl_any {X : Cx} : SlR X (rSlX X.K) := sl_str.or (sl_tupA.or sl_list)
def Op3 (K : PySem.W.Frag) (r : V → Option Int → Option Int → Hp → VK → Prop) (f : F3) : Prop :=
  ∀ (ρ : Rg) (S : Sto) (H : Hp) (v : V) (x z : Val) (lo hi : Option Int) (S' : Sto) (Q : VK), RS K ρ S H → VR K ρ H v x → f x lo hi S = some (z, S') → Fin K ρ H z S' Q → r v lo hi H Q
theorem dpall_cut {K : PySem.W.Frag} {H : Hp} {vs : List V} {ps : List PyData} (h : DpAll K H vs ps) (lo hi : Option Int) : DpAll K H (cutV vs lo hi) (cutL ps lo hi) := by
  unfold cutV cutL
  rw [dpall_len h]
  exact dpall_take _ (dpall_drop _ h)
theorem vrs_drop {K : PySem.W.Frag} {ρ : Rg} {H : Hp} {vs : List V} {xs : List Val} (h : VRs K ρ H vs xs) : ∀ n : Nat, VRs K ρ H (vs.drop n) (xs.drop n) := by
  induction h with
  | nil => intro n; simp; exact .nil
  | cons a t ih =>
    intro n
    cases n with
    | zero => exact .cons a t
    | succ n => exact ih n
theorem vrs_take {K : PySem.W.Frag} {ρ : Rg} {H : Hp} {vs : List V} {xs : List Val} (h : VRs K ρ H vs xs) : ∀ n : Nat, VRs K ρ H (vs.take n) (xs.take n) := by
  induction h with
  | nil => intro n; simp; exact .nil
  | cons a t ih =>
    intro n
    cases n with
    | zero => exact .nil
    | succ n => exact .cons a (ih n)
theorem o_sl {K : PySem.W.Frag} : Op3 K (rSlX K) fSl := by
  intro ρ S H v x z lo hi S' Q R rv eq q
  unfold fSl at eq
  split at eq
  · rename_i w
    split at eq
    · rename_i hz
      cases eq
      rw [vr_str rv]
      exact .inl ⟨w, rfl, hz, q _ _ ρ R (Le.refl ρ H) (.str _)⟩
    · cases eq
  · rename_i ps
    cases eq
    obtain ⟨a, vs, rfl, ha, da⟩ := vr_tuple rv
    refine .inr (.inl ⟨a, vs, rfl, ha, fun ⟨e1, e2⟩ => ?_, fun _ => new_tuple R (dpall_cut da lo hi) q⟩)
    refine q _ _ ρ R (Le.refl ρ H) ?_
    have e : cutL ps lo hi = ps := by
      unfold cutL
      rw [← dpall_len da, e1, e2, List.drop_zero, Nat.sub_zero, dpall_len da, List.take_length]
    rw [e]
    exact rv
  · obtain ⟨ps, hp, e⟩ := Option.map_eq_some_iff.mp eq
    cases e
    obtain ⟨a, vs, rfl, ha, da⟩ := lstD_ok R rv hp
    exact .inr (.inr ⟨a, vs, rfl, ha, new_list R (dpall_cut da lo hi) q⟩)
theorem o_slN {K : PySem.W.Frag} : Op3 K (rSlX K) fSlN := by
  intro ρ S H v x z lo hi S' Q R rv eq q
  unfold fSlN at eq
  split at eq
  · rename_i i
    obtain ⟨a, hi', rfl⟩ := rv
    split at eq
    · rename_i xs hS
      cases eq
      obtain ⟨vs, hv, vr⟩ := R.ob i a _ hi' hS
      refine .inr (.inr ⟨a, vs, rfl, SqL.of hv, new_lst R ?_ q⟩)
      unfold cutV cutL
      rw [Paired.length vr]
      exact vrs_take (vrs_drop vr _) _
    · cases eq
  · cases eq
/-- the parts of a slice -/
def rP (K : PySem.W.Frag) (W : WX) : Option M → TO
  | none => tNoPart
  | some m => tPart (rE K W m)
structure PP (X : Cx) (W : WX) (e : Option Expr) (m : Option M) : Prop where
  po : PO X e (rP X.K W m)
theorem pp_none {X : Cx} {W : WX} : PP X W none none := ⟨po_none⟩
theorem pp_some {X : Cx} {W : WX} {e : Expr} {m : M} (h : PX X W e m) : PP X W (some e) (some m) := ⟨po_some h.pe⟩
theorem rP_bnd {K : PySem.W.Frag} {W : WX} {σ : L2.St} {ρ : Rg} {H : Hp} {S : Sto} {ev : Ev} {Q : VK} {m : Option M} {k : Option Int → M} {T : Option Int → Hp → Prop} (R : RS K ρ S H) (E : ER K ρ H σ ev) (h : Pn K W σ (bndP m k ev S) ρ H Q)
    (hk : ∀ H1 x S1 ρ1, RS K ρ1 S1 H1 → ER K ρ1 H1 σ ev → Le ρ H ρ1 H1 → Pn K W σ (k x ev S1) ρ1 H1 Q → T x H1) : rP K W m σ H T := by
  cases m with
  | none => exact hk H none S ρ R E (Le.refl ρ H) h
  | some m =>
    refine rE_bnd R E h fun v H1 x S1 ρ1 R1 E1 l1 rv p1 => ?_
    split at p1
    · rename_i i
      exact ⟨i, vr_int rv, hk H1 (some i) S1 ρ1 R1 E1 l1 p1⟩
    · obtain ⟨_, _, z, _⟩ := p1
      cases z
theorem px_slice {X : Cx} {W : WX} {f : F3} {e : Expr} {lo hi : Option Expr} {me : M} {ml mh : Option M} {p2 pos : Pos} (o : Op3 X.K (rSlX X.K) f) (he : PX X W e me) (hl : PP X W lo ml) (hh : PP X W hi mh) : PX X W (.Subscript e (.Slice lo hi none p2) pos) (mSl f me ml mh) :=
  PX.of (pe_slice sl_any he.pe hl.po hh.po) fun σ H Q ev S ρ R E p => by
    refine rE_bnd R E p fun v H1 x S1 ρ1 R1 E1 l1 rv p1 => ?_
    refine rP_bnd R1 E1 p1 fun H2 l S2 ρ2 R2 E2 l2 p2 => ?_
    refine rP_bnd R2 E2 p2 fun H3 h S3 ρ3 R3 E3 l3 p3 => ?_
    obtain ⟨z, S', eq, q⟩ := pn_lift p3
    exact o ρ3 S3 H3 v x z l h S' Q R3 (VR.mono (l2.trans l3) rv) eq q
end Lv
end
section
set_option Elab.async false
set_option linter.all false
set_option autoImplicit false
set_option maxRecDepth 100000
set_option maxHeartbeats 2000000
namespace Lv
open PySem PySem.Spec PyProof.Rows L2

theorem pn_none {K : PySem.W.Frag} {W : WX} {σ : L2.St} {ρ : Rg} {H : Hp} {Q : VK} (h : Pn K W σ none ρ H Q) : False := by
  obtain ⟨_, _, z, _⟩ := h
  cases z
/-! ### tests -/
abbrev rT (K : PySem.W.Frag) (W : WX) (m : M) : TT := tTest (rE K W m)
structure TX (X : Cx) (W : WX) (e : Expr) (m : M) : Prop where
  pt : PT X e (rT X.K W m)
theorem PT.imp {X : Cx} {e : Expr} {t t' : TT} (h : PT X e t) (i : ∀ σ H Q, t' σ H Q → t σ H Q) : PT X e t' := ⟨fun pins s σ H Q I q => h.run pins s σ H Q I (i σ H Q q)⟩
/-- a test of a def that gives a bool, then the rest -/
def bndB (m : M) (k : Bool → M) : M := bnd m fun x => match x with
  | .d (.bool b) => k b
  | _ => fun _ _ => none
theorem rT_bnd {K : PySem.W.Frag} {W : WX} {σ : L2.St} {ρ : Rg} {H : Hp} {S : Sto} {ev : Ev} {Q : VK} {m : M} {k : Bool → M} {T : Bool → Hp → Prop} (R : RS K ρ S H) (E : ER K ρ H σ ev) (h : Pn K W σ (bndB m k ev S) ρ H Q)
    (hk : ∀ H1 b S1 ρ1, RS K ρ1 S1 H1 → ER K ρ1 H1 σ ev → Le ρ H ρ1 H1 → Pn K W σ (k b ev S1) ρ1 H1 Q → T b H1) : rT K W m σ H T := by
  refine rE_bnd R E h fun v H1 x S1 ρ1 R1 E1 l1 rv p1 => ?_
  split at p1
  · rename_i b
    exact ⟨b, vr_bl rv, hk H1 b S1 ρ1 R1 E1 l1 p1⟩
  · exact (pn_none p1).elim
section
variable {X : Cx} {W : WX} {a b c : Expr} {ma mb mc : M} {pos : Pos} {r r' r'' : R2} {f f' f'' : F2} {rest : List Expr}
theorem tx_cmp {op : CmpOp} (ho : OpR X (compareOp op) r) (o : Op2 X.K r f) (ha : PX X W a ma) (hb : PX X W b mb) (hm : behindInMarks op b = false) : TX X W (.Compare a [op] [b] pos) (mOp f ma mb) :=
  ⟨PT.imp (pt_cmpR ho ha.pe hb.pe hm) fun σ H Q ⟨ev, S, ρ, R, E, p⟩ => rE_op2 o R E p⟩
theorem tx_val (h : PX X W a ma) (he : ∀ whole, isTrue a X.env whole = (do let v ← whole; standAt a.pos; holding [v] (truthy v)) := by intro _; rfl) : TX X W a ma := ⟨pt_val h.pe he⟩
def mNot (m : M) : M := bndB m fun b => mBool (!b)
def mAnd (a b : M) : M := bndB a fun c => if c = true then b else mBool false
def mOr (a b : M) : M := bndB a fun c => if c = true then mBool true else b
def mIf (c a b : M) : M := bndB c fun t => if t = true then a else b
theorem pn_bool {K : PySem.W.Frag} {σ : L2.St} {ρ : Rg} {H : Hp} {S : Sto} {ev : Ev} {Q : VK} {b : Bool} (R : RS K ρ S H) (h : Pn K W σ (mBool b ev S) ρ H Q) : Q (.bl b) H := h.ok R (Le.refl ρ H) (.bl b)
theorem tx_not (h : TX X W a ma) : TX X W (.UnaryOp .Not a pos) (mNot ma) :=
  ⟨PT.imp (pt_not h.pt) fun σ H Q ⟨ev, S, ρ, R, E, p⟩ => by
    refine rT_bnd R E p fun H1 b S1 ρ1 R1 E1 l1 p1 => ?_
    obtain ⟨c, e, q⟩ := pn_bool R1 p1
    cases e
    exact q⟩
theorem px_not (h : PX X W a ma) : PX X W (.UnaryOp .Not a pos) (mNot ma) :=
  PX.of (pe_not h.pe) fun σ H Q ev S ρ R E p => by
    refine rT_bnd R E p fun H1 b S1 ρ1 R1 E1 l1 p1 => ?_
    exact pn_bool R1 p1
/-- a chain of and, or: the last is alone -/
structure WXx (X : Cx) (W : WX) (e : Expr) (m : M) : Prop where
  pw : PW X e (rT X.K W m)
theorem PW.imp {e : Expr} {t t' : TT} (h : PW X e t) (i : ∀ σ H Q, t' σ H Q → t σ H Q) : PW X e t' := ⟨fun wh pins s σ H Q I q => h.run wh pins s σ H Q I (i σ H Q q)⟩
theorem wx_and1 (h : TX X W a ma) : WXx X W (.BoolOp .And [a] pos) ma := ⟨pw_and1 h.pt⟩
theorem wx_or1 (h : TX X W a ma) : WXx X W (.BoolOp .Or [a] pos) ma := ⟨pw_or1 h.pt⟩
theorem wx_and (ha : TX X W a ma) (hb : WXx X W (.BoolOp .And (b :: rest) pos) mb) : WXx X W (.BoolOp .And (a :: b :: rest) pos) (mAnd ma mb) :=
  ⟨PW.imp (pw_and ha.pt hb.pw) fun σ H Q ⟨ev, S, ρ, R, E, p⟩ => by
    refine rT_bnd R E p fun H1 b S1 ρ1 R1 E1 l1 p1 => ?_
    cases b with
    | true => exact ⟨ev, S1, ρ1, R1, E1, p1⟩
    | false =>
      obtain ⟨c, e, q⟩ := pn_bool R1 p1
      cases e
      exact q⟩
theorem wx_or (ha : TX X W a ma) (hb : WXx X W (.BoolOp .Or (b :: rest) pos) mb) : WXx X W (.BoolOp .Or (a :: b :: rest) pos) (mOr ma mb) :=
  ⟨PW.imp (pw_or ha.pt hb.pw) fun σ H Q ⟨ev, S, ρ, R, E, p⟩ => by
    refine rT_bnd R E p fun H1 b S1 ρ1 R1 E1 l1 p1 => ?_
    cases b with
    | false => exact ⟨ev, S1, ρ1, R1, E1, p1⟩
    | true =>
      obtain ⟨c, e, q⟩ := pn_bool R1 p1
      cases e
      exact q⟩
theorem WXx.tx {e : Expr} {m : M} (h : WXx X W e m) : TX X W e m := ⟨h.pw.pt⟩
theorem px_one {op} (h : PX X W a ma) : PX X W (.BoolOp op [a] pos) ma := ⟨pe_one h.pe⟩
theorem px_and (ha : PX X W a ma) (hb : PX X W (.BoolOp .And (b :: rest) pos) mb) : PX X W (.BoolOp .And (a :: b :: rest) pos) (mAnd ma mb) :=
  PX.of (pe_and ha.pe hb.pe) fun σ H Q ev S ρ R E p => by
    refine rT_bnd R E p fun H1 b S1 ρ1 R1 E1 l1 p1 => ?_
    cases b with
    | true => exact ⟨ev, S1, ρ1, R1, E1, p1⟩
    | false => exact pn_bool R1 p1
theorem px_or (ha : PX X W a ma) (hb : PX X W (.BoolOp .Or (b :: rest) pos) mb) : PX X W (.BoolOp .Or (a :: b :: rest) pos) (mOr ma mb) :=
  PX.of (pe_or ha.pe hb.pe) fun σ H Q ev S ρ R E p => by
    refine rT_bnd R E p fun H1 b S1 ρ1 R1 E1 l1 p1 => ?_
    cases b with
    | false => exact ⟨ev, S1, ρ1, R1, E1, p1⟩
    | true => exact pn_bool R1 p1
theorem px_if (hc : TX X W c mc) (ha : PX X W a ma) (hb : PX X W b mb) : PX X W (.IfExp c a b pos) (mIf mc ma mb) :=
  PX.of (pe_ifExp hc.pt ha.pe hb.pe) fun σ H Q ev S ρ R E p => by
    refine rT_bnd R E p fun H1 b S1 ρ1 R1 E1 l1 p1 => ?_
    cases b with
    | false => exact ⟨ev, S1, ρ1, R1, E1, p1⟩
    | true => exact ⟨ev, S1, ρ1, R1, E1, p1⟩

/-! ### a < b < c -/
def lif2 (f : F2) (x y : Val) : M := fun _ S => lift (f x y S)
def mCh2 (f f' : F2) (a b c : M) : M := bnd a fun x => bnd b fun y => bndB (lif2 f x y) fun t => if t = true then bnd c fun w => lif2 f' y w else mBool false
def mCh3 (f f' f'' : F2) (a b c d : M) : M := bnd a fun x => bnd b fun y => bndB (lif2 f x y) fun t => if t = true then bnd c fun w => bndB (lif2 f' y w) fun t' => if t' = true then bnd d fun u => lif2 f'' w u else mBool false else mBool false
/-- one link: by values -/
theorem link_ok {K : PySem.W.Frag} {σ : L2.St} {ρ : Rg} {H : Hp} {S : Sto} {ev : Ev} {Q : VK} {x y : Val} {v u : V} {k : Bool → M} {T : Bool → Hp → Prop} (o : Op2 K r f) (R : RS K ρ S H) (E : ER K ρ H σ ev) (rv : VR K ρ H v x) (ru : VR K ρ H u y)
    (h : Pn K W σ (bndB (lif2 f x y) k ev S) ρ H Q) (hk : ∀ H1 b S1 ρ1, RS K ρ1 S1 H1 → ER K ρ1 H1 σ ev → Le ρ H ρ1 H1 → Pn K W σ (k b ev S1) ρ1 H1 Q → T b H1) : r v u H fun z H3 => ∃ b, z = .bl b ∧ T b H3 := by
  have g : rT K W (lif2 f x y) σ H T := rT_bnd R E h hk
  unfold bndB bnd lif2 at h
  cases hf : f x y S with
  | none =>
    rw [hf] at h
    exact (pn_none h).elim
  | some p =>
    obtain ⟨z, S'⟩ := p
    rw [hf] at h
    refine o ρ S H v u x y z S' _ R rv ru hf fun w H' ρ' R' l' rw' => ?_
    simp only [lift] at h
    split at h
    · rename_i b
      exact ⟨b, vr_bl rw', hk H' b S' ρ' R' (E.mono l') l' (h.le l')⟩
    · exact (pn_none h).elim
theorem rE_ch2 {K : PySem.W.Frag} {σ : L2.St} {ρ : Rg} {H : Hp} {S : Sto} {ev : Ev} {Q : VK} (o : Op2 K r f) (o' : Op2 K r' f') (R : RS K ρ S H) (E : ER K ρ H σ ev) (p : Pn K W σ (mCh2 f f' ma mb mc ev S) ρ H Q) : tChain r r' (rE K W ma) (rE K W mb) (rE K W mc) σ H Q := by
  refine rE_bnd R E p fun v H1 x S1 ρ1 R1 E1 l1 rv p1 => ?_
  refine rE_bnd R1 E1 p1 fun u H2 y S2 ρ2 R2 E2 l2 ru p2 => ?_
  refine link_ok o R2 E2 (VR.mono l2 rv) ru p2 fun H3 b S3 ρ3 R3 E3 l3 p3 => ?_
  cases b with
  | false =>
    rw [if_neg Bool.false_ne_true] at p3 ⊢
    exact pn_bool R3 p3
  | true =>
    rw [if_pos rfl] at p3 ⊢
    refine rE_bnd R3 E3 p3 fun w H4 z S4 ρ4 R4 E4 l4 rw' p4 => ?_
    obtain ⟨t, S', eq, q⟩ := pn_lift p4
    exact o' ρ4 S4 H4 u w y z t S' Q R4 (VR.mono (l3.trans l4) ru) rw' eq q
theorem px_ch2 {op op' : CmpOp} (ho : OpR X (compareOp op) r) (o : Op2 X.K r f) (ho' : OpR X (compareOp op') r') (o' : Op2 X.K r' f') (ha : PX X W a ma) (hb : PX X W b mb) (hc : PX X W c mc) (hm : lastMarks [op, op'] [b, c] = false := by with_unfolding_all rfl) :
    PX X W (.Compare a [op, op'] [b, c] pos) (mCh2 f f' ma mb mc) := PX.of (pe_chain ho ho' ha.pe hb.pe hc.pe hm) fun σ H Q ev S ρ R E p => rE_ch2 o o' R E p
theorem tx_ch2 {op op' : CmpOp} (ho : OpR X (compareOp op) r) (o : Op2 X.K r f) (ho' : OpR X (compareOp op') r') (o' : Op2 X.K r' f') (ha : PX X W a ma) (hb : PX X W b mb) (hc : PX X W c mc) (hm : lastMarks [op, op'] [b, c] = false := by with_unfolding_all rfl) :
    TX X W (.Compare a [op, op'] [b, c] pos) (mCh2 f f' ma mb mc) := ⟨PT.imp (pt_chain ho ho' ha.pe hb.pe hc.pe hm) fun σ H Q ⟨ev, S, ρ, R, E, p⟩ => rE_ch2 o o' R E p⟩
/-- four in a row -/
def tChain3 (r r' r'' : R2) (ta tb tc td : TE) : TE := fun σ H Q => ta σ H fun x H1 => tb σ H1 fun y H2 => r x y H2 fun z H3 => ∃ k, z = .bl k ∧
  (if k = true then tc σ H3 fun w' H4 => r' y w' H4 fun z' H5 => ∃ k', z' = .bl k' ∧ (if k' = true then td σ H5 fun u' H6 => r'' w' u' H6 Q else Q (.bl false) H5) else Q (.bl false) H3)
variable {d : Expr} {ta tb tc td : TE} {md : M}
theorem pe_chain3 {op op' op'' : CmpOp} (ho : OpR X (compareOp op) r) (ho' : OpR X (compareOp op') r') (ho'' : OpR X (compareOp op'') r'') (ha : PE X a ta) (hb : PE X b tb) (hc : PE X c tc) (hd : PE X d td)
    (hm : lastMarks [op, op', op''] [b, c, d] = false := by with_unfolding_all rfl) : PE X (.Compare a [op, op', op''] [b, c, d] pos) (tChain3 r r' r'' ta tb tc td) := by
  refine ⟨fun pins s σ H Q I h => ?_⟩
  refine Compare_chain (thn (ha.run pins s σ H _ I h) fun v s1 ⟨x, H1, I1, r1, q1⟩ => chain_link (thn (hb.run pins s1 σ H1 _ I1 q1) fun u s2 ⟨y, H2, I2, r2, q2⟩ =>
    thn (ho pins s2 σ H2 x y v u _ I2 r1 r2 q2) fun dv s3 ⟨z, H3, I3, r3, k, e, q3⟩ => ?_)) hm
  subst e
  cases r3
  refine wpAny_truthy_bool ?_
  cases k with
  | false => exact ite_ff ⟨.bl false, H3, I3, rfl, q3⟩
  | true =>
    refine ite_tt (chain_link (thn (hc.run pins s3 σ H3 _ I3 q3) fun w' s4 ⟨z', H4, I4, r4, q4⟩ => thn (ho' pins s4 σ H4 y z' u w' _ I4 r2 r4 q4) fun dv' s5 ⟨z2, H5, I5, r5, k2, e2, q5⟩ => ?_))
    subst e2
    cases r5
    refine wpAny_truthy_bool ?_
    cases k2 with
    | false => exact ite_ff ⟨.bl false, H5, I5, rfl, q5⟩
    | true => exact ite_tt (chain_last (thn (hd.run pins s5 σ H5 _ I5 q5) fun w2 s6 ⟨z3, H6, I6, r6, q6⟩ => ho'' pins s6 σ H6 z' z3 w' w2 Q I6 r4 r6 q6))
theorem pt_chain3 {op op' op'' : CmpOp} (ho : OpR X (compareOp op) r) (ho' : OpR X (compareOp op') r') (ho'' : OpR X (compareOp op'') r'') (ha : PE X a ta) (hb : PE X b tb) (hc : PE X c tc) (hd : PE X d td)
    (hm : lastMarks [op, op', op''] [b, c, d] = false := by with_unfolding_all rfl) : PT X (.Compare a [op, op', op''] [b, c, d] pos) (tTest (tChain3 r r' r'' ta tb tc td)) := by
  refine ⟨fun pins s σ H Q I h => ?_⟩
  refine isTrue_chain (thn (ha.run pins s σ H _ I h) fun v s1 ⟨x, H1, I1, r1, q1⟩ => test_link (thn (hb.run pins s1 σ H1 _ I1 q1) fun u s2 ⟨y, H2, I2, r2, q2⟩ =>
    thn (ho pins s2 σ H2 x y v u _ I2 r1 r2 q2) fun dv s3 ⟨z, H3, I3, r3, k, e, q3⟩ => ?_)) hm
  subst e
  cases r3
  refine wpAny_truthy_bool ?_
  cases k with
  | false =>
    obtain ⟨k', e', q'⟩ := q3
    cases e'
    exact ite_ff ⟨H3, I3, q'⟩
  | true =>
    refine ite_tt (test_link (thn (hc.run pins s3 σ H3 _ I3 q3) fun w' s4 ⟨z', H4, I4, r4, q4⟩ => thn (ho' pins s4 σ H4 y z' u w' _ I4 r2 r4 q4) fun dv' s5 ⟨z2, H5, I5, r5, k2, e2, q5⟩ => ?_))
    subst e2
    cases r5
    refine wpAny_truthy_bool ?_
    cases k2 with
    | false =>
      obtain ⟨k', e', q'⟩ := q5
      cases e'
      exact ite_ff ⟨H5, I5, q'⟩
    | true =>
      refine ite_tt (test_last (thn (hd.run pins s5 σ H5 _ I5 q5) fun w2 s6 ⟨z3, H6, I6, r6, q6⟩ => thn (ho'' pins s6 σ H6 z' z3 w' w2 _ I6 r4 r6 q6) fun c2 s7 ⟨z4, H7, I7, r7, k3, e3, q7⟩ => ?_))
      subst e3
      cases r7
      exact wpAny_truthy_bool ⟨H7, I7, q7⟩
theorem rE_ch3 {K : PySem.W.Frag} {σ : L2.St} {ρ : Rg} {H : Hp} {S : Sto} {ev : Ev} {Q : VK} (o : Op2 K r f) (o' : Op2 K r' f') (o'' : Op2 K r'' f'') (R : RS K ρ S H) (E : ER K ρ H σ ev) (p : Pn K W σ (mCh3 f f' f'' ma mb mc md ev S) ρ H Q) :
    tChain3 r r' r'' (rE K W ma) (rE K W mb) (rE K W mc) (rE K W md) σ H Q := by
  refine rE_bnd R E p fun v H1 x S1 ρ1 R1 E1 l1 rv p1 => ?_
  refine rE_bnd R1 E1 p1 fun u H2 y S2 ρ2 R2 E2 l2 ru p2 => ?_
  refine link_ok o R2 E2 (VR.mono l2 rv) ru p2 fun H3 b S3 ρ3 R3 E3 l3 p3 => ?_
  cases b with
  | false =>
    rw [if_neg Bool.false_ne_true] at p3 ⊢
    exact pn_bool R3 p3
  | true =>
    rw [if_pos rfl] at p3 ⊢
    refine rE_bnd R3 E3 p3 fun w H4 z S4 ρ4 R4 E4 l4 rw' p4 => ?_
    refine link_ok o' R4 E4 (VR.mono (l3.trans l4) ru) rw' p4 fun H5 b S5 ρ5 R5 E5 l5 p5 => ?_
    cases b with
    | false =>
      rw [if_neg Bool.false_ne_true] at p5 ⊢
      exact pn_bool R5 p5
    | true =>
      rw [if_pos rfl] at p5 ⊢
      refine rE_bnd R5 E5 p5 fun w2 H6 z2 S6 ρ6 R6 E6 l6 rw2 p6 => ?_
      obtain ⟨t, S', eq, q⟩ := pn_lift p6
      exact o'' ρ6 S6 H6 w w2 z z2 t S' Q R6 (VR.mono (l5.trans l6) rw') rw2 eq q
theorem px_ch3 {op op' op'' : CmpOp} (ho : OpR X (compareOp op) r) (o : Op2 X.K r f) (ho' : OpR X (compareOp op') r') (o' : Op2 X.K r' f') (ho'' : OpR X (compareOp op'') r'') (o'' : Op2 X.K r'' f'') (ha : PX X W a ma) (hb : PX X W b mb) (hc : PX X W c mc) (hd : PX X W d md)
    (hm : lastMarks [op, op', op''] [b, c, d] = false := by with_unfolding_all rfl) : PX X W (.Compare a [op, op', op''] [b, c, d] pos) (mCh3 f f' f'' ma mb mc md) := PX.of (pe_chain3 ho ho' ho'' ha.pe hb.pe hc.pe hd.pe hm) fun σ H Q ev S ρ R E p => rE_ch3 o o' o'' R E p
theorem tx_ch3 {op op' op'' : CmpOp} (ho : OpR X (compareOp op) r) (o : Op2 X.K r f) (ho' : OpR X (compareOp op') r') (o' : Op2 X.K r' f') (ho'' : OpR X (compareOp op'') r'') (o'' : Op2 X.K r'' f'') (ha : PX X W a ma) (hb : PX X W b mb) (hc : PX X W c mc) (hd : PX X W d md)
    (hm : lastMarks [op, op', op''] [b, c, d] = false := by with_unfolding_all rfl) : TX X W (.Compare a [op, op', op''] [b, c, d] pos) (mCh3 f f' f'' ma mb mc md) := ⟨PT.imp (pt_chain3 ho ho' ho'' ha.pe hb.pe hc.pe hd.pe hm) fun σ H Q ⟨ev, S, ρ, R, E, p⟩ => rE_ch3 o o' o'' R E p⟩
end

/-! ### argument lists, displays, built-ins by name -/
def args : List M → (List Val → M) → M
  | [], k => k []
  | m :: r, k => bnd m fun x => args r fun xs => k (x :: xs)
def rA (K : PySem.W.Frag) (W : WX) : List M → TA
  | [] => tNil
  | m :: r => tCons (rE K W m) (rA K W r)
structure AX (X : Cx) (W : WX) (es : List Expr) (ms : List M) : Prop where
  pa : PA X es (rA X.K W ms)
section
variable {X : Cx} {W : WX}
theorem ax_nil : AX X W [] [] := ⟨pa_nil⟩
theorem ax_cons {e : Expr} {es : List Expr} {m : M} {ms : List M} (h : PX X W e m) (hr : AX X W es ms) (hs : starEach (e :: es) X.env = (false, eval e X.env) :: starEach es X.env := by rfl) : AX X W (e :: es) (m :: ms) := ⟨pa_cons h.pe hr.pa hs⟩
end
theorem rA_bnd {K : PySem.W.Frag} {W : WX} {σ : L2.St} {Q : VK} {ev : Ev} : ∀ {ms : List M} {ρ : Rg} {H : Hp} {S : Sto} {k : List Val → M} {T : List V → Hp → Prop}, RS K ρ S H → ER K ρ H σ ev → Pn K W σ (args ms k ev S) ρ H Q →
    (∀ vs H1 xs S1 ρ1, RS K ρ1 S1 H1 → ER K ρ1 H1 σ ev → Le ρ H ρ1 H1 → VRs K ρ1 H1 vs xs → Pn K W σ (k xs ev S1) ρ1 H1 Q → T vs H1) → rA K W ms σ H T
  | [], ρ, H, S, k, T, R, E, h, hk => hk [] H [] S ρ R E (Le.refl ρ H) .nil h
  | m :: ms, ρ, H, S, k, T, R, E, h, hk => by
    refine rE_bnd R E h fun v H1 x S1 ρ1 R1 E1 l1 rv p1 => ?_
    exact rA_bnd (T := fun xs H2 => T (v :: xs) H2) R1 E1 p1 fun vs H2 xs S2 ρ2 R2 E2 l2 rvs p2 => hk (v :: vs) H2 (x :: xs) S2 ρ2 R2 E2 (l1.trans l2) (.cons (VR.mono l2 rv) rvs) p2
abbrev FN := List Val → Sto → Option (Val × Sto)
def OpN (K : PySem.W.Frag) (r : List V → Hp → VK → Prop) (f : FN) : Prop :=
  ∀ (ρ : Rg) (S : Sto) (H : Hp) (vs : List V) (xs : List Val) (z : Val) (S' : Sto) (Q : VK), RS K ρ S H → VRs K ρ H vs xs → f xs S = some (z, S') → Fin K ρ H z S' Q → r vs H Q
def mFn (f : FN) (ms : List M) : M := args ms fun xs => fun _ S => lift (f xs S)
theorem toDs_ok {K : PySem.W.Frag} {ρ : Rg} {H : Hp} {vs : List V} {xs : List Val} {ps : List PyData} (h : toDs xs = some ps) (r : VRs K ρ H vs xs) : DpAll K (frz ρ H) vs ps := toDs_vrs h r
/-- (a, b, ..), [a, b, ..]: frozen, or (where something mutable stands in it, or is wanted so) in the store -/
def fTup : FN := fun xs S => if xs.length ≤ sizeLine then (match toDs xs with
  | some ps => some (.d (.tuple ps), S)
  | none => some (.ref S.length, S ++ [.tup xs])) else none
def fLst : FN := fun xs S => if xs.length ≤ sizeLine then (toDs xs).map fun ps => (.d (.list ps), S) else none
def fLstN : FN := fun xs S => if xs.length ≤ sizeLine then some (.ref S.length, S ++ [.lst xs]) else none
section
variable {X : Cx} {W : WX} {es : List Expr} {ms : List M} {pos : Pos}
theorem px_tup {x1} (h : AX X W es ms) : PX X W (.Tuple es x1 pos) (mFn fTup ms) := PX.of (pe_tup h.pa) fun σ H Q ev S ρ R E p => by
  refine rA_bnd R E p fun vs H1 xs S1 ρ1 R1 E1 l1 rvs p1 => ?_
  obtain ⟨z, S', eq, q⟩ := pn_lift p1
  unfold fTup at eq
  split at eq
  · rename_i hz
    refine ⟨by rw [Paired.length rvs]; exact hz, ?_⟩
    split at eq
    · rename_i ps hp
      cases eq
      exact new_tuple R1 (toDs_vrs hp rvs) q
    · cases eq
      exact new_tup R1 rvs q
  · cases eq
theorem px_lst (h : AX X W es ms) : PX X W (.List es pos) (mFn fLst ms) := PX.of (pe_lst h.pa) fun σ H Q ev S ρ R E p => by
  refine rA_bnd R E p fun vs H1 xs S1 ρ1 R1 E1 l1 rvs p1 => ?_
  obtain ⟨z, S', eq, q⟩ := pn_lift p1
  unfold fLst at eq
  split at eq
  · rename_i hz
    refine ⟨by rw [Paired.length rvs]; exact hz, ?_⟩
    obtain ⟨ps, hp, e⟩ := Option.map_eq_some_iff.mp eq
    cases e
    exact new_list R1 (toDs_vrs hp rvs) q
  · cases eq
theorem px_lstN (h : AX X W es ms) : PX X W (.List es pos) (mFn fLstN ms) := PX.of (pe_lst h.pa) fun σ H Q ev S ρ R E p => by
  refine rA_bnd R E p fun vs H1 xs S1 ρ1 R1 E1 l1 rvs p1 => ?_
  obtain ⟨z, S', eq, q⟩ := pn_lift p1
  unfold fLstN at eq
  split at eq
  · rename_i hz
    refine ⟨by rw [Paired.length rvs]; exact hz, ?_⟩
    cases eq
    exact new_lst R1 rvs q
  · cases eq
theorem rE_cb {K : PySem.W.Frag} {r : List V → Hp → VK → Prop} {f : FN} {σ : L2.St} {ρ : Rg} {H : Hp} {S : Sto} {ev : Ev} {Q : VK} (o : OpN K r f) (R : RS K ρ S H) (E : ER K ρ H σ ev) (p : Pn K W σ (mFn f ms ev S) ρ H Q) : tCB r (rA K W ms) σ H Q := by
  refine rA_bnd R E p fun vs H1 xs S1 ρ1 R1 E1 l1 rvs p1 => ?_
  obtain ⟨z, S', eq, q⟩ := pn_lift p1
  exact o ρ1 S1 H1 vs xs z S' Q R1 rvs eq q
variable {e : Expr} {x : Str} {p : Pos} {id T : String} {r : List V → Hp → VK → Prop} {f : FN}
theorem px_cb (hc : CallR X (.builtin id) r) (o : OpN X.K r f) (hg : Gl X x) (hm : X.mg x = none) (hv : bootBuiltins x = some (.builtin id)) (ha : AX X W (e :: es) ms) (hn : x ≠ "__name__" := by decide) (hdb : (x == ("__debug__" : Str)) = false := by decide)
    (hs : starEach (e :: es) X.env = (false, eval e X.env) :: starEach es X.env := by rfl) (hpl : (backTo pos (starEach es X.env)).any (·.1) = false := by rfl) : PX X W (.Call (.Name x p) (e :: es) [] pos) (mFn f ms) :=
  PX.of (pe_callB hc hg hm hv ha.pa hn hdb hs hpl) fun σ H Q ev S ρ R E p => rE_cb o R E p
theorem px_cty (hc : CallR X (.type T) r) (o : OpN X.K r f) (hg : Gl X x) (hm : X.mg x = none) (hv : bootBuiltins x = some (.type T)) (ha : AX X W (e :: es) ms) (hn : x ≠ "__name__" := by decide) (hdb : (x == ("__debug__" : Str)) = false := by decide)
    (hs : starEach (e :: es) X.env = (false, eval e X.env) :: starEach es X.env := by rfl) (hpl : (backTo pos (starEach es X.env)).any (·.1) = false := by rfl) : PX X W (.Call (.Name x p) (e :: es) [] pos) (mFn f ms) :=
  PX.of (pe_callTy hc hg hm hv ha.pa hn hdb hs hpl) fun σ H Q ev S ρ R E p => rE_cb o R E p
end
theorem vrs1 {K : PySem.W.Frag} {ρ : Rg} {H : Hp} {vs : List V} {x : Val} (r : VRs K ρ H vs [x]) : ∃ v, vs = [v] ∧ VR K ρ H v x := by
  cases r with
  | cons a t =>
    cases t
    exact ⟨_, rfl, a⟩
theorem vrs2 {K : PySem.W.Frag} {ρ : Rg} {H : Hp} {vs : List V} {x y : Val} (r : VRs K ρ H vs [x, y]) : ∃ v u, vs = [v, u] ∧ VR K ρ H v x ∧ VR K ρ H u y := by
  cases r with
  | cons a t =>
    obtain ⟨u, rfl, b⟩ := vrs1 t
    exact ⟨_, u, rfl, a, b⟩
end Lv
end
section
set_option Elab.async false
set_option linter.all false
set_option autoImplicit false
set_option maxRecDepth 100000
set_option maxHeartbeats 2000000
namespace Lv
open PySem PySem.Spec PyProof.Rows L2

inductive Fl where
  | nx
  | bk
  | ct
  | rt (x : Val)
  | er (e : Xn)
abbrev MS := Ev → Sto → Option (Fl × Ev × Sto)
def PnS (K : PySem.W.Frag) (W : WX) (D : Ends) (o : Option (Fl × Ev × Sto)) (ρ : Rg) (H : Hp) : Prop := ∃ f e' S', o = some (f, e', S') ∧ match f with
  | .nx => ∀ σ' H' ρ', RS K ρ' S' H' → Le ρ H ρ' H' → ER K ρ' H' σ' e' → D.nx σ' H'
  | .bk => ∀ σ' H' ρ', RS K ρ' S' H' → Le ρ H ρ' H' → ER K ρ' H' σ' e' → D.bk σ' H'
  | .ct => ∀ σ' H' ρ', RS K ρ' S' H' → Le ρ H ρ' H' → ER K ρ' H' σ' e' → D.ct σ' H'
  | .rt x => ∀ v H' ρ', RS K ρ' S' H' → Le ρ H ρ' H' → VR K ρ' H' v x → D.rt v H'
  | .er x => ∀ c d σ' H' ρ', RS K ρ' S' H' → Le ρ H ρ' H' → ER K ρ' H' σ' e' → XR K ρ' H' c d x → W c d σ' H'
def rS (K : PySem.W.Frag) (W : WX) (m : MS) : TS := fun D σ H => ∃ e S ρ, RS K ρ S H ∧ ER K ρ H σ e ∧ PnS K W D (m e S) ρ H
def bndS (m : M) (k : Val → MS) : MS := fun e S => match m e S with
  | none => none
  | some (.er x, S1) => some (.er x, e, S1)
  | some (.ok x, S1) => k x e S1
section
variable {K : PySem.W.Frag} {W : WX} {D : Ends} {ρ ρ1 ρ' : Rg} {H H1 H' : Hp} {S S' : Sto} {σ : L2.St} {e e' : Ev} {o : Option (Fl × Ev × Sto)}
theorem pns_none (h : PnS K W D none ρ H) : False := by
  obtain ⟨_, _, _, z, _⟩ := h
  cases z
theorem PnS.le (l : Le ρ H ρ1 H1) (h : PnS K W D o ρ H) : PnS K W D o ρ1 H1 := by
  obtain ⟨f, e', S', eq, q⟩ := h
  refine ⟨f, e', S', eq, ?_⟩
  cases f with
  | nx => exact fun a b c d l' r => q a b c d (l.trans l') r
  | bk => exact fun a b c d l' r => q a b c d (l.trans l') r
  | ct => exact fun a b c d l' r => q a b c d (l.trans l') r
  | rt x => exact fun a b c d l' r => q a b c d (l.trans l') r
  | er x => exact fun a b c d g i l' => q a b c d g i (l.trans l')
theorem PnS.nx (h : PnS K W D (some (.nx, e', S')) ρ H) {σ' : L2.St} (R : RS K ρ' S' H') (l : Le ρ H ρ' H') (E : ER K ρ' H' σ' e') : D.nx σ' H' := by
  obtain ⟨f, e2, S2, eq, q⟩ := h
  cases eq
  exact q σ' H' ρ' R l E
theorem PnS.rt {x : Val} (h : PnS K W D (some (.rt x, e', S')) ρ H) {v : V} (R : RS K ρ' S' H') (l : Le ρ H ρ' H') (E : VR K ρ' H' v x) : D.rt v H' := by
  obtain ⟨f, e2, S2, eq, q⟩ := h
  cases eq
  exact q v H' ρ' R l E
theorem rE_bndS {m : M} {k : Val → MS} {T : VK} (R : RS K ρ S H) (E : ER K ρ H σ e) (h : PnS K W D (bndS m k e S) ρ H)
    (hk : ∀ v H1 x S1 ρ1, RS K ρ1 S1 H1 → ER K ρ1 H1 σ e → Le ρ H ρ1 H1 → VR K ρ1 H1 v x → PnS K W D (k x e S1) ρ1 H1 → T v H1) : rE K W m σ H T := by
  refine ⟨e, S, ρ, R, E, ?_⟩
  unfold bndS at h
  cases hm : m e S with
  | none =>
    rw [hm] at h
    exact (pns_none h).elim
  | some p =>
    obtain ⟨r, S1⟩ := p
    rw [hm] at h
    refine ⟨r, S1, rfl, ?_⟩
    cases r with
    | ok x => exact fun v H' ρ' a b c => hk v H' x S1 ρ' a (E.mono b) b c (h.le b)
    | er x =>
      obtain ⟨f, e2, S2, eq, q⟩ := h
      cases eq
      exact fun c d H' ρ' a b z => q c d σ H' ρ' a b (E.mono b) z
theorem rE_mono {m : M} {T T' : VK} (h : rE K W m σ H T) (i : ∀ v H', T v H' → T' v H') : rE K W m σ H T' := by
  obtain ⟨e, S, ρ, R, E, r, S', eq, q⟩ := h
  refine ⟨e, S, ρ, R, E, r, S', eq, ?_⟩
  cases r with
  | ok x => exact fun v H' ρ' a b c => i v H' (q v H' ρ' a b c)
  | er x => exact q
theorem rA_mono : ∀ {ms : List M} {H : Hp} {T T' : List V → Hp → Prop}, rA K W ms σ H T → (∀ v H', T v H' → T' v H') → rA K W ms σ H T'
  | [], _, _, _, h, i => i _ _ h
  | m :: ms, _, T, T', h, i => rE_mono h fun v H' q => rA_mono (T := fun xs H2 => T (v :: xs) H2) (T' := fun xs H2 => T' (v :: xs) H2) q fun vs H2 z => i _ _ z
def argsS : List M → (List Val → MS) → MS
  | [], k => k []
  | m :: r, k => bndS m fun x => argsS r fun xs => k (x :: xs)
theorem rA_bndS : ∀ {ms : List M} {ρ : Rg} {H : Hp} {S : Sto} {k : List Val → MS} {T : List V → Hp → Prop}, RS K ρ S H → ER K ρ H σ e → PnS K W D (argsS ms k e S) ρ H →
    (∀ vs H1 xs S1 ρ1, RS K ρ1 S1 H1 → ER K ρ1 H1 σ e → Le ρ H ρ1 H1 → VRs K ρ1 H1 vs xs → PnS K W D (k xs e S1) ρ1 H1 → T vs H1) → rA K W ms σ H T
  | [], ρ, H, S, k, T, R, E, h, hk => hk [] H [] S ρ R E (Le.refl ρ H) .nil h
  | m :: ms, ρ, H, S, k, T, R, E, h, hk => by
    refine rE_bndS R E h fun v H1 x S1 ρ1 R1 E1 l1 rv p1 => ?_
    exact rA_bndS (T := fun xs H2 => T (v :: xs) H2) R1 E1 p1 fun vs H2 xs S2 ρ2 R2 E2 l2 rvs p2 => hk (v :: vs) H2 (x :: xs) S2 ρ2 R2 E2 (l1.trans l2) (.cons (VR.mono l2 rv) rvs) p2
def bndBS (m : M) (k : Bool → MS) : MS := bndS m fun x => match x with
  | .d (.bool b) => k b
  | _ => fun _ _ => none
theorem rT_bndS {m : M} {k : Bool → MS} {T : Bool → Hp → Prop} (R : RS K ρ S H) (E : ER K ρ H σ e) (h : PnS K W D (bndBS m k e S) ρ H)
    (hk : ∀ H1 b S1 ρ1, RS K ρ1 S1 H1 → ER K ρ1 H1 σ e → Le ρ H ρ1 H1 → PnS K W D (k b e S1) ρ1 H1 → T b H1) : rT K W m σ H T := by
  refine rE_bndS R E h fun v H1 x S1 ρ1 R1 E1 l1 rv p1 => ?_
  split at p1
  · rename_i b
    exact ⟨b, vr_bl rv, hk H1 b S1 ρ1 R1 E1 l1 p1⟩
  · exact (pns_none p1).elim
end

/-! ### statements -/
structure SX (X : Cx) (W : WX) (st : Stmt) (m : MS) : Prop where
  ps : PS X st (rS X.K W m)
structure BX (X : Cx) (W : WX) (sts : List Stmt) (m : MS) : Prop where
  ps : PSs X sts (rS X.K W m)
theorem PS.imp {X : Cx} {st : Stmt} {t t' : TS} (h : PS X st t) (i : ∀ D σ H, t' D σ H → t D σ H) : PS X st t' := ⟨fun pins s σ H D I q => h.run pins s σ H D I (i D σ H q)⟩
theorem PSs.imp {X : Cx} {st : List Stmt} {t t' : TS} (h : PSs X st t) (i : ∀ D σ H, t' D σ H → t D σ H) : PSs X st t' := ⟨fun pins s σ H D I q => h.run pins s σ H D I (i D σ H q)⟩
theorem SX.of {X : Cx} {W : WX} {st : Stmt} {t : TS} {m : MS} (h : PS X st t) (i : ∀ D σ H e S ρ, RS X.K ρ S H → ER X.K ρ H σ e → PnS X.K W D (m e S) ρ H → t D σ H) : SX X W st m :=
  ⟨PS.imp h fun D σ H ⟨e, S, ρ, R, E, p⟩ => i D σ H e S ρ R E p⟩
theorem BX.of {X : Cx} {W : WX} {st : List Stmt} {t : TS} {m : MS} (h : PSs X st t) (i : ∀ D σ H e S ρ, RS X.K ρ S H → ER X.K ρ H σ e → PnS X.K W D (m e S) ρ H → t D σ H) : BX X W st m :=
  ⟨PSs.imp h fun D σ H ⟨e, S, ρ, R, E, p⟩ => i D σ H e S ρ R E p⟩
def dNext : MS := fun e S => some (.nx, e, S)
def dStuck : MS := fun _ _ => none
def dSeq (a b : MS) : MS := fun e S => match a e S with
  | some (.nx, e1, S1) => b e1 S1
  | o => o
def dSet (i : Nat) (m : M) : MS := bndS m fun x e S => some (.nx, e.set i (some x), S)
def dExpr (m : M) : MS := bndS m fun _ e S => some (.nx, e, S)
def dRet (m : M) : MS := bndS m fun x e S => some (.rt x, e, S)
def dRetN : MS := fun e S => some (.rt (.d .none), e, S)
def dIf (c : M) (a b : MS) : MS := bndBS c fun t => if t = true then a else b
section
variable {X : Cx} {W : WX} {st : Stmt} {rest : List Stmt} {a b : MS} {e : Expr} {m : M} {pos : Pos}
theorem bx_nil : BX X W [] dNext := BX.of pss_nil fun D σ H e S ρ R E p => p.nx R (Le.refl ρ H) E
theorem bx_one (h : SX X W st a) : BX X W [st] a := ⟨pss_one h.ps⟩
theorem seq_ok {K : PySem.W.Frag} {D : Ends} {σ : L2.St} {H : Hp} {ev : Ev} {S : Sto} {ρ : Rg} (R : RS K ρ S H) (E : ER K ρ H σ ev) (p : PnS K W D (dSeq a b ev S) ρ H) : rS K W a { D with nx := rS K W b D } σ H := by
  refine ⟨ev, S, ρ, R, E, ?_⟩
  unfold dSeq at p
  cases h : a ev S with
  | none =>
    rw [h] at p
    exact (pns_none p).elim
  | some r =>
    obtain ⟨f, e1, S1⟩ := r
    rw [h] at p
    refine ⟨f, e1, S1, rfl, ?_⟩
    cases f with
    | nx => exact fun σ' H' ρ' R' l E' => ⟨e1, S1, ρ', R', E', p.le l⟩
    | bk =>
      obtain ⟨f, e2, S2, eq, q⟩ := p
      cases eq
      exact q
    | ct =>
      obtain ⟨f, e2, S2, eq, q⟩ := p
      cases eq
      exact q
    | rt x =>
      obtain ⟨f, e2, S2, eq, q⟩ := p
      cases eq
      exact q
    | er x =>
      obtain ⟨f, e2, S2, eq, q⟩ := p
      cases eq
      exact q
theorem bx_cons (h1 : SX X W st a) (h2 : BX X W rest b) : BX X W (st :: rest) (dSeq a b) := BX.of (pss_cons h1.ps h2.ps) fun D σ H ev S ρ R E p => seq_ok R E p
theorem sx_pass : SX X W (.Pass pos) dNext := SX.of ps_pass fun D σ H e S ρ R E p => p.nx R (Le.refl ρ H) E
theorem sx_stuck : SX X W st dStuck := SX.of ps_never fun D σ H e S ρ R E p => (pns_none p).elim
theorem bx_stuck {sts : List Stmt} : BX X W sts dStuck := BX.of pss_never fun D σ H e S ρ R E p => (pns_none p).elim
theorem sx_expr (he : PX X W e m) (hs : swapsWith e none pos.line X.env = pure false := by rfl) : SX X W (.Expr e pos) (dExpr m) := SX.of (ps_expr he.pe hs) fun D σ H ev S ρ R E p =>
  rE_bndS R E p fun v H1 x S1 ρ1 R1 E1 l1 rv p1 => p1.nx R1 (Le.refl ρ1 H1) E1
theorem sx_ret (he : PX X W e m) : SX X W (.Return (some e) pos) (dRet m) := SX.of (ps_ret he.pe) fun D σ H ev S ρ R E p =>
  rE_bndS R E p fun v H1 x S1 ρ1 R1 E1 l1 rv p1 => p1.rt R1 (Le.refl ρ1 H1) rv
theorem sx_retN : SX X W (.Return none pos) dRetN := SX.of ps_retN fun D σ H ev S ρ R E p => p.rt R (Le.refl ρ H) .non
theorem sx_if {c : Expr} {mc : M} {as bs : List Stmt} (hc : TX X W c mc) (ha : BX X W as a) (hb : BX X W bs b) : SX X W (.If c as bs pos) (dIf mc a b) := SX.of (ps_if hc.pt ha.ps hb.ps) fun D σ H ev S ρ R E p => by
  refine rT_bndS R E p fun H1 t S1 ρ1 R1 E1 l1 p1 => ?_
  cases t with
  | true => exact ⟨ev, S1, ρ1, R1, E1, p1⟩
  | false => exact ⟨ev, S1, ρ1, R1, E1, p1⟩
theorem set_ok {K : PySem.W.Frag} {D : Ends} {σ : L2.St} {H : Hp} {ev : Ev} {S : Sto} {ρ : Rg} {i : Nat} (R : RS K ρ S H) (E : ER K ρ H σ ev) (p : PnS K W D (dSet i m ev S) ρ H) : tAsg (rE K W m) (gName i) D σ H :=
  rE_bndS R E p fun v H1 x S1 ρ1 R1 E1 l1 rv p1 => p1.nx R1 (Le.refl ρ1 H1) (E1.set rv i)
theorem sx_set {i : Nat} {x : Str} {pos' : Pos} (hN : X.N.Nodup) (he : PX X W e m) (hi : X.N[i]? = some x := by rfl) (hx : Loc X.env.scope x := by first | exact Or.inl rfl | exact Or.inr rfl) (hs : swapsWith e (some (.Name x pos')) pos.line X.env = pure false := by rfl)
    (hf : X.fn x = true ∨ X.env.scope.names.lookup x = some .local := by first | exact .inl rfl | exact .inr rfl | assumption) : SX X W (.Assign [.Name x pos'] e pos) (dSet i m) := SX.of (ps_set hN hi hx he.pe hs hf) fun D σ H ev S ρ R E p => set_ok R E p
end

/-! ### targets -/
abbrev Asg := Val → Ev → Sto → Option Ev
def aName (i : Nat) : Asg := fun x e _ => some (e.set i (some x))
def tupAt (S : Sto) : Val → Option (List Val)
  | .d (.tuple ps) => some (ps.map .d)
  | .ref i => match S[i]? with
    | some (.tup xs) => some xs
    | _ => none
  | _ => none
def setAll : List Nat → List Val → Ev → Option Ev
  | [], [], e => some e
  | i :: is, x :: xs, e => setAll is xs (e.set i (some x))
  | _, _, _ => none
def aTup (is : List Nat) : Asg := fun x e S => (tupAt S x).bind fun xs => setAll is xs e
/-- nothing but these slots is stored -/
def But (is : List Nat) (σ σ' : L2.St) : Prop := σ'.length = σ.length ∧ ∀ j, j ∉ is → σ'[j]? = σ[j]?
theorem But.set {is : List Nat} {σ σ' : L2.St} (h : But is σ σ') {i : Nat} (v : Option V) (hi : i ∈ is) : But is σ (σ'.set i v) :=
  ⟨by rw [List.length_set]; exact h.1, fun j hj => by rw [List.getElem?_set_ne (fun e : i = j => hj (e ▸ hi))]; exact h.2 j hj⟩
theorem But.refl (is : List Nat) (σ : L2.St) : But is σ σ := ⟨rfl, fun _ _ => rfl⟩
def rG (K : PySem.W.Frag) (is : List Nat) (a : Asg) : TG := fun v σ H Q => ∃ e S ρ x e', RS K ρ S H ∧ ER K ρ H σ e ∧ VR K ρ H v x ∧ a x e S = some e' ∧ ∀ σ', ER K ρ H σ' e' → But is σ σ' → Q σ' H
structure GX (X : Cx) (tg : Expr) (is : List Nat) (a : Asg) : Prop where
  pg : PG X tg (rG X.K is a)
theorem PG.imp {X : Cx} {tg : Expr} {t t' : TG} (h : PG X tg t) (i : ∀ v σ H Q, t' v σ H Q → t v σ H Q) : PG X tg t' := ⟨fun pins s σ H v u Q I r q => h.run pins s σ H v u Q I r (i v σ H Q q)⟩
theorem gx_name {X : Cx} {i : Nat} {x : Str} {pos : Pos} (hN : X.N.Nodup) (hi : X.N[i]? = some x := by rfl) (hx : Loc X.env.scope x := by first | exact Or.inl rfl | exact Or.inr rfl) (hf : X.fn x = true ∨ X.env.scope.names.lookup x = some .local := by first | exact .inl rfl | exact .inr rfl | assumption) : GX X (.Name x pos) [i] (aName i) :=
  ⟨PG.imp (pg_name hN hi hx hf) fun v σ H Q ⟨e, S, ρ, x, e', R, E, rv, eq, q⟩ => by
    cases eq
    exact q _ (E.set rv i) ((But.refl _ σ).set _ List.mem_cons_self)⟩
/-- the names of a tuple target -/
def gNames : List Nat → TGs
  | [] => gNil
  | i :: is => gCons (gName i) (gNames is)
structure NX (X : Cx) (es : List Expr) (is : List Nat) : Prop where
  pgs : PGs X es (gNames is)
theorem nx_nil {X : Cx} : NX X [] [] := ⟨pgs_nil⟩
theorem nx_cons {X : Cx} {i : Nat} {x : Str} {pos : Pos} {es : List Expr} {is : List Nat} (hN : X.N.Nodup) (h : NX X es is) (hi : X.N[i]? = some x := by rfl) (hx : Loc X.env.scope x := by first | exact Or.inl rfl | exact Or.inr rfl) (hf : X.fn x = true ∨ X.env.scope.names.lookup x = some .local := by first | exact .inl rfl | exact .inr rfl | assumption)
    (hs : (assignEach (.Name x pos :: es) X.env).map (·.2) = assign (.Name x pos) X.env :: (assignEach es X.env).map (·.2) := by rfl) : NX X (.Name x pos :: es) (i :: is) := ⟨pgs_cons (pg_name hN hi hx hf) h.pgs hs⟩
theorem names_ok {K : PySem.W.Frag} {ρ : Rg} {H : Hp} {Q : L2.St → Hp → Prop} {js : List Nat} {σ₀ : L2.St} : ∀ {is : List Nat} {vs : List V} {xs : List Val} {σ : L2.St} {e e' : Ev}, VRs K ρ H vs xs → ER K ρ H σ e → But js σ₀ σ → (∀ i ∈ is, i ∈ js) → setAll is xs e = some e' → (∀ σ', ER K ρ H σ' e' → But js σ₀ σ' → Q σ' H) → gNames is vs σ H Q
  | [], _, [], _, _, _, r, E, b, m, h, q => by
    cases r
    cases h
    exact ⟨rfl, q _ E b⟩
  | [], _, _ :: _, _, _, _, r, E, b, m, h, q => by cases h
  | _ :: _, _, [], _, _, _, r, E, b, m, h, q => by cases h
  | i :: is, _, x :: xs, _, _, _, r, E, b, m, h, q => by
    cases r with
    | cons r1 r2 => exact ⟨_, _, rfl, names_ok r2 (E.set r1 i) (b.set _ (m i List.mem_cons_self)) (fun j hj => m j (List.mem_cons_of_mem _ hj)) h q⟩
theorem setAll_len : ∀ {is : List Nat} {xs : List Val} {e e' : Ev}, setAll is xs e = some e' → is.length = xs.length
  | [], [], _, _, _ => rfl
  | [], _ :: _, _, _, h => by cases h
  | _ :: _, [], _, _, h => by cases h
  | i :: is, x :: xs, e, e', h => by
    simp only [List.length_cons]
    rw [setAll_len (is := is) (xs := xs) h]
theorem gx_tup {X : Cx} {es : List Expr} {is : List Nat} {k : Nat} {pos : Pos} (hc : X.calm = true) (h : NX X es is) (hn : (assignEach es X.env).length = is.length := by rfl) (hst : (assignEach es X.env).findIdx? (·.1) = none := by rfl) : GX X (.Tuple es k pos) is (aTup is) :=
  ⟨PG.imp (pg_tup (n := is.length) hc h.pgs hn hst) fun v σ H Q ⟨e, S, ρ, x, e', R, E, rv, eq, q⟩ => by
    obtain ⟨xs, h1, h2⟩ := Option.bind_eq_some_iff.mp eq
    cases x with
    | d p =>
      cases p with
      | tuple ps =>
        cases h1
        obtain ⟨a, vs, rfl, ha, da⟩ := vr_tuple rv
        have e2 := setAll_len h2
        rw [List.length_map] at e2
        exact ⟨a, vs, rfl, ha, (dpall_len da).trans e2.symm, names_ok (vrs_of_dp da) E (But.refl is σ) (fun _ z => z) h2 q⟩
      | _ => cases h1
    | ref i =>
      obtain ⟨a, hi, rfl⟩ := rv
      simp only [tupAt] at h1
      split at h1
      · rename_i ys hS
        cases h1
        obtain ⟨vs, hv, vr⟩ := R.ob i a _ hi hS
        have e2 := setAll_len h2
        exact ⟨a, vs, rfl, SqT.of hv, (Paired.length vr).trans e2.symm, names_ok vr E (But.refl is σ) (fun _ z => z) h2 q⟩
      · cases h1⟩
/-- target = value -/
def dAsg (a : Asg) (m : M) : MS := bndS m fun x e S => match a x e S with
  | some e' => some (.nx, e', S)
  | none => none
theorem sx_asg {X : Cx} {W : WX} {tg e : Expr} {is : List Nat} {a : Asg} {m : M} {pos : Pos} (he : PX X W e m) (hg : GX X tg is a) (hs : swapsWithSole [tg] e pos.line X.env = pure false := by rfl) (hw : swappedStores [tg] e X.env = pure none := by rfl)
    (h1 : (assignEach [tg] X.env).map (·.2) = [assign tg X.env] := by rfl) : SX X W (.Assign [tg] e pos) (dAsg a m) := SX.of (ps_asg he.pe hg.pg hs hw h1) fun D σ H ev S ρ R E p => by
  refine rE_bndS R E p fun v H1 x S1 ρ1 R1 E1 l1 rv p1 => ?_
  split at p1
  · rename_i e' h
    exact ⟨ev, S1, ρ1, x, e', R1, E1, rv, h, fun σ' E' _ => p1.nx R1 (Le.refl ρ1 H1) E'⟩
  · exact (pns_none p1).elim

/-! ### o[i] = v, o.f = v -/
def putV {κ : Type} [DecidableEq κ] (kvs : List (κ × Val)) (k : κ) (v : Val) : List (κ × Val) := if kvs.any (fun kv => decide (kv.1 = k)) then kvs.map (fun kv => if kv.1 = k then (kv.1, v) else kv) else kvs ++ [(k, v)]
abbrev FSet := Val → Val → Val → Sto → Option Sto
def fSet : FSet := fun o i v S => match o with
  | .ref r => match S[r]? with
    | some (.lst xs) => match i with
      | .d (.int k) => (ixN xs.length k).map fun j => S.set r (.lst (xs.set j v))
      | _ => none
    | some (.dic kvs) => (keyOf i).bind fun k => if kvs.length < sizeLine then some (S.set r (.dic (putV kvs k v))) else none
    | _ => none
  | _ => none
def rSetD : TSet := fun o i v H Q => ∃ a H4, o = .ref a ∧ DPut H a i v H4 ∧ Q H4
theorem set_dic {X : Cx} (hu : X.A.units + 1 < cLine) : PSet X rSetD := by
  intro pins s σ H o i v ov iv u Q I ro ri rv h
  obtain ⟨a, H4, rfl, g, q⟩ := h
  cases ro
  exact d_setItem hu I g ri rv fun s' I' => ⟨H4, I', q⟩
def rSetA : TSet := fun o i v H Q => rSetL o i v H Q ∨ rSetD o i v H Q
theorem set_any {X : Cx} (hu : X.A.units + 1 < cLine) : PSet X rSetA := by
  intro pins s σ H o i v ov iv u Q I ro ri rv h
  rcases h with h | h
  · exact set_list pins s σ H o i v ov iv u Q I ro ri rv h
  · exact set_dic hu pins s σ H o i v ov iv u Q I ro ri rv h
theorem kr_put {κ : Type} [DecidableEq κ] {K : PySem.W.Frag} {ρ : Rg} {H : Hp} {vs : List (κ × V)} {kvs : List (κ × Val)} {v : V} {x : Val} (k : κ) (h : KR K ρ H vs kvs) (r : VR K ρ H v x) : KR K ρ H (putK vs k v) (putV kvs k x) := by
  have any_eq : ∀ {vs : List (κ × V)} {kvs : List (κ × Val)}, KR K ρ H vs kvs → vs.any (fun kv => decide (kv.1 = k)) = kvs.any (fun kv => decide (kv.1 = k)) := fun {vs kvs} h => by
    unfold KR at h
    induction h with
    | nil => rfl
    | cons a t ih => rw [List.any_cons, List.any_cons, ih, a.1]
  have map_ok : ∀ {vs : List (κ × V)} {kvs : List (κ × Val)}, KR K ρ H vs kvs → KR K ρ H (vs.map (fun kv => if kv.1 = k then (kv.1, v) else kv)) (kvs.map (fun kv => if kv.1 = k then (kv.1, x) else kv)) := fun {vs kvs} h => by
    unfold KR at h ⊢
    induction h with
    | nil => exact .nil
    | @cons p q ps qs a t ih =>
      refine .cons ?_ ih
      show (if p.1 = k then (p.1, v) else p).1 = (if q.1 = k then (q.1, x) else q).1 ∧ VR K ρ H (if p.1 = k then (p.1, v) else p).2 (if q.1 = k then (q.1, x) else q).2
      by_cases e : q.1 = k
      · rw [if_pos e, if_pos (a.1.trans e)]
        exact ⟨a.1, r⟩
      · rw [if_neg e, if_neg (fun z => e (a.1.symm.trans z))]
        exact a
  unfold putK putV
  rw [any_eq h]
  split
  · exact map_ok h
  · exact Paired.snoc h ⟨rfl, r⟩
theorem noz {H : Hp} {a : Addr} {w : HO} (h : H a = some w) (hn : ∀ o u, w ≠ .frz o u) : ∀ o u, H a ≠ some (.frz o u) := fun o u z => hn o u (Option.some.inj (h.symm.trans z))
theorem set_ok3 {K : PySem.W.Frag} {ρ : Rg} {H : Hp} {S S' : Sto} {o i v : V} {xo xi xv : Val} {Q : Hp → Prop} (R : RS K ρ S H) (ro : VR K ρ H o xo) (ri : VR K ρ H i xi) (rv : VR K ρ H v xv) (h : fSet xo xi xv S = some S')
    (q : ∀ H', RS K ρ S' H' → Le ρ H ρ H' → Q H') : rSetA o i v H Q := by
  unfold fSet at h
  split at h
  · rename_i r
    obtain ⟨a, hi, rfl⟩ := ro
    split at h
    · rename_i xs hS
      split at h
      · rename_i k
        obtain ⟨j, hj, rfl⟩ := Option.map_eq_some_iff.mp h
        obtain ⟨vs, hv, vr⟩ := R.ob r a _ hi hS
        obtain ⟨R', l'⟩ := R.put (o := .lst (vs.set j v)) (u := .lst (xs.set j xv)) hi (noz hv (fun _ _ => by simp)) ⟨vs.set j v, upd_same, vrs_set (VR.mono (Le.put R hi (noz hv (fun _ _ => by simp))) rv) j (VRs.mono (Le.put R hi (noz hv (fun _ _ => by simp))) vr)⟩
        exact .inl ⟨a, vs, k, j, rfl, vr_int ri, hv, by rw [Paired.length vr]; exact hj, q _ R' l'⟩
      · cases h
    · rename_i kvs hS
      obtain ⟨k, hk, h⟩ := Option.bind_eq_some_iff.mp h
      split at h
      · rename_i hz
        cases h
        obtain ⟨vs, hv, kr⟩ := R.ob r a _ hi hS
        obtain ⟨R', l'⟩ := R.put (o := .dK (putK vs k v)) (u := .dic (putV kvs k xv)) hi (noz hv (fun _ _ => by simp)) ⟨putK vs k v, upd_same, kr_put k (KR.mono (Le.put R hi (noz hv (fun _ _ => by simp))) kr) (VR.mono (Le.put R hi (noz hv (fun _ _ => by simp))) rv)⟩
        exact .inr ⟨a, _, rfl, .inl ⟨vs, k, hv, key_ok ri hk, by rw [kr_len kr]; exact hz, rfl⟩, q _ R' l'⟩
      · cases h
    · cases h
  · cases h
def dSetIx (mo mi mv : M) : MS := bndS mv fun v => bndS mo fun o => bndS mi fun i => fun e S => match fSet o i v S with
  | some S' => some (.nx, e, S')
  | none => none
theorem sx_setIx {X : Cx} {W : WX} {o i e : Expr} {mo mi mv : M} {pos tpos : Pos} (hu : X.A.units + 1 < cLine) (he : PX X W e mv) (ho : PX X W o mo) (hi : PX X W i mi)
    (ha : ∀ v, assign (.Subscript o i tpos) X.env v = (do
      let ov ← holding [v] (eval o X.env)
      let iv ← holding [v, ov] (eval i X.env)
      standAt tpos
      holding [v, ov, iv] (setItem ov iv v)
      release [v, ov, iv] []) := by intro _; rfl)
    (hs : swapsWithSole [.Subscript o i tpos] e pos.line X.env = pure false := by rfl) (hw : swappedStores [.Subscript o i tpos] e X.env = pure none := by rfl)
    (h1 : (assignEach [.Subscript o i tpos] X.env).map (·.2) = [assign (.Subscript o i tpos) X.env] := by rfl) : SX X W (.Assign [.Subscript o i tpos] e pos) (dSetIx mo mi mv) :=
  SX.of (ps_asg he.pe (pg_sub ho.pe hi.pe (set_any hu) ha) hs hw h1) fun D σ H ev S ρ R E p => by
    refine rE_bndS R E p fun v H1 x S1 ρ1 R1 E1 l1 rv p1 => ?_
    refine rE_bndS R1 E1 p1 fun ov H2 xo S2 ρ2 R2 E2 l2 ro p2 => ?_
    refine rE_bndS R2 E2 p2 fun iv H3 xi S3 ρ3 R3 E3 l3 ri p3 => ?_
    split at p3
    · rename_i S' h
      exact set_ok3 R3 (VR.mono l3 ro) ri (VR.mono (l2.trans l3) rv) h fun H' R' l' => p3.nx R' l' (E3.mono l')
    · exact (pns_none p3).elim
end Lv
end
section
set_option Elab.async false
set_option linter.all false
set_option autoImplicit false
set_option maxRecDepth 100000
set_option maxHeartbeats 2000000
namespace Lv
open PySem PySem.Spec PyProof.Rows L2

/-- what a loop walks: the items; what must stand as it is -/
structure Sr where
  xs : List Val
  kp : Option (Nat × Ob)
def Kp (S : Sto) : Option (Nat × Ob) → Prop
  | none => True
  | some (i, o) => S[i]? = some o
structure Lw (ρ : Rg) (H : Hp) (ρ' : Rg) (H' : Hp) : Prop where
  pre : ρ.ids <+: ρ'.ids
  ex : Ex (frz ρ H) (frz ρ' H')
  fz : ∀ (a : Addr) (o : Obj) (u : HO), H a = some (.frz o u) → H' a = some (.frz o u)
theorem Le.lw {ρ ρ' : Rg} {H H' : Hp} (l : Le ρ H ρ' H') : Lw ρ H ρ' H' := ⟨l.pre, l.ex, l.fz⟩
theorem Lw.trans {ρ ρ1 ρ2 : Rg} {H H1 H2 : Hp} (a : Lw ρ H ρ1 H1) (b : Lw ρ1 H1 ρ2 H2) : Lw ρ H ρ2 H2 := ⟨a.pre.trans b.pre, a.ex.trans b.ex, fun x o u z => b.fz x o u (a.fz x o u z)⟩
theorem VR.lw {K : PySem.W.Frag} {ρ ρ' : Rg} {H H' : Hp} (l : Lw ρ H ρ' H') {v : V} : ∀ {x : Val}, VR K ρ H v x → VR K ρ' H' v x
  | .d p, h => dp_mono l.ex p v h
  | .ref i, ⟨a, h, z⟩ => ⟨a, pre_get l.pre h, z⟩
theorem ER.lw {K : PySem.W.Frag} {ρ ρ' : Rg} {H H' : Hp} {σ : L2.St} {e : Ev} (l : Lw ρ H ρ' H') (h : ER K ρ H σ e) : ER K ρ' H' σ e := ⟨h.1, fun i x q => let ⟨v, a, b⟩ := h.2 i x q; ⟨v, a, VR.lw l b⟩⟩
/-- an iterator gives just these items, where the relation holds -/
structure Yl (K : PySem.W.Frag) (J : It) (ρ₁ : Rg) (H₁ : Hp) (sr : Sr) : Prop where
  go : ∀ (i : Nat) (ρ : Rg) (S : Sto) (H : Hp), RS K ρ S H → Lw ρ₁ H₁ ρ H → Kp S sr.kp → i < sr.xs.length → J.go i H
  stop : ∀ (i : Nat) (ρ : Rg) (S : Sto) (H : Hp), RS K ρ S H → Lw ρ₁ H₁ ρ H → Kp S sr.kp → sr.xs.length ≤ i → J.stop i H
  yld : ∀ (i : Nat) (ρ : Rg) (S : Sto) (H : Hp) (v : V) (H' : Hp), RS K ρ S H → Lw ρ₁ H₁ ρ H → Kp S sr.kp → i < sr.xs.length → J.yld i H v H' → H' = H ∧ ∃ x, sr.xs[i]? = some x ∧ VR K ρ H v x
abbrev FSr := List Val → Sto → Option Sr
structure IX (X : Cx) (W : WX) (tg iter : Expr) (ms : List M) (f : FSr) : Prop where
  ex : ∃ wi : TI, PI X tg iter wi ∧ ∀ (σ : L2.St) (H : Hp) (R : It → Hp → Prop), rA X.K W ms σ H (fun vs H1 => ∃ xs S1 ρ1 sr, RS X.K ρ1 S1 H1 ∧ VRs X.K ρ1 H1 vs xs ∧ f xs S1 = some sr ∧ ∀ J, Yl X.K J ρ1 H1 sr → R J H1) → wi σ H R

open Classical in
noncomputable def loop (kp : Option (Nat × Ob)) (asg : Asg) (body : MS) : List Val → MS
  | [] => fun e S => if Kp S kp then some (.nx, e, S) else none
  | x :: r => fun e S => if Kp S kp then (match asg x e S with
    | none => none
    | some e1 => match body e1 S with
      | some (.nx, e2, S2) => loop kp asg body r e2 S2
      | some (.ct, e2, S2) => loop kp asg body r e2 S2
      | some (.bk, e2, S2) => some (.nx, e2, S2)
      | o => o) else none
noncomputable def dFor (ms : List M) (f : FSr) (asg : Asg) (body : MS) : MS := argsS ms fun xs => fun e S => match f xs S with
  | none => none
  | some sr => loop sr.kp asg body sr.xs e S
theorem drop_cons {α : Type} {xs : List α} {i : Nat} (h : i < xs.length) : xs.drop i = xs[i] :: xs.drop (i + 1) := List.drop_eq_getElem_cons h
section
variable {X : Cx} {W : WX} {tg iter : Expr} {ms : List M} {f : FSr} {is : List Nat} {asg : Asg} {body : List Stmt} {mb : MS} {pos : Pos}
theorem loop_ok {K : PySem.W.Frag} {D : Ends} {J : It} {ρ₁ : Rg} {H₁ : Hp} {sr : Sr} {σ : L2.St} {e : Ev} {S : Sto} (Y : Yl K J ρ₁ H₁ sr) (R : RS K ρ₁ S H₁) (E : ER K ρ₁ H₁ σ e) (p : PnS K W D (loop sr.kp asg mb sr.xs e S) ρ₁ H₁) :
    ∃ Wd : Nat → Nat → L2.St → Hp → Prop, (∃ m, Wd 0 m σ H₁) ∧ ∀ i m σ H, Wd i m σ H →
      (J.stop i H ∧ D.nx σ H) ∨ (J.go i H ∧ ∃ N : L2.St → Hp → Prop, (∀ σ' H', N σ' H' → ∃ m', m' < m ∧ Wd (i + 1) m' σ' H') ∧ ∀ x H', J.yld i H x H' → rG K is asg x σ H' fun σ2 H2 => rS K W mb { D with nx := N, ct := N, bk := D.nx } σ2 H2) := by
  refine ⟨fun i m σ H => m = sr.xs.length - i ∧ i ≤ sr.xs.length ∧ ∃ e S ρ, RS K ρ S H ∧ ER K ρ H σ e ∧ Le ρ₁ H₁ ρ H ∧ PnS K W D (loop sr.kp asg mb (sr.xs.drop i) e S) ρ H, ⟨sr.xs.length, by simp, Nat.zero_le _, e, S, ρ₁, R, E, Le.refl ρ₁ H₁, by simpa using p⟩, ?_⟩
  rintro i m σ H ⟨rfl, hi, e, S, ρ, R, E, l, p⟩
  by_cases hlt : i < sr.xs.length
  · rw [drop_cons hlt] at p
    unfold loop at p
    split at p
    · rename_i hk
      refine .inr ⟨Y.go i ρ S H R l.lw hk hlt, fun σ' H' => ∃ e S ρ, RS K ρ S H' ∧ ER K ρ H' σ' e ∧ Le ρ₁ H₁ ρ H' ∧ PnS K W D (loop sr.kp asg mb (sr.xs.drop (i + 1)) e S) ρ H', fun σ' H' q => ⟨sr.xs.length - (i + 1), by omega, rfl, hlt, q⟩, fun v H' y => ?_⟩
      obtain ⟨rfl, x, hx, rv⟩ := Y.yld i ρ S H v H' R l.lw hk hlt y
      have hx' : sr.xs[i] = x := by
        rw [List.getElem?_eq_getElem hlt] at hx
        exact Option.some.inj hx
      rw [hx'] at p
      split at p
      · exact (pns_none p).elim
      · rename_i e1 ha
        refine ⟨e, S, ρ, x, e1, R, E, rv, ha, fun σ' E' _ => ⟨e1, S, ρ, R, E', ?_⟩⟩
        split at p
        · rename_i e2 S2 hb
          exact ⟨.nx, e2, S2, hb, fun σ2 H2 ρ2 R2 l2 E2 => ⟨e2, S2, ρ2, R2, E2, l.trans l2, p.le l2⟩⟩
        · rename_i e2 S2 hb
          exact ⟨.ct, e2, S2, hb, fun σ2 H2 ρ2 R2 l2 E2 => ⟨e2, S2, ρ2, R2, E2, l.trans l2, p.le l2⟩⟩
        · rename_i e2 S2 hb
          exact ⟨.bk, e2, S2, hb, fun σ2 H2 ρ2 R2 l2 E2 => p.nx R2 l2 E2⟩
        · rename_i h1 h2 h3
          obtain ⟨fl, e2, S2, eq, q⟩ := p
          refine ⟨fl, e2, S2, eq, ?_⟩
          cases fl with
          | nx => exact (h1 _ _ eq).elim
          | ct => exact (h2 _ _ eq).elim
          | bk => exact (h3 _ _ eq).elim
          | rt x => exact q
          | er x => exact q
    · exact (pns_none p).elim
  · have e0 : i = sr.xs.length := by omega
    subst e0
    rw [List.drop_length] at p
    unfold loop at p
    split at p
    · rename_i hk
      exact .inl ⟨Y.stop _ ρ S H R l.lw hk (Nat.le_refl _), p.nx R (Le.refl ρ H) E⟩
    · exact (pns_none p).elim
theorem sx_for (hp : PassesOwn (model X.prog X.w) X.A X.env X.xe) (hc : X.calm = true) (hi : IX X W tg iter ms f) (hg : GX X tg is asg) (hb : BX X W body mb) (hs : ∀ x, foldedSetIterable iter X.env x = pure x := by intro _; rfl) : SX X W (.For tg iter body [] pos) (dFor ms f asg mb) := by
  obtain ⟨wi, pi, ok⟩ := hi.ex
  refine SX.of (ps_for hp hc pi hg.pg hb.ps hs) fun D σ H ev S ρ R E p => ?_
  refine ok σ H _ (rA_bndS R E p fun vs H1 xs S1 ρ1 R1 E1 l1 rvs p1 => ?_)
  split at p1
  · exact (pns_none p1).elim
  · rename_i sr hsr
    exact ⟨xs, S1, ρ1, sr, R1, rvs, hsr, fun J Y => loop_ok Y R1 E1 p1⟩
end

/-! ### comprehensions -/
def wipeE (e : Ev) : List Nat → Ev
  | [] => e
  | v :: vs => (wipeE e vs).set v none
def tst (t : Option M) (e : Ev) (S : Sto) : Option (Bool × Sto) := match t with
  | none => some (true, S)
  | some m => match m e S with
    | some (.ok (.d (.bool b)), S1) => some (b, S1)
    | _ => none
open Classical in
noncomputable def cl (kp : Option (Nat × Ob)) (asg : Asg) (t : Option M) (elt : M) (e0 : Ev) : List Val → List PyData → Sto → Option (List PyData × Sto)
  | [], acc, S => if Kp S kp then some (acc, S) else none
  | x :: r, acc, S => if Kp S kp then (match asg x e0 S with
    | none => none
    | some e1 => match tst t e1 S with
      | none => none
      | some (true, S1) => (match elt e1 S1 with
        | some (.ok (.d p), S2) => if acc.length < sizeLine then cl kp asg t elt e0 r (acc ++ [p]) S2 else none
        | _ => none)
      | some (false, S1) => cl kp asg t elt e0 r acc S1) else none
noncomputable def mLc (ms : List M) (f : FSr) (asg : Asg) (t : Option M) (elt : M) (vs : List Nat) : M := args ms fun xs => fun e S => match f xs S with
  | none => none
  | some sr => match cl sr.kp asg t elt (wipeE e vs) sr.xs [] S with
    | some (ps, S') => some (.ok (.d (.list ps)), S')
    | none => none
noncomputable def mLcN (ms : List M) (f : FSr) (asg : Asg) (t : Option M) (elt : M) (vs : List Nat) : M := args ms fun xs => fun e S => match f xs S with
  | none => none
  | some sr => match cl sr.kp asg t elt (wipeE e vs) sr.xs [] S with
    | some (ps, S') => some (.ok (.ref S'.length), S' ++ [.lst (ps.map .d)])
    | none => none
abbrev WF : WX := fun _ _ _ _ => False
def rTs (K : PySem.W.Frag) (W : WX) : Option M → TT
  | none => tYes
  | some m => rT K W m
structure TXs (X : Cx) (W : WX) (ifs : List Expr) (t : Option M) : Prop where
  pt : PTs X ifs (rTs X.K W t)
theorem txs_nil {X : Cx} {W : WX} : TXs X W [] none := ⟨pts_nil⟩
theorem txs_one {X : Cx} {W : WX} {e : Expr} {m : M} (h : TX X W e m) : TXs X W [e] (some m) := ⟨pts_one h.pt⟩
theorem wipe_get {σ : L2.St} {vs : List Nat} {j : Nat} : j ∉ vs → (wipe σ vs)[j]? = σ[j]? := by
  induction vs with
  | nil => intro _; rfl
  | cons v vs ih =>
    intro h
    unfold wipe
    rw [List.getElem?_set_ne (fun e : v = j => h (e ▸ List.mem_cons_self))]
    exact ih fun z => h (List.mem_cons_of_mem _ z)
theorem wipe_in {σ : L2.St} {vs : List Nat} {j : Nat} : j ∈ vs → j < σ.length → (wipe σ vs)[j]? = some none := by
  induction vs with
  | nil => intro h; cases h
  | cons v vs ih =>
    intro h hj
    unfold wipe
    by_cases e : v = j
    · subst e
      rw [List.getElem?_set_self (by rw [wipe_length]; exact hj)]
    · rw [List.getElem?_set_ne e]
      exact ih ((List.mem_cons.mp h).resolve_left fun z => e z.symm) hj
theorem wipe_eq {σ σ' : L2.St} {vs is : List Nat} (h : But is (wipe σ vs) σ') (hs : ∀ i ∈ is, i ∈ vs) : wipe σ' vs = wipe σ vs := by
  have hl : σ'.length = σ.length := by rw [h.1, wipe_length]
  apply List.ext_getElem?
  intro j
  by_cases hj : j ∈ vs
  · by_cases hlt : j < σ.length
    · rw [wipe_in hj hlt, wipe_in hj (by rw [hl]; exact hlt)]
    · rw [List.getElem?_eq_none (by rw [wipe_length]; omega), List.getElem?_eq_none (by rw [wipe_length]; omega)]
  · rw [wipe_get hj, h.2 j (fun z => hj (hs j z))]
theorem ER.wipe {K : PySem.W.Frag} {ρ : Rg} {H : Hp} {σ : L2.St} {e : Ev} (h : ER K ρ H σ e) : ∀ vs : List Nat, ER K ρ H (L2.wipe σ vs) (wipeE e vs)
  | [] => h
  | v :: vs => by
    have ih := ER.wipe h vs
    unfold L2.wipe wipeE
    refine ⟨by rw [List.length_set, List.length_set]; exact ih.1, fun i x q => ?_⟩
    rw [List.getElem?_set] at q
    split at q
    · split at q
      · cases q
      · cases q
    · rename_i hne
      obtain ⟨w, a, b⟩ := ih.2 i x q
      exact ⟨w, by rw [List.getElem?_set_ne hne]; exact a, b⟩
/-- a comprehension's end -/
def LcEnd (K : PySem.W.Frag) (ρ₁ : Rg) (H₁ : Hp) (ps : List PyData) (S' : Sto) (Q : VK) : Prop :=
  ∀ (D : Addr) (ids : List Addr) (H : Hp) (ds : List V), ¬ ρ₁.out D → RS K ⟨ids, D :: ρ₁.hid⟩ S' H → ρ₁.ids <+: ids → Ex (frz ρ₁ H₁) (frz ⟨ids, D :: ρ₁.hid⟩ H) → (∀ a ∈ ρ₁.hid, H a = H₁ a) → (∀ (a : Addr) (o : Obj) (u : HO), H₁ a = some (.frz o u) → H a = some (.frz o u)) → H D = some (.lst ds) → DpAll K (frz ⟨ids, D :: ρ₁.hid⟩ H) ds ps → Q (.ref D) H
theorem lc_end {K : PySem.W.Frag} {ρ₁ : Rg} {H₁ : Hp} {ps : List PyData} {S' : Sto} {Q : VK} (q : Fin K ρ₁ H₁ (.d (.list ps)) S' Q) : LcEnd K ρ₁ H₁ ps S' Q := by
  intro D ids H ds nD R g1 g4 g5 g6 hDl da
  obtain ⟨R3, x3, h3⟩ := R.show_ (fun z => nD (.inr z))
  exact q (.ref D) H ⟨ids, ρ₁.hid⟩ R3 ⟨g1, rfl, g4.trans x3, g5, g6⟩ (Dp.lst (SqL.of (h3.trans hDl)) (dpall_mono x3 da))
theorem frz_move {ids hid : List Addr} {D : Addr} {H : Hp} : frz ⟨ids, D :: hid⟩ H = frz ⟨ids ++ [D], hid⟩ H := by
  funext a
  have e : (⟨ids, D :: hid⟩ : Rg).out a ↔ (⟨ids ++ [D], hid⟩ : Rg).out a := by
    show (a ∈ ids ∨ a ∈ D :: hid) ↔ (a ∈ ids ++ [D] ∨ a ∈ hid)
    simp only [List.mem_cons, List.mem_append, List.not_mem_nil, or_false]
    grind
  unfold frz
  by_cases h : (⟨ids, D :: hid⟩ : Rg).out a
  · rw [if_pos h, if_pos (e.mp h)]
  · rw [if_neg h, if_neg (fun z => h (e.mpr z))]
/-- the list, among the store's -/
theorem lc_endN {K : PySem.W.Frag} {ρ₁ : Rg} {H₁ : Hp} {ps : List PyData} {S' : Sto} {Q : VK} (q : Fin K ρ₁ H₁ (.ref S'.length) (S' ++ [.lst (ps.map .d)]) Q) : LcEnd K ρ₁ H₁ ps S' Q := by
  intro D ids H ds nD R g1 g4 g5 g6 hDl da
  have e := @frz_move ids ρ₁.hid D H
  have hl : ids.length = S'.length := R.len
  have hD := R.hid D List.mem_cons_self
  have mono : ∀ {v : V} {x : Val}, VR K ⟨ids, D :: ρ₁.hid⟩ H v x → VR K ⟨ids ++ [D], ρ₁.hid⟩ H v x := fun {v x} r => by
    cases x with
    | d p => exact (show Dp K (frz _ H) v p from e ▸ (show Dp K (frz _ H) v p from r))
    | ref i =>
      obtain ⟨a, ha, z⟩ := r
      exact ⟨a, pre_get (List.prefix_append ids [D]) ha, z⟩
  have hx : (ids ++ [D])[S'.length]? = some D := by rw [← hl]; simp
  refine q (.ref D) H ⟨ids ++ [D], ρ₁.hid⟩ ⟨by simp [hl], ?_, fun a ha => ⟨fun z => ?_, (R.hid a (List.mem_cons_of_mem _ ha)).2⟩, fun i a o e1 e2 => ?_⟩ ⟨g1.trans (List.prefix_append _ _), rfl, e ▸ g4, g5, g6⟩ ⟨D, hx, rfl⟩
  · show (ids ++ [D]).Nodup
    rw [List.nodup_append]
    refine ⟨R.nd, by simp, fun a ha b hb => ?_⟩
    have : b = D := by simpa using hb
    subst this
    exact fun z => hD.1 (z ▸ ha)
  · rcases List.mem_append.mp (show a ∈ ids ++ [D] from z) with z | z
    · exact (R.hid a (List.mem_cons_of_mem _ ha)).1 z
    · have : a = D := by simpa using z
      exact nD (.inr (this ▸ ha))
  · have e1 : (ids ++ [D])[i]? = some a := e1
    by_cases hi : i < ids.length
    · rw [List.getElem?_append_left hi] at e1
      rw [List.getElem?_append_left (by rw [← hl]; exact hi)] at e2
      have w := R.ob i a o e1 e2
      cases o with
      | lst xs => obtain ⟨vs, q, r⟩ := w; exact ⟨vs, q, Paired.mapP r fun _ _ z => mono z⟩
      | tup xs => obtain ⟨vs, q, r⟩ := w; exact ⟨vs, q, Paired.mapP r fun _ _ z => mono z⟩
      | dic xs => obtain ⟨vs, q, r⟩ := w; exact ⟨vs, q, Paired.mapP r fun _ _ z => ⟨z.1, mono z.2⟩⟩
      | dicN z xs => obtain ⟨vs, q, r⟩ := w; exact ⟨vs, q, Paired.mapP r fun _ _ z => ⟨z.1, mono z.2⟩⟩
      | dicL xs => obtain ⟨w, vs, q, r⟩ := w; exact ⟨w, vs, q, Paired.mapP r fun _ _ z => ⟨z.1, mono z.2⟩⟩
      | ins C xs => obtain ⟨dx, vs, q, r⟩ := w; exact ⟨dx, vs, q, Paired.mapP r fun _ _ z => ⟨z.1, mono z.2⟩⟩
      | exc x => obtain ⟨oe, q, z, r⟩ := w; exact ⟨oe, q, z, XR.ex (by rw [e]; exact Ex.refl _) (fun _ _ q => mono q) r⟩
    · have hi' : i = ids.length := by
        rw [List.getElem?_eq_some_iff] at e1
        have := e1.1
        simp at this
        omega
      subst hi'
      rw [List.getElem?_append_right (Nat.le_refl _)] at e1
      rw [hl, List.getElem?_append_right (Nat.le_refl _)] at e2
      simp at e1 e2
      subst e1 e2
      exact ⟨ds, hDl, vrs_of_dp (e ▸ da)⟩
theorem lc_ok {K : PySem.W.Frag} {Q : VK} {J : It} {ρ₁ : Rg} {H₁ : Hp} {sr : Sr} {σ : L2.St} {e : Ev} {S : Sto} {is vs : List Nat} {asg : Asg} {t : Option M} {elt : M} (Y : Yl K J ρ₁ H₁ sr) (R : RS K ρ₁ S H₁) (E : ER K ρ₁ H₁ σ e) (hs : ∀ i ∈ is, i ∈ vs) {ps : List PyData} {S' : Sto}
    (hc : cl sr.kp asg t elt (wipeE e vs) sr.xs [] S = some (ps, S')) (q : LcEnd K ρ₁ H₁ ps S' Q) : ∀ D, H₁ D = none → ∃ Wd : Nat → Nat → Hp → Prop, (∃ m, Wd 0 m (upd H₁ D (.lst []))) ∧ ∀ i m H, Wd i m H →
      (J.stop i H ∧ Q (.ref D) H) ∨ (J.go i H ∧ ∃ Nx : Hp → Prop, (∀ H', Nx H' → ∃ m', m' < m ∧ Wd (i + 1) m' H') ∧ ∀ x H', J.yld i H x H' → rG K is asg x (wipe σ vs) H' fun σ2 H2 => wipe σ2 vs = wipe σ vs ∧ rTs K WF t σ2 H2 fun b H3 =>
        if b = true then rE K WF elt σ2 H3 fun y H4 => ∃ acc, H4 D = some (.lst acc) ∧ acc.length < sizeLine ∧ Nx (upd H4 D (.lst (acc ++ [y]))) else Nx H3) := by
  intro D hD
  have nD := R.fresh hD
  obtain ⟨R0, x0⟩ := R.hide (o := .lst []) hD
  -- the state of the relation
  let G : Rg → Hp → Prop := fun ρ H => ρ₁.ids <+: ρ.ids ∧ ρ.hid = D :: ρ₁.hid ∧ Ex (frz ρ₁ H₁) (frz ρ H) ∧ (∀ a ∈ ρ₁.hid, H a = H₁ a) ∧ ∀ (a : Addr) (o : Obj) (u : HO), H₁ a = some (.frz o u) → H a = some (.frz o u)
  have glw : ∀ {ρ H}, G ρ H → Lw ρ₁ H₁ ρ H := fun g => ⟨g.1, g.2.2.1, g.2.2.2.2⟩
  have gle : ∀ {ρ H ρ' H'}, G ρ H → Le ρ H ρ' H' → G ρ' H' := fun {ρ H ρ' H'} g l => ⟨g.1.trans l.pre, l.hid.trans g.2.1, g.2.2.1.trans l.ex, fun a ha => (l.hk a (by rw [g.2.1]; exact List.mem_cons_of_mem _ ha)).trans (g.2.2.2.1 a ha), fun a o u z => l.fz a o u (g.2.2.2.2 a o u z)⟩
  have gD : ∀ {ρ H ρ' H'}, G ρ H → Le ρ H ρ' H' → H' D = H D := fun {ρ H ρ' H'} g l => l.hk D (by rw [g.2.1]; exact List.mem_cons_self)
  refine ⟨fun i m H => m = sr.xs.length - i ∧ i ≤ sr.xs.length ∧ ∃ acc ds S ρ, RS K ρ S H ∧ G ρ H ∧ H D = some (.lst ds) ∧ DpAll K (frz ρ H) ds acc ∧ cl sr.kp asg t elt (wipeE e vs) (sr.xs.drop i) acc S = some (ps, S'),
    ⟨sr.xs.length, by simp, Nat.zero_le _, [], [], S, ρ₁.hide D, R0, ⟨List.prefix_refl _, rfl, x0, fun a ha => upd_ne fun z => nD (.inr (z ▸ ha)), fun a o u z => (upd_ne (ne_of_none z hD)).trans z⟩, upd_same, .nil, by simpa using hc⟩, ?_⟩
  rintro i m H ⟨rfl, hi, acc, ds, S2, ρ, R2, g2, hDl, da, hc2⟩
  by_cases hlt : i < sr.xs.length
  · rw [drop_cons hlt] at hc2
    unfold cl at hc2
    split at hc2
    · rename_i hk
      refine .inr ⟨Y.go i ρ S2 H R2 (glw g2) hk hlt, fun H' => ∃ acc ds S ρ, RS K ρ S H' ∧ G ρ H' ∧ H' D = some (.lst ds) ∧ DpAll K (frz ρ H') ds acc ∧ cl sr.kp asg t elt (wipeE e vs) (sr.xs.drop (i + 1)) acc S = some (ps, S'), fun H' z => ⟨sr.xs.length - (i + 1), by omega, rfl, hlt, z⟩, fun v H' y => ?_⟩
      obtain ⟨rfl, x, hx, rv⟩ := Y.yld i ρ S2 H v H' R2 (glw g2) hk hlt y
      have hx' : sr.xs[i] = x := by
        rw [List.getElem?_eq_getElem hlt] at hx
        exact Option.some.inj hx
      rw [hx'] at hc2
      split at hc2
      · cases hc2
      · rename_i e1 ha
        refine ⟨wipeE e vs, S2, ρ, x, e1, R2, (E.lw (glw g2)).wipe vs, rv, ha, fun σ' E' hb => ⟨wipe_eq hb hs, ?_⟩⟩
        split at hc2
        · cases hc2
        · rename_i S3 ht
          -- the test holds
          have key : ∀ H3 ρ3, RS K ρ3 S3 H3 → Le ρ H' ρ3 H3 → ER K ρ3 H3 σ' e1 → rE K WF elt σ' H3 fun y H4 => ∃ acc, H4 D = some (.lst acc) ∧ acc.length < sizeLine ∧ ∃ acc' ds S ρ, RS K ρ S (upd H4 D (.lst (acc ++ [y]))) ∧ G ρ (upd H4 D (.lst (acc ++ [y]))) ∧ (upd H4 D (.lst (acc ++ [y]))) D = some (.lst ds) ∧ DpAll K (frz ρ (upd H4 D (.lst (acc ++ [y])))) ds acc' ∧ cl sr.kp asg t elt (wipeE e vs) (sr.xs.drop (i + 1)) acc' S = some (ps, S') := by
            intro H3 ρ3 R3 l3 E3
            refine ⟨e1, S3, ρ3, R3, E3, ?_⟩
            split at hc2
            · rename_i p S4 he
              split at hc2
              · rename_i hz
                refine ⟨.ok (.d p), S4, he, fun y H4 ρ4 R4 l4 ry => ?_⟩
                have l34 := l3.trans l4
                have hD4 : H4 D = some (.lst ds) := (gD g2 l34).trans hDl
                have g4 := gle g2 l34
                have mD : D ∈ ρ4.hid := by rw [g4.2.1]; exact List.mem_cons_self
                obtain ⟨R5, e5⟩ := R4.hput (o := .lst (ds ++ [y])) mD
                refine ⟨ds, hD4, by rw [dpall_len da]; exact hz, acc ++ [p], ds ++ [y], S4, ρ4, R5, ⟨g4.1, g4.2.1, by rw [e5]; exact g4.2.2.1, fun a ha => ?_, fun a o u z => ?_⟩, upd_same, ?_, hc2⟩
                · rw [upd_ne (fun z : a = D => nD (.inr (z ▸ ha)))]
                  exact g4.2.2.2.1 a ha
                · rw [upd_ne (ne_of_none z hD)]
                  exact g4.2.2.2.2 a o u z
                · rw [e5]
                  exact dpall_app (dpall_mono l34.ex da) (.cons ry .nil)
              · cases hc2
            · cases hc2
          cases t with
          | none =>
            cases ht
            exact key H' ρ R2 (Le.refl ρ H') E'
          | some mt =>
            show rE K WF mt σ' H' _
            refine ⟨e1, S2, ρ, R2, E', ?_⟩
            simp only [tst] at ht
            split at ht
            · rename_i b S1 hm
              cases ht
              refine ⟨.ok (.d (.bool true)), S3, hm, fun w H3 ρ3 R3 l3 rw3 => ⟨true, vr_bl rw3, ?_⟩⟩
              exact key H3 ρ3 R3 l3 (E'.mono l3)
            · cases ht
        · rename_i S3 ht
          cases t with
          | none => cases ht
          | some mt =>
            show rE K WF mt σ' H' _
            refine ⟨e1, S2, ρ, R2, E', ?_⟩
            simp only [tst] at ht
            split at ht
            · rename_i b S1 hm
              cases ht
              refine ⟨.ok (.d (.bool false)), S3, hm, fun w H3 ρ3 R3 l3 rw3 => ⟨false, vr_bl rw3, ?_⟩⟩
              exact ⟨acc, ds, S3, ρ3, R3, gle g2 l3, (gD g2 l3).trans hDl, dpall_mono l3.ex da, hc2⟩
            · cases ht
    · cases hc2
  · have e0 : i = sr.xs.length := by omega
    subst e0
    rw [List.drop_length] at hc2
    unfold cl at hc2
    split at hc2
    · rename_i hk
      cases hc2
      refine .inl ⟨Y.stop _ ρ S' H R2 (glw g2) hk (Nat.le_refl _), ?_⟩
      obtain ⟨ids, hid⟩ := ρ
      obtain ⟨g1, g3, g4, g5, g6⟩ := g2
      simp only at g1 g3
      subst g3
      exact q D ids H ds nD R2 g1 g4 g5 g6 hDl da
    · cases hc2
section
variable {X : Cx} {W : WX} {tg iter elt : Expr} {ifs : List Expr} {scope : Scope} {own : List (Str × Nat)} {ms : List M} {f : FSr} {is : List Nat} {asg : Asg} {t : Option M} {me : M} {pos : Pos}
theorem px_lc (hc : X.calm = true) (hN : X.N.Nodup) (hi : IX X W tg iter ms f) (ok : BlkOk X.N X.env.scope scope own)
    (hg : ∀ (s : Shared) (H : Hp) (C : Addr) (cl : List (Str × Addr)) (fp : List Addr), GX (X.blk s H scope (compEnvC scope cl C X.env) fp) tg is asg) (ht : ∀ (s : Shared) (H : Hp) (C : Addr) (cl : List (Str × Addr)) (fp : List Addr), TXs (X.blk s H scope (compEnvC scope cl C X.env) fp) WF ifs t)
    (he : ∀ (s : Shared) (H : Hp) (C : Addr) (cl : List (Str × Addr)) (fp : List Addr), PX (X.blk s H scope (compEnvC scope cl C X.env) fp) WF elt me) (hj : ∀ i ∈ is, i ∈ own.map (·.2) := by decide) (hs : ∀ x, foldedSetIterable iter X.env x = pure x := by intro _; rfl) :
    PX X W (.ListComp elt [⟨tg, iter, ifs, 0⟩] scope pos) (mLc ms f asg t me (own.map (·.2))) := by
  obtain ⟨wi, pi, okI⟩ := hi.ex
  refine PX.of (pe_lc (g := rG X.K is asg) (tt := rTs X.K WF t) (te := rE X.K WF me) hc hN pi ok (fun s H C cl fp => (hg s H C cl fp).pg) (fun s H C cl fp => (ht s H C cl fp).pt) (fun s H C cl fp => (he s H C cl fp).pe) hs) fun σ H Q ev S ρ R E p => ?_
  refine okI σ H _ (rA_bnd R E p fun vs H1 xs S1 ρ1 R1 E1 l1 rvs p1 => ?_)
  split at p1
  · exact (pn_none p1).elim
  · rename_i sr hsr
    split at p1
    · rename_i ps S' hcl
      exact ⟨xs, S1, ρ1, sr, R1, rvs, hsr, fun J Y => lc_ok Y R1 E1 hj hcl (lc_end fun w H' ρ' R' l' r' => p1.ok R' l' r')⟩
    · exact (pn_none p1).elim
theorem sx_setLc {i : Nat} {y : Str} {py : Pos} {spos : Pos} (hc : X.calm = true) (hN : X.N.Nodup) (hi : IX X W tg iter ms f) (ok : BlkOk X.N X.env.scope scope own)
    (hg : ∀ (s : Shared) (H : Hp) (C : Addr) (cl : List (Str × Addr)) (fp : List Addr), GX (X.blk s H scope (compEnvC scope cl C X.env) fp) tg is asg) (ht : ∀ (s : Shared) (H : Hp) (C : Addr) (cl : List (Str × Addr)) (fp : List Addr), TXs (X.blk s H scope (compEnvC scope cl C X.env) fp) WF ifs t)
    (he : ∀ (s : Shared) (H : Hp) (C : Addr) (cl : List (Str × Addr)) (fp : List Addr), PX (X.blk s H scope (compEnvC scope cl C X.env) fp) WF elt me) (hj : ∀ i ∈ is, i ∈ own.map (·.2) := by decide)
    (hy : X.N[i]? = some y := by rfl) (hyl : X.env.scope.names.lookup y = some .local := by rfl) (hsw : swapsWith (.ListComp elt [⟨tg, iter, ifs, 0⟩] scope pos) (some (.Name y py)) spos.line X.env = pure true := by exact sw_true rfl rfl rfl (by decide +kernel)) (hs : ∀ x, foldedSetIterable iter X.env x = pure x := by intro _; rfl) :
    SX X W (.Assign [.Name y py] (.ListComp elt [⟨tg, iter, ifs, 0⟩] scope pos) spos) (dSet i (mLc ms f asg t me (own.map (·.2)))) := by
  obtain ⟨wi, pi, okI⟩ := hi.ex
  refine SX.of (ps_setLc (g := rG X.K is asg) (tt := rTs X.K WF t) (te := rE X.K WF me) hc hN hy hyl hsw pi ok (fun s H C cl fp => (hg s H C cl fp).pg) (fun s H C cl fp => (ht s H C cl fp).pt) (fun s H C cl fp => (he s H C cl fp).pe) hs) fun D σ H ev S ρ R E p => ?_
  have p' : rE X.K W (mLc ms f asg t me (own.map (·.2))) σ H fun v H1 => D.nx (σ.set i (some v)) H1 := set_ok R E p
  obtain ⟨ev2, S2, ρ2, R2, E2, p2⟩ := p'
  refine okI σ H _ (rA_bnd R2 E2 p2 fun vs H1 xs S1 ρ1 R1 E1 l1 rvs p1 => ?_)
  split at p1
  · exact (pn_none p1).elim
  · rename_i sr hsr
    split at p1
    · rename_i ps S' hcl
      exact ⟨xs, S1, ρ1, sr, R1, rvs, hsr, fun J Y => lc_ok Y R1 E1 hj hcl (lc_end fun w H' ρ' R' l' r' => p1.ok R' l' r')⟩
    · exact (pn_none p1).elim
theorem sx_setLcN {i : Nat} {y : Str} {py : Pos} {spos : Pos} (hc : X.calm = true) (hN : X.N.Nodup) (hi : IX X W tg iter ms f) (ok : BlkOk X.N X.env.scope scope own)
    (hg : ∀ (s : Shared) (H : Hp) (C : Addr) (cl : List (Str × Addr)) (fp : List Addr), GX (X.blk s H scope (compEnvC scope cl C X.env) fp) tg is asg) (ht : ∀ (s : Shared) (H : Hp) (C : Addr) (cl : List (Str × Addr)) (fp : List Addr), TXs (X.blk s H scope (compEnvC scope cl C X.env) fp) WF ifs t)
    (he : ∀ (s : Shared) (H : Hp) (C : Addr) (cl : List (Str × Addr)) (fp : List Addr), PX (X.blk s H scope (compEnvC scope cl C X.env) fp) WF elt me) (hj : ∀ i ∈ is, i ∈ own.map (·.2) := by decide)
    (hy : X.N[i]? = some y := by rfl) (hyl : X.env.scope.names.lookup y = some .local := by rfl) (hsw : swapsWith (.ListComp elt [⟨tg, iter, ifs, 0⟩] scope pos) (some (.Name y py)) spos.line X.env = pure true := by exact sw_true rfl rfl rfl (by decide +kernel)) (hs : ∀ x, foldedSetIterable iter X.env x = pure x := by intro _; rfl) :
    SX X W (.Assign [.Name y py] (.ListComp elt [⟨tg, iter, ifs, 0⟩] scope pos) spos) (dSet i (mLcN ms f asg t me (own.map (·.2)))) := by
  obtain ⟨wi, pi, okI⟩ := hi.ex
  refine SX.of (ps_setLc (g := rG X.K is asg) (tt := rTs X.K WF t) (te := rE X.K WF me) hc hN hy hyl hsw pi ok (fun s H C cl fp => (hg s H C cl fp).pg) (fun s H C cl fp => (ht s H C cl fp).pt) (fun s H C cl fp => (he s H C cl fp).pe) hs) fun D σ H ev S ρ R E p => ?_
  have p' : rE X.K W (mLcN ms f asg t me (own.map (·.2))) σ H fun v H1 => D.nx (σ.set i (some v)) H1 := set_ok R E p
  obtain ⟨ev2, S2, ρ2, R2, E2, p2⟩ := p'
  refine okI σ H _ (rA_bnd R2 E2 p2 fun vs H1 xs S1 ρ1 R1 E1 l1 rvs p1 => ?_)
  split at p1
  · exact (pn_none p1).elim
  · rename_i sr hsr
    split at p1
    · rename_i ps S' hcl
      exact ⟨xs, S1, ρ1, sr, R1, rvs, hsr, fun J Y => lc_ok Y R1 E1 hj hcl (lc_endN fun w H' ρ' R' l' r' => p1.ok R' l' r')⟩
    · exact (pn_none p1).elim
end
end Lv
end
section
set_option Elab.async false
set_option linter.all false
set_option autoImplicit false
set_option maxRecDepth 100000
set_option maxHeartbeats 2000000
namespace Lv
open PySem PySem.Spec PyProof.Rows L2

/-! ### over a list, a tuple, a text -/
def fSeqL : FSr := fun xs S => match xs with
  | [.d (.list ps)] => some ⟨ps.map .d, none⟩
  | [.ref i] => match S[i]? with
    | some (.lst xs) => some ⟨xs, some (i, .lst xs)⟩
    | _ => none
  | _ => none
def fSeqT : FSr := fun xs S => match xs with
  | [.d (.tuple ps)] => some ⟨ps.map .d, none⟩
  | [.ref i] => match S[i]? with
    | some (.tup xs) => some ⟨xs, some (i, .tup xs)⟩
    | _ => none
  | _ => none
def fSeqS : FSr := fun xs _ => match xs with
  | [.d (.str z)] => some ⟨z.cps.toList.map fun c => .d (.str ⟨#[c]⟩), none⟩
  | _ => none
/-- a frozen list, a frozen tuple -/
theorem yl_list {K : PySem.W.Frag} {ρ₁ : Rg} {H₁ : Hp} {a : Addr} {vs : List V} {ps : List PyData} (hs : SqL K (frz ρ₁ H₁) a vs) (da : DpAll K (frz ρ₁ H₁) vs ps) : Yl K (Itl K a) ρ₁ H₁ ⟨ps.map .d, none⟩ := by
  have hl := dpall_len da
  refine ⟨fun i ρ S H R l _ hi => ?_, fun i ρ S H R l _ hi => ?_, fun i ρ S H v H' R l _ hi y => ?_⟩
  · have hi : i < vs.length := by rw [hl]; simpa using hi
    exact ⟨vs, vs[i], (l.ex.trans (frz_ex ρ H)).sl hs, by simp [hi]⟩
  · exact ⟨vs, (l.ex.trans (frz_ex ρ H)).sl hs, by rw [hl]; simpa using hi⟩
  · obtain ⟨e, y⟩ := y
    have hi : i < ps.length := by simpa using hi
    obtain ⟨w, h1, h2⟩ := dpall_get da (List.getElem?_eq_getElem hi)
    have e2 := y vs ((l.ex.trans (frz_ex ρ H)).sl hs)
    rw [h1] at e2
    have e3 : w = v := Option.some.inj e2
    exact ⟨e, .d ps[i], by simp [hi], by rw [← e3]; exact dp_mono l.ex _ _ h2⟩
theorem yl_tuple {K : PySem.W.Frag} {ρ₁ : Rg} {H₁ : Hp} {a : Addr} {vs : List V} {ps : List PyData} (hs : SqT K (frz ρ₁ H₁) a vs) (da : DpAll K (frz ρ₁ H₁) vs ps) : Yl K (Itt K a) ρ₁ H₁ ⟨ps.map .d, none⟩ := by
  have hl := dpall_len da
  refine ⟨fun i ρ S H R l _ hi => ?_, fun i ρ S H R l _ hi => ?_, fun i ρ S H v H' R l _ hi y => ?_⟩
  · have hi : i < vs.length := by rw [hl]; simpa using hi
    exact ⟨vs, vs[i], (l.ex.trans (frz_ex ρ H)).st hs, by simp [hi]⟩
  · exact ⟨vs, (l.ex.trans (frz_ex ρ H)).st hs, by rw [hl]; simpa using hi⟩
  · obtain ⟨e, y⟩ := y
    have hi : i < ps.length := by simpa using hi
    obtain ⟨w, h1, h2⟩ := dpall_get da (List.getElem?_eq_getElem hi)
    have e2 := y vs ((l.ex.trans (frz_ex ρ H)).st hs)
    rw [h1] at e2
    have e3 : w = v := Option.some.inj e2
    exact ⟨e, .d ps[i], by simp [hi], by rw [← e3]; exact dp_mono l.ex _ _ h2⟩
theorem yl_lst {K : PySem.W.Frag} {ρ₁ : Rg} {H₁ : Hp} {a : Addr} {j : Nat} {xs : List Val} (hj : ρ₁.ids[j]? = some a) : Yl K (Itl K a) ρ₁ H₁ ⟨xs, some (j, .lst xs)⟩ := by
  have get : ∀ {ρ S H}, RS K ρ S H → Lw ρ₁ H₁ ρ H → Kp S (some (j, .lst xs)) → ∃ vs, H a = some (.lst vs) ∧ VRs K ρ H vs xs := fun {ρ S H} R l k => R.ob j a _ (pre_get l.pre hj) k
  refine ⟨fun i ρ S H R l k hi => ?_, fun i ρ S H R l k hi => ?_, fun i ρ S H v H' R l k hi y => ?_⟩
  · obtain ⟨vs, h1, h2⟩ := get R l k
    have hi : i < vs.length := by rw [Paired.length h2]; exact hi
    exact ⟨vs, vs[i], SqL.of h1, by simp [hi]⟩
  · obtain ⟨vs, h1, h2⟩ := get R l k
    exact ⟨vs, SqL.of h1, by rw [Paired.length h2]; exact hi⟩
  · obtain ⟨e, y⟩ := y
    obtain ⟨vs, h1, h2⟩ := get R l k
    obtain ⟨w, h3, h4⟩ := vrs_get h2 (List.getElem?_eq_getElem hi)
    have e2 := y vs (SqL.of h1)
    rw [h3] at e2
    have e3 : w = v := Option.some.inj e2
    exact ⟨e, xs[i], List.getElem?_eq_getElem hi, by rw [← e3]; exact h4⟩
theorem yl_tup {K : PySem.W.Frag} {ρ₁ : Rg} {H₁ : Hp} {a : Addr} {j : Nat} {xs : List Val} (hj : ρ₁.ids[j]? = some a) : Yl K (Itt K a) ρ₁ H₁ ⟨xs, some (j, .tup xs)⟩ := by
  have get : ∀ {ρ S H}, RS K ρ S H → Lw ρ₁ H₁ ρ H → Kp S (some (j, .tup xs)) → ∃ vs, H a = some (.tup vs) ∧ VRs K ρ H vs xs := fun {ρ S H} R l k => R.ob j a _ (pre_get l.pre hj) k
  refine ⟨fun i ρ S H R l k hi => ?_, fun i ρ S H R l k hi => ?_, fun i ρ S H v H' R l k hi y => ?_⟩
  · obtain ⟨vs, h1, h2⟩ := get R l k
    have hi : i < vs.length := by rw [Paired.length h2]; exact hi
    exact ⟨vs, vs[i], SqT.of h1, by simp [hi]⟩
  · obtain ⟨vs, h1, h2⟩ := get R l k
    exact ⟨vs, SqT.of h1, by rw [Paired.length h2]; exact hi⟩
  · obtain ⟨e, y⟩ := y
    obtain ⟨vs, h1, h2⟩ := get R l k
    obtain ⟨w, h3, h4⟩ := vrs_get h2 (List.getElem?_eq_getElem hi)
    have e2 := y vs (SqT.of h1)
    rw [h3] at e2
    have e3 : w = v := Option.some.inj e2
    exact ⟨e, xs[i], List.getElem?_eq_getElem hi, by rw [← e3]; exact h4⟩
theorem yl_str {K : PySem.W.Frag} {ρ₁ : Rg} {H₁ : Hp} {z : Str} : Yl K (Its z) ρ₁ H₁ ⟨z.cps.toList.map fun c => .d (.str ⟨#[c]⟩), none⟩ := by
  refine ⟨fun i ρ S H R l _ hi => by simpa [Its] using hi, fun i ρ S H R l _ hi => by simpa [Its] using hi, fun i ρ S H v H' R l _ hi y => ?_⟩
  obtain ⟨e, c, hc, rfl⟩ := y
  refine ⟨e, .d (.str ⟨#[c]⟩), ?_, .str _⟩
  rw [List.getElem?_map, Array.getElem?_toList, hc]
  rfl
theorem ix_list {X : Cx} {W : WX} {tg l : Expr} {m : M} (h : PX X W l m) : IX X W tg l [m] fSeqL := by
  refine ⟨_, pi_list h.pe, fun σ H R h => ?_⟩
  refine rE_mono (show rE X.K W m σ H _ from h) fun v H1 ⟨xs, S1, ρ1, sr, R1, rv, hf, k⟩ => ?_
  unfold fSeqL at hf
  split at hf
  · cases hf
    obtain ⟨w, e, rw'⟩ := vrs1 rv
    cases e
    cases rw' with
    | lst hs ha => exact ⟨_, rfl, ⟨_, (frz_ex ρ1 H1).sl hs⟩, k _ (yl_list hs ha)⟩
  · rename_i i
    obtain ⟨w, e, rw'⟩ := vrs1 rv
    cases e
    obtain ⟨a, hi, rfl⟩ := rw'
    split at hf
    · rename_i ys hS
      cases hf
      obtain ⟨vs, h1, h2⟩ := R1.ob i a _ hi hS
      exact ⟨a, rfl, ⟨vs, SqL.of h1⟩, k _ (yl_lst hi)⟩
    · cases hf
  · cases hf
theorem ix_tup {X : Cx} {W : WX} {tg l : Expr} {m : M} (h : PX X W l m) : IX X W tg l [m] fSeqT := by
  refine ⟨_, pi_tup h.pe, fun σ H R h => ?_⟩
  refine rE_mono (show rE X.K W m σ H _ from h) fun v H1 ⟨xs, S1, ρ1, sr, R1, rv, hf, k⟩ => ?_
  unfold fSeqT at hf
  split at hf
  · cases hf
    obtain ⟨w, e, rw'⟩ := vrs1 rv
    cases e
    cases rw' with
    | tup hs ha => exact ⟨_, rfl, ⟨_, (frz_ex ρ1 H1).st hs⟩, k _ (yl_tuple hs ha)⟩
  · rename_i i
    obtain ⟨w, e, rw'⟩ := vrs1 rv
    cases e
    obtain ⟨a, hi, rfl⟩ := rw'
    split at hf
    · rename_i ys hS
      cases hf
      obtain ⟨vs, h1, h2⟩ := R1.ob i a _ hi hS
      exact ⟨a, rfl, ⟨vs, SqT.of h1⟩, k _ (yl_tup hi)⟩
    · cases hf
  · cases hf
theorem ix_str {X : Cx} {W : WX} {tg l : Expr} {m : M} (h : PX X W l m) : IX X W tg l [m] fSeqS := by
  refine ⟨_, pi_str h.pe, fun σ H R h => ?_⟩
  refine rE_mono (show rE X.K W m σ H _ from h) fun v H1 ⟨xs, S1, ρ1, sr, R1, rv, hf, k⟩ => ?_
  unfold fSeqS at hf
  split at hf
  · cases hf
    obtain ⟨w, e, rw'⟩ := vrs1 rv
    cases e
    exact ⟨_, vr_str rw', k _ yl_str⟩
  · cases hf

/-! ### over a range, up or down -/
def intV (lo c : Int) (n : Nat) : List Val := (List.range n).map fun (k : Nat) => Val.d (.int (lo + (k : Int) * c))
def RgOk (n : Int) : Prop := -(2 ^ 62) ≤ n ∧ n < 2 ^ 62
instance (n : Int) : Decidable (RgOk n) := by unfold RgOk; infer_instance
def fRng1 : FSr := fun xs _ => match xs with
  | [.d (.int j)] => if RgOk j then some ⟨intV 0 1 j.toNat, none⟩ else none
  | _ => none
def fRng2 : FSr := fun xs _ => match xs with
  | [.d (.int i), .d (.int j)] => if RgOk i ∧ RgOk j then some ⟨intV i 1 (j - i).toNat, none⟩ else none
  | _ => none
def fRev2 : FSr := fun xs _ => match xs with
  | [.d (.int i), .d (.int j)] => if RgOk i ∧ RgOk j then some ⟨intV (i + (((j - i).toNat : Nat) : Int) - 1) (-1) (j - i).toNat, none⟩ else none
  | _ => none
theorem yl_rng {K : PySem.W.Frag} {ρ₁ : Rg} {H₁ : Hp} {lo : Int} {n : Nat} : Yl K (Itr lo n) ρ₁ H₁ ⟨intV lo 1 n, none⟩ := by
  refine ⟨fun i ρ S H R l _ hi => by simpa [Itr, intV] using hi, fun i ρ S H R l _ hi => by simpa [Itr, intV] using hi, fun i ρ S H v H' R l _ hi y => ?_⟩
  obtain ⟨e, rfl⟩ := y
  have hi : i < n := by simpa [intV] using hi
  refine ⟨e, .d (.int (lo + (i : Int) * 1)), ?_, by rw [Int.mul_one]; exact .int _⟩
  simp [intV, hi]
theorem yl_rngC {K : PySem.W.Frag} {ρ₁ : Rg} {H₁ : Hp} {lo c : Int} {n : Nat} : Yl K (Itc lo c n) ρ₁ H₁ ⟨intV lo c n, none⟩ := by
  refine ⟨fun i ρ S H R l _ hi => by simpa [Itc, intV] using hi, fun i ρ S H R l _ hi => by simpa [Itc, intV] using hi, fun i ρ S H v H' R l _ hi y => ?_⟩
  obtain ⟨e, rfl⟩ := y
  have hi : i < n := by simpa [intV] using hi
  refine ⟨e, .d (.int (lo + (i : Int) * c)), ?_, .int _⟩
  simp [intV, hi]
theorem ix_rng1 {X : Cx} {W : WX} {tg a : Expr} {p pos : Pos} {ms : List M} (hg : Gl X "range") (hm : X.mg "range" = none) (ha : AX X W [a] ms) (hs : starEach [a] X.env = [(false, eval a X.env)] := by rfl) : IX X W tg (.Call (.Name "range" p) [a] [] pos) ms fRng1 := by
  refine ⟨_, pi_range1 hg hm ha.pa hs, fun σ H R h => ?_⟩
  refine rA_mono h fun vs H1 ⟨xs, S1, ρ1, sr, R1, rv, hf, k⟩ => ?_
  unfold fRng1 at hf
  split at hf
  · split at hf
    · rename_i j hj
      cases hf
      obtain ⟨w, rfl, rw'⟩ := vrs1 rv
      exact ⟨j, by rw [vr_int rw'], hj.1, hj.2, k _ yl_rng⟩
    · cases hf
  · cases hf
theorem ix_rng2 {X : Cx} {W : WX} {tg a b : Expr} {p pos : Pos} {ms : List M} (hg : Gl X "range") (hm : X.mg "range" = none) (ha : AX X W [a, b] ms) (hs : starEach [a, b] X.env = [(false, eval a X.env), (false, eval b X.env)] := by rfl) (hs2 : starEach [b] X.env = [(false, eval b X.env)] := by rfl) : IX X W tg (.Call (.Name "range" p) [a, b] [] pos) ms fRng2 := by
  refine ⟨_, pi_range2 hg hm ha.pa hs hs2, fun σ H R h => ?_⟩
  refine rA_mono h fun vs H1 ⟨xs, S1, ρ1, sr, R1, rv, hf, k⟩ => ?_
  unfold fRng2 at hf
  split at hf
  · split at hf
    · rename_i i j hj
      cases hf
      obtain ⟨w, u, rfl, rw', ru⟩ := vrs2 rv
      exact ⟨i, j, by rw [vr_int rw', vr_int ru], ⟨hj.1.1, hj.1.2, hj.2.1, hj.2.2⟩, k _ yl_rng⟩
    · cases hf
  · cases hf
theorem ix_rev2 {X : Cx} {W : WX} {tg a b : Expr} {p pos p2 pos2 : Pos} {ma mb : M} (hg : Gl X "reversed") (hm : X.mg "reversed" = none) (hg' : Gl X "range") (hm' : X.mg "range" = none) (ha : PX X W a ma) (hb : PX X W b mb)
    (na : starEach [a, b] X.env = (false, eval a X.env) :: starEach [b] X.env := by rfl) (nb : starEach [b] X.env = (false, eval b X.env) :: starEach [] X.env := by rfl) (hp : (backTo pos (starEach [b] X.env)).any (·.1) = false := by rfl)
    (hs : starEach [.Call (.Name "range" p) [a, b] [] pos] X.env = (false, eval (.Call (.Name "range" p) [a, b] [] pos) X.env) :: starEach [] X.env := by rfl) :
    IX X W tg (.Call (.Name "reversed" p2) [.Call (.Name "range" p) [a, b] [] pos] [] pos2) [ma, mb] fRev2 := by
  refine ⟨_, pi_revR hg hm (prg_2 hg' hm' ha.pe hb.pe na nb hp) hs, fun σ H R h => ?_⟩
  refine rE_mono (show rE X.K W ma σ H _ from h) fun v H1 h1 => rE_mono (show rE X.K W mb σ H1 _ from h1) fun u H2 ⟨xs, S1, ρ1, sr, R1, rv, hf, k⟩ => ?_
  unfold fRev2 at hf
  split at hf
  · split at hf
    · rename_i i j hj
      cases hf
      obtain ⟨w, z, e, rw', ru⟩ := vrs2 rv
      cases e
      exact ⟨i, j, vr_int rw', vr_int ru, hj.1.1, hj.1.2, hj.2.1, hj.2.2, k _ yl_rngC⟩
    · cases hf
  · cases hf

/-! ### while -/
def whileN (c : M) (body : MS) : Nat → MS
  | 0 => fun _ _ => none
  | n + 1 => bndBS c fun t => if t = true then (fun e S => match body e S with
    | some (.nx, e2, S2) => whileN c body n e2 S2
    | some (.ct, e2, S2) => whileN c body n e2 S2
    | some (.bk, e2, S2) => some (.nx, e2, S2)
    | o => o) else dNext
theorem sx_while {X : Cx} {W : WX} {c : Expr} {body : List Stmt} {mc : M} {mb : MS} {pos : Pos} (fuel : Nat) (hp : PassesOwn (model X.prog X.w) X.A X.env X.xe) (hc : TX X W c mc) (hb : BX X W body mb) : SX X W (.While c body [] pos) (whileN mc mb fuel) := by
  refine SX.of (ps_while hp hc.pt hb.ps) fun D σ H e S ρ R E p => ?_
  refine ⟨fun m σ H => ∃ e S ρ, RS X.K ρ S H ∧ ER X.K ρ H σ e ∧ PnS X.K W D (whileN mc mb m e S) ρ H, ⟨fuel, e, S, ρ, R, E, p⟩, ?_⟩
  rintro m σ H ⟨e, S, ρ, R, E, p⟩
  cases m with
  | zero => exact (pns_none p).elim
  | succ m =>
    refine rT_bndS R E p fun H1 t S1 ρ1 R1 E1 l1 p1 => ?_
    cases t with
    | false =>
      rw [if_neg Bool.false_ne_true] at p1 ⊢
      exact p1.nx R1 (Le.refl ρ1 H1) E1
    | true =>
      rw [if_pos rfl] at p1 ⊢
      refine ⟨fun σ' H' => ∃ e S ρ, RS X.K ρ S H' ∧ ER X.K ρ H' σ' e ∧ PnS X.K W D (whileN mc mb m e S) ρ H', fun σ' H' q => ⟨m, Nat.lt_succ_self m, q⟩, e, S1, ρ1, R1, E1, ?_⟩
      split at p1
      · rename_i e2 S2 hb
        exact ⟨.nx, e2, S2, hb, fun σ2 H2 ρ2 R2 l2 E2 => ⟨e2, S2, ρ2, R2, E2, p1.le l2⟩⟩
      · rename_i e2 S2 hb
        exact ⟨.ct, e2, S2, hb, fun σ2 H2 ρ2 R2 l2 E2 => ⟨e2, S2, ρ2, R2, E2, p1.le l2⟩⟩
      · rename_i e2 S2 hb
        exact ⟨.bk, e2, S2, hb, fun σ2 H2 ρ2 R2 l2 E2 => p1.nx R2 l2 E2⟩
      · rename_i h1 h2 h3
        obtain ⟨fl, e2, S2, eq, q⟩ := p1
        refine ⟨fl, e2, S2, eq, ?_⟩
        cases fl with
        | nx => exact (h1 _ _ eq).elim
        | ct => exact (h2 _ _ eq).elim
        | bk => exact (h3 _ _ eq).elim
        | rt x => exact q
        | er x => exact q

/-! ### over the keys of a dict: locked meanwhile -/
abbrev Pick := Ev → Sto → Option Nat
/-- the dict that an expression gives -/
def pick (m : M) : Pick := fun e S => match m e S with
  | some (.ok (.ref i), _) => some i
  | _ => none
def valOfKey : Key → PyData
  | .inl i => .int i
  | .inr x => .str x
def fKeys : FSr := fun xs S => match xs with
  | [.ref i] => match S[i]? with
    | some (.dicL kvs) => some ⟨kvs.map fun kv => .d (valOfKey kv.1), some (i, .dicL kvs)⟩
    | _ => none
  | _ => none
theorem vr_key {K : PySem.W.Frag} {ρ : Rg} {H : Hp} : ∀ k : Key, VR K ρ H (kV k) (.d (valOfKey k))
  | .inl _ => .int _
  | .inr _ => .str _
theorem kr_get {κ : Type} {K : PySem.W.Frag} {ρ : Rg} {H : Hp} : ∀ {vs : List (κ × V)} {kvs : List (κ × Val)} {i : Nat} {p : κ × V}, KR K ρ H vs kvs → vs[i]? = some p → ∃ q, kvs[i]? = some q ∧ p.1 = q.1 ∧ VR K ρ H p.2 q.2
  | [], _, _, _, h, e => by simp at e
  | q :: ps, _, 0, p, h, e => by
    cases h with
    | cons h1 h2 =>
      simp at e
      subst e
      exact ⟨_, rfl, h1⟩
  | q :: ps, _, i + 1, p, h, e => by
    cases h with
    | cons h1 h2 =>
      obtain ⟨v, a, b⟩ := kr_get (i := i) (p := p) h2 (by simpa using e)
      exact ⟨v, by simpa using a, b⟩
theorem yl_keys {K : PySem.W.Frag} {ρ₁ : Rg} {H₁ : Hp} {a : Addr} {o : Obj} {vs : List (Key × V)} {j : Nat} {kvs : List (Key × Val)} (hv : H₁ a = some (.frz o (.dK vs))) (kr : KR K ρ₁ H₁ vs kvs) : Yl K (Itk a o vs) ρ₁ H₁ ⟨kvs.map fun kv => .d (valOfKey kv.1), some (j, .dicL kvs)⟩ := by
  have hl := kr_len kr
  refine ⟨fun i ρ S H R l k hi => ⟨l.fz _ _ _ hv, by rw [hl]; simpa using hi⟩, fun i ρ S H R l k hi => ⟨l.fz _ _ _ hv, by rw [hl]; simpa using hi⟩, fun i ρ S H v H' R l k hi y => ?_⟩
  obtain ⟨e, key, w, hk, rfl⟩ := y
  obtain ⟨q, h1, h2, _⟩ := kr_get kr hk
  refine ⟨e, .d (valOfKey key), ?_, vr_key key⟩
  rw [List.getElem?_map, h1]
  simp only [Option.map_some]
  rw [← h2]
theorem yl_vals {K : PySem.W.Frag} {ρ₁ : Rg} {H₁ : Hp} {a : Addr} {o : Obj} {vs : List (Key × V)} {j : Nat} {kvs : List (Key × Val)} (hv : H₁ a = some (.frz o (.dK vs))) (kr : KR K ρ₁ H₁ vs kvs) : Yl K (Itd a o vs) ρ₁ H₁ ⟨kvs.map fun kv => kv.2, some (j, .dicL kvs)⟩ := by
  have hl := kr_len kr
  refine ⟨fun i ρ S H R l k hi => ⟨l.fz _ _ _ hv, by rw [hl]; simpa using hi⟩, fun i ρ S H R l k hi => ⟨l.fz _ _ _ hv, by rw [hl]; simpa using hi⟩, fun i ρ S H v H' R l k hi y => ?_⟩
  obtain ⟨e, key, hk⟩ := y
  obtain ⟨q, h1, h2, h3⟩ := kr_get kr hk
  refine ⟨e, q.2, ?_, VR.lw l h3⟩
  rw [List.getElem?_map, h1]
  rfl
theorem ix_keys {X : Cx} {W : WX} {tg e : Expr} {m : M} (h : PX X W e m) : IX X W tg e [m] fKeys := by
  refine ⟨_, pi_keys h.pe, fun σ H R h => ?_⟩
  refine rE_mono (show rE X.K W m σ H _ from h) fun v H1 ⟨xs, S1, ρ1, sr, R1, rv, hf, k⟩ => ?_
  unfold fKeys at hf
  split at hf
  · rename_i i
    obtain ⟨w, e, rw'⟩ := vrs1 rv
    cases e
    obtain ⟨a, hi, rfl⟩ := rw'
    split at hf
    · rename_i kvs hS
      cases hf
      obtain ⟨o, vs, h1, h2⟩ := R1.ob i a _ hi hS
      exact ⟨a, o, rfl, .inl ⟨vs, h1, k _ (yl_keys h1 h2)⟩⟩
    · cases hf
  · cases hf
def fVals : FSr := fun xs S => match xs with
  | [.ref i] => match S[i]? with
    | some (.dicL kvs) => some ⟨kvs.map fun kv => kv.2, some (i, .dicL kvs)⟩
    | _ => none
  | _ => none
theorem ix_vals {X : Cx} {W : WX} {tg e : Expr} {m : M} {apos cpos : Pos} (h : PX X W e m) (hbase : attributeBase e "values" X.env (eval e X.env) = eval e X.env := by rfl) (hline : (apos.endLine == cpos.line) = true := by rfl) : IX X W tg (.Call (.Attribute e "values" apos) [] [] cpos) [m] fVals := by
  refine ⟨_, pi_values h.pe hbase hline, fun σ H R h => ?_⟩
  refine rE_mono (show rE X.K W m σ H _ from h) fun v H1 ⟨xs, S1, ρ1, sr, R1, rv, hf, k⟩ => ?_
  unfold fVals at hf
  split at hf
  · rename_i i
    obtain ⟨w, e, rw'⟩ := vrs1 rv
    cases e
    obtain ⟨a, hi, rfl⟩ := rw'
    split at hf
    · rename_i kvs hS
      cases hf
      obtain ⟨o, vs, h1, h2⟩ := R1.ob i a _ hi hS
      exact ⟨a, o, vs, rfl, h1, k _ (yl_vals h1 h2)⟩
    · cases hf
  · cases hf
open Classical in
noncomputable def dLock (pk : Pick) (body : MS) : MS := fun e S => match pk e S with
  | none => none
  | some i => match S[i]? with
    | some (.dic kvs) => match body e (S.set i (.dicL kvs)) with
      | some (.er _, _, _) => none
      | some (f, e', S') => if S'[i]? = some (.dicL kvs) then some (f, e', S'.set i (.dic kvs)) else none
      | none => none
    | _ => none
open Classical in
noncomputable def mLock (pk : Pick) (m : M) : M := fun e S => match pk e S with
  | none => none
  | some i => match S[i]? with
    | some (.dic kvs) => match m e (S.set i (.dicL kvs)) with
      | some (.ok x, S') => if S'[i]? = some (.dicL kvs) then some (.ok x, S'.set i (.dic kvs)) else none
      | _ => none
    | _ => none
/-- what a lock does to the relation -/
theorem lock_in {K : PySem.W.Frag} {ρ : Rg} {H : Hp} {S : Sto} {i : Nat} {a : Addr} {kvs : List (Key × Val)} {vs : List (Key × V)} (R : RS K ρ S H) (hi : ρ.ids[i]? = some a) (hv : H a = some (.dK vs)) (kr : KR K ρ H vs kvs) (od : Obj) :
    RS K ρ (S.set i (.dicL kvs)) (upd H a (.frz od (.dK vs))) ∧ Le ρ H ρ (upd H a (.frz od (.dK vs))) :=
  R.put hi (noz hv (fun _ _ => by simp)) ⟨od, vs, upd_same, KR.mono (Le.put R hi (noz hv (fun _ _ => by simp))) kr⟩
theorem lock_out {K : PySem.W.Frag} {ρ ρ' : Rg} {H H' : Hp} {S S' : Sto} {i : Nat} {a : Addr} {kvs : List (Key × Val)} {vs : List (Key × V)} {od : Obj} (R : RS K ρ S H) (hi : ρ.ids[i]? = some a) (hv : H a = some (.dK vs)) (kr : KR K ρ H vs kvs)
    (R' : RS K ρ' S' H') (l : Le ρ (upd H a (.frz od (.dK vs))) ρ' H') (hS : S'[i]? = some (.dicL kvs)) :
    H' a = some (.frz od (.dK vs)) ∧ RS K ρ' (S'.set i (.dic kvs)) (upd H' a (.dK vs)) ∧ Le ρ H ρ' (upd H' a (.dK vs)) ∧ Ex (frz ρ' H') (frz ρ' (upd H' a (.dK vs))) := by
  obtain ⟨R1, l1⟩ := lock_in R hi hv kr od
  have hz := l.fz a od (.dK vs) upd_same
  have hi' := pre_get l.pre hi
  have ma : a ∈ ρ'.ids := List.mem_of_getElem? hi'
  have ex : Ex (frz ρ' H') (frz ρ' (upd H' a (.dK vs))) := by rw [frz_upd (.inl ma)]; exact Ex.refl _
  have mono : ∀ {v : V} {x : Val}, VR K ρ' H' v x → VR K ρ' (upd H' a (.dK vs)) v x := fun {v x} r => by
    cases x with
    | d q => exact dp_mono ex q v r
    | ref i => exact r
  have l2 : Le ρ H ρ' (upd H' a (.dK vs)) := ⟨l.pre, l.hid, (l1.ex.trans l.ex).trans ex, fun b hb => by
    have nb : b ≠ a := fun z => (R.hid b hb).1 (z ▸ List.mem_of_getElem? hi)
    rw [upd_ne nb, l.hk b hb, upd_ne nb], fun b o u z => by
    have nb : b ≠ a := fun q => by rw [q, hv] at z; cases z
    rw [upd_ne nb]
    exact l.fz b o u (by rw [upd_ne nb]; exact z)⟩
  have kr' : KR K ρ' (upd H' a (.dK vs)) vs kvs := KR.mono l2 kr
  refine ⟨hz, ⟨by rw [List.length_set]; exact R'.len, R'.nd, fun b hb => ⟨(R'.hid b hb).1, ?_⟩, fun j b v e1 e2 => ?_⟩, l2, ex⟩
  · rw [upd_ne (fun z : b = a => (R'.hid b hb).1 (z ▸ ma))]
    exact (R'.hid b hb).2
  · by_cases hj : i = j
    · subst hj
      rw [hi'] at e1
      cases e1
      rw [List.getElem?_set] at e2
      split at e2
      · split at e2
        · cases e2
          exact ⟨vs, upd_same, kr'⟩
        · cases e2
      · rename_i z
        exact absurd rfl z
    · rw [List.getElem?_set_ne hj] at e2
      have hb : b ≠ a := fun z => by
        subst z
        obtain ⟨h1, q1⟩ := List.getElem?_eq_some_iff.mp hi'
        obtain ⟨h2, q2⟩ := List.getElem?_eq_some_iff.mp e1
        exact hj ((List.getElem_inj R'.nd).mp (q1.trans q2.symm))
      have q := R'.ob j b v e1 e2
      cases v with
      | lst xs => obtain ⟨ws, q, r⟩ := q; exact ⟨ws, (upd_ne hb).trans q, Paired.mapP r fun _ _ z => mono z⟩
      | tup xs => obtain ⟨ws, q, r⟩ := q; exact ⟨ws, (upd_ne hb).trans q, Paired.mapP r fun _ _ z => mono z⟩
      | dic xs => obtain ⟨ws, q, r⟩ := q; exact ⟨ws, (upd_ne hb).trans q, Paired.mapP r fun _ _ z => ⟨z.1, mono z.2⟩⟩
      | dicN z xs => obtain ⟨ws, q, r⟩ := q; exact ⟨ws, (upd_ne hb).trans q, Paired.mapP r fun _ _ z => ⟨z.1, mono z.2⟩⟩
      | dicL xs => obtain ⟨w, ws, q, r⟩ := q; exact ⟨w, ws, (upd_ne hb).trans q, Paired.mapP r fun _ _ z => ⟨z.1, mono z.2⟩⟩
      | ins C xs => obtain ⟨dx, ws, q, r⟩ := q; exact ⟨dx, ws, (upd_ne hb).trans q, Paired.mapP r fun _ _ z => ⟨z.1, mono z.2⟩⟩
      | exc x => obtain ⟨oe, q, z, r⟩ := q; exact ⟨oe, (upd_ne hb).trans q, z, XR.ex ex (fun _ _ q => mono q) r⟩
theorem VR.ex {K : PySem.W.Frag} {ρ : Rg} {H H' : Hp} (l : Ex (frz ρ H) (frz ρ H')) {v : V} : ∀ {x : Val}, VR K ρ H v x → VR K ρ H' v x
  | .d p, h => dp_mono l p v h
  | .ref i, h => h
theorem ER.ex {K : PySem.W.Frag} {ρ : Rg} {H H' : Hp} {σ : L2.St} {e : Ev} (l : Ex (frz ρ H) (frz ρ H')) (h : ER K ρ H σ e) : ER K ρ H' σ e := ⟨h.1, fun i x q => let ⟨v, a, b⟩ := h.2 i x q; ⟨v, a, VR.ex l b⟩⟩
theorem sx_lock {X : Cx} {W : WX} {st : Stmt} {m : MS} (pk : Pick) (h : SX X W st m) : SX X W st (dLock pk m) := by
  refine SX.of (ps_lock h.ps) fun D σ H e S ρ R E p => ?_
  unfold dLock at p
  split at p
  · exact (pns_none p).elim
  · rename_i i hpk
    split at p
    · rename_i kvs hS
      have hi : i < ρ.ids.length := by
        rw [R.len]
        exact (List.getElem?_eq_some_iff.mp hS).1
      have hia : ρ.ids[i]? = some ρ.ids[i] := List.getElem?_eq_getElem hi
      obtain ⟨vs, hv, kr⟩ := R.ob i _ _ hia hS
      refine ⟨ρ.ids[i], .dK vs, hv, trivial, fun od => ?_⟩
      obtain ⟨R1, l1⟩ := lock_in R hia hv kr od
      refine ⟨e, _, ρ, R1, E.mono l1, ?_⟩
      split at p
      · exact (pns_none p).elim
      · rename_i f e' S' hf hm
        split at p
        · rename_i hS'
          refine ⟨f, e', S', hm, ?_⟩
          cases f with
          | er x => exact (hf x rfl).elim
          | nx =>
            intro σ' H' ρ' R' l' E'
            obtain ⟨a1, a2, a3, a4⟩ := lock_out R hia hv kr R' l' hS'
            exact ⟨a1, p.nx a2 a3 (E'.ex a4)⟩
          | bk =>
            intro σ' H' ρ' R' l' E'
            obtain ⟨a1, a2, a3, a4⟩ := lock_out R hia hv kr R' l' hS'
            obtain ⟨g, e2, S2, eq, q⟩ := p
            cases eq
            exact ⟨a1, q σ' _ ρ' a2 a3 (E'.ex a4)⟩
          | ct =>
            intro σ' H' ρ' R' l' E'
            obtain ⟨a1, a2, a3, a4⟩ := lock_out R hia hv kr R' l' hS'
            obtain ⟨g, e2, S2, eq, q⟩ := p
            cases eq
            exact ⟨a1, q σ' _ ρ' a2 a3 (E'.ex a4)⟩
          | rt x =>
            intro v H' ρ' R' l' r'
            obtain ⟨a1, a2, a3, a4⟩ := lock_out R hia hv kr R' l' hS'
            exact ⟨a1, p.rt a2 a3 (VR.ex a4 r')⟩
        · exact (pns_none p).elim
      · exact (pns_none p).elim
    · exact (pns_none p).elim
theorem px_lock {X : Cx} {W : WX} {st : Expr} {m : M} (pk : Pick) (h : PX X W st m) : PX X W st (mLock pk m) := by
  refine PX.of (pe_lock h.pe) fun σ H Q e S ρ R E p => ?_
  unfold mLock at p
  split at p
  · exact (pn_none p).elim
  · rename_i i hpk
    split at p
    · rename_i kvs hS
      have hi : i < ρ.ids.length := by
        rw [R.len]
        exact (List.getElem?_eq_some_iff.mp hS).1
      have hia : ρ.ids[i]? = some ρ.ids[i] := List.getElem?_eq_getElem hi
      obtain ⟨vs, hv, kr⟩ := R.ob i _ _ hia hS
      refine ⟨ρ.ids[i], .dK vs, hv, trivial, fun od => ?_⟩
      obtain ⟨R1, l1⟩ := lock_in R hia hv kr od
      refine ⟨e, _, ρ, R1, E.mono l1, ?_⟩
      split at p
      · rename_i x S' hm
        split at p
        · rename_i hS'
          refine ⟨.ok x, S', hm, fun v H' ρ' R' l' r' => ?_⟩
          obtain ⟨a1, a2, a3, a4⟩ := lock_out R hia hv kr R' l' hS'
          exact ⟨a1, p.ok a2 a3 (VR.ex a4 r')⟩
        · exact (pn_none p).elim
      · exact (pn_none p).elim
    · exact (pn_none p).elim
end Lv
end
section
set_option Elab.async false
set_option linter.all false
set_option autoImplicit false
set_option maxRecDepth 100000
set_option maxHeartbeats 2000000
namespace Lv
open PySem PySem.Spec PyProof.Rows L2

/-! ### a def's end: what it made itself is frozen, or forgotten -/
def deepF (n : Nat) : Nat → Sto → Val → Option PyData
  | 0, _, x => toD x
  | k + 1, S, x => match x with
    | .d p => some p
    | .ref i => if i < n then none else match S[i]? with
      | some (.lst xs) => (mapO (deepF n k S) xs).map .list
      | some (.tup xs) => (mapO (deepF n k S) xs).map .tuple
      | _ => none
def frzV (n : Nat) (S : Sto) (x : Val) : Option Val := match x with
  | .d p => some (.d p)
  | .ref i => if i < n then some (.ref i) else (deepF n 6 S (.ref i)).map .d
def Val.below (n : Nat) : Val → Prop
  | .d _ => True
  | .ref i => i < n
def Ob.below (n : Nat) : Ob → Prop
  | .lst xs => ∀ x ∈ xs, x.below n
  | .tup xs => ∀ x ∈ xs, x.below n
  | .dic kvs => ∀ q ∈ kvs, q.2.below n
  | .dicN _ kvs => ∀ q ∈ kvs, q.2.below n
  | .dicL kvs => ∀ q ∈ kvs, q.2.below n
  | .ins _ fs => ∀ q ∈ fs, q.2.below n
  | .exc x => ∀ fs, x.fs = some fs → ∀ q ∈ fs, q.2.below n
def CutOk (S S' : Sto) : Prop := ∀ (i : Nat) (o : Ob), S'[i]? = some o → i < S.length → S[i]? = some o ∨ o.below S.length
section
variable {K : PySem.W.Frag} {ρ ρ' : Rg} {H H' : Hp} {S S' : Sto}
theorem VR.below (R : RS K ρ S H) {v : V} : ∀ {x : Val}, VR K ρ H v x → x.below S.length
  | .d _, _ => trivial
  | .ref i, ⟨a, h, _⟩ => by
    show i < S.length
    rw [← R.len]
    exact (List.getElem?_eq_some_iff.mp h).1
theorem VRs.below (R : RS K ρ S H) {vs : List V} {xs : List Val} (h : VRs K ρ H vs xs) : ∀ x ∈ xs, x.below S.length := by
  induction h with
  | nil => intro x hx; cases hx
  | cons a t ih =>
    intro x hx
    rcases List.mem_cons.mp hx with rfl | hx
    · exact VR.below R a
    · exact ih x hx
theorem KR.below {κ : Type} (R : RS K ρ S H) {vs : List (κ × V)} {xs : List (κ × Val)} (h : KR K ρ H vs xs) : ∀ x ∈ xs, x.2.below S.length := by
  unfold KR at h
  induction h with
  | nil => intro x hx; cases hx
  | cons a t ih =>
    intro x hx
    rcases List.mem_cons.mp hx with rfl | hx
    · exact VR.below R a.2
    · exact ih x hx
theorem OR.below (R : RS K ρ S H) {a : Addr} {o : Ob} (h : OR K ρ H a o) : o.below S.length := by
  cases o with
  | lst xs => obtain ⟨_, _, r⟩ := h; exact VRs.below R r
  | tup xs => obtain ⟨_, _, r⟩ := h; exact VRs.below R r
  | dic xs => obtain ⟨_, _, r⟩ := h; exact KR.below R r
  | dicN z xs => obtain ⟨_, _, r⟩ := h; exact KR.below R r
  | dicL xs => obtain ⟨_, _, _, r⟩ := h; exact KR.below R r
  | ins C xs => obtain ⟨_, _, _, r⟩ := h; exact KR.below R r
  | exc x =>
    obtain ⟨_, _, _, r⟩ := h
    obtain ⟨cls, fs⟩ := x
    intro gs e
    cases fs with
    | none => cases e
    | some fs =>
      cases e
      obtain ⟨_, _, _, _, r⟩ := r.2
      exact KR.below R r
theorem take_get {α : Type} {xs : List α} {n i : Nat} (h : i < n) : (xs.take n)[i]? = xs[i]? := List.getElem?_take_of_lt h
theorem VR.cut {n : Nat} {v : V} : ∀ {x : Val}, x.below n → VR K ρ H v x → VR K (ρ.cut n) H v x
  | .d p, _, h => dp_mono (frz_cut n) p v h
  | .ref i, hb, ⟨a, h, z⟩ => ⟨a, (take_get (show i < n from hb)).trans h, z⟩
theorem VRs.cut {n : Nat} {vs : List V} {xs : List Val} (h : VRs K ρ H vs xs) (hb : ∀ x ∈ xs, x.below n) : VRs K (ρ.cut n) H vs xs := by
  induction h with
  | nil => exact .nil
  | cons a t ih => exact .cons (VR.cut (hb _ List.mem_cons_self) a) (ih fun x hx => hb x (List.mem_cons_of_mem _ hx))
theorem KR.cut {κ : Type} {n : Nat} {vs : List (κ × V)} {xs : List (κ × Val)} (h : KR K ρ H vs xs) (hb : ∀ x ∈ xs, x.2.below n) : KR K (ρ.cut n) H vs xs := by
  unfold KR at h ⊢
  induction h with
  | nil => exact .nil
  | cons a t ih => exact .cons ⟨a.1, VR.cut (hb _ List.mem_cons_self) a.2⟩ (ih fun x hx => hb x (List.mem_cons_of_mem _ hx))
theorem OR.cut {n : Nat} {a : Addr} {o : Ob} (hb : o.below n) (h : OR K ρ H a o) : OR K (ρ.cut n) H a o := by
  cases o with
  | lst xs => obtain ⟨vs, q, r⟩ := h; exact ⟨vs, q, VRs.cut r hb⟩
  | tup xs => obtain ⟨vs, q, r⟩ := h; exact ⟨vs, q, VRs.cut r hb⟩
  | dic xs => obtain ⟨vs, q, r⟩ := h; exact ⟨vs, q, KR.cut r hb⟩
  | dicN z xs => obtain ⟨vs, q, r⟩ := h; exact ⟨vs, q, KR.cut r hb⟩
  | dicL xs => obtain ⟨o, vs, q, r⟩ := h; exact ⟨o, vs, q, KR.cut r hb⟩
  | ins C xs => obtain ⟨dx, vs, q, r⟩ := h; exact ⟨dx, vs, q, KR.cut r hb⟩
  | exc x =>
    obtain ⟨oe, q, z, r⟩ := h
    refine ⟨oe, q, z, ?_⟩
    obtain ⟨cls, fs⟩ := x
    refine ⟨r.1, ?_⟩
    cases fs with
    | none => exact r.2
    | some fs =>
      obtain ⟨b, vs, e, y, kr⟩ := r.2
      exact ⟨b, vs, e, frz_cut n _ _ y, KR.cut kr (hb _ rfl)⟩
theorem RS.cut (R : RS K ρ S H) (R' : RS K ρ' S' H') (l : Le ρ H ρ' H') (c : CutOk S S') : RS K (ρ'.cut S.length) (S'.take S.length) H' ∧ Le ρ H (ρ'.cut S.length) H' := by
  have hle : S.length ≤ S'.length := by
    rw [← R.len, ← R'.len]
    exact l.pre.length_le
  refine ⟨⟨?_, ?_, fun a ha => ⟨fun z => (R'.hid a ha).1 (List.mem_of_mem_take z), (R'.hid a ha).2⟩, fun i a o e1 e2 => ?_⟩, ⟨?_, l.hid, l.ex.trans (frz_cut _), l.hk, l.fz⟩⟩
  · show (ρ'.ids.take S.length).length = _
    rw [List.length_take, List.length_take, R'.len]
  · exact R'.nd.sublist (List.take_sublist _ _)
  · have e1 : (ρ'.ids.take S.length)[i]? = some a := e1
    have hi : i < S.length := by
      have := (List.getElem?_eq_some_iff.mp e1).1
      rw [List.length_take] at this
      omega
    rw [take_get hi] at e1 e2
    refine OR.cut ?_ (R'.ob i a o e1 e2)
    rcases c i o e2 hi with h | h
    · have hi' : i < ρ.ids.length := by rw [R.len]; exact hi
      exact OR.below R (R.ob i _ o (List.getElem?_eq_getElem hi') h)
    · exact h
  · show ρ.ids <+: ρ'.ids.take S.length
    rw [← R.len]
    obtain ⟨t, ht⟩ := l.pre
    rw [← ht, List.take_left]
    exact List.prefix_refl _
theorem deepF_ok (R : RS K ρ S H) (n : Nat) : ∀ (k : Nat) {v : V} {x : Val} {p : PyData}, VR K ρ H v x → deepF n k S x = some p → Dp K (frz (ρ.cut n) H) v p := by
  intro k
  induction k with
  | zero =>
    intro v x p r h
    cases x with
    | d q =>
      cases h
      exact dp_mono (frz_cut n) _ _ r
    | ref i => cases h
  | succ k ih =>
    intro v x p r h
    have all : ∀ {xs : List Val} {ps : List PyData} {vs : List V}, mapO (deepF n k S) xs = some ps → VRs K ρ H vs xs → DpAll K (frz (ρ.cut n) H) vs ps := by
      intro xs
      induction xs with
      | nil =>
        intro ps vs h r
        cases h
        cases r
        exact .nil
      | cons x xs ihx =>
        intro ps vs h r
        cases r with
        | cons r1 r2 =>
          unfold mapO at h
          split at h
          · rename_i h1 h2
            cases h
            exact .cons (ih r1 h1) (ihx h2 r2)
          · cases h
    cases x with
    | d q =>
      cases h
      exact dp_mono (frz_cut n) _ _ r
    | ref i =>
      obtain ⟨a, hi, rfl⟩ := r
      simp only [deepF] at h
      split at h
      · cases h
      · rename_i hn
        have out : ¬ (ρ.cut n).out a := by
          rintro (z | z)
          · obtain ⟨j, hj⟩ := List.getElem?_of_mem (show a ∈ ρ.ids.take n from z)
            have hjn : j < n := by
              have := (List.getElem?_eq_some_iff.mp hj).1
              rw [List.length_take] at this
              omega
            rw [take_get hjn] at hj
            obtain ⟨h1, q1⟩ := List.getElem?_eq_some_iff.mp hi
            obtain ⟨h2, q2⟩ := List.getElem?_eq_some_iff.mp hj
            have := (List.getElem_inj R.nd).mp (q1.trans q2.symm)
            omega
          · exact (R.hid a z).1 (List.mem_of_getElem? hi)
        split at h
        · rename_i xs hS
          obtain ⟨vs, hv, q⟩ := R.ob i a _ hi hS
          obtain ⟨ps, e1, rfl⟩ := Option.map_eq_some_iff.mp h
          exact .lst (SqL.of ((frz_at out).trans hv)) (all e1 q)
        · rename_i xs hS
          obtain ⟨vs, hv, q⟩ := R.ob i a _ hi hS
          obtain ⟨ps, e1, rfl⟩ := Option.map_eq_some_iff.mp h
          exact .tup (SqT.of ((frz_at out).trans hv)) (all e1 q)
        · cases h
theorem frzV_ok (R : RS K ρ S H) {n : Nat} {v : V} {x y : Val} (r : VR K ρ H v x) (h : frzV n S x = some y) : VR K (ρ.cut n) H v y := by
  unfold frzV at h
  split at h
  · cases h
    exact dp_mono (frz_cut n) _ _ r
  · rename_i i
    split at h
    · rename_i hi
      cases h
      exact VR.cut hi r
    · obtain ⟨p, e, rfl⟩ := Option.map_eq_some_iff.mp h
      exact deepF_ok R n 6 r e
end

/-! ### a def's function -/
abbrev Fn := List Val → Sto → Option (Val × Sto)
def env0 (n : Nat) (xs : List Val) : Ev := xs.map some ++ List.replicate (n - xs.length) none
/-- its body run; what it made stays -/
def fnKeep (n : Nat) (m : MS) : Fn := fun xs S => match m (env0 n xs) S with
  | some (.nx, _, S') => some (.d .none, S')
  | some (.rt x, _, S') => some (x, S')
  | _ => none
open Classical in
/-- .. what it made is frozen (what it hands back) or forgotten -/
noncomputable def fnCut (n : Nat) (m : MS) : Fn := fun xs S => match fnKeep n m xs S with
  | some (x, S') => if CutOk S S' then (frzV S.length S' x).map fun y => (y, S'.take S.length) else none
  | none => none
/-- what a def promises: no exception leaves it -/
def spN (K : PySem.W.Frag) (g : Fn) (n : Nat) : Sp := fun vs H Q _ => vs.length = n ∧ ∃ ρ S xs z S', RS K ρ S H ∧ VRs K ρ H vs xs ∧ g xs S = some (z, S') ∧ Fin K ρ H z S' Q
theorem start_ok {K : PySem.W.Frag} {ρ : Rg} {H : Hp} {N : List Str} {vs : List V} {xs : List Val} (r : VRs K ρ H vs xs) : ER K ρ H (L2.start N vs) (env0 N.length xs) := by
  have hl := Paired.length r
  refine ⟨by unfold L2.start env0; simp [hl], fun i x e => ?_⟩
  unfold env0 at e
  unfold L2.start
  by_cases hi : i < xs.length
  · rw [List.getElem?_append_left (by simpa using hi), List.getElem?_map, List.getElem?_eq_getElem hi] at e
    have e : xs[i] = x := Option.some.inj (Option.some.inj e)
    obtain ⟨v, h1, h2⟩ := vrs_get r (List.getElem?_eq_getElem hi)
    refine ⟨v, ?_, e ▸ h2⟩
    rw [List.getElem?_append_left (by simp [hl, hi]), List.getElem?_map, h1]
    rfl
  · rw [List.getElem?_append_right (by simpa using hi)] at e
    rw [List.getElem?_replicate] at e
    split at e
    · cases e
    · cases e
theorem keep_ok {K : PySem.W.Frag} {ρ : Rg} {H : Hp} {S S' : Sto} {N : List Str} {m : MS} {vs : List V} {xs : List Val} {z : Val} {Q : VK} (R : RS K ρ S H) (rv : VRs K ρ H vs xs) (h : fnKeep N.length m xs S = some (z, S')) (q : Fin K ρ H z S' Q) :
    rS K WF m { nx := fun _ H' => Q .non H', rt := Q } (L2.start N vs) H := by
  refine ⟨env0 N.length xs, S, ρ, R, start_ok rv, ?_⟩
  unfold fnKeep at h
  split at h
  · rename_i e' S2 hm
    cases h
    exact ⟨.nx, e', _, hm, fun σ' H' ρ' R' l' _ => q _ H' ρ' R' l' .non⟩
  · rename_i x e' S2 hm
    cases h
    exact ⟨.rt _, e', _, hm, fun v H' ρ' R' l' r' => q v H' ρ' R' l' r'⟩
  · cases h
theorem cut_fin {K : PySem.W.Frag} {ρ : Rg} {H : Hp} {S S' : Sto} {n : Nat} {m : MS} {xs : List Val} {z : Val} {Q : VK} (R : RS K ρ S H) (h : fnCut n m xs S = some (z, S')) (q : Fin K ρ H z S' Q) : ∃ z2 S2, fnKeep n m xs S = some (z2, S2) ∧ Fin K ρ H z2 S2 Q := by
  unfold fnCut at h
  split at h
  · rename_i z2 S2 hk
    split at h
    · rename_i c
      obtain ⟨y, hy, e⟩ := Option.map_eq_some_iff.mp h
      cases e
      refine ⟨z2, S2, hk, fun w H' ρ' R' l' r' => ?_⟩
      obtain ⟨R2, l2⟩ := RS.cut R R' l' c
      exact q w H' _ R2 l2 (frzV_ok R' r' hy)
    · cases h
  · cases h
/-- the two kinds of ends -/
inductive IsFn (n : Nat) (m : MS) (g : Fn) : Prop
  | keep (h : g = fnKeep n m)
  | cut (h : g = fnCut n m)
theorem IsFn.fin {K : PySem.W.Frag} {ρ : Rg} {H : Hp} {S S' : Sto} {n : Nat} {m : MS} {g : Fn} {xs : List Val} {z : Val} {Q : VK} (i : IsFn n m g) (R : RS K ρ S H) (h : g xs S = some (z, S')) (q : Fin K ρ H z S' Q) : ∃ z2 S2, fnKeep n m xs S = some (z2, S2) ∧ Fin K ρ H z2 S2 Q := by
  cases i with
  | keep e =>
    subst e
    exact ⟨z, S', h, q⟩
  | cut e =>
    subst e
    exact cut_fin R h q
section
variable {P : Program} {w : World} {K : PySem.W.Frag} {mg : Str → Option Value} {base : Heap}
theorem fnd_ok {x qual : Str} {pa : Arguments} {body : List Stmt} {sc : Scope} {f : Addr} {fd : FuncData} {N ps : List Str} {k : Nat} {m : MS} {g : Fn} (F : FunD K x qual pa body sc [] [] f fd) (Sc : FnScope N ps sc) (i : IsFn N.length m g)
    (hb : ∀ (cdv : Value) (A : Around) (outer : List Env) (s : Shared) (H : Hp) (E : XK), Room k (A.deeper (envOfC qual sc s.heap.objs.size f cdv)) → BX (cxOf CX0 P w K mg base N qual sc f cdv A outer s H E).nox WF body m) :
    FnOk P w K mg base CX0 (k + 1) f fd ps (spN K g ps.length) := by
  refine F.ok Sc (fun vs H Q E h => h.1) (fun cdv A outer s H vs Q E hr h => ?_)
  obtain ⟨hl, ρ, S, xs, z, S', R, rv, hg, q⟩ := h
  obtain ⟨z2, S2, h2, q2⟩ := i.fin R hg q
  exact ⟨_, (hb cdv A outer s H E hr).ps.nox, keep_ok R rv h2 q2⟩
end
/-- a def of the module's, by its name -/
structure FnG (P : Program) (w : World) (K : PySem.W.Frag) (mg : Str → Option Value) (base : Heap) (x : Str) (k : Nat) (ps : List Str) (g : Fn) : Prop where
  ex : ∃ f fd, FnOk P w K mg base CX0 k f fd ps (spN K g ps.length) ∧ mg x = some (.ref f) ∧ PySem.W.keepIn K (.ref f) = true ∧ Binds K fd ps []
/-- a method of the class at C -/
structure MtG (P : Program) (w : World) (K : PySem.W.Frag) (mg : Str → Option Value) (base : Heap) (C : Addr) (x : Str) (k : Nat) (ps : List Str) (g : Fn) : Prop where
  ex : ∃ f fd, FnOk P w K mg base CX0 k f fd ps (spN K g ps.length) ∧ Meth K C x f ∧ Binds K fd ps []
/-- a class that is made -/
structure MkG (P : Program) (w : World) (K : PySem.W.Frag) (mg : Str → Option Value) (base : Heap) (C : Addr) (x : Str) (k : Nat) (ps : List Str) (g : Fn) : Prop where
  ex : ∃ f fd, FnOk P w K mg base CX0 k f fd ps (spN K g ps.length) ∧ Mk K C f ∧ mg x = some (.ref C) ∧ Binds K fd ps []
def mCall (g : Fn) (ms : List M) : M := args ms fun xs => fun _ S => lift (g xs S)
section
variable {X : Cx} {W : WX} {x : Str} {k j : Nat} {ps : List Str} {g : Fn} {e o : Expr} {es : List Expr} {mo : M} {ms : List M} {p pos apos : Pos} {C : Addr}
theorem spN_of {K : PySem.W.Frag} {ρ : Rg} {H : Hp} {S S' : Sto} {n : Nat} {vs : List V} {xs : List Val} {z : Val} {Q : VK} {E : XK} (R : RS K ρ S H) (rv : VRs K ρ H vs xs) (hl : xs.length = n) (h : g xs S = some (z, S')) (q : Fin K ρ H z S' Q) : spN K g n vs H Q E :=
  ⟨by rw [Paired.length rv, hl], ρ, S, xs, z, S', R, rv, h, q⟩
theorem args_len {K : PySem.W.Frag} {σ : L2.St} {ev : Ev} {Q : VK} : ∀ {ms : List M} {ρ : Rg} {H : Hp} {S : Sto} {k : List Val → M} {T : List V → Hp → Prop}, RS K ρ S H → ER K ρ H σ ev → Pn K W σ (args ms k ev S) ρ H Q →
    (∀ vs H1 xs S1 ρ1, xs.length = ms.length → RS K ρ1 S1 H1 → ER K ρ1 H1 σ ev → Le ρ H ρ1 H1 → VRs K ρ1 H1 vs xs → Pn K W σ (k xs ev S1) ρ1 H1 Q → T vs H1) → rA K W ms σ H T
  | [], ρ, H, S, k, T, R, E, h, hk => hk [] H [] S ρ rfl R E (Le.refl ρ H) .nil h
  | m :: ms, ρ, H, S, k, T, R, E, h, hk => by
    refine rE_bnd R E h fun v H1 x S1 ρ1 R1 E1 l1 rv p1 => ?_
    exact args_len (T := fun xs H2 => T (v :: xs) H2) R1 E1 p1 fun vs H2 xs S2 ρ2 hl R2 E2 l2 rvs p2 => hk (v :: vs) H2 (x :: xs) S2 ρ2 (by rw [List.length_cons, List.length_cons, hl]) R2 E2 (l1.trans l2) (.cons (VR.mono l2 rv) rvs) p2
theorem px_call (G : FnG X.prog X.w X.K X.mg X.base x k ps g) (hr : Room j X.A) (hk : k ≤ j) (hg : Gl X x) (hn : ps.length = ms.length) (ha : AX X W (e :: es) ms) (hdb : (x == ("__debug__" : Str)) = false := by decide) (he : starEach (e :: es) X.env = (false, eval e X.env) :: starEach es X.env := by rfl)
    (hpl : (backTo pos (starEach es X.env)).any (·.1) = false := by rfl) : PX X W (.Call (.Name x p) (e :: es) [] pos) (mCall g ms) := by
  obtain ⟨f, fd, F, hm, kp, b⟩ := G.ex
  refine PX.of (pe_call F (hr.mono hk) hg hm kp b .nil pass0 ha.pa hdb he hpl) fun σ H Q ev S ρ R E p => ?_
  refine args_len R E p fun vs H1 xs S1 ρ1 hl R1 E1 l1 rvs p1 => ?_
  obtain ⟨z, S', eq, q⟩ := pn_lift p1
  rw [List.append_nil]
  exact spN_of R1 rvs (hl.trans hn.symm) eq q
/-- o.m(..) -/
def insAt (C : Addr) (S : Sto) : Val → Option (Nat × List (Str × Val))
  | .ref i => match S[i]? with
    | some (.ins C' fs) => if C' = C then some (i, fs) else none
    | _ => none
  | _ => none
theorem ins_ok {K : PySem.W.Frag} {ρ : Rg} {H : Hp} {S : Sto} {v : V} {x : Val} {i : Nat} {fs : List (Str × Val)} (R : RS K ρ S H) (r : VR K ρ H v x) (h : insAt C S x = some (i, fs)) : ∃ a dx vs, x = .ref i ∧ ρ.ids[i]? = some a ∧ v = .ref a ∧ H a = some (.ins C dx vs) ∧ KR K ρ H vs fs := by
  cases x with
  | d p => cases h
  | ref i' =>
    obtain ⟨a, hi, rfl⟩ := r
    simp only [insAt] at h
    split at h
    · rename_i C' fs' hS
      split at h
      · rename_i hC
        cases h
        subst hC
        obtain ⟨dx, vs, h1, h2⟩ := R.ob _ a _ hi hS
        exact ⟨a, dx, vs, rfl, hi, rfl, h1, h2⟩
      · cases h
    · cases h
theorem kr_lookup {K : PySem.W.Frag} {ρ : Rg} {H : Hp} (f : Str) : ∀ {vs : List (Str × V)} {fs : List (Str × Val)}, KR K ρ H vs fs → (fs.lookup f = none → vs.lookup f = none) ∧ ∀ x, fs.lookup f = some x → ∃ v, vs.lookup f = some v ∧ VR K ρ H v x
  | _, [], h => by
    cases h
    exact ⟨fun _ => rfl, fun x e => by cases e⟩
  | _, q :: fs, h => by
    cases h with
    | @cons p _ ps _ h1 h2 =>
      obtain ⟨a, b⟩ := kr_lookup f h2
      obtain ⟨p1, p2⟩ := p
      obtain ⟨q1, q2⟩ := q
      obtain ⟨e, r⟩ := h1
      simp only at e r
      subst e
      cases hb : f == p1 with
      | true =>
        have e1 : List.lookup f ((p1, q2) :: fs) = some q2 := by simp [List.lookup, hb]
        have e2 : List.lookup f ((p1, p2) :: ps) = some p2 := by simp [List.lookup, hb]
        rw [e1, e2]
        exact ⟨(fun z => by cases z), fun x z => ⟨p2, rfl, by cases z; exact r⟩⟩
      | false =>
        have e1 : List.lookup f ((p1, q2) :: fs) = List.lookup f fs := by simp [List.lookup, hb]
        have e2 : List.lookup f ((p1, p2) :: ps) = List.lookup f ps := by simp [List.lookup, hb]
        rw [e1, e2]
        exact ⟨a, b⟩
def mMeth (C : Addr) (m : Str) (g : Fn) (mo : M) (ms : List M) : M := bnd mo fun x => fun e S => match insAt C S x with
  | some (_, fs) => if (fs.lookup m).isNone then (args ms fun xs => fun _ S => lift (g (x :: xs) S)) e S else none
  | none => none
theorem px_meth {m : Str} {pl : Sem Bool} (G : MtG X.prog X.w X.K X.mg X.base C m k ps g) (c : Cls X.K C) (hr : Room j X.A) (hk : k ≤ j) (hn : ps.length = ms.length + 1) (ho : PX X W o mo) (ha : AX X W (e :: es) ms)
    (hst : starEach (e :: es) X.env = (false, eval e X.env) :: starEach es X.env := by rfl) (hpl : (backTo pos (starEach es X.env)).any (·.1) = false := by rfl)
    (ht : eval (.Call (.Attribute o m apos) (e :: es) [] pos) X.env = (do
      let ov ← eval o X.env
      standAt apos.atName
      let (f, first) ← holding [ov] (getMethod ov m pl)
      callWith pos f first (backTo pos (starEach (e :: es) X.env)) (backToKw pos (keywordEach [] X.env))) := by rfl) : PX X W (.Call (.Attribute o m apos) (e :: es) [] pos) (mMeth C m g mo ms) := by
  obtain ⟨f, fd, F, hm, b⟩ := G.ex
  refine PX.of (pe_meth (pl := pl) ho.pe c hm F (hr.mono hk) b .nil pass0 ha.pa hst hpl ht) fun σ H Q ev S ρ R E p => ?_
  refine rE_bnd R E p fun v H1 x S1 ρ1 R1 E1 l1 rv p1 => ?_
  split at p1
  · rename_i i fs hi
    split at p1
    · rename_i hf
      obtain ⟨a, dx, vs, rfl, hia, rfl, h1, h2⟩ := ins_ok R1 rv hi
      refine ⟨a, dx, vs, rfl, h1, (kr_lookup m h2).1 (by simpa using hf), ?_⟩
      refine args_len R1 E1 p1 fun ws H2 xs S2 ρ2 hl R2 E2 l2 rvs p2 => ?_
      obtain ⟨z, S', eq, q⟩ := pn_lift p2
      rw [List.append_nil]
      exact spN_of R2 (.cons (VR.mono l2 rv) rvs) (by rw [List.length_cons, hl, hn]) eq q
    · exact (pn_none p1).elim
  · exact (pn_none p1).elim
theorem px_meth0 {m : Str} {pl : Sem Bool} (G : MtG X.prog X.w X.K X.mg X.base C m k ps g) (c : Cls X.K C) (hr : Room j X.A) (hk : k ≤ j) (hn : ps.length = 1) (ho : PX X W o mo)
    (ht : eval (.Call (.Attribute o m apos) [] [] pos) X.env = (do
      let ov ← eval o X.env
      standAt apos.atName
      let (f, first) ← holding [ov] (getMethod ov m pl)
      callWith pos f first (backTo pos (starEach [] X.env)) (backToKw pos (keywordEach [] X.env))) := by rfl) : PX X W (.Call (.Attribute o m apos) [] [] pos) (mMeth C m g mo []) := by
  obtain ⟨f, fd, F, hm, b⟩ := G.ex
  refine PX.of (pe_meth0 (pl := pl) ho.pe c hm F (hr.mono hk) b .nil pass0 ht) fun σ H Q ev S ρ R E p => ?_
  refine rE_bnd R E p fun v H1 x S1 ρ1 R1 E1 l1 rv p1 => ?_
  split at p1
  · rename_i i fs hi
    split at p1
    · rename_i hf
      obtain ⟨a, dx, vs, rfl, hia, rfl, h1, h2⟩ := ins_ok R1 rv hi
      refine ⟨a, dx, vs, rfl, h1, (kr_lookup m h2).1 (by simpa using hf), ?_⟩
      obtain ⟨z, S', eq, q⟩ := pn_lift p1
      exact spN_of (E := E0) R1 (.cons rv .nil) hn.symm eq q
    · exact (pn_none p1).elim
  · exact (pn_none p1).elim
/-- C(..) -/
def mMake (C : Addr) (g : Fn) (ms : List M) : M := args ms fun xs => fun _ S => match g (.ref S.length :: xs) (S ++ [.ins C []]) with
  | some (.d .none, S') => some (.ok (.ref S.length), S')
  | _ => none
theorem px_make (G : MkG X.prog X.w X.K X.mg X.base C x k ps g) (hr : Room j X.A) (hk : k + 1 ≤ j) (hg : Gl X x) (hn : ps.length = ms.length + 1) (ha : AX X W (e :: es) ms) (hdb : (x == ("__debug__" : Str)) = false := by decide)
    (he : starEach (e :: es) X.env = (false, eval e X.env) :: starEach es X.env := by rfl) (hpl : (backTo pos (starEach es X.env)).any (·.1) = false := by rfl) : PX X W (.Call (.Name x p) (e :: es) [] pos) (mMake C g ms) := by
  obtain ⟨f, fd, F, hm, hmg, b⟩ := G.ex
  refine PX.of (pe_make hm F (hr.mono hk) hg hmg b .nil pass0 ha.pa hdb he hpl) fun σ H Q ev S ρ R E p => ?_
  refine args_len R E p fun vs H1 xs S1 ρ1 hl R1 E1 l1 rvs p1 => ?_
  intro a dx na ndx nad
  split at p1
  · rename_i S' hgq
    obtain ⟨R2, l2⟩ := R1.frozen (o := .own a) ndx
    have na2 : upd H1 dx (.own a) a = none := by rw [upd_ne (Ne.symm nad)]; exact na
    obtain ⟨R3, l3⟩ := R2.add (o := .ins C dx []) (u := .ins C []) na2 ⟨dx, [], upd_same, .nil⟩
    rw [List.append_nil]
    have ra : VR X.K (ρ1.add a) (upd (upd H1 dx (.own a)) a (.ins C dx [])) (.ref a) (.ref S1.length) := ⟨a, R2.addIx, rfl⟩
    refine spN_of R3 (.cons ra (VRs.mono (l2.trans l3) rvs)) (by rw [List.length_cons, hl, hn]) hgq fun v H' ρ' R' l' r' => ⟨vr_non r', ?_⟩
    exact p1.ok R' ((l2.trans l3).trans l') (VR.mono l' ra)
  · exact (pn_none p1).elim
/-! ### fields -/
def mFld (C : Addr) (f : Str) (m : M) : M := bnd m fun x => fun _ S => match insAt C S x with
  | some (_, fs) => (fs.lookup f).map fun y => (.ok y, S)
  | none => none
theorem px_fld {f : Str} (c : Cls X.K C) (hn : NoAttr X.K C f) (ho : PX X W o mo) (hb : attributeBase o f X.env (eval o X.env) = eval o X.env := by rfl) : PX X W (.Attribute o f pos) (mFld C f mo) := by
  refine PX.of (pe_fld ho.pe hb) fun σ H Q ev S ρ R E p => ?_
  refine rE_bnd R E p fun v H1 x S1 ρ1 R1 E1 l1 rv p1 => ?_
  split at p1
  · rename_i i fs hi
    obtain ⟨a, dx, vs, rfl, hia, rfl, h1, h2⟩ := ins_ok R1 rv hi
    cases hf : fs.lookup f with
    | none =>
      rw [hf] at p1
      exact (pn_none p1).elim
    | some y =>
      rw [hf] at p1
      obtain ⟨w, h3, h4⟩ := (kr_lookup f h2).2 y hf
      exact ⟨a, C, dx, vs, w, rfl, h1, c, hn, h3, p1.ok R1 (Le.refl ρ1 H1) h4⟩
  · exact (pn_none p1).elim
def putFv (f : Str) (v : Val) : List (Str × Val) → List (Str × Val)
  | [] => [(f, v)]
  | (g, x) :: r => if g = f then (g, v) :: r else (g, x) :: putFv f v r
theorem kr_putF {K : PySem.W.Frag} {ρ : Rg} {H : Hp} {v : V} {x : Val} (f : Str) (r : VR K ρ H v x) : ∀ {vs : List (Str × V)} {fs : List (Str × Val)}, KR K ρ H vs fs → KR K ρ H (putF f v vs) (putFv f x fs)
  | _, [], h => by
    cases h
    exact .cons ⟨rfl, r⟩ .nil
  | _, q :: fs, h => by
    cases h with
    | @cons p _ ps _ h1 h2 =>
      obtain ⟨p1, p2⟩ := p
      obtain ⟨q1, q2⟩ := q
      obtain ⟨e, r2⟩ := h1
      simp only at e r2
      subst e
      unfold putF putFv
      by_cases hp : p1 = f
      · rw [if_pos hp, if_pos hp]
        exact .cons ⟨rfl, r⟩ h2
      · rw [if_neg hp, if_neg hp]
        exact .cons ⟨rfl, r2⟩ (kr_putF f r h2)
def dSetFld (C : Addr) (f : Str) (mo mv : M) : MS := bndS mv fun y => bndS mo fun x => fun e S => match insAt C S x with
  | some (i, fs) => if fs.length < 1000 then some (.nx, e, S.set i (.ins C (putFv f y fs))) else none
  | none => none
theorem sx_fld {f : Str} {value : Expr} {mv : M} {pos' : Pos} (c : Cls X.K C) (hn : NoAttr X.K C f) (ho : PX X W o mo) (hv : PX X W value mv) (hs : swapsWith value (some (.Attribute o f pos')) pos.line X.env = pure false := by rfl) : SX X W (.Assign [.Attribute o f pos'] value pos) (dSetFld C f mo mv) :=
  SX.of (ps_fld ho.pe hv.pe hs) fun D σ H ev S ρ R E p => by
    refine rE_bndS R E p fun w H1 y S1 ρ1 R1 E1 l1 rw1 p1 => ?_
    refine rE_bndS R1 E1 p1 fun v H2 x S2 ρ2 R2 E2 l2 rv p2 => ?_
    split at p2
    · rename_i i fs hi
      split at p2
      · rename_i hz
        obtain ⟨a, dx, vs, rfl, hia, rfl, h1, h2⟩ := ins_ok R2 rv hi
        have hnz := noz h1 (fun _ _ => by simp)
        obtain ⟨R3, l3⟩ := R2.put (o := .ins C dx (putF f w vs)) (u := .ins C (putFv f y fs)) hia hnz ⟨dx, _, upd_same, kr_putF f (VR.mono (l2.trans (Le.put R2 hia hnz)) rw1) (KR.mono (Le.put R2 hia hnz) h2)⟩
        exact ⟨a, C, dx, vs, rfl, h1, c, hn, by rw [kr_len h2]; exact hz, p2.nx R3 l3 (E2.mono l3)⟩
      · exact (pns_none p2).elim
    · exact (pns_none p2).elim
/-- a module's constant -/
theorem px_gint {i : Int} (hg : Gl X x) (hm : ∃ t, X.mg x = some (.int i t)) (hd : (x == ("__debug__" : Str)) = false := by decide) : PX X W (.Name x pos) (mInt i) := by
  obtain ⟨t, hm⟩ := hm
  exact PX.of (pe_glob (v := .int i) hg hm ⟨t, rfl⟩ hd) fun σ H Q ev S ρ R E p => p.ok R (Le.refl ρ H) (.int i)
theorem px_gstr {z : Str} (hg : Gl X x) (hm : ∃ t, X.mg x = some (.str z t)) (hd : (x == ("__debug__" : Str)) = false := by decide) : PX X W (.Name x pos) (mStr z) := by
  obtain ⟨t, hm⟩ := hm
  exact PX.of (pe_glob (v := .str z) hg hm ⟨t, rfl⟩ hd) fun σ H Q ev S ρ R E p => p.ok R (Le.refl ρ H) (.str z)
end
end Lv
end
section
set_option Elab.async false
set_option linter.all false
set_option autoImplicit false
set_option maxRecDepth 100000
set_option maxHeartbeats 2000000
namespace Lv
open PySem PySem.Spec PyProof.Rows L2

/-! ### numbers among data -/
def toInt : PyData → Option Int
  | .int i => some i
  | _ => none
def toStr : PyData → Option Str
  | .str x => some x
  | _ => none
theorem dpall_ints {K : PySem.W.Frag} {H : Hp} : ∀ {ps : List PyData} {ns : List Int} {vs : List V}, mapO toInt ps = some ns → DpAll K H vs ps → vs = ns.map V.int
  | [], ns, vs, h, d => by
    cases h
    cases d
    rfl
  | p :: ps, ns, vs, h, d => by
    unfold mapO at h
    split at h
    · rename_i i is h1 h2
      cases h
      cases d with
      | cons d1 d2 =>
        cases p with
        | int j =>
          cases h1
          cases d1
          rw [List.map_cons, dpall_ints h2 d2]
        | _ => cases h1
    · cases h
theorem dpall_strs {K : PySem.W.Frag} {H : Hp} : ∀ {ps : List PyData} {ns : List Str} {vs : List V}, mapO toStr ps = some ns → DpAll K H vs ps → vs = ns.map V.str
  | [], ns, vs, h, d => by
    cases h
    cases d
    rfl
  | p :: ps, ns, vs, h, d => by
    unfold mapO at h
    split at h
    · rename_i i is h1 h2
      cases h
      cases d with
      | cons d1 d2 =>
        cases p with
        | str j =>
          cases h1
          cases d1
          rw [List.map_cons, dpall_strs h2 d2]
        | _ => cases h1
    · cases h
theorem dp_ints {K : PySem.W.Frag} {H : Hp} : ∀ ns : List Int, DpAll K H (ns.map V.int) (ns.map PyData.int)
  | [] => .nil
  | n :: ns => .cons (.int n) (dp_ints ns)

/-! ### len -/
def lenAt (S : Sto) : Val → Option Nat
  | .d (.list ps) => some ps.length
  | .d (.tuple ps) => some ps.length
  | .d (.str z) => if z.length ≤ sizeLine then some z.length else none
  | .ref i => match S[i]? with
    | some (.lst xs) => some xs.length
    | some (.tup xs) => some xs.length
    | some (.dic kvs) => some kvs.length
    | _ => none
  | _ => none
def fLen : FN := fun xs S => match xs with
  | [x] => (lenAt S x).map fun n => (.d (.int n), S)
  | _ => none
theorem CallR.or {X : Cx} {f : Value} {r r' : List V → Hp → VK → Prop} (h : CallR X f r) (h' : CallR X f r') : CallR X f (fun xs H Q => r xs H Q ∨ r' xs H Q) := fun pins s σ H xs us Q I rv q => q.elim (h pins s σ H xs us Q I rv) (h' pins s σ H xs us Q I rv)
def rLenA (K : PySem.W.Frag) : List V → Hp → VK → Prop := fun xs H Q => (∃ x n, xs = [x] ∧ LenV K x H n ∧ Q (.int n) H) ∨ ∃ a kvs, xs = [V.ref a] ∧ H a = some (.dK kvs) ∧ Q (.int kvs.length) H
theorem call_lenA {X : Cx} : CallR X (.builtin "len") (rLenA X.K) := CallR.or call_len call_lenD
theorem o_len {K : PySem.W.Frag} : OpN K (rLenA K) fLen := by
  intro ρ S H vs xs z S' Q R rv eq q
  unfold fLen at eq
  split at eq
  · rename_i x
    obtain ⟨v, rfl, r1⟩ := vrs1 rv
    obtain ⟨n, hn, e⟩ := Option.map_eq_some_iff.mp eq
    cases e
    have fin := q (.int n) H ρ R (Le.refl ρ H) (.int _)
    unfold lenAt at hn
    split at hn
    · rename_i ps
      cases hn
      obtain ⟨a, ws, rfl, ha, da⟩ := vr_list r1
      exact .inl ⟨_, _, rfl, .inl ⟨ws, ha, (dpall_len da).symm⟩, fin⟩
    · rename_i ps
      cases hn
      obtain ⟨a, ws, rfl, ha, da⟩ := vr_tuple r1
      exact .inl ⟨_, _, rfl, .inr ⟨ws, ha, (dpall_len da).symm⟩, fin⟩
    · rename_i w
      split at hn
      · rename_i hz
        cases hn
        rw [vr_str r1]
        exact .inl ⟨_, _, rfl, ⟨hz, rfl⟩, fin⟩
      · cases hn
    · rename_i i
      obtain ⟨a, hi, rfl⟩ := r1
      split at hn
      · rename_i ys hS
        cases hn
        obtain ⟨ws, h1, h2⟩ := R.ob i a _ hi hS
        exact .inl ⟨_, _, rfl, .inl ⟨ws, SqL.of h1, (Paired.length h2).symm⟩, fin⟩
      · rename_i ys hS
        cases hn
        obtain ⟨ws, h1, h2⟩ := R.ob i a _ hi hS
        exact .inl ⟨_, _, rfl, .inr ⟨ws, SqT.of h1, (Paired.length h2).symm⟩, fin⟩
      · rename_i ys hS
        cases hn
        obtain ⟨ws, h1, h2⟩ := R.ob i a _ hi hS
        exact .inr ⟨a, ws, rfl, h1, by rw [kr_len h2]; exact fin⟩
      · cases hn
    · cases hn
  · cases eq

/-! ### min, max, int, sum -/
def fMin2 : FN := fun xs S => match xs with
  | [.d (.int i), .d (.int j)] => some (.d (.int (if j < i then j else i)), S)
  | _ => none
def fMax2 : FN := fun xs S => match xs with
  | [.d (.int i), .d (.int j)] => some (.d (.int (if j > i then j else i)), S)
  | _ => none
theorem o_min2 {K : PySem.W.Frag} : OpN K (fun xs H Q => ∃ i j, xs = [.int i, .int j] ∧ Q (.int (if j < i then j else i)) H) fMin2 := by
  intro ρ S H vs xs z S' Q R rv eq q
  unfold fMin2 at eq
  split at eq
  · rename_i i j
    cases eq
    obtain ⟨v, u, rfl, r1, r2⟩ := vrs2 rv
    exact ⟨i, j, by rw [vr_int r1, vr_int r2], q _ H ρ R (Le.refl ρ H) (.int _)⟩
  · cases eq
theorem o_max2 {K : PySem.W.Frag} : OpN K (fun xs H Q => ∃ i j, xs = [.int i, .int j] ∧ Q (.int (if j > i then j else i)) H) fMax2 := by
  intro ρ S H vs xs z S' Q R rv eq q
  unfold fMax2 at eq
  split at eq
  · rename_i i j
    cases eq
    obtain ⟨v, u, rfl, r1, r2⟩ := vrs2 rv
    exact ⟨i, j, by rw [vr_int r1, vr_int r2], q _ H ρ R (Le.refl ρ H) (.int _)⟩
  · cases eq
def fInt : FN := fun xs S => match xs with
  | [.d (.int i)] => some (.d (.int i), S)
  | [.d (.bool b)] => some (.d (.int (if b then 1 else 0)), S)
  | _ => none
theorem o_int {K : PySem.W.Frag} : OpN K (fun xs H Q => (∃ i, xs = [.int i] ∧ Q (.int i) H) ∨ ∃ k, xs = [.bl k] ∧ Q (.int (if k then 1 else 0)) H) fInt := by
  intro ρ S H vs xs z S' Q R rv eq q
  unfold fInt at eq
  split at eq
  · rename_i i
    cases eq
    obtain ⟨v, rfl, r1⟩ := vrs1 rv
    exact .inl ⟨i, by rw [vr_int r1], q _ H ρ R (Le.refl ρ H) (.int _)⟩
  · rename_i b
    cases eq
    obtain ⟨v, rfl, r1⟩ := vrs1 rv
    exact .inr ⟨b, by rw [vr_bl r1], q _ H ρ R (Le.refl ρ H) (.int _)⟩
  · cases eq
/-- a list of ints -/
def intsAt (S : Sto) (x : Val) : Option (List Int) := (lstD S x).bind (mapO toInt)
theorem ints_ok {K : PySem.W.Frag} {ρ : Rg} {H : Hp} {S : Sto} (R : RS K ρ S H) {v : V} {x : Val} {ns : List Int} (r : VR K ρ H v x) (h : intsAt S x = some ns) : ∃ a, v = .ref a ∧ SqL K H a (ns.map V.int) := by
  obtain ⟨ps, h1, h2⟩ := Option.bind_eq_some_iff.mp h
  obtain ⟨a, vs, rfl, ha, da⟩ := lstD_ok R r h1
  rw [dpall_ints h2 da] at ha
  exact ⟨a, rfl, ha⟩
def fSum : FN := fun xs S => match xs with
  | [x] => (intsAt S x).map fun ns => (.d (.int ns.sum), S)
  | _ => none
theorem o_sum {K : PySem.W.Frag} : OpN K (rSum K) fSum := by
  intro ρ S H vs xs z S' Q R rv eq q
  unfold fSum at eq
  split at eq
  · rename_i x
    obtain ⟨v, rfl, r1⟩ := vrs1 rv
    obtain ⟨ns, hn, e⟩ := Option.map_eq_some_iff.mp eq
    cases e
    obtain ⟨a, rfl, ha⟩ := ints_ok R r1 hn
    exact ⟨a, ns, rfl, ha, q _ H ρ R (Le.refl ρ H) (.int _)⟩
  · cases eq

/-! ### list(x), tuple(x) -/
def seqD (S : Sto) : Val → Option (List PyData)
  | .d (.tuple ps) => some ps
  | x => lstD S x
def fList : FN := fun xs S => match xs with
  | [x] => (seqD S x).map fun ps => (.d (.list ps), S)
  | _ => none
theorem seqD_ok {K : PySem.W.Frag} {ρ : Rg} {H : Hp} {S : Sto} (R : RS K ρ S H) {v : V} {x : Val} {ps : List PyData} (r : VR K ρ H v x) (h : seqD S x = some ps) : ∃ a vs, v = .ref a ∧ (SqL K H a vs ∨ SqT K H a vs) ∧ DpAll K (frz ρ H) vs ps := by
  unfold seqD at h
  split at h
  · cases h
    obtain ⟨a, vs, rfl, ha, da⟩ := vr_tuple r
    exact ⟨a, vs, rfl, .inr ha, da⟩
  · obtain ⟨a, vs, rfl, ha, da⟩ := lstD_ok R r h
    exact ⟨a, vs, rfl, .inl ha, da⟩
theorem o_list {K : PySem.W.Frag} : OpN K (fun xs H Q => ∃ p ys, xs = [.ref p] ∧ (SqL K H p ys ∨ SqT K H p ys) ∧ ∀ l, H l = none → Q (.ref l) (upd H l (.lst ys))) fList := by
  intro ρ S H vs xs z S' Q R rv eq q
  unfold fList at eq
  split at eq
  · rename_i x
    obtain ⟨v, rfl, r1⟩ := vrs1 rv
    obtain ⟨ps, hp, e⟩ := Option.map_eq_some_iff.mp eq
    cases e
    obtain ⟨a, ws, rfl, ha, da⟩ := seqD_ok R r1 hp
    exact ⟨a, ws, rfl, ha, new_list R da q⟩
  · cases eq
/-- a copy in the store -/
def fListN : FN := fun xs S => match xs with
  | [x] => (seqD S x).map fun ps => (.ref S.length, S ++ [.lst (ps.map .d)])
  | _ => none
theorem o_listN {K : PySem.W.Frag} : OpN K (fun xs H Q => ∃ p ys, xs = [.ref p] ∧ (SqL K H p ys ∨ SqT K H p ys) ∧ ∀ l, H l = none → Q (.ref l) (upd H l (.lst ys))) fListN := by
  intro ρ S H vs xs z S' Q R rv eq q
  unfold fListN at eq
  split at eq
  · rename_i x
    obtain ⟨v, rfl, r1⟩ := vrs1 rv
    obtain ⟨ps, hp, e⟩ := Option.map_eq_some_iff.mp eq
    cases e
    obtain ⟨a, ws, rfl, ha, da⟩ := seqD_ok R r1 hp
    exact ⟨a, ws, rfl, ha, new_lst R (vrs_of_dp da) q⟩
  · cases eq
def fTuple : FN := fun xs S => match xs with
  | [.d (.tuple ps)] => some (.d (.tuple ps), S)
  | [x] => (lstD S x).map fun ps => (.d (.tuple ps), S)
  | _ => none
theorem o_tuple {K : PySem.W.Frag} : OpN K (fun xs H Q => ∃ p ys, xs = [.ref p] ∧ ((SqL K H p ys ∧ ∀ l, H l = none → Q (.ref l) (upd H l (.tup ys))) ∨ (SqT K H p ys ∧ Q (.ref p) H))) fTuple := by
  intro ρ S H vs xs z S' Q R rv eq q
  unfold fTuple at eq
  split at eq
  · rename_i ps
    cases eq
    obtain ⟨v, rfl, r1⟩ := vrs1 rv
    obtain ⟨a, ws, rfl, ha, da⟩ := vr_tuple r1
    exact ⟨a, ws, rfl, .inr ⟨ha, q _ H ρ R (Le.refl ρ H) r1⟩⟩
  · rename_i x _
    obtain ⟨v, rfl, r1⟩ := vrs1 rv
    obtain ⟨ps, hp, e⟩ := Option.map_eq_some_iff.mp eq
    cases e
    obtain ⟨a, ws, rfl, ha, da⟩ := lstD_ok R r1 hp
    exact ⟨a, ws, rfl, .inl ⟨ha, new_tuple R da q⟩⟩
  · cases eq

/-! ### isinstance(x, T), T built in -/
def tyName (S : Sto) : Val → Option String
  | .d .none => some "NoneType"
  | .d (.bool _) => some "bool"
  | .d (.int _) => some "int"
  | .d (.str _) => some "str"
  | .d (.list _) => some "list"
  | .d (.tuple _) => some "tuple"
  | .d (.dict _) => none
  | .ref i => match S[i]? with
    | some (.lst _) => some "list"
    | some (.tup _) => some "tuple"
    | some (.dic _) => some "dict"
    | _ => none
/-! ### sorted, of alike data -/
open Classical in
noncomputable def fSorted : FN := fun xs S => match xs with
  | [x] => (lstD S x).bind fun ps => if PySem.W.AllAlike ps ∧ PySem.W.Sortable ps ∧ (∀ p ∈ ps, p.depth ≤ 60) then some (.d (.list (ps.mergeSort (PySem.W.dataLe false id))), S) else none
  | _ => none
def rSortedD (K : PySem.W.Frag) : List V → Hp → VK → Prop := fun vs H Q => ∃ (a : Addr) (xs : List V) (ps : List PyData) (Z : V → PyData → Prop), vs = [V.ref a] ∧ SqL K H a xs ∧ Paired Z xs ps ∧ (∀ x p, Z x p → Dp K H x p) ∧ PySem.W.AllAlike ps ∧ PySem.W.Sortable ps ∧ (∀ p ∈ ps, p.depth ≤ 60) ∧
  ∀ (ys : List V) (p : Addr), Paired Z ys (ps.mergeSort (PySem.W.dataLe false id)) → H p = none → Q (.ref p) (upd H p (.lst ys))
theorem each_out {Z : V → PyData → Prop} : ∀ {us : List Value} {ps : List PyData}, PySem.W.EachIs (fun v p => ∃ x, RelV x v ∧ Z x p) us ps → ∃ xs, Vals xs us ∧ Paired Z xs ps
  | _, _, .nil => ⟨[], .nil, .nil⟩
  | _, _, .cons ⟨x, h1, h2⟩ t => by
    obtain ⟨xs, h3, h4⟩ := each_out t
    exact ⟨x :: xs, .cons h1 h3, .cons h2 h4⟩
theorem each_in {Z : V → PyData → Prop} : ∀ {xs : List V} {us : List Value} {ps : List PyData}, Vals xs us → Paired Z xs ps → PySem.W.EachIs (fun v p => ∃ x, RelV x v ∧ Z x p) us ps
  | _, _, _, .nil, .nil => .nil
  | _, _, _, .cons h1 h3, .cons h2 h4 => .cons ⟨_, h1, h2⟩ (each_in h3 h4)
theorem cr_sortedD {X : Cx} (hu : X.A.units + 64 < cLine) : CallR X (.builtin "sorted") (rSortedD X.K) := by
  intro pins s σ H vs us Q I r h
  obtain ⟨a, xs, ps, Z, rfl, hs, hz, hZ, hal, hso, hd, q⟩ := h
  obtain ⟨its, rv, hl, hlen⟩ := I.list hs
  rw [Vals.ref1 r]
  have e1 := each_in rv hz
  have e2 : PySem.W.EachIs (fun v p => ∃ as, Reads s.heap v (id p) as) its ps := e1.mono fun v p ⟨x, h1, h2⟩ => Dp.reads I p x v (hZ x p h2) h1
  have hps : ps.length ≤ sizeLine := by rw [← Paired.length hz]; exact hlen
  refine PySem.W.sorted_data hl.isList e1 e2 (by rw [List.map_id]; exact hal) (by rw [List.map_id]; exact hso) hps (fun p hp => ?_) fun out ho eo => ?_
  · have := hd p hp
    show X.A.units + 2 + p.depth < cLine
    omega
  · obtain ⟨ys, h1, h2⟩ := each_out eo
    obtain ⟨ep, he'⟩ := PyProof.Rows.sortedAll_at s.heap its out.toArray
    have hly : ys.length ≤ sizeLine := by rw [h1.length, ho]; exact hps
    exact ⟨.ref _, upd H (s.heap.objs.size + 1) (.lst ys), I.laid (t' := s.toks) (fun _ _ => PyProof.Rows.sortedAll_old) (Nat.le_succ _) ⟨hly, out, ep, h1, he'⟩, rfl, q ys _ h2 (I.hok.fresh (Nat.le_succ _))⟩
theorem paired_dp {K : PySem.W.Frag} {H : Hp} : ∀ {vs : List V} {ps : List PyData}, DpAll K H vs ps → Paired (Dp K H) vs ps
  | _, [], h => by cases h; exact .nil
  | _, p :: ps, h => by
    cases h with
    | cons h1 h2 => exact .cons h1 (paired_dp h2)
theorem dp_paired {K : PySem.W.Frag} {H : Hp} : ∀ {vs : List V} {ps : List PyData}, Paired (Dp K H) vs ps → DpAll K H vs ps
  | _, [], h => by cases h; exact .nil
  | _, p :: ps, h => by
    cases h with
    | cons h1 h2 => exact .cons h1 (dp_paired h2)
theorem o_sorted {K : PySem.W.Frag} : OpN K (rSortedD K) fSorted := by
  intro ρ S H vs xs z S' Q R rv eq q
  unfold fSorted at eq
  split at eq
  · rename_i x
    obtain ⟨v, rfl, r1⟩ := vrs1 rv
    obtain ⟨ps, hp, eq⟩ := Option.bind_eq_some_iff.mp eq
    split at eq
    · rename_i hc
      cases eq
      obtain ⟨a, ws, rfl, ha, da⟩ := lstD_ok R r1 hp
      exact ⟨a, ws, ps, Dp K (frz ρ H), rfl, ha, paired_dp da, fun x p h => dp_mono (frz_ex ρ H) p x h, hc.1, hc.2.1, hc.2.2, fun ys p hy => new_list R (dp_paired hy) q p⟩
    · cases eq
  · cases eq

/-! ### < of data -/
open Classical in
noncomputable def fLtD : F2 := fun x y S => match x, y with
  | .d (.int i), .d (.int j) => some (.d (.bool (decide (i < j))), S)
  | x, y => match toD x, toD y with
    | some p, some q => if PySem.W.alike p q = true ∧ p ≠ .none ∧ p.depth ≤ 60 then some (.d (.bool (PySem.W.dataLt p q)), S) else none
    | _, _ => none
def rLtD (K : PySem.W.Frag) : R2 := fun x y H Q => rI0 (fun i j => .bl (decide (i < j))) x y H Q ∨ ∃ p q, Dp K H x p ∧ Dp K H y q ∧ PySem.W.alike p q = true ∧ p ≠ .none ∧ p.depth ≤ 60 ∧ Q (.bl (PySem.W.dataLt p q)) H
theorem op_ltD {X : Cx} (hu : X.A.units + 64 < cLine) : OpR X (compareOp .Lt) (rLtD X.K) := by
  refine OpR.or op_lt ?_
  intro pins s σ H x y v u Q I rx ry h
  obtain ⟨p, q, hp, hq, ha, hn, hd, k⟩ := h
  obtain ⟨as, r1⟩ := Dp.reads I p x v hp rx
  obtain ⟨bs, r2⟩ := Dp.reads I q y u hq ry
  have room : X.A.units + min p.depth q.depth < cLine := by
    have := Nat.min_le_left p.depth q.depth
    omega
  exact PySem.W.rcLt_alike p q X.A s v u as bs r1 r2 ha hn room X.prog X.w X.xe _ ⟨.bl _, H, I, rfl, k⟩
theorem o_ltD {K : PySem.W.Frag} : Op2 K (rLtD K) fLtD := by
  intro ρ S H v u x y z S' Q R rv ru eq q
  unfold fLtD at eq
  split at eq
  · rename_i i j
    cases eq
    rw [vr_int rv, vr_int ru]
    exact .inl ⟨i, j, rfl, rfl, q _ _ ρ R (Le.refl ρ H) (.bl _)⟩
  · split at eq
    · rename_i p p' h1 h2
      split at eq
      · rename_i hc
        cases eq
        cases x with
        | ref i => cases h1
        | d x =>
          cases h1
          cases y with
          | ref i => cases h2
          | d y =>
            cases h2
            exact .inr ⟨_, _, dp_mono (frz_ex ρ H) _ _ rv, dp_mono (frz_ex ρ H) _ _ ru, hc.1, hc.2.1, hc.2.2, q _ _ ρ R (Le.refl ρ H) (.bl _)⟩
      · cases eq
    · cases eq
end Lv
end
section
set_option Elab.async false
set_option linter.all false
set_option autoImplicit false
set_option maxRecDepth 100000
set_option maxHeartbeats 2000000
namespace Lv
open PySem PySem.Spec PyProof.Rows L2

/-! ### isinstance(x, T) -/
def fIsi (T : String) : F1 := fun x S => (tyName S x).bind fun t => (kitB t T).map fun b => (.d (.bool b), S)
theorem ty_ok {K : PySem.W.Frag} {ρ : Rg} {H : Hp} {S : Sto} (R : RS K ρ S H) {v : V} {x : Val} {t : String} (r : VR K ρ H v x) (h : tyName S x = some t) : TyX K H v (.type t) := by
  have seqL : ∀ {a : Addr} {vs : List V}, SqL K (frz ρ H) a vs → TyX K H (.ref a) (.type "list") := fun {a vs} q => by
    rcases (frz_ex ρ H).sl q with (z | ⟨o, z⟩) | ⟨o, its, n, z, c, _⟩
    · exact .base (.lst z)
    · exact .base (.frz z)
    · exact .kList z c
  have seqT : ∀ {a : Addr} {vs : List V}, SqT K (frz ρ H) a vs → TyX K H (.ref a) (.type "tuple") := fun {a vs} q => by
    rcases (frz_ex ρ H).st q with (z | ⟨o, z⟩) | ⟨o, its, n, z, c, _⟩
    · exact .base (.tup z)
    · exact .fTuple z
    · exact .kTuple z c
  cases x with
  | d p =>
    cases p with
    | none => cases h; cases r; exact .base .non
    | bool b => cases h; cases r; exact .base (.bl b)
    | int b => cases h; cases r; exact .base (.int b)
    | str b => cases h; cases r; exact .base (.str b)
    | list b =>
      cases h
      cases r with
      | lst hs _ => exact seqL hs
    | tuple b =>
      cases h
      cases r with
      | tup hs _ => exact seqT hs
    | dict b => cases h
  | ref i =>
    obtain ⟨a, hi, rfl⟩ := r
    simp only [tyName] at h
    split at h
    · rename_i hS
      cases h
      obtain ⟨_, q, _⟩ := R.ob i a _ hi hS
      exact .base (.lst q)
    · rename_i hS
      cases h
      obtain ⟨_, q, _⟩ := R.ob i a _ hi hS
      exact .base (.tup q)
    · rename_i hS
      cases h
      obtain ⟨_, q, _⟩ := R.ob i a _ hi hS
      exact .base (.dK q)
    · cases h
section
variable {X : Cx} {W : WX} {a : Expr} {ma : M} {pos p p2 : Pos}
theorem px_isi {T : Str} {t : String} (hg : Gl X "isinstance") (hm : X.mg "isinstance" = none) (hgT : Gl X T) (hmT : X.mg T = none) (hvT : bootBuiltins T = some (.type t)) (ha : PX X W a ma) (hnT : T ≠ "__name__" := by decide) (hdT : (T == ("__debug__" : Str)) = false := by decide)
    (hs : starEach [a, .Name T p2] X.env = (false, eval a X.env) :: starEach [.Name T p2] X.env := by rfl) (hs2 : starEach [.Name T p2] X.env = (false, eval (.Name T p2) X.env) :: starEach [] X.env := by rfl) (hpl : (backTo pos (starEach [.Name T p2] X.env)).any (·.1) = false := by rfl) :
    PX X W (.Call (.Name "isinstance" p) [a, .Name T p2] [] pos) (mOp1 (fIsi t) ma) :=
  PX.of (pe_callB call_isi hg hm (by decide +kernel) (pa_cons ha.pe (pa_cons (pe_bltn (v := .ty t) hgT hmT hvT rfl hnT hdT) pa_nil hs2) hs) (by decide) (by decide) hs hpl) fun σ H Q ev S ρ R E p => by
    refine rE_bnd R E p fun v H1 x S1 ρ1 R1 E1 l1 rv p1 => ?_
    obtain ⟨z, S', eq, q⟩ := pn_lift p1
    obtain ⟨t', h1, h2⟩ := Option.bind_eq_some_iff.mp eq
    obtain ⟨b, h3, h4⟩ := Option.map_eq_some_iff.mp h2
    cases h4
    exact ⟨v, .ty t, .type t', .type t, b, rfl, .ty t, ty_ok R1 rv h1, kit_ty h3, q _ _ ρ1 R1 (Le.refl ρ1 H1) (.bl _)⟩
end

/-! ### sep.join(texts) -/
def strsAt (S : Sto) (x : Val) : Option (List Str) := (seqD S x).bind (mapO toStr)
def fJoin : F2 := fun x y S => match x with
  | .d (.str a) => (strsAt S y).bind fun ys => if (ys.map (·.length)).sum + ys.length * a.length ≤ 16777216 then some (.d (.str (Txt.join a ys)), S) else none
  | _ => none
def mJoin (a b : M) : M := bnd a fun x => match x with
  | .d (.str z) => bnd b fun y => fun _ S => lift (fJoin (.d (.str z)) y S)
  | _ => fun _ _ => none
section
variable {X : Cx} {W : WX} {o e : Expr} {mo me : M} {apos pos : Pos}
theorem px_join (ho : PX X W o mo) (he : PX X W e me) (hs : starEach [e] X.env = [(false, eval e X.env)] := by rfl) (hbase : attributeBase o "join" X.env (eval o X.env) = eval o X.env := by rfl) (hline : (apos.endLine == pos.line) = true := by rfl) :
    PX X W (.Call (.Attribute o "join" apos) [e] [] pos) (mJoin mo me) := PX.of (pe_join ho.pe he.pe hs hbase hline) fun σ H Q ev S ρ R E p => by
  refine rE_bnd R E p fun v H1 x S1 ρ1 R1 E1 l1 rv p1 => ?_
  split at p1
  · rename_i a
    refine ⟨⟨a, vr_str rv⟩, ?_⟩
    refine rE_bnd R1 E1 p1 fun u H2 y S2 ρ2 R2 E2 l2 ru p2 => ?_
    obtain ⟨z, S', eq, q⟩ := pn_lift p2
    simp only [fJoin] at eq
    obtain ⟨ys, h1, h2⟩ := Option.bind_eq_some_iff.mp eq
    split at h2
    · rename_i hz
      cases h2
      obtain ⟨ps, h3, h4⟩ := Option.bind_eq_some_iff.mp h1
      obtain ⟨b, ws, rfl, hb, db⟩ := seqD_ok R2 ru h3
      rw [dpall_strs h4 db] at hb
      exact ⟨a, b, ys, vr_str rv, rfl, hb, hz, q _ _ ρ2 R2 (Le.refl ρ2 H2) (.str _)⟩
    · cases h2
  · exact (pn_none p1).elim
end

/-! ### methods of a list of the store -/
def lstAt (S : Sto) : Val → Option (Nat × List Val)
  | .ref i => match S[i]? with
    | some (.lst xs) => some (i, xs)
    | _ => none
  | _ => none
theorem lstAt_ok {K : PySem.W.Frag} {ρ : Rg} {H : Hp} {S : Sto} (R : RS K ρ S H) {v : V} {x : Val} {i : Nat} {xs : List Val} (r : VR K ρ H v x) (h : lstAt S x = some (i, xs)) : ∃ a vs, x = .ref i ∧ v = .ref a ∧ ρ.ids[i]? = some a ∧ H a = some (.lst vs) ∧ VRs K ρ H vs xs := by
  cases x with
  | d p => cases h
  | ref j =>
    obtain ⟨a, hi, rfl⟩ := r
    simp only [lstAt] at h
    split at h
    · rename_i ys hS
      cases h
      obtain ⟨vs, h1, h2⟩ := R.ob _ a _ hi hS
      exact ⟨a, vs, rfl, rfl, hi, h1, h2⟩
    · cases h
/-- o.m(args), o a list of the store: f by the list's number, its items, the arguments -/
abbrev FL := Nat → List Val → List Val → Sto → Option (Val × Sto)
def mLm (f : FL) (mo : M) (ms : List M) : M := bnd mo fun x => fun e S => match lstAt S x with
  | some (i, _) => (args ms fun ys => fun _ S => match lstAt S (.ref i) with
    | some (_, xs) => lift (f i xs ys S)
    | none => none) e S
  | none => none
def OpL (K : PySem.W.Frag) (r : V → List V → Hp → VK → Prop) (f : FL) : Prop :=
  ∀ (ρ : Rg) (S : Sto) (H : Hp) (a : Addr) (i : Nat) (vs : List V) (xs : List Val) (us : List V) (ys : List Val) (z : Val) (S' : Sto) (Q : VK), RS K ρ S H → ρ.ids[i]? = some a → H a = some (.lst vs) → VRs K ρ H vs xs → VRs K ρ H us ys → f i xs ys S = some (z, S') → Fin K ρ H z S' Q → r (.ref a) us H Q
section
variable {X : Cx} {W : WX} {o e : Expr} {es : List Expr} {mo : M} {ms : List M} {apos cpos : Pos} {name : Str} {id : String} {r : V → List V → Hp → VK → Prop} {f : FL}
theorem px_lm (pa : PlainAttrs "list") (slot : Slot "list" name id) (hty : typeOf (.builtin id) = pure (.type "method_descriptor")) (hm : MtR X id r) (of : OpL X.K r f) (ho : PX X W o mo) (ha : AX X W (e :: es) ms)
    (hbase : attributeBase o name X.env (eval o X.env) = eval o X.env := by rfl)
    (hfew : ((backTo cpos (starEach (e :: es) X.env)).all (fun x => !x.1) && (backToKw cpos (keywordEach [] X.env)).all (fun x => x.1.isSome)
      && decide ((e :: es).length + ([] : List Keyword).length + (if ([] : List Keyword).isEmpty then 0 else 1) < 30)) = true := by rfl)
    (hline : (apos.endLine == cpos.line) = true := by rfl) (hs : starEach (e :: es) X.env = (false, eval e X.env) :: starEach es X.env := by rfl) (hplain : (backTo cpos (starEach es X.env)).any (·.1) = false := by rfl) :
    PX X W (.Call (.Attribute o name apos) (e :: es) [] cpos) (mLm f mo ms) := PX.of (pe_bm pa slot hty hm ho.pe ha.pa hbase hfew hline hs hplain) fun σ H Q ev S ρ R E p => by
  refine rE_bnd R E p fun v H1 x S1 ρ1 R1 E1 l1 rv p1 => ?_
  split at p1
  · rename_i i xs hl
    obtain ⟨a, vs, rfl, rfl, hi, h1, h2⟩ := lstAt_ok R1 rv hl
    refine ⟨.inl ⟨rfl, vs, SqL.of h1⟩, ?_⟩
    refine rA_bnd R1 E1 p1 fun us H2 ys S2 ρ2 R2 E2 l2 rvs p2 => ?_
    split at p2
    · rename_i j xs2 hl2
      obtain ⟨z, S', eq, q⟩ := pn_lift p2
      obtain ⟨a2, vs2, e2, e3, hi2, h3, h4⟩ := lstAt_ok R2 (VR.mono l2 rv) hl2
      cases e2
      cases e3
      exact of ρ2 S2 H2 _ _ vs2 xs2 us ys z S' Q R2 hi2 h3 h4 rvs eq q
    · exact (pn_none p2).elim
  · exact (pn_none p1).elim
theorem px_lm0 (pa : PlainAttrs "list") (slot : Slot "list" name id) (hty : typeOf (.builtin id) = pure (.type "method_descriptor")) (hm : MtR X id r) (of : OpL X.K r f) (ho : PX X W o mo)
    (hbase : attributeBase o name X.env (eval o X.env) = eval o X.env := by rfl) (hline : (apos.endLine == cpos.line) = true := by rfl)
    (h : PE X o (rE X.K W mo) → PE X (.Call (.Attribute o name apos) [] [] cpos) (tBM0 X.K "list" r (rE X.K W mo))) :
    PX X W (.Call (.Attribute o name apos) [] [] cpos) (mLm f mo []) := PX.of (h ho.pe) fun σ H Q ev S ρ R E p => by
  refine rE_bnd R E p fun v H1 x S1 ρ1 R1 E1 l1 rv p1 => ?_
  split at p1
  · rename_i i xs hl
    obtain ⟨a, vs, rfl, rfl, hi, h1, h2⟩ := lstAt_ok R1 rv hl
    refine ⟨.inl ⟨rfl, vs, SqL.of h1⟩, ?_⟩
    simp only [args, hl] at p1
    obtain ⟨z, S', eq, q⟩ := pn_lift p1
    exact of ρ1 S1 H1 a i vs xs [] [] z S' Q R1 hi h1 h2 .nil eq q
  · exact (pn_none p1).elim
end
def fAppend : FL := fun i xs ys S => match ys with
  | [y] => if xs.length < sizeLine then some (.d .none, S.set i (.lst (xs ++ [y]))) else none
  | _ => none
theorem o_append {K : PySem.W.Frag} : OpL K rAppend fAppend := by
  intro ρ S H a i vs xs us ys z S' Q R hi hv vr rvs eq q
  unfold fAppend at eq
  split at eq
  · split at eq
    · rename_i y hz
      cases eq
      obtain ⟨u, rfl, ru⟩ := vrs1 rvs
      have l := Le.put (o := .lst (vs ++ [u])) R hi (noz hv (fun _ _ => by simp))
      obtain ⟨R2, l2⟩ := R.put (o := .lst (vs ++ [u])) (u := .lst (xs ++ [y])) hi (noz hv (fun _ _ => by simp)) ⟨_, upd_same, VRs.mono l (vrs_app vr (.cons ru .nil))⟩
      exact ⟨a, vs, u, rfl, rfl, hv, by rw [Paired.length vr]; exact hz, q _ _ ρ R2 l2 .non⟩
    · cases eq
  · cases eq
def fPop : FL := fun i xs ys S => match ys with
  | [] => (xs[xs.length - 1]?).map fun y => (y, S.set i (.lst xs.dropLast))
  | _ => none
theorem vrs_dropLast {K : PySem.W.Frag} {ρ : Rg} {H : Hp} {vs : List V} {xs : List Val} (h : VRs K ρ H vs xs) : VRs K ρ H vs.dropLast xs.dropLast := by
  rw [List.dropLast_eq_take, List.dropLast_eq_take, Paired.length h]
  exact vrs_take h _
theorem o_pop {K : PySem.W.Frag} : OpL K rPop fPop := by
  intro ρ S H a i vs xs us ys z S' Q R hi hv vr rvs eq q
  unfold fPop at eq
  split at eq
  · obtain ⟨y, hy, e⟩ := Option.map_eq_some_iff.mp eq
    cases e
    cases rvs
    have l := Le.put (o := .lst vs.dropLast) R hi (noz hv (fun _ _ => by simp))
    obtain ⟨R2, l2⟩ := R.put (o := .lst vs.dropLast) (u := .lst xs.dropLast) hi (noz hv (fun _ _ => by simp)) ⟨_, upd_same, VRs.mono l (vrs_dropLast vr)⟩
    obtain ⟨w, h1, h2⟩ := vrs_get vr hy
    exact ⟨a, vs, w, rfl, rfl, hv, by rw [Paired.length vr]; exact h1, q _ _ ρ R2 l2 (VR.mono l h2)⟩
  · cases eq
def fClear : FL := fun i _ ys S => match ys with
  | [] => some (.d .none, S.set i (.lst []))
  | _ => none
theorem o_clear {K : PySem.W.Frag} : OpL K rClear fClear := by
  intro ρ S H a i vs xs us ys z S' Q R hi hv vr rvs eq q
  unfold fClear at eq
  split at eq
  · cases eq
    cases rvs
    obtain ⟨R2, l2⟩ := R.put (o := .lst []) (u := .lst []) hi (noz hv (fun _ _ => by simp)) ⟨_, upd_same, .nil⟩
    exact ⟨a, vs, rfl, rfl, hv, q _ _ ρ R2 l2 .non⟩
  · cases eq
def fPopAt : FL := fun i xs ys S => match ys with
  | [.d (.int k)] => if -(2 ^ 63) ≤ k ∧ k < 2 ^ 63 then (seqIndex? k xs.length).bind fun j => (xs[j]?).map fun y => (y, S.set i (.lst (xs.eraseIdx j))) else none
  | _ => none
theorem vrs_erase {K : PySem.W.Frag} {ρ : Rg} {H : Hp} {vs : List V} {xs : List Val} (h : VRs K ρ H vs xs) : ∀ j : Nat, VRs K ρ H (vs.eraseIdx j) (xs.eraseIdx j) := by
  induction h with
  | nil => intro j; exact .nil
  | cons a t ih =>
    intro j
    cases j with
    | zero => exact t
    | succ j => exact .cons a (ih j)
theorem o_popAt {K : PySem.W.Frag} : OpL K rPopAt fPopAt := by
  intro ρ S H a i vs xs us ys z S' Q R hi hv vr rvs eq q
  unfold fPopAt at eq
  split at eq
  · split at eq
    · rename_i k hk
      obtain ⟨j, hj, eq⟩ := Option.bind_eq_some_iff.mp eq
      obtain ⟨y, hy, e⟩ := Option.map_eq_some_iff.mp eq
      cases e
      obtain ⟨u, rfl, ru⟩ := vrs1 rvs
      have l := Le.put (o := .lst (vs.eraseIdx j)) R hi (noz hv (fun _ _ => by simp))
      obtain ⟨R2, l2⟩ := R.put (o := .lst (vs.eraseIdx j)) (u := .lst (xs.eraseIdx j)) hi (noz hv (fun _ _ => by simp)) ⟨_, upd_same, VRs.mono l (vrs_erase vr j)⟩
      obtain ⟨w, h1, h2⟩ := vrs_get vr hy
      exact ⟨a, vs, k, j, w, rfl, by rw [vr_int ru], hv, hk.1, hk.2, by rw [Paired.length vr]; exact hj, h1, q _ _ ρ R2 l2 (VR.mono l h2)⟩
    · cases eq
  · cases eq
section
variable {X : Cx} {W : WX} {o e : Expr} {mo me : M} {apos cpos : Pos}
theorem px_append (ho : PX X W o mo) (he : AX X W [e] [me]) (hbase : attributeBase o "append" X.env (eval o X.env) = eval o X.env := by rfl)
    (hfew : ((backTo cpos (starEach [e] X.env)).all (fun x => !x.1) && (backToKw cpos (keywordEach [] X.env)).all (fun x => x.1.isSome)
      && decide ([e].length + ([] : List Keyword).length + (if ([] : List Keyword).isEmpty then 0 else 1) < 30)) = true := by rfl)
    (hline : (apos.endLine == cpos.line) = true := by rfl) (hs : starEach [e] X.env = (false, eval e X.env) :: starEach [] X.env := by rfl) : PX X W (.Call (.Attribute o "append" apos) [e] [] cpos) (mLm fAppend mo [me]) :=
  px_lm PySem.F.plainAttrs_list PySem.F.slot_list_append PySem.F.type_list_append mt_append o_append ho he hbase hfew hline hs rfl
theorem px_popAt (ho : PX X W o mo) (he : AX X W [e] [me]) (hbase : attributeBase o "pop" X.env (eval o X.env) = eval o X.env := by rfl)
    (hfew : ((backTo cpos (starEach [e] X.env)).all (fun x => !x.1) && (backToKw cpos (keywordEach [] X.env)).all (fun x => x.1.isSome)
      && decide ([e].length + ([] : List Keyword).length + (if ([] : List Keyword).isEmpty then 0 else 1) < 30)) = true := by rfl)
    (hline : (apos.endLine == cpos.line) = true := by rfl) (hs : starEach [e] X.env = (false, eval e X.env) :: starEach [] X.env := by rfl) : PX X W (.Call (.Attribute o "pop" apos) [e] [] cpos) (mLm fPopAt mo [me]) :=
  px_lm PySem.F.plainAttrs_list PySem.F.slot_list_pop PySem.F.type_list_pop mt_popAt o_popAt ho he hbase hfew hline hs rfl
theorem px_pop (ho : PX X W o mo) (hbase : attributeBase o "pop" X.env (eval o X.env) = eval o X.env := by rfl) (hline : (apos.endLine == cpos.line) = true := by rfl) : PX X W (.Call (.Attribute o "pop" apos) [] [] cpos) (mLm fPop mo []) :=
  px_lm0 PySem.F.plainAttrs_list PySem.F.slot_list_pop PySem.F.type_list_pop mt_pop o_pop ho hbase hline fun h => pe_bm0 PySem.F.plainAttrs_list PySem.F.slot_list_pop PySem.F.type_list_pop mt_pop h hbase hline
theorem px_clear (ho : PX X W o mo) (hbase : attributeBase o "clear" X.env (eval o X.env) = eval o X.env := by rfl) (hline : (apos.endLine == cpos.line) = true := by rfl) : PX X W (.Call (.Attribute o "clear" apos) [] [] cpos) (mLm fClear mo []) :=
  px_lm0 PySem.F.plainAttrs_list PySem.F.slot_list_clear PySem.F.type_list_clear mt_clear o_clear ho hbase hline fun h => pe_bm0 PySem.F.plainAttrs_list PySem.F.slot_list_clear PySem.F.type_list_clear mt_clear h hbase hline
end

/-! ### {}, in the store; displays of dicts -/
theorem px_dic0 {X : Cx} {W : WX} {pos : Pos} : PX X W (.Dict [] [] pos) (fun _ S => some (.ok (.ref S.length), S ++ [.dic []])) := PX.of pe_dnewK fun σ H Q ev S ρ R E p => fun a ha => by
  obtain ⟨R2, l2⟩ := R.add (o := .dK []) (u := .dic []) ha ⟨[], upd_same, .nil⟩
  exact p.ok R2 l2 ⟨a, R.addIx, rfl⟩
end Lv
end
section
set_option Elab.async false
set_option linter.all false
set_option autoImplicit false
set_option maxRecDepth 100000
set_option maxHeartbeats 4000000
namespace Lv
open PySem PySem.Spec PyProof.Rows L2

/-! ### set(xs), xs a list of ints of any length below 4095; sorted of it -/
abbrev nilSet (w : World) : Obj := { cls := .type "set", dict := none, data := .set #[] 0 (.fresh 0 0 (!w.params.followText "set-order")) }
section
variable {P : Program} {w : World} {A : Around} {E : Value → Shared → Prop} {s : Shared}
/-- what stands after set.__init__ -/
def Filled (w : World) (s : Shared) (ns : List Int) (r : Value) (s₂ : Shared) : Prop :=
  r = .none ∧ ∃ h' tk c, s₂ = { s with heap := h', toks := tk } ∧ SetR w h' s.heap.objs.size (fun j => decide (j ∈ ns)) c ∧ c ≤ ns.length ∧ ∀ b o, s.heap.get? b = some o → h'.get? b = some o
theorem set_of_list {l : Addr} {items : Array Value} (ns : List Int) {Q : Value → Shared → Prop} (hh : A.handled = none) (hl : s.heap.IsList l items) (hit : IntsAre items.toList ns) (hb : ns.length + 1 < scanBound)
    (k : ∀ s₂, Filled w s ns .none s₂ → Q (.ref s.heap.objs.size) s₂) : wpAny (model P w) A (call (.type "set") [.ref l]) Q E s := by
  have hisz : items.size = ns.length := (Array.length_toList).symm.trans (IntsAre.length hit)
  obtain ⟨c, tl, hmro⟩ := F.called_set.mro
  have hmade := F.called_set.made
  have hsub := F.called_set.sub
  refine wpAny_call (codeAny_of_tree ?_)
  show wpAny _ _ (callAny (.type "set") _) _ _ _
  refine wpAny_pure ⟨Code.quiet_builtin _ (by decide +kernel), codeAny_builtin F.entry_type_call ?_⟩
  rw [Around.under_plain (weight_type_call_type "set" [.ref l] []) rfl]
  have h1 := F.called_set.notType
  have h2 := F.called_set.canCreate
  have hct := F.typeCall_set_1 (.ref l)
  repeat (any_goals (first | assumption | wp_step))
  refine codeAny_mono (code_set_led1 (.ref l) (E := E) (Q₁ := fun obj s₁ => obj = .ref s.heap.objs.size ∧ s₁ = { s with heap := s.heap.push (nilSet w) }) ⟨rfl, rfl⟩) fun r s₁ hr => ?_
  match r, hr with
  | .error e, hr => exact hr
  | .ok (.ret obj), ⟨e1, e2⟩ =>
    subst e1 e2
    have hS : (s.heap.push (nilSet w)).get? s.heap.objs.size = some (nilSet w) := Heap.get?_push_size _ rfl
    have hT : Shared.TypeIs { s with heap := s.heap.push (nilSet w) } (.ref s.heap.objs.size) "set" := ⟨_, hS, rfl⟩
    have hli := F.called_set.init.lookup
    have hbi := F.called_set.init.bind (.ref s.heap.objs.size)
    repeat (any_goals (first | assumption | wp_step))
    refine codeAny_mono (codeAny_call_builtin (R := wants (Filled w s ns) E) F.called_set.init.plain F.entry_set_init (check_set_init_1 hT ?_)) fun r₂ s₂ hr₂ => ?_
    · obtain ⟨⟨ocls, odict, odata, oslots⟩, hol, hcl, nl, hdl⟩ := hl
      simp only at hcl hdl
      subst hcl hdl
      have hol' : (s.heap.push (nilSet w)).get? l = some { cls := .type "list", dict := odict, data := .seq items nl, slots := oslots } := Heap.get?_push_of_some _ hol
      have hsls := F.sub_list_set
      have hslf := F.sub_list_frozenset
      have hne : (Value.type "list" == Value.type "dict") = false := by decide
      have hl1 : (s.heap.push (nilSet w)).IsList l items := ⟨_, hol', rfl, nl, rfl⟩
      have lt1 : l < s.heap.objs.size := Heap.lt_size hol
      have sz : (s.heap.push (nilSet w)).objs.size = s.heap.objs.size + 1 := Heap.size_push ..
      unfold Builtin.«set.__init__» noKeywords Builtin.Frozenset.updateFrom
      generalize hPI : pyIter = PI
      wp_walk
      subst hPI
      refine wpAny_pyIter_list hl1 (wpAny_bind (wpAny_runValue ?_))
      have hh3 : A.in1.in1.in1.handled = none := by simp [hh]
      have hval : ∀ (i : Nat) (v : Value), items[i]? = some v → ∃ k t, ns[i]? = some k ∧ v = .int k t := fun i v hv => by
        have hi : i < ns.length := hisz ▸ (Array.getElem?_eq_some_iff.mp hv).1
        obtain ⟨t, e⟩ := PyProof.Rows.IntsAre.int_at hit i v (by rw [Array.getElem?_toList]; exact hv)
        exact ⟨ns[i], t, List.getElem?_eq_getElem hi, by rw [e, List.getD_eq_getElem?_getD, List.getElem?_eq_getElem hi] <;> rfl⟩
      refine set_update_ints ((Walks.list hh3 _ l (by rw [sz]; exact Nat.ne_of_lt (Nat.lt_succ_of_lt lt1)) items).toS) s.heap.objs.size (by rw [sz]; simp only [List.mem_cons, List.not_mem_nil, or_false, not_or]; exact ⟨Nat.ne_of_lt (Nat.lt_succ_self _), Nat.ne_of_gt lt1⟩) ns hisz hb hval items.size 0 _ (by omega) (Nat.zero_le _) ⟨⟨_, Heap.get?_push_size _ rfl, rfl, rfl⟩, (hl1.push _)⟩ ⟨0, Nat.le_refl 0, setR_new_at (Heap.get?_push_of_some _ hS)⟩ fun s' c' hm hc' hS' => ?_
      obtain ⟨h', g2, d', tk', os'⟩ := s'
      have eg : g2 = s.gens := hm.gens
      have ed : d' = s.drawn := hm.drawn
      have eo : os' = s.os := hm.os
      subst eg ed eo
      show wpAny _ _ _ _ _ _
      refine wpAny_pure ?_
      show wpAny _ _ (ret Value.none) _ _ _
      refine wpAny_pure ⟨rfl, h', tk', c', rfl, hS', by omega, fun b o e => ?_⟩
      have hb0 : b < s.heap.objs.size := Heap.lt_size e
      refine hm.heap b o (fun z => ?_) (Heap.get?_push_of_some _ (Heap.get?_push_of_some _ e))
      rw [sz] at z
      simp only [List.mem_cons, List.not_mem_nil, or_false] at z
      exact z.elim (Nat.ne_of_lt hb0) (Nat.ne_of_lt (Nat.lt_succ_of_lt hb0))
    · match r₂, hr₂ with
      | .error e, hr₂ => exact hr₂
      | .ok (.ret r), ⟨e1, F⟩ =>
        subst e1
        have F' := F
        obtain ⟨h', tk, c, rfl, hS', _⟩ := F'
        repeat (any_goals (first | assumption | wp_step))
        exact k _ ⟨rfl, F⟩
end
/-! sorted of a set of ints, any size below 4096 -/
section
variable {P : Program} {w : World} {A : Around} {E : Value → Shared → Prop} {s : Shared}
theorem sorted_setR {a : Addr} {S : Int → Bool} {n : Nat} {Q : Value → Shared → Prop} (R : SetR w s.heap a S n) (hh : A.handled = none)
    (hQ : ∀ s' p (out : List Value) (c : Nat) (ns : List Int), (∀ b o, s.heap.get? b = some o → s'.heap.get? b = some o) → s'.gens = s.gens → s'.os = s.os → s.heap.objs.size ≤ p →
      s'.heap.get? p = some (seqObj "list" out.toArray c) → IntsAre out ns → ns.Pairwise (· < ·) → (∀ k, k ∈ ns ↔ S k = true) → ns.length = n → n ≤ sizeLine → Q (.ref p) s') :
    wpAny (model P w) A (call (.builtin "sorted") [.ref a]) Q E s := by
  obtain ⟨o, es, ep, t, ho, hex, hd, g, nd, hm, hb, hf, hn, hr, hl⟩ := R
  refine Calls.call_function_entry kind_sorted plain_sorted entry_sorted (args_sorted1 _) ?_
  unfold Builtin.«sorted»
  refine wpAny_bind (m := checkCount "sorted" 1 1 _) (wpAny_pure ?_)
  refine wpAny_bind (collect_set (A := A.in1) hh ⟨o, ho, hex.1, hd⟩ hf hb hr hl fun s1 vs k1 hz g1 o1 pm => ?_)
  have hvl : vs.length = n := by rw [pm.length_eq, List.length_map, Array.length_toList]; exact hn
  have hle : vs.length ≤ sizeLine := by
    rw [hvl, sizeLine_eq]
    have : scanBound = 4096 := rfl
    omega
  have hI : IntsAre vs (vs.map Builtin.Re.reRawOf) := ints_of vs fun v hv => by
    obtain ⟨e, he, q⟩ := List.mem_map.mp (pm.mem_iff.mp hv)
    obtain ⟨k, tk, h1, _⟩ := g e he
    exact ⟨k, tk, q ▸ h1⟩
  have pk : (vs.map Builtin.Re.reRawOf).Perm (es.toList.map L2.keyOf) := by
    have q := pm.map Builtin.Re.reRawOf
    rwa [List.map_map] at q
  refine wpAny_bind (wpAny_newList ?_ hle)
  have hoL : (s1.heap.push (seqObj "list" vs.toArray 0)).get? s1.heap.objs.size = some (seqObj "list" vs.toArray 0) := Heap.get?_push_size _ rfl
  refine wpAny_bind (wpAny_holding (wpAny_call_entry slot_list_sort ⟨_, hoL, rfl⟩ entry_list_sort (SrtO.list_sort_ord SrtO.swo_int hoL hle (fun h2 => SrtO.ints_sortable hI h2) fun out h1 h2 => ⟨_, rfl, ?_⟩) (args_list_sort _)))
  obtain ⟨k1', k2, k3⟩ := SrtO.ints_out hI h1 h2
  obtain ⟨c, hc⟩ := sortedHeap_at (vs := vs) (out := out.toArray) hoL
  have pn : (out.map SrtO.iv).Perm (es.toList.map L2.keyOf) := k2.trans pk
  refine wpAny_pure ⟨_, rfl, hQ _ s1.heap.objs.size out c _ (fun b u e => ?_) g1 o1 hz hc k1' (lt_of_le_nodup _ k3 (pn.nodup_iff.mpr nd)) (fun k => by rw [pn.mem_iff, ← hm k]) ?_ ?_⟩
  · have q := k1 b u e
    have hlt := Heap.lt_size q
    show (sortedHeap (s1.heap.push (seqObj "list" vs.toArray 0)) s1.heap.objs.size vs out.toArray).get? b = some u
    rw [sortedHeap_old (Nat.ne_of_lt hlt) (by rw [Heap.size_push]; exact Nat.lt_succ_of_lt hlt)]
    exact Heap.get?_push_of_some _ q
  · rw [pn.length_eq, List.length_map, Array.length_toList]; exact hn
  · omega
end
/-- set(xs) of a list of ints, and sorted of it -/
def rSetL (w : World) (K : PySem.W.Frag) : List V → Hp → VK → Prop := fun xs H Q => ∃ (a : Addr) (ns : List Int), xs = [V.ref a] ∧ SqL K H a (ns.map V.int) ∧ ns.length + 1 < scanBound ∧ ∀ p c, H p = none → Q (.ref p) (upd H p (SetO w p (fun j => decide (j ∈ ns)) c))
def rSortS (w : World) : List V → Hp → VK → Prop := fun xs H Q => ∃ a S n, xs = [V.ref a] ∧ H a = some (SetO w a S n) ∧
  ∀ (ns : List Int) (p : Addr), ns.Pairwise (· < ·) → (∀ k : Int, k ∈ ns ↔ S k = true) → H p = none → Q (.ref p) (upd H p (.lst (ns.map V.int)))
theorem cr_setL {X : Cx} (hc : X.calm = true) : CallR X (.type "set") (rSetL X.w X.K) := by
  intro pins s σ H xs us Q I r h
  obtain ⟨a, ns, rfl, hs, hb, q⟩ := h
  obtain ⟨its, rv, hl, hz⟩ := I.list hs
  rw [Vals.ref1 r]
  refine set_of_list ns (I.ok.hd hc) hl.isList (by simpa using rv.ints) hb fun s₂ F => ?_
  obtain ⟨_, h', tk, c, rfl, hS, hc', hk⟩ := F
  exact ⟨.ref _, upd H s.heap.objs.size (SetO X.w s.heap.objs.size (fun j => decide (j ∈ ns)) c), I.laid (t' := tk) hk (Nat.le_refl _) (setO_new hS), rfl, q _ c (I.hok.fresh (Nat.le_refl _))⟩
theorem cr_sortS {X : Cx} (hc : X.calm = true) : CallR X (.builtin "sorted") (rSortS X.w) := by
  intro pins s σ H vs us Q I r h
  obtain ⟨a, S, n, rfl, ha, q⟩ := h
  rw [Vals.ref1 r]
  refine sorted_setR (setO_get I ha) (I.ok.hd hc) fun s' p out c ns k g o hp hg hi hs hm hl hz => ?_
  have hlen : (ns.map V.int).length ≤ sizeLine := by rw [List.length_map, hl]; exact hz
  have hn : H p = none := I.hok.fresh hp
  have J : Inv X pins σ (upd H p (.lst (ns.map V.int))) { s with heap := s'.heap, gens := s'.gens, drawn := s'.drawn, toks := s'.toks } :=
    I.call (ch := []) (Un.laid k hp hn) (I.hok.laid k hp ⟨hlen, out, c, vals_of_ints hi, hg⟩) (by rw [g]; exact I.bare) (fun _ z => nomatch z)
  have e : s' = { s with heap := s'.heap, gens := s'.gens, drawn := s'.drawn, toks := s'.toks } := by
    obtain ⟨h1, g1, d1, t1, o1⟩ := s'
    have : o1 = s.os := o
    subst this
    rfl
  exact ⟨.ref p, _, e ▸ J, rfl, q ns p hs hm hn⟩
end Lv
end
section
set_option Elab.async false
set_option linter.all false
set_option autoImplicit false
set_option maxRecDepth 100000
set_option maxHeartbeats 2000000
namespace Lv
open PySem PySem.Spec PyProof.Rows L2

/-! ### sorted(set(xs)) -/
def insD (k : Int) : List Int → List Int
  | [] => [k]
  | x :: l => if k < x then k :: x :: l else if k = x then x :: l else x :: insD k l
def sortSet : List Int → List Int
  | [] => []
  | k :: l => insD k (sortSet l)
theorem mem_insD {k j : Int} : ∀ {l : List Int}, j ∈ insD k l ↔ j = k ∨ j ∈ l
  | [] => by simp [insD]
  | x :: l => by
    unfold insD
    split
    · simp
    · split
      · rename_i e
        subst e
        simp
      · simp [mem_insD (l := l)]
        grind
theorem srt_insD {k : Int} : ∀ {l : List Int}, l.Pairwise (· < ·) → (insD k l).Pairwise (· < ·)
  | [], _ => by simp [insD]
  | x :: l, h => by
    obtain ⟨h1, h2⟩ := List.pairwise_cons.mp h
    unfold insD
    split
    · rename_i e
      exact List.pairwise_cons.mpr ⟨fun y hy => by
        rcases List.mem_cons.mp hy with rfl | hy
        · exact e
        · exact Int.lt_trans e (h1 y hy), h⟩
    · split
      · exact h
      · refine List.pairwise_cons.mpr ⟨fun y hy => ?_, srt_insD h2⟩
        rcases mem_insD.mp hy with rfl | hy
        · omega
        · exact h1 y hy
theorem mem_sortSet {j : Int} : ∀ {l : List Int}, j ∈ sortSet l ↔ j ∈ l
  | [] => Iff.rfl
  | k :: l => by simp [sortSet, mem_insD, mem_sortSet (l := l)]
theorem srt_sortSet : ∀ l : List Int, (sortSet l).Pairwise (· < ·)
  | [] => .nil
  | k :: l => srt_insD (srt_sortSet l)
theorem strict_unique : ∀ {a b : List Int}, a.Pairwise (· < ·) → b.Pairwise (· < ·) → (∀ k, k ∈ a ↔ k ∈ b) → a = b
  | [], [], _, _, _ => rfl
  | [], y :: b, _, _, h => by have := (h y).mpr List.mem_cons_self; cases this
  | x :: a, [], _, _, h => by have := (h x).mp List.mem_cons_self; cases this
  | x :: a, y :: b, ha, hb, h => by
    obtain ⟨a1, a2⟩ := List.pairwise_cons.mp ha
    obtain ⟨b1, b2⟩ := List.pairwise_cons.mp hb
    have hx := (h x).mp List.mem_cons_self
    have hy := (h y).mpr List.mem_cons_self
    have e : x = y := by
      rcases List.mem_cons.mp hx with e | hx
      · exact e
      · rcases List.mem_cons.mp hy with e | hy
        · exact e.symm
        · have := b1 x hx
          have := a1 y hy
          omega
    subst e
    congr 1
    refine strict_unique a2 b2 fun k => ⟨fun hk => ?_, fun hk => ?_⟩
    · have := a1 k hk
      rcases List.mem_cons.mp ((h k).mp (List.mem_cons_of_mem _ hk)) with e | z
      · omega
      · exact z
    · have := b1 k hk
      rcases List.mem_cons.mp ((h k).mpr (List.mem_cons_of_mem _ hk)) with e | z
      · omega
      · exact z
def fSortSet : F1 := fun x S => (intsAt S x).bind fun ns => if ns.length + 1 < 4096 then some (.d (.list ((sortSet ns).map .int)), S) else none
section
variable {X : Cx} {W : WX} {e : Expr} {m : M} {p p2 pos pos2 : Pos}
theorem px_sortSet (hc : X.calm = true) (hg : Gl X "sorted") (hm : X.mg "sorted" = none) (hg2 : Gl X "set") (hm2 : X.mg "set" = none) (he : PX X W e m)
    (hs2 : starEach [e] X.env = (false, eval e X.env) :: starEach [] X.env := by rfl)
    (hs : starEach [.Call (.Name "set" p2) [e] [] pos2] X.env = (false, eval (.Call (.Name "set" p2) [e] [] pos2) X.env) :: starEach [] X.env := by rfl) :
    PX X W (.Call (.Name "sorted" p) [.Call (.Name "set" p2) [e] [] pos2] [] pos) (mOp1 fSortSet m) :=
  PX.of (pe_callB (cr_sortS hc) hg hm (by decide +kernel) (pa_cons (pe_callTy (cr_setL hc) hg2 hm2 (by decide +kernel) (pa_cons he.pe pa_nil hs2) (by decide) (by decide) hs2 rfl) pa_nil hs) (by decide) (by decide) hs rfl) fun σ H Q ev S ρ R E p => by
    refine rE_bnd R E p fun v H1 x S1 ρ1 R1 E1 l1 rv p1 => ?_
    obtain ⟨z, S', eq, q⟩ := pn_lift p1
    unfold fSortSet at eq
    obtain ⟨ns, hn, eq⟩ := Option.bind_eq_some_iff.mp eq
    split at eq
    · rename_i hz
      cases eq
      obtain ⟨a, rfl, ha⟩ := ints_ok R1 rv hn
      refine ⟨a, ns, rfl, ha, hz, fun p c hp => ?_⟩
      obtain ⟨R2, l2⟩ := R1.frozen (o := SetO X.w p (fun j => decide (j ∈ ns)) c) hp
      refine ⟨p, _, c, rfl, upd_same, fun ns' p' hs hmem hp' => ?_⟩
      have e : ns' = sortSet ns := strict_unique hs (srt_sortSet ns) fun k => by rw [hmem k, mem_sortSet]; simp
      subst e
      obtain ⟨R3, l3⟩ := R2.frozen (o := HO.lst ((sortSet ns).map V.int)) hp'
      refine q _ _ ρ1 R3 (l2.trans l3) (Dp.lst (SqL.of ((frz_at (R2.fresh hp')).trans upd_same)) (dp_ints _))
    · cases eq
end

/-! ### max(xs, default=d), of ints -/
def maxOf (d : Int) : List Int → Int
  | [] => d
  | n :: ns => ns.foldl max n
def rMaxDef (K : PySem.W.Frag) : List V → List V → Hp → VK → Prop := fun xs zs H Q => ∃ (a : Addr) (ns : List Int) (d : Int), xs = [V.ref a] ∧ zs = [.int d] ∧ SqL K H a (ns.map V.int) ∧ Q (.int (maxOf d ns)) H
theorem reads_ints {h : Heap} : ∀ {its : List Value} {ns : List Int}, IntsAre its ns → ReadsAll h its (ns.map .int) []
  | _, _, .nil => .nil
  | _, _, .cons n t r => .cons (as := []) (.int _ _) (reads_ints r)
theorem depth_ints : ∀ ns : List Int, PyData.depthAll (ns.map .int) = 0
  | [] => rfl
  | n :: ns => by
    show max 0 (PyData.depthAll (ns.map .int)) = 0
    rw [depth_ints ns]
    rfl
theorem alike_ints (ns : List Int) : PySem.W.AlikeAll (ns.map .int) := by
  refine ⟨fun x hx y hy => ?_, fun x hx => ?_⟩
  · obtain ⟨i, _, rfl⟩ := List.mem_map.mp hx
    obtain ⟨j, _, rfl⟩ := List.mem_map.mp hy
    rfl
  · obtain ⟨i, _, rfl⟩ := List.mem_map.mp hx
    exact fun z => by cases z
theorem cr_maxDef {X : Cx} (hc : X.calm = true) (hu : X.A.units + 64 < cLine) : CallRK X (.builtin "max") [Str.ofString "default"] (rMaxDef X.K) := by
  intro pins s σ H xs zs us ws Q I r r2 h
  obtain ⟨a, ns, d, rfl, rfl, hs, q⟩ := h
  obtain ⟨its, rv, hl, hz⟩ := I.list hs
  rw [Vals.ref1 r]
  have hi := rv.ints
  cases r2 with
  | cons rd rt =>
    cases rt
    obtain ⟨td, rfl⟩ := rd
    refine PySem.W.max_list_default (I.ok.hd hc) hl.isList (reads_ints (h := s.heap) (by simpa using hi)) (alike_ints ns) (by rw [depth_ints]; omega) (fun e h' tk k => ?_) fun y ys i v h' tk bs e hv rd k => ?_
    · have e : ns = [] := List.map_eq_nil_iff.mp e
      subst e
      exact ⟨.int d, H, I.kept (h' := h') (t' := tk) k, ⟨_, rfl⟩, q⟩
    · cases ns with
      | nil => cases e
      | cons n ns =>
        cases e
        rw [PySem.W.maxD_ints] at rd
        cases rd
        exact ⟨.int _, H, I.kept (h' := h') (t' := tk) k, ⟨_, rfl⟩, q⟩
def fMaxD : F2 := fun x y S => match y with
  | .d (.int d) => (intsAt S x).map fun ns => (.d (.int (maxOf d ns)), S)
  | _ => none
section
variable {X : Cx} {W : WX} {a b : Expr} {ma mb : M} {p pos kp : Pos}
theorem px_maxD (hc : X.calm = true) (hu : X.A.units + 64 < cLine) (hg : Gl X "max") (hm : X.mg "max" = none) (ha : PX X W a ma) (hb : PX X W b mb)
    (hs : starEach [a] X.env = (false, eval a X.env) :: starEach [] X.env := by rfl) (he : backTo pos (starEach [a] X.env) = (false, eval a X.env) :: backTo pos (starEach [] X.env) := by rfl) (hpl : (backTo pos (starEach [a] X.env)).any (·.1) = false := by rfl)
    (hall : (backToKw pos (keywordEach [⟨some "default", b, kp⟩] X.env)).all (·.1.isSome) = true := by rfl) (hnone : (backToKw pos (keywordEach [⟨some "default", b, kp⟩] X.env)).any (·.1.isNone) = false := by rfl) (hks : (backToKw pos (keywordEach [⟨some "default", b, kp⟩] X.env)).filterMap (·.1) = [Str.ofString "default"] := by rfl) :
    PX X W (.Call (.Name "max" p) [a] [⟨some "default", b, kp⟩] pos) (mOp fMaxD ma mb) :=
  PX.of (pe_callBK (cr_maxDef hc hu) hg hm (by decide +kernel) (pa_cons ha.pe pa_nil hs) (pk_cons hb.pe pk_nil) (by decide) (by decide) he hpl hall hnone hks) fun σ H Q ev S ρ R E p => by
    refine rE_bnd R E p fun v H1 x S1 ρ1 R1 E1 l1 rv p1 => ?_
    refine rE_bnd R1 E1 p1 fun u H2 y S2 ρ2 R2 E2 l2 ru p2 => ?_
    obtain ⟨z, S', eq, q⟩ := pn_lift p2
    unfold fMaxD at eq
    split at eq
    · rename_i d
      obtain ⟨ns, hn, e⟩ := Option.map_eq_some_iff.mp eq
      cases e
      obtain ⟨a, rfl, ha⟩ := ints_ok R2 (VR.mono l2 rv) hn
      exact ⟨a, ns, d, rfl, by rw [vr_int ru], ha, q _ H2 ρ2 R2 (Le.refl ρ2 H2) (.int _)⟩
    · cases eq
end
def mDic0 : M := fun _ S => some (.ok (.ref S.length), S ++ [.dic []])
end Lv
end
section
set_option Elab.async false
set_option linter.all false
set_option autoImplicit false
set_option maxRecDepth 100000
set_option maxHeartbeats 2000000
namespace Lv
open PySem PySem.Spec PyProof.Rows L2

/-! ### a + b of two lists of the store -/
def fCatN : F2 := fun x y S => match x, y with
  | .ref i, .ref j => match S[i]?, S[j]? with
    | some (.lst xs), some (.lst ys) => if xs.length + ys.length ≤ sizeLine then some (.ref S.length, S ++ [.lst (xs ++ ys)]) else none
    | _, _ => none
  | _, _ => none
theorem o_catN {K : PySem.W.Frag} : Op2 K (rAddA K) fCatN := by
  intro ρ S H v u x y z S' Q R rv ru eq q
  unfold fCatN at eq
  split at eq
  · rename_i i j
    obtain ⟨a, hi, rfl⟩ := rv
    obtain ⟨b, hj, rfl⟩ := ru
    split at eq
    · rename_i xs ys h1 h2
      split at eq
      · rename_i hz
        cases eq
        obtain ⟨vs, ha, va⟩ := R.ob i a _ hi h1
        obtain ⟨ws, hb, vb⟩ := R.ob j b _ hj h2
        exact .inr (.inr (.inr ⟨a, b, vs, ws, rfl, rfl, SqL.of ha, SqL.of hb, by rw [Paired.length va, Paired.length vb]; exact hz, new_lst R (vrs_app va vb) q⟩))
      · cases eq
    · cases eq
  · cases eq

/-! ### list(d), the keys -/
def fListK : FN := fun xs S => match xs with
  | [x] => match x with
    | .ref i => match S[i]? with
      | some (.dic kvs) => some (.d (.list (kvs.map fun kv => valOfKey kv.1)), S)
      | _ => none
    | _ => none
  | _ => none
theorem dp_keys {κ : Type} {K : PySem.W.Frag} {ρ : Rg} {H H' : Hp} : ∀ {vs : List (Key × V)} {kvs : List (Key × Val)}, KR K ρ H vs kvs → DpAll K H' (vs.map fun kv => kV kv.1) (kvs.map fun kv => valOfKey kv.1)
  | _, _, .nil => .nil
  | p :: vs, q :: kvs, .cons h t => by
    obtain ⟨k, v⟩ := p
    obtain ⟨k', v'⟩ := q
    obtain ⟨e, _⟩ := h
    simp only at e
    subst e
    refine .cons ?_ (dp_keys (κ := κ) t)
    cases k with
    | inl i => exact .int i
    | inr z => exact .str z
theorem o_listK {K : PySem.W.Frag} : OpN K rListD fListK := by
  intro ρ S H vs xs z S' Q R rv eq q
  unfold fListK at eq
  split at eq
  · rename_i x
    obtain ⟨v, rfl, r1⟩ := vrs1 rv
    split at eq
    · rename_i i
      obtain ⟨a, hi, rfl⟩ := r1
      split at eq
      · rename_i kvs hS
        cases eq
        obtain ⟨ws, ha, hk⟩ := R.ob i a _ hi hS
        exact ⟨a, ws, rfl, ha, new_list R (dp_keys (κ := Nat) hk) q⟩
      · cases eq
    · cases eq
  · cases eq

/-! ### a comprehension's list, in the store -/
section
variable {X : Cx} {W : WX} {tg iter elt : Expr} {ifs : List Expr} {scope : Scope} {own : List (Str × Nat)} {ms : List M} {f : FSr} {is : List Nat} {asg : Asg} {t : Option M} {me : M} {pos : Pos}
theorem px_lcN (hc : X.calm = true) (hN : X.N.Nodup) (hi : IX X W tg iter ms f) (ok : BlkOk X.N X.env.scope scope own)
    (hg : ∀ (s : Shared) (H : Hp) (C : Addr) (cl : List (Str × Addr)) (fp : List Addr), GX (X.blk s H scope (compEnvC scope cl C X.env) fp) tg is asg) (ht : ∀ (s : Shared) (H : Hp) (C : Addr) (cl : List (Str × Addr)) (fp : List Addr), TXs (X.blk s H scope (compEnvC scope cl C X.env) fp) WF ifs t)
    (he : ∀ (s : Shared) (H : Hp) (C : Addr) (cl : List (Str × Addr)) (fp : List Addr), PX (X.blk s H scope (compEnvC scope cl C X.env) fp) WF elt me) (hj : ∀ i ∈ is, i ∈ own.map (·.2) := by decide) (hs : ∀ x, foldedSetIterable iter X.env x = pure x := by intro _; rfl) :
    PX X W (.ListComp elt [⟨tg, iter, ifs, 0⟩] scope pos) (mLcN ms f asg t me (own.map (·.2))) := by
  obtain ⟨wi, pi, okI⟩ := hi.ex
  refine PX.of (pe_lc (g := rG X.K is asg) (tt := rTs X.K WF t) (te := rE X.K WF me) hc hN pi ok (fun s H C cl fp => (hg s H C cl fp).pg) (fun s H C cl fp => (ht s H C cl fp).pt) (fun s H C cl fp => (he s H C cl fp).pe) hs) fun σ H Q ev S ρ R E p => ?_
  refine okI σ H _ (rA_bnd R E p fun vs H1 xs S1 ρ1 R1 E1 l1 rvs p1 => ?_)
  split at p1
  · exact (pn_none p1).elim
  · rename_i sr hsr
    split at p1
    · rename_i ps S' hcl
      exact ⟨xs, S1, ρ1, sr, R1, rvs, hsr, fun J Y => lc_ok Y R1 E1 hj hcl (lc_endN fun w H' ρ' R' l' r' => p1.ok R' l' r')⟩
    · exact (pn_none p1).elim
end

/-! ### sorted(set(xs)), in the store -/
def fSortSetN : F1 := fun x S => (intsAt S x).bind fun ns => if ns.length + 1 < 4096 then some (.ref S.length, S ++ [.lst ((sortSet ns).map fun i => .d (.int i))]) else none
section
variable {X : Cx} {W : WX} {e : Expr} {m : M} {p p2 pos pos2 : Pos}
theorem px_sortSetN (hc : X.calm = true) (hg : Gl X "sorted") (hm : X.mg "sorted" = none) (hg2 : Gl X "set") (hm2 : X.mg "set" = none) (he : PX X W e m)
    (hs2 : starEach [e] X.env = (false, eval e X.env) :: starEach [] X.env := by rfl)
    (hs : starEach [.Call (.Name "set" p2) [e] [] pos2] X.env = (false, eval (.Call (.Name "set" p2) [e] [] pos2) X.env) :: starEach [] X.env := by rfl) :
    PX X W (.Call (.Name "sorted" p) [.Call (.Name "set" p2) [e] [] pos2] [] pos) (mOp1 fSortSetN m) :=
  PX.of (pe_callB (cr_sortS hc) hg hm (by decide +kernel) (pa_cons (pe_callTy (cr_setL hc) hg2 hm2 (by decide +kernel) (pa_cons he.pe pa_nil hs2) (by decide) (by decide) hs2 rfl) pa_nil hs) (by decide) (by decide) hs rfl) fun σ H Q ev S ρ R E p => by
    refine rE_bnd R E p fun v H1 x S1 ρ1 R1 E1 l1 rv p1 => ?_
    obtain ⟨z, S', eq, q⟩ := pn_lift p1
    unfold fSortSetN at eq
    obtain ⟨ns, hn, eq⟩ := Option.bind_eq_some_iff.mp eq
    split at eq
    · rename_i hz
      cases eq
      obtain ⟨a, rfl, ha⟩ := ints_ok R1 rv hn
      refine ⟨a, ns, rfl, ha, hz, fun p c hp => ?_⟩
      obtain ⟨R2, l2⟩ := R1.frozen (o := SetO X.w p (fun j => decide (j ∈ ns)) c) hp
      refine ⟨p, _, c, rfl, upd_same, fun ns' p' hs hmem hp' => ?_⟩
      have e : ns' = sortSet ns := strict_unique hs (srt_sortSet ns) fun k => by rw [hmem k, mem_sortSet]; simp
      subst e
      have rv2 : VRs X.K ρ1 (upd H1 p (SetO X.w p (fun j => decide (j ∈ ns)) c)) ((sortSet ns).map V.int) ((sortSet ns).map fun i => Val.d (.int i)) := by
        have := vrs_of_dp (ρ := ρ1) (dp_ints (K := X.K) (H := frz ρ1 (upd H1 p (SetO X.w p (fun j => decide (j ∈ ns)) c))) (sortSet ns))
        rwa [List.map_map] at this
      exact new_lst R2 rv2 (fun w H' ρ' R' l' r' => q w H' ρ' R' (l2.trans l') r') p' hp'
    · cases eq
end

/-! ### {"a": x, ..}: a new dict of the store -/
def argsKV : List Str → List M → (List (Key × Val) → M) → M
  | k :: ks, m :: ms, c => bnd (mStr k) fun _ => bnd m fun y => argsKV ks ms fun r => c ((.inr k, y) :: r)
  | _, _, c => c []
open Classical in
noncomputable def mDisp (ks : List Str) (ms : List M) : M := fun e S => argsKV ks ms (fun kvs => fun _ S2 => if S2[S.length]? = some (.dic []) then some (.ok (.ref S.length), S2.set S.length (.dic kvs)) else none) e (S ++ [.dic []])
def rKV (K : PySem.W.Frag) (W : WX) : List Str → List M → List (TE × TE)
  | k :: ks, m :: ms => (rE K W (mStr k), rE K W m) :: rKV K W ks ms
  | _, _ => []
structure DX (X : Cx) (W : WX) (pos : Pos) (keys : List (Option Expr)) (values : List Expr) (ks : List Str) (ms : List M) : Prop where
  pp : PPs X pos keys values (rKV X.K W ks ms)
  l1 : keys.length = ks.length
  l2 : values.length = ks.length
  l3 : ms.length = ks.length
  sm : keys.all (·.isSome) = true
section
variable {X : Cx} {W : WX} {pos : Pos}
theorem dx_nil : DX X W pos [] [] [] [] := ⟨pps_nil, rfl, rfl, rfl, rfl⟩
theorem dx_cons {k : Str} {kj : Nat} {kp : Pos} {v : Expr} {m : M} {keys : List (Option Expr)} {values : List Expr} {ks : List Str} {ms : List M} (hv : PX X W v m) (h : DX X W pos keys values ks ms) : DX X W pos (some (.Constant (.str k) kj kp) :: keys) (v :: values) (k :: ks) (m :: ms) :=
  ⟨pps_cons (px_str (W := W)).pe hv.pe h.pp, by rw [List.length_cons, List.length_cons, h.l1], by rw [List.length_cons, List.length_cons, h.l2], by rw [List.length_cons, List.length_cons, h.l3], by rw [List.all_cons, h.sm]; rfl⟩
theorem rKV_bnd {K : PySem.W.Frag} {σ : L2.St} {ev : Ev} {Q : VK} : ∀ {ks : List Str} {ms : List M} {ρ : Rg} {H : Hp} {S : Sto} {c : List (Key × Val) → M} {T : List (V × V) → Hp → Prop}, ms.length = ks.length → RS K ρ S H → ER K ρ H σ ev → Pn K W σ (argsKV ks ms c ev S) ρ H Q →
    (∀ (kvs : List (Key × V)) H1 xs S1 ρ1, (kvs.map (·.1)) = ks.map Sum.inr → RS K ρ1 S1 H1 → ER K ρ1 H1 σ ev → Le ρ H ρ1 H1 → KR K ρ1 H1 kvs xs → Pn K W σ (c xs ev S1) ρ1 H1 Q → T (kvs.map fun kv => (kV kv.1, kv.2)) H1) → tPairs (rKV K W ks ms) σ H T
  | [], [], ρ, H, S, c, T, _, R, E, h, hk => hk [] H [] S ρ rfl R E (Le.refl ρ H) .nil h
  | k :: ks, m :: ms, ρ, H, S, c, T, hl, R, E, h, hk => by
    refine ⟨ev, S, ρ, R, E, .ok (.d (.str k)), S, rfl, fun w H1 ρ1 R1 l1 r1 => ?_⟩
    have e1 := vr_str r1
    subst e1
    have h1 : Pn K W σ (bnd m (fun y => argsKV ks ms fun r => c ((.inr k, y) :: r)) ev S) ρ1 H1 Q := Pn.le l1 h
    refine rE_bnd R1 (E.mono l1) h1 fun u H2 y S2 ρ2 R2 E2 l2 ru p2 => ?_
    refine rKV_bnd (T := fun ps H3 => T ((V.str k, u) :: ps) H3) (Nat.succ.inj hl) R2 E2 p2 fun kvs H3 xs S3 ρ3 hk3 R3 E3 l3 kr p3 => ?_
    exact hk ((.inr k, u) :: kvs) H3 ((.inr k, y) :: xs) S3 ρ3 (by rw [List.map_cons, List.map_cons, hk3]) R3 E3 (l1.trans (l2.trans l3)) (.cons ⟨rfl, VR.mono l3 ru⟩ kr) p3
  | [], _ :: _, _, _, _, _, _, hl, _, _, _, _ => by cases hl
  | _ :: _, [], _, _, _, _, _, hl, _, _, _, _ => by cases hl
theorem putK_new {kvs : List (Key × V)} {k : Key} {v : V} (h : ∀ q ∈ kvs, q.1 ≠ k) : putK kvs k v = kvs ++ [(k, v)] := by
  unfold putK
  rw [if_neg]
  simp only [List.any_eq_true, decide_eq_true_eq, not_exists, not_and]
  exact fun q hq => h q hq
theorem mergeK_nd : ∀ (more kvs : List (Key × V)), ((kvs ++ more).map (·.1)).Nodup → mergeK kvs more = kvs ++ more
  | [], kvs, _ => by rw [List.append_nil]; rfl
  | p :: more, kvs, h => by
    show mergeK (putK kvs p.1 p.2) more = _
    have h' := h
    rw [List.map_append, List.nodup_append] at h'
    rw [putK_new fun q hq z => h'.2.2 q.1 (List.mem_map_of_mem hq) p.1 (by simp) z, mergeK_nd more _ (by simpa using h)]
    simp
theorem px_disp {keys : List (Option Expr)} {values : List Expr} {ks : List Str} {ms : List M} (h : DX X W pos keys values ks ms) (h0 : keys ≠ [] := by exact fun z => by cases z) (h15 : keys.length ≤ 15 := by decide) (nd : ks.Nodup := by decide) : PX X W (.Dict keys values pos) (mDisp ks ms) := by
  refine PX.of (pe_disp h.pp h.sm (h.l1.trans h.l2.symm) h0 h15) fun σ H Q ev S ρ R E p => fun a ha => ?_
  obtain ⟨R2, l2⟩ := R.add (o := .dK []) (u := .dic []) ha ⟨[], upd_same, .nil⟩
  unfold mDisp at p
  refine rKV_bnd h.l3 R2 (E.mono l2) (Pn.le l2 p) fun kvs H1 xs S1 ρ1 hk R1 E1 l1 kr p1 => ?_
  split at p1
  · rename_i hS
    have hi : ρ1.ids[S.length]? = some a := pre_get l1.pre R.addIx
    obtain ⟨vs, hv, r0⟩ := R1.ob S.length a _ hi hS
    cases r0
    refine ⟨hv, kvs, rfl, ?_, ?_⟩
    · have e1 := congrArg List.length hk
      simp only [List.length_map] at e1
      rw [e1, ← h.l1]
      exact h15
    · have e : mergeK [] kvs = kvs := by
        rw [mergeK_nd kvs [] (by rw [List.nil_append, hk]; exact (List.pairwise_map.mpr (nd.imp fun {x y} h z => h (Sum.inr.inj z)))), List.nil_append]
      rw [e]
      obtain ⟨R3, l3⟩ := R1.put (o := .dK kvs) (u := .dic xs) hi (noz hv (fun _ _ => by simp)) ⟨kvs, upd_same, KR.mono (Le.put R1 hi (noz hv (fun _ _ => by simp))) kr⟩
      exact p1.ok R3 l3 ⟨a, hi, rfl⟩
  · exact (pn_none p1).elim
end
end Lv
end
section
set_option Elab.async false
set_option linter.all false
set_option autoImplicit false
set_option maxRecDepth 100000
set_option maxHeartbeats 4000000
/-! Calls of methods that may raise, wished for at the caller's slots; a try with several clauses, each with a name. -/
namespace Lv
open PySem PySem.Spec PyProof.Rows L2
section
variable {X : Cx} {CX : CXT} {k : Nat} {f C : Addr} {fd : FuncData} {ps : List Str} {sp : Sp} {E : L2.St → XK} {x m : Str} {p pos apos : Pos} {e o : Expr} {es : List Expr} {ta : TE} {t : TA}
def tMethT (C : Addr) (m : Str) (sp : Sp) (E : L2.St → XK) (to : TE) (ta : TA) : TE := fun σ H Q => to σ H fun v H1 => ∃ (a dx : Addr) (fs : List (Str × V)), v = .ref a ∧ H1 a = some (.ins C dx fs) ∧ fs.lookup m = none ∧ ta σ H1 fun vs H2 => sp (v :: vs) H2 Q (E σ)
theorem pe_methT {pl : Sem Bool} (ho : PE X o ta) (c : Cls X.K C) (hm : Meth X.K C m f) (F : FnOk X.prog X.w X.K X.mg X.base CX k f fd ps sp) (hr : Room k X.A) (hb : Binds X.K fd ps []) (hx : ∀ σ, PassesAt CX X σ (E σ)) (ha : PA X (e :: es) t)
    (hst : starEach (e :: es) X.env = (false, eval e X.env) :: starEach es X.env := by rfl) (hpl : (backTo pos (starEach es X.env)).any (·.1) = false := by rfl)
    (ht : eval (.Call (.Attribute o m apos) (e :: es) [] pos) X.env = (do
      let ov ← eval o X.env
      standAt apos.atName
      let (f, first) ← holding [ov] (getMethod ov m pl)
      callWith pos f first (backTo pos (starEach (e :: es) X.env)) (backToKw pos (keywordEach [] X.env))) := by rfl) :
    PE X (.Call (.Attribute o m apos) (e :: es) [] pos) (tMethT C m sp E ta t) := by
  constructor
  intro pins s σ H Q I h
  refine PySem.W.methodCall_KW (pl := pl) (thn (ho.run pins s σ H _ I h) fun u s1 hu => ?_) ht
  obtain ⟨v, H1, I1, rv, a, dx, fs, ev, ea, hl, h1⟩ := hu
  subst ev
  have eu : u = Value.ref a := rv
  subst eu
  refine getmeth_ok I1 ea c hm hl ?_
  refine PySem.W.callWith_K (first := [.ref a]) (h₀ := X.base) I.ok.mod.kin hm.kp (thn (ha.run pos pins s1 σ H1 _ I1 h1) fun us s2 hus => ?_) hst hpl
  obtain ⟨vs, H2, I2, r, h2⟩ := hus
  exact ⟨I2.kIn, run_fnS (us := .ref a :: us) (vs := .ref a :: vs) F hr hb (hx σ) I2 (.cons rfl r) h2⟩
theorem pe_methT0 {pl : Sem Bool} (ho : PE X o ta) (c : Cls X.K C) (hm : Meth X.K C m f) (F : FnOk X.prog X.w X.K X.mg X.base CX k f fd ps sp) (hr : Room k X.A) (hb : Binds X.K fd ps []) (hx : ∀ σ, PassesAt CX X σ (E σ))
    (ht : eval (.Call (.Attribute o m apos) [] [] pos) X.env = (do
      let ov ← eval o X.env
      standAt apos.atName
      let (f, first) ← holding [ov] (getMethod ov m pl)
      callWith pos f first (backTo pos (starEach [] X.env)) (backToKw pos (keywordEach [] X.env))) := by rfl) :
    PE X (.Call (.Attribute o m apos) [] [] pos) (tMethT C m sp E ta tNil) := by
  constructor
  intro pins s σ H Q I h
  refine PySem.W.methodCall_KW (pl := pl) (thn (ho.run pins s σ H _ I h) fun u s1 hu => ?_) ht
  obtain ⟨v, H1, I1, rv, a, dx, fs, ev, ea, hl, h1⟩ := hu
  subst ev
  have eu : u = Value.ref a := rv
  subst eu
  refine getmeth_ok I1 ea c hm hl ?_
  exact PySem.W.callWith_K0 (first := [.ref a]) I1.kIn hm.kp (run_fnS (us := [.ref a]) (vs := [.ref a]) F hr hb (hx σ) I1 (.cons rfl .nil) h1)
theorem run_makeS {pins : List (Addr × Obj)} {σ : L2.St} {H : Hp} {s : Shared} {Q : VK} {us : List Value} {vs : List V} (M : Mk X.K C f) (F : FnOk X.prog X.w X.K X.mg X.base CX k f fd ps sp) (hr : Room (k + 1) X.A) (hb : Binds X.K fd ps [])
    (hx : PassesAt CX X σ (E σ)) (I : Inv X pins σ H s) (r : Vals vs us)
    (h : ∀ x dx, H x = none → H dx = none → dx ≠ x → sp (.ref x :: vs) (upd (upd H dx (.own x)) x (.ins C dx [])) (fun v H2 => v = .non ∧ Q (.ref x) H2) (E σ)) :
    wpAny (model X.prog X.w) X.A (call (.ref C) us) (EP X pins σ Q) X.xe s := by
  have n0 := I.hok.fresh (Nat.le_refl s.heap.objs.size)
  have n1 := I.hok.fresh (Nat.le_succ s.heap.objs.size)
  have hsp := h (s.heap.objs.size + 1) s.heap.objs.size n1 n0 (Nat.ne_of_lt (Nat.lt_succ_self _))
  have J := Inv.made (C := C) I
  have rs : Vals (V.ref (s.heap.objs.size + 1) :: vs) (Value.ref (s.heap.objs.size + 1) :: us) := .cons rfl r
  have len : (Value.ref (s.heap.objs.size + 1) :: us ++ []).length = ps.length := by
    rw [List.append_nil, ← Paired.length rs]
    exact F.len _ _ _ _ hsp
  have bb := hb _ (Value.ref (s.heap.objs.size + 1) :: us) J.kIn len
  rw [List.append_nil] at bb
  refine wpAny_call (make_map (f := f) I.kIn M.makes M.init (beq_iff_eq.mp M.fn) (codeAny_mono (F.run _ X.stack _ _ ⟨Value.ref (s.heap.objs.size + 1) :: us, []⟩ (Value.ref (s.heap.objs.size + 1) :: us) _ _ (E σ) (hr.make C us [])
    (J.env0.make C us []) bb rs hsp) fun res s2 g => ?_))
  match res, g with
  | .error er, g => exact hx pins _ _ er s2 J g
  | .ok (.ret u), g =>
    obtain ⟨v, H2, J2, rv, z, q⟩ := J.after g
    rw [z] at rv
    exact ⟨rv, V.ref (s.heap.objs.size + 1), H2, J2, rfl, q⟩
  | .ok .next, g => exact g.elim
  | .ok .brk, g => exact g.elim
  | .ok .cont, g => exact g.elim
def tMakeT (C : Addr) (sp : Sp) (E : L2.St → XK) (ta : TA) : TE := fun σ H Q => ta σ H fun vs H1 => ∀ x dx, H1 x = none → H1 dx = none → dx ≠ x → sp (.ref x :: vs) (upd (upd H1 dx (.own x)) x (.ins C dx [])) (fun v H2 => v = .non ∧ Q (.ref x) H2) (E σ)
theorem pe_makeT (M : Mk X.K C f) (F : FnOk X.prog X.w X.K X.mg X.base CX k f fd ps sp) (hr : Room (k + 1) X.A) (hg : Gl X x) (hm : X.mg x = some (.ref C)) (hb : Binds X.K fd ps []) (hx : ∀ σ, PassesAt CX X σ (E σ))
    (ha : PA X (e :: es) t) (hdb : (x == ("__debug__" : Str)) = false := by decide) (he : starEach (e :: es) X.env = (false, eval e X.env) :: starEach es X.env := by rfl) (hpl : (backTo pos (starEach es X.env)).any (·.1) = false := by rfl) :
    PE X (.Call (.Name x p) (e :: es) [] pos) (tMakeT C sp E t) := by
  constructor
  intro pins s σ H Q I h
  refine wpAny_Call_Name_kw (ld_glob I hg hm ?_ hdb)
  refine PySem.W.callWith_K (h₀ := X.base) I.ok.mod.kin M.kp (thn (ha.run pos pins s σ H _ I h) fun us s1 hus => ?_) he hpl
  obtain ⟨vs, H1, I1, r, h1⟩ := hus
  exact ⟨I1.kIn, run_makeS M F hr hb (hx σ) I1 r h1⟩
end

/-! ### a try with several clauses, each with a name -/
abbrev Suite := Addr → Value → Option Addr → TS
/-- behind a suite its name is gone -/
def dropE (D : Ends) (i : Nat) : Ends := { nx := fun σ H => D.nx (σ.set i none) H, rt := D.rt, bk := fun σ H => D.bk (σ.set i none) H, ct := fun σ H => D.ct (σ.set i none) H }
/-- what the clauses wish -/
def wCl (K : PySem.W.Frag) (Wo : WX) (D : Ends) : List (Value × Nat × Suite) → WX
  | [] => Wo
  | q :: r => fun cls d σ H => ∃ b, PySem.W.exmOne K cls q.1 = some b ∧ (b = true → ∀ a, H a = none → q.2.2 a cls d (dropE D q.2.1) (σ.set q.2.1 (some (.ref a))) H) ∧ (b = false → wCl K Wo D r cls d σ H)
inductive Clauses (X : Cx) : List ExceptHandler → List (Value × Nat × Suite) → Prop
  | nil : Clauses X [] []
  | cons {x n : Str} {c : Value} {i : Nat} {ts : Suite} {st : Stmt} {sts : List Stmt} {np cp : Pos} {hs : List ExceptHandler} {l : List (Value × Nat × Suite)} (hc : Names X x c) (hi : X.N[i]? = some n) (hn : X.env.kindOf n = some .local)
      (suite : ∀ (a : Addr) (oe : Obj) (cls : Value) (d : Option Addr) (pn : List (Addr × Obj)), Zc cls d oe → (∃ vs, oe.data = .fields vs) → PSs (X.suite a ((a, oe) :: pn)) (st :: sts) (ts a cls d)) (rest : Clauses X hs l) :
      Clauses X (.ExceptHandler (some (.Name x np)) (some n) (st :: sts) cp :: hs) ((c, i, ts) :: l)
section
variable {X : Cx} {Wo : WX} {l : List (Value × Nat × Suite)} {hs : List ExceptHandler} {pins : List (Addr × Obj)} {D : Ends} {G : Heap} {a : Addr} {cls : Value} {d : Option Addr} {si s1 : Shared} {h3 : Heap} {σ : L2.St} {H : Hp}
/-- no frame is an exception -/
theorem not_frame {l : List Env} {G h : Heap} {a : Addr} {ob : Obj} {vs : Array Value} (ff : h.FunFrames G l) (hg : h.get? a = some ob) (hd : ob.data = .fields vs) : a ∉ frs l := by
  intro z
  obtain ⟨_, ob2, hg2, nf⟩ := ff.mem z
  have : ob = ob2 := Option.some.inj (hg.symm.trans hg2)
  subst this
  exact nf vs hd
/-- the clauses, one behind the other; the exception lies on the ground -/
theorem clauses_ok (ok : X.Ok) (hst : X.stack = X.env :: X.outer) (hf : X.env.frame = some X.env.locals) (nd : X.N.Nodup) (tk : Takes X Wo) (cs : Clauses X hs l) (J : Inv X pins σ H si)
    (gr : ∀ b ob, si.heap.get? b = some ob → b ∉ frs X.stack → G.get? b = some ob) (up : si.heap.UpToSlots h3) (fl : HandSPX.FlyingZ G (X.env :: X.outer) a (Zc cls d) h3) (na : H a = none) (os : s1.os = si.os) (ag : AllBare s1.gens) :
    wCl X.K Wo D l cls d σ H → wpAny (model X.prog X.w) X.A (handleBy (.ref a) X.env hs) (SP X pins D) X.xe { s1 with heap := h3 } := by
  have J3 : Inv X pins σ H { s1 with heap := h3 } := J.landed gr fl.1 up os ag
  obtain ⟨oe, vs, g1, z1, d1⟩ := fl.there
  have nf := not_frame fl.2.2.1 g1 d1
  have n1 : a ≠ X.env.locals := fun z => nf (List.mem_filterMap.mpr ⟨X.env, List.mem_cons_self, by rw [hf, z]⟩)
  have n2 : a ∉ X.fs := fun z => nf (by
    obtain ⟨v, hv, q⟩ := List.mem_filterMap.mp z
    exact List.mem_filterMap.mpr ⟨v, List.mem_cons_of_mem _ hv, q⟩)
  induction cs with
  | nil =>
    intro w
    refine wpAny_handleBy_nil ?_
    have fin : wpAny (model X.prog X.w) X.A (setFlight (.ref a) X.env.frame) (fun _ s4 => wpAny (model X.prog X.w) X.A (throw (.ref a) : Sem Flow) (SP X pins D) X.xe s4) X.xe { s1 with heap := h3 } := by
      rw [hf]
      refine HandSPX.setFlight_upZ fl fun h4 hh up4 => wpAny_throw (tk _ _ ?_)
      exact ⟨a, G, si, pins, σ, H, cls, d, rfl, J, gr, up.trans up4, .inr (.inr (by rw [hst]; exact hh)), na, os, ag, w⟩
    obtain ⟨_, _, _, ob, us, T, _, _, q1, _, q2, q3, _⟩ := fl
    unfold PySem.passOn
    refine wpAny_bind (wpAny_field q1 q2 q3 ?_)
    rw [if_neg (show ¬ ((Value.ref T == Value.none) = true) from by simp)]
    first
      | exact wpAny_bind (wpAny_pure (wpAny_bind fin))
      | exact wpAny_bind fin
  | @cons x n c i ts st sts np cp hs l hc hi hn suite rest ih =>
    rintro ⟨b, m1, yes, no⟩
    have S3 := J3.suite g1 d1 na n1 n2
    refine wpAny_handleBy_cons (codeAny_handlers_test ?_) (fun q => nomatch q)
    have LT : PySem.W.Looks (model X.prog X.w) h3 (typeOf (.ref a)) cls := fun _ _ _ _ k q => wpAny_typeOf_ref (k _ _ g1) (z1.1.symm ▸ q)
    have LM := PySem.W.exm_one (M := model X.prog X.w) J3.kIn LT m1
    have nm : ∀ {Q Q' : Value → Shared → Prop}, Q c { s1 with heap := h3 } → wpAny (model X.prog X.w) (X.A.mark (some (.ref a))) (eval (.Name x np) X.env) Q Q' { s1 with heap := h3 } := fun {Q Q'} q => by
      obtain ⟨k1, k2, k3⟩ := hc
      rcases k3 with k3 | ⟨k3, k4, k5⟩
      · exact ld_glob (X := X.suite a ((a, oe) :: (X.pn ++ pins))) S3 k1 k3 q k2
      · exact ld_blt (X := X.suite a ((a, oe) :: (X.pn ++ pins))) S3 k1 k3 k4 q k5 k2
    refine nm (LM.here ?_)
    match b, yes, no with
    | false, _, no => exact ih (no rfl)
    | true, yes, _ =>
      refine codeAny_handlers_suite_as (HandSPX.lands_againZ fl fun h4 fl4 up4 => ?_)
      have J4 : Inv X pins σ H { s1 with heap := h4 } := J.landed gr fl4.1 (up.trans up4) os ag
      obtain ⟨oe4, vs4, g4, z4, d4⟩ := fl4.there
      have S4 := J4.suite g4 d4 na n1 n2
      refine store_ok (X := X.suite a ((a, oe4) :: (X.pn ++ pins))) (v := .ref a) S4 nd hi (.inl hn) rfl (fun s5 S5 => ?_) (.inr hn)
      refine wpAny_mono ((suite a oe4 cls d (X.pn ++ pins) z4 ⟨_, d4⟩).run [] s5 _ H _ S5 (yes rfl a na)) (fun fw s6 g => ?_) (fun _ _ z => z.elim)
      have gone : ∀ {τ : L2.St} {H6 : Hp} {Q : Shared → Prop}, Inv (X.suite a ((a, oe4) :: (X.pn ++ pins))) [] τ H6 s6 → (∀ s7, Inv X pins (τ.set i none) H6 s7 → Q s7) →
          wpAny (model X.prog X.w) X.A (do bindName X.env n .none; unbindBehindTheSuite X.env n cp) (fun _ s7 => Q s7) X.xe s6 := fun S6 hq => gone_ok (S6.unsuite ok) nd hi hn hq
      match fw, g with
      | .next, ⟨τ, H6, S6, g⟩ => exact gone S6 fun s7 J7 => ⟨_, _, J7, g⟩
      | .brk, ⟨τ, H6, S6, g⟩ => exact gone S6 fun s7 J7 => ⟨_, _, J7, g⟩
      | .cont, ⟨τ, H6, S6, g⟩ => exact gone S6 fun s7 J7 => ⟨_, _, J7, g⟩
      | .ret u, ⟨v, τ, H6, S6, r6, g⟩ => exact gone S6 fun s7 J7 => ⟨_, _, _, J7, r6, g⟩
theorem ps_trys {h0 : ExceptHandler} {body : List Stmt} {pos : Pos} {tb : WX → TS} (hst : X.stack = X.env :: X.outer) (hf : X.env.frame = some X.env.locals) (nd : X.N.Nodup) (tk : Takes X Wo)
    (hb : ∀ (W : WX) (pn : List (Addr × Obj)) (xe : Value → Shared → Prop), Takes (X.tr pn xe) W → PassesOwn (model X.prog X.w) X.A X.env xe → PSs (X.tr pn xe) body (tb W)) (cs : Clauses X (h0 :: hs) l) :
    PS X (.Try body (h0 :: hs) [] [] pos) (fun D σ H => tb (wCl X.K Wo D l) D σ H) := by
  constructor
  intro pins s σ H D I h
  have ok := I.ok
  have hfr : X.A.frames = some (X.env :: X.outer) := ok.frames.trans (congrArg some hst)
  refine wpAny_Try_except ?_
  let xe : Value → Shared → Prop := fun e s₁ => wpAny (model X.prog X.w) X.A (noteFrame e X.env) (fun _ s₂ => wpAny (model X.prog X.w) X.A (setFlight e none) (fun _ s₃ =>
    wpAny (model X.prog X.w) X.A (handleBy e X.env (h0 :: hs)) (SP X pins D) X.xe s₃) X.xe s₂) X.xe s₁
  have tkB : Takes (X.tr (X.pn ++ pins) xe) (wCl X.K Wo D l) := fun u s1 hu => by
    obtain ⟨a, G, si, _, τ, H1, cls, d, eu, J1, gr, up, sky, na, os, ag, w⟩ := hu
    subst eu
    have J : Inv X pins τ H1 si := J1.ofTry ok
    have sky : Sky G (X.env :: X.outer) a (Zc cls d) X.env.locals s1.heap := hst ▸ sky
    exact Sky.land Zc.steady hfr hf sky fun h3 fl up3 => clauses_ok ok hst hf nd tk cs J gr (up.trans up3) fl na os ag w
  refine wpAny_mono ((hb _ (X.pn ++ pins) xe tkB PassesOwn.looking).run [] s σ H D (I.toTry _) h) (fun fw s1 g => ?_) (fun _ _ z => z)
  match fw, g with
  | .next, ⟨τ, H1, J1, g⟩ => exact wpAny_execs_nil ⟨τ, H1, J1.ofTry ok, g⟩
  | .brk, ⟨τ, H1, J1, g⟩ => exact ⟨τ, H1, J1.ofTry ok, g⟩
  | .cont, ⟨τ, H1, J1, g⟩ => exact ⟨τ, H1, J1.ofTry ok, g⟩
  | .ret u, ⟨v, τ, H1, J1, r, g⟩ => exact ⟨v, τ, H1, J1.ofTry ok, r, g⟩
end
end Lv
end
section
set_option Elab.async false
set_option linter.all false
set_option autoImplicit false
set_option maxRecDepth 100000
set_option maxHeartbeats 2000000
/-! Defs that may raise, raise, try. -/
namespace Lv
open PySem PySem.Spec PyProof.Rows L2

/-! ### a def that may raise: its function -/
abbrev FnX := List Val → Sto → Out
def fnKeepX (n : Nat) (m : MS) : FnX := fun xs S => match m (env0 n xs) S with
  | some (.nx, _, S') => some (.ok (.d .none), S')
  | some (.rt x, _, S') => some (.ok x, S')
  | some (.er e, _, S') => some (.er e, S')
  | _ => none
def frzF (n : Nat) (S : Sto) : List (Str × Val) → Option (List (Str × Val))
  | [] => some []
  | q :: r => match frzV n S q.2, frzF n S r with
    | some y, some l => some ((q.1, y) :: l)
    | _, _ => none
def frzX (n : Nat) (S : Sto) (e : Xn) : Option Xn := match e.fs with
  | none => some ⟨e.cls, none⟩
  | some fs => (frzF n S fs).map fun gs => ⟨e.cls, some gs⟩
open Classical in
noncomputable def fnCutX (n : Nat) (m : MS) : FnX := fun xs S => match fnKeepX n m xs S with
  | some (.ok x, S') => if CutOk S S' then (frzV S.length S' x).map fun y => (.ok y, S'.take S.length) else none
  | some (.er e, S') => if CutOk S S' then (frzX S.length S' e).map fun y => (.er y, S'.take S.length) else none
  | none => none
abbrev FinX (K : PySem.W.Frag) (ρ : Rg) (H : Hp) (r : Rz) (S' : Sto) (Q : VK) (E : XK) : Prop := match r with
  | .ok z => Fin K ρ H z S' Q
  | .er e => ∀ c d H' ρ', RS K ρ' S' H' → Le ρ H ρ' H' → XR K ρ' H' c d e → E c d H'
/-- what a def promises that may raise -/
def spX (K : PySem.W.Frag) (g : FnX) (n : Nat) : Sp := fun vs H Q E => vs.length = n ∧ ∃ ρ S xs r S', RS K ρ S H ∧ VRs K ρ H vs xs ∧ g xs S = some (r, S') ∧ FinX K ρ H r S' Q E
theorem keepX_ok {K : PySem.W.Frag} {ρ : Rg} {H : Hp} {S S' : Sto} {N : List Str} {m : MS} {vs : List V} {xs : List Val} {r : Rz} {Q : VK} {E : XK} (R : RS K ρ S H) (rv : VRs K ρ H vs xs) (h : fnKeepX N.length m xs S = some (r, S')) (q : FinX K ρ H r S' Q E) :
    rS K (fun c d _ H' => E c d H') m { nx := fun _ H' => Q .non H', rt := Q } (L2.start N vs) H := by
  refine ⟨env0 N.length xs, S, ρ, R, start_ok rv, ?_⟩
  unfold fnKeepX at h
  split at h
  · rename_i e' S2 hm
    cases h
    exact ⟨.nx, e', _, hm, fun σ' H' ρ' R' l' _ => q _ H' ρ' R' l' .non⟩
  · rename_i x e' S2 hm
    cases h
    exact ⟨.rt _, e', _, hm, fun v H' ρ' R' l' r' => q v H' ρ' R' l' r'⟩
  · rename_i x e' S2 hm
    cases h
    exact ⟨.er _, e', _, hm, fun c d σ' H' ρ' R' l' _ x' => q c d H' ρ' R' l' x'⟩
  · cases h
theorem frzF_ok {K : PySem.W.Frag} {ρ : Rg} {H : Hp} {S : Sto} (R : RS K ρ S H) {n : Nat} : ∀ {vs : List (Str × V)} {fs gs : List (Str × Val)}, KR K ρ H vs fs → frzF n S fs = some gs → KR K (ρ.cut n) H vs gs
  | _, [], gs, h, e => by
    cases e
    cases h
    exact .nil
  | _, q :: fs, gs, h, e => by
    cases h with
    | cons h1 h2 =>
      unfold frzF at e
      split at e
      · rename_i y l e1 e2
        cases e
        exact .cons ⟨h1.1, frzV_ok R h1.2 e1⟩ (frzF_ok R h2 e2)
      · cases e
theorem frzX_ok {K : PySem.W.Frag} {ρ : Rg} {H : Hp} {S : Sto} (R : RS K ρ S H) {n : Nat} {c : Value} {d : Option Addr} {e e' : Xn} (x : XR K ρ H c d e) (h : frzX n S e = some e') : XR K (ρ.cut n) H c d e' := by
  obtain ⟨cls, fs⟩ := e
  obtain ⟨x1, x2⟩ := x
  cases fs with
  | none =>
    cases h
    exact ⟨x1, x2⟩
  | some fs =>
    obtain ⟨gs, h1, h2⟩ := Option.map_eq_some_iff.mp h
    cases h2
    obtain ⟨a, vs, y1, y2, y3⟩ := x2
    exact ⟨x1, a, vs, y1, frz_cut n _ _ y2, frzF_ok R y3 h1⟩
theorem cutX_fin {K : PySem.W.Frag} {ρ : Rg} {H : Hp} {S S' : Sto} {n : Nat} {m : MS} {xs : List Val} {r : Rz} {Q : VK} {E : XK} (R : RS K ρ S H) (h : fnCutX n m xs S = some (r, S')) (q : FinX K ρ H r S' Q E) : ∃ r2 S2, fnKeepX n m xs S = some (r2, S2) ∧ FinX K ρ H r2 S2 Q E := by
  unfold fnCutX at h
  split at h
  · rename_i x S2 hk
    split at h
    · rename_i c
      obtain ⟨y, hy, e⟩ := Option.map_eq_some_iff.mp h
      cases e
      refine ⟨.ok x, S2, hk, fun w H' ρ' R' l' r' => ?_⟩
      obtain ⟨R2, l2⟩ := RS.cut R R' l' c
      exact q w H' _ R2 l2 (frzV_ok R' r' hy)
    · cases h
  · rename_i x S2 hk
    split at h
    · rename_i c
      obtain ⟨y, hy, e⟩ := Option.map_eq_some_iff.mp h
      cases e
      refine ⟨.er x, S2, hk, fun cc dd H' ρ' R' l' r' => ?_⟩
      obtain ⟨R2, l2⟩ := RS.cut R R' l' c
      exact q cc dd H' _ R2 l2 (frzX_ok R' r' hy)
    · cases h
  · cases h
inductive IsFnX (n : Nat) (m : MS) (g : FnX) : Prop
  | keep (h : g = fnKeepX n m)
  | cut (h : g = fnCutX n m)
theorem IsFnX.fin {K : PySem.W.Frag} {ρ : Rg} {H : Hp} {S S' : Sto} {n : Nat} {m : MS} {g : FnX} {xs : List Val} {r : Rz} {Q : VK} {E : XK} (i : IsFnX n m g) (R : RS K ρ S H) (h : g xs S = some (r, S')) (q : FinX K ρ H r S' Q E) : ∃ r2 S2, fnKeepX n m xs S = some (r2, S2) ∧ FinX K ρ H r2 S2 Q E := by
  cases i with
  | keep e =>
    subst e
    exact ⟨r, S', h, q⟩
  | cut e =>
    subst e
    exact cutX_fin R h q
abbrev WD (E : XK) : WX := fun c d _ H => E c d H
section
variable {P : Program} {w : World} {K : PySem.W.Frag} {mg : Str → Option Value} {base : Heap}
theorem fnx_ok {x qual : Str} {pa : Arguments} {body : List Stmt} {sc : Scope} {f : Addr} {fd : FuncData} {N ps : List Str} {k : Nat} {m : MS} {g : FnX} (F : FunD K x qual pa body sc [] [] f fd) (Sc : FnScope N ps sc) (i : IsFnX N.length m g)
    (hb : ∀ (cdv : Value) (A : Around) (outer : List Env) (s : Shared) (H : Hp) (E : XK), Room k (A.deeper (envOfC qual sc s.heap.objs.size f cdv)) → Takes (cxOf (L2.CX P w) P w K mg base N qual sc f cdv A outer s H E) (WD E) →
      PassesOwn (model P w) (A.deeper (envOfC qual sc s.heap.objs.size f cdv)) (envOfC qual sc s.heap.objs.size f cdv) (cxOf (L2.CX P w) P w K mg base N qual sc f cdv A outer s H E).xe →
      BX (cxOf (L2.CX P w) P w K mg base N qual sc f cdv A outer s H E) (WD E) body m) :
    FnOk P w K mg base (L2.CX P w) (k + 1) f fd ps (spX K g ps.length) := by
  refine F.ok Sc (fun vs H Q E h => h.1) (fun cdv A outer s H vs Q E hr h => ?_)
  obtain ⟨hl, ρ, S, xs, r, S', R, rv, hg, q⟩ := h
  obtain ⟨r2, S2, h2, q2⟩ := i.fin R hg q
  exact ⟨_, (hb cdv A outer s H E hr (takes_of rfl rfl rfl rfl) (passes_of rfl)).ps, keepX_ok R rv h2 q2⟩
end
structure FnGX (P : Program) (w : World) (K : PySem.W.Frag) (mg : Str → Option Value) (base : Heap) (x : Str) (k : Nat) (ps : List Str) (g : FnX) : Prop where
  ex : ∃ f fd, FnOk P w K mg base (L2.CX P w) k f fd ps (spX K g ps.length) ∧ mg x = some (.ref f) ∧ PySem.W.keepIn K (.ref f) = true ∧ Binds K fd ps []
structure MtGX (P : Program) (w : World) (K : PySem.W.Frag) (mg : Str → Option Value) (base : Heap) (C : Addr) (x : Str) (k : Nat) (ps : List Str) (g : FnX) : Prop where
  ex : ∃ f fd, FnOk P w K mg base (L2.CX P w) k f fd ps (spX K g ps.length) ∧ Meth K C x f ∧ Binds K fd ps []
structure MkGX (P : Program) (w : World) (K : PySem.W.Frag) (mg : Str → Option Value) (base : Heap) (C : Addr) (x : Str) (k : Nat) (ps : List Str) (g : FnX) : Prop where
  ex : ∃ f fd, FnOk P w K mg base (L2.CX P w) k f fd ps (spX K g ps.length) ∧ Mk K C f ∧ mg x = some (.ref C) ∧ Binds K fd ps []
def mCallX (g : FnX) (ms : List M) : M := args ms fun xs => fun _ S => g xs S
def mMethX (C : Addr) (m : Str) (g : FnX) (mo : M) (ms : List M) : M := bnd mo fun x => fun e S => match insAt C S x with
  | some (_, fs) => if (fs.lookup m).isNone then (args ms fun xs => fun _ S => g (x :: xs) S) e S else none
  | none => none
def mMakeX (C : Addr) (g : FnX) (ms : List M) : M := args ms fun xs => fun _ S => match g (.ref S.length :: xs) (S ++ [.ins C []]) with
  | some (.ok (.d .none), S') => some (.ok (.ref S.length), S')
  | some (.er e, S') => some (.er e, S')
  | _ => none
section
variable {X : Cx} {W : WX} {x : Str} {k j : Nat} {ps : List Str} {g : FnX} {e o : Expr} {es : List Expr} {mo : M} {ms : List M} {p pos apos : Pos} {C : Addr}
theorem pnx {K : PySem.W.Frag} {σ : L2.St} {ρ : Rg} {H : Hp} {S : Sto} {xs : List Val} {Q : VK} (h : Pn K W σ (g xs S) ρ H Q) : ∃ r S', g xs S = some (r, S') ∧ FinX K ρ H r S' Q (L2.WE W σ) := by
  obtain ⟨r, S', eq, q⟩ := h
  refine ⟨r, S', eq, ?_⟩
  cases r with
  | ok z => exact q
  | er z => exact q
theorem spX_of {K : PySem.W.Frag} {ρ : Rg} {H : Hp} {S : Sto} {n : Nat} {vs : List V} {xs : List Val} {σ : L2.St} {Q : VK} (R : RS K ρ S H) (rv : VRs K ρ H vs xs) (hl : xs.length = n) (h : Pn K W σ (g xs S) ρ H Q) : spX K g n vs H Q (L2.WE W σ) := by
  obtain ⟨r, S', eq, q⟩ := pnx h
  exact ⟨by rw [Paired.length rv, hl], ρ, S, xs, r, S', R, rv, eq, q⟩
theorem px_callX (tk : Takes X W) (G : FnGX X.prog X.w X.K X.mg X.base x k ps g) (hr : Room j X.A) (hk : k ≤ j) (hg : Gl X x) (hn : ps.length = ms.length) (ha : AX X W (e :: es) ms) (hdb : (x == ("__debug__" : Str)) = false := by decide) (he : starEach (e :: es) X.env = (false, eval e X.env) :: starEach es X.env := by rfl)
    (hpl : (backTo pos (starEach es X.env)).any (·.1) = false := by rfl) : PX X W (.Call (.Name x p) (e :: es) [] pos) (mCallX g ms) := by
  obtain ⟨f, fd, F, hm, kp, b⟩ := G.ex
  refine PX.of (pe_callS F (hr.mono hk) hg hm kp b (fun σ => passAt tk σ) ha.pa hdb he hpl) fun σ H Q ev S ρ R E p => ?_
  refine args_len R E p fun vs H1 xs S1 ρ1 hl R1 E1 l1 rvs p1 => ?_
  exact spX_of R1 rvs (hl.trans hn.symm) p1
theorem px_methX {m : Str} {pl : Sem Bool} (tk : Takes X W) (G : MtGX X.prog X.w X.K X.mg X.base C m k ps g) (c : Cls X.K C) (hr : Room j X.A) (hk : k ≤ j) (hn : ps.length = ms.length + 1) (ho : PX X W o mo) (ha : AX X W (e :: es) ms)
    (hst : starEach (e :: es) X.env = (false, eval e X.env) :: starEach es X.env := by rfl) (hpl : (backTo pos (starEach es X.env)).any (·.1) = false := by rfl)
    (ht : eval (.Call (.Attribute o m apos) (e :: es) [] pos) X.env = (do
      let ov ← eval o X.env
      standAt apos.atName
      let (f, first) ← holding [ov] (getMethod ov m pl)
      callWith pos f first (backTo pos (starEach (e :: es) X.env)) (backToKw pos (keywordEach [] X.env))) := by rfl) : PX X W (.Call (.Attribute o m apos) (e :: es) [] pos) (mMethX C m g mo ms) := by
  obtain ⟨f, fd, F, hm, b⟩ := G.ex
  refine PX.of (pe_methT (pl := pl) ho.pe c hm F (hr.mono hk) b (fun σ => passAt tk σ) ha.pa hst hpl ht) fun σ H Q ev S ρ R E p => ?_
  refine rE_bnd R E p fun v H1 x S1 ρ1 R1 E1 l1 rv p1 => ?_
  split at p1
  · rename_i i fs hi
    split at p1
    · rename_i hf
      obtain ⟨a, dx, vs, rfl, hia, rfl, h1, h2⟩ := ins_ok R1 rv hi
      refine ⟨a, dx, vs, rfl, h1, (kr_lookup m h2).1 (by simpa using hf), ?_⟩
      refine args_len R1 E1 p1 fun ws H2 xs S2 ρ2 hl R2 E2 l2 rvs p2 => ?_
      exact spX_of R2 (.cons (VR.mono l2 rv) rvs) (by rw [List.length_cons, hl, hn]) p2
    · exact (pn_none p1).elim
  · exact (pn_none p1).elim
theorem px_methX0 {m : Str} {pl : Sem Bool} (tk : Takes X W) (G : MtGX X.prog X.w X.K X.mg X.base C m k ps g) (c : Cls X.K C) (hr : Room j X.A) (hk : k ≤ j) (hn : ps.length = 1) (ho : PX X W o mo)
    (ht : eval (.Call (.Attribute o m apos) [] [] pos) X.env = (do
      let ov ← eval o X.env
      standAt apos.atName
      let (f, first) ← holding [ov] (getMethod ov m pl)
      callWith pos f first (backTo pos (starEach [] X.env)) (backToKw pos (keywordEach [] X.env))) := by rfl) : PX X W (.Call (.Attribute o m apos) [] [] pos) (mMethX C m g mo []) := by
  obtain ⟨f, fd, F, hm, b⟩ := G.ex
  refine PX.of (pe_methT0 (pl := pl) ho.pe c hm F (hr.mono hk) b (fun σ => passAt tk σ) ht) fun σ H Q ev S ρ R E p => ?_
  refine rE_bnd R E p fun v H1 x S1 ρ1 R1 E1 l1 rv p1 => ?_
  split at p1
  · rename_i i fs hi
    split at p1
    · rename_i hf
      obtain ⟨a, dx, vs, rfl, hia, rfl, h1, h2⟩ := ins_ok R1 rv hi
      refine ⟨a, dx, vs, rfl, h1, (kr_lookup m h2).1 (by simpa using hf), ?_⟩
      exact spX_of R1 (.cons rv .nil) hn.symm p1
    · exact (pn_none p1).elim
  · exact (pn_none p1).elim
theorem px_makeX (tk : Takes X W) (G : MkGX X.prog X.w X.K X.mg X.base C x k ps g) (hr : Room j X.A) (hk : k + 1 ≤ j) (hg : Gl X x) (hn : ps.length = ms.length + 1) (ha : AX X W (e :: es) ms) (hdb : (x == ("__debug__" : Str)) = false := by decide)
    (he : starEach (e :: es) X.env = (false, eval e X.env) :: starEach es X.env := by rfl) (hpl : (backTo pos (starEach es X.env)).any (·.1) = false := by rfl) : PX X W (.Call (.Name x p) (e :: es) [] pos) (mMakeX C g ms) := by
  obtain ⟨f, fd, F, hm, hmg, b⟩ := G.ex
  refine PX.of (pe_makeT hm F (hr.mono hk) hg hmg b (fun σ => passAt tk σ) ha.pa hdb he hpl) fun σ H Q ev S ρ R E p => ?_
  refine args_len R E p fun vs H1 xs S1 ρ1 hl R1 E1 l1 rvs p1 => ?_
  intro a dx na ndx nad
  obtain ⟨R2, l2⟩ := R1.frozen (o := .own a) ndx
  have na2 : upd H1 dx (.own a) a = none := by rw [upd_ne (Ne.symm nad)]; exact na
  obtain ⟨R3, l3⟩ := R2.add (o := .ins C dx []) (u := .ins C []) na2 ⟨dx, [], upd_same, .nil⟩
  have ra : VR X.K (ρ1.add a) (upd (upd H1 dx (.own a)) a (.ins C dx [])) (.ref a) (.ref S1.length) := ⟨a, R2.addIx, rfl⟩
  have rs : VRs X.K (ρ1.add a) (upd (upd H1 dx (.own a)) a (.ins C dx [])) (.ref a :: vs) (.ref S1.length :: xs) := .cons ra (VRs.mono (l2.trans l3) rvs)
  split at p1
  · rename_i S' hgq
    refine ⟨by rw [Paired.length rs, List.length_cons, hl, hn], _, _, _, .ok (.d .none), S', R3, rs, hgq, fun v H' ρ' R' l' r' => ⟨vr_non r', ?_⟩⟩
    exact p1.ok R' ((l2.trans l3).trans l') (VR.mono l' ra)
  · rename_i er S' hgq
    refine ⟨by rw [Paired.length rs, List.length_cons, hl, hn], _, _, _, .er er, S', R3, rs, hgq, fun c d H' ρ' R' l' r' => ?_⟩
    obtain ⟨r, S2, eq, q⟩ := p1
    cases eq
    exact q c d H' ρ' R' ((l2.trans l3).trans l') r'
  · exact (pn_none p1).elim
end

/-! ### raise -/
/-- an exception class without an __init__ of its own -/
structure ExO (K : PySem.W.Frag) (mg : Str → Option Value) (x : Str) : Prop where
  g : mg x = some (.ref (He.ga K x))
  q : PySem.W.excIn K (He.ga K x) He.veBase "ValueError.__new__" = true
  k : PySem.W.keepIn K (.ref (He.ga K x)) = true
  s : PySem.W.subIn K (.ref (He.ga K x)) (.type "BaseException") = some true
  t : PySem.W.typeIn K (.ref (He.ga K x)) = some (.type "type")
def dRaise (x : Str) : MS := fun e S => some (.er ⟨x, none⟩, e, S)
theorem sx_raise {X : Cx} {W : WX} {x z : Str} {j : Nat} {p p2 pos pos2 : Pos} (hc : X.calm = true) (tk : Takes X W) (T : ExO X.K X.mg x) (hg : Gl X x) (hdb : (x == ("__debug__" : Str)) = false := by decide) :
    SX X W (.Raise (some (.Call (.Name x p) [.Constant (.str z) j p2] [] pos)) none pos2) (dRaise x) :=
  SX.of (ps_raise hc tk (pmk_own PySem.F.excBase_ValueError T.q T.g T.k (raises_own T.s T.t) hg hdb)) fun D σ H ev S ρ R E p => by
    obtain ⟨f, e2, S2, eq, q⟩ := p
    cases eq
    exact q _ none σ H ρ R (Le.refl ρ H) E ⟨rfl, rfl⟩
/-- an exception class whose __init__ tells its base's one, and stores one field -/
structure ExI (P : Program) (w : World) (K : PySem.W.Frag) (mg : Str → Option Value) (base : Heap) (x f : Str) (k : Nat) (pre : PySem.W.Frag → V → Hp → Prop) : Prop where
  g : mg x = some (.ref (He.ga K x))
  T : OexC K (He.ga K x)
  no : PySem.W.findIn K (.ref (He.ga K x)) f = some none
  fn : ∃ (fI : Addr) (fd : FuncData) (ps : List Str), PySem.W.findIn K (.ref (He.ga K x)) "__init__" = some (some (.ref fI)) ∧ PySem.W.typeIn K (.ref fI) = some (.type "function") ∧ ps.length = 2 ∧ Binds K fd ps [] ∧
    FnOk P w K mg base CX0 k fI fd ps (fun vs H Q _ => vs.length = ps.length ∧ ∃ (a C : Addr) (y : V), vs = [.ref a, y] ∧ OexC K C ∧ PySem.W.findIn K (.ref C) f = some none ∧ H a = some (exo a C none) ∧ pre K y H ∧
      ∀ dx, H dx = none → dx ≠ a → Q .non (upd (upd H dx (exd dx [(f, y)])) a (exo a C (some dx))))
def dRaiseI (x f : Str) (c : Sto → Val → Bool) (m : M) : MS := bndS m fun y => fun e S => if c S y = true then some (.er ⟨x, some [(f, y)]⟩, e, S) else none
/-- the exception's place is none that is tracked: its dict is new -/
theorem raise_heap {H : Hp} {a d : Addr} {u o1 o2 o3 : HO} (na : H a = none) (nd : H d = none) (ne : d ≠ a) : upd (del (upd (upd (upd H a o1) d o2) a o3) a) d u = upd H d u := by
  funext b
  by_cases hb : b = d
  · rw [hb, upd_same, upd_same]
  · rw [upd_ne hb, upd_ne hb]
    by_cases hba : b = a
    · rw [hba, del_same, na]
    · rw [del_ne hba, upd_ne hba, upd_ne hb, upd_ne hba]
theorem sx_raiseI {X : Cx} {W : WX} {x f : Str} {k j : Nat} {pre : PySem.W.Frag → V → Hp → Prop} {c : Sto → Val → Bool} {e : Expr} {m : M} {p pos pos2 : Pos} (hc : X.calm = true) (tk : Takes X W) (T : ExI X.prog X.w X.K X.mg X.base x f k pre)
    (hp : ∀ {ρ : Rg} {H : Hp} {S : Sto} {v : V} {y : Val}, RS X.K ρ S H → VR X.K ρ H v y → c S y = true → ∀ (a : Addr) (o : HO), H a = none → pre X.K v (upd H a o)) (hr : Room j X.A) (hk : k + 1 ≤ j) (he : PX X W e m) (hg : Gl X x)
    (hdb : (x == ("__debug__" : Str)) = false := by decide) (hs : starEach [e] X.env = (false, eval e X.env) :: starEach [] X.env := by rfl) (hpl : (backTo pos (starEach [] X.env)).any (·.1) = false := by rfl) :
    SX X W (.Raise (some (.Call (.Name x p) [e] [] pos)) none pos2) (dRaiseI x f c m) := by
  obtain ⟨fI, fd, ps, iC, tI, hl2, hb, F⟩ := T.fn
  refine SX.of (ps_raise hc tk (pmk_oex (CX := CX0) T.T iC tI F (hr.mono hk) hb .nil pass0 hg T.g (pa_cons he.pe pa_nil hs) hdb hs hpl)) fun D σ H ev S ρ R E p => ?_
  refine rE_bndS R E p fun v H1 y S1 ρ1 R1 E1 l1 rv p1 => ?_
  split at p1
  · rename_i hcy
    refine ⟨by show 1 ≤ 1000; decide, fun a na => ?_⟩
    refine ⟨hl2.symm, a, He.ga X.K x, v, rfl, T.T, T.no, upd_same, hp R1 rv hcy a _ na, fun dx nd ne => ⟨rfl, dx, [(f, v)], upd_same, ?_, ?_, ?_⟩⟩
    · rw [upd_ne ne, upd_same]
    · rw [upd_ne ne] at nd
      exact nd
    · rw [upd_ne ne] at nd
      rw [raise_heap na nd ne]
      obtain ⟨fl, e2, S2, eq, q⟩ := p1
      cases eq
      obtain ⟨R2, l2⟩ := R1.frozen (o := .xd [(f, v)]) nd
      refine q _ (some dx) σ _ ρ1 R2 l2 (E1.mono l2) ⟨rfl, dx, [(f, v)], rfl, ?_, .cons ⟨rfl, VR.mono l2 rv⟩ .nil⟩
      rw [frz_at (R1.fresh nd)]
      exact upd_same
  · exact (pns_none p1).elim
end Lv
namespace Lv
open PySem PySem.Spec PyProof.Rows L2
/-! ### try -/
/-- a clause: which classes it catches, which it lets by, its name's slot, its suite -/
structure Cla where
  hit : List Str
  miss : List Str
  slot : Nat
  ms : MS
def dClauses : List Cla → Xn → MS
  | [], x => fun e S => some (.er x, e, S)
  | c :: r, x => fun e S => if x.cls ∈ c.hit then (match c.ms (e.set c.slot none) S with
      | some (.er _, _, _) => none
      | some (f, e', S') => some (f, e'.set c.slot none, S')
      | none => none) else if x.cls ∈ c.miss then dClauses r x e S else none
def dTry (m : MS) (cs : List Cla) : MS := fun e S => match m e S with
  | some (.er x, e1, S1) => dClauses cs x e1 S1
  | o => o
structure HX (X : Cx) (hs : List ExceptHandler) (cs : List Cla) : Prop where
  ex : ∃ l : List (Value × Nat × Suite), Clauses X hs l ∧ ∀ (Wo : WX) (D : Ends) (x : Xn) (c : Value) (d : Option Addr) (σ : L2.St) (H : Hp) (e : Ev) (S : Sto) (ρ : Rg), RS X.K ρ S H → ER X.K ρ H σ e → XR X.K ρ H c d x → PnS X.K Wo D (dClauses cs x e S) ρ H → wCl X.K Wo D l c d σ H
theorem ER.hide {K : PySem.W.Frag} {ρ : Rg} {H : Hp} {σ : L2.St} {e : Ev} (h : ER K ρ H σ e) (i : Nat) (v : Option V) : ER K ρ H (σ.set i v) (e.set i Option.none) := by
  refine ⟨by rw [List.length_set, List.length_set]; exact h.1, fun j x q => ?_⟩
  by_cases hj : i = j
  · subst hj
    rw [List.getElem?_set] at q
    split at q
    · split at q <;> cases q
    · rename_i z
      exact absurd rfl z
  · rw [List.getElem?_set_ne hj] at q ⊢
    exact h.2 j x q
section
variable {X : Cx} {hs : List ExceptHandler} {cs : List Cla}
theorem hx_nil : HX X [] [] := ⟨[], .nil, fun Wo D x c d σ H e S ρ R E y p => by
  obtain ⟨f, e2, S2, eq, q⟩ := p
  cases eq
  exact q c d σ H ρ R (Le.refl ρ H) E y⟩
theorem hx_cons {x n : Str} {i : Nat} {st : Stmt} {sts : List Stmt} {np cp : Pos} {hit miss : List Str} {ms : MS} (hg : Gl X x) (gx : X.mg x = some (.ref (He.ga X.K x))) (h1 : ∀ y ∈ hit, PySem.W.exmOne X.K (.ref (He.ga X.K y)) (.ref (He.ga X.K x)) = some true)
    (h2 : ∀ y ∈ miss, PySem.W.exmOne X.K (.ref (He.ga X.K y)) (.ref (He.ga X.K x)) = some false)
    (suite : ∀ (a : Addr) (oe : Obj) (cls : Value) (d : Option Addr) (pn : List (Addr × Obj)), BX (X.suite a ((a, oe) :: pn)) WF (st :: sts) ms) (rest : HX X hs cs)
    (hi : X.N[i]? = some n := by rfl) (hn : X.env.kindOf n = some .local := by rfl) (hdb : (x == ("__debug__" : Str)) = false := by decide) : HX X (.ExceptHandler (some (.Name x np)) (some n) (st :: sts) cp :: hs) (⟨hit, miss, i, ms⟩ :: cs) := by
  obtain ⟨l, cl, hl⟩ := rest.ex
  refine ⟨_, .cons (c := .ref (He.ga X.K x)) (ts := fun _ _ _ => rS X.K WF ms) ⟨hg, hdb, .inl gx⟩ hi hn (fun a oe cls d pn _ _ => (suite a oe cls d pn).ps) cl, fun Wo D y c d σ H e S ρ R E yr p => ?_⟩
  have ec : c = .ref (He.ga X.K y.cls) := yr.1
  unfold dClauses at p
  split at p
  · rename_i hm
    refine ⟨true, by rw [ec]; exact h1 _ hm, fun _ a _ => ⟨e.set i none, S, ρ, R, E.hide i _, ?_⟩, fun z => Bool.noConfusion z⟩
    cases hq : ms (e.set i none) S with
    | none =>
      simp only [hq] at p
      exact (pns_none p).elim
    | some q =>
      obtain ⟨f, e', S'⟩ := q
      simp only [hq] at p
      cases f with
      | er z => exact (pns_none p).elim
      | nx =>
        obtain ⟨f2, e2, S2, eq, q⟩ := p
        cases eq
        exact ⟨.nx, e', S', rfl, fun τ H' ρ' R' l' E' => q _ H' ρ' R' l' (E'.hide i _)⟩
      | bk =>
        obtain ⟨f2, e2, S2, eq, q⟩ := p
        cases eq
        exact ⟨.bk, e', S', rfl, fun τ H' ρ' R' l' E' => q _ H' ρ' R' l' (E'.hide i _)⟩
      | ct =>
        obtain ⟨f2, e2, S2, eq, q⟩ := p
        cases eq
        exact ⟨.ct, e', S', rfl, fun τ H' ρ' R' l' E' => q _ H' ρ' R' l' (E'.hide i _)⟩
      | rt z =>
        obtain ⟨f2, e2, S2, eq, q⟩ := p
        cases eq
        exact ⟨.rt z, e', S', rfl, fun v H' ρ' R' l' r' => q v H' ρ' R' l' r'⟩
  · split at p
    · rename_i hm
      exact ⟨false, by rw [ec]; exact h2 _ hm, fun z => Bool.noConfusion z, fun _ => hl Wo D y c d σ H e S ρ R E yr p⟩
    · exact (pns_none p).elim
theorem sx_try {Wo : WX} {h0 : ExceptHandler} {body : List Stmt} {mb : MS} {pos : Pos} (nd : X.N.Nodup) (tk : Takes X Wo) (hb : ∀ (W : WX) (pn : List (Addr × Obj)) (xe : Value → Shared → Prop), Takes (X.tr pn xe) W → PassesOwn (model X.prog X.w) X.A X.env xe → BX (X.tr pn xe) W body mb)
    (h : HX X (h0 :: hs) cs) (hst : X.stack = X.env :: X.outer := by rfl) (hf : X.env.frame = some X.env.locals := by rfl) : SX X Wo (.Try body (h0 :: hs) [] [] pos) (dTry mb cs) := by
  obtain ⟨l, cl, hl⟩ := h.ex
  refine SX.of (ps_trys (tb := fun W => rS X.K W mb) hst hf nd tk (fun W pn xe t p => (hb W pn xe t p).ps) cl) fun D σ H e S ρ R E p => ⟨e, S, ρ, R, E, ?_⟩
  unfold dTry at p
  split at p
  · rename_i x e1 S1 hm
    exact ⟨.er x, e1, S1, hm, fun c d τ H' ρ' R' l' E' y => hl Wo D x c d τ H' e1 S1 ρ' R' E' y (p.le l')⟩
  · rename_i hne
    obtain ⟨f, e1, S1, eq, q⟩ := p
    refine ⟨f, e1, S1, eq, ?_⟩
    cases f with
    | er x => exact (hne _ _ _ eq).elim
    | nx => exact q
    | bk => exact q
    | ct => exact q
    | rt z => exact q
end
end Lv
end
section
set_option Elab.async false
set_option linter.all false
set_option autoImplicit false
set_option maxRecDepth 100000
set_option maxHeartbeats 2000000
/-! Dicts whose keys are None, numbers, texts. -/
namespace Lv
open PySem PySem.Spec PyProof.Rows L2
def lV : Leaf → V
  | .none => .non
  | .num i => .int i
  | .text x => .str x
theorem lV_is {P : Program} {w : World} : ∀ {k : Leaf} {u : Value}, RelV (lV k) u → (leafKind P w).is k u = true
  | .none, u, r => by
    have e : u = Value.none := r
    subst e
    rfl
  | .num i, u, r => by
    obtain ⟨t, e⟩ := (show ∃ t, u = Value.int i t from r)
    subst e
    exact decide_eq_true rfl
  | .text x, u, r => by
    obtain ⟨t, e⟩ := (show ∃ t, u = Value.str x t from r)
    subst e
    show Value.isStrOf x (.str x t) = true
    simp [Value.isStrOf]
def leafOf : Val → Option Leaf
  | .d .none => some .none
  | .d (.int i) => some (.num i)
  | .d (.str x) => some (.text x)
  | _ => none
theorem leaf_ok {K : PySem.W.Frag} {ρ : Rg} {H : Hp} {v : V} {x : Val} {k : Leaf} (r : VR K ρ H v x) (h : leafOf x = some k) : v = lV k := by
  unfold leafOf at h
  split at h
  · cases h
    exact vr_non r
  · cases h
    exact vr_int r
  · cases h
    exact vr_str r
  · cases h
abbrev NData (z : PgW) (h : Heap) (a : Addr) (vs : List (Leaf × V)) : Prop := vs.length ≤ sizeLine ∧ (a == sysModules) = false ∧ ∃ us, KV vs us ∧ h.DictOf (leafKind z.1 z.2) a us
theorem dN_at {P : Program} {w : World} {H : Hp} {h : Heap} {z : PgW} {a : Addr} {vs : List (Leaf × V)} (ok : HOk P w H h) (e : H a = some (dNo z a vs)) : NData z h a vs := by
  have x : ObjOk P w H h a (.ext fun h => NData z h a vs) := ok a _ e
  exact x.1
theorem dN_ok {P : Program} {w : World} {H : Hp} {h : Heap} {z : PgW} {a : Addr} {vs : List (Leaf × V)} (x : NData z h a vs) : ObjOk P w H h a (dNo z a vs) := by
  obtain ⟨x1, x2, us, x3, o, es, ep, x4, x5⟩ := x
  exact ⟨⟨x1, x2, us, x3, o, es, ep, x4, x5⟩, ⟨o, x4⟩, fun h1 h2 y k => by
    obtain ⟨y1, y2, vs2, y3, o2, es2, ep2, y4, y5⟩ := y
    exact ⟨y1, y2, vs2, y3, o2, es2, ep2, k _ y4, y5⟩⟩
section
variable {X : Cx} {pins : List (Addr × Obj)} {σ : L2.St} {H : Hp} {s : Shared} {a : Addr} {kvs : List (Leaf × V)} {k : Leaf} {u r : Value} {v : V} {A : Around} {E : Value → Shared → Prop}
abbrev zX (X : Cx) : PgW := (X.prog, X.w)
theorem dN_get {Q : Value → Shared → Prop} (I : Inv X pins σ H s) (e : H a = some (dNo (zX X) a kvs)) (ry : RelV (lV k) u) (l : valV kvs k = some v) (h : ∀ w' s', Inv X pins σ H s' → RelV v w' → Q w' s') :
    wpAny (model X.prog X.w) A (getItem (.ref a) u) Q E s := by
  obtain ⟨_, _, us, rel, dd⟩ := dN_at I.hok e
  obtain ⟨w', hw, rw'⟩ := RelO.some_of (v := v) (o := valueAt us k) (by rw [← l]; exact rel.val k)
  exact wpAny_getItem_of (lV_is ry) dd.mapOf hw (h w' _ (I.tok _) rw')
theorem dN_in {Q : Value → Shared → Prop} (I : Inv X pins σ H s) (e : H a = some (dNo (zX X) a kvs)) (ry : RelV (lV k) u) (h : ∀ s', Inv X pins σ H s' → Q (.bool (valV kvs k).isSome) s') :
    wpAny (model X.prog X.w) A (compareOp .In u (.ref a)) Q E s := by
  obtain ⟨_, hd, us, rel, dd⟩ := dN_at I.hok e
  refine wpAny_in_of (lV_is ry) hd dd.mapOf ?_
  rw [← (rel.val k).isSome_eq]
  exact h _ (I.tok _)
theorem dN_notIn {Q : Value → Shared → Prop} (I : Inv X pins σ H s) (e : H a = some (dNo (zX X) a kvs)) (ry : RelV (lV k) u) (h : ∀ s', Inv X pins σ H s' → Q (.bool (!(valV kvs k).isSome)) s') :
    wpAny (model X.prog X.w) A (compareOp .NotIn u (.ref a)) Q E s := by
  obtain ⟨_, hd, us, rel, dd⟩ := dN_at I.hok e
  refine wpAny_notIn_of (lV_is ry) hd dd.mapOf ?_
  rw [← (rel.val k).isSome_eq]
  exact h _ (I.tok _)
theorem dN_mut {z : PgW} (e : H a = some (dNo z a kvs)) : Mut (H a) := by
  rw [e]
  exact True.intro
theorem dN_put {Q : Unit → Shared → Prop} (I : Inv X pins σ H s) (e : H a = some (dNo (zX X) a kvs)) (hl : kvs.length < sizeLine) (ry : RelV (lV k) u) (rv : RelV v r) (h : ∀ s', Inv X pins σ (upd H a (dNo (zX X) a (putK kvs k v))) s' → Q () s') :
    wpAny (model X.prog X.w) A (setItem (.ref a) u r) Q E s := by
  obtain ⟨hz, hd, us, rel, dd⟩ := dN_at I.hok e
  have hl2 : (putK kvs k v).length ≤ sizeLine := by
    have := length_putK kvs k v
    omega
  refine wpAny_setItem_pairs (hsz := by rw [← rel.length]; exact hz) (lV_is ry) dd fun h' dd' hs => h _ ?_
  obtain ⟨q, es, ep, hq, hr⟩ := dd'
  exact d_write I (dN_mut e) hs ⟨q, hq⟩ (dN_ok ⟨hl2, hd, _, rel.put k rv, q, es, ep, hq, hr⟩)
theorem dN_empty {P : Program} {w : World} {H : Hp} {z : PgW} (h : Heap) (hb : sysModules < h.objs.size) : ObjOk P w H (h.push { cls := .type "dict", data := .dict #[] }) h.objs.size (dNo z h.objs.size []) := by
  have x : ObjOk z.1 z.2 (fun _ => none) (h.push { cls := .type "dict", data := .dict #[] }) h.objs.size (.dK []) := dk_empty h hb
  obtain ⟨x1, x2, vs, x3, o, es, ep, x4, x5, x6, x7, x8⟩ := x
  cases x3
  refine dN_ok ⟨Nat.zero_le _, x2, [], .nil, ?_⟩
  have hp : (h.push { cls := .type "dict", data := .dict #[] }).get? h.objs.size = some { cls := .type "dict", data := .dict #[] } := Heap.get?_push_size h rfl
  rw [x4] at hp
  cases hp
  cases x6
  exact ⟨_, _, _, x4, x5, rfl, fun e he => absurd he (by simp), .nil, List.nodup_nil⟩
end
/-! ### readings -/
abbrev NRd (z : PgW) (H : Hp) (y x : V) (o : Option V) : Prop := ∃ (a : Addr) (kvs : List (Leaf × V)) (k : Leaf), y = .ref a ∧ H a = some (dNo z a kvs) ∧ x = lV k ∧ valV kvs k = o
def rInN (z : PgW) : R2 := fun x y H Q => ∃ o, NRd z H y x o ∧ Q (.bl o.isSome) H
def rNotInN (z : PgW) : R2 := fun x y H Q => ∃ o, NRd z H y x o ∧ Q (.bl (!o.isSome)) H
def rIxN (z : PgW) : R2 := fun y x H Q => ∃ v, NRd z H y x (some v) ∧ Q v H
theorem op_inN {X : Cx} : OpR X (compareOp .In) (rInN (zX X)) := by
  intro pins s σ H x y v u Q I rx ry h
  obtain ⟨o, ⟨a, kvs, k, rfl, e, rfl, rfl⟩, q⟩ := h
  cases ry
  exact dN_in I e rx fun s' I' => ⟨.bl _, H, I', rfl, q⟩
theorem op_notInN {X : Cx} : OpR X (compareOp .NotIn) (rNotInN (zX X)) := by
  intro pins s σ H x y v u Q I rx ry h
  obtain ⟨o, ⟨a, kvs, k, rfl, e, rfl, rfl⟩, q⟩ := h
  cases ry
  exact dN_notIn I e rx fun s' I' => ⟨.bl _, H, I', rfl, q⟩
theorem ix_N {X : Cx} : IxR X (rIxN (zX X)) := by
  intro value slice pins s σ H x y v u Q I rx ry h hs
  obtain ⟨w, ⟨a, kvs, k, rfl, e, rfl, hv⟩, q⟩ := h
  cases rx
  obtain ⟨_, _, us, _, dd⟩ := dN_at I.hok e
  exact tail_any dd.typeIs PySem.F.slot_dict_getitem.lookup (dN_get I e ry hv fun w' s3 I3 rw' => ⟨w, H, I3, rw', q⟩) hs
/-! their functions -/
open Classical in
noncomputable def dicNAt (z : PgW) (S : Sto) : Val → Option (Nat × List (Leaf × Val))
  | .ref i => match S[i]? with
    | some (.dicN z' kvs) => if z' = z then some (i, kvs) else none
    | _ => none
  | _ => none
theorem dicN_ok {K : PySem.W.Frag} {ρ : Rg} {H : Hp} {S : Sto} {z : PgW} (R : RS K ρ S H) {v : V} {x : Val} {i : Nat} {kvs : List (Leaf × Val)} (r : VR K ρ H v x) (h : dicNAt z S x = some (i, kvs)) :
    ∃ a vs, x = .ref i ∧ v = .ref a ∧ ρ.ids[i]? = some a ∧ H a = some (dNo z a vs) ∧ KR K ρ H vs kvs := by
  cases x with
  | d p => cases h
  | ref j =>
    obtain ⟨a, hi, rfl⟩ := r
    simp only [dicNAt] at h
    split at h
    · rename_i z' xs hS
      split at h
      · rename_i hz
        cases h
        subst hz
        obtain ⟨vs, hv, q⟩ := R.ob _ a _ hi hS
        exact ⟨a, vs, rfl, rfl, hi, hv, q⟩
      · cases h
    · cases h
noncomputable def fInN (z : PgW) : F2 := fun x y S => (dicNAt z S y).bind fun p => (leafOf x).map fun k => (.d (.bool (valK p.2 k).isSome), S)
noncomputable def fNotInN (z : PgW) : F2 := fun x y S => (dicNAt z S y).bind fun p => (leafOf x).map fun k => (.d (.bool (!(valK p.2 k).isSome)), S)
noncomputable def fIxN (z : PgW) : F2 := fun y x S => (dicNAt z S y).bind fun p => (leafOf x).bind fun k => (valK p.2 k).map fun v => (v, S)
theorem o_inN {K : PySem.W.Frag} {z : PgW} : Op2 K (rInN z) (fInN z) := by
  intro ρ S H v u x y w S' Q R rv ru eq q
  obtain ⟨⟨i, kvs⟩, h1, h2⟩ := Option.bind_eq_some_iff.mp eq
  obtain ⟨k, h3, h4⟩ := Option.map_eq_some_iff.mp h2
  cases h4
  obtain ⟨a, vs, rfl, rfl, hi, hv, kr⟩ := dicN_ok R ru h1
  refine ⟨_, ⟨a, vs, k, rfl, hv, leaf_ok rv h3, rfl⟩, ?_⟩
  rw [kr_some k kr]
  exact q _ _ ρ R (Le.refl ρ H) (.bl _)
theorem o_notInN {K : PySem.W.Frag} {z : PgW} : Op2 K (rNotInN z) (fNotInN z) := by
  intro ρ S H v u x y w S' Q R rv ru eq q
  obtain ⟨⟨i, kvs⟩, h1, h2⟩ := Option.bind_eq_some_iff.mp eq
  obtain ⟨k, h3, h4⟩ := Option.map_eq_some_iff.mp h2
  cases h4
  obtain ⟨a, vs, rfl, rfl, hi, hv, kr⟩ := dicN_ok R ru h1
  refine ⟨_, ⟨a, vs, k, rfl, hv, leaf_ok rv h3, rfl⟩, ?_⟩
  rw [kr_some k kr]
  exact q _ _ ρ R (Le.refl ρ H) (.bl _)
theorem o_ixN {K : PySem.W.Frag} {z : PgW} : Op2 K (rIxN z) (fIxN z) := by
  intro ρ S H v u x y w S' Q R rv ru eq q
  obtain ⟨⟨i, kvs⟩, h1, h2⟩ := Option.bind_eq_some_iff.mp eq
  obtain ⟨k, h3, h4⟩ := Option.bind_eq_some_iff.mp h2
  obtain ⟨p, h5, h6⟩ := Option.map_eq_some_iff.mp h4
  cases h6
  obtain ⟨a, vs, rfl, rfl, hi, hv, kr⟩ := dicN_ok R rv h1
  obtain ⟨b, h7, h8⟩ := (kr_find k kr).1 _ h5
  exact ⟨b, ⟨a, vs, k, rfl, hv, leaf_ok ru h3, h7⟩, q _ _ ρ R (Le.refl ρ H) h8⟩
/-! ### d[k] = v -/
noncomputable def fSetN (z : PgW) : FSet := fun o i v S => (dicNAt z S o).bind fun p => (leafOf i).bind fun k => if p.2.length < sizeLine then some (S.set p.1 (.dicN z (putV p.2 k v))) else none
def rSetN (z : PgW) : TSet := fun o i v H Q => ∃ (a : Addr) (kvs : List (Leaf × V)) (k : Leaf), o = .ref a ∧ H a = some (dNo z a kvs) ∧ i = lV k ∧ kvs.length < sizeLine ∧ Q (upd H a (dNo z a (putK kvs k v)))
theorem set_N {X : Cx} : PSet X (rSetN (zX X)) := by
  intro pins s σ H o i v ov iv u Q I ro ri rv h
  obtain ⟨a, kvs, k, rfl, e, rfl, hl, q⟩ := h
  cases ro
  exact dN_put I e hl ri rv fun s' I' => ⟨_, I', q⟩
theorem noz_N {H : Hp} {a : Addr} {z : PgW} {vs : List (Leaf × V)} (h : H a = some (dNo z a vs)) : ∀ o u, H a ≠ some (.frz o u) := fun o u q => by
  have e : dNo z a vs = .frz o u := Option.some.inj (h.symm.trans q)
  unfold dNo at e
  cases e
theorem setN_ok {K : PySem.W.Frag} {ρ : Rg} {H : Hp} {S S' : Sto} {z : PgW} {o i v : V} {xo xi xv : Val} {Q : Hp → Prop} (R : RS K ρ S H) (ro : VR K ρ H o xo) (ri : VR K ρ H i xi) (rv : VR K ρ H v xv) (h : fSetN z xo xi xv S = some S')
    (q : ∀ H', RS K ρ S' H' → Le ρ H ρ H' → Q H') : rSetN z o i v H Q := by
  obtain ⟨⟨j, kvs⟩, h1, h2⟩ := Option.bind_eq_some_iff.mp h
  obtain ⟨k, h3, h4⟩ := Option.bind_eq_some_iff.mp h2
  split at h4
  · rename_i hz
    cases h4
    obtain ⟨a, vs, rfl, rfl, hi, hv, kr⟩ := dicN_ok R ro h1
    have l := Le.put (o := dNo z a (putK vs k v)) R hi (noz_N hv)
    obtain ⟨R', l'⟩ := R.put (o := dNo z a (putK vs k v)) (u := .dicN z (putV kvs k xv)) hi (noz_N hv) ⟨_, upd_same, kr_put k (KR.mono l kr) (VR.mono l rv)⟩
    exact ⟨a, vs, k, rfl, hv, leaf_ok ri h3, by rw [kr_len kr]; exact hz, q _ R' l'⟩
  · cases h4
noncomputable def dSetIxN (z : PgW) (mo mi mv : M) : MS := bndS mv fun v => bndS mo fun o => bndS mi fun i => fun e S => match fSetN z o i v S with
  | some S' => some (.nx, e, S')
  | none => none
section
variable {X : Cx} {W : WX} {a b e o i : Expr} {ma mb mo mi mv : M} {pos tpos : Pos}
theorem px_ixN (ha : PX X W a ma) (hb : PX X W b mb) (hs : PlainIx b := by exact fun _ _ => rfl) : PX X W (.Subscript a b pos) (mOp (fIxN (zX X)) ma mb) :=
  PX.of (pe_ix ix_N ha.pe hb.pe hs) fun σ H Q ev S ρ R E p => rE_op2 o_ixN R E p
theorem sx_setIxN (he : PX X W e mv) (ho : PX X W o mo) (hi : PX X W i mi)
    (ha : ∀ v, assign (.Subscript o i tpos) X.env v = (do
      let ov ← holding [v] (eval o X.env)
      let iv ← holding [v, ov] (eval i X.env)
      standAt tpos
      holding [v, ov, iv] (setItem ov iv v)
      release [v, ov, iv] []) := by intro _; rfl)
    (hs : swapsWithSole [.Subscript o i tpos] e pos.line X.env = pure false := by rfl) (hw : swappedStores [.Subscript o i tpos] e X.env = pure none := by rfl)
    (h1 : (assignEach [.Subscript o i tpos] X.env).map (·.2) = [assign (.Subscript o i tpos) X.env] := by rfl) : SX X W (.Assign [.Subscript o i tpos] e pos) (dSetIxN (zX X) mo mi mv) :=
  SX.of (ps_asg he.pe (pg_sub ho.pe hi.pe set_N ha) hs hw h1) fun D σ H ev S ρ R E p => by
    refine rE_bndS R E p fun v H1 x S1 ρ1 R1 E1 l1 rv p1 => ?_
    refine rE_bndS R1 E1 p1 fun ov H2 xo S2 ρ2 R2 E2 l2 ro p2 => ?_
    refine rE_bndS R2 E2 p2 fun iv H3 xi S3 ρ3 R3 E3 l3 ri p3 => ?_
    split at p3
    · rename_i S' h
      exact setN_ok R3 (VR.mono l3 ro) ri (VR.mono (l2.trans l3) rv) h fun H' R' l' => p3.nx R' l' (E3.mono l')
    · exact (pns_none p3).elim
/-! ### {}, {k: v} -/
def mDicN (z : PgW) : M := fun _ S => some (.ok (.ref S.length), S ++ [.dicN z []])
theorem px_dicN : PX X W (.Dict [] [] pos) (mDicN (zX X)) := by
  have pe : PE X (.Dict [] [] pos) (fun _ H Q => ∀ p, H p = none → Q (.ref p) (upd H p (dNo (zX X) p []))) := ⟨fun pins s σ H Q I h =>
    wpAny_Dict_empty ⟨.ref s.heap.objs.size, _, I.laid (a := s.heap.objs.size) (o := dNo (zX X) s.heap.objs.size []) (t' := s.toks) (fun _ _ q => Heap.get?_push_of_some _ q) (Nat.le_refl _) (dN_empty s.heap I.big), rfl, h _ (I.hok.fresh (Nat.le_refl _))⟩⟩
  refine PX.of pe fun σ H Q ev S ρ R E p => fun a ha => ?_
  obtain ⟨R2, l2⟩ := R.add (o := dNo (zX X) a []) (u := .dicN (zX X) []) ha ⟨[], upd_same, .nil⟩
  exact p.ok R2 l2 ⟨a, R.addIx, rfl⟩
noncomputable def mDispN (z : PgW) (mk mv : M) : M := fun e S => bnd mk (fun x => bnd mv fun y => fun _ S2 => (dicNAt z S2 (.ref S.length)).bind fun p => if p.2 = [] then (leafOf x).map fun k => (.ok (.ref S.length), S2.set S.length (.dicN z [(k, y)])) else none) e (S ++ [.dicN z []])
end
/-- {k: v}: the new dict stands empty while the pair is made -/
def tDispN (z : PgW) (tk tv : TE) : TE := fun σ H Q => ∀ p, H p = none → tk σ (upd H p (dNo z p [])) fun x H1 => tv σ H1 fun y H2 => H2 p = some (dNo z p []) ∧ ∃ k, x = lV k ∧ Q (.ref p) (upd H2 p (dNo z p [(k, y)]))
theorem pe_dispN {X : Cx} {pos : Pos} {k v : Expr} {tk tv : TE} (hk : PE X k tk) (hv : PE X v tv) : PE X (.Dict [some k] [v] pos) (tDispN (zX X) tk tv) := by
  constructor
  intro pins s σ H Q I h
  have n0 := I.hok.fresh (Nat.le_refl s.heap.objs.size)
  have I1 := I.laid (a := s.heap.objs.size) (o := dNo (zX X) s.heap.objs.size []) (h' := s.heap.push { cls := .type "dict", data := .dict #[] }) (t' := s.toks) (fun _ _ q => Heap.get?_push_of_some _ q) (Nat.le_refl _) (dN_empty s.heap I.big)
  have pp : PPs X pos [some k] [v] [(tk, tv)] := pps_cons hk hv pps_nil
  refine wpAny_Dict_walk (knd := leafKind X.prog X.w) rfl rfl (fun z => nomatch z) (show 1 ≤ 15 by decide) (thn (pp.run pins _ σ _ (fun ps H2 => match ps with | [(x, y)] => H2 s.heap.objs.size = some (dNo (zX X) s.heap.objs.size []) ∧ (∃ k, x = lV k ∧ Q (.ref s.heap.objs.size) (upd H2 s.heap.objs.size (dNo (zX X) s.heap.objs.size [(k, y)]))) | _ => False) I1 ?_) fun ws s2 hw => ?_)
  · exact h _ n0
  · obtain ⟨ps, H2, I2, rel, hw⟩ := hw
    obtain ⟨x, y, rfl, e, lf, rfl, q⟩ : ∃ x y, ps = [(x, y)] ∧ H2 s.heap.objs.size = some (dNo (zX X) s.heap.objs.size []) ∧ ∃ k, x = lV k ∧ Q (.ref s.heap.objs.size) (upd H2 s.heap.objs.size (dNo (zX X) s.heap.objs.size [(k, y)])) := by
      match ps, hw with
      | [(x, y)], hw => exact ⟨x, y, rfl, hw⟩
    cases rel with
    | @cons _ b _ _ hb rel =>
      cases rel
      obtain ⟨b1, b2⟩ := b
      obtain ⟨_, hd, us, r0, dd⟩ := dN_at I2.hok e
      cases r0
      refine ⟨[(lf, b2)], ⟨lV_is hb.1, rfl, True.intro⟩, dd, fun h' dd' hs => ⟨.ref s.heap.objs.size, _, ?_, rfl, q⟩⟩
      obtain ⟨ob, es, ep, hq, hr⟩ := dd'
      exact d_write I2 (dN_mut e) hs ⟨ob, hq⟩ (dN_ok ⟨by show 1 ≤ sizeLine; exact Nat.le_of_ble_eq_true rfl, hd, _, .cons ⟨rfl, hb.2⟩ .nil, ob, es, ep, hq, hr⟩)
section
variable {X : Cx} {W : WX} {k v : Expr} {mk mv : M} {pos : Pos}
theorem px_dispN (hk : PX X W k mk) (hv : PX X W v mv) : PX X W (.Dict [some k] [v] pos) (mDispN (zX X) mk mv) := by
  refine PX.of (pe_dispN hk.pe hv.pe) fun σ H Q ev S ρ R E p => fun a ha => ?_
  obtain ⟨R2, l2⟩ := R.add (o := dNo (zX X) a []) (u := .dicN (zX X) []) ha ⟨[], upd_same, .nil⟩
  unfold mDispN at p
  refine rE_bnd R2 (E.mono l2) (Pn.le l2 p) fun x H1 y S1 ρ1 R1 E1 l1 rx p1 => ?_
  refine rE_bnd R1 E1 p1 fun u H3 y3 S3 ρ3 R3 E3 l3 ru p3 => ?_
  have hi : ρ3.ids[S.length]? = some a := pre_get (l1.trans l3).pre R.addIx
  cases hd : dicNAt (zX X) S3 (.ref S.length) with
  | none =>
    rw [hd] at p3
    exact (pn_none p3).elim
  | some q =>
    obtain ⟨i, kvs⟩ := q
    rw [hd] at p3
    simp only [Option.bind_some] at p3
    split at p3
    · rename_i hk0
      subst hk0
      obtain ⟨a2, vs, e1, e2, hi2, hv2, kr⟩ := dicN_ok (v := .ref a) (x := .ref S.length) R3 ⟨a, hi, rfl⟩ hd
      cases e1
      cases e2
      cases kr
      cases hl : leafOf y with
      | none =>
        rw [hl] at p3
        exact (pn_none p3).elim
      | some lf =>
        rw [hl] at p3
        refine ⟨hv2, lf, leaf_ok rx hl, ?_⟩
        have l := Le.put (o := dNo (zX X) a [(lf, u)]) R3 hi (noz_N hv2)
        obtain ⟨R4, l4⟩ := R3.put (o := dNo (zX X) a [(lf, u)]) (u := .dicN (zX X) [(lf, y3)]) hi (noz_N hv2) ⟨_, upd_same, .cons ⟨rfl, VR.mono l ru⟩ .nil⟩
        exact p3.ok R4 l4 ⟨a, hi, rfl⟩
    · exact (pn_none p3).elim
end
end Lv
end
section
set_option Elab.async false
set_option linter.all false
set_option autoImplicit false
set_option maxRecDepth 100000
set_option maxHeartbeats 2000000
/-! Dicts: pop, get, copies, == and !=, sorted keys. -/
namespace Lv
open PySem PySem.Spec PyProof.Rows L2

/-! ### d.pop(k) -/
def dicM (S : Sto) : Val → Option (Nat × List (Key × Val))
  | .ref i => match S[i]? with
    | some (.dic kvs) => some (i, kvs)
    | _ => none
  | _ => none
theorem dicM_ok {K : PySem.W.Frag} {ρ : Rg} {H : Hp} {S : Sto} (R : RS K ρ S H) {v : V} {x : Val} {i : Nat} {kvs : List (Key × Val)} (r : VR K ρ H v x) (h : dicM S x = some (i, kvs)) : ∃ a vs, x = .ref i ∧ v = .ref a ∧ ρ.ids[i]? = some a ∧ H a = some (.dK vs) ∧ KR K ρ H vs kvs := by
  cases x with
  | d p => cases h
  | ref j =>
    obtain ⟨a, hi, rfl⟩ := r
    simp only [dicM] at h
    split at h
    · rename_i ys hS
      cases h
      obtain ⟨vs, h1, h2⟩ := R.ob _ a _ hi hS
      exact ⟨a, vs, rfl, rfl, hi, h1, h2⟩
    · cases h
def dropV {κ : Type} [DecidableEq κ] (kvs : List (κ × Val)) (k : κ) : List (κ × Val) := kvs.filter fun kv => decide (kv.1 ≠ k)
theorem kr_drop {κ : Type} [DecidableEq κ] {K : PySem.W.Frag} {ρ : Rg} {H : Hp} {vs : List (κ × V)} {kvs : List (κ × Val)} (k : κ) (h : KR K ρ H vs kvs) : KR K ρ H (dropK vs k) (dropV kvs k) := by
  unfold KR at h ⊢
  unfold dropK dropV
  induction h with
  | nil => exact .nil
  | @cons p q ps qs a t ih =>
    rw [List.filter_cons, List.filter_cons, a.1]
    by_cases e : q.1 = k
    · rw [if_neg (by simp [e]), if_neg (by simp [e])]
      exact ih
    · rw [if_pos (by simp [e]), if_pos (by simp [e])]
      exact .cons a ih
def mDPop (mo mk : M) : M := bnd mo fun x => fun e S => match dicM S x with
  | some (i, _) => bnd mk (fun y => fun _ S2 => (dicM S2 (.ref i)).bind fun p => (keyOf y).bind fun k => (valK p.2 k).map fun v => (.ok v, S2.set i (.dic (dropV p.2 k)))) e S
  | none => none
section
variable {X : Cx} {W : WX} {o e f : Expr} {mo me mf : M} {apos cpos : Pos}
theorem px_dpop (ho : PX X W o mo) (he : PX X W e me) (hb : attributeBase o "pop" X.env (eval o X.env) = eval o X.env := by rfl)
    (hfew : ((backTo cpos (starEach [e] X.env)).all (fun x => !x.1) && (backToKw cpos (keywordEach [] X.env)).all (fun x => x.1.isSome)
      && decide ([e].length + ([] : List Keyword).length + (if ([] : List Keyword).isEmpty then 0 else 1) < 30)) = true := by rfl)
    (hline : (apos.endLine == cpos.line) = true := by rfl) (htr : backTo cpos (starEach [e] X.env) = [(false, eval e X.env)] := by rfl) : PX X W (.Call (.Attribute o "pop" apos) [e] [] cpos) (mDPop mo me) :=
  PX.of (pe_dpop1 ho.pe he.pe ⟨hb, hfew, hline, htr⟩) fun σ H Q ev S ρ R E p => by
    refine rE_bnd R E p fun v H1 x S1 ρ1 R1 E1 l1 rv p1 => ?_
    split at p1
    · rename_i i kvs hd
      obtain ⟨a, vs, rfl, rfl, hi, h1, h2⟩ := dicM_ok R1 rv hd
      refine ⟨a, rfl, .inl ⟨vs, .inl h1⟩, ?_⟩
      refine rE_bnd R1 E1 p1 fun u H2 y S2 ρ2 R2 E2 l2 ru p2 => ?_
      cases hd2 : dicM S2 (.ref i) with
      | none =>
        rw [hd2] at p2
        exact (pn_none p2).elim
      | some q =>
        obtain ⟨j, kv2⟩ := q
        rw [hd2] at p2
        obtain ⟨a2, vs2, e1, e2, hi2, h3, h4⟩ := dicM_ok R2 (VR.mono l2 rv) hd2
        cases e1
        cases e2
        cases hk : keyOf y with
        | none =>
          rw [hk] at p2
          exact (pn_none p2).elim
        | some k =>
          rw [hk] at p2
          simp only [Option.bind_some] at p2
          cases hv : valK kv2 k with
          | none =>
            rw [hv] at p2
            exact (pn_none p2).elim
          | some z =>
            rw [hv] at p2
            obtain ⟨w, h5, h6⟩ := (kr_find k h4).1 _ hv
            refine ⟨vs2, k, w, h3, key_ok ru hk, h5, ?_⟩
            have hz := noz h3 (fun _ _ => by simp)
            have l := Le.put (o := .dK (dropK vs2 k)) R2 hi2 hz
            obtain ⟨R3, l3⟩ := R2.put (o := .dK (dropK vs2 k)) (u := .dic (dropV kv2 k)) hi2 hz ⟨_, upd_same, KR.mono l (kr_drop k h4)⟩
            exact p2.ok R3 l3 (VR.mono l h6)
    · exact (pn_none p1).elim
/-! ### d.get(k, x) -/
def mDGet2 (mo mk mx : M) : M := bnd mo fun x => fun e S => match dicAt S x with
  | some _ => bnd mk (fun y => bnd mx fun z => fun _ S2 => (dicAt S2 x).bind fun kvs => (keyOf y).map fun k => (.ok ((valK kvs k).getD z), S2)) e S
  | none => none
theorem px_dget2 (hu : X.A.units + 1 < cLine) (ho : PX X W o mo) (he : PX X W e me) (hf : PX X W f mf) (hb : attributeBase o "get" X.env (eval o X.env) = eval o X.env := by rfl)
    (hfew : ((backTo cpos (starEach [e, f] X.env)).all (fun x => !x.1) && (backToKw cpos (keywordEach [] X.env)).all (fun x => x.1.isSome)
      && decide (([e, f] : List Expr).length + ([] : List Keyword).length + (if ([] : List Keyword).isEmpty then 0 else 1) < 30)) = true := by rfl)
    (hline : (apos.endLine == cpos.line) = true := by rfl) (htr : backTo cpos (starEach [e, f] X.env) = [(false, eval e X.env), (false, eval f X.env)] := by rfl) : PX X W (.Call (.Attribute o "get" apos) [e, f] [] cpos) (mDGet2 mo me mf) :=
  PX.of (pe_dget2 hu ho.pe he.pe hf.pe ⟨hb, hfew, hline, htr⟩) fun σ H Q ev S ρ R E p => by
    refine rE_bnd R E p fun v H1 x S1 ρ1 R1 E1 l1 rv p1 => ?_
    split at p1
    · rename_i kvs hd
      obtain ⟨a, vs, rfl, h1, h2⟩ := dic_ok R1 rv hd
      refine ⟨a, rfl, .inl ⟨vs, h1⟩, ?_⟩
      refine rE_bnd R1 E1 p1 fun u H2 y S2 ρ2 R2 E2 l2 ru p2 => ?_
      refine rE_bnd R2 E2 p2 fun t H3 z S3 ρ3 R3 E3 l3 rt p3 => ?_
      cases hd2 : dicAt S3 x with
      | none =>
        rw [hd2] at p3
        exact (pn_none p3).elim
      | some kv2 =>
        rw [hd2] at p3
        obtain ⟨a2, vs2, e2, h3, h4⟩ := dic_ok R3 (VR.mono (l2.trans l3) rv) hd2
        cases e2
        cases hk : keyOf y with
        | none =>
          rw [hk] at p3
          exact (pn_none p3).elim
        | some k =>
          rw [hk] at p3
          simp only [Option.bind_some, Option.map_some] at p3
          refine ⟨_, .inl ⟨vs2, k, h3, key_ok (VR.mono l3 ru) hk, rfl⟩, ?_⟩
          obtain ⟨f1, f2⟩ := kr_find k h4
          cases hv : valK kv2 k with
          | none =>
            rw [hv] at p3
            rw [f2 hv]
            exact p3.ok R3 (Le.refl ρ3 H3) rt
          | some w =>
            rw [hv] at p3
            obtain ⟨w', h5, h6⟩ := f1 w hv
            rw [h5]
            exact p3.ok R3 (Le.refl ρ3 H3) h6
    · exact (pn_none p1).elim
end

/-! ### dict(d) -/
def rDictD : List V → Hp → VK → Prop := fun xs H Q => ∃ (a : Addr) (kvs : List (Key × V)), xs = [.ref a] ∧ Rd H a (.dK kvs) ∧ ∀ p, H p = none → Q (.ref p) (upd H p (.dK kvs))
def fDictD : FN := fun xs S => match xs with
  | [x] => (dicAt S x).map fun kvs => (.ref S.length, S ++ [.dic kvs])
  | _ => none
theorem o_dictD {K : PySem.W.Frag} : OpN K rDictD fDictD := by
  intro ρ S H vs xs z S' Q R rv eq q
  unfold fDictD at eq
  split at eq
  · rename_i x
    obtain ⟨v, rfl, r1⟩ := vrs1 rv
    obtain ⟨kvs, h1, h2⟩ := Option.map_eq_some_iff.mp eq
    cases h2
    obtain ⟨a, ws, rfl, ha, hk⟩ := dic_ok R r1 h1
    refine ⟨a, ws, rfl, ha, fun p hp => ?_⟩
    have l : Le ρ H (ρ.add p) (upd H p (.dK ws)) := R.addLe hp
    obtain ⟨R2, _⟩ := R.add (o := .dK ws) (u := .dic kvs) hp ⟨ws, upd_same, KR.mono l hk⟩
    exact q _ _ _ R2 l ⟨p, R.addIx, rfl⟩
  · cases eq

/-! ### == and != of two dicts, their values data -/
def kvD : List (Key × Val) → Option (List (Key × PyData))
  | [] => some []
  | q :: r => match q.2, kvD r with
    | .d p, some l => if SeqAt.shaped p = true then some ((q.1, p) :: l) else none
    | _, _ => none
def valP {κ : Type} [DecidableEq κ] (kvs : List (κ × PyData)) (k : κ) : Option PyData := (kvs.find? fun kv => decide (kv.1 = k)).map (·.2)
def hitsD (b : List (Key × PyData)) : List (Key × PyData) → Bool
  | [] => true
  | q :: r => match valP b q.1 with
    | none => false
    | some y => PyData.eqv q.2 y && hitsD b r
def KD (K : PySem.W.Frag) (H : Hp) : List (Key × V) → List (Key × PyData) → Prop := Paired fun p q => p.1 = q.1 ∧ Dp K H p.2 q.2 ∧ SeqAt.shaped q.2 = true
def rDD (K : PySem.W.Frag) (g : Bool → Bool) : R2 := fun x y H Q => ∃ (a b : Addr) (ks ls : List (Key × V)) (kd ld : List (Key × PyData)), x = .ref a ∧ y = .ref b ∧ Rd H a (.dK ks) ∧ Rd H b (.dK ls) ∧ KD K H ks kd ∧ KD K H ls ld ∧ Q (.bl (g (kd.length == ld.length && hitsD ld kd))) H
section
variable {X : Cx} {pins : List (Addr × Obj)} {σ : L2.St} {H : Hp} {s : Shared} {A : Around}
theorem kd_val {ls : List (Key × V)} {ld : List (Key × PyData)} {vb : List (Key × Value)} (I : Inv X pins σ H s) (r : KV ls vb) (d : KD X.K H ls ld) (k : Key) : match valP ld k with
    | none => valueAt vb k = none
    | some p => SeqAt.shaped p = true ∧ ∃ u as, valueAt vb k = some u ∧ Reads s.heap u p as := by
  unfold KD at d
  induction d generalizing vb with
  | nil =>
    cases r
    rfl
  | @cons p q ps qs h t ih =>
    cases r with
    | @cons _ w _ ws hw r =>
      obtain ⟨h1, h2, h3⟩ := h
      obtain ⟨w1, w2⟩ := hw
      by_cases e : q.1 = k
      · have e1 : valP (q :: qs) k = some q.2 := by simp [valP, List.find?_cons, e]
        have e2 : valueAt (w :: ws) k = some w.2 := by simp [valueAt, List.find?_cons, w1.symm.trans (h1.trans e)]
        rw [e1, e2]
        obtain ⟨as, hr⟩ := Dp.reads I q.2 p.2 w.2 h2 w2
        exact ⟨h3, _, as, rfl, hr⟩
      · have e1 : valP (q :: qs) k = valP qs k := by simp [valP, List.find?_cons, e]
        have e2 : valueAt (w :: ws) k = valueAt ws k := by
          have ne : ¬ w.1 = k := fun z => e (h1.symm.trans (w1.trans z))
          simp [valueAt, List.find?_cons, ne]
        rw [e1, e2]
        exact ih r
theorem kd_hits {ls : List (Key × V)} {ld : List (Key × PyData)} {vb : List (Key × Value)} (I : Inv X pins σ H s) (hu : A.units + 64 < cLine) (rb : KV ls vb) (db : KD X.K H ls ld) : ∀ {ks : List (Key × V)} {kd : List (Key × PyData)} {va : List (Key × Value)}, KV ks va → KD X.K H ks kd → PySem.W.KeqHits A s vb va (hitsD ld kd) := by
  intro ks kd va ra da
  unfold KD at da
  induction da generalizing va with
  | nil =>
    cases ra
    exact .nil
  | @cons p q ps qs h t ih =>
    cases ra with
    | @cons _ w _ ws hw ra =>
      obtain ⟨h1, h2, h3⟩ := h
      obtain ⟨w1, w2⟩ := hw
      obtain ⟨wk, wv⟩ := w
      simp only at w1 w2
      have ek : wk = q.1 := w1.symm.trans h1
      subst ek
      have z := kd_val I rb db q.1
      unfold hitsD
      split at z
      · exact .miss z
      · rename_i y hy
        obtain ⟨sy, u, bs, e1, e2⟩ := z
        obtain ⟨as, hr⟩ := Dp.reads I q.2 p.2 wv h2 w2
        exact .hit e1 (SeqAt.eqAt_reads q.2 y A s wv u as bs hr e2 (SeqAt.canLay_of_shaped h3) (SeqAt.canLay_of_shaped sy) (SeqAt.room_of_shaped h3 hu)) (ih ra)
theorem kd_len {ls : List (Key × V)} {ld : List (Key × PyData)} (d : KD X.K H ls ld) : ls.length = ld.length := Paired.length d
theorem op_eqDD (hu : X.A.units + 65 < cLine) : OpR X (compareOp .Eq) (rDD X.K fun b => b) := by
  intro pins s σ H x y v u Q I rx ry h
  obtain ⟨a, b, ks, ls, kd, ld, rfl, rfl, ha, hb, da, db, q⟩ := h
  cases rx
  cases ry
  obtain ⟨_, ya, va, ra, ga⟩ := dk_rd I.hok ha
  obtain ⟨_, yb, vb, rb, gb⟩ := dk_rd I.hok hb
  refine PySem.W.keq_eq (knd := mixKind X.prog X.w) (r := hitsD ld kd) ya yb ga gb (by omega) (fun _ => kd_hits I (A := X.A.in1) (by show X.A.units + 1 + 64 < cLine; omega) rb db ra da) ?_
  rw [← ra.length, ← rb.length, kd_len (X := X) da, kd_len (X := X) db]
  exact ⟨.bl _, H, I, rfl, q⟩
theorem op_neDD (hu : X.A.units + 65 < cLine) : OpR X (compareOp .NotEq) (rDD X.K fun b => !b) := by
  intro pins s σ H x y v u Q I rx ry h
  obtain ⟨a, b, ks, ls, kd, ld, rfl, rfl, ha, hb, da, db, q⟩ := h
  cases rx
  cases ry
  obtain ⟨_, ya, va, ra, ga⟩ := dk_rd I.hok ha
  obtain ⟨_, yb, vb, rb, gb⟩ := dk_rd I.hok hb
  refine PySem.W.keq_ne (knd := mixKind X.prog X.w) (r := hitsD ld kd) ya yb ga gb (by omega) (fun _ => kd_hits I (A := X.A.in1) (by show X.A.units + 1 + 64 < cLine; omega) rb db ra da) ?_
  rw [← ra.length, ← rb.length, kd_len (X := X) da, kd_len (X := X) db]
  exact ⟨.bl _, H, I, rfl, q⟩
end
def fDD (g : Bool → Bool) : F2 := fun x y S => (dicAt S x).bind fun ks => (dicAt S y).bind fun ls => (kvD ks).bind fun kd => (kvD ls).map fun ld => (.d (.bool (g (kd.length == ld.length && hitsD ld kd))), S)
theorem kvD_ok {K : PySem.W.Frag} {ρ : Rg} {H : Hp} : ∀ {vs : List (Key × V)} {kvs : List (Key × Val)} {kd : List (Key × PyData)}, KR K ρ H vs kvs → kvD kvs = some kd → KD K H vs kd
  | _, [], kd, h, e => by
    cases h
    cases e
    exact .nil
  | _, q :: r, kd, h, e => by
    cases h with
    | cons h1 h2 =>
      obtain ⟨k, x⟩ := q
      unfold kvD at e
      split at e
      · rename_i p l e1 e2
        split at e
        · rename_i hs
          cases e
          simp only at e1
          subst e1
          exact .cons ⟨h1.1, dp_mono (frz_ex ρ H) _ _ h1.2, hs⟩ (kvD_ok h2 e2)
        · cases e
      · cases e
theorem o_DD {K : PySem.W.Frag} {g : Bool → Bool} : Op2 K (rDD K g) (fDD g) := by
  intro ρ S H v u x y z S' Q R rv ru eq q
  obtain ⟨ks, h1, eq⟩ := Option.bind_eq_some_iff.mp eq
  obtain ⟨ls, h2, eq⟩ := Option.bind_eq_some_iff.mp eq
  obtain ⟨kd, h3, eq⟩ := Option.bind_eq_some_iff.mp eq
  obtain ⟨ld, h4, eq⟩ := Option.map_eq_some_iff.mp eq
  cases eq
  obtain ⟨a, vs, rfl, ha, ka⟩ := dic_ok R rv h1
  obtain ⟨b, ws, rfl, hb, kb⟩ := dic_ok R ru h2
  exact ⟨a, b, vs, ws, kd, ld, rfl, rfl, ha, hb, kvD_ok ka h3, kvD_ok kb h4, q _ _ ρ R (Le.refl ρ H) (.bl _)⟩

/-! ### sorted(d), the keys numbers that rise -/
def keyInts : List (Key × Val) → Option (List Int)
  | [] => some []
  | q :: r => match q.1, keyInts r with
    | .inl i, some l => some (i :: l)
    | _, _ => none
theorem keyInts_ok {K : PySem.W.Frag} {ρ : Rg} {H : Hp} : ∀ {vs : List (Key × V)} {kvs : List (Key × Val)} {ns : List Int}, KR K ρ H vs kvs → keyInts kvs = some ns → vs.map (·.1) = ns.map Sum.inl
  | _, [], ns, h, e => by
    cases h
    cases e
    rfl
  | _, q :: r, ns, h, e => by
    cases h with
    | cons h1 h2 =>
      obtain ⟨k, x⟩ := q
      unfold keyInts at e
      split at e
      · rename_i i l e1 e2
        cases e
        simp only at e1
        subst e1
        simp only [List.map_cons]
        rw [keyInts_ok h2 e2, h1.1]
      · cases e
def rSortDI (K : PySem.W.Frag) : List V → Hp → VK → Prop := fun xs H Q => ∃ (a : Addr) (kvs : List (Key × V)) (ks : List Int), xs = [.ref a] ∧ Rd H a (.dK kvs) ∧ kvs.map (·.1) = ks.map Sum.inl ∧ ks.length < 64 ∧
    ∀ (ys : List Int) (p : Addr), ys.Perm ks → ys.Pairwise (· ≤ ·) → H p = none → Q (.ref p) (upd H p (.lst (ys.map V.int)))
def fSortDI : FN := fun xs S => match xs with
  | [x] => (dicAt S x).bind fun kvs => (keyInts kvs).bind fun ns => if ns.length < 64 ∧ ns.Pairwise (· < ·) then some (.d (.list (ns.map .int)), S) else none
  | _ => none
theorem perm_sorted : ∀ {a b : List Int}, a.Perm b → a.Pairwise (· ≤ ·) → b.Pairwise (· < ·) → a = b := fun {a b} hp ha hb => by
  exact hp.eq_of_pairwise (fun x y _ _ h1 h2 => Int.le_antisymm h1 h2) ha (hb.imp fun {x y} h => Int.le_of_lt h)
theorem dp_intsD {K : PySem.W.Frag} {H : Hp} (ns : List Int) : DpAll K H (ns.map V.int) (ns.map .int) := by
  induction ns with
  | nil => exact .nil
  | cons n ns ih => exact .cons (.int n) ih
theorem o_sortDI {K : PySem.W.Frag} : OpN K (rSortDI K) fSortDI := by
  intro ρ S H vs xs z S' Q R rv eq q
  unfold fSortDI at eq
  split at eq
  · rename_i x
    obtain ⟨v, rfl, r1⟩ := vrs1 rv
    obtain ⟨kvs, h1, eq⟩ := Option.bind_eq_some_iff.mp eq
    obtain ⟨ns, h2, eq⟩ := Option.bind_eq_some_iff.mp eq
    split at eq
    · rename_i hc
      cases eq
      obtain ⟨a, ws, rfl, ha, hk⟩ := dic_ok R r1 h1
      refine ⟨a, ws, ns, rfl, ha, keyInts_ok hk h2, hc.1, fun ys p hp hs hn => ?_⟩
      have e := perm_sorted hp hs hc.2
      subst e
      exact new_list R (dp_intsD _) q p hn
    · cases eq
  · cases eq

/-! ### dict(pairs) -/
def pairsD : List PyData → Option (List (Key × PyData))
  | [] => some []
  | p :: r => match p, pairsD r with
    | .tuple [k, v], some l => (keyOf (.d k)).map fun k => (k, v) :: l
    | _, _ => none
def mergeV (kvs more : List (Key × Val)) : List (Key × Val) := more.foldl (fun acc kv => putV acc kv.1 kv.2) kvs
theorem kr_merge {K : PySem.W.Frag} {ρ : Rg} {H : Hp} : ∀ {ms : List (Key × V)} {more : List (Key × Val)} {vs : List (Key × V)} {kvs : List (Key × Val)}, KR K ρ H ms more → KR K ρ H vs kvs → KR K ρ H (mergeK vs ms) (mergeV kvs more)
  | _, [], vs, kvs, h, g => by
    cases h
    exact g
  | _, q :: r, vs, kvs, h, g => by
    cases h with
    | @cons p _ ps _ h1 h2 =>
      show KR K ρ H (mergeK (putK vs p.1 p.2) ps) (mergeV (putV kvs q.1 q.2) r)
      rw [h1.1]
      exact kr_merge h2 (kr_put q.1 g h1.2)
def rDictP (K : PySem.W.Frag) : List V → Hp → VK → Prop := fun xs H Q => ∃ (a : Addr) (ps : List Addr) (kvs : List (Key × V)), xs = [.ref a] ∧ SqL K H a (ps.map V.ref) ∧ Paired (fun p kv => SqT K H p [kV kv.1, kv.2]) ps kvs ∧
    ∀ p, H p = none → Q (.ref p) (upd H p (.dK (mergeK [] kvs)))
def fDictP : FN := fun xs S => match xs with
  | [x] => (lstD S x).bind fun ps => (pairsD ps).map fun kd => (.ref S.length, S ++ [.dic (mergeV [] (kd.map fun q => (q.1, .d q.2)))])
  | _ => none
theorem dpall2 {K : PySem.W.Frag} {H : Hp} {vs : List V} {p q : PyData} (h : DpAll K H vs [p, q]) : ∃ x y, vs = [x, y] ∧ Dp K H x p ∧ Dp K H y q := by
  cases h with
  | cons h1 h2 =>
    cases h2 with
    | cons h3 h4 =>
      cases h4
      exact ⟨_, _, rfl, h1, h3⟩
theorem pairsD_ok {K : PySem.W.Frag} {ρ : Rg} {H : Hp} : ∀ {vs : List V} {ps : List PyData} {kd : List (Key × PyData)}, DpAll K (frz ρ H) vs ps → pairsD ps = some kd →
    ∃ (as : List Addr) (kvs : List (Key × V)), vs = as.map V.ref ∧ Paired (fun p kv => SqT K H p [kV kv.1, kv.2]) as kvs ∧ KR K ρ H kvs (kd.map fun q => (q.1, Val.d q.2))
  | _, [], kd, h, e => by
    cases h
    cases e
    exact ⟨[], [], rfl, .nil, .nil⟩
  | _, p :: r, kd, h, e => by
    cases h with
    | @cons v vs _ _ h1 h2 =>
      unfold pairsD at e
      split at e
      · rename_i k d l e1
        obtain ⟨k', hk, e2⟩ := Option.map_eq_some_iff.mp e
        cases e2
        obtain ⟨as, kvs, rfl, q1, q2⟩ := pairsD_ok h2 e1
        cases h1 with
        | @tup a xs _ hs ha =>
          obtain ⟨x, y, rfl, hx, hy⟩ := dpall2 ha
          have ek : x = kV k' := key_ok (K := K) (x := .d k) (ρ := ρ) (H := H) hx hk
          subst ek
          exact ⟨a :: as, (k', y) :: kvs, rfl, .cons ((frz_ex ρ H).st hs) q1, .cons ⟨rfl, hy⟩ q2⟩
      · cases e
theorem o_dictP {K : PySem.W.Frag} : OpN K (rDictP K) fDictP := by
  intro ρ S H vs xs z S' Q R rv eq q
  unfold fDictP at eq
  split at eq
  · rename_i x
    obtain ⟨v, rfl, r1⟩ := vrs1 rv
    obtain ⟨ps, h1, eq⟩ := Option.bind_eq_some_iff.mp eq
    obtain ⟨kd, h2, h3⟩ := Option.map_eq_some_iff.mp eq
    cases h3
    obtain ⟨a, us, rfl, ha, da⟩ := lstD_ok R r1 h1
    obtain ⟨as, kvs, rfl, q1, q2⟩ := pairsD_ok da h2
    refine ⟨a, as, kvs, rfl, ha, q1, fun p hp => ?_⟩
    have l : Le ρ H (ρ.add p) (upd H p (.dK (mergeK [] kvs))) := R.addLe hp
    obtain ⟨R2, _⟩ := R.add (o := .dK (mergeK [] kvs)) (u := .dic (mergeV [] (kd.map fun q => (q.1, Val.d q.2)))) hp ⟨_, upd_same, KR.mono l (kr_merge q2 .nil)⟩
    exact q _ _ _ R2 l ⟨p, R.addIx, rfl⟩
  · cases eq
end Lv
end
section
set_option Elab.async false
set_option linter.all false
set_option autoImplicit false
set_option maxRecDepth 100000
set_option maxHeartbeats 4000000
/-! list(reversed(xs)) -/
namespace Lv
open PySem PySem.Spec PyProof.Rows L2
section
variable {prog : Program} {w : World} {A : Around} {E : Value → Shared → Prop} {s : Shared}
/-- xs.extend(a list's reverse iterator), xs new and empty -/
theorem extend_rev {R : Result → Shared → Prop} {it l S : Addr} {items : Array Value} {c0 : Nat} (hh : A.handled = none) (hit : s.heap.IsRevIter it l ((items.size : Int) - 1)) (hl : s.heap.IsList l items) (hne : l ≠ it) (hn : items.size ≤ sizeLine) (n1 : S ≠ it) (n2 : S ≠ l)
    (hS : s.heap.get? S = some { cls := .type "list", data := .seq #[] c0 })
    (hR : ∀ (h' : Heap) (tk : Nat) (acc : Array Value) (c' : Nat), (∀ b o, b ≠ it → b ≠ S → s.heap.get? b = some o → h'.get? b = some o) → h'.get? S = some { cls := .type "list", dict := none, data := .seq acc c', slots := #[] } →
      ItemsOf (fun i v => items[items.size - 1 - i]? = some v) acc items.size → R (.ok (.ret .none)) { s with heap := h', toks := tk }) :
    wpAny (model prog w) A.in1 (Builtin.List.listExtendWith (.ref S) (.ref it) .none)
      (fun fin s' => match fin with | .done f => R (.ok f) s' | .again c' => c'.quiet = true ∧ codeAny (model prog w) A c' R s') (fun e s' => R (.error e) s') s := by
  have W := (Walks.listRev (prog := prog) (w := w) (A := A.in1) hh it l hne items).toS
  have hSf : S ∉ [it, l] := by simp [n1, n2]
  have hT : s.TypeIs (.ref it) "list_reverseiterator" := hit.typeIs
  have same : Builtin.List.listSameRef (.ref S) (.ref it) = false := by simp [Builtin.List.listSameRef, n1]
  unfold Builtin.List.listExtendWith
  refine wpAny_bind (wpAny_typeOf hT ?_)
  rw [if_neg (by rw [same]; decide)]
  refine wpAny_bind (wpAny_pyIter_revIter hit ?_)
  refine wpAny_bind (wpAny_holding ?_)
  unfold Builtin.List.listLengthHint
  refine wpAny_bind (wpAny_specialOf hT RT.nolen_lri ?_)
  show wpAny _ A.in1 (specialOf (Value.ref it) (Str.ofString "__length_hint__") >>= _) _ _ _
  refine wpAny_bind (wpAny_specialOf hT RT.hint_lri ?_)
  generalize hx : ("list_reverseiterator.__length_hint__" : String) = x
  wp_delta
  rw [show splitId x = some ("list_reverseiterator", "__length_hint__") from by subst hx; decide +kernel]
  subst hx
  refine wpAny_bind (wpAny_isInstance (b := true) hT (by rw [isSubtype_type]; kernel_rfl) ?_)
  refine wpAny_pure ?_
  rw [if_neg (by decide)]
  have e0 : ((items.size : Nat) : Int) - 1 - ((0 : Nat) : Int) = (items.size : Int) - 1 := by omega
  have st : s.heap.IsRevIter it l (((items.size : Nat) : Int) - 1 - ((0 : Nat) : Int)) := by rw [e0]; exact hit
  refine wpAny_pure ⟨plainId_quiet F.plain_extend_loop _, codeAny_extend_loopS W hn S hSf _ items.size 0 _ _ _ rfl (Nat.zero_le _) ⟨Nat.zero_le _, st, hl⟩ hS (ItemsOf.nil _) fun s2 acc c' hm hS2 hacc => ?_⟩
  rw [Moved.eq_with hm]
  refine hR s2.heap s2.toks acc c' (fun b o hb hb2 e => hm.heap b o (fun z => ?_) e) hS2 hacc
  rcases List.mem_cons.mp z with z | z
  · exact hb2 z
  · exact hb (List.mem_singleton.mp z)
theorem call_list_rev {it l : Addr} {items : Array Value} {Q : Value → Shared → Prop} (hh : A.handled = none) (hit : s.heap.IsRevIter it l ((items.size : Int) - 1)) (hl : s.heap.IsList l items) (hne : l ≠ it) (hn : items.size ≤ sizeLine)
    (hQ : ∀ (h' : Heap) (tk : Nat) (acc : Array Value) (c' : Nat), (∀ b o, b ≠ it → s.heap.get? b = some o → h'.get? b = some o) → h'.get? s.heap.objs.size = some { cls := .type "list", dict := none, data := .seq acc c', slots := #[] } →
      ItemsOf (fun i v => items[items.size - 1 - i]? = some v) acc items.size → Q (.ref s.heap.objs.size) { s with heap := h', toks := tk }) :
    wpAny (model prog w) A (call (.type "list") [.ref it]) Q E s := by
  obtain ⟨oi, g1, _⟩ := id hit
  obtain ⟨ol, g2, _⟩ := id hl
  have n1 : s.heap.objs.size ≠ it := Nat.ne_of_gt (Heap.lt_size g1)
  have n2 : s.heap.objs.size ≠ l := Nat.ne_of_gt (Heap.lt_size g2)
  refine callType_codes (Q₁ := fun v s1 => v = .ref s.heap.objs.size ∧ s1 = { s with heap := s.heap.push { cls := .type "list", data := .seq #[] } }) F.called_list (F.typeCall_list_1 _) F.entry_list_init (code_list_new _ ⟨rfl, rfl⟩) fun v s1 h1 => ?_
  obtain ⟨rfl, rfl⟩ := h1
  have hS : (s.heap.push { cls := .type "list", data := .seq #[] }).get? s.heap.objs.size = some { cls := .type "list", data := .seq #[] } := Heap.get?_push_size _ rfl
  refine ⟨⟨_, hS, rfl⟩, F.args_list_init_2 _ _, ?_⟩
  show wpAny _ _ (do let old ← Builtin.List.listItems (.ref s.heap.objs.size); Builtin.List.listUpdate (.ref s.heap.objs.size) (fun _ => #[]); letGo old.toList.reverse; Builtin.List.listExtendWith (.ref s.heap.objs.size) (.ref it) .none) _ _ _
  refine wpAny_bind ?_
  unfold Builtin.List.listItems
  refine wpAny_bind (wpAny_seqItems hS rfl (wpAny_pure ?_))
  show wpAny _ _ (updateSeq s.heap.objs.size (fun _ => #[]) >>= fun _ => letGo (#[] : Array Value).toList.reverse >>= fun _ => Builtin.List.listExtendWith (.ref s.heap.objs.size) (.ref it) .none) _ _ _
  refine wpAny_bind (wpAny_updateSeq hS rfl ?_)
  have hS2 := Heap.get?_update_self (Obj.mapSeq (fun _ => (#[] : Array Value))) hS rfl
  have oth : ∀ b o, b ≠ s.heap.objs.size → s.heap.get? b = some o → ((s.heap.push { cls := .type "list", data := .seq #[] }).update s.heap.objs.size (Obj.mapSeq (fun _ => (#[] : Array Value)))).get? b = some o :=
    fun b o hb e => (Heap.get?_update_other _ _ (Ne.symm hb)).trans (Heap.get?_push_of_some _ e)
  refine wpAny_bind (wpAny_letGo ?_)
  refine extend_rev (A := A.in1) hh (hit.at fun o e => oth it o (Ne.symm n1) e) ?_ hne hn n1 n2 hS2 fun h' tk acc c' hk hS' hacc => ?_
  · obtain ⟨o, q1, q2⟩ := hl
    exact ⟨o, oth l o (Ne.symm n2) q1, q2⟩
  · exact ⟨rfl, hQ h' tk acc c' (fun b o hb e => hk b o hb (Nat.ne_of_lt (Heap.lt_size e)) (oth b o (Nat.ne_of_lt (Heap.lt_size e)) e)) hS' hacc⟩
end
def tListRev (K : PySem.W.Frag) (te : TE) : TE := fun σ H Q => te σ H fun v H1 => ∃ (a : Addr) (xs : List V), v = .ref a ∧ SqL K H1 a xs ∧ ∀ q, H1 q = none → Q (.ref q) (upd H1 q (.lst xs.reverse))
theorem pe_listRev {X : Cx} {e : Expr} {te : TE} {p p2 pos pos2 : Pos} (hc : X.calm = true) (hg : Gl X "list") (hm : X.mg "list" = none) (hg2 : Gl X "reversed") (hm2 : X.mg "reversed" = none) (he : PE X e te)
    (hs : starEach [e] X.env = (false, eval e X.env) :: starEach [] X.env := by rfl)
    (hs2 : starEach [.Call (.Name "reversed" p2) [e] [] pos2] X.env = (false, eval (.Call (.Name "reversed" p2) [e] [] pos2) X.env) :: starEach [] X.env := by rfl) :
    PE X (.Call (.Name "list" p) [.Call (.Name "reversed" p2) [e] [] pos2] [] pos) (tListRev X.K te) := by
  constructor
  intro pins s σ H Q I h
  refine Call_ (ld_blt I hg hm (show bootBuiltins "list" = some (.type "list") by decide +kernel) (PyProof.Rows.callWith_type1 (args_cons (Call_ (ld_blt I hg2 hm2 PyProof.Rows.boot_reversed (PyProof.Rows.callWith_type1 (args_cons (thn (he.run pins s σ H _ I h) fun u s1 hu => args_nil ?_) hs) hs rfl))) hs2) hs2 rfl))
  obtain ⟨v, H1, I1, r1, a, xs, ev, hq, q⟩ := hu
  subst ev
  have eu : u = Value.ref a := r1
  subst eu
  obtain ⟨its, rv, pl, hz⟩ := I1.list hq
  refine call_reversed_list pl.isList (args_nil ?_)
  obtain ⟨ol, hol, _⟩ := id pl.isList
  have hn : its.toArray.size ≤ sizeLine := by rw [List.size_toArray, ← rv.length]; exact hz
  refine call_list_rev (s := { s1 with heap := s1.heap.push (revObj a ((its.toArray.size : Int) - 1)) }) (I1.ok.hd hc) ⟨_, Heap.get?_push_size _ rfl, rfl, rfl⟩ (pl.isList.push _) (Nat.ne_of_lt (Heap.lt_size hol)) hn fun h' tk acc c' hk hS hi => ?_
  have hsz : s1.heap.objs.size ≤ (s1.heap.push (revObj a ((its.toArray.size : Int) - 1))).objs.size := by rw [Heap.size_push]; exact Nat.le_succ _
  have k : ∀ b u, s1.heap.get? b = some u → h'.get? b = some u := fun b u e => hk b u (Nat.ne_of_lt (Heap.lt_size e)) (Heap.get?_push_of_some _ e)
  have new : ObjOk X.prog X.w (upd H1 (s1.heap.push (revObj a ((its.toArray.size : Int) - 1))).objs.size (.lst xs.reverse)) h' (s1.heap.push (revObj a ((its.toArray.size : Int) - 1))).objs.size (.lst xs.reverse) :=
    ⟨by rw [List.length_reverse]; exact hz, acc.toList, c', RT.vals_rev rv hi, by simpa using hS⟩
  exact ⟨.ref _, _, I1.laid (t' := tk) k hsz new, rfl, q _ (I1.hok.fresh hsz)⟩
def fListRev : F1 := fun x S => (lstD S x).map fun ps => (.d (.list ps.reverse), S)
theorem dpall_rev {K : PySem.W.Frag} {H : Hp} {vs : List V} {ps : List PyData} (h : DpAll K H vs ps) : DpAll K H vs.reverse ps.reverse := by
  induction ps generalizing vs with
  | nil =>
    cases h
    exact .nil
  | cons p ps ih =>
    cases h with
    | cons h1 h2 =>
      rw [List.reverse_cons, List.reverse_cons]
      exact dpall_app (ih h2) (.cons h1 .nil)
theorem px_listRev {X : Cx} {W : WX} {e : Expr} {m : M} {p p2 pos pos2 : Pos} (hc : X.calm = true) (hg : Gl X "list") (hm : X.mg "list" = none) (hg2 : Gl X "reversed") (hm2 : X.mg "reversed" = none) (he : PX X W e m)
    (hs : starEach [e] X.env = (false, eval e X.env) :: starEach [] X.env := by rfl)
    (hs2 : starEach [.Call (.Name "reversed" p2) [e] [] pos2] X.env = (false, eval (.Call (.Name "reversed" p2) [e] [] pos2) X.env) :: starEach [] X.env := by rfl) :
    PX X W (.Call (.Name "list" p) [.Call (.Name "reversed" p2) [e] [] pos2] [] pos) (mOp1 fListRev m) :=
  PX.of (pe_listRev hc hg hm hg2 hm2 he.pe hs hs2) fun σ H Q ev S ρ R E p => by
    refine rE_bnd R E p fun v H1 x S1 ρ1 R1 E1 l1 rv p1 => ?_
    obtain ⟨z, S', eq, q⟩ := pn_lift p1
    obtain ⟨ps, h1, h2⟩ := Option.map_eq_some_iff.mp eq
    cases h2
    obtain ⟨a, vs, rfl, ha, da⟩ := lstD_ok R1 rv h1
    exact ⟨a, vs, rfl, ha, fun b hb => new_list R1 (dpall_rev da) q b hb⟩
end Lv
end
section
set_option Elab.async false
set_option linter.all false
set_option autoImplicit false
set_option maxRecDepth 100000
set_option maxHeartbeats 2000000
/-! An exception's __init__ that tells its base's one by name; the facts of such classes. -/
namespace Lv
open PySem PySem.Spec PyProof.Rows L2
/-- B.__init__ is ValueError's, B a class of the program -/
structure BaseI (K : PySem.W.Frag) (mg : Str → Option Value) (b : Str) : Prop where
  g : mg b = some (.ref (He.ga K b))
  rd : PySem.W.readsIn K (He.ga K b) (.type "type") = true
  ga : PySem.W.specialIn K (.ref (He.ga K b)) "__getattribute__" = some (some (.builtin "type.__getattribute__"))
  at_ : PySem.W.findCls K (.ref (He.ga K b)) (.type "type") "__init__" = some (.val (.builtin "ValueError.__init__"))
theorem pe_baseI {X : Cx} {b : Str} {e : Expr} {es : List Expr} {ta : TA} {p1 p2 pos : Pos} {pl : Sem Bool} (T : BaseI X.K X.mg b) (hg : Gl X b) (ha : PA X (e :: es) ta) (hdb : (b == ("__debug__" : Str)) = false := by decide)
    (hc : eval (.Call (.Attribute (.Name b p1) "__init__" p2) (e :: es) [] pos) X.env = (do
      let ov ← eval (.Name b p1) X.env
      standAt p2.atName
      let (f, first) ← holding [ov] (getMethod ov "__init__" pl)
      callWith pos f first (backTo pos (starEach (e :: es) X.env)) (backToKw pos (keywordEach [] X.env))) := by rfl)
    (he : starEach (e :: es) X.env = (false, eval e X.env) :: starEach es X.env := by rfl) (hpl : (backTo pos (starEach es X.env)).any (·.1) = false := by rfl) :
    PE X (.Call (.Attribute (.Name b p1) "__init__" p2) (e :: es) [] pos) (tVeI X.K ta) := by
  constructor
  intro pins s σ H Q I h
  refine PySem.W.methodCall_KW (ld_glob I hg T.g ?_ hdb) hc
  refine PySem.W.method_cls I.kIn T.ga (PySem.W.cls_value I.kIn T.rd T.at_ rfl ?_)
  show wpAny _ _ (callWith pos (Value.builtin "ValueError.__init__") [] (backTo pos (starEach (e :: es) X.env)) []) _ _ _
  refine PyProof.Rows.callWith_method1 (thn (ha.run pos pins _ σ H _ (I.tok _) h) fun us s1 hu => ?_) he hpl
  obtain ⟨vs, H1, I1, r1, a, C, ws, ev, hl, oc, ea, q⟩ := hu
  subst ev
  cases r1 with
  | @cons _ u0 _ ur ra rw' =>
    have e0 : u0 = Value.ref a := ra
    subst e0
    exact oinit_ok oc I1 ea (by rw [← Paired.length rw', sizeLine_eq]; omega) fun s' J => ⟨.non, H1, J, rfl, q⟩
/-! the facts, to be looked up -/
def oexB (K : PySem.W.Frag) (C : Addr) : Bool := (match K.lookup C with
  | some ⟨.type t, _, .cls cd, sl⟩ => (match cd.mro, sl.toList with
    | .ref C' :: bm, [_, _, _, _, some (.builtin n), _] => decide (t = "type") && (decide (C' = C) && (decide (n = "ValueError.__new__") && (!cd.hasDel && (cd.hasDict && PySem.HandSPX.refsVE bm))))
    | _, _ => false)
  | _ => false) && (He.eqO (PySem.W.findIn K (.ref C) "__setattr__") (some (some (.builtin "object.__setattr__"))) && (decide (PySem.W.subIn K (.ref C) (.type "BaseException") = some true) && (decide (PySem.W.typeIn K (.ref C) = some (.type "type")) && PySem.W.keepIn K (.ref C))))
theorem oexB_ok {K : PySem.W.Frag} {C : Addr} (h : oexB K C = true) : OexC K C := by
  obtain ⟨h1, h⟩ := He.ba h
  obtain ⟨h2, h⟩ := He.ba h
  obtain ⟨h3, h⟩ := He.ba h
  obtain ⟨h4, h5⟩ := He.ba h
  refine ⟨?_, He.eqO_ok h2, of_decide_eq_true h3, of_decide_eq_true h4, h5⟩
  split at h1
  · rename_i t dd cd sl ho
    split at h1
    · rename_i C' bm k0 k1 k2 k3 n k5 hm hs
      obtain ⟨a1, h1⟩ := He.ba h1
      obtain ⟨a2, h1⟩ := He.ba h1
      obtain ⟨a3, h1⟩ := He.ba h1
      obtain ⟨a4, h1⟩ := He.ba h1
      obtain ⟨a5, a6⟩ := He.ba h1
      have e1 := of_decide_eq_true a1
      have e2 := of_decide_eq_true a2
      have e3 := of_decide_eq_true a3
      subst e1 e2 e3
      obtain ⟨nm, bs, mro, ns, qn, hd, sn, sub, ab, col, dl⟩ := cd
      simp only [Bool.not_eq_true'] at a4
      dsimp only at hm a4 a5
      subst hm a4 a5
      obtain ⟨sl⟩ := sl
      simp only at hs
      subst hs
      exact ⟨nm, qn, ns, bs, bm, sn, sub, ab, col, dd, k0, k1, k2, k3, k5, ho, a6⟩
    · cases h1
  · cases h1
/-- what isinstance asks of an exception class -/
def excB (K : PySem.W.Frag) (D : Addr) : Bool := decide (PySem.W.findIn K (.ref D) "__getattribute__" = some (some (.builtin "BaseException.__getattribute__"))) && (decide (PySem.W.findIn K (.ref D) "__getattr__" = some none) && (decide (PySem.W.subIn K (.ref D) (.type "BaseException") = some true) && (PySem.W.hasDictIn K D &&
  (decide (PySem.W.findIn K (.ref D) "__class__" = some (some (.builtin "object.__class__"))) && (decide (PySem.W.specialIn K (.builtin "object.__class__") "__get__" = some (some (.builtin "getset_descriptor.__get__"))) && (decide (PySem.W.takesIn K (.builtin "object.__class__") = some true) && decide (PySem.W.mroIn K D (.type "object") = some true)))))))
theorem excB_ok {K : PySem.W.Frag} {D : Addr} (h : excB K D = true) : ExcC K D := by
  obtain ⟨h1, h⟩ := He.ba h
  obtain ⟨h2, h⟩ := He.ba h
  obtain ⟨h3, h⟩ := He.ba h
  obtain ⟨h4, h⟩ := He.ba h
  obtain ⟨h5, h⟩ := He.ba h
  obtain ⟨h6, h⟩ := He.ba h
  obtain ⟨h7, h8⟩ := He.ba h
  exact ⟨of_decide_eq_true h1, of_decide_eq_true h2, of_decide_eq_true h3, h4, of_decide_eq_true h5, of_decide_eq_true h6, of_decide_eq_true h7, of_decide_eq_true h8⟩
inductive Xf where
  | excc (x : Str)
  | kita (x : Str) (cs : List Str) (b : Bool)
  | kitc (x c : Str) (b : Bool)
  | kitv (x : Str) (t : String) (b : Bool)
  | oex (x : Str)
  | init (x : Str)
  | base (b : Str)
  | fld (x f : Str)
  | noat (x f : Str)
def clsB (a b : Option PySem.W.CFound) : Bool := match a, b with
  | some (.val (.builtin x)), some (.val (.builtin y)) => decide (x = y)
  | _, _ => false
theorem clsB_ok {a b : Option PySem.W.CFound} (h : clsB a b = true) : a = b := by
  unfold clsB at h
  split at h
  · rw [of_decide_eq_true h]
  · cases h
def Xf.ok (K : PySem.W.Frag) : Xf → Bool
  | .oex x => oexB K (He.ga K x)
  | .excc x => excB K (He.ga K x)
  | .kita x cs b => decide (PySem.W.kitAny K (.ref (He.ga K x)) ((cs.map (He.ga K)).map Value.ref) = some b)
  | .kitc x c b => decide (PySem.W.kitOne K (.ref (He.ga K x)) (.ref (He.ga K c)) = some b)
  | .kitv x t b => decide (PySem.W.kitOne K (.ref (He.ga K x)) (.type t) = some b)
  | .init x => He.eqO (PySem.W.findIn K (.ref (He.ga K x)) "__init__") (some (some (.ref (He.ma K (He.ga K x) "__init__")))) && decide (PySem.W.typeIn K (.ref (He.ma K (He.ga K x) "__init__")) = some (.type "function"))
  | .base b => PySem.W.readsIn K (He.ga K b) (.type "type") && (He.eqO (PySem.W.specialIn K (.ref (He.ga K b)) "__getattribute__") (some (some (.builtin "type.__getattribute__"))) && clsB (PySem.W.findCls K (.ref (He.ga K b)) (.type "type") "__init__") (some (.val (.builtin "ValueError.__init__"))))
  | .fld x f => He.eqO (PySem.W.findIn K (.ref (He.ga K x)) f) (some none)
  | .noat x f => He.eqO (PySem.W.findIn K (.ref (He.ga K x)) f) (some none)
theorem base_ok {K : PySem.W.Frag} {mg : Str → Option Value} {b : Str} (g : mg b = some (.ref (He.ga K b))) (h : (Xf.base b).ok K = true) : BaseI K mg b := by
  obtain ⟨h1, h⟩ := He.ba h
  obtain ⟨h2, h3⟩ := He.ba h
  exact ⟨g, h1, He.eqO_ok h2, clsB_ok h3⟩
theorem init_at {K : PySem.W.Frag} {x : Str} (h : (Xf.init x).ok K = true) : PySem.W.findIn K (.ref (He.ga K x)) "__init__" = some (some (.ref (He.ma K (He.ga K x) "__init__"))) ∧ PySem.W.typeIn K (.ref (He.ma K (He.ga K x) "__init__")) = some (.type "function") := by
  obtain ⟨h1, h2⟩ := He.ba h
  exact ⟨He.eqO_ok h1, of_decide_eq_true h2⟩
theorem fld_ok {K : PySem.W.Frag} {x f : Str} (h : (Xf.fld x f).ok K = true) : PySem.W.findIn K (.ref (He.ga K x)) f = some none := He.eqO_ok h
theorem excc_ok {K : PySem.W.Frag} {x : Str} (h : (Xf.excc x).ok K = true) : ExcC K (He.ga K x) := excB_ok h
theorem kita_ok {K : PySem.W.Frag} {x : Str} {cs : List Str} {b : Bool} (h : (Xf.kita x cs b).ok K = true) : PySem.W.kitAny K (.ref (He.ga K x)) ((cs.map (He.ga K)).map Value.ref) = some b := of_decide_eq_true h
theorem kitc_ok {K : PySem.W.Frag} {x c : Str} {b : Bool} (h : (Xf.kitc x c b).ok K = true) : PySem.W.kitOne K (.ref (He.ga K x)) (.ref (He.ga K c)) = some b := of_decide_eq_true h
theorem kitv_ok {K : PySem.W.Frag} {x : Str} {t : String} {b : Bool} (h : (Xf.kitv x t b).ok K = true) : PySem.W.kitOne K (.ref (He.ga K x)) (.type t) = some b := of_decide_eq_true h
theorem exO_of {K : PySem.W.Frag} {mg : Str → Option Value} {x : Str} (g : mg x = some (.ref (He.ga K x))) (c : (He.Fa.exc x).ok K = true) : ExO K mg x := by
  obtain ⟨h1, h2, h3, h4⟩ := He.exc_ok c
  exact ⟨g, h1, h2, h3, h4⟩
/-! the head's facts, with these -/
abbrev AlX : Type := Bool × He.AlD
def obsX (xf : List Xf) (fa : List He.Fa) (fn : List He.DefD) (K : PySem.W.Frag) : AlX := (xf.all fun f => f.ok K, He.obsD fa fn K)
def SaysX (xf : List Xf) (fa : List He.Fa) (fn : List He.DefD) (K : PySem.W.Frag) : Prop := obsX xf fa fn K = (true, He.valD fn)
def asX (g : Addr → Option Obj) (n : Nat) : List Addr := cStatics :: He.asD g n
def obsXG (n : Nat) (xf : List Xf) (fa : List He.Fa) (fn : List He.DefD) (g : Addr → Option Obj) : AlX := obsX xf fa fn (He.frG g (asX g n))
def hookX (n : Nat) (xf : List Xf) (fa : List He.Fa) (fn : List He.DefD) : PySem.W.Hook where
  α := AlX
  obs := fun s => obsXG n xf fa fn s.heap.get?
  val := fun _ => (true, He.valD fn)
  says := fun _ h => ∃ K : PySem.W.Frag, K.In h ∧ SaysX xf fa fn K
  of := fun _ _ e => ⟨_, He.frG_in, e⟩
  keeps := fun _ _ _ ⟨K, hK, c⟩ k => ⟨K, PySem.W.Frag.In.keeps hK k, c⟩
theorem obsXG_eq {n : Nat} {xf : List Xf} {fa : List He.Fa} {fn : List He.DefD} {g : Addr → Option Obj} {s : Shared} (h : ∀ a, g a = s.heap.get? a) : obsXG n xf fa fn g = (hookX n xf fa fn).obs s := by
  have e : g = s.heap.get? := funext h
  subst e
  rfl
section
variable {xf : List Xf} {fa : List He.Fa} {fn : List He.DefD} {K : PySem.W.Frag}
theorem SaysX.d (c : SaysX xf fa fn K) : He.SaysD fa fn K := congrArg (fun z : AlX => z.2) c
theorem SaysX.x (c : SaysX xf fa fn K) (i : Nat) {f : Xf} (h : xf[i]? = some f := by rfl) : f.ok K = true := List.all_eq_true.mp (congrArg (fun z : AlX => z.1) c) f (List.mem_of_getElem? h)
end
/-! what such an __init__ promises -/
/-- a list whose length is told -/
def preL (K : PySem.W.Frag) (v : V) (H : Hp) : Prop := ∃ (p : Addr) (xs : List V), v = .ref p ∧ SqL K H p xs
def preN (_ : PySem.W.Frag) (_ : V) (_ : Hp) : Prop := True
def spI (K : PySem.W.Frag) (f : Str) (n : Nat) (pre : PySem.W.Frag → V → Hp → Prop) : Sp := fun vs H Q _ => vs.length = n ∧ ∃ (a C : Addr) (y : V), vs = [.ref a, y] ∧ OexC K C ∧ PySem.W.findIn K (.ref C) f = some none ∧ H a = some (exo a C none) ∧ pre K y H ∧
  ∀ dx, H dx = none → dx ≠ a → Q .non (upd (upd H dx (exd dx [(f, y)])) a (exo a C (some dx)))
/-- what dRaiseI looks at: a list -/
def isL (S : Sto) (x : Val) : Bool := match x with
  | .d (.list _) => true
  | .ref i => (match S[i]? with
    | some (.lst _) => true
    | _ => false)
  | _ => false
def isAny (_ : Sto) (_ : Val) : Bool := true
theorem preL_ok {K : PySem.W.Frag} {ρ : Rg} {H : Hp} {S : Sto} {v : V} {y : Val} (R : RS K ρ S H) (r : VR K ρ H v y) (h : isL S y = true) (a : Addr) (o : HO) (na : H a = none) : preL K v (upd H a o) := by
  have mono : ∀ {p : Addr} {xs : List V}, SqL K H p xs → SqL K (upd H a o) p xs := fun {p xs} z => by
    refine Ex.sl (fun b u e => ?_) z
    rw [upd_ne (ne_of_none e na)]
    exact e
  unfold isL at h
  split at h
  · obtain ⟨p, vs, e, hs, _⟩ := vr_list r
    exact ⟨p, vs, e, mono hs⟩
  · rename_i i
    obtain ⟨b, hi, rfl⟩ := r
    split at h
    · rename_i xs hS
      obtain ⟨vs, hv, _⟩ := R.ob i b _ hi hS
      exact ⟨b, vs, rfl, mono (SqL.of hv)⟩
    · cases h
  · cases h
section
variable {X : Cx} {f b : Str} {p1 p2 p3 p4 p5 p6 p7 pos pos2 pos3 : Pos} {n1 n2 n3 : Str}
/-- B.__init__(self, len(row)); self.f = row -/
theorem initL_body {sts : List Stmt} {D : Ends} {H : Hp} {a C : Addr} {y : V} {σ : L2.St} {t : TS} (h : PSs X sts t) (q : t D σ H) : ∃ t, PSs X sts t ∧ t D σ H := ⟨t, h, q⟩
end
theorem al_nil {P : Str → Prop} : ∀ y ∈ ([] : List Str), P y := fun y h => by cases h
theorem al_cons {P : Str → Prop} {a : Str} {l : List Str} (h : P a) (t : ∀ y ∈ l, P y) : ∀ y ∈ a :: l, P y := fun y hy => by
  rcases List.mem_cons.mp hy with rfl | hy
  · exact h
  · exact t y hy
theorem takes_no {X : Cx} : Takes X WF := fun u s' ⟨_, _, _, _, _, _, _, _, _, _, _, _, _, _, _, _, w⟩ => w.elim
theorem preN_ok {K : PySem.W.Frag} {ρ : Rg} {H : Hp} {S : Sto} {v : V} {y : Val} (_ : RS K ρ S H) (_ : VR K ρ H v y) (_ : isAny S y = true) (a : Addr) (o : HO) (_ : H a = none) : preN K v (upd H a o) := True.intro
end Lv
end
section
set_option Elab.async false
set_option linter.all false
set_option autoImplicit false
set_option maxRecDepth 100000
set_option maxHeartbeats 2000000
/-! What a reading gives, backwards: WE, WS, WG say that it gives something of which Q holds. -/
namespace Lv
open PySem PySem.Spec PyProof.Rows L2

def WE (o : Out) (Q : Val → Sto → Prop) : Prop := ∃ x S', o = some (.ok x, S') ∧ Q x S'
def WS (o : Option (Fl × Ev × Sto)) (Q : Fl → Ev → Sto → Prop) : Prop := ∃ f e S', o = some (f, e, S') ∧ Q f e S'
def WG (o : Option (Val × Sto)) (Q : Val → Sto → Prop) : Prop := ∃ x S', o = some (x, S') ∧ Q x S'
def WA (e : Ev) : List M → Sto → (List Val → Sto → Prop) → Prop
  | [], S, Q => Q [] S
  | m :: r, S, Q => WE (m e S) fun x S1 => WA e r S1 fun xs S2 => Q (x :: xs) S2
def WL (o : Option (List PyData × Sto)) (Q : List PyData → Sto → Prop) : Prop := ∃ x S', o = some (x, S') ∧ Q x S'
/-- a truth -/
def WB (Q : Bool → Sto → Prop) (x : Val) (S : Sto) : Prop := ∃ t, x = .d (.bool t) ∧ Q t S
def thenS (b : MS) (Q : Fl → Ev → Sto → Prop) : Fl → Ev → Sto → Prop
  | .nx, e, S => WS (b e S) Q
  | f, e, S => Q f e S
def endG (Q : Val → Sto → Prop) : Fl → Ev → Sto → Prop
  | .nx, _, S => Q (.d .none) S
  | .rt x, _, S => Q x S
  | _, _, _ => False
theorem WE.mono {o : Out} {Q Q' : Val → Sto → Prop} (h : WE o Q) (i : ∀ x S, Q x S → Q' x S) : WE o Q' := let ⟨x, S, e, q⟩ := h; ⟨x, S, e, i x S q⟩
theorem WS.mono {o : Option (Fl × Ev × Sto)} {Q Q' : Fl → Ev → Sto → Prop} (h : WS o Q) (i : ∀ f e S, Q f e S → Q' f e S) : WS o Q' := let ⟨x, e, S, z, q⟩ := h; ⟨x, e, S, z, i x e S q⟩
theorem WG.mono {o : Option (Val × Sto)} {Q Q' : Val → Sto → Prop} (h : WG o Q) (i : ∀ x S, Q x S → Q' x S) : WG o Q' := let ⟨x, S, e, q⟩ := h; ⟨x, S, e, i x S q⟩
theorem WL.mono {o : Option (List PyData × Sto)} {Q Q' : List PyData → Sto → Prop} (h : WL o Q) (i : ∀ x S, Q x S → Q' x S) : WL o Q' := let ⟨x, S, e, q⟩ := h; ⟨x, S, e, i x S q⟩
section
variable {e : Ev} {S : Sto} {Q : Val → Sto → Prop} {R : Fl → Ev → Sto → Prop} {a b c d m : M} {ms : List M}
theorem wb_intro {Q : Bool → Sto → Prop} {t : Bool} (h : Q t S) : WB Q (.d (.bool t)) S := ⟨t, rfl, h⟩
theorem wa_nil {Q : List Val → Sto → Prop} (h : Q [] S) : WA e [] S Q := h
theorem wa_cons {Q : List Val → Sto → Prop} (h : WE (m e S) fun x S1 => WA e ms S1 fun xs S2 => Q (x :: xs) S2) : WA e (m :: ms) S Q := h
theorem we_lift {o : Option (Val × Sto)} (h : WG o Q) : WE (lift o) Q := by
  obtain ⟨x, S', e1, q⟩ := h
  exact ⟨x, S', by rw [e1]; rfl, q⟩
theorem we_ok {x : Val} (h : Q x S) : WE (some (.ok x, S)) Q := ⟨x, S, rfl, h⟩
theorem wg_some {x : Val} (h : Q x S) : WG (some (x, S)) Q := ⟨x, S, rfl, h⟩
theorem ws_some {f : Fl} (h : R f e S) : WS (some (f, e, S)) R := ⟨f, e, S, rfl, h⟩
theorem we_int {i : Int} (h : Q (.d (.int i)) S) : WE (mInt i e S) Q := we_ok h
theorem we_str {i : Str} (h : Q (.d (.str i)) S) : WE (mStr i e S) Q := we_ok h
theorem we_bool {i : Bool} (h : Q (.d (.bool i)) S) : WE (mBool i e S) Q := we_ok h
theorem we_non (h : Q (.d .none) S) : WE (mNone e S) Q := we_ok h
theorem we_dic0 (h : Q (.ref S.length) (S ++ [.dic []])) : WE (mDic0 e S) Q := we_ok h
theorem we_var {i : Nat} {x : Val} (hx : e[i]? = some (some x)) (h : Q x S) : WE (mVar i e S) Q := by
  refine ⟨x, S, ?_, h⟩
  unfold mVar
  rw [hx]
theorem we_bnd {k : Val → M} (h : WE (m e S) fun x S1 => WE (k x e S1) Q) : WE (bnd m k e S) Q := by
  obtain ⟨x, S1, e1, q⟩ := h
  unfold bnd
  rw [e1]
  exact q
theorem we_op {f : F2} (h : WE (a e S) fun x S1 => WE (b e S1) fun y S2 => WG (f x y S2) Q) : WE (mOp f a b e S) Q :=
  we_bnd (h.mono fun x S1 h => we_bnd (h.mono fun y S2 h => we_lift h))
theorem we_op1 {f : F1} (h : WE (a e S) fun x S1 => WG (f x S1) Q) : WE (mOp1 f a e S) Q := we_bnd (h.mono fun x S1 h => we_lift h)
theorem WA.mono {Q Q' : List Val → Sto → Prop} : ∀ {ms : List M} {S : Sto} {Q Q' : List Val → Sto → Prop}, WA e ms S Q → (∀ xs S, Q xs S → Q' xs S) → WA e ms S Q'
  | [], S, Q, Q', h, i => i _ _ h
  | m :: ms, S, Q, Q', h, i => WE.mono h fun x S1 q => WA.mono (Q := fun _ _ => True) (Q' := fun _ _ => True) q fun xs S2 z => i _ _ z
theorem we_args : ∀ {ms : List M} {k : List Val → M} {S : Sto}, WA e ms S (fun xs S1 => WE (k xs e S1) Q) → WE (args ms k e S) Q
  | [], k, S, h => h
  | m :: ms, k, S, h => we_bnd (WE.mono h fun x S1 q => we_args q)
theorem we_fn {f : FN} (h : WA e ms S fun xs S1 => WG (f xs S1) Q) : WE (mFn f ms e S) Q := we_args (WA.mono (Q := fun _ _ => True) (Q' := fun _ _ => True) h fun xs S1 q => we_lift q)
theorem we_call {g : Fn} (h : WA e ms S fun xs S1 => WG (g xs S1) Q) : WE (mCall g ms e S) Q := we_fn h
theorem we_make {C : Addr} {g : Fn} (h : WA e ms S fun xs S1 => WG (g (.ref S1.length :: xs) (S1 ++ [.ins C []])) fun z S' => z = .d .none ∧ Q (.ref S1.length) S') : WE (mMake C g ms e S) Q := by
  refine we_args (WA.mono (Q := fun _ _ => True) (Q' := fun _ _ => True) h fun xs S1 q => ?_)
  obtain ⟨z, S', e1, rfl, q⟩ := q
  simp only [e1]
  exact we_ok q
theorem we_fld {C : Addr} {f : Str} (h : WE (m e S) fun x S1 => ∃ i fs y, insAt C S1 x = some (i, fs) ∧ fs.lookup f = some y ∧ Q y S1) : WE (mFld C f m e S) Q := by
  refine we_bnd (h.mono fun x S1 q => ?_)
  obtain ⟨i, fs, y, h1, h2, q⟩ := q
  simp only [h1, h2]
  exact we_ok q
theorem we_meth {C : Addr} {n : Str} {g : Fn} (h : WE (m e S) fun x S1 => ∃ i fs, insAt C S1 x = some (i, fs) ∧ fs.lookup n = none ∧ WA e ms S1 fun xs S2 => WG (g (x :: xs) S2) Q) : WE (mMeth C n g m ms e S) Q := by
  refine we_bnd (h.mono fun x S1 q => ?_)
  obtain ⟨i, fs, h1, h2, q⟩ := q
  simp only [h1, h2]
  exact we_args (WA.mono (Q := fun _ _ => True) (Q' := fun _ _ => True) q fun xs S1 q => we_lift q)
theorem we_bndB {k : Bool → M} (h : WE (m e S) (WB fun t S1 => WE (k t e S1) Q)) : WE (bndB m k e S) Q := by
  refine we_bnd (h.mono fun x S1 q => ?_)
  obtain ⟨t, rfl, q⟩ := q
  exact q
theorem we_not (h : WE (m e S) (WB fun t S1 => Q (.d (.bool (!t))) S1)) : WE (mNot m e S) Q := we_bndB (h.mono fun x S1 ⟨t, h1, q⟩ => ⟨t, h1, we_bool q⟩)
theorem we_ite {t : Prop} [Decidable t] (h : if t then WE (a e S) Q else WE (b e S) Q) : WE ((if t then a else b) e S) Q := by
  split at h
  · rw [if_pos (by assumption)]; exact h
  · rw [if_neg (by assumption)]; exact h
theorem we_and (h : WE (a e S) (WB fun t S1 => if t = true then WE (b e S1) Q else Q (.d (.bool false)) S1)) : WE (mAnd a b e S) Q := by
  refine we_bndB (h.mono fun x S1 ⟨t, h1, q⟩ => ⟨t, h1, we_ite ?_⟩)
  cases t
  · exact we_bool q
  · exact q
theorem we_or (h : WE (a e S) (WB fun t S1 => if t = true then Q (.d (.bool true)) S1 else WE (b e S1) Q)) : WE (mOr a b e S) Q := by
  refine we_bndB (h.mono fun x S1 ⟨t, h1, q⟩ => ⟨t, h1, we_ite ?_⟩)
  cases t
  · exact q
  · exact we_bool q
theorem we_ifx (h : WE (c e S) (WB fun t S1 => if t = true then WE (a e S1) Q else WE (b e S1) Q)) : WE (mIf c a b e S) Q :=
  we_bndB (h.mono fun x S1 ⟨t, h1, q⟩ => ⟨t, h1, we_ite q⟩)
theorem we_lif2 {f : F2} {x y : Val} (h : WG (f x y S) Q) : WE (lif2 f x y e S) Q := we_lift h
theorem WG.we {f : F2} {x y : Val} (h : WG (f x y S) Q) : WE (lif2 f x y e S) Q := we_lift h
theorem we_ch2 {f f' : F2} (h : WE (a e S) fun x S1 => WE (b e S1) fun y S2 => WG (f x y S2) (WB fun t S3 => if t = true then WE (c e S3) fun w S4 => WG (f' y w S4) Q else Q (.d (.bool false)) S3)) : WE (mCh2 f f' a b c e S) Q := by
  refine we_bnd (h.mono fun x S1 h => we_bnd (h.mono fun y S2 h => we_bndB (WG.we (h.mono fun z S3 ⟨t, h1, h⟩ => ⟨t, h1, we_ite ?_⟩))))
  cases t
  · exact we_bool h
  · exact we_bnd (WE.mono h fun w S4 h => WG.we h)
theorem we_ch3 {f f' f'' : F2} (h : WE (a e S) fun x S1 => WE (b e S1) fun y S2 => WG (f x y S2) (WB fun t S3 => if t = true then WE (c e S3) fun w S4 => WG (f' y w S4) (WB fun t' S5 => if t' = true then WE (d e S5) fun u S6 => WG (f'' w u S6) Q else Q (.d (.bool false)) S5) else Q (.d (.bool false)) S3)) : WE (mCh3 f f' f'' a b c d e S) Q := by
  refine we_bnd (h.mono fun x S1 h => we_bnd (h.mono fun y S2 h => we_bndB (WG.we (h.mono fun z S3 ⟨t, h1, h⟩ => ⟨t, h1, we_ite ?_⟩))))
  cases t
  · exact we_bool h
  · refine we_bnd (WE.mono h fun w S4 h => we_bndB (WG.we (h.mono fun z S5 ⟨t', h2, h⟩ => ⟨t', h2, we_ite ?_⟩)))
    cases t'
    · exact we_bool h
    · exact we_bnd (WE.mono h fun w S4 h => WG.we h)
def WP (e : Ev) (m : Option M) (S : Sto) (Q : Option Int → Sto → Prop) : Prop := match m with
  | none => Q none S
  | some m => WE (m e S) fun x S1 => ∃ i, x = .d (.int i) ∧ Q (some i) S1
theorem wp_none {Q : Option Int → Sto → Prop} (h : Q none S) : WP e none S Q := h
theorem wp_some {Q : Option Int → Sto → Prop} (h : WE (m e S) fun x S1 => ∃ i, x = .d (.int i) ∧ Q (some i) S1) : WP e (some m) S Q := h
theorem WP.mono {o : Option M} {Q Q' : Option Int → Sto → Prop} (h : WP e o S Q) (i : ∀ x S, Q x S → Q' x S) : WP e o S Q' := by
  cases o with
  | none => exact i _ _ h
  | some m => exact WE.mono h fun x S1 ⟨j, h1, q⟩ => ⟨j, h1, i _ _ q⟩
theorem we_bndP {o : Option M} {k : Option Int → M} (h : WP e o S fun i S1 => WE (k i e S1) Q) : WE (bndP o k e S) Q := by
  cases o with
  | none => exact h
  | some m =>
    refine we_bnd (WE.mono h fun x S1 q => ?_)
    obtain ⟨i, rfl, q⟩ := q
    exact q
theorem we_sl {f : F3} {lo hi : Option M} (h : WE (a e S) fun x S1 => WP e lo S1 fun l S2 => WP e hi S2 fun h S3 => WG (f x l h S3) Q) : WE (mSl f a lo hi e S) Q :=
  we_bnd (h.mono fun x S1 h => we_bndP (h.mono fun l S2 h => we_bndP (h.mono fun r S3 h => we_lift h)))
theorem we_join (h : WE (a e S) fun x S1 => ∃ z, x = .d (.str z) ∧ WE (b e S1) fun y S2 => WG (fJoin (.d (.str z)) y S2) Q) : WE (mJoin a b e S) Q := by
  refine we_bnd (h.mono fun x S1 q => ?_)
  obtain ⟨z, rfl, q⟩ := q
  exact we_bnd (q.mono fun y S2 q => we_lift q)
theorem lst_at {i : Nat} {xs : List Val} (h : S[i]? = some (.lst xs)) : lstAt S (.ref i) = some (i, xs) := by simp [lstAt, h]
theorem we_lm {f : FL} (h : WE (m e S) fun x S1 => ∃ i xs, x = .ref i ∧ S1[i]? = some (.lst xs) ∧ WA e ms S1 fun ys S2 => ∃ zs, S2[i]? = some (.lst zs) ∧ WG (f i zs ys S2) Q) : WE (mLm f m ms e S) Q := by
  refine we_bnd (h.mono fun x S1 q => ?_)
  obtain ⟨i, xs, rfl, h1, q⟩ := q
  simp only [lst_at h1]
  refine we_args (WA.mono (Q := fun _ _ => True) (Q' := fun _ _ => True) q fun ys S2 q => ?_)
  obtain ⟨zs, h2, q⟩ := q
  simp only [lst_at h2]
  exact we_lift q
theorem we_lc {f : FSr} {asg : Asg} {t : Option M} {vs : List Nat} (h : WA e ms S fun xs S1 => ∃ sr, f xs S1 = some sr ∧ WL (cl sr.kp asg t m (wipeE e vs) sr.xs [] S1) fun ps S' => Q (.d (.list ps)) S') : WE (mLc ms f asg t m vs e S) Q := by
  refine we_args (WA.mono (Q := fun _ _ => True) (Q' := fun _ _ => True) h fun xs S1 q => ?_)
  obtain ⟨sr, h1, ps, S', h2, q⟩ := q
  simp only [h1, h2]
  exact we_ok q
theorem we_lcN {f : FSr} {asg : Asg} {t : Option M} {vs : List Nat} (h : WA e ms S fun xs S1 => ∃ sr, f xs S1 = some sr ∧ WL (cl sr.kp asg t m (wipeE e vs) sr.xs [] S1) fun ps S' => Q (.ref S'.length) (S' ++ [.lst (ps.map .d)])) : WE (mLcN ms f asg t m vs e S) Q := by
  refine we_args (WA.mono (Q := fun _ _ => True) (Q' := fun _ _ => True) h fun xs S1 q => ?_)
  obtain ⟨sr, h1, ps, S', h2, q⟩ := q
  simp only [h1, h2]
  exact we_ok q
theorem pick_is {i : Nat} {S' : Sto} (h : m e S = some (.ok (.ref i), S')) : pick m e S = some i := by simp [pick, h]
theorem we_lock {i : Nat} {kvs : List (Key × Val)} (hp : WE (m e S) fun x _ => x = .ref i) (h : S[i]? = some (.dic kvs)) (q : WE (a e (S.set i (.dicL kvs))) fun x S' => S'[i]? = some (.dicL kvs) ∧ Q x (S'.set i (.dic kvs))) : WE (mLock (pick m) a e S) Q := by
  obtain ⟨_, S1, e1, rfl⟩ := hp
  obtain ⟨x, S', e2, h2, q⟩ := q
  unfold mLock
  simp only [pick_is e1, h, e2, h2, if_true]
  exact we_ok q
/-! statements -/
theorem ws_next (h : R .nx e S) : WS (dNext e S) R := ws_some h
theorem ws_bndS {k : Val → MS} (h : WE (m e S) fun x S1 => WS (k x e S1) R) : WS (bndS m k e S) R := by
  obtain ⟨x, S1, e1, q⟩ := h
  unfold bndS
  rw [e1]
  exact q
theorem ws_bndBS {k : Bool → MS} (h : WE (m e S) (WB fun t S1 => WS (k t e S1) R)) : WS (bndBS m k e S) R := by
  refine ws_bndS (h.mono fun x S1 q => ?_)
  obtain ⟨t, rfl, q⟩ := q
  exact q
theorem ws_argsS : ∀ {ms : List M} {k : List Val → MS} {S : Sto}, WA e ms S (fun xs S1 => WS (k xs e S1) R) → WS (argsS ms k e S) R
  | [], k, S, h => h
  | m :: ms, k, S, h => ws_bndS (WE.mono h fun x S1 q => ws_argsS q)
theorem ws_seq {x y : MS} (h : WS (x e S) (thenS y R)) : WS (dSeq x y e S) R := by
  obtain ⟨f, e1, S1, eq, q⟩ := h
  unfold dSeq
  rw [eq]
  cases f with
  | nx => exact q
  | bk => exact ws_some q
  | ct => exact ws_some q
  | rt z => exact ws_some q
  | er z => exact ws_some q
theorem ws_seq_mid {x y : MS} (P : Ev → Sto → Prop) (h : WS (x e S) fun f e S => f = .nx ∧ P e S) (h2 : ∀ e S, P e S → WS (y e S) R) : WS (dSeq x y e S) R := ws_seq (h.mono fun f e S ⟨z, q⟩ => by subst z; exact h2 e S q)
theorem ws_set {i : Nat} (h : WE (m e S) fun x S1 => R .nx (e.set i (some x)) S1) : WS (dSet i m e S) R := ws_bndS (h.mono fun x S1 q => ws_some q)
theorem ws_expr (h : WE (m e S) fun x S1 => R .nx e S1) : WS (dExpr m e S) R := ws_bndS (h.mono fun x S1 q => ws_some q)
theorem ws_ret (h : WE (m e S) fun x S1 => R (.rt x) e S1) : WS (dRet m e S) R := ws_bndS (h.mono fun x S1 q => ws_some q)
theorem ws_retN (h : R (.rt (.d .none)) e S) : WS (dRetN e S) R := ws_some h
theorem ws_if {x y : MS} (h : WE (c e S) (WB fun t S1 => if t = true then WS (x e S1) R else WS (y e S1) R)) : WS (dIf c x y e S) R := by
  refine ws_bndBS (h.mono fun z S1 ⟨t, h1, q⟩ => ⟨t, h1, ?_⟩)
  cases t <;> exact q
theorem ws_asg {g : Asg} (h : WE (m e S) fun x S1 => ∃ e', g x e S1 = some e' ∧ R .nx e' S1) : WS (dAsg g m e S) R := by
  refine ws_bndS (h.mono fun x S1 q => ?_)
  obtain ⟨e', h1, q⟩ := q
  simp only [h1]
  exact ws_some q
theorem ws_setIx (h : WE (c e S) fun v S1 => WE (a e S1) fun o S2 => WE (b e S2) fun i S3 => ∃ S4, fSet o i v S3 = some S4 ∧ R .nx e S4) : WS (dSetIx a b c e S) R := by
  refine ws_bndS (h.mono fun v S1 h => ws_bndS (h.mono fun o S2 h => ws_bndS (h.mono fun i S3 h => ?_)))
  obtain ⟨S4, h1, q⟩ := h
  simp only [h1]
  exact ws_some q
theorem ws_fld {C : Addr} {f : Str} (h : WE (b e S) fun y S1 => WE (a e S1) fun x S2 => ∃ i fs, insAt C S2 x = some (i, fs) ∧ fs.length < 1000 ∧ R .nx e (S2.set i (.ins C (putFv f y fs)))) : WS (dSetFld C f a b e S) R := by
  refine ws_bndS (h.mono fun v S1 h => ws_bndS (h.mono fun o S2 h => ?_))
  obtain ⟨i, fs, h1, h2, q⟩ := h
  simp only [h1, h2, if_true]
  exact ws_some q
theorem ws_for {f : FSr} {g : Asg} {x : MS} (h : WA e ms S fun xs S1 => ∃ sr, f xs S1 = some sr ∧ WS (loop sr.kp g x sr.xs e S1) R) : WS (dFor ms f g x e S) R := by
  refine ws_argsS (WA.mono (Q := fun _ _ => True) (Q' := fun _ _ => True) h fun xs S1 q => ?_)
  obtain ⟨sr, h1, q⟩ := q
  simp only [h1]
  exact q
theorem ws_lock {i : Nat} {kvs : List (Key × Val)} {x : MS} (hp : WE (m e S) fun x _ => x = .ref i) (h : S[i]? = some (.dic kvs)) (q : WS (x e (S.set i (.dicL kvs))) fun f e' S' => S'[i]? = some (.dicL kvs) ∧ (∀ z, f ≠ .er z) ∧ R f e' (S'.set i (.dic kvs))) : WS (dLock (pick m) x e S) R := by
  obtain ⟨_, S1, e1, rfl⟩ := hp
  obtain ⟨f, e', S', e2, h2, h3, q⟩ := q
  unfold dLock
  simp only [pick_is e1, h, e2]
  cases f with
  | er z => exact absurd rfl (h3 z)
  | nx => simp only [h2, if_true]; exact ws_some q
  | bk => simp only [h2, if_true]; exact ws_some q
  | ct => simp only [h2, if_true]; exact ws_some q
  | rt z => simp only [h2, if_true]; exact ws_some q
/-! loops -/
/-- what a turn leaves: on, or out -/
def turnS (On : Ev → Sto → Prop) (R : Fl → Ev → Sto → Prop) : Fl → Ev → Sto → Prop
  | .nx, e, S => On e S
  | .ct, e, S => On e S
  | .bk, e, S => R .nx e S
  | f, e, S => R f e S
theorem ws_loop {kp : Option (Nat × Ob)} {g : Asg} {x : MS} (I : List Val → Ev → Sto → Prop) (step : ∀ v r e S, I (v :: r) e S → Kp S kp ∧ ∃ e1, g v e S = some e1 ∧ WS (x e1 S) (turnS (I r) R)) (stop : ∀ e S, I [] e S → Kp S kp ∧ R .nx e S) : ∀ (xs : List Val) (e : Ev) (S : Sto), I xs e S → WS (loop kp g x xs e S) R
  | [], e, S, h => by
    obtain ⟨h1, h2⟩ := stop e S h
    unfold loop
    rw [if_pos h1]
    exact ws_some h2
  | v :: r, e, S, h => by
    obtain ⟨h1, e1, h2, f, e2, S2, h3, q⟩ := step v r e S h
    unfold loop
    rw [if_pos h1, h2]
    simp only [h3]
    cases f with
    | nx => exact ws_loop I step stop r e2 S2 q
    | ct => exact ws_loop I step stop r e2 S2 q
    | bk => exact ws_some q
    | rt z => exact ws_some q
    | er z => exact ws_some q
/-- a loop over things that f says -/
theorem ws_loopM {α : Type} {f : α → Val} {kp : Option (Nat × Ob)} {g : Asg} {x : MS} {xs : List α} (I : List α → Ev → Sto → Prop) (step : ∀ dn v r e S, xs = dn ++ v :: r → I dn e S → Kp S kp ∧ ∃ e1, g (f v) e S = some e1 ∧ WS (x e1 S) (turnS (I (dn ++ [v])) R)) (stop : ∀ e S, I xs e S → Kp S kp ∧ R .nx e S) (h : I [] e S) : WS (loop kp g x (xs.map f) e S) R := by
  refine ws_loop (fun r e S => ∃ dn r', r = r'.map f ∧ xs = dn ++ r' ∧ I dn e S) ?_ ?_ _ _ _ ⟨[], xs, rfl, rfl, h⟩
  · rintro v r e S ⟨dn, r', hr, hx, hI⟩
    cases r' with
    | nil => cases hr
    | cons a r' =>
      cases hr
      obtain ⟨h1, e1, h2, h3⟩ := step dn a r' e S hx hI
      refine ⟨h1, e1, h2, h3.mono fun f e' S' q => ?_⟩
      cases f with
      | nx => exact ⟨dn ++ [a], r', rfl, by simp [hx], q⟩
      | ct => exact ⟨dn ++ [a], r', rfl, by simp [hx], q⟩
      | bk => exact q
      | rt z => exact q
      | er z => exact q
  · rintro e S ⟨dn, r', hr, hx, hI⟩
    have : r' = [] := List.map_eq_nil_iff.mp hr.symm
    subst this
    rw [List.append_nil] at hx
    subst hx
    exact stop e S hI
/-- a comprehension whose test and item keep the store -/
theorem wl_cl {kp : Option (Nat × Ob)} {g : Asg} {t : Option M} {Q : List PyData → Sto → Prop} {pr : Val → Bool} {fn : Val → PyData} (hk : Kp S kp) : ∀ (xs : List Val) (acc : List PyData), (∀ v ∈ xs, ∃ e1, g v e S = some e1 ∧ tst t e1 S = some (pr v, S) ∧ (pr v = true → m e1 S = some (.ok (.d (fn v)), S))) → acc.length + xs.length ≤ sizeLine →
    Q (acc ++ (xs.filter pr).map fn) S → WL (cl kp g t m e xs acc S) Q
  | [], acc, _, _, q => by
    unfold cl
    rw [if_pos hk]
    exact ⟨_, _, rfl, by simpa using q⟩
  | v :: r, acc, h, hz, q => by
    obtain ⟨e1, h1, h2, h3⟩ := h v List.mem_cons_self
    unfold cl
    rw [if_pos hk, h1]
    simp only [h2]
    cases hp : pr v with
    | true =>
      have h3 := h3 hp
      simp only [h3]
      rw [if_pos (by simp at hz; omega)]
      refine wl_cl hk r _ (fun u hu => h u (List.mem_cons_of_mem _ hu)) (by simp at hz ⊢; omega) ?_
      simpa [List.filter_cons, hp] using q
    | false =>
      refine wl_cl hk r _ (fun u hu => h u (List.mem_cons_of_mem _ hu)) (by simp at hz ⊢; omega) ?_
      simpa [List.filter_cons, hp] using q
/-- a comprehension of no test, over what f says -/
theorem wl_clM {α : Type} {f : α → Val} {fn : α → PyData} {kp : Option (Nat × Ob)} {g : Asg} {Q : List PyData → Sto → Prop} {xs : List α} (hk : Kp S kp) (h : ∀ a ∈ xs, ∃ e1, g (f a) e S = some e1 ∧ m e1 S = some (.ok (.d (fn a)), S)) (hz : xs.length ≤ sizeLine) (q : Q (xs.map fn) S) : WL (cl kp g none m e (xs.map f) [] S) Q := by
  have key : ∀ (ys : List α) (acc : List PyData), (∀ a ∈ ys, ∃ e1, g (f a) e S = some e1 ∧ m e1 S = some (.ok (.d (fn a)), S)) → acc.length + ys.length ≤ sizeLine → cl kp g none m e (ys.map f) acc S = some (acc ++ ys.map fn, S) := by
    intro ys
    induction ys with
    | nil =>
      intro acc _ _
      simp only [List.map_nil]
      unfold cl
      rw [if_pos hk, List.append_nil]
    | cons a ys ih =>
      intro acc h hz
      obtain ⟨e1, h1, h2⟩ := h a List.mem_cons_self
      simp only [List.map_cons]
      unfold cl
      rw [if_pos hk, h1]
      simp only [tst, h2]
      rw [if_pos (by simp at hz; omega), ih _ (fun b hb => h b (List.mem_cons_of_mem _ hb)) (by simp at hz ⊢; omega)]
      simp
  exact ⟨_, _, key xs [] h (by simpa using hz), by simpa using q⟩
/-- .. with a test -/
theorem wl_clT {α : Type} {f : α → Val} {fn : α → PyData} {pr : α → Bool} {kp : Option (Nat × Ob)} {g : Asg} {t : M} {Q : List PyData → Sto → Prop} {xs : List α} (hk : Kp S kp) (h : ∀ a ∈ xs, ∃ e1, g (f a) e S = some e1 ∧ (WE (t e1 S) fun x S' => x = .d (.bool (pr a)) ∧ S' = S) ∧ (pr a = true → m e1 S = some (.ok (.d (fn a)), S))) (hz : xs.length ≤ sizeLine) (q : Q ((xs.filter pr).map fn) S) : WL (cl kp g (some t) m e (xs.map f) [] S) Q := by
  have key : ∀ (ys : List α) (acc : List PyData), (∀ a ∈ ys, ∃ e1, g (f a) e S = some e1 ∧ (WE (t e1 S) fun x S' => x = .d (.bool (pr a)) ∧ S' = S) ∧ (pr a = true → m e1 S = some (.ok (.d (fn a)), S))) → acc.length + ys.length ≤ sizeLine → cl kp g (some t) m e (ys.map f) acc S = some (acc ++ (ys.filter pr).map fn, S) := by
    intro ys
    induction ys with
    | nil =>
      intro acc _ _
      simp only [List.map_nil]
      unfold cl
      rw [if_pos hk]
      simp
    | cons a ys ih =>
      intro acc h hz
      obtain ⟨e1, h1, ⟨x, S', h2, rfl, rfl⟩, h3⟩ := h a List.mem_cons_self
      simp only [List.map_cons]
      unfold cl
      rw [if_pos hk, h1]
      simp only [tst, h2]
      cases hp : pr a with
      | true =>
        simp only [h3 hp]
        rw [if_pos (by simp at hz; omega), ih _ (fun b hb => h b (List.mem_cons_of_mem _ hb)) (by simp at hz ⊢; omega)]
        simp [hp]
      | false =>
        simp only []
        rw [ih _ (fun b hb => h b (List.mem_cons_of_mem _ hb)) (by simp at hz ⊢; omega)]
        simp [hp]
  exact ⟨_, _, key xs [] h (by simpa using hz), by simpa using q⟩
/-- a test of a comprehension -/
def WTst (t : Option M) (e : Ev) (S : Sto) (Q : Bool → Sto → Prop) : Prop := match t with
  | none => Q true S
  | some m => WE (m e S) (WB Q)
/-- a comprehension whose test or item changes the store -/
theorem wl_clI {α : Type} {f : α → Val} {kp : Option (Nat × Ob)} {g : Asg} {t : Option M} {Q : List PyData → Sto → Prop} {xs : List α} (I : List α → List PyData → Sto → Prop)
    (step : ∀ dn a r acc S, xs = dn ++ a :: r → I dn acc S → Kp S kp ∧ ∃ e1, g (f a) e S = some e1 ∧ WTst t e1 S fun b S1 => if b = true then WE (m e1 S1) fun x S2 => ∃ p, x = .d p ∧ acc.length < sizeLine ∧ I (dn ++ [a]) (acc ++ [p]) S2 else I (dn ++ [a]) acc S1)
    (stop : ∀ acc S, I xs acc S → Kp S kp ∧ Q acc S) (h : I [] [] S) : WL (cl kp g t m e (xs.map f) [] S) Q := by
  have key : ∀ (r dn : List α) (acc : List PyData) (S : Sto), xs = dn ++ r → I dn acc S → WL (cl kp g t m e (r.map f) acc S) Q := by
    intro r
    induction r with
    | nil =>
      intro dn acc S hx hI
      rw [List.append_nil] at hx
      subst hx
      obtain ⟨h1, h2⟩ := stop acc S hI
      simp only [List.map_nil]
      unfold cl
      rw [if_pos h1]
      exact ⟨_, _, rfl, h2⟩
    | cons a r ih =>
      intro dn acc S hx hI
      obtain ⟨h1, e1, h2, h3⟩ := step dn a r acc S hx hI
      simp only [List.map_cons]
      unfold cl
      rw [if_pos h1, h2]
      have hx' : xs = (dn ++ [a]) ++ r := by rw [hx]; simp
      cases t with
      | none =>
        obtain ⟨x, S2, e2, p, rfl, h4, h5⟩ : WE (m e1 S) fun x S2 => ∃ p, x = .d p ∧ acc.length < sizeLine ∧ I (dn ++ [a]) (acc ++ [p]) S2 := h3
        simp only [tst, e2]
        rw [if_pos h4]
        exact ih _ _ _ hx' h5
      | some mt =>
        obtain ⟨x, S1, e2, b, rfl, h3⟩ := h3
        simp only [tst, e2]
        cases b with
        | true =>
          obtain ⟨x, S2, e3, p, rfl, h4, h5⟩ : WE (m e1 S1) fun x S2 => ∃ p, x = .d p ∧ acc.length < sizeLine ∧ I (dn ++ [a]) (acc ++ [p]) S2 := h3
          simp only [e3]
          rw [if_pos h4]
          exact ih _ _ _ hx' h5
        | false => exact ih _ _ _ hx' h3
  exact key xs [] [] S rfl h
theorem tst_none {S : Sto} : tst none e S = some (true, S) := rfl
theorem tst_some {t : Bool} (h : WE (m e S) fun x S' => x = .d (.bool t) ∧ S' = S) : tst (some m) e S = some (t, S) := by
  obtain ⟨_, _, e1, rfl, rfl⟩ := h
  simp [tst, e1]
theorem we_eq {x : Val} (h : WE (m e S) fun y S' => y = x ∧ S' = S) : m e S = some (.ok x, S) := by
  obtain ⟨_, _, e1, rfl, rfl⟩ := h
  exact e1
theorem wg_eq {o : Option (Val × Sto)} {x : Val} (h : WG o fun y S' => y = x ∧ S' = S) : o = some (x, S) := by
  obtain ⟨_, _, e1, rfl, rfl⟩ := h
  exact e1
/-! defs -/
theorem wg_keep {n : Nat} {x : MS} {xs : List Val} (h : WS (x (env0 n xs) S) (endG Q)) : WG (fnKeep n x xs S) Q := by
  obtain ⟨f, e', S', eq, q⟩ := h
  unfold fnKeep
  rw [eq]
  cases f with
  | nx => exact wg_some q
  | rt z => exact wg_some q
  | bk => exact q.elim
  | ct => exact q.elim
  | er z => exact q.elim
theorem wg_cut {n : Nat} {x : MS} {xs : List Val} (h : WS (x (env0 n xs) S) (endG fun z S' => CutOk S S' ∧ ∃ y, frzV S.length S' z = some y ∧ Q y (S'.take S.length))) : WG (fnCut n x xs S) Q := by
  obtain ⟨z, S', eq, h1, y, h2, q⟩ := wg_keep h
  unfold fnCut
  rw [eq]
  simp only [h1, if_true, h2]
  exact wg_some q
end
end Lv
end
section
set_option Elab.async false
set_option linter.all false
set_option autoImplicit false
set_option maxRecDepth 100000
set_option maxHeartbeats 2000000
/-! What the operations give; steps. -/
namespace Lv
open PySem PySem.Spec PyProof.Rows L2
section
variable {S : Sto} {Q : Val → Sto → Prop} {R : Fl → Ev → Sto → Prop} {e : Ev} {i j : Int}
def WK (e : Ev) : List Str → List M → Sto → (List (Key × Val) → Sto → Prop) → Prop
  | k :: ks, m :: ms, S, C => WE (m e S) fun y S1 => WK e ks ms S1 fun r S2 => C ((.inr k, y) :: r) S2
  | _, _, S, C => C [] S
theorem wk_nil {C : List (Key × Val) → Sto → Prop} (h : C [] S) : WK e [] [] S C := h
theorem wk_cons {k : Str} {ks : List Str} {m : M} {ms : List M} {C : List (Key × Val) → Sto → Prop} (h : WE (m e S) fun y S1 => WK e ks ms S1 fun r S2 => C ((.inr k, y) :: r) S2) : WK e (k :: ks) (m :: ms) S C := h
theorem we_argsKV : ∀ {ks : List Str} {ms : List M} {c : List (Key × Val) → M} {S : Sto}, WK e ks ms S (fun r S1 => WE (c r e S1) Q) → WE (argsKV ks ms c e S) Q
  | k :: ks, m :: ms, c, S, h => we_bnd (we_str (we_bnd (WE.mono h fun y S1 q => we_argsKV q)))
  | [], [], c, S, h => h
  | [], _ :: _, c, S, h => h
  | _ :: _, [], c, S, h => h
theorem WK.mono : ∀ {ks : List Str} {ms : List M} {S : Sto} {C C' : List (Key × Val) → Sto → Prop}, WK e ks ms S C → (∀ r S, C r S → C' r S) → WK e ks ms S C'
  | k :: ks, m :: ms, S, C, C', h, i => WE.mono h fun y S1 q => WK.mono q fun r S2 z => i _ _ z
  | [], [], S, C, C', h, i => i _ _ h
  | [], _ :: _, S, C, C', h, i => i _ _ h
  | _ :: _, [], S, C, C', h, i => i _ _ h
theorem we_disp {ks : List Str} {ms : List M} (h : WK e ks ms (S ++ [.dic []]) fun kvs S2 => S2[S.length]? = some (.dic []) ∧ Q (.ref S.length) (S2.set S.length (.dic kvs))) : WE (mDisp ks ms e S) Q := by
  unfold mDisp
  refine we_argsKV (h.mono fun r S1 q => ?_)
  rw [if_pos q.1]
  exact we_ok q.2
theorem wg_catN {i j : Nat} {xs ys : List Val} (h1 : S[i]? = some (.lst xs)) (h2 : S[j]? = some (.lst ys)) (hz : xs.length + ys.length ≤ sizeLine) (h : Q (.ref S.length) (S ++ [.lst (xs ++ ys)])) : WG (fCatN (.ref i) (.ref j) S) Q := by
  unfold fCatN
  simp only [h1, h2, if_pos hz]
  exact wg_some h
theorem wg_slN {i : Nat} {xs : List Val} {lo hi : Option Int} (h1 : S[i]? = some (.lst xs)) (h : Q (.ref S.length) (S ++ [.lst (cutL xs lo hi)])) : WG (fSlN (.ref i) lo hi S) Q := by
  unfold fSlN
  simp only [h1]
  exact wg_some h
theorem thenS_nx {b : MS} (h : WS (b e S) R) : thenS b R .nx e S := h
theorem thenS_rt {b : MS} {x : Val} (h : R (.rt x) e S) : thenS b R (.rt x) e S := h
theorem thenS_ct {b : MS} (h : R .ct e S) : thenS b R .ct e S := h
theorem thenS_bk {b : MS} (h : R .bk e S) : thenS b R .bk e S := h
theorem endG_nx (h : Q (.d .none) S) : endG Q .nx e S := h
theorem endG_rt {x : Val} (h : Q x S) : endG Q (.rt x) e S := h
theorem turnS_nx {On : Ev → Sto → Prop} (h : On e S) : turnS On R .nx e S := h
theorem turnS_ct {On : Ev → Sto → Prop} (h : On e S) : turnS On R .ct e S := h
theorem turnS_bk {On : Ev → Sto → Prop} (h : R .nx e S) : turnS On R .bk e S := h
theorem turnS_rt {On : Ev → Sto → Prop} {x : Val} (h : R (.rt x) e S) : turnS On R (.rt x) e S := h
theorem ite_t {A B : Prop} (h : A) : if true = true then A else B := by rw [if_pos rfl]; exact h
theorem ite_f {A B : Prop} (h : B) : if false = true then A else B := by rw [if_neg (by decide)]; exact h
theorem ite_nt {A B : Prop} (h : B) : if (!true) = true then A else B := by rw [if_neg (by decide)]; exact h
theorem ite_nf {A B : Prop} (h : A) : if (!false) = true then A else B := by rw [if_pos (by decide)]; exact h
theorem ite_b {t : Bool} {A B : Prop} (h1 : t = true → A) (h2 : t = false → B) : if t = true then A else B := by
  cases t
  · exact ite_f (h2 rfl)
  · exact ite_t (h1 rfl)
theorem ite_d {p : Prop} [Decidable p] {A B : Prop} (h1 : p → A) (h2 : ¬ p → B) : if decide p = true then A else B := by
  by_cases h : p
  · rw [if_pos (decide_eq_true h)]; exact h1 h
  · rw [if_neg (by simp [h])]; exact h2 h
theorem ite_nd {p : Prop} [Decidable p] {A B : Prop} (h1 : ¬ p → A) (h2 : p → B) : if (!decide p) = true then A else B := by
  by_cases h : p
  · rw [if_neg (by simp [h])]; exact h2 h
  · rw [if_pos (by simp [h])]; exact h1 h
theorem wg_addI (h : Q (.d (.int (i + j))) S) : WG (fAdd (.d (.int i)) (.d (.int j)) S) Q := wg_some h
theorem wg_addS {a b : Str} (hz : a.length + b.length ≤ sizeLine) (h : Q (.d (.str (a ++ b))) S) : WG (fAdd (.d (.str a)) (.d (.str b)) S) Q := by
  unfold fAdd
  simp only [if_pos hz]
  exact wg_some h
theorem wg_addT {a b : List PyData} (hz : a.length + b.length ≤ sizeLine) (h : Q (.d (.tuple (a ++ b))) S) : WG (fAdd (.d (.tuple a)) (.d (.tuple b)) S) Q := by
  unfold fAdd
  simp only [if_pos hz]
  exact wg_some h
theorem wg_addL {a b : List PyData} (hz : a.length + b.length ≤ sizeLine) (h : Q (.d (.list (a ++ b))) S) : WG (fAdd (.d (.list a)) (.d (.list b)) S) Q := by
  unfold fAdd
  simp only [lstD, if_pos hz]
  exact wg_some h
theorem toDs_map : ∀ ps : List PyData, toDs (ps.map .d) = some ps
  | [] => rfl
  | p :: ps => by simp [toDs, toD, toDs_map ps]
theorem wg_addDR {a ps : List PyData} {j : Nat} (hj : S[j]? = some (.lst (ps.map .d))) (hz : a.length + ps.length ≤ sizeLine) (h : Q (.d (.list (a ++ ps))) S) : WG (fAdd (.d (.list a)) (.ref j) S) Q := by
  unfold fAdd
  simp only [lstD, hj, toDs_map, if_pos hz]
  exact wg_some h
theorem wg_sub (h : Q (.d (.int (i - j))) S) : WG (fSub (.d (.int i)) (.d (.int j)) S) Q := wg_some h
theorem wg_fI {C : Int → Int → Prop} [∀ i j, Decidable (C i j)] {g : Int → Int → Int} (hc : C i j) (h : Q (.d (.int (g i j))) S) : WG (fI C g (.d (.int i)) (.d (.int j)) S) Q := by
  unfold fI
  simp only [if_pos hc]
  exact wg_some h
theorem wg_mul (hc : CMul i j) (h : Q (.d (.int (i * j))) S) : WG (fMul (.d (.int i)) (.d (.int j)) S) Q := wg_fI hc h
theorem wg_mod (hc : 0 < j) (h : Q (.d (.int (i % j))) S) : WG (fMod (.d (.int i)) (.d (.int j)) S) Q := wg_fI (C := fun _ j => 0 < j) hc h
theorem wg_div (hc : CDiv i j) (h : Q (.d (.int (i / j))) S) : WG (fDiv (.d (.int i)) (.d (.int j)) S) Q := wg_fI hc h
theorem wg_neg (h : Q (.d (.int (-i))) S) : WG (fNeg (.d (.int i)) S) Q := wg_some h
theorem wg_lt (h : Q (.d (.bool (decide (i < j)))) S) : WG (fLt (.d (.int i)) (.d (.int j)) S) Q := wg_some h
theorem wg_le (h : Q (.d (.bool (decide (i ≤ j)))) S) : WG (fLe (.d (.int i)) (.d (.int j)) S) Q := wg_some h
theorem wg_gt (h : Q (.d (.bool (decide (j < i)))) S) : WG (fGt (.d (.int i)) (.d (.int j)) S) Q := wg_some h
theorem wg_ge (h : Q (.d (.bool (decide (j ≤ i)))) S) : WG (fGe (.d (.int i)) (.d (.int j)) S) Q := wg_some h
theorem wg_ixL {ps : List PyData} {p : PyData} (hx : atI ps i = some p) (h : Q (.d p) S) : WG (fIx (.d (.list ps)) (.d (.int i)) S) Q := by
  unfold fIx
  simp only [hx]
  exact wg_some h
theorem wg_ixT {ps : List PyData} {p : PyData} (hx : atI ps i = some p) (h : Q (.d p) S) : WG (fIx (.d (.tuple ps)) (.d (.int i)) S) Q := by
  unfold fIx
  simp only [hx]
  exact wg_some h
theorem wg_ixS {z : Str} {c : Nat} (hz : z.length ≤ sizeLine) (hx : atI z.cps.toList i = some c) (h : Q (.d (.str ⟨#[c]⟩)) S) : WG (fIx (.d (.str z)) (.d (.int i)) S) Q := by
  unfold fIx
  simp only [if_pos hz, hx]
  exact wg_some h
theorem wg_ixR {r : Nat} {xs : List Val} {x : Val} (hr : S[r]? = some (.lst xs)) (hx : atI xs i = some x) (h : Q x S) : WG (fIx (.ref r) (.d (.int i)) S) Q := by
  unfold fIx
  simp only [hr, hx]
  exact wg_some h
theorem wg_ixRT {r : Nat} {xs : List Val} {x : Val} (hr : S[r]? = some (.tup xs)) (hx : atI xs i = some x) (h : Q x S) : WG (fIx (.ref r) (.d (.int i)) S) Q := by
  unfold fIx
  simp only [hr, hx]
  exact wg_some h
theorem wg_ixD {r : Nat} {kvs : List (Key × Val)} {y : Val} {k : Key} {x : Val} (hr : S[r]? = some (.dic kvs)) (hk : keyOf y = some k) (hx : valK kvs k = some x) (h : Q x S) : WG (fIx (.ref r) y S) Q := by
  unfold fIx
  simp only [hr, hk, hx, Option.bind_some, Option.map_some]
  exact wg_some h
theorem wg_ixDL {r : Nat} {kvs : List (Key × Val)} {y : Val} {k : Key} {x : Val} (hr : S[r]? = some (.dicL kvs)) (hk : keyOf y = some k) (hx : valK kvs k = some x) (h : Q x S) : WG (fIx (.ref r) y S) Q := by
  unfold fIx
  simp only [hr, hk, hx, Option.bind_some, Option.map_some]
  exact wg_some h
theorem wg_eqD {p q : PyData} {b : Bool} (h1 : SeqAt.shaped p = true) (h2 : SeqAt.shaped q = true) (hb : PyData.eqv p q = b) (h : Q (.d (.bool b)) S) : WG (fEq (.d p) (.d q) S) Q := by
  unfold fEq deep deepN
  simp only [h1, h2, hb]
  exact wg_some h
theorem wg_neD {p q : PyData} {b : Bool} (h1 : SeqAt.shaped p = true) (h2 : SeqAt.shaped q = true) (hb : PyData.eqv p q = b) (h : Q (.d (.bool (!b))) S) : WG (fNe (.d p) (.d q) S) Q := by
  unfold fNe deep deepN
  simp only [h1, h2, hb]
  exact wg_some h
theorem wg_eqV {x y : Val} {p q : PyData} {b : Bool} (hx : deep S x = some p) (hy : deep S y = some q) (h1 : SeqAt.shaped p = true) (h2 : SeqAt.shaped q = true) (hb : PyData.eqv p q = b) (h : Q (.d (.bool b)) S) : WG (fEq x y S) Q := by
  unfold fEq
  simp only [hx, hy, h1, h2, hb]
  exact wg_some h
theorem wg_neV {x y : Val} {p q : PyData} {b : Bool} (hx : deep S x = some p) (hy : deep S y = some q) (h1 : SeqAt.shaped p = true) (h2 : SeqAt.shaped q = true) (hb : PyData.eqv p q = b) (h : Q (.d (.bool (!b))) S) : WG (fNe x y S) Q := by
  unfold fNe
  simp only [hx, hy, h1, h2, hb]
  exact wg_some h
theorem wg_eqI (h : Q (.d (.bool (decide (i = j)))) S) : WG (fEq (.d (.int i)) (.d (.int j)) S) Q := wg_eqD rfl rfl (by rfl) h
theorem wg_neI (h : Q (.d (.bool (!decide (i = j)))) S) : WG (fNe (.d (.int i)) (.d (.int j)) S) Q := wg_neD rfl rfl (by rfl) h
theorem wg_len {x : Val} {n : Nat} (hn : lenAt S x = some n) (h : Q (.d (.int n)) S) : WG (fLen [x] S) Q := by
  unfold fLen
  simp only [hn]
  exact wg_some h
theorem wg_lenL {ps : List PyData} (h : Q (.d (.int ps.length)) S) : WG (fLen [.d (.list ps)] S) Q := wg_len rfl h
theorem wg_lenT {ps : List PyData} (h : Q (.d (.int ps.length)) S) : WG (fLen [.d (.tuple ps)] S) Q := wg_len rfl h
theorem wg_lenR {i : Nat} {xs : List Val} (hi : S[i]? = some (.lst xs)) (h : Q (.d (.int xs.length)) S) : WG (fLen [.ref i] S) Q := wg_len (by simp only [lenAt, hi]) h
theorem wg_addRD {a ps : List PyData} {j : Nat} (hj : S[j]? = some (.lst (ps.map .d))) (hz : ps.length + a.length ≤ sizeLine) (h : Q (.d (.list (ps ++ a))) S) : WG (fAdd (.ref j) (.d (.list a)) S) Q := by
  unfold fAdd
  simp only [lstD, hj, toDs_map, if_pos hz]
  exact wg_some h
theorem wg_popAt {i k : Nat} {xs : List Val} {y : Val} (hk : xs[k]? = some y) (hb : k < 1000000) (h : Q y (S.set i (.lst (xs.eraseIdx k)))) : WG (fPopAt i xs [.d (.int k)] S) Q := by
  have hl : k < xs.length := (List.getElem?_eq_some_iff.mp hk).1
  have e : seqIndex? (k : Int) xs.length = some k := (ixN_seq (n := xs.length) (i := (k : Int)) (by unfold ixN; rw [if_pos (by omega), if_pos (by omega)]; simp)).1
  unfold fPopAt
  simp only [if_pos (show -(2 ^ 63 : Int) ≤ (k : Int) ∧ (k : Int) < 2 ^ 63 by omega), e, Option.bind_some, hk]
  exact wg_some h
theorem cutL_take {α : Type} {xs : List α} {k : Nat} : cutL xs none (some (k : Int)) = xs.take k := by
  unfold cutL
  rw [HT.sIx_none, HT.sIx_nat]
  simp
theorem cutL_drop {α : Type} {xs : List α} {k : Nat} (h : k ≤ xs.length) : cutL xs (some (k : Int)) none = xs.drop k := by
  unfold cutL
  rw [HT.sIx_none, HT.sIx_nat, Nat.min_eq_left h]
  rw [List.take_of_length_le (by simp)]
theorem wg_lenS {z : Str} (hz : z.length ≤ sizeLine) (h : Q (.d (.int z.length)) S) : WG (fLen [.d (.str z)] S) Q := wg_len (by simp only [lenAt, if_pos hz]) h
theorem wg_min2 (h : Q (.d (.int (if j < i then j else i))) S) : WG (fMin2 [.d (.int i), .d (.int j)] S) Q := wg_some h
theorem wg_max2 (h : Q (.d (.int (if j > i then j else i))) S) : WG (fMax2 [.d (.int i), .d (.int j)] S) Q := wg_some h
theorem wg_intI (h : Q (.d (.int i)) S) : WG (fInt [.d (.int i)] S) Q := wg_some h
theorem wg_intB {b : Bool} (h : Q (.d (.int (if b then 1 else 0))) S) : WG (fInt [.d (.bool b)] S) Q := wg_some h
theorem wg_tup {xs : List Val} {ps : List PyData} (hz : xs.length ≤ sizeLine) (hp : toDs xs = some ps) (h : Q (.d (.tuple ps)) S) : WG (fTup xs S) Q := by
  unfold fTup
  simp only [if_pos hz, hp]
  exact wg_some h
theorem wg_tupR {xs : List Val} (hz : xs.length ≤ sizeLine) (hp : toDs xs = none) (h : Q (.ref S.length) (S ++ [.tup xs])) : WG (fTup xs S) Q := by
  unfold fTup
  simp only [if_pos hz, hp]
  exact wg_some h
theorem wg_lst {xs : List Val} {ps : List PyData} (hz : xs.length ≤ sizeLine) (hp : toDs xs = some ps) (h : Q (.d (.list ps)) S) : WG (fLst xs S) Q := by
  unfold fLst
  simp only [if_pos hz, hp]
  exact wg_some h
theorem wg_lstN {xs : List Val} (hz : xs.length ≤ sizeLine) (h : Q (.ref S.length) (S ++ [.lst xs])) : WG (fLstN xs S) Q := by
  unfold fLstN
  simp only [if_pos hz]
  exact wg_some h
theorem wg_append {r : Nat} {xs : List Val} {y : Val} (hz : xs.length < sizeLine) (h : Q (.d .none) (S.set r (.lst (xs ++ [y])))) : WG (fAppend r xs [y] S) Q := by
  unfold fAppend
  simp only [if_pos hz]
  exact wg_some h
theorem wg_isN {x : Val} (h : Q (.d (.bool (isN x))) S) : WG (fIsN x (.d .none) S) Q := wg_some h
theorem wg_isNot {x : Val} (h : Q (.d (.bool (!isN x))) S) : WG (fIsNot x (.d .none) S) Q := wg_some h
theorem wg_isi {x : Val} {T t : String} {b : Bool} (h1 : tyName S x = some t) (h2 : kitB t T = some b) (h : Q (.d (.bool b)) S) : WG (fIsi T x S) Q := by
  unfold fIsi
  simp only [h1, Option.bind_some, h2]
  exact wg_some h
theorem wg_in {x y : Val} {b : Bool} (hb : inA x y S = some b) (h : Q (.d (.bool b)) S) : WG (fIn x y S) Q := by
  unfold fIn
  simp only [hb]
  exact wg_some h
theorem wg_notIn {x y : Val} {b : Bool} (hb : inA x y S = some b) (h : Q (.d (.bool (!b))) S) : WG (fNotIn x y S) Q := by
  unfold fNotIn
  simp only [hb]
  exact wg_some h
theorem wg_slS {z : Str} {lo hi : Option Int} (hz : z.length ≤ sizeLine) (h : Q (.d (.str (cutS z lo hi))) S) : WG (fSl (.d (.str z)) lo hi S) Q := by
  unfold fSl
  simp only [if_pos hz]
  exact wg_some h
theorem wg_slL {ps : List PyData} {lo hi : Option Int} (h : Q (.d (.list (cutL ps lo hi))) S) : WG (fSl (.d (.list ps)) lo hi S) Q := by
  unfold fSl
  exact wg_some h
theorem wg_slT {ps : List PyData} {lo hi : Option Int} (h : Q (.d (.tuple (cutL ps lo hi))) S) : WG (fSl (.d (.tuple ps)) lo hi S) Q := wg_some h
theorem mapO_map {α β : Type} {f : α → Option β} {γ : Type} {g : γ → α} {k : γ → β} (h : ∀ c, f (g c) = some (k c)) : ∀ l : List γ, mapO f (l.map g) = some (l.map k)
  | [] => rfl
  | c :: l => by simp [mapO, h c, mapO_map h l]
theorem ints_at {ns : List Int} : intsAt S (.d (.list (ns.map .int))) = some ns := by
  unfold intsAt lstD
  simp only [Option.bind_some]
  exact (mapO_map (f := toInt) (g := PyData.int) (k := fun i => i) (fun _ => rfl) ns).trans (by simp)
theorem strs_at {ns : List Str} : strsAt S (.d (.list (ns.map .str))) = some ns := by
  unfold strsAt seqD lstD
  simp only [Option.bind_some]
  exact (mapO_map (f := toStr) (g := PyData.str) (k := fun i => i) (fun _ => rfl) ns).trans (by simp)
theorem wg_sortSet {ns : List Int} (hz : ns.length + 1 < 4096) (h : Q (.d (.list ((sortSet ns).map .int))) S) : WG (fSortSet (.d (.list (ns.map .int))) S) Q := by
  unfold fSortSet
  rw [ints_at]
  simp only [Option.bind_some, if_pos hz]
  exact wg_some h
theorem wg_sortSetN {x : Val} {ns : List Int} (hx : intsAt S x = some ns) (hz : ns.length + 1 < 4096) (h : Q (.ref S.length) (S ++ [.lst ((sortSet ns).map fun i => .d (.int i))])) : WG (fSortSetN x S) Q := by
  unfold fSortSetN
  rw [hx]
  simp only [Option.bind_some, if_pos hz]
  exact wg_some h
theorem wg_maxD {ns : List Int} (h : Q (.d (.int (maxOf i ns))) S) : WG (fMaxD (.d (.list (ns.map .int))) (.d (.int i)) S) Q := by
  unfold fMaxD
  simp only [ints_at]
  exact wg_some h
theorem wg_sum {ns : List Int} (h : Q (.d (.int ns.sum)) S) : WG (fSum [.d (.list (ns.map .int))] S) Q := by
  unfold fSum
  simp only [ints_at]
  exact wg_some h
theorem wg_join {a : Str} {ys : List Str} (hz : (ys.map (·.length)).sum + ys.length * a.length ≤ 16777216) (h : Q (.d (.str (Txt.join a ys))) S) : WG (fJoin (.d (.str a)) (.d (.list (ys.map .str))) S) Q := by
  unfold fJoin
  simp only [strs_at, Option.bind_some, if_pos hz]
  exact wg_some h
theorem wg_tupleT {ps : List PyData} (h : Q (.d (.tuple ps)) S) : WG (fTuple [.d (.tuple ps)] S) Q := wg_some h
theorem wg_listT {ps : List PyData} (h : Q (.d (.list ps)) S) : WG (fList [.d (.tuple ps)] S) Q := wg_some h
theorem wg_listK {i : Nat} {kvs : List (Key × Val)} (hi : S[i]? = some (.dic kvs)) (h : Q (.d (.list (kvs.map fun kv => valOfKey kv.1))) S) : WG (fListK [.ref i] S) Q := by
  unfold fListK
  simp only [hi]
  exact wg_some h
theorem wg_listL {ps : List PyData} (h : Q (.d (.list ps)) S) : WG (fList [.d (.list ps)] S) Q := wg_some h
end
theorem fset_lst {S : Sto} {r j : Nat} {k : Int} {xs : List Val} {v : Val} {P : Sto → Prop} (hr : S[r]? = some (.lst xs)) (hj : ixN xs.length k = some j) (h : P (S.set r (.lst (xs.set j v)))) : ∃ S4, fSet (.ref r) (.d (.int k)) v S = some S4 ∧ P S4 := by
  refine ⟨_, ?_, h⟩
  unfold fSet
  simp only [hr, hj, Option.map_some]
theorem ex_intro {α : Type} {o : Option α} {x : α} {P : α → Prop} (h : o = some x) (q : P x) : ∃ y, o = some y ∧ P y := ⟨x, h, q⟩
theorem ex_str {z : Str} {P : Str → Prop} (q : P z) : ∃ y, Val.d (.str z) = .d (.str y) ∧ P y := ⟨z, rfl, q⟩
theorem ex_int {z : Int} {P : Int → Prop} (q : P z) : ∃ y, Val.d (.int z) = .d (.int y) ∧ P y := ⟨z, rfl, q⟩
theorem ex_lm {i : Nat} {S : Sto} {xs : List Val} {P : Nat → Prop} (h : S[i]? = some (.lst xs)) (q : P i) : ∃ j ys, Val.ref i = .ref j ∧ S[j]? = some (.lst ys) ∧ P j := ⟨i, xs, rfl, h, q⟩
theorem ex_lst {i : Nat} {S : Sto} {xs : List Val} {P : List Val → Prop} (h : S[i]? = some (.lst xs)) (q : P xs) : ∃ ys, S[i]? = some (.lst ys) ∧ P ys := ⟨xs, h, q⟩
theorem ex_rng1 {n : Int} {S : Sto} {P : Sr → Prop} (h : RgOk n) (q : P ⟨intV 0 1 n.toNat, none⟩) : ∃ sr, fRng1 [.d (.int n)] S = some sr ∧ P sr := by
  refine ⟨_, ?_, q⟩
  unfold fRng1
  simp only [if_pos h]
theorem ex_rng2 {m n : Int} {S : Sto} {P : Sr → Prop} (h : RgOk m) (h2 : RgOk n) (q : P ⟨intV m 1 (n - m).toNat, none⟩) : ∃ sr, fRng2 [.d (.int m), .d (.int n)] S = some sr ∧ P sr := by
  refine ⟨_, ?_, q⟩
  unfold fRng2
  simp only [if_pos (And.intro h h2)]
theorem rg_ok {n : Int} (h0 : -1000000000 ≤ n) (h1 : n ≤ 1000000000) : RgOk n := ⟨by omega, by omega⟩
theorem intV_map (n : Nat) : intV 0 1 n = (List.range n).map fun (k : Nat) => Val.d (.int k) := by simp [intV]
theorem intV_drop {n i : Nat} (h : i < n) : (intV 0 1 n).drop i = .d (.int i) :: (intV 0 1 n).drop (i + 1) := by
  have hl : i < (intV 0 1 n).length := by simpa [intV] using h
  rw [List.drop_eq_getElem_cons hl]
  simp [intV]
theorem intV_end {n : Nat} : (intV 0 1 n).drop n = [] := List.drop_of_length_le (by simp [intV])
theorem ins_at {C : Addr} {S : Sto} {i : Nat} {fs : List (Str × Val)} (h : S[i]? = some (.ins C fs)) : insAt C S (.ref i) = some (i, fs) := by simp [insAt, h]
theorem ex_fld {C : Addr} {S U : Sto} {f : Str} {y : Val} {fs fs' : List (Str × Val)} {P : Sto → Prop} (h : putFv f y fs = fs') (hl : fs.length < 1000) (q : P (S ++ .ins C fs' :: U)) : ∃ i gs, insAt C (S ++ .ins C fs :: U) (.ref S.length) = some (i, gs) ∧ gs.length < 1000 ∧ P ((S ++ .ins C fs :: U).set i (.ins C (putFv f y gs))) :=
  ⟨_, _, ins_at (by simp), hl, by rw [h]; simpa using q⟩
theorem ex_get {C : Addr} {S : Sto} {i : Nat} {f : Str} {y : Val} {fs : List (Str × Val)} {P : Val → Prop} (h : S[i]? = some (.ins C fs)) (h2 : fs.lookup f = some y) (q : P y) : ∃ j gs z, insAt C S (.ref i) = some (j, gs) ∧ gs.lookup f = some z ∧ P z := ⟨_, _, _, ins_at h, h2, q⟩
theorem ex_meth {C : Addr} {S : Sto} {i : Nat} {f : Str} {fs : List (Str × Val)} {P : Prop} (h : S[i]? = some (.ins C fs)) (h2 : fs.lookup f = none) (q : P) : ∃ (j : Nat) (gs : List (Str × Val)), insAt C S (.ref i) = some (j, gs) ∧ gs.lookup f = none ∧ P := ⟨_, _, ins_at h, h2, q⟩
theorem get_fst {S U : Sto} {u : Ob} : (S ++ u :: U)[S.length]? = some u := by simp
theorem get_snd {S U : Sto} {u v : Ob} : (S ++ u :: v :: U)[S.length + 1]? = some v := by simp
theorem get_trd {S U : Sto} {u v x : Ob} : (S ++ u :: v :: x :: U)[S.length + 2]? = some x := by simp
theorem fset_dic {S : Sto} {r : Nat} {kvs : List (Key × Val)} {y v : Val} {k : Key} {P : Sto → Prop} (hr : S[r]? = some (.dic kvs)) (hk : keyOf y = some k) (hl : kvs.length < sizeLine) (q : P (S.set r (.dic (putV kvs k v)))) : ∃ S4, fSet (.ref r) y v S = some S4 ∧ P S4 := by
  refine ⟨_, ?_, q⟩
  unfold fSet
  simp only [hr, hk, Option.bind_some, if_pos hl]
theorem putV_new {κ : Type} [DecidableEq κ] {kvs : List (κ × Val)} {k : κ} {v : Val} (h : ∀ q ∈ kvs, q.1 ≠ k) : putV kvs k v = kvs ++ [(k, v)] := by
  unfold putV
  rw [if_neg]
  simp only [List.any_eq_true, decide_eq_true_eq, not_exists, not_and]
  exact fun q hq => h q hq
theorem valK_new {κ : Type} [DecidableEq κ] {kvs : List (κ × Val)} {k : κ} (h : ∀ q ∈ kvs, q.1 ≠ k) : valK kvs k = none := by
  unfold valK
  rw [Option.map_eq_none_iff, List.find?_eq_none]
  exact fun q hq => by simp [h q hq]
theorem valK_mem {κ : Type} [DecidableEq κ] {kvs : List (κ × Val)} {k : κ} {v : Val} (h : (k, v) ∈ kvs) (nd : (kvs.map (·.1)).Nodup) : valK kvs k = some v := by
  induction kvs with
  | nil => cases h
  | cons q kvs ih =>
    unfold valK
    rw [List.find?_cons]
    rw [List.map_cons, List.nodup_cons] at nd
    rcases List.mem_cons.mp h with e | h
    · subst e
      simp
    · have : q.1 ≠ k := fun z => nd.1 (List.mem_map.mpr ⟨_, h, z.symm⟩)
      simp only [this, decide_false]
      exact ih h nd.2
theorem inA_dic {S : Sto} {r : Nat} {kvs : List (Key × Val)} {x : Val} {k : Key} (hr : S[r]? = some (.dic kvs)) (hk : keyOf x = some k) : inA x (.ref r) S = some (valK kvs k).isSome := by
  unfold inA dicAt
  simp only [hr, hk, Option.map_some]
theorem set_back {S : Sto} {p : Nat} {u v : Ob} (h : S[p]? = some u) : (S.set p v).set p u = S := by
  rw [List.set_set]
  obtain ⟨hl, rfl⟩ := List.getElem?_eq_some_iff.mp h
  exact List.set_getElem_self hl
theorem get_set {S : Sto} {p : Nat} {u v : Ob} (h : S[p]? = some u) : (S.set p v)[p]? = some v := by
  obtain ⟨hl, _⟩ := List.getElem?_eq_some_iff.mp h
  simp [hl]
theorem get_set_ne {S : Sto} {p r : Nat} {u v : Ob} (hn : p ≠ r) (h : S[r]? = some u) : (S.set p v)[r]? = some u := by rw [List.getElem?_set_ne hn]; exact h
theorem ex_seqLd {S : Sto} {ps : List PyData} {P : Sr → Prop} (q : P ⟨ps.map .d, none⟩) : ∃ sr, fSeqL [.d (.list ps)] S = some sr ∧ P sr := ⟨_, rfl, q⟩
theorem ex_seqTd {S : Sto} {ps : List PyData} {P : Sr → Prop} (q : P ⟨ps.map .d, none⟩) : ∃ sr, fSeqT [.d (.tuple ps)] S = some sr ∧ P sr := ⟨_, rfl, q⟩
theorem ex_seqSd {S : Sto} {z : Str} {P : Sr → Prop} (q : P ⟨z.cps.toList.map fun c => .d (.str ⟨#[c]⟩), none⟩) : ∃ sr, fSeqS [.d (.str z)] S = some sr ∧ P sr := ⟨_, rfl, q⟩
theorem ex_seqLr {S : Sto} {i : Nat} {xs : List Val} {P : Sr → Prop} (h : S[i]? = some (.lst xs)) (q : P ⟨xs, some (i, .lst xs)⟩) : ∃ sr, fSeqL [.ref i] S = some sr ∧ P sr := ⟨_, by simp only [fSeqL, h], q⟩
theorem ex_name {S : Sto} {i : Nat} {x : Val} {e : Ev} {P : Ev → Prop} (q : P (e.set i (some x))) : ∃ e', aName i x e S = some e' ∧ P e' := ⟨_, rfl, q⟩
theorem ex_atup {S : Sto} {is : List Nat} {x : Val} {e e1 : Ev} {P : Ev → Prop} (h : aTup is x e S = some e1) (q : P e1) : ∃ e', aTup is x e S = some e' ∧ P e' := ⟨_, h, q⟩
theorem len_insD (k : Int) : ∀ l : List Int, (insD k l).length ≤ l.length + 1
  | [] => Nat.le_refl _
  | x :: l => by
    unfold insD
    split
    · simp
    · split
      · simp
      · have := len_insD k l
        simp
        omega
theorem len_sortSet : ∀ l : List Int, (sortSet l).length ≤ l.length
  | [] => Nat.le_refl _
  | k :: l => Nat.le_trans (len_insD k _) (Nat.succ_le_succ (len_sortSet l))
theorem at_last {α : Type} {l : List α} {x : α} : atI (l ++ [x]) (-1) = some x := by
  unfold atI ixN
  rw [if_neg (by decide), if_pos (by simp; omega)]
  have : (-1 + ((l ++ [x]).length : Int)).toNat = l.length := by simp; omega
  rw [Option.bind_some, this]
  simp
theorem at_head {α : Type} {x : α} {l : List α} : atI (x :: l) 0 = some x := by
  unfold atI ixN
  rw [if_pos (by decide), if_pos (by simp only [List.length_cons]; omega)]
  rfl
theorem and_eq {α : Sort _} {a : α} {P : Prop} (h : P) : a = a ∧ P := ⟨rfl, h⟩
/-! stores -/
theorem sto_at {S T : Sto} {u : Ob} : (S ++ u :: T)[S.length]? = some u := by simp
theorem sto_set {S T : Sto} {u v : Ob} : (S ++ u :: T).set S.length v = S ++ v :: T := by simp
theorem sto_take {S T : Sto} : (S ++ T).take S.length = S := by simp
theorem deepF_d {n k : Nat} {S : Sto} {p : PyData} : deepF n (k + 1) S (.d p) = some p := rfl
theorem deepF_lst {n k i : Nat} {S : Sto} {ps : List PyData} (hi : n ≤ i) (h : S[i]? = some (.lst (ps.map .d))) : deepF n (k + 2) S (.ref i) = some (.list ps) := by
  show (if i < n then none else match S[i]? with
      | some (.lst xs) => (mapO (deepF n (k + 1) S) xs).map PyData.list
      | some (.tup xs) => (mapO (deepF n (k + 1) S) xs).map .tuple
      | _ => none) = _
  rw [if_neg (by omega), h]
  simp only [mapO_map (f := deepF n (k + 1) S) (g := Val.d) (k := fun p => p) (fun _ => rfl), Option.map_some, List.map_id']
theorem cut_app {S U : Sto} : CutOk S (S ++ U) := fun i o h hl => .inl (by rw [List.getElem?_append_left hl] at h; exact h)
theorem frz_lst {S U : Sto} {ps : List PyData} : frzV S.length (S ++ .lst (ps.map .d) :: U) (.ref S.length) = some (.d (.list ps)) := by
  unfold frzV
  simp only [Nat.lt_irrefl, if_false, deepF_lst (Nat.le_refl _) get_fst, Option.map_some]
theorem fin_lst {S U : Sto} {ps : List PyData} {Q : Val → Sto → Prop} (q : Q (.d (.list ps)) S) : CutOk S (S ++ .lst (ps.map .d) :: U) ∧ ∃ y, frzV S.length (S ++ .lst (ps.map .d) :: U) (.ref S.length) = some y ∧ Q y ((S ++ .lst (ps.map .d) :: U).take S.length) :=
  ⟨cut_app, _, frz_lst, by simpa using q⟩
theorem deepN_lst {n i : Nat} {S : Sto} {ps : List PyData} (h : S[i]? = some (.lst (ps.map .d))) : deepN (n + 2) S (.ref i) = some (.list ps) := by
  unfold deepN
  simp only [h, mapO_map (f := deepN (n + 1) S) (g := Val.d) (k := fun p => p) (fun _ => rfl), Option.map_some, List.map_id']
theorem deep_pair {S : Sto} {k j : Nat} {ps : List PyData} {g : PyData} (h : S[k]? = some (.tup [.ref j, .d g])) (h2 : S[j]? = some (.lst (ps.map .d))) : deep S (.ref k) = some (.tuple [.list ps, g]) := by
  show deepN 6 S (.ref k) = _
  unfold deepN
  simp only [h, mapO, deepN_lst h2]
  rfl
/-! data -/
mutual
theorem eqv_refl : ∀ p : PyData, PyData.canLay0 p = true → PyData.eqv p p = true
  | .none, _ => rfl
  | .bool b, _ => by simp [PyData.eqv]
  | .int i, _ => by simp [PyData.eqv]
  | .str x, _ => by simp [PyData.eqv]
  | .list xs, h => eqvAll_refl xs h
  | .tuple xs, h => eqvAll_refl xs h
  | .dict _, h => by simp [PyData.canLay0] at h
theorem eqvAll_refl : ∀ ps : List PyData, PyData.canLayAll0 ps = true → PyData.eqvAll ps ps = true
  | [], _ => rfl
  | p :: ps, h => by
    simp only [PyData.canLayAll0, Bool.and_eq_true] at h
    simp [PyData.eqvAll, eqv_refl p h.1, eqvAll_refl ps h.2]
end
theorem canLay_ints (ns : List Int) : PyData.canLayAll0 (ns.map .int) = true := by
  induction ns with
  | nil => rfl
  | cons n ns ih => simp [PyData.canLayAll0, PyData.canLay0, ih]
theorem shaped_list {ps : List PyData} {n : Nat} (h : PyData.canLayAll0 ps = true) (hd : PyData.depthAll ps ≤ n) (hn : n < 64) : SeqAt.shaped (.list ps) = true := by
  unfold SeqAt.shaped
  simp only [PyData.canLay0, h, PyData.depth, Bool.true_and]
  exact decide_eq_true (Nat.le_trans (Nat.succ_le_succ hd) hn)
theorem shaped_tuple {ps : List PyData} {n : Nat} (h : PyData.canLayAll0 ps = true) (hd : PyData.depthAll ps ≤ n) (hn : n < 64) : SeqAt.shaped (.tuple ps) = true := by
  unfold SeqAt.shaped
  simp only [PyData.canLay0, h, PyData.depth, Bool.true_and]
  exact decide_eq_true (Nat.le_trans (Nat.succ_le_succ hd) hn)
theorem shaped_ints (ns : List Int) : SeqAt.shaped (.list (ns.map .int)) = true := shaped_list (n := 0) (canLay_ints ns) (by rw [depth_ints]; exact Nat.le_refl 0) (by decide)
theorem any_ints {k : Int} (ns : List Int) : (ns.map PyData.int).any (fun z => PyData.eqv z (.int k)) = decide (k ∈ ns) := by
  induction ns with
  | nil => rfl
  | cons n ns ih =>
    simp only [List.map_cons, List.any_cons, ih, List.mem_cons, PyData.eqv]
    by_cases h : n = k
    · subst h; simp
    · have : k ≠ n := fun z => h z.symm
      simp [h, this]
theorem inA_ints {S : Sto} {k : Int} {ns : List Int} : inA (.d (.int k)) (.d (.list (ns.map .int))) S = some (decide (k ∈ ns)) := by
  unfold inA dicAt lstD toD
  simp only [shaped_ints]
  rw [← any_ints]
  rfl
end Lv
end
section
set_option Elab.async false
set_option linter.all false
set_option autoImplicit false
set_option maxRecDepth 100000
set_option maxHeartbeats 2000000
/-! while without a bound; what a statement made is forgotten; what the new readings give, backwards. -/
namespace Lv
open PySem PySem.Spec PyProof.Rows L2

/-! ### while -/
open Classical in
noncomputable def dWhile (c : M) (body : MS) : MS := fun e S => if h : ∃ n, (whileN c body n e S).isSome = true then whileN c body h.choose e S else none
theorem sx_whileC {X : Cx} {W : WX} {c : Expr} {body : List Stmt} {mc : M} {mb : MS} {pos : Pos} (hp : PassesOwn (model X.prog X.w) X.A X.env X.xe) (hc : TX X W c mc) (hb : BX X W body mb) : SX X W (.While c body [] pos) (dWhile mc mb) := by
  constructor
  constructor
  rintro pins s σ H D I ⟨e, S, ρ, R, E, p⟩
  unfold dWhile at p
  split at p
  · exact (sx_while _ hp hc hb).ps.run pins s σ H D I ⟨e, S, ρ, R, E, p⟩
  · exact (pns_none p).elim
theorem whileN_more {c : M} {body : MS} : ∀ {n m : Nat} {e : Ev} {S : Sto} {r : Fl × Ev × Sto}, whileN c body n e S = some r → n ≤ m → whileN c body m e S = some r
  | 0, _, _, _, _, h, _ => by cases h
  | n + 1, 0, _, _, _, _, l => by omega
  | n + 1, m + 1, e, S, r, h, l => by
    unfold whileN bndBS bndS at h ⊢
    cases hc : c e S with
    | none =>
      rw [hc] at h
      cases h
    | some q =>
      obtain ⟨z, S1⟩ := q
      rw [hc] at h
      cases z with
      | er x => exact h
      | ok x =>
        dsimp only at h ⊢
        split at h
        · rename_i t
          cases t with
          | false => exact h
          | true =>
            rw [if_pos rfl] at h ⊢
            cases hb : body e S1 with
            | none =>
              rw [hb] at h
              cases h
            | some q =>
              obtain ⟨f, e2, S2⟩ := q
              rw [hb] at h
              cases f with
              | nx => exact whileN_more (n := n) (m := m) h (Nat.le_of_succ_le_succ l)
              | ct => exact whileN_more (n := n) (m := m) h (Nat.le_of_succ_le_succ l)
              | bk => exact h
              | rt x => exact h
              | er x => exact h
        · cases h
theorem ws_whileN {c : M} {body : MS} {n : Nat} {e : Ev} {S : Sto} {R : Fl → Ev → Sto → Prop} (h : WS (whileN c body n e S) R) : WS (dWhile c body e S) R := by
  obtain ⟨f, e', S', h1, q⟩ := h
  have hx : ∃ n, (whileN c body n e S).isSome = true := ⟨n, by rw [h1]; rfl⟩
  unfold dWhile
  rw [dif_pos hx]
  obtain ⟨r, hr⟩ := Option.isSome_iff_exists.mp hx.choose_spec
  have : r = (f, e', S') := by
    rcases Nat.le_total n hx.choose with l | l
    · have := whileN_more h1 l
      rw [this] at hr
      exact (Option.some.inj hr).symm
    · have := whileN_more hr l
      rw [this] at h1
      exact Option.some.inj h1
  subst this
  exact ⟨f, e', S', hr, q⟩
/-- an invariant with a number that falls -/
theorem ws_while {c : M} {body : MS} {R : Fl → Ev → Sto → Prop} (I : Nat → Ev → Sto → Prop)
    (step : ∀ n e S, I n e S → WE (c e S) (WB fun t S1 => if t = true then WS (body e S1) (turnS (fun e' S' => ∃ m, m < n ∧ I m e' S') R) else R .nx e S1)) : ∀ (n : Nat) (e : Ev) (S : Sto), I n e S → WS (dWhile c body e S) R := by
  suffices key : ∀ (n : Nat) (e : Ev) (S : Sto), I n e S → ∃ k, WS (whileN c body k e S) R by
    intro n e S h
    obtain ⟨k, hk⟩ := key n e S h
    exact ws_whileN hk
  intro n
  induction n using Nat.strongRecOn with
  | ind n ih =>
    intro e S h
    obtain ⟨x, S1, hc, t, rfl, q⟩ := step n e S h
    cases t with
    | false =>
      refine ⟨1, .nx, e, S1, ?_, q⟩
      unfold whileN bndBS bndS
      rw [hc]
      rfl
    | true =>
      obtain ⟨f, e2, S2, hb, q⟩ := (show WS (body e S1) _ from q)
      have go : ∀ (k : Nat), whileN c body (k + 1) e S = (match body e S1 with
          | some (.nx, e2, S2) => whileN c body k e2 S2
          | some (.ct, e2, S2) => whileN c body k e2 S2
          | some (.bk, e2, S2) => some (.nx, e2, S2)
          | o => o) := fun k => by
        conv => lhs; unfold whileN bndBS bndS
        rw [hc]
        rfl
      cases f with
      | nx =>
        obtain ⟨m, hm, q⟩ := q
        obtain ⟨k, hk⟩ := ih m hm e2 S2 q
        exact ⟨k + 1, by rw [go, hb]; exact hk⟩
      | ct =>
        obtain ⟨m, hm, q⟩ := q
        obtain ⟨k, hk⟩ := ih m hm e2 S2 q
        exact ⟨k + 1, by rw [go, hb]; exact hk⟩
      | bk => exact ⟨1, by rw [go, hb]; exact ws_some q⟩
      | rt x => exact ⟨1, by rw [go, hb]; exact ws_some q⟩
      | er x => exact ⟨1, by rw [go, hb]; exact ws_some q⟩

/-! ### what a statement made is forgotten -/
def forget (e : Ev) : List Nat → Ev
  | [] => e
  | i :: r => forget (e.set i none) r
def EvBelow (n : Nat) (e : Ev) : Prop := ∀ (i : Nat) (x : Val), e[i]? = some (some x) → x.below n
open Classical in
noncomputable def dCut (ws : List Nat) (m : MS) : MS := fun e S => match m e S with
  | some (.rt x, e', S') => if CutOk S S' then (frzV S.length S' x).map fun y => (.rt y, forget e' ws, S'.take S.length) else none
  | some (.er x, _, _) => none
  | some (f, e', S') => if CutOk S S' ∧ EvBelow S.length (forget e' ws) then some (f, forget e' ws, S'.take S.length) else none
  | none => none
theorem er_forget {K : PySem.W.Frag} {ρ : Rg} {H : Hp} {σ : L2.St} : ∀ {ws : List Nat} {e : Ev}, ER K ρ H σ e → ER K ρ H σ (forget e ws)
  | [], _, h => h
  | i :: r, e, h => er_forget (ws := r) (e := e.set i Option.none) (h.none i)
theorem ER.cut {K : PySem.W.Frag} {ρ : Rg} {H : Hp} {σ : L2.St} {e : Ev} {n : Nat} (h : ER K ρ H σ e) (b : EvBelow n e) : ER K (ρ.cut n) H σ e := ⟨h.1, fun i x q => let ⟨v, h1, h2⟩ := h.2 i x q; ⟨v, h1, VR.cut (b i x q) h2⟩⟩
theorem sx_cut {X : Cx} {W : WX} {st : Stmt} {m : MS} (ws : List Nat) (h : SX X W st m) : SX X W st (dCut ws m) := by
  refine SX.of h.ps fun D σ H e S ρ R E p => ⟨e, S, ρ, R, E, ?_⟩
  unfold dCut at p
  cases hm : m e S with
  | none =>
    rw [hm] at p
    exact (pns_none p).elim
  | some q =>
    obtain ⟨f, e', S'⟩ := q
    rw [hm] at p
    cases f with
    | er x => exact (pns_none p).elim
    | rt x =>
      dsimp only at p
      split at p
      · rename_i c
        cases hy : frzV S.length S' x with
        | none =>
          rw [hy] at p
          exact (pns_none p).elim
        | some y =>
          rw [hy] at p
          refine ⟨.rt x, e', S', rfl, fun v H' ρ' R' l' r' => ?_⟩
          obtain ⟨R2, l2⟩ := RS.cut R R' l' c
          exact p.rt R2 l2 (frzV_ok R' r' hy)
      · exact (pns_none p).elim
    | nx =>
      dsimp only at p
      split at p
      · rename_i c
        refine ⟨.nx, e', S', rfl, fun σ' H' ρ' R' l' E' => ?_⟩
        obtain ⟨R2, l2⟩ := RS.cut R R' l' c.1
        exact p.nx R2 l2 ((er_forget E').cut c.2)
      · exact (pns_none p).elim
    | bk =>
      dsimp only at p
      split at p
      · rename_i c
        refine ⟨.bk, e', S', rfl, fun σ' H' ρ' R' l' E' => ?_⟩
        obtain ⟨R2, l2⟩ := RS.cut R R' l' c.1
        obtain ⟨f, e2, S2, eq, q⟩ := p
        cases eq
        exact q σ' H' _ R2 l2 ((er_forget E').cut c.2)
      · exact (pns_none p).elim
    | ct =>
      dsimp only at p
      split at p
      · rename_i c
        refine ⟨.ct, e', S', rfl, fun σ' H' ρ' R' l' E' => ?_⟩
        obtain ⟨R2, l2⟩ := RS.cut R R' l' c.1
        obtain ⟨f, e2, S2, eq, q⟩ := p
        cases eq
        exact q σ' H' _ R2 l2 ((er_forget E').cut c.2)
      · exact (pns_none p).elim
/-- what is to be shown behind such a statement -/
def cutR (S : Sto) (ws : List Nat) (R : Fl → Ev → Sto → Prop) : Fl → Ev → Sto → Prop := fun f e S' => match f with
  | .rt x => CutOk S S' ∧ ∃ y, frzV S.length S' x = some y ∧ R (.rt y) (forget e ws) (S'.take S.length)
  | .er _ => False
  | f => CutOk S S' ∧ EvBelow S.length (forget e ws) ∧ R f (forget e ws) (S'.take S.length)
theorem ws_cut {m : MS} {e : Ev} {S : Sto} {ws : List Nat} {R : Fl → Ev → Sto → Prop} (h : WS (m e S) (cutR S ws R)) : WS (dCut ws m e S) R := by
  obtain ⟨f, e', S', h1, q⟩ := h
  unfold dCut
  rw [h1]
  cases f with
  | er x => exact q.elim
  | rt x =>
    obtain ⟨q1, y, q2, q3⟩ := q
    simp only [q1, if_true, q2]
    exact ws_some q3
  | nx =>
    obtain ⟨q1, q2, q3⟩ := q
    simp only [q1, q2, and_self, if_true]
    exact ws_some q3
  | bk =>
    obtain ⟨q1, q2, q3⟩ := q
    simp only [q1, q2, and_self, if_true]
    exact ws_some q3
  | ct =>
    obtain ⟨q1, q2, q3⟩ := q
    simp only [q1, q2, and_self, if_true]
    exact ws_some q3

/-! ### what may raise -/
def WEX (Er : Xn → Sto → Prop) (o : Out) (Q : Val → Sto → Prop) : Prop := ∃ r S', o = some (r, S') ∧ match r with
  | .ok x => Q x S'
  | .er e => Er e S'
section
variable {Er : Xn → Sto → Prop} {e : Ev} {S : Sto} {Q : Val → Sto → Prop} {R : Fl → Ev → Sto → Prop} {m : M} {ms : List M} {g : FnX} {o : Out}
theorem WE.x (h : WE o Q) : WEX Er o Q := let ⟨x, S', e, q⟩ := h; ⟨.ok x, S', e, q⟩
theorem WEX.ok (h : WEX (fun _ _ => False) o Q) : WE o Q := by
  obtain ⟨r, S', e, q⟩ := h
  cases r with
  | ok x => exact ⟨x, S', e, q⟩
  | er x => exact q.elim
theorem WEX.mono {Er' : Xn → Sto → Prop} {Q' : Val → Sto → Prop} (h : WEX Er o Q) (i : ∀ x S, Q x S → Q' x S) (j : ∀ x S, Er x S → Er' x S) : WEX Er' o Q' := by
  obtain ⟨r, S', e, q⟩ := h
  cases r with
  | ok x => exact ⟨_, S', e, i _ _ q⟩
  | er x => exact ⟨_, S', e, j _ _ q⟩
theorem wex_ok {x : Val} (h : Q x S) : WEX Er (some (.ok x, S)) Q := ⟨_, S, rfl, h⟩
theorem wex_er {x : Xn} (h : Er x S) : WEX Er (some (.er x, S)) Q := ⟨_, S, rfl, h⟩
/-- where what is raised goes -/
def erS (R : Fl → Ev → Sto → Prop) (e : Ev) : Xn → Sto → Prop := fun x S => R (.er x) e S
theorem ws_bndX {k : Val → MS} (h : WEX (erS R e) (m e S) fun x S1 => WS (k x e S1) R) : WS (bndS m k e S) R := by
  obtain ⟨r, S1, e1, q⟩ := h
  unfold bndS
  rw [e1]
  cases r with
  | ok x => exact q
  | er x => exact ws_some q
theorem ws_setX {i : Nat} (h : WEX (erS R e) (m e S) fun x S1 => R .nx (e.set i (some x)) S1) : WS (dSet i m e S) R := ws_bndX (h.mono (fun x S1 q => ws_some q) fun _ _ q => q)
theorem ws_exprX (h : WEX (erS R e) (m e S) fun x S1 => R .nx e S1) : WS (dExpr m e S) R := ws_bndX (h.mono (fun x S1 q => ws_some q) fun _ _ q => q)
theorem ws_retX (h : WEX (erS R e) (m e S) fun x S1 => R (.rt x) e S1) : WS (dRet m e S) R := ws_bndX (h.mono (fun x S1 q => ws_some q) fun _ _ q => q)
theorem wex_bnd {k : Val → M} (h : WEX Er (m e S) fun x S1 => WEX Er (k x e S1) Q) : WEX Er (bnd m k e S) Q := by
  obtain ⟨r, S1, e1, q⟩ := h
  unfold bnd
  rw [e1]
  cases r with
  | ok x => exact q
  | er x => exact wex_er q
theorem wex_args : ∀ {ms : List M} {k : List Val → M} {S : Sto}, WA e ms S (fun xs S1 => WEX Er (k xs e S1) Q) → WEX Er (args ms k e S) Q
  | [], k, S, h => h
  | m :: ms, k, S, h => wex_bnd (WE.x (WE.mono h fun x S1 q => wex_args q))
theorem wex_call (h : WA e ms S fun xs S1 => WEX Er (g xs S1) Q) : WEX Er (mCallX g ms e S) Q := wex_args h
theorem wex_meth {C : Addr} {n : Str} (h : WE (m e S) fun x S1 => ∃ i fs, insAt C S1 x = some (i, fs) ∧ fs.lookup n = none ∧ WA e ms S1 fun xs S2 => WEX Er (g (x :: xs) S2) Q) : WEX Er (mMethX C n g m ms e S) Q := by
  refine wex_bnd (WE.x (h.mono fun x S1 q => ?_))
  obtain ⟨i, fs, h1, h2, q⟩ := q
  simp only [h1, h2]
  exact wex_args q
theorem we_callX (h : WA e ms S fun xs S1 => WE (g xs S1) Q) : WE (mCallX g ms e S) Q := we_args h
theorem we_methX {C : Addr} {n : Str} (h : WE (m e S) fun x S1 => ∃ i fs, insAt C S1 x = some (i, fs) ∧ fs.lookup n = none ∧ WA e ms S1 fun xs S2 => WE (g (x :: xs) S2) Q) : WE (mMethX C n g m ms e S) Q := by
  refine we_bnd (h.mono fun x S1 q => ?_)
  obtain ⟨i, fs, h1, h2, q⟩ := q
  simp only [h1, h2]
  exact we_args q
theorem we_makeX {C : Addr} (h : WA e ms S fun xs S1 => WE (g (.ref S1.length :: xs) (S1 ++ [.ins C []])) fun z S' => z = .d .none ∧ Q (.ref S1.length) S') : WE (mMakeX C g ms e S) Q := by
  refine we_args (WA.mono (Q := fun _ _ => True) (Q' := fun _ _ => True) h fun xs S1 q => ?_)
  obtain ⟨z, S', e1, rfl, q⟩ := q
  simp only [e1]
  exact we_ok q
theorem ws_raise {x : Str} (h : R (.er ⟨x, none⟩) e S) : WS (dRaise x e S) R := ws_some h
theorem ws_raiseI {x f : Str} {c : Sto → Val → Bool} (h : WE (m e S) fun y S1 => c S1 y = true ∧ R (.er ⟨x, some [(f, y)]⟩) e S1) : WS (dRaiseI x f c m e S) R := by
  refine ws_bndS (h.mono fun y S1 q => ?_)
  rw [if_pos q.1]
  exact ws_some q.2
theorem thenS_er {b : MS} {x : Xn} (h : R (.er x) e S) : thenS b R (.er x) e S := h
theorem turnS_er {On : Ev → Sto → Prop} {x : Xn} (h : R (.er x) e S) : turnS On R (.er x) e S := h
/-! try -/
def clS (cs : List Cla) (R : Fl → Ev → Sto → Prop) : Fl → Ev → Sto → Prop
  | .er x, e, S => WS (dClauses cs x e S) R
  | f, e, S => R f e S
theorem ws_try {x : MS} {cs : List Cla} (h : WS (x e S) (clS cs R)) : WS (dTry x cs e S) R := by
  obtain ⟨f, e1, S1, h1, q⟩ := h
  unfold dTry
  rw [h1]
  cases f with
  | er z => exact q
  | nx => exact ws_some q
  | bk => exact ws_some q
  | ct => exact ws_some q
  | rt z => exact ws_some q
theorem clS_rt {cs : List Cla} {x : Val} (h : R (.rt x) e S) : clS cs R (.rt x) e S := h
theorem clS_nx {cs : List Cla} (h : R .nx e S) : clS cs R .nx e S := h
theorem clS_er {cs : List Cla} {x : Xn} (h : WS (dClauses cs x e S) R) : clS cs R (.er x) e S := h
def hideS (i : Nat) (R : Fl → Ev → Sto → Prop) : Fl → Ev → Sto → Prop
  | .er _, _, _ => False
  | f, e, S => R f (e.set i none) S
theorem ws_clHit {x : Xn} {c : Cla} {r : List Cla} (hm : x.cls ∈ c.hit) (h : WS (c.ms (e.set c.slot none) S) (hideS c.slot R)) : WS (dClauses (c :: r) x e S) R := by
  obtain ⟨f, e1, S1, h1, q⟩ := h
  unfold dClauses
  rw [if_pos hm, h1]
  cases f with
  | er z => exact q.elim
  | nx => exact ws_some q
  | bk => exact ws_some q
  | ct => exact ws_some q
  | rt z => exact ws_some q
theorem ws_clMiss {x : Xn} {c : Cla} {r : List Cla} (hm : x.cls ∉ c.hit) (hs : x.cls ∈ c.miss) (h : WS (dClauses r x e S) R) : WS (dClauses (c :: r) x e S) R := by
  unfold dClauses
  rw [if_neg hm, if_pos hs]
  exact h
theorem hideS_rt {i : Nat} {x : Val} (h : R (.rt x) (e.set i none) S) : hideS i R (.rt x) e S := h
theorem hideS_nx {i : Nat} (h : R .nx (e.set i none) S) : hideS i R .nx e S := h
/-! defs that may raise -/
def endX (Er : Xn → Sto → Prop) (Q : Val → Sto → Prop) : Fl → Ev → Sto → Prop
  | .nx, _, S => Q (.d .none) S
  | .rt x, _, S => Q x S
  | .er x, _, S => Er x S
  | _, _, _ => False
theorem wx_keep {n : Nat} {x : MS} {xs : List Val} (h : WS (x (env0 n xs) S) (endX Er Q)) : WEX Er (fnKeepX n x xs S) Q := by
  obtain ⟨f, e', S', eq, q⟩ := h
  unfold fnKeepX
  rw [eq]
  cases f with
  | nx => exact wex_ok q
  | rt z => exact wex_ok q
  | er z => exact wex_er q
  | bk => exact q.elim
  | ct => exact q.elim
theorem wx_cut {n : Nat} {x : MS} {xs : List Val} (h : WS (x (env0 n xs) S) (endX (fun z S' => CutOk S S' ∧ ∃ y, frzX S.length S' z = some y ∧ Er y (S'.take S.length)) fun z S' => CutOk S S' ∧ ∃ y, frzV S.length S' z = some y ∧ Q y (S'.take S.length))) : WEX Er (fnCutX n x xs S) Q := by
  obtain ⟨r, S', eq, h⟩ := wx_keep h
  unfold fnCutX
  rw [eq]
  cases r with
  | ok z =>
    obtain ⟨h1, y, h2, q⟩ := h
    simp only [h1, if_true, h2]
    exact wex_ok q
  | er z =>
    obtain ⟨h1, y, h2, q⟩ := h
    simp only [h1, if_true, h2]
    exact wex_er q
theorem endX_nx (h : Q (.d .none) S) : endX Er Q .nx e S := h
theorem endX_rt {x : Val} (h : Q x S) : endX Er Q (.rt x) e S := h
theorem endX_er {x : Xn} (h : Er x S) : endX Er Q (.er x) e S := h
end
/-! ### dicts with None keys -/
section
variable {Er : Xn → Sto → Prop} {e : Ev} {S : Sto} {Q : Val → Sto → Prop} {R : Fl → Ev → Sto → Prop} {m a b c : M} {z : PgW}
theorem dicN_at {i : Nat} {kvs : List (Leaf × Val)} (h : S[i]? = some (.dicN z kvs)) : dicNAt z S (.ref i) = some (i, kvs) := by simp [dicNAt, h]
theorem we_dicN (h : Q (.ref S.length) (S ++ [.dicN z []])) : WE (mDicN z e S) Q := we_ok h
theorem we_dispN (h : WE (a e (S ++ [.dicN z []])) fun x S1 => WE (b e S1) fun y S2 => S2[S.length]? = some (.dicN z []) ∧ ∃ k, leafOf x = some k ∧ Q (.ref S.length) (S2.set S.length (.dicN z [(k, y)]))) : WE (mDispN z a b e S) Q := by
  unfold mDispN
  refine we_bnd (h.mono fun x S1 q => we_bnd (q.mono fun y S2 q => ?_))
  obtain ⟨h1, k, h2, q⟩ := q
  simp only [dicN_at h1, h2, Option.bind_some, Option.map_some, if_true]
  exact we_ok q
theorem wg_inN {x : Val} {i : Nat} {kvs : List (Leaf × Val)} {k : Leaf} (hi : S[i]? = some (.dicN z kvs)) (hk : leafOf x = some k) (h : Q (.d (.bool (valK kvs k).isSome)) S) : WG (fInN z x (.ref i) S) Q := by
  unfold fInN
  simp only [dicN_at hi, hk, Option.bind_some, Option.map_some]
  exact wg_some h
theorem wg_notInN {x : Val} {i : Nat} {kvs : List (Leaf × Val)} {k : Leaf} (hi : S[i]? = some (.dicN z kvs)) (hk : leafOf x = some k) (h : Q (.d (.bool (!(valK kvs k).isSome))) S) : WG (fNotInN z x (.ref i) S) Q := by
  unfold fNotInN
  simp only [dicN_at hi, hk, Option.bind_some, Option.map_some]
  exact wg_some h
theorem wg_ixN {x y : Val} {i : Nat} {kvs : List (Leaf × Val)} {k : Leaf} (hi : S[i]? = some (.dicN z kvs)) (hk : leafOf x = some k) (hv : valK kvs k = some y) (h : Q y S) : WG (fIxN z (.ref i) x S) Q := by
  unfold fIxN
  simp only [dicN_at hi, hk, hv, Option.bind_some, Option.map_some]
  exact wg_some h
theorem ws_setIxN (h : WE (c e S) fun v S1 => WE (a e S1) fun o S2 => WE (b e S2) fun i S3 => ∃ S4, fSetN z o i v S3 = some S4 ∧ R .nx e S4) : WS (dSetIxN z a b c e S) R := by
  refine ws_bndS (h.mono fun v S1 h => ws_bndS (h.mono fun o S2 h => ws_bndS (h.mono fun i S3 h => ?_)))
  obtain ⟨S4, h1, q⟩ := h
  simp only [h1]
  exact ws_some q
theorem fset_N {r : Nat} {kvs : List (Leaf × Val)} {y v : Val} {k : Leaf} {P : Sto → Prop} (hr : S[r]? = some (.dicN z kvs)) (hk : leafOf y = some k) (hl : kvs.length < sizeLine) (q : P (S.set r (.dicN z (putV kvs k v)))) : ∃ S4, fSetN z (.ref r) y v S = some S4 ∧ P S4 := by
  refine ⟨_, ?_, q⟩
  unfold fSetN
  simp only [dicN_at hr, hk, Option.bind_some, if_pos hl]
/-! ### more of dicts -/
theorem dicM_at {i : Nat} {kvs : List (Key × Val)} (h : S[i]? = some (.dic kvs)) : dicM S (.ref i) = some (i, kvs) := by simp [dicM, h]
theorem dic_at {i : Nat} {kvs : List (Key × Val)} (h : S[i]? = some (.dic kvs)) : dicAt S (.ref i) = some kvs := by simp [dicAt, h]
theorem we_dpop (h : WE (a e S) fun x S1 => ∃ i kvs, x = .ref i ∧ S1[i]? = some (.dic kvs) ∧ WE (b e S1) fun y S2 => ∃ ls k v, S2[i]? = some (.dic ls) ∧ keyOf y = some k ∧ valK ls k = some v ∧ Q v (S2.set i (.dic (dropV ls k)))) : WE (mDPop a b e S) Q := by
  unfold mDPop
  refine we_bnd (h.mono fun x S1 q => ?_)
  obtain ⟨i, kvs, rfl, h1, q⟩ := q
  simp only [dicM_at h1]
  refine we_bnd (q.mono fun y S2 q => ?_)
  obtain ⟨ls, k, v, h2, h3, h4, q⟩ := q
  simp only [dicM_at h2, h3, h4, Option.bind_some, Option.map_some]
  exact we_ok q
theorem we_dget2 (h : WE (a e S) fun x S1 => ∃ i kvs, x = .ref i ∧ S1[i]? = some (.dic kvs) ∧ WE (b e S1) fun y S2 => WE (c e S2) fun w S3 => ∃ ls k, S3[i]? = some (.dic ls) ∧ keyOf y = some k ∧ Q ((valK ls k).getD w) S3) : WE (mDGet2 a b c e S) Q := by
  unfold mDGet2
  refine we_bnd (h.mono fun x S1 q => ?_)
  obtain ⟨i, kvs, rfl, h1, q⟩ := q
  simp only [dic_at h1]
  refine we_bnd (q.mono fun y S2 q => we_bnd (q.mono fun w S3 q => ?_))
  obtain ⟨ls, k, h2, h3, q⟩ := q
  simp only [dic_at h2, h3, Option.bind_some, Option.map_some]
  exact we_ok q
theorem ex_dic {i : Nat} {kvs : List (Key × Val)} {P : Nat → Prop} (h : S[i]? = some (.dic kvs)) (q : P i) : ∃ j ls, Val.ref i = .ref j ∧ S[j]? = some (.dic ls) ∧ P j := ⟨i, kvs, rfl, h, q⟩
theorem wg_dictD {i : Nat} {kvs : List (Key × Val)} (h : S[i]? = some (.dic kvs)) (q : Q (.ref S.length) (S ++ [.dic kvs])) : WG (fDictD [.ref i] S) Q := by
  unfold fDictD
  simp only [dic_at h, Option.map_some]
  exact wg_some q
theorem wg_dictP {ps : List PyData} {kd : List (Key × PyData)} (h : pairsD ps = some kd) (q : Q (.ref S.length) (S ++ [.dic (mergeV [] (kd.map fun q => (q.1, .d q.2)))])) : WG (fDictP [.d (.list ps)] S) Q := by
  unfold fDictP
  simp only [lstD, Option.bind_some, h, Option.map_some]
  exact wg_some q
theorem wg_DD {g : Bool → Bool} {i j : Nat} {ks ls : List (Key × Val)} {kd ld : List (Key × PyData)} {t : Bool} (hi : S[i]? = some (.dic ks)) (hj : S[j]? = some (.dic ls)) (h1 : kvD ks = some kd) (h2 : kvD ls = some ld) (ht : (kd.length == ld.length && hitsD ld kd) = t)
    (q : Q (.d (.bool (g t))) S) : WG (fDD g (.ref i) (.ref j) S) Q := by
  unfold fDD
  simp only [dic_at hi, dic_at hj, h1, h2, Option.bind_some, Option.map_some, ht]
  exact wg_some q
theorem wg_sortDI {i : Nat} {kvs : List (Key × Val)} {ns : List Int} (hi : S[i]? = some (.dic kvs)) (h1 : keyInts kvs = some ns) (h2 : ns.length < 64) (h3 : ns.Pairwise (· < ·)) (q : Q (.d (.list (ns.map .int))) S) : WG (fSortDI [.ref i] S) Q := by
  unfold fSortDI
  simp only [dic_at hi, h1, Option.bind_some, h2, h3, and_self, if_true]
  exact wg_some q
theorem wg_listRev {ps : List PyData} (q : Q (.d (.list ps.reverse)) S) : WG (fListRev (.d (.list ps)) S) Q := wg_some q
theorem wg_listRevR {i : Nat} {ps : List PyData} (h : S[i]? = some (.lst (ps.map .d))) (q : Q (.d (.list ps.reverse)) S) : WG (fListRev (.ref i) S) Q := by
  unfold fListRev lstD
  simp only [h, toDs_map, Option.map_some]
  exact wg_some q
theorem wg_lenD {i : Nat} {kvs : List (Key × Val)} (h : S[i]? = some (.dic kvs)) (q : Q (.d (.int kvs.length)) S) : WG (fLen [.ref i] S) Q := by
  unfold fLen lenAt
  simp only [h, Option.map_some]
  exact wg_some q
end
/-! ### keys and values -/
section
variable {κ : Type} [DecidableEq κ]
theorem valK_put {kvs : List (κ × Val)} {k k' : κ} {v : Val} : valK (putV kvs k v) k' = if k' = k then some v else valK kvs k' := by
  unfold putV
  split
  · rename_i h
    induction kvs with
    | nil => simp at h
    | cons q r ih =>
      by_cases hq : q.1 = k
      · by_cases hk : k' = k
        · subst hk
          simp [valK, hq]
        · have e1 : ¬ (k = k') := fun z => hk z.symm
          simp only [List.map_cons, hq, if_true, hk, if_false]
          unfold valK
          simp only [List.find?_cons, hq, e1, decide_false]
          by_cases hr : r.any (fun kv => decide (kv.1 = k)) = true
          · have := ih hr
            unfold valK at this
            rw [if_neg hk] at this
            exact this
          · have : r.map (fun kv => if kv.1 = k then (kv.1, v) else kv) = r := by
              conv => rhs; rw [← List.map_id r]
              refine List.map_congr_left fun x hx => if_neg fun z => hr ?_
              exact List.any_eq_true.mpr ⟨x, hx, decide_eq_true z⟩
            rw [this]
      · have hr : r.any (fun kv => decide (kv.1 = k)) = true := by simpa [hq] using h
        have := ih hr
        unfold valK at this ⊢
        simp only [List.map_cons, hq, if_false, List.find?_cons]
        by_cases hk : q.1 = k'
        · have : ¬ (k' = k) := fun z => hq (hk.trans z)
          simp [hk, this]
        · simpa only [hk, decide_false] using this
  · rename_i h
    unfold valK
    rw [List.find?_append]
    by_cases hk : k' = k
    · subst hk
      have : kvs.find? (fun kv => decide (kv.1 = k')) = none := by
        rw [List.find?_eq_none]
        intro x hx z
        exact h (List.any_eq_true.mpr ⟨x, hx, z⟩)
      simp [this]
    · have : ¬ (k = k') := fun z => hk z.symm
      simp only [List.find?_cons, this, decide_false, List.find?_nil, Option.or_none, hk, if_false]
theorem keys_put {kvs : List (κ × Val)} {k : κ} {v : Val} : (putV kvs k v).map (·.1) = if k ∈ kvs.map (·.1) then kvs.map (·.1) else kvs.map (·.1) ++ [k] := by
  have e : (kvs.any fun kv => decide (kv.1 = k)) = decide (k ∈ kvs.map (·.1)) := by
    rw [Bool.eq_iff_iff, List.any_eq_true, decide_eq_true_iff, List.mem_map]
    exact ⟨fun ⟨x, h1, h2⟩ => ⟨x, h1, of_decide_eq_true h2⟩, fun ⟨x, h1, h2⟩ => ⟨x, h1, decide_eq_true h2⟩⟩
  unfold putV
  rw [e]
  by_cases h : k ∈ kvs.map (·.1)
  · rw [if_pos (decide_eq_true h), if_pos h, List.map_map]
    refine List.map_congr_left fun x _ => ?_
    simp only [Function.comp]
    split <;> rfl
  · rw [if_neg (by simpa using h), if_neg h]
    simp
end
end Lv
end
section
set_option Elab.async false
set_option linter.all false
set_option autoImplicit false
set_option maxRecDepth 100000
set_option maxHeartbeats 2000000
/-! A new dict that is walked at once; d.clear(); xs.index(y); list(d) in the store. -/
namespace Lv
open PySem PySem.Spec PyProof.Rows L2

/-! ### a dict that is locked for good -/
def tFrzE (t : TE) : TE := fun σ H Q => t σ H fun x H1 => ∃ (d : Addr) (kvs : List (Key × V)), x = .ref d ∧ H1 d = some (.dK kvs) ∧ ∀ od, Q x (upd H1 d (.frz od (.dK kvs)))
theorem pe_frz {X : Cx} {e : Expr} {t : TE} (h : PE X e t) : PE X e (tFrzE t) := ⟨fun pins s σ H Q I hw => thn (h.run pins s σ H _ I hw) fun v s1 q => by
  obtain ⟨x, H1, I1, r, d, kvs, ex, hd, q⟩ := q
  obtain ⟨od, I2⟩ := I1.lock hd trivial
  exact ⟨x, _, I2, r, q od⟩⟩
def mFrz (m : M) : M := bnd m fun x => fun _ S => match dicM S x with
  | some (i, kvs) => some (.ok x, S.set i (.dicL kvs))
  | none => none
theorem px_frz {X : Cx} {W : WX} {e : Expr} {m : M} (h : PX X W e m) : PX X W e (mFrz m) := PX.of (pe_frz h.pe) fun σ H Q ev S ρ R E p => by
  refine rE_bnd R E p fun v H1 x S1 ρ1 R1 E1 l1 rv p1 => ?_
  split at p1
  · rename_i i kvs hd
    obtain ⟨a, vs, rfl, rfl, hi, h1, h2⟩ := dicM_ok R1 rv hd
    refine ⟨a, vs, rfl, h1, fun od => ?_⟩
    obtain ⟨R2, l2⟩ := lock_in R1 hi h1 h2 od
    exact p1.ok R2 l2 (VR.mono l2 rv)
  · exact (pn_none p1).elim
theorem we_frz {m : M} {e : Ev} {S : Sto} {Q : Val → Sto → Prop} (h : WE (m e S) fun x S1 => ∃ i kvs, x = .ref i ∧ S1[i]? = some (.dic kvs) ∧ Q x (S1.set i (.dicL kvs))) : WE (mFrz m e S) Q := by
  unfold mFrz
  refine we_bnd (h.mono fun x S1 q => ?_)
  obtain ⟨i, kvs, rfl, h1, q⟩ := q
  simp only [dicM_at h1]
  exact we_ok q
theorem ex_vals {i : Nat} {S : Sto} {kvs : List (Key × Val)} {P : Sr → Prop} (h : S[i]? = some (.dicL kvs)) (q : P ⟨kvs.map fun kv => kv.2, some (i, .dicL kvs)⟩) : ∃ sr, fVals [.ref i] S = some sr ∧ P sr := ⟨_, by simp only [fVals, h], q⟩
theorem ex_keys {i : Nat} {S : Sto} {kvs : List (Key × Val)} {P : Sr → Prop} (h : S[i]? = some (.dicL kvs)) (q : P ⟨kvs.map fun kv => .d (valOfKey kv.1), some (i, .dicL kvs)⟩) : ∃ sr, fKeys [.ref i] S = some sr ∧ P sr := ⟨_, by simp only [fKeys, h], q⟩
/-! ### d.clear() -/
def mDClear (m : M) : M := bnd m fun x => fun _ S => match dicM S x with
  | some (i, _) => some (.ok (.d .none), S.set i (.dic []))
  | none => none
theorem px_dclear {X : Cx} {W : WX} {o : Expr} {m : M} {apos cpos : Pos} (h : PX X W o m) (hbase : attributeBase o "clear" X.env (eval o X.env) = eval o X.env := by rfl) (hline : (apos.endLine == cpos.line) = true := by rfl) :
    PX X W (.Call (.Attribute o "clear" apos) [] [] cpos) (mDClear m) := PX.of (pe_dclear h.pe hbase hline) fun σ H Q ev S ρ R E p => by
  refine rE_bnd R E p fun v H1 x S1 ρ1 R1 E1 l1 rv p1 => ?_
  split at p1
  · rename_i i kvs hd
    obtain ⟨a, vs, rfl, rfl, hi, h1, h2⟩ := dicM_ok R1 rv hd
    refine ⟨.inr (.inr (.inl ⟨rfl, .inl ⟨vs, h1⟩⟩)), a, vs, rfl, rfl, h1, ?_⟩
    obtain ⟨R2, l2⟩ := R1.put (o := .dK []) (u := .dic []) hi (noz h1 (fun _ _ => by simp)) ⟨_, upd_same, .nil⟩
    exact p1.ok R2 l2 .non
  · exact (pn_none p1).elim
theorem we_dclear {m : M} {e : Ev} {S : Sto} {Q : Val → Sto → Prop} (h : WE (m e S) fun x S1 => ∃ i kvs, x = .ref i ∧ S1[i]? = some (.dic kvs) ∧ Q (.d .none) (S1.set i (.dic []))) : WE (mDClear m e S) Q := by
  unfold mDClear
  refine we_bnd (h.mono fun x S1 q => ?_)
  obtain ⟨i, kvs, rfl, h1, q⟩ := q
  simp only [dicM_at h1]
  exact we_ok q
/-! ### list(d), a list that may be changed -/
def fListKN : FN := fun xs S => match xs with
  | [x] => (dicM S x).map fun p => (.ref S.length, S ++ [.lst (p.2.map fun kv => .d (valOfKey kv.1))])
  | _ => none
theorem vr_keys {K : PySem.W.Frag} {ρ ρ' : Rg} {H H' : Hp} : ∀ {vs : List (Key × V)} {kvs : List (Key × Val)}, KR K ρ H vs kvs → VRs K ρ' H' (vs.map fun kv => kV kv.1) (kvs.map fun kv => .d (valOfKey kv.1))
  | _, _, .nil => .nil
  | p :: vs, q :: kvs, .cons h t => by
    have e := h.1
    refine .cons ?_ (vr_keys t)
    show VR K ρ' H' (kV p.1) (.d (valOfKey q.1))
    rw [e]
    exact vr_key q.1
theorem o_listKN {K : PySem.W.Frag} : OpN K rListD fListKN := by
  intro ρ S H vs xs z S' Q R rv eq q
  unfold fListKN at eq
  split at eq
  · rename_i x
    obtain ⟨v, rfl, r1⟩ := vrs1 rv
    obtain ⟨⟨i, kvs⟩, hp, e⟩ := Option.map_eq_some_iff.mp eq
    cases e
    obtain ⟨a, ws, rfl, rfl, hi, ha, hk⟩ := dicM_ok R r1 hp
    exact ⟨a, ws, rfl, ha, new_lst R (vr_keys hk) q⟩
  · cases eq
theorem wg_listKN {i : Nat} {S : Sto} {kvs : List (Key × Val)} {Q : Val → Sto → Prop} (hi : S[i]? = some (.dic kvs)) (h : Q (.ref S.length) (S ++ [.lst (kvs.map fun kv => .d (valOfKey kv.1))])) : WG (fListKN [.ref i] S) Q := by
  unfold fListKN
  simp only [dicM_at hi, Option.map_some]
  exact wg_some h
/-! ### xs.index(y), texts -/
def mIndexS (mo me : M) : M := bnd mo fun x => match x with
  | .d (.list ps) => args [me] fun ys => fun _ S => match ys with
    | [.d (.str s)] => (mapO toStr ps).bind fun ns => (ns.findIdx? fun n => decide (n = s)).map fun j => (.ok (.d (.int (j : Nat))), S)
    | _ => none
  | _ => fun _ _ => none
theorem flat_strsV : ∀ ns : List Str, (ns.map V.str).all flatV = true
  | [] => rfl
  | n :: ns => by
    simp only [List.map_cons, List.all_cons, flatV, Bool.true_and]
    exact flat_strsV ns
theorem px_indexS {X : Cx} {W : WX} {o e : Expr} {mo me : M} {apos cpos : Pos} (ho : PX X W o mo) (he : AX X W [e] [me]) (hbase : attributeBase o "index" X.env (eval o X.env) = eval o X.env := by rfl)
    (hfew : ((backTo cpos (starEach [e] X.env)).all (fun x => !x.1) && (backToKw cpos (keywordEach [] X.env)).all (fun x => x.1.isSome)
      && decide ([e].length + ([] : List Keyword).length + (if ([] : List Keyword).isEmpty then 0 else 1) < 30)) = true := by rfl)
    (hline : (apos.endLine == cpos.line) = true := by rfl) (hs : starEach [e] X.env = (false, eval e X.env) :: starEach [] X.env := by rfl) : PX X W (.Call (.Attribute o "index" apos) [e] [] cpos) (mIndexS mo me) :=
  PX.of (pe_bm PySem.F.plainAttrs_list PySem.F.slot_list_index PySem.F.type_list_index mt_index ho.pe he.pa hbase hfew hline hs rfl) fun σ H Q ev S ρ R E p => by
    refine rE_bnd R E p fun v H1 x S1 ρ1 R1 E1 l1 rv p1 => ?_
    split at p1
    · rename_i ps
      obtain ⟨a, vs, rfl, hs1, hd1⟩ := vr_list rv
      refine ⟨.inl ⟨rfl, vs, hs1⟩, ?_⟩
      refine rA_bnd R1 E1 p1 fun us H2 ys S2 ρ2 R2 E2 l2 rvs p2 => ?_
      split at p2
      · rename_i s
        obtain ⟨u, rfl, ru⟩ := vrs1 rvs
        cases vr_str ru
        cases hm : mapO toStr ps with
        | none =>
          rw [hm] at p2
          exact (pn_none p2).elim
        | some ns =>
          rw [hm] at p2
          simp only [Option.bind_some] at p2
          cases hf : ns.findIdx? fun n => decide (n = s) with
          | none =>
            rw [hf] at p2
            exact (pn_none p2).elim
          | some j =>
            rw [hf] at p2
            obtain ⟨a2, vs2, e2, hs2, hd2⟩ := vr_list (VR.mono l2 rv)
            cases e2
            have ev2 := dpall_strs hm hd2
            subst ev2
            obtain ⟨hj, h1, h2⟩ := List.findIdx?_eq_some_iff_getElem.mp hf
            refine ⟨a, ns.map V.str, .str s, j, .str ns[j], rfl, rfl, hs2, rfl, flat_strsV ns, by simp [hj], ?_, fun m z' hm' hz => ?_, p2.ok R2 (Le.refl ρ2 H2) (.int _)⟩
            · rw [of_decide_eq_true h1]
              simp [eqV]
            · rw [List.getElem?_map] at hz
              obtain ⟨n, hn, rfl⟩ := Option.map_eq_some_iff.mp hz
              obtain ⟨hml, rfl⟩ := List.getElem?_eq_some_iff.mp hn
              have := h2 m hm'
              simpa [eqV] using this
      · exact (pn_none p2).elim
    · exact (pn_none p1).elim
theorem we_indexS {m m2 : M} {e : Ev} {S : Sto} {Q : Val → Sto → Prop} (h : WE (m e S) fun x S1 => ∃ ns : List Str, x = .d (.list (ns.map .str)) ∧ WE (m2 e S1) fun y S2 => ∃ s j, y = .d (.str s) ∧ (ns.findIdx? fun n => decide (n = s)) = some j ∧ Q (.d (.int (j : Nat))) S2) : WE (mIndexS m m2 e S) Q := by
  unfold mIndexS
  refine we_bnd (h.mono fun x S1 q => ?_)
  obtain ⟨ns, rfl, q⟩ := q
  refine we_args (ms := [m2]) (q.mono fun y S2 q => ?_)
  obtain ⟨s, j, rfl, h1, q⟩ := q
  show WE _ _
  have e1 : mapO toStr (ns.map PyData.str) = some ns := (mapO_map (f := toStr) (g := PyData.str) (k := fun i => i) (fun _ => rfl) ns).trans (by simp)
  simp only [e1, h1, Option.bind_some, Option.map_some]
  exact we_ok q
end Lv
end
section
set_option Elab.async false
set_option linter.all false
set_option autoImplicit false
set_option maxRecDepth 100000
set_option maxHeartbeats 2000000
/-! A suite that looks at its exception: it stands in the store. -/
namespace Lv
open PySem PySem.Spec PyProof.Rows L2
/-- the exception's object, held -/
abbrev xcO (oe : Obj) : HO := .frz oe (.ext fun _ => True)
theorem exc_at {K : PySem.W.Frag} {ρ : Rg} {S : Sto} {H : Hp} (R : RS K ρ S H) {v : V} {i : Nat} {x : Xn} (r : VR K ρ H v (.ref i)) (h : S[i]? = some (.exc x)) :
    ∃ (a : Addr) (oe : Obj), v = .ref a ∧ H a = some (xcO oe) ∧ (∃ vs, oe.data = .fields vs) ∧ XR K ρ H oe.cls oe.dict x := by
  obtain ⟨a, hi, rfl⟩ := r
  obtain ⟨oe, q, z, y⟩ := R.ob i a _ hi h
  exact ⟨a, oe, rfl, q, z, y⟩
/-- its dict, if it has one -/
def XdH (H : Hp) (d : Option Addr) : Prop := d = none ∨ ∃ a fs, d = some a ∧ H a = some (.xd fs)
theorem XR.xd {K : PySem.W.Frag} {ρ : Rg} {H : Hp} {c : Value} {d : Option Addr} {x : Xn} (h : XR K ρ H c d x) : XdH H d := by
  obtain ⟨cls, fs⟩ := x
  cases fs with
  | none => exact .inl h.2
  | some fs =>
    obtain ⟨a, vs, e, q, _⟩ := h.2
    exact .inr ⟨a, vs, e, frz_ex ρ H _ _ q⟩
section
variable {X : Cx} {pins : List (Addr × Obj)} {σ : L2.St} {H : Hp} {s : Shared} {a D : Addr} {oe : Obj}
theorem exc_inst (I : Inv X pins σ H s) (h : H a = some (xcO oe)) (hf : ∃ vs, oe.data = .fields vs) (hc : oe.cls = .ref D) (hd : XdH H oe.dict) : ∃ od, PySem.W.InstAt s.heap a oe D od := by
  obtain ⟨h1, _⟩ := (show ObjOk X.prog X.w H s.heap a (.frz oe _) from I.hok a _ h)
  obtain ⟨vs, hv⟩ := hf
  have nc : PySem.W.notCls oe := by
    unfold PySem.W.notCls
    rw [hv]
  rcases hd with hd | ⟨b, fs, hd, hb⟩
  · exact ⟨none, h1, hc, nc, by rw [hd]; trivial⟩
  · obtain ⟨_, n, _⟩ := (show ObjOk X.prog X.w H s.heap b (.xd fs) from I.hok b _ hb)
    obtain ⟨od, ho, _⟩ := lookIn_ns n
    exact ⟨some od, h1, hc, nc, by rw [hd]; exact ho⟩
theorem exc_kit {K : PySem.W.Frag} {x : Addr} (C : ExcC K D) (od : Option Obj) : PySem.W.KitX K (.ref x) (.ref D) (fun h => PySem.W.InstAt h x oe D od) := by
  obtain ⟨cd, hcd, _⟩ := PySem.W.any_some C.hd
  exact PySem.W.kitx_exc (by rw [hcd]; rfl) C.hg C.hk C.hs C.ha C.hn C.ht C.hm
end
/-- isinstance(e, c): e is held -/
def rIsX (K : PySem.W.Frag) : List V → Hp → VK → Prop := fun xs H Q => ∃ (a D : Addr) (oe : Obj) (c : V) (u : Value) (b : Bool), xs = [.ref a, c] ∧ H a = some (xcO oe) ∧ (∃ vs, oe.data = .fields vs) ∧ oe.cls = .ref D ∧ XdH H oe.dict ∧ ExcC K D ∧ ClsV c u ∧ PySem.W.kitOne K (.ref D) u = some b ∧ Q (.bl b) H
theorem call_isX {X : Cx} : CallR X (.builtin "isinstance") (rIsX X.K) := by
  intro pins s σ H xs us Q I r h
  obtain ⟨a, D, oe, c, u, b, rfl, hH, hf, hc, hd, C, k, e, q⟩ := h
  obtain ⟨u1, u2, rfl, r1, r2⟩ := vals2 r
  cases (show u1 = Value.ref a from r1)
  have e2 := k.eq r2
  subst e2
  obtain ⟨od, J⟩ := exc_inst I hH hf hc hd
  exact PySem.W.kia_one (exc_kit C od) I.kIn J e (fun z => nomatch z) fun tk => ⟨.bl b, H, I.tok tk, rfl, q⟩
def rIsXT (K : PySem.W.Frag) : List V → Hp → VK → Prop := fun xs H Q => ∃ (a D tp : Addr) (oe : Obj) (cs : List V) (us : List Value) (b : Bool), xs = [.ref a, .ref tp] ∧ H a = some (xcO oe) ∧ (∃ vs, oe.data = .fields vs) ∧ oe.cls = .ref D ∧ XdH H oe.dict ∧ ExcC K D ∧ H tp = some (.tup cs) ∧ Paired ClsV cs us ∧ PySem.W.kitAny K (.ref D) us = some b ∧ Q (.bl b) H
theorem call_isXT {X : Cx} : CallR X (.builtin "isinstance") (rIsXT X.K) := by
  intro pins s σ H xs us Q I r h
  obtain ⟨a, D, tp, oe, cs, ws, b, rfl, hH, hf, hc, hd, C, hT, k, e, q⟩ := h
  obtain ⟨u1, u2, rfl, r1, r2⟩ := vals2 r
  cases (show u1 = Value.ref a from r1)
  cases (show u2 = Value.ref tp from r2)
  obtain ⟨od, J⟩ := exc_inst I hH hf hc hd
  obtain ⟨_, its, rv, o, h1, h2, n, h3⟩ := (show ObjOk X.prog X.w H s.heap tp (.tup cs) from I.hok tp _ hT)
  have e3 := ClsV.all k rv
  subst e3
  obtain ⟨oc, od', dt, sl⟩ := o
  simp only at h2 h3
  subst h2 h3
  exact PySem.W.kia_tup (exc_kit C od) I.kIn J h1 e (fun z => nomatch z) fun tk => ⟨.bl b, H, I.tok tk, rfl, q⟩
/-- what isinstance answers: the classes for which it is true, those for which it is not -/
def fIsX (hit miss : List Str) : F1 := fun x S => match x with
  | .ref i => match S[i]? with
    | some (.exc y) => if y.cls ∈ hit then some (.d (.bool true), S) else if y.cls ∈ miss then some (.d (.bool false), S) else none
    | _ => none
  | _ => none
theorem fIsX_ok {hit miss : List Str} {x z : Val} {S S' : Sto} (h : fIsX hit miss x S = some (z, S')) : ∃ (i : Nat) (y : Xn) (b : Bool), x = .ref i ∧ S[i]? = some (.exc y) ∧ (if b = true then y.cls ∈ hit else y.cls ∈ miss) ∧ z = .d (.bool b) ∧ S' = S := by
  unfold fIsX at h
  split at h
  · rename_i i
    split at h
    · rename_i y hy
      split at h
      · rename_i hm
        cases h
        exact ⟨i, y, true, rfl, hy, hm, rfl, rfl⟩
      · split at h
        · rename_i hm
          cases h
          exact ⟨i, y, false, rfl, hy, hm, rfl, rfl⟩
        · cases h
    · cases h
  · cases h
/-- what is known of the classes -/
def KitC (K : PySem.W.Frag) (hit miss : List Str) (u : Value) : Prop := (∀ y ∈ hit, ExcC K (He.ga K y) ∧ PySem.W.kitOne K (.ref (He.ga K y)) u = some true) ∧ ∀ y ∈ miss, ExcC K (He.ga K y) ∧ PySem.W.kitOne K (.ref (He.ga K y)) u = some false
def KitT (K : PySem.W.Frag) (hit miss : List Str) (us : List Value) : Prop := (∀ y ∈ hit, ExcC K (He.ga K y) ∧ PySem.W.kitAny K (.ref (He.ga K y)) us = some true) ∧ ∀ y ∈ miss, ExcC K (He.ga K y) ∧ PySem.W.kitAny K (.ref (He.ga K y)) us = some false
theorem KitC.at {K : PySem.W.Frag} {hit miss : List Str} {u : Value} (T : KitC K hit miss u) {b : Bool} {y : Str} (h : if b = true then y ∈ hit else y ∈ miss) : ExcC K (He.ga K y) ∧ PySem.W.kitOne K (.ref (He.ga K y)) u = some b := by
  cases b with
  | true => exact T.1 y h
  | false => exact T.2 y h
theorem KitT.at {K : PySem.W.Frag} {hit miss : List Str} {us : List Value} (T : KitT K hit miss us) {b : Bool} {y : Str} (h : if b = true then y ∈ hit else y ∈ miss) : ExcC K (He.ga K y) ∧ PySem.W.kitAny K (.ref (He.ga K y)) us = some b := by
  cases b with
  | true => exact T.1 y h
  | false => exact T.2 y h
/-- names of classes, written one behind the other -/
def tRefs : List Addr → TA
  | [] => tNil
  | c :: r => tCons (tC (.ref c)) (tRefs r)
structure PCs (X : Cx) (es : List Expr) (cs : List Addr) : Prop where
  pa : PA X es (tRefs cs)
theorem tRefs_ok {σ : L2.St} {H : Hp} : ∀ {cs : List Addr} {Q : List V → Hp → Prop}, Q (cs.map V.ref) H → tRefs cs σ H Q
  | [], Q, h => h
  | c :: r, Q, h => tRefs_ok (Q := fun xs H' => Q (.ref c :: xs) H') h
theorem clsV_refs : ∀ (cs : List Addr), Paired ClsV (cs.map V.ref) (cs.map Value.ref)
  | [] => .nil
  | c :: r => .cons (.own c) (clsV_refs r)
section
variable {X : Cx} {W : WX} {a : Expr} {ma : M} {pos p p2 : Pos} {hit miss : List Str}
theorem pcs_nil : PCs X [] [] := ⟨pa_nil⟩
theorem pcs_cons {x : Str} {c : Addr} {es : List Expr} {cs : List Addr} (hg : Gl X x) (hm : X.mg x = some (.ref c)) (r : PCs X es cs) (hd : (x == ("__debug__" : Str)) = false := by decide) : PCs X (.Name x p :: es) (c :: cs) :=
  ⟨pa_cons (pe_glob (v := .ref c) hg hm rfl hd) r.pa rfl⟩
theorem px_isC {C : Str} {c : Addr} (hg : Gl X "isinstance") (hm : X.mg "isinstance" = none) (hgC : Gl X C) (hmC : X.mg C = some (.ref c)) (T : KitC X.K hit miss (.ref c)) (ha : PX X W a ma) (hdC : (C == ("__debug__" : Str)) = false := by decide)
    (hs : starEach [a, .Name C p2] X.env = (false, eval a X.env) :: starEach [.Name C p2] X.env := by rfl) (hs2 : starEach [.Name C p2] X.env = (false, eval (.Name C p2) X.env) :: starEach [] X.env := by rfl) (hpl : (backTo pos (starEach [.Name C p2] X.env)).any (·.1) = false := by rfl) :
    PX X W (.Call (.Name "isinstance" p) [a, .Name C p2] [] pos) (mOp1 (fIsX hit miss) ma) :=
  PX.of (pe_callB call_isX hg hm (by decide +kernel) (pa_cons ha.pe (pa_cons (pe_glob (v := .ref c) hgC hmC rfl hdC) pa_nil hs2) hs) (by decide) (by decide) hs hpl) fun σ H Q ev S ρ R E p => by
    refine rE_bnd R E p fun v H1 x S1 ρ1 R1 E1 l1 rv p1 => ?_
    obtain ⟨z, S', eq, q⟩ := pn_lift p1
    obtain ⟨i, y, b, rfl, hy, hm, rfl, rfl⟩ := fIsX_ok eq
    obtain ⟨a', oe, rfl, hH, hf, xr⟩ := exc_at R1 rv hy
    obtain ⟨k1, k2⟩ := T.at hm
    exact ⟨a', _, oe, .ref c, .ref c, b, rfl, hH, hf, xr.1, xr.xd, k1, .own c, k2, q _ _ ρ1 R1 (Le.refl ρ1 H1) (.bl _)⟩
theorem px_isV {V_ : Str} {t : String} (hg : Gl X "isinstance") (hm : X.mg "isinstance" = none) (hgT : Gl X V_) (hmT : X.mg V_ = none) (hvT : bootBuiltins V_ = some (.type t)) (T : KitC X.K hit miss (.type t)) (ha : PX X W a ma) (hnT : V_ ≠ "__name__" := by decide) (hdT : (V_ == ("__debug__" : Str)) = false := by decide)
    (hs : starEach [a, .Name V_ p2] X.env = (false, eval a X.env) :: starEach [.Name V_ p2] X.env := by rfl) (hs2 : starEach [.Name V_ p2] X.env = (false, eval (.Name V_ p2) X.env) :: starEach [] X.env := by rfl) (hpl : (backTo pos (starEach [.Name V_ p2] X.env)).any (·.1) = false := by rfl) :
    PX X W (.Call (.Name "isinstance" p) [a, .Name V_ p2] [] pos) (mOp1 (fIsX hit miss) ma) :=
  PX.of (pe_callB call_isX hg hm (by decide +kernel) (pa_cons ha.pe (pa_cons (pe_bltn (v := .ty t) hgT hmT hvT rfl hnT hdT) pa_nil hs2) hs) (by decide) (by decide) hs hpl) fun σ H Q ev S ρ R E p => by
    refine rE_bnd R E p fun v H1 x S1 ρ1 R1 E1 l1 rv p1 => ?_
    obtain ⟨z, S', eq, q⟩ := pn_lift p1
    obtain ⟨i, y, b, rfl, hy, hm, rfl, rfl⟩ := fIsX_ok eq
    obtain ⟨a', oe, rfl, hH, hf, xr⟩ := exc_at R1 rv hy
    obtain ⟨k1, k2⟩ := T.at hm
    exact ⟨a', _, oe, .ty t, .type t, b, rfl, hH, hf, xr.1, xr.xd, k1, .ty t, k2, q _ _ ρ1 R1 (Le.refl ρ1 H1) (.bl _)⟩
theorem px_isT {es : List Expr} {cs : List Addr} {x1} (hg : Gl X "isinstance") (hm : X.mg "isinstance" = none) (hp : PCs X es cs) (T : KitT X.K hit miss (cs.map Value.ref)) (ha : PX X W a ma) (hz : cs.length ≤ 1000 := by decide)
    (hs : starEach [a, .Tuple es x1 p2] X.env = (false, eval a X.env) :: starEach [.Tuple es x1 p2] X.env := by rfl) (hs2 : starEach [.Tuple es x1 p2] X.env = (false, eval (.Tuple es x1 p2) X.env) :: starEach [] X.env := by rfl) (hpl : (backTo pos (starEach [.Tuple es x1 p2] X.env)).any (·.1) = false := by rfl) :
    PX X W (.Call (.Name "isinstance" p) [a, .Tuple es x1 p2] [] pos) (mOp1 (fIsX hit miss) ma) :=
  PX.of (pe_callB call_isXT hg hm (by decide +kernel) (pa_cons ha.pe (pa_cons (pe_tup hp.pa) pa_nil hs2) hs) (by decide) (by decide) hs hpl) fun σ H Q ev S ρ R E p => by
    refine rE_bnd R E p fun v H1 x S1 ρ1 R1 E1 l1 rv p1 => ?_
    obtain ⟨z, S', eq, q⟩ := pn_lift p1
    obtain ⟨i, y, b, rfl, hy, hm, rfl, rfl⟩ := fIsX_ok eq
    obtain ⟨a', oe, rfl, hH, hf, xr⟩ := exc_at R1 rv hy
    obtain ⟨k1, k2⟩ := T.at hm
    refine tRefs_ok ⟨by rw [List.length_map, sizeLine_eq]; omega, fun tp ntp => ?_⟩
    obtain ⟨R2, l2⟩ := R1.frozen (o := .tup (cs.map V.ref)) ntp
    have xr2 : XR X.K ρ1 (upd H1 tp (.tup (cs.map V.ref))) oe.cls oe.dict y := XR.ex l2.ex (fun _ _ z => VR.mono l2 z) xr
    exact ⟨a', _, tp, oe, cs.map V.ref, cs.map Value.ref, b, rfl, (upd_ne (ne_of_none hH ntp)).trans hH, hf, xr.1, xr2.xd, k1, upd_same, clsV_refs cs, k2, q _ _ ρ1 R2 l2 (.bl _)⟩
/-! ### a held exception's field -/
def fXf (n : Str) (cl : List Str) : F1 := fun x S => match x with
  | .ref i => match S[i]? with
    | some (.exc ⟨c, some fs⟩) => if c ∈ cl then (fs.lookup n).map fun y => (y, S) else none
    | _ => none
  | _ => none
def tXf2 (K : PySem.W.Frag) (n : Str) (te : TE) : TE := fun σ H Q => te σ H fun x H1 => ∃ (a D dd : Addr) (oe : Obj) (fs : List (Str × V)) (v : V), x = .ref a ∧ H1 a = some (xcO oe) ∧ (∃ vs, oe.data = .fields vs) ∧ oe.cls = .ref D ∧ oe.dict = some dd ∧ H1 dd = some (.xd fs) ∧ ExcC K D ∧ PySem.W.findIn K (.ref D) n = some none ∧ fs.lookup n = some v ∧ Q v H1
theorem pe_xf2 {e : Expr} {te : TE} {n : Str} (he : PE X e te) (hb : attributeBase e n X.env (eval e X.env) = eval e X.env := by rfl) : PE X (.Attribute e n pos) (tXf2 X.K n te) := by
  refine ⟨fun pins s σ H Q I h => ?_⟩
  refine attr_of hb (thn (he.run pins s σ H _ I h) fun u s1 hh => ?_)
  obtain ⟨x, H1, I1, rx, a, D, dd, oe, fs, v, rfl, hH, hf, hc, hd, ea, C, hno, l, q⟩ := hh
  cases (show u = Value.ref a from rx)
  obtain ⟨h1, _⟩ := (show ObjOk X.prog X.w H1 s1.heap a (.frz oe _) from I1.hok a _ hH)
  obtain ⟨mA, ns, rel⟩ := (show ObjOk X.prog X.w H1 s1.heap dd (.xd fs) from I1.hok dd _ ea)
  obtain ⟨od, ho, hl⟩ := lookIn_ns ns
  obtain ⟨w, hw, rw'⟩ := RelO.some_of (v := v) (o := mA n) (by rw [← l]; exact rel n)
  obtain ⟨vs, hv⟩ := hf
  have J : PySem.W.InstAt s1.heap a oe D (some od) := ⟨h1, hc, by unfold PySem.W.notCls; rw [hv], by rw [hd]; exact ho⟩
  exact HandSPX.exc_get I1.kIn J C.hg C.hk C.hs (PySem.W.findObj_own C.hd hno rfl (by rw [hl, hw])) (handed_of rw') ⟨v, H1, I1.tok _, rw', q⟩
theorem px_xf {e : Expr} {me : M} {n : Str} {cl : List Str} (T : ∀ y ∈ cl, ExcC X.K (He.ga X.K y) ∧ PySem.W.findIn X.K (.ref (He.ga X.K y)) n = some none) (he : PX X W e me) (hb : attributeBase e n X.env (eval e X.env) = eval e X.env := by rfl) : PX X W (.Attribute e n pos) (mOp1 (fXf n cl) me) :=
  PX.of (pe_xf2 he.pe hb) fun σ H Q ev S ρ R E p => by
    refine rE_bnd R E p fun v H1 x S1 ρ1 R1 E1 l1 rv p1 => ?_
    obtain ⟨z, S', eq, q⟩ := pn_lift p1
    unfold fXf at eq
    split at eq
    · rename_i i
      split at eq
      · rename_i c fs hy
        split at eq
        · rename_i hm
          obtain ⟨y, h1, h2⟩ := Option.map_eq_some_iff.mp eq
          cases h2
          obtain ⟨a', oe, rfl, hH, hf, xr⟩ := exc_at R1 rv hy
          obtain ⟨k1, k2⟩ := T _ hm
          obtain ⟨x1, dd, vs, e1, e2, e3⟩ := xr
          obtain ⟨w, f1, f2⟩ := (kr_lookup n e3).2 _ h1
          exact ⟨a', _, dd, oe, vs, w, rfl, hH, hf, x1, e1, frz_ex _ _ _ _ e2, k1, k2, f1, q w H1 ρ1 R1 (Le.refl ρ1 H1) f2⟩
        · cases eq
      · cases eq
    · cases eq
end

/-! ### a try whose suites hold their exception -/
def wClE (K : PySem.W.Frag) (Wo : WX) (D : Ends) : List (Value × Nat × L2.TS) → WX
  | [] => Wo
  | q :: r => fun cls d σ H => ∃ b, PySem.W.exmOne K cls q.1 = some b ∧ (b = true → ∀ (a : Addr) (oe : Obj), H a = none → Zc cls d oe → (∃ vs, oe.data = .fields vs) → q.2.2 (dropE D q.2.1) (σ.set q.2.1 (some (.ref a))) (upd H a (xcO oe))) ∧ (b = false → wClE K Wo D r cls d σ H)
inductive ClausesE (X : Cx) : List ExceptHandler → List (Value × Nat × L2.TS) → Prop
  | nil : ClausesE X [] []
  | cons {x n : Str} {c : Value} {i : Nat} {ts : L2.TS} {st : Stmt} {sts : List Stmt} {np cp : Pos} {hs : List ExceptHandler} {l : List (Value × Nat × L2.TS)} (hc : Names X x c) (hi : X.N[i]? = some n) (hn : X.env.kindOf n = some .local)
      (suite : ∀ (a : Addr) (pn : List (Addr × Obj)), PSs (X.suite a pn) (st :: sts) ts) (rest : ClausesE X hs l) :
      ClausesE X (.ExceptHandler (some (.Name x np)) (some n) (st :: sts) cp :: hs) ((c, i, ts) :: l)
section
variable {X : Cx} {Wo : WX} {l : List (Value × Nat × L2.TS)} {hs : List ExceptHandler} {pins : List (Addr × Obj)} {D : Ends} {G : Heap} {a : Addr} {oe : Obj} {cls : Value} {d : Option Addr} {si s s1 : Shared} {h3 : Heap} {σ : L2.St} {H : Hp}
theorem suite_in {vs : Array Value} (J : Inv X pins σ H si) (I : Inv X pins σ H s) (gr : ∀ b ob, si.heap.get? b = some ob → b ∉ frs X.stack → G.get? b = some ob) (gn : G.get? a = none) (ha : s.heap.get? a = some oe) (hd : oe.data = .fields vs)
    (na : H a = none) (nf : a ∉ frs X.stack) (n1 : a ≠ X.env.locals) (n2 : a ∉ X.fs) : Inv (X.suite a (X.pn ++ pins)) [] σ (upd H a (xcO oe)) s := by
  have new : ∀ b o, si.heap.get? b = some o → b ∉ frs X.stack → b ≠ a := fun b o e hb z => by
    have := gr b o e hb
    rw [z, gn] at this
    cases this
  have other : ∀ b o, H b = some o → upd H a (xcO oe) b = some o := fun b o e => (upd_ne (ne_of_none e na)).trans e
  refine ⟨I.ok.suite _ _, I.os, I.bare, ⟨I.base.keep, I.base.slot, fun b o e n hx => ?_, I.base.there, fun b xs e => other _ _ (I.base.tups b xs e), fun b o xs e => other _ _ (I.base.frzs b o xs e), fun b ps e => ?_⟩, I.loc, I.cell, ?_, fun x c e => ?_, fun p hp => ?_, fun b o e => ?_, I.len⟩
  · by_cases hb : b = a
    · subst hb
      exact absurd rfl (new b o (J.base.keep b o e n n2 hx) nf)
    · rw [upd_ne hb]
      exact I.base.free b o e n hx
  · obtain ⟨more, q⟩ := I.base.tbls b ps e
    exact ⟨more, other _ _ q⟩
  · exact (upd_ne (Ne.symm n1)).trans I.free
  · refine (upd_ne fun z => ?_).trans (I.freeC x c e)
    obtain ⟨v, ob, q1, q2⟩ := I.cell x c e
    rw [z, ha] at q1
    rw [← Option.some.inj q1, hd] at q2
    cases q2
  · have hp' : p ∈ X.pn ++ pins := by
      rw [List.append_nil] at hp
      exact hp
    obtain ⟨e1, e2, e3, e4, e5⟩ := I.pin p hp'
    obtain ⟨f1, _⟩ := J.pin p hp'
    refine ⟨e1, (upd_ne (new _ _ f1 fun z => ?_)).trans e2, e3, e4, e5⟩
    rcases List.mem_cons.mp (J.stkSub _ z) with w | w
    · exact e3 w
    · exact e4 w
  · by_cases hb : b = a
    · subst hb
      rw [upd_same] at e
      cases Option.some.inj e
      exact ⟨ha, True.intro, ⟨oe, ha⟩, fun _ _ _ _ => True.intro⟩
    · rw [upd_ne hb] at e
      exact (I.hok b o e).stay (fun _ _ _ q => q) (fun c q => other _ _ q) fun c xs q => other _ _ q
theorem suite_out (I : Inv (X.suite a (X.pn ++ pins)) [] σ H s) (ok : X.Ok) : Inv X pins σ H s :=
  ⟨ok, I.os, I.bare, I.base, I.loc, I.cell, I.free, I.freeC, fun p hp => I.pin p (by rw [List.append_nil]; exact hp), I.hok, I.len⟩
theorem clausesE_ok (ok : X.Ok) (hst : X.stack = X.env :: X.outer) (hf : X.env.frame = some X.env.locals) (nd : X.N.Nodup) (tk : Takes X Wo) (cs : ClausesE X hs l) (J : Inv X pins σ H si)
    (gr : ∀ b ob, si.heap.get? b = some ob → b ∉ frs X.stack → G.get? b = some ob) (up : si.heap.UpToSlots h3) (fl : HandSPX.FlyingZ G (X.env :: X.outer) a (Zc cls d) h3) (na : H a = none) (os : s1.os = si.os) (ag : AllBare s1.gens) :
    wClE X.K Wo D l cls d σ H → wpAny (model X.prog X.w) X.A (handleBy (.ref a) X.env hs) (SP X pins D) X.xe { s1 with heap := h3 } := by
  have J3 : Inv X pins σ H { s1 with heap := h3 } := J.landed gr fl.1 up os ag
  obtain ⟨oe, vs, g1, z1, d1⟩ := fl.there
  have nf0 := not_frame fl.2.2.1 g1 d1
  have nf : a ∉ frs X.stack := by rw [hst]; exact nf0
  have n1 : a ≠ X.env.locals := fun z => nf0 (List.mem_filterMap.mpr ⟨X.env, List.mem_cons_self, by rw [hf, z]⟩)
  have n2 : a ∉ X.fs := fun z => nf0 (by
    obtain ⟨v, hv, q⟩ := List.mem_filterMap.mp z
    exact List.mem_filterMap.mpr ⟨v, List.mem_cons_of_mem _ hv, q⟩)
  induction cs with
  | nil =>
    intro w
    refine wpAny_handleBy_nil ?_
    have fin : wpAny (model X.prog X.w) X.A (setFlight (.ref a) X.env.frame) (fun _ s4 => wpAny (model X.prog X.w) X.A (throw (.ref a) : Sem Flow) (SP X pins D) X.xe s4) X.xe { s1 with heap := h3 } := by
      rw [hf]
      refine HandSPX.setFlight_upZ fl fun h4 hh up4 => wpAny_throw (tk _ _ ?_)
      exact ⟨a, G, si, pins, σ, H, cls, d, rfl, J, gr, up.trans up4, .inr (.inr (by rw [hst]; exact hh)), na, os, ag, w⟩
    obtain ⟨_, _, _, ob, us, T, _, _, q1, _, q2, q3, _⟩ := fl
    unfold PySem.passOn
    refine wpAny_bind (wpAny_field q1 q2 q3 ?_)
    rw [if_neg (show ¬ ((Value.ref T == Value.none) = true) from by simp)]
    first
      | exact wpAny_bind (wpAny_pure (wpAny_bind fin))
      | exact wpAny_bind fin
  | @cons x n c i ts st sts np cp hs l hc hi hn suite rest ih =>
    rintro ⟨b, m1, yes, no⟩
    have S3 := J3.suite g1 d1 na n1 n2
    refine wpAny_handleBy_cons (codeAny_handlers_test ?_) (fun q => nomatch q)
    have LT : PySem.W.Looks (model X.prog X.w) h3 (typeOf (.ref a)) cls := fun _ _ _ _ k q => wpAny_typeOf_ref (k _ _ g1) (z1.1.symm ▸ q)
    have LM := PySem.W.exm_one (M := model X.prog X.w) J3.kIn LT m1
    have nm : ∀ {Q Q' : Value → Shared → Prop}, Q c { s1 with heap := h3 } → wpAny (model X.prog X.w) (X.A.mark (some (.ref a))) (eval (.Name x np) X.env) Q Q' { s1 with heap := h3 } := fun {Q Q'} q => by
      obtain ⟨k1, k2, k3⟩ := hc
      rcases k3 with k3 | ⟨k3, k4, k5⟩
      · exact ld_glob (X := X.suite a ((a, oe) :: (X.pn ++ pins))) S3 k1 k3 q k2
      · exact ld_blt (X := X.suite a ((a, oe) :: (X.pn ++ pins))) S3 k1 k3 k4 q k5 k2
    refine nm (LM.here ?_)
    match b, yes, no with
    | false, _, no => exact ih (no rfl)
    | true, yes, _ =>
      refine codeAny_handlers_suite_as (HandSPX.lands_againZ fl fun h4 fl4 up4 => ?_)
      have J4 : Inv X pins σ H { s1 with heap := h4 } := J.landed gr fl4.1 (up.trans up4) os ag
      obtain ⟨oe4, vs4, g4, z4, d4⟩ := fl4.there
      have S4 := suite_in J J4 gr fl4.2.1 g4 d4 na nf n1 n2
      refine store_ok (X := X.suite a (X.pn ++ pins)) (v := .ref a) S4 nd hi (.inl hn) rfl (fun s5 S5 => ?_) (.inr hn)
      refine wpAny_mono ((suite a (X.pn ++ pins)).run [] s5 _ _ _ S5 (yes rfl a oe4 na z4 ⟨_, d4⟩)) (fun fw s6 g => ?_) (fun _ _ z => z.elim)
      have gone : ∀ {τ : L2.St} {H6 : Hp} {Q : Shared → Prop}, Inv (X.suite a (X.pn ++ pins)) [] τ H6 s6 → (∀ s7, Inv X pins (τ.set i none) H6 s7 → Q s7) →
          wpAny (model X.prog X.w) X.A (do bindName X.env n .none; unbindBehindTheSuite X.env n cp) (fun _ s7 => Q s7) X.xe s6 := fun S6 hq => gone_ok (suite_out S6 ok) nd hi hn hq
      match fw, g with
      | .next, ⟨τ, H6, S6, g⟩ => exact gone S6 fun s7 J7 => ⟨_, _, J7, g⟩
      | .brk, ⟨τ, H6, S6, g⟩ => exact gone S6 fun s7 J7 => ⟨_, _, J7, g⟩
      | .cont, ⟨τ, H6, S6, g⟩ => exact gone S6 fun s7 J7 => ⟨_, _, J7, g⟩
      | .ret u, ⟨v, τ, H6, S6, r6, g⟩ => exact gone S6 fun s7 J7 => ⟨_, _, _, J7, r6, g⟩
theorem ps_trysE {h0 : ExceptHandler} {body : List Stmt} {pos : Pos} {tb : WX → L2.TS} (hst : X.stack = X.env :: X.outer) (hf : X.env.frame = some X.env.locals) (nd : X.N.Nodup) (tk : Takes X Wo)
    (hb : ∀ (W : WX) (pn : List (Addr × Obj)) (xe : Value → Shared → Prop), Takes (X.tr pn xe) W → PassesOwn (model X.prog X.w) X.A X.env xe → PSs (X.tr pn xe) body (tb W)) (cs : ClausesE X (h0 :: hs) l) :
    PS X (.Try body (h0 :: hs) [] [] pos) (fun D σ H => tb (wClE X.K Wo D l) D σ H) := by
  constructor
  intro pins s σ H D I h
  have ok := I.ok
  have hfr : X.A.frames = some (X.env :: X.outer) := ok.frames.trans (congrArg some hst)
  refine wpAny_Try_except ?_
  let xe : Value → Shared → Prop := fun e s₁ => wpAny (model X.prog X.w) X.A (noteFrame e X.env) (fun _ s₂ => wpAny (model X.prog X.w) X.A (setFlight e none) (fun _ s₃ =>
    wpAny (model X.prog X.w) X.A (handleBy e X.env (h0 :: hs)) (SP X pins D) X.xe s₃) X.xe s₂) X.xe s₁
  have tkB : Takes (X.tr (X.pn ++ pins) xe) (wClE X.K Wo D l) := fun u s1 hu => by
    obtain ⟨a, G, si, _, τ, H1, cls, d, eu, J1, gr, up, sky, na, os, ag, w⟩ := hu
    subst eu
    have J : Inv X pins τ H1 si := J1.ofTry ok
    have sky : Sky G (X.env :: X.outer) a (Zc cls d) X.env.locals s1.heap := hst ▸ sky
    exact Sky.land Zc.steady hfr hf sky fun h3 fl up3 => clausesE_ok ok hst hf nd tk cs J gr (up.trans up3) fl na os ag w
  refine wpAny_mono ((hb _ (X.pn ++ pins) xe tkB PassesOwn.looking).run [] s σ H D (I.toTry _) h) (fun fw s1 g => ?_) (fun _ _ z => z)
  match fw, g with
  | .next, ⟨τ, H1, J1, g⟩ => exact wpAny_execs_nil ⟨τ, H1, J1.ofTry ok, g⟩
  | .brk, ⟨τ, H1, J1, g⟩ => exact ⟨τ, H1, J1.ofTry ok, g⟩
  | .cont, ⟨τ, H1, J1, g⟩ => exact ⟨τ, H1, J1.ofTry ok, g⟩
  | .ret u, ⟨v, τ, H1, J1, r, g⟩ => exact ⟨v, τ, H1, J1.ofTry ok, r, g⟩
end
/-- the clauses: the exception stands in the store while its suite runs -/
def dClausesE : List Cla → Xn → MS
  | [], x => fun e S => some (.er x, e, S)
  | c :: r, x => fun e S => if x.cls ∈ c.hit then (match c.ms (e.set c.slot (some (.ref S.length))) (S ++ [.exc x]) with
      | some (.er _, _, _) => none
      | some (f, e', S') => some (f, e'.set c.slot none, S')
      | none => none) else if x.cls ∈ c.miss then dClausesE r x e S else none
def dTryE (m : MS) (cs : List Cla) : MS := fun e S => match m e S with
  | some (.er x, e1, S1) => dClausesE cs x e1 S1
  | o => o
structure HE (X : Cx) (hs : List ExceptHandler) (cs : List Cla) : Prop where
  ex : ∃ l : List (Value × Nat × L2.TS), ClausesE X hs l ∧ ∀ (Wo : WX) (D : Ends) (x : Xn) (c : Value) (d : Option Addr) (σ : L2.St) (H : Hp) (e : Ev) (S : Sto) (ρ : Rg), RS X.K ρ S H → ER X.K ρ H σ e → XR X.K ρ H c d x → PnS X.K Wo D (dClausesE cs x e S) ρ H → wClE X.K Wo D l c d σ H
section
variable {X : Cx} {hs : List ExceptHandler} {cs : List Cla}
theorem he_nil : HE X [] [] := ⟨[], .nil, fun Wo D x c d σ H e S ρ R E y p => by
  obtain ⟨f, e2, S2, eq, q⟩ := p
  cases eq
  exact q c d σ H ρ R (Le.refl ρ H) E y⟩
theorem he_cons {x n : Str} {i : Nat} {st : Stmt} {sts : List Stmt} {np cp : Pos} {hit miss : List Str} {ms : MS} (hg : Gl X x) (gx : X.mg x = some (.ref (He.ga X.K x))) (h1 : ∀ y ∈ hit, PySem.W.exmOne X.K (.ref (He.ga X.K y)) (.ref (He.ga X.K x)) = some true)
    (h2 : ∀ y ∈ miss, PySem.W.exmOne X.K (.ref (He.ga X.K y)) (.ref (He.ga X.K x)) = some false)
    (suite : ∀ (a : Addr) (pn : List (Addr × Obj)), BX (X.suite a pn) WF (st :: sts) ms) (rest : HE X hs cs)
    (hi : X.N[i]? = some n := by rfl) (hn : X.env.kindOf n = some .local := by rfl) (hdb : (x == ("__debug__" : Str)) = false := by decide) : HE X (.ExceptHandler (some (.Name x np)) (some n) (st :: sts) cp :: hs) (⟨hit, miss, i, ms⟩ :: cs) := by
  obtain ⟨l, cl, hl⟩ := rest.ex
  refine ⟨_, .cons (c := .ref (He.ga X.K x)) (ts := rS X.K WF ms) ⟨hg, hdb, .inl gx⟩ hi hn (fun a pn => (suite a pn).ps) cl, fun Wo D y c d σ H e S ρ R E yr p => ?_⟩
  have ec : c = .ref (He.ga X.K y.cls) := yr.1
  unfold dClausesE at p
  split at p
  · rename_i hm
    refine ⟨true, by rw [ec]; exact h1 _ hm, fun _ a oe na zc hd => ?_, fun z => Bool.noConfusion z⟩
    have l1 := R.addLe (p := a) (o := xcO oe) na
    have yr1 : XR X.K (ρ.add a) (upd H a (xcO oe)) oe.cls oe.dict y := by
      rw [zc.1, zc.2]
      exact XR.ex l1.ex (fun _ _ z => VR.mono l1 z) yr
    obtain ⟨R1, _⟩ := R.add (o := xcO oe) (u := .exc y) na ⟨oe, upd_same, hd, yr1⟩
    have E1 : ER X.K (ρ.add a) (upd H a (xcO oe)) (σ.set i (some (.ref a))) (e.set i (some (.ref S.length))) := (E.mono l1).set (v := .ref a) (x := .ref S.length) ⟨a, R.addIx, rfl⟩ i
    refine ⟨e.set i (some (.ref S.length)), S ++ [.exc y], ρ.add a, R1, E1, ?_⟩
    cases hq : ms (e.set i (some (.ref S.length))) (S ++ [.exc y]) with
    | none =>
      simp only [hq] at p
      exact (pns_none p).elim
    | some q =>
      obtain ⟨f, e', S'⟩ := q
      simp only [hq] at p
      cases f with
      | er z => exact (pns_none p).elim
      | nx =>
        obtain ⟨f2, e2, S2, eq, q⟩ := p
        cases eq
        exact ⟨.nx, e', S', rfl, fun τ H' ρ' R' l' E' => q _ H' ρ' R' (l1.trans l') (E'.hide i _)⟩
      | bk =>
        obtain ⟨f2, e2, S2, eq, q⟩ := p
        cases eq
        exact ⟨.bk, e', S', rfl, fun τ H' ρ' R' l' E' => q _ H' ρ' R' (l1.trans l') (E'.hide i _)⟩
      | ct =>
        obtain ⟨f2, e2, S2, eq, q⟩ := p
        cases eq
        exact ⟨.ct, e', S', rfl, fun τ H' ρ' R' l' E' => q _ H' ρ' R' (l1.trans l') (E'.hide i _)⟩
      | rt z =>
        obtain ⟨f2, e2, S2, eq, q⟩ := p
        cases eq
        exact ⟨.rt z, e', S', rfl, fun v H' ρ' R' l' r' => q v H' ρ' R' (l1.trans l') r'⟩
  · split at p
    · rename_i hm
      exact ⟨false, by rw [ec]; exact h2 _ hm, fun z => Bool.noConfusion z, fun _ => hl Wo D y c d σ H e S ρ R E yr p⟩
    · exact (pns_none p).elim
theorem sx_tryE {Wo : WX} {h0 : ExceptHandler} {body : List Stmt} {mb : MS} {pos : Pos} (nd : X.N.Nodup) (tk : Takes X Wo) (hb : ∀ (W : WX) (pn : List (Addr × Obj)) (xe : Value → Shared → Prop), Takes (X.tr pn xe) W → PassesOwn (model X.prog X.w) X.A X.env xe → BX (X.tr pn xe) W body mb)
    (h : HE X (h0 :: hs) cs) (hst : X.stack = X.env :: X.outer := by rfl) (hf : X.env.frame = some X.env.locals := by rfl) : SX X Wo (.Try body (h0 :: hs) [] [] pos) (dTryE mb cs) := by
  obtain ⟨l, cl, hl⟩ := h.ex
  refine SX.of (ps_trysE (tb := fun W => rS X.K W mb) hst hf nd tk (fun W pn xe t p => (hb W pn xe t p).ps) cl) fun D σ H e S ρ R E p => ⟨e, S, ρ, R, E, ?_⟩
  unfold dTryE at p
  split at p
  · rename_i x e1 S1 hm
    exact ⟨.er x, e1, S1, hm, fun c d τ H' ρ' R' l' E' y => hl Wo D x c d τ H' e1 S1 ρ' R' E' y (p.le l')⟩
  · rename_i hne
    obtain ⟨f, e1, S1, eq, q⟩ := p
    refine ⟨f, e1, S1, eq, ?_⟩
    cases f with
    | er x => exact (hne _ _ _ eq).elim
    | nx => exact q
    | bk => exact q
    | ct => exact q
    | rt z => exact q
end
end Lv
end
section
set_option Elab.async false
set_option linter.all false
set_option autoImplicit false
set_option maxRecDepth 100000
set_option maxHeartbeats 2000000
/-! Held exceptions, backwards. -/
namespace Lv
open PySem PySem.Spec PyProof.Rows L2
section
variable {e : Ev} {S : Sto} {Q : Val → Sto → Prop} {R : Fl → Ev → Sto → Prop}
theorem wg_isX {hit miss : List Str} {i : Nat} {y : Xn} {b : Bool} (hi : S[i]? = some (.exc y)) (hb : (if y.cls ∈ hit then some true else if y.cls ∈ miss then some false else none) = some b) (q : Q (.d (.bool b)) S) : WG (fIsX hit miss (.ref i) S) Q := by
  unfold fIsX
  simp only [hi]
  split at hb
  · rename_i h1
    cases hb
    rw [if_pos h1]
    exact wg_some q
  · rename_i h1
    split at hb
    · rename_i h2
      cases hb
      rw [if_neg h1, if_pos h2]
      exact wg_some q
    · cases hb
theorem wg_xf {n c : Str} {cl : List Str} {i : Nat} {fs : List (Str × Val)} {y : Val} (hi : S[i]? = some (.exc ⟨c, some fs⟩)) (hc : c ∈ cl) (hl : fs.lookup n = some y) (q : Q y S) : WG (fXf n cl (.ref i) S) Q := by
  unfold fXf
  simp only [hi, if_pos hc, hl, Option.map_some]
  exact wg_some q
def clSE (cs : List Cla) (R : Fl → Ev → Sto → Prop) : Fl → Ev → Sto → Prop
  | .er x, e, S => WS (dClausesE cs x e S) R
  | f, e, S => R f e S
theorem ws_tryE {x : MS} {cs : List Cla} (h : WS (x e S) (clSE cs R)) : WS (dTryE x cs e S) R := by
  obtain ⟨f, e1, S1, h1, q⟩ := h
  unfold dTryE
  rw [h1]
  cases f with
  | er z => exact q
  | nx => exact ws_some q
  | bk => exact ws_some q
  | ct => exact ws_some q
  | rt z => exact ws_some q
theorem clSE_nx {cs : List Cla} (h : R .nx e S) : clSE cs R .nx e S := h
theorem clSE_rt {cs : List Cla} {x : Val} (h : R (.rt x) e S) : clSE cs R (.rt x) e S := h
theorem clSE_er {cs : List Cla} {x : Xn} (h : WS (dClausesE cs x e S) R) : clSE cs R (.er x) e S := h
theorem ws_clHitE {x : Xn} {c : Cla} {r : List Cla} (hm : x.cls ∈ c.hit) (h : WS (c.ms (e.set c.slot (some (.ref S.length))) (S ++ [.exc x])) (hideS c.slot R)) : WS (dClausesE (c :: r) x e S) R := by
  obtain ⟨f, e1, S1, h1, q⟩ := h
  unfold dClausesE
  rw [if_pos hm, h1]
  cases f with
  | er z => exact q.elim
  | nx => exact ws_some q
  | bk => exact ws_some q
  | ct => exact ws_some q
  | rt z => exact ws_some q
theorem ws_clMissE {x : Xn} {c : Cla} {r : List Cla} (hm : x.cls ∉ c.hit) (hs : x.cls ∈ c.miss) (h : WS (dClausesE r x e S) R) : WS (dClausesE (c :: r) x e S) R := by
  unfold dClausesE
  rw [if_neg hm, if_pos hs]
  exact h
end
end Lv
end
section
set_option Elab.async false
set_option linter.all false
set_option autoImplicit false
set_option maxRecDepth 100000
set_option maxHeartbeats 2000000
/-! Lists of truth values: xs.count(True), xs.index(True); {k: v}; i ** j. -/
namespace Lv
open PySem PySem.Spec PyProof.Rows L2
instance (i j : Int) : Decidable (CPow i j) := by unfold CPow; infer_instance
def fPow : F2 := fI CPow fun i j => i ^ j.toNat
theorem wg_pow {S : Sto} {Q : Val → Sto → Prop} {i j : Int} (hc : CPow i j) (h : Q (.d (.int (i ^ j.toNat))) S) : WG (fPow (.d (.int i)) (.d (.int j)) S) Q := wg_fI hc h
/-! ### count, index -/
def toBoo : PyData → Option Bool
  | .bool b => some b
  | _ => none
theorem dpall_boos {K : PySem.W.Frag} {H : Hp} : ∀ {ps : List PyData} {bs : List Bool} {vs : List V}, mapO toBoo ps = some bs → DpAll K H vs ps → vs = bs.map V.bl
  | [], bs, vs, h, d => by
    cases h
    cases d
    rfl
  | p :: ps, bs, vs, h, d => by
    unfold mapO at h
    split at h
    · rename_i b cs h1 h2
      cases h
      cases d with
      | cons d1 d2 =>
        cases p with
        | bool c =>
          cases h1
          cases d1
          rw [List.map_cons, dpall_boos h2 d2]
        | none => cases h1
        | int i => cases h1
        | str i => cases h1
        | list i => cases h1
        | tuple i => cases h1
        | dict i => cases h1
    · cases h
theorem flat_boos : ∀ bs : List Bool, (bs.map V.bl).all flatV = true
  | [] => rfl
  | n :: ns => by
    simp only [List.map_cons, List.all_cons, flatV, Bool.true_and]
    exact flat_boos ns
def rCntB (K : PySem.W.Frag) : V → List V → Hp → VK → Prop := fun x xs H Q => ∃ (p : Addr) (bs : List Bool) (b : Bool), x = .ref p ∧ xs = [.bl b] ∧ SqL K H p (bs.map V.bl) ∧ Q (.int (bs.count b : Nat)) H
theorem count_boos {b : Bool} : ∀ {bs : List Bool} {us : List Value}, Vals (bs.map V.bl) us → us.countP (eqU (.bl b)) = bs.count b
  | [], _, h => by
    cases h
    rfl
  | c :: bs, _, h => by
    cases h with
    | cons r t =>
      cases r
      rw [List.countP_cons, List.count_cons, count_boos t]
      rfl
theorem mt_countB {X : Cx} : MtR X "list.count" (rCntB X.K) := by
  intro pins s σ H x xs v us Q I rx rxs h
  obtain ⟨p, bs, b, rfl, rfl, hs, q⟩ := h
  cases rx
  obtain ⟨u, rfl, ru⟩ := rxs.one
  cases ru
  obtain ⟨its, rv, ⟨⟨cls, dd, data, sl⟩, n, ho, hc, hdn, hd⟩, hlen⟩ := I.list hs
  simp only at hc hd
  subst hc hd
  refine call_meets PySem.F.slot_list_count ⟨_, ho, rfl⟩ PySem.F.entry_list_count (PySem.F.args_list_count_2 _ _)
    (SeqAt.list_countAt p its.toArray n dd sl (.bool b) (eqU (.bl b))) ⟨ho, fun y hy => mem_eqAt (x := .bl b) rfl rfl rv (flat_boos bs) y (by simpa using hy), ?_⟩
  have ec : its.toArray.toList.countP (eqU (.bl b)) = bs.count b := count_boos rv
  refine ⟨.int (bs.count b : Nat), H, I.tok _, ⟨s.toks, ?_⟩, q⟩
  show Value.int ((its.toArray.toList.countP (eqU (.bl b)) : Nat) : Int) s.toks = Value.int ((bs.count b : Nat) : Int) s.toks
  rw [ec]
def mCountB (mo me : M) : M := bnd mo fun x => match x with
  | .d (.list ps) => args [me] fun ys => fun _ S => match ys with
    | [.d (.bool b)] => (mapO toBoo ps).map fun bs => (.ok (.d (.int (bs.count b : Nat))), S)
    | _ => none
  | _ => fun _ _ => none
def mIndexB (mo me : M) : M := bnd mo fun x => match x with
  | .d (.list ps) => args [me] fun ys => fun _ S => match ys with
    | [.d (.bool b)] => (mapO toBoo ps).bind fun bs => (bs.findIdx? fun c => c == b).map fun j => (.ok (.d (.int (j : Nat))), S)
    | _ => none
  | _ => fun _ _ => none
section
variable {X : Cx} {W : WX} {o e : Expr} {mo me : M} {apos cpos : Pos}
theorem px_countB (ho : PX X W o mo) (he : AX X W [e] [me]) (hbase : attributeBase o "count" X.env (eval o X.env) = eval o X.env := by rfl)
    (hfew : ((backTo cpos (starEach [e] X.env)).all (fun x => !x.1) && (backToKw cpos (keywordEach [] X.env)).all (fun x => x.1.isSome)
      && decide ([e].length + ([] : List Keyword).length + (if ([] : List Keyword).isEmpty then 0 else 1) < 30)) = true := by rfl)
    (hline : (apos.endLine == cpos.line) = true := by rfl) (hs : starEach [e] X.env = (false, eval e X.env) :: starEach [] X.env := by rfl) : PX X W (.Call (.Attribute o "count" apos) [e] [] cpos) (mCountB mo me) :=
  PX.of (pe_bm PySem.F.plainAttrs_list PySem.F.slot_list_count PySem.F.type_list_count mt_countB ho.pe he.pa hbase hfew hline hs rfl) fun σ H Q ev S ρ R E p => by
    refine rE_bnd R E p fun v H1 x S1 ρ1 R1 E1 l1 rv p1 => ?_
    split at p1
    · rename_i ps
      obtain ⟨a, vs, rfl, hs1, hd1⟩ := vr_list rv
      refine ⟨.inl ⟨rfl, vs, hs1⟩, ?_⟩
      refine rA_bnd R1 E1 p1 fun us H2 ys S2 ρ2 R2 E2 l2 rvs p2 => ?_
      split at p2
      · rename_i b
        obtain ⟨u, rfl, ru⟩ := vrs1 rvs
        cases (show Dp X.K _ u (.bool b) from ru)
        cases hm : mapO toBoo ps with
        | none =>
          rw [hm] at p2
          exact (pn_none p2).elim
        | some bs =>
          rw [hm] at p2
          obtain ⟨a2, vs2, e2, hs2, hd2⟩ := vr_list (VR.mono l2 rv)
          cases e2
          have ev := dpall_boos hm hd2
          subst ev
          exact ⟨a, bs, b, rfl, rfl, hs2, p2.ok R2 (Le.refl _ _) (.int _)⟩
      · exact (pn_none p2).elim
    · exact (pn_none p1).elim
theorem px_indexB (ho : PX X W o mo) (he : AX X W [e] [me]) (hbase : attributeBase o "index" X.env (eval o X.env) = eval o X.env := by rfl)
    (hfew : ((backTo cpos (starEach [e] X.env)).all (fun x => !x.1) && (backToKw cpos (keywordEach [] X.env)).all (fun x => x.1.isSome)
      && decide ([e].length + ([] : List Keyword).length + (if ([] : List Keyword).isEmpty then 0 else 1) < 30)) = true := by rfl)
    (hline : (apos.endLine == cpos.line) = true := by rfl) (hs : starEach [e] X.env = (false, eval e X.env) :: starEach [] X.env := by rfl) : PX X W (.Call (.Attribute o "index" apos) [e] [] cpos) (mIndexB mo me) :=
  PX.of (pe_bm PySem.F.plainAttrs_list PySem.F.slot_list_index PySem.F.type_list_index mt_index ho.pe he.pa hbase hfew hline hs rfl) fun σ H Q ev S ρ R E p => by
    refine rE_bnd R E p fun v H1 x S1 ρ1 R1 E1 l1 rv p1 => ?_
    split at p1
    · rename_i ps
      obtain ⟨a, vs, rfl, hs1, hd1⟩ := vr_list rv
      refine ⟨.inl ⟨rfl, vs, hs1⟩, ?_⟩
      refine rA_bnd R1 E1 p1 fun us H2 ys S2 ρ2 R2 E2 l2 rvs p2 => ?_
      split at p2
      · rename_i b
        obtain ⟨u, rfl, ru⟩ := vrs1 rvs
        cases (show Dp X.K _ u (.bool b) from ru)
        cases hm : mapO toBoo ps with
        | none =>
          rw [hm] at p2
          exact (pn_none p2).elim
        | some bs =>
          rw [hm] at p2
          simp only [Option.bind_some] at p2
          cases hf : bs.findIdx? fun c => c == b with
          | none =>
            rw [hf] at p2
            exact (pn_none p2).elim
          | some j =>
            rw [hf] at p2
            obtain ⟨a2, vs2, e2, hs2, hd2⟩ := vr_list (VR.mono l2 rv)
            cases e2
            have ev := dpall_boos hm hd2
            subst ev
            obtain ⟨hj, h1, h2⟩ := List.findIdx?_eq_some_iff_getElem.mp hf
            refine ⟨a, bs.map V.bl, .bl b, j, .bl bs[j], rfl, rfl, hs2, rfl, flat_boos bs, by simp [hj], h1, fun m z' hm' hz => ?_, p2.ok R2 (Le.refl _ _) (.int _)⟩
            have hml : m < bs.length := by omega
            have : z' = .bl bs[m] := by
              rw [List.getElem?_map, List.getElem?_eq_getElem hml] at hz
              exact (Option.some.inj hz).symm
            subst this
            have := h2 m hm'
            show (bs[m] == b) = false
            simpa using this
      · exact (pn_none p2).elim
    · exact (pn_none p1).elim
/-! ### {k: v} -/
def mDisp1 (mk mv : M) : M := fun e S => bnd mk (fun x => bnd mv fun y => fun _ S2 => (dicM S2 (.ref S.length)).bind fun p => if p.2.isEmpty then (keyOf x).map fun k => (.ok (.ref S.length), S2.set S.length (.dic [(k, y)])) else none) e (S ++ [.dic []])
theorem px_disp1 {k v : Expr} {mk mv : M} {pos : Pos} (hk : PX X W k mk) (hv : PX X W v mv) : PX X W (.Dict [some k] [v] pos) (mDisp1 mk mv) := by
  refine PX.of (pe_disp (pps_cons hk.pe hv.pe pps_nil) rfl rfl (fun z => by cases z) (Nat.le_of_ble_eq_true rfl)) fun σ H Q ev S ρ R E p => fun a ha => ?_
  obtain ⟨R2, l2⟩ := R.add (o := .dK []) (u := .dic []) ha ⟨[], upd_same, .nil⟩
  unfold mDisp1 at p
  refine rE_bnd R2 (E.mono l2) (Pn.le l2 p) fun x H1 y S1 ρ1 R1 E1 l1 rx p1 => ?_
  refine rE_bnd R1 E1 p1 fun u H3 y3 S3 ρ3 R3 E3 l3 ru p3 => ?_
  have hi : ρ3.ids[S.length]? = some a := pre_get (l1.trans l3).pre R.addIx
  cases hd : dicM S3 (.ref S.length) with
  | none =>
    rw [hd] at p3
    exact (pn_none p3).elim
  | some q =>
    obtain ⟨i, kvs⟩ := q
    rw [hd] at p3
    simp only [Option.bind_some] at p3
    split at p3
    · rename_i hk0
      have hk0 : kvs = [] := List.isEmpty_iff.mp hk0
      subst hk0
      obtain ⟨a2, vs, e1, e2, hi2, hv2, kr⟩ := dicM_ok (v := .ref a) (x := .ref S.length) R3 ⟨a, hi, rfl⟩ hd
      cases e1
      cases e2
      cases kr
      cases hl : keyOf y with
      | none =>
        rw [hl] at p3
        exact (pn_none p3).elim
      | some kk =>
        rw [hl] at p3
        have hz := noz hv2 (fun _ _ => by simp)
        have l := Le.put (o := .dK [(kk, u)]) R3 hi hz
        obtain ⟨R4, l4⟩ := R3.put (o := .dK [(kk, u)]) (u := .dic [(kk, y3)]) hi hz ⟨_, upd_same, .cons ⟨rfl, VR.mono l ru⟩ .nil⟩
        refine ⟨hv2, [(kk, u)], ?_, Nat.le_of_ble_eq_true rfl, ?_⟩
        · rw [key_ok rx hl]
          rfl
        · exact p3.ok R4 l4 ⟨a, hi, rfl⟩
    · exact (pn_none p3).elim
end
section
variable {e : Ev} {S : Sto} {Q : Val → Sto → Prop} {a b : M}
theorem boos_at (bs : List Bool) : mapO toBoo (bs.map PyData.bool) = some bs := (mapO_map (f := toBoo) (g := PyData.bool) (k := fun i => i) (fun _ => rfl) bs).trans (by simp)
theorem we_countB (h : WE (a e S) fun x S1 => ∃ bs : List Bool, x = .d (.list (bs.map .bool)) ∧ WE (b e S1) fun y S2 => ∃ c, y = .d (.bool c) ∧ Q (.d (.int (bs.count c : Nat))) S2) : WE (mCountB a b e S) Q := by
  unfold mCountB
  refine we_bnd (h.mono fun x S1 q => ?_)
  obtain ⟨bs, rfl, q⟩ := q
  refine we_args (ms := [b]) (q.mono fun y S2 q => ?_)
  obtain ⟨c, rfl, q⟩ := q
  show WE _ _
  simp only [boos_at, Option.map_some]
  exact we_ok q
theorem we_indexB (h : WE (a e S) fun x S1 => ∃ bs : List Bool, x = .d (.list (bs.map .bool)) ∧ WE (b e S1) fun y S2 => ∃ c j, y = .d (.bool c) ∧ (bs.findIdx? fun d => d == c) = some j ∧ Q (.d (.int (j : Nat))) S2) : WE (mIndexB a b e S) Q := by
  unfold mIndexB
  refine we_bnd (h.mono fun x S1 q => ?_)
  obtain ⟨bs, rfl, q⟩ := q
  refine we_args (ms := [b]) (q.mono fun y S2 q => ?_)
  obtain ⟨c, j, rfl, h1, q⟩ := q
  show WE _ _
  simp only [boos_at, Option.bind_some, h1, Option.map_some]
  exact we_ok q
theorem we_disp1 (h : WE (a e (S ++ [.dic []])) fun x S1 => WE (b e S1) fun y S2 => S2[S.length]? = some (.dic []) ∧ ∃ k, keyOf x = some k ∧ Q (.ref S.length) (S2.set S.length (.dic [(k, y)]))) : WE (mDisp1 a b e S) Q := by
  unfold mDisp1
  refine we_bnd (h.mono fun x S1 q => we_bnd (q.mono fun y S2 q => ?_))
  obtain ⟨h1, k, h2, q⟩ := q
  simp only [dicM_at h1, h2, Option.bind_some, Option.map_some, List.isEmpty_nil, if_true]
  exact we_ok q
end
end Lv
end
section
set_option Elab.async false
set_option linter.all false
set_option autoImplicit false
set_option maxRecDepth 100000
set_option maxHeartbeats 2000000
/-! Defs that raise nothing, called anywhere: in an except suite, too. -/
namespace Lv
open PySem PySem.Spec PyProof.Rows L2
abbrev RoomA := L2H.RoomH
theorem roomS {k : Nat} {A : Around} (r : Room k A) (v : Option Value) : RoomA k (A.mark v) := ⟨r.dp, r.un⟩
abbrev coolA (A : Around) : Around := { A with handled := none }
theorem room_none {k : Nat} {A : Around} (r : RoomA k A) : Room k (coolA A) := ⟨rfl, r.dp, r.un⟩
structure FnC (P : Program) (w : World) (K : PySem.W.Frag) (mg : Str → Option Value) (base : Heap) (k : Nat) (f : Addr) (fd : FuncData) (ps : List Str) (sp : Sp) : Prop where
  len : ∀ vs H Q E, sp vs H Q E → vs.length = ps.length
  run : ∀ (A : Around) (out : List Env) (s : Shared) (H : Hp) (ar : Args) (us : List Value) (vs : List V) (Q : VK) (E : XK), RoomA k A → Env0 P w K mg base A out s H → BindsTo s fd ar (ps.zip us) → Vals vs us → sp vs H Q E →
    codeAny (model P w) A (.call (.ref f) ar) (CR CX0 out P w H s Q E) s
/-- such a body's context -/
abbrev cxC (P : Program) (w : World) (K : PySem.W.Frag) (mg : Str → Option Value) (base : Heap) (N : List Str) (qual : Str) (sc : Scope) (f : Addr) (cd : Value) (A : Around) (out : List Env) (s : Shared) (H : Hp) (E : XK) : Cx :=
  { cxOf CX0 P w K mg base N qual sc f cd A out s H E with calm := false }
section
variable {P : Program} {w : World} {K : PySem.W.Frag} {mg : Str → Option Value} {base : Heap} {N ps : List Str} {qual x : Str} {sc : Scope} {f : Addr} {fd : FuncData} {cd : Value} {A : Around} {out : List Env} {s s1 : Shared} {H : Hp} {E : XK} {us : List Value} {vs : List V}
theorem env0_cool (e : Env0 P w K mg base A out s H) : Env0 P w K mg base (coolA A) out s H := ⟨e.frames, e.mod, e.bs, e.bsz, e.funs, e.frf, e.hok, e.bare⟩
theorem inv_cool {pins : List (Addr × Obj)} {σ : L2.St} {H' : Hp} (e : Env0 P w K mg base A out s H) (I : Inv (cxOf CX0 P w K mg base N qual sc f cd (coolA A) out s H E) pins σ H' s1) : Inv (cxC P w K mg base N qual sc f cd A out s H E) pins σ H' s1 := by
  obtain ⟨o, i1, i2, i3, i4, i5, i6, i7, i8, i9, i10⟩ := I
  exact ⟨⟨o.mod, o.kind, o.glob, o.blt, o.above, o.inj, o.has, o.cab, fun z => Bool.noConfusion (show false = true from z), Around.frames_deeper e.frames, o.stk, o.exf, o.bs, o.bsz, o.noex, o.exfs, o.funs, o.frf⟩, i1, i2, i3, i4, i5, i6, i7, i8, i9, i10⟩
theorem FunD.okC {pa : Arguments} {body : List Stmt} {k : Nat} {sp : Sp} (F : FunD K x qual pa body sc [] [] f fd) (Sc : FnScope N ps sc) (hl : ∀ vs H Q E, sp vs H Q E → vs.length = ps.length)
    (hb : ∀ (cdv : Value) (A : Around) (out : List Env) (s : Shared) (H : Hp) (vs : List V) (Q : VK) (E : XK), RoomA k (A.deeper (envOfC qual sc s.heap.objs.size f cdv)) → sp vs H Q E →
      ∃ t, PSs (cxC P w K mg base N qual sc f cdv A out s H E) body t ∧ t { nx := fun _ H' => Q .non H', rt := Q } (L2.start N vs) H) : FnC P w K mg base (k + 1) f fd ps sp := by
  obtain ⟨c0, d0, d1, d2, d3, d4, d5, cdv, d6, d7, rfl, hK, hcode, _, _⟩ := F.ex
  refine ⟨hl, fun A out s H ar us vs Q E room e bt rv hsp => ?_⟩
  have n1 := hl _ _ _ _ hsp
  have kin : K.In s.heap := e.mod.kin.keeps fun b o z => (e.bs b o z).1
  have nol : s.heap.NoLimit := e.mod.nolimit.keeps fun b o z => (e.bs b o z).1
  have kinds : ∀ q ∈ ps.zip us, sc.names.lookup q.1 = some .local ∨ (sc.names.lookup q.1 = some .cell ∧ ((cellsFrom (s.heap.objs.size + 1) sc.names []).lookup q.1).isSome = true) := by
    rintro ⟨n, v⟩ hq
    exact (Sc.par n (List.of_mem_zip hq).1).imp id fun z => ⟨z, PySem.W.cellsFrom_some _ _ _ (.inl z)⟩
  refine codeAny_call_function room.depth (kin _ _ hK) rfl Sc.co Sc.gen rfl (PySem.W.codeRec_of kin hcode) (bt _ _ _ _ (wpAny_newFunctionEnv_cells Sc.kind kinds fun env ee s1 z => ?_))
  subst ee
  refine ⟨nol.keeps z.toInCall.keep, codeAny_func ?_⟩
  obtain ⟨t, ht, q⟩ := hb cdv A out s H vs Q E (room.deeper _) hsp
  have I0 : Inv (cxOf CX0 P w K mg base N qual sc f cdv (coolA A) out s H E) [] (L2.start N vs) H s1 := inv_start Sc rfl (env0_cool e) n1 rv z
  refine wpAny_mono (ht.run [] s1 (L2.start N vs) H _ (inv_cool e I0) q) (fun fl s2 g => ?_) fun _ _ g => g
  match fl, g with
  | .ret u, ⟨v, σ', H', J, r, g⟩ => exact ⟨v, H', J.os, J.bare, J.base, J.hok, r, g⟩
  | .next, ⟨σ', H', J, g⟩ => exact ⟨.non, H', J.os, J.bare, J.base, J.hok, rfl, g⟩
  | .brk, ⟨_, _, _, g⟩ => exact g.elim
  | .cont, ⟨_, _, _, g⟩ => exact g.elim
theorem fnc_ok {pa : Arguments} {body : List Stmt} {k : Nat} {m : MS} {g : Fn} (F : FunD K x qual pa body sc [] [] f fd) (Sc : FnScope N ps sc) (i : IsFn N.length m g)
    (hb : ∀ (cdv : Value) (A : Around) (out : List Env) (s : Shared) (H : Hp) (E : XK), RoomA k (A.deeper (envOfC qual sc s.heap.objs.size f cdv)) → BX (cxC P w K mg base N qual sc f cdv A out s H E).nox WF body m) :
    FnC P w K mg base (k + 1) f fd ps (spN K g ps.length) := by
  refine FunD.okC F Sc (fun vs H Q E h => h.1) (fun cdv A out s H vs Q E hr h => ?_)
  obtain ⟨_, ρ, S, xs, z, S', R, rv, hg, q⟩ := h
  obtain ⟨z2, S2, h2, q2⟩ := i.fin R hg q
  exact ⟨_, (hb cdv A out s H E hr).ps.nox, keep_ok R rv h2 q2⟩
end
/-- a def of the module's, by its name -/
structure FnGC (P : Program) (w : World) (K : PySem.W.Frag) (mg : Str → Option Value) (base : Heap) (x : Str) (k : Nat) (ps : List Str) (g : Fn) : Prop where
  ex : ∃ f fd, FnC P w K mg base k f fd ps (spN K g ps.length) ∧ mg x = some (.ref f) ∧ PySem.W.keepIn K (.ref f) = true ∧ Binds K fd ps []
section
variable {X : Cx} {W : WX} {x : Str} {k j : Nat} {ps : List Str} {g : Fn} {e : Expr} {es : List Expr} {ms : List M} {p pos : Pos} {f : Addr} {fd : FuncData} {sp : Sp} {t : TA}
theorem run_fnC {pins : List (Addr × Obj)} {σ : L2.St} {H : Hp} {s : Shared} {Q : VK} {us : List Value} {vs : List V} {E : XK} (F : FnC X.prog X.w X.K X.mg X.base k f fd ps sp) (hr : RoomA k X.A) (hb : Binds X.K fd ps []) (I : Inv X pins σ H s) (r : Vals vs us) (h : sp vs H Q E) :
    wpAny (model X.prog X.w) X.A (call (.ref f) us) (EP X pins σ Q) X.xe s := by
  have n1 := F.len _ _ _ _ h
  have n2 : us.length = ps.length := r.length.symm.trans n1
  have bb := hb s us I.kIn (by rw [List.append_nil]; exact n2)
  rw [List.append_nil] at bb
  refine wpAny_call (codeAny_mono (F.run X.A X.stack s H ⟨us, []⟩ us vs Q E hr I.env0 bb r h) fun z s2 g => ?_)
  match z, g with
  | .error _, g => exact g.elim
  | .ok (.ret u), g => exact I.after g
  | .ok .next, g => exact g.elim
  | .ok .brk, g => exact g.elim
  | .ok .cont, g => exact g.elim
theorem pe_callC (F : FnC X.prog X.w X.K X.mg X.base k f fd ps sp) (hr : RoomA k X.A) (hg : Gl X x) (hm : X.mg x = some (.ref f)) (kp : PySem.W.keepIn X.K (.ref f) = true) (hb : Binds X.K fd ps []) (ha : PA X (e :: es) t) (hdb : (x == ("__debug__" : Str)) = false := by decide)
    (he : starEach (e :: es) X.env = (false, eval e X.env) :: starEach es X.env := by rfl) (hpl : (backTo pos (starEach es X.env)).any (·.1) = false := by rfl) :
    PE X (.Call (.Name x p) (e :: es) [] pos) (fun σ H Q => t σ H fun vs H1 => sp vs H1 Q E0) := by
  constructor
  intro pins s σ H Q I h
  refine wpAny_Call_Name_kw (ld_glob I hg hm (PySem.W.callWith_K (h₀ := X.base) I.ok.mod.kin kp (thn (ha.run pos pins s σ H _ I h) fun us s1 hu => ?_) he hpl) hdb)
  obtain ⟨vs, H1, I1, r, q⟩ := hu
  exact ⟨I1.kIn, run_fnC F hr hb I1 r q⟩
theorem px_callC (G : FnGC X.prog X.w X.K X.mg X.base x k ps g) (hr : RoomA j X.A) (hk : k ≤ j) (hg : Gl X x) (hn : ps.length = ms.length) (ha : AX X W (e :: es) ms) (hdb : (x == ("__debug__" : Str)) = false := by decide) (he : starEach (e :: es) X.env = (false, eval e X.env) :: starEach es X.env := by rfl)
    (hpl : (backTo pos (starEach es X.env)).any (·.1) = false := by rfl) : PX X W (.Call (.Name x p) (e :: es) [] pos) (mCall g ms) := by
  obtain ⟨f, fd, F, hm, kp, b⟩ := G.ex
  refine PX.of (pe_callC F (hr.mono hk) hg hm kp b ha.pa hdb he hpl) fun σ H Q ev S ρ R E p => ?_
  refine args_len R E p fun vs H1 xs S1 ρ1 hl R1 E1 l1 rvs p1 => ?_
  obtain ⟨z, S', eq, q⟩ := pn_lift p1
  exact spN_of R1 rvs (hl.trans hn.symm) eq q
end
end Lv
end
section
set_option linter.all false
set_option autoImplicit false
/-! Links, ways, least sums: what relaxing link after link comes to. -/
namespace Lm
structure Lk (α τ : Type) where
  src : α
  dst : α
  w : Int
  tag : τ
section
variable {α τ : Type}
/-- a way from s, its sum -/
inductive Walk (rows : List (Lk α τ)) (s : α) : α → Int → Prop
  | nil : Walk rows s s 0
  | snoc {x : Int} {r : Lk α τ} : Walk rows s r.src x → r ∈ rows → Walk rows s r.dst (x + r.w)
def Feas (rows : List (Lk α τ)) (π : α → Int) : Prop := ∀ r ∈ rows, π r.dst ≤ π r.src + r.w
theorem walk_ge {rows : List (Lk α τ)} {π : α → Int} (f : Feas rows π) {s v : α} {x : Int} (h : Walk rows s v x) : π v ≤ π s + x := by
  induction h with
  | nil => omega
  | snoc h hr ih =>
    have := f _ hr
    omega
theorem Walk.mono {rows rows' : List (Lk α τ)} (i : ∀ r ∈ rows, r ∈ rows') {s v : α} {x : Int} (h : Walk rows s v x) : Walk rows' s v x := by
  induction h with
  | nil => exact .nil
  | snoc h hr ih => exact .snoc ih (i _ hr)
theorem Walk.trans {rows : List (Lk α τ)} {a b c : α} {x y : Int} (h : Walk rows a b x) (g : Walk rows b c y) : Walk rows a c (x + y) := by
  induction g with
  | nil => simpa using h
  | snoc g hr ih =>
    rw [← Int.add_assoc]
    exact .snoc ih hr
theorem Walk.one {rows : List (Lk α τ)} {r : Lk α τ} (hr : r ∈ rows) : Walk rows r.src r.dst r.w := by
  have := Walk.snoc (rows := rows) (s := r.src) .nil hr
  simpa using this
/-- the least sum -/
def Dist (rows : List (Lk α τ)) (s v : α) (d : Int) : Prop := Walk rows s v d ∧ ∀ x, Walk rows s v x → d ≤ x
theorem Dist.uniq {rows : List (Lk α τ)} {s v : α} {d e : Int} (a : Dist rows s v d) (b : Dist rows s v e) : d = e := by
  have h1 := a.2 _ b.1
  have h2 := b.2 _ a.1
  omega
theorem exists_min (P : Int → Prop) (lb : Int) (hb : ∀ x, P x → lb ≤ x) : ∀ (n : Nat) (x : Int), P x → (x - lb).toNat ≤ n → ∃ m, P m ∧ ∀ y, P y → m ≤ y := by
  intro n
  induction n with
  | zero =>
    intro x hx hn
    have := hb x hx
    exact ⟨x, hx, fun y hy => by have := hb y hy; omega⟩
  | succ n ih =>
    intro x hx hn
    by_cases h : ∃ y, P y ∧ y < x
    · obtain ⟨y, hy, hlt⟩ := h
      have := hb y hy
      exact ih y hy (by omega)
    · exact ⟨x, hx, fun y hy => Int.not_lt.mp fun z => h ⟨y, hy, z⟩⟩
theorem dist_ex {rows : List (Lk α τ)} {π : α → Int} (f : Feas rows π) {s v : α} {x : Int} (h : Walk rows s v x) : ∃ d, Dist rows s v d :=
  exists_min (fun y => Walk rows s v y) (π v - π s) (fun y hy => by have := walk_ge f hy; omega) _ x h (Nat.le_refl _)
theorem dist_self {rows : List (Lk α τ)} {π : α → Int} (f : Feas rows π) (s : α) : Dist rows s s 0 := ⟨.nil, fun x h => by have := walk_ge f h; omega⟩

/-! relaxing -/
variable [DecidableEq α]
def upd {β : Type} (f : α → β) (a : α) (b : β) : α → β := fun x => if x = a then b else f x
theorem upd_same {β : Type} {f : α → β} {a : α} {b : β} : upd f a b a = b := if_pos rfl
theorem upd_ne {β : Type} {f : α → β} {a x : α} {b : β} (h : x ≠ a) : upd f a b x = f x := if_neg h
structure St (α τ : Type) where
  D : α → Option Int
  B : α → Option (Lk α τ)
def better (D : α → Option Int) (r : Lk α τ) : Bool := match D r.src with
  | none => false
  | some x => match D r.dst with
    | none => true
    | some y => decide (x + r.w < y)
def relax (s : St α τ) (r : Lk α τ) : St α τ := if better s.D r = true then ⟨upd s.D r.dst (some ((s.D r.src).getD 0 + r.w)), upd s.B r.dst (some r)⟩ else s
def pass (rows : List (Lk α τ)) (s : St α τ) : St α τ := rows.foldl relax s
def st0 (b : α) : St α τ := ⟨upd (fun _ => none) b (some 0), fun _ => none⟩
theorem st0_same {b : α} : (st0 b : St α τ).D b = some 0 := upd_same (f := fun _ => none)
theorem st0_ne {b v : α} (h : v ≠ b) : (st0 b : St α τ).D v = none := upd_ne (f := fun _ => none) h
def passes (rows : List (Lk α τ)) (b : α) : Nat → St α τ
  | 0 => st0 b
  | n + 1 => pass rows (passes rows b n)
theorem better_true {D : α → Option Int} {r : Lk α τ} (h : better D r = true) : ∃ x, D r.src = some x ∧ ∀ y, D r.dst = some y → x + r.w < y := by
  unfold better at h
  split at h
  · cases h
  · rename_i x hx
    refine ⟨x, hx, fun y hy => ?_⟩
    rw [hy] at h
    exact of_decide_eq_true h
theorem better_false {D : α → Option Int} {r : Lk α τ} (h : better D r = false) {x : Int} (hx : D r.src = some x) : ∃ y, D r.dst = some y ∧ y ≤ x + r.w := by
  unfold better at h
  rw [hx] at h
  simp only at h
  split at h
  · cases h
  · rename_i y hy
    have := of_decide_eq_false h
    exact ⟨y, hy, by omega⟩
theorem relax_yes {s : St α τ} {r : Lk α τ} (h : better s.D r = true) {x : Int} (hx : s.D r.src = some x) : relax s r = ⟨upd s.D r.dst (some (x + r.w)), upd s.B r.dst (some r)⟩ := by
  unfold relax
  rw [if_pos h, hx]
  rfl
theorem relax_no {s : St α τ} {r : Lk α τ} (h : better s.D r = false) : relax s r = s := by
  unfold relax
  rw [h]
  rfl
/-- values only sink -/
def Sinks (D D' : α → Option Int) : Prop := ∀ v x, D v = some x → ∃ y, D' v = some y ∧ y ≤ x
theorem Sinks.refl (D : α → Option Int) : Sinks D D := fun v x h => ⟨x, h, Int.le_refl _⟩
theorem Sinks.trans {D D' D'' : α → Option Int} (a : Sinks D D') (b : Sinks D' D'') : Sinks D D'' := fun v x h => by
  obtain ⟨y, h1, h2⟩ := a v x h
  obtain ⟨z, h3, h4⟩ := b v y h1
  exact ⟨z, h3, by omega⟩
theorem relax_sinks (s : St α τ) (r : Lk α τ) : Sinks s.D (relax s r).D := by
  cases hb : better s.D r with
  | false =>
    rw [relax_no hb]
    exact Sinks.refl _
  | true =>
    obtain ⟨x, hx, hlt⟩ := better_true hb
    rw [relax_yes hb hx]
    intro v y hv
    by_cases e : v = r.dst
    · subst e
      exact ⟨_, upd_same, Int.le_of_lt (hlt y hv)⟩
    · exact ⟨y, (upd_ne e).trans hv, Int.le_refl _⟩
theorem pass_sinks (rows : List (Lk α τ)) : ∀ s : St α τ, Sinks s.D (pass rows s).D := by
  induction rows with
  | nil => exact fun s => Sinks.refl _
  | cons r rows ih => exact fun s => (relax_sinks s r).trans (ih (relax s r))
/-- the way back by the links that were noted -/
inductive Tr (B : α → Option (Lk α τ)) (s : α) : α → List (Lk α τ) → Prop
  | root : Tr B s s []
  | step {v : α} {r : Lk α τ} {p : List (Lk α τ)} : B v = some r → v ≠ s → Tr B s r.src p → Tr B s v (p ++ [r])
def psum (p : List (Lk α τ)) : Int := (p.map (·.w)).sum
theorem psum_snoc (p : List (Lk α τ)) (r : Lk α τ) : psum (p ++ [r]) = psum p + r.w := by simp [psum]
structure Inv (rows : List (Lk α τ)) (b : α) (s : St α τ) : Prop where
  start : s.D b = some 0
  real : ∀ v x, s.D v = some x → Walk rows b v x
  tight : ∀ v r, s.B v = some r → r ∈ rows ∧ r.dst = v ∧ ∃ x y, s.D r.src = some x ∧ s.D v = some y ∧ x + r.w ≤ y
  tree : ∀ v x, s.D v = some x → ∃ p, Tr s.B b v p
theorem Inv.init (rows : List (Lk α τ)) (b : α) : Inv rows b (st0 b) := by
  refine ⟨st0_same, fun v x h => ?_, fun v r h => (by cases h), fun v x h => ?_⟩
  · by_cases e : v = b
    · subst e
      rw [st0_same] at h
      cases h
      exact .nil
    · rw [st0_ne e] at h
      cases h
  · by_cases e : v = b
    · subst e
      exact ⟨[], .root⟩
    · rw [st0_ne e] at h
      cases h
theorem Inv.relax {rows : List (Lk α τ)} {π : α → Int} (f : Feas rows π) {b : α} {s : St α τ} (I : Inv rows b s) {r : Lk α τ} (hr : r ∈ rows) : Inv rows b (relax s r) := by
  cases hb : better s.D r with
  | false =>
    rw [relax_no hb]
    exact I
  | true =>
    obtain ⟨x, hx, hlt⟩ := better_true hb
    rw [relax_yes hb hx]
    have hw : Walk rows b r.dst (x + r.w) := .snoc (I.real _ _ hx) hr
    have fr := f r hr
    have ne1 : r.dst ≠ b := fun e => by
      have h1 := hlt 0 (by rw [e]; exact I.start)
      have h2 := walk_ge f hw
      rw [e] at h2
      omega
    have ne2 : r.src ≠ r.dst := fun e => by
      have h1 := hlt x (by rw [← e]; exact hx)
      rw [e] at fr
      omega
    -- the way to the link's begin does not touch its end
    have key : ∀ {a : α} {p : List (Lk α τ)}, Tr s.B b a p → Tr (upd s.B r.dst (some r)) b a p ∨ ∃ z y k, s.D r.dst = some z ∧ s.D a = some y ∧ z + k ≤ y ∧ π a ≤ π r.dst + k := by
      intro a p h
      induction h with
      | root => exact .inl .root
      | @step v r' p h1 h2 h3 ih =>
        obtain ⟨m1, m2, x', y', t1, t2, t3⟩ := I.tight _ _ h1
        by_cases e : v = r.dst
        · subst e
          exact .inr ⟨y', y', 0, t2, t2, by omega, by omega⟩
        · rcases ih with ih | ⟨z, y, k, q1, q2, q3, q4⟩
          · exact .inl (.step ((upd_ne e).trans h1) h2 ih)
          · refine .inr ⟨z, y', k + r'.w, q1, t2, ?_, ?_⟩
            · rw [q2] at t1
              cases t1
              omega
            · have := f _ m1
              rw [m2] at this
              omega
    obtain ⟨pu, hpu⟩ := I.tree _ _ hx
    have hpu' : Tr (upd s.B r.dst (some r)) b r.src pu := by
      rcases key hpu with h | ⟨z, y, k, q1, q2, q3, q4⟩
      · exact h
      · have h1 := hlt z q1
        rw [hx] at q2
        cases q2
        omega
    have all : ∀ {a : α} {p : List (Lk α τ)}, Tr s.B b a p → ∃ p', Tr (upd s.B r.dst (some r)) b a p' := by
      intro a p h
      induction h with
      | root => exact ⟨[], .root⟩
      | @step v r' p h1 h2 h3 ih =>
        by_cases e : v = r.dst
        · subst e
          exact ⟨pu ++ [r], .step upd_same h2 hpu'⟩
        · obtain ⟨p', h'⟩ := ih
          exact ⟨p' ++ [r'], .step ((upd_ne e).trans h1) h2 h'⟩
    refine ⟨(upd_ne (Ne.symm ne1)).trans I.start, fun v y hv => ?_, fun v r' hv => ?_, fun v y hv => ?_⟩
    · by_cases e : v = r.dst
      · subst e
        have hv : upd s.D r.dst (some (x + r.w)) r.dst = some y := hv
        rw [upd_same] at hv
        cases hv
        exact hw
      · exact I.real v y ((upd_ne e).symm.trans hv)
    · by_cases e : v = r.dst
      · subst e
        have hv : upd s.B r.dst (some r) r.dst = some r' := hv
        rw [upd_same] at hv
        cases hv
        exact ⟨hr, rfl, x, x + r.w, (upd_ne ne2).trans hx, upd_same, Int.le_refl _⟩
      · obtain ⟨m1, m2, x', y', t1, t2, t3⟩ := I.tight v r' ((upd_ne e).symm.trans hv)
        refine ⟨m1, m2, ?_⟩
        by_cases e2 : r'.src = r.dst
        · have h1 := hlt x' (by rw [← e2]; exact t1)
          exact ⟨x + r.w, y', (by rw [e2]; exact upd_same), (upd_ne e).trans t2, by omega⟩
        · exact ⟨x', y', (upd_ne e2).trans t1, (upd_ne e).trans t2, t3⟩
    · by_cases e : v = r.dst
      · subst e
        exact ⟨pu ++ [r], .step upd_same ne1 hpu'⟩
      · obtain ⟨p, hp⟩ := I.tree v y ((upd_ne e).symm.trans hv)
        exact all hp
theorem Inv.pass {rows : List (Lk α τ)} {π : α → Int} (f : Feas rows π) {b : α} : ∀ (rs : List (Lk α τ)) {s : St α τ}, (∀ r ∈ rs, r ∈ rows) → Inv rows b s → Inv rows b (pass rs s)
  | [], s, _, I => I
  | r :: rs, s, h, I => Inv.pass f rs (s := Lm.relax s r) (fun q hq => h q (List.mem_cons_of_mem _ hq)) (I.relax f (h r List.mem_cons_self))
theorem Inv.passes {rows : List (Lk α τ)} {π : α → Int} (f : Feas rows π) (b : α) : ∀ n, Inv rows b (passes rows b n)
  | 0 => Inv.init rows b
  | n + 1 => Inv.pass f rows (fun _ h => h) (Inv.passes f b n)
/-! all is settled -/
def Sett (rows : List (Lk α τ)) (b : α) (s : St α τ) (v : α) : Prop := ∃ d, s.D v = some d ∧ Dist rows b v d
theorem Sett.sinks {rows : List (Lk α τ)} {b : α} {s s' : St α τ} (I : Inv rows b s') (k : Sinks s.D s'.D) {v : α} (h : Sett rows b s v) : Sett rows b s' v := by
  obtain ⟨d, h1, h2⟩ := h
  obtain ⟨y, h3, h4⟩ := k v d h1
  have := h2.2 _ (I.real v y h3)
  have : y = d := by omega
  subst this
  exact ⟨_, h3, h2⟩
theorem pass_row {rows : List (Lk α τ)} {π : α → Int} (f : Feas rows π) {b : α} : ∀ (rs : List (Lk α τ)) {s : St α τ}, (∀ r ∈ rs, r ∈ rows) → Inv rows b s → ∀ {r : Lk α τ} {x : Int}, r ∈ rs → s.D r.src = some x → ∃ y, (pass rs s).D r.dst = some y ∧ y ≤ x + r.w
  | r0 :: rs, s, h, I, r, x, hr, hx => by
    have I1 := I.relax f (h r0 List.mem_cons_self)
    rcases List.mem_cons.mp hr with e | hr
    · subst e
      have h1 : ∃ y, (Lm.relax s r).D r.dst = some y ∧ y ≤ x + r.w := by
        cases hb : better s.D r with
        | false =>
          rw [relax_no hb]
          exact better_false hb hx
        | true =>
          rw [relax_yes hb hx]
          exact ⟨_, upd_same, Int.le_refl _⟩
      obtain ⟨y, h2, h3⟩ := h1
      obtain ⟨z, h4, h5⟩ := pass_sinks rs (Lm.relax s r) _ _ h2
      exact ⟨z, h4, by omega⟩
    · obtain ⟨y, h2, h3⟩ := relax_sinks s r0 _ _ hx
      obtain ⟨z, h4, h5⟩ := pass_row f rs (fun q hq => h q (List.mem_cons_of_mem _ hq)) I1 hr h2
      exact ⟨z, h4, by omega⟩
/-- all that is reached is settled -/
def Done (rows : List (Lk α τ)) (b : α) (s : St α τ) : Prop := ∀ v x, Walk rows b v x → Sett rows b s v
theorem done_step {rows : List (Lk α τ)} {π : α → Int} (f : Feas rows π) {b : α} {s : St α τ} (I : Inv rows b s) {v : α} {d : Int} (h : Walk rows b v d) (hd : ∀ x, Walk rows b v x → d ≤ x) :
    Sett rows b (pass rows s) v ∨ ∃ u, (u = b ∨ ∃ r ∈ rows, r.src = u) ∧ ¬ Sett rows b s u ∧ Sett rows b (pass rows s) u := by
  have I' := I.pass f rows (fun _ h => h)
  induction h with
  | nil => exact .inl (Sett.sinks I' (pass_sinks rows s) ⟨0, I.start, dist_self f b⟩)
  | @snoc x r h hr ih =>
    have hx : ∀ y, Walk rows b r.src y → x ≤ y := fun y hy => by
      have := hd _ (.snoc hy hr)
      omega
    rcases ih hx with ih | ih
    · by_cases hs : Sett rows b s r.src
      · obtain ⟨e, h1, h2⟩ := hs
        have : e = x := h2.uniq ⟨h, hx⟩
        subst this
        obtain ⟨y, h3, h4⟩ := pass_row f rows (fun _ h => h) I hr h1
        have := hd _ (I'.real _ _ h3)
        have : y = e + r.w := by omega
        subst this
        exact .inl ⟨_, h3, .snoc h hr, hd⟩
      · exact .inr ⟨r.src, .inr ⟨r, hr, rfl⟩, hs, ih⟩
    · exact .inr ih
open Classical in
noncomputable def left (rows : List (Lk α τ)) (b : α) (V : List α) (s : St α τ) : Nat := (V.filter fun v => decide (¬ Sett rows b s v)).length
theorem filter_lt {p q : α → Bool} {V : List α} (h : ∀ v, p v = true → q v = true) {u : α} (hu : u ∈ V) (h1 : q u = true) (h2 : p u = false) : (V.filter p).length < (V.filter q).length := by
  induction V with
  | nil => cases hu
  | cons a V ih =>
    have le : ∀ W : List α, (W.filter p).length ≤ (W.filter q).length := fun W => by
      induction W with
      | nil => exact Nat.le_refl _
      | cons c W ihW =>
        by_cases hp : p c = true
        · rw [List.filter_cons_of_pos hp, List.filter_cons_of_pos (h c hp)]
          exact Nat.succ_le_succ ihW
        · rw [List.filter_cons_of_neg hp]
          by_cases hq : q c = true
          · rw [List.filter_cons_of_pos hq]
            exact Nat.le_succ_of_le ihW
          · rw [List.filter_cons_of_neg hq]
            exact ihW
    rcases List.mem_cons.mp hu with e | hu
    · subst e
      rw [List.filter_cons_of_neg (by simp [h2]), List.filter_cons_of_pos h1]
      exact Nat.lt_succ_of_le (le V)
    · by_cases hp : p a = true
      · rw [List.filter_cons_of_pos hp, List.filter_cons_of_pos (h a hp)]
        exact Nat.succ_lt_succ (ih hu)
      · rw [List.filter_cons_of_neg hp]
        by_cases hq : q a = true
        · rw [List.filter_cons_of_pos hq]
          exact Nat.lt_succ_of_lt (ih hu)
        · rw [List.filter_cons_of_neg hq]
          exact ih hu
/-- a pass settles all, or one more -/
theorem pass_left {rows : List (Lk α τ)} {π : α → Int} (f : Feas rows π) {b : α} {V : List α} (hb : b ∈ V) (hV : ∀ r ∈ rows, r.src ∈ V) {s : St α τ} (I : Inv rows b s) : Done rows b (pass rows s) ∨ left rows b V (pass rows s) < left rows b V s := by
  by_cases h : Done rows b (pass rows s)
  · exact .inl h
  · refine .inr ?_
    have h : ∃ v x, Walk rows b v x ∧ ¬ Sett rows b (pass rows s) v := by
      refine Classical.byContradiction fun z => h fun v x hw => Classical.byContradiction fun z2 => z ⟨v, x, hw, z2⟩
    obtain ⟨v, x, hw, hn⟩ := h
    obtain ⟨d, h1, h2⟩ := dist_ex f hw
    rcases done_step f I h1 h2 with h | ⟨u, hu, h3, h4⟩
    · exact (hn h).elim
    · have huV : u ∈ V := by
        rcases hu with e | ⟨r, hr, e⟩
        · rw [e]; exact hb
        · rw [← e]; exact hV r hr
      have I' := I.pass f rows (fun _ h => h)
      unfold left
      refine filter_lt (fun w hw => ?_) huV ?_ ?_
      · simp only [decide_eq_true_eq] at hw ⊢
        exact fun z => hw (z.sinks I' (pass_sinks rows s))
      · simp only [decide_eq_true_eq]
        exact h3
      · simp only [decide_eq_false_iff_not, Classical.not_not]
        exact h4
theorem Done.pass {rows : List (Lk α τ)} {π : α → Int} (f : Feas rows π) {b : α} {s : St α τ} (I : Inv rows b s) (h : Done rows b s) : Done rows b (pass rows s) := fun v x hw => (h v x hw).sinks (I.pass f rows fun _ h => h) (pass_sinks rows s)
theorem passes_left {rows : List (Lk α τ)} {π : α → Int} (f : Feas rows π) {b : α} {V : List α} (hb : b ∈ V) (hV : ∀ r ∈ rows, r.src ∈ V) : ∀ n, Done rows b (passes rows b n) ∨ left rows b V (passes rows b n) + n < V.length
  | 0 => .inr (by
    have this : left rows b V (st0 b) < (V.filter fun _ => true).length := by
      unfold left
      refine filter_lt (fun _ _ => rfl) hb rfl ?_
      simp only [decide_eq_false_iff_not, Classical.not_not]
      exact ⟨0, st0_same, dist_self f b⟩
    rw [List.filter_eq_self.mpr (fun _ _ => rfl)] at this
    exact this)
  | n + 1 => by
    have I := Inv.passes f b n
    rcases passes_left f hb hV n with h | h
    · exact .inl (h.pass f I)
    · rcases pass_left f hb hV I with h' | h'
      · exact .inl h'
      · exact .inr (by show left rows b V (pass rows (passes rows b n)) + (n + 1) < _; omega)
theorem passes_done {rows : List (Lk α τ)} {π : α → Int} (f : Feas rows π) {b : α} {V : List α} (hb : b ∈ V) (hV : ∀ r ∈ rows, r.src ∈ V) {n : Nat} (hn : V.length ≤ n) : Done rows b (passes rows b n) := by
  rcases passes_left f hb hV n with h | h
  · exact h
  · omega
/-- nothing is better any more: all is settled -/
theorem fix_done {rows : List (Lk α τ)} {b : α} {s : St α τ} (I : Inv rows b s) (h : ∀ r ∈ rows, better s.D r = false) : Done rows b s := by
  have key : ∀ v x, Walk rows b v x → ∃ y, s.D v = some y ∧ y ≤ x := by
    intro v x hw
    induction hw with
    | nil => exact ⟨0, I.start, Int.le_refl _⟩
    | snoc hw hr ih =>
      obtain ⟨y, h1, h2⟩ := ih
      obtain ⟨z, h3, h4⟩ := better_false (h _ hr) h1
      exact ⟨z, h3, by omega⟩
  intro v x hw
  obtain ⟨y, h1, h2⟩ := key v x hw
  exact ⟨y, h1, I.real _ _ h1, fun x' hw' => by
    obtain ⟨y', h3, h4⟩ := key v x' hw'
    rw [h1] at h3
    cases h3
    exact h4⟩
theorem done_fix {rows : List (Lk α τ)} {b : α} {s : St α τ} (I : Inv rows b s) (h : Done rows b s) : ∀ r ∈ rows, better s.D r = false := by
  intro r hr
  cases hb : better s.D r with
  | false => rfl
  | true =>
    obtain ⟨x, hx, hlt⟩ := better_true hb
    have hw := I.real _ _ hx
    obtain ⟨d, h1, h2⟩ := h _ _ (.snoc hw hr)
    have := hlt d h1
    have := h2.2 _ (.snoc hw hr)
    omega
theorem pass_same {rs : List (Lk α τ)} {s : St α τ} (h : ∀ r ∈ rs, better s.D r = false) : pass rs s = s := by
  induction rs with
  | nil => rfl
  | cons r rs ih =>
    show pass rs (relax s r) = s
    rw [relax_no (h r List.mem_cons_self)]
    exact ih fun q hq => h q (List.mem_cons_of_mem _ hq)
/-- what stands at a node then -/
theorem Done.at {rows : List (Lk α τ)} {b : α} {s : St α τ} (I : Inv rows b s) (h : Done rows b s) {v : α} {d : Int} : s.D v = some d ↔ Dist rows b v d := by
  constructor
  · intro e
    obtain ⟨d', h1, h2⟩ := h v d (I.real v d e)
    rw [e] at h1
    cases h1
    exact h2
  · intro e
    obtain ⟨d', h1, h2⟩ := h v d e.1
    rw [h1, h2.uniq e]
/-- a way's links lead on -/
theorem Tr.fun_ {B : α → Option (Lk α τ)} {s v : α} {p q : List (Lk α τ)} (h : Tr B s v p) (g : Tr B s v q) : p = q := by
  induction h generalizing q with
  | root =>
    generalize hw : s = w at g
    cases g with
    | root => rfl
    | step h1 h2 h3 => exact absurd rfl (hw ▸ h2)
  | step h1 h2 h3 ih =>
    cases g with
    | root => exact absurd rfl h2
    | step k1 k2 k3 =>
      rw [h1] at k1
      cases k1
      rw [ih k3]
inductive Path (rows : List (Lk α τ)) (s : α) : α → List (Lk α τ) → Prop
  | nil : Path rows s s []
  | snoc {r : Lk α τ} {p : List (Lk α τ)} : Path rows s r.src p → r ∈ rows → Path rows s r.dst (p ++ [r])
theorem Path.walk {rows : List (Lk α τ)} {s v : α} {p : List (Lk α τ)} (h : Path rows s v p) : Walk rows s v (psum p) := by
  induction h with
  | nil => exact .nil
  | snoc h hr ih =>
    rw [psum_snoc]
    exact .snoc ih hr
theorem tr_path {rows : List (Lk α τ)} {b : α} {s : St α τ} (I : Inv rows b s) {v : α} {p : List (Lk α τ)} (h : Tr s.B b v p) : Path rows b v p ∧ ∃ x, s.D v = some x ∧ psum p ≤ x := by
  induction h with
  | root => exact ⟨.nil, 0, I.start, Int.le_refl _⟩
  | @step v r p h1 h2 h3 ih =>
    obtain ⟨m1, m2, x, y, t1, t2, t3⟩ := I.tight _ _ h1
    obtain ⟨ih, z, q1, q2⟩ := ih
    rw [t1] at q1
    cases q1
    refine ⟨?_, y, t2, by rw [psum_snoc]; omega⟩
    have := Path.snoc ih m1
    rw [m2] at this
    exact this
/-- the way that is noted has the least sum -/
theorem way_ok {rows : List (Lk α τ)} {b : α} {s : St α τ} (I : Inv rows b s) (dn : Done rows b s) {v : α} {d : Int} (hd : Dist rows b v d) {p : List (Lk α τ)} (h : Tr s.B b v p) : Path rows b v p ∧ psum p = d := by
  obtain ⟨h1, x, h2, h3⟩ := tr_path I h
  refine ⟨h1, ?_⟩
  have h4 := hd.2 _ h1.walk
  have := (dn.at I).mp h2 |>.uniq hd
  omega
/-- a walk back ends: its links are at unlike nodes -/
theorem tr_len {B : α → Option (Lk α τ)} {b : α} {V : List α} (hV : ∀ v r, B v = some r → v ∈ V) {v : α} {p : List (Lk α τ)} (h : Tr B b v p) : p.length ≤ V.length := by
  have key : ∀ {v : α} {p : List (Lk α τ)}, Tr B b v p → ∃ l : List α, l.length = p.length ∧ l.Nodup ∧ l ⊆ V ∧ ∀ u ∈ l, ∃ q, Tr B b u q ∧ q.length ≤ p.length := by
    intro v p h
    induction h with
    | root => exact ⟨[], rfl, List.nodup_nil, List.nil_subset _, fun u hu => by cases hu⟩
    | @step v r p h1 h2 h3 ih =>
      obtain ⟨l, e, nd, hs, hl⟩ := ih
      refine ⟨v :: l, by simp [e], List.nodup_cons.mpr ⟨fun hv => ?_, nd⟩, List.cons_subset.mpr ⟨hV _ _ h1, hs⟩, fun u hu => ?_⟩
      · obtain ⟨q, hq, hlen⟩ := hl v hv
        have := hq.fun_ (.step h1 h2 h3)
        rw [this] at hlen
        simp at hlen
        omega
      · rcases List.mem_cons.mp hu with rfl | hu
        · exact ⟨_, .step h1 h2 h3, by simp⟩
        · obtain ⟨q, hq, hlen⟩ := hl u hu
          exact ⟨q, hq, by simp; omega⟩
  obtain ⟨l, e, nd, hs, _⟩ := key h
  rw [← e]
  exact nd.length_le_of_subset hs
/-! one likening more -/
/-- amounts by which a likening holds, too, where it is not barred -/
theorem feas_more {rows : List (Lk α τ)} {π : α → Int} (f : Feas rows π) {a c : α} (ha : ∀ r ∈ rows, (∃ x, Walk rows a r.src x) ∧ ∃ x, Walk rows c r.src x) {da db lo hi : Int} (h1 : Dist rows a c da) (h2 : Dist rows c a db) (hl : lo ≤ hi) (b1 : 0 ≤ da + hi) (b2 : lo ≤ db) :
    ∃ π' : α → Int, Feas rows π' ∧ π' a ≤ π' c + hi ∧ π' c ≤ π' a - lo := by
  classical
  let dA : α → Int := fun v => if h : ∃ x, Walk rows a v x then Classical.choose (dist_ex f h.choose_spec) else 0
  let dC : α → Int := fun v => if h : ∃ x, Walk rows c v x then Classical.choose (dist_ex f h.choose_spec) else 0
  have hA : ∀ {v x}, Walk rows a v x → Dist rows a v (dA v) := fun {v x} h => by
    have h' : ∃ x, Walk rows a v x := ⟨x, h⟩
    have e : dA v = Classical.choose (dist_ex f h'.choose_spec) := dif_pos h'
    rw [e]
    exact Classical.choose_spec (dist_ex f h'.choose_spec)
  have hC : ∀ {v x}, Walk rows c v x → Dist rows c v (dC v) := fun {v x} h => by
    have h' : ∃ x, Walk rows c v x := ⟨x, h⟩
    have e : dC v = Classical.choose (dist_ex f h'.choose_spec) := dif_pos h'
    rw [e]
    exact Classical.choose_spec (dist_ex f h'.choose_spec)
  have eAc : dA c = da := (hA h1.1).uniq h1
  have eCa : dC a = db := (hC h2.1).uniq h2
  have eAa : dA a = 0 := (hA .nil).uniq (dist_self f a)
  have eCc : dC c = 0 := (hC .nil).uniq (dist_self f c)
  have r0 := walk_ge f h1.1
  have r1 := walk_ge f h2.1
  obtain ⟨t, t1, t2, t3, t4⟩ : ∃ t : Int, -da ≤ t ∧ t ≤ db ∧ lo ≤ t ∧ t ≤ hi := by
    by_cases h : -da ≤ lo
    · exact ⟨lo, h, b2, Int.le_refl _, hl⟩
    · exact ⟨-da, Int.le_refl _, by omega, by omega, by omega⟩
  refine ⟨fun v => min (dC v) (t + dA v), fun r hr => ?_, ?_, ?_⟩
  · obtain ⟨⟨x, hx⟩, ⟨y, hy⟩⟩ := ha r hr
    have q1 := (hA (.snoc (hA hx).1 hr)).2 _ (.snoc (hA hx).1 hr)
    have q2 := (hC (.snoc (hC hy).1 hr)).2 _ (.snoc (hC hy).1 hr)
    show min (dC r.dst) (t + dA r.dst) ≤ min (dC r.src) (t + dA r.src) + r.w
    omega
  · show min (dC a) (t + dA a) ≤ min (dC c) (t + dA c) + hi
    rw [eAc, eCa, eAa, eCc]
    omega
  · show min (dC c) (t + dA c) ≤ min (dC a) (t + dA a) - lo
    rw [eAc, eCa, eAa, eCc]
    omega
theorem Feas.mono {rows rows' : List (Lk α τ)} {π : α → Int} (f : Feas rows π) (h : ∀ r ∈ rows', r ∈ rows) : Feas rows' π := fun r hr => f r (h r hr)
end
end Lm
end
section
set_option Elab.async false
set_option linter.all false
set_option autoImplicit false
set_option maxRecDepth 100000
set_option maxHeartbeats 2000000
namespace Lw
open PySem PySem.Spec PyProof.Rows L2 Lv
def topS (i : Nat) : Stmt := PySem.Challenge.pw_blockwring_k12_refusals_stand_apart.main.body.getD i (.Pass ⟨0, 0, 0, 0⟩)
abbrev s__law_taken : Stmt := topS 25
abbrev s__law_word_of : Stmt := topS 26
abbrev s_must : Stmt := topS 22
abbrev s_is_name : Stmt := topS 21
abbrev s_Case_init : Stmt := inClass (topS 23) 0
abbrev s__law_made : Stmt := topS 27
abbrev s__law_cases_refused : Stmt := topS 29
abbrev s_Case_need_block : Stmt := inClass (topS 23) 4
abbrev s_Web_init : Stmt := inClass (topS 11) 0
abbrev s_Web_add : Stmt := inClass (topS 11) 1
abbrev s_Case_web : Stmt := inClass (topS 23) 5
abbrev s_Web_spread : Stmt := inClass (topS 11) 2
abbrev s_Web_way : Stmt := inClass (topS 11) 3
abbrev s_Case_bar : Stmt := inClass (topS 23) 6
abbrev s_Ring_init : Stmt := inClass (topS 8) 0
abbrev s_Case_liken : Stmt := inClass (topS 23) 7
abbrev s_Case_drop : Stmt := inClass (topS 23) 8
abbrev s_Case_off : Stmt := inClass (topS 23) 9
abbrev s_Case_why_most : Stmt := inClass (topS 23) 10
abbrev s_Case_why_least : Stmt := inClass (topS 23) 11
abbrev s__law_asked : Stmt := topS 28
abbrev s_Case_likenings : Stmt := inClass (topS 23) 3
abbrev s_law : Stmt := topS 30
/-! what the top has left, by names -/
structure Txt (K : PySem.W.Frag) (mg : Str → Option Value) : Prop where
  f_ValueError : mg "ValueError" = none
  f_dict : mg "dict" = none
  f_isinstance : mg "isinstance" = none
  f_len : mg "len" = none
  f_list : mg "list" = none
  f_range : mg "range" = none
  f_reversed : mg "reversed" = none
  f_sorted : mg "sorted" = none
  f_tuple : mg "tuple" = none
  c_LETTERS : ∃ t, mg "LETTERS" = some (.str "abcdefghijklmnopqrstuvwxyz" t)
  c_LONGEST_NAME : ∃ t, mg "LONGEST_NAME" = some (.int 8 t)
  c_MOST_BLOCKS : ∃ t, mg "MOST_BLOCKS" = some (.int 10 t)
  c_MOST_FILM : ∃ t, mg "MOST_FILM" = some (.int 9 t)
  c_MOST_LENGTH : ∃ t, mg "MOST_LENGTH" = some (.int 9999 t)
  c_MOST_LIKENED : ∃ t, mg "MOST_LIKENED" = some (.int 999 t)
  c_MOST_LIKENINGS : ∃ t, mg "MOST_LIKENINGS" = some (.int 30 t)
  c_MOST_OFF : ∃ t, mg "MOST_OFF" = some (.int 99 t)
  k_Case : Cls K (He.ga K "Case")
  k_Web : Cls K (He.ga K "Web")
  n_Case_blocks : NoAttr K (He.ga K "Case") "blocks"
  n_Case_film : NoAttr K (He.ga K "Case") "film"
  n_Case_given : NoAttr K (He.ga K "Case") "given"
  n_Case_kept : NoAttr K (He.ga K "Case") "kept"
  n_Web_ends : NoAttr K (He.ga K "Web") "ends"
  n_Web_rows : NoAttr K (He.ga K "Web") "rows"
  g_BadCase : mg "BadCase" = some (.ref (He.ga K "BadCase"))
  g_BadLikening : mg "BadLikening" = some (.ref (He.ga K "BadLikening"))
  g_BadText : mg "BadText" = some (.ref (He.ga K "BadText"))
  g_Full : mg "Full" = some (.ref (He.ga K "Full"))
  g_NoBlock : mg "NoBlock" = some (.ref (He.ga K "NoBlock"))
  g_NoLikening : mg "NoLikening" = some (.ref (He.ga K "NoLikening"))
  g_Ring : mg "Ring" = some (.ref (He.ga K "Ring"))
  g_WringError : mg "WringError" = some (.ref (He.ga K "WringError"))
  e_BadCase : ExO K mg "BadCase"
  e_BadLikening : ExO K mg "BadLikening"
  e_Full : ExO K mg "Full"
  e_NoBlock : ExO K mg "NoBlock"
  e_NoLikening : ExO K mg "NoLikening"
  x_BadCase_WringError : PySem.W.exmOne K (.ref (He.ga K "BadCase")) (.ref (He.ga K "WringError")) = some true
  x_BadLikening_WringError : PySem.W.exmOne K (.ref (He.ga K "BadLikening")) (.ref (He.ga K "WringError")) = some true
  x_Full_WringError : PySem.W.exmOne K (.ref (He.ga K "Full")) (.ref (He.ga K "WringError")) = some true
  x_NoBlock_WringError : PySem.W.exmOne K (.ref (He.ga K "NoBlock")) (.ref (He.ga K "WringError")) = some true
  x_NoLikening_WringError : PySem.W.exmOne K (.ref (He.ga K "NoLikening")) (.ref (He.ga K "WringError")) = some true
  x_Ring_WringError : PySem.W.exmOne K (.ref (He.ga K "Ring")) (.ref (He.ga K "WringError")) = some true
  b_WringError : BaseI K mg "WringError"
  q_BadCase : ExcC K (He.ga K "BadCase")
  q_BadLikening : ExcC K (He.ga K "BadLikening")
  q_Full : ExcC K (He.ga K "Full")
  q_NoBlock : ExcC K (He.ga K "NoBlock")
  q_NoLikening : ExcC K (He.ga K "NoLikening")
  q_Ring : ExcC K (He.ga K "Ring")
  kc_BadCase_BadCase : PySem.W.kitOne K (.ref (He.ga K "BadCase")) (.ref (He.ga K "BadCase")) = some true
  kc_BadCase_BadLikening : PySem.W.kitOne K (.ref (He.ga K "BadCase")) (.ref (He.ga K "BadLikening")) = some false
  kc_BadCase_BadText : PySem.W.kitOne K (.ref (He.ga K "BadCase")) (.ref (He.ga K "BadText")) = some false
  kc_BadCase_Full : PySem.W.kitOne K (.ref (He.ga K "BadCase")) (.ref (He.ga K "Full")) = some false
  kc_BadCase_NoBlock : PySem.W.kitOne K (.ref (He.ga K "BadCase")) (.ref (He.ga K "NoBlock")) = some false
  kc_BadCase_NoLikening : PySem.W.kitOne K (.ref (He.ga K "BadCase")) (.ref (He.ga K "NoLikening")) = some false
  kc_BadCase_Ring : PySem.W.kitOne K (.ref (He.ga K "BadCase")) (.ref (He.ga K "Ring")) = some false
  kc_BadLikening_BadCase : PySem.W.kitOne K (.ref (He.ga K "BadLikening")) (.ref (He.ga K "BadCase")) = some false
  kc_BadLikening_BadLikening : PySem.W.kitOne K (.ref (He.ga K "BadLikening")) (.ref (He.ga K "BadLikening")) = some true
  kc_BadLikening_BadText : PySem.W.kitOne K (.ref (He.ga K "BadLikening")) (.ref (He.ga K "BadText")) = some false
  kc_BadLikening_Full : PySem.W.kitOne K (.ref (He.ga K "BadLikening")) (.ref (He.ga K "Full")) = some false
  kc_BadLikening_NoBlock : PySem.W.kitOne K (.ref (He.ga K "BadLikening")) (.ref (He.ga K "NoBlock")) = some false
  kc_BadLikening_NoLikening : PySem.W.kitOne K (.ref (He.ga K "BadLikening")) (.ref (He.ga K "NoLikening")) = some false
  kc_BadLikening_Ring : PySem.W.kitOne K (.ref (He.ga K "BadLikening")) (.ref (He.ga K "Ring")) = some false
  kc_Full_BadCase : PySem.W.kitOne K (.ref (He.ga K "Full")) (.ref (He.ga K "BadCase")) = some false
  kc_Full_BadLikening : PySem.W.kitOne K (.ref (He.ga K "Full")) (.ref (He.ga K "BadLikening")) = some false
  kc_Full_BadText : PySem.W.kitOne K (.ref (He.ga K "Full")) (.ref (He.ga K "BadText")) = some false
  kc_Full_Full : PySem.W.kitOne K (.ref (He.ga K "Full")) (.ref (He.ga K "Full")) = some true
  kc_Full_NoBlock : PySem.W.kitOne K (.ref (He.ga K "Full")) (.ref (He.ga K "NoBlock")) = some false
  kc_Full_NoLikening : PySem.W.kitOne K (.ref (He.ga K "Full")) (.ref (He.ga K "NoLikening")) = some false
  kc_Full_Ring : PySem.W.kitOne K (.ref (He.ga K "Full")) (.ref (He.ga K "Ring")) = some false
  kc_NoBlock_BadCase : PySem.W.kitOne K (.ref (He.ga K "NoBlock")) (.ref (He.ga K "BadCase")) = some false
  kc_NoBlock_BadLikening : PySem.W.kitOne K (.ref (He.ga K "NoBlock")) (.ref (He.ga K "BadLikening")) = some false
  kc_NoBlock_BadText : PySem.W.kitOne K (.ref (He.ga K "NoBlock")) (.ref (He.ga K "BadText")) = some false
  kc_NoBlock_Full : PySem.W.kitOne K (.ref (He.ga K "NoBlock")) (.ref (He.ga K "Full")) = some false
  kc_NoBlock_NoBlock : PySem.W.kitOne K (.ref (He.ga K "NoBlock")) (.ref (He.ga K "NoBlock")) = some true
  kc_NoBlock_NoLikening : PySem.W.kitOne K (.ref (He.ga K "NoBlock")) (.ref (He.ga K "NoLikening")) = some false
  kc_NoBlock_Ring : PySem.W.kitOne K (.ref (He.ga K "NoBlock")) (.ref (He.ga K "Ring")) = some false
  kc_NoLikening_BadCase : PySem.W.kitOne K (.ref (He.ga K "NoLikening")) (.ref (He.ga K "BadCase")) = some false
  kc_NoLikening_BadLikening : PySem.W.kitOne K (.ref (He.ga K "NoLikening")) (.ref (He.ga K "BadLikening")) = some false
  kc_NoLikening_BadText : PySem.W.kitOne K (.ref (He.ga K "NoLikening")) (.ref (He.ga K "BadText")) = some false
  kc_NoLikening_Full : PySem.W.kitOne K (.ref (He.ga K "NoLikening")) (.ref (He.ga K "Full")) = some false
  kc_NoLikening_NoBlock : PySem.W.kitOne K (.ref (He.ga K "NoLikening")) (.ref (He.ga K "NoBlock")) = some false
  kc_NoLikening_NoLikening : PySem.W.kitOne K (.ref (He.ga K "NoLikening")) (.ref (He.ga K "NoLikening")) = some true
  kc_NoLikening_Ring : PySem.W.kitOne K (.ref (He.ga K "NoLikening")) (.ref (He.ga K "Ring")) = some false
  kc_Ring_BadCase : PySem.W.kitOne K (.ref (He.ga K "Ring")) (.ref (He.ga K "BadCase")) = some false
  kc_Ring_BadLikening : PySem.W.kitOne K (.ref (He.ga K "Ring")) (.ref (He.ga K "BadLikening")) = some false
  kc_Ring_BadText : PySem.W.kitOne K (.ref (He.ga K "Ring")) (.ref (He.ga K "BadText")) = some false
  kc_Ring_Full : PySem.W.kitOne K (.ref (He.ga K "Ring")) (.ref (He.ga K "Full")) = some false
  kc_Ring_NoBlock : PySem.W.kitOne K (.ref (He.ga K "Ring")) (.ref (He.ga K "NoBlock")) = some false
  kc_Ring_NoLikening : PySem.W.kitOne K (.ref (He.ga K "Ring")) (.ref (He.ga K "NoLikening")) = some false
  kc_Ring_Ring : PySem.W.kitOne K (.ref (He.ga K "Ring")) (.ref (He.ga K "Ring")) = some true
  kv_BadCase_ValueError : PySem.W.kitOne K (.ref (He.ga K "BadCase")) (.type "ValueError") = some true
  kv_BadLikening_ValueError : PySem.W.kitOne K (.ref (He.ga K "BadLikening")) (.type "ValueError") = some true
  kv_Full_ValueError : PySem.W.kitOne K (.ref (He.ga K "Full")) (.type "ValueError") = some true
  kv_NoBlock_ValueError : PySem.W.kitOne K (.ref (He.ga K "NoBlock")) (.type "ValueError") = some true
  kv_NoLikening_ValueError : PySem.W.kitOne K (.ref (He.ga K "NoLikening")) (.type "ValueError") = some true
  kv_Ring_ValueError : PySem.W.kitOne K (.ref (He.ga K "Ring")) (.type "ValueError") = some true
/-! _law_taken -/
abbrev n__law_taken : List Str := ["_law_row", "_law_many", "_law_cell"]
noncomputable def b__law_taken  : MS :=
    (dSeq (dSetIx (mVar 0) (mInt 1) (mOp fAdd (mOp fIx (mVar 0) (mInt 1)) (mInt 1)))
    (dSeq (dIf (mOp fGt (mOp fIx (mVar 0) (mInt 1)) (mFn fLen [(mOp fIx (mVar 0) (mInt 0))])) (dSeq (dSetIx (mVar 0) (mInt 2) (mOp fMod (mOp fAdd (mOp fMul (mOp fIx (mVar 0) (mInt 2)) (mInt 48271)) (mInt 11)) (mInt 2147483647)))
    (dRet (mOp fMod (mOp fDiv (mOp fIx (mVar 0) (mInt 2)) (mInt 7)) (mVar 1)))) dNext)
    (dSeq (dSet 2 (mOp fIx (mOp fIx (mVar 0) (mInt 0)) (mOp fSub (mOp fIx (mVar 0) (mInt 1)) (mInt 1))))
    (dSeq (dSetIx (mVar 0) (mInt 2) (mOp fMod (mOp fAdd (mOp fAdd (mOp fMul (mOp fIx (mVar 0) (mInt 2)) (mInt 48271)) (mVar 2)) (mInt 11)) (mInt 2147483647)))
    (dRet (mOp fMod (mVar 2) (mVar 1)))))))
noncomputable def g__law_taken  : Fn := fnCut 3 (b__law_taken)
abbrev lv__law_taken : Nat := 1
theorem sc__law_taken : FnScope n__law_taken ["_law_row", "_law_many"] (defScope s__law_taken) := ⟨rfl, rfl, rfl, by decide +kernel, rfl, by decide +kernel, by decide +kernel⟩
theorem ok__law_taken {P : Program} {w : World} {K : PySem.W.Frag} {mg : Str → Option Value} {base : Heap} {f : Addr} {fd : FuncData} (T : Txt K mg) (F : FunD K "_law_taken" "_law_taken" (defArgs s__law_taken) (defBody s__law_taken) (defScope s__law_taken) [] [] f fd)  :
    FnOk P w K mg base CX0 lv__law_taken f fd ["_law_row", "_law_many"] (spN K (g__law_taken) 2) ∧ Binds K fd ["_law_row", "_law_many"] [] := by
  refine ⟨fnd_ok (k := 0) (m := b__law_taken) F sc__law_taken (.cut rfl) (fun cdv A outer s H E hr => ?_), F.bindsN fun _ _ _ _ _ _ us hl => match us, hl with | [_, _], _ => rfl⟩
  have nd := sc__law_taken.nd
  have hu65 : (A.deeper (envOfC "_law_taken" (defScope s__law_taken) s.heap.objs.size f cdv)).units + 65 < cLine := by have := hr.un; omega
  have hu64 : (A.deeper (envOfC "_law_taken" (defScope s__law_taken) s.heap.objs.size f cdv)).units + 64 < cLine := by omega
  have hu1 : (A.deeper (envOfC "_law_taken" (defScope s__law_taken) s.heap.objs.size f cdv)).units + 1 < cLine := by omega
  exact (bx_cons (sx_setIx hu1 (px_bin op_addA o_add (px_ix hu1 (px_var 0) px_int) px_int) (px_var 0) px_int) (bx_cons (sx_if (tx_cmp op_gt o_B (px_ix hu1 (px_var 0) px_int) (px_cb call_lenA o_len rfl T.f_len (by decide +kernel) (ax_cons (px_ix hu1 (px_var 0) px_int) ax_nil)) (nomark _)) (bx_cons (sx_setIx hu1 (px_bin op_mod o_I (px_bin op_addA o_add (px_bin op_mul o_I (px_ix hu1 (px_var 0) px_int) px_int) px_int) px_int) (px_var 0) px_int) (bx_one (sx_ret (px_bin op_mod o_I (px_bin op_fdiv o_I (px_ix hu1 (px_var 0) px_int) px_int) (px_var 1))))) bx_nil) (bx_cons (sx_set (i := 2) nd (px_ix hu1 (px_ix hu1 (px_var 0) px_int) (px_bin op_sub o_sub (px_ix hu1 (px_var 0) px_int) px_int))) (bx_cons (sx_setIx hu1 (px_bin op_mod o_I (px_bin op_addA o_add (px_bin op_addA o_add (px_bin op_mul o_I (px_ix hu1 (px_var 0) px_int) px_int) (px_var 2)) px_int) px_int) (px_var 0) px_int) (bx_one (sx_ret (px_bin op_mod o_I (px_var 2) (px_var 1))))))))
/-! _law_word_of -/
abbrev n__law_word_of : List Str := ["_law_e", "_law_kinds"]
noncomputable def b__law_word_of  : MS :=
    (dSeq (dSet 1 (mFn fLst [(mOp1 (fIsX ["BadCase"] ["NoBlock", "BadLikening", "Full", "Ring", "NoLikening"]) (mVar 0)), (mOp1 (fIsX ["NoBlock"] ["BadCase", "BadLikening", "Full", "Ring", "NoLikening"]) (mVar 0)), (mOp1 (fIsX ["BadLikening"] ["BadCase", "NoBlock", "Full", "Ring", "NoLikening"]) (mVar 0)), (mOp1 (fIsX ["Full"] ["BadCase", "NoBlock", "BadLikening", "Ring", "NoLikening"]) (mVar 0))]))
    (dSeq (dSet 1 (mOp fAdd (mVar 1) (mFn fLst [(mOp1 (fIsX ["Ring"] ["BadCase", "NoBlock", "BadLikening", "Full", "NoLikening"]) (mVar 0)), (mOp1 (fIsX ["NoLikening"] ["BadCase", "NoBlock", "BadLikening", "Full", "Ring"]) (mVar 0)), (mOp1 (fIsX [] ["BadCase", "NoBlock", "BadLikening", "Full", "Ring", "NoLikening"]) (mVar 0))])))
    (dSeq (dIf (mOr (mNot (mOp1 (fIsX ["BadCase", "NoBlock", "BadLikening", "Full", "Ring", "NoLikening"] []) (mVar 0))) (mOp fNe (mCountB (mVar 1) (mBool true)) (mInt 1))) (dRet (mStr "other")) dNext)
    (dRet (mOp fIx (mFn fLst [(mStr "case"), (mStr "block"), (mStr "stretch"), (mStr "full"), (mStr "ring"), (mStr "number"), (mStr "text")]) (mIndexB (mVar 1) (mBool true)))))))
noncomputable def g__law_word_of  : Fn := fnCut 2 (b__law_word_of)
abbrev lv__law_word_of : Nat := 1
theorem sc__law_word_of : FnScope n__law_word_of ["_law_e"] (defScope s__law_word_of) := ⟨rfl, rfl, rfl, by decide +kernel, rfl, by decide +kernel, by decide +kernel⟩
theorem ok__law_word_of {P : Program} {w : World} {K : PySem.W.Frag} {mg : Str → Option Value} {base : Heap} {f : Addr} {fd : FuncData} (T : Txt K mg) (F : FunD K "_law_word_of" "_law_word_of" (defArgs s__law_word_of) (defBody s__law_word_of) (defScope s__law_word_of) [] [] f fd)  :
    FnC P w K mg base  lv__law_word_of f fd ["_law_e"] (spN K (g__law_word_of) 1) ∧ Binds K fd ["_law_e"] [] := by
  refine ⟨fnc_ok (k := 0) (m := b__law_word_of) F sc__law_word_of (.cut rfl) (fun cdv A outer s H E hr => ?_), F.bindsN fun _ _ _ _ _ _ us hl => match us, hl with | [_], _ => rfl⟩
  have nd := sc__law_word_of.nd
  have hu65 : (A.deeper (envOfC "_law_word_of" (defScope s__law_word_of) s.heap.objs.size f cdv)).units + 65 < cLine := by have := hr.un; omega
  have hu64 : (A.deeper (envOfC "_law_word_of" (defScope s__law_word_of) s.heap.objs.size f cdv)).units + 64 < cLine := by omega
  have hu1 : (A.deeper (envOfC "_law_word_of" (defScope s__law_word_of) s.heap.objs.size f cdv)).units + 1 < cLine := by omega
  exact (bx_cons (sx_set (i := 1) nd (px_lst (ax_cons (px_isC (hit := ["BadCase"]) (miss := ["NoBlock", "BadLikening", "Full", "Ring", "NoLikening"]) rfl T.f_isinstance rfl T.g_BadCase ⟨(al_cons ⟨T.q_BadCase, T.kc_BadCase_BadCase⟩ al_nil), (al_cons ⟨T.q_NoBlock, T.kc_NoBlock_BadCase⟩ (al_cons ⟨T.q_BadLikening, T.kc_BadLikening_BadCase⟩ (al_cons ⟨T.q_Full, T.kc_Full_BadCase⟩ (al_cons ⟨T.q_Ring, T.kc_Ring_BadCase⟩ (al_cons ⟨T.q_NoLikening, T.kc_NoLikening_BadCase⟩ al_nil)))))⟩ (px_var 0)) (ax_cons (px_isC (hit := ["NoBlock"]) (miss := ["BadCase", "BadLikening", "Full", "Ring", "NoLikening"]) rfl T.f_isinstance rfl T.g_NoBlock ⟨(al_cons ⟨T.q_NoBlock, T.kc_NoBlock_NoBlock⟩ al_nil), (al_cons ⟨T.q_BadCase, T.kc_BadCase_NoBlock⟩ (al_cons ⟨T.q_BadLikening, T.kc_BadLikening_NoBlock⟩ (al_cons ⟨T.q_Full, T.kc_Full_NoBlock⟩ (al_cons ⟨T.q_Ring, T.kc_Ring_NoBlock⟩ (al_cons ⟨T.q_NoLikening, T.kc_NoLikening_NoBlock⟩ al_nil)))))⟩ (px_var 0)) (ax_cons (px_isC (hit := ["BadLikening"]) (miss := ["BadCase", "NoBlock", "Full", "Ring", "NoLikening"]) rfl T.f_isinstance rfl T.g_BadLikening ⟨(al_cons ⟨T.q_BadLikening, T.kc_BadLikening_BadLikening⟩ al_nil), (al_cons ⟨T.q_BadCase, T.kc_BadCase_BadLikening⟩ (al_cons ⟨T.q_NoBlock, T.kc_NoBlock_BadLikening⟩ (al_cons ⟨T.q_Full, T.kc_Full_BadLikening⟩ (al_cons ⟨T.q_Ring, T.kc_Ring_BadLikening⟩ (al_cons ⟨T.q_NoLikening, T.kc_NoLikening_BadLikening⟩ al_nil)))))⟩ (px_var 0)) (ax_cons (px_isC (hit := ["Full"]) (miss := ["BadCase", "NoBlock", "BadLikening", "Ring", "NoLikening"]) rfl T.f_isinstance rfl T.g_Full ⟨(al_cons ⟨T.q_Full, T.kc_Full_Full⟩ al_nil), (al_cons ⟨T.q_BadCase, T.kc_BadCase_Full⟩ (al_cons ⟨T.q_NoBlock, T.kc_NoBlock_Full⟩ (al_cons ⟨T.q_BadLikening, T.kc_BadLikening_Full⟩ (al_cons ⟨T.q_Ring, T.kc_Ring_Full⟩ (al_cons ⟨T.q_NoLikening, T.kc_NoLikening_Full⟩ al_nil)))))⟩ (px_var 0)) ax_nil)))))) (bx_cons (sx_set (i := 1) nd (px_bin op_addA o_add (px_var 1) (px_lst (ax_cons (px_isC (hit := ["Ring"]) (miss := ["BadCase", "NoBlock", "BadLikening", "Full", "NoLikening"]) rfl T.f_isinstance rfl T.g_Ring ⟨(al_cons ⟨T.q_Ring, T.kc_Ring_Ring⟩ al_nil), (al_cons ⟨T.q_BadCase, T.kc_BadCase_Ring⟩ (al_cons ⟨T.q_NoBlock, T.kc_NoBlock_Ring⟩ (al_cons ⟨T.q_BadLikening, T.kc_BadLikening_Ring⟩ (al_cons ⟨T.q_Full, T.kc_Full_Ring⟩ (al_cons ⟨T.q_NoLikening, T.kc_NoLikening_Ring⟩ al_nil)))))⟩ (px_var 0)) (ax_cons (px_isC (hit := ["NoLikening"]) (miss := ["BadCase", "NoBlock", "BadLikening", "Full", "Ring"]) rfl T.f_isinstance rfl T.g_NoLikening ⟨(al_cons ⟨T.q_NoLikening, T.kc_NoLikening_NoLikening⟩ al_nil), (al_cons ⟨T.q_BadCase, T.kc_BadCase_NoLikening⟩ (al_cons ⟨T.q_NoBlock, T.kc_NoBlock_NoLikening⟩ (al_cons ⟨T.q_BadLikening, T.kc_BadLikening_NoLikening⟩ (al_cons ⟨T.q_Full, T.kc_Full_NoLikening⟩ (al_cons ⟨T.q_Ring, T.kc_Ring_NoLikening⟩ al_nil)))))⟩ (px_var 0)) (ax_cons (px_isC (hit := []) (miss := ["BadCase", "NoBlock", "BadLikening", "Full", "Ring", "NoLikening"]) rfl T.f_isinstance rfl T.g_BadText ⟨al_nil, (al_cons ⟨T.q_BadCase, T.kc_BadCase_BadText⟩ (al_cons ⟨T.q_NoBlock, T.kc_NoBlock_BadText⟩ (al_cons ⟨T.q_BadLikening, T.kc_BadLikening_BadText⟩ (al_cons ⟨T.q_Full, T.kc_Full_BadText⟩ (al_cons ⟨T.q_Ring, T.kc_Ring_BadText⟩ (al_cons ⟨T.q_NoLikening, T.kc_NoLikening_BadText⟩ al_nil))))))⟩ (px_var 0)) ax_nil)))))) (bx_cons (sx_if (WXx.tx (wx_or (tx_not (tx_val (px_isV (hit := ["BadCase", "NoBlock", "BadLikening", "Full", "Ring", "NoLikening"]) (miss := []) (t := "ValueError") rfl T.f_isinstance rfl T.f_ValueError (by decide +kernel) ⟨(al_cons ⟨T.q_BadCase, T.kv_BadCase_ValueError⟩ (al_cons ⟨T.q_NoBlock, T.kv_NoBlock_ValueError⟩ (al_cons ⟨T.q_BadLikening, T.kv_BadLikening_ValueError⟩ (al_cons ⟨T.q_Full, T.kv_Full_ValueError⟩ (al_cons ⟨T.q_Ring, T.kv_Ring_ValueError⟩ (al_cons ⟨T.q_NoLikening, T.kv_NoLikening_ValueError⟩ al_nil)))))), al_nil⟩ (px_var 0)))) (wx_or1 (tx_cmp (op_neD hu64) o_ne (px_countB (px_var 1) (ax_cons px_bl ax_nil)) px_int (nomark _))))) (bx_one (sx_ret px_str)) bx_nil) (bx_one (sx_ret (px_ix hu1 (px_lst (ax_cons px_str (ax_cons px_str (ax_cons px_str (ax_cons px_str (ax_cons px_str (ax_cons px_str (ax_cons px_str ax_nil)))))))) (px_indexB (px_var 1) (ax_cons px_bl ax_nil))))))))
/-! must -/
abbrev n_must : List Str := ["good"]
noncomputable def b_must  : MS :=
    (dIf (mNot (mVar 0)) (dRaise "BadCase") dNext)
noncomputable def g_must  : FnX := fnCutX 1 (b_must)
abbrev lv_must : Nat := 1
theorem sc_must : FnScope n_must ["good"] (defScope s_must) := ⟨rfl, rfl, rfl, by decide +kernel, rfl, by decide +kernel, by decide +kernel⟩
theorem ok_must {P : Program} {w : World} {K : PySem.W.Frag} {mg : Str → Option Value} {base : Heap} {f : Addr} {fd : FuncData} (T : Txt K mg) (F : FunD K "must" "must" (defArgs s_must) (defBody s_must) (defScope s_must) [] [] f fd)  :
    FnOk P w K mg base (L2.CX P w) lv_must f fd ["good"] (spX K (g_must) 1) ∧ Binds K fd ["good"] [] := by
  refine ⟨fnx_ok (k := 0) (m := b_must) F sc_must (.cut rfl) (fun cdv A outer s H E hr tk hp => ?_), F.bindsN fun _ _ _ _ _ _ us hl => match us, hl with | [_], _ => rfl⟩
  have nd := sc_must.nd
  have hu65 : (A.deeper (envOfC "must" (defScope s_must) s.heap.objs.size f cdv)).units + 65 < cLine := by have := hr.un; omega
  have hu64 : (A.deeper (envOfC "must" (defScope s_must) s.heap.objs.size f cdv)).units + 64 < cLine := by omega
  have hu1 : (A.deeper (envOfC "must" (defScope s_must) s.heap.objs.size f cdv)).units + 1 < cLine := by omega
  exact (bx_one (sx_if (tx_not (tx_val (px_var 0))) (bx_one (sx_raise rfl tk T.e_BadCase rfl)) bx_nil))
/-! is_name -/
abbrev n_is_name : List Str := ["text", "sign"]
noncomputable def b_is_name  : MS :=
    (dRet (mAnd (mCh2 fLe fLe (mInt 1) (mFn fLen [(mVar 0)]) (mInt 8)) (mOp fEq (mLc [(mVar 0)] fSeqS (aName 1) (some (mOp fNotIn (mVar 1) (mStr "abcdefghijklmnopqrstuvwxyz"))) (mVar 1) [1]) (mFn fLst []))))
noncomputable def g_is_name  : Fn := fnCut 2 (b_is_name)
abbrev lv_is_name : Nat := 1
theorem sc_is_name : FnScope n_is_name ["text"] (defScope s_is_name) := ⟨rfl, rfl, rfl, by decide +kernel, rfl, by decide +kernel, by decide +kernel⟩
theorem ok_is_name {P : Program} {w : World} {K : PySem.W.Frag} {mg : Str → Option Value} {base : Heap} {f : Addr} {fd : FuncData} (T : Txt K mg) (F : FunD K "is_name" "is_name" (defArgs s_is_name) (defBody s_is_name) (defScope s_is_name) [] [] f fd)  :
    FnOk P w K mg base CX0 lv_is_name f fd ["text"] (spN K (g_is_name) 1) ∧ Binds K fd ["text"] [] := by
  refine ⟨fnd_ok (k := 0) (m := b_is_name) F sc_is_name (.cut rfl) (fun cdv A outer s H E hr => ?_), F.bindsN fun _ _ _ _ _ _ us hl => match us, hl with | [_], _ => rfl⟩
  have nd := sc_is_name.nd
  have hu65 : (A.deeper (envOfC "is_name" (defScope s_is_name) s.heap.objs.size f cdv)).units + 65 < cLine := by have := hr.un; omega
  have hu64 : (A.deeper (envOfC "is_name" (defScope s_is_name) s.heap.objs.size f cdv)).units + 64 < cLine := by omega
  have hu1 : (A.deeper (envOfC "is_name" (defScope s_is_name) s.heap.objs.size f cdv)).units + 1 < cLine := by omega
  exact (bx_one (sx_ret (px_and (px_ch2 op_le o_B op_le o_B px_int (px_cb call_lenA o_len rfl T.f_len (by decide +kernel) (ax_cons (px_var 0) ax_nil)) (px_gint rfl T.c_LONGEST_NAME)) (px_one (px_cmp (op_eqD hu64) o_eq (px_lc (own := [("sign", 1)]) rfl nd (ix_str (px_var 0)) (blkOk_by (own := [("sign", 1)]) (N := n_is_name) (sc := defScope s_is_name) (by decide +kernel)) (fun _ _ _ _ _ => (gx_name (i := 1) nd)) (fun _ _ _ _ _ => (txs_one (tx_cmp (op_notInX hu65) o_notIn (px_var 1) (px_gstr rfl T.c_LETTERS) (by with_unfolding_all rfl)))) (fun _ _ _ _ _ => (px_var 1))) (px_lst ax_nil) (nomark _))))))
/-! Case.__init__ -/
abbrev n_Case_init : List Str := ["self", "film", "blocks", "name", "length", "least", "most"]
noncomputable def b_Case_init (a_Case : Addr) : MS :=
    (dSeq (dExpr (mCallX g_must [(mCh3 fLe fLe fLe (mInt 0) (mOp fIx (mVar 1) (mInt 0)) (mOp fIx (mVar 1) (mInt 1)) (mInt 9))]))
    (dSeq (dExpr (mCallX g_must [(mOp fLe (mFn fLen [(mVar 2)]) (mInt 10))]))
    (dSeq (dSetFld a_Case "film" (mVar 0) (mFn fTuple [(mVar 1)]))
    (dSeq (dSetFld a_Case "blocks" (mVar 0) mDic0)
    (dSeq (dFor [(mVar 2)] fSeqL (aTup [3, 4, 5, 6]) (dSeq (dExpr (mCallX g_must [(mAnd (mCall g_is_name [(mVar 3)]) (mOp fNotIn (mVar 3) (mFld a_Case "blocks" (mVar 0))))]))
    (dSeq (dExpr (mCallX g_must [(mAnd (mCh2 fLe fLe (mInt 1) (mVar 4) (mInt 9999)) (mCh3 fLe fLe fLe (mOp fSub (mInt 0) (mInt 99)) (mVar 5) (mVar 6) (mInt 99)))]))
    (dSetIx (mFld a_Case "blocks" (mVar 0)) (mVar 3) (mFn fTup [(mVar 4), (mVar 5), (mVar 6)])))))
    (dSeq (dSetFld a_Case "kept" (mVar 0) mDic0)
    (dSetFld a_Case "given" (mVar 0) (mInt 0))))))))
noncomputable def g_Case_init (a_Case : Addr) : FnX := fnKeepX 7 (b_Case_init a_Case)
abbrev lv_Case_init : Nat := 2
theorem sc_Case_init : FnScope n_Case_init ["self", "film", "blocks"] (defScope s_Case_init) := ⟨rfl, rfl, rfl, by decide +kernel, rfl, by decide +kernel, by decide +kernel⟩
theorem ok_Case_init {P : Program} {w : World} {K : PySem.W.Frag} {mg : Str → Option Value} {base : Heap} {f : Addr} {fd : FuncData} (T : Txt K mg) (F : FunD K "__init__" "Case.__init__" (defArgs s_Case_init) (defBody s_Case_init) (defScope s_Case_init) [] [] f fd) (G_must : FnGX P w K mg base "must" lv_must ["good"] (g_must)) (G_is_name : FnG P w K mg base "is_name" lv_is_name ["text"] (g_is_name)) :
    FnOk P w K mg base (L2.CX P w) lv_Case_init f fd ["self", "film", "blocks"] (spX K (g_Case_init (He.ga K "Case")) 3) ∧ Binds K fd ["self", "film", "blocks"] [] := by
  refine ⟨fnx_ok (k := 1) (m := b_Case_init (He.ga K "Case")) F sc_Case_init (.keep rfl) (fun cdv A outer s H E hr tk hp => ?_), F.bindsN fun _ _ _ _ _ _ us hl => match us, hl with | [_, _, _], _ => rfl⟩
  have nd := sc_Case_init.nd
  have hu65 : (A.deeper (envOfC "Case.__init__" (defScope s_Case_init) s.heap.objs.size f cdv)).units + 65 < cLine := by have := hr.un; omega
  have hu64 : (A.deeper (envOfC "Case.__init__" (defScope s_Case_init) s.heap.objs.size f cdv)).units + 64 < cLine := by omega
  have hu1 : (A.deeper (envOfC "Case.__init__" (defScope s_Case_init) s.heap.objs.size f cdv)).units + 1 < cLine := by omega
  exact (bx_cons (sx_expr (px_callX (k := lv_must) tk G_must hr (by decide) rfl rfl (ax_cons (px_ch3 op_le o_B op_le o_B op_le o_B px_int (px_ix hu1 (px_var 1) px_int) (px_ix hu1 (px_var 1) px_int) (px_gint rfl T.c_MOST_FILM)) ax_nil))) (bx_cons (sx_expr (px_callX (k := lv_must) tk G_must hr (by decide) rfl rfl (ax_cons (px_cmp op_le o_B (px_cb call_lenA o_len rfl T.f_len (by decide +kernel) (ax_cons (px_var 2) ax_nil)) (px_gint rfl T.c_MOST_BLOCKS) (nomark _)) ax_nil))) (bx_cons (sx_fld T.k_Case T.n_Case_film (px_var 0) (px_cty call_tuple_of o_tuple rfl T.f_tuple (by decide +kernel) (ax_cons (px_var 1) ax_nil))) (bx_cons (sx_fld T.k_Case T.n_Case_blocks (px_var 0) px_dic0) (bx_cons (sx_for hp rfl (ix_list (px_var 2)) (gx_tup rfl (nx_cons (i := 3) nd (nx_cons (i := 4) nd (nx_cons (i := 5) nd (nx_cons (i := 6) nd nx_nil))))) (bx_cons (sx_expr (px_callX (k := lv_must) tk G_must hr (by decide) rfl rfl (ax_cons (px_and (px_call (k := lv_is_name) G_is_name hr (by decide) rfl rfl (ax_cons (px_var 3) ax_nil)) (px_one (px_cmp (op_notInX hu65) o_notIn (px_var 3) (px_fld T.k_Case T.n_Case_blocks (px_var 0)) (by with_unfolding_all rfl)))) ax_nil))) (bx_cons (sx_expr (px_callX (k := lv_must) tk G_must hr (by decide) rfl rfl (ax_cons (px_and (px_ch2 op_le o_B op_le o_B px_int (px_var 4) (px_gint rfl T.c_MOST_LENGTH)) (px_one (px_ch3 op_le o_B op_le o_B op_le o_B (px_bin op_sub o_sub px_int (px_gint rfl T.c_MOST_OFF)) (px_var 5) (px_var 6) (px_gint rfl T.c_MOST_OFF)))) ax_nil))) (bx_one (sx_setIx hu1 (px_tup (ax_cons (px_var 4) (ax_cons (px_var 5) (ax_cons (px_var 6) ax_nil)))) (px_fld T.k_Case T.n_Case_blocks (px_var 0)) (px_var 3)))))) (bx_cons (sx_fld T.k_Case T.n_Case_kept (px_var 0) px_dic0) (bx_one (sx_fld T.k_Case T.n_Case_given (px_var 0) px_int))))))))
/-! _law_made -/
abbrev n__law_made : List Str := ["_law_film", "_law_blocks", "_law_e"]
noncomputable def b__law_made (a_Case : Addr) : MS :=
    (dSeq (dTryE (dExpr (mMakeX a_Case (g_Case_init a_Case) [(mVar 0), (mVar 1)])) (⟨["BadCase"], [], 2, (dRet (mCall g__law_word_of [(mVar 2)]))⟩ :: []))
    (dRet (mStr "")))
noncomputable def g__law_made (a_Case : Addr) : Fn := fnCut 3 (b__law_made a_Case)
abbrev lv__law_made : Nat := 4
theorem sc__law_made : FnScope n__law_made ["_law_film", "_law_blocks"] (defScope s__law_made) := ⟨rfl, rfl, rfl, by decide +kernel, rfl, by decide +kernel, by decide +kernel⟩
theorem ok__law_made {P : Program} {w : World} {K : PySem.W.Frag} {mg : Str → Option Value} {base : Heap} {f : Addr} {fd : FuncData} (T : Txt K mg) (F : FunD K "_law_made" "_law_made" (defArgs s__law_made) (defBody s__law_made) (defScope s__law_made) [] [] f fd) (G__law_word_of : FnGC P w K mg base "_law_word_of" lv__law_word_of ["_law_e"] (g__law_word_of)) (M_Case : MkGX P w K mg base (He.ga K "Case") "Case" lv_Case_init ["self", "film", "blocks"] (g_Case_init (He.ga K "Case"))) :
    FnOk P w K mg base CX0 lv__law_made f fd ["_law_film", "_law_blocks"] (spN K (g__law_made (He.ga K "Case")) 2) ∧ Binds K fd ["_law_film", "_law_blocks"] [] := by
  refine ⟨fnd_ok (k := 3) (m := b__law_made (He.ga K "Case")) F sc__law_made (.cut rfl) (fun cdv A outer s H E hr => ?_), F.bindsN fun _ _ _ _ _ _ us hl => match us, hl with | [_, _], _ => rfl⟩
  have nd := sc__law_made.nd
  have hu65 : (A.deeper (envOfC "_law_made" (defScope s__law_made) s.heap.objs.size f cdv)).units + 65 < cLine := by have := hr.un; omega
  have hu64 : (A.deeper (envOfC "_law_made" (defScope s__law_made) s.heap.objs.size f cdv)).units + 64 < cLine := by omega
  have hu1 : (A.deeper (envOfC "_law_made" (defScope s__law_made) s.heap.objs.size f cdv)).units + 1 < cLine := by omega
  exact (bx_cons (sx_tryE nd takes_no (fun W pn xe tk hp => (bx_one (sx_expr (px_makeX (k := lv_Case_init) tk M_Case hr (by decide) rfl rfl (ax_cons (px_var 0) (ax_cons (px_var 1) ax_nil)))))) (he_cons (hit := ["BadCase"]) (miss := []) (i := 2) rfl T.g_WringError ((al_cons T.x_BadCase_WringError al_nil)) (al_nil) (fun a pn => (bx_one (sx_ret (px_callC (k := lv__law_word_of) G__law_word_of (roomS hr _) (by decide) rfl rfl (ax_cons (px_var 2) ax_nil))))) he_nil)) (bx_one (sx_ret px_str)))
/-! _law_cases_refused -/
abbrev n__law_cases_refused : List Str := ["_law_row", "_law_far", "_law_good", "_law_bad", "_law_block", "_law_films", "_law_ten", "_law_film", "_law_k"]
noncomputable def b__law_cases_refused (a_Case : Addr) : MS :=
    (dSeq (dSet 1 (mCall g__law_taken [(mVar 0), (mOp fPow (mInt 10) (mInt 6))]))
    (dSeq (dSet 2 (mFn fLst [(mFn fTup [(mStr "a"), (mInt 1), (mOp1 fNeg (mInt 99)), (mInt 99)]), (mFn fTup [(mStr "abcdefgh"), (mInt 9999), (mInt 0), (mInt 0)])]))
    (dSeq (dSet 3 (mFn fLstN [(mFn fTup [(mStr ""), (mInt 5), (mInt 0), (mInt 0)]), (mFn fTup [(mStr "ninesigns"), (mInt 5), (mInt 0), (mInt 0)]), (mFn fTup [(mStr "Ab"), (mInt 5), (mInt 0), (mInt 0)]), (mFn fTup [(mStr "a"), (mInt 5), (mInt 0), (mInt 0)]), (mFn fTup [(mStr "b"), (mInt 0), (mInt 0), (mInt 0)]), (mFn fTup [(mStr "b"), (mOp fSub (mInt 0) (mVar 1)), (mInt 0), (mInt 0)])]))
    (dSeq (dSet 3 (mOp fCatN (mVar 3) (mFn fLstN [(mFn fTup [(mStr "b"), (mOp fAdd (mInt 10000) (mVar 1)), (mInt 0), (mInt 0)]), (mFn fTup [(mStr "b"), (mInt 5), (mInt 1), (mInt 0)]), (mFn fTup [(mStr "b"), (mInt 5), (mOp fSub (mOp1 fNeg (mInt 100)) (mVar 1)), (mInt 0)]), (mFn fTup [(mStr "b1"), (mInt 5), (mInt 0), (mInt 0)])])))
    (dSeq (dExpr (mLm fAppend (mVar 3) [(mFn fTup [(mStr "b"), (mInt 5), (mInt 0), (mOp fAdd (mInt 100) (mVar 1))])]))
    (dSeq (dFor [(mVar 3)] fSeqL (aName 4) (dIf (mOp fNe (mCall (g__law_made a_Case) [(mFn fTup [(mInt 0), (mInt 9)]), (mOp fAdd (mVar 2) (mFn fLst [(mVar 4)]))]) (mStr "case")) (dRet (mBool false)) dNext))
    (dSeq (dSet 5 (mFn fLst [(mFn fTup [(mInt 1), (mInt 0)]), (mFn fTup [(mOp1 fNeg (mInt 1)), (mInt 3)]), (mFn fTup [(mInt 0), (mInt 10)]), (mFn fTup [(mInt 0), (mOp fAdd (mInt 10) (mVar 1))]), (mFn fTup [(mOp fSub (mOp1 fNeg (mInt 1)) (mVar 1)), (mInt 2)])]))
    (dSeq (dIf (mOp fNe (mLc [(mVar 5)] fSeqL (aName 7) (some (mOp fNe (mCall (g__law_made a_Case) [(mVar 7), (mVar 2)]) (mStr "case"))) (mVar 7) [7]) (mFn fLst [])) (dRet (mBool false)) dNext)
    (dSeq (dSet 6 (mLc [(mInt 10)] fRng1 (aName 8) none (mFn fTup [(mOp fIx (mStr "abcdefghij") (mVar 8)), (mInt 5), (mInt 0), (mInt 0)]) [8]))
    (dRet (mAnd (mOp fEq (mCall (g__law_made a_Case) [(mFn fTup [(mInt 9), (mInt 9)]), (mVar 6)]) (mStr "")) (mOp fEq (mCall (g__law_made a_Case) [(mFn fTup [(mInt 0), (mInt 0)]), (mOp fAdd (mVar 6) (mFn fLst [(mFn fTup [(mStr "k"), (mInt 5), (mInt 0), (mInt 0)])]))]) (mStr "case")))))))))))))
noncomputable def g__law_cases_refused (a_Case : Addr) : Fn := fnCut 9 (b__law_cases_refused a_Case)
abbrev lv__law_cases_refused : Nat := 5
theorem sc__law_cases_refused : FnScope n__law_cases_refused ["_law_row"] (defScope s__law_cases_refused) := ⟨rfl, rfl, rfl, by decide +kernel, rfl, by decide +kernel, by decide +kernel⟩
theorem ok__law_cases_refused {P : Program} {w : World} {K : PySem.W.Frag} {mg : Str → Option Value} {base : Heap} {f : Addr} {fd : FuncData} (T : Txt K mg) (F : FunD K "_law_cases_refused" "_law_cases_refused" (defArgs s__law_cases_refused) (defBody s__law_cases_refused) (defScope s__law_cases_refused) [] [] f fd) (G__law_taken : FnG P w K mg base "_law_taken" lv__law_taken ["_law_row", "_law_many"] (g__law_taken)) (G__law_made : FnG P w K mg base "_law_made" lv__law_made ["_law_film", "_law_blocks"] (g__law_made (He.ga K "Case"))) :
    FnOk P w K mg base CX0 lv__law_cases_refused f fd ["_law_row"] (spN K (g__law_cases_refused (He.ga K "Case")) 1) ∧ Binds K fd ["_law_row"] [] := by
  refine ⟨fnd_ok (k := 4) (m := b__law_cases_refused (He.ga K "Case")) F sc__law_cases_refused (.cut rfl) (fun cdv A outer s H E hr => ?_), F.bindsN fun _ _ _ _ _ _ us hl => match us, hl with | [_], _ => rfl⟩
  have nd := sc__law_cases_refused.nd
  have hu65 : (A.deeper (envOfC "_law_cases_refused" (defScope s__law_cases_refused) s.heap.objs.size f cdv)).units + 65 < cLine := by have := hr.un; omega
  have hu64 : (A.deeper (envOfC "_law_cases_refused" (defScope s__law_cases_refused) s.heap.objs.size f cdv)).units + 64 < cLine := by omega
  have hu1 : (A.deeper (envOfC "_law_cases_refused" (defScope s__law_cases_refused) s.heap.objs.size f cdv)).units + 1 < cLine := by omega
  exact (bx_cons (sx_set (i := 1) nd (px_call (k := lv__law_taken) G__law_taken hr (by decide) rfl rfl (ax_cons (px_var 0) (ax_cons (px_bin op_pow o_I px_int px_int) ax_nil)))) (bx_cons (sx_set (i := 2) nd (px_lst (ax_cons (px_tup (ax_cons px_str (ax_cons px_int (ax_cons (px_un un_neg o_neg px_int) (ax_cons px_int ax_nil))))) (ax_cons (px_tup (ax_cons px_str (ax_cons px_int (ax_cons px_int (ax_cons px_int ax_nil))))) ax_nil)))) (bx_cons (sx_set (i := 3) nd (px_lstN (ax_cons (px_tup (ax_cons px_str (ax_cons px_int (ax_cons px_int (ax_cons px_int ax_nil))))) (ax_cons (px_tup (ax_cons px_str (ax_cons px_int (ax_cons px_int (ax_cons px_int ax_nil))))) (ax_cons (px_tup (ax_cons px_str (ax_cons px_int (ax_cons px_int (ax_cons px_int ax_nil))))) (ax_cons (px_tup (ax_cons px_str (ax_cons px_int (ax_cons px_int (ax_cons px_int ax_nil))))) (ax_cons (px_tup (ax_cons px_str (ax_cons px_int (ax_cons px_int (ax_cons px_int ax_nil))))) (ax_cons (px_tup (ax_cons px_str (ax_cons (px_bin op_sub o_sub px_int (px_var 1)) (ax_cons px_int (ax_cons px_int ax_nil))))) ax_nil)))))))) (bx_cons (sx_set (i := 3) nd (px_bin op_addA o_catN (px_var 3) (px_lstN (ax_cons (px_tup (ax_cons px_str (ax_cons (px_bin op_addA o_add px_int (px_var 1)) (ax_cons px_int (ax_cons px_int ax_nil))))) (ax_cons (px_tup (ax_cons px_str (ax_cons px_int (ax_cons px_int (ax_cons px_int ax_nil))))) (ax_cons (px_tup (ax_cons px_str (ax_cons px_int (ax_cons (px_bin op_sub o_sub (px_un un_neg o_neg px_int) (px_var 1)) (ax_cons px_int ax_nil))))) (ax_cons (px_tup (ax_cons px_str (ax_cons px_int (ax_cons px_int (ax_cons px_int ax_nil))))) ax_nil))))))) (bx_cons (sx_expr (px_append (px_var 3) (ax_cons (px_tup (ax_cons px_str (ax_cons px_int (ax_cons px_int (ax_cons (px_bin op_addA o_add px_int (px_var 1)) ax_nil))))) ax_nil))) (bx_cons (sx_for PassesOwn.never rfl (ix_list (px_var 3)) (gx_name (i := 4) nd) (bx_one (sx_if (tx_cmp (op_neD hu64) o_ne (px_call (k := lv__law_made) G__law_made hr (by decide) rfl rfl (ax_cons (px_tup (ax_cons px_int (ax_cons px_int ax_nil))) (ax_cons (px_bin op_addA o_add (px_var 2) (px_lst (ax_cons (px_var 4) ax_nil))) ax_nil))) px_str (nomark _)) (bx_one (sx_ret px_bl)) bx_nil))) (bx_cons (sx_set (i := 5) nd (px_lst (ax_cons (px_tup (ax_cons px_int (ax_cons px_int ax_nil))) (ax_cons (px_tup (ax_cons (px_un un_neg o_neg px_int) (ax_cons px_int ax_nil))) (ax_cons (px_tup (ax_cons px_int (ax_cons px_int ax_nil))) (ax_cons (px_tup (ax_cons px_int (ax_cons (px_bin op_addA o_add px_int (px_var 1)) ax_nil))) (ax_cons (px_tup (ax_cons (px_bin op_sub o_sub (px_un un_neg o_neg px_int) (px_var 1)) (ax_cons px_int ax_nil))) ax_nil))))))) (bx_cons (sx_if (tx_cmp (op_neD hu64) o_ne (px_lc (own := [("_law_film", 7)]) rfl nd (ix_list (px_var 5)) (blkOk_by (own := [("_law_film", 7)]) (N := n__law_cases_refused) (sc := defScope s__law_cases_refused) (by decide +kernel)) (fun _ _ _ _ _ => (gx_name (i := 7) nd)) (fun _ _ _ _ _ => (txs_one (tx_cmp (op_neD hu64) o_ne (px_call (k := lv__law_made) G__law_made hr (by decide) rfl rfl (ax_cons (px_var 7) (ax_cons (px_var 2) ax_nil))) px_str (nomark _)))) (fun _ _ _ _ _ => (px_var 7))) (px_lst ax_nil) (nomark _)) (bx_one (sx_ret px_bl)) bx_nil) (bx_cons (sx_setLc (i := 6) (own := [("_law_k", 8)]) rfl nd (ix_rng1 rfl T.f_range (ax_cons px_int ax_nil)) (blkOk_by (own := [("_law_k", 8)]) (N := n__law_cases_refused) (sc := defScope s__law_cases_refused) (by decide +kernel)) (fun _ _ _ _ _ => (gx_name (i := 8) nd)) (fun _ _ _ _ _ => txs_nil) (fun _ _ _ _ _ => (px_tup (ax_cons (px_ix hu1 px_str (px_var 8)) (ax_cons px_int (ax_cons px_int (ax_cons px_int ax_nil))))))) (bx_one (sx_ret (px_and (px_cmp (op_eqD hu64) o_eq (px_call (k := lv__law_made) G__law_made hr (by decide) rfl rfl (ax_cons (px_tup (ax_cons px_int (ax_cons px_int ax_nil))) (ax_cons (px_var 6) ax_nil))) px_str (nomark _)) (px_one (px_cmp (op_eqD hu64) o_eq (px_call (k := lv__law_made) G__law_made hr (by decide) rfl rfl (ax_cons (px_tup (ax_cons px_int (ax_cons px_int ax_nil))) (ax_cons (px_bin op_addA o_add (px_var 6) (px_lst (ax_cons (px_tup (ax_cons px_str (ax_cons px_int (ax_cons px_int (ax_cons px_int ax_nil))))) ax_nil))) ax_nil))) px_str (nomark _)))))))))))))))
/-! Case.need_block -/
abbrev n_Case_need_block : List Str := ["self", "name"]
noncomputable def b_Case_need_block (a_Case : Addr) : MS :=
    (dIf (mOp fNotIn (mVar 1) (mFld a_Case "blocks" (mVar 0))) (dRaise "NoBlock") dNext)
noncomputable def g_Case_need_block (a_Case : Addr) : FnX := fnCutX 2 (b_Case_need_block a_Case)
abbrev lv_Case_need_block : Nat := 1
theorem sc_Case_need_block : FnScope n_Case_need_block ["self", "name"] (defScope s_Case_need_block) := ⟨rfl, rfl, rfl, by decide +kernel, rfl, by decide +kernel, by decide +kernel⟩
theorem ok_Case_need_block {P : Program} {w : World} {K : PySem.W.Frag} {mg : Str → Option Value} {base : Heap} {f : Addr} {fd : FuncData} (T : Txt K mg) (F : FunD K "need_block" "Case.need_block" (defArgs s_Case_need_block) (defBody s_Case_need_block) (defScope s_Case_need_block) [] [] f fd)  :
    FnOk P w K mg base (L2.CX P w) lv_Case_need_block f fd ["self", "name"] (spX K (g_Case_need_block (He.ga K "Case")) 2) ∧ Binds K fd ["self", "name"] [] := by
  refine ⟨fnx_ok (k := 0) (m := b_Case_need_block (He.ga K "Case")) F sc_Case_need_block (.cut rfl) (fun cdv A outer s H E hr tk hp => ?_), F.bindsN fun _ _ _ _ _ _ us hl => match us, hl with | [_, _], _ => rfl⟩
  have nd := sc_Case_need_block.nd
  have hu65 : (A.deeper (envOfC "Case.need_block" (defScope s_Case_need_block) s.heap.objs.size f cdv)).units + 65 < cLine := by have := hr.un; omega
  have hu64 : (A.deeper (envOfC "Case.need_block" (defScope s_Case_need_block) s.heap.objs.size f cdv)).units + 64 < cLine := by omega
  have hu1 : (A.deeper (envOfC "Case.need_block" (defScope s_Case_need_block) s.heap.objs.size f cdv)).units + 1 < cLine := by omega
  exact (bx_one (sx_if (tx_cmp (op_notInX hu65) o_notIn (px_var 1) (px_fld T.k_Case T.n_Case_blocks (px_var 0)) (by with_unfolding_all rfl)) (bx_one (sx_raise rfl tk T.e_NoBlock rfl)) bx_nil))
/-! Web.__init__ -/
abbrev n_Web_init : List Str := ["self", "names"]
noncomputable def b_Web_init (a_Web : Addr) : MS :=
    (dSeq (dSetFld a_Web "ends" (mVar 0) (mOp fAdd (mFn fLst [mNone]) (mFn fListK [(mVar 1)])))
    (dSetFld a_Web "rows" (mVar 0) (mFn fLstN [])))
noncomputable def g_Web_init (a_Web : Addr) : Fn := fnKeep 2 (b_Web_init a_Web)
abbrev lv_Web_init : Nat := 1
theorem sc_Web_init : FnScope n_Web_init ["self", "names"] (defScope s_Web_init) := ⟨rfl, rfl, rfl, by decide +kernel, rfl, by decide +kernel, by decide +kernel⟩
theorem ok_Web_init {P : Program} {w : World} {K : PySem.W.Frag} {mg : Str → Option Value} {base : Heap} {f : Addr} {fd : FuncData} (T : Txt K mg) (F : FunD K "__init__" "Web.__init__" (defArgs s_Web_init) (defBody s_Web_init) (defScope s_Web_init) [] [] f fd)  :
    FnOk P w K mg base CX0 lv_Web_init f fd ["self", "names"] (spN K (g_Web_init (He.ga K "Web")) 2) ∧ Binds K fd ["self", "names"] [] := by
  refine ⟨fnd_ok (k := 0) (m := b_Web_init (He.ga K "Web")) F sc_Web_init (.keep rfl) (fun cdv A outer s H E hr => ?_), F.bindsN fun _ _ _ _ _ _ us hl => match us, hl with | [_, _], _ => rfl⟩
  have nd := sc_Web_init.nd
  have hu65 : (A.deeper (envOfC "Web.__init__" (defScope s_Web_init) s.heap.objs.size f cdv)).units + 65 < cLine := by have := hr.un; omega
  have hu64 : (A.deeper (envOfC "Web.__init__" (defScope s_Web_init) s.heap.objs.size f cdv)).units + 64 < cLine := by omega
  have hu1 : (A.deeper (envOfC "Web.__init__" (defScope s_Web_init) s.heap.objs.size f cdv)).units + 1 < cLine := by omega
  exact (bx_cons (sx_fld T.k_Web T.n_Web_ends (px_var 0) (px_bin op_addA o_add (px_lst (ax_cons px_non ax_nil)) (px_cty (call_list_dK rfl) o_listK rfl T.f_list (by decide +kernel) (ax_cons (px_var 1) ax_nil)))) (bx_one (sx_fld T.k_Web T.n_Web_rows (px_var 0) (px_lstN ax_nil))))
/-! Web.add -/
abbrev n_Web_add : List Str := ["self", "one", "other", "most", "number"]
noncomputable def b_Web_add (a_Web : Addr) : MS :=
    (dExpr (mLm fAppend (mFld a_Web "rows" (mVar 0)) [(mFn fTup [(mVar 1), (mVar 2), (mVar 3), (mVar 4)])]))
noncomputable def g_Web_add (a_Web : Addr) : Fn := fnCut 5 (b_Web_add a_Web)
abbrev lv_Web_add : Nat := 1
theorem sc_Web_add : FnScope n_Web_add ["self", "one", "other", "most", "number"] (defScope s_Web_add) := ⟨rfl, rfl, rfl, by decide +kernel, rfl, by decide +kernel, by decide +kernel⟩
theorem ok_Web_add {P : Program} {w : World} {K : PySem.W.Frag} {mg : Str → Option Value} {base : Heap} {f : Addr} {fd : FuncData} (T : Txt K mg) (F : FunD K "add" "Web.add" (defArgs s_Web_add) (defBody s_Web_add) (defScope s_Web_add) [] [] f fd)  :
    FnOk P w K mg base CX0 lv_Web_add f fd ["self", "one", "other", "most", "number"] (spN K (g_Web_add (He.ga K "Web")) 5) ∧ Binds K fd ["self", "one", "other", "most", "number"] [] := by
  refine ⟨fnd_ok (k := 0) (m := b_Web_add (He.ga K "Web")) F sc_Web_add (.cut rfl) (fun cdv A outer s H E hr => ?_), F.bindsN fun _ _ _ _ _ _ us hl => match us, hl with | [_, _, _, _, _], _ => rfl⟩
  have nd := sc_Web_add.nd
  have hu65 : (A.deeper (envOfC "Web.add" (defScope s_Web_add) s.heap.objs.size f cdv)).units + 65 < cLine := by have := hr.un; omega
  have hu64 : (A.deeper (envOfC "Web.add" (defScope s_Web_add) s.heap.objs.size f cdv)).units + 64 < cLine := by omega
  have hu1 : (A.deeper (envOfC "Web.add" (defScope s_Web_add) s.heap.objs.size f cdv)).units + 1 < cLine := by omega
  exact (bx_one (sx_expr (px_append (px_fld T.k_Web T.n_Web_rows (px_var 0)) (ax_cons (px_tup (ax_cons (px_var 1) (ax_cons (px_var 2) (ax_cons (px_var 3) (ax_cons (px_var 4) ax_nil))))) ax_nil))))
/-! Case.web -/
abbrev n_Case_web : List Str := ["self", "found", "name", "length", "least", "most", "number", "one", "other"]
noncomputable def b_Case_web (a_Case : Addr) (a_Web : Addr) : MS :=
    (dSeq (dSet 1 (mMake a_Web (g_Web_init a_Web) [(mFld a_Case "blocks" (mVar 0))]))
    (dSeq (dLock (pick (mFld a_Case "blocks" (mVar 0))) (dFor [(mFld a_Case "blocks" (mVar 0))] fKeys (aName 2) (dSeq (dAsg (aTup [3, 4, 5]) (mOp fIx (mFld a_Case "blocks" (mVar 0)) (mVar 2)))
    (dSeq (dExpr (mMeth a_Web "add" (g_Web_add a_Web) (mVar 1) [mNone, (mVar 2), (mVar 5), mNone]))
    (dExpr (mMeth a_Web "add" (g_Web_add a_Web) (mVar 1) [(mVar 2), mNone, (mOp fSub (mInt 0) (mVar 4)), mNone]))))))
    (dSeq (dFor [(mFn fSorted [(mFn fListK [(mFld a_Case "kept" (mVar 0))])])] fSeqL (aName 6) (dSeq (dAsg (aTup [7, 8, 4, 5]) (mOp fIx (mFld a_Case "kept" (mVar 0)) (mVar 6)))
    (dSeq (dExpr (mMeth a_Web "add" (g_Web_add a_Web) (mVar 1) [(mVar 8), (mVar 7), (mVar 5), (mVar 6)]))
    (dExpr (mMeth a_Web "add" (g_Web_add a_Web) (mVar 1) [(mVar 7), (mVar 8), (mOp fSub (mInt 0) (mVar 4)), (mVar 6)])))))
    (dRet (mVar 1)))))
noncomputable def g_Case_web (a_Case : Addr) (a_Web : Addr) : Fn := fnKeep 9 (b_Case_web a_Case a_Web)
abbrev lv_Case_web : Nat := 3
theorem sc_Case_web : FnScope n_Case_web ["self"] (defScope s_Case_web) := ⟨rfl, rfl, rfl, by decide +kernel, rfl, by decide +kernel, by decide +kernel⟩
theorem ok_Case_web {P : Program} {w : World} {K : PySem.W.Frag} {mg : Str → Option Value} {base : Heap} {f : Addr} {fd : FuncData} (T : Txt K mg) (F : FunD K "web" "Case.web" (defArgs s_Case_web) (defBody s_Case_web) (defScope s_Case_web) [] [] f fd) (M_Web : MkG P w K mg base (He.ga K "Web") "Web" lv_Web_init ["self", "names"] (g_Web_init (He.ga K "Web"))) (M_Web_add : MtG P w K mg base (He.ga K "Web") "add" lv_Web_add ["self", "one", "other", "most", "number"] (g_Web_add (He.ga K "Web"))) :
    FnOk P w K mg base CX0 lv_Case_web f fd ["self"] (spN K (g_Case_web (He.ga K "Case") (He.ga K "Web")) 1) ∧ Binds K fd ["self"] [] := by
  refine ⟨fnd_ok (k := 2) (m := b_Case_web (He.ga K "Case") (He.ga K "Web")) F sc_Case_web (.keep rfl) (fun cdv A outer s H E hr => ?_), F.bindsN fun _ _ _ _ _ _ us hl => match us, hl with | [_], _ => rfl⟩
  have nd := sc_Case_web.nd
  have hu65 : (A.deeper (envOfC "Case.web" (defScope s_Case_web) s.heap.objs.size f cdv)).units + 65 < cLine := by have := hr.un; omega
  have hu64 : (A.deeper (envOfC "Case.web" (defScope s_Case_web) s.heap.objs.size f cdv)).units + 64 < cLine := by omega
  have hu1 : (A.deeper (envOfC "Case.web" (defScope s_Case_web) s.heap.objs.size f cdv)).units + 1 < cLine := by omega
  exact (bx_cons (sx_set (i := 1) nd (px_make (k := lv_Web_init) M_Web hr (by decide) rfl rfl (ax_cons (px_fld T.k_Case T.n_Case_blocks (px_var 0)) ax_nil))) (bx_cons (sx_lock (pick (mFld (He.ga K "Case") "blocks" (mVar 0))) (sx_for PassesOwn.never rfl (ix_keys (px_fld T.k_Case T.n_Case_blocks (px_var 0))) (gx_name (i := 2) nd) (bx_cons (sx_asg (px_ix hu1 (px_fld T.k_Case T.n_Case_blocks (px_var 0)) (px_var 2)) (gx_tup rfl (nx_cons (i := 3) nd (nx_cons (i := 4) nd (nx_cons (i := 5) nd nx_nil))))) (bx_cons (sx_expr (px_meth (k := lv_Web_add) (pl := _) M_Web_add T.k_Web hr (by decide) rfl (px_var 1) (ax_cons px_non (ax_cons (px_var 2) (ax_cons (px_var 5) (ax_cons px_non ax_nil)))))) (bx_one (sx_expr (px_meth (k := lv_Web_add) (pl := _) M_Web_add T.k_Web hr (by decide) rfl (px_var 1) (ax_cons (px_var 2) (ax_cons px_non (ax_cons (px_bin op_sub o_sub px_int (px_var 4)) (ax_cons px_non ax_nil))))))))))) (bx_cons (sx_for PassesOwn.never rfl (ix_list (px_cb (cr_sortedD hu64) o_sorted rfl T.f_sorted (by decide +kernel) (ax_cons (px_cty (call_list_dK rfl) o_listK rfl T.f_list (by decide +kernel) (ax_cons (px_fld T.k_Case T.n_Case_kept (px_var 0)) ax_nil)) ax_nil))) (gx_name (i := 6) nd) (bx_cons (sx_asg (px_ix hu1 (px_fld T.k_Case T.n_Case_kept (px_var 0)) (px_var 6)) (gx_tup rfl (nx_cons (i := 7) nd (nx_cons (i := 8) nd (nx_cons (i := 4) nd (nx_cons (i := 5) nd nx_nil)))))) (bx_cons (sx_expr (px_meth (k := lv_Web_add) (pl := _) M_Web_add T.k_Web hr (by decide) rfl (px_var 1) (ax_cons (px_var 8) (ax_cons (px_var 7) (ax_cons (px_var 5) (ax_cons (px_var 6) ax_nil)))))) (bx_one (sx_expr (px_meth (k := lv_Web_add) (pl := _) M_Web_add T.k_Web hr (by decide) rfl (px_var 1) (ax_cons (px_var 7) (ax_cons (px_var 8) (ax_cons (px_bin op_sub o_sub px_int (px_var 4)) (ax_cons (px_var 6) ax_nil)))))))))) (bx_one (sx_ret (px_var 1))))))
/-! Web.spread -/
abbrev n_Web_spread : List Str := ["self", "begin", "least", "by", "turn", "row", "one", "other", "most", "number"]
noncomputable def b_Web_spread (z : PgW) (a_Web : Addr) : MS :=
    (dSeq (dSet 2 (mDispN z (mVar 1) (mInt 0)))
    (dSeq (dSet 3 (mDicN z))
    (dSeq (dFor [(mFn fLen [(mFld a_Web "ends" (mVar 0))])] fRng1 (aName 4) (dFor [(mFld a_Web "rows" (mVar 0))] fSeqL (aName 5) (dSeq (dAsg (aTup [6, 7, 8, 9]) (mVar 5))
    (dIf (mAnd (mOp (fInN z) (mVar 6) (mVar 2)) (mOr (mOp (fNotInN z) (mVar 7) (mVar 2)) (mOp fLt (mOp fAdd (mOp (fIxN z) (mVar 2) (mVar 6)) (mVar 8)) (mOp (fIxN z) (mVar 2) (mVar 7))))) (dSeq (dSetIxN z (mVar 2) (mVar 7) (mOp fAdd (mOp (fIxN z) (mVar 2) (mVar 6)) (mVar 8)))
    (dSetIxN z (mVar 3) (mVar 7) (mVar 5))) dNext))))
    (dRet (mFn fTup [(mVar 2), (mVar 3)])))))
noncomputable def g_Web_spread (z : PgW) (a_Web : Addr) : Fn := fnKeep 10 (b_Web_spread z a_Web)
abbrev lv_Web_spread : Nat := 1
theorem sc_Web_spread : FnScope n_Web_spread ["self", "begin"] (defScope s_Web_spread) := ⟨rfl, rfl, rfl, by decide +kernel, rfl, by decide +kernel, by decide +kernel⟩
theorem ok_Web_spread {P : Program} {w : World} {K : PySem.W.Frag} {mg : Str → Option Value} {base : Heap} {f : Addr} {fd : FuncData} (T : Txt K mg) (F : FunD K "spread" "Web.spread" (defArgs s_Web_spread) (defBody s_Web_spread) (defScope s_Web_spread) [] [] f fd)  :
    FnOk P w K mg base CX0 lv_Web_spread f fd ["self", "begin"] (spN K (g_Web_spread (P, w) (He.ga K "Web")) 2) ∧ Binds K fd ["self", "begin"] [] := by
  refine ⟨fnd_ok (k := 0) (m := b_Web_spread (P, w) (He.ga K "Web")) F sc_Web_spread (.keep rfl) (fun cdv A outer s H E hr => ?_), F.bindsN fun _ _ _ _ _ _ us hl => match us, hl with | [_, _], _ => rfl⟩
  have nd := sc_Web_spread.nd
  have hu65 : (A.deeper (envOfC "Web.spread" (defScope s_Web_spread) s.heap.objs.size f cdv)).units + 65 < cLine := by have := hr.un; omega
  have hu64 : (A.deeper (envOfC "Web.spread" (defScope s_Web_spread) s.heap.objs.size f cdv)).units + 64 < cLine := by omega
  have hu1 : (A.deeper (envOfC "Web.spread" (defScope s_Web_spread) s.heap.objs.size f cdv)).units + 1 < cLine := by omega
  exact (bx_cons (sx_set (i := 2) nd (px_dispN (px_var 1) px_int)) (bx_cons (sx_set (i := 3) nd px_dicN) (bx_cons (sx_for PassesOwn.never rfl (ix_rng1 rfl T.f_range (ax_cons (px_cb call_lenA o_len rfl T.f_len (by decide +kernel) (ax_cons (px_fld T.k_Web T.n_Web_ends (px_var 0)) ax_nil)) ax_nil)) (gx_name (i := 4) nd) (bx_one (sx_for PassesOwn.never rfl (ix_list (px_fld T.k_Web T.n_Web_rows (px_var 0))) (gx_name (i := 5) nd) (bx_cons (sx_asg (px_var 5) (gx_tup rfl (nx_cons (i := 6) nd (nx_cons (i := 7) nd (nx_cons (i := 8) nd (nx_cons (i := 9) nd nx_nil)))))) (bx_one (sx_if (WXx.tx (wx_and (tx_cmp op_inN o_inN (px_var 6) (px_var 2) (by with_unfolding_all rfl)) (wx_and1 (WXx.tx (wx_or (tx_cmp op_notInN o_notInN (px_var 7) (px_var 2) (by with_unfolding_all rfl)) (wx_or1 (tx_cmp op_lt o_B (px_bin op_addA o_add (px_ixN (px_var 2) (px_var 6)) (px_var 8)) (px_ixN (px_var 2) (px_var 7)) (nomark _)))))))) (bx_cons (sx_setIxN (px_bin op_addA o_add (px_ixN (px_var 2) (px_var 6)) (px_var 8)) (px_var 2) (px_var 7)) (bx_one (sx_setIxN (px_var 5) (px_var 3) (px_var 7)))) bx_nil)))))) (bx_one (sx_ret (px_tup (ax_cons (px_var 2) (ax_cons (px_var 3) ax_nil))))))))
/-! Web.way -/
abbrev n_Web_way : List Str := ["self", "begin", "goal", "by", "found"]
noncomputable def b_Web_way (z : PgW) (a_Web : Addr) : MS :=
    (dSeq (dSet 3 (mOp fIx (mMeth a_Web "spread" (g_Web_spread z a_Web) (mVar 0) [(mVar 1)]) (mInt 1)))
    (dSeq (dSet 4 (mFn fLstN []))
    (dSeq (dWhile (mOp fNe (mVar 2) (mVar 1)) (dSeq (dExpr (mLm fAppend (mVar 4) [(mOp (fIxN z) (mVar 3) (mVar 2))]))
    (dSet 2 (mOp fIx (mOp (fIxN z) (mVar 3) (mVar 2)) (mInt 0)))))
    (dRet (mOp1 fListRev (mVar 4))))))
noncomputable def g_Web_way (z : PgW) (a_Web : Addr) : Fn := fnCut 5 (b_Web_way z a_Web)
abbrev lv_Web_way : Nat := 2
theorem sc_Web_way : FnScope n_Web_way ["self", "begin", "goal"] (defScope s_Web_way) := ⟨rfl, rfl, rfl, by decide +kernel, rfl, by decide +kernel, by decide +kernel⟩
theorem ok_Web_way {P : Program} {w : World} {K : PySem.W.Frag} {mg : Str → Option Value} {base : Heap} {f : Addr} {fd : FuncData} (T : Txt K mg) (F : FunD K "way" "Web.way" (defArgs s_Web_way) (defBody s_Web_way) (defScope s_Web_way) [] [] f fd) (M_Web_spread : MtG P w K mg base (He.ga K "Web") "spread" lv_Web_spread ["self", "begin"] (g_Web_spread (P, w) (He.ga K "Web"))) :
    FnOk P w K mg base CX0 lv_Web_way f fd ["self", "begin", "goal"] (spN K (g_Web_way (P, w) (He.ga K "Web")) 3) ∧ Binds K fd ["self", "begin", "goal"] [] := by
  refine ⟨fnd_ok (k := 1) (m := b_Web_way (P, w) (He.ga K "Web")) F sc_Web_way (.cut rfl) (fun cdv A outer s H E hr => ?_), F.bindsN fun _ _ _ _ _ _ us hl => match us, hl with | [_, _, _], _ => rfl⟩
  have nd := sc_Web_way.nd
  have hu65 : (A.deeper (envOfC "Web.way" (defScope s_Web_way) s.heap.objs.size f cdv)).units + 65 < cLine := by have := hr.un; omega
  have hu64 : (A.deeper (envOfC "Web.way" (defScope s_Web_way) s.heap.objs.size f cdv)).units + 64 < cLine := by omega
  have hu1 : (A.deeper (envOfC "Web.way" (defScope s_Web_way) s.heap.objs.size f cdv)).units + 1 < cLine := by omega
  exact (bx_cons (sx_set (i := 3) nd (px_ix hu1 (px_meth (k := lv_Web_spread) (pl := _) M_Web_spread T.k_Web hr (by decide) rfl (px_var 0) (ax_cons (px_var 1) ax_nil)) px_int)) (bx_cons (sx_set (i := 4) nd (px_lstN ax_nil)) (bx_cons (sx_whileC PassesOwn.never (tx_cmp (op_neD hu64) o_ne (px_var 2) (px_var 1) (nomark _)) (bx_cons (sx_expr (px_append (px_var 4) (ax_cons (px_ixN (px_var 3) (px_var 2)) ax_nil))) (bx_one (sx_set (i := 2) nd (px_ix hu1 (px_ixN (px_var 3) (px_var 2)) px_int))))) (bx_one (sx_ret (px_listRev rfl rfl T.f_list rfl T.f_reversed (px_var 4)))))))
/-! Case.bar -/
abbrev n_Case_bar : List Str := ["self", "one", "other", "least", "most", "web", "begin", "goal", "over", "row"]
noncomputable def b_Case_bar (z : PgW) (a_Case : Addr) (a_Web : Addr) : MS :=
    (dSeq (dSet 5 (mMeth a_Case "web" (g_Case_web a_Case a_Web) (mVar 0) []))
    (dSeq (dFor [(mFn fLst [(mFn fTup [(mVar 1), (mVar 2), (mVar 4)]), (mFn fTup [(mVar 2), (mVar 1), (mOp fSub (mInt 0) (mVar 3))])])] fSeqL (aTup [6, 7, 8]) (dIf (mOp fLt (mOp fAdd (mOp (fIxN z) (mOp fIx (mMeth a_Web "spread" (g_Web_spread z a_Web) (mVar 5) [(mVar 6)]) (mInt 0)) (mVar 7)) (mVar 8)) (mInt 0)) (dRet (mLc [(mMeth a_Web "way" (g_Web_way z a_Web) (mVar 5) [(mVar 6), (mVar 7)])] fSeqL (aName 9) (some (mOp fIsNot (mOp fIx (mVar 9) (mInt 3)) mNone)) (mOp fIx (mVar 9) (mInt 3)) [9])) dNext))
    (dRet mNone)))
noncomputable def g_Case_bar (z : PgW) (a_Case : Addr) (a_Web : Addr) : Fn := fnCut 10 (b_Case_bar z a_Case a_Web)
abbrev lv_Case_bar : Nat := 4
theorem sc_Case_bar : FnScope n_Case_bar ["self", "one", "other", "least", "most"] (defScope s_Case_bar) := ⟨rfl, rfl, rfl, by decide +kernel, rfl, by decide +kernel, by decide +kernel⟩
theorem ok_Case_bar {P : Program} {w : World} {K : PySem.W.Frag} {mg : Str → Option Value} {base : Heap} {f : Addr} {fd : FuncData} (T : Txt K mg) (F : FunD K "bar" "Case.bar" (defArgs s_Case_bar) (defBody s_Case_bar) (defScope s_Case_bar) [] [] f fd) (M_Case_web : MtG P w K mg base (He.ga K "Case") "web" lv_Case_web ["self"] (g_Case_web (He.ga K "Case") (He.ga K "Web"))) (M_Web_spread : MtG P w K mg base (He.ga K "Web") "spread" lv_Web_spread ["self", "begin"] (g_Web_spread (P, w) (He.ga K "Web"))) (M_Web_way : MtG P w K mg base (He.ga K "Web") "way" lv_Web_way ["self", "begin", "goal"] (g_Web_way (P, w) (He.ga K "Web"))) :
    FnOk P w K mg base CX0 lv_Case_bar f fd ["self", "one", "other", "least", "most"] (spN K (g_Case_bar (P, w) (He.ga K "Case") (He.ga K "Web")) 5) ∧ Binds K fd ["self", "one", "other", "least", "most"] [] := by
  refine ⟨fnd_ok (k := 3) (m := b_Case_bar (P, w) (He.ga K "Case") (He.ga K "Web")) F sc_Case_bar (.cut rfl) (fun cdv A outer s H E hr => ?_), F.bindsN fun _ _ _ _ _ _ us hl => match us, hl with | [_, _, _, _, _], _ => rfl⟩
  have nd := sc_Case_bar.nd
  have hu65 : (A.deeper (envOfC "Case.bar" (defScope s_Case_bar) s.heap.objs.size f cdv)).units + 65 < cLine := by have := hr.un; omega
  have hu64 : (A.deeper (envOfC "Case.bar" (defScope s_Case_bar) s.heap.objs.size f cdv)).units + 64 < cLine := by omega
  have hu1 : (A.deeper (envOfC "Case.bar" (defScope s_Case_bar) s.heap.objs.size f cdv)).units + 1 < cLine := by omega
  exact (bx_cons (sx_set (i := 5) nd (px_meth0 (k := lv_Case_web) (pl := _) M_Case_web T.k_Case hr (by decide) rfl (px_var 0))) (bx_cons (sx_for PassesOwn.never rfl (ix_list (px_lst (ax_cons (px_tup (ax_cons (px_var 1) (ax_cons (px_var 2) (ax_cons (px_var 4) ax_nil)))) (ax_cons (px_tup (ax_cons (px_var 2) (ax_cons (px_var 1) (ax_cons (px_bin op_sub o_sub px_int (px_var 3)) ax_nil)))) ax_nil)))) (gx_tup rfl (nx_cons (i := 6) nd (nx_cons (i := 7) nd (nx_cons (i := 8) nd nx_nil)))) (bx_one (sx_if (tx_cmp op_lt o_B (px_bin op_addA o_add (px_ixN (px_ix hu1 (px_meth (k := lv_Web_spread) (pl := _) M_Web_spread T.k_Web hr (by decide) rfl (px_var 5) (ax_cons (px_var 6) ax_nil)) px_int) (px_var 7)) (px_var 8)) px_int (nomark _)) (bx_one (sx_ret (px_lc (own := [("row", 9)]) rfl nd (ix_list (px_meth (k := lv_Web_way) (pl := _) M_Web_way T.k_Web hr (by decide) rfl (px_var 5) (ax_cons (px_var 6) (ax_cons (px_var 7) ax_nil)))) (blkOk_by (own := [("row", 9)]) (N := n_Case_bar) (sc := defScope s_Case_bar) (by decide +kernel)) (fun _ _ _ _ _ => (gx_name (i := 9) nd)) (fun _ _ _ _ _ => (txs_one (tx_cmp op_notN o_isNot (px_ix hu1 (px_var 9) px_int) px_non (nomark _)))) (fun _ _ _ _ _ => (px_ix hu1 (px_var 9) px_int))))) bx_nil))) (bx_one (sx_ret px_non))))
/-! Ring.__init__ -/
abbrev n_Ring_init : List Str := ["self", "row"]
abbrev lv_Ring_init : Nat := 1
theorem sc_Ring_init : FnScope n_Ring_init ["self", "row"] (defScope s_Ring_init) := ⟨rfl, rfl, rfl, by decide +kernel, rfl, by decide +kernel, by decide +kernel⟩
theorem ok_Ring_init {P : Program} {w : World} {K : PySem.W.Frag} {mg : Str → Option Value} {base : Heap} {f : Addr} {fd : FuncData} (T : Txt K mg) (F : FunD K "__init__" "Ring.__init__" (defArgs s_Ring_init) (defBody s_Ring_init) (defScope s_Ring_init) [] [] f fd) :
    FnOk P w K mg base CX0 lv_Ring_init f fd ["self", "row"] (spI K "row" 2 preL) ∧ Binds K fd ["self", "row"] [] := by
  refine ⟨?_, F.bindsN fun _ _ _ _ _ _ us hl => match us, hl with | [_, _], _ => rfl⟩
  refine F.ok sc_Ring_init (fun vs H Q E h => h.1) (fun cdv A outer s H vs Q E hr h => ?_)
  obtain ⟨hl, a, C, y, rfl, T', no, ha, hpre, q⟩ := h
  refine ⟨_, pss_cons (ps_expr (pe_baseI T.b_WringError rfl (pa_cons (pv 0) (pa_cons (pe_callB call_len rfl T.f_len (by decide +kernel) (pa_cons (pv 1) pa_nil)) pa_nil)))) (pss_one (ps_ost (pv 0) (pv 1))), ?_⟩
  obtain ⟨p, xs, rfl, hs⟩ := hpre
  exact ⟨.ref a, rfl, .ref p, rfl, .ref p, xs.length, rfl, .inl ⟨xs, hs, rfl⟩, a, C, [.int xs.length], rfl, Nat.le_of_ble_eq_true rfl, T', ha, .ref p, rfl, .ref a, rfl, a, C, rfl, T', no, .inl ⟨ha, q⟩⟩
/-! Case.liken -/
abbrev n_Case_liken : List Str := ["self", "one", "other", "least", "most", "row"]
noncomputable def b_Case_liken (z : PgW) (a_Case : Addr) (a_Web : Addr) : MS :=
    (dSeq (dExpr (mMethX a_Case "need_block" (g_Case_need_block a_Case) (mVar 0) [(mVar 1)]))
    (dSeq (dExpr (mMethX a_Case "need_block" (g_Case_need_block a_Case) (mVar 0) [(mVar 2)]))
    (dSeq (dIf (mOp fEq (mVar 1) (mVar 2)) (dRaise "NoBlock") dNext)
    (dSeq (dIf (mNot (mCh3 fLe fLe fLe (mOp fSub (mInt 0) (mInt 999)) (mVar 3) (mVar 4) (mInt 999))) (dRaise "BadLikening") dNext)
    (dSeq (dIf (mOp fEq (mFn fLen [(mFld a_Case "kept" (mVar 0))]) (mInt 30)) (dRaise "Full") dNext)
    (dSeq (dSet 5 (mMeth a_Case "bar" (g_Case_bar z a_Case a_Web) (mVar 0) [(mVar 1), (mVar 2), (mVar 3), (mVar 4)]))
    (dSeq (dIf (mOp fIsNot (mVar 5) mNone) (dRaiseI "Ring" "row" isL (mVar 5)) dNext)
    (dSeq (dSetFld a_Case "given" (mVar 0) (mOp fAdd (mFld a_Case "given" (mVar 0)) (mInt 1)))
    (dSeq (dSetIx (mFld a_Case "kept" (mVar 0)) (mOp fSub (mFld a_Case "given" (mVar 0)) (mInt 1)) (mFn fTup [(mVar 1), (mVar 2), (mVar 3), (mVar 4)]))
    (dRet (mOp fSub (mFld a_Case "given" (mVar 0)) (mInt 1))))))))))))
noncomputable def g_Case_liken (z : PgW) (a_Case : Addr) (a_Web : Addr) : FnX := fnCutX 6 (b_Case_liken z a_Case a_Web)
abbrev lv_Case_liken : Nat := 5
theorem sc_Case_liken : FnScope n_Case_liken ["self", "one", "other", "least", "most"] (defScope s_Case_liken) := ⟨rfl, rfl, rfl, by decide +kernel, rfl, by decide +kernel, by decide +kernel⟩
theorem ok_Case_liken {P : Program} {w : World} {K : PySem.W.Frag} {mg : Str → Option Value} {base : Heap} {f : Addr} {fd : FuncData} (T : Txt K mg) (F : FunD K "liken" "Case.liken" (defArgs s_Case_liken) (defBody s_Case_liken) (defScope s_Case_liken) [] [] f fd) (M_Case_need_block : MtGX P w K mg base (He.ga K "Case") "need_block" lv_Case_need_block ["self", "name"] (g_Case_need_block (He.ga K "Case"))) (M_Case_bar : MtG P w K mg base (He.ga K "Case") "bar" lv_Case_bar ["self", "one", "other", "least", "most"] (g_Case_bar (P, w) (He.ga K "Case") (He.ga K "Web"))) (X_Ring : ExI P w K mg base "Ring" "row" lv_Ring_init preL) :
    FnOk P w K mg base (L2.CX P w) lv_Case_liken f fd ["self", "one", "other", "least", "most"] (spX K (g_Case_liken (P, w) (He.ga K "Case") (He.ga K "Web")) 5) ∧ Binds K fd ["self", "one", "other", "least", "most"] [] := by
  refine ⟨fnx_ok (k := 4) (m := b_Case_liken (P, w) (He.ga K "Case") (He.ga K "Web")) F sc_Case_liken (.cut rfl) (fun cdv A outer s H E hr tk hp => ?_), F.bindsN fun _ _ _ _ _ _ us hl => match us, hl with | [_, _, _, _, _], _ => rfl⟩
  have nd := sc_Case_liken.nd
  have hu65 : (A.deeper (envOfC "Case.liken" (defScope s_Case_liken) s.heap.objs.size f cdv)).units + 65 < cLine := by have := hr.un; omega
  have hu64 : (A.deeper (envOfC "Case.liken" (defScope s_Case_liken) s.heap.objs.size f cdv)).units + 64 < cLine := by omega
  have hu1 : (A.deeper (envOfC "Case.liken" (defScope s_Case_liken) s.heap.objs.size f cdv)).units + 1 < cLine := by omega
  exact (bx_cons (sx_expr (px_methX (k := lv_Case_need_block) (pl := _) tk M_Case_need_block T.k_Case hr (by decide) rfl (px_var 0) (ax_cons (px_var 1) ax_nil))) (bx_cons (sx_expr (px_methX (k := lv_Case_need_block) (pl := _) tk M_Case_need_block T.k_Case hr (by decide) rfl (px_var 0) (ax_cons (px_var 2) ax_nil))) (bx_cons (sx_if (tx_cmp (op_eqD hu64) o_eq (px_var 1) (px_var 2) (nomark _)) (bx_one (sx_raise rfl tk T.e_NoBlock rfl)) bx_nil) (bx_cons (sx_if (tx_not (tx_ch3 op_le o_B op_le o_B op_le o_B (px_bin op_sub o_sub px_int (px_gint rfl T.c_MOST_LIKENED)) (px_var 3) (px_var 4) (px_gint rfl T.c_MOST_LIKENED))) (bx_one (sx_raise rfl tk T.e_BadLikening rfl)) bx_nil) (bx_cons (sx_if (tx_cmp (op_eqD hu64) o_eq (px_cb call_lenA o_len rfl T.f_len (by decide +kernel) (ax_cons (px_fld T.k_Case T.n_Case_kept (px_var 0)) ax_nil)) (px_gint rfl T.c_MOST_LIKENINGS) (nomark _)) (bx_one (sx_raise rfl tk T.e_Full rfl)) bx_nil) (bx_cons (sx_set (i := 5) nd (px_meth (k := lv_Case_bar) (pl := _) M_Case_bar T.k_Case hr (by decide) rfl (px_var 0) (ax_cons (px_var 1) (ax_cons (px_var 2) (ax_cons (px_var 3) (ax_cons (px_var 4) ax_nil)))))) (bx_cons (sx_if (tx_cmp op_notN o_isNot (px_var 5) px_non (nomark _)) (bx_one (sx_raiseI rfl tk X_Ring preL_ok hr (by decide) (px_var 5) rfl)) bx_nil) (bx_cons (sx_fld T.k_Case T.n_Case_given (px_var 0) (px_bin op_addA o_add (px_fld T.k_Case T.n_Case_given (px_var 0)) px_int)) (bx_cons (sx_setIx hu1 (px_tup (ax_cons (px_var 1) (ax_cons (px_var 2) (ax_cons (px_var 3) (ax_cons (px_var 4) ax_nil))))) (px_fld T.k_Case T.n_Case_kept (px_var 0)) (px_bin op_sub o_sub (px_fld T.k_Case T.n_Case_given (px_var 0)) px_int)) (bx_one (sx_ret (px_bin op_sub o_sub (px_fld T.k_Case T.n_Case_given (px_var 0)) px_int))))))))))))
/-! Case.drop -/
abbrev n_Case_drop : List Str := ["self", "number"]
noncomputable def b_Case_drop (a_Case : Addr) : MS :=
    (dSeq (dIf (mOp fNotIn (mVar 1) (mFld a_Case "kept" (mVar 0))) (dRaise "NoLikening") dNext)
    (dExpr (mDPop (mFld a_Case "kept" (mVar 0)) (mVar 1))))
noncomputable def g_Case_drop (a_Case : Addr) : FnX := fnCutX 2 (b_Case_drop a_Case)
abbrev lv_Case_drop : Nat := 1
theorem sc_Case_drop : FnScope n_Case_drop ["self", "number"] (defScope s_Case_drop) := ⟨rfl, rfl, rfl, by decide +kernel, rfl, by decide +kernel, by decide +kernel⟩
theorem ok_Case_drop {P : Program} {w : World} {K : PySem.W.Frag} {mg : Str → Option Value} {base : Heap} {f : Addr} {fd : FuncData} (T : Txt K mg) (F : FunD K "drop" "Case.drop" (defArgs s_Case_drop) (defBody s_Case_drop) (defScope s_Case_drop) [] [] f fd)  :
    FnOk P w K mg base (L2.CX P w) lv_Case_drop f fd ["self", "number"] (spX K (g_Case_drop (He.ga K "Case")) 2) ∧ Binds K fd ["self", "number"] [] := by
  refine ⟨fnx_ok (k := 0) (m := b_Case_drop (He.ga K "Case")) F sc_Case_drop (.cut rfl) (fun cdv A outer s H E hr tk hp => ?_), F.bindsN fun _ _ _ _ _ _ us hl => match us, hl with | [_, _], _ => rfl⟩
  have nd := sc_Case_drop.nd
  have hu65 : (A.deeper (envOfC "Case.drop" (defScope s_Case_drop) s.heap.objs.size f cdv)).units + 65 < cLine := by have := hr.un; omega
  have hu64 : (A.deeper (envOfC "Case.drop" (defScope s_Case_drop) s.heap.objs.size f cdv)).units + 64 < cLine := by omega
  have hu1 : (A.deeper (envOfC "Case.drop" (defScope s_Case_drop) s.heap.objs.size f cdv)).units + 1 < cLine := by omega
  exact (bx_cons (sx_if (tx_cmp (op_notInX hu65) o_notIn (px_var 1) (px_fld T.k_Case T.n_Case_kept (px_var 0)) (by with_unfolding_all rfl)) (bx_one (sx_raise rfl tk T.e_NoLikening rfl)) bx_nil) (bx_one (sx_expr (px_dpop (px_fld T.k_Case T.n_Case_kept (px_var 0)) (px_var 1)))))
/-! Case.off -/
abbrev n_Case_off : List Str := ["self", "name", "web"]
noncomputable def b_Case_off (z : PgW) (a_Case : Addr) (a_Web : Addr) : MS :=
    (dSeq (dExpr (mMethX a_Case "need_block" (g_Case_need_block a_Case) (mVar 0) [(mVar 1)]))
    (dSeq (dSet 2 (mMeth a_Case "web" (g_Case_web a_Case a_Web) (mVar 0) []))
    (dRet (mFn fTup [(mOp fSub (mInt 0) (mOp (fIxN z) (mOp fIx (mMeth a_Web "spread" (g_Web_spread z a_Web) (mVar 2) [(mVar 1)]) (mInt 0)) mNone)), (mOp (fIxN z) (mOp fIx (mMeth a_Web "spread" (g_Web_spread z a_Web) (mVar 2) [mNone]) (mInt 0)) (mVar 1))]))))
noncomputable def g_Case_off (z : PgW) (a_Case : Addr) (a_Web : Addr) : FnX := fnCutX 3 (b_Case_off z a_Case a_Web)
abbrev lv_Case_off : Nat := 4
theorem sc_Case_off : FnScope n_Case_off ["self", "name"] (defScope s_Case_off) := ⟨rfl, rfl, rfl, by decide +kernel, rfl, by decide +kernel, by decide +kernel⟩
theorem ok_Case_off {P : Program} {w : World} {K : PySem.W.Frag} {mg : Str → Option Value} {base : Heap} {f : Addr} {fd : FuncData} (T : Txt K mg) (F : FunD K "off" "Case.off" (defArgs s_Case_off) (defBody s_Case_off) (defScope s_Case_off) [] [] f fd) (M_Case_need_block : MtGX P w K mg base (He.ga K "Case") "need_block" lv_Case_need_block ["self", "name"] (g_Case_need_block (He.ga K "Case"))) (M_Case_web : MtG P w K mg base (He.ga K "Case") "web" lv_Case_web ["self"] (g_Case_web (He.ga K "Case") (He.ga K "Web"))) (M_Web_spread : MtG P w K mg base (He.ga K "Web") "spread" lv_Web_spread ["self", "begin"] (g_Web_spread (P, w) (He.ga K "Web"))) :
    FnOk P w K mg base (L2.CX P w) lv_Case_off f fd ["self", "name"] (spX K (g_Case_off (P, w) (He.ga K "Case") (He.ga K "Web")) 2) ∧ Binds K fd ["self", "name"] [] := by
  refine ⟨fnx_ok (k := 3) (m := b_Case_off (P, w) (He.ga K "Case") (He.ga K "Web")) F sc_Case_off (.cut rfl) (fun cdv A outer s H E hr tk hp => ?_), F.bindsN fun _ _ _ _ _ _ us hl => match us, hl with | [_, _], _ => rfl⟩
  have nd := sc_Case_off.nd
  have hu65 : (A.deeper (envOfC "Case.off" (defScope s_Case_off) s.heap.objs.size f cdv)).units + 65 < cLine := by have := hr.un; omega
  have hu64 : (A.deeper (envOfC "Case.off" (defScope s_Case_off) s.heap.objs.size f cdv)).units + 64 < cLine := by omega
  have hu1 : (A.deeper (envOfC "Case.off" (defScope s_Case_off) s.heap.objs.size f cdv)).units + 1 < cLine := by omega
  exact (bx_cons (sx_expr (px_methX (k := lv_Case_need_block) (pl := _) tk M_Case_need_block T.k_Case hr (by decide) rfl (px_var 0) (ax_cons (px_var 1) ax_nil))) (bx_cons (sx_set (i := 2) nd (px_meth0 (k := lv_Case_web) (pl := _) M_Case_web T.k_Case hr (by decide) rfl (px_var 0))) (bx_one (sx_ret (px_tup (ax_cons (px_bin op_sub o_sub px_int (px_ixN (px_ix hu1 (px_meth (k := lv_Web_spread) (pl := _) M_Web_spread T.k_Web hr (by decide) rfl (px_var 2) (ax_cons (px_var 1) ax_nil)) px_int) px_non)) (ax_cons (px_ixN (px_ix hu1 (px_meth (k := lv_Web_spread) (pl := _) M_Web_spread T.k_Web hr (by decide) rfl (px_var 2) (ax_cons px_non ax_nil)) px_int) (px_var 1)) ax_nil)))))))
/-! Case.why_most -/
abbrev n_Case_why_most : List Str := ["self", "name"]
noncomputable def b_Case_why_most (z : PgW) (a_Case : Addr) (a_Web : Addr) : MS :=
    (dSeq (dExpr (mMethX a_Case "need_block" (g_Case_need_block a_Case) (mVar 0) [(mVar 1)]))
    (dRet (mMeth a_Web "way" (g_Web_way z a_Web) (mMeth a_Case "web" (g_Case_web a_Case a_Web) (mVar 0) []) [mNone, (mVar 1)])))
noncomputable def g_Case_why_most (z : PgW) (a_Case : Addr) (a_Web : Addr) : FnX := fnCutX 2 (b_Case_why_most z a_Case a_Web)
abbrev lv_Case_why_most : Nat := 4
theorem sc_Case_why_most : FnScope n_Case_why_most ["self", "name"] (defScope s_Case_why_most) := ⟨rfl, rfl, rfl, by decide +kernel, rfl, by decide +kernel, by decide +kernel⟩
theorem ok_Case_why_most {P : Program} {w : World} {K : PySem.W.Frag} {mg : Str → Option Value} {base : Heap} {f : Addr} {fd : FuncData} (T : Txt K mg) (F : FunD K "why_most" "Case.why_most" (defArgs s_Case_why_most) (defBody s_Case_why_most) (defScope s_Case_why_most) [] [] f fd) (M_Case_need_block : MtGX P w K mg base (He.ga K "Case") "need_block" lv_Case_need_block ["self", "name"] (g_Case_need_block (He.ga K "Case"))) (M_Case_web : MtG P w K mg base (He.ga K "Case") "web" lv_Case_web ["self"] (g_Case_web (He.ga K "Case") (He.ga K "Web"))) (M_Web_way : MtG P w K mg base (He.ga K "Web") "way" lv_Web_way ["self", "begin", "goal"] (g_Web_way (P, w) (He.ga K "Web"))) :
    FnOk P w K mg base (L2.CX P w) lv_Case_why_most f fd ["self", "name"] (spX K (g_Case_why_most (P, w) (He.ga K "Case") (He.ga K "Web")) 2) ∧ Binds K fd ["self", "name"] [] := by
  refine ⟨fnx_ok (k := 3) (m := b_Case_why_most (P, w) (He.ga K "Case") (He.ga K "Web")) F sc_Case_why_most (.cut rfl) (fun cdv A outer s H E hr tk hp => ?_), F.bindsN fun _ _ _ _ _ _ us hl => match us, hl with | [_, _], _ => rfl⟩
  have nd := sc_Case_why_most.nd
  have hu65 : (A.deeper (envOfC "Case.why_most" (defScope s_Case_why_most) s.heap.objs.size f cdv)).units + 65 < cLine := by have := hr.un; omega
  have hu64 : (A.deeper (envOfC "Case.why_most" (defScope s_Case_why_most) s.heap.objs.size f cdv)).units + 64 < cLine := by omega
  have hu1 : (A.deeper (envOfC "Case.why_most" (defScope s_Case_why_most) s.heap.objs.size f cdv)).units + 1 < cLine := by omega
  exact (bx_cons (sx_expr (px_methX (k := lv_Case_need_block) (pl := _) tk M_Case_need_block T.k_Case hr (by decide) rfl (px_var 0) (ax_cons (px_var 1) ax_nil))) (bx_one (sx_ret (px_meth (k := lv_Web_way) (pl := _) M_Web_way T.k_Web hr (by decide) rfl (px_meth0 (k := lv_Case_web) (pl := _) M_Case_web T.k_Case hr (by decide) rfl (px_var 0)) (ax_cons px_non (ax_cons (px_var 1) ax_nil))))))
/-! Case.why_least -/
abbrev n_Case_why_least : List Str := ["self", "name"]
noncomputable def b_Case_why_least (z : PgW) (a_Case : Addr) (a_Web : Addr) : MS :=
    (dSeq (dExpr (mMethX a_Case "need_block" (g_Case_need_block a_Case) (mVar 0) [(mVar 1)]))
    (dRet (mMeth a_Web "way" (g_Web_way z a_Web) (mMeth a_Case "web" (g_Case_web a_Case a_Web) (mVar 0) []) [(mVar 1), mNone])))
noncomputable def g_Case_why_least (z : PgW) (a_Case : Addr) (a_Web : Addr) : FnX := fnCutX 2 (b_Case_why_least z a_Case a_Web)
abbrev lv_Case_why_least : Nat := 4
theorem sc_Case_why_least : FnScope n_Case_why_least ["self", "name"] (defScope s_Case_why_least) := ⟨rfl, rfl, rfl, by decide +kernel, rfl, by decide +kernel, by decide +kernel⟩
theorem ok_Case_why_least {P : Program} {w : World} {K : PySem.W.Frag} {mg : Str → Option Value} {base : Heap} {f : Addr} {fd : FuncData} (T : Txt K mg) (F : FunD K "why_least" "Case.why_least" (defArgs s_Case_why_least) (defBody s_Case_why_least) (defScope s_Case_why_least) [] [] f fd) (M_Case_need_block : MtGX P w K mg base (He.ga K "Case") "need_block" lv_Case_need_block ["self", "name"] (g_Case_need_block (He.ga K "Case"))) (M_Case_web : MtG P w K mg base (He.ga K "Case") "web" lv_Case_web ["self"] (g_Case_web (He.ga K "Case") (He.ga K "Web"))) (M_Web_way : MtG P w K mg base (He.ga K "Web") "way" lv_Web_way ["self", "begin", "goal"] (g_Web_way (P, w) (He.ga K "Web"))) :
    FnOk P w K mg base (L2.CX P w) lv_Case_why_least f fd ["self", "name"] (spX K (g_Case_why_least (P, w) (He.ga K "Case") (He.ga K "Web")) 2) ∧ Binds K fd ["self", "name"] [] := by
  refine ⟨fnx_ok (k := 3) (m := b_Case_why_least (P, w) (He.ga K "Case") (He.ga K "Web")) F sc_Case_why_least (.cut rfl) (fun cdv A outer s H E hr tk hp => ?_), F.bindsN fun _ _ _ _ _ _ us hl => match us, hl with | [_, _], _ => rfl⟩
  have nd := sc_Case_why_least.nd
  have hu65 : (A.deeper (envOfC "Case.why_least" (defScope s_Case_why_least) s.heap.objs.size f cdv)).units + 65 < cLine := by have := hr.un; omega
  have hu64 : (A.deeper (envOfC "Case.why_least" (defScope s_Case_why_least) s.heap.objs.size f cdv)).units + 64 < cLine := by omega
  have hu1 : (A.deeper (envOfC "Case.why_least" (defScope s_Case_why_least) s.heap.objs.size f cdv)).units + 1 < cLine := by omega
  exact (bx_cons (sx_expr (px_methX (k := lv_Case_need_block) (pl := _) tk M_Case_need_block T.k_Case hr (by decide) rfl (px_var 0) (ax_cons (px_var 1) ax_nil))) (bx_one (sx_ret (px_meth (k := lv_Web_way) (pl := _) M_Web_way T.k_Web hr (by decide) rfl (px_meth0 (k := lv_Case_web) (pl := _) M_Case_web T.k_Case hr (by decide) rfl (px_var 0)) (ax_cons (px_var 1) (ax_cons px_non ax_nil))))))
/-! _law_asked -/
abbrev n__law_asked : List Str := ["_law_case", "_law_way", "_law_one", "_law_other", "_law_least", "_law_most", "_law_e"]
noncomputable def b__law_asked (z : PgW) (a_Case : Addr) (a_Web : Addr) : MS :=
    (dSeq (dTryE (dIf (mOp fEq (mVar 1) (mInt 0)) (dExpr (mMethX a_Case "liken" (g_Case_liken z a_Case a_Web) (mVar 0) [(mVar 2), (mVar 3), (mVar 4), (mVar 5)])) (dIf (mOp fEq (mVar 1) (mInt 1)) (dExpr (mMethX a_Case "drop" (g_Case_drop a_Case) (mVar 0) [(mVar 4)])) (dIf (mOp fEq (mVar 1) (mInt 2)) (dExpr (mMethX a_Case "off" (g_Case_off z a_Case a_Web) (mVar 0) [(mVar 2)])) (dIf (mOp fEq (mVar 1) (mInt 3)) (dExpr (mMethX a_Case "why_most" (g_Case_why_most z a_Case a_Web) (mVar 0) [(mVar 2)])) (dExpr (mMethX a_Case "why_least" (g_Case_why_least z a_Case a_Web) (mVar 0) [(mVar 2)])))))) (⟨["NoBlock", "BadLikening", "Full", "Ring", "NoLikening"], [], 6, (dRet (mCall g__law_word_of [(mVar 6)]))⟩ :: []))
    (dRet (mStr "")))
noncomputable def g__law_asked (z : PgW) (a_Case : Addr) (a_Web : Addr) : Fn := fnCut 7 (b__law_asked z a_Case a_Web)
abbrev lv__law_asked : Nat := 6
theorem sc__law_asked : FnScope n__law_asked ["_law_case", "_law_way", "_law_one", "_law_other", "_law_least", "_law_most"] (defScope s__law_asked) := ⟨rfl, rfl, rfl, by decide +kernel, rfl, by decide +kernel, by decide +kernel⟩
theorem ok__law_asked {P : Program} {w : World} {K : PySem.W.Frag} {mg : Str → Option Value} {base : Heap} {f : Addr} {fd : FuncData} (T : Txt K mg) (F : FunD K "_law_asked" "_law_asked" (defArgs s__law_asked) (defBody s__law_asked) (defScope s__law_asked) [] [] f fd) (G__law_word_of : FnGC P w K mg base "_law_word_of" lv__law_word_of ["_law_e"] (g__law_word_of)) (M_Case_liken : MtGX P w K mg base (He.ga K "Case") "liken" lv_Case_liken ["self", "one", "other", "least", "most"] (g_Case_liken (P, w) (He.ga K "Case") (He.ga K "Web"))) (M_Case_drop : MtGX P w K mg base (He.ga K "Case") "drop" lv_Case_drop ["self", "number"] (g_Case_drop (He.ga K "Case"))) (M_Case_off : MtGX P w K mg base (He.ga K "Case") "off" lv_Case_off ["self", "name"] (g_Case_off (P, w) (He.ga K "Case") (He.ga K "Web"))) (M_Case_why_most : MtGX P w K mg base (He.ga K "Case") "why_most" lv_Case_why_most ["self", "name"] (g_Case_why_most (P, w) (He.ga K "Case") (He.ga K "Web"))) (M_Case_why_least : MtGX P w K mg base (He.ga K "Case") "why_least" lv_Case_why_least ["self", "name"] (g_Case_why_least (P, w) (He.ga K "Case") (He.ga K "Web"))) :
    FnOk P w K mg base CX0 lv__law_asked f fd ["_law_case", "_law_way", "_law_one", "_law_other", "_law_least", "_law_most"] (spN K (g__law_asked (P, w) (He.ga K "Case") (He.ga K "Web")) 6) ∧ Binds K fd ["_law_case", "_law_way", "_law_one", "_law_other", "_law_least", "_law_most"] [] := by
  refine ⟨fnd_ok (k := 5) (m := b__law_asked (P, w) (He.ga K "Case") (He.ga K "Web")) F sc__law_asked (.cut rfl) (fun cdv A outer s H E hr => ?_), F.bindsN fun _ _ _ _ _ _ us hl => match us, hl with | [_, _, _, _, _, _], _ => rfl⟩
  have nd := sc__law_asked.nd
  have hu65 : (A.deeper (envOfC "_law_asked" (defScope s__law_asked) s.heap.objs.size f cdv)).units + 65 < cLine := by have := hr.un; omega
  have hu64 : (A.deeper (envOfC "_law_asked" (defScope s__law_asked) s.heap.objs.size f cdv)).units + 64 < cLine := by omega
  have hu1 : (A.deeper (envOfC "_law_asked" (defScope s__law_asked) s.heap.objs.size f cdv)).units + 1 < cLine := by omega
  exact (bx_cons (sx_tryE nd takes_no (fun W pn xe tk hp => (bx_one (sx_if (tx_cmp (op_eqD hu64) o_eq (px_var 1) px_int (nomark _)) (bx_one (sx_expr (px_methX (k := lv_Case_liken) (pl := _) tk M_Case_liken T.k_Case hr (by decide) rfl (px_var 0) (ax_cons (px_var 2) (ax_cons (px_var 3) (ax_cons (px_var 4) (ax_cons (px_var 5) ax_nil))))))) (bx_one (sx_if (tx_cmp (op_eqD hu64) o_eq (px_var 1) px_int (nomark _)) (bx_one (sx_expr (px_methX (k := lv_Case_drop) (pl := _) tk M_Case_drop T.k_Case hr (by decide) rfl (px_var 0) (ax_cons (px_var 4) ax_nil)))) (bx_one (sx_if (tx_cmp (op_eqD hu64) o_eq (px_var 1) px_int (nomark _)) (bx_one (sx_expr (px_methX (k := lv_Case_off) (pl := _) tk M_Case_off T.k_Case hr (by decide) rfl (px_var 0) (ax_cons (px_var 2) ax_nil)))) (bx_one (sx_if (tx_cmp (op_eqD hu64) o_eq (px_var 1) px_int (nomark _)) (bx_one (sx_expr (px_methX (k := lv_Case_why_most) (pl := _) tk M_Case_why_most T.k_Case hr (by decide) rfl (px_var 0) (ax_cons (px_var 2) ax_nil)))) (bx_one (sx_expr (px_methX (k := lv_Case_why_least) (pl := _) tk M_Case_why_least T.k_Case hr (by decide) rfl (px_var 0) (ax_cons (px_var 2) ax_nil))))))))))))) (he_cons (hit := ["NoBlock", "BadLikening", "Full", "Ring", "NoLikening"]) (miss := []) (i := 6) rfl T.g_WringError ((al_cons T.x_NoBlock_WringError (al_cons T.x_BadLikening_WringError (al_cons T.x_Full_WringError (al_cons T.x_Ring_WringError (al_cons T.x_NoLikening_WringError al_nil)))))) (al_nil) (fun a pn => (bx_one (sx_ret (px_callC (k := lv__law_word_of) G__law_word_of (roomS hr _) (by decide) rfl rfl (ax_cons (px_var 6) ax_nil))))) he_nil)) (bx_one (sx_ret px_str)))
/-! Case.likenings -/
abbrev n_Case_likenings : List Str := ["self"]
noncomputable def b_Case_likenings (a_Case : Addr) : MS :=
    (dRet (mFn fDictD [(mFld a_Case "kept" (mVar 0))]))
noncomputable def g_Case_likenings (a_Case : Addr) : Fn := fnKeep 1 (b_Case_likenings a_Case)
abbrev lv_Case_likenings : Nat := 1
theorem sc_Case_likenings : FnScope n_Case_likenings ["self"] (defScope s_Case_likenings) := ⟨rfl, rfl, rfl, by decide +kernel, rfl, by decide +kernel, by decide +kernel⟩
theorem ok_Case_likenings {P : Program} {w : World} {K : PySem.W.Frag} {mg : Str → Option Value} {base : Heap} {f : Addr} {fd : FuncData} (T : Txt K mg) (F : FunD K "likenings" "Case.likenings" (defArgs s_Case_likenings) (defBody s_Case_likenings) (defScope s_Case_likenings) [] [] f fd)  :
    FnOk P w K mg base CX0 lv_Case_likenings f fd ["self"] (spN K (g_Case_likenings (He.ga K "Case")) 1) ∧ Binds K fd ["self"] [] := by
  refine ⟨fnd_ok (k := 0) (m := b_Case_likenings (He.ga K "Case")) F sc_Case_likenings (.keep rfl) (fun cdv A outer s H E hr => ?_), F.bindsN fun _ _ _ _ _ _ us hl => match us, hl with | [_], _ => rfl⟩
  have nd := sc_Case_likenings.nd
  have hu65 : (A.deeper (envOfC "Case.likenings" (defScope s_Case_likenings) s.heap.objs.size f cdv)).units + 65 < cLine := by have := hr.un; omega
  have hu64 : (A.deeper (envOfC "Case.likenings" (defScope s_Case_likenings) s.heap.objs.size f cdv)).units + 64 < cLine := by omega
  have hu1 : (A.deeper (envOfC "Case.likenings" (defScope s_Case_likenings) s.heap.objs.size f cdv)).units + 1 < cLine := by omega
  exact (bx_one (sx_ret (px_cty call_dictD o_dictD rfl T.f_dict (by decide +kernel) (ax_cons (px_fld T.k_Case T.n_Case_kept (px_var 0)) ax_nil))))
/-! law -/
abbrev n_law : List Str := ["_law_script", "_law_row", "_law_case", "_law_far", "_law_number", "_law_asks", "_law_least", "_law_most", "_law_ask", "_law_k"]
noncomputable def b_law (z : PgW) (a_Case : Addr) (a_Web : Addr) : MS :=
    (dSeq (dSet 1 (mFn fLstN [(mVar 0), (mInt 0), (mInt 0)]))
    (dSeq (dIf (mNot (mCall (g__law_cases_refused a_Case) [(mVar 1)])) (dRet (mBool false)) dNext)
    (dSeq (dSet 2 (mMakeX a_Case (g_Case_init a_Case) [(mFn fTup [(mInt 0), (mInt 2)]), (mFn fLst [(mFn fTup [(mStr "x"), (mInt 5), (mOp1 fNeg (mInt 9)), (mInt 9)]), (mFn fTup [(mStr "yy"), (mInt 6), (mOp1 fNeg (mInt 9)), (mInt 9)]), (mFn fTup [(mStr "zzz"), (mInt 7), (mInt 0), (mInt 3)])])]))
    (dSeq (dSet 3 (mOp fAdd (mInt 1) (mCall g__law_taken [(mVar 1), (mOp fPow (mInt 10) (mInt 6))])))
    (dSeq (dSet 4 (mMethX a_Case "liken" (g_Case_liken z a_Case a_Web) (mVar 2) [(mStr "x"), (mStr "yy"), (mInt 2), (mInt 4)]))
    (dSeq (dSet 5 (mFn fLstN [(mFn fTup [(mInt 0), (mStr "w"), (mStr "x"), (mInt 5), (mInt 1)]), (mFn fTup [(mInt 0), (mStr "x"), (mStr "w"), (mInt 0), (mInt 0)]), (mFn fTup [(mInt 0), (mStr "x"), (mStr "x"), (mInt 5), (mInt 1)]), (mFn fTup [(mInt 2), (mStr "w"), (mStr ""), (mInt 0), (mInt 0)]), (mFn fTup [(mInt 3), (mStr "xx"), (mStr ""), (mInt 0), (mInt 0)])]))
    (dSeq (dExpr (mLm fAppend (mVar 5) [(mFn fTup [(mInt 4), (mStr ""), (mStr ""), (mInt 0), (mInt 0)])]))
    (dSeq (dIf (mOp fNe (mLc [(mVar 5)] fSeqL (aName 8) (some (mOp fNe (mCall (g__law_asked z a_Case a_Web) [(mVar 2), (mOp fIx (mVar 8) (mInt 0)), (mOp fIx (mVar 8) (mInt 1)), (mOp fIx (mVar 8) (mInt 2)), (mOp fIx (mVar 8) (mInt 3)), (mOp fIx (mVar 8) (mInt 4))]) (mStr "block"))) (mVar 8) [8]) (mFn fLst [])) (dRet (mBool false)) dNext)
    (dSeq (dFor [(mFn fLst [(mFn fTup [(mInt 1), (mInt 0)]), (mFn fTup [(mOp1 fNeg (mInt 1000)), (mInt 0)]), (mFn fTup [(mInt 0), (mInt 1000)]), (mFn fTup [(mOp fSub (mOp1 fNeg (mInt 999)) (mVar 3)), (mVar 3)]), (mFn fTup [(mVar 3), (mOp fAdd (mInt 999) (mVar 3))])])] fSeqL (aTup [6, 7]) (dIf (mOp fNe (mCall (g__law_asked z a_Case a_Web) [(mVar 2), (mInt 0), (mStr "x"), (mStr "zzz"), (mVar 6), (mVar 7)]) (mStr "stretch")) (dRet (mBool false)) dNext))
    (dSeq (dFor [(mFn fLst [(mOp fAdd (mVar 4) (mVar 3)), (mOp fSub (mInt 0) (mVar 3))])] fSeqL (aName 8) (dIf (mOp fNe (mCall (g__law_asked z a_Case a_Web) [(mVar 2), (mInt 1), (mStr ""), (mStr ""), (mVar 8), (mInt 0)]) (mStr "number")) (dRet (mBool false)) dNext))
    (dSeq (dIf (mOr (mOp fNe (mCall (g__law_asked z a_Case a_Web) [(mVar 2), (mInt 0), (mStr "yy"), (mStr "x"), (mOp1 fNeg (mInt 1)), (mInt 9)]) (mStr "ring")) (mOp fNe (mCall (g__law_asked z a_Case a_Web) [(mVar 2), (mInt 0), (mStr "zzz"), (mStr "x"), (mInt 13), (mInt 999)]) (mStr "ring"))) (dRet (mBool false)) dNext)
    (dSeq (dIf (mOr (mOp fNe (mCall (g__law_asked z a_Case a_Web) [(mVar 2), (mInt 0), (mStr "zzz"), (mStr "x"), (mOp1 fNeg (mInt 999)), (mOp1 fNeg (mInt 10))]) (mStr "ring")) (mOp (fDD fun b => !b) (mMeth a_Case "likenings" (g_Case_likenings a_Case) (mVar 2) []) (mDisp1 (mVar 4) (mFn fTup [(mStr "x"), (mStr "yy"), (mInt 2), (mInt 4)])))) (dRet (mBool false)) dNext)
    (dSeq (dFor [(mInt 29)] fRng1 (aName 9) (dExpr (mMethX a_Case "liken" (g_Case_liken z a_Case a_Web) (mVar 2) [(mStr "zzz"), (mStr "yy"), (mOp fSub (mOp1 fNeg (mInt 900)) (mVar 9)), (mInt 999)])))
    (dSeq (dIf (mOr (mOp fNe (mCall (g__law_asked z a_Case a_Web) [(mVar 2), (mInt 0), (mStr "yy"), (mStr "x"), (mOp1 fNeg (mInt 1)), (mInt 9)]) (mStr "full")) (mOp fNe (mCall (g__law_asked z a_Case a_Web) [(mVar 2), (mInt 0), (mStr "yy"), (mStr "x"), (mInt 1), (mInt 0)]) (mStr "stretch"))) (dRet (mBool false)) dNext)
    (dSeq (dExpr (mMethX a_Case "drop" (g_Case_drop a_Case) (mVar 2) [(mVar 4)]))
    (dRet (mAnd (mOp fEq (mMethX a_Case "liken" (g_Case_liken z a_Case a_Web) (mVar 2) [(mStr "yy"), (mStr "x"), (mOp1 fNeg (mInt 1)), (mInt 9)]) (mInt 30)) (mOp fEq (mFn fLen [(mMeth a_Case "likenings" (g_Case_likenings a_Case) (mVar 2) [])]) (mInt 30)))))))))))))))))))
noncomputable def g_law (z : PgW) (a_Case : Addr) (a_Web : Addr) : Fn := fnCut 10 (b_law z a_Case a_Web)
abbrev lv_law : Nat := 7
theorem sc_law : FnScope n_law ["_law_script"] (defScope s_law) := ⟨rfl, rfl, rfl, by decide +kernel, rfl, by decide +kernel, by decide +kernel⟩
theorem ok_law {P : Program} {w : World} {K : PySem.W.Frag} {mg : Str → Option Value} {base : Heap} {f : Addr} {fd : FuncData} (T : Txt K mg) (F : FunD K "law" "law" (defArgs s_law) (defBody s_law) (defScope s_law) [] [] f fd) (G__law_cases_refused : FnG P w K mg base "_law_cases_refused" lv__law_cases_refused ["_law_row"] (g__law_cases_refused (He.ga K "Case"))) (M_Case : MkGX P w K mg base (He.ga K "Case") "Case" lv_Case_init ["self", "film", "blocks"] (g_Case_init (He.ga K "Case"))) (G__law_taken : FnG P w K mg base "_law_taken" lv__law_taken ["_law_row", "_law_many"] (g__law_taken)) (M_Case_liken : MtGX P w K mg base (He.ga K "Case") "liken" lv_Case_liken ["self", "one", "other", "least", "most"] (g_Case_liken (P, w) (He.ga K "Case") (He.ga K "Web"))) (G__law_asked : FnG P w K mg base "_law_asked" lv__law_asked ["_law_case", "_law_way", "_law_one", "_law_other", "_law_least", "_law_most"] (g__law_asked (P, w) (He.ga K "Case") (He.ga K "Web"))) (M_Case_likenings : MtG P w K mg base (He.ga K "Case") "likenings" lv_Case_likenings ["self"] (g_Case_likenings (He.ga K "Case"))) (M_Case_drop : MtGX P w K mg base (He.ga K "Case") "drop" lv_Case_drop ["self", "number"] (g_Case_drop (He.ga K "Case"))) :
    FnOk P w K mg base CX0 lv_law f fd ["_law_script"] (spN K (g_law (P, w) (He.ga K "Case") (He.ga K "Web")) 1) ∧ Binds K fd ["_law_script"] [] := by
  refine ⟨fnd_ok (k := 6) (m := b_law (P, w) (He.ga K "Case") (He.ga K "Web")) F sc_law (.cut rfl) (fun cdv A outer s H E hr => ?_), F.bindsN fun _ _ _ _ _ _ us hl => match us, hl with | [_], _ => rfl⟩
  have nd := sc_law.nd
  have hu65 : (A.deeper (envOfC "law" (defScope s_law) s.heap.objs.size f cdv)).units + 65 < cLine := by have := hr.un; omega
  have hu64 : (A.deeper (envOfC "law" (defScope s_law) s.heap.objs.size f cdv)).units + 64 < cLine := by omega
  have hu1 : (A.deeper (envOfC "law" (defScope s_law) s.heap.objs.size f cdv)).units + 1 < cLine := by omega
  exact (bx_cons (sx_set (i := 1) nd (px_lstN (ax_cons (px_var 0) (ax_cons px_int (ax_cons px_int ax_nil))))) (bx_cons (sx_if (tx_not (tx_val (px_call (k := lv__law_cases_refused) G__law_cases_refused hr (by decide) rfl rfl (ax_cons (px_var 1) ax_nil)))) (bx_one (sx_ret px_bl)) bx_nil) (bx_cons (sx_set (i := 2) nd (px_makeX (k := lv_Case_init) takes_no M_Case hr (by decide) rfl rfl (ax_cons (px_tup (ax_cons px_int (ax_cons px_int ax_nil))) (ax_cons (px_lst (ax_cons (px_tup (ax_cons px_str (ax_cons px_int (ax_cons (px_un un_neg o_neg px_int) (ax_cons px_int ax_nil))))) (ax_cons (px_tup (ax_cons px_str (ax_cons px_int (ax_cons (px_un un_neg o_neg px_int) (ax_cons px_int ax_nil))))) (ax_cons (px_tup (ax_cons px_str (ax_cons px_int (ax_cons px_int (ax_cons px_int ax_nil))))) ax_nil)))) ax_nil)))) (bx_cons (sx_set (i := 3) nd (px_bin op_addA o_add px_int (px_call (k := lv__law_taken) G__law_taken hr (by decide) rfl rfl (ax_cons (px_var 1) (ax_cons (px_bin op_pow o_I px_int px_int) ax_nil))))) (bx_cons (sx_set (i := 4) nd (px_methX (k := lv_Case_liken) (pl := _) takes_no M_Case_liken T.k_Case hr (by decide) rfl (px_var 2) (ax_cons px_str (ax_cons px_str (ax_cons px_int (ax_cons px_int ax_nil)))))) (bx_cons (sx_set (i := 5) nd (px_lstN (ax_cons (px_tup (ax_cons px_int (ax_cons px_str (ax_cons px_str (ax_cons px_int (ax_cons px_int ax_nil)))))) (ax_cons (px_tup (ax_cons px_int (ax_cons px_str (ax_cons px_str (ax_cons px_int (ax_cons px_int ax_nil)))))) (ax_cons (px_tup (ax_cons px_int (ax_cons px_str (ax_cons px_str (ax_cons px_int (ax_cons px_int ax_nil)))))) (ax_cons (px_tup (ax_cons px_int (ax_cons px_str (ax_cons px_str (ax_cons px_int (ax_cons px_int ax_nil)))))) (ax_cons (px_tup (ax_cons px_int (ax_cons px_str (ax_cons px_str (ax_cons px_int (ax_cons px_int ax_nil)))))) ax_nil))))))) (bx_cons (sx_expr (px_append (px_var 5) (ax_cons (px_tup (ax_cons px_int (ax_cons px_str (ax_cons px_str (ax_cons px_int (ax_cons px_int ax_nil)))))) ax_nil))) (bx_cons (sx_if (tx_cmp (op_neD hu64) o_ne (px_lc (own := [("_law_ask", 8)]) rfl nd (ix_list (px_var 5)) (blkOk_by (own := [("_law_ask", 8)]) (N := n_law) (sc := defScope s_law) (by decide +kernel)) (fun _ _ _ _ _ => (gx_name (i := 8) nd)) (fun _ _ _ _ _ => (txs_one (tx_cmp (op_neD hu64) o_ne (px_call (k := lv__law_asked) G__law_asked hr (by decide) rfl rfl (ax_cons (px_var 2) (ax_cons (px_ix hu1 (px_var 8) px_int) (ax_cons (px_ix hu1 (px_var 8) px_int) (ax_cons (px_ix hu1 (px_var 8) px_int) (ax_cons (px_ix hu1 (px_var 8) px_int) (ax_cons (px_ix hu1 (px_var 8) px_int) ax_nil))))))) px_str (nomark _)))) (fun _ _ _ _ _ => (px_var 8))) (px_lst ax_nil) (nomark _)) (bx_one (sx_ret px_bl)) bx_nil) (bx_cons (sx_for PassesOwn.never rfl (ix_list (px_lst (ax_cons (px_tup (ax_cons px_int (ax_cons px_int ax_nil))) (ax_cons (px_tup (ax_cons (px_un un_neg o_neg px_int) (ax_cons px_int ax_nil))) (ax_cons (px_tup (ax_cons px_int (ax_cons px_int ax_nil))) (ax_cons (px_tup (ax_cons (px_bin op_sub o_sub (px_un un_neg o_neg px_int) (px_var 3)) (ax_cons (px_var 3) ax_nil))) (ax_cons (px_tup (ax_cons (px_var 3) (ax_cons (px_bin op_addA o_add px_int (px_var 3)) ax_nil))) ax_nil))))))) (gx_tup rfl (nx_cons (i := 6) nd (nx_cons (i := 7) nd nx_nil))) (bx_one (sx_if (tx_cmp (op_neD hu64) o_ne (px_call (k := lv__law_asked) G__law_asked hr (by decide) rfl rfl (ax_cons (px_var 2) (ax_cons px_int (ax_cons px_str (ax_cons px_str (ax_cons (px_var 6) (ax_cons (px_var 7) ax_nil))))))) px_str (nomark _)) (bx_one (sx_ret px_bl)) bx_nil))) (bx_cons (sx_for PassesOwn.never rfl (ix_list (px_lst (ax_cons (px_bin op_addA o_add (px_var 4) (px_var 3)) (ax_cons (px_bin op_sub o_sub px_int (px_var 3)) ax_nil)))) (gx_name (i := 8) nd) (bx_one (sx_if (tx_cmp (op_neD hu64) o_ne (px_call (k := lv__law_asked) G__law_asked hr (by decide) rfl rfl (ax_cons (px_var 2) (ax_cons px_int (ax_cons px_str (ax_cons px_str (ax_cons (px_var 8) (ax_cons px_int ax_nil))))))) px_str (nomark _)) (bx_one (sx_ret px_bl)) bx_nil))) (bx_cons (sx_if (WXx.tx (wx_or (tx_cmp (op_neD hu64) o_ne (px_call (k := lv__law_asked) G__law_asked hr (by decide) rfl rfl (ax_cons (px_var 2) (ax_cons px_int (ax_cons px_str (ax_cons px_str (ax_cons (px_un un_neg o_neg px_int) (ax_cons px_int ax_nil))))))) px_str (nomark _)) (wx_or1 (tx_cmp (op_neD hu64) o_ne (px_call (k := lv__law_asked) G__law_asked hr (by decide) rfl rfl (ax_cons (px_var 2) (ax_cons px_int (ax_cons px_str (ax_cons px_str (ax_cons px_int (ax_cons px_int ax_nil))))))) px_str (nomark _))))) (bx_one (sx_ret px_bl)) bx_nil) (bx_cons (sx_if (WXx.tx (wx_or (tx_cmp (op_neD hu64) o_ne (px_call (k := lv__law_asked) G__law_asked hr (by decide) rfl rfl (ax_cons (px_var 2) (ax_cons px_int (ax_cons px_str (ax_cons px_str (ax_cons (px_un un_neg o_neg px_int) (ax_cons (px_un un_neg o_neg px_int) ax_nil))))))) px_str (nomark _)) (wx_or1 (tx_cmp (op_neDD hu65) o_DD (px_meth0 (k := lv_Case_likenings) (pl := _) M_Case_likenings T.k_Case hr (by decide) rfl (px_var 2)) (px_disp1 (px_var 4) (px_tup (ax_cons px_str (ax_cons px_str (ax_cons px_int (ax_cons px_int ax_nil)))))) (nomark _))))) (bx_one (sx_ret px_bl)) bx_nil) (bx_cons (sx_for PassesOwn.never rfl (ix_rng1 rfl T.f_range (ax_cons px_int ax_nil)) (gx_name (i := 9) nd) (bx_one (sx_expr (px_methX (k := lv_Case_liken) (pl := _) takes_no M_Case_liken T.k_Case hr (by decide) rfl (px_var 2) (ax_cons px_str (ax_cons px_str (ax_cons (px_bin op_sub o_sub (px_un un_neg o_neg px_int) (px_var 9)) (ax_cons px_int ax_nil)))))))) (bx_cons (sx_if (WXx.tx (wx_or (tx_cmp (op_neD hu64) o_ne (px_call (k := lv__law_asked) G__law_asked hr (by decide) rfl rfl (ax_cons (px_var 2) (ax_cons px_int (ax_cons px_str (ax_cons px_str (ax_cons (px_un un_neg o_neg px_int) (ax_cons px_int ax_nil))))))) px_str (nomark _)) (wx_or1 (tx_cmp (op_neD hu64) o_ne (px_call (k := lv__law_asked) G__law_asked hr (by decide) rfl rfl (ax_cons (px_var 2) (ax_cons px_int (ax_cons px_str (ax_cons px_str (ax_cons px_int (ax_cons px_int ax_nil))))))) px_str (nomark _))))) (bx_one (sx_ret px_bl)) bx_nil) (bx_cons (sx_expr (px_methX (k := lv_Case_drop) (pl := _) takes_no M_Case_drop T.k_Case hr (by decide) rfl (px_var 2) (ax_cons (px_var 4) ax_nil))) (bx_one (sx_ret (px_and (px_cmp (op_eqD hu64) o_eq (px_methX (k := lv_Case_liken) (pl := _) takes_no M_Case_liken T.k_Case hr (by decide) rfl (px_var 2) (ax_cons px_str (ax_cons px_str (ax_cons (px_un un_neg o_neg px_int) (ax_cons px_int ax_nil))))) px_int (nomark _)) (px_one (px_cmp (op_eqD hu64) o_eq (px_cb call_lenA o_len rfl T.f_len (by decide +kernel) (ax_cons (px_meth0 (k := lv_Case_likenings) (pl := _) M_Case_likenings T.k_Case hr (by decide) rfl (px_var 2)) ax_nil)) px_int (nomark _)))))))))))))))))))))
/-! the head: facts by names -/
def d__law_taken : He.DefD := ⟨("_law_taken", none), "_law_taken", "_law_taken", defArgs s__law_taken, defBody s__law_taken, defScope s__law_taken, [], []⟩
def d__law_word_of : He.DefD := ⟨("_law_word_of", none), "_law_word_of", "_law_word_of", defArgs s__law_word_of, defBody s__law_word_of, defScope s__law_word_of, [], []⟩
def d_must : He.DefD := ⟨("must", none), "must", "must", defArgs s_must, defBody s_must, defScope s_must, [], []⟩
def d_is_name : He.DefD := ⟨("is_name", none), "is_name", "is_name", defArgs s_is_name, defBody s_is_name, defScope s_is_name, [], []⟩
def d_Case_init : He.DefD := ⟨("Case", some "__init__"), "__init__", "Case.__init__", defArgs s_Case_init, defBody s_Case_init, defScope s_Case_init, [], []⟩
def d__law_made : He.DefD := ⟨("_law_made", none), "_law_made", "_law_made", defArgs s__law_made, defBody s__law_made, defScope s__law_made, [], []⟩
def d__law_cases_refused : He.DefD := ⟨("_law_cases_refused", none), "_law_cases_refused", "_law_cases_refused", defArgs s__law_cases_refused, defBody s__law_cases_refused, defScope s__law_cases_refused, [], []⟩
def d_Case_need_block : He.DefD := ⟨("Case", some "need_block"), "need_block", "Case.need_block", defArgs s_Case_need_block, defBody s_Case_need_block, defScope s_Case_need_block, [], []⟩
def d_Web_init : He.DefD := ⟨("Web", some "__init__"), "__init__", "Web.__init__", defArgs s_Web_init, defBody s_Web_init, defScope s_Web_init, [], []⟩
def d_Web_add : He.DefD := ⟨("Web", some "add"), "add", "Web.add", defArgs s_Web_add, defBody s_Web_add, defScope s_Web_add, [], []⟩
def d_Case_web : He.DefD := ⟨("Case", some "web"), "web", "Case.web", defArgs s_Case_web, defBody s_Case_web, defScope s_Case_web, [], []⟩
def d_Web_spread : He.DefD := ⟨("Web", some "spread"), "spread", "Web.spread", defArgs s_Web_spread, defBody s_Web_spread, defScope s_Web_spread, [], []⟩
def d_Web_way : He.DefD := ⟨("Web", some "way"), "way", "Web.way", defArgs s_Web_way, defBody s_Web_way, defScope s_Web_way, [], []⟩
def d_Case_bar : He.DefD := ⟨("Case", some "bar"), "bar", "Case.bar", defArgs s_Case_bar, defBody s_Case_bar, defScope s_Case_bar, [], []⟩
def d_Ring_init : He.DefD := ⟨("Ring", some "__init__"), "__init__", "Ring.__init__", defArgs s_Ring_init, defBody s_Ring_init, defScope s_Ring_init, [], []⟩
def d_Case_liken : He.DefD := ⟨("Case", some "liken"), "liken", "Case.liken", defArgs s_Case_liken, defBody s_Case_liken, defScope s_Case_liken, [], []⟩
def d_Case_drop : He.DefD := ⟨("Case", some "drop"), "drop", "Case.drop", defArgs s_Case_drop, defBody s_Case_drop, defScope s_Case_drop, [], []⟩
def d_Case_off : He.DefD := ⟨("Case", some "off"), "off", "Case.off", defArgs s_Case_off, defBody s_Case_off, defScope s_Case_off, [], []⟩
def d_Case_why_most : He.DefD := ⟨("Case", some "why_most"), "why_most", "Case.why_most", defArgs s_Case_why_most, defBody s_Case_why_most, defScope s_Case_why_most, [], []⟩
def d_Case_why_least : He.DefD := ⟨("Case", some "why_least"), "why_least", "Case.why_least", defArgs s_Case_why_least, defBody s_Case_why_least, defScope s_Case_why_least, [], []⟩
def d__law_asked : He.DefD := ⟨("_law_asked", none), "_law_asked", "_law_asked", defArgs s__law_asked, defBody s__law_asked, defScope s__law_asked, [], []⟩
def d_Case_likenings : He.DefD := ⟨("Case", some "likenings"), "likenings", "Case.likenings", defArgs s_Case_likenings, defBody s_Case_likenings, defScope s_Case_likenings, [], []⟩
def d_law : He.DefD := ⟨("law", none), "law", "law", defArgs s_law, defBody s_law, defScope s_law, [], []⟩
def fn : List He.DefD := [d__law_taken, d__law_word_of, d_must, d_is_name, d_Case_init, d__law_made, d__law_cases_refused, d_Case_need_block, d_Web_init, d_Web_add, d_Case_web, d_Web_spread, d_Web_way, d_Case_bar, d_Ring_init, d_Case_liken, d_Case_drop, d_Case_off, d_Case_why_most, d_Case_why_least, d__law_asked, d_Case_likenings, d_law]
def fa : List He.Fa := [.glo "_law_taken", .glo "_law_word_of", .glo "must", .glo "is_name", .glo "_law_made", .glo "_law_cases_refused", .glo "_law_asked", .glo "law", .free "ValueError", .free "dict", .free "isinstance", .free "len", .free "list", .free "range", .free "reversed", .free "sorted", .free "tuple", .str "LETTERS" "abcdefghijklmnopqrstuvwxyz", .int "LONGEST_NAME" 8, .int "MOST_BLOCKS" 10, .int "MOST_FILM" 9, .int "MOST_LENGTH" 9999, .int "MOST_LIKENED" 999, .int "MOST_LIKENINGS" 30, .int "MOST_OFF" 99, .cls "Case", .cls "Web", .noat "Case" "blocks", .noat "Case" "film", .noat "Case" "given", .noat "Case" "kept", .noat "Web" "ends", .noat "Web" "rows", .meth "Case" "bar", .meth "Case" "drop", .meth "Case" "liken", .meth "Case" "likenings", .meth "Case" "need_block", .meth "Case" "off", .meth "Case" "web", .meth "Case" "why_least", .meth "Case" "why_most", .meth "Web" "add", .meth "Web" "spread", .meth "Web" "way", .glo "BadCase", .glo "BadLikening", .glo "BadText", .glo "Full", .glo "NoBlock", .glo "NoLikening", .glo "Ring", .glo "WringError", .exc "BadCase", .exc "BadLikening", .exc "Full", .exc "NoBlock", .exc "NoLikening", .exm "BadCase" "WringError" true, .exm "BadLikening" "WringError" true, .exm "Full" "WringError" true, .exm "NoBlock" "WringError" true, .exm "NoLikening" "WringError" true, .exm "Ring" "WringError" true, .mkr "Case", .glo "Case", .mkr "Web", .glo "Web"]
def xf : List Xf := [.oex "Ring", .init "Ring", .fld "Ring" "row", .base "WringError", .excc "BadCase", .excc "BadLikening", .excc "Full", .excc "NoBlock", .excc "NoLikening", .excc "Ring", .kitc "BadCase" "BadCase" true, .kitc "BadCase" "BadLikening" false, .kitc "BadCase" "BadText" false, .kitc "BadCase" "Full" false, .kitc "BadCase" "NoBlock" false, .kitc "BadCase" "NoLikening" false, .kitc "BadCase" "Ring" false, .kitc "BadLikening" "BadCase" false, .kitc "BadLikening" "BadLikening" true, .kitc "BadLikening" "BadText" false, .kitc "BadLikening" "Full" false, .kitc "BadLikening" "NoBlock" false, .kitc "BadLikening" "NoLikening" false, .kitc "BadLikening" "Ring" false, .kitc "Full" "BadCase" false, .kitc "Full" "BadLikening" false, .kitc "Full" "BadText" false, .kitc "Full" "Full" true, .kitc "Full" "NoBlock" false, .kitc "Full" "NoLikening" false, .kitc "Full" "Ring" false, .kitc "NoBlock" "BadCase" false, .kitc "NoBlock" "BadLikening" false, .kitc "NoBlock" "BadText" false, .kitc "NoBlock" "Full" false, .kitc "NoBlock" "NoBlock" true, .kitc "NoBlock" "NoLikening" false, .kitc "NoBlock" "Ring" false, .kitc "NoLikening" "BadCase" false, .kitc "NoLikening" "BadLikening" false, .kitc "NoLikening" "BadText" false, .kitc "NoLikening" "Full" false, .kitc "NoLikening" "NoBlock" false, .kitc "NoLikening" "NoLikening" true, .kitc "NoLikening" "Ring" false, .kitc "Ring" "BadCase" false, .kitc "Ring" "BadLikening" false, .kitc "Ring" "BadText" false, .kitc "Ring" "Full" false, .kitc "Ring" "NoBlock" false, .kitc "Ring" "NoLikening" false, .kitc "Ring" "Ring" true, .kitv "BadCase" "ValueError" true, .kitv "BadLikening" "ValueError" true, .kitv "Full" "ValueError" true, .kitv "NoBlock" "ValueError" true, .kitv "NoLikening" "ValueError" true, .kitv "Ring" "ValueError" true]
theorem txt_of {K : PySem.W.Frag} {h : Heap} {mg : Str → Option Value} (X : K.In h) (G : h.Ns mainGlobals mg) (cx : SaysX xf fa fn K) : Txt K mg where
  f_ValueError := He.free_ok X G (cx.d.fact 8 (f := .free "ValueError") rfl)
  f_dict := He.free_ok X G (cx.d.fact 9 (f := .free "dict") rfl)
  f_isinstance := He.free_ok X G (cx.d.fact 10 (f := .free "isinstance") rfl)
  f_len := He.free_ok X G (cx.d.fact 11 (f := .free "len") rfl)
  f_list := He.free_ok X G (cx.d.fact 12 (f := .free "list") rfl)
  f_range := He.free_ok X G (cx.d.fact 13 (f := .free "range") rfl)
  f_reversed := He.free_ok X G (cx.d.fact 14 (f := .free "reversed") rfl)
  f_sorted := He.free_ok X G (cx.d.fact 15 (f := .free "sorted") rfl)
  f_tuple := He.free_ok X G (cx.d.fact 16 (f := .free "tuple") rfl)
  c_LETTERS := He.str_ok X G (cx.d.fact 17 (f := .str "LETTERS" "abcdefghijklmnopqrstuvwxyz") rfl)
  c_LONGEST_NAME := He.int_ok X G (cx.d.fact 18 (f := .int "LONGEST_NAME" 8) rfl)
  c_MOST_BLOCKS := He.int_ok X G (cx.d.fact 19 (f := .int "MOST_BLOCKS" 10) rfl)
  c_MOST_FILM := He.int_ok X G (cx.d.fact 20 (f := .int "MOST_FILM" 9) rfl)
  c_MOST_LENGTH := He.int_ok X G (cx.d.fact 21 (f := .int "MOST_LENGTH" 9999) rfl)
  c_MOST_LIKENED := He.int_ok X G (cx.d.fact 22 (f := .int "MOST_LIKENED" 999) rfl)
  c_MOST_LIKENINGS := He.int_ok X G (cx.d.fact 23 (f := .int "MOST_LIKENINGS" 30) rfl)
  c_MOST_OFF := He.int_ok X G (cx.d.fact 24 (f := .int "MOST_OFF" 99) rfl)
  k_Case := He.cls_ok (cx.d.fact 25 (f := .cls "Case") rfl)
  k_Web := He.cls_ok (cx.d.fact 26 (f := .cls "Web") rfl)
  n_Case_blocks := He.noat_ok (cx.d.fact 27 (f := .noat "Case" "blocks") rfl)
  n_Case_film := He.noat_ok (cx.d.fact 28 (f := .noat "Case" "film") rfl)
  n_Case_given := He.noat_ok (cx.d.fact 29 (f := .noat "Case" "given") rfl)
  n_Case_kept := He.noat_ok (cx.d.fact 30 (f := .noat "Case" "kept") rfl)
  n_Web_ends := He.noat_ok (cx.d.fact 31 (f := .noat "Web" "ends") rfl)
  n_Web_rows := He.noat_ok (cx.d.fact 32 (f := .noat "Web" "rows") rfl)
  g_BadCase := He.glo_ok X G (cx.d.fact 45 (f := .glo "BadCase") rfl)
  g_BadLikening := He.glo_ok X G (cx.d.fact 46 (f := .glo "BadLikening") rfl)
  g_BadText := He.glo_ok X G (cx.d.fact 47 (f := .glo "BadText") rfl)
  g_Full := He.glo_ok X G (cx.d.fact 48 (f := .glo "Full") rfl)
  g_NoBlock := He.glo_ok X G (cx.d.fact 49 (f := .glo "NoBlock") rfl)
  g_NoLikening := He.glo_ok X G (cx.d.fact 50 (f := .glo "NoLikening") rfl)
  g_Ring := He.glo_ok X G (cx.d.fact 51 (f := .glo "Ring") rfl)
  g_WringError := He.glo_ok X G (cx.d.fact 52 (f := .glo "WringError") rfl)
  e_BadCase := exO_of (He.glo_ok X G (cx.d.fact 45 (f := .glo "BadCase") rfl)) (cx.d.fact 53 (f := .exc "BadCase") rfl)
  e_BadLikening := exO_of (He.glo_ok X G (cx.d.fact 46 (f := .glo "BadLikening") rfl)) (cx.d.fact 54 (f := .exc "BadLikening") rfl)
  e_Full := exO_of (He.glo_ok X G (cx.d.fact 48 (f := .glo "Full") rfl)) (cx.d.fact 55 (f := .exc "Full") rfl)
  e_NoBlock := exO_of (He.glo_ok X G (cx.d.fact 49 (f := .glo "NoBlock") rfl)) (cx.d.fact 56 (f := .exc "NoBlock") rfl)
  e_NoLikening := exO_of (He.glo_ok X G (cx.d.fact 50 (f := .glo "NoLikening") rfl)) (cx.d.fact 57 (f := .exc "NoLikening") rfl)
  x_BadCase_WringError := He.exm_ok (cx.d.fact 58 (f := .exm "BadCase" "WringError" true) rfl)
  x_BadLikening_WringError := He.exm_ok (cx.d.fact 59 (f := .exm "BadLikening" "WringError" true) rfl)
  x_Full_WringError := He.exm_ok (cx.d.fact 60 (f := .exm "Full" "WringError" true) rfl)
  x_NoBlock_WringError := He.exm_ok (cx.d.fact 61 (f := .exm "NoBlock" "WringError" true) rfl)
  x_NoLikening_WringError := He.exm_ok (cx.d.fact 62 (f := .exm "NoLikening" "WringError" true) rfl)
  x_Ring_WringError := He.exm_ok (cx.d.fact 63 (f := .exm "Ring" "WringError" true) rfl)
  b_WringError := base_ok (He.glo_ok X G (cx.d.fact 52 (f := .glo "WringError") rfl)) (cx.x 3 (f := .base "WringError") rfl)
  q_BadCase := excc_ok (cx.x 4 (f := .excc "BadCase") rfl)
  q_BadLikening := excc_ok (cx.x 5 (f := .excc "BadLikening") rfl)
  q_Full := excc_ok (cx.x 6 (f := .excc "Full") rfl)
  q_NoBlock := excc_ok (cx.x 7 (f := .excc "NoBlock") rfl)
  q_NoLikening := excc_ok (cx.x 8 (f := .excc "NoLikening") rfl)
  q_Ring := excc_ok (cx.x 9 (f := .excc "Ring") rfl)
  kc_BadCase_BadCase := kitc_ok (cx.x 10 (f := .kitc "BadCase" "BadCase" true) rfl)
  kc_BadCase_BadLikening := kitc_ok (cx.x 11 (f := .kitc "BadCase" "BadLikening" false) rfl)
  kc_BadCase_BadText := kitc_ok (cx.x 12 (f := .kitc "BadCase" "BadText" false) rfl)
  kc_BadCase_Full := kitc_ok (cx.x 13 (f := .kitc "BadCase" "Full" false) rfl)
  kc_BadCase_NoBlock := kitc_ok (cx.x 14 (f := .kitc "BadCase" "NoBlock" false) rfl)
  kc_BadCase_NoLikening := kitc_ok (cx.x 15 (f := .kitc "BadCase" "NoLikening" false) rfl)
  kc_BadCase_Ring := kitc_ok (cx.x 16 (f := .kitc "BadCase" "Ring" false) rfl)
  kc_BadLikening_BadCase := kitc_ok (cx.x 17 (f := .kitc "BadLikening" "BadCase" false) rfl)
  kc_BadLikening_BadLikening := kitc_ok (cx.x 18 (f := .kitc "BadLikening" "BadLikening" true) rfl)
  kc_BadLikening_BadText := kitc_ok (cx.x 19 (f := .kitc "BadLikening" "BadText" false) rfl)
  kc_BadLikening_Full := kitc_ok (cx.x 20 (f := .kitc "BadLikening" "Full" false) rfl)
  kc_BadLikening_NoBlock := kitc_ok (cx.x 21 (f := .kitc "BadLikening" "NoBlock" false) rfl)
  kc_BadLikening_NoLikening := kitc_ok (cx.x 22 (f := .kitc "BadLikening" "NoLikening" false) rfl)
  kc_BadLikening_Ring := kitc_ok (cx.x 23 (f := .kitc "BadLikening" "Ring" false) rfl)
  kc_Full_BadCase := kitc_ok (cx.x 24 (f := .kitc "Full" "BadCase" false) rfl)
  kc_Full_BadLikening := kitc_ok (cx.x 25 (f := .kitc "Full" "BadLikening" false) rfl)
  kc_Full_BadText := kitc_ok (cx.x 26 (f := .kitc "Full" "BadText" false) rfl)
  kc_Full_Full := kitc_ok (cx.x 27 (f := .kitc "Full" "Full" true) rfl)
  kc_Full_NoBlock := kitc_ok (cx.x 28 (f := .kitc "Full" "NoBlock" false) rfl)
  kc_Full_NoLikening := kitc_ok (cx.x 29 (f := .kitc "Full" "NoLikening" false) rfl)
  kc_Full_Ring := kitc_ok (cx.x 30 (f := .kitc "Full" "Ring" false) rfl)
  kc_NoBlock_BadCase := kitc_ok (cx.x 31 (f := .kitc "NoBlock" "BadCase" false) rfl)
  kc_NoBlock_BadLikening := kitc_ok (cx.x 32 (f := .kitc "NoBlock" "BadLikening" false) rfl)
  kc_NoBlock_BadText := kitc_ok (cx.x 33 (f := .kitc "NoBlock" "BadText" false) rfl)
  kc_NoBlock_Full := kitc_ok (cx.x 34 (f := .kitc "NoBlock" "Full" false) rfl)
  kc_NoBlock_NoBlock := kitc_ok (cx.x 35 (f := .kitc "NoBlock" "NoBlock" true) rfl)
  kc_NoBlock_NoLikening := kitc_ok (cx.x 36 (f := .kitc "NoBlock" "NoLikening" false) rfl)
  kc_NoBlock_Ring := kitc_ok (cx.x 37 (f := .kitc "NoBlock" "Ring" false) rfl)
  kc_NoLikening_BadCase := kitc_ok (cx.x 38 (f := .kitc "NoLikening" "BadCase" false) rfl)
  kc_NoLikening_BadLikening := kitc_ok (cx.x 39 (f := .kitc "NoLikening" "BadLikening" false) rfl)
  kc_NoLikening_BadText := kitc_ok (cx.x 40 (f := .kitc "NoLikening" "BadText" false) rfl)
  kc_NoLikening_Full := kitc_ok (cx.x 41 (f := .kitc "NoLikening" "Full" false) rfl)
  kc_NoLikening_NoBlock := kitc_ok (cx.x 42 (f := .kitc "NoLikening" "NoBlock" false) rfl)
  kc_NoLikening_NoLikening := kitc_ok (cx.x 43 (f := .kitc "NoLikening" "NoLikening" true) rfl)
  kc_NoLikening_Ring := kitc_ok (cx.x 44 (f := .kitc "NoLikening" "Ring" false) rfl)
  kc_Ring_BadCase := kitc_ok (cx.x 45 (f := .kitc "Ring" "BadCase" false) rfl)
  kc_Ring_BadLikening := kitc_ok (cx.x 46 (f := .kitc "Ring" "BadLikening" false) rfl)
  kc_Ring_BadText := kitc_ok (cx.x 47 (f := .kitc "Ring" "BadText" false) rfl)
  kc_Ring_Full := kitc_ok (cx.x 48 (f := .kitc "Ring" "Full" false) rfl)
  kc_Ring_NoBlock := kitc_ok (cx.x 49 (f := .kitc "Ring" "NoBlock" false) rfl)
  kc_Ring_NoLikening := kitc_ok (cx.x 50 (f := .kitc "Ring" "NoLikening" false) rfl)
  kc_Ring_Ring := kitc_ok (cx.x 51 (f := .kitc "Ring" "Ring" true) rfl)
  kv_BadCase_ValueError := kitv_ok (cx.x 52 (f := .kitv "BadCase" "ValueError" true) rfl)
  kv_BadLikening_ValueError := kitv_ok (cx.x 53 (f := .kitv "BadLikening" "ValueError" true) rfl)
  kv_Full_ValueError := kitv_ok (cx.x 54 (f := .kitv "Full" "ValueError" true) rfl)
  kv_NoBlock_ValueError := kitv_ok (cx.x 55 (f := .kitv "NoBlock" "ValueError" true) rfl)
  kv_NoLikening_ValueError := kitv_ok (cx.x 56 (f := .kitv "NoLikening" "ValueError" true) rfl)
  kv_Ring_ValueError := kitv_ok (cx.x 57 (f := .kitv "Ring" "ValueError" true) rfl)
theorem facts {P : Program} {w : World} {K : PySem.W.Frag} {h : Heap} {mg : Str → Option Value} {f : Addr} (X : K.In h) (G : h.Ns mainGlobals mg) (hfa : mg ("law" : Str) = some (.ref f)) (cx : SaysX xf fa fn K) :
    ∃ fd : FuncData, (∀ (s : Shared) (v : Value), BindsTo s fd ⟨[v], []⟩ [("_law_script", v)]) ∧ ∀ base : Heap, K.In base → base.Ns mainGlobals mg → FnOk P w K mg base CX0 lv_law f fd ["_law_script"] (spN K (g_law (P, w) (He.ga K "Case") (He.ga K "Web")) 1) := by
  have c := cx.d
  have T := txt_of X G cx
  obtain ⟨fd__law_taken, F__law_taken⟩ := c.def_ 0 (d := d__law_taken) rfl
  obtain ⟨fd__law_word_of, F__law_word_of⟩ := c.def_ 1 (d := d__law_word_of) rfl
  obtain ⟨fd_must, F_must⟩ := c.def_ 2 (d := d_must) rfl
  obtain ⟨fd_is_name, F_is_name⟩ := c.def_ 3 (d := d_is_name) rfl
  obtain ⟨fd_Case_init, F_Case_init⟩ := c.def_ 4 (d := d_Case_init) rfl
  obtain ⟨fd__law_made, F__law_made⟩ := c.def_ 5 (d := d__law_made) rfl
  obtain ⟨fd__law_cases_refused, F__law_cases_refused⟩ := c.def_ 6 (d := d__law_cases_refused) rfl
  obtain ⟨fd_Case_need_block, F_Case_need_block⟩ := c.def_ 7 (d := d_Case_need_block) rfl
  obtain ⟨fd_Web_init, F_Web_init⟩ := c.def_ 8 (d := d_Web_init) rfl
  obtain ⟨fd_Web_add, F_Web_add⟩ := c.def_ 9 (d := d_Web_add) rfl
  obtain ⟨fd_Case_web, F_Case_web⟩ := c.def_ 10 (d := d_Case_web) rfl
  obtain ⟨fd_Web_spread, F_Web_spread⟩ := c.def_ 11 (d := d_Web_spread) rfl
  obtain ⟨fd_Web_way, F_Web_way⟩ := c.def_ 12 (d := d_Web_way) rfl
  obtain ⟨fd_Case_bar, F_Case_bar⟩ := c.def_ 13 (d := d_Case_bar) rfl
  obtain ⟨fd_Ring_init, F_Ring_init⟩ := c.def_ 14 (d := d_Ring_init) rfl
  obtain ⟨fd_Case_liken, F_Case_liken⟩ := c.def_ 15 (d := d_Case_liken) rfl
  obtain ⟨fd_Case_drop, F_Case_drop⟩ := c.def_ 16 (d := d_Case_drop) rfl
  obtain ⟨fd_Case_off, F_Case_off⟩ := c.def_ 17 (d := d_Case_off) rfl
  obtain ⟨fd_Case_why_most, F_Case_why_most⟩ := c.def_ 18 (d := d_Case_why_most) rfl
  obtain ⟨fd_Case_why_least, F_Case_why_least⟩ := c.def_ 19 (d := d_Case_why_least) rfl
  obtain ⟨fd__law_asked, F__law_asked⟩ := c.def_ 20 (d := d__law_asked) rfl
  obtain ⟨fd_Case_likenings, F_Case_likenings⟩ := c.def_ 21 (d := d_Case_likenings) rfl
  obtain ⟨fd_law, F_law⟩ := c.def_ 22 (d := d_law) rfl
  have e := hfa.symm.trans (He.glo_ok X G (c.fact 7 (f := .glo "law") rfl))
  cases e
  refine ⟨fd_law, fun s v => FunD.bindsA (ps := ["_law_script"]) F_law (fun _ _ _ _ _ _ us hl => match us, hl with | [_], _ => rfl) s [v] rfl, fun base _ _ => ?_⟩
  have ok__law_taken_ := ok__law_taken (P := P) (w := w) (base := base) T F__law_taken 
  have G__law_taken : FnG P w K mg base "_law_taken" lv__law_taken _ _ := ⟨_, _, ok__law_taken_.1, He.glo_ok X G (c.fact 0 (f := .glo "_law_taken") rfl), F__law_taken.kp, ok__law_taken_.2⟩
  have ok__law_word_of_ := ok__law_word_of (P := P) (w := w) (base := base) T F__law_word_of 
  have G__law_word_of : FnGC P w K mg base "_law_word_of" lv__law_word_of _ _ := ⟨_, _, ok__law_word_of_.1, He.glo_ok X G (c.fact 1 (f := .glo "_law_word_of") rfl), F__law_word_of.kp, ok__law_word_of_.2⟩
  have ok_must_ := ok_must (P := P) (w := w) (base := base) T F_must 
  have G_must : FnGX P w K mg base "must" lv_must _ _ := ⟨_, _, ok_must_.1, He.glo_ok X G (c.fact 2 (f := .glo "must") rfl), F_must.kp, ok_must_.2⟩
  have ok_is_name_ := ok_is_name (P := P) (w := w) (base := base) T F_is_name 
  have G_is_name : FnG P w K mg base "is_name" lv_is_name _ _ := ⟨_, _, ok_is_name_.1, He.glo_ok X G (c.fact 3 (f := .glo "is_name") rfl), F_is_name.kp, ok_is_name_.2⟩
  have ok_Case_init_ := ok_Case_init (P := P) (w := w) (base := base) T F_Case_init G_must G_is_name
  have M_Case : MkGX P w K mg base (He.ga K "Case") "Case" lv_Case_init _ _ := ⟨_, _, ok_Case_init_.1, He.mkr_ok (c.fact 64 (f := .mkr "Case") rfl), He.glo_ok X G (c.fact 65 (f := .glo "Case") rfl), ok_Case_init_.2⟩
  have ok__law_made_ := ok__law_made (P := P) (w := w) (base := base) T F__law_made G__law_word_of M_Case
  have G__law_made : FnG P w K mg base "_law_made" lv__law_made _ _ := ⟨_, _, ok__law_made_.1, He.glo_ok X G (c.fact 4 (f := .glo "_law_made") rfl), F__law_made.kp, ok__law_made_.2⟩
  have ok__law_cases_refused_ := ok__law_cases_refused (P := P) (w := w) (base := base) T F__law_cases_refused G__law_taken G__law_made
  have G__law_cases_refused : FnG P w K mg base "_law_cases_refused" lv__law_cases_refused _ _ := ⟨_, _, ok__law_cases_refused_.1, He.glo_ok X G (c.fact 5 (f := .glo "_law_cases_refused") rfl), F__law_cases_refused.kp, ok__law_cases_refused_.2⟩
  have ok_Case_need_block_ := ok_Case_need_block (P := P) (w := w) (base := base) T F_Case_need_block 
  have M_Case_need_block : MtGX P w K mg base (He.ga K "Case") "need_block" lv_Case_need_block _ _ := ⟨_, _, ok_Case_need_block_.1, He.meth_ok (c.fact 37 (f := .meth "Case" "need_block") rfl), ok_Case_need_block_.2⟩
  have ok_Web_init_ := ok_Web_init (P := P) (w := w) (base := base) T F_Web_init 
  have M_Web : MkG P w K mg base (He.ga K "Web") "Web" lv_Web_init _ _ := ⟨_, _, ok_Web_init_.1, He.mkr_ok (c.fact 66 (f := .mkr "Web") rfl), He.glo_ok X G (c.fact 67 (f := .glo "Web") rfl), ok_Web_init_.2⟩
  have ok_Web_add_ := ok_Web_add (P := P) (w := w) (base := base) T F_Web_add 
  have M_Web_add : MtG P w K mg base (He.ga K "Web") "add" lv_Web_add _ _ := ⟨_, _, ok_Web_add_.1, He.meth_ok (c.fact 42 (f := .meth "Web" "add") rfl), ok_Web_add_.2⟩
  have ok_Case_web_ := ok_Case_web (P := P) (w := w) (base := base) T F_Case_web M_Web M_Web_add
  have M_Case_web : MtG P w K mg base (He.ga K "Case") "web" lv_Case_web _ _ := ⟨_, _, ok_Case_web_.1, He.meth_ok (c.fact 39 (f := .meth "Case" "web") rfl), ok_Case_web_.2⟩
  have ok_Web_spread_ := ok_Web_spread (P := P) (w := w) (base := base) T F_Web_spread 
  have M_Web_spread : MtG P w K mg base (He.ga K "Web") "spread" lv_Web_spread _ _ := ⟨_, _, ok_Web_spread_.1, He.meth_ok (c.fact 43 (f := .meth "Web" "spread") rfl), ok_Web_spread_.2⟩
  have ok_Web_way_ := ok_Web_way (P := P) (w := w) (base := base) T F_Web_way M_Web_spread
  have M_Web_way : MtG P w K mg base (He.ga K "Web") "way" lv_Web_way _ _ := ⟨_, _, ok_Web_way_.1, He.meth_ok (c.fact 44 (f := .meth "Web" "way") rfl), ok_Web_way_.2⟩
  have ok_Case_bar_ := ok_Case_bar (P := P) (w := w) (base := base) T F_Case_bar M_Case_web M_Web_spread M_Web_way
  have M_Case_bar : MtG P w K mg base (He.ga K "Case") "bar" lv_Case_bar _ _ := ⟨_, _, ok_Case_bar_.1, He.meth_ok (c.fact 33 (f := .meth "Case" "bar") rfl), ok_Case_bar_.2⟩
  have ok_Ring_init_ := ok_Ring_init (P := P) (w := w) (base := base) T F_Ring_init 
  have X_Ring : ExI P w K mg base "Ring" "row" lv_Ring_init preL := ⟨He.glo_ok X G (c.fact 51 (f := .glo "Ring") rfl), oexB_ok (cx.x 0 (f := .oex "Ring") rfl), fld_ok (x := "Ring") (f := "row") (cx.x 2 (f := .fld "Ring" "row") rfl), _, _, _, (init_at (cx.x 1 (f := .init "Ring") rfl)).1, (init_at (cx.x 1 (f := .init "Ring") rfl)).2, rfl, ok_Ring_init_.2, ok_Ring_init_.1⟩
  have ok_Case_liken_ := ok_Case_liken (P := P) (w := w) (base := base) T F_Case_liken M_Case_need_block M_Case_bar X_Ring
  have M_Case_liken : MtGX P w K mg base (He.ga K "Case") "liken" lv_Case_liken _ _ := ⟨_, _, ok_Case_liken_.1, He.meth_ok (c.fact 35 (f := .meth "Case" "liken") rfl), ok_Case_liken_.2⟩
  have ok_Case_drop_ := ok_Case_drop (P := P) (w := w) (base := base) T F_Case_drop 
  have M_Case_drop : MtGX P w K mg base (He.ga K "Case") "drop" lv_Case_drop _ _ := ⟨_, _, ok_Case_drop_.1, He.meth_ok (c.fact 34 (f := .meth "Case" "drop") rfl), ok_Case_drop_.2⟩
  have ok_Case_off_ := ok_Case_off (P := P) (w := w) (base := base) T F_Case_off M_Case_need_block M_Case_web M_Web_spread
  have M_Case_off : MtGX P w K mg base (He.ga K "Case") "off" lv_Case_off _ _ := ⟨_, _, ok_Case_off_.1, He.meth_ok (c.fact 38 (f := .meth "Case" "off") rfl), ok_Case_off_.2⟩
  have ok_Case_why_most_ := ok_Case_why_most (P := P) (w := w) (base := base) T F_Case_why_most M_Case_need_block M_Case_web M_Web_way
  have M_Case_why_most : MtGX P w K mg base (He.ga K "Case") "why_most" lv_Case_why_most _ _ := ⟨_, _, ok_Case_why_most_.1, He.meth_ok (c.fact 41 (f := .meth "Case" "why_most") rfl), ok_Case_why_most_.2⟩
  have ok_Case_why_least_ := ok_Case_why_least (P := P) (w := w) (base := base) T F_Case_why_least M_Case_need_block M_Case_web M_Web_way
  have M_Case_why_least : MtGX P w K mg base (He.ga K "Case") "why_least" lv_Case_why_least _ _ := ⟨_, _, ok_Case_why_least_.1, He.meth_ok (c.fact 40 (f := .meth "Case" "why_least") rfl), ok_Case_why_least_.2⟩
  have ok__law_asked_ := ok__law_asked (P := P) (w := w) (base := base) T F__law_asked G__law_word_of M_Case_liken M_Case_drop M_Case_off M_Case_why_most M_Case_why_least
  have G__law_asked : FnG P w K mg base "_law_asked" lv__law_asked _ _ := ⟨_, _, ok__law_asked_.1, He.glo_ok X G (c.fact 6 (f := .glo "_law_asked") rfl), F__law_asked.kp, ok__law_asked_.2⟩
  have ok_Case_likenings_ := ok_Case_likenings (P := P) (w := w) (base := base) T F_Case_likenings 
  have M_Case_likenings : MtG P w K mg base (He.ga K "Case") "likenings" lv_Case_likenings _ _ := ⟨_, _, ok_Case_likenings_.1, He.meth_ok (c.fact 36 (f := .meth "Case" "likenings") rfl), ok_Case_likenings_.2⟩
  have ok_law_ := ok_law (P := P) (w := w) (base := base) T F_law G__law_cases_refused M_Case G__law_taken M_Case_liken G__law_asked M_Case_likenings M_Case_drop
  exact ok_law_.1
end Lw
end
section
set_option Elab.async false
set_option linter.all false
set_option autoImplicit false
set_option maxRecDepth 100000
set_option maxHeartbeats 2000000
namespace Lw
open PySem PySem.Spec PyProof.Rows L2 Lv
local macro_rules
  | `(tactic| left) => `(tactic| first
    | (with_reducible refine ws_seq ?_) | (with_reducible refine ws_set ?_) | (with_reducible refine ws_expr ?_) | (with_reducible refine ws_ret ?_) | (with_reducible refine ws_retN ?_) | (with_reducible refine ws_if ?_) | (with_reducible refine ws_next ?_) | (with_reducible refine ws_asg ?_) | (with_reducible refine ws_setIx ?_) | (with_reducible refine ws_for ?_)
    | ((with_reducible refine thenS_nx ?_); try simp only [env0, List.map_cons, List.map_nil, List.length_cons, List.length_nil, Nat.reduceAdd, Nat.reduceSub, List.replicate, List.cons_append, List.nil_append, List.set_cons_succ, List.set_cons_zero])
    | (with_reducible refine thenS_rt ?_) | (with_reducible refine endG_nx ?_) | (with_reducible refine endG_rt ?_) | (with_reducible refine turnS_nx ?_) | (with_reducible refine turnS_rt ?_)
    | (with_reducible refine we_int ?_) | (with_reducible refine we_str ?_) | (with_reducible refine we_bool ?_) | (with_reducible refine we_non ?_) | (with_reducible refine we_op ?_) | (with_reducible refine we_op1 ?_) | (with_reducible refine we_fn ?_) | (with_reducible refine we_call ?_) | (with_reducible refine we_not ?_) | (with_reducible refine we_and ?_) | (with_reducible refine we_or ?_) | (with_reducible refine we_ifx ?_)
    | (with_reducible refine we_ch2 ?_) | (with_reducible refine we_ch3 ?_) | (with_reducible refine we_sl ?_) | (with_reducible refine wa_nil ?_) | (with_reducible refine wa_cons ?_) | (with_reducible refine wp_none ?_) | (with_reducible refine wp_some ?_) | (with_reducible refine wb_intro ?_) | (with_reducible refine ite_t ?_) | (with_reducible refine ite_f ?_) | (with_reducible refine ite_nt ?_) | (with_reducible refine ite_nf ?_)
    | (with_reducible refine we_lc ?_) | (with_reducible refine we_lcN ?_) | (with_reducible refine we_make ?_) | (with_reducible refine we_disp ?_) | (with_reducible refine wk_nil ?_) | (with_reducible refine wk_cons ?_) | (with_reducible refine ws_fld ?_) | (with_reducible refine we_fld ?_) | (with_reducible refine we_meth ?_) | (with_reducible refine we_dic0 ?_)
    | (with_reducible refine we_join ?_)
    | (with_reducible refine we_lm ?_)
    | ((with_reducible apply we_var); exact rfl)
    | (with_reducible refine wg_addI ?_) | (with_reducible refine wg_sub ?_) | (with_reducible refine wg_lt ?_) | (with_reducible refine wg_le ?_) | (with_reducible refine wg_gt ?_) | (with_reducible refine wg_ge ?_) | (with_reducible refine wg_eqI ?_) | (with_reducible refine wg_neI ?_)
    | (with_reducible refine wg_lenL ?_) | (with_reducible refine wg_lenT ?_) | (with_reducible refine wg_intI ?_) | (with_reducible refine wg_intB ?_) | (with_reducible refine wg_min2 ?_) | (with_reducible refine wg_max2 ?_) | (with_reducible refine wg_neg ?_)
    | (with_reducible refine wg_isN ?_) | (with_reducible refine wg_isNot ?_) | (with_reducible refine wg_tupleT ?_) | (with_reducible refine wg_listL ?_) | (with_reducible refine wg_listT ?_) | (with_reducible refine wg_slL ?_) | (with_reducible refine wg_slT ?_)
    | (with_reducible refine wg_mod (by decide) ?_) | (with_reducible refine wg_div (by decide) ?_)
    | ((with_reducible apply wg_lst); exact Nat.le_of_ble_eq_true rfl; exact rfl) | ((with_reducible apply wg_tup); exact Nat.le_of_ble_eq_true rfl; exact rfl) | ((with_reducible apply wg_lstN); exact Nat.le_of_ble_eq_true rfl)
    | ((with_reducible apply wg_ixR); exact rfl; exact rfl) | ((with_reducible apply wg_ixL); exact rfl) | ((with_reducible apply wg_ixT); exact rfl) | ((with_reducible apply wg_ixRT); exact rfl; exact rfl)
    | ((with_reducible apply fset_lst); exact rfl; exact rfl; try simp only [Int.reduceToNat, List.set_cons_succ, List.set_cons_zero])
    | (with_reducible refine ex_str ?_) | (with_reducible refine ex_int ?_) | ((with_reducible apply ex_lm); exact rfl)
    | (with_reducible refine ex_seqLd ?_) | (with_reducible refine ex_seqTd ?_) | (with_reducible refine ex_seqSd ?_) | (with_reducible refine ex_name ?_) | ((with_reducible apply ex_atup); exact rfl)
    | ((with_reducible apply ex_rng1); exact rg_ok (by omega) (by omega)) | ((with_reducible apply ex_rng2); exact rg_ok (by omega) (by omega); exact rg_ok (by omega) (by omega))
    | (with_reducible exact ⟨rfl, rfl⟩) | (with_reducible refine and_eq ?_)  | (with_reducible assumption) )
local macro_rules
  | `(tactic| left) => `(tactic| first
    | (with_reducible refine ws_setIxN ?_) | (with_reducible refine we_dicN ?_) | (with_reducible refine we_dget2 ?_) | (with_reducible refine we_dpop ?_) | (with_reducible refine ws_raise ?_) | (with_reducible refine ws_raiseI ?_) | (with_reducible refine ws_try ?_)
    | (with_reducible refine thenS_er ?_) | (with_reducible refine turnS_er ?_) | (with_reducible refine thenS_ct ?_) | (with_reducible refine thenS_bk ?_) | (with_reducible refine endX_nx ?_) | (with_reducible refine endX_rt ?_) | (with_reducible refine endX_er ?_) | (with_reducible refine clS_rt ?_) | (with_reducible refine clS_nx ?_) | (with_reducible refine clS_er ?_) )
/-- the script's row -/
def Rw (o : Ob) : Prop := ∃ (ns : List Int) (k st : Int), o = .lst [.d (.list (ns.map .int)), .d (.int k), .d (.int st)] ∧ 0 ≤ k ∧ 0 ≤ st ∧ st < 2147483647
theorem Rw.below {o : Ob} (h : Rw o) (n : Nat) : o.below n := by
  obtain ⟨ns, k, st, rfl, _⟩ := h
  intro x hx
  simp at hx
  rcases hx with rfl | rfl | rfl <;> exact True.intro
theorem Rw.start (ns : List Int) : Rw (.lst [.d (.list (ns.map .int)), .d (.int 0), .d (.int 0)]) := ⟨ns, 0, 0, rfl, by decide, by decide, by decide⟩
/-- what a def leaves that changed the row alone -/
theorem cut_row {o o' : Ob} {T U : Sto} (h : Rw o') : CutOk (o :: T) (o' :: (T ++ U)) := by
  intro i u hi hl
  cases i with
  | zero =>
    have : o' = u := by simpa using hi
    subst this
    exact .inr (h.below _)
  | succ i =>
    have hl : i < T.length := by simpa using hl
    refine .inl ?_
    have : (T ++ U)[i]? = some u := by simpa using hi
    rw [List.getElem?_append_left hl] at this
    simpa using this
theorem cut_row0 {o o' : Ob} {T : Sto} (h : Rw o') : CutOk (o :: T) (o' :: T) := by
  have := cut_row (o := o) (T := T) (U := []) h
  simpa using this
theorem fin_row {o o' : Ob} {T : Sto} {p : PyData} {Q : Val → Sto → Prop} (h : Rw o') (q : Q (.d p) (o' :: T)) : CutOk (o :: T) (o' :: T) ∧ ∃ y, frzV (o :: T).length (o' :: T) (.d p) = some y ∧ Q y ((o' :: T).take (o :: T).length) :=
  ⟨cut_row0 h, _, rfl, by simpa using q⟩
/-- .. that changed nothing, and made what is forgotten -/
theorem fin_same {S U : Sto} {p : PyData} {Q : Val → Sto → Prop} (q : Q (.d p) S) : CutOk S (S ++ U) ∧ ∃ y, frzV S.length (S ++ U) (.d p) = some y ∧ Q y ((S ++ U).take S.length) :=
  ⟨fun i o h hl => .inl (by rw [List.getElem?_append_left hl] at h; exact h), _, rfl, by simpa using q⟩
theorem fin_same0 {S : Sto} {p : PyData} {Q : Val → Sto → Prop} (q : Q (.d p) S) : CutOk S S ∧ ∃ y, frzV S.length S (.d p) = some y ∧ Q y (S.take S.length) := by
  have := fin_same (U := []) q
  simpa using this
theorem at_nat {α : Type} {xs : List α} {k : Nat} (h : k < xs.length) : atI xs (k : Int) = some xs[k] := by
  unfold atI ixN
  rw [if_pos (by omega), if_pos (by omega)]
  simp [h]
theorem at_int {α : Type} {xs : List α} {i : Int} (h0 : 0 ≤ i) (h : i < xs.length) : ∃ x, atI xs i = some x ∧ x ∈ xs := by
  obtain ⟨k, rfl⟩ := Int.eq_ofNat_of_zero_le h0
  have hk : k < xs.length := by omega
  exact ⟨_, at_nat hk, List.getElem_mem hk⟩
theorem taken_ok {o : Ob} {T : Sto} {m : Int} {Q : Val → Sto → Prop} (h : Rw o) (hm : 0 < m) (q : ∀ (d : Int) (o' : Ob), Rw o' → 0 ≤ d → d < m → Q (.d (.int d)) (o' :: T)) : WG (g__law_taken [.ref 0, .d (.int m)] (o :: T)) Q := by
  obtain ⟨ns, k, st, rfl, hk, h0, h1⟩ := h
  have mu : CMul st 48271 := .inl ⟨by omega, by omega⟩
  refine wg_cut ?_
  unfold b__law_taken
  repeat left
  refine ite_d (fun h => ?_) (fun h => ?_)
  · repeat left
    refine wg_mul mu ?_
    repeat left
    refine wg_div ⟨by decide, by decide⟩ ?_
    repeat left
    refine wg_mod hm ?_
    repeat left
    exact fin_row ⟨ns, _, _, rfl, by omega, by omega, by omega⟩ (q _ _ ⟨ns, _, _, rfl, by omega, by omega, by omega⟩ (Int.emod_nonneg _ (by omega)) (Int.emod_lt_of_pos _ hm))
  · repeat left
    have hl : k < ns.length := by
      simp at h
      omega
    obtain ⟨p, hp, hm2⟩ := at_int (xs := ns.map PyData.int) (i := k) hk (by simpa using hl)
    obtain ⟨c, _, rfl⟩ := List.mem_map.mp hm2
    refine wg_ixL (p := .int c) (by rw [show k + 1 - 1 = k by omega]; exact hp) ?_
    repeat left
    refine wg_mul mu ?_
    repeat left
    refine wg_mod hm ?_
    repeat left
    exact fin_row ⟨ns, _, _, rfl, by omega, by omega, by omega⟩ (q _ _ ⟨ns, _, _, rfl, by omega, by omega, by omega⟩ (Int.emod_nonneg _ (by omega)) (Int.emod_lt_of_pos _ hm))

/-! ### the case that a script draws -/
structure Blk where
  name : List Nat
  len : Int
  lo : Int
  hi : Int
abbrev Blk.key (b : Blk) : Str := ⟨b.name.toArray⟩
def Blk.pd (b : Blk) : PyData := .tuple [.str b.key, .int b.len, .int b.lo, .int b.hi]
structure Blk.Ok (b : Blk) : Prop where
  n1 : 1 ≤ b.name.length
  n8 : b.name.length ≤ 8
  az : ∀ c ∈ b.name, 97 ≤ c ∧ c < 123
  l1 : 1 ≤ b.len
  l2 : b.len ≤ 9999
  lo : -99 ≤ b.lo
  mid : b.lo ≤ b.hi
  hi : b.hi ≤ 99
  zz : b.name ≠ [122, 122]
structure CaseOk (a b : Int) (bl : List Blk) : Prop where
  a0 : 0 ≤ a
  ab : a ≤ b
  b9 : b ≤ 9
  few : bl.length ≤ 10
  ok : ∀ x ∈ bl, x.Ok
  nd : (bl.map (·.name)).Nodup
def sg (turn : Int) (k : Nat) : Nat := 97 + ((turn + 5 * (k : Int)) % 26).toNat
theorem sg_az (turn : Int) (k : Nat) : 97 ≤ sg turn k ∧ sg turn k < 123 := by unfold sg; omega
theorem sg_inj {turn : Int} {j k : Nat} (hj : j < 17) (hk : k < 17) (h : sg turn j = sg turn k) : j = k := by unfold sg at h; omega
def bs (turn : Int) : List Nat := (List.range 7).map fun j => sg turn (10 + j)
def cutK (shift : Int) (k : Nat) : Nat := ((shift + 3 * (k : Int)) % 8).toNat
def nameK (turn shift : Int) (tw : Bool) (k : Nat) : List Nat := if tw then (bs turn).drop (cutK shift k) ++ [sg turn (k - k % 2)] else (bs turn).take (cutK shift k) ++ [sg turn k]
theorem bs_len (turn : Int) : (bs turn).length = 7 := rfl
theorem cutK_lt (shift : Int) (k : Nat) : cutK shift k < 8 := by unfold cutK; omega
theorem bs_az {turn : Int} {c : Nat} (h : c ∈ bs turn) : 97 ≤ c ∧ c < 123 := by
  obtain ⟨j, _, rfl⟩ := List.mem_map.mp h
  exact sg_az _ _
theorem nameK_ok (turn shift : Int) (tw : Bool) (k : Nat) : 1 ≤ (nameK turn shift tw k).length ∧ (nameK turn shift tw k).length ≤ 8 ∧ ∀ c ∈ nameK turn shift tw k, 97 ≤ c ∧ c < 123 := by
  have h8 := cutK_lt shift k
  unfold nameK
  cases tw
  · simp only [Bool.false_eq_true, if_false, List.length_append, List.length_take, bs_len, List.length_singleton]
    refine ⟨by omega, by omega, fun c hc => ?_⟩
    rcases List.mem_append.mp hc with h | h
    · exact bs_az (List.mem_of_mem_take h)
    · rw [List.mem_singleton.mp h]
      exact sg_az _ _
  · simp only [if_true, List.length_append, List.length_drop, bs_len, List.length_singleton]
    refine ⟨by omega, by omega, fun c hc => ?_⟩
    rcases List.mem_append.mp hc with h | h
    · exact bs_az (List.mem_of_mem_drop h)
    · rw [List.mem_singleton.mp h]
      exact sg_az _ _
theorem nameK_zz {turn shift : Int} {tw : Bool} {k : Nat} (hk : k < 10) : nameK turn shift tw k ≠ [122, 122] := fun h => by
  have h8 := cutK_lt shift k
  unfold nameK at h
  cases tw
  · simp only [Bool.false_eq_true, if_false] at h
    have h1 := List.append_inj' (show (bs turn).take (cutK shift k) ++ [sg turn k] = [122] ++ [122] from h) rfl
    have hl := congrArg List.length h1.1
    simp only [List.length_take, bs_len, List.length_singleton] at hl
    have hc : cutK shift k = 1 := by omega
    rw [hc] at h1
    have a1 : [sg turn (10 + 0)] = [122] := h1.1
    have a2 : [sg turn k] = [122] := h1.2
    have := sg_inj (j := 10) (k := k) (by omega) (by omega) ((List.cons.inj a1).1.trans (List.cons.inj a2).1.symm)
    omega
  · simp only [if_true] at h
    have h1 := List.append_inj' (show (bs turn).drop (cutK shift k) ++ [sg turn (k - k % 2)] = [122] ++ [122] from h) rfl
    have hl := congrArg List.length h1.1
    simp only [List.length_drop, bs_len, List.length_singleton] at hl
    have hc : cutK shift k = 6 := by omega
    rw [hc] at h1
    have a1 : [sg turn (10 + 6)] = [122] := h1.1
    have a2 : [sg turn (k - k % 2)] = [122] := h1.2
    have := sg_inj (j := 16) (k := k - k % 2) (by omega) (by omega) ((List.cons.inj a1).1.trans (List.cons.inj a2).1.symm)
    omega
theorem nameK_inj {turn shift : Int} {tw : Bool} {j k : Nat} (hj : j < 17) (hk : k < 17) (h : nameK turn shift tw j = nameK turn shift tw k) : j = k := by
  have h8 := cutK_lt shift j
  have h9 := cutK_lt shift k
  unfold nameK at h
  cases tw
  · simp only [Bool.false_eq_true, if_false] at h
    have := (List.append_inj' h rfl).2
    exact sg_inj hj hk (by simpa using this)
  · simp only [if_true] at h
    have h1 := List.append_inj' h rfl
    have h2 : sg turn (j - j % 2) = sg turn (k - k % 2) := by simpa using h1.2
    have h3 := sg_inj (by omega) (by omega) h2
    have h4 : ((bs turn).drop (cutK shift j)).length = ((bs turn).drop (cutK shift k)).length := by rw [h1.1]
    simp only [List.length_drop, bs_len] at h4
    unfold cutK at h4 h8 h9
    omega
theorem letters_at : ∀ i : Fin 26, atI (PySem.Str.cps "abcdefghijklmnopqrstuvwxyz").toList ((i.val : Nat) : Int) = some (97 + i.val) := by decide +kernel
theorem letter {i : Int} (h0 : 0 ≤ i) (h : i < 26) : atI (PySem.Str.cps "abcdefghijklmnopqrstuvwxyz").toList i = some (97 + i.toNat) := by
  obtain ⟨k, rfl⟩ := Int.eq_ofNat_of_zero_le h0
  exact letters_at ⟨k, by omega⟩
theorem mem_intV {n : Nat} {v : Val} (h : v ∈ intV 0 1 n) : ∃ k : Nat, k < n ∧ v = .d (.int k) := by
  obtain ⟨k, hk, rfl⟩ := List.mem_map.mp h
  exact ⟨k, List.mem_range.mp hk, by simp⟩
def signs (turn : Int) : List PyData := (List.range 17).map fun k => PyData.str ⟨#[sg turn k]⟩
theorem cut_signs (turn : Int) : cutL (signs turn) (some 10) none = ((List.range 7).map fun j => (⟨#[sg turn (10 + j)]⟩ : Str)).map PyData.str := rfl
theorem join_signs (turn : Int) : Txt.join "" ((List.range 7).map fun j => (⟨#[sg turn (10 + j)]⟩ : Str)) = ⟨(bs turn).toArray⟩ := rfl
theorem blk_cut (turn : Int) (c : Nat) (hc : c < 8) : cutS ⟨(bs turn).toArray⟩ none (some c) = ⟨((bs turn).take c).toArray⟩ ∧ cutS ⟨(bs turn).toArray⟩ (some c) none = ⟨((bs turn).drop c).toArray⟩ := by
  match c, hc with
  | 0, _ => exact ⟨rfl, rfl⟩
  | 1, _ => exact ⟨rfl, rfl⟩
  | 2, _ => exact ⟨rfl, rfl⟩
  | 3, _ => exact ⟨rfl, rfl⟩
  | 4, _ => exact ⟨rfl, rfl⟩
  | 5, _ => exact ⟨rfl, rfl⟩
  | 6, _ => exact ⟨rfl, rfl⟩
  | 7, _ => exact ⟨rfl, rfl⟩
/-- the turn's block -/
structure BlkAt (turn shift : Int) (tw : Bool) (k : Nat) (b : Blk) : Prop where
  nm : b.name = nameK turn shift tw k
  l1 : 1 ≤ b.len
  l2 : b.len ≤ 9999
  lo : -99 ≤ b.lo
  mid : b.lo ≤ b.hi
  hi : b.hi ≤ 99
theorem atI_three {a b c i : Int} (h0 : 0 ≤ i) (h : i < 3) : ∃ x, atI [PyData.int a, .int b, .int c] i = some (.int x) ∧ (x = a ∨ x = b ∨ x = c) := by
  have : i = 0 ∨ i = 1 ∨ i = 2 := by omega
  rcases this with rfl | rfl | rfl
  · exact ⟨a, rfl, .inl rfl⟩
  · exact ⟨b, rfl, .inr (.inl rfl)⟩
  · exact ⟨c, rfl, .inr (.inr rfl)⟩
theorem atI_two {a b i : Int} (h0 : 0 ≤ i) (h : i < 2) : ∃ x, atI [PyData.int a, .int b] i = some (.int x) ∧ (x = a ∨ x = b) := by
  have : i = 0 ∨ i = 1 := by omega
  rcases this with rfl | rfl
  · exact ⟨a, rfl, .inl rfl⟩
  · exact ⟨b, rfl, .inr rfl⟩
theorem sto1_at {o u : Ob} {T : Sto} : (o :: (T ++ [u]))[T.length + 1]? = some u := by simp
theorem sto1_set {o u v : Ob} {T : Sto} : (o :: (T ++ [u])).set (T.length + 1) v = o :: (T ++ [v]) := by simp
theorem signs_at {turn : Int} {k : Nat} (h : k < 17) : atI (signs turn) (k : Int) = some (.str ⟨#[sg turn k]⟩) := by
  have hl : k < (signs turn).length := h
  rw [at_nat hl]
  simp [signs]
theorem cutK_int {shift : Int} {k : Nat} : (shift + 3 * (k : Int)) % 8 = ((cutK shift k : Nat) : Int) := by unfold cutK; omega
theorem atI_tw {a b : PyData} {t : Bool} : atI [a, b] (if t then 1 else 0) = some (if t then b else a) := by cases t <;> rfl
theorem str_app (a b : List Nat) : (⟨a.toArray⟩ : Str) ++ ⟨b.toArray⟩ = ⟨(a ++ b).toArray⟩ := by
  show Str.mk (a.toArray ++ b.toArray) = _
  simp
theorem str_len (a : List Nat) : (⟨a.toArray⟩ : Str).length = a.length := by simp [Str.length]
theorem size16 {n : Nat} (h : n ≤ 1000000) : n ≤ sizeLine := Nat.le_trans h (Nat.le_of_ble_eq_true rfl)
theorem nameK_str {turn shift : Int} {t : Bool} {k : Nat} : (if t then PyData.str ⟨((bs turn).drop (cutK shift k) ++ [sg turn (k - k % 2)]).toArray⟩ else PyData.str ⟨((bs turn).take (cutK shift k) ++ [sg turn k]).toArray⟩) = .str ⟨(nameK turn shift t k).toArray⟩ := by
  unfold nameK
  cases t <;> rfl
end Lw
end
section
set_option Elab.async false
set_option linter.all false
set_option autoImplicit false
set_option maxRecDepth 100000
set_option maxHeartbeats 2000000
namespace Lw
open PySem PySem.Spec PyProof.Rows L2 Lv
local macro_rules
  | `(tactic| left) => `(tactic| first
    | (with_reducible refine ws_seq ?_) | (with_reducible refine ws_set ?_) | (with_reducible refine ws_expr ?_) | (with_reducible refine ws_ret ?_) | (with_reducible refine ws_retN ?_) | (with_reducible refine ws_if ?_) | (with_reducible refine ws_next ?_) | (with_reducible refine ws_asg ?_) | (with_reducible refine ws_setIx ?_) | (with_reducible refine ws_for ?_)
    | ((with_reducible refine thenS_nx ?_); try simp only [env0, List.map_cons, List.map_nil, List.length_cons, List.length_nil, Nat.reduceAdd, Nat.reduceSub, List.replicate, List.cons_append, List.nil_append, List.set_cons_succ, List.set_cons_zero])
    | (with_reducible refine thenS_rt ?_) | (with_reducible refine endG_nx ?_) | (with_reducible refine endG_rt ?_) | (with_reducible refine turnS_nx ?_) | (with_reducible refine turnS_rt ?_)
    | (with_reducible refine we_int ?_) | (with_reducible refine we_str ?_) | (with_reducible refine we_bool ?_) | (with_reducible refine we_non ?_) | (with_reducible refine we_op ?_) | (with_reducible refine we_op1 ?_) | (with_reducible refine we_fn ?_) | (with_reducible refine we_call ?_) | (with_reducible refine we_not ?_) | (with_reducible refine we_and ?_) | (with_reducible refine we_or ?_) | (with_reducible refine we_ifx ?_)
    | (with_reducible refine we_ch2 ?_) | (with_reducible refine we_ch3 ?_) | (with_reducible refine we_sl ?_) | (with_reducible refine wa_nil ?_) | (with_reducible refine wa_cons ?_) | (with_reducible refine wp_none ?_) | (with_reducible refine wp_some ?_) | (with_reducible refine wb_intro ?_) | (with_reducible refine ite_t ?_) | (with_reducible refine ite_f ?_) | (with_reducible refine ite_nt ?_) | (with_reducible refine ite_nf ?_)
    | (with_reducible refine we_lc ?_) | (with_reducible refine we_lcN ?_) | (with_reducible refine we_make ?_) | (with_reducible refine we_disp ?_) | (with_reducible refine wk_nil ?_) | (with_reducible refine wk_cons ?_) | (with_reducible refine ws_fld ?_) | (with_reducible refine we_fld ?_) | (with_reducible refine we_meth ?_) | (with_reducible refine we_dic0 ?_)
    | (with_reducible refine we_join ?_)
    | (with_reducible refine we_lm ?_)
    | ((with_reducible apply we_var); exact rfl)
    | (with_reducible refine wg_addI ?_) | (with_reducible refine wg_sub ?_) | (with_reducible refine wg_lt ?_) | (with_reducible refine wg_le ?_) | (with_reducible refine wg_gt ?_) | (with_reducible refine wg_ge ?_) | (with_reducible refine wg_eqI ?_) | (with_reducible refine wg_neI ?_)
    | (with_reducible refine wg_lenL ?_) | (with_reducible refine wg_lenT ?_) | (with_reducible refine wg_intI ?_) | (with_reducible refine wg_intB ?_) | (with_reducible refine wg_min2 ?_) | (with_reducible refine wg_max2 ?_) | (with_reducible refine wg_neg ?_)
    | (with_reducible refine wg_isN ?_) | (with_reducible refine wg_isNot ?_) | (with_reducible refine wg_tupleT ?_) | (with_reducible refine wg_listL ?_) | (with_reducible refine wg_listT ?_) | (with_reducible refine wg_slL ?_) | (with_reducible refine wg_slT ?_)
    | (with_reducible refine wg_mod (by decide) ?_) | (with_reducible refine wg_div (by decide) ?_)
    | ((with_reducible apply wg_lst); exact Nat.le_of_ble_eq_true rfl; exact rfl) | ((with_reducible apply wg_tup); exact Nat.le_of_ble_eq_true rfl; exact rfl) | ((with_reducible apply wg_lstN); exact Nat.le_of_ble_eq_true rfl)
    | ((with_reducible apply wg_ixR); exact rfl; exact rfl) | ((with_reducible apply wg_ixL); exact rfl) | ((with_reducible apply wg_ixT); exact rfl) | ((with_reducible apply wg_ixRT); exact rfl; exact rfl)
    | ((with_reducible apply fset_lst); exact rfl; exact rfl; try simp only [Int.reduceToNat, List.set_cons_succ, List.set_cons_zero])
    | (with_reducible refine ex_str ?_) | (with_reducible refine ex_int ?_) | ((with_reducible apply ex_lm); exact rfl)
    | (with_reducible refine ex_seqLd ?_) | (with_reducible refine ex_seqTd ?_) | (with_reducible refine ex_seqSd ?_) | (with_reducible refine ex_name ?_) | ((with_reducible apply ex_atup); exact rfl)
    | ((with_reducible apply ex_rng1); exact rg_ok (by omega) (by omega)) | ((with_reducible apply ex_rng2); exact rg_ok (by omega) (by omega); exact rg_ok (by omega) (by omega))
    | (with_reducible exact ⟨rfl, rfl⟩) | (with_reducible refine and_eq ?_)  | (with_reducible assumption) )
local macro_rules
  | `(tactic| left) => `(tactic| first
    | (with_reducible refine ws_setIxN ?_) | (with_reducible refine we_dicN ?_) | (with_reducible refine we_dget2 ?_) | (with_reducible refine we_dpop ?_) | (with_reducible refine ws_raise ?_) | (with_reducible refine ws_raiseI ?_) | (with_reducible refine ws_try ?_)
    | (with_reducible refine thenS_er ?_) | (with_reducible refine turnS_er ?_) | (with_reducible refine thenS_ct ?_) | (with_reducible refine thenS_bk ?_) | (with_reducible refine endX_nx ?_) | (with_reducible refine endX_rt ?_) | (with_reducible refine endX_er ?_) | (with_reducible refine clS_rt ?_) | (with_reducible refine clS_nx ?_) | (with_reducible refine clS_er ?_) )
def letters : List Nat := (PySem.Str.cps "abcdefghijklmnopqrstuvwxyz").toList
def isNm (s : Str) : Bool := decide (1 ≤ s.length) && (decide (s.length ≤ 8) && s.cps.toList.all fun c => decide (c ∈ letters))
theorem eqv_signs (l : List Nat) : PyData.eqv (.list (l.map fun c => PyData.str ⟨#[c]⟩)) (.list []) = l.isEmpty := by
  cases l with
  | nil => rfl
  | cons c l => simp [PyData.eqv, PyData.eqvAll]
theorem is_name_any {s : Str} {S : Sto} {Q : Val → Sto → Prop} (small : s.length ≤ 1000) (hok : ∀ c ∈ s.cps.toList, SeqAt.shaped (.str ⟨#[c]⟩) = true) (q : Q (.d (.bool (isNm s))) S) : WG (g_is_name [.d (.str s)] S) Q := by
  refine wg_cut ?_
  unfold b_is_name
  have hs : s.cps.toList.length = s.length := by simp [Str.length]
  refine ws_ret (we_and (we_ch2 (we_int (we_fn (wa_cons (we_var rfl (wa_nil (wg_lenS (size16 (by omega)) (wg_le (wb_intro ?_))))))))))
  by_cases h1 : 1 ≤ s.length
  case neg =>
    have e : isNm s = false := by simp [isNm, h1]
    rw [decide_eq_false (by omega)]
    rw [e] at q
    exact ite_f (wb_intro (ite_f (endG_rt (fin_same0 q))))
  rw [decide_eq_true (by omega)]
  refine ite_t (we_int (wg_le (wb_intro ?_)))
  by_cases h8 : s.length ≤ 8
  case neg =>
    have e : isNm s = false := by simp [isNm, h8]
    rw [decide_eq_false (by omega)]
    rw [e] at q
    exact ite_f (endG_rt (fin_same0 q))
  rw [decide_eq_true (by omega)]
  refine ite_t (we_op (we_lc (wa_cons (we_var rfl (wa_nil (ex_seqSd ?_))))))
  simp only [wipeE, List.set_cons_succ, List.set_cons_zero, env0, List.map_cons, List.map_nil, List.length_cons, List.length_nil, Nat.reduceAdd, Nat.reduceSub, List.replicate, List.cons_append, List.nil_append]
  refine wl_clT (pr := fun c => !decide (c ∈ letters)) (fn := fun c => .str ⟨#[c]⟩) (by exact True.intro) (fun c hc => ⟨_, rfl, ?_, fun _ => we_eq (we_var rfl ⟨rfl, rfl⟩)⟩) (size16 (by omega)) ?_
  · exact we_op (we_var rfl (we_str (wg_notIn (b := decide (c ∈ letters)) rfl ⟨rfl, rfl⟩)))
  have e : isNm s = (s.cps.toList.filter fun c => !decide (c ∈ letters)).isEmpty := by
    simp only [isNm, h1, h8, decide_true, Bool.true_and]
    rw [Bool.eq_iff_iff, List.all_eq_true, List.isEmpty_iff, List.filter_eq_nil_iff]
    constructor
    · intro h c hc
      simp [h c hc]
    · intro h c hc
      have := h c hc
      simpa using this
  rw [e] at q
  have sub : ∀ c ∈ s.cps.toList.filter (fun c => !decide (c ∈ letters)), SeqAt.shaped (.str ⟨#[c]⟩) = true := fun c hc => hok c (List.mem_filter.mp hc).1
  generalize (s.cps.toList.filter fun c => !decide (c ∈ letters)) = l at q sub
  refine we_fn (wa_nil (wg_lst (ps := []) (Nat.le_of_ble_eq_true rfl) rfl (wg_eqD (b := l.isEmpty) ?_ rfl (eqv_signs l) (endG_rt (fin_same0 q)))))
  have : PyData.canLayAll0 (l.map fun c => PyData.str ⟨#[c]⟩) = true ∧ PyData.depthAll (l.map fun c => PyData.str ⟨#[c]⟩) = 0 := by
    clear e q
    induction l with
    | nil => exact ⟨rfl, rfl⟩
    | cons c l ih =>
      obtain ⟨i1, i2⟩ := ih fun c hc => sub c (List.mem_cons_of_mem _ hc)
      have := sub c List.mem_cons_self
      unfold SeqAt.shaped at this
      simp only [Bool.and_eq_true] at this
      refine ⟨by simp [PyData.canLayAll0, this.1, i1], ?_⟩
      simp only [List.map_cons, PyData.depthAll, PyData.depth, i2]
      rfl
  exact shaped_list (n := 0) this.1 (Nat.le_of_eq this.2) (by decide)
theorem must_x {Er : Xn → Sto → Prop} {S : Sto} {Q : Val → Sto → Prop} {t : Bool} (q : t = true → Q (.d .none) S) (qe : t = false → Er ⟨"BadCase", none⟩ S) : WEX Er (g_must [.d (.bool t)] S) Q := by
  refine wx_cut ?_
  unfold b_must
  refine ws_if (we_not (we_var rfl (wb_intro (wb_intro ?_))))
  cases t with
  | true => exact ite_nt (ws_next (endX_nx (fin_same0 (q rfl))))
  | false => exact ite_nf (ws_raise (endX_er ⟨fun i o h _ => .inl h, _, rfl, by simpa using qe rfl⟩))
/-! Case(..) -/
def kvOf (b : Blk) : Key × Val := (.inr b.key, .d (.tuple [.int b.len, .int b.lo, .int b.hi]))
def caseOb (C : Addr) (a b : Int) (n : Nat) : Ob := .ins C [("film", .d (.tuple [.int a, .int b])), ("blocks", .ref (n + 1)), ("kept", .ref (n + 2)), ("given", .d (.int 0))]
/-- a block that is told, whatever it is -/
structure Raw where
  nm : Str
  len : Int
  lo : Int
  hi : Int
def Raw.pd (x : Raw) : PyData := .tuple [.str x.nm, .int x.len, .int x.lo, .int x.hi]
def Raw.kv (x : Raw) : Key × Val := (.inr x.nm, .d (.tuple [.int x.len, .int x.lo, .int x.hi]))
def Raw.num (x : Raw) : Prop := 1 ≤ x.len ∧ x.len ≤ 9999 ∧ -99 ≤ x.lo ∧ x.lo ≤ x.hi ∧ x.hi ≤ 99
instance (x : Raw) : Decidable x.num := by unfold Raw.num; infer_instance
def goodB (seen : List Str) : List Raw → Prop
  | [] => True
  | x :: r => (isNm x.nm = true ∧ x.nm ∉ seen) ∧ x.num ∧ goodB (seen ++ [x.nm]) r
def GoodC (a b : Int) (bl : List Raw) : Prop := (0 ≤ a ∧ a ≤ b ∧ b ≤ 9) ∧ bl.length ≤ 10 ∧ goodB [] bl
instance goodB_dec : ∀ (bl : List Raw) (seen : List Str), Decidable (goodB seen bl)
  | [], _ => by unfold goodB; infer_instance
  | x :: r, seen => by
    have := goodB_dec r (seen ++ [x.nm])
    unfold goodB
    infer_instance
instance (a b : Int) (bl : List Raw) : Decidable (GoodC a b bl) := by
  have := goodB_dec bl []
  unfold GoodC
  infer_instance
theorem goodB_app : ∀ (dn r : List Raw) (seen : List Str), goodB seen (dn ++ r) ↔ goodB seen dn ∧ goodB (seen ++ dn.map (·.nm)) r
  | [], r, seen => by simp [goodB]
  | x :: dn, r, seen => by
    show _ ∧ _ ∧ goodB _ (dn ++ r) ↔ (_ ∧ _ ∧ goodB _ dn) ∧ _
    rw [goodB_app dn r (seen ++ [x.nm])]
    simp only [List.append_assoc, List.map_cons, List.cons_append, List.nil_append, and_assoc]
theorem raw_in {dn : List Raw} {s : Str} : (valK (dn.map Raw.kv) (.inr s)).isSome = decide (s ∈ dn.map (·.nm)) := by
  unfold valK
  rw [Option.isSome_map, Bool.eq_iff_iff, decide_eq_true_iff, List.find?_isSome]
  constructor
  · rintro ⟨q, hq, h⟩
    obtain ⟨x, hx, rfl⟩ := List.mem_map.mp hq
    have : Sum.inr x.nm = (Sum.inr s : Key) := of_decide_eq_true h
    exact List.mem_map.mpr ⟨x, hx, Sum.inr.inj this⟩
  · intro h
    obtain ⟨x, hx, rfl⟩ := List.mem_map.mp h
    exact ⟨x.kv, List.mem_map_of_mem hx, decide_eq_true rfl⟩
theorem init_x {C : Addr} {a b : Int} {bl : List Raw} {S : Sto} {Er : Xn → Sto → Prop} {Q : Val → Sto → Prop} (few : bl.length ≤ 1000) (small : ∀ x ∈ bl, x.nm.length ≤ 1000) (hok : ∀ x ∈ bl, ∀ c ∈ x.nm.cps.toList, SeqAt.shaped (.str ⟨#[c]⟩) = true)
    (q : GoodC a b bl → Q (.d .none) (S ++ [caseOb C a b S.length, .dic (bl.map Raw.kv), .dic []])) (qe : ¬ GoodC a b bl → ∀ U, Er ⟨"BadCase", none⟩ (S ++ U)) :
    WEX Er (g_Case_init C [.ref S.length, .d (.tuple [.int a, .int b]), .d (.list (bl.map Raw.pd))] (S ++ [.ins C []])) Q := by
  refine wx_keep ?_
  unfold b_Case_init
  refine ws_seq (ws_exprX (wex_call (wa_cons (we_ch3 (we_int (we_op (we_var rfl (we_int (wg_ixT (p := .int a) rfl (wg_le (wb_intro ?_)))))))))))
  by_cases h1 : 0 ≤ a
  case neg =>
    rw [decide_eq_false h1]
    exact ite_f (wa_nil (must_x (fun h => by cases h) fun _ => thenS_er (endX_er (qe (fun g => h1 g.1.1) _))))
  rw [decide_eq_true h1]
  refine ite_t (we_op (we_var rfl (we_int (wg_ixT (p := .int b) rfl (wg_le (wb_intro ?_))))))
  by_cases h2 : a ≤ b
  case neg =>
    rw [decide_eq_false h2]
    exact ite_f (wa_nil (must_x (fun h => by cases h) fun _ => thenS_er (endX_er (qe (fun g => h2 g.1.2.1) _))))
  rw [decide_eq_true h2]
  refine ite_t (we_int (wg_le (wa_nil (must_x (fun h3 => thenS_nx ?_) fun h3 => thenS_er (endX_er (qe (fun g => of_decide_eq_false h3 g.1.2.2) _))))))
  have h3 := of_decide_eq_true h3
  refine ws_seq (ws_exprX (wex_call (wa_cons (we_op (we_fn (wa_cons (we_var rfl (wa_nil (wg_lenL (we_int (wg_le (wa_nil (must_x (fun h4 => thenS_nx ?_) fun h4 => thenS_er (endX_er (qe (fun g => of_decide_eq_false h4 (by rw [List.length_map]; exact Int.ofNat_le.mpr g.2.1)) _)))))))))))))))
  have h4 := of_decide_eq_true h4
  rw [List.length_map] at h4
  have h4 : bl.length ≤ 10 := Int.ofNat_le.mp h4
  simp only [env0, List.map_cons, List.map_nil, List.length_cons, List.length_nil, Nat.reduceAdd, Nat.reduceSub, List.replicate, List.cons_append, List.nil_append]
  repeat left
  refine ex_fld (fs' := [("film", .d (.tuple [.int a, .int b]))]) rfl (Nat.le_of_ble_eq_true rfl) ?_
  repeat left
  simp only [List.append_assoc, List.cons_append, List.nil_append, List.length_append, List.length_cons, List.length_nil, Nat.zero_add]
  refine ex_fld (fs' := [("film", .d (.tuple [.int a, .int b])), ("blocks", .ref (S.length + 1))]) rfl (Nat.le_of_ble_eq_true rfl) ?_
  refine thenS_nx (ws_seq (ws_for (wa_cons (we_var rfl (wa_nil (ex_seqLd ?_))))))
  rw [show (List.map Val.d (List.map Raw.pd bl)) = bl.map fun x => Val.d x.pd by simp]
  refine ws_loopM (fun dn e U => goodB [] dn ∧ ∃ x3 x4 x5 x6 : Option Val, e = [some (.ref S.length), some (.d (.tuple [.int a, .int b])), some (.d (.list (bl.map Raw.pd))), x3, x4, x5, x6] ∧ U = S ++ [.ins C [("film", .d (.tuple [.int a, .int b])), ("blocks", .ref (S.length + 1))], .dic (dn.map Raw.kv)])
    (fun dn y r e U hx hI => ?_) (fun e U hI => ⟨by exact True.intro, ?_⟩) ⟨True.intro, _, _, _, _, rfl, rfl⟩
  · obtain ⟨hg, x3, x4, x5, x6, rfl, rfl⟩ := hI
    have hm : y ∈ bl := by rw [hx]; simp
    have split_ : GoodC a b bl → (isNm y.nm = true ∧ y.nm ∉ dn.map (·.nm)) ∧ y.num := fun g => by
      have := g.2.2
      rw [hx, goodB_app] at this
      exact ⟨this.2.1, this.2.2.1⟩
    refine ⟨by exact True.intro, _, rfl, ?_⟩
    simp only [List.set_cons_succ, List.set_cons_zero]
    refine ws_seq (ws_exprX (wex_call (wa_cons (we_and (we_call (wa_cons (we_var rfl (wa_nil (is_name_any (small y hm) (hok y hm) (wb_intro ?_))))))))))
    cases hn : isNm y.nm with
    | false => exact ite_f (wa_nil (must_x (fun h => by cases h) fun _ => thenS_er (turnS_er (thenS_er (endX_er (qe (fun g => by have := (split_ g).1.1; rw [hn] at this; cases this) _))))))
    | true =>
    refine ite_t (we_op (we_var rfl (we_fld (we_var rfl (ex_get get_fst rfl (wg_notIn (inA_dic get_snd rfl) ?_))))))
    rw [raw_in]
    refine wa_nil (must_x (fun hf => thenS_nx ?_) fun hf => thenS_er (turnS_er (thenS_er (endX_er (qe (fun g => ?_) _)))))
    case refine_2 =>
      have := (split_ g).1.2
      simp only [Bool.not_eq_false', decide_eq_true_eq] at hf
      exact this hf
    have hf : y.nm ∉ dn.map (·.nm) := by simpa using hf
    have no : ∀ {R : Fl → Ev → Sto → Prop} {e : Ev} {U : List Ob} {M : MS}, ¬ y.num → ¬ GoodC a b bl := fun h g => h (split_ g).2
    refine ws_seq (ws_exprX (wex_call (wa_cons (we_and (we_ch2 (we_int (we_var rfl (wg_le (wb_intro ?_)))))))))
    by_cases n1 : 1 ≤ y.len
    case neg =>
      rw [decide_eq_false n1]
      exact ite_f (wb_intro (ite_f (wa_nil (must_x (fun h => by cases h) fun _ => thenS_er (turnS_er (thenS_er (endX_er (qe (fun g => n1 (split_ g).2.1) _))))))))
    rw [decide_eq_true n1]
    refine ite_t (we_int (wg_le (wb_intro ?_)))
    by_cases n2 : y.len ≤ 9999
    case neg =>
      rw [decide_eq_false n2]
      exact ite_f (wa_nil (must_x (fun h => by cases h) fun _ => thenS_er (turnS_er (thenS_er (endX_er (qe (fun g => n2 (split_ g).2.2.1) _))))))
    rw [decide_eq_true n2]
    refine ite_t (we_ch3 (we_op (we_int (we_int (wg_sub (we_var rfl (wg_le (wb_intro ?_))))))))
    by_cases n3 : -99 ≤ y.lo
    case neg =>
      rw [decide_eq_false (by omega)]
      exact ite_f (wa_nil (must_x (fun h => by cases h) fun _ => thenS_er (turnS_er (thenS_er (endX_er (qe (fun g => n3 (split_ g).2.2.2.1) _))))))
    rw [decide_eq_true (by omega)]
    refine ite_t (we_var rfl (wg_le (wb_intro ?_)))
    by_cases n4 : y.lo ≤ y.hi
    case neg =>
      rw [decide_eq_false n4]
      exact ite_f (wa_nil (must_x (fun h => by cases h) fun _ => thenS_er (turnS_er (thenS_er (endX_er (qe (fun g => n4 (split_ g).2.2.2.2.1) _))))))
    rw [decide_eq_true n4]
    refine ite_t (we_int (wg_le (wa_nil (must_x (fun n5 => thenS_nx ?_) fun n5 => thenS_er (turnS_er (thenS_er (endX_er (qe (fun g => of_decide_eq_false n5 (split_ g).2.2.2.2.2) _))))))))
    have n5 := of_decide_eq_true n5
    have hlen : dn.length ≤ 10 := by
      have := congrArg List.length hx
      simp at this
      omega
    have fresh : ∀ q ∈ dn.map Raw.kv, q.1 ≠ Sum.inr y.nm := fun q hq z => by
      obtain ⟨w, hw, rfl⟩ := List.mem_map.mp hq
      exact hf (List.mem_map.mpr ⟨w, hw, Sum.inr.inj z⟩)
    repeat left
    refine ex_get get_fst rfl ?_
    repeat left
    refine fset_dic get_snd rfl (by rw [List.length_map]; exact Nat.lt_of_lt_of_le (show dn.length < 1000000 by omega) (Nat.le_of_ble_eq_true rfl)) ?_
    rw [putV_new fresh]
    refine turnS_nx ⟨?_, _, _, _, _, rfl, by simp [Raw.kv]⟩
    rw [goodB_app]
    exact ⟨hg, ⟨hn, by simpa using hf⟩, ⟨n1, n2, n3, n4, n5⟩, True.intro⟩
  · obtain ⟨hg, x3, x4, x5, x6, rfl, rfl⟩ := hI
    have q := q ⟨⟨h1, h2, h3⟩, h4, hg⟩
    repeat left
    simp only [List.append_assoc, List.cons_append, List.nil_append, List.length_append, List.length_cons, List.length_nil, Nat.zero_add]
    refine ex_fld (fs' := [("film", .d (.tuple [.int a, .int b])), ("blocks", .ref (S.length + 1)), ("kept", .ref (S.length + 2))]) rfl (Nat.le_of_ble_eq_true rfl) ?_
    repeat left
    refine ex_fld (fs' := [("film", .d (.tuple [.int a, .int b])), ("blocks", .ref (S.length + 1)), ("kept", .ref (S.length + 2)), ("given", .d (.int 0))]) rfl (Nat.le_of_ble_eq_true rfl) ?_
    repeat left
    exact q
/-- a case in the store -/
structure CaseAt (C : Addr) (bl : List Blk) (r p : Nat) (S : Sto) : Prop where
  ob : ∃ fs, S[r]? = some (.ins C fs) ∧ List.lookup ("blocks" : Str) fs = some (Val.ref p) ∧ List.lookup ("told" : Str) fs = none
  blocks : S[p]? = some (.dic (bl.map kvOf))
  ne : p ≠ r
  few : bl.length ≤ 10
  nd : (bl.map (·.name)).Nodup
theorem kv_nd {bl : List Blk} (nd : (bl.map (·.name)).Nodup) : ((bl.map kvOf).map (·.1)).Nodup := by
  rw [List.nodup_iff_pairwise_ne, List.pairwise_map] at nd ⊢
  rw [List.pairwise_map]
  refine nd.imp fun {x y} h z => h ?_
  have z : x.name.toArray = y.name.toArray := congrArg Str.cps (Sum.inr.inj z)
  simpa using z
end Lw
end
section
set_option Elab.async false
set_option linter.all false
set_option autoImplicit false
set_option maxRecDepth 100000
set_option maxHeartbeats 2000000
namespace Lw
open PySem PySem.Spec PyProof.Rows L2 Lv
local macro_rules
  | `(tactic| left) => `(tactic| first
    | (with_reducible refine ws_seq ?_) | (with_reducible refine ws_set ?_) | (with_reducible refine ws_expr ?_) | (with_reducible refine ws_ret ?_) | (with_reducible refine ws_retN ?_) | (with_reducible refine ws_if ?_) | (with_reducible refine ws_next ?_) | (with_reducible refine ws_asg ?_) | (with_reducible refine ws_setIx ?_) | (with_reducible refine ws_for ?_)
    | ((with_reducible refine thenS_nx ?_); try simp only [env0, List.map_cons, List.map_nil, List.length_cons, List.length_nil, Nat.reduceAdd, Nat.reduceSub, List.replicate, List.cons_append, List.nil_append, List.set_cons_succ, List.set_cons_zero])
    | (with_reducible refine thenS_rt ?_) | (with_reducible refine endG_nx ?_) | (with_reducible refine endG_rt ?_) | (with_reducible refine turnS_nx ?_) | (with_reducible refine turnS_rt ?_)
    | (with_reducible refine we_int ?_) | (with_reducible refine we_str ?_) | (with_reducible refine we_bool ?_) | (with_reducible refine we_non ?_) | (with_reducible refine we_op ?_) | (with_reducible refine we_op1 ?_) | (with_reducible refine we_fn ?_) | (with_reducible refine we_call ?_) | (with_reducible refine we_not ?_) | (with_reducible refine we_and ?_) | (with_reducible refine we_or ?_) | (with_reducible refine we_ifx ?_)
    | (with_reducible refine we_ch2 ?_) | (with_reducible refine we_ch3 ?_) | (with_reducible refine we_sl ?_) | (with_reducible refine wa_nil ?_) | (with_reducible refine wa_cons ?_) | (with_reducible refine wp_none ?_) | (with_reducible refine wp_some ?_) | (with_reducible refine wb_intro ?_) | (with_reducible refine ite_t ?_) | (with_reducible refine ite_f ?_) | (with_reducible refine ite_nt ?_) | (with_reducible refine ite_nf ?_)
    | (with_reducible refine we_lc ?_) | (with_reducible refine we_lcN ?_) | (with_reducible refine we_make ?_) | (with_reducible refine we_disp ?_) | (with_reducible refine wk_nil ?_) | (with_reducible refine wk_cons ?_) | (with_reducible refine ws_fld ?_) | (with_reducible refine we_fld ?_) | (with_reducible refine we_meth ?_) | (with_reducible refine we_dic0 ?_)
    | (with_reducible refine we_join ?_)
    | (with_reducible refine we_lm ?_)
    | ((with_reducible apply we_var); exact rfl)
    | (with_reducible refine wg_addI ?_) | (with_reducible refine wg_sub ?_) | (with_reducible refine wg_lt ?_) | (with_reducible refine wg_le ?_) | (with_reducible refine wg_gt ?_) | (with_reducible refine wg_ge ?_) | (with_reducible refine wg_eqI ?_) | (with_reducible refine wg_neI ?_)
    | (with_reducible refine wg_lenL ?_) | (with_reducible refine wg_lenT ?_) | (with_reducible refine wg_intI ?_) | (with_reducible refine wg_intB ?_) | (with_reducible refine wg_min2 ?_) | (with_reducible refine wg_max2 ?_) | (with_reducible refine wg_neg ?_)
    | (with_reducible refine wg_isN ?_) | (with_reducible refine wg_isNot ?_) | (with_reducible refine wg_tupleT ?_) | (with_reducible refine wg_listL ?_) | (with_reducible refine wg_listT ?_) | (with_reducible refine wg_slL ?_) | (with_reducible refine wg_slT ?_)
    | (with_reducible refine wg_mod (by decide) ?_) | (with_reducible refine wg_div (by decide) ?_)
    | ((with_reducible apply wg_lst); exact Nat.le_of_ble_eq_true rfl; exact rfl) | ((with_reducible apply wg_tup); exact Nat.le_of_ble_eq_true rfl; exact rfl) | ((with_reducible apply wg_lstN); exact Nat.le_of_ble_eq_true rfl)
    | ((with_reducible apply wg_ixR); exact rfl; exact rfl) | ((with_reducible apply wg_ixL); exact rfl) | ((with_reducible apply wg_ixT); exact rfl) | ((with_reducible apply wg_ixRT); exact rfl; exact rfl)
    | ((with_reducible apply fset_lst); exact rfl; exact rfl; try simp only [Int.reduceToNat, List.set_cons_succ, List.set_cons_zero])
    | (with_reducible refine ex_str ?_) | (with_reducible refine ex_int ?_) | ((with_reducible apply ex_lm); exact rfl)
    | (with_reducible refine ex_seqLd ?_) | (with_reducible refine ex_seqTd ?_) | (with_reducible refine ex_seqSd ?_) | (with_reducible refine ex_name ?_) | ((with_reducible apply ex_atup); exact rfl)
    | ((with_reducible apply ex_rng1); exact rg_ok (by omega) (by omega)) | ((with_reducible apply ex_rng2); exact rg_ok (by omega) (by omega); exact rg_ok (by omega) (by omega))
    | (with_reducible exact ⟨rfl, rfl⟩) | (with_reducible refine and_eq ?_)  | (with_reducible assumption) )
local macro_rules
  | `(tactic| left) => `(tactic| first
    | (with_reducible refine ws_setIxN ?_) | (with_reducible refine we_dicN ?_) | (with_reducible refine we_dget2 ?_) | (with_reducible refine we_dpop ?_) | (with_reducible refine ws_raise ?_) | (with_reducible refine ws_raiseI ?_) | (with_reducible refine ws_try ?_)
    | (with_reducible refine thenS_er ?_) | (with_reducible refine turnS_er ?_) | (with_reducible refine thenS_ct ?_) | (with_reducible refine thenS_bk ?_) | (with_reducible refine endX_nx ?_) | (with_reducible refine endX_rt ?_) | (with_reducible refine endX_er ?_) | (with_reducible refine clS_rt ?_) | (with_reducible refine clS_nx ?_) | (with_reducible refine clS_er ?_) )
/-! the model that a script draws -/
def Blk.wide (b : Blk) : Blk := ⟨b.name, b.len, -99, 99⟩
theorem Blk.Ok.wide {b : Blk} (h : b.Ok) : b.wide.Ok := ⟨h.n1, h.n8, h.az, h.l1, h.l2, Int.le_refl _, (show (-99 : Int) ≤ 99 by decide), Int.le_refl _, h.zz⟩
def chainB (bl : List Blk) (s : Int) : List Blk := (List.range bl.length).map fun (k : Nat) => if (k : Int) = s then bl.getD k ⟨[], 0, 0, 0⟩ else (bl.getD k ⟨[], 0, 0, 0⟩).wide
theorem chainB_name (bl : List Blk) (s : Int) : (chainB bl s).map (·.name) = bl.map (·.name) := by
  refine List.ext_getElem (by simp [chainB]) fun i h1 h2 => ?_
  have h2 : i < bl.length := by simpa using h2
  simp only [chainB, List.map_map, List.getElem_map, List.getElem_range, Function.comp]
  split <;> simp [Blk.wide, List.getD_eq_getElem?_getD, h2]
theorem chainB_ok {bl : List Blk} {s a b : Int} (h : CaseOk a b bl) : CaseOk a b (chainB bl s) := by
  refine ⟨h.a0, h.ab, h.b9, by simpa [chainB] using h.few, fun x hx => ?_, by rw [chainB_name]; exact h.nd⟩
  obtain ⟨k, hk, rfl⟩ := List.mem_map.mp hx
  have hk := List.mem_range.mp hk
  have e : bl.getD k ⟨[], 0, 0, 0⟩ ∈ bl := by
    rw [List.getD_eq_getElem?_getD, List.getElem?_eq_getElem hk]
    exact List.getElem_mem hk
  split
  · exact h.ok _ e
  · exact (h.ok _ e).wide
def truthKv (bl : List Blk) (tv : List Int) : List (Key × Val) := (bl.zip tv).map fun p => (.inr p.1.key, .d (.int p.2))
def modelKv (a b : Int) (bl : List Blk) (kept truth : Nat) (c : Bool) : List (Key × Val) :=
  [(.inr "film", .d (.tuple [.int a, .int b])), (.inr "blocks", .d (.list (bl.map Blk.pd))), (.inr "kept", .ref kept), (.inr "given", .d (.int 0)), (.inr "truth", .ref truth), (.inr "chain", .d (.bool c))]
/-- true amounts of the blocks -/
structure TruthOk (bl : List Blk) (tv : List Int) : Prop where
  len : tv.length = bl.length
  mid : ∀ (i : Nat) (h : i < bl.length) (h2 : i < tv.length), bl[i].lo ≤ tv[i] ∧ tv[i] ≤ bl[i].hi
theorem model_tail {T : Sto} {o : Ob} {a b : Int} {bl : List Blk} {c : Bool} {x4 x5 x7 x8 x9 x10 x11 : Option Val} {Q : Val → Sto → Prop} (h1 : Rw o) (ok : CaseOk a b bl)
    (q : ∀ (tv : List Int) (o' : Ob), Rw o' → TruthOk bl tv → Q (.ref (T.length + 2)) (o' :: (T ++ [.dic (truthKv bl tv), .dic (modelKv a b bl (T.length + 3) (T.length + 1) c), .dic []]))) :
    WS (dFor [mVar 2] fSeqL (aTup [7, 8, 9, 10]) (dSetIx (mVar 6) (mVar 7) (mOp fAdd (mVar 9) (mCall g__law_taken [mVar 0, mOp fAdd (mOp fSub (mVar 10) (mVar 9)) (mInt 1)])))
      [some (.ref 0), some (.d (.tuple [.int a, .int b])), some (.d (.list (bl.map Blk.pd))), some (.d (.bool c)), x4, x5, some (.ref (T.length + 1)), x7, x8, x9, x10, x11] (o :: (T ++ [.dic []])))
      (thenS (dRet (mDisp ["film", "blocks", "kept", "given", "truth", "chain"] [mVar 1, mVar 2, mDic0, mInt 0, mVar 6, mVar 3])) (endG Q)) := by
  repeat left
  rw [show (List.map Val.d (List.map Blk.pd bl)) = bl.map fun x => Val.d x.pd by simp]
  refine ws_loopM (fun dn e U => ∃ (tv : List Int) (o' : Ob) (x7 x8 x9 x10 : Option Val), Rw o' ∧ TruthOk dn tv ∧ U = o' :: (T ++ [.dic (truthKv dn tv)]) ∧
    e = [some (.ref 0), some (.d (.tuple [.int a, .int b])), some (.d (.list (bl.map Blk.pd))), some (.d (.bool c)), x4, x5, some (.ref (T.length + 1)), x7, x8, x9, x10, x11])
    (fun dn x r e U hx hI => ?_) (fun e U hI => ⟨by exact True.intro, ?_⟩) ⟨[], o, _, _, _, _, h1, ⟨rfl, fun i h => by simp at h⟩, rfl, rfl⟩
  · obtain ⟨tv, o2, x7, x8, x9, x10, h2, ht, rfl, rfl⟩ := hI
    have hm : x ∈ bl := by rw [hx]; simp
    have ox := ok.ok x hm
    have := ox.mid
    refine ⟨by exact True.intro, _, rfl, ?_⟩
    simp only [List.map_cons, List.map_nil, List.set_cons_succ, List.set_cons_zero]
    repeat left
    refine taken_ok h2 (by omega) fun d o2 h2 d0 d1 => ?_
    repeat left
    have fresh : ∀ q ∈ truthKv dn tv, q.1 ≠ Sum.inr x.key := fun q hq => by
      obtain ⟨⟨y, t⟩, hy, rfl⟩ := List.mem_map.mp hq
      have hy := (List.of_mem_zip hy).1
      intro z
      have z : y.name.toArray = x.name.toArray := congrArg Str.cps (Sum.inr.inj z)
      have z : y.name = x.name := by simpa using z
      have nd := ok.nd
      rw [hx] at nd
      simp only [List.map_append, List.map_cons, List.nodup_append] at nd
      exact nd.2.2 y.name (List.mem_map_of_mem hy) x.name List.mem_cons_self z
    have hlen : dn.length ≤ 10 := by
      have := congrArg List.length hx
      have := ok.few
      simp at *
      omega
    have hl := ht.len
    refine fset_dic (k := .inr x.key) sto1_at rfl (Nat.lt_of_lt_of_le (show _ < 1000000 by simp [truthKv]; omega) (Nat.le_of_ble_eq_true rfl)) ?_
    rw [putV_new fresh, sto1_set]
    repeat left
    refine ⟨tv ++ [x.lo + d], o2, _, _, _, _, h2, ⟨by simp [hl], fun i hi1 hi2 => ?_⟩, ?_, rfl⟩
    · by_cases hi : i < dn.length
      · rw [List.getElem_append_left hi, List.getElem_append_left (by omega)]
        exact ht.mid i hi (by omega)
      · have : i = dn.length := by simp at hi1; omega
        subst this
        simp [hl]
        omega
    · rw [truthKv, truthKv, List.zip_append hl.symm]
      simp
  · obtain ⟨tv, o2, x7, x8, x9, x10, h2, ht, rfl, rfl⟩ := hI
    repeat left
    have hl : (o2 :: (T ++ [Ob.dic (truthKv bl tv)])).length = T.length + 2 := by simp
    rw [List.append_assoc]
    refine ⟨get_fst, endG_rt ?_⟩
    show Q (.ref (o2 :: (T ++ [Ob.dic (truthKv bl tv)])).length) (List.set ((o2 :: (T ++ [Ob.dic (truthKv bl tv)])) ++ Ob.dic [] :: [Ob.dic []]) (o2 :: (T ++ [Ob.dic (truthKv bl tv)])).length _)
    rw [sto_set, hl, List.length_append, hl]
    have z := q tv o2 h2 ht
    simpa [modelKv] using z
end Lw
end
section
set_option Elab.async false
set_option linter.all false
set_option autoImplicit false
set_option maxRecDepth 100000
set_option maxHeartbeats 2000000
namespace Lw
open PySem PySem.Spec PyProof.Rows L2 Lv
local macro_rules
  | `(tactic| left) => `(tactic| first
    | (with_reducible refine ws_seq ?_) | (with_reducible refine ws_set ?_) | (with_reducible refine ws_expr ?_) | (with_reducible refine ws_ret ?_) | (with_reducible refine ws_retN ?_) | (with_reducible refine ws_if ?_) | (with_reducible refine ws_next ?_) | (with_reducible refine ws_asg ?_) | (with_reducible refine ws_setIx ?_) | (with_reducible refine ws_for ?_)
    | ((with_reducible refine thenS_nx ?_); try simp only [env0, List.map_cons, List.map_nil, List.length_cons, List.length_nil, Nat.reduceAdd, Nat.reduceSub, List.replicate, List.cons_append, List.nil_append, List.set_cons_succ, List.set_cons_zero])
    | (with_reducible refine thenS_rt ?_) | (with_reducible refine endG_nx ?_) | (with_reducible refine endG_rt ?_) | (with_reducible refine turnS_nx ?_) | (with_reducible refine turnS_rt ?_)
    | (with_reducible refine we_int ?_) | (with_reducible refine we_str ?_) | (with_reducible refine we_bool ?_) | (with_reducible refine we_non ?_) | (with_reducible refine we_op ?_) | (with_reducible refine we_op1 ?_) | (with_reducible refine we_fn ?_) | (with_reducible refine we_call ?_) | (with_reducible refine we_not ?_) | (with_reducible refine we_and ?_) | (with_reducible refine we_or ?_) | (with_reducible refine we_ifx ?_)
    | (with_reducible refine we_ch2 ?_) | (with_reducible refine we_ch3 ?_) | (with_reducible refine we_sl ?_) | (with_reducible refine wa_nil ?_) | (with_reducible refine wa_cons ?_) | (with_reducible refine wp_none ?_) | (with_reducible refine wp_some ?_) | (with_reducible refine wb_intro ?_) | (with_reducible refine ite_t ?_) | (with_reducible refine ite_f ?_) | (with_reducible refine ite_nt ?_) | (with_reducible refine ite_nf ?_)
    | (with_reducible refine we_lc ?_) | (with_reducible refine we_lcN ?_) | (with_reducible refine we_make ?_) | (with_reducible refine we_disp ?_) | (with_reducible refine wk_nil ?_) | (with_reducible refine wk_cons ?_) | (with_reducible refine ws_fld ?_) | (with_reducible refine we_fld ?_) | (with_reducible refine we_meth ?_) | (with_reducible refine we_dic0 ?_)
    | (with_reducible refine we_join ?_)
    | (with_reducible refine we_lm ?_)
    | ((with_reducible apply we_var); exact rfl)
    | (with_reducible refine wg_addI ?_) | (with_reducible refine wg_sub ?_) | (with_reducible refine wg_lt ?_) | (with_reducible refine wg_le ?_) | (with_reducible refine wg_gt ?_) | (with_reducible refine wg_ge ?_) | (with_reducible refine wg_eqI ?_) | (with_reducible refine wg_neI ?_)
    | (with_reducible refine wg_lenL ?_) | (with_reducible refine wg_lenT ?_) | (with_reducible refine wg_intI ?_) | (with_reducible refine wg_intB ?_) | (with_reducible refine wg_min2 ?_) | (with_reducible refine wg_max2 ?_) | (with_reducible refine wg_neg ?_)
    | (with_reducible refine wg_isN ?_) | (with_reducible refine wg_isNot ?_) | (with_reducible refine wg_tupleT ?_) | (with_reducible refine wg_listL ?_) | (with_reducible refine wg_listT ?_) | (with_reducible refine wg_slL ?_) | (with_reducible refine wg_slT ?_)
    | (with_reducible refine wg_mod (by decide) ?_) | (with_reducible refine wg_div (by decide) ?_)
    | ((with_reducible apply wg_lst); exact Nat.le_of_ble_eq_true rfl; exact rfl) | ((with_reducible apply wg_tup); exact Nat.le_of_ble_eq_true rfl; exact rfl) | ((with_reducible apply wg_lstN); exact Nat.le_of_ble_eq_true rfl)
    | ((with_reducible apply wg_ixR); exact rfl; exact rfl) | ((with_reducible apply wg_ixL); exact rfl) | ((with_reducible apply wg_ixT); exact rfl) | ((with_reducible apply wg_ixRT); exact rfl; exact rfl)
    | ((with_reducible apply fset_lst); exact rfl; exact rfl; try simp only [Int.reduceToNat, List.set_cons_succ, List.set_cons_zero])
    | (with_reducible refine ex_str ?_) | (with_reducible refine ex_int ?_) | ((with_reducible apply ex_lm); exact rfl)
    | (with_reducible refine ex_seqLd ?_) | (with_reducible refine ex_seqTd ?_) | (with_reducible refine ex_seqSd ?_) | (with_reducible refine ex_name ?_) | ((with_reducible apply ex_atup); exact rfl)
    | ((with_reducible apply ex_rng1); exact rg_ok (by omega) (by omega)) | ((with_reducible apply ex_rng2); exact rg_ok (by omega) (by omega); exact rg_ok (by omega) (by omega))
    | (with_reducible exact ⟨rfl, rfl⟩) | (with_reducible refine and_eq ?_)  | (with_reducible assumption) )
local macro_rules
  | `(tactic| left) => `(tactic| first
    | (with_reducible refine ws_setIxN ?_) | (with_reducible refine we_dicN ?_) | (with_reducible refine we_dget2 ?_) | (with_reducible refine we_dpop ?_) | (with_reducible refine ws_raise ?_) | (with_reducible refine ws_raiseI ?_) | (with_reducible refine ws_try ?_)
    | (with_reducible refine thenS_er ?_) | (with_reducible refine turnS_er ?_) | (with_reducible refine thenS_ct ?_) | (with_reducible refine thenS_bk ?_) | (with_reducible refine endX_nx ?_) | (with_reducible refine endX_rt ?_) | (with_reducible refine endX_er ?_) | (with_reducible refine clS_rt ?_) | (with_reducible refine clS_nx ?_) | (with_reducible refine clS_er ?_) )
/-! ### ends, links, as data -/
abbrev Nd := Option Str
def nd : Nd → PyData
  | none => .none
  | some s => .str s
def lf : Nd → Leaf
  | none => .none
  | some s => .text s
def tg : Option Int → PyData
  | none => .none
  | some i => .int i
abbrev Row := Lm.Lk Nd (Option Int)
def rowP (r : Row) : PyData := .tuple [nd r.src, nd r.dst, .int r.w, tg r.tag]
theorem lf_inj {u v : Nd} (h : lf u = lf v) : u = v := by
  cases u <;> cases v <;> first | rfl | (cases h; rfl) | cases h
theorem leaf_nd (v : Nd) : leafOf (.d (nd v)) = some (lf v) := by cases v <;> rfl
/-! ### a dict that tells a function -/
structure RD {β : Type} (enc : β → PyData) (V : List Nd) (f : Nd → Option β) (kvs : List (Leaf × Val)) : Prop where
  val : ∀ v, valK kvs (lf v) = (f v).map fun x => .d (enc x)
  nd : (kvs.map (·.1)).Nodup
  sub : ∀ k ∈ kvs.map (·.1), k ∈ V.map lf
section
variable {β : Type} {enc : β → PyData} {V : List Nd} {f : Nd → Option β} {kvs : List (Leaf × Val)}
theorem RD.len (h : RD enc V f kvs) : kvs.length ≤ V.length := by
  have := h.nd.length_le_of_subset h.sub
  simpa using this
theorem rd_nil : RD enc V (fun _ => none) [] := ⟨fun _ => rfl, List.nodup_nil, fun k h => by cases h⟩
theorem RD.put (h : RD enc V f kvs) {v : Nd} (hv : v ∈ V) (x : β) : RD enc V (Lm.upd f v (some x)) (putV kvs (lf v) (.d (enc x))) := by
  refine ⟨fun u => ?_, ?_, fun k hk => ?_⟩
  · rw [valK_put]
    by_cases e : u = v
    · subst e
      rw [if_pos rfl, Lm.upd_same]
      rfl
    · rw [if_neg fun z => e (lf_inj z), Lm.upd_ne e, h.val]
  · rw [keys_put]
    split
    · exact h.nd
    · rename_i n
      refine List.nodup_append.mpr ⟨h.nd, by simp, fun a ha b hb => ?_⟩
      simp only [List.mem_singleton] at hb
      subst hb
      exact fun z => n (z ▸ ha)
  · rw [keys_put] at hk
    split at hk
    · exact h.sub k hk
    · rcases List.mem_append.mp hk with hk | hk
      · exact h.sub k hk
      · simp only [List.mem_singleton] at hk
        subst hk
        exact List.mem_map_of_mem hv
theorem RD.one {b : Nd} (hb : b ∈ V) (x : β) : RD enc V (Lm.upd (fun _ => none) b (some x)) [(lf b, .d (enc x))] := RD.put rd_nil hb x
end
/-! ### one link -/
section
variable {z : PgW} {e : Ev} {S : Sto} {i : Nat} {V : List Nd} {D : Nd → Option Int} {kvs : List (Leaf × Val)} {r : Row} {l x y w : Nat} {Q : Val → Sto → Prop} {R : Fl → Ev → Sto → Prop}
theorem we_better (hi : S[i]? = some (.dicN z kvs)) (hD : RD .int V D kvs) (el : e[l]? = some (some (.ref i))) (ex : e[x]? = some (some (.d (nd r.src)))) (ey : e[y]? = some (some (.d (nd r.dst)))) (ew : e[w]? = some (some (.d (.int r.w)))) (q : Q (.d (.bool (Lm.better D r))) S) :
    WE (mAnd (mOp (fInN z) (mVar x) (mVar l)) (mOr (mOp (fNotInN z) (mVar y) (mVar l)) (mOp fLt (mOp fAdd (mOp (fIxN z) (mVar l) (mVar x)) (mVar w)) (mOp (fIxN z) (mVar l) (mVar y)))) e S) Q := by
  refine we_and (we_op (we_var ex (we_var el (wg_inN hi (leaf_nd _) ?_))))
  rw [hD.val]
  unfold Lm.better at q
  cases h1 : D r.src with
  | none =>
    rw [h1] at q
    exact wb_intro (ite_f q)
  | some a =>
    rw [h1] at q
    refine wb_intro (ite_t (we_or (we_op (we_var ey (we_var el (wg_notInN hi (leaf_nd _) ?_))))))
    rw [hD.val]
    cases h2 : D r.dst with
    | none =>
      rw [h2] at q
      exact wb_intro (ite_t q)
    | some c =>
      rw [h2] at q
      refine wb_intro (ite_f (we_op (we_op (we_op (we_var el (we_var ex (wg_ixN hi (leaf_nd _) (by rw [hD.val, h1]; rfl) (we_var ew (wg_addI (we_op (we_var el (we_var ey (wg_ixN hi (leaf_nd _) (by rw [hD.val, h2]; rfl) (wg_lt q))))))))))))))
theorem ws_better (hi : S[i]? = some (.dicN z kvs)) (hD : RD .int V D kvs) (hz : V.length < sizeLine) (el : e[l]? = some (some (.ref i))) (ex : e[x]? = some (some (.d (nd r.src)))) (ey : e[y]? = some (some (.d (nd r.dst)))) (ew : e[w]? = some (some (.d (.int r.w)))) (hv : r.dst ∈ V) {a : Int} (ha : D r.src = some a)
    (q : RD .int V (Lm.upd D r.dst (some (a + r.w))) (putV kvs (lf r.dst) (.d (.int (a + r.w)))) → R .nx e (S.set i (.dicN z (putV kvs (lf r.dst) (.d (.int (a + r.w))))))) :
    WS (dSetIxN z (mVar l) (mVar y) (mOp fAdd (mOp (fIxN z) (mVar l) (mVar x)) (mVar w)) e S) R := by
  refine ws_setIxN (we_op (we_op (we_var el (we_var ex (wg_ixN hi (leaf_nd _) (by rw [hD.val, ha]; rfl) (we_var ew (wg_addI (we_var el (we_var ey ?_)))))))))
  exact fset_N hi (leaf_nd _) (Nat.lt_of_le_of_lt hD.len hz) (q (hD.put hv _))
end
/-! ### a relaxation over all links -/
theorem rows_at {rows : List Row} {V : List Nd} (hV : ∀ r ∈ rows, r.src ∈ V ∧ r.dst ∈ V) {r : Row} (h : r ∈ rows) : r.dst ∈ V := (hV r h).2
theorem sto2_set1 {S : Sto} {u v x : Ob} : (S ++ [u, v]).set S.length x = S ++ [x, v] := by simp
theorem sto2_set2 {S : Sto} {u v x : Ob} : (S ++ [u, v]).set (S.length + 1) x = S ++ [u, x] := by simp
theorem sto2_at1 {S : Sto} {u v : Ob} : (S ++ [u, v])[S.length]? = some u := by simp
theorem sto2_at2 {S : Sto} {u v : Ob} : (S ++ [u, v])[S.length + 1]? = some v := by simp
theorem get_app {S U : Sto} {i : Nat} {u : Ob} (h : S[i]? = some u) : (S ++ U)[i]? = some u := by
  obtain ⟨hl, _⟩ := List.getElem?_eq_some_iff.mp h
  rw [List.getElem?_append_left hl]
  exact h
theorem pass_snoc (rs : List Row) (r : Row) (s : Lm.St Nd (Option Int)) : Lm.pass (rs ++ [r]) s = Lm.relax (Lm.pass rs s) r := by simp [Lm.pass]
/-- a web in the store -/
structure WebS (W : Addr) (w q : Nat) (V : List Nd) (rows : List Row) (S : Sto) : Prop where
  ob : S[w]? = some (.ins W [("ends", .d (.list (V.map nd))), ("rows", .ref q)])
  rw_ : S[q]? = some (.lst (rows.map fun r => .d (rowP r)))
theorem spread_ok {z : PgW} {W : Addr} {w q : Nat} {V : List Nd} {rows : List Row} {S : Sto} {b : Nd} {Q : Val → Sto → Prop} (h : WebS W w q V rows S) (hb : b ∈ V) (hV : ∀ r ∈ rows, r.src ∈ V ∧ r.dst ∈ V) (hz : V.length ≤ 1000)
    (k : ∀ kd kb, RD .int V (Lm.passes rows b V.length).D kd → RD rowP V (Lm.passes rows b V.length).B kb → Q (.ref (S.length + 2)) (S ++ [.dicN z kd, .dicN z kb, .tup [.ref S.length, .ref (S.length + 1)]])) :
    WG (g_Web_spread z W [.ref w, .d (nd b)] S) Q := by
  have hs : V.length < sizeLine := Nat.lt_of_lt_of_le (show V.length < 1000000 by omega) (Nat.le_of_ble_eq_true rfl)
  refine wg_keep ?_
  unfold b_Web_spread
  repeat left
  refine we_dispN ?_
  repeat left
  refine ⟨get_fst, _, leaf_nd b, ?_⟩
  simp only [show (S ++ [Ob.dicN z []]).set S.length (.dicN z [(lf b, .d (.int 0))]) = S ++ [.dicN z [(lf b, .d (.int 0))]] by simp]
  repeat left
  simp only [List.append_assoc, List.cons_append, List.nil_append, List.length_append, List.length_cons, List.length_nil, Nat.zero_add]
  refine ex_get (get_app h.ob) rfl ?_
  repeat left
  rw [List.length_map]
  repeat left
  rw [intV_map, Int.toNat_natCast]
  refine ws_loopM (fun dn e U => ∃ (kd kb : List (Leaf × Val)) (x4 x5 x6 x7 x8 x9 : Option Val), RD .int V (Lm.passes rows b dn.length).D kd ∧ RD rowP V (Lm.passes rows b dn.length).B kb ∧ U = S ++ [.dicN z kd, .dicN z kb] ∧
    e = [some (.ref w), some (.d (nd b)), some (.ref S.length), some (.ref (S.length + 1)), x4, x5, x6, x7, x8, x9])
    (fun dn x r e U hx hI => ?_) (fun e U hI => ⟨by exact True.intro, ?_⟩) ⟨_, _, _, _, _, _, _, _, RD.one hb 0, rd_nil, rfl, rfl⟩
  · obtain ⟨kd, kb, x4, x5, x6, x7, x8, x9, hd, hb2, rfl, rfl⟩ := hI
    refine ⟨by exact True.intro, _, rfl, ?_⟩
    simp only [List.map_cons, List.map_nil, List.set_cons_succ, List.set_cons_zero]
    repeat left
    refine ex_get (get_app h.ob) rfl ?_
    repeat left
    refine ex_seqLr (get_app h.rw_) ?_
    refine ws_loopM (fun rs e U => ∃ (kd kb : List (Leaf × Val)) (x4 x5 x6 x7 x8 x9 : Option Val), RD .int V (Lm.pass rs (Lm.passes rows b dn.length)).D kd ∧ RD rowP V (Lm.pass rs (Lm.passes rows b dn.length)).B kb ∧ U = S ++ [.dicN z kd, .dicN z kb] ∧
      e = [some (.ref w), some (.d (nd b)), some (.ref S.length), some (.ref (S.length + 1)), x4, x5, x6, x7, x8, x9])
      (fun rs x r e U hx hI => ?_) (fun e U hI => ?_) ⟨kd, kb, _, _, _, _, _, _, hd, hb2, rfl, rfl⟩
    · obtain ⟨kd, kb, x4, x5, x6, x7, x8, x9, hd, hb2, rfl, rfl⟩ := hI
      have hm : x ∈ rows := by rw [hx]; simp
      refine ⟨by exact get_app h.rw_, _, rfl, ?_⟩
      simp only [List.map_cons, List.map_nil, List.set_cons_succ, List.set_cons_zero]
      refine ws_seq (ws_asg (we_var rfl ⟨_, rfl, thenS_nx ?_⟩))
      refine ws_if (we_better (r := x) sto2_at1 hd rfl rfl rfl rfl ?_)
      rw [pass_snoc]
      refine wb_intro (ite_b (fun hb3 => ?_) (fun hb3 => ?_))
      · obtain ⟨a, ha, _⟩ := Lm.better_true hb3
        refine ws_seq (ws_better (r := x) sto2_at1 hd hs rfl rfl rfl rfl (hV x hm).2 ha fun hd2 => ?_)
        rw [sto2_set1]
        refine thenS_nx (ws_setIxN (we_var rfl (we_var rfl (we_var rfl (fset_N sto2_at2 (leaf_nd _) (Nat.lt_of_le_of_lt hb2.len hs) ?_)))))
        rw [sto2_set2]
        refine turnS_nx ⟨_, _, _, _, _, _, _, _, ?_, ?_, rfl, rfl⟩
        · rw [Lm.relax_yes hb3 ha]
          exact hd2
        · rw [Lm.relax_yes hb3 ha]
          exact hb2.put (hV x hm).2 x
      · refine ws_next (turnS_nx ⟨_, _, _, _, _, _, _, _, ?_, ?_, rfl, rfl⟩)
        · rw [Lm.relax_no hb3]
          exact hd
        · rw [Lm.relax_no hb3]
          exact hb2
    · obtain ⟨kd, kb, x4, x5, x6, x7, x8, x9, hd, hb2, rfl, rfl⟩ := hI
      refine ⟨by exact get_app h.rw_, turnS_nx ⟨kd, kb, _, _, _, _, _, _, ?_, ?_, rfl, rfl⟩⟩
      · rw [List.length_append]
        exact hd
      · rw [List.length_append]
        exact hb2
  · obtain ⟨kd, kb, x4, x5, x6, x7, x8, x9, hd, hb2, rfl, rfl⟩ := hI
    rw [List.length_range] at hd hb2
    repeat left
    refine wg_tupR (Nat.le_of_ble_eq_true rfl) rfl (endG_rt ?_)
    have := k kd kb hd hb2
    simpa using this
end Lw
end
section
set_option Elab.async false
set_option linter.all false
set_option autoImplicit false
set_option maxRecDepth 100000
set_option maxHeartbeats 2000000
namespace Lw
open PySem PySem.Spec PyProof.Rows L2 Lv
local macro_rules
  | `(tactic| left) => `(tactic| first
    | (with_reducible refine ws_seq ?_) | (with_reducible refine ws_set ?_) | (with_reducible refine ws_expr ?_) | (with_reducible refine ws_ret ?_) | (with_reducible refine ws_retN ?_) | (with_reducible refine ws_if ?_) | (with_reducible refine ws_next ?_) | (with_reducible refine ws_asg ?_) | (with_reducible refine ws_setIx ?_) | (with_reducible refine ws_for ?_)
    | ((with_reducible refine thenS_nx ?_); try simp only [env0, List.map_cons, List.map_nil, List.length_cons, List.length_nil, Nat.reduceAdd, Nat.reduceSub, List.replicate, List.cons_append, List.nil_append, List.set_cons_succ, List.set_cons_zero])
    | (with_reducible refine thenS_rt ?_) | (with_reducible refine endG_nx ?_) | (with_reducible refine endG_rt ?_) | (with_reducible refine turnS_nx ?_) | (with_reducible refine turnS_rt ?_)
    | (with_reducible refine we_int ?_) | (with_reducible refine we_str ?_) | (with_reducible refine we_bool ?_) | (with_reducible refine we_non ?_) | (with_reducible refine we_op ?_) | (with_reducible refine we_op1 ?_) | (with_reducible refine we_fn ?_) | (with_reducible refine we_call ?_) | (with_reducible refine we_not ?_) | (with_reducible refine we_and ?_) | (with_reducible refine we_or ?_) | (with_reducible refine we_ifx ?_)
    | (with_reducible refine we_ch2 ?_) | (with_reducible refine we_ch3 ?_) | (with_reducible refine we_sl ?_) | (with_reducible refine wa_nil ?_) | (with_reducible refine wa_cons ?_) | (with_reducible refine wp_none ?_) | (with_reducible refine wp_some ?_) | (with_reducible refine wb_intro ?_) | (with_reducible refine ite_t ?_) | (with_reducible refine ite_f ?_) | (with_reducible refine ite_nt ?_) | (with_reducible refine ite_nf ?_)
    | (with_reducible refine we_lc ?_) | (with_reducible refine we_lcN ?_) | (with_reducible refine we_make ?_) | (with_reducible refine we_disp ?_) | (with_reducible refine wk_nil ?_) | (with_reducible refine wk_cons ?_) | (with_reducible refine ws_fld ?_) | (with_reducible refine we_fld ?_) | (with_reducible refine we_meth ?_) | (with_reducible refine we_dic0 ?_)
    | (with_reducible refine we_join ?_)
    | (with_reducible refine we_lm ?_)
    | ((with_reducible apply we_var); exact rfl)
    | (with_reducible refine wg_addI ?_) | (with_reducible refine wg_sub ?_) | (with_reducible refine wg_lt ?_) | (with_reducible refine wg_le ?_) | (with_reducible refine wg_gt ?_) | (with_reducible refine wg_ge ?_) | (with_reducible refine wg_eqI ?_) | (with_reducible refine wg_neI ?_)
    | (with_reducible refine wg_lenL ?_) | (with_reducible refine wg_lenT ?_) | (with_reducible refine wg_intI ?_) | (with_reducible refine wg_intB ?_) | (with_reducible refine wg_min2 ?_) | (with_reducible refine wg_max2 ?_) | (with_reducible refine wg_neg ?_)
    | (with_reducible refine wg_isN ?_) | (with_reducible refine wg_isNot ?_) | (with_reducible refine wg_tupleT ?_) | (with_reducible refine wg_listL ?_) | (with_reducible refine wg_listT ?_) | (with_reducible refine wg_slL ?_) | (with_reducible refine wg_slT ?_)
    | (with_reducible refine wg_mod (by decide) ?_) | (with_reducible refine wg_div (by decide) ?_)
    | ((with_reducible apply wg_lst); exact Nat.le_of_ble_eq_true rfl; exact rfl) | ((with_reducible apply wg_tup); exact Nat.le_of_ble_eq_true rfl; exact rfl) | ((with_reducible apply wg_lstN); exact Nat.le_of_ble_eq_true rfl)
    | ((with_reducible apply wg_ixR); exact rfl; exact rfl) | ((with_reducible apply wg_ixL); exact rfl) | ((with_reducible apply wg_ixT); exact rfl) | ((with_reducible apply wg_ixRT); exact rfl; exact rfl)
    | ((with_reducible apply fset_lst); exact rfl; exact rfl; try simp only [Int.reduceToNat, List.set_cons_succ, List.set_cons_zero])
    | (with_reducible refine ex_str ?_) | (with_reducible refine ex_int ?_) | ((with_reducible apply ex_lm); exact rfl)
    | (with_reducible refine ex_seqLd ?_) | (with_reducible refine ex_seqTd ?_) | (with_reducible refine ex_seqSd ?_) | (with_reducible refine ex_name ?_) | ((with_reducible apply ex_atup); exact rfl)
    | ((with_reducible apply ex_rng1); exact rg_ok (by omega) (by omega)) | ((with_reducible apply ex_rng2); exact rg_ok (by omega) (by omega); exact rg_ok (by omega) (by omega))
    | (with_reducible exact ⟨rfl, rfl⟩) | (with_reducible refine and_eq ?_)  | (with_reducible assumption) )
local macro_rules
  | `(tactic| left) => `(tactic| first
    | (with_reducible refine ws_setIxN ?_) | (with_reducible refine we_dicN ?_) | (with_reducible refine we_dget2 ?_) | (with_reducible refine we_dpop ?_) | (with_reducible refine ws_raise ?_) | (with_reducible refine ws_raiseI ?_) | (with_reducible refine ws_try ?_)
    | (with_reducible refine thenS_er ?_) | (with_reducible refine turnS_er ?_) | (with_reducible refine thenS_ct ?_) | (with_reducible refine thenS_bk ?_) | (with_reducible refine endX_nx ?_) | (with_reducible refine endX_rt ?_) | (with_reducible refine endX_er ?_) | (with_reducible refine clS_rt ?_) | (with_reducible refine clS_nx ?_) | (with_reducible refine clS_er ?_) )
/-! ### likenings that stand -/
structure Kp where
  num : Int
  one : Str
  other : Str
  lo : Int
  hi : Int
def Kp.pd (k : Kp) : PyData := .tuple [.str k.one, .str k.other, .int k.lo, .int k.hi]
def kpKv (k : Kp) : Key × Val := (.inl k.num, .d k.pd)
def keptKv (ks : List Kp) : List (Key × Val) := ks.map kpKv
def names (bl : List Blk) : List Str := bl.map Blk.key
def nds (bl : List Blk) : List Nd := none :: bl.map fun b => some b.key
def rowsB (bl : List Blk) : List Row := bl.flatMap fun b => [⟨none, some b.key, b.hi, none⟩, ⟨some b.key, none, 0 - b.lo, none⟩]
def rowsK (ks : List Kp) : List Row := ks.flatMap fun k => [⟨some k.other, some k.one, k.hi, some k.num⟩, ⟨some k.one, some k.other, 0 - k.lo, some k.num⟩]
def rowsOf (bl : List Blk) (ks : List Kp) : List Row := rowsB bl ++ rowsK ks
structure KsOk (bl : List Blk) (ks : List Kp) (g : Int) : Prop where
  inc : (ks.map (·.num)).Pairwise (· < ·)
  lt : ∀ k ∈ ks, 0 ≤ k.num ∧ k.num < g
  g0 : 0 ≤ g
  few : ks.length ≤ 30
  nm : ∀ k ∈ ks, k.one ∈ names bl ∧ k.other ∈ names bl ∧ k.one ≠ k.other
  st : ∀ k ∈ ks, -999 ≤ k.lo ∧ k.lo ≤ k.hi ∧ k.hi ≤ 999
  fs : ∃ π : Nd → Int, Lm.Feas (rowsOf bl ks) π
theorem nds_len {bl : List Blk} : (nds bl).length = bl.length + 1 := by simp [nds]
theorem nm_nd {bl : List Blk} {s : Str} (h : s ∈ names bl) : some s ∈ nds bl := by
  obtain ⟨b, hb, rfl⟩ := List.mem_map.mp h
  exact List.mem_cons_of_mem _ (List.mem_map.mpr ⟨b, hb, rfl⟩)
theorem rowsB_ends {bl : List Blk} {r : Row} (h : r ∈ rowsB bl) : r.src ∈ nds bl ∧ r.dst ∈ nds bl := by
  obtain ⟨b, hb, h⟩ := List.mem_flatMap.mp h
  have hk : some b.key ∈ nds bl := nm_nd (List.mem_map_of_mem hb)
  simp only [List.mem_cons, List.not_mem_nil, or_false] at h
  rcases h with rfl | rfl
  · exact ⟨List.mem_cons_self, hk⟩
  · exact ⟨hk, List.mem_cons_self⟩
theorem rows_ends {bl : List Blk} {ks : List Kp} {g : Int} (ok : KsOk bl ks g) : ∀ r ∈ rowsOf bl ks, r.src ∈ nds bl ∧ r.dst ∈ nds bl := by
  intro r h
  rcases List.mem_append.mp h with h | h
  · exact rowsB_ends h
  · obtain ⟨k, hk, h⟩ := List.mem_flatMap.mp h
    obtain ⟨h1, h2, _⟩ := ok.nm k hk
    simp only [List.mem_cons, List.not_mem_nil, or_false] at h
    rcases h with rfl | rfl
    · exact ⟨nm_nd h2, nm_nd h1⟩
    · exact ⟨nm_nd h1, nm_nd h2⟩
theorem walk_none {bl : List Blk} {ks : List Kp} {u v : Nd} (hu : u ∈ nds bl) (hv : v ∈ nds bl) : ∃ x, Lm.Walk (rowsOf bl ks) u v x := by
  have up : ∃ x, Lm.Walk (rowsOf bl ks) u none x := by
    rcases List.mem_cons.mp hu with rfl | hu
    · exact ⟨0, .nil⟩
    · obtain ⟨b, hb, rfl⟩ := List.mem_map.mp hu
      exact ⟨_, Lm.Walk.one (r := ⟨some b.key, none, 0 - b.lo, none⟩) (List.mem_append_left _ (List.mem_flatMap.mpr ⟨b, hb, by simp⟩))⟩
  have dn : ∃ x, Lm.Walk (rowsOf bl ks) none v x := by
    rcases List.mem_cons.mp hv with rfl | hv
    · exact ⟨0, .nil⟩
    · obtain ⟨b, hb, rfl⟩ := List.mem_map.mp hv
      exact ⟨_, Lm.Walk.one (r := ⟨none, some b.key, b.hi, none⟩) (List.mem_append_left _ (List.mem_flatMap.mpr ⟨b, hb, by simp⟩))⟩
  obtain ⟨x, hx⟩ := up
  obtain ⟨y, hy⟩ := dn
  exact ⟨_, hx.trans hy⟩
theorem dist_nd {bl : List Blk} {ks : List Kp} {g : Int} (ok : KsOk bl ks g) {u v : Nd} (hu : u ∈ nds bl) (hv : v ∈ nds bl) : ∃ d, Lm.Dist (rowsOf bl ks) u v d := by
  obtain ⟨π, f⟩ := ok.fs
  obtain ⟨x, hx⟩ := walk_none (ks := ks) hu hv
  exact Lm.dist_ex f hx
/-- a dict of least sums -/
structure Sums (bl : List Blk) (ks : List Kp) (u : Nd) (kd : List (Leaf × Val)) : Prop where
  at_ : ∀ v ∈ nds bl, ∀ d, Lm.Dist (rowsOf bl ks) u v d → valK kd (lf v) = some (.d (.int d))
theorem sums_of {bl : List Blk} {ks : List Kp} {u : Nd} {kd : List (Leaf × Val)} {s : Lm.St Nd (Option Int)} (hd : RD .int (nds bl) s.D kd) (I : Lm.Inv (rowsOf bl ks) u s) (dn : Lm.Done (rowsOf bl ks) u s) : Sums bl ks u kd :=
  ⟨fun v _ d h => by rw [hd.val, (dn.at I).mpr h]; rfl⟩
/-! ### a case and its model in the store -/
structure CsS (C : Addr) (a b : Int) (bl : List Blk) (r p k : Nat) (g : Int) (ks : List Kp) (S : Sto) : Prop where
  cs : S[r]? = some (.ins C [("film", .d (.tuple [.int a, .int b])), ("blocks", .ref p), ("kept", .ref k), ("given", .d (.int g))])
  bk : S[p]? = some (.dic (bl.map kvOf))
  kp : S[k]? = some (.dic (keptKv ks))
  rp : r ≠ p
  rk : r ≠ k
  pk : p ≠ k
  r0 : 0 < r
  p0 : 0 < p
  k0 : 0 < k
def modelG (a b : Int) (bl : List Blk) (kept truth : Nat) (g : Int) (c : Bool) : List (Key × Val) :=
  [(.inr "film", .d (.tuple [.int a, .int b])), (.inr "blocks", .d (.list (bl.map Blk.pd))), (.inr "kept", .ref kept), (.inr "given", .d (.int g)), (.inr "truth", .ref truth), (.inr "chain", .d (.bool c))]
structure MdS (a b : Int) (bl : List Blk) (tv : List Int) (c : Bool) (m t k : Nat) (g : Int) (ks : List Kp) (S : Sto) : Prop where
  md : S[m]? = some (.dic (modelG a b bl k t g c))
  tr : S[t]? = some (.dic (truthKv bl tv))
  kp : S[k]? = some (.dic (keptKv ks))
  mt : m ≠ t
  mk_ : m ≠ k
  tk : t ≠ k
  m0 : 0 < m
  t0 : 0 < t
  k0 : 0 < k
theorem kept_get {bl : List Blk} {ks : List Kp} {g : Int} (ok : KsOk bl ks g) {k : Kp} (h : k ∈ ks) : valK (keptKv ks) (.inl k.num) = some (.d k.pd) := by
  refine valK_mem (List.mem_map_of_mem h) ?_
  have nd := ok.inc.imp fun {x y} (h : x < y) => Int.ne_of_lt h
  rw [List.pairwise_map] at nd
  rw [keptKv, List.map_map, List.nodup_iff_pairwise_ne, List.pairwise_map]
  exact nd.imp fun {x y} h z => h (Sum.inl.inj z)
theorem kept_ints (ks : List Kp) : keyInts (keptKv ks) = some (ks.map (·.num)) := by
  induction ks with
  | nil => rfl
  | cons k ks ih =>
    show (match (Sum.inl k.num : Key), keyInts (keptKv ks) with
      | .inl i, some l => some (i :: l)
      | _, _ => none) = _
    rw [ih]
    rfl
/-! ### what a def leaves that changed one thing -/
theorem cut_set {S : Sto} {i : Nat} {o : Ob} (h : o.below S.length) : CutOk S (S.set i o) := fun j u hj hl => by
  by_cases e : i = j
  · subst e
    rw [List.getElem?_set_self hl] at hj
    cases hj
    exact .inr h
  · rw [List.getElem?_set_ne e] at hj
    exact .inl hj
theorem fin_set {S : Sto} {i : Nat} {o : Ob} {p : PyData} {Q : Val → Sto → Prop} (h : o.below S.length) (q : Q (.d p) (S.set i o)) : CutOk S (S.set i o) ∧ ∃ y, frzV S.length (S.set i o) (.d p) = some y ∧ Q y ((S.set i o).take S.length) :=
  ⟨cut_set h, _, rfl, by rw [show (S.set i o).take S.length = S.set i o from List.take_of_length_le (by simp)]; exact q⟩
theorem below_data {n : Nat} {ps : List PyData} : (Ob.lst (ps.map .d)).below n := fun x hx => by
  obtain ⟨p, _, rfl⟩ := List.mem_map.mp hx
  exact True.intro
/-! ### links of the model -/
theorem sorted_ints {S : Sto} {ns : List Int} {Q : Val → Sto → Prop} (h : ns.Pairwise (· < ·)) (q : Q (.d (.list (ns.map .int))) S) : WG (fSorted [.d (.list (ns.map .int))] S) Q := by
  unfold fSorted
  have h1 : PySem.W.AllAlike (ns.map .int) ∧ PySem.W.Sortable (ns.map .int) ∧ ∀ p ∈ ns.map PyData.int, p.depth ≤ 60 := by
    refine ⟨PySem.W.AllAlike.of fun a b => rfl, PySem.W.Sortable.others fun a => ⟨fun z => (by cases z), fun _ z => (by cases z)⟩, fun p hp => ?_⟩
    obtain ⟨a, _, rfl⟩ := List.mem_map.mp hp
    exact Nat.zero_le _
  simp only [lstD, Option.bind_some, if_pos h1]
  rw [List.mergeSort_of_pairwise]
  · exact wg_some q
  · rw [List.pairwise_map]
    refine h.imp fun {x y} hxy => ?_
    have e : PySem.W.dataLe false id (PyData.int x) (PyData.int y) = PySem.W.dataLe false (fun b : Int => PyData.int b) x y := rfl
    rw [e, PySem.W.dataLe_int (fun b : Int => b)]
    exact decide_eq_true (Int.le_of_lt hxy)
theorem rowsB_snoc (dn : List Blk) (x : Blk) : rowsB (dn ++ [x]) = rowsB dn ++ [⟨none, some x.key, x.hi, none⟩, ⟨some x.key, none, 0 - x.lo, none⟩] := by simp [rowsB]
theorem rowsK_snoc (dn : List Kp) (x : Kp) : rowsK (dn ++ [x]) = rowsK dn ++ [⟨some x.other, some x.one, x.hi, some x.num⟩, ⟨some x.one, some x.other, 0 - x.lo, some x.num⟩] := by simp [rowsK]
theorem len_rowsB (bl : List Blk) : (rowsB bl).length = 2 * bl.length := by
  induction bl with
  | nil => rfl
  | cons b bl ih => simp [rowsB] at ih ⊢; omega
theorem len_rowsK (ks : List Kp) : (rowsK ks).length = 2 * ks.length := by
  induction ks with
  | nil => rfl
  | cons b bl ih => simp [rowsK] at ih ⊢; omega
end Lw
end
section
set_option Elab.async false
set_option linter.all false
set_option autoImplicit false
set_option maxRecDepth 100000
set_option maxHeartbeats 2000000
namespace Lw
open PySem PySem.Spec PyProof.Rows L2 Lv
local macro_rules
  | `(tactic| left) => `(tactic| first
    | (with_reducible refine ws_seq ?_) | (with_reducible refine ws_set ?_) | (with_reducible refine ws_expr ?_) | (with_reducible refine ws_ret ?_) | (with_reducible refine ws_retN ?_) | (with_reducible refine ws_if ?_) | (with_reducible refine ws_next ?_) | (with_reducible refine ws_asg ?_) | (with_reducible refine ws_setIx ?_) | (with_reducible refine ws_for ?_)
    | ((with_reducible refine thenS_nx ?_); try simp only [env0, List.map_cons, List.map_nil, List.length_cons, List.length_nil, Nat.reduceAdd, Nat.reduceSub, List.replicate, List.cons_append, List.nil_append, List.set_cons_succ, List.set_cons_zero])
    | (with_reducible refine thenS_rt ?_) | (with_reducible refine endG_nx ?_) | (with_reducible refine endG_rt ?_) | (with_reducible refine turnS_nx ?_) | (with_reducible refine turnS_rt ?_)
    | (with_reducible refine we_int ?_) | (with_reducible refine we_str ?_) | (with_reducible refine we_bool ?_) | (with_reducible refine we_non ?_) | (with_reducible refine we_op ?_) | (with_reducible refine we_op1 ?_) | (with_reducible refine we_fn ?_) | (with_reducible refine we_call ?_) | (with_reducible refine we_not ?_) | (with_reducible refine we_and ?_) | (with_reducible refine we_or ?_) | (with_reducible refine we_ifx ?_)
    | (with_reducible refine we_ch2 ?_) | (with_reducible refine we_ch3 ?_) | (with_reducible refine we_sl ?_) | (with_reducible refine wa_nil ?_) | (with_reducible refine wa_cons ?_) | (with_reducible refine wp_none ?_) | (with_reducible refine wp_some ?_) | (with_reducible refine wb_intro ?_) | (with_reducible refine ite_t ?_) | (with_reducible refine ite_f ?_) | (with_reducible refine ite_nt ?_) | (with_reducible refine ite_nf ?_)
    | (with_reducible refine we_lc ?_) | (with_reducible refine we_lcN ?_) | (with_reducible refine we_make ?_) | (with_reducible refine we_disp ?_) | (with_reducible refine wk_nil ?_) | (with_reducible refine wk_cons ?_) | (with_reducible refine ws_fld ?_) | (with_reducible refine we_fld ?_) | (with_reducible refine we_meth ?_) | (with_reducible refine we_dic0 ?_)
    | (with_reducible refine we_join ?_)
    | (with_reducible refine we_lm ?_)
    | ((with_reducible apply we_var); exact rfl)
    | (with_reducible refine wg_addI ?_) | (with_reducible refine wg_sub ?_) | (with_reducible refine wg_lt ?_) | (with_reducible refine wg_le ?_) | (with_reducible refine wg_gt ?_) | (with_reducible refine wg_ge ?_) | (with_reducible refine wg_eqI ?_) | (with_reducible refine wg_neI ?_)
    | (with_reducible refine wg_lenL ?_) | (with_reducible refine wg_lenT ?_) | (with_reducible refine wg_intI ?_) | (with_reducible refine wg_intB ?_) | (with_reducible refine wg_min2 ?_) | (with_reducible refine wg_max2 ?_) | (with_reducible refine wg_neg ?_)
    | (with_reducible refine wg_isN ?_) | (with_reducible refine wg_isNot ?_) | (with_reducible refine wg_tupleT ?_) | (with_reducible refine wg_listL ?_) | (with_reducible refine wg_listT ?_) | (with_reducible refine wg_slL ?_) | (with_reducible refine wg_slT ?_)
    | (with_reducible refine wg_mod (by decide) ?_) | (with_reducible refine wg_div (by decide) ?_)
    | ((with_reducible apply wg_lst); exact Nat.le_of_ble_eq_true rfl; exact rfl) | ((with_reducible apply wg_tup); exact Nat.le_of_ble_eq_true rfl; exact rfl) | ((with_reducible apply wg_lstN); exact Nat.le_of_ble_eq_true rfl)
    | ((with_reducible apply wg_ixR); exact rfl; exact rfl) | ((with_reducible apply wg_ixL); exact rfl) | ((with_reducible apply wg_ixT); exact rfl) | ((with_reducible apply wg_ixRT); exact rfl; exact rfl)
    | ((with_reducible apply fset_lst); exact rfl; exact rfl; try simp only [Int.reduceToNat, List.set_cons_succ, List.set_cons_zero])
    | (with_reducible refine ex_str ?_) | (with_reducible refine ex_int ?_) | ((with_reducible apply ex_lm); exact rfl)
    | (with_reducible refine ex_seqLd ?_) | (with_reducible refine ex_seqTd ?_) | (with_reducible refine ex_seqSd ?_) | (with_reducible refine ex_name ?_) | ((with_reducible apply ex_atup); exact rfl)
    | ((with_reducible apply ex_rng1); exact rg_ok (by omega) (by omega)) | ((with_reducible apply ex_rng2); exact rg_ok (by omega) (by omega); exact rg_ok (by omega) (by omega))
    | (with_reducible exact ⟨rfl, rfl⟩) | (with_reducible refine and_eq ?_)  | (with_reducible assumption) )
local macro_rules
  | `(tactic| left) => `(tactic| first
    | (with_reducible refine ws_setIxN ?_) | (with_reducible refine we_dicN ?_) | (with_reducible refine we_dget2 ?_) | (with_reducible refine we_dpop ?_) | (with_reducible refine ws_raise ?_) | (with_reducible refine ws_raiseI ?_) | (with_reducible refine ws_try ?_)
    | (with_reducible refine thenS_er ?_) | (with_reducible refine turnS_er ?_) | (with_reducible refine thenS_ct ?_) | (with_reducible refine thenS_bk ?_) | (with_reducible refine endX_nx ?_) | (with_reducible refine endX_rt ?_) | (with_reducible refine endX_er ?_) | (with_reducible refine clS_rt ?_) | (with_reducible refine clS_nx ?_) | (with_reducible refine clS_er ?_) )
def wbOb (W : Addr) (V : List Nd) (q : Nat) : Ob := .ins W [("ends", .d (.list (V.map nd))), ("rows", .ref q)]
def rwOb (rs : List Row) : Ob := .lst (rs.map fun r => .d (rowP r))
theorem rwOb_below {rs : List Row} {n : Nat} : (rwOb rs).below n := fun x hx => by
  obtain ⟨r, _, rfl⟩ := List.mem_map.mp hx
  exact True.intro
theorem key_ends {bl : List Blk} : PyData.none :: ((bl.map kvOf).map fun kv => valOfKey kv.1) = (nds bl).map nd := by
  simp only [nds, List.map_cons, List.map_map]
  rfl
theorem winit_ok {W : Addr} {bl : List Blk} {p : Nat} {S : Sto} {Q : Val → Sto → Prop} (hp : S[p]? = some (.dic (bl.map kvOf))) (few : bl.length ≤ 10) (q : Q (.d .none) (S ++ [wbOb W (nds bl) (S.length + 1), rwOb []])) :
    WG (g_Web_init W [.ref S.length, .ref p] (S ++ [.ins W []])) Q := by
  refine wg_keep ?_
  unfold b_Web_init
  repeat left
  refine wg_listK (get_app hp) ?_
  repeat left
  refine wg_addL (size16 (by simp; omega)) ?_
  rw [show [PyData.none] ++ ((bl.map kvOf).map fun kv => valOfKey kv.1) = (nds bl).map nd from key_ends]
  repeat left
  refine ex_fld (fs' := [("ends", .d (.list ((nds bl).map nd)))]) rfl (Nat.le_of_ble_eq_true rfl) ?_
  repeat left
  simp only [List.append_assoc, List.cons_append, List.nil_append, List.length_append, List.length_cons, List.length_nil, Nat.zero_add]
  refine ex_fld (fs' := [("ends", .d (.list ((nds bl).map nd))), ("rows", .ref (S.length + 1))]) rfl (Nat.le_of_ble_eq_true rfl) ?_
  repeat left
  exact q
theorem wadd_ok {W : Addr} {w q : Nat} {V : List Nd} {rs : List Row} {S : Sto} {r : Row} {Q : Val → Sto → Prop} (h : WebS W w q V rs S) (hl : rs.length ≤ 100) (k : Q (.d .none) (S.set q (rwOb (rs ++ [r])))) :
    WG (g_Web_add W [.ref w, .d (nd r.src), .d (nd r.dst), .d (.int r.w), .d (tg r.tag)] S) Q := by
  refine wg_cut ?_
  unfold b_Web_add
  repeat left
  refine ex_get h.ob rfl ?_
  refine ex_lm h.rw_ ?_
  repeat left
  refine ex_lst h.rw_ (wg_append (Nat.lt_of_lt_of_le (show _ < 1000000 by rw [List.length_map]; omega) (Nat.le_of_ble_eq_true rfl)) ?_)
  repeat left
  rw [show Ob.lst ((rs.map fun r => Val.d (rowP r)) ++ [Val.d (.tuple [nd r.src, nd r.dst, .int r.w, tg r.tag])]) = rwOb (rs ++ [r]) by simp [rwOb, rowP]]
  exact fin_set rwOb_below k
/-- one likening's or block's two links -/
theorem wadd2_ok {W : Addr} {w q : Nat} {V : List Nd} {rs : List Row} {S : Sto} {r : Row} {e : Ev} {R : Fl → Ev → Sto → Prop} {m0 m1 m2 m3 m4 : M} (h : WebS W w q V rs S) (hl : rs.length ≤ 100) (h0 : WE (m0 e S) fun x S' => x = .ref w ∧ S' = S) (h1 : WE (m1 e S) fun x S' => x = .d (nd r.src) ∧ S' = S)
    (h2 : WE (m2 e S) fun x S' => x = .d (nd r.dst) ∧ S' = S) (h3 : WE (m3 e S) fun x S' => x = .d (.int r.w) ∧ S' = S) (h4 : WE (m4 e S) fun x S' => x = .d (tg r.tag) ∧ S' = S) (k : R .nx e (S.set q (rwOb (rs ++ [r])))) :
    WS (dExpr (mMeth W "add" (g_Web_add W) m0 [m1, m2, m3, m4]) e S) R := by
  refine ws_expr (we_meth (h0.mono fun x S' z => ?_))
  obtain ⟨rfl, rfl⟩ := z
  refine ex_meth h.ob rfl ?_
  refine wa_cons (h1.mono fun x S1 z => ?_)
  obtain ⟨rfl, rfl⟩ := z
  refine wa_cons (h2.mono fun x S1 z => ?_)
  obtain ⟨rfl, rfl⟩ := z
  refine wa_cons (h3.mono fun x S1 z => ?_)
  obtain ⟨rfl, rfl⟩ := z
  refine wa_cons (h4.mono fun x S1 z => ?_)
  obtain ⟨rfl, rfl⟩ := z
  exact wa_nil (wadd_ok h hl k)
theorem webs_app {W : Addr} {V : List Nd} {rs : List Row} {S : Sto} : WebS W S.length (S.length + 1) V rs (S ++ [wbOb W V (S.length + 1), rwOb rs]) := ⟨sto2_at1, sto2_at2⟩
theorem webs_set {W : Addr} {w q : Nat} {V : List Nd} {rs : List Row} {S : Sto} {p : Nat} {o : Ob} (h : WebS W w q V rs S) (h1 : p ≠ w) (h2 : p ≠ q) : WebS W w q V rs (S.set p o) := ⟨get_set_ne h1 h.ob, get_set_ne h2 h.rw_⟩
theorem webs_put {W : Addr} {w q : Nat} {V : List Nd} {rs rs' : List Row} {S : Sto} (h : WebS W w q V rs S) (hn : q ≠ w) : WebS W w q V rs' (S.set q (rwOb rs')) := ⟨get_set_ne hn h.ob, get_set h.rw_⟩
theorem web_ok {C W : Addr} {a b : Int} {bl : List Blk} {r p k : Nat} {g : Int} {ks : List Kp} {S : Sto} {Q : Val → Sto → Prop} (h : CsS C a b bl r p k g ks S) (ok : KsOk bl ks g) (few : bl.length ≤ 10) (nd_ : (bl.map (·.name)).Nodup)
    (q : Q (.ref S.length) (S ++ [wbOb W (nds bl) (S.length + 1), rwOb (rowsOf bl ks)])) : WG (g_Case_web C W [.ref r] S) Q := by
  have fk := ok.few
  have pl : p < S.length := (List.getElem?_eq_some_iff.mp h.bk).1
  have kl : k < S.length := (List.getElem?_eq_some_iff.mp h.kp).1
  refine wg_keep ?_
  unfold b_Case_web
  repeat left
  refine ex_get h.cs rfl ?_
  repeat left
  refine winit_ok h.bk few ?_
  repeat left
  refine ws_lock (i := p) (kvs := bl.map kvOf) ?_ (get_app h.bk) ?_
  · repeat left
    exact ex_get (get_app h.cs) rfl rfl
  have c1 : ∀ U : Sto, (S ++ U)[r]? = some (.ins C [("film", .d (.tuple [.int a, .int b])), ("blocks", .ref p), ("kept", .ref k), ("given", .d (.int g))]) := fun U => get_app h.cs
  have c2 : ∀ U : Sto, ((S ++ U).set p (.dicL (bl.map kvOf)))[p]? = some (.dicL (bl.map kvOf)) := fun U => get_set (get_app h.bk)
  have c1' : ∀ U : Sto, ((S ++ U).set p (.dicL (bl.map kvOf)))[r]? = some (.ins C [("film", .d (.tuple [.int a, .int b])), ("blocks", .ref p), ("kept", .ref k), ("given", .d (.int g))]) := fun U => get_set_ne (Ne.symm h.rp) (c1 U)
  have wq : ∀ rs : List Row, WebS W S.length (S.length + 1) (nds bl) rs ((S ++ [wbOb W (nds bl) (S.length + 1), rwOb rs]).set p (.dicL (bl.map kvOf))) := fun rs => webs_set webs_app (by omega) (by omega)
  have st : ∀ rs rs' : List Row, ((S ++ [wbOb W (nds bl) (S.length + 1), rwOb rs]).set p (.dicL (bl.map kvOf))).set (S.length + 1) (rwOb rs') = (S ++ [wbOb W (nds bl) (S.length + 1), rwOb rs']).set p (.dicL (bl.map kvOf)) := fun rs rs' => by
    rw [List.set_comm _ _ (show p ≠ S.length + 1 by omega), sto2_set2]
  repeat left
  refine ex_get (c1' _) rfl ?_
  repeat left
  refine ⟨⟨(bl.map kvOf).map fun kv => .d (valOfKey kv.1), some (p, .dicL (bl.map kvOf))⟩, by simp only [fKeys, c2], ?_⟩
  rw [show ((bl.map kvOf).map fun kv => Val.d (valOfKey kv.1)) = bl.map fun b => .d (.str b.key) by rw [List.map_map]; rfl]
  refine ws_loopM (fun dn e U => U = (S ++ [wbOb W (nds bl) (S.length + 1), rwOb (rowsB dn)]).set p (.dicL (bl.map kvOf)) ∧ ∃ x2 x3 x4 x5 x6 x7 x8 : Option Val, e = [some (.ref r), some (.ref S.length), x2, x3, x4, x5, x6, x7, x8])
    (fun dn x r' e U hx hI => ?_) (fun e U hI => ?_) ⟨rfl, _, _, _, _, _, _, _, rfl⟩
  · obtain ⟨rfl, x2, x3, x4, x5, x6, x7, x8, rfl⟩ := hI
    have hm : x ∈ bl := by rw [hx]; simp
    have hl : dn.length ≤ 10 := by
      have := congrArg List.length hx
      simp at this
      omega
    have l1 := len_rowsB dn
    refine ⟨by exact c2 _, _, rfl, ?_⟩
    simp only [List.map_cons, List.map_nil, List.set_cons_succ, List.set_cons_zero]
    refine ws_seq (ws_asg (we_op (we_fld (we_var rfl (ex_get (c1' _) rfl (we_var rfl (wg_ixDL (k := .inr x.key) (c2 _) rfl (valK_mem (List.mem_map_of_mem hm) (kv_nd nd_)) ⟨_, rfl, thenS_nx ?_⟩)))))))
    refine ws_seq (wadd2_ok (r := ⟨none, some x.key, x.hi, none⟩) (wq _) (by omega) (we_var rfl ⟨rfl, rfl⟩) (we_non ⟨rfl, rfl⟩) (we_var rfl ⟨rfl, rfl⟩) (we_var rfl ⟨rfl, rfl⟩) (we_non ⟨rfl, rfl⟩) ?_)
    rw [st]
    refine thenS_nx (wadd2_ok (r := ⟨some x.key, none, 0 - x.lo, none⟩) (wq _) (by rw [List.length_append]; simp; omega) (we_var rfl ⟨rfl, rfl⟩) (we_var rfl ⟨rfl, rfl⟩) (we_non ⟨rfl, rfl⟩) (we_op (we_int (we_var rfl (wg_sub ⟨rfl, rfl⟩)))) (we_non ⟨rfl, rfl⟩) ?_)
    rw [st]
    refine turnS_nx ⟨?_, _, _, _, _, _, _, _, rfl⟩
    rw [rowsB_snoc, List.append_assoc]
    rfl
  · obtain ⟨rfl, x2, x3, x4, x5, x6, x7, x8, rfl⟩ := hI
    refine ⟨by exact c2 _, c2 _, fun z => by simp, ?_⟩
    rw [set_back (get_app h.bk)]
    repeat left
    refine ex_get (c1 _) rfl ?_
    refine wg_listK (get_app h.kp) ?_
    repeat left
    rw [show ((keptKv ks).map fun kv => valOfKey kv.1) = (ks.map (·.num)).map PyData.int by simp only [keptKv, List.map_map]; rfl]
    refine sorted_ints ok.inc ?_
    repeat left
    rw [show (List.map Val.d (List.map PyData.int (ks.map (·.num)))) = ks.map fun x => Val.d (.int x.num) by simp]
    refine ws_loopM (fun dn e U => U = S ++ [wbOb W (nds bl) (S.length + 1), rwOb (rowsB bl ++ rowsK dn)] ∧ ∃ x2 x3 x4 x5 x6 x7 x8 : Option Val, e = [some (.ref r), some (.ref S.length), x2, x3, x4, x5, x6, x7, x8])
      (fun dn x r' e U hx hI => ?_) (fun e U hI => ?_) ⟨by rw [show rowsB bl ++ rowsK [] = rowsB bl from List.append_nil _], _, _, _, _, _, _, _, rfl⟩
    · obtain ⟨rfl, x2, x3, x4, x5, x6, x7, x8, rfl⟩ := hI
      have hm : x ∈ ks := by rw [hx]; simp
      have hl : dn.length ≤ 30 := by
        have := congrArg List.length hx
        simp at this
        omega
      have l1 := len_rowsB bl
      have l2 := len_rowsK dn
      refine ⟨by exact True.intro, _, rfl, ?_⟩
      simp only [List.map_cons, List.map_nil, List.set_cons_succ, List.set_cons_zero]
      refine ws_seq (ws_asg (we_op (we_fld (we_var rfl (ex_get (c1 _) rfl (we_var rfl (wg_ixD (k := .inl x.num) (get_app h.kp) rfl (kept_get ok hm) ⟨_, rfl, thenS_nx ?_⟩)))))))
      refine ws_seq (wadd2_ok (r := ⟨some x.other, some x.one, x.hi, some x.num⟩) webs_app (by rw [List.length_append]; omega) (we_var rfl ⟨rfl, rfl⟩) (we_var rfl ⟨rfl, rfl⟩) (we_var rfl ⟨rfl, rfl⟩) (we_var rfl ⟨rfl, rfl⟩) (we_var rfl ⟨rfl, rfl⟩) ?_)
      rw [sto2_set2]
      refine thenS_nx (wadd2_ok (r := ⟨some x.one, some x.other, 0 - x.lo, some x.num⟩) webs_app (by simp; omega) (we_var rfl ⟨rfl, rfl⟩) (we_var rfl ⟨rfl, rfl⟩) (we_var rfl ⟨rfl, rfl⟩) (we_op (we_int (we_var rfl (wg_sub ⟨rfl, rfl⟩)))) (we_var rfl ⟨rfl, rfl⟩) ?_)
      rw [sto2_set2]
      refine turnS_nx ⟨?_, _, _, _, _, _, _, _, rfl⟩
      rw [rowsK_snoc]
      simp only [List.append_assoc, List.cons_append, List.nil_append]
    · obtain ⟨rfl, x2, x3, x4, x5, x6, x7, x8, rfl⟩ := hI
      refine ⟨by exact True.intro, ?_⟩
      repeat left
      exact q
end Lw
end
section
set_option Elab.async false
set_option linter.all false
set_option autoImplicit false
set_option maxRecDepth 100000
set_option maxHeartbeats 2000000
namespace Lw
open PySem PySem.Spec PyProof.Rows L2 Lv
local macro_rules
  | `(tactic| left) => `(tactic| first
    | (with_reducible refine ws_seq ?_) | (with_reducible refine ws_set ?_) | (with_reducible refine ws_expr ?_) | (with_reducible refine ws_ret ?_) | (with_reducible refine ws_retN ?_) | (with_reducible refine ws_if ?_) | (with_reducible refine ws_next ?_) | (with_reducible refine ws_asg ?_) | (with_reducible refine ws_setIx ?_) | (with_reducible refine ws_for ?_)
    | ((with_reducible refine thenS_nx ?_); try simp only [env0, List.map_cons, List.map_nil, List.length_cons, List.length_nil, Nat.reduceAdd, Nat.reduceSub, List.replicate, List.cons_append, List.nil_append, List.set_cons_succ, List.set_cons_zero])
    | (with_reducible refine thenS_rt ?_) | (with_reducible refine endG_nx ?_) | (with_reducible refine endG_rt ?_) | (with_reducible refine turnS_nx ?_) | (with_reducible refine turnS_rt ?_)
    | (with_reducible refine we_int ?_) | (with_reducible refine we_str ?_) | (with_reducible refine we_bool ?_) | (with_reducible refine we_non ?_) | (with_reducible refine we_op ?_) | (with_reducible refine we_op1 ?_) | (with_reducible refine we_fn ?_) | (with_reducible refine we_call ?_) | (with_reducible refine we_not ?_) | (with_reducible refine we_and ?_) | (with_reducible refine we_or ?_) | (with_reducible refine we_ifx ?_)
    | (with_reducible refine we_ch2 ?_) | (with_reducible refine we_ch3 ?_) | (with_reducible refine we_sl ?_) | (with_reducible refine wa_nil ?_) | (with_reducible refine wa_cons ?_) | (with_reducible refine wp_none ?_) | (with_reducible refine wp_some ?_) | (with_reducible refine wb_intro ?_) | (with_reducible refine ite_t ?_) | (with_reducible refine ite_f ?_) | (with_reducible refine ite_nt ?_) | (with_reducible refine ite_nf ?_)
    | (with_reducible refine we_lc ?_) | (with_reducible refine we_lcN ?_) | (with_reducible refine we_make ?_) | (with_reducible refine we_disp ?_) | (with_reducible refine wk_nil ?_) | (with_reducible refine wk_cons ?_) | (with_reducible refine ws_fld ?_) | (with_reducible refine we_fld ?_) | (with_reducible refine we_meth ?_) | (with_reducible refine we_dic0 ?_)
    | (with_reducible refine we_join ?_)
    | (with_reducible refine we_lm ?_)
    | ((with_reducible apply we_var); exact rfl)
    | (with_reducible refine wg_addI ?_) | (with_reducible refine wg_sub ?_) | (with_reducible refine wg_lt ?_) | (with_reducible refine wg_le ?_) | (with_reducible refine wg_gt ?_) | (with_reducible refine wg_ge ?_) | (with_reducible refine wg_eqI ?_) | (with_reducible refine wg_neI ?_)
    | (with_reducible refine wg_lenL ?_) | (with_reducible refine wg_lenT ?_) | (with_reducible refine wg_intI ?_) | (with_reducible refine wg_intB ?_) | (with_reducible refine wg_min2 ?_) | (with_reducible refine wg_max2 ?_) | (with_reducible refine wg_neg ?_)
    | (with_reducible refine wg_isN ?_) | (with_reducible refine wg_isNot ?_) | (with_reducible refine wg_tupleT ?_) | (with_reducible refine wg_listL ?_) | (with_reducible refine wg_listT ?_) | (with_reducible refine wg_slL ?_) | (with_reducible refine wg_slT ?_)
    | (with_reducible refine wg_mod (by decide) ?_) | (with_reducible refine wg_div (by decide) ?_)
    | ((with_reducible apply wg_lst); exact Nat.le_of_ble_eq_true rfl; exact rfl) | ((with_reducible apply wg_tup); exact Nat.le_of_ble_eq_true rfl; exact rfl) | ((with_reducible apply wg_lstN); exact Nat.le_of_ble_eq_true rfl)
    | ((with_reducible apply wg_ixR); exact rfl; exact rfl) | ((with_reducible apply wg_ixL); exact rfl) | ((with_reducible apply wg_ixT); exact rfl) | ((with_reducible apply wg_ixRT); exact rfl; exact rfl)
    | ((with_reducible apply fset_lst); exact rfl; exact rfl; try simp only [Int.reduceToNat, List.set_cons_succ, List.set_cons_zero])
    | (with_reducible refine ex_str ?_) | (with_reducible refine ex_int ?_) | ((with_reducible apply ex_lm); exact rfl)
    | (with_reducible refine ex_seqLd ?_) | (with_reducible refine ex_seqTd ?_) | (with_reducible refine ex_seqSd ?_) | (with_reducible refine ex_name ?_) | ((with_reducible apply ex_atup); exact rfl)
    | ((with_reducible apply ex_rng1); exact rg_ok (by omega) (by omega)) | ((with_reducible apply ex_rng2); exact rg_ok (by omega) (by omega); exact rg_ok (by omega) (by omega))
    | (with_reducible exact ⟨rfl, rfl⟩) | (with_reducible refine and_eq ?_)  | (with_reducible assumption) )
local macro_rules
  | `(tactic| left) => `(tactic| first
    | (with_reducible refine ws_setIxN ?_) | (with_reducible refine we_dicN ?_) | (with_reducible refine we_dget2 ?_) | (with_reducible refine we_dpop ?_) | (with_reducible refine ws_raise ?_) | (with_reducible refine ws_raiseI ?_) | (with_reducible refine ws_try ?_)
    | (with_reducible refine thenS_er ?_) | (with_reducible refine turnS_er ?_) | (with_reducible refine thenS_ct ?_) | (with_reducible refine thenS_bk ?_) | (with_reducible refine endX_nx ?_) | (with_reducible refine endX_rt ?_) | (with_reducible refine endX_er ?_) | (with_reducible refine clS_rt ?_) | (with_reducible refine clS_nx ?_) | (with_reducible refine clS_er ?_) )
theorem loop_nil {kp : Option (Nat × Ob)} {g : Asg} {x : MS} {e : Ev} {S : Sto} {R : Fl → Ev → Sto → Prop} (hk : Lv.Kp S kp) (h : R .nx e S) : WS (loop kp g x [] e S) R := by
  unfold loop
  rw [if_pos hk]
  exact ws_some h
theorem loop_cons {kp : Option (Nat × Ob)} {g : Asg} {x : MS} {v : Val} {r : List Val} {e : Ev} {S : Sto} {R : Fl → Ev → Sto → Prop} (hk : Lv.Kp S kp) (h : ∃ e1, g v e S = some e1 ∧ WS (x e1 S) (turnS (fun e' S' => WS (loop kp g x r e' S') R) R)) : WS (loop kp g x (v :: r) e S) R := by
  obtain ⟨e1, h2, f, e2, S2, h3, q⟩ := h
  unfold loop
  rw [if_pos hk, h2]
  simp only [h3]
  cases f with
  | nx => exact q
  | ct => exact q
  | bk => exact ws_some q
  | rt z => exact ws_some q
  | er z => exact ws_some q
theorem CsS.app {C : Addr} {a b : Int} {bl : List Blk} {r p k : Nat} {g : Int} {ks : List Kp} {S U : Sto} (h : CsS C a b bl r p k g ks S) : CsS C a b bl r p k g ks (S ++ U) := ⟨get_app h.cs, get_app h.bk, get_app h.kp, h.rp, h.rk, h.pk, h.r0, h.p0, h.k0⟩
theorem MdS.app {a b : Int} {bl : List Blk} {tv : List Int} {c : Bool} {m t k : Nat} {g : Int} {ks : List Kp} {S U : Sto} (h : MdS a b bl tv c m t k g ks S) : MdS a b bl tv c m t k g ks (S ++ U) := ⟨get_app h.md, get_app h.tr, get_app h.kp, h.mt, h.mk_, h.tk, h.m0, h.t0, h.k0⟩
theorem WebS.app {W : Addr} {w q : Nat} {V : List Nd} {rs : List Row} {S U : Sto} (h : WebS W w q V rs S) : WebS W w q V rs (S ++ U) := ⟨get_app h.ob, get_app h.rw_⟩
/-! ### least sums, read -/
section
variable {z : PgW} {C W : Addr} {a b : Int} {bl : List Blk} {tv : List Int} {c : Bool} {m t k r p w q : Nat} {g : Int} {ks : List Kp} {S : Sto} {e : Ev} {u v : Nd} {Q : Val → Sto → Prop} {R : Fl → Ev → Sto → Prop}
theorem spreads_ok (h : WebS W w q (nds bl) (rowsOf bl ks) S) (ok : KsOk bl ks g) (few : bl.length ≤ 10) (hu : u ∈ nds bl)
    (k : ∀ kd kb s, Lm.Inv (rowsOf bl ks) u s → Lm.Done (rowsOf bl ks) u s → RD .int (nds bl) s.D kd → RD rowP (nds bl) s.B kb → Q (.ref (S.length + 2)) (S ++ [.dicN z kd, .dicN z kb, .tup [.ref S.length, .ref (S.length + 1)]])) :
    WG (g_Web_spread z W [.ref w, .d (nd u)] S) Q := by
  obtain ⟨π, f⟩ := ok.fs
  have ends := rows_ends ok
  refine spread_ok h hu ends (by rw [nds_len]; omega) fun kd kb hd hb => ?_
  exact k kd kb _ (Lm.Inv.passes f u _) (Lm.passes_done f hu (fun r hr => (ends r hr).1) (Nat.le_refl _)) hd hb
theorem sum_ok {mw mb mg : M} (h : WebS W w q (nds bl) (rowsOf bl ks) S) (ok : KsOk bl ks g) (few : bl.length ≤ 10) (hu : u ∈ nds bl) (hv : v ∈ nds bl) (h0 : ∀ S, mw e S = some (.ok (.ref w), S)) (h1 : ∀ S, mb e S = some (.ok (.d (nd u)), S)) (h2 : ∀ S, mg e S = some (.ok (.d (nd v)), S))
    (k : ∀ d U, Lm.Dist (rowsOf bl ks) u v d → Q (.d (.int d)) (S ++ U)) : WE (mOp (fIxN z) (mOp fIx (mMeth W "spread" (g_Web_spread z W) mw [mb]) (mInt 0)) mg e S) Q := by
  obtain ⟨d, hd⟩ := dist_nd ok hu hv
  refine we_op (we_op (we_meth ⟨_, _, h0 S, ex_meth h.ob rfl (wa_cons ⟨_, _, h1 S, wa_nil (spreads_ok h ok few hu fun kd kb s I dn hD hB => ?_)⟩)⟩))
  refine we_int (wg_ixRT (xs := [.ref S.length, .ref (S.length + 1)]) (by simp) rfl ⟨_, _, h2 _, ?_⟩)
  exact wg_ixN (kvs := kd) (by simp) (leaf_nd v) ((sums_of hD I dn).at_ v hv d hd) (k d _ hd)
theorem key_in {s : Str} : (valK (bl.map kvOf) (.inr s)).isSome = decide (s ∈ names bl) := by
  unfold valK names
  rw [Option.isSome_map, Bool.eq_iff_iff, List.find?_isSome, decide_eq_true_iff, List.mem_map]
  constructor
  · rintro ⟨x, hx, h⟩
    obtain ⟨y, hy, rfl⟩ := List.mem_map.mp hx
    exact ⟨y, hy, Sum.inr.inj (of_decide_eq_true h)⟩
  · rintro ⟨y, hy, rfl⟩
    exact ⟨_, List.mem_map_of_mem hy, decide_eq_true rfl⟩
theorem fin_sameX {S U : Sto} {x : Str} {Er : Xn → Sto → Prop} (q : Er ⟨x, none⟩ S) : CutOk S (S ++ U) ∧ ∃ y, frzX S.length (S ++ U) ⟨x, none⟩ = some y ∧ Er y ((S ++ U).take S.length) :=
  ⟨cut_app, _, rfl, by simpa using q⟩
theorem fin_sameX0 {S : Sto} {x : Str} {Er : Xn → Sto → Prop} (q : Er ⟨x, none⟩ S) : CutOk S S ∧ ∃ y, frzX S.length S ⟨x, none⟩ = some y ∧ Er y (S.take S.length) := by
  have := fin_sameX (U := []) q
  simpa using this
theorem need_ok {Er : Xn → Sto → Prop} {s : Str} (h : CsS C a b bl r p k g ks S) (q1 : s ∈ names bl → Q (.d .none) S) (q2 : s ∉ names bl → Er ⟨"NoBlock", none⟩ S) : WEX Er (g_Case_need_block C [.ref r, .d (.str s)] S) Q := by
  refine wx_cut ?_
  unfold b_Case_need_block
  repeat left
  refine ex_get h.cs rfl ?_
  refine wg_notIn (inA_dic h.bk rfl) ?_
  rw [key_in]
  refine wb_intro (ite_nd (fun h1 => ?_) (fun h1 => ?_))
  · repeat left
    exact fin_sameX0 (q2 h1)
  · repeat left
    exact fin_same0 (q1 h1)
/-! ### what bars a likening -/
def Bar (bl : List Blk) (ks : List Kp) (one other : Str) (lo hi : Int) : Prop := ∃ d1 d2, Lm.Dist (rowsOf bl ks) (some one) (some other) d1 ∧ Lm.Dist (rowsOf bl ks) (some other) (some one) d2 ∧ (d1 + hi < 0 ∨ d2 < lo)
end
end Lw
end
section
set_option Elab.async false
set_option linter.all false
set_option autoImplicit false
set_option maxRecDepth 100000
set_option maxHeartbeats 2000000
namespace Lw
open PySem PySem.Spec PyProof.Rows L2 Lv
local macro_rules
  | `(tactic| left) => `(tactic| first
    | (with_reducible refine ws_seq ?_) | (with_reducible refine ws_set ?_) | (with_reducible refine ws_expr ?_) | (with_reducible refine ws_ret ?_) | (with_reducible refine ws_retN ?_) | (with_reducible refine ws_if ?_) | (with_reducible refine ws_next ?_) | (with_reducible refine ws_asg ?_) | (with_reducible refine ws_setIx ?_) | (with_reducible refine ws_for ?_)
    | ((with_reducible refine thenS_nx ?_); try simp only [env0, List.map_cons, List.map_nil, List.length_cons, List.length_nil, Nat.reduceAdd, Nat.reduceSub, List.replicate, List.cons_append, List.nil_append, List.set_cons_succ, List.set_cons_zero])
    | (with_reducible refine thenS_rt ?_) | (with_reducible refine endG_nx ?_) | (with_reducible refine endG_rt ?_) | (with_reducible refine turnS_nx ?_) | (with_reducible refine turnS_rt ?_)
    | (with_reducible refine we_int ?_) | (with_reducible refine we_str ?_) | (with_reducible refine we_bool ?_) | (with_reducible refine we_non ?_) | (with_reducible refine we_op ?_) | (with_reducible refine we_op1 ?_) | (with_reducible refine we_fn ?_) | (with_reducible refine we_call ?_) | (with_reducible refine we_not ?_) | (with_reducible refine we_and ?_) | (with_reducible refine we_or ?_) | (with_reducible refine we_ifx ?_)
    | (with_reducible refine we_ch2 ?_) | (with_reducible refine we_ch3 ?_) | (with_reducible refine we_sl ?_) | (with_reducible refine wa_nil ?_) | (with_reducible refine wa_cons ?_) | (with_reducible refine wp_none ?_) | (with_reducible refine wp_some ?_) | (with_reducible refine wb_intro ?_) | (with_reducible refine ite_t ?_) | (with_reducible refine ite_f ?_) | (with_reducible refine ite_nt ?_) | (with_reducible refine ite_nf ?_)
    | (with_reducible refine we_lc ?_) | (with_reducible refine we_lcN ?_) | (with_reducible refine we_make ?_) | (with_reducible refine we_disp ?_) | (with_reducible refine wk_nil ?_) | (with_reducible refine wk_cons ?_) | (with_reducible refine ws_fld ?_) | (with_reducible refine we_fld ?_) | (with_reducible refine we_meth ?_) | (with_reducible refine we_dic0 ?_)
    | (with_reducible refine we_join ?_)
    | (with_reducible refine we_lm ?_)
    | ((with_reducible apply we_var); exact rfl)
    | (with_reducible refine wg_addI ?_) | (with_reducible refine wg_sub ?_) | (with_reducible refine wg_lt ?_) | (with_reducible refine wg_le ?_) | (with_reducible refine wg_gt ?_) | (with_reducible refine wg_ge ?_) | (with_reducible refine wg_eqI ?_) | (with_reducible refine wg_neI ?_)
    | (with_reducible refine wg_lenL ?_) | (with_reducible refine wg_lenT ?_) | (with_reducible refine wg_intI ?_) | (with_reducible refine wg_intB ?_) | (with_reducible refine wg_min2 ?_) | (with_reducible refine wg_max2 ?_) | (with_reducible refine wg_neg ?_)
    | (with_reducible refine wg_isN ?_) | (with_reducible refine wg_isNot ?_) | (with_reducible refine wg_tupleT ?_) | (with_reducible refine wg_listL ?_) | (with_reducible refine wg_listT ?_) | (with_reducible refine wg_slL ?_) | (with_reducible refine wg_slT ?_)
    | (with_reducible refine wg_mod (by decide) ?_) | (with_reducible refine wg_div (by decide) ?_)
    | ((with_reducible apply wg_lst); exact Nat.le_of_ble_eq_true rfl; exact rfl) | ((with_reducible apply wg_tup); exact Nat.le_of_ble_eq_true rfl; exact rfl) | ((with_reducible apply wg_lstN); exact Nat.le_of_ble_eq_true rfl)
    | ((with_reducible apply wg_ixR); exact rfl; exact rfl) | ((with_reducible apply wg_ixL); exact rfl) | ((with_reducible apply wg_ixT); exact rfl) | ((with_reducible apply wg_ixRT); exact rfl; exact rfl)
    | ((with_reducible apply fset_lst); exact rfl; exact rfl; try simp only [Int.reduceToNat, List.set_cons_succ, List.set_cons_zero])
    | (with_reducible refine ex_str ?_) | (with_reducible refine ex_int ?_) | ((with_reducible apply ex_lm); exact rfl)
    | (with_reducible refine ex_seqLd ?_) | (with_reducible refine ex_seqTd ?_) | (with_reducible refine ex_seqSd ?_) | (with_reducible refine ex_name ?_) | ((with_reducible apply ex_atup); exact rfl)
    | ((with_reducible apply ex_rng1); exact rg_ok (by omega) (by omega)) | ((with_reducible apply ex_rng2); exact rg_ok (by omega) (by omega); exact rg_ok (by omega) (by omega))
    | (with_reducible exact ⟨rfl, rfl⟩) | (with_reducible refine and_eq ?_)  | (with_reducible assumption) )
local macro_rules
  | `(tactic| left) => `(tactic| first
    | (with_reducible refine ws_setIxN ?_) | (with_reducible refine we_dicN ?_) | (with_reducible refine we_dget2 ?_) | (with_reducible refine we_dpop ?_) | (with_reducible refine ws_raise ?_) | (with_reducible refine ws_raiseI ?_) | (with_reducible refine ws_try ?_)
    | (with_reducible refine thenS_er ?_) | (with_reducible refine turnS_er ?_) | (with_reducible refine thenS_ct ?_) | (with_reducible refine thenS_bk ?_) | (with_reducible refine endX_nx ?_) | (with_reducible refine endX_rt ?_) | (with_reducible refine endX_er ?_) | (with_reducible refine clS_rt ?_) | (with_reducible refine clS_nx ?_) | (with_reducible refine clS_er ?_) )
theorem eqv_nd (u v : Nd) : PyData.eqv (nd u) (nd v) = decide (u = v) := by
  cases u with
  | none => cases v <;> simp [nd, PyData.eqv]
  | some s => cases v with
    | none => rfl
    | some x =>
      show (s == x) = _
      by_cases h : s = x
      · subst h; simp
      · have : ¬ ((some s : Nd) = some x) := fun z => h (Option.some.inj z)
        simp [h]
theorem shaped_str {s : Str} (h : PyData.strOk s = true) : SeqAt.shaped (.str s) = true := by simp [SeqAt.shaped, PyData.canLay0, PyData.depth, h]
theorem Blk.Ok.str {x : Blk} (h : x.Ok) : PyData.strOk x.key = true := by
  unfold PyData.strOk
  rw [Array.all_eq_true]
  intro i hi
  refine decide_eq_true ?_
  have hi : i < x.name.length := by simpa using hi
  have := h.az x.name[i] (List.getElem_mem hi)
  show x.name.toArray[i] < _
  rw [List.getElem_toArray]
  omega
theorem shaped_nd {bl : List Blk} (so : ∀ x ∈ bl, x.Ok) {u : Nd} (hu : u ∈ nds bl) : SeqAt.shaped (nd u) = true := by
  rcases List.mem_cons.mp hu with rfl | hu
  · rfl
  · obtain ⟨x, hx, rfl⟩ := List.mem_map.mp hu
    exact shaped_str (so x hx).str
section
variable {z : PgW} {C W : Addr} {a b : Int} {bl : List Blk} {tv : List Int} {c : Bool} {m t k r p w q : Nat} {g : Int} {ks : List Kp} {S : Sto} {e : Ev} {u v : Nd} {Q : Val → Sto → Prop} {R : Fl → Ev → Sto → Prop}
theorem sto4_at2 {S : Sto} {u v x y : Ob} : (S ++ [u, v, x, y])[S.length + 1]? = some v := by simp
theorem sto4_at4 {S : Sto} {u v x y : Ob} : (S ++ [u, v, x, y])[S.length + 3]? = some y := by simp
theorem sto4_set4 {S : Sto} {u v x y y' : Ob} : (S ++ [u, v, x, y]).set (S.length + 3) y' = S ++ [u, v, x, y'] := by simp
theorem way_fun (so : ∀ x ∈ bl, x.Ok) (h : WebS W w q (nds bl) (rowsOf bl ks) S) (ok : KsOk bl ks g) (few : bl.length ≤ 10) (hu : u ∈ nds bl) (hv : v ∈ nds bl)
    (k : ∀ pth, Lm.Dist (rowsOf bl ks) u v (Lm.psum pth) → Lm.Path (rowsOf bl ks) u v pth → pth.length ≤ 11 → Q (.d (.list (pth.map rowP))) S) : WG (g_Web_way z W [.ref w, .d (nd u), .d (nd v)] S) Q := by
  refine wg_cut ?_
  unfold b_Web_way
  refine ws_seq (ws_set (we_op (we_meth (we_var rfl (ex_meth h.ob rfl (wa_cons (we_var rfl (wa_nil (spreads_ok h ok few hu fun kd kb s I dn hD hB => ?_)))))))))
  refine we_int (wg_ixRT (xs := [.ref S.length, .ref (S.length + 1)]) (by simp) rfl (thenS_nx (ws_seq (ws_set ?_))))
  refine we_fn (wa_nil (wg_lstN (Nat.le_of_ble_eq_true rfl) (thenS_nx ?_)))
  obtain ⟨d, hd⟩ := dist_nd ok hu hv
  obtain ⟨pth, htr⟩ := I.tree v d ((dn.at I).mpr hd)
  obtain ⟨hp, hs⟩ := Lm.way_ok I dn hd htr
  have hl : pth.length ≤ 11 := by
    have := Lm.tr_len (V := nds bl) (fun v r hr => by obtain ⟨h1, h2, _⟩ := I.tight v r hr; rw [← h2]; exact (rows_ends ok r h1).2) htr
    rw [nds_len] at this
    omega
  rw [List.append_assoc]
  simp only [List.length_append, List.length_cons, List.length_nil, List.cons_append, List.nil_append, Nat.reduceAdd, Nat.zero_add]
  refine ws_seq (ws_while (fun n e U => ∃ (x : Nd) (pre suf : List Row), Lm.Tr s.B u x pre ∧ x ∈ nds bl ∧ pth = pre ++ suf ∧ n = pre.length ∧ U = S ++ [.dicN z kd, .dicN z kb, .tup [.ref S.length, .ref (S.length + 1)], .lst ((suf.map rowP).reverse.map .d)] ∧
    e = [some (.ref w), some (.d (nd u)), some (.d (nd x)), some (.ref (S.length + 1)), some (.ref (S.length + 3))]) (fun n e U hI => ?_) pth.length _ _ ⟨v, pth, [], htr, hv, by simp, rfl, rfl, rfl⟩)
  obtain ⟨x, pre, suf, hx, hxn, hps, rfl, rfl, rfl⟩ := hI
  refine we_op (we_var rfl (we_var rfl (wg_neD (shaped_nd so hxn) (shaped_nd so hu) (eqv_nd x u) (wb_intro (ite_nd (fun hxu => ?_) (fun hxu => ?_))))))
  · cases hx with
    | root => exact absurd rfl hxu
    | @step _ rr p0 h1 h2 h3 =>
      have hz : (suf.map rowP).reverse.length < 1000000 := by
        have := congrArg List.length hps
        simp at this ⊢
        omega
      refine ws_seq (ws_expr (we_lm (we_var rfl (ex_lm sto4_at4 (wa_cons (we_op (we_var rfl (we_var rfl (wg_ixN (kvs := kb) sto4_at2 (leaf_nd x) (y := .d (rowP rr)) (by rw [hB.val, h1]; rfl) (wa_nil (ex_lst sto4_at4 (wg_append (Nat.lt_of_lt_of_le (by rw [List.length_map]; exact hz) (Nat.le_of_ble_eq_true rfl)) ?_))))))))))))
      rw [sto4_set4]
      refine thenS_nx (ws_set (we_op (we_op (we_var rfl (we_var rfl (wg_ixN (kvs := kb) sto4_at2 (leaf_nd x) (y := .d (rowP rr)) (by rw [hB.val, h1]; rfl) (we_int (wg_ixT (p := nd rr.src) rfl (turnS_nx ⟨p0.length, by simp, rr.src, p0, rr :: suf, h3, (rows_ends ok rr (I.tight _ _ h1).1).1, by rw [hps]; simp, rfl, ?_, rfl⟩)))))))))
      simp
  · subst hxu
    have e0 : pre = [] := hx.fun_ .root
    subst e0
    simp only [List.nil_append] at hps
    subst hps
    refine thenS_nx (ws_ret (we_op1 (we_var rfl (wg_listRevR sto4_at4 (endG_rt ?_)))))
    rw [List.reverse_reverse]
    exact fin_same (k pth (by rw [hs]; exact hd) hp hl)
/-- what a way's likenings are -/
def tagsP (pth : List Row) : List PyData := (pth.filter fun r => r.tag.isSome).map fun r => tg r.tag
def BarBy (bl : List Blk) (ks : List Kp) (one other : Str) (lo hi : Int) (pth : List Row) : Prop :=
  (Lm.Path (rowsOf bl ks) (some one) (some other) pth ∧ Lm.Dist (rowsOf bl ks) (some one) (some other) (Lm.psum pth) ∧ Lm.psum pth + hi < 0) ∨ (Lm.Path (rowsOf bl ks) (some other) (some one) pth ∧ Lm.Dist (rowsOf bl ks) (some other) (some one) (Lm.psum pth) ∧ Lm.psum pth < lo)
theorem tag_isN (o : Option Int) : (!isN (.d (tg o))) = o.isSome := by cases o <;> rfl
theorem bar_fun {one other : Str} {lo hi : Int} (so : ∀ x ∈ bl, x.Ok) (h : CsS C a b bl r p k g ks S) (ok : KsOk bl ks g) (few : bl.length ≤ 10) (nd_ : (bl.map (·.name)).Nodup) (h1 : one ∈ names bl) (h2 : other ∈ names bl)
    (q1 : Bar bl ks one other lo hi → ∀ pth, BarBy bl ks one other lo hi pth → Q (.d (.list (tagsP pth))) S) (q2 : ¬ Bar bl ks one other lo hi → Q (.d .none) S) : WG (g_Case_bar z C W [.ref r, .d (.str one), .d (.str other), .d (.int lo), .d (.int hi)] S) Q := by
  have n1 := nm_nd h1
  have n2 := nm_nd h2
  obtain ⟨d1, e1⟩ := dist_nd ok n1 n2
  obtain ⟨d2, e2⟩ := dist_nd ok n2 n1
  have found : ∀ {U : Sto} {pth : List Row} {e : Ev} {x6 x7 : Nd}, pth.length ≤ 11 → WL (cl none (aName 9) (some (mOp fIsNot (mOp fIx (mVar 9) (mInt 3)) mNone)) (mOp fIx (mVar 9) (mInt 3)) [some (.ref r), some (.d (.str one)), some (.d (.str other)), some (.d (.int lo)), some (.d (.int hi)), some (.ref S.length), some (.d (nd x6)), some (.d (nd x7)), e[8]?.join, none] (List.map Val.d (pth.map rowP)) [] U) fun ps S' => ps = tagsP pth ∧ S' = U := by
    intro U pth e x6 x7 hl
    rw [show (List.map Val.d (List.map rowP pth)) = pth.map fun x => Val.d (rowP x) by simp]
    refine wl_clT (pr := fun x => x.tag.isSome) (fn := fun x => tg x.tag) (by exact True.intro) (fun x _ => ⟨_, rfl, ?_, fun _ => we_eq ?_⟩) (size16 (by omega)) ⟨rfl, rfl⟩
    · exact we_op (we_op (we_var rfl (we_int (wg_ixT (p := tg x.tag) rfl (we_non (wg_isNot ⟨by rw [tag_isN], rfl⟩))))))
    · exact we_op (we_var rfl (we_int (wg_ixT (p := tg x.tag) rfl ⟨rfl, rfl⟩)))
  refine wg_cut ?_
  unfold b_Case_bar
  refine ws_seq (ws_set (we_meth (we_var rfl (ex_meth h.cs rfl (wa_nil (web_ok h ok few nd_ (thenS_nx ?_)))))))
  refine ws_seq (ws_for (wa_cons ?_))
  repeat left
  refine loop_cons (by exact True.intro) ⟨_, rfl, ws_if (we_op (we_op ?_))⟩
  refine sum_ok (u := some one) (v := some other) webs_app ok few n1 n2 (fun _ => rfl) (fun _ => rfl) (fun _ => rfl) fun d1' U1 e1' => ?_
  have := e1'.uniq e1
  subst this
  refine we_var rfl (wg_addI (we_int (wg_lt (wb_intro (ite_d (fun hd => ?_) (fun hd => ?_))))))
  · refine ws_ret (we_lc (wa_cons (we_meth (we_var rfl (ex_meth webs_app.app.ob rfl (wa_cons (we_var rfl (wa_cons (we_var rfl (wa_nil (way_fun (u := some one) (v := some other) so webs_app.app ok few n1 n2 fun pth p1 p2 p3 => wa_nil (ex_seqLd ?_))))))))))))
    refine WL.mono (found (e := [none, none, none, none, none, none, none, none, some (.d (.int hi))]) (x6 := some one) (x7 := some other) p3) fun ps S' z => ?_
    obtain ⟨rfl, rfl⟩ := z
    refine turnS_rt (thenS_rt (endG_rt ?_))
    rw [List.append_assoc]
    have := e1.uniq p1
    exact fin_same (q1 ⟨_, _, e1, e2, .inl hd⟩ pth (.inl ⟨p2, p1, by omega⟩))
  · refine ws_next (turnS_nx ?_)
    refine loop_cons (by exact True.intro) ⟨_, rfl, ws_if (we_op (we_op ?_))⟩
    refine sum_ok (u := some other) (v := some one) webs_app.app ok few n2 n1 (fun _ => rfl) (fun _ => rfl) (fun _ => rfl) fun d2' U2 e2' => ?_
    have := e2'.uniq e2
    subst this
    refine we_var rfl (wg_addI (we_int (wg_lt (wb_intro (ite_d (fun hd2 => ?_) (fun hd2 => ?_))))))
    · refine ws_ret (we_lc (wa_cons (we_meth (we_var rfl (ex_meth webs_app.app.app.ob rfl (wa_cons (we_var rfl (wa_cons (we_var rfl (wa_nil (way_fun (u := some other) (v := some one) so webs_app.app.app ok few n2 n1 fun pth p1 p2 p3 => wa_nil (ex_seqLd ?_))))))))))))
      refine WL.mono (found (e := [none, none, none, none, none, none, none, none, some (.d (.int (0 - lo)))]) (x6 := some other) (x7 := some one) p3) fun ps S' z => ?_
      obtain ⟨rfl, rfl⟩ := z
      refine turnS_rt (thenS_rt (endG_rt ?_))
      rw [List.append_assoc, List.append_assoc]
      have := e2.uniq p1
      exact fin_same (q1 ⟨_, _, e1, e2, .inr (by omega)⟩ pth (.inr ⟨p2, p1, by omega⟩))
    · refine ws_next (turnS_nx (loop_nil (by exact True.intro) (thenS_nx (ws_ret (we_non (endG_rt ?_))))))
      rw [List.append_assoc, List.append_assoc]
      refine fin_same (q2 fun ⟨x1, x2, f1, f2, f3⟩ => ?_)
      rw [f1.uniq e1, f2.uniq e2] at f3
      omega
end
end Lw
end
section
set_option Elab.async false
set_option linter.all false
set_option autoImplicit false
set_option maxRecDepth 100000
set_option maxHeartbeats 2000000
namespace Lw
open PySem PySem.Spec PyProof.Rows L2 Lv
local macro_rules
  | `(tactic| left) => `(tactic| first
    | (with_reducible refine ws_seq ?_) | (with_reducible refine ws_set ?_) | (with_reducible refine ws_expr ?_) | (with_reducible refine ws_ret ?_) | (with_reducible refine ws_retN ?_) | (with_reducible refine ws_if ?_) | (with_reducible refine ws_next ?_) | (with_reducible refine ws_asg ?_) | (with_reducible refine ws_setIx ?_) | (with_reducible refine ws_for ?_)
    | ((with_reducible refine thenS_nx ?_); try simp only [env0, List.map_cons, List.map_nil, List.length_cons, List.length_nil, Nat.reduceAdd, Nat.reduceSub, List.replicate, List.cons_append, List.nil_append, List.set_cons_succ, List.set_cons_zero])
    | (with_reducible refine thenS_rt ?_) | (with_reducible refine endG_nx ?_) | (with_reducible refine endG_rt ?_) | (with_reducible refine turnS_nx ?_) | (with_reducible refine turnS_rt ?_)
    | (with_reducible refine we_int ?_) | (with_reducible refine we_str ?_) | (with_reducible refine we_bool ?_) | (with_reducible refine we_non ?_) | (with_reducible refine we_op ?_) | (with_reducible refine we_op1 ?_) | (with_reducible refine we_fn ?_) | (with_reducible refine we_call ?_) | (with_reducible refine we_not ?_) | (with_reducible refine we_and ?_) | (with_reducible refine we_or ?_) | (with_reducible refine we_ifx ?_)
    | (with_reducible refine we_ch2 ?_) | (with_reducible refine we_ch3 ?_) | (with_reducible refine we_sl ?_) | (with_reducible refine wa_nil ?_) | (with_reducible refine wa_cons ?_) | (with_reducible refine wp_none ?_) | (with_reducible refine wp_some ?_) | (with_reducible refine wb_intro ?_) | (with_reducible refine ite_t ?_) | (with_reducible refine ite_f ?_) | (with_reducible refine ite_nt ?_) | (with_reducible refine ite_nf ?_)
    | (with_reducible refine we_lc ?_) | (with_reducible refine we_lcN ?_) | (with_reducible refine we_make ?_) | (with_reducible refine we_disp ?_) | (with_reducible refine wk_nil ?_) | (with_reducible refine wk_cons ?_) | (with_reducible refine ws_fld ?_) | (with_reducible refine we_fld ?_) | (with_reducible refine we_meth ?_) | (with_reducible refine we_dic0 ?_)
    | (with_reducible refine we_join ?_)
    | (with_reducible refine we_lm ?_)
    | ((with_reducible apply we_var); exact rfl)
    | (with_reducible refine wg_addI ?_) | (with_reducible refine wg_sub ?_) | (with_reducible refine wg_lt ?_) | (with_reducible refine wg_le ?_) | (with_reducible refine wg_gt ?_) | (with_reducible refine wg_ge ?_) | (with_reducible refine wg_eqI ?_) | (with_reducible refine wg_neI ?_)
    | (with_reducible refine wg_lenL ?_) | (with_reducible refine wg_lenT ?_) | (with_reducible refine wg_intI ?_) | (with_reducible refine wg_intB ?_) | (with_reducible refine wg_min2 ?_) | (with_reducible refine wg_max2 ?_) | (with_reducible refine wg_neg ?_)
    | (with_reducible refine wg_isN ?_) | (with_reducible refine wg_isNot ?_) | (with_reducible refine wg_tupleT ?_) | (with_reducible refine wg_listL ?_) | (with_reducible refine wg_listT ?_) | (with_reducible refine wg_slL ?_) | (with_reducible refine wg_slT ?_)
    | (with_reducible refine wg_mod (by decide) ?_) | (with_reducible refine wg_div (by decide) ?_)
    | ((with_reducible apply wg_lst); exact Nat.le_of_ble_eq_true rfl; exact rfl) | ((with_reducible apply wg_tup); exact Nat.le_of_ble_eq_true rfl; exact rfl) | ((with_reducible apply wg_lstN); exact Nat.le_of_ble_eq_true rfl)
    | ((with_reducible apply wg_ixR); exact rfl; exact rfl) | ((with_reducible apply wg_ixL); exact rfl) | ((with_reducible apply wg_ixT); exact rfl) | ((with_reducible apply wg_ixRT); exact rfl; exact rfl)
    | ((with_reducible apply fset_lst); exact rfl; exact rfl; try simp only [Int.reduceToNat, List.set_cons_succ, List.set_cons_zero])
    | (with_reducible refine ex_str ?_) | (with_reducible refine ex_int ?_) | ((with_reducible apply ex_lm); exact rfl)
    | (with_reducible refine ex_seqLd ?_) | (with_reducible refine ex_seqTd ?_) | (with_reducible refine ex_seqSd ?_) | (with_reducible refine ex_name ?_) | ((with_reducible apply ex_atup); exact rfl)
    | ((with_reducible apply ex_rng1); exact rg_ok (by omega) (by omega)) | ((with_reducible apply ex_rng2); exact rg_ok (by omega) (by omega); exact rg_ok (by omega) (by omega))
    | (with_reducible exact ⟨rfl, rfl⟩) | (with_reducible refine and_eq ?_)  | (with_reducible assumption) )
local macro_rules
  | `(tactic| left) => `(tactic| first
    | (with_reducible refine ws_setIxN ?_) | (with_reducible refine we_dicN ?_) | (with_reducible refine we_dget2 ?_) | (with_reducible refine we_dpop ?_) | (with_reducible refine ws_raise ?_) | (with_reducible refine ws_raiseI ?_) | (with_reducible refine ws_try ?_)
    | (with_reducible refine thenS_er ?_) | (with_reducible refine turnS_er ?_) | (with_reducible refine thenS_ct ?_) | (with_reducible refine thenS_bk ?_) | (with_reducible refine endX_nx ?_) | (with_reducible refine endX_rt ?_) | (with_reducible refine endX_er ?_) | (with_reducible refine clS_rt ?_) | (with_reducible refine clS_nx ?_) | (with_reducible refine clS_er ?_) )
/-! ### nothing else is changed -/
def Fr (is : List Nat) (S S' : Sto) : Prop := S'.length = S.length ∧ ∀ i, i ∉ is → S'[i]? = S[i]?
theorem Fr.refl (is : List Nat) (S : Sto) : Fr is S S := ⟨rfl, fun _ _ => rfl⟩
theorem Fr.trans {is : List Nat} {S S1 S2 : Sto} (h : Fr is S S1) (g : Fr is S1 S2) : Fr is S S2 := ⟨g.1.trans h.1, fun i hi => (g.2 i hi).trans (h.2 i hi)⟩
theorem Fr.mono {is js : List Nat} {S S1 : Sto} (h : Fr is S S1) (s : ∀ i ∈ is, i ∈ js) : Fr js S S1 := ⟨h.1, fun i hi => h.2 i fun z => hi (s i z)⟩
theorem Fr.set {is : List Nat} {S : Sto} {i : Nat} {o : Ob} (h : i ∈ is) : Fr is S (S.set i o) := ⟨by simp, fun j hj => List.getElem?_set_ne fun e => hj (by rw [← e]; exact h)⟩
theorem Fr.cut {is : List Nat} {S S' : Sto} (h : Fr is S S') (b : ∀ i ∈ is, ∀ o, S'[i]? = some o → o.below S.length) : CutOk S S' := fun i o hi hl => by
  by_cases e : i ∈ is
  · exact .inr (b i e o hi)
  · rw [h.2 i e] at hi
    exact .inl hi
theorem Fr.take {is : List Nat} {S S' : Sto} (h : Fr is S S') : S'.take S.length = S' := List.take_of_length_le (Nat.le_of_eq h.1)
theorem fin_fr {is : List Nat} {S S' : Sto} {p : PyData} {Q : Val → Sto → Prop} (h : Fr is S S') (b : ∀ i ∈ is, ∀ o, S'[i]? = some o → o.below S.length) (q : Q (.d p) S') : CutOk S S' ∧ ∃ y, frzV S.length S' (.d p) = some y ∧ Q y (S'.take S.length) :=
  ⟨h.cut b, _, rfl, by rw [h.take]; exact q⟩
section
variable {C : Addr} {a b : Int} {bl : List Blk} {tv : List Int} {c : Bool} {m t k r p : Nat} {g : Int} {ks : List Kp} {S S' : Sto} {is : List Nat} {Q : Val → Sto → Prop}
theorem CsS.fr (h : CsS C a b bl r p k g ks S) (f : Fr is S S') (h1 : r ∉ is) (h2 : p ∉ is) (h3 : k ∉ is) : CsS C a b bl r p k g ks S' := ⟨(f.2 r h1).trans h.cs, (f.2 p h2).trans h.bk, (f.2 k h3).trans h.kp, h.rp, h.rk, h.pk, h.r0, h.p0, h.k0⟩
theorem MdS.fr (h : MdS a b bl tv c m t k g ks S) (f : Fr is S S') (h1 : m ∉ is) (h2 : t ∉ is) (h3 : k ∉ is) : MdS a b bl tv c m t k g ks S' := ⟨(f.2 m h1).trans h.md, (f.2 t h2).trans h.tr, (f.2 k h3).trans h.kp, h.mt, h.mk_, h.tk, h.m0, h.t0, h.k0⟩
/-- the script's row -/
def RowS (S : Sto) : Prop := ∃ o, S[0]? = some o ∧ Rw o
theorem RowS.fr (h : RowS S) (f : Fr is S S') (h0 : 0 ∉ is) : RowS S' := by
  obtain ⟨o, h1, h2⟩ := h
  exact ⟨o, (f.2 0 h0).trans h1, h2⟩
theorem RowS.below (h : RowS S) {n : Nat} : ∀ i ∈ [0], ∀ o, S[i]? = some o → o.below n := fun i hi o ho => by
  rw [List.mem_singleton.mp hi] at ho
  obtain ⟨o', h1, h2⟩ := h
  rw [h1] at ho
  cases ho
  exact h2.below n
theorem taken_f {n : Int} (h : RowS S) (hn : 0 < n) (q : ∀ (d : Int) (S' : Sto), RowS S' → Fr [0] S S' → 0 ≤ d → d < n → Q (.d (.int d)) S') : WG (g__law_taken [.ref 0, .d (.int n)] S) Q := by
  obtain ⟨o, h1, h2⟩ := h
  cases S with
  | nil => cases h1
  | cons u T =>
    cases h1
    refine taken_ok h2 hn fun d o' h3 d0 d1 => q d (o' :: T) ⟨o', rfl, h3⟩ ⟨rfl, fun i hi => ?_⟩ d0 d1
    cases i with
    | zero => exact absurd List.mem_cons_self hi
    | succ i => rfl
theorem CsS.fr0 (h : CsS C a b bl r p k g ks S) (f : Fr [0] S S') : CsS C a b bl r p k g ks S' := h.fr f (by have := h.r0; simp; omega) (by have := h.p0; simp; omega) (by have := h.k0; simp; omega)
theorem MdS.fr0 (h : MdS a b bl tv c m t k g ks S) (f : Fr [0] S S') : MdS a b bl tv c m t k g ks S' := h.fr f (by have := h.m0; simp; omega) (by have := h.t0; simp; omega) (by have := h.k0; simp; omega)
/-! ### deeds -/
inductive Deed where
  | drop (n : Int)
  | liken (one other : Str) (lo hi : Int)
def dp : Deed → PyData
  | .drop n => .tuple [.str "drop", .int n]
  | .liken one other lo hi => .tuple [.str "liken", .str one, .str other, .int lo, .int hi]
def DeedOk : Deed → Prop
  | .drop _ => True
  | .liken one other _ _ => PyData.strOk one = true ∧ PyData.strOk other = true
def Ends (bl : List Blk) (one other : Str) : Prop := one ∈ names bl ∧ other ∈ names bl ∧ one ≠ other
def Wide (lo hi : Int) : Prop := -999 ≤ lo ∧ lo ≤ hi ∧ hi ≤ 999
open Classical in
noncomputable def ans (bl : List Blk) (ks : List Kp) (g : Int) : Deed → PyData
  | .drop n => if n ∈ ks.map (·.num) then .none else .str "nolikening"
  | .liken one other lo hi => if Ends bl one other then (if Wide lo hi then (if ks.length = 30 then .str "full" else if Bar bl ks one other lo hi then .str "ring" else .int g) else .str "badlikening") else .str "noblock"
open Classical in
noncomputable def nxK (bl : List Blk) (ks : List Kp) (g : Int) : Deed → List Kp
  | .drop n => ks.filter fun k => decide (k.num ≠ n)
  | .liken one other lo hi => if Ends bl one other ∧ Wide lo hi ∧ ks.length ≠ 30 ∧ ¬ Bar bl ks one other lo hi then ks ++ [⟨g, one, other, lo, hi⟩] else ks
open Classical in
noncomputable def nxG (bl : List Blk) (ks : List Kp) (g : Int) : Deed → Int
  | .drop _ => g
  | .liken one other lo hi => if Ends bl one other ∧ Wide lo hi ∧ ks.length ≠ 30 ∧ ¬ Bar bl ks one other lo hi then g + 1 else g
theorem rowsK_mem {k : Kp} {ks : List Kp} {r : Row} (h : r ∈ rowsK ks) : ∃ k ∈ ks, r = ⟨some k.other, some k.one, k.hi, some k.num⟩ ∨ r = ⟨some k.one, some k.other, 0 - k.lo, some k.num⟩ := by
  obtain ⟨k, hk, h⟩ := List.mem_flatMap.mp h
  simp only [List.mem_cons, List.not_mem_nil, or_false] at h
  exact ⟨k, hk, h⟩
theorem nx_ok (ok : KsOk bl ks g) (d : Deed) : KsOk bl (nxK bl ks g d) (nxG bl ks g d) := by
  cases d with
  | drop n =>
    have sub : ∀ k ∈ ks.filter (fun k => decide (k.num ≠ n)), k ∈ ks := fun k hk => (List.mem_filter.mp hk).1
    refine ⟨ok.inc.sublist (List.filter_sublist.map _), fun k hk => ok.lt k (sub k hk), ok.g0, Nat.le_trans (List.length_filter_le _ _) ok.few, fun k hk => ok.nm k (sub k hk), fun k hk => ok.st k (sub k hk), ?_⟩
    obtain ⟨π, f⟩ := ok.fs
    refine ⟨π, f.mono fun r hr => ?_⟩
    rcases List.mem_append.mp hr with hr | hr
    · exact List.mem_append_left _ hr
    · obtain ⟨k, hk, h⟩ := List.mem_flatMap.mp hr
      exact List.mem_append_right _ (List.mem_flatMap.mpr ⟨k, sub k hk, h⟩)
  | liken one other lo hi =>
    by_cases h : Ends bl one other ∧ Wide lo hi ∧ ks.length ≠ 30 ∧ ¬ Bar bl ks one other lo hi
    · simp only [nxK, nxG, if_pos h]
      obtain ⟨⟨n1, n2, n3⟩, ⟨w1, w2, w3⟩, hl, hb⟩ := h
      obtain ⟨d1, e1⟩ := dist_nd ok (nm_nd n1) (nm_nd n2)
      obtain ⟨d2, e2⟩ := dist_nd ok (nm_nd n2) (nm_nd n1)
      have b1 : ¬ d1 + hi < 0 := fun z => hb ⟨d1, d2, e1, e2, .inl z⟩
      have b2 : ¬ d2 < lo := fun z => hb ⟨d1, d2, e1, e2, .inr z⟩
      obtain ⟨π, f⟩ := ok.fs
      obtain ⟨π', f', f1, f2⟩ := Lm.feas_more f (a := some one) (c := some other) (fun r hr => ⟨walk_none (nm_nd n1) (rows_ends ok r hr).1, walk_none (nm_nd n2) (rows_ends ok r hr).1⟩) e1 e2 w2 (by omega) (by omega)
      have g0 := ok.g0
      have few := ok.few
      refine ⟨?_, fun k hk => ?_, by omega, by simp; omega, fun k hk => ?_, fun k hk => ?_, π', fun r hr => ?_⟩
      · rw [List.map_append, List.pairwise_append]
        refine ⟨ok.inc, List.pairwise_singleton _ _, fun x hx y hy => ?_⟩
        obtain ⟨k, hk, rfl⟩ := List.mem_map.mp hx
        rw [show y = g by simpa using hy]
        exact (ok.lt k hk).2
      · rcases List.mem_append.mp hk with hk | hk
        · have := ok.lt k hk
          omega
        · rw [List.mem_singleton.mp hk]
          exact ⟨g0, by show g < g + 1; omega⟩
      · rcases List.mem_append.mp hk with hk | hk
        · exact ok.nm k hk
        · rw [List.mem_singleton.mp hk]
          exact ⟨n1, n2, n3⟩
      · rcases List.mem_append.mp hk with hk | hk
        · exact ok.st k hk
        · rw [List.mem_singleton.mp hk]
          exact ⟨w1, w2, w3⟩
      · rcases List.mem_append.mp hr with hr | hr
        · exact f' r (List.mem_append_left _ hr)
        · rw [show rowsK (ks ++ [⟨g, one, other, lo, hi⟩]) = rowsK ks ++ [⟨some other, some one, hi, some g⟩, ⟨some one, some other, 0 - lo, some g⟩] from rowsK_snoc ks ⟨g, one, other, lo, hi⟩] at hr
          rcases List.mem_append.mp hr with hr | hr
          · exact f' r (List.mem_append_right _ hr)
          · simp only [List.mem_cons, List.not_mem_nil, or_false] at hr
            rcases hr with rfl | rfl
            · exact f1
            · show π' (some other) ≤ π' (some one) + (0 - lo)
              omega
    · simp only [nxK, nxG, if_neg h]
      exact ok
theorem num_in {n : Int} : (valK (keptKv ks) (.inl n)).isSome = decide (n ∈ ks.map (·.num)) := by
  unfold valK keptKv
  rw [Option.isSome_map, Bool.eq_iff_iff, List.find?_isSome, decide_eq_true_iff, List.mem_map]
  constructor
  · rintro ⟨x, hx, h⟩
    obtain ⟨y, hy, rfl⟩ := List.mem_map.mp hx
    exact ⟨y, hy, Sum.inl.inj (of_decide_eq_true h)⟩
  · rintro ⟨y, hy, rfl⟩
    exact ⟨_, List.mem_map_of_mem hy, decide_eq_true rfl⟩
theorem num_get {n : Int} (h : n ∈ ks.map (·.num)) : ∃ v, valK (keptKv ks) (.inl n) = some v := by
  rw [← Option.isSome_iff_exists, num_in]
  exact decide_eq_true h
theorem kept_drop {n : Int} : dropV (keptKv ks) (.inl n) = keptKv (ks.filter fun k => decide (k.num ≠ n)) := by
  unfold dropV keptKv
  rw [List.filter_map]
  congr 1
  refine List.filter_congr fun k _ => ?_
  simp [kpKv]
theorem kept_put (ok : KsOk bl ks g) {one other : Str} {lo hi : Int} : putV (keptKv ks) (.inl g) (.d (.tuple [.str one, .str other, .int lo, .int hi])) = keptKv (ks ++ [⟨g, one, other, lo, hi⟩]) := by
  rw [putV_new fun q hq => ?_]
  · simp [keptKv, kpKv, Kp.pd]
  · obtain ⟨k, hk, rfl⟩ := List.mem_map.mp hq
    intro z
    have := (ok.lt k hk).2
    have : k.num = g := Sum.inl.inj z
    omega
theorem kept_below {n : Nat} : (Ob.dic (keptKv ks)).below n := fun q hq => by
  obtain ⟨k, _, rfl⟩ := List.mem_map.mp hq
  exact True.intro
theorem kept_len (ok : KsOk bl ks g) : (keptKv ks).length < sizeLine := Nat.lt_of_lt_of_le (show _ < 1000000 by have := ok.few; simp [keptKv]; omega) (Nat.le_of_ble_eq_true rfl)
theorem CsS.setK {ks' : List Kp} (h : CsS C a b bl r p k g ks S) : CsS C a b bl r p k g ks' (S.set k (.dic (keptKv ks'))) := ⟨get_set_ne (Ne.symm h.rk) h.cs, get_set_ne (Ne.symm h.pk) h.bk, get_set h.kp, h.rp, h.rk, h.pk, h.r0, h.p0, h.k0⟩
theorem MdS.setK {ks' : List Kp} (h : MdS a b bl tv c m t k g ks S) : MdS a b bl tv c m t k g ks' (S.set k (.dic (keptKv ks'))) := ⟨get_set_ne (Ne.symm h.mk_) h.md, get_set_ne (Ne.symm h.tk) h.tr, get_set h.kp, h.mt, h.mk_, h.tk, h.m0, h.t0, h.k0⟩
theorem drop_fun {Er : Xn → Sto → Prop} {n : Int} (h : CsS C a b bl r p k g ks S) (q1 : n ∉ ks.map (·.num) → Er ⟨"NoLikening", none⟩ S) (q2 : n ∈ ks.map (·.num) → ∀ S', CsS C a b bl r p k g (ks.filter fun k => decide (k.num ≠ n)) S' → Fr [r, k] S S' → Q (.d .none) S') : WEX Er (g_Case_drop C [.ref r, .d (.int n)] S) Q := by
  refine wx_cut ?_
  unfold b_Case_drop
  repeat left
  refine ex_get h.cs rfl ?_
  refine wg_notIn (inA_dic h.kp rfl) ?_
  rw [num_in]
  refine wb_intro (ite_nd (fun h1 => ?_) (fun h1 => ?_))
  · repeat left
    exact fin_sameX0 (q1 h1)
  · obtain ⟨v, hv⟩ := num_get h1
    repeat left
    refine ex_get h.cs rfl ?_
    refine ex_dic h.kp ?_
    refine we_var rfl ⟨_, _, v, h.kp, rfl, hv, ?_⟩
    rw [kept_drop]
    exact endX_nx (fin_set kept_below (q2 h1 _ h.setK (Fr.set (by simp))))
end
end Lw
end
section
set_option Elab.async false
set_option linter.all false
set_option autoImplicit false
set_option maxRecDepth 100000
set_option maxHeartbeats 2000000
namespace Lw
open PySem PySem.Spec PyProof.Rows L2 Lv
local macro_rules
  | `(tactic| left) => `(tactic| first
    | (with_reducible refine ws_seq ?_) | (with_reducible refine ws_set ?_) | (with_reducible refine ws_expr ?_) | (with_reducible refine ws_ret ?_) | (with_reducible refine ws_retN ?_) | (with_reducible refine ws_if ?_) | (with_reducible refine ws_next ?_) | (with_reducible refine ws_asg ?_) | (with_reducible refine ws_setIx ?_) | (with_reducible refine ws_for ?_)
    | ((with_reducible refine thenS_nx ?_); try simp only [env0, List.map_cons, List.map_nil, List.length_cons, List.length_nil, Nat.reduceAdd, Nat.reduceSub, List.replicate, List.cons_append, List.nil_append, List.set_cons_succ, List.set_cons_zero])
    | (with_reducible refine thenS_rt ?_) | (with_reducible refine endG_nx ?_) | (with_reducible refine endG_rt ?_) | (with_reducible refine turnS_nx ?_) | (with_reducible refine turnS_rt ?_)
    | (with_reducible refine we_int ?_) | (with_reducible refine we_str ?_) | (with_reducible refine we_bool ?_) | (with_reducible refine we_non ?_) | (with_reducible refine we_op ?_) | (with_reducible refine we_op1 ?_) | (with_reducible refine we_fn ?_) | (with_reducible refine we_call ?_) | (with_reducible refine we_not ?_) | (with_reducible refine we_and ?_) | (with_reducible refine we_or ?_) | (with_reducible refine we_ifx ?_)
    | (with_reducible refine we_ch2 ?_) | (with_reducible refine we_ch3 ?_) | (with_reducible refine we_sl ?_) | (with_reducible refine wa_nil ?_) | (with_reducible refine wa_cons ?_) | (with_reducible refine wp_none ?_) | (with_reducible refine wp_some ?_) | (with_reducible refine wb_intro ?_) | (with_reducible refine ite_t ?_) | (with_reducible refine ite_f ?_) | (with_reducible refine ite_nt ?_) | (with_reducible refine ite_nf ?_)
    | (with_reducible refine we_lc ?_) | (with_reducible refine we_lcN ?_) | (with_reducible refine we_make ?_) | (with_reducible refine we_disp ?_) | (with_reducible refine wk_nil ?_) | (with_reducible refine wk_cons ?_) | (with_reducible refine ws_fld ?_) | (with_reducible refine we_fld ?_) | (with_reducible refine we_meth ?_) | (with_reducible refine we_dic0 ?_)
    | (with_reducible refine we_join ?_)
    | (with_reducible refine we_lm ?_)
    | ((with_reducible apply we_var); exact rfl)
    | (with_reducible refine wg_addI ?_) | (with_reducible refine wg_sub ?_) | (with_reducible refine wg_lt ?_) | (with_reducible refine wg_le ?_) | (with_reducible refine wg_gt ?_) | (with_reducible refine wg_ge ?_) | (with_reducible refine wg_eqI ?_) | (with_reducible refine wg_neI ?_)
    | (with_reducible refine wg_lenL ?_) | (with_reducible refine wg_lenT ?_) | (with_reducible refine wg_intI ?_) | (with_reducible refine wg_intB ?_) | (with_reducible refine wg_min2 ?_) | (with_reducible refine wg_max2 ?_) | (with_reducible refine wg_neg ?_)
    | (with_reducible refine wg_isN ?_) | (with_reducible refine wg_isNot ?_) | (with_reducible refine wg_tupleT ?_) | (with_reducible refine wg_listL ?_) | (with_reducible refine wg_listT ?_) | (with_reducible refine wg_slL ?_) | (with_reducible refine wg_slT ?_)
    | (with_reducible refine wg_mod (by decide) ?_) | (with_reducible refine wg_div (by decide) ?_)
    | ((with_reducible apply wg_lst); exact Nat.le_of_ble_eq_true rfl; exact rfl) | ((with_reducible apply wg_tup); exact Nat.le_of_ble_eq_true rfl; exact rfl) | ((with_reducible apply wg_lstN); exact Nat.le_of_ble_eq_true rfl)
    | ((with_reducible apply wg_ixR); exact rfl; exact rfl) | ((with_reducible apply wg_ixL); exact rfl) | ((with_reducible apply wg_ixT); exact rfl) | ((with_reducible apply wg_ixRT); exact rfl; exact rfl)
    | ((with_reducible apply fset_lst); exact rfl; exact rfl; try simp only [Int.reduceToNat, List.set_cons_succ, List.set_cons_zero])
    | (with_reducible refine ex_str ?_) | (with_reducible refine ex_int ?_) | ((with_reducible apply ex_lm); exact rfl)
    | (with_reducible refine ex_seqLd ?_) | (with_reducible refine ex_seqTd ?_) | (with_reducible refine ex_seqSd ?_) | (with_reducible refine ex_name ?_) | ((with_reducible apply ex_atup); exact rfl)
    | ((with_reducible apply ex_rng1); exact rg_ok (by omega) (by omega)) | ((with_reducible apply ex_rng2); exact rg_ok (by omega) (by omega); exact rg_ok (by omega) (by omega))
    | (with_reducible exact ⟨rfl, rfl⟩) | (with_reducible refine and_eq ?_)  | (with_reducible assumption) )
local macro_rules
  | `(tactic| left) => `(tactic| first
    | (with_reducible refine ws_setIxN ?_) | (with_reducible refine we_dicN ?_) | (with_reducible refine we_dget2 ?_) | (with_reducible refine we_dpop ?_) | (with_reducible refine ws_raise ?_) | (with_reducible refine ws_raiseI ?_) | (with_reducible refine ws_try ?_)
    | (with_reducible refine thenS_er ?_) | (with_reducible refine turnS_er ?_) | (with_reducible refine thenS_ct ?_) | (with_reducible refine thenS_bk ?_) | (with_reducible refine endX_nx ?_) | (with_reducible refine endX_rt ?_) | (with_reducible refine endX_er ?_) | (with_reducible refine clS_rt ?_) | (with_reducible refine clS_nx ?_) | (with_reducible refine clS_er ?_) )
section
variable {z : PgW} {C W : Addr} {a b : Int} {bl : List Blk} {tv : List Int} {c : Bool} {m t k r p : Nat} {g : Int} {ks : List Kp} {S S' : Sto} {is : List Nat} {Q : Val → Sto → Prop}
theorem fin_frX {is : List Nat} {x f : Str} {y : PyData} {U : Sto} {Er : Xn → Sto → Prop} (q : Er ⟨x, some [(f, .d y)]⟩ S) : CutOk S (S ++ U) ∧ ∃ w, frzX S.length (S ++ U) ⟨x, some [(f, .d y)]⟩ = some w ∧ Er w ((S ++ U).take S.length) :=
  ⟨cut_app, _, rfl, by simpa using q⟩
theorem fin_frX0 {x f : Str} {y : PyData} {Er : Xn → Sto → Prop} (q : Er ⟨x, some [(f, .d y)]⟩ S) : CutOk S S ∧ ∃ w, frzX S.length S ⟨x, some [(f, .d y)]⟩ = some w ∧ Er w (S.take S.length) := by
  have := fin_frX (is := []) (U := []) q
  simpa using this
/-- how a liken ends -/
structure LikenQ (C : Addr) (a b : Int) (bl : List Blk) (r p k : Nat) (g : Int) (ks : List Kp) (one other : Str) (lo hi : Int) (S : Sto) (Er : Xn → Sto → Prop) (Q : Val → Sto → Prop) : Prop where
  n : ¬ Ends bl one other → Er ⟨"NoBlock", none⟩ S
  w : Ends bl one other → ¬ Wide lo hi → Er ⟨"BadLikening", none⟩ S
  f : Ends bl one other → Wide lo hi → ks.length = 30 → Er ⟨"Full", none⟩ S
  rg : Ends bl one other → Wide lo hi → ks.length ≠ 30 → Bar bl ks one other lo hi → ∀ pth, BarBy bl ks one other lo hi pth → Er ⟨"Ring", some [("row", .d (.list (tagsP pth)))]⟩ S
  y : Ends bl one other → Wide lo hi → ks.length ≠ 30 → ¬ Bar bl ks one other lo hi → ∀ S', CsS C a b bl r p k (g + 1) (ks ++ [⟨g, one, other, lo, hi⟩]) S' → Fr [r, k] S S' → Q (.d (.int g)) S'
theorem liken_fun {Er : Xn → Sto → Prop} {one other : Str} {lo hi : Int} (so : ∀ x ∈ bl, x.Ok) (h : CsS C a b bl r p k g ks S) (ok : KsOk bl ks g) (few : bl.length ≤ 10) (nd_ : (bl.map (·.name)).Nodup) (s1 : PyData.strOk one = true) (s2 : PyData.strOk other = true)
    (q : LikenQ C a b bl r p k g ks one other lo hi S Er Q) : WEX Er (g_Case_liken z C W [.ref r, .d (.str one), .d (.str other), .d (.int lo), .d (.int hi)] S) Q := by
  refine wx_cut ?_
  unfold b_Case_liken
  refine ws_seq (ws_exprX (wex_meth (we_var rfl (ex_meth h.cs rfl (wa_cons (we_var rfl (wa_nil (need_ok h (fun n1 => ?_) fun n1 => ?_))))))))
  case refine_2 => exact thenS_er (endX_er (fin_sameX0 (q.n fun z => n1 z.1)))
  refine thenS_nx (ws_seq (ws_exprX (wex_meth (we_var rfl (ex_meth h.cs rfl (wa_cons (we_var rfl (wa_nil (need_ok h (fun n2 => ?_) fun n2 => ?_)))))))))
  case refine_2 => exact thenS_er (endX_er (fin_sameX0 (q.n fun z => n2 z.2.1)))
  refine thenS_nx (ws_seq (ws_if (we_op (we_var rfl (we_var rfl (wg_eqD (b := decide (one = other)) (shaped_str s1) (shaped_str s2) ?_ (wb_intro (ite_d (fun n3 => ?_) (fun n3 => ?_)))))))))
  · exact (eqv_nd (some one) (some other)).trans (by simp)
  · exact ws_raise (thenS_er (endX_er (fin_sameX0 (q.n fun z => z.2.2 n3))))
  have hE : Ends bl one other := ⟨n1, n2, n3⟩
  refine ws_next (thenS_nx ?_)
  repeat left
  refine ite_d (fun w1 => ?_) (fun w1 => ?_)
  case refine_2 =>
    repeat left
    exact fin_sameX0 (q.w hE fun z => w1 z.1)
  repeat left
  refine ite_d (fun w2 => ?_) (fun w2 => ?_)
  case refine_2 =>
    repeat left
    exact fin_sameX0 (q.w hE fun z => w2 z.2.1)
  repeat left
  refine ite_nd (fun w3 => ?_) (fun w3 => ?_)
  · repeat left
    exact fin_sameX0 (q.w hE fun z => w3 z.2.2)
  have hW : Wide lo hi := ⟨w1, w2, w3⟩
  repeat left
  refine ex_get h.cs rfl ?_
  repeat left
  refine wg_lenD h.kp ?_
  repeat left
  refine ite_d (fun f1 => ?_) (fun f1 => ?_)
  · exact ws_raise (thenS_er (endX_er (fin_sameX0 (q.f hE hW (Int.ofNat_inj.mp (by simpa [keptKv] using f1))))))
  have hF : ks.length ≠ 30 := fun z => f1 (by simp [keptKv, z])
  repeat left
  refine ex_meth h.cs rfl ?_
  repeat left
  refine bar_fun so h ok few nd_ n1 n2 (fun hb pth hp => ?_) fun hb => ?_
  · refine thenS_nx (ws_seq (ws_if (we_op (we_var rfl (we_non (wg_isNot (wb_intro (ite_t ?_))))))))
    exact ws_raiseI (we_var rfl ⟨rfl, thenS_er (endX_er (fin_frX0 (q.rg hE hW hF hb pth hp)))⟩)
  · refine thenS_nx (ws_seq (ws_if (we_op (we_var rfl (we_non (wg_isNot (wb_intro (ite_f ?_))))))))
    repeat left
    refine ex_get h.cs rfl ?_
    repeat left
    refine ⟨r, _, ins_at h.cs, Nat.le_of_ble_eq_true rfl, thenS_nx ?_⟩
    have c1 : (S.set r (.ins C [("film", .d (.tuple [.int a, .int b])), ("blocks", .ref p), ("kept", .ref k), ("given", .d (.int (g + 1)))]))[r]? = _ := get_set h.cs
    have c2 : (S.set r (.ins C [("film", .d (.tuple [.int a, .int b])), ("blocks", .ref p), ("kept", .ref k), ("given", .d (.int (g + 1)))]))[k]? = _ := get_set_ne h.rk h.kp
    have c3 : (S.set r (.ins C [("film", .d (.tuple [.int a, .int b])), ("blocks", .ref p), ("kept", .ref k), ("given", .d (.int (g + 1)))]))[p]? = _ := get_set_ne h.rp h.bk
    show WS _ _
    rw [show Ob.ins C (putFv "given" (.d (.int (g + 1))) [("film", .d (.tuple [.int a, .int b])), ("blocks", .ref p), ("kept", .ref k), ("given", .d (.int g))]) = .ins C [("film", .d (.tuple [.int a, .int b])), ("blocks", .ref p), ("kept", .ref k), ("given", .d (.int (g + 1)))] from rfl]
    generalize hS1 : S.set r (.ins C [("film", .d (.tuple [.int a, .int b])), ("blocks", .ref p), ("kept", .ref k), ("given", .d (.int (g + 1)))]) = S1 at c1 c2 c3 ⊢
    have h1 : CsS C a b bl r p k (g + 1) ks S1 := ⟨c1, c3, c2, h.rp, h.rk, h.pk, h.r0, h.p0, h.k0⟩
    have f1 : Fr [r, k] S S1 := by rw [← hS1]; exact Fr.set (by simp)
    repeat left
    refine ex_get c1 rfl ?_
    repeat left
    refine ex_get c1 rfl ?_
    repeat left
    refine fset_dic (k := .inl g) c2 ?_ (kept_len ok) ?_
    · show some (Sum.inl (g + 1 - 1)) = _
      rw [Int.add_sub_cancel]
    rw [kept_put ok]
    have h2 : CsS C a b bl r p k (g + 1) (ks ++ [⟨g, one, other, lo, hi⟩]) _ := h1.setK
    have f2 : Fr [r, k] S _ := f1.trans (Fr.set (o := .dic (keptKv (ks ++ [⟨g, one, other, lo, hi⟩]))) (S := S1) (i := k) (by simp))
    repeat left
    refine ex_get h2.cs rfl ?_
    repeat left
    rw [Int.add_sub_cancel]
    have pl : p < S.length := (List.getElem?_eq_some_iff.mp h.bk).1
    have kl : k < S.length := (List.getElem?_eq_some_iff.mp h.kp).1
    refine fin_fr f2 (fun i hi o ho => ?_) (q.y hE hW hF hb _ h2 f2)
    simp only [List.mem_cons, List.not_mem_nil, or_false] at hi
    rcases hi with rfl | rfl
    · rw [h2.cs] at ho
      cases ho
      intro x hx
      simp only [List.mem_cons, List.not_mem_nil, or_false] at hx
      rcases hx with rfl | rfl | rfl | rfl
      · exact True.intro
      · exact pl
      · exact kl
      · exact True.intro
    · rw [h2.kp] at ho
      cases ho
      exact kept_below
end
end Lw
end
section
set_option Elab.async false
set_option linter.all false
set_option autoImplicit false
set_option maxRecDepth 100000
set_option maxHeartbeats 2000000
namespace Lw
open PySem PySem.Spec PyProof.Rows L2 Lv
local macro_rules
  | `(tactic| left) => `(tactic| first
    | (with_reducible refine ws_seq ?_) | (with_reducible refine ws_set ?_) | (with_reducible refine ws_expr ?_) | (with_reducible refine ws_ret ?_) | (with_reducible refine ws_retN ?_) | (with_reducible refine ws_if ?_) | (with_reducible refine ws_next ?_) | (with_reducible refine ws_asg ?_) | (with_reducible refine ws_setIx ?_) | (with_reducible refine ws_for ?_)
    | ((with_reducible refine thenS_nx ?_); try simp only [env0, List.map_cons, List.map_nil, List.length_cons, List.length_nil, Nat.reduceAdd, Nat.reduceSub, List.replicate, List.cons_append, List.nil_append, List.set_cons_succ, List.set_cons_zero])
    | (with_reducible refine thenS_rt ?_) | (with_reducible refine endG_nx ?_) | (with_reducible refine endG_rt ?_) | (with_reducible refine turnS_nx ?_) | (with_reducible refine turnS_rt ?_)
    | (with_reducible refine we_int ?_) | (with_reducible refine we_str ?_) | (with_reducible refine we_bool ?_) | (with_reducible refine we_non ?_) | (with_reducible refine we_op ?_) | (with_reducible refine we_op1 ?_) | (with_reducible refine we_fn ?_) | (with_reducible refine we_call ?_) | (with_reducible refine we_not ?_) | (with_reducible refine we_and ?_) | (with_reducible refine we_or ?_) | (with_reducible refine we_ifx ?_)
    | (with_reducible refine we_ch2 ?_) | (with_reducible refine we_ch3 ?_) | (with_reducible refine we_sl ?_) | (with_reducible refine wa_nil ?_) | (with_reducible refine wa_cons ?_) | (with_reducible refine wp_none ?_) | (with_reducible refine wp_some ?_) | (with_reducible refine wb_intro ?_) | (with_reducible refine ite_t ?_) | (with_reducible refine ite_f ?_) | (with_reducible refine ite_nt ?_) | (with_reducible refine ite_nf ?_)
    | (with_reducible refine we_lc ?_) | (with_reducible refine we_lcN ?_) | (with_reducible refine we_make ?_) | (with_reducible refine we_disp ?_) | (with_reducible refine wk_nil ?_) | (with_reducible refine wk_cons ?_) | (with_reducible refine ws_fld ?_) | (with_reducible refine we_fld ?_) | (with_reducible refine we_meth ?_) | (with_reducible refine we_dic0 ?_)
    | (with_reducible refine we_join ?_)
    | (with_reducible refine we_lm ?_)
    | ((with_reducible apply we_var); exact rfl)
    | (with_reducible refine wg_addI ?_) | (with_reducible refine wg_sub ?_) | (with_reducible refine wg_lt ?_) | (with_reducible refine wg_le ?_) | (with_reducible refine wg_gt ?_) | (with_reducible refine wg_ge ?_) | (with_reducible refine wg_eqI ?_) | (with_reducible refine wg_neI ?_)
    | (with_reducible refine wg_lenL ?_) | (with_reducible refine wg_lenT ?_) | (with_reducible refine wg_intI ?_) | (with_reducible refine wg_intB ?_) | (with_reducible refine wg_min2 ?_) | (with_reducible refine wg_max2 ?_) | (with_reducible refine wg_neg ?_)
    | (with_reducible refine wg_isN ?_) | (with_reducible refine wg_isNot ?_) | (with_reducible refine wg_tupleT ?_) | (with_reducible refine wg_listL ?_) | (with_reducible refine wg_listT ?_) | (with_reducible refine wg_slL ?_) | (with_reducible refine wg_slT ?_)
    | (with_reducible refine wg_mod (by decide) ?_) | (with_reducible refine wg_div (by decide) ?_)
    | ((with_reducible apply wg_lst); exact Nat.le_of_ble_eq_true rfl; exact rfl) | ((with_reducible apply wg_tup); exact Nat.le_of_ble_eq_true rfl; exact rfl) | ((with_reducible apply wg_lstN); exact Nat.le_of_ble_eq_true rfl)
    | ((with_reducible apply wg_ixR); exact rfl; exact rfl) | ((with_reducible apply wg_ixL); exact rfl) | ((with_reducible apply wg_ixT); exact rfl) | ((with_reducible apply wg_ixRT); exact rfl; exact rfl)
    | ((with_reducible apply fset_lst); exact rfl; exact rfl; try simp only [Int.reduceToNat, List.set_cons_succ, List.set_cons_zero])
    | (with_reducible refine ex_str ?_) | (with_reducible refine ex_int ?_) | ((with_reducible apply ex_lm); exact rfl)
    | (with_reducible refine ex_seqLd ?_) | (with_reducible refine ex_seqTd ?_) | (with_reducible refine ex_seqSd ?_) | (with_reducible refine ex_name ?_) | ((with_reducible apply ex_atup); exact rfl)
    | ((with_reducible apply ex_rng1); exact rg_ok (by omega) (by omega)) | ((with_reducible apply ex_rng2); exact rg_ok (by omega) (by omega); exact rg_ok (by omega) (by omega))
    | (with_reducible exact ⟨rfl, rfl⟩) | (with_reducible refine and_eq ?_)  | (with_reducible assumption) )
local macro_rules
  | `(tactic| left) => `(tactic| first
    | (with_reducible refine ws_setIxN ?_) | (with_reducible refine we_dicN ?_) | (with_reducible refine we_dget2 ?_) | (with_reducible refine we_dpop ?_) | (with_reducible refine ws_raise ?_) | (with_reducible refine ws_raiseI ?_) | (with_reducible refine ws_try ?_)
    | (with_reducible refine thenS_er ?_) | (with_reducible refine turnS_er ?_) | (with_reducible refine thenS_ct ?_) | (with_reducible refine thenS_bk ?_) | (with_reducible refine endX_nx ?_) | (with_reducible refine endX_rt ?_) | (with_reducible refine endX_er ?_) | (with_reducible refine clS_rt ?_) | (with_reducible refine clS_nx ?_) | (with_reducible refine clS_er ?_) )
section
variable {z : PgW} {C W : Addr} {a b : Int} {bl : List Blk} {tv : List Int} {c : Bool} {m t k r p : Nat} {g : Int} {ks : List Kp} {S S' : Sto} {is : List Nat} {Q : Val → Sto → Prop}
/-! ### told -/
/-! ### due -/
theorem names_pd : (bl.map fun x => PyData.str x.key) = (names bl).map .str := by simp [names]
theorem any_strs {s : Str} (ns : List Str) : (ns.map PyData.str).any (fun z => PyData.eqv z (.str s)) = decide (s ∈ ns) := by
  induction ns with
  | nil => rfl
  | cons n ns ih =>
    simp only [List.map_cons, List.any_cons, ih, List.mem_cons, PyData.eqv]
    by_cases h : n = s
    · subst h; simp
    · have : s ≠ n := fun z => h z.symm
      simp [h, this]
theorem canLay_strs {ns : List Str} (h : ∀ s ∈ ns, PyData.strOk s = true) : PyData.canLayAll0 (ns.map .str) = true := by
  induction ns with
  | nil => rfl
  | cons n ns ih =>
    simp only [List.map_cons, PyData.canLayAll0, PyData.canLay0, Bool.and_eq_true]
    exact ⟨h n List.mem_cons_self, ih fun s hs => h s (List.mem_cons_of_mem _ hs)⟩
theorem depth_strs (ns : List Str) : PyData.depthAll (ns.map .str) = 0 := by
  induction ns with
  | nil => rfl
  | cons n ns ih => simp [PyData.depthAll, PyData.depth, ih]
theorem shaped_strs {ns : List Str} (h : ∀ s ∈ ns, PyData.strOk s = true) : SeqAt.shaped (.list (ns.map .str)) = true := shaped_list (n := 0) (canLay_strs h) (by rw [depth_strs]; exact Nat.le_refl 0) (by decide)
theorem inA_strs {s : Str} {ns : List Str} (h : ∀ s ∈ ns, PyData.strOk s = true) (hs : PyData.strOk s = true) : inA (.d (.str s)) (.d (.list (ns.map .str))) S = some (decide (s ∈ ns)) := by
  unfold inA dicAt lstD toD
  simp only [shaped_strs h, shaped_str hs]
  rw [← any_strs]
  rfl
theorem names_ok (so : ∀ x ∈ bl, x.Ok) : ∀ s ∈ names bl, PyData.strOk s = true := fun s hs => by
  obtain ⟨x, hx, rfl⟩ := List.mem_map.mp hs
  exact (so x hx).str
theorem MdS.setG {g' : Int} (h : MdS a b bl tv c m t k g ks S) : MdS a b bl tv c m t k g' ks (S.set m (.dic (modelG a b bl k t g' c))) := ⟨get_set h.md, get_set_ne h.mt h.tr, get_set_ne h.mk_ h.kp, h.mt, h.mk_, h.tk, h.m0, h.t0, h.k0⟩
theorem modelG_put {g' : Int} : putV (modelG a b bl k t g c) (.inr "given") (.d (.int g')) = modelG a b bl k t g' c := rfl
end
end Lw
end
section
set_option Elab.async false
set_option linter.all false
set_option autoImplicit false
set_option maxRecDepth 100000
set_option maxHeartbeats 2000000
namespace Lw
open PySem PySem.Spec PyProof.Rows L2 Lv
local macro_rules
  | `(tactic| left) => `(tactic| first
    | (with_reducible refine ws_seq ?_) | (with_reducible refine ws_set ?_) | (with_reducible refine ws_expr ?_) | (with_reducible refine ws_ret ?_) | (with_reducible refine ws_retN ?_) | (with_reducible refine ws_if ?_) | (with_reducible refine ws_next ?_) | (with_reducible refine ws_asg ?_) | (with_reducible refine ws_setIx ?_) | (with_reducible refine ws_for ?_)
    | ((with_reducible refine thenS_nx ?_); try simp only [env0, List.map_cons, List.map_nil, List.length_cons, List.length_nil, Nat.reduceAdd, Nat.reduceSub, List.replicate, List.cons_append, List.nil_append, List.set_cons_succ, List.set_cons_zero])
    | (with_reducible refine thenS_rt ?_) | (with_reducible refine endG_nx ?_) | (with_reducible refine endG_rt ?_) | (with_reducible refine turnS_nx ?_) | (with_reducible refine turnS_rt ?_)
    | (with_reducible refine we_int ?_) | (with_reducible refine we_str ?_) | (with_reducible refine we_bool ?_) | (with_reducible refine we_non ?_) | (with_reducible refine we_op ?_) | (with_reducible refine we_op1 ?_) | (with_reducible refine we_fn ?_) | (with_reducible refine we_call ?_) | (with_reducible refine we_not ?_) | (with_reducible refine we_and ?_) | (with_reducible refine we_or ?_) | (with_reducible refine we_ifx ?_)
    | (with_reducible refine we_ch2 ?_) | (with_reducible refine we_ch3 ?_) | (with_reducible refine we_sl ?_) | (with_reducible refine wa_nil ?_) | (with_reducible refine wa_cons ?_) | (with_reducible refine wp_none ?_) | (with_reducible refine wp_some ?_) | (with_reducible refine wb_intro ?_) | (with_reducible refine ite_t ?_) | (with_reducible refine ite_f ?_) | (with_reducible refine ite_nt ?_) | (with_reducible refine ite_nf ?_)
    | (with_reducible refine we_lc ?_) | (with_reducible refine we_lcN ?_) | (with_reducible refine we_make ?_) | (with_reducible refine we_disp ?_) | (with_reducible refine wk_nil ?_) | (with_reducible refine wk_cons ?_) | (with_reducible refine ws_fld ?_) | (with_reducible refine we_fld ?_) | (with_reducible refine we_meth ?_) | (with_reducible refine we_dic0 ?_)
    | (with_reducible refine we_join ?_)
    | (with_reducible refine we_lm ?_)
    | ((with_reducible apply we_var); exact rfl)
    | (with_reducible refine wg_addI ?_) | (with_reducible refine wg_sub ?_) | (with_reducible refine wg_lt ?_) | (with_reducible refine wg_le ?_) | (with_reducible refine wg_gt ?_) | (with_reducible refine wg_ge ?_) | (with_reducible refine wg_eqI ?_) | (with_reducible refine wg_neI ?_)
    | (with_reducible refine wg_lenL ?_) | (with_reducible refine wg_lenT ?_) | (with_reducible refine wg_intI ?_) | (with_reducible refine wg_intB ?_) | (with_reducible refine wg_min2 ?_) | (with_reducible refine wg_max2 ?_) | (with_reducible refine wg_neg ?_)
    | (with_reducible refine wg_isN ?_) | (with_reducible refine wg_isNot ?_) | (with_reducible refine wg_tupleT ?_) | (with_reducible refine wg_listL ?_) | (with_reducible refine wg_listT ?_) | (with_reducible refine wg_slL ?_) | (with_reducible refine wg_slT ?_)
    | (with_reducible refine wg_mod (by decide) ?_) | (with_reducible refine wg_div (by decide) ?_)
    | ((with_reducible apply wg_lst); exact Nat.le_of_ble_eq_true rfl; exact rfl) | ((with_reducible apply wg_tup); exact Nat.le_of_ble_eq_true rfl; exact rfl) | ((with_reducible apply wg_lstN); exact Nat.le_of_ble_eq_true rfl)
    | ((with_reducible apply wg_ixR); exact rfl; exact rfl) | ((with_reducible apply wg_ixL); exact rfl) | ((with_reducible apply wg_ixT); exact rfl) | ((with_reducible apply wg_ixRT); exact rfl; exact rfl)
    | ((with_reducible apply fset_lst); exact rfl; exact rfl; try simp only [Int.reduceToNat, List.set_cons_succ, List.set_cons_zero])
    | (with_reducible refine ex_str ?_) | (with_reducible refine ex_int ?_) | ((with_reducible apply ex_lm); exact rfl)
    | (with_reducible refine ex_seqLd ?_) | (with_reducible refine ex_seqTd ?_) | (with_reducible refine ex_seqSd ?_) | (with_reducible refine ex_name ?_) | ((with_reducible apply ex_atup); exact rfl)
    | ((with_reducible apply ex_rng1); exact rg_ok (by omega) (by omega)) | ((with_reducible apply ex_rng2); exact rg_ok (by omega) (by omega); exact rg_ok (by omega) (by omega))
    | (with_reducible exact ⟨rfl, rfl⟩) | (with_reducible refine and_eq ?_)  | (with_reducible assumption) )
local macro_rules
  | `(tactic| left) => `(tactic| first
    | (with_reducible refine ws_setIxN ?_) | (with_reducible refine we_dicN ?_) | (with_reducible refine we_dget2 ?_) | (with_reducible refine we_dpop ?_) | (with_reducible refine ws_raise ?_) | (with_reducible refine ws_raiseI ?_) | (with_reducible refine ws_try ?_)
    | (with_reducible refine thenS_er ?_) | (with_reducible refine turnS_er ?_) | (with_reducible refine thenS_ct ?_) | (with_reducible refine thenS_bk ?_) | (with_reducible refine endX_nx ?_) | (with_reducible refine endX_rt ?_) | (with_reducible refine endX_er ?_) | (with_reducible refine clS_rt ?_) | (with_reducible refine clS_nx ?_) | (with_reducible refine clS_er ?_) )
section
variable {z : PgW} {C W : Addr} {a b : Int} {bl : List Blk} {tv : List Int} {c : Bool} {m t k r p : Nat} {g : Int} {ks : List Kp} {S S' : Sto} {is : List Nat} {Q : Val → Sto → Prop}
theorem eqv_strs_nil (ns : List Str) : PyData.eqv (.list (ns.map .str)) (.list []) = decide (ns = []) := by
  cases ns with
  | nil => rfl
  | cons n ns => simp [PyData.eqv, PyData.eqvAll]
theorem str_at {ns : List Str} {i : Int} (h0 : 0 ≤ i) (h : i < ns.length) : ∃ s, atI (ns.map PyData.str) i = some (.str s) ∧ s ∈ ns := by
  obtain ⟨x, h1, h2⟩ := at_int (xs := ns.map PyData.str) h0 (by simpa using h)
  obtain ⟨s, hs, rfl⟩ := List.mem_map.mp h2
  exact ⟨s, h1, hs⟩
def Small (tv : List Int) : Prop := ∀ x ∈ tv, -99 ≤ x ∧ x ≤ 99
theorem truth_get (s : Str) : ∃ x, (valK (truthKv bl tv) (.inr s)).getD (.d (.int 0)) = .d (.int x) ∧ (Small tv → -99 ≤ x ∧ x ≤ 99) := by
  cases h : valK (truthKv bl tv) (.inr s) with
  | none => exact ⟨0, rfl, fun _ => by omega⟩
  | some v =>
    unfold valK at h
    obtain ⟨q, h1, h2⟩ := Option.map_eq_some_iff.mp h
    obtain ⟨x, hx, rfl⟩ := List.mem_map.mp (List.mem_of_find?_eq_some h1)
    exact ⟨x.2, h2.symm, fun h => h x.2 (List.of_mem_zip hx).2⟩
theorem atI_four {i : Int} (h0 : 0 ≤ i) (h : i < 4) : ∃ x, atI [PyData.int 1, .int 1, .int 1, .int 700] i = some (.int x) ∧ 0 < x ∧ x ≤ 700 := by
  have : i = 0 ∨ i = 1 ∨ i = 2 ∨ i = 3 := by omega
  rcases this with rfl | rfl | rfl | rfl
  · exact ⟨1, rfl, by decide, by decide⟩
  · exact ⟨1, rfl, by decide, by decide⟩
  · exact ⟨1, rfl, by decide, by decide⟩
  · exact ⟨700, rfl, by decide, by decide⟩
theorem zz_cut (d : Int) : ∃ zs : List Str, (∀ s ∈ zs, PyData.strOk s = true) ∧ zs.length ≤ 1 ∧ cutL [PyData.str "zz"] none (some (if decide (d = 11) = true then 1 else 0)) = zs.map .str := by
  by_cases h : d = 11
  · refine ⟨["zz"], fun s hs => ?_, Nat.le_refl _, ?_⟩
    · rw [List.mem_singleton.mp hs]
      decide +kernel
    · simp only [h, decide_true, if_true]
      rfl
  · refine ⟨[], fun s hs => (by cases hs), Nat.zero_le _, ?_⟩
    simp only [h, decide_false, Bool.false_eq_true, if_false]
    rfl
def DeedB : Deed → Prop
  | .drop _ => True
  | .liken _ _ lo hi => -999 ≤ lo ∧ hi ≤ 999
end
end Lw
end
section
set_option Elab.async false
set_option linter.all false
set_option autoImplicit false
set_option maxRecDepth 100000
set_option maxHeartbeats 2000000
namespace Lw
open PySem PySem.Spec PyProof.Rows L2 Lv
local macro_rules
  | `(tactic| left) => `(tactic| first
    | (with_reducible refine ws_seq ?_) | (with_reducible refine ws_set ?_) | (with_reducible refine ws_expr ?_) | (with_reducible refine ws_ret ?_) | (with_reducible refine ws_retN ?_) | (with_reducible refine ws_if ?_) | (with_reducible refine ws_next ?_) | (with_reducible refine ws_asg ?_) | (with_reducible refine ws_setIx ?_) | (with_reducible refine ws_for ?_)
    | ((with_reducible refine thenS_nx ?_); try simp only [env0, List.map_cons, List.map_nil, List.length_cons, List.length_nil, Nat.reduceAdd, Nat.reduceSub, List.replicate, List.cons_append, List.nil_append, List.set_cons_succ, List.set_cons_zero])
    | (with_reducible refine thenS_rt ?_) | (with_reducible refine endG_nx ?_) | (with_reducible refine endG_rt ?_) | (with_reducible refine turnS_nx ?_) | (with_reducible refine turnS_rt ?_)
    | (with_reducible refine we_int ?_) | (with_reducible refine we_str ?_) | (with_reducible refine we_bool ?_) | (with_reducible refine we_non ?_) | (with_reducible refine we_op ?_) | (with_reducible refine we_op1 ?_) | (with_reducible refine we_fn ?_) | (with_reducible refine we_call ?_) | (with_reducible refine we_not ?_) | (with_reducible refine we_and ?_) | (with_reducible refine we_or ?_) | (with_reducible refine we_ifx ?_)
    | (with_reducible refine we_ch2 ?_) | (with_reducible refine we_ch3 ?_) | (with_reducible refine we_sl ?_) | (with_reducible refine wa_nil ?_) | (with_reducible refine wa_cons ?_) | (with_reducible refine wp_none ?_) | (with_reducible refine wp_some ?_) | (with_reducible refine wb_intro ?_) | (with_reducible refine ite_t ?_) | (with_reducible refine ite_f ?_) | (with_reducible refine ite_nt ?_) | (with_reducible refine ite_nf ?_)
    | (with_reducible refine we_lc ?_) | (with_reducible refine we_lcN ?_) | (with_reducible refine we_make ?_) | (with_reducible refine we_disp ?_) | (with_reducible refine wk_nil ?_) | (with_reducible refine wk_cons ?_) | (with_reducible refine ws_fld ?_) | (with_reducible refine we_fld ?_) | (with_reducible refine we_meth ?_) | (with_reducible refine we_dic0 ?_)
    | (with_reducible refine we_join ?_)
    | (with_reducible refine we_lm ?_)
    | ((with_reducible apply we_var); exact rfl)
    | (with_reducible refine wg_addI ?_) | (with_reducible refine wg_sub ?_) | (with_reducible refine wg_lt ?_) | (with_reducible refine wg_le ?_) | (with_reducible refine wg_gt ?_) | (with_reducible refine wg_ge ?_) | (with_reducible refine wg_eqI ?_) | (with_reducible refine wg_neI ?_)
    | (with_reducible refine wg_lenL ?_) | (with_reducible refine wg_lenT ?_) | (with_reducible refine wg_intI ?_) | (with_reducible refine wg_intB ?_) | (with_reducible refine wg_min2 ?_) | (with_reducible refine wg_max2 ?_) | (with_reducible refine wg_neg ?_)
    | (with_reducible refine wg_isN ?_) | (with_reducible refine wg_isNot ?_) | (with_reducible refine wg_tupleT ?_) | (with_reducible refine wg_listL ?_) | (with_reducible refine wg_listT ?_) | (with_reducible refine wg_slL ?_) | (with_reducible refine wg_slT ?_)
    | (with_reducible refine wg_mod (by decide) ?_) | (with_reducible refine wg_div (by decide) ?_)
    | ((with_reducible apply wg_lst); exact Nat.le_of_ble_eq_true rfl; exact rfl) | ((with_reducible apply wg_tup); exact Nat.le_of_ble_eq_true rfl; exact rfl) | ((with_reducible apply wg_lstN); exact Nat.le_of_ble_eq_true rfl)
    | ((with_reducible apply wg_ixR); exact rfl; exact rfl) | ((with_reducible apply wg_ixL); exact rfl) | ((with_reducible apply wg_ixT); exact rfl) | ((with_reducible apply wg_ixRT); exact rfl; exact rfl)
    | ((with_reducible apply fset_lst); exact rfl; exact rfl; try simp only [Int.reduceToNat, List.set_cons_succ, List.set_cons_zero])
    | (with_reducible refine ex_str ?_) | (with_reducible refine ex_int ?_) | ((with_reducible apply ex_lm); exact rfl)
    | (with_reducible refine ex_seqLd ?_) | (with_reducible refine ex_seqTd ?_) | (with_reducible refine ex_seqSd ?_) | (with_reducible refine ex_name ?_) | ((with_reducible apply ex_atup); exact rfl)
    | ((with_reducible apply ex_rng1); exact rg_ok (by omega) (by omega)) | ((with_reducible apply ex_rng2); exact rg_ok (by omega) (by omega); exact rg_ok (by omega) (by omega))
    | (with_reducible exact ⟨rfl, rfl⟩) | (with_reducible refine and_eq ?_)  | (with_reducible assumption) )
local macro_rules
  | `(tactic| left) => `(tactic| first
    | (with_reducible refine ws_setIxN ?_) | (with_reducible refine we_dicN ?_) | (with_reducible refine we_dget2 ?_) | (with_reducible refine we_dpop ?_) | (with_reducible refine ws_raise ?_) | (with_reducible refine ws_raiseI ?_) | (with_reducible refine ws_try ?_)
    | (with_reducible refine thenS_er ?_) | (with_reducible refine turnS_er ?_) | (with_reducible refine thenS_ct ?_) | (with_reducible refine thenS_bk ?_) | (with_reducible refine endX_nx ?_) | (with_reducible refine endX_rt ?_) | (with_reducible refine endX_er ?_) | (with_reducible refine clS_rt ?_) | (with_reducible refine clS_nx ?_) | (with_reducible refine clS_er ?_) )
open Classical in
noncomputable def hiD (bl : List Blk) (ks : List Kp) (s : Str) : Int := if h : ∃ d, Lm.Dist (rowsOf bl ks) none (some s) d then h.choose else 0
open Classical in
noncomputable def loD (bl : List Blk) (ks : List Kp) (s : Str) : Int := if h : ∃ d, Lm.Dist (rowsOf bl ks) (some s) none d then 0 - h.choose else 0
section
variable {z : PgW} {C W : Addr} {a b : Int} {bl : List Blk} {r p k : Nat} {g : Int} {ks : List Kp} {S : Sto} {Q : Val → Sto → Prop}
theorem hiD_at (ok : KsOk bl ks g) {s : Str} (hs : s ∈ names bl) : Lm.Dist (rowsOf bl ks) none (some s) (hiD bl ks s) := by
  have h := dist_nd ok (List.mem_cons_self : (none : Nd) ∈ nds bl) (nm_nd hs)
  rw [hiD, dif_pos h]
  exact h.choose_spec
theorem loD_at (ok : KsOk bl ks g) {s : Str} (hs : s ∈ names bl) : Lm.Dist (rowsOf bl ks) (some s) none (0 - loD bl ks s) := by
  have h := dist_nd ok (nm_nd hs) (List.mem_cons_self : (none : Nd) ∈ nds bl)
  rw [loD, dif_pos h, show (0 : Int) - (0 - h.choose) = h.choose by omega]
  exact h.choose_spec
theorem hiD_is {s : Str} {d : Int} (h : Lm.Dist (rowsOf bl ks) none (some s) d) : hiD bl ks s = d := by
  have e : ∃ d, Lm.Dist (rowsOf bl ks) none (some s) d := ⟨d, h⟩
  rw [hiD, dif_pos e]
  exact e.choose_spec.uniq h
theorem loD_is {s : Str} {d : Int} (h : Lm.Dist (rowsOf bl ks) (some s) none d) : loD bl ks s = 0 - d := by
  have e : ∃ d, Lm.Dist (rowsOf bl ks) (some s) none d := ⟨d, h⟩
  rw [loD, dif_pos e, e.choose_spec.uniq h]
/-- a dict over the blocks' names -/
def offKv (bl : List Blk) (f : Str → Int) : List (Key × Val) := bl.map fun x => (.inr x.key, .d (.int (f x.key)))
theorem key_inj {x y : Blk} (h : x.key = y.key) : x.name = y.name := by
  have e : x.name.toArray = y.name.toArray := congrArg Str.cps h
  simpa using e
theorem keys_nd (nd_ : (bl.map (·.name)).Nodup) : (bl.map Blk.key).Nodup := by
  rw [List.nodup_iff_pairwise_ne, List.pairwise_map] at nd_ ⊢
  exact nd_.imp fun {x y} h z => h (key_inj z)
theorem merge_new : ∀ (more kvs : List (Key × Val)), ((kvs ++ more).map (·.1)).Nodup → mergeV kvs more = kvs ++ more
  | [], kvs, _ => by simp [mergeV]
  | q :: r, kvs, h => by
    have n : ∀ x ∈ kvs, x.1 ≠ q.1 := fun x hx e => by
      rw [List.map_append, List.nodup_append] at h
      exact h.2.2 x.1 (List.mem_map_of_mem hx) q.1 (by simp) e
    show mergeV (putV kvs q.1 q.2) r = _
    rw [putV_new n, merge_new r (kvs ++ [(q.1, q.2)]) (by simpa using h)]
    simp
theorem pairs_off (f : Str → Int) : pairsD (bl.map fun x => PyData.tuple [.str x.key, .int (f x.key)]) = some (bl.map fun x => (.inr x.key, .int (f x.key))) := by
  induction bl with
  | nil => rfl
  | cons x bl ih =>
    simp only [List.map_cons, pairsD, ih]
    rfl
theorem off_merge (nd_ : (bl.map (·.name)).Nodup) (f : Str → Int) : mergeV [] ((bl.map fun x => ((.inr x.key : Key), PyData.int (f x.key))).map fun q => (q.1, Val.d q.2)) = offKv bl f := by
  rw [merge_new]
  · simp [offKv]
  · simp only [List.nil_append, List.map_map]
    have := keys_nd nd_
    rw [List.nodup_iff_pairwise_ne, List.pairwise_map] at this ⊢
    exact this.imp fun {x y} h z => h (Sum.inr.inj z)
end
end Lw
end
section
set_option Elab.async false
set_option linter.all false
set_option autoImplicit false
set_option maxRecDepth 100000
set_option maxHeartbeats 2000000
namespace Lw
open PySem PySem.Spec PyProof.Rows L2 Lv
section
variable {bl : List Blk} {ks ks' : List Kp} {g g' : Int} {a b : Int} {s u : Str}
theorem rows_own {x : Blk} (h : x ∈ bl) : (⟨none, some x.key, x.hi, none⟩ : Row) ∈ rowsOf bl ks ∧ (⟨some x.key, none, 0 - x.lo, none⟩ : Row) ∈ rowsOf bl ks :=
  ⟨List.mem_append_left _ (List.mem_flatMap.mpr ⟨x, h, by simp⟩), List.mem_append_left _ (List.mem_flatMap.mpr ⟨x, h, by simp⟩)⟩
theorem rows_kept {x : Kp} (h : x ∈ ks) : (⟨some x.other, some x.one, x.hi, some x.num⟩ : Row) ∈ rowsOf bl ks ∧ (⟨some x.one, some x.other, 0 - x.lo, some x.num⟩ : Row) ∈ rowsOf bl ks :=
  ⟨List.mem_append_right _ (List.mem_flatMap.mpr ⟨x, h, by simp⟩), List.mem_append_right _ (List.mem_flatMap.mpr ⟨x, h, by simp⟩)⟩
theorem dist_tri {x y z : Nd} {d1 d2 d3 : Int} (h1 : Lm.Dist (rowsOf bl ks) x y d1) (h2 : Lm.Dist (rowsOf bl ks) y z d2) (h3 : Lm.Dist (rowsOf bl ks) x z d3) : d3 ≤ d1 + d2 := h3.2 _ (h1.1.trans h2.1)
theorem dist_row {x : Nd} {r : Row} {d1 d2 : Int} (hr : r ∈ rowsOf bl ks) (h1 : Lm.Dist (rowsOf bl ks) x r.src d1) (h2 : Lm.Dist (rowsOf bl ks) x r.dst d2) : d2 ≤ d1 + r.w := h2.2 _ (.snoc h1.1 hr)
theorem lo_le_hi (ok : KsOk bl ks g) (hs : s ∈ names bl) : loD bl ks s ≤ hiD bl ks s := by
  obtain ⟨π, f⟩ := ok.fs
  have h1 := hiD_at ok hs
  have h2 := loD_at ok hs
  have := Lm.walk_ge f (h1.1.trans h2.1)
  omega
theorem own_lo (ok : KsOk bl ks g) {x : Blk} (h : x ∈ bl) : x.lo ≤ loD bl ks x.key := by
  have h2 := loD_at ok (List.mem_map_of_mem (f := Blk.key) h)
  have := h2.2 _ (Lm.Walk.one (rows_own (ks := ks) h).2)
  dsimp only at this
  omega
theorem own_hi (ok : KsOk bl ks g) {x : Blk} (h : x ∈ bl) : hiD bl ks x.key ≤ x.hi := by
  have h2 := hiD_at ok (List.mem_map_of_mem (f := Blk.key) h)
  exact h2.2 _ (Lm.Walk.one (rows_own (ks := ks) h).1)
/-- amounts that keep all -/
def Keeps (bl : List Blk) (ks : List Kp) (f : Str → Int) : Prop := (∀ x ∈ bl, x.lo ≤ f x.key ∧ f x.key ≤ x.hi) ∧ ∀ x ∈ ks, x.lo ≤ f x.one - f x.other ∧ f x.one - f x.other ≤ x.hi
theorem keeps_feas {f : Str → Int} (h : Keeps bl ks f) : Lm.Feas (rowsOf bl ks) fun v => match v with
    | none => 0
    | some s => f s := fun r hr => by
  rcases List.mem_append.mp hr with hr | hr
  · obtain ⟨x, hx, hr⟩ := List.mem_flatMap.mp hr
    have := h.1 x hx
    simp only [List.mem_cons, List.not_mem_nil, or_false] at hr
    rcases hr with rfl | rfl
    · dsimp only
      omega
    · dsimp only
      omega
  · obtain ⟨x, hx, hr⟩ := List.mem_flatMap.mp hr
    have := h.2 x hx
    simp only [List.mem_cons, List.not_mem_nil, or_false] at hr
    rcases hr with rfl | rfl
    · dsimp only
      omega
    · dsimp only
      omega
theorem keeps_mid (ok : KsOk bl ks g) {f : Str → Int} (h : Keeps bl ks f) (hs : s ∈ names bl) : loD bl ks s ≤ f s ∧ f s ≤ hiD bl ks s := by
  have F := keeps_feas h
  have h1 := Lm.walk_ge F (hiD_at ok hs).1
  have h2 := Lm.walk_ge F (loD_at ok hs).1
  dsimp only at h1 h2
  omega
theorem most_keeps (ok : KsOk bl ks g) : Keeps bl ks (hiD bl ks) := by
  refine ⟨fun x hx => ⟨?_, own_hi ok hx⟩, fun x hx => ?_⟩
  · have := own_lo ok hx
    have := lo_le_hi ok (List.mem_map_of_mem (f := Blk.key) hx)
    omega
  · obtain ⟨n1, n2, _⟩ := ok.nm x hx
    have r1 := dist_row (rows_kept (bl := bl) hx).1 (hiD_at ok n2) (hiD_at ok n1)
    have r2 := dist_row (rows_kept (bl := bl) hx).2 (hiD_at ok n1) (hiD_at ok n2)
    dsimp only at r1 r2
    omega
theorem least_keeps (ok : KsOk bl ks g) : Keeps bl ks (loD bl ks) := by
  have row : ∀ {r : Row} {d1 d2 : Int}, r ∈ rowsOf bl ks → Lm.Dist (rowsOf bl ks) r.src none d1 → Lm.Dist (rowsOf bl ks) r.dst none d2 → d1 ≤ r.w + d2 := fun {r d1 d2} hr h1 h2 => h1.2 _ ((Lm.Walk.one hr).trans h2.1)
  refine ⟨fun x hx => ⟨own_lo ok hx, ?_⟩, fun x hx => ?_⟩
  · have := own_hi ok hx
    have := lo_le_hi ok (List.mem_map_of_mem (f := Blk.key) hx)
    omega
  · obtain ⟨n1, n2, _⟩ := ok.nm x hx
    have r1 := row (rows_kept (bl := bl) hx).1 (loD_at ok n2) (loD_at ok n1)
    have r2 := row (rows_kept (bl := bl) hx).2 (loD_at ok n1) (loD_at ok n2)
    dsimp only at r1 r2
    omega
/-! a likening more -/
theorem rows_more {x : Kp} {r : Row} (h : r ∈ rowsOf bl ks) : r ∈ rowsOf bl (ks ++ [x]) := by
  rcases List.mem_append.mp h with h | h
  · exact List.mem_append_left _ h
  · rw [rowsOf, rowsK_snoc]
    exact List.mem_append_right _ (List.mem_append_left _ h)
theorem hi_more {x : Kp} (ok : KsOk bl ks g) (ok' : KsOk bl (ks ++ [x]) g') (hs : s ∈ names bl) : hiD bl (ks ++ [x]) s ≤ hiD bl ks s :=
  (hiD_at ok' hs).2 _ ((hiD_at ok hs).1.mono fun _ => rows_more)
theorem lo_more {x : Kp} (ok : KsOk bl ks g) (ok' : KsOk bl (ks ++ [x]) g') (hs : s ∈ names bl) : loD bl ks s ≤ loD bl (ks ++ [x]) s := by
  have := (loD_at ok' hs).2 _ ((loD_at ok hs).1.mono fun _ => rows_more)
  omega
theorem not_bar (ok : KsOk bl ks g) (h1 : s ∈ names bl) (h2 : u ∈ names bl) {lo hi : Int} (l : lo ≤ hiD bl ks s - hiD bl ks u) (h : hiD bl ks s - hiD bl ks u ≤ hi) : ¬ Bar bl ks s u lo hi := fun ⟨d1, d2, e1, e2, e⟩ => by
  have t1 := dist_tri (hiD_at ok h1) e1 (hiD_at ok h2)
  have t2 := dist_tri (hiD_at ok h2) e2 (hiD_at ok h1)
  omega
theorem hi_small (ca : CaseOk a b bl) (ok : KsOk bl ks g) (hs : s ∈ names bl) : -99 ≤ hiD bl ks s ∧ hiD bl ks s ≤ 99 := by
  obtain ⟨x, hx, rfl⟩ := List.mem_map.mp hs
  have o := ca.ok x hx
  have := o.lo
  have := o.hi
  have := own_hi ok hx
  have := own_lo ok hx
  have := lo_le_hi ok hs
  omega
theorem met (ok : KsOk bl ks g) {x : Kp} (hx : x ∈ ks) : x.lo ≤ hiD bl ks x.one - loD bl ks x.other := by
  obtain ⟨n1, n2, _⟩ := ok.nm x hx
  have := (most_keeps ok).2 x hx
  have := lo_le_hi ok n2
  omega
/-! stretches of stacks -/
def lenD (bl : List Blk) (s : Str) : Int := match bl.find? fun x => decide (x.key = s) with
  | some x => x.len
  | none => 0
noncomputable def stLo (a : Int) (bl : List Blk) (ks : List Kp) (ns : List Str) : Int := a * (ns.length - 1) + (ns.map fun s => 1000 * lenD bl s + loD bl ks s).sum
noncomputable def stHi (b : Int) (bl : List Blk) (ks : List Kp) (ns : List Str) : Int := b * (ns.length - 1) + (ns.map fun s => 1000 * lenD bl s + hiD bl ks s).sum
theorem sum_mono {f h : Str → Int} : ∀ {ns : List Str}, (∀ s ∈ ns, f s ≤ h s) → (ns.map f).sum ≤ (ns.map h).sum
  | [], _ => Int.le_refl _
  | n :: ns, z => by
    have h1 := z n List.mem_cons_self
    have h2 := sum_mono (ns := ns) fun s hs => z s (List.mem_cons_of_mem _ hs)
    simp only [List.map_cons, List.sum_cons]
    omega
theorem st_more {x : Kp} (ok : KsOk bl ks g) (ok' : KsOk bl (ks ++ [x]) g') {ns : List Str} (hn : ∀ s ∈ ns, s ∈ names bl) : stLo a bl ks ns ≤ stLo a bl (ks ++ [x]) ns ∧ stHi b bl (ks ++ [x]) ns ≤ stHi b bl ks ns := by
  have h1 := sum_mono (f := fun s => 1000 * lenD bl s + loD bl ks s) (h := fun s => 1000 * lenD bl s + loD bl (ks ++ [x]) s) (ns := ns) fun s hs => by
    have := lo_more ok ok' (hn s hs)
    omega
  have h2 := sum_mono (f := fun s => 1000 * lenD bl s + hiD bl (ks ++ [x]) s) (h := fun s => 1000 * lenD bl s + hiD bl ks s) (ns := ns) fun s hs => by
    have := hi_more ok ok' (hn s hs)
    omega
  unfold stLo stHi
  omega
theorem st_le (ca : CaseOk a b bl) (ok : KsOk bl ks g) {ns : List Str} (h0 : ns ≠ []) (hn : ∀ s ∈ ns, s ∈ names bl) : stLo a bl ks ns ≤ stHi b bl ks ns := by
  have h1 := sum_mono (f := fun s => 1000 * lenD bl s + loD bl ks s) (h := fun s => 1000 * lenD bl s + hiD bl ks s) (ns := ns) fun s hs => by
    have := lo_le_hi ok (hn s hs)
    omega
  have hl : 0 ≤ (ns.length : Int) - 1 := by
    have := List.length_pos_iff.mpr h0
    omega
  have h2 : a * (ns.length - 1) ≤ b * (ns.length - 1) := Int.mul_le_mul_of_nonneg_right ca.ab hl
  unfold stLo stHi
  omega
end
end Lw
end
section
set_option Elab.async false
set_option linter.all false
set_option autoImplicit false
set_option maxRecDepth 100000
set_option maxHeartbeats 2000000
namespace Lw
open PySem PySem.Spec PyProof.Rows L2 Lv
local macro_rules
  | `(tactic| left) => `(tactic| first
    | (with_reducible refine ws_seq ?_) | (with_reducible refine ws_set ?_) | (with_reducible refine ws_expr ?_) | (with_reducible refine ws_ret ?_) | (with_reducible refine ws_retN ?_) | (with_reducible refine ws_if ?_) | (with_reducible refine ws_next ?_) | (with_reducible refine ws_asg ?_) | (with_reducible refine ws_setIx ?_) | (with_reducible refine ws_for ?_)
    | ((with_reducible refine thenS_nx ?_); try simp only [env0, List.map_cons, List.map_nil, List.length_cons, List.length_nil, Nat.reduceAdd, Nat.reduceSub, List.replicate, List.cons_append, List.nil_append, List.set_cons_succ, List.set_cons_zero])
    | (with_reducible refine thenS_rt ?_) | (with_reducible refine endG_nx ?_) | (with_reducible refine endG_rt ?_) | (with_reducible refine turnS_nx ?_) | (with_reducible refine turnS_rt ?_)
    | (with_reducible refine we_int ?_) | (with_reducible refine we_str ?_) | (with_reducible refine we_bool ?_) | (with_reducible refine we_non ?_) | (with_reducible refine we_op ?_) | (with_reducible refine we_op1 ?_) | (with_reducible refine we_fn ?_) | (with_reducible refine we_call ?_) | (with_reducible refine we_not ?_) | (with_reducible refine we_and ?_) | (with_reducible refine we_or ?_) | (with_reducible refine we_ifx ?_)
    | (with_reducible refine we_ch2 ?_) | (with_reducible refine we_ch3 ?_) | (with_reducible refine we_sl ?_) | (with_reducible refine wa_nil ?_) | (with_reducible refine wa_cons ?_) | (with_reducible refine wp_none ?_) | (with_reducible refine wp_some ?_) | (with_reducible refine wb_intro ?_) | (with_reducible refine ite_t ?_) | (with_reducible refine ite_f ?_) | (with_reducible refine ite_nt ?_) | (with_reducible refine ite_nf ?_)
    | (with_reducible refine we_lc ?_) | (with_reducible refine we_lcN ?_) | (with_reducible refine we_make ?_) | (with_reducible refine we_disp ?_) | (with_reducible refine wk_nil ?_) | (with_reducible refine wk_cons ?_) | (with_reducible refine ws_fld ?_) | (with_reducible refine we_fld ?_) | (with_reducible refine we_meth ?_) | (with_reducible refine we_dic0 ?_)
    | (with_reducible refine we_join ?_)
    | (with_reducible refine we_lm ?_)
    | ((with_reducible apply we_var); exact rfl)
    | (with_reducible refine wg_addI ?_) | (with_reducible refine wg_sub ?_) | (with_reducible refine wg_lt ?_) | (with_reducible refine wg_le ?_) | (with_reducible refine wg_gt ?_) | (with_reducible refine wg_ge ?_) | (with_reducible refine wg_eqI ?_) | (with_reducible refine wg_neI ?_)
    | (with_reducible refine wg_lenL ?_) | (with_reducible refine wg_lenT ?_) | (with_reducible refine wg_intI ?_) | (with_reducible refine wg_intB ?_) | (with_reducible refine wg_min2 ?_) | (with_reducible refine wg_max2 ?_) | (with_reducible refine wg_neg ?_)
    | (with_reducible refine wg_isN ?_) | (with_reducible refine wg_isNot ?_) | (with_reducible refine wg_tupleT ?_) | (with_reducible refine wg_listL ?_) | (with_reducible refine wg_listT ?_) | (with_reducible refine wg_slL ?_) | (with_reducible refine wg_slT ?_)
    | (with_reducible refine wg_mod (by decide) ?_) | (with_reducible refine wg_div (by decide) ?_)
    | ((with_reducible apply wg_lst); exact Nat.le_of_ble_eq_true rfl; exact rfl) | ((with_reducible apply wg_tup); exact Nat.le_of_ble_eq_true rfl; exact rfl) | ((with_reducible apply wg_lstN); exact Nat.le_of_ble_eq_true rfl)
    | ((with_reducible apply wg_ixR); exact rfl; exact rfl) | ((with_reducible apply wg_ixL); exact rfl) | ((with_reducible apply wg_ixT); exact rfl) | ((with_reducible apply wg_ixRT); exact rfl; exact rfl)
    | ((with_reducible apply fset_lst); exact rfl; exact rfl; try simp only [Int.reduceToNat, List.set_cons_succ, List.set_cons_zero])
    | (with_reducible refine ex_str ?_) | (with_reducible refine ex_int ?_) | ((with_reducible apply ex_lm); exact rfl)
    | (with_reducible refine ex_seqLd ?_) | (with_reducible refine ex_seqTd ?_) | (with_reducible refine ex_seqSd ?_) | (with_reducible refine ex_name ?_) | ((with_reducible apply ex_atup); exact rfl)
    | ((with_reducible apply ex_rng1); exact rg_ok (by omega) (by omega)) | ((with_reducible apply ex_rng2); exact rg_ok (by omega) (by omega); exact rg_ok (by omega) (by omega))
    | (with_reducible exact ⟨rfl, rfl⟩) | (with_reducible refine and_eq ?_)  | (with_reducible assumption) )
local macro_rules
  | `(tactic| left) => `(tactic| first
    | (with_reducible refine ws_setIxN ?_) | (with_reducible refine we_dicN ?_) | (with_reducible refine we_dget2 ?_) | (with_reducible refine we_dpop ?_) | (with_reducible refine ws_raise ?_) | (with_reducible refine ws_raiseI ?_) | (with_reducible refine ws_try ?_)
    | (with_reducible refine thenS_er ?_) | (with_reducible refine turnS_er ?_) | (with_reducible refine thenS_ct ?_) | (with_reducible refine thenS_bk ?_) | (with_reducible refine endX_nx ?_) | (with_reducible refine endX_rt ?_) | (with_reducible refine endX_er ?_) | (with_reducible refine clS_rt ?_) | (with_reducible refine clS_nx ?_) | (with_reducible refine clS_er ?_) )
section
variable {z : PgW} {C W : Addr} {a b : Int} {bl : List Blk} {tv : List Int} {c : Bool} {m t l r p k : Nat} {g g' : Int} {ks ks' : List Kp} {S S' : Sto} {is : List Nat} {Q : Val → Sto → Prop}
theorem CsS.case (ca : CaseOk a b bl) (h : CsS C a b bl r p k g ks S) : CaseAt C bl r p S := ⟨⟨_, h.cs, rfl, rfl⟩, h.bk, Ne.symm h.rp, ca.few, ca.nd⟩
theorem shaped_blks (ca : CaseOk a b bl) : SeqAt.shaped (.list (bl.map Blk.pd)) = true := by
  refine shaped_list (n := 1) ?_ ?_ (by decide)
  · have so := ca.ok
    clear ca
    induction bl with
    | nil => rfl
    | cons x bl ih =>
      rw [List.map_cons]
      simp only [PyData.canLayAll0, Bool.and_eq_true]
      refine ⟨?_, ih fun y hy => so y (List.mem_cons_of_mem _ hy)⟩
      simp [Blk.pd, PyData.canLay0, PyData.canLayAll0, (so x List.mem_cons_self).str]
  · clear ca
    induction bl with
    | nil => exact Nat.zero_le _
    | cons x bl ih =>
      rw [List.map_cons]
      simp only [PyData.depthAll, Blk.pd, PyData.depth]
      omega
theorem shaped_kp {x : Kp} (h1 : PyData.strOk x.one = true) (h2 : PyData.strOk x.other = true) : SeqAt.shaped x.pd = true := by
  simp [SeqAt.shaped, Kp.pd, PyData.canLay0, PyData.canLayAll0, PyData.depth, PyData.depthAll, h1, h2]
def keptKd (ks : List Kp) : List (Key × PyData) := ks.map fun x => (.inl x.num, x.pd)
theorem kept_kd (hs : ∀ x ∈ ks, SeqAt.shaped x.pd = true) : kvD (keptKv ks) = some (keptKd ks) := by
  induction ks with
  | nil => rfl
  | cons x ks ih =>
    have e := ih fun y hy => hs y (List.mem_cons_of_mem _ hy)
    show (match (Val.d x.pd), kvD (keptKv ks) with
      | .d p, some l => if SeqAt.shaped p = true then some ((Sum.inl x.num, p) :: l) else none
      | _, _ => none) = _
    rw [e]
    simp only [hs x List.mem_cons_self, if_true]
    rfl
theorem valP_mem {κ : Type} [DecidableEq κ] {kvs : List (κ × PyData)} {k : κ} {v : PyData} (h : (k, v) ∈ kvs) (nd : (kvs.map (·.1)).Nodup) : valP kvs k = some v := by
  induction kvs with
  | nil => cases h
  | cons q kvs ih =>
    unfold valP
    rw [List.find?_cons]
    rw [List.map_cons, List.nodup_cons] at nd
    rcases List.mem_cons.mp h with e | h
    · subst e
      simp
    · have : q.1 ≠ k := fun z => nd.1 (List.mem_map.mpr ⟨_, h, z.symm⟩)
      simp only [this, decide_false]
      exact ih h nd.2
theorem hits_self {b : List (Key × PyData)} : ∀ {l : List (Key × PyData)}, (∀ q ∈ l, valP b q.1 = some q.2 ∧ PyData.eqv q.2 q.2 = true) → Lv.hitsD b l = true
  | [], _ => rfl
  | q :: r, h => by
    obtain ⟨h1, h2⟩ := h q List.mem_cons_self
    unfold Lv.hitsD
    rw [h1]
    simp only [h2, Bool.true_and]
    exact hits_self fun x hx => h x (List.mem_cons_of_mem _ hx)
theorem kept_nd (ok : KsOk bl ks g) : ((keptKd ks).map (·.1)).Nodup := by
  have nd := ok.inc.imp fun {x y} (h : x < y) => Int.ne_of_lt h
  rw [List.pairwise_map] at nd
  rw [keptKd, List.map_map, List.nodup_iff_pairwise_ne, List.pairwise_map]
  exact nd.imp fun {x y} h z => h (Sum.inl.inj z)
theorem kp_shaped (so : ∀ x ∈ bl, x.Ok) (ok : KsOk bl ks g) : ∀ x ∈ ks, SeqAt.shaped x.pd = true := fun x hx => by
  obtain ⟨h1, h2, _⟩ := ok.nm x hx
  exact shaped_kp (names_ok so _ h1) (names_ok so _ h2)
theorem kept_hits (so : ∀ x ∈ bl, x.Ok) (ok : KsOk bl ks g) : ((keptKd ks).length == (keptKd ks).length && Lv.hitsD (keptKd ks) (keptKd ks)) = true := by
  rw [beq_self_eq_true, Bool.true_and]
  refine hits_self fun q hq => ⟨valP_mem hq (kept_nd ok), ?_⟩
  obtain ⟨x, hx, rfl⟩ := List.mem_map.mp hq
  exact eqv_refl _ ((Bool.and_eq_true_iff.mp (kp_shaped so ok x hx)).1)
theorem shaped_ans (d : Deed) : SeqAt.shaped (ans bl ks g d) = true := by
  cases d with
  | drop n =>
    simp only [ans]
    split
    · rfl
    · decide +kernel
  | liken one other lo hi =>
    simp only [ans]
    repeat' split
    all_goals first | rfl | decide +kernel
theorem eqv_self {x : PyData} (h : SeqAt.shaped x = true) : PyData.eqv x x = true := eqv_refl _ ((Bool.and_eq_true_iff.mp h).1)
end
end Lw
end
section
set_option Elab.async false
set_option linter.all false
set_option autoImplicit false
set_option maxRecDepth 100000
set_option maxHeartbeats 2000000
namespace Lw
open PySem PySem.Spec PyProof.Rows L2 Lv
local macro_rules
  | `(tactic| left) => `(tactic| first
    | (with_reducible refine ws_seq ?_) | (with_reducible refine ws_set ?_) | (with_reducible refine ws_expr ?_) | (with_reducible refine ws_ret ?_) | (with_reducible refine ws_retN ?_) | (with_reducible refine ws_if ?_) | (with_reducible refine ws_next ?_) | (with_reducible refine ws_asg ?_) | (with_reducible refine ws_setIx ?_) | (with_reducible refine ws_for ?_)
    | ((with_reducible refine thenS_nx ?_); try simp only [env0, List.map_cons, List.map_nil, List.length_cons, List.length_nil, Nat.reduceAdd, Nat.reduceSub, List.replicate, List.cons_append, List.nil_append, List.set_cons_succ, List.set_cons_zero])
    | (with_reducible refine thenS_rt ?_) | (with_reducible refine endG_nx ?_) | (with_reducible refine endG_rt ?_) | (with_reducible refine turnS_nx ?_) | (with_reducible refine turnS_rt ?_)
    | (with_reducible refine we_int ?_) | (with_reducible refine we_str ?_) | (with_reducible refine we_bool ?_) | (with_reducible refine we_non ?_) | (with_reducible refine we_op ?_) | (with_reducible refine we_op1 ?_) | (with_reducible refine we_fn ?_) | (with_reducible refine we_call ?_) | (with_reducible refine we_not ?_) | (with_reducible refine we_and ?_) | (with_reducible refine we_or ?_) | (with_reducible refine we_ifx ?_)
    | (with_reducible refine we_ch2 ?_) | (with_reducible refine we_ch3 ?_) | (with_reducible refine we_sl ?_) | (with_reducible refine wa_nil ?_) | (with_reducible refine wa_cons ?_) | (with_reducible refine wp_none ?_) | (with_reducible refine wp_some ?_) | (with_reducible refine wb_intro ?_) | (with_reducible refine ite_t ?_) | (with_reducible refine ite_f ?_) | (with_reducible refine ite_nt ?_) | (with_reducible refine ite_nf ?_)
    | (with_reducible refine we_lc ?_) | (with_reducible refine we_lcN ?_) | (with_reducible refine we_make ?_) | (with_reducible refine we_disp ?_) | (with_reducible refine wk_nil ?_) | (with_reducible refine wk_cons ?_) | (with_reducible refine ws_fld ?_) | (with_reducible refine we_fld ?_) | (with_reducible refine we_meth ?_) | (with_reducible refine we_dic0 ?_)
    | (with_reducible refine we_join ?_)
    | (with_reducible refine we_lm ?_)
    | ((with_reducible apply we_var); exact rfl)
    | (with_reducible refine wg_addI ?_) | (with_reducible refine wg_sub ?_) | (with_reducible refine wg_lt ?_) | (with_reducible refine wg_le ?_) | (with_reducible refine wg_gt ?_) | (with_reducible refine wg_ge ?_) | (with_reducible refine wg_eqI ?_) | (with_reducible refine wg_neI ?_)
    | (with_reducible refine wg_lenL ?_) | (with_reducible refine wg_lenT ?_) | (with_reducible refine wg_intI ?_) | (with_reducible refine wg_intB ?_) | (with_reducible refine wg_min2 ?_) | (with_reducible refine wg_max2 ?_) | (with_reducible refine wg_neg ?_)
    | (with_reducible refine wg_isN ?_) | (with_reducible refine wg_isNot ?_) | (with_reducible refine wg_tupleT ?_) | (with_reducible refine wg_listL ?_) | (with_reducible refine wg_listT ?_) | (with_reducible refine wg_slL ?_) | (with_reducible refine wg_slT ?_)
    | (with_reducible refine wg_mod (by decide) ?_) | (with_reducible refine wg_div (by decide) ?_)
    | ((with_reducible apply wg_lst); exact Nat.le_of_ble_eq_true rfl; exact rfl) | ((with_reducible apply wg_tup); exact Nat.le_of_ble_eq_true rfl; exact rfl) | ((with_reducible apply wg_lstN); exact Nat.le_of_ble_eq_true rfl)
    | ((with_reducible apply wg_ixR); exact rfl; exact rfl) | ((with_reducible apply wg_ixL); exact rfl) | ((with_reducible apply wg_ixT); exact rfl) | ((with_reducible apply wg_ixRT); exact rfl; exact rfl)
    | ((with_reducible apply fset_lst); exact rfl; exact rfl; try simp only [Int.reduceToNat, List.set_cons_succ, List.set_cons_zero])
    | (with_reducible refine ex_str ?_) | (with_reducible refine ex_int ?_) | ((with_reducible apply ex_lm); exact rfl)
    | (with_reducible refine ex_seqLd ?_) | (with_reducible refine ex_seqTd ?_) | (with_reducible refine ex_seqSd ?_) | (with_reducible refine ex_name ?_) | ((with_reducible apply ex_atup); exact rfl)
    | ((with_reducible apply ex_rng1); exact rg_ok (by omega) (by omega)) | ((with_reducible apply ex_rng2); exact rg_ok (by omega) (by omega); exact rg_ok (by omega) (by omega))
    | (with_reducible exact ⟨rfl, rfl⟩) | (with_reducible refine and_eq ?_)  | (with_reducible assumption) )
local macro_rules
  | `(tactic| left) => `(tactic| first
    | (with_reducible refine ws_setIxN ?_) | (with_reducible refine we_dicN ?_) | (with_reducible refine we_dget2 ?_) | (with_reducible refine we_dpop ?_) | (with_reducible refine ws_raise ?_) | (with_reducible refine ws_raiseI ?_) | (with_reducible refine ws_try ?_)
    | (with_reducible refine thenS_er ?_) | (with_reducible refine turnS_er ?_) | (with_reducible refine thenS_ct ?_) | (with_reducible refine thenS_bk ?_) | (with_reducible refine endX_nx ?_) | (with_reducible refine endX_rt ?_) | (with_reducible refine endX_er ?_) | (with_reducible refine clS_rt ?_) | (with_reducible refine clS_nx ?_) | (with_reducible refine clS_er ?_) )
section
variable {z : PgW} {C W : Addr} {a b : Int} {bl : List Blk} {tv : List Int} {c : Bool} {m t l r p k : Nat} {g g' : Int} {ks ks' : List Kp} {S S' : Sto} {is : List Nat} {Q : Val → Sto → Prop}
theorem likenings_fun (h : CsS C a b bl r p k g ks S) (q : Q (.ref S.length) (S ++ [.dic (keptKv ks)])) : WG (g_Case_likenings C [.ref r] S) Q := by
  refine wg_keep ?_
  unfold b_Case_likenings
  repeat left
  refine ex_get h.cs rfl (wg_dictD h.kp ?_)
  repeat left
end
end Lw
end
section
set_option Elab.async false
set_option linter.all false
set_option autoImplicit false
set_option maxRecDepth 100000
set_option maxHeartbeats 2000000
namespace Lw
open PySem PySem.Spec PyProof.Rows L2 Lv
local macro_rules
  | `(tactic| left) => `(tactic| first
    | (with_reducible refine ws_seq ?_) | (with_reducible refine ws_set ?_) | (with_reducible refine ws_expr ?_) | (with_reducible refine ws_ret ?_) | (with_reducible refine ws_retN ?_) | (with_reducible refine ws_if ?_) | (with_reducible refine ws_next ?_) | (with_reducible refine ws_asg ?_) | (with_reducible refine ws_setIx ?_) | (with_reducible refine ws_for ?_)
    | ((with_reducible refine thenS_nx ?_); try simp only [env0, List.map_cons, List.map_nil, List.length_cons, List.length_nil, Nat.reduceAdd, Nat.reduceSub, List.replicate, List.cons_append, List.nil_append, List.set_cons_succ, List.set_cons_zero])
    | (with_reducible refine thenS_rt ?_) | (with_reducible refine endG_nx ?_) | (with_reducible refine endG_rt ?_) | (with_reducible refine turnS_nx ?_) | (with_reducible refine turnS_rt ?_)
    | (with_reducible refine we_int ?_) | (with_reducible refine we_str ?_) | (with_reducible refine we_bool ?_) | (with_reducible refine we_non ?_) | (with_reducible refine we_op ?_) | (with_reducible refine we_op1 ?_) | (with_reducible refine we_fn ?_) | (with_reducible refine we_call ?_) | (with_reducible refine we_not ?_) | (with_reducible refine we_and ?_) | (with_reducible refine we_or ?_) | (with_reducible refine we_ifx ?_)
    | (with_reducible refine we_ch2 ?_) | (with_reducible refine we_ch3 ?_) | (with_reducible refine we_sl ?_) | (with_reducible refine wa_nil ?_) | (with_reducible refine wa_cons ?_) | (with_reducible refine wp_none ?_) | (with_reducible refine wp_some ?_) | (with_reducible refine wb_intro ?_) | (with_reducible refine ite_t ?_) | (with_reducible refine ite_f ?_) | (with_reducible refine ite_nt ?_) | (with_reducible refine ite_nf ?_)
    | (with_reducible refine we_lc ?_) | (with_reducible refine we_lcN ?_) | (with_reducible refine we_make ?_) | (with_reducible refine we_disp ?_) | (with_reducible refine wk_nil ?_) | (with_reducible refine wk_cons ?_) | (with_reducible refine ws_fld ?_) | (with_reducible refine we_fld ?_) | (with_reducible refine we_meth ?_) | (with_reducible refine we_dic0 ?_)
    | (with_reducible refine we_join ?_)
    | (with_reducible refine we_lm ?_)
    | ((with_reducible apply we_var); exact rfl)
    | (with_reducible refine wg_addI ?_) | (with_reducible refine wg_sub ?_) | (with_reducible refine wg_lt ?_) | (with_reducible refine wg_le ?_) | (with_reducible refine wg_gt ?_) | (with_reducible refine wg_ge ?_) | (with_reducible refine wg_eqI ?_) | (with_reducible refine wg_neI ?_)
    | (with_reducible refine wg_lenL ?_) | (with_reducible refine wg_lenT ?_) | (with_reducible refine wg_intI ?_) | (with_reducible refine wg_intB ?_) | (with_reducible refine wg_min2 ?_) | (with_reducible refine wg_max2 ?_) | (with_reducible refine wg_neg ?_)
    | (with_reducible refine wg_isN ?_) | (with_reducible refine wg_isNot ?_) | (with_reducible refine wg_tupleT ?_) | (with_reducible refine wg_listL ?_) | (with_reducible refine wg_listT ?_) | (with_reducible refine wg_slL ?_) | (with_reducible refine wg_slT ?_)
    | (with_reducible refine wg_mod (by decide) ?_) | (with_reducible refine wg_div (by decide) ?_)
    | ((with_reducible apply wg_lst); exact Nat.le_of_ble_eq_true rfl; exact rfl) | ((with_reducible apply wg_tup); exact Nat.le_of_ble_eq_true rfl; exact rfl) | ((with_reducible apply wg_lstN); exact Nat.le_of_ble_eq_true rfl)
    | ((with_reducible apply wg_ixR); exact rfl; exact rfl) | ((with_reducible apply wg_ixL); exact rfl) | ((with_reducible apply wg_ixT); exact rfl) | ((with_reducible apply wg_ixRT); exact rfl; exact rfl)
    | ((with_reducible apply fset_lst); exact rfl; exact rfl; try simp only [Int.reduceToNat, List.set_cons_succ, List.set_cons_zero])
    | (with_reducible refine ex_str ?_) | (with_reducible refine ex_int ?_) | ((with_reducible apply ex_lm); exact rfl)
    | (with_reducible refine ex_seqLd ?_) | (with_reducible refine ex_seqTd ?_) | (with_reducible refine ex_seqSd ?_) | (with_reducible refine ex_name ?_) | ((with_reducible apply ex_atup); exact rfl)
    | ((with_reducible apply ex_rng1); exact rg_ok (by omega) (by omega)) | ((with_reducible apply ex_rng2); exact rg_ok (by omega) (by omega); exact rg_ok (by omega) (by omega))
    | (with_reducible exact ⟨rfl, rfl⟩) | (with_reducible refine and_eq ?_)  | (with_reducible assumption) )
local macro_rules
  | `(tactic| left) => `(tactic| first
    | (with_reducible refine ws_setIxN ?_) | (with_reducible refine we_dicN ?_) | (with_reducible refine we_dget2 ?_) | (with_reducible refine we_dpop ?_) | (with_reducible refine ws_raise ?_) | (with_reducible refine ws_raiseI ?_) | (with_reducible refine ws_try ?_)
    | (with_reducible refine thenS_er ?_) | (with_reducible refine turnS_er ?_) | (with_reducible refine thenS_ct ?_) | (with_reducible refine thenS_bk ?_) | (with_reducible refine endX_nx ?_) | (with_reducible refine endX_rt ?_) | (with_reducible refine endX_er ?_) | (with_reducible refine clS_rt ?_) | (with_reducible refine clS_nx ?_) | (with_reducible refine clS_er ?_) )
section
variable {z : PgW} {C W : Addr} {a b : Int} {bl : List Blk} {r p k : Nat} {g g' : Int} {ks ks' : List Kp} {S S' : Sto} {is : List Nat} {Q : Val → Sto → Prop}
/-- how a refusal is told -/
def words : List (Str × Str) := [("BadCase", "case"), ("NoBlock", "block"), ("BadLikening", "stretch"), ("Full", "full"), ("Ring", "ring"), ("NoLikening", "number")]
theorem word_of_ok {i : Nat} {fs : Option (List (Str × Val))} {c w : Str} (hi : S[i]? = some (.exc ⟨c, fs⟩)) (hw : (c, w) ∈ words) (q : Q (.d (.str w)) S) : WG (g__law_word_of [.ref i] S) Q := by
  refine wg_cut ?_
  unfold b__law_word_of
  simp only [env0, List.map_cons, List.map_nil, List.length_cons, List.length_nil, Nat.reduceAdd, Nat.reduceSub, List.replicate, List.cons_append, List.nil_append]
  simp only [words, List.mem_cons, List.not_mem_nil, or_false, Prod.mk.injEq] at hw
  rcases hw with ⟨rfl, rfl⟩ | ⟨rfl, rfl⟩ | ⟨rfl, rfl⟩ | ⟨rfl, rfl⟩ | ⟨rfl, rfl⟩ | ⟨rfl, rfl⟩
  · refine ws_seq (ws_set (we_fn (wa_cons (we_op1 (we_var rfl (wg_isX (b := true) hi rfl (wa_cons (we_op1 (we_var rfl (wg_isX (b := false) hi rfl (wa_cons (we_op1 (we_var rfl (wg_isX (b := false) hi rfl (wa_cons (we_op1 (we_var rfl (wg_isX (b := false) hi rfl (wa_nil (wg_lst (ps := [.bool true, .bool false, .bool false, .bool false]) (Nat.le_of_ble_eq_true rfl) rfl (thenS_nx ?_)))))))))))))))))))))
    simp only [List.set_cons_succ, List.set_cons_zero]
    refine ws_seq (ws_set (we_op (we_var rfl (we_fn (wa_cons (we_op1 (we_var rfl (wg_isX (b := false) hi rfl (wa_cons (we_op1 (we_var rfl (wg_isX (b := false) hi rfl (wa_cons (we_op1 (we_var rfl (wg_isX (b := false) hi rfl (wa_nil (wg_lst (ps := [.bool false, .bool false, .bool false]) (Nat.le_of_ble_eq_true rfl) rfl (wg_addL (Nat.le_of_ble_eq_true rfl) (thenS_nx ?_))))))))))))))))))))
    simp only [List.set_cons_succ, List.set_cons_zero, List.cons_append, List.nil_append]
    refine ws_seq (ws_if (we_or (we_not (we_op1 (we_var rfl (wg_isX (b := true) hi rfl (wb_intro (wb_intro (ite_f ?_)))))))))
    refine we_op (we_countB (we_var rfl ⟨[true, false, false, false, false, false, false], rfl, we_bool ⟨true, rfl, we_int (wg_neI (wb_intro (ite_f (ws_next (thenS_nx ?_)))))⟩⟩))
    refine ws_ret (we_op ?_)
    refine we_fn (wa_cons (we_str (wa_cons (we_str (wa_cons (we_str (wa_cons (we_str (wa_cons (we_str (wa_cons (we_str (wa_cons (we_str (wa_nil ?_)))))))))))))))
    refine wg_lst (ps := [.str "case", .str "block", .str "stretch", .str "full", .str "ring", .str "number", .str "text"]) (Nat.le_of_ble_eq_true rfl) rfl ?_
    exact we_indexB (we_var rfl ⟨[true, false, false, false, false, false, false], rfl, we_bool ⟨true, 0, rfl, rfl, wg_ixL (p := .str "case") rfl (endG_rt (fin_same0 q))⟩⟩)
  · refine ws_seq (ws_set (we_fn (wa_cons (we_op1 (we_var rfl (wg_isX (b := false) hi rfl (wa_cons (we_op1 (we_var rfl (wg_isX (b := true) hi rfl (wa_cons (we_op1 (we_var rfl (wg_isX (b := false) hi rfl (wa_cons (we_op1 (we_var rfl (wg_isX (b := false) hi rfl (wa_nil (wg_lst (ps := [.bool false, .bool true, .bool false, .bool false]) (Nat.le_of_ble_eq_true rfl) rfl (thenS_nx ?_)))))))))))))))))))))
    simp only [List.set_cons_succ, List.set_cons_zero]
    refine ws_seq (ws_set (we_op (we_var rfl (we_fn (wa_cons (we_op1 (we_var rfl (wg_isX (b := false) hi rfl (wa_cons (we_op1 (we_var rfl (wg_isX (b := false) hi rfl (wa_cons (we_op1 (we_var rfl (wg_isX (b := false) hi rfl (wa_nil (wg_lst (ps := [.bool false, .bool false, .bool false]) (Nat.le_of_ble_eq_true rfl) rfl (wg_addL (Nat.le_of_ble_eq_true rfl) (thenS_nx ?_))))))))))))))))))))
    simp only [List.set_cons_succ, List.set_cons_zero, List.cons_append, List.nil_append]
    refine ws_seq (ws_if (we_or (we_not (we_op1 (we_var rfl (wg_isX (b := true) hi rfl (wb_intro (wb_intro (ite_f ?_)))))))))
    refine we_op (we_countB (we_var rfl ⟨[false, true, false, false, false, false, false], rfl, we_bool ⟨true, rfl, we_int (wg_neI (wb_intro (ite_f (ws_next (thenS_nx ?_)))))⟩⟩))
    refine ws_ret (we_op ?_)
    refine we_fn (wa_cons (we_str (wa_cons (we_str (wa_cons (we_str (wa_cons (we_str (wa_cons (we_str (wa_cons (we_str (wa_cons (we_str (wa_nil ?_)))))))))))))))
    refine wg_lst (ps := [.str "case", .str "block", .str "stretch", .str "full", .str "ring", .str "number", .str "text"]) (Nat.le_of_ble_eq_true rfl) rfl ?_
    exact we_indexB (we_var rfl ⟨[false, true, false, false, false, false, false], rfl, we_bool ⟨true, 1, rfl, rfl, wg_ixL (p := .str "block") rfl (endG_rt (fin_same0 q))⟩⟩)
  · refine ws_seq (ws_set (we_fn (wa_cons (we_op1 (we_var rfl (wg_isX (b := false) hi rfl (wa_cons (we_op1 (we_var rfl (wg_isX (b := false) hi rfl (wa_cons (we_op1 (we_var rfl (wg_isX (b := true) hi rfl (wa_cons (we_op1 (we_var rfl (wg_isX (b := false) hi rfl (wa_nil (wg_lst (ps := [.bool false, .bool false, .bool true, .bool false]) (Nat.le_of_ble_eq_true rfl) rfl (thenS_nx ?_)))))))))))))))))))))
    simp only [List.set_cons_succ, List.set_cons_zero]
    refine ws_seq (ws_set (we_op (we_var rfl (we_fn (wa_cons (we_op1 (we_var rfl (wg_isX (b := false) hi rfl (wa_cons (we_op1 (we_var rfl (wg_isX (b := false) hi rfl (wa_cons (we_op1 (we_var rfl (wg_isX (b := false) hi rfl (wa_nil (wg_lst (ps := [.bool false, .bool false, .bool false]) (Nat.le_of_ble_eq_true rfl) rfl (wg_addL (Nat.le_of_ble_eq_true rfl) (thenS_nx ?_))))))))))))))))))))
    simp only [List.set_cons_succ, List.set_cons_zero, List.cons_append, List.nil_append]
    refine ws_seq (ws_if (we_or (we_not (we_op1 (we_var rfl (wg_isX (b := true) hi rfl (wb_intro (wb_intro (ite_f ?_)))))))))
    refine we_op (we_countB (we_var rfl ⟨[false, false, true, false, false, false, false], rfl, we_bool ⟨true, rfl, we_int (wg_neI (wb_intro (ite_f (ws_next (thenS_nx ?_)))))⟩⟩))
    refine ws_ret (we_op ?_)
    refine we_fn (wa_cons (we_str (wa_cons (we_str (wa_cons (we_str (wa_cons (we_str (wa_cons (we_str (wa_cons (we_str (wa_cons (we_str (wa_nil ?_)))))))))))))))
    refine wg_lst (ps := [.str "case", .str "block", .str "stretch", .str "full", .str "ring", .str "number", .str "text"]) (Nat.le_of_ble_eq_true rfl) rfl ?_
    exact we_indexB (we_var rfl ⟨[false, false, true, false, false, false, false], rfl, we_bool ⟨true, 2, rfl, rfl, wg_ixL (p := .str "stretch") rfl (endG_rt (fin_same0 q))⟩⟩)
  · refine ws_seq (ws_set (we_fn (wa_cons (we_op1 (we_var rfl (wg_isX (b := false) hi rfl (wa_cons (we_op1 (we_var rfl (wg_isX (b := false) hi rfl (wa_cons (we_op1 (we_var rfl (wg_isX (b := false) hi rfl (wa_cons (we_op1 (we_var rfl (wg_isX (b := true) hi rfl (wa_nil (wg_lst (ps := [.bool false, .bool false, .bool false, .bool true]) (Nat.le_of_ble_eq_true rfl) rfl (thenS_nx ?_)))))))))))))))))))))
    simp only [List.set_cons_succ, List.set_cons_zero]
    refine ws_seq (ws_set (we_op (we_var rfl (we_fn (wa_cons (we_op1 (we_var rfl (wg_isX (b := false) hi rfl (wa_cons (we_op1 (we_var rfl (wg_isX (b := false) hi rfl (wa_cons (we_op1 (we_var rfl (wg_isX (b := false) hi rfl (wa_nil (wg_lst (ps := [.bool false, .bool false, .bool false]) (Nat.le_of_ble_eq_true rfl) rfl (wg_addL (Nat.le_of_ble_eq_true rfl) (thenS_nx ?_))))))))))))))))))))
    simp only [List.set_cons_succ, List.set_cons_zero, List.cons_append, List.nil_append]
    refine ws_seq (ws_if (we_or (we_not (we_op1 (we_var rfl (wg_isX (b := true) hi rfl (wb_intro (wb_intro (ite_f ?_)))))))))
    refine we_op (we_countB (we_var rfl ⟨[false, false, false, true, false, false, false], rfl, we_bool ⟨true, rfl, we_int (wg_neI (wb_intro (ite_f (ws_next (thenS_nx ?_)))))⟩⟩))
    refine ws_ret (we_op ?_)
    refine we_fn (wa_cons (we_str (wa_cons (we_str (wa_cons (we_str (wa_cons (we_str (wa_cons (we_str (wa_cons (we_str (wa_cons (we_str (wa_nil ?_)))))))))))))))
    refine wg_lst (ps := [.str "case", .str "block", .str "stretch", .str "full", .str "ring", .str "number", .str "text"]) (Nat.le_of_ble_eq_true rfl) rfl ?_
    exact we_indexB (we_var rfl ⟨[false, false, false, true, false, false, false], rfl, we_bool ⟨true, 3, rfl, rfl, wg_ixL (p := .str "full") rfl (endG_rt (fin_same0 q))⟩⟩)
  · refine ws_seq (ws_set (we_fn (wa_cons (we_op1 (we_var rfl (wg_isX (b := false) hi rfl (wa_cons (we_op1 (we_var rfl (wg_isX (b := false) hi rfl (wa_cons (we_op1 (we_var rfl (wg_isX (b := false) hi rfl (wa_cons (we_op1 (we_var rfl (wg_isX (b := false) hi rfl (wa_nil (wg_lst (ps := [.bool false, .bool false, .bool false, .bool false]) (Nat.le_of_ble_eq_true rfl) rfl (thenS_nx ?_)))))))))))))))))))))
    simp only [List.set_cons_succ, List.set_cons_zero]
    refine ws_seq (ws_set (we_op (we_var rfl (we_fn (wa_cons (we_op1 (we_var rfl (wg_isX (b := true) hi rfl (wa_cons (we_op1 (we_var rfl (wg_isX (b := false) hi rfl (wa_cons (we_op1 (we_var rfl (wg_isX (b := false) hi rfl (wa_nil (wg_lst (ps := [.bool true, .bool false, .bool false]) (Nat.le_of_ble_eq_true rfl) rfl (wg_addL (Nat.le_of_ble_eq_true rfl) (thenS_nx ?_))))))))))))))))))))
    simp only [List.set_cons_succ, List.set_cons_zero, List.cons_append, List.nil_append]
    refine ws_seq (ws_if (we_or (we_not (we_op1 (we_var rfl (wg_isX (b := true) hi rfl (wb_intro (wb_intro (ite_f ?_)))))))))
    refine we_op (we_countB (we_var rfl ⟨[false, false, false, false, true, false, false], rfl, we_bool ⟨true, rfl, we_int (wg_neI (wb_intro (ite_f (ws_next (thenS_nx ?_)))))⟩⟩))
    refine ws_ret (we_op ?_)
    refine we_fn (wa_cons (we_str (wa_cons (we_str (wa_cons (we_str (wa_cons (we_str (wa_cons (we_str (wa_cons (we_str (wa_cons (we_str (wa_nil ?_)))))))))))))))
    refine wg_lst (ps := [.str "case", .str "block", .str "stretch", .str "full", .str "ring", .str "number", .str "text"]) (Nat.le_of_ble_eq_true rfl) rfl ?_
    exact we_indexB (we_var rfl ⟨[false, false, false, false, true, false, false], rfl, we_bool ⟨true, 4, rfl, rfl, wg_ixL (p := .str "ring") rfl (endG_rt (fin_same0 q))⟩⟩)
  · refine ws_seq (ws_set (we_fn (wa_cons (we_op1 (we_var rfl (wg_isX (b := false) hi rfl (wa_cons (we_op1 (we_var rfl (wg_isX (b := false) hi rfl (wa_cons (we_op1 (we_var rfl (wg_isX (b := false) hi rfl (wa_cons (we_op1 (we_var rfl (wg_isX (b := false) hi rfl (wa_nil (wg_lst (ps := [.bool false, .bool false, .bool false, .bool false]) (Nat.le_of_ble_eq_true rfl) rfl (thenS_nx ?_)))))))))))))))))))))
    simp only [List.set_cons_succ, List.set_cons_zero]
    refine ws_seq (ws_set (we_op (we_var rfl (we_fn (wa_cons (we_op1 (we_var rfl (wg_isX (b := false) hi rfl (wa_cons (we_op1 (we_var rfl (wg_isX (b := true) hi rfl (wa_cons (we_op1 (we_var rfl (wg_isX (b := false) hi rfl (wa_nil (wg_lst (ps := [.bool false, .bool true, .bool false]) (Nat.le_of_ble_eq_true rfl) rfl (wg_addL (Nat.le_of_ble_eq_true rfl) (thenS_nx ?_))))))))))))))))))))
    simp only [List.set_cons_succ, List.set_cons_zero, List.cons_append, List.nil_append]
    refine ws_seq (ws_if (we_or (we_not (we_op1 (we_var rfl (wg_isX (b := true) hi rfl (wb_intro (wb_intro (ite_f ?_)))))))))
    refine we_op (we_countB (we_var rfl ⟨[false, false, false, false, false, true, false], rfl, we_bool ⟨true, rfl, we_int (wg_neI (wb_intro (ite_f (ws_next (thenS_nx ?_)))))⟩⟩))
    refine ws_ret (we_op ?_)
    refine we_fn (wa_cons (we_str (wa_cons (we_str (wa_cons (we_str (wa_cons (we_str (wa_cons (we_str (wa_cons (we_str (wa_cons (we_str (wa_nil ?_)))))))))))))))
    refine wg_lst (ps := [.str "case", .str "block", .str "stretch", .str "full", .str "ring", .str "number", .str "text"]) (Nat.le_of_ble_eq_true rfl) rfl ?_
    exact we_indexB (we_var rfl ⟨[false, false, false, false, false, true, false], rfl, we_bool ⟨true, 5, rfl, rfl, wg_ixL (p := .str "number") rfl (endG_rt (fin_same0 q))⟩⟩)

theorem wex_make {C : Addr} {g : FnX} {ms : List M} {e : Ev} {Er : Xn → Sto → Prop} (h : WA e ms S fun xs S1 => WEX Er (g (.ref S1.length :: xs) (S1 ++ [.ins C []])) fun z S' => z = .d .none ∧ Q (.ref S1.length) S') : WEX Er (mMakeX C g ms e S) Q := by
  refine wex_args (WA.mono (Q := fun _ _ => True) (Q' := fun _ _ => True) h fun xs S1 q => ?_)
  obtain ⟨r, S', e1, q⟩ := q
  simp only [e1]
  cases r with
  | ok z =>
    obtain ⟨rfl, q⟩ := q
    exact wex_ok q
  | er x => exact wex_er q
theorem fin_exc {U : Sto} {w : Str} (q : Q (.d (.str w)) S) : CutOk S (S ++ U) ∧ ∃ y, frzV S.length (S ++ U) (.d (.str w)) = some y ∧ Q y ((S ++ U).take S.length) := fin_same q
/-- what a making tells -/
theorem made_ok {bs : List Raw} (few : bs.length ≤ 1000) (small : ∀ x ∈ bs, x.nm.length ≤ 1000) (hok : ∀ x ∈ bs, ∀ c ∈ x.nm.cps.toList, SeqAt.shaped (.str ⟨#[c]⟩) = true) (q1 : GoodC a b bs → Q (.d (.str "")) S) (q2 : ¬ GoodC a b bs → Q (.d (.str "case")) S) :
    WG (g__law_made C [.d (.tuple [.int a, .int b]), .d (.list (bs.map Raw.pd))] S) Q := by
  refine wg_cut ?_
  unfold b__law_made
  refine ws_seq (ws_tryE (ws_exprX (wex_make (wa_cons (we_var rfl (wa_cons (we_var rfl (wa_nil (init_x few small hok (fun h => ?_) fun h U => ?_)))))))))
  · refine ⟨rfl, clSE_nx (thenS_nx (ws_ret (we_str (endG_rt ?_))))⟩
    exact fin_exc (q1 h)
  · refine clSE_er (ws_clHitE List.mem_cons_self (ws_ret (we_call (wa_cons (we_var rfl (wa_nil (word_of_ok (w := "case") get_fst (by simp [words]) (hideS_rt (thenS_rt (endG_rt ?_))))))))))
    rw [List.append_assoc]
    exact fin_exc (q2 h)
end
end Lw
end
section
set_option Elab.async false
set_option linter.all false
set_option autoImplicit false
set_option maxRecDepth 100000
set_option maxHeartbeats 2000000
namespace Lw
open PySem PySem.Spec PyProof.Rows L2 Lv
local macro_rules
  | `(tactic| left) => `(tactic| first
    | (with_reducible refine ws_seq ?_) | (with_reducible refine ws_set ?_) | (with_reducible refine ws_expr ?_) | (with_reducible refine ws_ret ?_) | (with_reducible refine ws_retN ?_) | (with_reducible refine ws_if ?_) | (with_reducible refine ws_next ?_) | (with_reducible refine ws_asg ?_) | (with_reducible refine ws_setIx ?_) | (with_reducible refine ws_for ?_)
    | ((with_reducible refine thenS_nx ?_); try simp only [env0, List.map_cons, List.map_nil, List.length_cons, List.length_nil, Nat.reduceAdd, Nat.reduceSub, List.replicate, List.cons_append, List.nil_append, List.set_cons_succ, List.set_cons_zero])
    | (with_reducible refine thenS_rt ?_) | (with_reducible refine endG_nx ?_) | (with_reducible refine endG_rt ?_) | (with_reducible refine turnS_nx ?_) | (with_reducible refine turnS_rt ?_)
    | (with_reducible refine we_int ?_) | (with_reducible refine we_str ?_) | (with_reducible refine we_bool ?_) | (with_reducible refine we_non ?_) | (with_reducible refine we_op ?_) | (with_reducible refine we_op1 ?_) | (with_reducible refine we_fn ?_) | (with_reducible refine we_call ?_) | (with_reducible refine we_not ?_) | (with_reducible refine we_and ?_) | (with_reducible refine we_or ?_) | (with_reducible refine we_ifx ?_)
    | (with_reducible refine we_ch2 ?_) | (with_reducible refine we_ch3 ?_) | (with_reducible refine we_sl ?_) | (with_reducible refine wa_nil ?_) | (with_reducible refine wa_cons ?_) | (with_reducible refine wp_none ?_) | (with_reducible refine wp_some ?_) | (with_reducible refine wb_intro ?_) | (with_reducible refine ite_t ?_) | (with_reducible refine ite_f ?_) | (with_reducible refine ite_nt ?_) | (with_reducible refine ite_nf ?_)
    | (with_reducible refine we_lc ?_) | (with_reducible refine we_lcN ?_) | (with_reducible refine we_make ?_) | (with_reducible refine we_disp ?_) | (with_reducible refine wk_nil ?_) | (with_reducible refine wk_cons ?_) | (with_reducible refine ws_fld ?_) | (with_reducible refine we_fld ?_) | (with_reducible refine we_meth ?_) | (with_reducible refine we_dic0 ?_)
    | (with_reducible refine we_join ?_)
    | (with_reducible refine we_lm ?_)
    | ((with_reducible apply we_var); exact rfl)
    | (with_reducible refine wg_addI ?_) | (with_reducible refine wg_sub ?_) | (with_reducible refine wg_lt ?_) | (with_reducible refine wg_le ?_) | (with_reducible refine wg_gt ?_) | (with_reducible refine wg_ge ?_) | (with_reducible refine wg_eqI ?_) | (with_reducible refine wg_neI ?_)
    | (with_reducible refine wg_lenL ?_) | (with_reducible refine wg_lenT ?_) | (with_reducible refine wg_intI ?_) | (with_reducible refine wg_intB ?_) | (with_reducible refine wg_min2 ?_) | (with_reducible refine wg_max2 ?_) | (with_reducible refine wg_neg ?_)
    | (with_reducible refine wg_isN ?_) | (with_reducible refine wg_isNot ?_) | (with_reducible refine wg_tupleT ?_) | (with_reducible refine wg_listL ?_) | (with_reducible refine wg_listT ?_) | (with_reducible refine wg_slL ?_) | (with_reducible refine wg_slT ?_)
    | (with_reducible refine wg_mod (by decide) ?_) | (with_reducible refine wg_div (by decide) ?_)
    | ((with_reducible apply wg_lst); exact Nat.le_of_ble_eq_true rfl; exact rfl) | ((with_reducible apply wg_tup); exact Nat.le_of_ble_eq_true rfl; exact rfl) | ((with_reducible apply wg_lstN); exact Nat.le_of_ble_eq_true rfl)
    | ((with_reducible apply wg_ixR); exact rfl; exact rfl) | ((with_reducible apply wg_ixL); exact rfl) | ((with_reducible apply wg_ixT); exact rfl) | ((with_reducible apply wg_ixRT); exact rfl; exact rfl)
    | ((with_reducible apply fset_lst); exact rfl; exact rfl; try simp only [Int.reduceToNat, List.set_cons_succ, List.set_cons_zero])
    | (with_reducible refine ex_str ?_) | (with_reducible refine ex_int ?_) | ((with_reducible apply ex_lm); exact rfl)
    | (with_reducible refine ex_seqLd ?_) | (with_reducible refine ex_seqTd ?_) | (with_reducible refine ex_seqSd ?_) | (with_reducible refine ex_name ?_) | ((with_reducible apply ex_atup); exact rfl)
    | ((with_reducible apply ex_rng1); exact rg_ok (by omega) (by omega)) | ((with_reducible apply ex_rng2); exact rg_ok (by omega) (by omega); exact rg_ok (by omega) (by omega))
    | (with_reducible exact ⟨rfl, rfl⟩) | (with_reducible refine and_eq ?_)  | (with_reducible assumption) )
local macro_rules
  | `(tactic| left) => `(tactic| first
    | (with_reducible refine ws_setIxN ?_) | (with_reducible refine we_dicN ?_) | (with_reducible refine we_dget2 ?_) | (with_reducible refine we_dpop ?_) | (with_reducible refine ws_raise ?_) | (with_reducible refine ws_raiseI ?_) | (with_reducible refine ws_try ?_)
    | (with_reducible refine thenS_er ?_) | (with_reducible refine turnS_er ?_) | (with_reducible refine thenS_ct ?_) | (with_reducible refine thenS_bk ?_) | (with_reducible refine endX_nx ?_) | (with_reducible refine endX_rt ?_) | (with_reducible refine endX_er ?_) | (with_reducible refine clS_rt ?_) | (with_reducible refine clS_nx ?_) | (with_reducible refine clS_er ?_) )
section
variable {z : PgW} {C W : Addr} {a b : Int} {bl : List Blk} {r p k : Nat} {g g' : Int} {ks ks' : List Kp} {S S' : Sto} {is : List Nat} {Q : Val → Sto → Prop}
theorem shaped_word {w : Str} (h : PyData.strOk w = true) : SeqAt.shaped (.str w) = true := shaped_str h
theorem ne_same {w : Str} (hw : PyData.strOk w = true) (q : Q (.d (.bool false)) S) : WG (fNe (.d (.str w)) (.d (.str w)) S) Q := wg_neD (b := true) (shaped_str hw) (shaped_str hw) (eqv_self (shaped_str hw)) q
theorem eq_same {w : Str} (hw : PyData.strOk w = true) (q : Q (.d (.bool true)) S) : WG (fEq (.d (.str w)) (.d (.str w)) S) Q := wg_eqD (b := true) (shaped_str hw) (shaped_str hw) (eqv_self (shaped_str hw)) q
theorem fin_frU {S' U : Sto} {p : PyData} (h : Fr is S S') (b : ∀ i ∈ is, ∀ o, S'[i]? = some o → o.below S.length) (q : Q (.d p) S') : CutOk S (S' ++ U) ∧ ∃ y, frzV S.length (S' ++ U) (.d p) = some y ∧ Q y ((S' ++ U).take S.length) := by
  refine ⟨fun i o hi hl => ?_, _, rfl, ?_⟩
  · have hl' : i < S'.length := by rw [h.1]; exact hl
    rw [List.getElem?_append_left hl'] at hi
    exact h.cut b i o hi hl
  · rw [← h.1, List.take_left' rfl]
    exact q
/-! asked -/
theorem caught {e : Ev} {c w : Str} {fs : Option (List (Str × Val))} {b : MS} (he : e.length = 7) (hw : (c, w) ∈ words) (hm : c ∈ (["NoBlock", "BadLikening", "Full", "Ring", "NoLikening"] : List Str)) (q : Q (.d (.str w)) S) :
    WS (dClausesE [⟨["NoBlock", "BadLikening", "Full", "Ring", "NoLikening"], [], 6, (dRet (mCall g__law_word_of [(mVar 6)]))⟩] ⟨c, fs⟩ e S) (thenS b (endG fun z S' => CutOk S S' ∧ ∃ y, frzV S.length S' z = some y ∧ Q y (S'.take S.length))) := by
  refine ws_clHitE hm (ws_ret (we_call (wa_cons (we_var (by simp [he]) (wa_nil (word_of_ok get_fst hw (hideS_rt (thenS_rt (endG_rt ?_)))))))))
  exact fin_exc q
theorem asked0 {one other w : Str} {lo hi : Int} (ca : CaseOk a b bl) (h : CsS C a b bl r p k g ks S) (ok : KsOk bl ks g) (s1 : PyData.strOk one = true) (s2 : PyData.strOk other = true)
    (hw : (¬ Ends bl one other ∧ w = "block") ∨ (Ends bl one other ∧ ¬ Wide lo hi ∧ w = "stretch") ∨ (Ends bl one other ∧ Wide lo hi ∧ ks.length = 30 ∧ w = "full") ∨ (Ends bl one other ∧ Wide lo hi ∧ ks.length ≠ 30 ∧ Bar bl ks one other lo hi ∧ w = "ring")) (q : Q (.d (.str w)) S) :
    WG (g__law_asked z C W [.ref r, .d (.int 0), .d (.str one), .d (.str other), .d (.int lo), .d (.int hi)] S) Q := by
  refine wg_cut ?_
  unfold b__law_asked
  refine ws_seq (ws_tryE (ws_if (we_op (we_var rfl (we_int (wg_eqI (wb_intro (ite_t ?_))))))))
  refine ws_exprX (wex_meth (we_var rfl (ex_meth h.cs rfl (wa_cons (we_var rfl (wa_cons (we_var rfl (wa_cons (we_var rfl (wa_cons (we_var rfl (wa_nil (liken_fun ca.ok h ok ca.few ca.nd s1 s2 ?_)))))))))))))
  rcases hw with ⟨h1, rfl⟩ | ⟨h1, h2, rfl⟩ | ⟨h1, h2, h3, rfl⟩ | ⟨h1, h2, h3, h4, rfl⟩
  · exact ⟨fun _ => clSE_er (caught rfl (by simp [words]) (by simp) q), fun y => absurd y h1, fun y => absurd y h1, fun y => absurd y h1, fun y => absurd y h1⟩
  · exact ⟨fun y => absurd h1 y, fun _ _ => clSE_er (caught rfl (by simp [words]) (by simp) q), fun _ y => absurd y h2, fun _ y => absurd y h2, fun _ y => absurd y h2⟩
  · exact ⟨fun y => absurd h1 y, fun _ y => absurd h2 y, fun _ _ _ => clSE_er (caught rfl (by simp [words]) (by simp) q), fun _ _ y => absurd h3 y, fun _ _ y => absurd h3 y⟩
  · exact ⟨fun y => absurd h1 y, fun _ y => absurd h2 y, fun _ _ y => absurd y h3, fun _ _ _ _ pth _ => clSE_er (caught rfl (by simp [words]) (by simp) q), fun _ _ _ y => absurd h4 y⟩
theorem asked1 {one other : Str} {lo hi : Int} (h : CsS C a b bl r p k g ks S) (hn : lo ∉ ks.map (·.num)) (q : Q (.d (.str "number")) S) :
    WG (g__law_asked z C W [.ref r, .d (.int 1), .d (.str one), .d (.str other), .d (.int lo), .d (.int hi)] S) Q := by
  refine wg_cut ?_
  unfold b__law_asked
  refine ws_seq (ws_tryE (ws_if (we_op (we_var rfl (we_int (wg_eqI (wb_intro (ite_f (ws_if (we_op (we_var rfl (we_int (wg_eqI (wb_intro (ite_t ?_)))))))))))))))
  refine ws_exprX (wex_meth (we_var rfl (ex_meth h.cs rfl (wa_cons (we_var rfl (wa_nil (drop_fun h (fun _ => clSE_er (caught rfl (by simp [words]) (by simp) q)) fun y => absurd y hn)))))))
theorem asked2 {one other : Str} {lo hi : Int} (h : CsS C a b bl r p k g ks S) (hn : one ∉ names bl) (q : Q (.d (.str "block")) S) :
    WG (g__law_asked z C W [.ref r, .d (.int 2), .d (.str one), .d (.str other), .d (.int lo), .d (.int hi)] S) Q := by
  refine wg_cut ?_
  unfold b__law_asked
  refine ws_seq (ws_tryE (ws_if (we_op (we_var rfl (we_int (wg_eqI (wb_intro (ite_f (ws_if (we_op (we_var rfl (we_int (wg_eqI (wb_intro (ite_f (ws_if (we_op (we_var rfl (we_int (wg_eqI (wb_intro (ite_t ?_))))))))))))))))))))))
  refine ws_exprX (wex_meth (we_var rfl (ex_meth h.cs rfl (wa_cons (we_var rfl (wa_nil (wx_cut ?_)))))))
  unfold b_Case_off
  refine ws_seq (ws_exprX (wex_meth (we_var rfl (ex_meth h.cs rfl (wa_cons (we_var rfl (wa_nil (need_ok h (fun y => absurd y hn) fun _ => thenS_er (endX_er (fin_sameX0 (clSE_er (caught rfl (by simp [words]) (by simp) q))))))))))))
theorem asked3 {one other : Str} {lo hi : Int} (h : CsS C a b bl r p k g ks S) (hn : one ∉ names bl) (q : Q (.d (.str "block")) S) :
    WG (g__law_asked z C W [.ref r, .d (.int 3), .d (.str one), .d (.str other), .d (.int lo), .d (.int hi)] S) Q := by
  refine wg_cut ?_
  unfold b__law_asked
  refine ws_seq (ws_tryE (ws_if (we_op (we_var rfl (we_int (wg_eqI (wb_intro (ite_f (ws_if (we_op (we_var rfl (we_int (wg_eqI (wb_intro (ite_f (ws_if (we_op (we_var rfl (we_int (wg_eqI (wb_intro (ite_f (ws_if (we_op (we_var rfl (we_int (wg_eqI (wb_intro (ite_t ?_)))))))))))))))))))))))))))))
  refine ws_exprX (wex_meth (we_var rfl (ex_meth h.cs rfl (wa_cons (we_var rfl (wa_nil (wx_cut ?_)))))))
  unfold b_Case_why_most
  refine ws_seq (ws_exprX (wex_meth (we_var rfl (ex_meth h.cs rfl (wa_cons (we_var rfl (wa_nil (need_ok h (fun y => absurd y hn) fun _ => thenS_er (endX_er (fin_sameX0 (clSE_er (caught rfl (by simp [words]) (by simp) q))))))))))))
theorem asked4 {one other : Str} {lo hi : Int} (h : CsS C a b bl r p k g ks S) (hn : one ∉ names bl) (q : Q (.d (.str "block")) S) :
    WG (g__law_asked z C W [.ref r, .d (.int 4), .d (.str one), .d (.str other), .d (.int lo), .d (.int hi)] S) Q := by
  refine wg_cut ?_
  unfold b__law_asked
  refine ws_seq (ws_tryE (ws_if (we_op (we_var rfl (we_int (wg_eqI (wb_intro (ite_f (ws_if (we_op (we_var rfl (we_int (wg_eqI (wb_intro (ite_f (ws_if (we_op (we_var rfl (we_int (wg_eqI (wb_intro (ite_f (ws_if (we_op (we_var rfl (we_int (wg_eqI (wb_intro (ite_f ?_)))))))))))))))))))))))))))))
  refine ws_exprX (wex_meth (we_var rfl (ex_meth h.cs rfl (wa_cons (we_var rfl (wa_nil (wx_cut ?_)))))))
  unfold b_Case_why_least
  refine ws_seq (ws_exprX (wex_meth (we_var rfl (ex_meth h.cs rfl (wa_cons (we_var rfl (wa_nil (need_ok h (fun y => absurd y hn) fun _ => thenS_er (endX_er (fin_sameX0 (clSE_er (caught rfl (by simp [words]) (by simp) q))))))))))))
end
end Lw
end
section
set_option Elab.async false
set_option linter.all false
set_option autoImplicit false
set_option maxRecDepth 100000
set_option maxHeartbeats 2000000
namespace Lw
open PySem PySem.Spec PyProof.Rows L2 Lv
local macro_rules
  | `(tactic| left) => `(tactic| first
    | (with_reducible refine ws_seq ?_) | (with_reducible refine ws_set ?_) | (with_reducible refine ws_expr ?_) | (with_reducible refine ws_ret ?_) | (with_reducible refine ws_retN ?_) | (with_reducible refine ws_if ?_) | (with_reducible refine ws_next ?_) | (with_reducible refine ws_asg ?_) | (with_reducible refine ws_setIx ?_) | (with_reducible refine ws_for ?_)
    | ((with_reducible refine thenS_nx ?_); try simp only [env0, List.map_cons, List.map_nil, List.length_cons, List.length_nil, Nat.reduceAdd, Nat.reduceSub, List.replicate, List.cons_append, List.nil_append, List.set_cons_succ, List.set_cons_zero])
    | (with_reducible refine thenS_rt ?_) | (with_reducible refine endG_nx ?_) | (with_reducible refine endG_rt ?_) | (with_reducible refine turnS_nx ?_) | (with_reducible refine turnS_rt ?_)
    | (with_reducible refine we_int ?_) | (with_reducible refine we_str ?_) | (with_reducible refine we_bool ?_) | (with_reducible refine we_non ?_) | (with_reducible refine we_op ?_) | (with_reducible refine we_op1 ?_) | (with_reducible refine we_fn ?_) | (with_reducible refine we_call ?_) | (with_reducible refine we_not ?_) | (with_reducible refine we_and ?_) | (with_reducible refine we_or ?_) | (with_reducible refine we_ifx ?_)
    | (with_reducible refine we_ch2 ?_) | (with_reducible refine we_ch3 ?_) | (with_reducible refine we_sl ?_) | (with_reducible refine wa_nil ?_) | (with_reducible refine wa_cons ?_) | (with_reducible refine wp_none ?_) | (with_reducible refine wp_some ?_) | (with_reducible refine wb_intro ?_) | (with_reducible refine ite_t ?_) | (with_reducible refine ite_f ?_) | (with_reducible refine ite_nt ?_) | (with_reducible refine ite_nf ?_)
    | (with_reducible refine we_lc ?_) | (with_reducible refine we_lcN ?_) | (with_reducible refine we_make ?_) | (with_reducible refine we_disp ?_) | (with_reducible refine wk_nil ?_) | (with_reducible refine wk_cons ?_) | (with_reducible refine ws_fld ?_) | (with_reducible refine we_fld ?_) | (with_reducible refine we_meth ?_) | (with_reducible refine we_dic0 ?_)
    | (with_reducible refine we_join ?_)
    | (with_reducible refine we_lm ?_)
    | ((with_reducible apply we_var); exact rfl)
    | (with_reducible refine wg_addI ?_) | (with_reducible refine wg_sub ?_) | (with_reducible refine wg_lt ?_) | (with_reducible refine wg_le ?_) | (with_reducible refine wg_gt ?_) | (with_reducible refine wg_ge ?_) | (with_reducible refine wg_eqI ?_) | (with_reducible refine wg_neI ?_)
    | (with_reducible refine wg_lenL ?_) | (with_reducible refine wg_lenT ?_) | (with_reducible refine wg_intI ?_) | (with_reducible refine wg_intB ?_) | (with_reducible refine wg_min2 ?_) | (with_reducible refine wg_max2 ?_) | (with_reducible refine wg_neg ?_)
    | (with_reducible refine wg_isN ?_) | (with_reducible refine wg_isNot ?_) | (with_reducible refine wg_tupleT ?_) | (with_reducible refine wg_listL ?_) | (with_reducible refine wg_listT ?_) | (with_reducible refine wg_slL ?_) | (with_reducible refine wg_slT ?_)
    | (with_reducible refine wg_mod (by decide) ?_) | (with_reducible refine wg_div (by decide) ?_)
    | ((with_reducible apply wg_lst); exact Nat.le_of_ble_eq_true rfl; exact rfl) | ((with_reducible apply wg_tup); exact Nat.le_of_ble_eq_true rfl; exact rfl) | ((with_reducible apply wg_lstN); exact Nat.le_of_ble_eq_true rfl)
    | ((with_reducible apply wg_ixR); exact rfl; exact rfl) | ((with_reducible apply wg_ixL); exact rfl) | ((with_reducible apply wg_ixT); exact rfl) | ((with_reducible apply wg_ixRT); exact rfl; exact rfl)
    | ((with_reducible apply fset_lst); exact rfl; exact rfl; try simp only [Int.reduceToNat, List.set_cons_succ, List.set_cons_zero])
    | (with_reducible refine ex_str ?_) | (with_reducible refine ex_int ?_) | ((with_reducible apply ex_lm); exact rfl)
    | (with_reducible refine ex_seqLd ?_) | (with_reducible refine ex_seqTd ?_) | (with_reducible refine ex_seqSd ?_) | (with_reducible refine ex_name ?_) | ((with_reducible apply ex_atup); exact rfl)
    | ((with_reducible apply ex_rng1); exact rg_ok (by omega) (by omega)) | ((with_reducible apply ex_rng2); exact rg_ok (by omega) (by omega); exact rg_ok (by omega) (by omega))
    | (with_reducible exact ⟨rfl, rfl⟩) | (with_reducible refine and_eq ?_)  | (with_reducible assumption) )
local macro_rules
  | `(tactic| left) => `(tactic| first
    | (with_reducible refine ws_setIxN ?_) | (with_reducible refine we_dicN ?_) | (with_reducible refine we_dget2 ?_) | (with_reducible refine we_dpop ?_) | (with_reducible refine ws_raise ?_) | (with_reducible refine ws_raiseI ?_) | (with_reducible refine ws_try ?_)
    | (with_reducible refine thenS_er ?_) | (with_reducible refine turnS_er ?_) | (with_reducible refine thenS_ct ?_) | (with_reducible refine thenS_bk ?_) | (with_reducible refine endX_nx ?_) | (with_reducible refine endX_rt ?_) | (with_reducible refine endX_er ?_) | (with_reducible refine clS_rt ?_) | (with_reducible refine clS_nx ?_) | (with_reducible refine clS_er ?_) )
section
variable {z : PgW} {C W : Addr} {a b : Int} {bl : List Blk} {r p k : Nat} {g g' : Int} {ks ks' : List Kp} {S S' : Sto} {is : List Nat} {Q : Val → Sto → Prop}
/-! cases that are none -/
def okS (s : Str) : Bool := decide (s.length ≤ 1000) && s.cps.toList.all fun c => SeqAt.shaped (.str ⟨#[c]⟩)
def okR (bs : List Raw) : Bool := decide (bs.length ≤ 1000) && bs.all fun x => okS x.nm
theorem made_good {bs : List Raw} (h : okR bs = true) (hg : GoodC a b bs) (q : Q (.d (.str "")) S) : WG (g__law_made C [.d (.tuple [.int a, .int b]), .d (.list (bs.map Raw.pd))] S) Q := by
  simp only [okR, okS, Bool.and_eq_true, decide_eq_true_eq, List.all_eq_true] at h
  exact made_ok h.1 (fun x hx => (h.2 x hx).1) (fun x hx c hc => (h.2 x hx).2 c hc) (fun _ => q) fun y => absurd hg y
theorem made_bad {bs : List Raw} (h : okR bs = true) (hg : ¬ GoodC a b bs) (q : Q (.d (.str "case")) S) : WG (g__law_made C [.d (.tuple [.int a, .int b]), .d (.list (bs.map Raw.pd))] S) Q := by
  simp only [okR, okS, Bool.and_eq_true, decide_eq_true_eq, List.all_eq_true] at h
  exact made_ok h.1 (fun x hx => (h.2 x hx).1) (fun x hx c hc => (h.2 x hx).2 c hc) (fun y => absurd y hg) fun _ => q
def goods : List Raw := [⟨"a", 1, -99, 99⟩, ⟨"abcdefgh", 9999, 0, 0⟩]
def bads (far : Int) : List Raw := [⟨"", 5, 0, 0⟩, ⟨"ninesigns", 5, 0, 0⟩, ⟨"Ab", 5, 0, 0⟩, ⟨"a", 5, 0, 0⟩, ⟨"b", 0, 0, 0⟩, ⟨"b", 0 - far, 0, 0⟩, ⟨"b", 10000 + far, 0, 0⟩, ⟨"b", 5, 1, 0⟩, ⟨"b", 5, -100 - far, 0⟩, ⟨"b1", 5, 0, 0⟩, ⟨"b", 5, 0, 100 + far⟩]
theorem bad_one {x : Raw} (h : isNm x.nm = false ∨ x.nm ∈ goods.map (·.nm) ∨ ¬ x.num) : ¬ GoodC a b (goods ++ [x]) := fun y => by
  have y := y.2.2
  rw [goodB_app] at y
  obtain ⟨⟨y1, y2⟩, y3, _⟩ := y.2
  rcases h with h | h | h
  · rw [h] at y1
    cases y1
  · exact y2 h
  · exact h y3
theorem bads_bad {far : Int} (h0 : 0 ≤ far) : ∀ x ∈ bads far, ¬ GoodC a b (goods ++ [x]) ∧ okR (goods ++ [x]) = true := by
  have k1 : ∀ s ∈ (["", "ninesigns", "Ab", "a", "b", "b1"] : List Str), okR (goods ++ [⟨s, 0, 0, 0⟩]) = true := by decide +kernel
  have k2 : ∀ x : Raw, okR (goods ++ [x]) = okR (goods ++ [⟨x.nm, 0, 0, 0⟩]) := fun x => rfl
  intro x hx
  rw [k2]
  simp only [bads, List.mem_cons, List.not_mem_nil, or_false] at hx
  rcases hx with rfl | rfl | rfl | rfl | rfl | rfl | rfl | rfl | rfl | rfl | rfl
  · exact ⟨bad_one (.inl (by decide +kernel)), k1 _ (by simp)⟩
  · exact ⟨bad_one (.inl (by decide +kernel)), k1 _ (by simp)⟩
  · exact ⟨bad_one (.inl (by decide +kernel)), k1 _ (by simp)⟩
  · exact ⟨bad_one (.inr (.inl (by simp [goods]))), k1 _ (by simp)⟩
  · exact ⟨bad_one (.inr (.inr fun y => by have := y.1; dsimp only at this; omega)), k1 _ (by simp)⟩
  · exact ⟨bad_one (.inr (.inr fun y => by have := y.1; dsimp only at this; omega)), k1 _ (by simp)⟩
  · exact ⟨bad_one (.inr (.inr fun y => by have := y.2.1; dsimp only at this; omega)), k1 _ (by simp)⟩
  · exact ⟨bad_one (.inr (.inr fun y => by have := y.2.2.2.1; dsimp only at this; omega)), k1 _ (by simp)⟩
  · exact ⟨bad_one (.inr (.inr fun y => by have := y.2.2.1; dsimp only at this; omega)), k1 _ (by simp)⟩
  · exact ⟨bad_one (.inl (by decide +kernel)), k1 _ (by simp)⟩
  · exact ⟨bad_one (.inr (.inr fun y => by have := y.2.2.2.2; dsimp only at this; omega)), k1 _ (by simp)⟩
def films (far : Int) : List (Int × Int) := [(1, 0), (-1, 3), (0, 10), (0, 10 + far), (-1 - far, 2)]
theorem films_bad {far : Int} (h0 : 0 ≤ far) : ∀ x ∈ films far, ¬ GoodC x.1 x.2 goods := by
  intro x hx y
  have y := y.1
  simp only [films, List.mem_cons, List.not_mem_nil, or_false] at hx
  rcases hx with rfl | rfl | rfl | rfl | rfl <;> dsimp only at y <;> omega
def tenR (j : Nat) : Raw := ⟨⟨#[97 + j]⟩, 5, 0, 0⟩
def ten : List Raw := (List.range 10).map tenR
theorem wg_push {i : Nat} {xs : List Val} {y : Val} (h0 : S[i]? = some (.lst xs)) (hz : xs.length < sizeLine) (h : ∀ S', S'[i]? = some (.lst (xs ++ [y])) → Fr [i] S S' → Q (.d .none) S') : WG (fAppend i xs [y] S) Q := wg_append hz (h _ (get_set h0) (Fr.set (by simp)))
theorem fr_app {S1 U0 S' : Sto} {i : Nat} (h : Fr [i] (S1 ++ U0) S') (hr : S1.length ≤ i) : ∃ U, S' = S1 ++ U := ⟨S'.drop S1.length, by
  have : S'.take S1.length = S1 := List.ext_getElem? fun j => by
    by_cases hj : j < S1.length
    · rw [List.getElem?_take_of_lt hj, h.2 j (by simp; omega), List.getElem?_append_left hj]
    · rw [List.getElem?_eq_none (by simp; omega), List.getElem?_eq_none (by omega)]
  conv => lhs; rw [← List.take_append_drop S1.length S', this]⟩
def tenK : Raw := ⟨"k", 5, 0, 0⟩
theorem ten_more : okR (ten ++ [tenK]) = true := by decide +kernel
theorem ten_bad : ¬ GoodC 0 0 (ten ++ [tenK]) := fun y => absurd y.2.1 (by decide)
theorem ten_ok : okR ten = true := by decide +kernel
theorem ten_good : GoodC 9 9 ten := by decide +kernel
theorem ten_at : ∀ j < 10, atI ("abcdefghij" : Str).cps.toList ((0 : Int) + (j : Nat) * 1) = some (97 + j) := by decide +kernel
theorem cases_ok (h : RowS S) (q : ∀ S', RowS S' → Fr [0] S S' → Q (.d (.bool true)) S') : WG (g__law_cases_refused C [.ref 0] S) Q := by
  refine wg_cut ?_
  unfold b__law_cases_refused
  refine ws_seq (ws_set (we_call (wa_cons (we_var rfl (wa_cons (we_op (we_int (we_int (wg_pow (by decide) ?_)))))))))
  rw [show (10 : Int) ^ (6 : Int).toNat = 1000000 from rfl]
  refine wa_nil (taken_f h (by decide) fun far S1 r1 f1 d0 d1 => thenS_nx ?_)
  have e0 : S.length = S1.length := f1.1.symm
  simp only [env0, List.map_cons, List.map_nil, List.length_cons, List.length_nil, Nat.reduceAdd, Nat.reduceSub, List.replicate, List.cons_append, List.nil_append, List.set_cons_succ, List.set_cons_zero]
  repeat left
  simp only [List.append_assoc, List.cons_append, List.nil_append, List.length_append, List.length_cons, List.length_nil, Nat.zero_add]
  refine wg_catN get_fst get_snd (Nat.le_of_ble_eq_true rfl) (thenS_nx ?_)
  simp only [List.append_assoc, List.cons_append, List.nil_append, List.length_append, List.length_cons, List.length_nil, Nat.zero_add, List.set_cons_succ, List.set_cons_zero]
  refine ws_seq (ws_expr (we_lm (we_var rfl ⟨S1.length + (1 + 1), _, rfl, get_trd, ?_⟩)))
  repeat left
  refine ⟨_, get_trd, wg_push get_trd (by exact Nat.lt_of_lt_of_le (show 10 < 1000000 by decide) (Nat.le_of_ble_eq_true rfl)) fun S3 hb f3 => thenS_nx ?_⟩
  have hb : S3[S1.length + (1 + 1)]? = some (.lst ((bads far).map fun x => Val.d x.pd)) := hb
  obtain ⟨U, rfl⟩ := fr_app f3 (by omega)
  clear f3
  have bad := bads_bad (a := 0) (b := 9) d0
  refine ws_seq (ws_for (wa_cons (we_var rfl (wa_nil (ex_seqLr hb ?_)))))
  refine ws_loopM (kp := some (S1.length + (1 + 1), .lst ((bads far).map fun x => Val.d x.pd))) (f := fun x => Val.d x.pd) (xs := bads far) (fun dn e S => S = S1 ++ U ∧ ∃ x4, e = [some (.ref 0), some (.d (.int far)), some (.d (.list (goods.map Raw.pd))), some (.ref (S1.length + (1 + 1))), x4, none, none, none, none]) (fun dn x rr e S hx hI => ?_) (fun e S hI => ⟨by rw [hI.1]; exact hb, ?_⟩) ⟨rfl, _, rfl⟩
  · obtain ⟨rfl, x4, rfl⟩ := hI
    obtain ⟨g1, g2⟩ := bad x (by rw [hx]; simp)
    refine ⟨hb, _, rfl, ?_⟩
    simp only [List.set_cons_succ, List.set_cons_zero]
    refine ws_if (we_op (we_call (wa_cons (we_fn (wa_cons (we_int (wa_cons (we_int (wa_nil (wg_tup (ps := [.int 0, .int 9]) (Nat.le_of_ble_eq_true rfl) rfl (wa_cons ?_)))))))))))
    refine we_op (we_var rfl (we_fn (wa_cons (we_var rfl (wa_nil (wg_lst (ps := [x.pd]) (Nat.le_of_ble_eq_true rfl) rfl (wg_addL (Nat.le_of_ble_eq_true rfl) (wa_nil ?_))))))))
    exact made_bad (bs := goods ++ [x]) g2 g1 (we_str (ne_same (by decide +kernel) (wb_intro (ite_f (ws_next (turnS_nx ⟨rfl, _, rfl⟩))))))
  · obtain ⟨rfl, x4, rfl⟩ := hI
    refine thenS_nx ?_
    repeat left
    rw [show ([PyData.tuple [.int 1, .int 0], .tuple [.int (-1), .int 3], .tuple [.int 0, .int 10], .tuple [.int 0, .int (10 + far)], .tuple [.int (-1 - far), .int 2]]) = (films far).map fun x => PyData.tuple [.int x.1, .int x.2] from rfl, List.map_map]
    simp only [wipeE, List.set_cons_succ, List.set_cons_zero]
    refine wl_clT (f := Val.d ∘ fun x : Int × Int => PyData.tuple [.int x.1, .int x.2]) (pr := fun _ => false) (fn := fun _ => .none) (xs := films far) (by exact True.intro) (fun x hx => ⟨_, rfl, ?_, fun y => by cases y⟩) (size16 (show 5 ≤ 1000000 by decide)) ?_
    · exact we_op (we_call (wa_cons (we_var rfl (wa_cons (we_var rfl (wa_nil (made_bad (bs := goods) (by decide +kernel) (films_bad d0 x hx) (we_str (ne_same (by decide +kernel) ⟨rfl, rfl⟩)))))))))
    rw [show ((films far).filter fun _ => false) = [] from by simp]
    refine we_fn (wa_nil (wg_lst (ps := []) (Nat.le_of_ble_eq_true rfl) rfl (wg_neD (b := true) rfl rfl rfl (wb_intro (ite_f (ws_next (thenS_nx ?_)))))))
    refine ws_seq (ws_set (we_lc (wa_cons (we_int (wa_nil (ex_rng1 (rg_ok (by decide) (by decide)) ?_))))))
    simp only [wipeE, List.set_cons_succ, List.set_cons_zero]
    unfold intV
    refine wl_clM (fn := fun j => PyData.tuple [.str ⟨#[97 + j]⟩, .int 5, .int 0, .int 0]) (by exact True.intro) (fun j hj => ⟨_, rfl, we_eq ?_⟩) (size16 (show 10 ≤ 1000000 by decide)) ?_
    · exact we_fn (wa_cons (we_op (we_str (we_var rfl (wg_ixS (size16 (show 10 ≤ 1000000 by decide)) (ten_at j (List.mem_range.mp hj)) (wa_cons (we_int (wa_cons (we_int (wa_cons (we_int (wa_nil (wg_tup (Nat.le_of_ble_eq_true rfl) rfl ⟨rfl, rfl⟩)))))))))))))
    have e10 : (List.range (Int.toNat 10)).map (fun j => PyData.tuple [.str ⟨#[97 + j]⟩, .int 5, .int 0, .int 0]) = ten.map Raw.pd := rfl
    rw [e10]
    refine thenS_nx (ws_ret (we_and (we_op (we_call (wa_cons (we_fn (wa_cons (we_int (wa_cons (we_int (wa_nil (wg_tup (ps := [.int 9, .int 9]) (Nat.le_of_ble_eq_true rfl) rfl (wa_cons (we_var rfl (wa_nil ?_)))))))))))))))
    refine made_good (bs := ten) ten_ok ten_good (we_str (eq_same (by decide +kernel) (wb_intro (ite_t ?_))))
    refine we_op (we_call (wa_cons (we_fn (wa_cons (we_int (wa_cons (we_int (wa_nil (wg_tup (ps := [.int 0, .int 0]) (Nat.le_of_ble_eq_true rfl) rfl (wa_cons ?_))))))))))
    refine we_op (we_var rfl (we_fn (wa_cons (we_fn (wa_cons (we_str (wa_cons (we_int (wa_cons (we_int (wa_cons (we_int (wa_nil (wg_tup (Nat.le_of_ble_eq_true rfl) rfl (wa_nil (wg_lst (ps := [Raw.pd tenK]) (Nat.le_of_ble_eq_true rfl) rfl (wg_addL (Nat.le_of_ble_eq_true rfl) (wa_nil ?_))))))))))))))))))
    rw [show ten.map Raw.pd ++ [Raw.pd tenK] = (ten ++ [tenK]).map Raw.pd from (by rw [List.map_append]; rfl)]
    refine made_bad (bs := ten ++ [tenK]) ten_more ten_bad (we_str (eq_same (by decide +kernel) (endG_rt ?_)))
    exact fin_frU f1 r1.below (q S1 r1 f1)
end
end Lw
end
section
set_option Elab.async false
set_option linter.all false
set_option autoImplicit false
set_option maxRecDepth 100000
set_option maxHeartbeats 2000000
namespace Lw
open PySem PySem.Spec PyProof.Rows L2 Lv
local macro_rules
  | `(tactic| left) => `(tactic| first
    | (with_reducible refine ws_seq ?_) | (with_reducible refine ws_set ?_) | (with_reducible refine ws_expr ?_) | (with_reducible refine ws_ret ?_) | (with_reducible refine ws_retN ?_) | (with_reducible refine ws_if ?_) | (with_reducible refine ws_next ?_) | (with_reducible refine ws_asg ?_) | (with_reducible refine ws_setIx ?_) | (with_reducible refine ws_for ?_)
    | ((with_reducible refine thenS_nx ?_); try simp only [env0, List.map_cons, List.map_nil, List.length_cons, List.length_nil, Nat.reduceAdd, Nat.reduceSub, List.replicate, List.cons_append, List.nil_append, List.set_cons_succ, List.set_cons_zero])
    | (with_reducible refine thenS_rt ?_) | (with_reducible refine endG_nx ?_) | (with_reducible refine endG_rt ?_) | (with_reducible refine turnS_nx ?_) | (with_reducible refine turnS_rt ?_)
    | (with_reducible refine we_int ?_) | (with_reducible refine we_str ?_) | (with_reducible refine we_bool ?_) | (with_reducible refine we_non ?_) | (with_reducible refine we_op ?_) | (with_reducible refine we_op1 ?_) | (with_reducible refine we_fn ?_) | (with_reducible refine we_call ?_) | (with_reducible refine we_not ?_) | (with_reducible refine we_and ?_) | (with_reducible refine we_or ?_) | (with_reducible refine we_ifx ?_)
    | (with_reducible refine we_ch2 ?_) | (with_reducible refine we_ch3 ?_) | (with_reducible refine we_sl ?_) | (with_reducible refine wa_nil ?_) | (with_reducible refine wa_cons ?_) | (with_reducible refine wp_none ?_) | (with_reducible refine wp_some ?_) | (with_reducible refine wb_intro ?_) | (with_reducible refine ite_t ?_) | (with_reducible refine ite_f ?_) | (with_reducible refine ite_nt ?_) | (with_reducible refine ite_nf ?_)
    | (with_reducible refine we_lc ?_) | (with_reducible refine we_lcN ?_) | (with_reducible refine we_make ?_) | (with_reducible refine we_disp ?_) | (with_reducible refine wk_nil ?_) | (with_reducible refine wk_cons ?_) | (with_reducible refine ws_fld ?_) | (with_reducible refine we_fld ?_) | (with_reducible refine we_meth ?_) | (with_reducible refine we_dic0 ?_)
    | (with_reducible refine we_join ?_)
    | (with_reducible refine we_lm ?_)
    | ((with_reducible apply we_var); exact rfl)
    | (with_reducible refine wg_addI ?_) | (with_reducible refine wg_sub ?_) | (with_reducible refine wg_lt ?_) | (with_reducible refine wg_le ?_) | (with_reducible refine wg_gt ?_) | (with_reducible refine wg_ge ?_) | (with_reducible refine wg_eqI ?_) | (with_reducible refine wg_neI ?_)
    | (with_reducible refine wg_lenL ?_) | (with_reducible refine wg_lenT ?_) | (with_reducible refine wg_intI ?_) | (with_reducible refine wg_intB ?_) | (with_reducible refine wg_min2 ?_) | (with_reducible refine wg_max2 ?_) | (with_reducible refine wg_neg ?_)
    | (with_reducible refine wg_isN ?_) | (with_reducible refine wg_isNot ?_) | (with_reducible refine wg_tupleT ?_) | (with_reducible refine wg_listL ?_) | (with_reducible refine wg_listT ?_) | (with_reducible refine wg_slL ?_) | (with_reducible refine wg_slT ?_)
    | (with_reducible refine wg_mod (by decide) ?_) | (with_reducible refine wg_div (by decide) ?_)
    | ((with_reducible apply wg_lst); exact Nat.le_of_ble_eq_true rfl; exact rfl) | ((with_reducible apply wg_tup); exact Nat.le_of_ble_eq_true rfl; exact rfl) | ((with_reducible apply wg_lstN); exact Nat.le_of_ble_eq_true rfl)
    | ((with_reducible apply wg_ixR); exact rfl; exact rfl) | ((with_reducible apply wg_ixL); exact rfl) | ((with_reducible apply wg_ixT); exact rfl) | ((with_reducible apply wg_ixRT); exact rfl; exact rfl)
    | ((with_reducible apply fset_lst); exact rfl; exact rfl; try simp only [Int.reduceToNat, List.set_cons_succ, List.set_cons_zero])
    | (with_reducible refine ex_str ?_) | (with_reducible refine ex_int ?_) | ((with_reducible apply ex_lm); exact rfl)
    | (with_reducible refine ex_seqLd ?_) | (with_reducible refine ex_seqTd ?_) | (with_reducible refine ex_seqSd ?_) | (with_reducible refine ex_name ?_) | ((with_reducible apply ex_atup); exact rfl)
    | ((with_reducible apply ex_rng1); exact rg_ok (by omega) (by omega)) | ((with_reducible apply ex_rng2); exact rg_ok (by omega) (by omega); exact rg_ok (by omega) (by omega))
    | (with_reducible exact ⟨rfl, rfl⟩) | (with_reducible refine and_eq ?_)  | (with_reducible assumption) )
local macro_rules
  | `(tactic| left) => `(tactic| first
    | (with_reducible refine ws_setIxN ?_) | (with_reducible refine we_dicN ?_) | (with_reducible refine we_dget2 ?_) | (with_reducible refine we_dpop ?_) | (with_reducible refine ws_raise ?_) | (with_reducible refine ws_raiseI ?_) | (with_reducible refine ws_try ?_)
    | (with_reducible refine thenS_er ?_) | (with_reducible refine turnS_er ?_) | (with_reducible refine thenS_ct ?_) | (with_reducible refine thenS_bk ?_) | (with_reducible refine endX_nx ?_) | (with_reducible refine endX_rt ?_) | (with_reducible refine endX_er ?_) | (with_reducible refine clS_rt ?_) | (with_reducible refine clS_nx ?_) | (with_reducible refine clS_er ?_) )
section
variable {z : PgW} {C W : Addr} {a b : Int} {bl : List Blk} {r p k : Nat} {g g' : Int} {ks ks' : List Kp} {S S' : Sto} {is : List Nat} {Q : Val → Sto → Prop}
/-! the law's case -/
def bx : Blk := ⟨[120], 5, -9, 9⟩
def by_ : Blk := ⟨[121, 121], 6, -9, 9⟩
def bz : Blk := ⟨[122, 122, 122], 7, 0, 3⟩
def bl0 : List Blk := [bx, by_, bz]
theorem kx : ("x" : Str) = bx.key := by decide +kernel
theorem ky : ("yy" : Str) = by_.key := by decide +kernel
theorem kz : ("zzz" : Str) = bz.key := by decide +kernel
theorem nx_in : ("x" : Str) ∈ names bl0 := by decide +kernel
theorem ny_in : ("yy" : Str) ∈ names bl0 := by decide +kernel
theorem nz_in : ("zzz" : Str) ∈ names bl0 := by decide +kernel
theorem strs0 : ∀ s ∈ (["x", "yy", "zzz", "w", "xx", "", "block", "stretch", "full", "ring", "number"] : List Str), PyData.strOk s = true := by decide +kernel
theorem ca0 : CaseOk 0 2 bl0 := by
  refine ⟨by decide, by decide, by decide, by decide, fun x hx => ?_, by decide⟩
  simp only [bl0, List.mem_cons, List.not_mem_nil, or_false] at hx
  rcases hx with rfl | rfl | rfl
  · exact ⟨by decide, by decide, by decide, by decide, by decide, by decide, by decide, by decide, by decide⟩
  · exact ⟨by decide, by decide, by decide, by decide, by decide, by decide, by decide, by decide, by decide⟩
  · exact ⟨by decide, by decide, by decide, by decide, by decide, by decide, by decide, by decide, by decide⟩
def raws0 : List Raw := [⟨"x", 5, -9, 9⟩, ⟨"yy", 6, -9, 9⟩, ⟨"zzz", 7, 0, 3⟩]
theorem raws0_eq : raws0 = [⟨bx.key, 5, -9, 9⟩, ⟨by_.key, 6, -9, 9⟩, ⟨bz.key, 7, 0, 3⟩] := by
  rw [← kx, ← ky, ← kz]
  rfl
theorem kv0 : raws0.map Raw.kv = bl0.map kvOf := by
  rw [raws0_eq]
  rfl
theorem good0 : GoodC 0 2 raws0 := by decide +kernel
theorem okr0 : okR raws0 = true := by decide +kernel
/-! bars -/
theorem bar_lo {s u : Str} {lo hi x : Int} (ok : KsOk bl ks g) (h1 : s ∈ names bl) (h2 : u ∈ names bl) (w : Lm.Walk (rowsOf bl ks) (some u) (some s) x) (hx : x < lo) : Bar bl ks s u lo hi := by
  obtain ⟨d1, e1⟩ := dist_nd ok (nm_nd h1) (nm_nd h2)
  obtain ⟨d2, e2⟩ := dist_nd ok (nm_nd h2) (nm_nd h1)
  exact ⟨d1, d2, e1, e2, .inr (by have := e2.2 _ w; omega)⟩
theorem bar_hi {s u : Str} {lo hi x : Int} (ok : KsOk bl ks g) (h1 : s ∈ names bl) (h2 : u ∈ names bl) (w : Lm.Walk (rowsOf bl ks) (some s) (some u) x) (hx : x + hi < 0) : Bar bl ks s u lo hi := by
  obtain ⟨d1, e1⟩ := dist_nd ok (nm_nd h1) (nm_nd h2)
  obtain ⟨d2, e2⟩ := dist_nd ok (nm_nd h2) (nm_nd h1)
  exact ⟨d1, d2, e1, e2, .inl (by have := e1.2 _ w; omega)⟩
theorem not_barK {s u : Str} {lo hi : Int} {f : Str → Int} (kp : Keeps bl ks f) (l : lo ≤ f s - f u) (h : f s - f u ≤ hi) : ¬ Bar bl ks s u lo hi := fun ⟨d1, d2, e1, e2, e⟩ => by
  have F := keeps_feas kp
  have t1 := Lm.walk_ge F e1.1
  have t2 := Lm.walk_ge F e2.1
  dsimp only at t1 t2
  omega
theorem nx_eq {one other : Str} {lo hi : Int} (he : Ends bl one other) (hw : Wide lo hi) (hn : ks.length ≠ 30) (hb : ¬ Bar bl ks one other lo hi) : nxK bl ks g (.liken one other lo hi) = ks ++ [⟨g, one, other, lo, hi⟩] ∧ nxG bl ks g (.liken one other lo hi) = g + 1 := by
  simp [nxK, nxG, he, hw, hn, hb]
theorem more_ok {one other : Str} {lo hi : Int} (ok : KsOk bl ks g) (he : Ends bl one other) (hw : Wide lo hi) (hn : ks.length ≠ 30) (hb : ¬ Bar bl ks one other lo hi) : KsOk bl (ks ++ [⟨g, one, other, lo, hi⟩]) (g + 1) := by
  have h := nx_ok ok (.liken one other lo hi)
  obtain ⟨h1, h2⟩ := nx_eq (g := g) he hw hn hb
  rw [h1, h2] at h
  exact h
theorem liken_y {Er : Xn → Sto → Prop} {one other : Str} {lo hi : Int} (ca : CaseOk a b bl) (h : CsS C a b bl r p k g ks S) (ok : KsOk bl ks g) (s1 : PyData.strOk one = true) (s2 : PyData.strOk other = true)
    (he : Ends bl one other) (hw : Wide lo hi) (hn : ks.length ≠ 30) (hb : ¬ Bar bl ks one other lo hi) (q : ∀ S', CsS C a b bl r p k (g + 1) (ks ++ [⟨g, one, other, lo, hi⟩]) S' → Q (.d (.int g)) S') :
    WEX Er (g_Case_liken z C W [.ref r, .d (.str one), .d (.str other), .d (.int lo), .d (.int hi)] S) Q :=
  liken_fun ca.ok h ok ca.few ca.nd s1 s2 ⟨fun y => absurd he y, fun _ y => absurd hw y, fun _ _ y => absurd y hn, fun _ _ _ y => absurd y hb, fun _ _ _ _ S' hc _ => q S' hc⟩
theorem ksEmpty : KsOk bl0 [] 0 := by
  refine ⟨.nil, fun k hk => (by cases hk), Int.le_refl _, Nat.zero_le _, fun k hk => (by cases hk), fun k hk => (by cases hk), _, keeps_feas (f := fun _ => 0) ⟨fun x hx => ?_, fun x hx => by cases hx⟩⟩
  simp only [bl0, List.mem_cons, List.not_mem_nil, or_false] at hx
  rcases hx with rfl | rfl | rfl <;> decide
def kp0 : Kp := ⟨0, "x", "yy", 2, 4⟩
def kpj (j : Nat) : Kp := ⟨1 + (j : Int), "zzz", "yy", -900 - (j : Int), 999⟩
def ksn (n : Nat) : List Kp := kp0 :: (List.range n).map kpj
theorem ksn_succ (n : Nat) : ksn (n + 1) = ksn n ++ [kpj n] := by simp [ksn, List.range_succ]
theorem ksn_len (n : Nat) : (ksn n).length = n + 1 := by simp [ksn]
def am (s : Str) : Int := if s = "x" then 2 else 0
theorem am_x : am "x" = 2 := by decide +kernel
theorem am_y : am "yy" = 0 := by decide +kernel
theorem am_z : am "zzz" = 0 := by decide +kernel
theorem own0 {f : Str → Int} (h1 : -9 ≤ f "x" ∧ f "x" ≤ 9) (h2 : -9 ≤ f "yy" ∧ f "yy" ≤ 9) (h3 : 0 ≤ f "zzz" ∧ f "zzz" ≤ 3) : ∀ x ∈ bl0, x.lo ≤ f x.key ∧ f x.key ≤ x.hi := by
  rw [kx] at h1
  rw [ky] at h2
  rw [kz] at h3
  intro x hx
  simp only [bl0, List.mem_cons, List.not_mem_nil, or_false] at hx
  rcases hx with rfl | rfl | rfl
  · exact h1
  · exact h2
  · exact h3
theorem am_keeps {n : Nat} (hn : n ≤ 29) : Keeps bl0 (ksn n) am := by
  refine ⟨own0 (by rw [am_x]; decide) (by rw [am_y]; decide) (by rw [am_z]; decide), fun x hx => ?_⟩
  rcases List.mem_cons.mp hx with rfl | hx
  · show (2 : Int) ≤ am "x" - am "yy" ∧ am "x" - am "yy" ≤ 4
    rw [am_x, am_y]
    decide
  · obtain ⟨j, hj, rfl⟩ := List.mem_map.mp hx
    have := List.mem_range.mp hj
    show (-900 - (j : Int)) ≤ am "zzz" - am "yy" ∧ am "zzz" - am "yy" ≤ 999
    rw [am_z, am_y]
    omega
theorem am_none : Keeps bl0 [] am := ⟨(am_keeps (n := 0) (by decide)).1, fun x hx => by cases hx⟩
theorem ends_xy : Ends bl0 "x" "yy" := ⟨nx_in, ny_in, by decide +kernel⟩
theorem ends_yx : Ends bl0 "yy" "x" := ⟨ny_in, nx_in, by decide +kernel⟩
theorem ends_zy : Ends bl0 "zzz" "yy" := ⟨nz_in, ny_in, by decide +kernel⟩
theorem ends_zx : Ends bl0 "zzz" "x" := ⟨nz_in, nx_in, by decide +kernel⟩
theorem ends_xz : Ends bl0 "x" "zzz" := ⟨nx_in, nz_in, by decide +kernel⟩
theorem bar_xy : ¬ Bar bl0 [] "x" "yy" 2 4 := not_barK am_none (by rw [am_x, am_y]; decide) (by rw [am_x, am_y]; decide)
theorem bar_zy {n : Nat} (hn : n ≤ 29) : ¬ Bar bl0 (ksn n) "zzz" "yy" (-900 - (n : Int)) 999 := not_barK (am_keeps hn) (by rw [am_z, am_y]; omega) (by rw [am_z, am_y]; decide)
theorem wide_zy {n : Nat} (hn : n ≤ 29) : Wide (-900 - (n : Int)) 999 := ⟨by omega, by omega, by decide⟩
theorem ksn_ok : ∀ {n : Nat}, n ≤ 29 → KsOk bl0 (ksn n) (1 + (n : Int))
  | 0, _ => more_ok ksEmpty ends_xy ⟨by decide, by decide, by decide⟩ (by decide) bar_xy
  | n + 1, h => by
    have := more_ok (ksn_ok (n := n) (by omega)) ends_zy (wide_zy (n := n) (by omega)) (by rw [ksn_len]; omega) (bar_zy (n := n) (by omega))
    rw [ksn_succ]
    have e : 1 + (n : Int) + 1 = 1 + ((n + 1 : Nat) : Int) := by omega
    rw [e] at this
    exact this
theorem kp0_in {n : Nat} : kp0 ∈ ksn n := List.mem_cons_self
theorem bar_yx : Bar bl0 (ksn 0) "yy" "x" (-1) 9 := bar_lo (ksn_ok (n := 0) (by decide)) ny_in nx_in (Lm.Walk.one (rows_kept (bl := bl0) (kp0_in (n := 0))).2) (by decide)
theorem bx_in : bx ∈ bl0 := List.mem_cons_self
theorem bz_in : bz ∈ bl0 := by simp [bl0]
theorem bar_zx1 : Bar bl0 (ksn 0) "zzz" "x" 13 999 := by
  refine bar_lo (x := 12) (ksn_ok (n := 0) (by decide)) nz_in nx_in ?_ (by decide)
  rw [kx, kz]
  exact (Lm.Walk.one (rows_own (ks := ksn 0) bx_in).2).trans (Lm.Walk.one (rows_own (ks := ksn 0) bz_in).1)
theorem bar_zx2 : Bar bl0 (ksn 0) "zzz" "x" (-999) (-10) := by
  refine bar_hi (x := 9) (ksn_ok (n := 0) (by decide)) nz_in nx_in ?_ (by decide)
  rw [kx, kz]
  exact (Lm.Walk.one (rows_own (ks := ksn 0) bz_in).2).trans (Lm.Walk.one (rows_own (ks := ksn 0) bx_in).1)
def ksD : List Kp := (ksn 29).filter fun k => decide (k.num ≠ 0)
theorem ksD_len : ksD.length = 29 := by decide +kernel
theorem ksD_ok : KsOk bl0 ksD 30 := nx_ok (ksn_ok (n := 29) (by decide)) (.drop 0)
theorem ksD_keeps : Keeps bl0 ksD fun _ => 0 := by
  refine ⟨own0 (f := fun _ => 0) (by decide) (by decide) (by decide), fun x hx => ?_⟩
  obtain ⟨h1, h2⟩ := List.mem_filter.mp hx
  rcases List.mem_cons.mp h1 with rfl | h1
  · exact absurd rfl (of_decide_eq_true h2)
  · obtain ⟨j, hj, rfl⟩ := List.mem_map.mp h1
    have := List.mem_range.mp hj
    show (-900 - (j : Int)) ≤ 0 - 0 ∧ (0 : Int) - 0 ≤ 999
    omega
theorem bar_last : ¬ Bar bl0 ksD "yy" "x" (-1) 9 := not_barK ksD_keeps (by decide) (by decide)
end
end Lw
end
section
set_option Elab.async false
set_option linter.all false
set_option autoImplicit false
set_option maxRecDepth 100000
set_option maxHeartbeats 2000000
namespace Lw
open PySem PySem.Spec PyProof.Rows L2 Lv
local macro_rules
  | `(tactic| left) => `(tactic| first
    | (with_reducible refine ws_seq ?_) | (with_reducible refine ws_set ?_) | (with_reducible refine ws_expr ?_) | (with_reducible refine ws_ret ?_) | (with_reducible refine ws_retN ?_) | (with_reducible refine ws_if ?_) | (with_reducible refine ws_next ?_) | (with_reducible refine ws_asg ?_) | (with_reducible refine ws_setIx ?_) | (with_reducible refine ws_for ?_)
    | ((with_reducible refine thenS_nx ?_); try simp only [env0, List.map_cons, List.map_nil, List.length_cons, List.length_nil, Nat.reduceAdd, Nat.reduceSub, List.replicate, List.cons_append, List.nil_append, List.set_cons_succ, List.set_cons_zero])
    | (with_reducible refine thenS_rt ?_) | (with_reducible refine endG_nx ?_) | (with_reducible refine endG_rt ?_) | (with_reducible refine turnS_nx ?_) | (with_reducible refine turnS_rt ?_)
    | (with_reducible refine we_int ?_) | (with_reducible refine we_str ?_) | (with_reducible refine we_bool ?_) | (with_reducible refine we_non ?_) | (with_reducible refine we_op ?_) | (with_reducible refine we_op1 ?_) | (with_reducible refine we_fn ?_) | (with_reducible refine we_call ?_) | (with_reducible refine we_not ?_) | (with_reducible refine we_and ?_) | (with_reducible refine we_or ?_) | (with_reducible refine we_ifx ?_)
    | (with_reducible refine we_ch2 ?_) | (with_reducible refine we_ch3 ?_) | (with_reducible refine we_sl ?_) | (with_reducible refine wa_nil ?_) | (with_reducible refine wa_cons ?_) | (with_reducible refine wp_none ?_) | (with_reducible refine wp_some ?_) | (with_reducible refine wb_intro ?_) | (with_reducible refine ite_t ?_) | (with_reducible refine ite_f ?_) | (with_reducible refine ite_nt ?_) | (with_reducible refine ite_nf ?_)
    | (with_reducible refine we_lc ?_) | (with_reducible refine we_lcN ?_) | (with_reducible refine we_make ?_) | (with_reducible refine we_disp ?_) | (with_reducible refine wk_nil ?_) | (with_reducible refine wk_cons ?_) | (with_reducible refine ws_fld ?_) | (with_reducible refine we_fld ?_) | (with_reducible refine we_meth ?_) | (with_reducible refine we_dic0 ?_)
    | (with_reducible refine we_join ?_)
    | (with_reducible refine we_lm ?_)
    | ((with_reducible apply we_var); exact rfl)
    | (with_reducible refine wg_addI ?_) | (with_reducible refine wg_sub ?_) | (with_reducible refine wg_lt ?_) | (with_reducible refine wg_le ?_) | (with_reducible refine wg_gt ?_) | (with_reducible refine wg_ge ?_) | (with_reducible refine wg_eqI ?_) | (with_reducible refine wg_neI ?_)
    | (with_reducible refine wg_lenL ?_) | (with_reducible refine wg_lenT ?_) | (with_reducible refine wg_intI ?_) | (with_reducible refine wg_intB ?_) | (with_reducible refine wg_min2 ?_) | (with_reducible refine wg_max2 ?_) | (with_reducible refine wg_neg ?_)
    | (with_reducible refine wg_isN ?_) | (with_reducible refine wg_isNot ?_) | (with_reducible refine wg_tupleT ?_) | (with_reducible refine wg_listL ?_) | (with_reducible refine wg_listT ?_) | (with_reducible refine wg_slL ?_) | (with_reducible refine wg_slT ?_)
    | (with_reducible refine wg_mod (by decide) ?_) | (with_reducible refine wg_div (by decide) ?_)
    | ((with_reducible apply wg_lst); exact Nat.le_of_ble_eq_true rfl; exact rfl) | ((with_reducible apply wg_tup); exact Nat.le_of_ble_eq_true rfl; exact rfl) | ((with_reducible apply wg_lstN); exact Nat.le_of_ble_eq_true rfl)
    | ((with_reducible apply wg_ixR); exact rfl; exact rfl) | ((with_reducible apply wg_ixL); exact rfl) | ((with_reducible apply wg_ixT); exact rfl) | ((with_reducible apply wg_ixRT); exact rfl; exact rfl)
    | ((with_reducible apply fset_lst); exact rfl; exact rfl; try simp only [Int.reduceToNat, List.set_cons_succ, List.set_cons_zero])
    | (with_reducible refine ex_str ?_) | (with_reducible refine ex_int ?_) | ((with_reducible apply ex_lm); exact rfl)
    | (with_reducible refine ex_seqLd ?_) | (with_reducible refine ex_seqTd ?_) | (with_reducible refine ex_seqSd ?_) | (with_reducible refine ex_name ?_) | ((with_reducible apply ex_atup); exact rfl)
    | ((with_reducible apply ex_rng1); exact rg_ok (by omega) (by omega)) | ((with_reducible apply ex_rng2); exact rg_ok (by omega) (by omega); exact rg_ok (by omega) (by omega))
    | (with_reducible exact ⟨rfl, rfl⟩) | (with_reducible refine and_eq ?_)  | (with_reducible assumption) )
local macro_rules
  | `(tactic| left) => `(tactic| first
    | (with_reducible refine ws_setIxN ?_) | (with_reducible refine we_dicN ?_) | (with_reducible refine we_dget2 ?_) | (with_reducible refine we_dpop ?_) | (with_reducible refine ws_raise ?_) | (with_reducible refine ws_raiseI ?_) | (with_reducible refine ws_try ?_)
    | (with_reducible refine thenS_er ?_) | (with_reducible refine turnS_er ?_) | (with_reducible refine thenS_ct ?_) | (with_reducible refine thenS_bk ?_) | (with_reducible refine endX_nx ?_) | (with_reducible refine endX_rt ?_) | (with_reducible refine endX_er ?_) | (with_reducible refine clS_rt ?_) | (with_reducible refine clS_nx ?_) | (with_reducible refine clS_er ?_) )
section
variable {z : PgW} {C W : Addr} {a b : Int} {bl : List Blk} {r p k : Nat} {g g' : Int} {ks ks' : List Kp} {S S' : Sto} {is : List Nat} {Q : Val → Sto → Prop}
def askPd (x : Int × Str × Str × Int × Int) : PyData := .tuple [.int x.1, .str x.2.1, .str x.2.2.1, .int x.2.2.2.1, .int x.2.2.2.2]
def asks : List (Int × Str × Str × Int × Int) := [(0, "w", "x", 5, 1), (0, "x", "w", 0, 0), (0, "x", "x", 5, 1), (2, "w", "", 0, 0), (3, "xx", "", 0, 0), (4, "", "", 0, 0)]
def wides (far : Int) : List (Int × Int) := [(1, 0), (-1000, 0), (0, 1000), (-999 - far, far), (far, 999 + far)]
def kd0 : List (Key × PyData) := [(Sum.inl 0, .tuple [.str "x", .str "yy", .int 2, .int 4])]
theorem sh0 : SeqAt.shaped (.tuple [.str "x", .str "yy", .int 2, .int 4]) = true := by decide +kernel
theorem kvD0 : kvD [(Sum.inl 0, .d (.tuple [.str "x", .str "yy", .int 2, .int 4]))] = some kd0 := by
  simp only [kvD, sh0, if_true]
  rfl
theorem not_in {s : Str} (h : (!decide (s ∈ names bl0)) = true) : s ∉ names bl0 := by simpa using h
theorem law_fun (z : PgW) (C W : Addr) (ns : List Int) (hl : ns.length ≤ 63) : ∃ S', g_law z C W [.d (.list (ns.map .int))] [] = some (.d (.bool true), S') := by
  suffices h : WG (g_law z C W [.d (.list (ns.map .int))] []) fun x _ => x = .d (.bool true) by
    obtain ⟨_, S', e, rfl⟩ := h
    exact ⟨S', e⟩
  have s_ : ∀ {s : Str}, s ∈ (["x", "yy", "zzz", "w", "xx", "", "block", "stretch", "full", "ring", "number"] : List Str) → PyData.strOk s = true := fun {s} h => strs0 s h
  refine wg_cut ?_
  unfold b_law
  refine ws_seq (ws_set (we_fn (wa_cons (we_var rfl (wa_cons (we_int (wa_cons (we_int (wa_nil (wg_lstN (Nat.le_of_ble_eq_true rfl) (thenS_nx ?_)))))))))))
  have hr : RowS ([] ++ [Ob.lst [.d (.list (ns.map .int)), .d (.int 0), .d (.int 0)]]) := ⟨_, rfl, Rw.start ns⟩
  refine ws_seq (ws_if (we_not (we_call (wa_cons (we_var rfl (wa_nil (cases_ok hr fun S1 r1 f1 => wb_intro (wb_intro (ite_f (ws_next (thenS_nx ?_)))))))))))
  obtain ⟨o1, rfl⟩ : ∃ o1, S1 = [o1] := List.length_eq_one_iff.mp f1.1
  clear f1 hr
  simp only [env0, List.map_cons, List.map_nil, List.length_cons, List.length_nil, Nat.reduceAdd, Nat.reduceSub, List.replicate, List.cons_append, List.nil_append, List.set_cons_succ, List.set_cons_zero]
  refine ws_seq (ws_setX (wex_make ?_))
  repeat left
  have o2 := okr0
  simp only [okR, okS, Bool.and_eq_true, decide_eq_true_eq, List.all_eq_true] at o2
  refine init_x (bl := raws0) o2.1 (fun x hx => (o2.2 x hx).1) (fun x hx c hc => (o2.2 x hx).2 c hc) (fun _ => ⟨rfl, thenS_nx ?_⟩) fun y => absurd good0 y
  rw [kv0]
  have h : CsS C 0 2 bl0 1 2 3 0 [] ([o1] ++ [caseOb C 0 2 ([o1] : Sto).length, .dic (bl0.map kvOf), .dic []]) := ⟨rfl, rfl, rfl, by decide, by decide, by decide, by decide, by decide, by decide⟩
  have hr : RowS ([o1] ++ [caseOb C 0 2 ([o1] : Sto).length, .dic (bl0.map kvOf), .dic []]) := by
    obtain ⟨o, q1, q2⟩ := r1
    exact ⟨o, get_app q1, q2⟩
  generalize ([o1] ++ [caseOb C 0 2 ([o1] : Sto).length, .dic (bl0.map kvOf), .dic []]) = S1 at h hr
  clear r1
  simp only [List.length_cons, List.length_nil, Nat.zero_add, List.set_cons_succ, List.set_cons_zero]
  refine ws_seq (ws_set (we_op (we_int (we_call (wa_cons (we_var rfl (wa_cons (we_op (we_int (we_int (wg_pow (by decide) ?_)))))))))))
  rw [show (10 : Int) ^ (6 : Int).toNat = 1000000 from rfl]
  refine wa_nil (taken_f hr (by decide) fun far S2 r2 f2 d0 d1 => wg_addI (thenS_nx ?_))
  have h := h.fr0 f2
  generalize hf : 1 + far = fa
  have d0 : 1 ≤ fa := by omega
  simp only [List.set_cons_succ, List.set_cons_zero]
  refine ws_seq (ws_setX (wex_meth (we_var rfl (ex_meth h.cs rfl (wa_cons (we_str (wa_cons (we_str (wa_cons (we_int (wa_cons (we_int (wa_nil (liken_y ca0 h ksEmpty (s_ (by simp)) (s_ (by simp)) ends_xy ⟨by decide, by decide, by decide⟩ (by decide) bar_xy fun S3 h => thenS_nx ?_))))))))))))))
  have h : CsS C 0 2 bl0 1 2 3 1 (ksn 0) S3 := h
  have ok := ksn_ok (n := 0) (by decide)
  simp only [List.set_cons_succ, List.set_cons_zero]
  refine ws_seq (ws_set ?_)
  repeat left
  refine ⟨S3.length, _, rfl, get_fst, ?_⟩
  repeat left
  refine ⟨_, get_fst, wg_push get_fst (by exact Nat.lt_of_lt_of_le (show 5 < 1000000 by decide) (Nat.le_of_ble_eq_true rfl)) fun S4 hb f4 => thenS_nx ?_⟩
  have hb : S4[S3.length]? = some (.lst (asks.map fun x => Val.d (askPd x))) := hb
  obtain ⟨U, rfl⟩ := fr_app f4 (by omega)
  have h : CsS C 0 2 bl0 1 2 3 1 (ksn 0) (S3 ++ U) := h.app
  clear f4
  generalize hn : S3.length = n5 at *
  generalize (S3 ++ U) = S4 at h hb
  refine ws_seq (ws_if (we_op (we_lc (wa_cons (we_var rfl (wa_nil (ex_seqLr hb ?_)))))))
  simp only [wipeE, List.set_cons_succ, List.set_cons_zero]
  refine wl_clT (f := fun x => Val.d (askPd x)) (pr := fun _ => false) (fn := fun _ => .none) (xs := asks) (by exact hb) (fun x hx => ⟨_, rfl, ?_, fun y => by cases y⟩) (size16 (show 6 ≤ 1000000 by decide)) ?_
  · simp only [List.set_cons_succ, List.set_cons_zero]
    have nw : ("w" : Str) ∉ names bl0 := not_in (by decide +kernel)
    simp only [asks, List.mem_cons, List.not_mem_nil, or_false] at hx
    have fin : ∀ {e : Ev}, WE (mStr "block" e S4) fun y S2 => WG (fNe (.d (.str "block")) y S2) fun x S' => x = .d (.bool false) ∧ S' = S4 := we_str (ne_same (s_ (by simp)) ⟨rfl, rfl⟩)
    refine we_op (we_call ?_)
    rcases hx with rfl | rfl | rfl | rfl | rfl | rfl
    · unfold askPd
      repeat left
      exact asked0 ca0 h ok (s_ (by simp)) (s_ (by simp)) (.inl ⟨fun y => nw y.1, rfl⟩) fin
    · unfold askPd
      repeat left
      exact asked0 ca0 h ok (s_ (by simp)) (s_ (by simp)) (.inl ⟨fun y => nw y.2.1, rfl⟩) fin
    · unfold askPd
      repeat left
      exact asked0 ca0 h ok (s_ (by simp)) (s_ (by simp)) (.inl ⟨fun y => y.2.2 rfl, rfl⟩) fin
    · unfold askPd
      repeat left
      exact asked2 h nw fin
    · unfold askPd
      repeat left
      exact asked3 h (not_in (by decide +kernel)) fin
    · unfold askPd
      repeat left
      exact asked4 h (not_in (by decide +kernel)) fin
  rw [show (asks.filter fun _ => false) = [] from by simp]
  refine we_fn (wa_nil (wg_lst (ps := []) (Nat.le_of_ble_eq_true rfl) rfl (wg_neD (b := true) rfl rfl rfl (wb_intro (ite_f (ws_next (thenS_nx ?_)))))))
  clear hb
  refine ws_seq (ws_for ?_)
  repeat left
  rw [show ([PyData.tuple [.int 1, .int 0], .tuple [.int (-1000), .int 0], .tuple [.int 0, .int 1000], .tuple [.int (-999 - fa), .int fa], .tuple [.int fa, .int (999 + fa)]]) = (wides fa).map fun x => PyData.tuple [.int x.1, .int x.2] from rfl, List.map_map]
  refine ws_loopM (kp := none) (f := Val.d ∘ fun x : Int × Int => PyData.tuple [.int x.1, .int x.2]) (xs := wides fa) (fun dn e S => S = S4 ∧ ∃ x6 x7, e = [some (.d (.list (ns.map .int))), some (.ref 0), some (.ref 1), some (.d (.int fa)), some (.d (.int 0)), some (.ref n5), x6, x7, none, none]) (fun dn x rr e S hx hI => ?_) (fun e S hI => ⟨by exact True.intro, ?_⟩) ⟨rfl, _, _, rfl⟩
  · obtain ⟨rfl, x6, x7, rfl⟩ := hI
    have hx : x ∈ wides fa := by rw [hx]; simp
    have nw : ¬ Wide x.1 x.2 := by
      intro y
      have y1 := y.1
      have y2 := y.2.1
      have y3 := y.2.2
      simp only [wides, List.mem_cons, List.not_mem_nil, or_false] at hx
      rcases hx with rfl | rfl | rfl | rfl | rfl <;> dsimp only at y1 y2 y3 <;> omega
    refine ⟨by exact True.intro, _, rfl, ?_⟩
    simp only [List.set_cons_succ, List.set_cons_zero]
    refine ws_if (we_op (we_call (wa_cons (we_var rfl (wa_cons (we_int (wa_cons (we_str (wa_cons (we_str (wa_cons (we_var rfl (wa_cons (we_var rfl (wa_nil ?_)))))))))))))))
    exact asked0 ca0 h ok (s_ (by simp)) (s_ (by simp)) (.inr (.inl ⟨ends_xz, nw, rfl⟩)) (we_str (ne_same (s_ (by simp)) (wb_intro (ite_f (ws_next (turnS_nx ⟨rfl, _, _, rfl⟩))))))
  obtain ⟨rfl, x6, x7, rfl⟩ := hI
  refine thenS_nx (ws_seq (ws_for ?_))
  repeat left
  rw [show ([PyData.int (0 + fa), .int (0 - fa)]) = ([0 + fa, 0 - fa] : List Int).map PyData.int from rfl, List.map_map]
  refine ws_loopM (kp := none) (f := Val.d ∘ PyData.int) (xs := ([0 + fa, 0 - fa] : List Int)) (fun dn e S' => S' = S ∧ ∃ x8, e = [some (.d (.list (ns.map .int))), some (.ref 0), some (.ref 1), some (.d (.int fa)), some (.d (.int 0)), some (.ref n5), x6, x7, x8, none]) (fun dn x rr e S' hx hI => ?_) (fun e S' hI => ⟨by exact True.intro, ?_⟩) ⟨rfl, _, rfl⟩
  · obtain ⟨rfl, x8, rfl⟩ := hI
    have hx : x ∈ ([0 + fa, 0 - fa] : List Int) := by rw [hx]; simp
    have nn : x ∉ (ksn 0).map (·.num) := by
      show x ∉ [(0 : Int)]
      simp only [List.mem_cons, List.not_mem_nil, or_false] at hx ⊢
      omega
    refine ⟨by exact True.intro, _, rfl, ?_⟩
    simp only [List.set_cons_succ, List.set_cons_zero]
    refine ws_if (we_op (we_call (wa_cons (we_var rfl (wa_cons (we_int (wa_cons (we_str (wa_cons (we_str (wa_cons (we_var rfl (wa_cons (we_int (wa_nil ?_)))))))))))))))
    exact asked1 h nn (we_str (ne_same (s_ (by simp)) (wb_intro (ite_f (ws_next (turnS_nx ⟨rfl, _, rfl⟩))))))
  obtain ⟨rfl, x8, rfl⟩ := hI
  have ww : ∀ {lo hi : Int}, -999 ≤ lo → lo ≤ hi → hi ≤ 999 → Wide lo hi := fun h1 h2 h3 => ⟨h1, h2, h3⟩
  refine thenS_nx (ws_seq (ws_if (we_or (we_op (we_call (wa_cons (we_var rfl (wa_cons (we_int (wa_cons (we_str (wa_cons (we_str (wa_cons (we_op1 (we_int (wg_neg (wa_cons (we_int (wa_nil ?_))))))))))))))))))))
  refine asked0 ca0 h ok (s_ (by simp)) (s_ (by simp)) (.inr (.inr (.inr ⟨ends_yx, ww (by decide) (by decide) (by decide), by decide, bar_yx, rfl⟩))) (we_str (ne_same (s_ (by simp)) (wb_intro (ite_f ?_))))
  refine we_op (we_call (wa_cons (we_var rfl (wa_cons (we_int (wa_cons (we_str (wa_cons (we_str (wa_cons (we_int (wa_cons (we_int (wa_nil ?_))))))))))))))
  refine asked0 ca0 h ok (s_ (by simp)) (s_ (by simp)) (.inr (.inr (.inr ⟨ends_zx, ww (by decide) (by decide) (by decide), by decide, bar_zx1, rfl⟩))) (we_str (ne_same (s_ (by simp)) (wb_intro (ite_f (ws_next (thenS_nx ?_))))))
  refine ws_seq (ws_if (we_or (we_op (we_call (wa_cons (we_var rfl (wa_cons (we_int (wa_cons (we_str (wa_cons (we_str (wa_cons (we_op1 (we_int (wg_neg (wa_cons (we_op1 (we_int (wg_neg (wa_nil ?_)))))))))))))))))))))
  refine asked0 ca0 h ok (s_ (by simp)) (s_ (by simp)) (.inr (.inr (.inr ⟨ends_zx, ww (by decide) (by decide) (by decide), by decide, bar_zx2, rfl⟩))) (we_str (ne_same (s_ (by simp)) (wb_intro (ite_f ?_))))
  refine we_op (we_meth (we_var rfl (ex_meth h.cs rfl (wa_nil (likenings_fun h ?_)))))
  refine we_disp1 (we_var rfl ?_)
  repeat left
  refine ⟨by simp, _, rfl, ?_⟩
  refine wg_DD (kd := kd0) (ld := kd0) (t := true) (get_set_ne (by simp) (get_app get_fst)) (get_set get_fst) kvD0 kvD0 (by decide +kernel) (wb_intro (ite_f (ws_next (thenS_nx ?_))))
  have l3 : 3 < S'.length := (List.getElem?_eq_some_iff.mp h.kp).1
  have h := (h.app (U := [.dic (keptKv (ksn 0))])).app (U := [.dic []])
  have h := h.fr (Fr.set (i := (S' ++ [Ob.dic (keptKv (ksn 0))]).length) (o := .dic [(Sum.inl 0, Val.d (PyData.tuple [PyData.str "x", PyData.str "yy", PyData.int 2, PyData.int 4]))]) (is := [(S' ++ [Ob.dic (keptKv (ksn 0))]).length]) (by simp)) (by simp only [List.mem_singleton, List.length_append, List.length_cons, List.length_nil]; omega) (by simp only [List.mem_singleton, List.length_append, List.length_cons, List.length_nil]; omega) (by simp only [List.mem_singleton, List.length_append, List.length_cons, List.length_nil]; omega)
  generalize (List.set (S' ++ [Ob.dic (keptKv (ksn 0))] ++ [Ob.dic []]) (List.length (S' ++ [Ob.dic (keptKv (ksn 0))])) (.dic [(Sum.inl 0, Val.d (PyData.tuple [PyData.str "x", PyData.str "yy", PyData.int 2, PyData.int 4]))])) = T at h
  have hs : CsS C 0 2 bl0 1 2 3 (1 + ((([] : List Nat).length : Nat) : Int)) (ksn ([] : List Nat).length) T := by
    rw [List.length_nil, show (1 : Int) + ((0 : Nat) : Int) = 1 from rfl]
    exact h
  refine ws_seq (ws_for (wa_cons (we_int (wa_nil (ex_rng1 (rg_ok (by decide) (by decide)) ?_)))))
  unfold intV
  refine ws_loopM (kp := none) (fun dn e S => CsS C 0 2 bl0 1 2 3 (1 + (dn.length : Int)) (ksn dn.length) S ∧ ∃ x9, e = [some (.d (.list (ns.map .int))), some (.ref 0), some (.ref 1), some (.d (.int fa)), some (.d (.int 0)), some (.ref n5), x6, x7, x8, x9]) (fun dn v rr e S hx hI => ?_) (fun e S hI => ⟨by exact True.intro, ?_⟩) ⟨hs, _, rfl⟩
  · obtain ⟨h, x9, rfl⟩ := hI
    have hj : dn.length < 29 := by
      have := congrArg List.length hx
      rw [List.length_range] at this
      simp at this
      omega
    have hv : v = dn.length := by
      have e1 := congrArg (fun l => l[dn.length]?) hx
      simp only [List.getElem?_append_right (Nat.le_refl _), Nat.sub_self, List.getElem?_cons_zero] at e1
      rw [List.getElem?_range (by exact hj)] at e1
      exact (Option.some.inj e1).symm
    have ej : (0 : Int) + ((v : Nat) : Int) * 1 = (dn.length : Int) := by omega
    have el : (dn ++ [v]).length = dn.length + 1 := by simp
    clear hx hv
    refine ⟨by exact True.intro, _, rfl, ?_⟩
    simp only [List.set_cons_succ, List.set_cons_zero, ej]
    refine ws_exprX (wex_meth (we_var rfl (ex_meth h.cs rfl (wa_cons (we_str (wa_cons (we_str (wa_cons (we_op (we_op1 (we_int (wg_neg (we_var rfl (wg_sub (wa_cons (we_int (wa_nil ?_)))))))))))))))))
    refine liken_y ca0 h (ksn_ok (n := dn.length) (by omega)) (s_ (by simp)) (s_ (by simp)) ends_zy (wide_zy (n := dn.length) (by omega)) (by rw [ksn_len]; omega) (bar_zy (n := dn.length) (by omega)) fun S3 h => turnS_nx ⟨?_, _, rfl⟩
    rw [el, ksn_succ]
    have e3 : 1 + (dn.length : Int) + 1 = 1 + ((dn.length + 1 : Nat) : Int) := by omega
    rw [← e3]
    exact h
  obtain ⟨h, x9, rfl⟩ := hI
  rw [List.length_range] at h
  have h : CsS C 0 2 bl0 1 2 3 30 (ksn 29) S := h
  have ok : KsOk bl0 (ksn 29) 30 := ksn_ok (n := 29) (by decide)
  refine thenS_nx (ws_seq (ws_if (we_or (we_op (we_call (wa_cons (we_var rfl (wa_cons (we_int (wa_cons (we_str (wa_cons (we_str (wa_cons (we_op1 (we_int (wg_neg (wa_cons (we_int (wa_nil ?_))))))))))))))))))))
  refine asked0 ca0 h ok (s_ (by simp)) (s_ (by simp)) (.inr (.inr (.inl ⟨ends_yx, ww (by decide) (by decide) (by decide), ksn_len 29, rfl⟩))) (we_str (ne_same (s_ (by simp)) (wb_intro (ite_f ?_))))
  refine we_op (we_call (wa_cons (we_var rfl (wa_cons (we_int (wa_cons (we_str (wa_cons (we_str (wa_cons (we_int (wa_cons (we_int (wa_nil ?_))))))))))))))
  refine asked0 ca0 h ok (s_ (by simp)) (s_ (by simp)) (.inr (.inl ⟨ends_yx, fun y => absurd y.2.1 (by decide), rfl⟩)) (we_str (ne_same (s_ (by simp)) (wb_intro (ite_f (ws_next (thenS_nx ?_))))))
  refine ws_seq (ws_exprX (wex_meth (we_var rfl (ex_meth h.cs rfl (wa_cons (we_var rfl (wa_nil (drop_fun h (fun y => absurd (List.mem_map.mpr ⟨kp0, kp0_in, rfl⟩) y) fun _ S5 h f => thenS_nx ?_))))))))
  have h : CsS C 0 2 bl0 1 2 3 30 ksD S5 := h
  refine ws_ret (we_and (we_op (we_methX (we_var rfl (ex_meth h.cs rfl (wa_cons (we_str (wa_cons (we_str (wa_cons (we_op1 (we_int (wg_neg (wa_cons (we_int (wa_nil (WEX.ok (liken_y ca0 h ksD_ok (s_ (by simp)) (s_ (by simp)) ends_yx (ww (by decide) (by decide) (by decide)) (by rw [ksD_len]; decide) bar_last fun S6 h => ?_))))))))))))))))))
  refine we_int (wg_eqI (wb_intro (ite_t ?_)))
  refine we_op (we_fn (wa_cons (we_meth (we_var rfl (ex_meth h.cs rfl (wa_nil (likenings_fun h (wa_nil (wg_len (n := 30) ?_ (we_int (wg_eqI (endG_rt ⟨fun i o _ hl => absurd hl (Nat.not_lt_zero _), _, rfl, rfl⟩))))))))))))
  simp only [lenAt, get_fst]
  simp [keptKv, ksD_len]
end
end Lw
end
set_option Elab.async false
set_option linter.all false
set_option autoImplicit false
set_option maxRecDepth 100000
set_option maxHeartbeats 0
namespace Lw
open PySem PySem.Spec PyProof.Rows L2 Lv
abbrev LwR : PySem.W.OpenRow := PySem.W.OpenLaw.row PySem.Challenge.rw_blockwring_k12_refusals_stand_apart
abbrev hk : PySem.W.Hook := hookX 4 xf fa fn
def ob (s : PySem.W.SharedT) : AlX := obsXG 4 xf fa fn (HandSHeadRun.getT s)
theorem ob_eq (s : PySem.W.SharedT) : ob s = hk.obs s.abs := obsXG_eq (HandSHeadRun.getT_eq s)
def loose : List PySem.Str := (["_wall", "WringError", "BadCase", "NoBlock", "BadLikening", "NoLikening", "Full", "Ring", "BadText", "Web", "LETTERS", "LONGEST_NAME", "MOST_BLOCKS", "MOST_LENGTH", "MOST_OFF", "MOST_FILM", "MOST_LIKENED", "MOST_LIKENINGS", "is_name", "must", "Case", "_law_taken", "_law_word_of", "_law_made", "_law_asked", "_law_cases_refused"] : List PySem.Str)
theorem run (w : World) : HandSHeadRun.RunEq LwR (PySem.W.view LwR.prog [30]) hk ob 12000 loose w := by
  intro os
  kernel_rfl
theorem law_sp {K : PySem.W.Frag} (z : PgW) (H : Hp) (a : Addr) (ns : List Int) (hl : ns.length ≤ 63) (hS : SqL K H a (ns.map V.int)) : spN K (g_law z (He.ga K "Case") (He.ga K "Web")) 1 [.ref a] H (fun v _ => v = .bl true) fun _ _ _ => False := by
  obtain ⟨S', h⟩ := law_fun z (He.ga K "Case") (He.ga K "Web") ns hl
  have R : RS K ⟨[], []⟩ [] H := ⟨rfl, List.nodup_nil, fun a z => (by cases z), fun i a o e _ => (by cases e)⟩
  have e : frz ⟨[], []⟩ H = H := funext fun a => frz_at fun z => z.elim (fun z => (by cases z)) (fun z => (by cases z))
  refine ⟨rfl, ⟨[], []⟩, [], [.d (.list (ns.map .int))], _, S', R, .cons (Dp.lst (show SqL K (frz ⟨[], []⟩ H) a (ns.map V.int) from e.symm ▸ hS) (dp_ints ns)) .nil, h, fun v H' ρ' R' l r => vr_bl r⟩
end Lw
open PySem PySem.W PySem.Calls PyProof.Rows
theorem PySem.Challenge.cw_blockwring_k12_refusals_stand_apart_holds : PySem.Challenge.rw_blockwring_k12_refusals_stand_apart.Holds := by
  w_on; o_law
  refine HandSHeadRun.head_any (r := OpenLaw.row PySem.Challenge.rw_blockwring_k12_refusals_stand_apart) (q := view (OpenLaw.row PySem.Challenge.rw_blockwring_k12_refusals_stand_apart).prog [30]) (H := Lw.hk) (ob := Lw.ob) (M := 12000) (loose := Lw.loose) (d := HandSHeadRun.topDef (OpenLaw.row PySem.Challenge.rw_blockwring_k12_refusals_stand_apart).prog 30) (kwd := []) Lw.ob_eq
    (by kernel_rfl) (fun s => by kernel_rfl) Lw.run (by kernel_rfl) (by kernel_rfl) (by kernel_rfl) (by rfl) (by first | assumption | decide +kernel) (by decide +kernel) ⟨rfl, rfl, rfl, rfl, rfl, by decide +kernel⟩ ?hw ?hc
  case hw => w_witness2
  case hc =>
    refine L2.walk_ofE (l := PySem.Challenge.rw_blockwring_k12_refusals_stand_apart) (n := 63) (k := Lw.lv_law) (x := "_law_script") (CX := L2.CX0) rfl (by decide) (by kernel_rfl) ⟨rfl, by decide, by decide⟩ ?F (fun _ _ _ _ z => z)
    intro w mg fa h Y G hmg0
    obtain ⟨K, KX, c⟩ := Y
    have hmg : mg ("law" : PySem.Str) = some (.ref fa) := by
      have e : (HandSHeadRun.topDef (OpenLaw.row PySem.Challenge.rw_blockwring_k12_refusals_stand_apart).prog 30).name = ("law" : PySem.Str) := by kernel_rfl
      rw [← e]
      exact hmg0
    obtain ⟨fd, hb, hF⟩ := Lw.facts (P := (PySem.Challenge.rw_blockwring_k12_refusals_stand_apart).prog) (w := w) KX G hmg c
    exact ⟨K, fd, _, KX, hb, fun H a ns hl _ hS => Lw.law_sp ((PySem.Challenge.rw_blockwring_k12_refusals_stand_apart).prog, w) H a ns hl hS, hF⟩
