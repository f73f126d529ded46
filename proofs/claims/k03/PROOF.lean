import PyProof.Rows.All
import Wide.All
import OpenK.AllK
import Wide.FinOn
import PyProof.EqAt
import PyProof.EqKinds
import PyProof.TupleCall
import HandS.ForMost
import HandS.ForExc
import HandS.Wide
import HandS.Lambda
import HandS.TupAny
import HandS.TupMul
import HandS.Deep
import HandS.ExcOwn
import HandS.IsInst
import HandS.Conv
import HandS.Style
import PyProof.SumWalkG
import PyProof.ListOps
import PyProof.Walks
import PyProof.FactsAll.subtypes_4
import HandS.ExcValue
import KE.KStateDown
import HandS.Defaults
import HandS.EndTab
import HandS.EndBits
import HandS.Head0
import HandS.Head1
import HandS.Head2
import HandS.HeadEnd
import HandS.HeadHook1
import HandS.HeadHook2
import HandS.HeadHook3
import HandS.HeadHook4
import HandS.Dict
import PyProof.SliceList
import PySem.Challenge.RW_looksay_k03_whole_ages
set_option Elab.async false
set_option linter.all false
set_option maxRecDepth 100000
set_option autoImplicit false
/-! Data instead of heaps: what a value of the layer stands for (Rep), the state of a body as data (S), what holds between both (Rel), readings by functions on data (rdG, rdS). -/
namespace Ls
open PySem PySem.Spec L2
/-- data -/
inductive D where
  | non | bl (b : Bool) | int (i : Int) | str (x : Str)
  | tup (ds : List D) | lst (ds : List D) | wl (ds : List D) | dct (kvs : List (Key × D)) | dcT (kvs : List (List Key × D))
  | obj (n : Nat) | fn (x : Str)
  | exc (cls : Str) (fld : Option Str) (val : D)
/-- what never changes: the written part, the module's names -/
structure Ct where
  K : PySem.W.Frag
  mg : Str → Option Value
  T : List (Addr × Str)
/-- no table of code objects -/
def NT (o : HO) : Prop := ∀ ps, o ≠ .tbl ps
theorem nt_or (o : HO) : NT o ∨ ∃ ps, o = .tbl ps := Classical.byCases (fun h : ∃ ps, o = .tbl ps => .inr h) fun h => .inl fun ps q => h ⟨ps, q⟩
/-- nothing of ours there -/
def Fr (H : Hp) (a : Addr) : Prop := ∀ o, H a = some o → ¬ NT o
theorem Fr.of {H : Hp} {a : Addr} (h : H a = none) : Fr H a := fun o q => by rw [h] at q; cases q
theorem Fr.no {H : Hp} {a : Addr} {o : HO} {p : Prop} (h : Fr H a) (q : H a = some o) (m : NT o := by nofun) : p := (h o q m).elim
theorem Fr.not {H : Hp} {a : Addr} (h : ¬ Fr H a) : ∃ o, H a = some o ∧ NT o := Classical.byContradiction fun q => h fun o x y => q ⟨o, x, y⟩
/-- a tuple, a list of the written part -/
def WrT (K : PySem.W.Frag) (a : Addr) (xs : List V) : Prop := ∃ (o : Obj) (its : Array Value) (n : Nat), K.lookup a = some o ∧ o.cls = .type "tuple" ∧ o.data = .seq its n ∧ its.size ≤ sizeLine ∧ Vals xs its.toList
def WrL (K : PySem.W.Frag) (a : Addr) (xs : List V) : Prop := ∃ (o : Obj) (its : Array Value) (n : Nat), K.lookup a = some o ∧ o.cls = .type "list" ∧ o.dict = none ∧ o.data = .seq its n ∧ its.size ≤ sizeLine ∧ Vals xs its.toList
def AtT (K : PySem.W.Frag) (F : Addr → Prop) (H : Hp) (a : Addr) (xs : List V) : Prop := (F a ∧ Rd H a (.tup xs)) ∨ WrT K a xs
def AtL (K : PySem.W.Frag) (F : Addr → Prop) (H : Hp) (a : Addr) (xs : List V) : Prop := (F a ∧ Rd H a (.lst xs)) ∨ WrL K a xs
theorem AtT.sq {K : PySem.W.Frag} {F : Addr → Prop} {H : Hp} {a : Addr} {xs : List V} (h : AtT K F H a xs) : SqT K H a xs := h.imp (·.2) id
theorem AtL.sq {K : PySem.W.Frag} {F : Addr → Prop} {H : Hp} {a : Addr} {xs : List V} (h : AtL K F H a xs) : SqL K H a xs := h.imp (·.2) id
/-- an exception object of the class cls, its own dict at d, at a -/
def ExcV (cls : Value) (d : Option Addr) (a : Addr) : HO := .ext fun h => ∃ (oe : Obj) (vs : Array Value), h.get? a = some oe ∧ Zc cls d oe ∧ oe.data = .fields vs
mutual
/-- the value v stands for the data, its objects among F (or written), the shared ones told by ρ -/
def Rep (c : Ct) (F : Addr → Prop) (ρ : List Addr) (H : Hp) : D → V → Prop
  | .non, v => v = .non
  | .bl b, v => v = .bl b
  | .int i, v => v = .int i
  | .str x, v => v = .str x
  | .tup ds, v => ∃ a vs, v = .ref a ∧ AtT c.K F H a vs ∧ RepL c F ρ H ds vs
  | .lst ds, v => ∃ a vs, v = .ref a ∧ (F a ∧ H a = some (.lst vs)) ∧ RepL c F ρ H ds vs
  | .wl ds, v => ∃ a vs, v = .ref a ∧ AtL c.K F H a vs ∧ RepL c F ρ H ds vs
  | .dct kvs, v => ∃ a, v = .ref a ∧ F a ∧ ∃ es, H a = some (.dK es) ∧ RepK c F ρ H kvs es
  | .dcT kvs, v => ∃ a, v = .ref a ∧ F a ∧ ∃ es, H a = some (.dT es) ∧ RepT c F ρ H kvs es
  | .obj n, v => ∃ a, v = .ref a ∧ ρ[n]? = some a
  | .fn x, v => ∃ a, v = .ref a ∧ c.mg x = some (.ref a)
  | .exc x fld val, v => ∃ a C d, v = .ref a ∧ F a ∧ c.mg x = some (.ref C) ∧ H a = some (ExcV (.ref C) d a) ∧ (match fld with
    | none => d = none
    | some n => ∃ dd w, d = some dd ∧ F dd ∧ H dd = some (.xd [(n, w)]) ∧ Rep c F ρ H val w)
def RepL (c : Ct) (F : Addr → Prop) (ρ : List Addr) (H : Hp) : List D → List V → Prop
  | [], vs => vs = []
  | d :: ds, vs => ∃ v ws, vs = v :: ws ∧ Rep c F ρ H d v ∧ RepL c F ρ H ds ws
def RepK (c : Ct) (F : Addr → Prop) (ρ : List Addr) (H : Hp) : List (Key × D) → List (Key × V) → Prop
  | [], vs => vs = []
  | (k, d) :: ds, vs => ∃ v ws, vs = (k, v) :: ws ∧ Rep c F ρ H d v ∧ RepK c F ρ H ds ws
def RepT (c : Ct) (F : Addr → Prop) (ρ : List Addr) (H : Hp) : List (List Key × D) → List (List Key × V) → Prop
  | [], vs => vs = []
  | (k, d) :: ds, vs => ∃ v ws, vs = (k, v) :: ws ∧ Rep c F ρ H d v ∧ RepT c F ρ H ds ws
end
/-- from one heap to a later one what data stands on is kept -/
structure Kp (F F' : Addr → Prop) (ρ ρ' : List Addr) (H H' : Hp) : Prop where
  mono : ∀ a, F a → F' a
  rho : ∃ t, ρ' = ρ ++ t
  keep : ∀ a o, F a → H a = some o → H' a = some o
section
variable {c : Ct} {K : PySem.W.Frag} {F F' F1 F2 : Addr → Prop} {ρ ρ' ρ1 ρ2 : List Addr} {H H' H1 H2 : Hp}
theorem Kp.refl : Kp F F ρ ρ H H := ⟨fun _ h => h, ⟨[], by simp⟩, fun _ _ _ h => h⟩
theorem Kp.trans (a : Kp F F1 ρ ρ1 H H1) (b : Kp F1 F2 ρ1 ρ2 H1 H2) : Kp F F2 ρ ρ2 H H2 := by
  obtain ⟨t, rfl⟩ := a.rho
  obtain ⟨u, rfl⟩ := b.rho
  exact ⟨fun x h => b.mono x (a.mono x h), ⟨t ++ u, by simp⟩, fun x o f h => b.keep x o (a.mono x f) (a.keep x o f h)⟩
theorem rd_kp {a : Addr} {u : HO} (k : Kp F F' ρ ρ' H H') (f : F a) (h : Rd H a u) : Rd H' a u := by
  rcases h with h | ⟨o, h⟩
  · exact .inl (k.keep _ _ f h)
  · exact .inr ⟨o, k.keep _ _ f h⟩
theorem AtT.kp {a : Addr} {vs : List V} (k : Kp F F' ρ ρ' H H') (h : AtT K F H a vs) : AtT K F' H' a vs := by
  rcases h with ⟨f, h⟩ | h
  · exact .inl ⟨k.mono _ f, rd_kp k f h⟩
  · exact .inr h
theorem AtL.kp {a : Addr} {vs : List V} (k : Kp F F' ρ ρ' H H') (h : AtL K F H a vs) : AtL K F' H' a vs := by
  rcases h with ⟨f, h⟩ | h
  · exact .inl ⟨k.mono _ f, rd_kp k f h⟩
  · exact .inr h
mutual
theorem Rep.kp (k : Kp F F' ρ ρ' H H') : ∀ (d : D) (v : V), Rep c F ρ H d v → Rep c F' ρ' H' d v
  | .non, v, h => by unfold Rep at h ⊢; exact h
  | .bl b, v, h => by unfold Rep at h ⊢; exact h
  | .int i, v, h => by unfold Rep at h ⊢; exact h
  | .str x, v, h => by unfold Rep at h ⊢; exact h
  | .tup ds, v, h => by
    unfold Rep at h ⊢
    obtain ⟨a, vs, e, s, r⟩ := h
    exact ⟨a, vs, e, s.kp k, RepL.kp k ds vs r⟩
  | .lst ds, v, h => by
    unfold Rep at h ⊢
    obtain ⟨a, vs, e, ⟨f, s⟩, r⟩ := h
    exact ⟨a, vs, e, ⟨k.mono _ f, k.keep _ _ f s⟩, RepL.kp k ds vs r⟩
  | .wl ds, v, h => by
    unfold Rep at h ⊢
    obtain ⟨a, vs, e, s, r⟩ := h
    exact ⟨a, vs, e, s.kp k, RepL.kp k ds vs r⟩
  | .dct kvs, v, h => by
    unfold Rep at h ⊢
    obtain ⟨a, e, f, es, h, r⟩ := h
    exact ⟨a, e, k.mono a f, es, k.keep _ _ f h, RepK.kp k kvs es r⟩
  | .dcT kvs, v, h => by
    unfold Rep at h ⊢
    obtain ⟨a, e, f, es, h, r⟩ := h
    exact ⟨a, e, k.mono a f, es, k.keep _ _ f h, RepT.kp k kvs es r⟩
  | .obj i, v, h => by
    unfold Rep at h ⊢
    obtain ⟨a, e, q⟩ := h
    obtain ⟨t, ht⟩ := k.rho
    refine ⟨a, e, ?_⟩
    rw [ht, List.getElem?_append_left (List.getElem?_eq_some_iff.mp q).1]
    exact q
  | .fn x, v, h => by unfold Rep at h ⊢; exact h
  | .exc x none val, v, h => by
    unfold Rep at h ⊢
    obtain ⟨a, C, d, e, f, g, h, q⟩ := h
    exact ⟨a, C, d, e, k.mono _ f, g, k.keep _ _ f h, q⟩
  | .exc x (some n) val, v, h => by
    unfold Rep at h ⊢
    obtain ⟨a, C, d, e, f, g, h, dd, w, e2, f2, h2, r⟩ := h
    exact ⟨a, C, d, e, k.mono _ f, g, k.keep _ _ f h, dd, w, e2, k.mono _ f2, k.keep _ _ f2 h2, Rep.kp k _ _ r⟩
theorem RepL.kp (k : Kp F F' ρ ρ' H H') : ∀ (d : List D) (v : List V), RepL c F ρ H d v → RepL c F' ρ' H' d v
  | [], v, h => by unfold RepL at h ⊢; exact h
  | d :: ds, vs, h => by
    unfold RepL at h ⊢
    obtain ⟨v, ws, e, r, q⟩ := h
    exact ⟨v, ws, e, Rep.kp k d v r, RepL.kp k ds ws q⟩
theorem RepK.kp (k : Kp F F' ρ ρ' H H') : ∀ (d : List (Key × D)) (v : List (Key × V)), RepK c F ρ H d v → RepK c F' ρ' H' d v
  | [], v, h => by unfold RepK at h ⊢; exact h
  | (_, d) :: ds, vs, h => by
    unfold RepK at h ⊢
    obtain ⟨v, ws, e, r, q⟩ := h
    exact ⟨v, ws, e, Rep.kp k d v r, RepK.kp k ds ws q⟩
theorem RepT.kp (k : Kp F F' ρ ρ' H H') : ∀ (d : List (List Key × D)) (v : List (List Key × V)), RepT c F ρ H d v → RepT c F' ρ' H' d v
  | [], v, h => by unfold RepT at h ⊢; exact h
  | (_, d) :: ds, vs, h => by
    unfold RepT at h ⊢
    obtain ⟨v, ws, e, r, q⟩ := h
    exact ⟨v, ws, e, Rep.kp k d v r, RepT.kp k ds ws q⟩
end
end
/-! ### the state of a body -/
/-- a slot: not known; data; a list, a dict of the body's own that nobody else sees -/
inductive Sl where
  | emp | sh (d : D) | own (ds : List D) | ownK (kvs : List (Key × D)) | ownT (kvs : List (List Key × D))
/-- a shared object -/
inductive Ob where
  | dct (kvs : List (Key × D))
structure S where
  env : List Sl
  st : List Ob
/-- an exception: its class, its field -/
structure Ex where
  cls : Str
  fld : Option Str
  val : D
inductive Res (α : Type) where
  | bad | ok (a : α) (s : S) | exc (e : Ex) (s : S)
abbrev M (α : Type) := S → Res α
def M.pure {α : Type} (a : α) : M α := fun s => .ok a s
def Res.bind {α β : Type} (r : Res α) (g : α → M β) : Res β := match r with
  | .bad => .bad
  | .ok a s => g a s
  | .exc e s => .exc e s
def M.bind {α β : Type} (f : M α) (g : α → M β) : M β := fun s => (f s).bind g
def M.bad {α : Type} : M α := fun _ => .bad
def ofO {α : Type} : Option α → M α
  | none => M.bad
  | some a => M.pure a
/-- what a statement comes to -/
inductive SR where
  | bad | nx (s : S) | rt (d : D) (s : S) | bk (s : S) | ct (s : S) | exc (e : Ex) (s : S)
abbrev SM := S → SR
/-- the object at a stands for the slot's list, its dict -/
def OwnL (c : Ct) (F : Addr → Prop) (ρ : List Addr) (H : Hp) (ds : List D) (a : Addr) : Prop := ∃ vs, H a = some (.lst vs) ∧ RepL c F ρ H ds vs
def OwnK (c : Ct) (F : Addr → Prop) (ρ : List Addr) (H : Hp) (kvs : List (Key × D)) (a : Addr) : Prop := ∃ es, H a = some (.dK es) ∧ RepK c F ρ H kvs es
def OwnT (c : Ct) (F : Addr → Prop) (ρ : List Addr) (H : Hp) (kvs : List (List Key × D)) (a : Addr) : Prop := ∃ es, H a = some (.dT es) ∧ RepT c F ρ H kvs es
/-- the address that a slot owns -/
def Sl.owns : Sl → Option V → Addr → Prop
  | .own _, some (.ref a), b => a = b
  | .ownK _, some (.ref a), b => a = b
  | .ownT _, some (.ref a), b => a = b
  | _, _, _ => False
def SlotOk (c : Ct) (F : Addr → Prop) (ρ : List Addr) (H : Hp) : Sl → Option V → Prop
  | .emp, _ => True
  | .sh d, o => ∃ v, o = some v ∧ Rep c F ρ H d v
  | .own ds, o => ∃ a, o = some (.ref a) ∧ OwnL c F ρ H ds a
  | .ownK kvs, o => ∃ a, o = some (.ref a) ∧ OwnK c F ρ H kvs a
  | .ownT kvs, o => ∃ a, o = some (.ref a) ∧ OwnT c F ρ H kvs a
def ObOk (c : Ct) (F : Addr → Prop) (ρ : List Addr) (H : Hp) : Ob → Addr → Prop
  | .dct kvs, a => ∃ es, H a = some (.dK es) ∧ RepK c F ρ H kvs es
/-- where a body was entered -/
structure En where
  c : Ct
  F0 : Addr → Prop
  ρ0 : List Addr
  H0 : Hp
def owned (env : List Sl) (σ : St) (b : Addr) : Prop := ∃ (i : Nat) (x : Sl), env[i]? = some x ∧ x.owns (σ[i]?.join) b
structure Rel (e : En) (F : Addr → Prop) (ρ : List Addr) (s : S) (σ : St) (H : Hp) : Prop where
  len : σ.length = s.env.length
  slot : ∀ (i : Nat) (x : Sl), s.env[i]? = some x → SlotOk e.c F ρ H x (σ[i]?.join)
  dist : ∀ (i j : Nat) (x y : Sl) (b : Addr), s.env[i]? = some x → s.env[j]? = some y → x.owns (σ[i]?.join) b → y.owns (σ[j]?.join) b → i = j
  ownF : ∀ b, owned s.env σ b → ¬ F b ∧ b ∉ ρ ∧ Fr e.H0 b
  rlen : ρ.length = s.st.length
  store : ∀ (n : Nat) o a, s.st[n]? = some o → ρ[n]? = some a → ObOk e.c F ρ H o a
  nodup : ρ.Nodup
  sep : ∀ a ∈ ρ, ¬ F a
  fF : ∀ a, F a → e.F0 a ∨ Fr e.H0 a
  mono : ∀ a, e.F0 a → F a
  trk : ∀ a, F a → ∃ o, H a = some o ∧ NT o
  rho : ∃ t, ρ = e.ρ0 ++ t ∧ ∀ a ∈ t, Fr e.H0 a
  frm : ∀ a o, e.H0 a = some o → a ∉ e.ρ0 → NT o → H a = some o
  tab : LamX.Tabs e.c.T H
end Ls
namespace Ls
open PySem PySem.Spec L2
/-- from one state of a body to a later one, within an expression: what is tracked stays, but for the shared objects -/
structure Stp (F F' : Addr → Prop) (ρ ρ' : List Addr) (s s' : S) (σ : L2.St) (H H' : Hp) : Prop where
  mono : ∀ a, F a → F' a
  new : ∀ a, F' a → F a ∨ Fr H a ∨ owned s.env σ a
  own : ∀ a, owned s'.env σ a → owned s.env σ a
  rho : ∃ t, ρ' = ρ ++ t ∧ ∀ a ∈ t, Fr H a
  keep : ∀ a o, H a = some o → a ∉ ρ → NT o → H' a = some o
  dom : ∀ a, ¬ Fr H a → ¬ Fr H' a
section
variable {e : En} {F F' F1 F2 : Addr → Prop} {ρ ρ' ρ1 ρ2 : List Addr} {s s' s1 s2 : S} {σ : L2.St} {H H' H1 H2 : Hp}
theorem Stp.refl : Stp F F ρ ρ s s σ H H := ⟨fun _ h => h, fun _ h => .inl h, fun _ h => h, ⟨[], by simp⟩, fun _ _ h _ _ => h, fun _ h => h⟩
theorem Stp.trans (x : Stp F F1 ρ ρ1 s s1 σ H H1) (y : Stp F1 F2 ρ1 ρ2 s1 s2 σ H1 H2) : Stp F F2 ρ ρ2 s s2 σ H H2 := by
  obtain ⟨t, rfl, ht⟩ := x.rho
  obtain ⟨u, rfl, hu⟩ := y.rho
  have back : ∀ a, Fr H1 a → Fr H a := fun a h => Classical.byContradiction fun q => x.dom a q h
  refine ⟨fun a h => y.mono a (x.mono a h), fun a h => ?_, fun a h => x.own a (y.own a h), ⟨t ++ u, by simp, fun a ha => ?_⟩, fun a o h n m => ?_, fun a h => y.dom a (x.dom a h)⟩
  · rcases y.new a h with h | h | h
    · exact x.new a h
    · exact .inr (.inl (back a h))
    · exact .inr (.inr (x.own a h))
  · rcases List.mem_append.mp ha with h | h
    · exact ht a h
    · exact back a (hu a h)
  · refine y.keep a o (x.keep a o h n m) (fun q => ?_) m
    rcases List.mem_append.mp q with q | q
    · exact n q
    · exact (ht a q).no h m
theorem Stp.kp (x : Stp F F' ρ ρ' s s' σ H H') (r : Rel e F ρ s σ H) : Kp F F' ρ ρ' H H' := by
  obtain ⟨t, ht, _⟩ := x.rho
  exact ⟨x.mono, ⟨t, ht⟩, fun a o f h => x.keep a o h (fun q => r.sep a q f) (by obtain ⟨u, h1, h2⟩ := r.trk a f; rw [h] at h1; cases h1; exact h2)⟩
/-! ### readings by functions on data -/
/-- what a result is to what is handed on: the heap at the start, F, ρ, the state, the slots, the heap, the data, the thing -/
abbrev RR (α τ : Type) := En → Hp → (Addr → Prop) → List Addr → S → L2.St → Hp → α → τ → Prop
/-- an exception in the air -/
def ExR (c : Ct) (F : Addr → Prop) (ρ : List Addr) (H : Hp) (x : Ex) (cls : Value) (dd : Option Addr) : Prop :=
  (∃ C, cls = .ref C ∧ c.mg x.cls = some (.ref C)) ∧ match x.fld with
    | none => dd = none
    | some n => ∃ a v, dd = some a ∧ F a ∧ H a = some (.xd [(n, v)]) ∧ Rep c F ρ H x.val v
def rdAt {α τ : Type} (e : En) (W : WX) (R : RR α τ) (f : M α) (Hs : Hp) (F : Addr → Prop) (ρ : List Addr) (s : S) (σ : L2.St) (H : Hp) (Q : τ → Hp → Prop) : Prop :=
  match f s with
  | .bad => False
  | .ok d s' => ∀ v F' ρ' H', Stp F F' ρ ρ' s s' σ H H' → Rel e F' ρ' s' σ H' → R e Hs F' ρ' s' σ H' d v → Q v H'
  | .exc x s' => ∀ cls dd F' ρ' H', Stp F F' ρ ρ' s s' σ H H' → Rel e F' ρ' s' σ H' → ExR e.c F' ρ' H' x cls dd → W cls dd σ H'
def rdG {α τ : Type} (e : En) (W : WX) (R : RR α τ) (f : M α) : L2.St → Hp → (τ → Hp → Prop) → Prop := fun σ H Q => ∃ F ρ s, Rel e F ρ s σ H ∧ rdAt e W R f H F ρ s σ H Q
variable {W : WX} {α β τ υ : Type} {Hs : Hp}
/-- one behind the other -/
theorem rdAt_bind {R1 : RR α τ} {R : RR β υ} {f : M α} {g : α → M β} {Q : υ → Hp → Prop} {P : τ → Hp → Prop} (h : rdAt e W R (M.bind f g) Hs F ρ s σ H Q)
    (k : ∀ v F1 ρ1 s1 H1 a, Stp F F1 ρ ρ1 s s1 σ H H1 → Rel e F1 ρ1 s1 σ H1 → R1 e H F1 ρ1 s1 σ H1 a v → rdAt e W R (g a) Hs F1 ρ1 s1 σ H1 Q → P v H1) : rdAt e W R1 f H F ρ s σ H P := by
  unfold rdAt at h ⊢
  unfold M.bind Res.bind at h
  cases q : f s with
  | bad => rw [q] at h; exact h
  | exc x s' => rw [q] at h; exact h
  | ok d s' =>
    rw [q] at h
    intro v F1 ρ1 H1 st r1 rr
    refine k v F1 ρ1 s' H1 d st r1 rr ?_
    unfold rdAt
    dsimp only at h
    cases q2 : g d s' with
    | bad => rw [q2] at h; exact h
    | exc x s' => rw [q2] at h; exact fun cls dd F' ρ' H' st2 => h cls dd F' ρ' H' (st.trans st2)
    | ok d' s2 =>
      rw [q2] at h
      exact fun v F' ρ' H' st2 r2 rr2 => h v F' ρ' H' (st.trans st2) r2 rr2
theorem rdG_bind {R1 : RR α τ} {R : RR β υ} {f : M α} {g : α → M β} {Q : υ → Hp → Prop} {P : τ → Hp → Prop} (h : rdG e W R (M.bind f g) σ H Q)
    (k : ∀ v F ρ s F1 ρ1 s1 H1 a, Rel e F ρ s σ H → Stp F F1 ρ ρ1 s s1 σ H H1 → Rel e F1 ρ1 s1 σ H1 → R1 e H F1 ρ1 s1 σ H1 a v → rdAt e W R (g a) H F1 ρ1 s1 σ H1 Q → P v H1) : rdG e W R1 f σ H P := by
  obtain ⟨F, ρ, s, r, h⟩ := h
  exact ⟨F, ρ, s, r, rdAt_bind h fun v F1 ρ1 s1 H1 a => k v F ρ s F1 ρ1 s1 H1 a r⟩
theorem rdAt_pure {R : RR α τ} {a : α} {Q : τ → Hp → Prop} {v : τ} (h : rdAt e W R (M.pure a) Hs F ρ s σ H Q) (r : Rel e F ρ s σ H) (q : R e Hs F ρ s σ H a v) : Q v H := h v F ρ H Stp.refl r q
/-- from a later state -/
theorem rdAt_mov {R : RR α τ} {f : M α} {Q : τ → Hp → Prop} (h : rdAt e W R f Hs F ρ s σ H Q) (st : Stp F F' ρ ρ' s s σ H H') : rdAt e W R f Hs F' ρ' s σ H' Q := by
  unfold rdAt at h ⊢
  cases q : f s with
  | bad => rw [q] at h; exact h
  | exc x s' => rw [q] at h; exact fun cls dd F2 ρ2 H2 st2 => h cls dd F2 ρ2 H2 (st.trans st2)
  | ok d s' => rw [q] at h; exact fun v F2 ρ2 H2 st2 => h v F2 ρ2 H2 (st.trans st2)
/-- an end that the data tells -/
theorem rdAt_ofO {R : RR α τ} {o : Option α} {Q : τ → Hp → Prop} (h : rdAt e W R (ofO o) Hs F ρ s σ H Q) : ∃ a, o = some a ∧ rdAt e W R (M.pure a) Hs F ρ s σ H Q := by
  cases o with
  | none => exact (show False from h).elim
  | some a => exact ⟨a, rfl, h⟩
/-! ### the relations -/
/-- data; data that may be the body's own list or dict, lent; a new list; a truth; arguments -/
def RD : RR D V := fun e _ F ρ _ _ H d v => Rep e.c F ρ H d v
def LentL (c : Ct) (F : Addr → Prop) (ρ : List Addr) (H : Hp) (ds : List D) (v : V) : Prop := ∃ a vs, v = .ref a ∧ a ∉ ρ ∧ H a = some (.lst vs) ∧ RepL c F ρ H ds vs
def LentK (c : Ct) (F : Addr → Prop) (ρ : List Addr) (H : Hp) (kvs : List (Key × D)) (v : V) : Prop := ∃ a, v = .ref a ∧ a ∉ ρ ∧ ∃ es, H a = some (.dK es) ∧ RepK c F ρ H kvs es
def LentT (c : Ct) (F : Addr → Prop) (ρ : List Addr) (H : Hp) (kvs : List (List Key × D)) (v : V) : Prop := ∃ a, v = .ref a ∧ a ∉ ρ ∧ ∃ es, H a = some (.dT es) ∧ RepT c F ρ H kvs es
def Lent (c : Ct) (F : Addr → Prop) (ρ : List Addr) (H : Hp) (d : D) (v : V) : Prop := match d with
  | .lst ds => LentL c F ρ H ds v
  | .dct kvs => LentK c F ρ H kvs v
  | .dcT kvs => LentT c F ρ H kvs v
  | d => Rep c F ρ H d v
def RB : RR D V := fun e _ F ρ _ _ H d v => Lent e.c F ρ H d v
def RL : RR (List D) V := fun e Hs F ρ s σ H ds v => ∃ a vs, v = .ref a ∧ Fr Hs a ∧ ¬ F a ∧ a ∉ ρ ∧ Fr e.H0 a ∧ ¬ owned s.env σ a ∧ H a = some (.lst vs) ∧ RepL e.c F ρ H ds vs
def RT : RR Bool Bool := fun _ _ _ _ _ _ _ b b' => b = b'
def RA : RR (List D) (List V) := fun e _ F ρ _ _ H ds vs => RepL e.c F ρ H ds vs
/-- what a slot will hold -/
def RS : RR Sl V := fun e Hs F ρ s σ H x v => match x with
  | .emp => False
  | .sh d => Rep e.c F ρ H d v
  | .own ds => RL e Hs F ρ s σ H ds v
  | .ownK kvs => ∃ a, v = .ref a ∧ Fr Hs a ∧ ¬ F a ∧ a ∉ ρ ∧ Fr e.H0 a ∧ ¬ owned s.env σ a ∧ OwnK e.c F ρ H kvs a
  | .ownT kvs => ∃ a, v = .ref a ∧ Fr Hs a ∧ ¬ F a ∧ a ∉ ρ ∧ Fr e.H0 a ∧ ¬ owned s.env σ a ∧ OwnT e.c F ρ H kvs a
theorem Rep.lent (r : Rel e F ρ s σ H) : ∀ {d : D} {v : V}, Rep e.c F ρ H d v → Lent e.c F ρ H d v
  | .non, v, h | .bl b, v, h | .int i, v, h | .str x, v, h | .tup ds, v, h | .wl ds, v, h | .obj n, v, h | .fn x, v, h | .exc _ _ _, v, h => h
  | .lst ds, v, h => by
    unfold Rep at h
    obtain ⟨a, vs, e, ⟨f, h⟩, q⟩ := h
    exact ⟨a, vs, e, fun z => r.sep a z f, h, q⟩
  | .dct ds, v, h => by
    unfold Rep at h
    obtain ⟨a, e, f, q⟩ := h
    exact ⟨a, e, fun z => r.sep a z f, q⟩
  | .dcT ds, v, h => by
    unfold Rep at h
    obtain ⟨a, e, f, q⟩ := h
    exact ⟨a, e, fun z => r.sep a z f, q⟩
theorem rd_stp {a : Addr} {u : HO} (x : Stp F F' ρ ρ' s s' σ H H') (n : a ∉ ρ) (h : Rd H a u) (m : NT u := by nofun) : Rd H' a u ∧ a ∉ ρ' := by
  have q : ∃ o, H a = some o ∧ NT o := h.elim (fun h => ⟨_, h, m⟩) fun ⟨o, h⟩ => ⟨_, h, by nofun⟩
  obtain ⟨t, rfl, ht⟩ := x.rho
  refine ⟨h.imp (fun h => x.keep _ _ h n m) (fun ⟨o, h⟩ => ⟨o, x.keep _ _ h n (by nofun)⟩), fun z => ?_⟩
  rcases List.mem_append.mp z with z | z
  · exact n z
  · obtain ⟨o, q, hm⟩ := q
    exact (ht a z).no q hm
theorem Lent.stp (r : Rel e F ρ s σ H) (x : Stp F F' ρ ρ' s s' σ H H') : ∀ {d : D} {v : V}, Lent e.c F ρ H d v → Lent e.c F' ρ' H' d v
  | .non, v, h | .bl b, v, h | .int i, v, h | .str _, v, h | .tup ds, v, h | .wl ds, v, h | .obj n, v, h | .fn _, v, h | .exc _ _ _, v, h => Rep.kp (x.kp r) _ _ h
  | .lst ds, v, h => by
    obtain ⟨a, vs, e, n, h, q⟩ := h
    exact ⟨a, vs, e, (rd_stp x n (.of h)).2, x.keep _ _ h n (by nofun), RepL.kp (x.kp r) _ _ q⟩
  | .dct ds, v, h => by
    obtain ⟨a, e, n, es, h, q⟩ := h
    exact ⟨a, e, (rd_stp x n (.of h)).2, es, x.keep _ _ h n (by nofun), RepK.kp (x.kp r) _ _ q⟩
  | .dcT ds, v, h => by
    obtain ⟨a, e, n, es, h, q⟩ := h
    exact ⟨a, e, (rd_stp x n (.of h)).2, es, x.keep _ _ h n (by nofun), RepT.kp (x.kp r) _ _ q⟩
theorem LentL.sq {c : Ct} {ds : List D} {v : V} (h : LentL c F ρ H ds v) : ∃ a vs, v = .ref a ∧ SqL c.K H a vs ∧ RepL c F ρ H ds vs := by
  obtain ⟨a, vs, e, n, h, q⟩ := h
  exact ⟨a, vs, e, .of h, q⟩
theorem Rep.wlSq {c : Ct} {ds : List D} {v : V} (h : Rep c F ρ H (.wl ds) v) : ∃ a vs, v = .ref a ∧ SqL c.K H a vs ∧ RepL c F ρ H ds vs := by
  unfold Rep at h
  obtain ⟨a, vs, e, at_, q⟩ := h
  exact ⟨a, vs, e, at_.sq, q⟩
theorem Rep.tupSq {c : Ct} {ds : List D} {v : V} (h : Rep c F ρ H (.tup ds) v) : ∃ a vs, v = .ref a ∧ SqT c.K H a vs ∧ RepL c F ρ H ds vs := by
  unfold Rep at h
  obtain ⟨a, vs, e, at_, q⟩ := h
  exact ⟨a, vs, e, at_.sq, q⟩
theorem RepL.length {c : Ct} : ∀ {ds : List D} {vs : List V}, RepL c F ρ H ds vs → vs.length = ds.length
  | [], vs, h => by unfold RepL at h; rw [h]; rfl
  | d :: ds, vs, h => by
    unfold RepL at h
    obtain ⟨v, ws, rfl, _, q⟩ := h
    rw [List.length_cons, List.length_cons, RepL.length q]
theorem RepL.get {c : Ct} : ∀ {ds : List D} {vs : List V} {i : Nat} {d : D}, RepL c F ρ H ds vs → ds[i]? = some d → ∃ v, vs[i]? = some v ∧ Rep c F ρ H d v
  | [], vs, i, d, h, q => by simp at q
  | d :: ds, vs, 0, d', h, q => by
    unfold RepL at h
    obtain ⟨v, ws, rfl, r, _⟩ := h
    simp at q
    subst q
    exact ⟨v, rfl, r⟩
  | d :: ds, vs, i + 1, d', h, q => by
    unfold RepL at h
    obtain ⟨v, ws, rfl, _, r⟩ := h
    exact RepL.get (i := i) r (by simpa using q)
theorem RepL.get' {c : Ct} : ∀ {ds : List D} {vs : List V} {i : Nat} {v : V}, RepL c F ρ H ds vs → vs[i]? = some v → ∃ d, ds[i]? = some d ∧ Rep c F ρ H d v := by
  intro ds vs i v h q
  have hl := h.length
  have hi := (List.getElem?_eq_some_iff.mp q).1
  have hd : ds[i]? = some ds[i] := List.getElem?_eq_getElem (by omega)
  obtain ⟨v', q', r⟩ := h.get hd
  rw [q] at q'
  cases q'
  exact ⟨_, hd, r⟩
theorem RepL.append {c : Ct} : ∀ {ds es : List D} {vs ws : List V}, RepL c F ρ H ds vs → RepL c F ρ H es ws → RepL c F ρ H (ds ++ es) (vs ++ ws)
  | [], es, vs, ws, h, q => by
    unfold RepL at h
    subst h
    exact q
  | d :: ds, es, vs, ws, h, q => by
    unfold RepL at h
    obtain ⟨v, us, rfl, r, t⟩ := h
    show RepL c F ρ H (d :: (ds ++ es)) _
    unfold RepL
    exact ⟨v, us ++ ws, rfl, r, RepL.append t q⟩
theorem RepL.of {c : Ct} {ds : List D} {vs : List V} (hl : vs.length = ds.length) (h : ∀ (i : Nat) d v, ds[i]? = some d → vs[i]? = some v → Rep c F ρ H d v) : RepL c F ρ H ds vs := by
  induction ds generalizing vs with
  | nil => unfold RepL; exact List.eq_nil_of_length_eq_zero hl
  | cons d ds ih =>
    cases vs with
    | nil => simp at hl
    | cons v vs =>
      unfold RepL
      exact ⟨v, vs, rfl, h 0 d v rfl rfl, ih (by simpa using hl) fun i d' v' a b => h (i + 1) d' v' (by simpa using a) (by simpa using b)⟩
/-! ### a new object -/
theorem Rel.inRho2 (r : Rel e F ρ s σ H) {a : Addr} (ha : a ∈ ρ) : ∃ o, H a = some o ∧ NT o ∧ ∀ c q, o ≠ LamX.CodeO c q := by
  obtain ⟨n, hn⟩ := List.mem_iff_getElem?.mp ha
  have hl : n < s.st.length := by
    have := (List.getElem?_eq_some_iff.mp hn).1
    have := r.rlen
    omega
  obtain ⟨ob, hs⟩ : ∃ ob, s.st[n]? = some ob := ⟨_, List.getElem?_eq_getElem hl⟩
  have q := r.store n ob a hs hn
  cases ob with
  | dct kvs =>
    obtain ⟨es, q, _⟩ := q
    exact ⟨_, q, by nofun, fun _ _ => nofun⟩
theorem Rel.inOwn2 (r : Rel e F ρ s σ H) {b : Addr} (h : owned s.env σ b) : ∃ u, H b = some u ∧ NT u ∧ ∀ c q, u ≠ LamX.CodeO c q := by
  obtain ⟨i, x, h1, h2⟩ := h
  have q := r.slot i x h1
  cases x with
  | emp => exact h2.elim
  | sh d => exact h2.elim
  | own ds =>
    obtain ⟨a, ha, vs, hv, _⟩ := q
    rw [ha] at h2
    have h2 : a = b := h2
    subst h2
    exact ⟨_, hv, by nofun, fun _ _ => nofun⟩
  | ownK kvs =>
    obtain ⟨a, ha, es, hv, _⟩ := q
    rw [ha] at h2
    have h2 : a = b := h2
    subst h2
    exact ⟨_, hv, by nofun, fun _ _ => nofun⟩
  | ownT kvs =>
    obtain ⟨a, ha, es, hv, _⟩ := q
    rw [ha] at h2
    have h2 : a = b := h2
    subst h2
    exact ⟨_, hv, by nofun, fun _ _ => nofun⟩
theorem Rel.inRho (r : Rel e F ρ s σ H) {a : Addr} (ha : a ∈ ρ) : ∃ o, H a = some o ∧ NT o := (r.inRho2 ha).imp fun _ h => ⟨h.1, h.2.1⟩
theorem Rel.inOwn (r : Rel e F ρ s σ H) {b : Addr} (h : owned s.env σ b) : ∃ u, H b = some u ∧ NT u := (r.inOwn2 h).imp fun _ h => ⟨h.1, h.2.1⟩
/-- what is new here was new at the entry -/
theorem Rel.fresh0 (r : Rel e F ρ s σ H) {p : Addr} (hp : Fr H p) : Fr e.H0 p := fun u q m => by
  by_cases z : p ∈ e.ρ0
  · obtain ⟨t, ht, _⟩ := r.rho
    obtain ⟨o, q, m⟩ := r.inRho (a := p) (by rw [ht]; exact List.mem_append_left _ z)
    exact hp _ q m
  · exact hp _ (r.frm p u q z m) m
theorem Slot.kp {e : En} {x : Sl} {o : Option V} (k : Kp F F' ρ ρ' H H') (q : SlotOk e.c F ρ H x o) (w : ∀ b u, x.owns o b → H b = some u → H' b = some u) : SlotOk e.c F' ρ' H' x o := by
  cases x with
  | emp => trivial
  | sh d =>
    obtain ⟨v, e1, e2⟩ := q
    exact ⟨v, e1, Rep.kp k _ _ e2⟩
  | own ds =>
    obtain ⟨a, e1, vs, e2, e3⟩ := q
    subst e1
    exact ⟨a, rfl, vs, w _ _ rfl e2, RepL.kp k _ _ e3⟩
  | ownK kvs =>
    obtain ⟨a, e1, es, e2, e3⟩ := q
    subst e1
    exact ⟨a, rfl, es, w _ _ rfl e2, RepK.kp k _ _ e3⟩
  | ownT kvs =>
    obtain ⟨a, e1, es, e2, e3⟩ := q
    subst e1
    exact ⟨a, rfl, es, w _ _ rfl e2, RepT.kp k _ _ e3⟩
theorem Ob.kp {c : Ct} {ob : Ob} {a : Addr} (k : Kp F F' ρ ρ' H H') (q : ObOk c F ρ H ob a) (w : ∀ u, H a = some u → H' a = some u) : ObOk c F' ρ' H' ob a := by
  cases ob with
  | dct kvs =>
    obtain ⟨es, e2, e3⟩ := q
    exact ⟨es, w _ e2, RepK.kp k _ _ e3⟩
/-- a thing laid at a free place, frozen from the start -/
theorem Rel.laidF (r : Rel e F ρ s σ H) {p : Addr} (hp : H p = none) (o : HO) (no : NT o := by nofun) : Rel e (fun a => F a ∨ a = p) ρ s σ (upd H p o) ∧ Stp F (fun a => F a ∨ a = p) ρ ρ s s σ H (upd H p o) := by
  have sm : ∀ a u, H a = some u → upd H p o a = some u := fun a u h => by rw [upd_ne (ne_of_none h hp)]; exact h
  have k : Kp F (fun a => F a ∨ a = p) ρ ρ H (upd H p o) := ⟨fun _ h => .inl h, ⟨[], by simp⟩, fun a u _ h => sm a u h⟩
  refine ⟨⟨r.len, fun i x h => Slot.kp (e := e) k (r.slot i x h) fun b u _ q => sm b u q, r.dist, fun b hb => ?_, r.rlen, fun n ob a h1 h2 => Ob.kp k (r.store n ob a h1 h2) fun u q => sm a u q, r.nodup, fun a ha z => ?_, fun a ha => ?_, fun a ha => .inl (r.mono a ha), fun a ha => ?_, r.rho, fun a u h n m => sm a u (r.frm a u h n m), r.tab.ext sm⟩,
    ⟨fun _ h => .inl h, fun a h => ?_, fun _ h => h, ⟨[], by simp⟩, fun a u h _ _ => sm a u h, fun a h => ?_⟩⟩
  · obtain ⟨a1, a2, a3⟩ := r.ownF b hb
    refine ⟨fun z => ?_, a2, a3⟩
    rcases z with z | z
    · exact a1 z
    · obtain ⟨u, hu, _⟩ := r.inOwn hb
      rw [z, hp] at hu; cases hu
  · rcases z with z | z
    · exact r.sep a ha z
    · obtain ⟨u, hu, _⟩ := r.inRho ha
      rw [z, hp] at hu; cases hu
  · rcases ha with ha | ha
    · exact r.fF a ha
    · rw [ha]; exact .inr (r.fresh0 (.of hp))
  · rcases ha with ha | ha
    · obtain ⟨u, hu, m⟩ := r.trk a ha
      exact ⟨u, sm _ _ hu, m⟩
    · rw [ha]; exact ⟨o, upd_same, no⟩
  · rcases h with h | h
    · exact .inl h
    · rw [h]; exact .inr (.inl (.of hp))
  · obtain ⟨u, q, m⟩ := Fr.not h
    exact fun z => z.no (sm a u q) m
/-- a thing laid at a free place that is nobody's yet -/
theorem Rel.laidN (r : Rel e F ρ s σ H) {p : Addr} (hp : H p = none) (o : HO) (no : NT o := by nofun) : Rel e F ρ s σ (upd H p o) ∧ Stp F F ρ ρ s s σ H (upd H p o) ∧ ¬ F p ∧ p ∉ ρ ∧ Fr e.H0 p ∧ ¬ owned s.env σ p := by
  have sm : ∀ a u, H a = some u → upd H p o a = some u := fun a u h => by rw [upd_ne (ne_of_none h hp)]; exact h
  have k : Kp F F ρ ρ H (upd H p o) := ⟨fun _ h => h, ⟨[], by simp⟩, fun a u _ h => sm a u h⟩
  refine ⟨⟨r.len, fun i x h => Slot.kp (e := e) k (r.slot i x h) fun b u _ q => sm b u q, r.dist, r.ownF, r.rlen, fun n ob a h1 h2 => Ob.kp k (r.store n ob a h1 h2) fun u q => sm a u q, r.nodup, r.sep, r.fF, r.mono, fun a ha => ?_, r.rho, fun a u h n m => sm a u (r.frm a u h n m), r.tab.ext sm⟩,
    ⟨fun _ h => h, fun a h => .inl h, fun _ h => h, ⟨[], by simp⟩, fun a u h _ _ => sm a u h, fun a h => ?_⟩, fun z => ?_, fun z => ?_, r.fresh0 (.of hp), fun z => ?_⟩
  · obtain ⟨u, hu, m⟩ := r.trk a ha
    exact ⟨u, sm _ _ hu, m⟩
  · obtain ⟨u, q, m⟩ := Fr.not h
    exact fun z => z.no (sm a u q) m
  · obtain ⟨u, hu, _⟩ := r.trk p z
    rw [hp] at hu; cases hu
  · obtain ⟨u, hu, _⟩ := r.inRho z
    rw [hp] at hu; cases hu
  · obtain ⟨u, hu, _⟩ := r.inOwn z
    rw [hp] at hu; cases hu
/-- a thing of nobody's is frozen -/
theorem Rel.freeze (r : Rel e F ρ s σ H) {p : Addr} (h1 : p ∉ ρ) (h2 : Fr e.H0 p) (h3 : ¬ owned s.env σ p) (h4 : ∃ o, H p = some o ∧ NT o) : Rel e (fun a => F a ∨ a = p) ρ s σ H := by
  have k : Kp F (fun a => F a ∨ a = p) ρ ρ H H := ⟨fun _ h => .inl h, ⟨[], by simp⟩, fun a u _ h => h⟩
  refine ⟨r.len, fun i x h => Slot.kp (e := e) k (r.slot i x h) fun b u _ q => q, r.dist, fun b hb => ?_, r.rlen, fun n ob a h1 h2 => Ob.kp k (r.store n ob a h1 h2) fun u q => q, r.nodup, fun a ha z => ?_, fun a ha => ?_, fun a ha => .inl (r.mono a ha), fun a ha => ?_, r.rho, r.frm, r.tab⟩
  · obtain ⟨a1, a2, a3⟩ := r.ownF b hb
    refine ⟨fun z => ?_, a2, a3⟩
    rcases z with z | z
    · exact a1 z
    · rw [z] at hb; exact h3 hb
  · rcases z with z | z
    · exact r.sep a ha z
    · rw [z] at ha; exact h1 ha
  · rcases ha with ha | ha
    · exact r.fF a ha
    · rw [ha]; exact .inr h2
  · rcases ha with ha | ha
    · exact r.trk a ha
    · rw [ha]; exact h4
/-- the tables stay where only a list, a dict is written -/
theorem tabs_but {T : List (Addr × Str)} {p : Addr} {o : HO} (t : LamX.Tabs T H) (hp : H p = some o) (h1 : NT o) (h2 : ∀ c q, o ≠ LamX.CodeO c q) (k : ∀ b u, b ≠ p → H b = some u → H' b = some u) : LamX.Tabs T H' := fun q hq => by
  obtain ⟨ps, a1, a2, a3⟩ := t q hq
  refine ⟨ps, k _ _ (fun z => ?_) a1, a2, fun pos cv hc => ?_⟩
  · rw [z, hp] at a1
    exact h1 ps (Option.some.inj a1)
  · obtain ⟨c, e1, e2⟩ := a3 pos cv hc
    refine ⟨c, e1, k _ _ (fun z => ?_) e2⟩
    rw [z, hp] at e2
    exact h2 _ _ (Option.some.inj e2)
end
end Ls
namespace Ls
open PySem PySem.Spec L2
/-! ### pure operations on data -/
def SZ : Nat := 16777216
theorem SZ_eq : SZ = sizeLine := by rw [sizeLine_eq]; rfl
mutual
def toPy : D → PyData
  | .non => .none
  | .bl b => .bool b
  | .int i => .int i
  | .str x => .str x
  | .tup ds => .tuple (toPyL ds)
  | .lst ds => .list (toPyL ds)
  | .wl _ => .none
  | .dct _ => .none
  | .dcT _ => .none
  | .obj _ => .none
  | .fn _ => .none
  | .exc _ _ _ => .none
def toPyL : List D → List PyData
  | [] => []
  | d :: ds => toPy d :: toPyL ds
end
/-- data without dicts, shared objects, defs, so deep at most -/
def plainN : Nat → D → Bool
  | _, .non | _, .bl _ | _, .int _ => true
  | _, .str x => PyData.strOk x
  | n + 1, .tup ds | n + 1, .lst ds => ds.all (plainN n)
  | _, _ => false
theorem plainN_depth : ∀ (n : Nat) (d : D), plainN n d = true → PyData.canLay0 (toPy d) = true ∧ (toPy d).depth ≤ n := by
  intro n
  induction n with
  | zero =>
    intro d h
    cases d <;> first | (simp [plainN] at h; done) | (constructor <;> first | exact h | rfl | (simp [toPy, PyData.canLay0, PyData.depth]) )
  | succ n ih =>
    have all : ∀ ds : List D, ds.all (plainN n) = true → PyData.canLayAll0 (toPyL ds) = true ∧ PyData.depthAll (toPyL ds) ≤ n := by
      intro ds
      induction ds with
      | nil => intro _; exact ⟨rfl, Nat.zero_le _⟩
      | cons d ds ih2 =>
        intro h
        rw [List.all_cons, Bool.and_eq_true] at h
        obtain ⟨a, b⟩ := ih d h.1
        obtain ⟨c, e⟩ := ih2 h.2
        constructor
        · show (PyData.canLay0 (toPy d) && PyData.canLayAll0 (toPyL ds)) = true
          rw [a, c] <;> rfl
        · show max (toPy d).depth (PyData.depthAll (toPyL ds)) ≤ n
          exact Nat.max_le.mpr ⟨b, e⟩
    intro d h
    cases d with
    | tup ds =>
      obtain ⟨a, b⟩ := all ds h
      exact ⟨a, Nat.succ_le_succ b⟩
    | lst ds =>
      obtain ⟨a, b⟩ := all ds h
      exact ⟨a, Nat.succ_le_succ b⟩
    | str x => exact ⟨h, Nat.zero_le _⟩
    | non => exact ⟨rfl, Nat.zero_le _⟩
    | bl b => exact ⟨rfl, Nat.zero_le _⟩
    | int i => exact ⟨rfl, Nat.zero_le _⟩
    | dct _ => simp [plainN] at h
    | dcT _ => simp [plainN] at h
    | wl _ => simp [plainN] at h
    | obj _ => simp [plainN] at h
    | fn _ => simp [plainN] at h
    | exc _ _ _ => simp [plainN] at h
/-- == is told of data that are plain -/
def plain (d : D) : Bool := plainN 60 d
theorem plain_shaped {d : D} (h : plain d = true) : SeqAt.shaped (toPy d) = true := by
  obtain ⟨a, b⟩ := plainN_depth 60 d h
  unfold SeqAt.shaped
  rw [a, decide_eq_true (Nat.le_trans b (by decide : 60 ≤ 64))] <;> rfl
def deq (d e : D) : Bool := PyData.eqv (toPy d) (toPy e)
/-! the operations: none where they are not told of -/
def mulOk (i j : Int) : Bool := decide (i.natAbs < 2 ^ 64) || decide (j.natAbs < 2 ^ 64) || (decide (Builtin.Int.intBits i ≤ 2 ^ 20) && decide (Builtin.Int.intBits j ≤ 2 ^ 20))
theorem mulOk_ok {i j : Int} (h : mulOk i j = true) : IntMulOk i j := by
  unfold mulOk at h
  simp only [Bool.or_eq_true, Bool.and_eq_true, decide_eq_true_eq] at h
  rcases h with (h | h) | ⟨h, h'⟩
  · exact .of_left (intBits_le_64 (by omega) (by omega))
  · exact .of_right (intBits_le_64 (by omega) (by omega))
  · exact .of_bits h h'
def addD : D → D → Option D
  | .int i, .int j => some (.int (i + j))
  | .tup a, .tup b => if a.length + b.length ≤ SZ then some (.tup (a ++ b)) else none
  | .str a, .str b => if a.length + b.length ≤ SZ then some (.str (a ++ b)) else none
  | .lst a, .lst b => if a.length + b.length ≤ SZ then some (.lst (a ++ b)) else none
  | _, _ => none
def subD : D → D → Option D
  | .int i, .int j => some (.int (i - j))
  | _, _ => none
def mulD : D → D → Option D
  | .int i, .int j => if mulOk i j then some (.int (i * j)) else none
  | .tup a, .int k => if -(2 ^ 63) ≤ k ∧ k ≤ 1000 ∧ a.length ≤ 1000 then some (.tup (List.replicate k.toNat a).flatten) else none
  | .lst a, .int k => if -(2 ^ 63) ≤ k ∧ k < 2 ^ 63 ∧ a.length * k.toNat ≤ SZ then some (.lst (List.replicate k.toNat a).flatten) else none
  | _, _ => none
def fdivD : D → D → Option D
  | .int i, .int j => if 0 < j ∧ j.natAbs.log2 < 9000 then some (.int (i / j)) else none
  | _, _ => none
def modD : D → D → Option D
  | .int i, .int j => if 0 < j then some (.int (i % j)) else none
  | _, _ => none
def powD : D → D → Option D
  | .int i, .int j => if 0 ≤ j ∧ j ≤ 1000000 ∧ i.natAbs < 2 ^ 64 then some (.int (i ^ j.toNat)) else none
  | _, _ => none
def negD : D → Option D
  | .int i => some (.int (-i))
  | _ => none
def ltD : D → D → Option D
  | .int i, .int j => some (.bl (decide (i < j)))
  | _, _ => none
def leD : D → D → Option D
  | .int i, .int j => some (.bl (decide (i ≤ j)))
  | _, _ => none
def gtD : D → D → Option D
  | .int i, .int j => some (.bl (decide (j < i)))
  | _, _ => none
def geD : D → D → Option D
  | .int i, .int j => some (.bl (decide (j ≤ i)))
  | _, _ => none
def eqD (d e : D) : Option D := if plain d && plain e then some (.bl (deq d e)) else none
def neD (d e : D) : Option D := if plain d && plain e then some (.bl (!deq d e)) else none
def isNonD : D → Bool
  | .non => true
  | _ => false
def isND (d : D) : Option D := some (.bl (isNonD d))
def notND (d : D) : Option D := some (.bl (!isNonD d))
def inD : D → D → Option D
  | d, .lst es => if plain d && plain (.lst es) then some (.bl (es.any fun z => deq z d)) else none
  | d, .tup es => if plain d && plain (.tup es) then some (.bl (es.any fun z => deq z d)) else none
  | _, _ => none
def atD {α : Type} (xs : List α) (i : Int) : Option α := L2.atI xs i
def ixD : D → D → Option D
  | .tup ds, .int i => atD ds i
  | .lst ds, .int i => atD ds i
  | .wl ds, .int i => atD ds i
  | _, _ => none
def lenD : D → Option D
  | .tup ds => some (.int ds.length)
  | .lst ds => some (.int ds.length)
  | .str x => if x.length ≤ SZ then some (.int x.length) else none
  | _ => none
section
variable {e : En} {F F' F1 F2 : Addr → Prop} {ρ ρ' ρ1 ρ2 : List Addr} {s s' s1 s2 : S} {σ : L2.St} {H H' H1 H2 : Hp} {W : WX}
/-! ### what stands for data is what == reads -/
mutual
theorem lent_dp {c : Ct} : ∀ {d : D} {v : V} {n : Nat}, plainN n d = true → Rep c F ρ H d v → Dp c.K H v (toPy d)
  | .non, v, n, _, h => by unfold Rep at h; subst h; exact .non
  | .bl b, v, n, _, h => by unfold Rep at h; subst h; exact .bl b
  | .int b, v, n, _, h => by unfold Rep at h; subst h; exact .int b
  | .str b, v, n, _, h => by unfold Rep at h; subst h; exact .str b
  | .tup ds, v, 0, p, h => by simp [plainN] at p
  | .tup ds, v, n + 1, p, h => by
    unfold Rep at h
    obtain ⟨a, vs, rfl, at_, r⟩ := h
    exact .tup at_.sq (lentL_dp (n := n) p r)
  | .lst ds, v, 0, p, h => by simp [plainN] at p
  | .lst ds, v, n + 1, p, h => by
    unfold Rep at h
    obtain ⟨a, vs, rfl, ⟨_, at_⟩, r⟩ := h
    exact .lst (.of at_) (lentL_dp (n := n) p r)
  | .dct _, v, n, p, h => by cases n <;> simp [plainN] at p
  | .dcT _, v, n, p, h => by cases n <;> simp [plainN] at p
  | .wl _, v, n, p, h => by cases n <;> simp [plainN] at p
  | .obj _, v, n, p, h => by cases n <;> simp [plainN] at p
  | .fn _, v, n, p, h => by cases n <;> simp [plainN] at p
  | .exc _ _ _, v, n, p, h => by cases n <;> simp [plainN] at p
theorem lentL_dp {c : Ct} : ∀ {ds : List D} {vs : List V} {n : Nat}, ds.all (plainN n) = true → RepL c F ρ H ds vs → DpAll c.K H vs (toPyL ds)
  | [], vs, n, _, h => by unfold RepL at h; subst h; exact .nil
  | d :: ds, vs, n, p, h => by
    unfold RepL at h
    obtain ⟨v, ws, rfl, r, q⟩ := h
    rw [List.all_cons, Bool.and_eq_true] at p
    exact .cons (lent_dp p.1 r) (lentL_dp p.2 q)
end
theorem Lent.dp {c : Ct} {d : D} {v : V} (p : plain d = true) (h : Lent c F ρ H d v) : Dp c.K H v (toPy d) := by
  unfold plain at p
  cases d with
  | lst ds =>
    obtain ⟨a, vs, rfl, sq, r⟩ := h.sq
    exact .lst sq (lentL_dp (n := 59) p r)
  | dct _ => simp [plainN] at p
  | dcT _ => simp [plainN] at p
  | wl _ => simp [plainN] at p
  | non => exact lent_dp (F := F) (ρ := ρ) p h
  | bl _ => exact lent_dp (F := F) (ρ := ρ) p h
  | int _ => exact lent_dp (F := F) (ρ := ρ) p h
  | str _ => exact lent_dp (F := F) (ρ := ρ) p h
  | tup _ => exact lent_dp (F := F) (ρ := ρ) p h
  | obj _ => exact lent_dp (F := F) (ρ := ρ) p h
  | fn _ => exact lent_dp (F := F) (ρ := ρ) p h
  | exc _ _ _ => exact lent_dp (F := F) (ρ := ρ) p h
end
end Ls
set_option maxHeartbeats 4000000
/-! tuple * int where the count is one, none or negative, or the tuple is empty -/
namespace L2
open PySem PySem.Spec PyProof.Rows
theorem tuple_mulS (l : Addr) (items : Array Value) (n : Nat) (dd : Option Addr) (sl : Array (Option Value)) (x : Int) (u : Tok) (c0 : (decide (x < -(2 ^ 63)) || decide (x ≥ 2 ^ 63)) = false) (c1 : (items.isEmpty || x == 1) = true) :
    Meets (Builtin.«tuple.__mul__» ⟨[.ref l, .int x u], []⟩) (fun _ R s => s.heap.get? l = some { cls := .type "tuple", dict := dd, data := .seq items n, slots := sl } ∧ R (.ok (.ret (Value.ref l))) s) :=
  .of_wp fun prog w A R s h => by
    obtain ⟨hp, g, d, tk, os⟩ := s
    obtain ⟨hl, h⟩ := h
    have f1 := AutoSeq1.idx_int
    wp_walk using wpAny_loadPart' hl
    repeat (first
      | (refine wpAny_ite_false (decide_eq_false (by rw [c0]; exact Bool.false_ne_true)) ?_; wp_walk using wpAny_loadPart' hl)
      | (refine wpAny_ite_true (decide_eq_true c1) ?_; wp_walk using wpAny_loadPart' hl))
    exact ⟨_, rfl, h⟩
theorem tuple_mulZ (l : Addr) (items : Array Value) (n : Nat) (dd : Option Addr) (sl : Array (Option Value)) (x : Int) (u : Tok) (c0 : (decide (x < -(2 ^ 63)) || decide (x ≥ 2 ^ 63)) = false) (c1 : (items.isEmpty || x == 1) = false) (c2 : (decide (x ≤ 0) || items.isEmpty) = true) :
    Meets (Builtin.«tuple.__mul__» ⟨[.ref l, .int x u], []⟩) (fun _ R s => s.heap.get? l = some { cls := .type "tuple", dict := dd, data := .seq items n, slots := sl } ∧
      R (.ok (.ret (Value.ref s.heap.objs.size))) { s with heap := s.heap.push { cls := Value.type "tuple", data := Data.seq #[] }, toks := s.toks }) :=
  .of_wp fun prog w A R s h => by
    obtain ⟨hp, g, d, tk, os⟩ := s
    obtain ⟨hl, h⟩ := h
    have f1 := AutoSeq1.idx_int
    wp_walk using wpAny_loadPart' hl
    repeat (first
      | (refine wpAny_ite_false (decide_eq_false (by rw [c0]; exact Bool.false_ne_true)) ?_; wp_walk using wpAny_loadPart' hl)
      | (refine wpAny_ite_false (decide_eq_false (by rw [c1]; exact Bool.false_ne_true)) ?_; wp_walk using wpAny_loadPart' hl)
      | (refine wpAny_ite_true (decide_eq_true c2) ?_; wp_walk using wpAny_loadPart' hl))
    exact ⟨_, rfl, h⟩
def rRepS (K : PySem.W.Frag) : R2 := fun x y H Q => ∃ l k xs, x = .ref l ∧ y = .int k ∧ SqT K H l xs ∧ -(2 ^ 63) ≤ k ∧ k < 2 ^ 63 ∧ (xs = [] ∨ k = 1) ∧ Q (.ref l) H
def rRepZ (K : PySem.W.Frag) : R2 := fun x y H Q => ∃ l k xs, x = .ref l ∧ y = .int k ∧ SqT K H l xs ∧ xs ≠ [] ∧ -(2 ^ 63) ≤ k ∧ k ≤ 0 ∧ ∀ p, H p = none → Q (.ref p) (upd H p (.tup []))
section
variable {X : Cx}
theorem op_repS : OpR X (binaryOp .Mult) (rRepS X.K) := by
  intro pins s σ H x y v u Q I rx ry h
  obtain ⟨l, k, xs, rfl, rfl, hT, h1, h2, hk, q⟩ := h
  cases rx
  obtain ⟨t, rfl⟩ := ry
  obtain ⟨its, r, ⟨⟨cls, dd, data, sl⟩, ho, hc, n, hd⟩, hs⟩ := I.tuple hT
  simp only at hc hd
  subst hc hd
  have hle : its.length = xs.length := r.length.symm
  have c0 : (decide (k < -(2 ^ 63)) || decide (k ≥ 2 ^ 63)) = false := by
    rw [decide_eq_false (by omega), decide_eq_false (by omega)] <;> rfl
  have c1 : (its.toArray.isEmpty || k == 1) = true := by
    rcases hk with e | e
    · have : its = [] := List.eq_nil_of_length_eq_zero (by rw [hle, e]; rfl)
      rw [this]; rfl
    · rw [e]; simp
  refine wpAny_binaryOp_repeat_ref (T := "tuple") (U := "int") (by decide) ⟨_, ho, rfl⟩ (fun s' => typeIs_int s' k t) noFill_tuple_mul F.fills_int_mul F.slot_int_rmul repeat_tuple F.slot_int_index.lookup
    (call_meets F.slot_int_rmul (typeIs_int s k t) F.entry_int_rmul (F.args_int_rmul_2 _ _) (int_rmul_tuple k t l its.toArray n dd sl)
      ⟨ho, rfl, ⟨_, ho, rfl⟩, call_meets F.slot_tuple_mul ⟨_, ho, rfl⟩ F.entry_tuple_mul (F.args_tuple_mul_2 _ _) (tuple_mulS l its.toArray n dd sl k t c0 c1) ⟨ho, ?_⟩⟩)
  exact ⟨.ref l, H, I.tok _, rfl, q⟩
theorem op_repZ : OpR X (binaryOp .Mult) (rRepZ X.K) := by
  intro pins s σ H x y v u Q I rx ry h
  obtain ⟨l, k, xs, rfl, rfl, hT, hne, h1, h2, q⟩ := h
  cases rx
  obtain ⟨t, rfl⟩ := ry
  obtain ⟨its, r, ⟨⟨cls, dd, data, sl⟩, ho, hc, n, hd⟩, hs⟩ := I.tuple hT
  simp only at hc hd
  subst hc hd
  have hle : its.length = xs.length := r.length.symm
  have hn : its ≠ [] := fun e => hne (by
    rw [e] at hle
    exact List.eq_nil_of_length_eq_zero hle.symm)
  have hi : its.toArray.isEmpty = false := by
    cases its with
    | nil => exact absurd rfl hn
    | cons a b => rfl
  have c0 : (decide (k < -(2 ^ 63)) || decide (k ≥ 2 ^ 63)) = false := by
    rw [decide_eq_false (by omega), decide_eq_false (by omega)] <;> rfl
  have c1 : (its.toArray.isEmpty || k == 1) = false := by
    rw [hi, Bool.false_or]
    exact beq_eq_false_iff_ne.mpr (by omega)
  have c2 : (decide (k ≤ 0) || its.toArray.isEmpty) = true := by
    rw [decide_eq_true h2] <;> rfl
  refine wpAny_binaryOp_repeat_ref (T := "tuple") (U := "int") (by decide) ⟨_, ho, rfl⟩ (fun s' => typeIs_int s' k t) noFill_tuple_mul F.fills_int_mul F.slot_int_rmul repeat_tuple F.slot_int_index.lookup
    (call_meets F.slot_int_rmul (typeIs_int s k t) F.entry_int_rmul (F.args_int_rmul_2 _ _) (int_rmul_tuple k t l its.toArray n dd sl)
      ⟨ho, rfl, ⟨_, ho, rfl⟩, call_meets F.slot_tuple_mul ⟨_, ho, rfl⟩ F.entry_tuple_mul (F.args_tuple_mul_2 _ _) (tuple_mulZ l its.toArray n dd sl k t c0 c1 c2) ⟨ho, ?_⟩⟩)
  refine ⟨.ref s.heap.objs.size, _, I.laid (t' := s.toks) (o := .tup []) (fun b ob q => Heap.get?_push_of_some _ q) (Nat.le_refl _) ?_, rfl, q _ (I.hok.fresh (Nat.le_refl _))⟩
  exact ⟨Nat.zero_le _, [], .nil, IsTup.new _ _⟩
end
end L2
namespace Ls
open PySem PySem.Spec L2
/-- the context and the entry tell of the same; what is raised is taken; there is room -/
structure Lk (X : Cx) (e : En) (W : WX) : Prop where
  c : e.c = ⟨X.K, X.mg, e.c.T⟩
  tk : Takes X W
  calm : X.calm = true
  hu : X.A.units + 65 < cLine
theorem PE.weak {X : Cx} {x : Expr} {t t' : TE} (h : PE X x t) (k : ∀ σ H Q, t' σ H Q → t σ H Q) : PE X x t' := ⟨fun pins s σ H Q I hw => h.run pins s σ H Q I (k σ H Q hw)⟩
theorem PT.weak {X : Cx} {x : Expr} {t t' : TT} (h : PT X x t) (k : ∀ σ H Q, t' σ H Q → t σ H Q) : PT X x t' := ⟨fun pins s σ H Q I hw => h.run pins s σ H Q I (k σ H Q hw)⟩
theorem PW.weak {X : Cx} {x : Expr} {t t' : TT} (h : PW X x t) (k : ∀ σ H Q, t' σ H Q → t σ H Q) : PW X x t' := ⟨fun wh pins s σ H Q I hw => h.run wh pins s σ H Q I (k σ H Q hw)⟩
theorem PA.weak {X : Cx} {x : List Expr} {t t' : TA} (h : PA X x t) (k : ∀ σ H Q, t' σ H Q → t σ H Q) : PA X x t' := ⟨fun pos pins s σ H Q I hw => h.run pos pins s σ H Q I (k σ H Q hw)⟩
theorem PS.weak {X : Cx} {x : Stmt} {t t' : TS} (h : PS X x t) (k : ∀ D σ H, t' D σ H → t D σ H) : PS X x t' := ⟨fun pins s σ H Q I hw => h.run pins s σ H Q I (k Q σ H hw)⟩
theorem PSs.weak {X : Cx} {x : List Stmt} {t t' : TS} (h : PSs X x t) (k : ∀ D σ H, t' D σ H → t D σ H) : PSs X x t' := ⟨fun pins s σ H Q I hw => h.run pins s σ H Q I (k Q σ H hw)⟩
/-- lent, all of them -/
def LentA (c : Ct) (F : Addr → Prop) (ρ : List Addr) (H : Hp) : List D → List V → Prop
  | [], vs => vs = []
  | d :: ds, vs => ∃ v ws, vs = v :: ws ∧ Lent c F ρ H d v ∧ LentA c F ρ H ds ws
def RAB : RR (List D) (List V) := fun e _ F ρ _ _ H ds vs => LentA e.c F ρ H ds vs
abbrev DE (X : Cx) (e : En) (W : WX) (x : Expr) (f : M D) : Prop := PE X x (rdG e W RD f)
abbrev DB (X : Cx) (e : En) (W : WX) (x : Expr) (f : M D) : Prop := PE X x (rdG e W RB f)
abbrev DL (X : Cx) (e : En) (W : WX) (x : Expr) (f : M (List D)) : Prop := PE X x (rdG e W RL f)
abbrev DT (X : Cx) (e : En) (W : WX) (x : Expr) (f : M Bool) : Prop := PT X x (rdG e W RT f)
abbrev DW (X : Cx) (e : En) (W : WX) (x : Expr) (f : M Bool) : Prop := PW X x (rdG e W RT f)
abbrev DA (X : Cx) (e : En) (W : WX) (x : List Expr) (f : M (List D)) : Prop := PA X x (rdG e W RA f)
abbrev DAB (X : Cx) (e : En) (W : WX) (x : List Expr) (f : M (List D)) : Prop := PA X x (rdG e W RAB f)
section
variable {X : Cx} {e : En} {F F' F1 F2 : Addr → Prop} {ρ ρ' ρ1 ρ2 : List Addr} {s s' s1 s2 : S} {σ : L2.St} {H H' H1 H2 : Hp} {W : WX} {α β τ υ : Type} {Hs : Hp}
theorem rdAt_mono {R1 R2 : RR α τ} {f : M α} {Q P : τ → Hp → Prop} (h : rdAt e W R2 f Hs F ρ s σ H Q)
    (k : ∀ v F' ρ' s' H' a, Stp F F' ρ ρ' s s' σ H H' → Rel e F' ρ' s' σ H' → R1 e Hs F' ρ' s' σ H' a v → (R2 e Hs F' ρ' s' σ H' a v → Q v H') → P v H') : rdAt e W R1 f Hs F ρ s σ H P := by
  unfold rdAt at h ⊢
  cases q : f s with
  | bad => rw [q] at h; exact h
  | exc x s' => rw [q] at h; exact h
  | ok d s' =>
    rw [q] at h
    exact fun v F' ρ' H' st r rr => k v F' ρ' s' H' d st r rr (h v F' ρ' H' st r)
theorem rdG_mono {R1 R2 : RR α τ} {f : M α} {Q : τ → Hp → Prop} (k : ∀ Hs F ρ s H a v, Rel e F ρ s σ H → R1 e Hs F ρ s σ H a v → R2 e Hs F ρ s σ H a v) (h : rdG e W R2 f σ H Q) : rdG e W R1 f σ H Q := by
  obtain ⟨F, ρ, s, r, h⟩ := h
  exact ⟨F, ρ, s, r, rdAt_mono h fun v F' ρ' s' H' a _ r' rr q => q (k _ _ _ _ _ _ _ r' rr)⟩
/-- what is shared may be lent -/
theorem db_of {x : Expr} {f : M D} (h : DE X e W x f) : DB X e W x f := PE.weak h fun _ _ _ q => rdG_mono (R1 := RD) (R2 := RB) (fun _ _ _ _ _ _ _ r => Rep.lent r) q
/-! ### names -/
def mVarB (i : Nat) : M D := fun s => match s.env[i]? with
  | some (.sh d) => .ok d s
  | some (.own ds) => .ok (.lst ds) s
  | some (.ownK kvs) => .ok (.dct kvs) s
  | some (.ownT kvs) => .ok (.dcT kvs) s
  | _ => .bad
def mVar (i : Nat) : M D := fun s => match s.env[i]? with
  | some (.sh d) => .ok d s
  | some (.own ds) => .ok (.lst ds) { s with env := s.env.set i (.sh (.lst ds)) }
  | some (.ownK kvs) => .ok (.dct kvs) { s with env := s.env.set i (.sh (.dct kvs)) }
  | some (.ownT kvs) => .ok (.dcT kvs) { s with env := s.env.set i (.sh (.dcT kvs)) }
  | _ => .bad
theorem join_some {i : Nat} {v : V} (h : (σ[i]?).join = some v) : σ[i]? = some (some v) := by
  cases q : σ[i]? with
  | none => rw [q] at h; cases h
  | some o => rw [q] at h; cases o with
    | none => cases h
    | some w => cases h; rfl
theorem db_var (i : Nat) {x : Str} {pos : Pos} (hN : X.N[i]? = some x) (hv : Vis X.env.scope x) (hd : (x == ("__debug__" : Str)) = false) (hcd : (x == ("__classdict__" : Str)) = false) : DB X e W (.Name x pos) (mVarB i) := by
  refine PE.weak (pe_var (i := i) hN hv hd hcd) fun σ H Q ⟨F, ρ, s, r, h⟩ => ?_
  unfold rdAt mVarB at h
  cases q : s.env[i]? with
  | none => rw [q] at h; exact h.elim
  | some sl =>
    rw [q] at h
    have sk := r.slot i sl q
    cases sl with
    | emp => exact h.elim
    | sh d =>
      obtain ⟨v, e1, e2⟩ := sk
      exact ⟨v, join_some e1, h v F ρ H Stp.refl r (Rep.lent r e2)⟩
    | own ds =>
      obtain ⟨a, e1, vs, e2, e3⟩ := sk
      have o := r.ownF a ⟨i, _, q, by rw [e1]; rfl⟩
      exact ⟨.ref a, join_some e1, h (.ref a) F ρ H Stp.refl r ⟨a, vs, rfl, o.2.1, e2, e3⟩⟩
    | ownK kvs =>
      obtain ⟨a, e1, es, e2, e3⟩ := sk
      have o := r.ownF a ⟨i, _, q, by rw [e1]; rfl⟩
      exact ⟨.ref a, join_some e1, h (.ref a) F ρ H Stp.refl r ⟨a, rfl, o.2.1, es, e2, e3⟩⟩
    | ownT kvs =>
      obtain ⟨a, e1, es, e2, e3⟩ := sk
      have o := r.ownF a ⟨i, _, q, by rw [e1]; rfl⟩
      exact ⟨.ref a, join_some e1, h (.ref a) F ρ H Stp.refl r ⟨a, rfl, o.2.1, es, e2, e3⟩⟩
/-- the list or dict of a slot is given away: nobody writes at it any more -/
theorem Rel.give (r : Rel e F ρ s σ H) {i : Nat} {sl : Sl} {d : D} {a : Addr} (q : s.env[i]? = some sl) (ow : sl.owns (σ[i]?.join) a) (ha : σ[i]?.join = some (.ref a)) (rp : Rep e.c (fun b => F b ∨ b = a) ρ H d (.ref a)) :
    Rel e (fun b => F b ∨ b = a) ρ { s with env := s.env.set i (.sh d) } σ H ∧ Stp F (fun b => F b ∨ b = a) ρ ρ s { s with env := s.env.set i (.sh d) } σ H H := by
  have hi : i < s.env.length := (List.getElem?_eq_some_iff.mp q).1
  have k : Kp F (fun b => F b ∨ b = a) ρ ρ H H := ⟨fun _ h => .inl h, ⟨[], by simp⟩, fun _ _ _ h => h⟩
  have me : owned s.env σ a := ⟨i, sl, q, ow⟩
  obtain ⟨o1, o2, o3⟩ := r.ownF a me
  have old : ∀ (j : Nat) x, (s.env.set i (.sh d))[j]? = some x → (j = i ∧ x = .sh d) ∨ (j ≠ i ∧ s.env[j]? = some x) := fun j x h => by
    by_cases hj : j = i
    · subst hj
      rw [List.getElem?_set_self hi] at h
      cases h
      exact .inl ⟨rfl, rfl⟩
    · rw [List.getElem?_set_ne (Ne.symm hj)] at h
      exact .inr ⟨hj, h⟩
  have ow' : ∀ b, owned (s.env.set i (.sh d)) σ b → owned s.env σ b ∧ b ≠ a := fun b ⟨j, x, h1, h2⟩ => by
    rcases old j x h1 with ⟨_, rfl⟩ | ⟨hj, h1⟩
    · exact h2.elim
    · refine ⟨⟨j, x, h1, h2⟩, fun z => ?_⟩
      subst z
      exact hj (r.dist j i x sl b h1 q h2 ow)
  refine ⟨⟨by rw [r.len]; simp, fun j x h => ?_, fun j l x y b h1 h2 p1 p2 => ?_, fun b hb => ?_, r.rlen, fun n ob b h1 h2 => Ob.kp k (r.store n ob b h1 h2) fun u q => q, r.nodup, fun b hb z => ?_, fun b hb => ?_, fun b hb => .inl (r.mono b hb), fun b hb => ?_, r.rho, r.frm, r.tab⟩,
    ⟨fun _ h => .inl h, fun b h => ?_, fun b h => (ow' b h).1, ⟨[], by simp⟩, fun _ _ h _ _ => h, fun _ h => h⟩⟩
  · rcases old j x h with ⟨hj, rfl⟩ | ⟨hj, h⟩
    · rw [hj]; exact ⟨.ref a, ha, rp⟩
    · exact Slot.kp (e := e) k (r.slot j x h) fun b u _ q => q
  · rcases old j x h1 with ⟨_, rfl⟩ | ⟨hj, h1⟩
    · exact p1.elim
    · rcases old l y h2 with ⟨_, rfl⟩ | ⟨hl, h2⟩
      · exact p2.elim
      · exact r.dist j l x y b h1 h2 p1 p2
  · obtain ⟨a1, a2⟩ := ow' b hb
    obtain ⟨b1, b2, b3⟩ := r.ownF b a1
    exact ⟨fun z => z.elim b1 a2, b2, b3⟩
  · rcases z with z | z
    · exact r.sep b hb z
    · rw [z] at hb; exact o2 hb
  · rcases hb with hb | hb
    · exact r.fF b hb
    · rw [hb]; exact .inr o3
  · rcases hb with hb | hb
    · exact r.trk b hb
    · rw [hb]; exact r.inOwn me
  · rcases h with h | h
    · exact .inl h
    · rw [h]; exact .inr (.inr me)
theorem de_var (i : Nat) {x : Str} {pos : Pos} (hN : X.N[i]? = some x) (hv : Vis X.env.scope x) (hd : (x == ("__debug__" : Str)) = false) (hcd : (x == ("__classdict__" : Str)) = false) : DE X e W (.Name x pos) (mVar i) := by
  refine PE.weak (pe_var (i := i) hN hv hd hcd) fun σ H Q ⟨F, ρ, s, r, h⟩ => ?_
  unfold rdAt mVar at h
  cases q : s.env[i]? with
  | none => rw [q] at h; exact h.elim
  | some sl =>
    rw [q] at h
    have sk := r.slot i sl q
    cases sl with
    | emp => exact h.elim
    | sh d =>
      obtain ⟨v, e1, e2⟩ := sk
      exact ⟨v, join_some e1, h v F ρ H Stp.refl r e2⟩
    | own ds =>
      obtain ⟨a, e1, vs, e2, e3⟩ := sk
      have k : Kp F (fun b => F b ∨ b = a) ρ ρ H H := ⟨fun _ h => .inl h, ⟨[], by simp⟩, fun _ _ _ h => h⟩
      have rp : Rep e.c (fun b => F b ∨ b = a) ρ H (.lst ds) (.ref a) := by
        unfold Rep
        exact ⟨a, vs, rfl, ⟨.inr rfl, e2⟩, RepL.kp k _ _ e3⟩
      obtain ⟨g1, g2⟩ := r.give q (by rw [e1]; rfl) e1 rp
      exact ⟨.ref a, join_some e1, h (.ref a) _ ρ H g2 g1 rp⟩
    | ownK kvs =>
      obtain ⟨a, e1, es, e2, e3⟩ := sk
      have k : Kp F (fun b => F b ∨ b = a) ρ ρ H H := ⟨fun _ h => .inl h, ⟨[], by simp⟩, fun _ _ _ h => h⟩
      have rp : Rep e.c (fun b => F b ∨ b = a) ρ H (.dct kvs) (.ref a) := by
        unfold Rep
        exact ⟨a, rfl, .inr rfl, es, e2, RepK.kp k _ _ e3⟩
      obtain ⟨g1, g2⟩ := r.give q (by rw [e1]; rfl) e1 rp
      exact ⟨.ref a, join_some e1, h (.ref a) _ ρ H g2 g1 rp⟩
    | ownT kvs =>
      obtain ⟨a, e1, es, e2, e3⟩ := sk
      have k : Kp F (fun b => F b ∨ b = a) ρ ρ H H := ⟨fun _ h => .inl h, ⟨[], by simp⟩, fun _ _ _ h => h⟩
      have rp : Rep e.c (fun b => F b ∨ b = a) ρ H (.dcT kvs) (.ref a) := by
        unfold Rep
        exact ⟨a, rfl, .inr rfl, es, e2, RepT.kp k _ _ e3⟩
      obtain ⟨g1, g2⟩ := r.give q (by rw [e1]; rfl) e1 rp
      exact ⟨.ref a, join_some e1, h (.ref a) _ ρ H g2 g1 rp⟩
/-! ### constants -/
theorem de_int {i j pos} : DE X e W (.Constant (.int i) j pos) (M.pure (.int i)) := PE.weak pe_int fun σ H Q ⟨F, ρ, s, r, h⟩ => rdAt_pure h r (by unfold RD Rep; rfl)
theorem de_bl {i j pos} : DE X e W (.Constant (.bool i) j pos) (M.pure (.bl i)) := PE.weak pe_bl fun σ H Q ⟨F, ρ, s, r, h⟩ => rdAt_pure h r (by unfold RD Rep; rfl)
theorem de_non {j pos} : DE X e W (.Constant .none j pos) (M.pure .non) := PE.weak pe_non fun σ H Q ⟨F, ρ, s, r, h⟩ => rdAt_pure h r (by unfold RD Rep; rfl)
theorem de_str {x j pos} : DE X e W (.Constant (.str x) j pos) (M.pure (.str x)) := PE.weak pe_str fun σ H Q ⟨F, ρ, s, r, h⟩ => rdAt_pure h r (by unfold RD Rep; rfl)
/-- a name of the module: a number, a written tuple .., a def -/
theorem de_glob {x : Str} {d : D} {v : V} {u : Value} {pos : Pos} (hg : Gl X x) (hm : X.mg x = some u) (r : RelV v u) (rp : ∀ F ρ H, Rep e.c F ρ H d v) (hd : (x == ("__debug__" : Str)) = false) : DE X e W (.Name x pos) (M.pure d) :=
  PE.weak (pe_glob hg hm r hd) fun σ H Q ⟨F, ρ, s, rl, h⟩ => rdAt_pure h rl (rp _ _ _)
/-! ### operators -/
def mO2 (g : D → D → Option D) (fa fb : M D) : M D := M.bind fa fun x => M.bind fb fun y => ofO (g x y)
/-- an operator's reading by values does what g does to data -/
def Op2P (c : Ct) (r : R2) (g : D → D → Option D) : Prop := ∀ (e : En) (F : Addr → Prop) (ρ : List Addr) (s : S) (σ : L2.St) (Hs H : Hp) (W : WX) (x y d : D) (v w : V) (Q : VK), e.c = c → Rel e F ρ s σ H → Lent c F ρ H x v → Lent c F ρ H y w →
  g x y = some d → rdAt e W RD (M.pure d) Hs F ρ s σ H Q → r v w H Q
theorem rd_op2 {g : D → D → Option D} {r : R2} {fa fb : M D} {Q : VK} (P : Op2P e.c r g) (h : rdG e W RD (mO2 g fa fb) σ H Q) : tOp r (rdG e W RB fa) (rdG e W RB fb) σ H Q := by
  refine rdG_bind h fun v F ρ s F1 ρ1 s1 H1 x r0 st r1 l1 h1 => ?_
  refine ⟨F1, ρ1, s1, r1, rdAt_bind h1 fun w F2 ρ2 s2 H2 y st2 r2 l2 h2 => ?_⟩
  obtain ⟨d, hd, h3⟩ := rdAt_ofO h2
  exact P e F2 ρ2 s2 σ _ H2 W x y d v w Q rfl r2 (Lent.stp r1 st2 l1) l2 hd h3
theorem de_op {op : Operator} {r : R2} {g : D → D → Option D} {a b : Expr} {fa fb : M D} {pos : Pos} (ho : OpR X (binaryOp op) r) (P : Op2P e.c r g) (ha : DB X e W a fa) (hb : DB X e W b fb) : DE X e W (.BinOp a op b pos) (mO2 g fa fb) :=
  PE.weak (pe_op ho ha hb) fun _ _ _ h => rd_op2 P h
theorem de_cmp {op : CmpOp} {r : R2} {g : D → D → Option D} {a b : Expr} {fa fb : M D} {pos : Pos} (ho : OpR X (compareOp op) r) (P : Op2P e.c r g) (ha : DB X e W a fa) (hb : DB X e W b fb) (hm : behindInMarks op b = false) : DE X e W (.Compare a [op] [b] pos) (mO2 g fa fb) :=
  PE.weak (pe_cmpR ho ha hb hm) fun _ _ _ h => rd_op2 P h
/-- a truth that data tell -/
def asB : D → M Bool
  | .bl b => M.pure b
  | _ => M.bad
theorem rdAt_asB {d : D} {v : V} {Q : Bool → Hp → Prop} (h : rdAt e W RT (asB d) Hs F ρ s σ H Q) (r : Rel e F ρ s σ H) (l : Lent e.c F ρ H d v) : ∃ b, d = .bl b ∧ v = .bl b ∧ Q b H := by
  cases d with
  | bl b =>
    have l : Rep e.c F ρ H (.bl b) v := l
    unfold Rep at l
    exact ⟨b, rfl, l, rdAt_pure (R := RT) h r rfl⟩
  | _ => exact (show False from h).elim
theorem dt_cmp {op : CmpOp} {r : R2} {g : D → D → Option D} {a b : Expr} {fa fb : M D} {pos : Pos} (ho : OpR X (compareOp op) r) (P : Op2P e.c r g) (ha : DB X e W a fa) (hb : DB X e W b fb) (hm : behindInMarks op b = false) :
    DT X e W (.Compare a [op] [b] pos) (M.bind (mO2 g fa fb) asB) := by
  refine PT.weak (pt_cmpR ho ha hb hm) fun σ H Q h => ?_
  have h2 : rdG e W RD (mO2 g fa fb) σ H (fun x H' => ∃ k, x = .bl k ∧ Q k H') := rdG_bind h fun v F ρ s F1 ρ1 s1 H1 x r0 st r1 l1 h1 => by
    obtain ⟨b, _, e1, q⟩ := rdAt_asB h1 r1 (Rep.lent r1 l1)
    exact ⟨b, e1, q⟩
  exact rd_op2 P h2
theorem int_of {c : Ct} {i : Int} {v : V} (l : Lent c F ρ H (.int i) v) : v = .int i := by
  have l : Rep c F ρ H (.int i) v := l
  unfold Rep at l
  exact l
theorem rep_int {c : Ct} {i : Int} : Rep c F ρ H (.int i) (.int i) := by unfold Rep; rfl
theorem rep_bl {c : Ct} {i : Bool} : Rep c F ρ H (.bl i) (.bl i) := by unfold Rep; rfl
theorem rep_non {c : Ct} : Rep c F ρ H .non .non := by unfold Rep; rfl
/-- ints alone -/
theorem op2_int {c : Ct} {r : R2} {g : D → D → Option D} (hg : ∀ x y d, g x y = some d → ∃ i j, x = .int i ∧ y = .int j) (hr : ∀ i j d v H (Q : VK), g (.int i) (.int j) = some d → (∀ (F : Addr → Prop) (ρ : List Addr), Rep c F ρ H d v) → Q v H → True) : True := trivial
theorem p_add {c : Ct} : Op2P c (fun x y H Q => (rI0 fun i j => .int (i + j)) x y H Q ∨ rCatA c.K x y H Q ∨ (∃ i j, x = .str i ∧ y = .str j ∧ i.length + j.length ≤ sizeLine ∧ Q (.str (i ++ j)) H) ∨ rCat x y H Q) addD := by
  intro e F ρ s σ Hs H W x y d v w Q ec r lx ly hg h
  subst ec
  unfold addD at hg
  split at hg
  · cases hg
    have := int_of lx; have := int_of ly; subst v w
    exact .inl ⟨_, _, rfl, rfl, rdAt_pure h r rep_int⟩
  · split at hg
    · rename_i a b hl
      cases hg
      obtain ⟨pa, va, rfl, sa, ra⟩ := Rep.tupSq lx
      obtain ⟨pb, vb, rfl, sb, rb⟩ := Rep.tupSq ly
      refine .inr (.inl ⟨pa, pb, va, vb, rfl, rfl, sa, sb, by rw [ra.length, rb.length, ← SZ_eq]; exact hl, fun z => ?_, fun _ z => ?_, fun _ _ p hp => ?_⟩)
      · subst z
        have z : a = [] := List.eq_nil_of_length_eq_zero (by have := ra.length; simpa using this.symm)
        subst z
        exact rdAt_pure h r ly
      · subst z
        have z : b = [] := List.eq_nil_of_length_eq_zero (by have := rb.length; simpa using this.symm)
        subst z
        rw [List.append_nil] at h
        exact rdAt_pure h r lx
      · obtain ⟨r', st⟩ := r.laidF hp (.tup (va ++ vb))
        refine h (.ref p) _ ρ _ st r' ?_
        unfold RD Rep
        exact ⟨p, _, rfl, .inl ⟨.inr rfl, .of upd_same⟩, RepL.kp (st.kp r) _ _ (ra.append rb)⟩
    · cases hg
  · split at hg
    · rename_i a b hl
      cases hg
      have lx : Rep e.c F ρ H (.str a) v := lx
      have ly : Rep e.c F ρ H (.str b) w := ly
      unfold Rep at lx ly
      subst v w
      exact .inr (.inr (.inl ⟨_, _, rfl, rfl, by rw [← SZ_eq]; exact hl, rdAt_pure h r (by unfold RD Rep; rfl)⟩))
    · cases hg
  · split at hg
    · rename_i a b hl
      cases hg
      obtain ⟨pa, va, rfl, na, sa, ra⟩ := lx
      obtain ⟨pb, vb, rfl, nb, sb, rb⟩ := ly
      refine .inr (.inr (.inr ⟨pa, pb, va, vb, rfl, rfl, sa, sb, by rw [ra.length, rb.length, ← SZ_eq]; exact hl, fun p hp => ?_⟩))
      obtain ⟨r', st⟩ := r.laidF hp (.lst (va ++ vb))
      refine h (.ref p) _ ρ _ st r' ?_
      unfold RD Rep
      exact ⟨p, _, rfl, ⟨.inr rfl, upd_same⟩, RepL.kp (st.kp r) _ _ (ra.append rb)⟩
    · cases hg
  · cases hg
theorem o_add : OpR X (binaryOp .Add) (fun x y H Q => (rI0 fun i j => .int (i + j)) x y H Q ∨ rCatA X.K x y H Q ∨ (∃ i j, x = .str i ∧ y = .str j ∧ i.length + j.length ≤ sizeLine ∧ Q (.str (i ++ j)) H) ∨ rCat x y H Q) := op_add.or (op_catA.or (op_add_str.or op_cat))
theorem p_int2 {c : Ct} {r : R2} {g : D → D → Option D} (k : ∀ x y d, g x y = some d → ∃ i j, x = .int i ∧ y = .int j ∧ ∃ v, (∀ F ρ H, Rep c F ρ H d v) ∧ ∀ H Q, Q v H → r (.int i) (.int j) H Q) : Op2P c r g := by
  intro e F ρ s σ Hs H W x y d v w Q ec rl lx ly hg h
  subst ec
  obtain ⟨i, j, rfl, rfl, z, rp, kk⟩ := k x y d hg
  have := int_of lx; have := int_of ly; subst v w
  exact kk H Q (rdAt_pure h rl (rp _ _ _))
theorem p_sub {c : Ct} : Op2P c (rI0 fun i j => .int (i - j)) subD := p_int2 fun x y d hg => by
  unfold subD at hg; split at hg
  · cases hg; exact ⟨_, _, rfl, rfl, _, fun _ _ _ => rep_int, fun H Q q => ⟨_, _, rfl, rfl, q⟩⟩
  · cases hg
theorem p_fdiv {c : Ct} : Op2P c (rI CDivW fun i j => .int (i / j)) fdivD := p_int2 fun x y d hg => by
  unfold fdivD at hg; split at hg
  · split at hg
    · rename_i hc; cases hg; exact ⟨_, _, rfl, rfl, _, fun _ _ _ => rep_int, fun H Q q => ⟨_, _, rfl, rfl, hc, q⟩⟩
    · cases hg
  · cases hg
theorem p_mod {c : Ct} : Op2P c (rI (fun _ j => 0 < j) fun i j => .int (i % j)) modD := p_int2 fun x y d hg => by
  unfold modD at hg; split at hg
  · split at hg
    · rename_i hc; cases hg; exact ⟨_, _, rfl, rfl, _, fun _ _ _ => rep_int, fun H Q q => ⟨_, _, rfl, rfl, hc, q⟩⟩
    · cases hg
  · cases hg
theorem p_pow {c : Ct} : Op2P c (rI CPow fun i j => .int (i ^ j.toNat)) powD := p_int2 fun x y d hg => by
  unfold powD at hg; split at hg
  · split at hg
    · rename_i hc; cases hg; exact ⟨_, _, rfl, rfl, _, fun _ _ _ => rep_int, fun H Q q => ⟨_, _, rfl, rfl, hc, q⟩⟩
    · cases hg
  · cases hg
theorem o_mulI : OpR X (binaryOp .Mult) (rI IntMulOk fun i j => .int (i * j)) := opI fun _ _ _ _ _ _ _ hc q => PySem.P.mul_int q hc
theorem RepL.rep {c : Ct} {a : List D} {va : List V} (ra : RepL c F ρ H a va) (n : Nat) : RepL c F ρ H (List.replicate n a).flatten (List.replicate n va).flatten := by
  induction n with
  | zero => show RepL _ _ _ _ [] []; unfold RepL; rfl
  | succ n ih => rw [List.replicate_succ, List.replicate_succ, List.flatten_cons, List.flatten_cons]; exact ra.append ih
def rMulA (K : PySem.W.Frag) : R2 := fun x y H Q => (rI IntMulOk fun i j => .int (i * j)) x y H Q ∨ rRepT K x y H Q ∨ rRepS K x y H Q ∨ rRepZ K x y H Q ∨ rRep x y H Q
theorem p_mul {c : Ct} : Op2P c (rMulA c.K) mulD := by
  intro e F ρ s σ Hs H W x y d v w Q ec r lx ly hg h
  subst ec
  unfold mulD at hg
  split at hg
  · split at hg
    · rename_i hc
      cases hg
      have := int_of lx; have := int_of ly; subst v w
      exact .inl ⟨_, _, rfl, rfl, mulOk_ok hc, rdAt_pure h r rep_int⟩
    · cases hg
  · split at hg
    · rename_i a k hc
      cases hg
      obtain ⟨pa, va, rfl, sa, ra⟩ := Rep.tupSq lx
      have := int_of ly; subst w
      obtain ⟨h1, h3, h4⟩ := hc
      have hl := ra.length
      by_cases z : va = [] ∨ k = 1
      · refine .inr (.inr (.inl ⟨pa, k, va, rfl, rfl, sa, h1, by omega, z, ?_⟩))
        have e1 : (List.replicate k.toNat a).flatten = a := by
          rcases z with z | z
          · have : a = [] := List.eq_nil_of_length_eq_zero (by rw [← hl, z]; rfl)
            subst this
            generalize k.toNat = n
            induction n with
            | zero => rfl
            | succ n ih => rw [List.replicate_succ, List.flatten_cons, ih]; rfl
          · subst z
            show (List.replicate 1 a).flatten = a
            simp
        rw [e1] at h
        exact rdAt_pure h r lx
      · have n1 : va ≠ [] := fun q => z (.inl q)
        have n2 : k ≠ 1 := fun q => z (.inr q)
        by_cases z2 : k ≤ 0
        · refine .inr (.inr (.inr (.inl ⟨pa, k, va, rfl, rfl, sa, n1, h1, z2, fun p hp => ?_⟩)))
          have e1 : k.toNat = 0 := by omega
          rw [e1] at h
          obtain ⟨r', st⟩ := r.laidF hp (.tup [])
          refine h (.ref p) _ ρ _ st r' ?_
          unfold RD Rep
          exact ⟨p, _, rfl, .inl ⟨.inr rfl, .of upd_same⟩, by show RepL _ _ _ _ [] []; unfold RepL; rfl⟩
        · refine .inr (.inl ⟨pa, k, va, rfl, rfl, sa, n1, by omega, h3, by rw [hl]; exact h4, fun p hp => ?_⟩)
          obtain ⟨r', st⟩ := r.laidF hp (.tup (List.replicate k.toNat va).flatten)
          refine h (.ref p) _ ρ _ st r' ?_
          unfold RD Rep
          exact ⟨p, _, rfl, .inl ⟨.inr rfl, .of upd_same⟩, RepL.kp (st.kp r) _ _ (ra.rep _)⟩
    · cases hg
  · split at hg
    · rename_i a k hc
      cases hg
      obtain ⟨pa, va, rfl, na, sa, ra⟩ := lx
      have := int_of ly; subst w
      obtain ⟨h1, h2, h3⟩ := hc
      refine .inr (.inr (.inr (.inr ⟨pa, k, va, rfl, rfl, sa, h1, h2, by rw [ra.length, ← SZ_eq]; exact h3, fun p hp => ?_⟩)))
      obtain ⟨r', st⟩ := r.laidF hp (.lst (List.replicate k.toNat va).flatten)
      refine h (.ref p) _ ρ _ st r' ?_
      unfold RD Rep
      exact ⟨p, _, rfl, ⟨.inr rfl, upd_same⟩, RepL.kp (st.kp r) _ _ (ra.rep _)⟩
    · cases hg
  · cases hg
theorem o_mul : OpR X (binaryOp .Mult) (rMulA X.K) := o_mulI.or (op_repT.or (op_repS.or (op_repZ.or op_rep)))
theorem p_lt {c : Ct} : Op2P c (rI0 fun i j => .bl (decide (i < j))) ltD := p_int2 fun x y d hg => by
  unfold ltD at hg; split at hg
  · cases hg; exact ⟨_, _, rfl, rfl, _, fun _ _ _ => rep_bl, fun H Q q => ⟨_, _, rfl, rfl, q⟩⟩
  · cases hg
theorem p_le {c : Ct} : Op2P c (rI0 fun i j => .bl (decide (i ≤ j))) leD := p_int2 fun x y d hg => by
  unfold leD at hg; split at hg
  · cases hg; exact ⟨_, _, rfl, rfl, _, fun _ _ _ => rep_bl, fun H Q q => ⟨_, _, rfl, rfl, q⟩⟩
  · cases hg
theorem p_gt {c : Ct} : Op2P c (rI0 fun i j => .bl (decide (j < i))) gtD := p_int2 fun x y d hg => by
  unfold gtD at hg; split at hg
  · cases hg; exact ⟨_, _, rfl, rfl, _, fun _ _ _ => rep_bl, fun H Q q => ⟨_, _, rfl, rfl, q⟩⟩
  · cases hg
theorem p_ge {c : Ct} : Op2P c (rI0 fun i j => .bl (decide (j ≤ i))) geD := p_int2 fun x y d hg => by
  unfold geD at hg; split at hg
  · cases hg; exact ⟨_, _, rfl, rfl, _, fun _ _ _ => rep_bl, fun H Q q => ⟨_, _, rfl, rfl, q⟩⟩
  · cases hg
theorem p_eq {c : Ct} : Op2P c (rEqD c.K) eqD := by
  intro e F ρ s σ Hs H W x y d v w Q ec r lx ly hg h
  subst ec
  unfold eqD at hg
  split at hg
  · rename_i hp
    rw [Bool.and_eq_true] at hp
    cases hg
    exact ⟨toPy x, toPy y, lx.dp hp.1, ly.dp hp.2, plain_shaped hp.1, plain_shaped hp.2, rdAt_pure h r rep_bl⟩
  · cases hg
theorem p_ne {c : Ct} : Op2P c (rNeD c.K) neD := by
  intro e F ρ s σ Hs H W x y d v w Q ec r lx ly hg h
  subst ec
  unfold neD at hg
  split at hg
  · rename_i hp
    rw [Bool.and_eq_true] at hp
    cases hg
    exact ⟨toPy x, toPy y, lx.dp hp.1, ly.dp hp.2, plain_shaped hp.1, plain_shaped hp.2, rdAt_pure h r rep_bl⟩
  · cases hg
theorem toPyL_map : ∀ ds : List D, toPyL ds = ds.map toPy
  | [] => rfl
  | d :: ds => by show toPy d :: toPyL ds = toPy d :: ds.map toPy; rw [toPyL_map ds]
def rInTD (K : PySem.W.Frag) : R2 := fun x y H Q => ∃ d ds, Dp K H x d ∧ Dp K H y (.tuple ds) ∧ SeqAt.shaped d = true ∧ SeqAt.shaped (.tuple ds) = true ∧ Q (.bl (ds.any fun z => PyData.eqv z d)) H
def rNotInTD (K : PySem.W.Frag) : R2 := fun x y H Q => ∃ d ds, Dp K H x d ∧ Dp K H y (.tuple ds) ∧ SeqAt.shaped d = true ∧ SeqAt.shaped (.tuple ds) = true ∧ Q (.bl (!ds.any fun z => PyData.eqv z d)) H
theorem op_inTD (hu : X.A.units + 65 < cLine) : OpR X (compareOp .In) (rInTD X.K) := by
  intro pins s σ H x y v u Q I rx ry h
  obtain ⟨d, ds, hd, he, sd, se, q⟩ := h
  obtain ⟨as, r1⟩ := Dp.reads I d x v hd rx
  obtain ⟨bs, r2⟩ := Dp.reads I (.tuple ds) y u he ry
  exact SeqAt.in_tuple_reads r2 r1 (SeqAt.canLay_of_shaped se) (SeqAt.canLay_of_shaped sd) (PyProof.Rows.room_in_shaped sd hu) ⟨.bl _, H, I, rfl, q⟩
theorem op_notInTD (hu : X.A.units + 65 < cLine) : OpR X (compareOp .NotIn) (rNotInTD X.K) := by
  intro pins s σ H x y v u Q I rx ry h
  obtain ⟨d, ds, hd, he, sd, se, q⟩ := h
  obtain ⟨as, r1⟩ := Dp.reads I d x v hd rx
  obtain ⟨bs, r2⟩ := Dp.reads I (.tuple ds) y u he ry
  exact SeqAt.notIn_tuple_reads r2 r1 (SeqAt.canLay_of_shaped se) (SeqAt.canLay_of_shaped sd) (PyProof.Rows.room_in_shaped sd hu) ⟨.bl _, H, I, rfl, q⟩
def rInX (K : PySem.W.Frag) : R2 := fun x y H Q => rInD K x y H Q ∨ rInTD K x y H Q
def rNotInX (K : PySem.W.Frag) : R2 := fun x y H Q => rNotInD K x y H Q ∨ rNotInTD K x y H Q
theorem op_inX (hu : X.A.units + 65 < cLine) : OpR X (compareOp .In) (rInX X.K) := (op_inD hu).or (op_inTD hu)
theorem op_notInX (hu : X.A.units + 65 < cLine) : OpR X (compareOp .NotIn) (rNotInX X.K) := (op_notInD hu).or (op_notInTD hu)
theorem p_in {c : Ct} : Op2P c (rInX c.K) inD := by
  intro e F ρ s σ Hs H W x y d v w Q ec r lx ly hg h
  subst ec
  unfold inD at hg
  split at hg
  · split at hg
    · rename_i es hp
      rw [Bool.and_eq_true] at hp
      cases hg
      refine .inl ⟨toPy x, toPyL es, lx.dp hp.1, ly.dp hp.2, plain_shaped hp.1, plain_shaped hp.2, ?_⟩
      have q := rdAt_pure h r (rep_bl (i := es.any fun z => deq z x))
      rw [toPyL_map, List.any_map]
      exact q
    · cases hg
  · split at hg
    · rename_i es hp
      rw [Bool.and_eq_true] at hp
      cases hg
      refine .inr ⟨toPy x, toPyL es, lx.dp hp.1, ly.dp hp.2, plain_shaped hp.1, plain_shaped hp.2, ?_⟩
      have q := rdAt_pure h r (rep_bl (i := es.any fun z => deq z x))
      rw [toPyL_map, List.any_map]
      exact q
    · cases hg
  · cases hg
def notInD (d e : D) : Option D := match inD d e with
  | some (.bl b) => some (.bl (!b))
  | _ => none
theorem p_notIn {c : Ct} : Op2P c (rNotInX c.K) notInD := by
  intro e F ρ s σ Hs H W x y d v w Q ec r lx ly hg h
  subst ec
  unfold notInD inD at hg
  cases y with
  | lst es =>
    simp only at hg
    by_cases hp : (plain x && plain (.lst es)) = true
    · rw [if_pos hp] at hg
      rw [Bool.and_eq_true] at hp
      cases hg
      refine .inl ⟨toPy x, toPyL es, lx.dp hp.1, ly.dp hp.2, plain_shaped hp.1, plain_shaped hp.2, ?_⟩
      have q := rdAt_pure h r (rep_bl (i := !es.any fun z => deq z x))
      rw [toPyL_map, List.any_map]
      exact q
    · rw [if_neg hp] at hg; cases hg
  | tup es =>
    simp only at hg
    by_cases hp : (plain x && plain (.tup es)) = true
    · rw [if_pos hp] at hg
      rw [Bool.and_eq_true] at hp
      cases hg
      refine .inr ⟨toPy x, toPyL es, lx.dp hp.1, ly.dp hp.2, plain_shaped hp.1, plain_shaped hp.2, ?_⟩
      have q := rdAt_pure h r (rep_bl (i := !es.any fun z => deq z x))
      rw [toPyL_map, List.any_map]
      exact q
    · rw [if_neg hp] at hg; cases hg
  | _ => cases hg
theorem isNon_of {c : Ct} {d : D} {v : V} (l : Lent c F ρ H d v) : decide (v = .non) = isNonD d := by
  cases d with
  | lst ds => obtain ⟨a, vs, rfl, _⟩ := l; rfl
  | dct ds => obtain ⟨a, rfl, _⟩ := l; rfl
  | dcT ds => obtain ⟨a, rfl, _⟩ := l; rfl
  | non => have l : Rep c F ρ H .non v := l; unfold Rep at l; subst l; rfl
  | bl b => have l : Rep c F ρ H (.bl b) v := l; unfold Rep at l; subst l; rfl
  | int b => have l : Rep c F ρ H (.int b) v := l; unfold Rep at l; subst l; rfl
  | str b => have l : Rep c F ρ H (.str b) v := l; unfold Rep at l; subst l; rfl
  | tup b => have l : Rep c F ρ H (.tup b) v := l; unfold Rep at l; obtain ⟨a, vs, rfl, _⟩ := l; rfl
  | wl b => have l : Rep c F ρ H (.wl b) v := l; unfold Rep at l; obtain ⟨a, vs, rfl, _⟩ := l; rfl
  | obj b => have l : Rep c F ρ H (.obj b) v := l; unfold Rep at l; obtain ⟨a, rfl, _⟩ := l; rfl
  | fn b => have l : Rep c F ρ H (.fn b) v := l; unfold Rep at l; obtain ⟨a, rfl, _⟩ := l; rfl
  | exc _ _ _ => have l : Rep c F ρ H (.exc _ _ _) v := l; unfold Rep at l; obtain ⟨a, C, d, rfl, _⟩ := l; rfl
def isD (x y : D) : Option D := if isNonD y then isND x else none
def isNotD (x y : D) : Option D := if isNonD y then notND x else none
theorem p_is {c : Ct} : Op2P c (fun x y H Q => y = .non ∧ Q (.bl (decide (x = .non))) H) isD := by
  intro e F ρ s σ Hs H W x y d v w Q ec r lx ly hg h
  subst ec
  unfold isD isND at hg
  split at hg
  · rename_i hy
    cases hg
    have q := isNon_of ly
    rw [hy, decide_eq_true_eq] at q
    exact ⟨q, by rw [isNon_of lx]; exact rdAt_pure h r rep_bl⟩
  · cases hg
theorem p_isNot {c : Ct} : Op2P c (fun x y H Q => y = .non ∧ Q (.bl (!decide (x = .non))) H) isNotD := by
  intro e F ρ s σ Hs H W x y d v w Q ec r lx ly hg h
  subst ec
  unfold isNotD notND at hg
  split at hg
  · rename_i hy
    cases hg
    have q := isNon_of ly
    rw [hy, decide_eq_true_eq] at q
    exact ⟨q, by rw [isNon_of lx]; exact rdAt_pure h r rep_bl⟩
  · cases hg
end
end Ls
namespace Ls
open PySem PySem.Spec L2
def SM.bind {α : Type} (f : M α) (k : α → SM) : SM := fun s => match f s with
  | .bad => .bad
  | .ok a s1 => k a s1
  | .exc x s1 => .exc x s1
def SM.seq (a b : SM) : SM := fun s => match a s with
  | .nx s1 => b s1
  | r => r
def setSlot (i : Nat) (x : Sl) (s : S) : S := { s with env := s.env.set i x }
def rdSAt (e : En) (W : WX) (f : SM) (F : Addr → Prop) (ρ : List Addr) (s : S) (H : Hp) (D : Ends) : Prop :=
  match f s with
  | .bad => False
  | .nx s' => ∀ F' ρ' σ' H', Kp F F' ρ ρ' H H' → Rel e F' ρ' s' σ' H' → D.nx σ' H'
  | .rt d s' => ∀ v F' ρ' σ' H', Kp F F' ρ ρ' H H' → Rel e F' ρ' s' σ' H' → Rep e.c F' ρ' H' d v → D.rt v H'
  | .bk s' => ∀ F' ρ' σ' H', Kp F F' ρ ρ' H H' → Rel e F' ρ' s' σ' H' → D.bk σ' H'
  | .ct s' => ∀ F' ρ' σ' H', Kp F F' ρ ρ' H H' → Rel e F' ρ' s' σ' H' → D.ct σ' H'
  | .exc x s' => ∀ cls dd F' ρ' σ' H', Rel e F' ρ' s' σ' H' → ExR e.c F' ρ' H' x cls dd → W cls dd σ' H'
def rdS (e : En) (W : WX) (f : SM) : TS := fun D σ H => ∃ F ρ s, Rel e F ρ s σ H ∧ rdSAt e W f F ρ s H D
abbrev DS (X : Cx) (e : En) (W : WX) (x : Stmt) (f : SM) : Prop := PS X x (rdS e W f)
abbrev DSs (X : Cx) (e : En) (W : WX) (x : List Stmt) (f : SM) : Prop := PSs X x (rdS e W f)
abbrev DX (X : Cx) (e : En) (W : WX) (x : Expr) (f : M Sl) : Prop := PE X x (rdG e W RS f)
section
variable {X : Cx} {e : En} {F F' F1 F2 : Addr → Prop} {ρ ρ' ρ1 ρ2 : List Addr} {s s' s1 s2 : S} {σ σ' : L2.St} {H H' H1 H2 Hs : Hp} {W : WX} {α β τ υ : Type} {DD : Ends}
theorem rdSAt_from {f : SM} {s0 : S} {F0 : Addr → Prop} {ρ0 : List Addr} {H0 : Hp} {f0 : SM} (k : Kp F0 F ρ0 ρ H0 H) (h : rdSAt e W f0 F0 ρ0 s0 H0 DD) (q : f0 s0 = f s) : rdSAt e W f F ρ s H DD := by
  unfold rdSAt at h ⊢
  rw [q] at h
  cases z : f s with
  | bad => rw [z] at h; exact h
  | nx s' => rw [z] at h; exact fun F' ρ' σ' H' k2 => h F' ρ' σ' H' (k.trans k2)
  | rt d s' => rw [z] at h; exact fun v F' ρ' σ' H' k2 => h v F' ρ' σ' H' (k.trans k2)
  | bk s' => rw [z] at h; exact fun F' ρ' σ' H' k2 => h F' ρ' σ' H' (k.trans k2)
  | ct s' => rw [z] at h; exact fun F' ρ' σ' H' k2 => h F' ρ' σ' H' (k.trans k2)
  | exc x s' => rw [z] at h; exact h
theorem rdS_bind {R : RR α τ} {f : M α} {k : α → SM} {P : τ → Hp → Prop} (h : rdS e W (SM.bind f k) DD σ H)
    (g : ∀ v F ρ s F1 ρ1 s1 H1 a, Rel e F ρ s σ H → Stp F F1 ρ ρ1 s s1 σ H H1 → Rel e F1 ρ1 s1 σ H1 → R e H F1 ρ1 s1 σ H1 a v → rdSAt e W (k a) F1 ρ1 s1 H1 DD → P v H1) : rdG e W R f σ H P := by
  obtain ⟨F, ρ, s, r, h⟩ := h
  refine ⟨F, ρ, s, r, ?_⟩
  unfold rdAt
  cases q : f s with
  | bad => unfold rdSAt SM.bind at h; rw [q] at h; exact h
  | exc x s' =>
    unfold rdSAt SM.bind at h
    rw [q] at h
    exact fun cls dd F' ρ' H' _ r' x' => h cls dd F' ρ' σ H' r' x'
  | ok d s' =>
    intro v F1 ρ1 H1 st r1 rr
    refine g v F ρ s F1 ρ1 s' H1 d r st r1 rr (rdSAt_from (st.kp r) h ?_)
    unfold SM.bind
    rw [q]
theorem rdSAt_bind {R : RR α τ} {f : M α} {k : α → SM} {P : τ → Hp → Prop} (r : Rel e F ρ s σ H) (h : rdSAt e W (SM.bind f k) F ρ s H DD)
    (g : ∀ v F1 ρ1 s1 H1 a, Stp F F1 ρ ρ1 s s1 σ H H1 → Rel e F1 ρ1 s1 σ H1 → R e H F1 ρ1 s1 σ H1 a v → rdSAt e W (k a) F1 ρ1 s1 H1 DD → P v H1) : rdG e W R f σ H P := by
  refine ⟨F, ρ, s, r, ?_⟩
  unfold rdAt
  cases q : f s with
  | bad => unfold rdSAt SM.bind at h; rw [q] at h; exact h
  | exc x s' =>
    unfold rdSAt SM.bind at h
    rw [q] at h
    exact fun cls dd F' ρ' H' _ r' x' => h cls dd F' ρ' σ H' r' x'
  | ok d s' =>
    intro v F1 ρ1 H1 st r1 rr
    refine g v F1 ρ1 s' H1 d st r1 rr (rdSAt_from (st.kp r) h ?_)
    unfold SM.bind
    rw [q]
theorem rdS_seq {a b : SM} (h : rdS e W (SM.seq a b) DD σ H) : rdS e W a { DD with nx := fun σ' H' => rdS e W b DD σ' H' } σ H := by
  obtain ⟨F, ρ, s, r, h⟩ := h
  refine ⟨F, ρ, s, r, ?_⟩
  unfold rdSAt
  cases q : a s with
  | nx s' =>
    intro F' ρ' σ' H' k r'
    refine ⟨F', ρ', s', r', rdSAt_from k h ?_⟩
    unfold SM.seq
    rw [q]
  | bad => unfold rdSAt SM.seq at h; rw [q] at h; exact h
  | rt d s' => unfold rdSAt SM.seq at h; rw [q] at h; exact h
  | bk s' => unfold rdSAt SM.seq at h; rw [q] at h; exact h
  | ct s' => unfold rdSAt SM.seq at h; rw [q] at h; exact h
  | exc d s' => unfold rdSAt SM.seq at h; rw [q] at h; exact h
/-! ### blocks -/
def mNx : SM := fun s => .nx s
theorem dss_nil : DSs X e W [] mNx := PSs.weak pss_nil fun DD σ H ⟨F, ρ, s, r, h⟩ => h F ρ σ H Kp.refl r
theorem dss_cons {st : Stmt} {rest : List Stmt} {a b : SM} (h1 : DS X e W st a) (h2 : DSs X e W rest b) : DSs X e W (st :: rest) (SM.seq a b) := PSs.weak (pss_cons h1 h2) fun DD σ H h => rdS_seq h
theorem dss_one {st : Stmt} {a : SM} (h1 : DS X e W st a) : DSs X e W [st] a := pss_one h1
def mBk : SM := fun s => .bk s
def mCt : SM := fun s => .ct s
def mBad : SM := fun _ => .bad
theorem ds_pass {pos : Pos} : DS X e W (.Pass pos) mNx := PS.weak ps_pass fun DD σ H ⟨F, ρ, s, r, h⟩ => h F ρ σ H Kp.refl r
theorem ds_break {pos : Pos} : DS X e W (.Break pos) mBk := PS.weak ps_break fun DD σ H ⟨F, ρ, s, r, h⟩ => h F ρ σ H Kp.refl r
theorem ds_continue {pos : Pos} : DS X e W (.Continue pos) mCt := PS.weak ps_continue fun DD σ H ⟨F, ρ, s, r, h⟩ => h F ρ σ H Kp.refl r
theorem ds_never {st : Stmt} : DS X e W st mBad := PS.weak (t := tNever) ps_never fun DD σ H ⟨F, ρ, s, r, h⟩ => h
theorem dss_never {st : List Stmt} : DSs X e W st mBad := PSs.weak (t := tNever) pss_never fun DD σ H ⟨F, ρ, s, r, h⟩ => h
/-! ### a slot is set -/
theorem RS.slotOk {x : Sl} {v : V} (q : RS e Hs F ρ s σ H x v) : SlotOk e.c F ρ H x (some v) := by
  cases x with
  | emp => exact q.elim
  | sh d => exact ⟨v, rfl, q⟩
  | own ds =>
    obtain ⟨a, vs, rfl, _, _, _, _, _, h, l⟩ := q
    exact ⟨a, rfl, vs, h, l⟩
  | ownK kvs =>
    obtain ⟨a, rfl, _, _, _, _, _, h⟩ := q
    exact ⟨a, rfl, h⟩
  | ownT kvs =>
    obtain ⟨a, rfl, _, _, _, _, _, h⟩ := q
    exact ⟨a, rfl, h⟩
theorem RS.owns {x : Sl} {v : V} (q : RS e Hs F ρ s σ H x v) {b : Addr} (h : x.owns (some v) b) : ¬ F b ∧ b ∉ ρ ∧ Fr e.H0 b ∧ ¬ owned s.env σ b ∧ Fr Hs b := by
  cases x with
  | emp => exact h.elim
  | sh d => exact h.elim
  | own ds =>
    obtain ⟨a, vs, rfl, f, g, i, j, k, _⟩ := q
    have h : a = b := h
    subst h
    exact ⟨g, i, j, k, f⟩
  | ownK kvs =>
    obtain ⟨a, rfl, f, g, i, j, k, _⟩ := q
    have h : a = b := h
    subst h
    exact ⟨g, i, j, k, f⟩
  | ownT kvs =>
    obtain ⟨a, rfl, f, g, i, j, k, _⟩ := q
    have h : a = b := h
    subst h
    exact ⟨g, i, j, k, f⟩
theorem Rel.set (r : Rel e F ρ s σ H) (i : Nat) {x : Sl} {o : Option V} (q : SlotOk e.c F ρ H x o) (ow : ∀ b, x.owns o b → ¬ F b ∧ b ∉ ρ ∧ Fr e.H0 b ∧ ∀ (j : Nat) (y : Sl), j ≠ i → s.env[j]? = some y → ¬ y.owns (σ[j]?.join) b) : Rel e F ρ (setSlot i x s) (σ.set i o) H := by
  have hl := r.len
  have old : ∀ (j : Nat) y, (s.env.set i x)[j]? = some y → (j = i ∧ y = x ∧ ((σ.set i o)[j]?).join = o) ∨ (j ≠ i ∧ s.env[j]? = some y ∧ (σ.set i o)[j]? = σ[j]?) := fun j y h => by
    by_cases hj : j = i
    · subst hj
      have hi : j < s.env.length := by
        have := (List.getElem?_eq_some_iff.mp h).1
        simpa using this
      rw [List.getElem?_set_self hi] at h
      cases h
      exact .inl ⟨rfl, rfl, by rw [List.getElem?_set_self (by omega)]; rfl⟩
    · rw [List.getElem?_set_ne (Ne.symm hj)] at h
      exact .inr ⟨hj, h, List.getElem?_set_ne (Ne.symm hj)⟩
  have ow' : ∀ b, owned (s.env.set i x) (σ.set i o) b → ¬ F b ∧ b ∉ ρ ∧ Fr e.H0 b := fun b ⟨j, y, h1, h2⟩ => by
    rcases old j y h1 with ⟨_, rfl, hv⟩ | ⟨hj, h1, hv⟩
    · rw [hv] at h2
      obtain ⟨a, b, c, _⟩ := ow b h2
      exact ⟨a, b, c⟩
    · rw [hv] at h2
      exact r.ownF b ⟨j, y, h1, h2⟩
  refine ⟨by show (σ.set i o).length = (s.env.set i x).length; simpa using hl, fun j y h => ?_, fun j l y z b h1 h2 p1 p2 => ?_, ow', r.rlen, r.store, r.nodup, r.sep, r.fF, r.mono, r.trk, r.rho, r.frm, r.tab⟩
  · rcases old j y h with ⟨_, rfl, hv⟩ | ⟨hj, h1, hv⟩
    · rw [hv]; exact q
    · rw [hv]; exact r.slot j y h1
  · rcases old j y h1 with ⟨ej, ey, hv⟩ | ⟨hj, h1', hv⟩
    · rcases old l z h2 with ⟨el, ez, hw⟩ | ⟨hl, h2', hw⟩
      · rw [ej, el]
      · rw [hv, ey] at p1
        rw [hw] at p2
        exact absurd p2 ((ow b p1).2.2.2 l z hl h2')
    · rcases old l z h2 with ⟨el, ez, hw⟩ | ⟨hl, h2', hw⟩
      · rw [hv] at p1
        rw [hw, ez] at p2
        exact absurd p1 ((ow b p2).2.2.2 j y hj h1')
      · rw [hv] at p1
        rw [hw] at p2
        exact r.dist j l y z b h1' h2' p1 p2
theorem Rel.setRS (r : Rel e F ρ s σ H) (i : Nat) {x : Sl} {v : V} (q : RS e Hs F ρ s σ H x v) : Rel e F ρ (setSlot i x s) (σ.set i (some v)) H :=
  r.set i q.slotOk fun b h => by
    obtain ⟨h1, h2, h3, h4, _⟩ := q.owns h
    exact ⟨h1, h2, h3, fun j y _ a p => h4 ⟨j, y, a, p⟩⟩
theorem dx_of {x : Expr} {f : M D} (h : DE X e W x f) : DX X e W x (M.bind f fun d => M.pure (.sh d)) := PE.weak h fun σ H Q q => rdG_bind q fun v F ρ s F1 ρ1 s1 H1 a r st r1 rr h => rdAt_pure h r1 rr
theorem dx_ofL {x : Expr} {f : M (List D)} (h : DL X e W x f) : DX X e W x (M.bind f fun d => M.pure (.own d)) := PE.weak h fun σ H Q q => rdG_bind q fun v F ρ s F1 ρ1 s1 H1 a r st r1 rr h => rdAt_pure h r1 rr
def mSet (i : Nat) (f : M Sl) : SM := SM.bind f fun x => fun s => .nx (setSlot i x s)
theorem rd_set {i : Nat} {f : M Sl} (h : rdS e W (mSet i f) DD σ H) : tAsg (rdG e W RS f) (gName i) DD σ H :=
  rdS_bind h fun v F ρ s F1 ρ1 s1 H1 a r st r1 rr h => h F1 ρ1 _ H1 Kp.refl (r1.setRS i rr)
theorem ds_set {i : Nat} {x : Str} {a : Expr} {f : M Sl} {pos pos' : Pos} (hN : X.N.Nodup) (hi : X.N[i]? = some x) (hx : Loc X.env.scope x) (he : DX X e W a f) (hs : swapsWith a (some (.Name x pos')) pos.line X.env = pure false)
    (hf : X.fn x = true ∨ X.env.scope.names.lookup x = some .local) : DS X e W (.Assign [.Name x pos'] a pos) (mSet i f) := PS.weak (ps_set hN hi hx he hs hf) fun DD σ H h => rd_set h
/-- x = e, e given to a shared slot -/
def mSetD (i : Nat) (f : M D) : SM := SM.bind f fun d => fun s => .nx (setSlot i (.sh d) s)
theorem ds_setD {i : Nat} {x : Str} {a : Expr} {f : M D} {pos pos' : Pos} (hN : X.N.Nodup) (hi : X.N[i]? = some x) (hx : Loc X.env.scope x) (he : DE X e W a f) (hs : swapsWith a (some (.Name x pos')) pos.line X.env = pure false)
    (hf : X.fn x = true ∨ X.env.scope.names.lookup x = some .local) : DS X e W (.Assign [.Name x pos'] a pos) (mSetD i f) := PS.weak (ps_set hN hi hx he hs hf) fun DD σ H h =>
  rdS_bind h fun v F ρ s F1 ρ1 s1 H1 a r st r1 rr h => h F1 ρ1 _ H1 Kp.refl (r1.setRS (Hs := H) (s := s1) i (x := .sh a) rr)
/-! ### if, return, an expression alone -/
def mIf (c : M Bool) (a b : SM) : SM := SM.bind c fun k => if k then a else b
theorem ds_if {c : Expr} {x y : List Stmt} {fc : M Bool} {a b : SM} {pos : Pos} (hc : DT X e W c fc) (ha : DSs X e W x a) (hb : DSs X e W y b) : DS X e W (.If c x y pos) (mIf fc a b) :=
  PS.weak (ps_if hc ha hb) fun DD σ H h => rdS_bind h fun v F ρ s F1 ρ1 s1 H1 k r st r1 rr h => by
    have rr : k = v := rr
    subst rr
    cases k with
    | true => rw [if_pos rfl]; exact ⟨F1, ρ1, s1, r1, h⟩
    | false => rw [if_neg Bool.false_ne_true]; exact ⟨F1, ρ1, s1, r1, h⟩
def mRet (f : M D) : SM := SM.bind f fun d => fun s => .rt d s
theorem ds_ret {x : Expr} {f : M D} {pos : Pos} (h : DE X e W x f) : DS X e W (.Return (some x) pos) (mRet f) :=
  PS.weak (ps_ret h) fun DD σ H h => rdS_bind h fun v F ρ s F1 ρ1 s1 H1 a r st r1 rr h => h v F1 ρ1 σ H1 Kp.refl r1 rr
def mRetN : SM := fun s => .rt .non s
theorem ds_retN {pos : Pos} : DS X e W (.Return none pos) mRetN := PS.weak ps_retN fun DD σ H ⟨F, ρ, s, r, h⟩ => h .non F ρ σ H Kp.refl r rep_non
def mDrop (f : M D) : SM := SM.bind f fun _ => fun s => .nx s
theorem ds_expr {x : Expr} {f : M D} {pos : Pos} (h : DE X e W x f) (hs : swapsWith x none pos.line X.env = pure false) : DS X e W (.Expr x pos) (mDrop f) :=
  PS.weak (ps_expr h hs) fun DD σ H h => rdS_bind h fun v F ρ s F1 ρ1 s1 H1 a r st r1 rr h => h F1 ρ1 σ H1 Kp.refl r1
/-! ### tests -/
theorem dt_not {x : Expr} {f : M Bool} {pos : Pos} (h : DT X e W x f) : DT X e W (.UnaryOp .Not x pos) (M.bind f fun b => M.pure (!b)) :=
  PT.weak (pt_not h) fun σ H Q q => rdG_bind q fun v F ρ s F1 ρ1 s1 H1 a r st r1 rr h => rdAt_pure (R := RT) h r1 (by have rr : a = v := rr; subst rr; rfl)
def mAnd (f g : M Bool) : M Bool := M.bind f fun b => if b then g else M.pure false
def mOr (f g : M Bool) : M Bool := M.bind f fun b => if b then M.pure true else g
theorem rd_and {f g : M Bool} {Q : Bool → Hp → Prop} (q : rdG e W RT (mAnd f g) σ H Q) : tAnd (rdG e W RT f) (rdG e W RT g) σ H Q :=
  rdG_bind q fun v F ρ s F1 ρ1 s1 H1 a r st r1 rr h => by
    have rr : a = v := rr
    subst rr
    cases a with
    | true => rw [if_pos rfl]; exact ⟨F1, ρ1, s1, r1, h⟩
    | false => rw [if_neg Bool.false_ne_true]; exact rdAt_pure (R := RT) h r1 rfl
theorem rd_or {f g : M Bool} {Q : Bool → Hp → Prop} (q : rdG e W RT (mOr f g) σ H Q) : tOr (rdG e W RT f) (rdG e W RT g) σ H Q :=
  rdG_bind q fun v F ρ s F1 ρ1 s1 H1 a r st r1 rr h => by
    have rr : a = v := rr
    subst rr
    cases a with
    | true => rw [if_pos rfl]; exact rdAt_pure (R := RT) h r1 rfl
    | false => rw [if_neg Bool.false_ne_true]; exact ⟨F1, ρ1, s1, r1, h⟩
theorem dw_and1 {x : Expr} {f : M Bool} {pos : Pos} (h : DT X e W x f) : DW X e W (.BoolOp .And [x] pos) f := pw_and1 h
theorem dw_or1 {x : Expr} {f : M Bool} {pos : Pos} (h : DT X e W x f) : DW X e W (.BoolOp .Or [x] pos) f := pw_or1 h
theorem dw_and {x y : Expr} {rest : List Expr} {f g : M Bool} {pos : Pos} (h : DT X e W x f) (h2 : DW X e W (.BoolOp .And (y :: rest) pos) g) : DW X e W (.BoolOp .And (x :: y :: rest) pos) (mAnd f g) := PW.weak (pw_and h h2) fun σ H Q q => rd_and q
theorem dw_or {x y : Expr} {rest : List Expr} {f g : M Bool} {pos : Pos} (h : DT X e W x f) (h2 : DW X e W (.BoolOp .Or (y :: rest) pos) g) : DW X e W (.BoolOp .Or (x :: y :: rest) pos) (mOr f g) := PW.weak (pw_or h h2) fun σ H Q q => rd_or q
theorem dt_w {x : Expr} {f : M Bool} (h : DW X e W x f) : DT X e W x f := PW.pt h
/-- an expression that gives True or False, as a test -/
theorem dt_val {x : Expr} {f : M D} (h : DB X e W x f) (he : ∀ whole, isTrue x X.env whole = (do let v ← whole; standAt x.pos; holding [v] (truthy v))) : DT X e W x (M.bind f asB) :=
  PT.weak (pt_val h he) fun σ H Q q => rdG_bind q fun v F ρ s F1 ρ1 s1 H1 a r st r1 rr h => by
    obtain ⟨b, _, e1, q⟩ := rdAt_asB h r1 rr
    exact ⟨b, e1, q⟩
def mIte (c : M Bool) (a b : M D) : M D := M.bind c fun k => if k then a else b
theorem de_if {c a b : Expr} {fc : M Bool} {fa fb : M D} {pos : Pos} (hc : DT X e W c fc) (ha : DE X e W a fa) (hb : DE X e W b fb) : DE X e W (.IfExp c a b pos) (mIte fc fa fb) :=
  PE.weak (pe_ifExp hc ha hb) fun σ H Q q => rdG_bind q fun v F ρ s F1 ρ1 s1 H1 k r st r1 rr h => by
    have rr : k = v := rr
    subst rr
    cases k with
    | true => rw [if_pos rfl]; exact ⟨F1, ρ1, s1, r1, by rw [if_pos rfl] at h; exact h⟩
    | false => rw [if_neg Bool.false_ne_true]; exact ⟨F1, ρ1, s1, r1, by rw [if_neg Bool.false_ne_true] at h; exact h⟩
/-- and, or, not as values -/
theorem de_one {op : BoolOp} {x : Expr} {f : M D} {pos : Pos} (h : DE X e W x f) : DE X e W (.BoolOp op [x] pos) f := pe_one h
def mAndV (f g : M D) : M D := M.bind f fun x => M.bind (asB x) fun b => if b then g else M.pure (.bl false)
def mOrV (f g : M D) : M D := M.bind f fun x => M.bind (asB x) fun b => if b then M.pure (.bl true) else g
theorem bind_asB {β : Type} {R : RR β V} {x : D} {v : V} {k : Bool → M β} {Q : V → Hp → Prop} (h : rdAt e W R (M.bind (asB x) k) Hs F ρ s σ H Q) (l : Lent e.c F ρ H x v) : ∃ b, v = .bl b ∧ rdAt e W R (k b) Hs F ρ s σ H Q := by
  cases x with
  | bl b =>
    have l : Rep e.c F ρ H (.bl b) v := l
    unfold Rep at l
    exact ⟨b, l, h⟩
  | _ => exact (show False from h).elim
theorem de_and {x y : Expr} {rest : List Expr} {f g : M D} {pos : Pos} (h : DE X e W x f) (h2 : DE X e W (.BoolOp .And (y :: rest) pos) g) : DE X e W (.BoolOp .And (x :: y :: rest) pos) (mAndV f g) :=
  PE.weak (pe_and h h2) fun σ H Q q => rdG_bind q fun v F ρ s F1 ρ1 s1 H1 a r st r1 rr h => by
    obtain ⟨b, rfl, h⟩ := bind_asB h (Rep.lent r1 rr)
    refine ⟨b, rfl, ?_⟩
    cases b with
    | true => rw [if_pos rfl]; exact ⟨F1, ρ1, s1, r1, h⟩
    | false => rw [if_neg Bool.false_ne_true]; exact rdAt_pure h r1 rep_bl
theorem de_or {x y : Expr} {rest : List Expr} {f g : M D} {pos : Pos} (h : DE X e W x f) (h2 : DE X e W (.BoolOp .Or (y :: rest) pos) g) : DE X e W (.BoolOp .Or (x :: y :: rest) pos) (mOrV f g) :=
  PE.weak (pe_or h h2) fun σ H Q q => rdG_bind q fun v F ρ s F1 ρ1 s1 H1 a r st r1 rr h => by
    obtain ⟨b, rfl, h⟩ := bind_asB h (Rep.lent r1 rr)
    refine ⟨b, rfl, ?_⟩
    cases b with
    | true => rw [if_pos rfl]; exact rdAt_pure h r1 rep_bl
    | false => rw [if_neg Bool.false_ne_true]; exact ⟨F1, ρ1, s1, r1, h⟩
theorem de_not {x : Expr} {f : M D} {pos : Pos} (h : DE X e W x f) : DE X e W (.UnaryOp .Not x pos) (M.bind f fun x => M.bind (asB x) fun b => M.pure (.bl (!b))) :=
  PE.weak (pe_not h) fun σ H Q q => rdG_bind q fun v F ρ s F1 ρ1 s1 H1 a r st r1 rr h => by
    obtain ⟨b, rfl, h⟩ := bind_asB h (Rep.lent r1 rr)
    exact ⟨b, rfl, rdAt_pure h r1 rep_bl⟩
/-! ### while -/
def whileN (c : M Bool) (b : SM) : Nat → SM
  | 0 => fun _ => .bad
  | n + 1 => SM.bind c fun k => if k then (fun s => match b s with
      | .nx s1 => whileN c b n s1
      | .ct s1 => whileN c b n s1
      | .bk s1 => .nx s1
      | r => r) else mNx
open Classical in
noncomputable def mWhile (c : M Bool) (b : SM) : SM := fun s => if h : ∃ n, whileN c b n s ≠ .bad then whileN c b h.choose s else .bad
theorem ds_while {c : Expr} {body : List Stmt} {fc : M Bool} {b : SM} {pos : Pos} (hp : PassesOwn (model X.prog X.w) X.A X.env X.xe) (hc : DT X e W c fc) (hb : DSs X e W body b) : DS X e W (.While c body [] pos) (mWhile fc b) := by
  refine PS.weak (ps_while hp hc hb) fun DD σ H ⟨F, ρ, s, r, h⟩ => ?_
  have q : ∃ n, rdSAt e W (whileN fc b n) F ρ s H DD := by
    by_cases z : ∃ n, whileN fc b n s ≠ .bad
    · refine ⟨z.choose, rdSAt_from Kp.refl h ?_⟩
      unfold mWhile
      rw [dif_pos z]
    · unfold rdSAt mWhile at h
      rw [dif_neg z] at h
      exact h.elim
  obtain ⟨n, q⟩ := q
  refine ⟨fun m σ H => ∃ F ρ s, Rel e F ρ s σ H ∧ rdSAt e W (whileN fc b m) F ρ s H DD, ⟨n, F, ρ, s, r, q⟩, fun m σ H ⟨F, ρ, s, r, q⟩ => ?_⟩
  cases m with
  | zero => exact (show False from q).elim
  | succ m =>
    have q : rdS e W (SM.bind fc fun k => if k then (fun s => match b s with
      | .nx s1 => whileN fc b m s1
      | .ct s1 => whileN fc b m s1
      | .bk s1 => .nx s1
      | r => r) else mNx) DD σ H := ⟨F, ρ, s, r, q⟩
    refine rdS_bind q fun v F ρ s F1 ρ1 s1 H1 k r st r1 rr h => ?_
    have rr : k = v := rr
    subst rr
    cases k with
    | false => rw [if_neg Bool.false_ne_true]; exact h F1 ρ1 σ H1 Kp.refl r1
    | true =>
      rw [if_pos rfl] at h ⊢
      refine ⟨fun σ' H' => ∃ F ρ s, Rel e F ρ s σ' H' ∧ rdSAt e W (whileN fc b m) F ρ s H' DD, fun σ' H' w => ⟨m, Nat.lt_succ_self m, w⟩, F1, ρ1, s1, r1, ?_⟩
      unfold rdSAt
      cases z : b s1 with
      | nx s2 => exact fun F' ρ' σ' H' k2 r2 => ⟨F', ρ', s2, r2, rdSAt_from k2 h (by rw [z])⟩
      | ct s2 => exact fun F' ρ' σ' H' k2 r2 => ⟨F', ρ', s2, r2, rdSAt_from k2 h (by rw [z])⟩
      | bad => unfold rdSAt at h; dsimp only at h; rw [z] at h; exact h
      | bk s2 => unfold rdSAt at h; dsimp only at h; rw [z] at h; exact h
      | rt d s2 => unfold rdSAt at h; dsimp only at h; rw [z] at h; exact h
      | exc d s2 => unfold rdSAt at h; dsimp only at h; rw [z] at h; exact h
end
end Ls
namespace Ls
open PySem PySem.Spec L2
theorem Rep.stp {e : En} {F F' : Addr → Prop} {ρ ρ' : List Addr} {s s' : S} {σ : L2.St} {H H' : Hp} (r : Rel e F ρ s σ H) (x : Stp F F' ρ ρ' s s' σ H H') {d : D} {v : V} (h : Rep e.c F ρ H d v) : Rep e.c F' ρ' H' d v := Rep.kp (x.kp r) _ _ h
theorem RepL.stp {e : En} {F F' : Addr → Prop} {ρ ρ' : List Addr} {s s' : S} {σ : L2.St} {H H' : Hp} (r : Rel e F ρ s σ H) (x : Stp F F' ρ ρ' s s' σ H H') {d : List D} {v : List V} (h : RepL e.c F ρ H d v) : RepL e.c F' ρ' H' d v := RepL.kp (x.kp r) _ _ h
section
variable {X : Cx} {e : En} {F F' F1 F2 : Addr → Prop} {ρ ρ' ρ1 ρ2 : List Addr} {s s' s1 s2 : S} {σ σ' : L2.St} {H H' H1 H2 Hs : Hp} {W : WX} {α β τ υ : Type} {DD : Ends}
/-! ### arguments -/
def mNil : M (List D) := M.pure []
def mCons (f : M D) (g : M (List D)) : M (List D) := M.bind f fun x => M.bind g fun xs => M.pure (x :: xs)
theorem da_nil : DA X e W [] mNil := PA.weak pa_nil fun σ H Q ⟨F, ρ, s, r, h⟩ => rdAt_pure (R := RA) h r (by show RepL _ _ _ _ [] []; unfold RepL; rfl)
theorem dab_nil : DAB X e W [] mNil := PA.weak pa_nil fun σ H Q ⟨F, ρ, s, r, h⟩ => rdAt_pure (R := RAB) h r rfl
theorem da_cons {x : Expr} {xs : List Expr} {f : M D} {g : M (List D)} (ha : DE X e W x f) (hb : DA X e W xs g) (hs : starEach (x :: xs) X.env = (false, eval x X.env) :: starEach xs X.env) : DA X e W (x :: xs) (mCons f g) :=
  PA.weak (pa_cons ha hb hs) fun σ H Q q => rdG_bind q fun v F ρ s F1 ρ1 s1 H1 a r st r1 rr h => ⟨F1, ρ1, s1, r1, rdAt_bind h fun vs F2 ρ2 s2 H2 as st2 r2 rr2 h2 =>
    rdAt_pure (R := RA) h2 r2 (by show RepL _ _ _ _ (a :: as) (v :: vs); unfold RepL; exact ⟨v, vs, rfl, Rep.stp r1 st2 rr, rr2⟩)⟩
theorem dab_cons {x : Expr} {xs : List Expr} {f : M D} {g : M (List D)} (ha : DB X e W x f) (hb : DAB X e W xs g) (hs : starEach (x :: xs) X.env = (false, eval x X.env) :: starEach xs X.env) : DAB X e W (x :: xs) (mCons f g) :=
  PA.weak (pa_cons ha hb hs) fun σ H Q q => rdG_bind q fun v F ρ s F1 ρ1 s1 H1 a r st r1 rr h => ⟨F1, ρ1, s1, r1, rdAt_bind h fun vs F2 ρ2 s2 H2 as st2 r2 rr2 h2 =>
    rdAt_pure (R := RAB) h2 r2 ⟨v, vs, rfl, Lent.stp r1 st2 rr, rr2⟩⟩
/-! ### displays -/
def mTup (f : M (List D)) : M D := M.bind f fun ds => if ds.length ≤ SZ then M.pure (.tup ds) else M.bad
def mLst (f : M (List D)) : M (List D) := M.bind f fun ds => if ds.length ≤ SZ then M.pure ds else M.bad
theorem de_tup {xs : List Expr} {f : M (List D)} {k : Nat} {pos : Pos} (h : DA X e W xs f) : DE X e W (.Tuple xs k pos) (mTup f) :=
  PE.weak (pe_tup h) fun σ H Q q => rdG_bind q fun vs F ρ s F1 ρ1 s1 H1 ds r st r1 rr h => by
    have rr : RepL e.c F1 ρ1 H1 ds vs := rr
    by_cases z : ds.length ≤ SZ
    · rw [if_pos z] at h
      refine ⟨by rw [rr.length, ← SZ_eq]; exact z, fun p hp => ?_⟩
      obtain ⟨r', st'⟩ := r1.laidF hp (.tup vs)
      refine h (.ref p) _ ρ1 _ st' r' ?_
      unfold RD Rep
      exact ⟨p, vs, rfl, .inl ⟨.inr rfl, .of upd_same⟩, RepL.stp r1 st' rr⟩
    · rw [if_neg z] at h
      exact (show False from h).elim
theorem dl_lst {xs : List Expr} {f : M (List D)} {pos : Pos} (h : DA X e W xs f) : DL X e W (.List xs pos) (mLst f) :=
  PE.weak (pe_lst h) fun σ H Q q => rdG_bind q fun vs F ρ s F1 ρ1 s1 H1 ds r st r1 rr h => by
    have rr : RepL e.c F1 ρ1 H1 ds vs := rr
    by_cases z : ds.length ≤ SZ
    · rw [if_pos z] at h
      refine ⟨by rw [rr.length, ← SZ_eq]; exact z, fun p hp => ?_⟩
      obtain ⟨r', st', n1, n2, n3, n4⟩ := r1.laidN hp (.lst vs)
      exact h (.ref p) _ ρ1 _ st' r' ⟨p, vs, rfl, Classical.byContradiction fun q => st.dom p q (.of hp), n1, n2, n3, n4, upd_same, RepL.stp r1 st' rr⟩
    · rw [if_neg z] at h
      exact (show False from h).elim
/-- a new list is frozen -/
theorem Rel.freezeL (r : Rel e F ρ s σ H) {ds : List D} {v : V} (q : RL e Hs F ρ s σ H ds v) : ∃ F', Rel e F' ρ s σ H ∧ (∀ a, F a → F' a) ∧ (∀ a, F' a → F a ∨ Fr Hs a) ∧ Rep e.c F' ρ H (.lst ds) v := by
  obtain ⟨a, vs, rfl, h0, h1, h2, h3, h4, h5, h6⟩ := q
  refine ⟨_, r.freeze h2 h3 h4 ⟨_, h5, by nofun⟩, fun _ h => .inl h, fun b h => h.imp id fun z => by rw [z]; exact h0, ?_⟩
  unfold Rep
  exact ⟨a, vs, rfl, ⟨.inr rfl, h5⟩, RepL.kp ⟨fun _ h => .inl h, ⟨[], by simp⟩, fun _ _ _ h => h⟩ _ _ h6⟩
theorem de_ofL {x : Expr} {f : M (List D)} (h : DL X e W x f) : DE X e W x (M.bind f fun ds => M.pure (.lst ds)) :=
  PE.weak h fun σ H Q ⟨F, ρ, s, r, q⟩ => ⟨F, ρ, s, r, by
    unfold rdAt at q ⊢
    unfold M.bind Res.bind at q
    cases z : f s with
    | bad => rw [z] at q; exact q
    | exc x s' => rw [z] at q; exact q
    | ok d s' =>
      rw [z] at q
      intro v F' ρ' H' st r' rl
      obtain ⟨F2, r2, m, nw, rp⟩ := r'.freezeL rl
      exact q v F2 ρ' H' ⟨fun a h => m a (st.mono a h), fun a h => by
        rcases nw a h with h | h
        · exact st.new a h
        · exact .inr (.inl h), st.own, st.rho, st.keep, st.dom⟩ r2 rp⟩
/-! ### items, slices -/
theorem LentL.at_ {c : Ct} {ds : List D} {vs : List V} {i : Int} {d : D} (h : RepL c F ρ H ds vs) (q : atD ds i = some d) : ∃ v, atI vs i = some v ∧ Rep c F ρ H d v := by
  unfold atD atI at q
  unfold atI
  rw [h.length]
  cases z : ixN ds.length i with
  | none => rw [z] at q; cases q
  | some j =>
    rw [z] at q
    exact h.get q
theorem p_ix {c : Ct} : Op2P c (rIx c.K) ixD := by
  intro e F ρ s σ Hs H W x y d v w Q ec r lx ly hg h
  subst ec
  unfold ixD at hg
  split at hg
  · obtain ⟨p, vs, rfl, sq, rl⟩ := Rep.tupSq lx
    have := int_of ly; subst w
    obtain ⟨u, h1, h2⟩ := LentL.at_ rl hg
    exact .inr (.inl ⟨p, vs, _, u, rfl, rfl, sq, h1, rdAt_pure h r h2⟩)
  · obtain ⟨p, vs, rfl, sq, rl⟩ := LentL.sq lx
    have := int_of ly; subst w
    obtain ⟨u, h1, h2⟩ := LentL.at_ rl hg
    exact .inl ⟨p, vs, _, u, rfl, rfl, sq, h1, rdAt_pure h r h2⟩
  · obtain ⟨p, vs, rfl, sq, rl⟩ := Rep.wlSq lx
    have := int_of ly; subst w
    obtain ⟨u, h1, h2⟩ := LentL.at_ rl hg
    exact .inl ⟨p, vs, _, u, rfl, rfl, sq, h1, rdAt_pure h r h2⟩
  · cases hg
theorem de_ix {a b : Expr} {fa fb : M D} {pos : Pos} (ha : DB X e W a fa) (hb : DB X e W b fb) (hs : PlainIx b) (hc : e.c.K = X.K) : DE X e W (.Subscript a b pos) (mO2 ixD fa fb) :=
  PE.weak (pe_ix ix_seq ha hb hs) fun σ H Q h => by rw [← hc]; exact rd_op2 p_ix h
/-- the part of a list from lo to hi -/
def cutD {α : Type} (xs : List α) (lo hi : Option Int) : List α := (xs.drop (HT.sIx xs.length 0 lo)).take (HT.sIx xs.length xs.length hi - HT.sIx xs.length 0 lo)
def slD (d : D) (lo hi : Option Int) : Option D := match d with
  | .tup ds => some (.tup (cutD ds lo hi))
  | .lst ds => some (.lst (cutD ds lo hi))
  | _ => none
theorem RepL.take {c : Ct} {ds : List D} {vs : List V} (n : Nat) (h : RepL c F ρ H ds vs) : RepL c F ρ H (ds.take n) (vs.take n) :=
  .of (by rw [List.length_take, List.length_take, h.length]) fun i d v h1 h2 => by
    rw [List.getElem?_take] at h1 h2
    split at h1
    · rename_i hi
      rw [if_pos hi] at h2
      obtain ⟨v', q, rp⟩ := h.get h1
      rw [h2] at q; cases q; exact rp
    · cases h1
theorem RepL.drop {c : Ct} {ds : List D} {vs : List V} (n : Nat) (h : RepL c F ρ H ds vs) : RepL c F ρ H (ds.drop n) (vs.drop n) :=
  .of (by rw [List.length_drop, List.length_drop, h.length]) fun i d v h1 h2 => by
    rw [List.getElem?_drop] at h1 h2
    obtain ⟨v', q, rp⟩ := h.get h1
    rw [h2] at q; cases q; exact rp
theorem RepL.cut {c : Ct} {ds : List D} {vs : List V} (lo hi : Option Int) (h : RepL c F ρ H ds vs) : RepL c F ρ H (cutD ds lo hi) (cutV vs lo hi) := by
  unfold cutD cutV
  rw [h.length]
  exact (h.drop _).take _
def RO : RR (Option Int) (Option Int) := fun _ _ _ _ _ _ _ a b => a = b
def mPart (f : M D) : M (Option Int) := M.bind f fun d => match d with
  | .int i => M.pure (some i)
  | _ => M.bad
theorem do_none : PO X none (rdG e W RO (M.pure none)) := ⟨fun pins s σ H Q I h => po_none.run pins s σ H Q I (by obtain ⟨F, ρ, s, r, h⟩ := h; exact rdAt_pure (R := RO) h r rfl)⟩
theorem do_some {x : Expr} {f : M D} (ha : DE X e W x f) : PO X (some x) (rdG e W RO (mPart f)) := ⟨fun pins s σ H Q I h => (po_some ha).run pins s σ H Q I (rdG_bind h fun v F ρ s F1 ρ1 s1 H1 d r st r1 rr h => by
  cases d with
  | int i =>
    have rr : Rep e.c F1 ρ1 H1 (.int i) v := rr
    unfold Rep at rr
    exact ⟨i, rr, rdAt_pure (R := RO) h r1 rfl⟩
  | _ => exact (show False from h).elim)⟩
def mSl (f : M D) (lo hi : M (Option Int)) : M D := M.bind f fun d => M.bind lo fun l => M.bind hi fun h => ofO (slD d l h)
theorem sIx_whole {α : Type} {xs : List α} {lo hi : Option Int} (h : HT.sIx xs.length 0 lo = 0 ∧ HT.sIx xs.length xs.length hi = xs.length) : cutD xs lo hi = xs := by
  unfold cutD
  rw [h.1, h.2]
  simp
theorem de_sl {x : Expr} {lo hi : Option Expr} {f : M D} {fl fh : M (Option Int)} {p2 pos : Pos} (ha : DB X e W x f) (hl : PO X lo (rdG e W RO fl)) (hh : PO X hi (rdG e W RO fh)) (hc : e.c.K = X.K) : DE X e W (.Subscript x (.Slice lo hi none p2) pos) (mSl f fl fh) := by
  refine PE.weak (pe_slice (sl_tupA.or sl_list) ha hl hh) fun σ H Q q => ?_
  show rdG e W RB f σ H _
  refine rdG_bind q fun v F ρ s F1 ρ1 s1 H1 d r st r1 rr h => ?_
  refine ⟨F1, ρ1, s1, r1, rdAt_bind (R1 := RO) h fun l F2 ρ2 s2 H2 l' st2 r2 e2 h2 => ?_⟩
  have e2 : l' = l := e2
  subst e2
  refine ⟨F2, ρ2, s2, r2, rdAt_bind (R1 := RO) h2 fun u F3 ρ3 s3 H3 u' st3 r3 e3 h3 => ?_⟩
  have e3 : u' = u := e3
  subst e3
  obtain ⟨d', hd, h4⟩ := rdAt_ofO h3
  have rr : Lent e.c F3 ρ3 H3 d v := Lent.stp r2 st3 (Lent.stp r1 st2 rr)
  unfold slD at hd
  split at hd
  · cases hd
    obtain ⟨p, vs, rfl, sq, rl⟩ := Rep.tupSq rr
    rw [hc] at sq
    refine .inl ⟨p, vs, rfl, sq, fun z => ?_, fun z n hn => ?_⟩
    · rw [rl.length] at z
      rw [sIx_whole z] at h4
      exact rdAt_pure h4 r3 rr
    · obtain ⟨r', st'⟩ := r3.laidF hn (.tup (cutV vs l' u'))
      refine h4 (.ref n) _ ρ3 _ st' r' ?_
      unfold RD Rep
      exact ⟨n, _, rfl, .inl ⟨.inr rfl, .of upd_same⟩, RepL.stp r3 st' (rl.cut _ _)⟩
  · cases hd
    obtain ⟨p, vs, rfl, sq, rl⟩ := LentL.sq rr
    rw [hc] at sq
    refine .inr ⟨p, vs, rfl, sq, fun n hn => ?_⟩
    obtain ⟨r', st'⟩ := r3.laidF hn (.lst (cutV vs l' u'))
    refine h4 (.ref n) _ ρ3 _ st' r' ?_
    unfold RD Rep
    exact ⟨n, _, rfl, ⟨.inr rfl, upd_same⟩, RepL.stp r3 st' (rl.cut _ _)⟩
  · cases hd
/-! ### built-ins by values -/
def CallP (c : Ct) (r : List V → Hp → VK → Prop) (g : List D → Option D) : Prop := ∀ (e : En) (F : Addr → Prop) (ρ : List Addr) (s : S) (σ : L2.St) (Hs H : Hp) (W : WX) (ds : List D) (d : D) (vs : List V) (Q : VK), e.c = c → Rel e F ρ s σ H → LentA c F ρ H ds vs →
  g ds = some d → rdAt e W RD (M.pure d) Hs F ρ s σ H Q → r vs H Q
def mB (g : List D → Option D) (f : M (List D)) : M D := M.bind f fun ds => ofO (g ds)
theorem rd_call {r : List V → Hp → VK → Prop} {g : List D → Option D} {f : M (List D)} {Q : VK} (P : CallP e.c r g) (h : rdG e W RD (mB g f) σ H Q) : tCB r (rdG e W RAB f) σ H Q :=
  rdG_bind h fun vs F ρ s F1 ρ1 s1 H1 ds r0 st r1 rr h => by
    obtain ⟨d, hd, h⟩ := rdAt_ofO h
    exact P e F1 ρ1 s1 σ _ H1 W ds d vs Q rfl r1 rr hd h
theorem de_callB {x : Str} {id : String} {r : List V → Hp → VK → Prop} {g : List D → Option D} {a : Expr} {as : List Expr} {f : M (List D)} {p pos : Pos} (hc : CallR X (.builtin id) r) (P : CallP e.c r g) (hg : Gl X x) (hm : X.mg x = none) (hv : bootBuiltins x = some (.builtin id)) (ha : DAB X e W (a :: as) f) (hn : x ≠ "__name__") (hdb : (x == ("__debug__" : Str)) = false)
    (he : starEach (a :: as) X.env = (false, eval a X.env) :: starEach as X.env) (hpl : (backTo pos (starEach as X.env)).any (·.1) = false) : DE X e W (.Call (.Name x p) (a :: as) [] pos) (mB g f) :=
  PE.weak (pe_callB hc hg hm hv ha hn hdb he hpl) fun _ _ _ h => rd_call P h
theorem de_callTy {x : Str} {id : String} {r : List V → Hp → VK → Prop} {g : List D → Option D} {a : Expr} {as : List Expr} {f : M (List D)} {p pos : Pos} (hc : CallR X (.type id) r) (P : CallP e.c r g) (hg : Gl X x) (hm : X.mg x = none) (hv : bootBuiltins x = some (.type id)) (ha : DAB X e W (a :: as) f) (hn : x ≠ "__name__") (hdb : (x == ("__debug__" : Str)) = false)
    (he : starEach (a :: as) X.env = (false, eval a X.env) :: starEach as X.env) (hpl : (backTo pos (starEach as X.env)).any (·.1) = false) : DE X e W (.Call (.Name x p) (a :: as) [] pos) (mB g f) :=
  PE.weak (pe_callTy hc hg hm hv ha hn hdb he hpl) fun _ _ _ h => rd_call P h
theorem lentA1 {c : Ct} {d : D} {vs : List V} (h : LentA c F ρ H [d] vs) : ∃ v, vs = [v] ∧ Lent c F ρ H d v := by
  obtain ⟨v, ws, rfl, l, z⟩ := h
  have z : ws = [] := z
  subst z
  exact ⟨v, rfl, l⟩
theorem lentA2 {c : Ct} {d d' : D} {vs : List V} (h : LentA c F ρ H [d, d'] vs) : ∃ v w, vs = [v, w] ∧ Lent c F ρ H d v ∧ Lent c F ρ H d' w := by
  obtain ⟨v, ws, rfl, l, q⟩ := h
  obtain ⟨w, rfl, l2⟩ := lentA1 q
  exact ⟨v, w, rfl, l, l2⟩
/-- len -/
def lenL : List D → Option D
  | [.tup ds] => some (.int ds.length)
  | [.lst ds] => some (.int ds.length)
  | [.wl ds] => some (.int ds.length)
  | _ => none
theorem c_len {c : Ct} : CallP c (fun xs H Q => ∃ p ys, xs = [.ref p] ∧ (SqL c.K H p ys ∨ SqT c.K H p ys) ∧ Q (.int ys.length) H) lenL := by
  intro e F ρ s σ Hs H W ds d vs Q ec r l hg h
  subst ec
  unfold lenL at hg
  split at hg
  · cases hg
    obtain ⟨v, rfl, l1⟩ := lentA1 l
    obtain ⟨p, vs, rfl, sq, rl⟩ := Rep.tupSq l1
    exact ⟨p, vs, rfl, .inr sq, by rw [rl.length]; exact rdAt_pure h r rep_int⟩
  · cases hg
    obtain ⟨v, rfl, l1⟩ := lentA1 l
    obtain ⟨p, vs, rfl, sq, rl⟩ := LentL.sq l1
    exact ⟨p, vs, rfl, .inl sq, by rw [rl.length]; exact rdAt_pure h r rep_int⟩
  · cases hg
    obtain ⟨v, rfl, l1⟩ := lentA1 l
    obtain ⟨p, vs, rfl, sq, rl⟩ := Rep.wlSq l1
    exact ⟨p, vs, rfl, .inl sq, by rw [rl.length]; exact rdAt_pure h r rep_int⟩
  · cases hg
/-- tuple(list), tuple(tuple) -/
def tupL : List D → Option D
  | [.tup ds] => some (.tup ds)
  | [.lst ds] => some (.tup ds)
  | _ => none
theorem c_tup {c : Ct} : CallP c (fun xs H Q => ∃ p ys, xs = [.ref p] ∧ ((SqL c.K H p ys ∧ ∀ l, H l = none → Q (.ref l) (upd H l (.tup ys))) ∨ (SqT c.K H p ys ∧ Q (.ref p) H))) tupL := by
  intro e F ρ s σ Hs H W ds d vs Q ec r l hg h
  subst ec
  unfold tupL at hg
  split at hg
  · cases hg
    obtain ⟨v, rfl, l1⟩ := lentA1 l
    obtain ⟨p, vs, e1, sq, rl⟩ := Rep.tupSq l1
    subst e1
    exact ⟨p, vs, rfl, .inr ⟨sq, rdAt_pure h r l1⟩⟩
  · cases hg
    obtain ⟨v, rfl, l1⟩ := lentA1 l
    obtain ⟨p, vs, rfl, sq, rl⟩ := LentL.sq l1
    refine ⟨p, vs, rfl, .inl ⟨sq, fun n hn => ?_⟩⟩
    obtain ⟨r', st'⟩ := r.laidF hn (.tup vs)
    refine h (.ref n) _ ρ _ st' r' ?_
    unfold RD Rep
    exact ⟨n, _, rfl, .inl ⟨.inr rfl, .of upd_same⟩, RepL.stp r st' rl⟩
  · cases hg
/-- list(tuple), list(list): a new one -/
def lstL : List D → Option (List D)
  | [.tup ds] => some ds
  | [.lst ds] => some ds
  | _ => none
theorem dl_list {a : Expr} {f : M (List D)} {p pos : Pos} (hg : Gl X "list") (hm : X.mg "list" = none) (ha : DAB X e W [a] f) (hc : e.c.K = X.K)
    (he : starEach [a] X.env = (false, eval a X.env) :: starEach [] X.env) (hpl : (backTo pos (starEach [] X.env)).any (·.1) = false) : DL X e W (.Call (.Name "list" p) [a] [] pos) (M.bind f fun ds => ofO (lstL ds)) :=
  PE.weak (pe_callTy call_list_of hg hm (by decide +kernel) ha (by decide) (by decide) he hpl) fun σ H Q q => rdG_bind q fun vs F ρ s F1 ρ1 s1 H1 ds r st r1 rr h => by
    obtain ⟨d, hd, h⟩ := rdAt_ofO h
    unfold lstL at hd
    have rr : LentA e.c F1 ρ1 H1 ds vs := rr
    have go : ∀ {p : Addr} {vs : List V} (sq : SqL X.K H1 p vs ∨ SqT X.K H1 p vs) (rl : RepL e.c F1 ρ1 H1 d vs), ∃ p_1 ys, [V.ref p] = [.ref p_1] ∧ (SqL X.K H1 p_1 ys ∨ SqT X.K H1 p_1 ys) ∧ ∀ l, H1 l = none → Q (.ref l) (upd H1 l (.lst ys)) := fun {p vs} sq rl =>
      ⟨p, vs, rfl, sq, fun n hn => by
        obtain ⟨r', st', n1, n2, n3, n4⟩ := r1.laidN hn (.lst vs)
        exact h (.ref n) _ ρ1 _ st' r' ⟨n, vs, rfl, Classical.byContradiction fun q => st.dom n q (.of hn), n1, n2, n3, n4, upd_same, RepL.stp r1 st' rl⟩⟩
    split at hd
    · cases hd
      obtain ⟨v, rfl, l1⟩ := lentA1 rr
      obtain ⟨p, vs, rfl, sq, rl⟩ := Rep.tupSq l1
      rw [hc] at sq
      exact go (.inr sq) rl
    · cases hd
      obtain ⟨v, rfl, l1⟩ := lentA1 rr
      obtain ⟨p, vs, rfl, sq, rl⟩ := LentL.sq l1
      rw [hc] at sq
      exact go (.inl sq) rl
    · cases hd
/-! ### own defs -/
inductive FR where
  | bad | ok (d : D) (st : List Ob) | exc (x : Ex) (st : List Ob)
abbrev Fn := List D → List Ob → FR
/-- the promise of a def: it does to data what g does -/
def spD (c : Ct) (n : Nat) (g : Fn) : Sp := fun vs H Q E => vs.length = n ∧ ∃ F ρ ds st, Rel ⟨c, F, ρ, H⟩ F ρ ⟨[], st⟩ [] H ∧ RepL c F ρ H ds vs ∧ match g ds st with
  | .bad => False
  | .ok d st' => ∀ v F' ρ' H', Rel ⟨c, F, ρ, H⟩ F' ρ' ⟨[], st'⟩ [] H' → Rep c F' ρ' H' d v → Q v H'
  | .exc x st' => ∀ cls dd F' ρ' H', Rel ⟨c, F, ρ, H⟩ F' ρ' ⟨[], st'⟩ [] H' → ExR c F' ρ' H' x cls dd → E cls dd H'
theorem owned_nil {b : Addr} : ¬ owned [] σ b := fun ⟨i, x, h, _⟩ => by simp at h
theorem Rel.enter (r : Rel e F ρ s σ H) : Rel ⟨e.c, F, ρ, H⟩ F ρ ⟨[], s.st⟩ [] H :=
  ⟨rfl, fun i x h => by simp at h, fun i j x y b h => by simp at h, fun b h => absurd h owned_nil, r.rlen, r.store, r.nodup, r.sep, fun a h => .inl h, fun a h => h, r.trk, ⟨[], by simp⟩, fun a o h _ _ => h, r.tab⟩
theorem Rel.call {st' : List Ob} (r : Rel e F ρ s σ H) (q : Rel ⟨e.c, F, ρ, H⟩ F' ρ' ⟨[], st'⟩ [] H') : Rel e F' ρ' { s with st := st' } σ H' ∧ Stp F F' ρ ρ' s { s with st := st' } σ H H' := by
  have dom : ∀ a, ¬ Fr H a → ¬ Fr H' a := fun a h z => by
    obtain ⟨o, w, m⟩ := Fr.not h
    by_cases hr : a ∈ ρ
    · obtain ⟨t, ht, _⟩ := q.rho
      have ht : ρ' = ρ ++ t := ht
      obtain ⟨o', h', m'⟩ := q.inRho (a := a) (by rw [ht]; exact List.mem_append_left _ hr)
      exact z.no h' m'
    · exact z.no (q.frm a o w hr m) m
  have st : Stp F F' ρ ρ' s { s with st := st' } σ H H' := ⟨q.mono, fun a h => (q.fF a h).imp id .inl, fun a h => h, q.rho, q.frm, dom⟩
  have k := st.kp r
  obtain ⟨t, ht, hn⟩ := q.rho
  have ht : ρ' = ρ ++ t := ht
  refine ⟨⟨r.len, fun i x h => Slot.kp (e := e) k (r.slot i x h) fun b u hb hu => q.frm b u hu (r.ownF b ⟨i, x, h, hb⟩).2.1 (by obtain ⟨u2, k1, k2⟩ := r.inOwn ⟨i, x, h, hb⟩; rw [hu] at k1; cases k1; exact k2), r.dist, fun b hb => ?_, q.rlen, q.store, q.nodup, q.sep, fun a h => ?_, fun a h => q.mono a (r.mono a h), q.trk, ?_, fun a o h n m => ?_, q.tab⟩, st⟩
  · obtain ⟨h1, h2, h3⟩ := r.ownF b hb
    obtain ⟨u, hu, hm⟩ := r.inOwn hb
    refine ⟨fun z => ?_, fun z => ?_, h3⟩
    · rcases q.fF b z with z | z
      · exact h1 z
      · exact (show Fr H b from z).no hu hm
    · rw [ht] at z
      rcases List.mem_append.mp z with z | z
      · exact h2 z
      · exact (show Fr H b from hn b z).no hu hm
  · rcases q.fF a h with z | z
    · exact r.fF a z
    · exact .inr (r.fresh0 z)
  · obtain ⟨u, hu, hv⟩ := r.rho
    refine ⟨u ++ t, by rw [ht, hu, List.append_assoc], fun a ha => ?_⟩
    rcases List.mem_append.mp ha with ha | ha
    · exact hv a ha
    · exact r.fresh0 (hn a ha)
  · refine q.frm a o (r.frm a o h n m) (fun z => ?_) m
    obtain ⟨u, hu, hv⟩ := r.rho
    have z : a ∈ ρ := z
    rw [hu] at z
    rcases List.mem_append.mp z with z | z
    · exact n z
    · exact (hv a z).no h m
def mCall (g : Fn) (f : M (List D)) : M D := M.bind f fun ds => fun s => match g ds s.st with
  | .bad => .bad
  | .ok d st' => .ok d { s with st := st' }
  | .exc x st' => .exc x { s with st := st' }
theorem rd_callF {g : Fn} {n : Nat} {Q : VK} {R : RR D V} (hR : ∀ Hs F ρ s H d v, Rep e.c F ρ H d v → R e Hs F ρ s σ H d v) {vs : List V} (hl : vs.length = n) {ds : List D} (r1 : Rel e F ρ s σ H) (rr : RepL e.c F ρ H ds vs)
    (h : rdAt e W R (fun s => match g ds s.st with | .bad => .bad | .ok d st' => .ok d { s with st := st' } | .exc x st' => .exc x { s with st := st' }) Hs F ρ s σ H Q) : spD e.c n g vs H Q (WE W σ) := by
  refine ⟨hl, F, ρ, ds, s.st, r1.enter, rr, ?_⟩
  unfold rdAt at h
  dsimp only at h
  cases z : g ds s.st with
  | bad => rw [z] at h; exact h
  | ok d st' =>
    rw [z] at h
    intro v F' ρ' H' q rp
    obtain ⟨a, b⟩ := r1.call q
    exact h v F' ρ' H' b a (hR _ _ _ _ _ _ _ rp)
  | exc x st' =>
    rw [z] at h
    intro cls dd F' ρ' H' q xr
    exact h cls dd F' ρ' H' (r1.call q).2 (r1.call q).1 xr
theorem de_call {x : Str} {k : Nat} {fa : Addr} {fd : FuncData} {ps : List Str} {g : Fn} {a : Expr} {as : List Expr} {f : M (List D)} {p pos : Pos} (L : Lk X e W) (Fo : FnOk X.prog X.w X.K X.mg X.base (L2.CX X.prog X.w) k fa fd ps (spD ⟨X.K, X.mg, e.c.T⟩ ps.length g)) (hr : Room k X.A) (hg : Gl X x) (hm : X.mg x = some (.ref fa)) (hk : PySem.W.keepIn X.K (.ref fa) = true)
    (hb : Binds X.K fd ps []) (ha : DA X e W (a :: as) f) (hdb : (x == ("__debug__" : Str)) = false) (hl : (a :: as).length = ps.length) (hlen : ∀ s ds s', f s = .ok ds s' → ds.length = (a :: as).length)
    (he : starEach (a :: as) X.env = (false, eval a X.env) :: starEach as X.env) (hpl : (backTo pos (starEach as X.env)).any (·.1) = false) : DE X e W (.Call (.Name x p) (a :: as) [] pos) (mCall g f) := by
  refine PE.weak (pe_callS (E := WE W) Fo hr hg hm hk hb (fun σ => passAt L.tk σ) ha hdb he hpl) fun σ H Q ⟨F, ρ, s, r, q⟩ => ?_
  refine ⟨F, ρ, s, r, ?_⟩
  have key := q
  unfold rdAt
  cases z : f s with
  | bad => unfold rdAt mCall M.bind Res.bind at q; rw [z] at q; exact q
  | exc x s' => unfold rdAt mCall M.bind Res.bind at q; rw [z] at q; exact q
  | ok ds s' =>
    intro vs F1 ρ1 H1 st r1 rr
    have rr : RepL e.c F1 ρ1 H1 ds vs := rr
    rw [show (⟨X.K, X.mg, e.c.T⟩ : Ct) = e.c from L.c.symm]
    refine rd_callF (Hs := H) (R := RD) (fun _ _ _ _ _ _ _ h => h) (by rw [rr.length, hlen _ _ _ z, hl]) r1 rr ?_
    unfold rdAt mCall M.bind Res.bind at key
    rw [z] at key
    unfold rdAt
    dsimp only at key ⊢
    cases w : g ds s'.st with
    | bad => rw [w] at key; exact key
    | ok d st' => rw [w] at key; exact fun v F' ρ' H' st2 => key v F' ρ' H' (st.trans st2)
    | exc x st' => rw [w] at key; exact fun cls dd F' ρ' H' st2 => key cls dd F' ρ' H' (st.trans st2)
/-- how many arguments -/
theorem len_nil {s s' : S} {ds : List D} (h : mNil s = .ok ds s') : ds.length = 0 := by cases h; rfl
theorem len_cons {f : M D} {g : M (List D)} {n : Nat} (hg : ∀ s ds s', g s = .ok ds s' → ds.length = n) : ∀ s ds s', mCons f g s = .ok ds s' → ds.length = n + 1 := by
  intro s ds s' h
  unfold mCons M.bind Res.bind at h
  cases z : f s with
  | bad => rw [z] at h; cases h
  | exc x s1 => rw [z] at h; cases h
  | ok d s1 =>
    rw [z] at h
    dsimp only at h
    cases w : g s1 with
    | bad => rw [w] at h; cases h
    | exc x s2 => rw [w] at h; cases h
    | ok ds' s2 =>
      rw [w] at h
      cases h
      rw [List.length_cons, hg _ _ _ w]
/-! ### a def's body -/
def mFn (n np : Nat) (body : SM) : Fn := fun ds st => if ds.length = np then (match body ⟨ds.map .sh ++ List.replicate (n - np) .emp, st⟩ with
  | .nx s => .ok .non s.st
  | .rt d s => .ok d s.st
  | .exc x s => .exc x s.st
  | _ => .bad) else .bad
theorem Rel.leave {s' : S} {c : Ct} {σ : L2.St} (r : Rel ⟨c, F, ρ, H⟩ F' ρ' s' σ H') : Rel ⟨c, F, ρ, H⟩ F' ρ' ⟨[], s'.st⟩ [] H' :=
  ⟨rfl, fun i x h => by simp at h, fun i j x y b h => by simp at h, fun b h => absurd h owned_nil, r.rlen, r.store, r.nodup, r.sep, r.fF, r.mono, r.trk, r.rho, r.frm, r.tab⟩
theorem Rel.begin {c : Ct} {st : List Ob} {ds : List D} {vs : List V} {N : List Str} (r : Rel ⟨c, F, ρ, H⟩ F ρ ⟨[], st⟩ [] H) (q : RepL c F ρ H ds vs) : Rel ⟨c, F, ρ, H⟩ F ρ ⟨ds.map .sh ++ List.replicate (N.length - ds.length) .emp, st⟩ (L2.start N vs) H := by
  have hl := q.length
  have no : ∀ b, ¬ owned (ds.map Sl.sh ++ List.replicate (N.length - ds.length) .emp) (L2.start N vs) b := fun b ⟨i, x, h1, h2⟩ => by
    have hx : x.owns ((L2.start N vs)[i]?.join) b → False := by
      by_cases hi : i < ds.length
      · rw [List.getElem?_append_left (by simpa using hi), List.getElem?_map] at h1
        cases z : ds[i]? with
        | none => rw [z] at h1; cases h1
        | some d => rw [z] at h1; cases h1; exact fun h => h.elim
      · rw [List.getElem?_append_right (by simpa using hi), List.getElem?_replicate] at h1
        split at h1
        · cases h1; exact fun h => h.elim
        · cases h1
    exact hx h2
  refine ⟨by unfold L2.start; simp [hl], fun i x h => ?_, fun i j x y b h1 _ h2 => absurd ⟨i, x, h1, h2⟩ (no b), fun b h => absurd h (no b), r.rlen, r.store, r.nodup, r.sep, r.fF, r.mono, r.trk, r.rho, r.frm, r.tab⟩
  have h : (ds.map Sl.sh ++ List.replicate (N.length - ds.length) .emp)[i]? = some x := h
  by_cases hi : i < ds.length
  · rw [List.getElem?_append_left (by simpa using hi), List.getElem?_map] at h
    cases z : ds[i]? with
    | none => rw [z] at h; cases h
    | some d =>
      rw [z] at h; cases h
      obtain ⟨v, hv, rp⟩ := q.get z
      refine ⟨v, ?_, rp⟩
      unfold L2.start
      rw [List.getElem?_append_left (by simpa [hl] using hi), List.getElem?_map, hv]
      rfl
  · rw [List.getElem?_append_right (by simpa using hi), List.getElem?_replicate] at h
    split at h
    · cases h; trivial
    · cases h
/-- THE RULE for a def: its body's derivation, in every context that it may run in -/
theorem fn_den {P : Program} {w : World} {c : Ct} {base : Heap} {x qual : Str} {st : Stmt} {f : Addr} {fd : FuncData} {N ps : List Str} {k : Nat} {body : SM} (Fu : Fun c.K x qual st f fd) (S : FnScope N ps (defScope st))
    (hbody : ∀ (cdv : Value) (A : Around) (outer : List Env) (s : Shared) (e : En) (E : XK), e.c = c → Room k (A.deeper (PyProof.Rows.envOfC qual (defScope st) s.heap.objs.size f cdv)) →
      DSs (cxOf (L2.CX P w) P w c.K c.mg base N qual (defScope st) f cdv A outer s e.H0 E) e (fun cls d _ H => E cls d H) (defBody st) body) :
    FnOk P w c.K c.mg base (L2.CX P w) (k + 1) f fd ps (spD c ps.length (mFn N.length ps.length body)) := by
  refine Fu.okX S (fun vs H Q E h => h.1) fun cdv A outer s H vs Q E hr h => ?_
  obtain ⟨hl, F, ρ, ds, st', r, rl, h⟩ := h
  refine ⟨_, hbody cdv A outer s ⟨c, F, ρ, H⟩ E rfl hr, F, ρ, ⟨ds.map .sh ++ List.replicate (N.length - ds.length) .emp, st'⟩, r.begin rl, ?_⟩
  have hd : ds.length = ps.length := by rw [← rl.length, hl]
  unfold mFn at h
  rw [if_pos hd] at h
  unfold rdSAt
  rw [hd]
  cases z : body ⟨ds.map .sh ++ List.replicate (N.length - ps.length) .emp, st'⟩ with
  | bad => rw [z] at h; exact h
  | bk s' => rw [z] at h; exact h.elim
  | ct s' => rw [z] at h; exact h.elim
  | nx s' => rw [z] at h; exact fun F' ρ' σ' H' _ r' => h .non F' ρ' H' r'.leave rep_non
  | rt d s' => rw [z] at h; exact fun v F' ρ' σ' H' _ r' rp => h v F' ρ' H' r'.leave rp
  | exc x s' => rw [z] at h; exact fun cls dd F' ρ' σ' H' r' xr => h cls dd F' ρ' H' r'.leave xr
end
end Ls
namespace Ls
open PySem PySem.Spec L2
/-! ### what is walked -/
/-- the walk J hands out the data ds, one by one, wherever what they stand on is kept -/
def Deliv (c : Ct) (J : It) (F : Addr → Prop) (ρ : List Addr) (H : Hp) (ds : List D) : Prop := ∀ F' ρ' H', Kp F F' ρ ρ' H H' → ∀ i, (ds.length ≤ i → J.stop i H') ∧
  ∀ d, ds[i]? = some d → J.go i H' ∧ ∀ x H'', J.yld i H' x H'' → (H'' = H' ∧ Rep c F' ρ' H' d x) ∨ ∃ T vs ds', x = .ref T ∧ H' T = none ∧ H'' = upd H' T (.tup vs) ∧ d = .tup ds' ∧ RepL c F' ρ' H' ds' vs
theorem Deliv.kp {c : Ct} {J : It} {F F' : Addr → Prop} {ρ ρ' : List Addr} {H H' : Hp} {ds : List D} (k : Kp F F' ρ ρ' H H') (d : Deliv c J F ρ H ds) : Deliv c J F' ρ' H' ds := fun F2 ρ2 H2 k2 => d F2 ρ2 H2 (k.trans k2)
def rdI (e : En) (W : WX) (f : M (List D)) : TI := fun σ H R => ∃ F ρ s, Rel e F ρ s σ H ∧ match f s with
  | .bad => False
  | .ok ds s' => ∀ J F' ρ' H', Stp F F' ρ ρ' s s' σ H H' → Rel e F' ρ' s' σ H' → Deliv e.c J F' ρ' H' ds → R J H'
  | .exc x s' => ∀ cls dd F' ρ' H', Stp F F' ρ ρ' s s' σ H H' → Rel e F' ρ' s' σ H' → ExR e.c F' ρ' H' x cls dd → W cls dd σ H'
theorem PI.weak {X : Cx} {tg x : Expr} {t t' : TI} (h : PI X tg x t) (k : ∀ σ H R, t' σ H R → t σ H R) : PI X tg x t' := ⟨fun pins s σ H R I hw => h.run pins s σ H R I (k σ H R hw)⟩
theorem PI.or {X : Cx} {tg x : Expr} {t t' : TI} (h : PI X tg x t) (h' : PI X tg x t') : PI X tg x (fun σ H R => t σ H R ∨ t' σ H R) := ⟨fun pins s σ H R I hw => hw.elim (fun z => h.run pins s σ H R I z) fun z => h'.run pins s σ H R I z⟩
abbrev DI (X : Cx) (e : En) (W : WX) (tg x : Expr) (f : M (List D)) : Prop := PI X tg x (rdI e W f)
/-- the items of a list, of a tuple -/
def seqOf : D → M (List D)
  | .lst ds => M.pure ds
  | .wl ds => M.pure ds
  | .tup ds => M.pure ds
  | _ => M.bad
section
variable {X : Cx} {e : En} {F F' F1 F2 : Addr → Prop} {ρ ρ' ρ1 ρ2 : List Addr} {s s' s1 s2 : S} {σ σ' : L2.St} {H H' H1 H2 Hs : Hp} {W : WX} {α β τ υ : Type} {DD : Ends}
theorem deliv_list {c : Ct} {a : Addr} {vs : List V} {ds : List D} (h : AtL c.K F H a vs) (r : RepL c F ρ H ds vs) : Deliv c (Itl c.K a) F ρ H ds := by
  intro F' ρ' H' k i
  have sq := (h.kp k).sq
  have r' := RepL.kp k _ _ r
  refine ⟨fun hi => ⟨vs, sq, by rw [r'.length]; exact hi⟩, fun d hd => ?_⟩
  obtain ⟨v, hv, rp⟩ := r'.get hd
  refine ⟨⟨vs, v, sq, hv⟩, fun x H'' ⟨e1, e2⟩ => .inl ⟨e1, ?_⟩⟩
  have q := e2 vs sq
  rw [hv] at q
  cases q
  exact rp
theorem deliv_tup {c : Ct} {a : Addr} {vs : List V} {ds : List D} (h : AtT c.K F H a vs) (r : RepL c F ρ H ds vs) : Deliv c (Itt c.K a) F ρ H ds := by
  intro F' ρ' H' k i
  have sq := (h.kp k).sq
  have r' := RepL.kp k _ _ r
  refine ⟨fun hi => ⟨vs, sq, by rw [r'.length]; exact hi⟩, fun d hd => ?_⟩
  obtain ⟨v, hv, rp⟩ := r'.get hd
  refine ⟨⟨vs, v, sq, hv⟩, fun x H'' ⟨e1, e2⟩ => .inl ⟨e1, ?_⟩⟩
  have q := e2 vs sq
  rw [hv] at q
  cases q
  exact rp
theorem deliv_rng {c : Ct} {lo : Int} {n : Nat} : Deliv c (Itr lo n) F ρ H ((List.range n).map fun i : Nat => D.int (lo + i)) := by
  intro F' ρ' H' k i
  refine ⟨fun hi => by show n ≤ i; simpa using hi, fun d hd => ?_⟩
  rw [List.getElem?_map] at hd
  by_cases z : i < n
  · have hd : d = .int (lo + i) := by
      have q : (List.range n)[i]? = some i := by simp [z]
      rw [q] at hd
      cases hd; rfl
    subst hd
    refine ⟨z, fun x H'' ⟨e1, e2⟩ => .inl ⟨e1, ?_⟩⟩
    rw [e2]; exact rep_int
  · have q : (List.range n)[i]? = none := by simp [z]
    rw [q] at hd; cases hd
/-- a list or a tuple -/
theorem di_seq {tg x : Expr} {f : M D} (h : DE X e W x f) (hc : e.c.K = X.K) : DI X e W tg x (M.bind f seqOf) := by
  refine PI.weak (PI.or (pi_list (X := X) (tg := tg) h) (pi_tup h)) fun σ H R ⟨F, ρ, s, r, q⟩ => ?_
  unfold M.bind Res.bind at q
  have other : ∀ d s', f s = .ok d s' → (∀ ds, d ≠ .lst ds) → (∀ ds, d ≠ .wl ds) → (∀ ds, d ≠ .tup ds) → False := fun d s' z n1 n3 n2 => by
    rw [z] at q
    cases d with
    | lst ds => exact n1 _ rfl
    | wl ds => exact n3 _ rfl
    | tup ds => exact n2 _ rfl
    | _ => exact q
  cases z : f s with
  | bad => rw [z] at q; exact q.elim
  | exc x s' =>
    rw [z] at q
    refine .inl ⟨F, ρ, s, r, ?_⟩
    unfold rdAt
    rw [z]
    exact q
  | ok d s' =>
    cases d with
    | lst ds =>
      rw [z] at q
      refine .inl ⟨F, ρ, s, r, ?_⟩
      unfold rdAt
      rw [z]
      intro v F' ρ' H' st r' rp
      have rp : Rep e.c F' ρ' H' (.lst ds) v := rp
      unfold Rep at rp
      obtain ⟨a, vs, rfl, ⟨f, at_⟩, rl⟩ := rp
      refine ⟨a, rfl, ⟨vs, .of at_⟩, ?_⟩
      rw [← hc]
      exact q (Itl e.c.K a) F' ρ' H' st r' (deliv_list (.inl ⟨f, .of at_⟩) rl)
    | wl ds =>
      rw [z] at q
      refine .inl ⟨F, ρ, s, r, ?_⟩
      unfold rdAt
      rw [z]
      intro v F' ρ' H' st r' rp
      have rp : Rep e.c F' ρ' H' (.wl ds) v := rp
      unfold Rep at rp
      obtain ⟨a, vs, rfl, at_, rl⟩ := rp
      refine ⟨a, rfl, ⟨vs, by rw [← hc]; exact at_.sq⟩, ?_⟩
      rw [← hc]
      exact q (Itl e.c.K a) F' ρ' H' st r' (deliv_list at_ rl)
    | tup ds =>
      rw [z] at q
      refine .inr ⟨F, ρ, s, r, ?_⟩
      unfold rdAt
      rw [z]
      intro v F' ρ' H' st r' rp
      have rp : Rep e.c F' ρ' H' (.tup ds) v := rp
      unfold Rep at rp
      obtain ⟨a, vs, rfl, at_, rl⟩ := rp
      refine ⟨a, rfl, ⟨vs, by rw [← hc]; exact at_.sq⟩, ?_⟩
      rw [← hc]
      exact q (Itt e.c.K a) F' ρ' H' st r' (deliv_tup at_ rl)
    | _ => exact (other _ s' z (fun _ h => by cases h) (fun _ h => by cases h) (fun _ h => by cases h)).elim
/-- ranges -/
def okI (i : Int) : Bool := decide (-(2 ^ 62) ≤ i) && decide (i < 2 ^ 62)
def rngL (lo : Int) (n : Nat) : List D := (List.range n).map fun i : Nat => D.int (lo + i)
def rng1 : List D → Option (List D)
  | [.int j] => if okI j then some (rngL 0 j.toNat) else none
  | _ => none
def rng2 : List D → Option (List D)
  | [.int i, .int j] => if okI i && okI j then some (rngL i (j - i).toNat) else none
  | _ => none
theorem rdI_bind {f : M (List D)} {g : List D → Option (List D)} {R : It → Hp → Prop} {P : List V → Hp → Prop} (h : rdI e W (M.bind f fun ds => ofO (g ds)) σ H R)
    (k : ∀ vs F1 ρ1 s1 H1 ds ds', Rel e F1 ρ1 s1 σ H1 → LentA e.c F1 ρ1 H1 ds vs → g ds = some ds' → (∀ J, Deliv e.c J F1 ρ1 H1 ds' → R J H1) → P vs H1) : rdG e W RAB f σ H P := by
  obtain ⟨F, ρ, s, r, q⟩ := h
  refine ⟨F, ρ, s, r, ?_⟩
  unfold rdAt
  unfold M.bind Res.bind at q
  cases z : f s with
  | bad => rw [z] at q; exact q
  | exc x s' => rw [z] at q; exact q
  | ok ds s' =>
    rw [z] at q
    intro vs F1 ρ1 H1 st r1 l
    dsimp only at q
    cases w : g ds with
    | none => rw [w] at q; exact q.elim
    | some ds' =>
      rw [w] at q
      exact k vs F1 ρ1 s' H1 ds ds' r1 l w fun J dl => q J F1 ρ1 H1 st r1 dl
theorem di_range1 {tg a : Expr} {f : M (List D)} {p pos : Pos} (hg : Gl X "range") (hm : X.mg "range" = none) (ha : DAB X e W [a] f) (hs : starEach [a] X.env = [(false, eval a X.env)]) : DI X e W tg (.Call (.Name "range" p) [a] [] pos) (M.bind f fun ds => ofO (rng1 ds)) :=
  PI.weak (pi_range1 hg hm ha hs) fun σ H R q => rdI_bind q fun vs F1 ρ1 s1 H1 ds ds' r1 l w h => by
    unfold rng1 at w
    split at w
    · split at w
      · rename_i j hj
        cases w
        obtain ⟨v, rfl, l1⟩ := lentA1 l
        have := int_of l1; subst v
        unfold okI at hj
        simp only [Bool.and_eq_true, decide_eq_true_eq] at hj
        exact ⟨j, rfl, hj.1, hj.2, h _ deliv_rng⟩
      · cases w
    · cases w
theorem di_range2 {tg a b : Expr} {f : M (List D)} {p pos : Pos} (hg : Gl X "range") (hm : X.mg "range" = none) (ha : DAB X e W [a, b] f) (hs : starEach [a, b] X.env = [(false, eval a X.env), (false, eval b X.env)]) (hs2 : starEach [b] X.env = [(false, eval b X.env)]) :
    DI X e W tg (.Call (.Name "range" p) [a, b] [] pos) (M.bind f fun ds => ofO (rng2 ds)) :=
  PI.weak (pi_range2 hg hm ha hs hs2) fun σ H R q => rdI_bind q fun vs F1 ρ1 s1 H1 ds ds' r1 l w h => by
    unfold rng2 at w
    split at w
    · split at w
      · rename_i i j hj
        cases w
        obtain ⟨v, u, rfl, l1, l2⟩ := lentA2 l
        have := int_of l1; subst v
        have := int_of l2; subst u
        unfold okI at hj
        simp only [Bool.and_eq_true, decide_eq_true_eq] at hj
        exact ⟨i, j, rfl, ⟨hj.1.1, hj.1.2, hj.2.1, hj.2.2⟩, h _ deliv_rng⟩
      · cases w
    · cases w
/-! ### targets -/
def rdTg (e : En) (is : List Nat) (tf : D → S → Option S) : TG := fun v σ H Q => ∃ F ρ s d, Rel e F ρ s σ H ∧ Rep e.c F ρ H d v ∧ match tf d s with
  | none => False
  | some s' => ∀ σ', wipe σ' is = wipe σ is → (∀ b, owned s'.env σ' b → owned s.env σ b) → Rel e F ρ s' σ' H → Q σ' H
def rdTgs (e : En) (is : List Nat) (tf : List D → S → Option S) : TGs := fun vs σ H Q => ∃ F ρ s ds, Rel e F ρ s σ H ∧ RepL e.c F ρ H ds vs ∧ match tf ds s with
  | none => False
  | some s' => ∀ σ', wipe σ' is = wipe σ is → (∀ b, owned s'.env σ' b → owned s.env σ b) → Rel e F ρ s' σ' H → Q σ' H
theorem PG.weak {tg : Expr} {t t' : TG} (h : PG X tg t) (k : ∀ v σ H Q, t' v σ H Q → t v σ H Q) : PG X tg t' := ⟨fun pins s σ H v u Q I r hw => h.run pins s σ H v u Q I r (k v σ H Q hw)⟩
theorem PGs.weak {tg : List Expr} {t t' : TGs} (h : PGs X tg t) (k : ∀ v σ H Q, t' v σ H Q → t v σ H Q) : PGs X tg t' := ⟨fun pins s σ H v u Q I r hw => h.run pins s σ H v u Q I r (k v σ H Q hw)⟩
abbrev DG (X : Cx) (e : En) (is : List Nat) (tg : Expr) (tf : D → S → Option S) : Prop := PG X tg (rdTg e is tf)
abbrev DGs (X : Cx) (e : En) (is : List Nat) (tg : List Expr) (tf : List D → S → Option S) : Prop := PGs X tg (rdTgs e is tf)
def tgN (i : Nat) : D → S → Option S := fun d s => some (setSlot i (.sh d) s)
theorem Rel.setD (r : Rel e F ρ s σ H) (i : Nat) {d : D} {v : V} (q : Rep e.c F ρ H d v) : Rel e F ρ (setSlot i (.sh d) s) (σ.set i (some v)) H := r.set i ⟨v, rfl, q⟩ fun b h => h.elim
theorem wipe_set {σ : L2.St} {i : Nat} {o : Option V} : ∀ {is : List Nat}, i ∈ is → wipe (σ.set i o) is = wipe σ is
  | v :: vs, h => by
    show (wipe (σ.set i o) vs).set v none = (wipe σ vs).set v none
    by_cases z : i ∈ vs
    · rw [wipe_set z]
    · have hv : v = i := by
        rcases List.mem_cons.mp h with h | h
        · exact h.symm
        · exact absurd h z
      subst hv
      have gen : ∀ us : List Nat, v ∉ us → wipe (σ.set v o) us = (wipe σ us).set v o := fun us => by
        induction us with
        | nil => intro _; rfl
        | cons u us ih =>
          intro hn
          show (wipe (σ.set v o) us).set u none = ((wipe σ us).set u none).set v o
          rw [ih fun q => hn (List.mem_cons_of_mem _ q), List.set_comm _ _ (fun q => hn (by rw [q]; exact List.mem_cons_self))]
      rw [gen vs z, List.set_set]
theorem owned_setD {i : Nat} {d : D} {o : Option V} {b : Addr} (h : owned (setSlot i (.sh d) s).env (σ.set i o) b) : owned s.env σ b := by
  obtain ⟨j, x, h1, h2⟩ := h
  have h1 : (s.env.set i (.sh d))[j]? = some x := h1
  by_cases hj : i = j
  · subst hj
    have hl : i < s.env.length := by
      have := (List.getElem?_eq_some_iff.mp h1).1
      simpa using this
    rw [List.getElem?_set_self hl] at h1
    cases h1
    exact h2.elim
  · rw [List.getElem?_set_ne hj] at h1 h2
    exact ⟨j, x, h1, h2⟩
theorem dg_name {i : Nat} {is : List Nat} {x : Str} {pos : Pos} (hN : X.N.Nodup) (hi : X.N[i]? = some x) (hx : Loc X.env.scope x) (hf : X.fn x = true ∨ X.env.scope.names.lookup x = some .local) (hm : i ∈ is) : DG X e is (.Name x pos) (tgN i) :=
  PG.weak (pg_name hN hi hx hf) fun v σ H Q ⟨F, ρ, s, d, r, rp, q⟩ => q _ (wipe_set hm) (fun b => owned_setD) (r.setD i rp)
def tgNil : List D → S → Option S := fun ds s => match ds with
  | [] => some s
  | _ => none
def tgCons (t : D → S → Option S) (u : List D → S → Option S) : List D → S → Option S := fun ds s => match ds with
  | d :: ds => (t d s).bind fun s' => u ds s'
  | [] => none
theorem dgs_nil {is : List Nat} : DGs X e is [] tgNil := PGs.weak pgs_nil fun vs σ H Q ⟨F, ρ, s, ds, r, rp, q⟩ => by
  cases ds with
  | nil =>
    unfold RepL at rp
    exact ⟨rp, q σ rfl (fun _ h => h) r⟩
  | cons d ds => exact q.elim
theorem dgs_cons {is : List Nat} {x : Expr} {xs : List Expr} {t : D → S → Option S} {u : List D → S → Option S} (h1 : DG X e is x t) (h2 : DGs X e is xs u) (hs : (assignEach (x :: xs) X.env).map (·.2) = assign x X.env :: (assignEach xs X.env).map (·.2)) : DGs X e is (x :: xs) (tgCons t u) := PGs.weak (pgs_cons h1 h2 hs) fun vs σ H Q ⟨F, ρ, s, ds, r, rp, q⟩ => by
  cases ds with
  | nil => exact q.elim
  | cons d ds =>
    unfold RepL at rp
    obtain ⟨v, ws, rfl, r1, r2⟩ := rp
    refine ⟨v, ws, rfl, F, ρ, s, d, r, r1, ?_⟩
    unfold tgCons at q
    cases z : t d s with
    | none => simp only [z, Option.bind_none] at q
    | some s' =>
      intro σ' w1 o1 r'
      refine ⟨F, ρ, s', ds, r', r2, ?_⟩
      simp only [z, Option.bind_some] at q
      cases w : u ds s' with
      | none => rw [w] at q; exact q
      | some s2 => rw [w] at q; exact fun σ2 w2 o2 => q σ2 (w2.trans w1) (fun b h => o1 b (o2 b h))
def tgT (n : Nat) (u : List D → S → Option S) : D → S → Option S := fun d s => match d with
  | .tup ds => if ds.length = n then u ds s else none
  | _ => none
theorem dg_tup {is : List Nat} {es : List Expr} {k n : Nat} {u : List D → S → Option S} {pos : Pos} (hc : X.calm = true) (hK : e.c.K = X.K) (h : DGs X e is es u) (hn : (assignEach es X.env).length = n) (hst : (assignEach es X.env).findIdx? (·.1) = none) : DG X e is (.Tuple es k pos) (tgT n u) :=
  PG.weak (pg_tup hc h hn hst) fun v σ H Q ⟨F, ρ, s, d, r, rp, q⟩ => by
    unfold tgT at q
    cases d with
    | tup ds =>
      dsimp only at q
      by_cases z : ds.length = n
      · rw [if_pos z] at q
        obtain ⟨a, vs, rfl, sq, rl⟩ := Rep.tupSq rp
        exact ⟨a, vs, rfl, by rw [← hK]; exact sq, by rw [rl.length, z], F, ρ, s, ds, r, rl, q⟩
      · rw [if_neg z] at q; exact q.elim
    | _ => exact q.elim
/-! ### for -/
def forL (tf : D → S → Option S) (b : SM) : List D → SM
  | [] => fun s => .nx s
  | d :: ds => fun s => match tf d s with
    | none => .bad
    | some s1 => match b s1 with
      | .nx s2 => forL tf b ds s2
      | .ct s2 => forL tf b ds s2
      | .bk s2 => .nx s2
      | r => r
def mFor (it : M (List D)) (tf : D → S → Option S) (b : SM) : SM := SM.bind it fun ds => forL tf b ds
/-- a walk's item comes -/
theorem Deliv.item {c : Ct} {J : It} {ds : List D} {d : D} {i : Nat} {x : V} {H'' : Hp} (hd : ds[i]? = some d) (r : Rel e F ρ s σ H) (dl : Deliv e.c J F ρ H ds) (y : J.yld i H x H'') :
    ∃ F', Rel e F' ρ s σ H'' ∧ Stp F F' ρ ρ s s σ H H'' ∧ Rep e.c F' ρ H'' d x := by
  rcases ((dl F ρ H Kp.refl i).2 d hd).2 x H'' y with ⟨rfl, rp⟩ | ⟨T, vs, ds', rfl, hT, rfl, rfl, rl⟩
  · exact ⟨F, r, Stp.refl, rp⟩
  · obtain ⟨r', st⟩ := r.laidF hT (.tup vs)
    refine ⟨_, r', st, ?_⟩
    unfold Rep
    exact ⟨T, vs, rfl, .inl ⟨.inr rfl, .of upd_same⟩, RepL.stp r st rl⟩
theorem ds_for {is : List Nat} {iter tg : Expr} {body : List Stmt} {it : M (List D)} {tf : D → S → Option S} {b : SM} {pos : Pos} (hp : PassesOwn (model X.prog X.w) X.A X.env X.xe) (hc : X.calm = true) (hi : DI X e W tg iter it) (hg : DG X e is tg tf) (hb : DSs X e W body b)
    (hs : ∀ x, foldedSetIterable iter X.env x = pure x) : DS X e W (.For tg iter body [] pos) (mFor it tf b) := by
  refine PS.weak (ps_for hp hc hi hg hb hs) fun DD σ H ⟨F, ρ, s, r, h⟩ => ⟨F, ρ, s, r, ?_⟩
  cases z : it s with
  | bad => unfold rdSAt mFor SM.bind at h; rw [z] at h; exact h
  | exc x s' => unfold rdSAt mFor SM.bind at h; rw [z] at h; exact fun cls dd F' ρ' H' _ r' => h cls dd F' ρ' σ H' r'
  | ok ds s1 =>
    intro J F1 ρ1 H1 st r1 dl
    have h1 : rdSAt e W (forL tf b ds) F1 ρ1 s1 H1 DD := rdSAt_from (st.kp r) h (by unfold mFor SM.bind; rw [z])
    refine ⟨fun i m σ H => m = ds.length - i ∧ i ≤ ds.length ∧ ∃ F ρ s, Kp F1 F ρ1 ρ H1 H ∧ Rel e F ρ s σ H ∧ rdSAt e W (forL tf b (ds.drop i)) F ρ s H DD, ⟨ds.length, rfl, Nat.zero_le _, F1, ρ1, s1, Kp.refl, r1, h1⟩, ?_⟩
    rintro i m σ H ⟨rfl, hi, F, ρ, s, k, r, q⟩
    have dl' := dl.kp k
    by_cases hlt : i < ds.length
    · have hd : ds[i]? = some ds[i] := List.getElem?_eq_getElem hlt
      have hdr : ds.drop i = ds[i] :: ds.drop (i + 1) := List.drop_eq_getElem_cons hlt
      generalize ds[i] = d at hd hdr
      refine .inr ⟨((dl' F ρ H Kp.refl i).2 d hd).1, fun σ' H' => ∃ F ρ s, Kp F1 F ρ1 ρ H1 H' ∧ Rel e F ρ s σ' H' ∧ rdSAt e W (forL tf b (ds.drop (i + 1))) F ρ s H' DD,
        fun σ' H' w => ⟨ds.length - (i + 1), by omega, rfl, hlt, w⟩, fun x H'' y => ?_⟩
      obtain ⟨F2, r2, st2, rp⟩ := Deliv.item (c := e.c) hd r dl' y
      refine ⟨F2, ρ, s, d, r2, rp, ?_⟩
      rw [hdr] at q
      have k2 := st2.kp r
      cases w : tf d s with
      | none => unfold rdSAt forL at q; rw [w] at q; exact q
      | some s3 =>
        intro σ3 _ _ r3
        refine ⟨F2, ρ, s3, r3, ?_⟩
        unfold rdSAt
        have q0 : ∀ r, b s3 = r → forL tf b (d :: ds.drop (i + 1)) s = (match r with | .nx s2 => forL tf b (ds.drop (i + 1)) s2 | .ct s2 => forL tf b (ds.drop (i + 1)) s2 | .bk s2 => .nx s2 | r => r) := fun r hr => by
          show (match tf d s with | none => SR.bad | some s1 => _) = _
          rw [w]
          dsimp only
          rw [hr]
        cases u : b s3 with
        | nx s4 => exact fun F' ρ' σ' H' k3 r4 => ⟨F', ρ', s4, k.trans (k2.trans k3), r4, rdSAt_from (k2.trans k3) q (q0 _ u)⟩
        | ct s4 => exact fun F' ρ' σ' H' k3 r4 => ⟨F', ρ', s4, k.trans (k2.trans k3), r4, rdSAt_from (k2.trans k3) q (q0 _ u)⟩
        | bad => unfold rdSAt at q; rw [q0 _ u] at q; exact q
        | bk s4 => unfold rdSAt at q; rw [q0 _ u] at q; exact fun F' ρ' σ' H' k3 r4 => q F' ρ' σ' H' (k2.trans k3) r4
        | rt d' s4 => unfold rdSAt at q; rw [q0 _ u] at q; exact fun v F' ρ' σ' H' k3 r4 => q v F' ρ' σ' H' (k2.trans k3) r4
        | exc d' s4 => unfold rdSAt at q; rw [q0 _ u] at q; exact q
    · have hi' : i = ds.length := by omega
      subst hi'
      rw [List.drop_length] at q
      exact .inl ⟨(dl' F ρ H Kp.refl _).1 (Nat.le_refl _), q F ρ σ H Kp.refl r⟩
end
end Ls
namespace Ls
open PySem PySem.Spec L2
/-! ### comprehensions -/
def wipeE (env : List Sl) : List Nat → List Sl
  | [] => env
  | v :: vs => (wipeE env vs).set v .emp
def wipeS (is : List Nat) (s : S) : S := { s with env := wipeE s.env is }
def restE (old env : List Sl) : List Nat → List Sl
  | [] => env
  | v :: vs => (restE old env vs).set v (old.getD v .emp)
def slFree : Sl → Bool
  | .emp | .sh _ => true
  | _ => false
def wFalse : WX := fun _ _ _ _ => False
/-- the turns: the list so far is acc -/
def lcL (is : List Nat) (tf : D → S → Option S) (cond : M Bool) (elt : M D) : List D → List D → M (List D)
  | [], acc => fun s => .ok acc s
  | d :: ds, acc => fun s => match tf d s with
    | none => .bad
    | some s1 => match cond s1 with
      | .ok true s2 => (match elt s2 with
        | .ok y s3 => if acc.length < SZ then lcL is tf cond elt ds (acc ++ [y]) (wipeS is s3) else .bad
        | _ => .bad)
      | .ok false s2 => lcL is tf cond elt ds acc (wipeS is s2)
      | _ => .bad
def mLc (is : List Nat) (it : M (List D)) (tf : D → S → Option S) (cond : M Bool) (elt : M D) : M (List D) := M.bind it fun ds => fun s =>
  if is.all (fun i => slFree (s.env.getD i .emp)) then (match lcL is tf cond elt ds [] (wipeS is s) with
    | .ok acc s' => .ok acc { s' with env := restE s.env s'.env is }
    | _ => .bad) else .bad
theorem wipeE_length (env : List Sl) : ∀ is, (wipeE env is).length = env.length
  | [] => rfl
  | v :: vs => by show ((wipeE env vs).set v .emp).length = _; rw [List.length_set, wipeE_length env vs]
theorem restE_length (old env : List Sl) : ∀ is, (restE old env is).length = env.length
  | [] => rfl
  | v :: vs => by show ((restE old env vs).set v _).length = _; rw [List.length_set, restE_length old env vs]
theorem restE_get (old env : List Sl) : ∀ (is : List Nat) (j : Nat) (x : Sl), (restE old env is)[j]? = some x → (j ∈ is ∧ x = old.getD j .emp) ∨ (j ∉ is ∧ env[j]? = some x)
  | [], j, x, h => .inr ⟨by simp, h⟩
  | v :: vs, j, x, h => by
    have h : ((restE old env vs).set v (old.getD v .emp))[j]? = some x := h
    by_cases hj : v = j
    · subst hj
      have hl : v < (restE old env vs).length := by
        have := (List.getElem?_eq_some_iff.mp h).1
        simpa using this
      rw [List.getElem?_set_self hl] at h
      cases h
      exact .inl ⟨List.mem_cons_self, rfl⟩
    · rw [List.getElem?_set_ne hj] at h
      rcases restE_get old env vs j x h with ⟨a, b⟩ | ⟨a, b⟩
      · exact .inl ⟨List.mem_cons_of_mem _ a, b⟩
      · exact .inr ⟨fun z => (List.mem_cons.mp z).elim (fun z => hj z.symm) a, b⟩
theorem wipe_get {σ : L2.St} : ∀ (is : List Nat) (j : Nat), j ∉ is → (wipe σ is)[j]? = σ[j]?
  | [], j, _ => rfl
  | v :: vs, j, h => by
    show ((wipe σ vs).set v none)[j]? = _
    rw [List.getElem?_set_ne (fun z => h (by rw [z]; exact List.mem_cons_self))]
    exact wipe_get vs j fun z => h (List.mem_cons_of_mem _ z)
section
variable {X : Cx} {e : En} {F F' F1 F2 : Addr → Prop} {ρ ρ' ρ1 ρ2 : List Addr} {s s' s1 s2 : S} {σ σ' : L2.St} {H H' H1 H2 Hs : Hp} {W : WX} {α β τ υ : Type} {DD : Ends}
theorem Rel.wipe (r : Rel e F ρ s σ H) : ∀ is : List Nat, Rel e F ρ (wipeS is s) (L2.wipe σ is) H
  | [] => r
  | v :: vs => by
    have q := (Rel.wipe r vs).set v (x := .emp) (o := none) trivial fun b h => h.elim
    exact q
/-- who owns in the wiped state owns in the whole -/
theorem owned_wipe : ∀ (is : List Nat) (b : Addr), owned (wipeS is s).env (L2.wipe σ is) b → owned s.env σ b
  | [], b, h => h
  | v :: vs, b, ⟨j, x, h1, h2⟩ => by
    have h1 : ((wipeE s.env vs).set v .emp)[j]? = some x := h1
    have h2 : x.owns (((L2.wipe σ vs).set v none)[j]?.join) b := h2
    by_cases hj : v = j
    · subst hj
      have hl : v < (wipeE s.env vs).length := by
        have := (List.getElem?_eq_some_iff.mp h1).1
        simpa using this
      rw [List.getElem?_set_self hl] at h1
      cases h1
      exact h2.elim
    · rw [List.getElem?_set_ne hj] at h1 h2
      exact owned_wipe vs b ⟨j, x, h1, h2⟩
/-- back from the block: the slots of its own names as they were -/
theorem Rel.rest {is : List Nat} (r1 : Rel e F1 ρ1 s1 σ H1) (fr : is.all (fun i => slFree (s1.env.getD i .emp)) = true) (st : Stp F1 F ρ1 ρ (wipeS is s1) s (L2.wipe σ is) H1 H) (r : Rel e F ρ s (L2.wipe σ is) H) :
    Rel e F ρ { s with env := restE s1.env s.env is } σ H ∧ Stp F1 F ρ1 ρ s1 { s with env := restE s1.env s.env is } σ H1 H := by
  have hl : σ.length = s.env.length := by rw [← L2.wipe_length σ is, r.len]
  have free : ∀ i ∈ is, slFree (s1.env.getD i .emp) = true := List.all_eq_true.mp fr
  have k := st.kp (r1.wipe is)
  have ow : ∀ (j : Nat) (x : Sl) (b : Addr), (restE s1.env s.env is)[j]? = some x → x.owns (σ[j]?.join) b → j ∉ is ∧ s.env[j]? = some x ∧ x.owns ((L2.wipe σ is)[j]?.join) b := fun j x b h1 h2 => by
    rcases restE_get _ _ is j x h1 with ⟨hj, rfl⟩ | ⟨hj, hx⟩
    · have q := free j hj
      generalize s1.env.getD j .emp = y at q h2
      cases y with
      | emp => exact h2.elim
      | sh d => exact h2.elim
      | own _ => cases q
      | ownK _ => cases q
      | ownT _ => cases q
    · exact ⟨hj, hx, by rw [wipe_get is j hj]; exact h2⟩
  have ow' : ∀ b, owned (restE s1.env s.env is) σ b → owned s.env (L2.wipe σ is) b := fun b ⟨j, x, h1, h2⟩ => by
    obtain ⟨_, a, c⟩ := ow j x b h1 h2
    exact ⟨j, x, a, c⟩
  refine ⟨⟨by show σ.length = (restE s1.env s.env is).length; rw [restE_length]; exact hl, fun j x h => ?_, fun i j x y b h1 h2 p1 p2 => ?_, fun b hb => r.ownF b (ow' b hb), r.rlen, r.store, r.nodup, r.sep, r.fF, r.mono, r.trk, r.rho, r.frm, r.tab⟩,
    ⟨st.mono, fun a h => ?_, fun b hb => owned_wipe is b (st.own b (ow' b hb)), st.rho, st.keep, st.dom⟩⟩
  · rcases restE_get _ _ is j x h with ⟨hj, rfl⟩ | ⟨hj, hx⟩
    · have q := free j hj
      by_cases z : j < s1.env.length
      · have e1 : s1.env[j]? = some (s1.env.getD j .emp) := by rw [List.getD_eq_getElem?_getD, List.getElem?_eq_getElem z]; rfl
        have so := r1.slot j _ e1
        generalize s1.env.getD j .emp = y at q so
        cases y with
        | emp => trivial
        | sh d =>
          obtain ⟨v, a, rp⟩ := so
          exact ⟨v, a, Rep.kp k _ _ rp⟩
        | own _ => cases q
        | ownK _ => cases q
        | ownT _ => cases q
      · have e1 : s1.env.getD j .emp = .emp := by rw [List.getD_eq_getElem?_getD, List.getElem?_eq_none (by omega)]; rfl
        rw [e1]; trivial
    · have so := r.slot j x hx
      rw [wipe_get is j hj] at so
      exact so
  · obtain ⟨_, a1, a2⟩ := ow i x b h1 p1
    obtain ⟨_, b1, b2⟩ := ow j y b h2 p2
    exact r.dist i j x y b a1 b1 a2 b2
  · rcases st.new a h with h | h | h
    · exact .inl h
    · exact .inr (.inl h)
    · exact .inr (.inr (owned_wipe is a h))
theorem lt_fresh (r : Rel e F ρ s σ H) {p : Addr} (hp : H p = none) {q : Addr} (h : ∃ o, H q = some o) : q ≠ p := fun z => by
  obtain ⟨o, h⟩ := h
  rw [z, hp] at h; cases h
/-- a list of nobody's grows -/
theorem Rel.grow (r : Rel e F ρ s σ H) {p : Addr} {o o' : HO} (h : H p = some o) (n1 : ¬ F p) (n2 : p ∉ ρ) (n3 : ¬ owned s.env σ p) (n4 : Fr e.H0 p) (m1 : NT o := by nofun) (m2 : ∀ c q, o ≠ LamX.CodeO c q := by nofun) : Rel e F ρ s σ (upd H p o') := by
  have ot : ∀ a, a ≠ p → upd H p o' a = H a := fun a z => upd_ne z
  have k : Kp F F ρ ρ H (upd H p o') := ⟨fun _ h => h, ⟨[], by simp⟩, fun a u f hu => by rw [ot a (fun z => n1 (by rw [← z]; exact f))]; exact hu⟩
  refine ⟨r.len, fun i x hx => Slot.kp (e := e) k (r.slot i x hx) fun b u hb hu => ?_, r.dist, r.ownF, r.rlen, fun n ob a h1 h2 => Ob.kp k (r.store n ob a h1 h2) fun u hu => ?_, r.nodup, r.sep, r.fF, r.mono, fun a ha => ?_, r.rho, fun a u hu n m => ?_, tabs_but r.tab h m1 m2 fun b u hb hu => by rw [ot b hb]; exact hu⟩
  · rw [ot b (fun z => n3 (by rw [← z]; exact ⟨i, x, hx, hb⟩))]; exact hu
  · rw [ot a (fun z => n2 (by rw [← z]; exact List.mem_of_getElem? h2))]; exact hu
  · obtain ⟨u, hu, m⟩ := r.trk a ha
    exact ⟨u, by rw [ot a (fun z => n1 (by rw [← z]; exact ha))]; exact hu, m⟩
  · rw [ot a (fun z => by rw [z] at hu; exact n4.no hu m)]
    exact r.frm a u hu n m
/-- the reading of a comprehension -/
theorem rd_lc {is : List Nat} {it : M (List D)} {tf : D → S → Option S} {cond : M Bool} {elt : M D} {Q : VK} (h : rdG e W RL (mLc is it tf cond elt) σ H Q) :
    tLc (rdI e W it) (rdTg e is tf) (rdG e wFalse RT cond) (rdG e wFalse RD elt) is σ H Q := by
  obtain ⟨F, ρ, s, r, h⟩ := h
  refine ⟨F, ρ, s, r, ?_⟩
  unfold rdAt mLc M.bind Res.bind at h
  cases z : it s with
  | bad => rw [z] at h; exact h
  | exc x s' => rw [z] at h; exact h
  | ok ds s1 =>
    rw [z] at h
    intro J F1 ρ1 H1 st r1 dl D hD
    dsimp only at h
    by_cases fr : is.all (fun i => slFree (s1.env.getD i .emp)) = true
    case neg => rw [if_neg fr] at h; exact h.elim
    rw [if_pos fr] at h
    -- the start
    obtain ⟨r0, st0, n1, n2, n3, n4⟩ := r1.laidN hD (.lst [])
    have n4w : ¬ owned (wipeS is s1).env (L2.wipe σ is) D := fun q => n4 (owned_wipe is D q)
    have stw : ∀ {F' : Addr → Prop} {ρ' : List Addr} {s' : S} {σ' : L2.St} {H' : Hp} {b : Addr}, True := trivial
    refine ⟨fun i m H => m = ds.length - i ∧ i ≤ ds.length ∧ ∃ F ρ s acc accd, Stp F1 F ρ1 ρ (wipeS is s1) s (L2.wipe σ is) H1 H ∧ Rel e F ρ s (L2.wipe σ is) H ∧ H D = some (.lst acc) ∧ RepL e.c F ρ H accd acc ∧ ¬ F D ∧ D ∉ ρ ∧
        lcL is tf cond elt (ds.drop i) accd s = lcL is tf cond elt ds [] (wipeS is s1), ⟨ds.length, rfl, Nat.zero_le _, F1, ρ1, wipeS is s1, [], [], ⟨st0.mono, fun a h => .inl h, fun a h => h, st0.rho, st0.keep, st0.dom⟩, r0.wipe is, upd_same, by unfold RepL; rfl, n1, n2, rfl⟩, ?_⟩
    rintro i m H ⟨rfl, hi, F3, ρ3, s3, acc, accd, st3, r3, hDa, hacc, nF, nρ, eq⟩
    have dl' := dl.kp (st3.kp (r1.wipe is))
    have own0 : ∀ {F' : Addr → Prop} {ρ' : List Addr} {s' : S} {H' : Hp}, Stp F3 F' ρ3 ρ' s3 s' (L2.wipe σ is) H H' → ¬ owned s'.env (L2.wipe σ is) D := fun st' q => n4w (st3.own D (st'.own D q))
    by_cases hlt : i < ds.length
    · have hd : ds[i]? = some ds[i] := List.getElem?_eq_getElem hlt
      have hdr : ds.drop i = ds[i] :: ds.drop (i + 1) := List.drop_eq_getElem_cons hlt
      generalize ds[i] = d at hd hdr
      refine .inr ⟨((dl' F3 ρ3 H Kp.refl i).2 d hd).1, fun H' => ∃ F ρ s acc accd, Stp F1 F ρ1 ρ (wipeS is s1) s (L2.wipe σ is) H1 H' ∧ Rel e F ρ s (L2.wipe σ is) H' ∧ H' D = some (.lst acc) ∧ RepL e.c F ρ H' accd acc ∧ ¬ F D ∧ D ∉ ρ ∧
          lcL is tf cond elt (ds.drop (i + 1)) accd s = lcL is tf cond elt ds [] (wipeS is s1), fun H' w => ⟨ds.length - (i + 1), by omega, rfl, hlt, w⟩, fun x H'' y => ?_⟩
      obtain ⟨F4, r4, st4, rp4⟩ := Deliv.item (c := e.c) hd r3 dl' y
      refine ⟨F4, ρ3, s3, d, r4, rp4, ?_⟩
      rw [hdr] at eq
      have h0 : lcL is tf cond elt ds [] (wipeS is s1) ≠ .bad := fun q => by rw [q] at h; exact h.elim
      cases w : tf d s3 with
      | none =>
        exfalso
        apply h0
        rw [← eq]
        show (match tf d s3 with | none => Res.bad | some s1 => _) = _
        rw [w]
      | some s5 =>
        intro σ5 w5 o5 r5
        have e5 : lcL is tf cond elt (d :: ds.drop (i + 1)) accd s3 = (match cond s5 with
          | .ok true s2 => (match elt s2 with
            | .ok y s3 => if accd.length < SZ then lcL is tf cond elt (ds.drop (i + 1)) (accd ++ [y]) (wipeS is s3) else .bad
            | _ => .bad)
          | .ok false s2 => lcL is tf cond elt (ds.drop (i + 1)) accd (wipeS is s2)
          | _ => .bad) := by
          show (match tf d s3 with | none => Res.bad | some s1 => _) = _
          rw [w]
        rw [e5] at eq
        have ws : L2.wipe (L2.wipe σ is) is = L2.wipe σ is := by
          have gen : ∀ (js : List Nat) (τ : L2.St), (∀ j ∈ js, (τ[j]?).join = none) → L2.wipe τ js = τ := fun js => by
            induction js with
            | nil => intro τ _; rfl
            | cons j js ih =>
              intro τ hj
              show (L2.wipe τ js).set j none = τ
              rw [ih τ fun q hq => hj q (List.mem_cons_of_mem _ hq)]
              have q := hj j List.mem_cons_self
              apply List.ext_getElem?
              intro m
              by_cases hm : j = m
              · subst hm
                by_cases hl : j < τ.length
                · rw [List.getElem?_set_self hl]
                  rw [List.getElem?_eq_getElem hl] at q ⊢
                  have q : τ[j] = none := q
                  rw [q]
                · rw [List.getElem?_eq_none (by simpa using hl), List.getElem?_eq_none (by simpa using hl)]
              · rw [List.getElem?_set_ne hm]
          refine gen is _ fun j hj => ?_
          cases q : ((L2.wipe σ is)[j]?).join with
          | none => rfl
          | some v => exact absurd hj (wipe_some (join_some q)).2
        have w5 : L2.wipe σ5 is = L2.wipe σ is := w5.trans ws
        refine ⟨w5, F4, ρ3, s5, r5, ?_⟩
        have nF4 : ¬ F4 D := fun q => by
          rcases st4.new D q with q | q | q
          · exact nF q
          · exact q.no hDa
          · exact n4w (st3.own D q)
        have hDa4 : H'' D = some (.lst acc) := st4.keep D _ hDa nρ (by nofun)
        unfold rdAt
        cases u : cond s5 with
        | bad => exact absurd (by rw [← eq, u]) h0
        | exc x s' => exact absurd (by rw [← eq, u]) h0
        | ok b s6 =>
          intro b' F6 ρ6 H6 st6 r6 eb
          have eb : b = b' := eb
          subst eb
          have hρ6 : D ∉ ρ6 := (rd_stp st6 nρ (.of hDa4)).2
          have hDa6 : H6 D = some (.lst acc) := st6.keep D _ hDa4 nρ (by nofun)
          have nF6 : ¬ F6 D := fun q => by
            rcases st6.new D q with q | q | q
            · exact nF4 q
            · exact q.no hDa4
            · exact n4w (st3.own D (o5 D q))
          have back : ∀ {F7 : Addr → Prop} {ρ7 : List Addr} {s7 : S} {H7 : Hp}, Stp F4 F7 ρ3 ρ7 s5 s7 σ5 H'' H7 → Rel e F7 ρ7 s7 σ5 H7 → Rel e F7 ρ7 (wipeS is s7) (L2.wipe σ is) H7 ∧ Stp F1 F7 ρ1 ρ7 (wipeS is s1) (wipeS is s7) (L2.wipe σ is) H1 H7 := fun {F7 ρ7 s7 H7} st7 r7 => by
            have q := r7.wipe is
            rw [w5] at q
            refine ⟨q, st3.trans (st4.trans ⟨st7.mono, fun a ha => ?_, fun a ha => ?_, st7.rho, st7.keep, st7.dom⟩)⟩
            · rcases st7.new a ha with ha | ha | ha
              · exact .inl ha
              · exact .inr (.inl ha)
              · exact .inr (.inr (o5 a ha))
            · rw [← w5] at ha
              exact o5 a (st7.own a (owned_wipe is a ha))
          cases b with
          | false =>
            rw [if_neg Bool.false_ne_true]
            obtain ⟨r8, st8⟩ := back st6 r6
            refine ⟨F6, ρ6, wipeS is s6, acc, accd, st8, r8, hDa6, ?_, nF6, hρ6, by rw [← eq, u]⟩
            exact RepL.stp r5 st6 (RepL.stp r3 st4 hacc)
          | true =>
            rw [if_pos rfl]
            refine ⟨F6, ρ6, s6, r6, ?_⟩
            unfold rdAt
            have eq1 : (match elt s6 with
              | .ok y s3 => if accd.length < SZ then lcL is tf cond elt (ds.drop (i + 1)) (accd ++ [y]) (wipeS is s3) else .bad
              | _ => .bad) = lcL is tf cond elt ds [] (wipeS is s1) := by rw [← eq, u]
            cases t : elt s6 with
            | bad => exact absurd (by rw [← eq1, t]) h0
            | exc x s' => exact absurd (by rw [← eq1, t]) h0
            | ok y s7 =>
              intro v F7 ρ7 H7 st7 r7 rp
              rw [t] at eq1
              dsimp only at eq1
              by_cases hz : accd.length < SZ
              case neg => rw [if_neg hz] at eq1; exact absurd eq1.symm h0
              rw [if_pos hz] at eq1
              have rl7 : RepL e.c F7 ρ7 H7 accd acc := RepL.stp r6 st7 (RepL.stp r5 st6 (RepL.stp r3 st4 hacc))
              have hDa7 : H7 D = some (.lst acc) := st7.keep D _ hDa6 hρ6 (by nofun)
              have hρ7 : D ∉ ρ7 := (rd_stp st7 hρ6 (.of hDa6)).2
              have nF7 : ¬ F7 D := fun q => by
                rcases st7.new D q with q | q | q
                · exact nF6 q
                · exact q.no hDa6
                · exact n4w (st3.own D (o5 D (st6.own D q)))
              obtain ⟨r8, st8⟩ := back (st6.trans st7) r7
              have no8 : ¬ owned (wipeS is s7).env (L2.wipe σ is) D := fun q => n4w (st8.own D q)
              have r9 := r8.grow (o' := .lst (acc ++ [v])) hDa7 nF7 hρ7 no8 n3
              have k9 : Kp F7 F7 ρ7 ρ7 H7 (upd H7 D (.lst (acc ++ [v]))) := ⟨fun _ h => h, ⟨[], by simp⟩, fun a o f ha => by rw [upd_ne (fun z => nF7 (by rw [← z]; exact f))]; exact ha⟩
              refine ⟨acc, hDa7, by rw [rl7.length, ← SZ_eq]; exact hz, F7, ρ7, wipeS is s7, acc ++ [v], accd ++ [y], ?_, r9, upd_same, ?_, nF7, hρ7, eq1⟩
              · refine ⟨st8.mono, st8.new, st8.own, st8.rho, fun a o ha hn hm => ?_, fun a ha => ?_⟩
                · rw [upd_ne (fun z => by rw [z, hD] at ha; cases ha)]
                  exact st8.keep a o ha hn hm
                · by_cases z : a = D
                  · rw [z]; exact fun y => y.no upd_same
                  · intro y
                    obtain ⟨o, w, m⟩ := Fr.not (st8.dom a ha)
                    exact y.no (by rw [upd_ne z]; exact w) m
              · exact (RepL.kp k9 _ _ rl7).append (by unfold RepL; exact ⟨v, [], rfl, Rep.kp k9 _ _ rp, by unfold RepL; rfl⟩)
    · have hi' : i = ds.length := by omega
      subst hi'
      rw [List.drop_length] at eq
      refine .inl ⟨(dl' F3 ρ3 H Kp.refl _).1 (Nat.le_refl _), ?_⟩
      rw [← eq] at h
      have h : ∀ v F' ρ' H', Stp F F' ρ ρ' s { s3 with env := restE s1.env s3.env is } σ _ H' → Rel e F' ρ' { s3 with env := restE s1.env s3.env is } σ H' → RL e _ F' ρ' { s3 with env := restE s1.env s3.env is } σ H' accd v → Q v H' := h
      obtain ⟨r8, st8⟩ := r1.rest fr st3 r3
      refine h (.ref D) F3 ρ3 H (st.trans st8) r8 ⟨D, acc, rfl, Classical.byContradiction fun q => st.dom D q (.of hD), nF, nρ, n3, fun q => n4 (st8.own D q), hDa, hacc⟩
theorem takesF : Takes X wFalse := fun _ _ x => by
  obtain ⟨_, _, _, _, _, _, _, _, _, _, _, _, _, _, _, _, z⟩ := x
  exact z.elim
theorem Lk.blk (L : Lk X e W) (s : Shared) (H : Hp) (scope : Scope) (cenv : Env) (fp : List Addr) : Lk (X.blk s H scope cenv fp) e wFalse := ⟨L.c, takesF, L.calm, L.hu⟩
def mTrue : M Bool := M.pure true
theorem dts_nil : PTs X [] (rdG e W RT mTrue) := ⟨fun pins s σ H Q I h => pts_nil.run pins s σ H Q I (by obtain ⟨F, ρ, s, r, h⟩ := h; exact rdAt_pure (R := RT) h r rfl)⟩
theorem dts_one {c : Expr} {f : M Bool} (h : DT X e W c f) : PTs X [c] (rdG e W RT f) := pts_one h
theorem dl_lc {elt tg iter : Expr} {ifs : List Expr} {scope : Scope} {own : List (Str × Nat)} {pos : Pos} {it : M (List D)} {tf : D → S → Option S} {cond : M Bool} {fe : M D} (hc : X.calm = true) (hN : X.N.Nodup) (hi : DI X e W tg iter it) (ok : BlkOk X.N X.env.scope scope own)
    (hg : ∀ (s : Shared) (H : Hp) (C : Addr) (cl : List (Str × Addr)) (fp : List Addr), DG (X.blk s H scope (compEnvC scope cl C X.env) fp) e (own.map (·.2)) tg tf) (ht : ∀ (s : Shared) (H : Hp) (C : Addr) (cl : List (Str × Addr)) (fp : List Addr), PTs (X.blk s H scope (compEnvC scope cl C X.env) fp) ifs (rdG e wFalse RT cond))
    (he : ∀ (s : Shared) (H : Hp) (C : Addr) (cl : List (Str × Addr)) (fp : List Addr), DE (X.blk s H scope (compEnvC scope cl C X.env) fp) e wFalse elt fe) (hs : ∀ x, foldedSetIterable iter X.env x = pure x) :
    DL X e W (.ListComp elt [⟨tg, iter, ifs, 0⟩] scope pos) (mLc (own.map (·.2)) it tf cond fe) := PE.weak (pe_lc hc hN hi ok hg ht he hs) fun σ H Q q => rd_lc q
/-- name = [..] on one line -/
theorem ds_setLc {i : Nat} {y : Str} {py : Pos} {elt tg iter : Expr} {ifs : List Expr} {scope : Scope} {own : List (Str × Nat)} {pos spos : Pos} {it : M (List D)} {tf : D → S → Option S} {cond : M Bool} {fe : M D} (hc : X.calm = true) (hN : X.N.Nodup) (hy : X.N[i]? = some y) (hyl : X.env.scope.names.lookup y = some .local)
    (hsw : swapsWith (.ListComp elt [⟨tg, iter, ifs, 0⟩] scope pos) (some (.Name y py)) spos.line X.env = pure true) (hi : DI X e W tg iter it) (ok : BlkOk X.N X.env.scope scope own)
    (hg : ∀ (s : Shared) (H : Hp) (C : Addr) (cl : List (Str × Addr)) (fp : List Addr), DG (X.blk s H scope (compEnvC scope cl C X.env) fp) e (own.map (·.2)) tg tf) (ht : ∀ (s : Shared) (H : Hp) (C : Addr) (cl : List (Str × Addr)) (fp : List Addr), PTs (X.blk s H scope (compEnvC scope cl C X.env) fp) ifs (rdG e wFalse RT cond))
    (he : ∀ (s : Shared) (H : Hp) (C : Addr) (cl : List (Str × Addr)) (fp : List Addr), DE (X.blk s H scope (compEnvC scope cl C X.env) fp) e wFalse elt fe) (hs : ∀ x, foldedSetIterable iter X.env x = pure x) :
    DS X e W (.Assign [.Name y py] (.ListComp elt [⟨tg, iter, ifs, 0⟩] scope pos) spos) (mSet i (M.bind (mLc (own.map (·.2)) it tf cond fe) fun d => M.pure (.own d))) :=
  PS.weak (ps_setLc hc hN hy hyl hsw hi ok hg ht he hs) fun DD σ H q => by
    have q := rd_set q
    show tLc _ _ _ _ _ σ H _
    refine rd_lc ?_
    exact rdG_bind q fun v F ρ s F1 ρ1 s1 H1 a r st r1 rr h => rdAt_pure (R := RS) h r1 rr
end
end Ls
namespace Ls
open PySem PySem.Spec L2
section
variable {X : Cx} {e : En} {F F' F1 F2 : Addr → Prop} {ρ ρ' ρ1 ρ2 : List Addr} {s s' s1 s2 : S} {σ σ' : L2.St} {H H' H1 H2 Hs : Hp} {W : WX} {α β τ υ : Type} {DD : Ends}
/-! ### new lists by + and * -/
theorem RepL.one {c : Ct} {d : D} {v : V} (r : Rep c F ρ H d v) : RepL c F ρ H [d] [v] := by
  unfold RepL
  exact ⟨v, [], rfl, r, by unfold RepL; rfl⟩
def catL : D → D → Option (List D)
  | .lst a, .lst b => if a.length + b.length ≤ SZ then some (a ++ b) else none
  | _, _ => none
def repL : D → D → Option (List D)
  | .lst a, .int k => if -(2 ^ 63) ≤ k ∧ k < 2 ^ 63 ∧ a.length * k.toNat ≤ SZ then some (List.replicate k.toNat a).flatten else none
  | _, _ => none
def mL2 (g : D → D → Option (List D)) (fa fb : M D) : M (List D) := M.bind fa fun x => M.bind fb fun y => ofO (g x y)
theorem dl_cat {a b : Expr} {fa fb : M D} {pos : Pos} (ha : DB X e W a fa) (hb : DB X e W b fb) : DL X e W (.BinOp a .Add b pos) (mL2 catL fa fb) :=
  PE.weak (pe_op op_cat ha hb) fun σ H Q h => rdG_bind h fun v F ρ s F1 ρ1 s1 H1 x r0 st r1 l1 h1 => ⟨F1, ρ1, s1, r1, rdAt_bind h1 fun w F2 ρ2 s2 H2 y st2 r2 l2 h2 => by
    obtain ⟨d, hd, h3⟩ := rdAt_ofO h2
    have l1 : Lent e.c F2 ρ2 H2 x v := Lent.stp r1 st2 l1
    unfold catL at hd
    split at hd
    · split at hd
      · rename_i hl
        cases hd
        obtain ⟨pa, va, rfl, na, sa, ra⟩ := l1
        obtain ⟨pb, vb, rfl, nb, sb, rb⟩ := l2
        refine ⟨pa, pb, va, vb, rfl, rfl, sa, sb, by rw [ra.length, rb.length, ← SZ_eq]; exact hl, fun p hp => ?_⟩
        obtain ⟨r', st', n1, n2, n3, n4⟩ := r2.laidN hp (.lst (va ++ vb))
        exact h3 (.ref p) _ ρ2 _ st' r' ⟨p, _, rfl, Classical.byContradiction fun q => (st.trans st2).dom p q (.of hp), n1, n2, n3, n4, upd_same, RepL.stp r2 st' (ra.append rb)⟩
      · cases hd
    · cases hd⟩
theorem dl_rep {a b : Expr} {fa fb : M D} {pos : Pos} (ha : DB X e W a fa) (hb : DB X e W b fb) : DL X e W (.BinOp a .Mult b pos) (mL2 repL fa fb) :=
  PE.weak (pe_op op_rep ha hb) fun σ H Q h => rdG_bind h fun v F ρ s F1 ρ1 s1 H1 x r0 st r1 l1 h1 => ⟨F1, ρ1, s1, r1, rdAt_bind h1 fun w F2 ρ2 s2 H2 y st2 r2 l2 h2 => by
    obtain ⟨d, hd, h3⟩ := rdAt_ofO h2
    have l1 : Lent e.c F2 ρ2 H2 x v := Lent.stp r1 st2 l1
    unfold repL at hd
    split at hd
    · split at hd
      · rename_i hl
        cases hd
        obtain ⟨pa, va, rfl, na, sa, ra⟩ := l1
        have := int_of l2; subst w
        obtain ⟨h1, h2', h3'⟩ := hl
        refine ⟨pa, _, va, rfl, rfl, sa, h1, h2', by rw [ra.length, ← SZ_eq]; exact h3', fun p hp => ?_⟩
        obtain ⟨r', st', n1, n2, n3, n4⟩ := r2.laidN hp (.lst (List.replicate (_ : Int).toNat va).flatten)
        exact h3 (.ref p) _ ρ2 _ st' r' ⟨p, _, rfl, Classical.byContradiction fun q => (st.trans st2).dom p q (.of hp), n1, n2, n3, n4, upd_same, RepL.stp r2 st' (ra.rep _)⟩
      · cases hd
    · cases hd⟩
/-- list(range(a, b)) -/
theorem okI_of {i : Int} (h : okI i = true) : -(2 ^ 62) ≤ i ∧ i < 2 ^ 62 := by
  unfold okI at h
  simpa only [Bool.and_eq_true, decide_eq_true_eq] using h
/-! ### built-ins -/
def min2 : List D → Option D
  | [.int i, .int j] => some (.int (if j < i then j else i))
  | _ => none
def max2 : List D → Option D
  | [.int i, .int j] => some (.int (if j > i then j else i))
  | _ => none
def int1 : List D → Option D
  | [.int i] => some (.int i)
  | _ => none
theorem c_min2 {c : Ct} : CallP c (fun xs H Q => ∃ i j, xs = [.int i, .int j] ∧ Q (.int (if j < i then j else i)) H) min2 := by
  intro e F ρ s σ Hs H W ds d vs Q ec r l hg h
  subst ec
  unfold min2 at hg
  split at hg
  · cases hg
    obtain ⟨v, w, rfl, l1, l2⟩ := lentA2 l
    have := int_of l1; have := int_of l2; subst v w
    exact ⟨_, _, rfl, rdAt_pure h r rep_int⟩
  · cases hg
theorem c_max2 {c : Ct} : CallP c (fun xs H Q => ∃ i j, xs = [.int i, .int j] ∧ Q (.int (if j > i then j else i)) H) max2 := by
  intro e F ρ s σ Hs H W ds d vs Q ec r l hg h
  subst ec
  unfold max2 at hg
  split at hg
  · cases hg
    obtain ⟨v, w, rfl, l1, l2⟩ := lentA2 l
    have := int_of l1; have := int_of l2; subst v w
    exact ⟨_, _, rfl, rdAt_pure h r rep_int⟩
  · cases hg
theorem c_int1 {c : Ct} : CallP c (fun xs H Q => (∃ i, xs = [.int i] ∧ Q (.int i) H) ∨ ∃ k, xs = [.bl k] ∧ Q (.int (if k then 1 else 0)) H) int1 := by
  intro e F ρ s σ Hs H W ds d vs Q ec r l hg h
  subst ec
  unfold int1 at hg
  split at hg
  · cases hg
    obtain ⟨v, rfl, l1⟩ := lentA1 l
    have := int_of l1; subst v
    exact .inl ⟨_, rfl, rdAt_pure h r rep_int⟩
  · cases hg
/-! isinstance with a built-in class -/
def tyD : D → Option String
  | .non => some "NoneType"
  | .bl _ => some "bool"
  | .int _ => some "int"
  | .str _ => some "str"
  | .tup _ => some "tuple"
  | .lst _ | .wl _ => some "list"
  | .dct _ | .dcT _ => some "dict"
  | _ => none
def subTy (t T : String) : Bool := t == T || (t == "bool" && T == "int")
theorem tyx_of (r : Rel e F ρ s σ H) {d : D} {v : V} {t : String} (l : Lent e.c F ρ H d v) (ht : tyD d = some t) : TyX e.c.K H v (.type t) := by
  cases d with
  | non => cases ht; have l : Rep e.c F ρ H .non v := l; unfold Rep at l; subst l; exact .base .non
  | bl b => cases ht; have l : Rep e.c F ρ H (.bl b) v := l; unfold Rep at l; subst l; exact .base (.bl b)
  | int b => cases ht; have l : Rep e.c F ρ H (.int b) v := l; unfold Rep at l; subst l; exact .base (.int b)
  | str b => cases ht; have l : Rep e.c F ρ H (.str b) v := l; unfold Rep at l; subst l; exact .base (.str b)
  | tup b =>
    cases ht
    have l : Rep e.c F ρ H (.tup b) v := l
    unfold Rep at l
    obtain ⟨a, vs, rfl, at_, _⟩ := l
    rcases at_ with ⟨_, h | ⟨o, h⟩⟩ | ⟨o, its, n, h1, h2, _⟩
    · exact .base (.tup h)
    · exact .fTuple h
    · exact .kTuple h1 h2
  | lst b =>
    cases ht
    obtain ⟨a, vs, rfl, _, h, _⟩ := l
    exact .base (.lst h)
  | wl b =>
    cases ht
    have l : Rep e.c F ρ H (.wl b) v := l
    unfold Rep at l
    obtain ⟨a, vs, rfl, at_, _⟩ := l
    rcases at_ with ⟨_, h | ⟨o, h⟩⟩ | ⟨o, its, n, h1, h2, _⟩
    · exact .base (.lst h)
    · exact .base (.frz h)
    · exact .kList h1 h2
  | dct b =>
    cases ht
    obtain ⟨a, rfl, _, es, h, _⟩ := l
    exact .base (.dK h)
  | dcT b =>
    cases ht
    obtain ⟨a, rfl, _, es, h, _⟩ := l
    exact .base (.dT h)
  | _ => cases ht
def isi (T : String) (d : D) : Option D := (tyD d).map fun t => .bl (subTy t T)
theorem kit_all {K : PySem.W.Frag} {d : D} {t T : String} (ht : tyD d = some t) (hT : T = "int" ∨ T = "bool" ∨ T = "tuple" ∨ T = "list" ∨ T = "str" ∨ T = "dict") : PySem.W.kitOne K (.type t) (.type T) = some (subTy t T) := by
  have z : t = "NoneType" ∨ t = "bool" ∨ t = "int" ∨ t = "str" ∨ t = "tuple" ∨ t = "list" ∨ t = "dict" := by
    unfold tyD at ht
    split at ht <;> first | (cases ht; simp; done) | cases ht
  rcases z with rfl | rfl | rfl | rfl | rfl | rfl | rfl <;> rcases hT with rfl | rfl | rfl | rfl | rfl | rfl <;> exact kit_ty (by decide +kernel)
theorem de_isi {a : Expr} {f : M D} {T : Str} {t : String} {p p2 pos : Pos} (h : DB X e W a f) (hc : e.c.K = X.K) (hg : Gl X "isinstance") (hm : X.mg "isinstance" = none) (hgT : Gl X T) (hmT : X.mg T = none) (hvT : bootBuiltins T = some (.type t)) (hT : t = "int" ∨ t = "bool" ∨ t = "tuple" ∨ t = "list" ∨ t = "str" ∨ t = "dict")
    (hn : T ≠ "__name__") (hd : (T == ("__debug__" : Str)) = false) (he : starEach [a, .Name T p2] X.env = (false, eval a X.env) :: starEach [.Name T p2] X.env) (he2 : starEach [.Name T p2] X.env = (false, eval (.Name T p2) X.env) :: starEach [] X.env) (hpl : (backTo pos (starEach [.Name T p2] X.env)).any (·.1) = false) :
    DE X e W (.Call (.Name "isinstance" p) [a, .Name T p2] [] pos) (M.bind f fun d => ofO (isi t d)) :=
  PE.weak (pe_callB call_isi hg hm (by decide +kernel) (pa_cons h (pa_cons (pe_bltn (v := .ty t) hgT hmT hvT rfl hn hd) pa_nil he2) he) (by decide) (by decide) he hpl) fun σ H Q q => rdG_bind q fun v F ρ s F1 ρ1 s1 H1 d r st r1 l h => by
    obtain ⟨b, hb, h⟩ := rdAt_ofO h
    unfold isi at hb
    cases z : tyD d with
    | none => rw [z] at hb; cases hb
    | some t' =>
      rw [z] at hb
      cases hb
      exact ⟨v, .ty t, .type t', .type t, _, rfl, .ty t, by rw [← hc]; exact tyx_of r1 l z, kit_all z hT, rdAt_pure h r1 rep_bl⟩
/-! ### unary minus, chains -/
theorem de_neg {a : Expr} {f : M D} {pos : Pos} (h : DB X e W a f) : DE X e W (.UnaryOp .USub a pos) (M.bind f fun d => ofO (negD d)) :=
  PE.weak (pe_un un_neg h) fun σ H Q q => rdG_bind q fun v F ρ s F1 ρ1 s1 H1 d r st r1 l h => by
    obtain ⟨b, hb, h⟩ := rdAt_ofO h
    unfold negD at hb
    split at hb
    · cases hb
      have := int_of l; subst v
      exact ⟨_, rfl, rdAt_pure h r1 rep_int⟩
    · cases hb
/-- a op b op' c, the ops on data -/
def mChain (g g' : D → D → Option D) (fa fb fc : M D) : M D := M.bind fa fun x => M.bind fb fun y => M.bind (ofO (g x y)) fun z => M.bind (asB z) fun k => if k then M.bind fc fun w => ofO (g' y w) else M.pure (.bl false)
theorem rd_chain {r r' : R2} {g g' : D → D → Option D} {fa fb fc : M D} {Q : VK} (P : Op2P e.c r g) (P' : Op2P e.c r' g') (h : rdG e W RD (mChain g g' fa fb fc) σ H Q) : tChain r r' (rdG e W RB fa) (rdG e W RB fb) (rdG e W RB fc) σ H Q := by
  refine rdG_bind h fun v F ρ s F1 ρ1 s1 H1 x r0 st r1 l1 h1 => ?_
  refine ⟨F1, ρ1, s1, r1, rdAt_bind h1 fun w F2 ρ2 s2 H2 y st2 r2 l2 h2 => ?_⟩
  have l1 : Lent e.c F2 ρ2 H2 x v := Lent.stp r1 st2 l1
  cases hz : g x y with
  | none => rw [hz] at h2; exact (show False from h2).elim
  | some z =>
    rw [hz] at h2
    refine P e F2 ρ2 s2 σ H H2 W x y z v w _ rfl r2 l1 l2 hz fun u F3 ρ3 H3 st3 r3 rz => ?_
    have l2 : Lent e.c F3 ρ3 H3 y w := Lent.stp r2 st3 l2
    -- the first answer
    have h3 : rdAt e W RD (M.bind (asB z) fun k => if k then M.bind fc fun w => ofO (g' y w) else M.pure (.bl false)) H F3 ρ3 s2 σ H3 Q := rdAt_mov h2 st3
    obtain ⟨b, rfl, h4⟩ := bind_asB h3 (Rep.lent r3 rz)
    refine ⟨b, rfl, ?_⟩
    cases b with
    | false => rw [if_neg Bool.false_ne_true]; exact rdAt_pure h4 r3 rep_bl
    | true =>
      rw [if_pos rfl] at h4 ⊢
      refine ⟨F3, ρ3, s2, r3, rdAt_bind h4 fun t F4 ρ4 s4 H4 c st4 r4 l4 h5 => ?_⟩
      obtain ⟨d, hd, h6⟩ := rdAt_ofO h5
      exact P' e F4 ρ4 s4 σ H H4 W y c d w t Q rfl r4 (Lent.stp r3 st4 l2) l4 hd h6
theorem de_chain {op op' : CmpOp} {r r' : R2} {g g' : D → D → Option D} {a b c : Expr} {fa fb fc : M D} {pos : Pos} (ho : OpR X (compareOp op) r) (ho' : OpR X (compareOp op') r') (P : Op2P e.c r g) (P' : Op2P e.c r' g') (ha : DB X e W a fa) (hb : DB X e W b fb) (hc : DB X e W c fc) (hm : lastMarks [op, op'] [b, c] = false) :
    DE X e W (.Compare a [op, op'] [b, c] pos) (mChain g g' fa fb fc) := PE.weak (pe_chain ho ho' ha hb hc hm) fun σ H Q h => rd_chain P P' h
theorem dt_chain {op op' : CmpOp} {r r' : R2} {g g' : D → D → Option D} {a b c : Expr} {fa fb fc : M D} {pos : Pos} (ho : OpR X (compareOp op) r) (ho' : OpR X (compareOp op') r') (P : Op2P e.c r g) (P' : Op2P e.c r' g') (ha : DB X e W a fa) (hb : DB X e W b fb) (hc : DB X e W c fc) (hm : lastMarks [op, op'] [b, c] = false) :
    DT X e W (.Compare a [op, op'] [b, c] pos) (M.bind (mChain g g' fa fb fc) asB) := by
  refine PT.weak (pt_chain ho ho' ha hb hc hm) fun σ H Q h => ?_
  have h2 : rdG e W RD (mChain g g' fa fb fc) σ H (fun x H' => ∃ k, x = .bl k ∧ Q k H') := rdG_bind h fun v F ρ s F1 ρ1 s1 H1 x r0 st r1 l1 h1 => by
    obtain ⟨b, _, e1, q⟩ := rdAt_asB h1 r1 (Rep.lent r1 l1)
    exact ⟨b, e1, q⟩
  exact rd_chain P P' h2
/-! ### the body's own lists are written -/
/-- the object of a slot is written -/
theorem Rel.write (r : Rel e F ρ s σ H) {i : Nat} {x y : Sl} {a : Addr} {o' : HO} (hx : s.env[i]? = some x) (ow : x.owns (σ[i]?.join) a) (hy : y.owns (σ[i]?.join) a) (uq : ∀ b, y.owns (σ[i]?.join) b → b = a)
    (ok : ∀ H', H' = upd H a o' → (∀ b u, F b → H b = some u → H' b = some u) → SlotOk e.c F ρ H' y (σ[i]?.join)) : Rel e F ρ (setSlot i y s) σ (upd H a o') ∧ Kp F F ρ ρ H (upd H a o') := by
  obtain ⟨n1, n2, n3⟩ := r.ownF a ⟨i, x, hx, ow⟩
  have ot : ∀ b, b ≠ a → upd H a o' b = H b := fun b z => upd_ne z
  have kF : ∀ b u, F b → H b = some u → upd H a o' b = some u := fun b u f h => by rw [ot b (fun z => n1 (by rw [← z]; exact f))]; exact h
  have k : Kp F F ρ ρ H (upd H a o') := ⟨fun _ h => h, ⟨[], by simp⟩, kF⟩
  have hi : i < s.env.length := (List.getElem?_eq_some_iff.mp hx).1
  have old : ∀ (j : Nat) z, (s.env.set i y)[j]? = some z → (j = i ∧ z = y) ∨ (j ≠ i ∧ s.env[j]? = some z) := fun j z h => by
    by_cases hj : j = i
    · subst hj
      rw [List.getElem?_set_self hi] at h
      cases h
      exact .inl ⟨rfl, rfl⟩
    · rw [List.getElem?_set_ne (Ne.symm hj)] at h
      exact .inr ⟨hj, h⟩
  have own : ∀ b, owned (s.env.set i y) σ b → owned s.env σ b := fun b ⟨j, z, h1, h2⟩ => by
    rcases old j z h1 with ⟨ej, ez⟩ | ⟨_, h1⟩
    · rw [ej, ez] at h2
      rw [uq b h2]
      exact ⟨i, x, hx, ow⟩
    · exact ⟨j, z, h1, h2⟩
  refine ⟨⟨by show σ.length = (s.env.set i y).length; rw [List.length_set]; exact r.len, fun j z h => ?_, fun j l z w b h1 h2 p1 p2 => ?_, fun b hb => r.ownF b (own b hb), r.rlen, fun n ob b h1 h2 => Ob.kp k (r.store n ob b h1 h2) fun u hu => ?_, r.nodup, r.sep, r.fF, r.mono, fun b hb => ?_, r.rho, fun b u h n m => ?_, (by obtain ⟨u, hu, m1, m2⟩ := r.inOwn2 ⟨i, x, hx, ow⟩; exact tabs_but r.tab hu m1 m2 fun b w hb hw => by rw [ot b hb]; exact hw)⟩, k⟩
  · rcases old j z h with ⟨ej, ez⟩ | ⟨hj, h⟩
    · rw [ej, ez]; exact ok _ rfl kF
    · refine Slot.kp (e := e) k (r.slot j z h) fun b u hb hu => ?_
      rw [ot b (fun q => hj (r.dist j i z x a h hx (by rw [← q]; exact hb) ow))]; exact hu
  · rcases old j z h1 with ⟨ej, ez⟩ | ⟨hj, h1'⟩
    · rcases old l w h2 with ⟨el, ew⟩ | ⟨hl, h2'⟩
      · rw [ej, el]
      · rw [ej, ez] at p1
        have := uq b p1
        subst this
        exact absurd (r.dist l i w x b h2' hx p2 ow) hl
    · rcases old l w h2 with ⟨el, ew⟩ | ⟨hl, h2'⟩
      · rw [el, ew] at p2
        have := uq b p2
        subst this
        exact absurd (r.dist j i z x b h1' hx p1 ow) hj
      · exact r.dist j l z w b h1' h2' p1 p2
  · rw [ot b (fun z => n2 (by rw [← z]; exact List.mem_of_getElem? h2))]; exact hu
  · obtain ⟨u, hu, m⟩ := r.trk b hb
    exact ⟨u, kF b u hb hu, m⟩
  · rw [ot b (fun z => by rw [z] at h; exact n3.no h m)]
    exact r.frm b u h n m
theorem Rel.writeL (r : Rel e F ρ s σ H) {i : Nat} {ds ds' : List D} {a : Addr} {vs' : List V} (hx : s.env[i]? = some (.own ds)) (ha : σ[i]?.join = some (.ref a)) (rl : RepL e.c F ρ H ds' vs') :
    Rel e F ρ (setSlot i (.own ds') s) σ (upd H a (.lst vs')) ∧ Kp F F ρ ρ H (upd H a (.lst vs')) := by
  have ow : (Sl.own ds).owns (σ[i]?.join) a := by rw [ha]; rfl
  refine r.write hx ow (by rw [ha]; rfl) (fun b hb => by rw [ha] at hb; exact (show a = b from hb).symm) fun H' hH' kF => ⟨a, ha, vs', by rw [hH']; exact upd_same, RepL.kp ⟨fun _ h => h, ⟨[], by simp⟩, kF⟩ _ _ rl⟩
def getOwn (i : Nat) (s : S) : Option (List D) := match s.env[i]? with
  | some (.own ds) => some ds
  | _ => none
theorem getOwn_some {i : Nat} {ds : List D} (h : getOwn i s = some ds) : s.env[i]? = some (.own ds) := by
  unfold getOwn at h
  split at h
  · rename_i q; cases h; exact q
  · cases h
/-- x.append(e), x a list of the body's own -/
def mApp (i : Nat) (f : M D) : SM := fun s => match getOwn i s with
  | none => .bad
  | some _ => (SM.bind f fun d => fun s => match getOwn i s with
    | none => .bad
    | some ds => if ds.length < SZ then .nx (setSlot i (.own (ds ++ [d])) s) else .bad) s
theorem ds_append {i : Nat} {x : Str} {a : Expr} {f : M D} {p apos cpos pos : Pos} (hN : X.N[i]? = some x) (hv : Vis X.env.scope x) (hd : (x == ("__debug__" : Str)) = false) (hcd : (x == ("__classdict__" : Str)) = false) (h : DE X e W a f)
    (hbase : attributeBase (.Name x p) "append" X.env (eval (.Name x p) X.env) = eval (.Name x p) X.env)
    (hfew : ((backTo cpos (starEach [a] X.env)).all (fun x => !x.1) && (backToKw cpos (keywordEach [] X.env)).all (fun x => x.1.isSome) && decide ([a].length + ([] : List Keyword).length + (if ([] : List Keyword).isEmpty then 0 else 1) < 30)) = true)
    (hline : (apos.endLine == cpos.line) = true) (hs : starEach [a] X.env = (false, eval a X.env) :: starEach [] X.env) (hplain : (backTo cpos (starEach [] X.env)).any (·.1) = false)
    (hsw : swapsWith (.Call (.Attribute (.Name x p) "append" apos) [a] [] cpos) none pos.line X.env = pure false) : DS X e W (.Expr (.Call (.Attribute (.Name x p) "append" apos) [a] [] cpos) pos) (mApp i f) := by
  refine PS.weak (ps_expr (pe_bm PySem.F.plainAttrs_list PySem.F.slot_list_append PySem.F.type_list_append mt_append (pe_var hN hv hd hcd) (pa_cons h pa_nil hs) hbase hfew hline hs hplain) hsw) fun DD σ H ⟨F, ρ, s, r, q⟩ => ?_
  unfold rdSAt mApp at q
  cases z : getOwn i s with
  | none => rw [z] at q; exact q.elim
  | some ds0 =>
    rw [z] at q
    have hx := getOwn_some z
    obtain ⟨p, ha, vs0, hl, rl⟩ := r.slot i _ hx
    refine ⟨.ref p, join_some ha, .inl ⟨rfl, vs0, .of hl⟩, ?_⟩
    have q : rdS e W (SM.bind f fun d => fun s => match getOwn i s with
      | none => .bad
      | some ds => if ds.length < SZ then .nx (setSlot i (.own (ds ++ [d])) s) else .bad) DD σ H := ⟨F, ρ, s, r, q⟩
    refine rdS_bind q fun v F ρ s F1 ρ1 s1 H1 d r st r1 rp h => ?_
    unfold rdSAt at h
    dsimp only at h
    cases z : getOwn i s1 with
    | none => rw [z] at h; exact h.elim
    | some ds =>
      rw [z] at h
      dsimp only at h
      by_cases hz : ds.length < SZ
      case neg => rw [if_neg hz] at h; exact h.elim
      rw [if_pos hz] at h
      have hx := getOwn_some z
      obtain ⟨p', ha', vs, hl, rl⟩ := r1.slot i _ hx
      rw [ha] at ha'
      cases ha'
      refine ⟨p, vs, v, rfl, rfl, hl, by rw [rl.length, ← SZ_eq]; exact hz, ?_⟩
      obtain ⟨r', k⟩ := r1.writeL hx ha (rl.append (RepL.one rp))
      exact h F1 ρ1 σ _ k r'
/-- y = x.pop() -/
def mPop (j i : Nat) : SM := fun s => match getOwn i s with
  | none => .bad
  | some ds => match ds.getLast? with
    | none => .bad
    | some d => .nx (setSlot j (.sh d) (setSlot i (.own ds.dropLast) s))
theorem RepL.dropLast {c : Ct} {ds : List D} {vs : List V} (h : RepL c F ρ H ds vs) : RepL c F ρ H ds.dropLast vs.dropLast := by
  rw [List.dropLast_eq_take, List.dropLast_eq_take, h.length]
  exact h.take _
theorem ds_pop {i j : Nat} {x y : Str} {p py apos cpos pos : Pos} (hnd : X.N.Nodup) (hN : X.N[i]? = some x) (hv : Vis X.env.scope x) (hd : (x == ("__debug__" : Str)) = false) (hcd : (x == ("__classdict__" : Str)) = false) (hj : X.N[j]? = some y) (hy : Loc X.env.scope y) (hij : i ≠ j)
    (hbase : attributeBase (.Name x p) "pop" X.env (eval (.Name x p) X.env) = eval (.Name x p) X.env) (hline : (apos.endLine == cpos.line) = true)
    (hsw : swapsWith (.Call (.Attribute (.Name x p) "pop" apos) [] [] cpos) (some (.Name y py)) pos.line X.env = pure false) (hf : X.fn y = true ∨ X.env.scope.names.lookup y = some .local) :
    DS X e W (.Assign [.Name y py] (.Call (.Attribute (.Name x p) "pop" apos) [] [] cpos) pos) (mPop j i) := by
  refine PS.weak (ps_set hnd hj hy (pe_bm0 PySem.F.plainAttrs_list PySem.F.slot_list_pop PySem.F.type_list_pop mt_pop (pe_var hN hv hd hcd) hbase hline) hsw hf) fun DD σ H ⟨F, ρ, s, r, q⟩ => ?_
  unfold rdSAt mPop at q
  cases z : getOwn i s with
  | none => rw [z] at q; exact q.elim
  | some ds =>
    rw [z] at q
    dsimp only at q
    cases z2 : ds.getLast? with
    | none => rw [z2] at q; exact q.elim
    | some d =>
      rw [z2] at q
      have hx := getOwn_some z
      obtain ⟨p, ha, vs, hl, rl⟩ := r.slot i _ hx
      have hlast : ds[ds.length - 1]? = some d := by rw [← z2, List.getLast?_eq_getElem?]
      obtain ⟨v, hv, rp⟩ := rl.get hlast
      obtain ⟨r', k⟩ := r.writeL hx ha rl.dropLast
      refine ⟨.ref p, join_some ha, .inl ⟨rfl, vs, .of hl⟩, p, vs, v, rfl, rfl, hl, by rw [rl.length]; exact hv, ?_⟩
      exact q F ρ _ _ k (r'.setD j (Rep.kp k _ _ rp))
/-- x[k] = e -/
def mSetIx (i : Nat) (f fk : M D) : SM := SM.bind f fun d => fun s => match getOwn i s with
  | none => .bad
  | some _ => (SM.bind fk fun k => fun s => match getOwn i s, k with
    | some ds, .int k => (match ixN ds.length k with
      | some j => .nx (setSlot i (.own (ds.set j d)) s)
      | none => .bad)
    | _, _ => .bad) s
theorem RepL.setAt {c : Ct} {ds : List D} {vs : List V} {d : D} {v : V} (j : Nat) (h : RepL c F ρ H ds vs) (r : Rep c F ρ H d v) : RepL c F ρ H (ds.set j d) (vs.set j v) :=
  .of (by rw [List.length_set, List.length_set, h.length]) fun i d' v' h1 h2 => by
    by_cases hj : j = i
    · subst hj
      have hl : j < ds.length := by
        have := (List.getElem?_eq_some_iff.mp h1).1
        simpa using this
      rw [List.getElem?_set_self hl] at h1
      rw [List.getElem?_set_self (by rw [h.length]; exact hl)] at h2
      cases h1; cases h2; exact r
    · rw [List.getElem?_set_ne hj] at h1 h2
      obtain ⟨w, q, rp⟩ := h.get h1
      rw [h2] at q; cases q; exact rp
theorem ds_setIx {i : Nat} {x : Str} {a k : Expr} {f fk : M D} {p p2 pos : Pos} (hN : X.N[i]? = some x) (hv : Vis X.env.scope x) (hd : (x == ("__debug__" : Str)) = false) (hcd : (x == ("__classdict__" : Str)) = false) (ha : DE X e W a f) (hk : DB X e W k fk)
    (hpg : PG X (.Subscript (.Name x p) k p2) (gSub (tVar i) (rdG e W RB fk) rSetL)) (hs : swapsWithSole [.Subscript (.Name x p) k p2] a pos.line X.env = pure false) (hw : swappedStores [.Subscript (.Name x p) k p2] a X.env = pure none) :
    DS X e W (.Assign [.Subscript (.Name x p) k p2] a pos) (mSetIx i f fk) := by
  refine PS.weak (ps_asg ha hpg hs hw) fun DD σ H q => rdS_bind q fun v F ρ s F1 ρ1 s1 H1 d r st r1 rp h => ?_
  unfold rdSAt at h
  dsimp only at h
  cases z : getOwn i s1 with
  | none => rw [z] at h; exact h.elim
  | some ds0 =>
    rw [z] at h
    obtain ⟨p, hp, _⟩ := r1.slot i _ (getOwn_some z)
    refine ⟨.ref p, join_some hp, ?_⟩
    have h : rdSAt e W (SM.bind fk fun k => fun s => match getOwn i s, k with
      | some ds, .int k => (match ixN ds.length k with
        | some j => .nx (setSlot i (.own (ds.set j d)) s)
        | none => .bad)
      | _, _ => .bad) F1 ρ1 s1 H1 DD := h
    refine rdSAt_bind r1 h fun u F2 ρ2 s2 H2 kd st2 r2 lk h2 => ?_
    unfold rdSAt at h2
    dsimp only at h2
    cases z2 : getOwn i s2 with
    | none => rw [z2] at h2; exact h2.elim
    | some ds =>
      rw [z2] at h2
      cases kd with
      | int kk =>
        dsimp only at h2
        cases z3 : ixN ds.length kk with
        | none => rw [z3] at h2; exact h2.elim
        | some j =>
          rw [z3] at h2
          have := int_of lk; subst u
          have hx := getOwn_some z2
          obtain ⟨p', ha', vs, hl, rl⟩ := r2.slot i _ hx
          rw [hp] at ha'
          cases ha'
          obtain ⟨r', k'⟩ := r2.writeL hx hp (rl.setAt j (Rep.stp r1 st2 rp))
          exact ⟨p, vs, kk, j, rfl, rfl, hl, by rw [rl.length]; exact z3, h2 F2 ρ2 σ _ k' r'⟩
      | _ => exact h2.elim
end
end Ls
namespace Ls
open PySem PySem.Spec L2
section
variable {X : Cx} {e : En} {F F' F1 F2 : Addr → Prop} {ρ ρ' ρ1 ρ2 : List Addr} {s s' s1 s2 : S} {σ σ' : L2.St} {H H' H1 H2 Hs : Hp} {W : WX} {α β τ υ : Type} {DD : Ends}
/-! ### a, b = e1, e2 -/
theorem RL.stp {ds : List D} {v : V} (r : Rel e F ρ s σ H) (x : Stp F F' ρ ρ' s s' σ H H') (q : RL e Hs F ρ s σ H ds v) : RL e Hs F' ρ' s' σ H' ds v := by
  obtain ⟨a, vs, rfl, h0, h1, h2, h3, h4, h5, h6⟩ := q
  refine ⟨a, vs, rfl, h0, fun z => ?_, (rd_stp x h2 (.of h5)).2, h3, fun z => h4 (x.own a z), x.keep _ _ h5 h2 (by nofun), RepL.stp r x h6⟩
  rcases x.new a z with z | z | z
  · exact h1 z
  · exact z.no h5
  · exact h4 z
theorem RS.stp {y : Sl} {v : V} (r : Rel e F ρ s σ H) (x : Stp F F' ρ ρ' s s' σ H H') (q : RS e Hs F ρ s σ H y v) : RS e Hs F' ρ' s' σ H' y v := by
  cases y with
  | emp => exact q
  | sh d => exact Rep.stp r x q
  | own ds => exact RL.stp r x q
  | ownK kvs =>
    obtain ⟨a, rfl, h0, h1, h2, h3, h4, es, h5, h6⟩ := q
    refine ⟨a, rfl, h0, fun z => ?_, (rd_stp x h2 (.of h5)).2, h3, fun z => h4 (x.own a z), es, x.keep _ _ h5 h2 (by nofun), RepK.kp (x.kp r) _ _ h6⟩
    rcases x.new a z with z | z | z
    · exact h1 z
    · exact z.no h5
    · exact h4 z
  | ownT kvs =>
    obtain ⟨a, rfl, h0, h1, h2, h3, h4, es, h5, h6⟩ := q
    refine ⟨a, rfl, h0, fun z => ?_, (rd_stp x h2 (.of h5)).2, h3, fun z => h4 (x.own a z), es, x.keep _ _ h5 h2 (by nofun), RepT.kp (x.kp r) _ _ h6⟩
    rcases x.new a z with z | z | z
    · exact h1 z
    · exact z.no h5
    · exact h4 z
/-- what is owned stands -/
theorem RS.there {y : Sl} {v : V} {b : Addr} (q : RS e Hs F ρ s σ H y v) (h : y.owns (some v) b) : ∃ o, H b = some o ∧ NT o := by
  cases y with
  | emp => exact h.elim
  | sh d => exact h.elim
  | own ds =>
    obtain ⟨a, vs, rfl, _, _, _, _, _, h5, _⟩ := q
    have h : a = b := h
    exact ⟨_, by rw [← h]; exact h5, by nofun⟩
  | ownK kvs =>
    obtain ⟨a, rfl, _, _, _, _, _, es, h5, _⟩ := q
    have h : a = b := h
    exact ⟨_, by rw [← h]; exact h5, by nofun⟩
  | ownT kvs =>
    obtain ⟨a, rfl, _, _, _, _, _, es, h5, _⟩ := q
    have h : a = b := h
    exact ⟨_, by rw [← h]; exact h5, by nofun⟩
/-- who owns behind a slot's setting -/
theorem owns_set {i : Nat} {x : Sl} {v : V} {b : Addr} (j : Nat) (y : Sl) (h1 : (setSlot i x s).env[j]? = some y) (h2 : y.owns ((σ.set i (some v))[j]?.join) b) (hl : σ.length = s.env.length) : (j = i ∧ x.owns (some v) b) ∨ (j ≠ i ∧ s.env[j]? = some y ∧ y.owns (σ[j]?.join) b) := by
  have h1 : (s.env.set i x)[j]? = some y := h1
  by_cases hj : j = i
  · subst hj
    have hi : j < s.env.length := by
      have := (List.getElem?_eq_some_iff.mp h1).1
      simpa using this
    rw [List.getElem?_set_self hi] at h1
    cases h1
    rw [List.getElem?_set_self (by omega)] at h2
    exact .inl ⟨rfl, h2⟩
  · rw [List.getElem?_set_ne (Ne.symm hj)] at h1 h2
    exact .inr ⟨hj, h1, h2⟩
def mPar (i j : Nat) (f g : M Sl) : SM := SM.bind f fun x => SM.bind g fun y => fun s => .nx (setSlot j y (setSlot i x s))
theorem rd_par {i j : Nat} {f g : M Sl} (hij : i ≠ j) (h : rdS e W (mPar i j f g) DD σ H) : tPar i j (tCons (rdG e W RS f) (tCons (rdG e W RS g) tNil)) DD σ H := by
  refine rdS_bind h fun v F ρ s F1 ρ1 s1 H1 x r st r1 rx h => ?_
  refine rdSAt_bind r1 h fun w F2 ρ2 s2 H2 y st2 r2 ry h2 => ⟨v, w, rfl, ?_⟩
  have rx2 := RS.stp r1 st2 rx
  have q1 := r2.setRS i rx2
  refine h2 F2 ρ2 _ H2 Kp.refl (q1.set j ry.slotOk fun b hb => ?_)
  obtain ⟨h1, h3, h4, h5, h6⟩ := ry.owns hb
  refine ⟨h1, h3, h4, fun l z hl e1 e2 => ?_⟩
  rcases owns_set (s := s2) l z e1 e2 r2.len with ⟨_, ow⟩ | ⟨_, e1, e2⟩
  · obtain ⟨o, ho, hm⟩ := rx.there ow
    exact h6.no ho hm
  · exact h5 ⟨l, z, e1, e2⟩
theorem ds_par {i j : Nat} {x y : Str} {a b : Expr} {f g : M Sl} {px py pt pos : Pos} {kt k2 pt2} (hc : X.calm = true) (hN : X.N.Nodup) (hi : X.N[i]? = some x) (hj : X.N[j]? = some y) (hij : i ≠ j)
    (hx : X.env.scope.names.lookup x = some .local) (hy : X.env.scope.names.lookup y = some .local) (ha : DX X e W a f) (hb : DX X e W b g)
    (hw : swappedStores [.Tuple [.Name x px, .Name y py] kt pt] (.Tuple [a, b] k2 pt2) X.env = pure (some [x, y])) (hs : swapsWithSole [.Tuple [.Name x px, .Name y py] kt pt] (.Tuple [a, b] k2 pt2) pos.line X.env = pure false)
    (h1 : starEach [a, b] X.env = (false, eval a X.env) :: starEach [b] X.env) (h2 : starEach [b] X.env = (false, eval b X.env) :: starEach [] X.env) :
    DS X e W (.Assign [.Tuple [.Name x px, .Name y py] kt pt] (.Tuple [a, b] k2 pt2) pos) (mPar i j f g) := PS.weak (ps_par hc hN hi hj hij hx hy (pa_cons ha (pa_cons hb pa_nil h2) h1) hw hs) fun DD σ H h => rd_par hij h
def mPar3 (i j l : Nat) (f g k : M Sl) : SM := SM.bind f fun x => SM.bind g fun y => SM.bind k fun z => fun s => .nx (setSlot l z (setSlot j y (setSlot i x s)))
theorem rd_par3 {i j l : Nat} {f g k : M Sl} (hij : i ≠ j) (hil : i ≠ l) (hjl : j ≠ l) (h : rdS e W (mPar3 i j l f g k) DD σ H) : tPar3 i j l (tCons (rdG e W RS f) (tCons (rdG e W RS g) (tCons (rdG e W RS k) tNil))) DD σ H := by
  refine rdS_bind h fun v F ρ s F1 ρ1 s1 H1 x r st r1 rx h => ?_
  refine rdSAt_bind r1 h fun w F2 ρ2 s2 H2 y st2 r2 ry h2 => ?_
  refine rdSAt_bind r2 h2 fun u F3 ρ3 s3 H3 z st3 r3 rz h3 => ⟨v, w, u, rfl, ?_⟩
  have rx2 := RS.stp r1 st2 rx
  have rx3 := RS.stp r2 st3 rx2
  have ry3 := RS.stp r2 st3 ry
  have q1 := r3.setRS i rx3
  have nxy : ∀ b, x.owns (some v) b → y.owns (some w) b → False := fun b o1 o2 => by
    obtain ⟨o, ho, hm⟩ := rx.there o1
    exact ((ry.owns o2).2.2.2.2).no ho hm
  have nxz : ∀ b, x.owns (some v) b → z.owns (some u) b → False := fun b o1 o2 => by
    obtain ⟨o, ho, hm⟩ := rx2.there o1
    exact ((rz.owns o2).2.2.2.2).no ho hm
  have nyz : ∀ b, y.owns (some w) b → z.owns (some u) b → False := fun b o1 o2 => by
    obtain ⟨o, ho, hm⟩ := ry.there o1
    exact ((rz.owns o2).2.2.2.2).no ho hm
  have q2 : Rel e F3 ρ3 (setSlot j y (setSlot i x s3)) ((σ.set i (some v)).set j (some w)) H3 := q1.set j ry3.slotOk fun b hb => by
    obtain ⟨h1, h3, h4, h5, h6⟩ := ry3.owns hb
    refine ⟨h1, h3, h4, fun m t hl e1 e2 => ?_⟩
    rcases owns_set (s := s3) m t e1 e2 r3.len with ⟨_, ow⟩ | ⟨_, e1, e2⟩
    · exact nxy b ow hb
    · exact h5 ⟨m, t, e1, e2⟩
  refine h3 F3 ρ3 _ H3 Kp.refl (q2.set l rz.slotOk fun b hb => ?_)
  obtain ⟨h1, h3, h4, h5, h6⟩ := rz.owns hb
  refine ⟨h1, h3, h4, fun m t hl e1 e2 => ?_⟩
  rcases owns_set (s := setSlot i x s3) m t e1 e2 q1.len with ⟨_, ow⟩ | ⟨_, e1, e2⟩
  · exact nyz b ow hb
  · rcases owns_set (s := s3) m t e1 e2 r3.len with ⟨_, ow⟩ | ⟨_, e1, e2⟩
    · exact nxz b ow hb
    · exact h5 ⟨m, t, e1, e2⟩
theorem ds_par3 {i j l : Nat} {x y z : Str} {a b c : Expr} {f g k : M Sl} {px py pz pt pos : Pos} {kt k2 pt2} (hc : X.calm = true) (hN : X.N.Nodup) (hi : X.N[i]? = some x) (hj : X.N[j]? = some y) (hl : X.N[l]? = some z) (hij : i ≠ j) (hil : i ≠ l) (hjl : j ≠ l)
    (hx : X.env.scope.names.lookup x = some .local) (hy : X.env.scope.names.lookup y = some .local) (hz : X.env.scope.names.lookup z = some .local) (ha : DX X e W a f) (hb : DX X e W b g) (hcc : DX X e W c k)
    (hw : swappedStores [.Tuple [.Name x px, .Name y py, .Name z pz] kt pt] (.Tuple [a, b, c] k2 pt2) X.env = pure (some [x, y, z])) (hs : swapsWithSole [.Tuple [.Name x px, .Name y py, .Name z pz] kt pt] (.Tuple [a, b, c] k2 pt2) pos.line X.env = pure false)
    (h1 : starEach [a, b, c] X.env = (false, eval a X.env) :: starEach [b, c] X.env) (h2 : starEach [b, c] X.env = (false, eval b X.env) :: starEach [c] X.env) (h3 : starEach [c] X.env = (false, eval c X.env) :: starEach [] X.env) :
    DS X e W (.Assign [.Tuple [.Name x px, .Name y py, .Name z pz] kt pt] (.Tuple [a, b, c] k2 pt2) pos) (mPar3 i j l f g k) := PS.weak (ps_par3 hc hN hi hj hl hij hil hjl hx hy hz (pa_cons ha (pa_cons hb (pa_cons hcc pa_nil h3) h2) h1) hw hs) fun DD σ H h => rd_par3 hij hil hjl h
/-- any target, any value: the value is shared -/
def mAsg (f : M D) (tf : D → S → Option S) : SM := SM.bind f fun d => fun s => match tf d s with
  | none => .bad
  | some s' => .nx s'
theorem ds_asg {is : List Nat} {tg a : Expr} {f : M D} {tf : D → S → Option S} {pos : Pos} (ha : DE X e W a f) (hg : DG X e is tg tf) (hs : swapsWithSole [tg] a pos.line X.env = pure false) (hw : swappedStores [tg] a X.env = pure none) (h1 : (assignEach [tg] X.env).map (·.2) = [assign tg X.env]) : DS X e W (.Assign [tg] a pos) (mAsg f tf) :=
  PS.weak (ps_asg ha hg hs hw h1) fun DD σ H h => rdS_bind h fun v F ρ s F1 ρ1 s1 H1 d r st r1 rp h => by
    refine ⟨F1, ρ1, s1, d, r1, rp, ?_⟩
    unfold rdSAt at h
    dsimp only at h
    cases z : tf d s1 with
    | none => rw [z] at h; exact h
    | some s' => rw [z] at h; exact fun σ' _ _ r' => h F1 ρ1 σ' H1 Kp.refl r'
/-! ### raise -/
def mRaise (x : Str) : SM := fun s => .exc ⟨x, none, .non⟩ s
theorem ds_raise {C : Addr} {bmB : List Value} {B newId initId : String} {x m : Str} {j : Nat} {p p2 p3 pos : Pos} (L : Lk X e W) (Fx : ExcBaseFacts B newId initId bmB) (q : PySem.W.excIn X.K C bmB newId = true) (gC : X.mg x = some (.ref C)) (kC : PySem.W.keepIn X.K (.ref C) = true) (rs : Raises X (.ref C)) (hg : Gl X x)
    (hdb : (x == ("__debug__" : Str)) = false) : DS X e W (.Raise (some (.Call (.Name x p) [.Constant (.str m) j p2] [] p3)) none pos) (mRaise x) :=
  PS.weak (ps_raise L.calm L.tk (pmk_own Fx q gC kC rs hg hdb)) fun DD σ H ⟨F, ρ, s, r, h⟩ => by
    refine h (.ref C) none F ρ σ H r ⟨⟨C, rfl, by rw [L.c]; exact gC⟩, rfl⟩
/-! ### the shared dict -/
def obAt (s : S) (n : Nat) : Option (List (Key × D)) := match s.st[n]? with
  | some (.dct kvs) => some kvs
  | none => none
def lookK (kvs : List (Key × D)) (k : Key) : Option D := (kvs.find? fun kv => decide (kv.1 = k)).map (·.2)
def putKD (kvs : List (Key × D)) (k : Key) (v : D) : List (Key × D) := if (kvs.any fun kv => decide (kv.1 = k)) = true then kvs.map (fun kv => if kv.1 = k then (kv.1, v) else kv) else kvs ++ [(k, v)]
def keyOf : D → Option Key
  | .int i => some (.inl i)
  | .str x => some (.inr x)
  | _ => none
theorem keyOf_val {c : Ct} {d : D} {k : Key} {v : V} (h : keyOf d = some k) (l : Lent c F ρ H d v) : v = kV k := by
  cases d with
  | int i => cases h; exact int_of l
  | str x => cases h; have l : Rep c F ρ H (.str x) v := l; unfold Rep at l; exact l
  | _ => cases h
theorem RepK.look {c : Ct} {k : Key} : ∀ {kvs : List (Key × D)} {es : List (Key × V)} {d : D}, RepK c F ρ H kvs es → lookK kvs k = some d → ∃ v, valV es k = some v ∧ Rep c F ρ H d v
  | [], es, d, _, h => by cases h
  | (k', d') :: kvs, es, d, r, h => by
    unfold RepK at r
    obtain ⟨v, ws, rfl, r1, r2⟩ := r
    unfold lookK at h
    unfold valV
    rw [List.find?_cons] at h ⊢
    by_cases z : k' = k
    · simp only [z, decide_true, Option.map_some, Option.some.injEq] at h ⊢
      subst h
      exact ⟨v, rfl, r1⟩
    · simp only [decide_eq_false z] at h ⊢
      exact RepK.look r2 h
theorem RepK.look_none {c : Ct} {k : Key} : ∀ {kvs : List (Key × D)} {es : List (Key × V)}, RepK c F ρ H kvs es → lookK kvs k = none → valV es k = none
  | [], es, r, _ => by unfold RepK at r; subst r; rfl
  | (k', d') :: kvs, es, r, h => by
    unfold RepK at r
    obtain ⟨v, ws, rfl, r1, r2⟩ := r
    unfold lookK at h
    unfold valV
    rw [List.find?_cons] at h ⊢
    by_cases z : k' = k
    · simp [z] at h
    · simp only [decide_eq_false z] at h ⊢
      exact RepK.look_none r2 h
theorem RepK.put {c : Ct} {k : Key} {d : D} {v : V} {kvs : List (Key × D)} {es : List (Key × V)} (r : RepK c F ρ H kvs es) (rv : Rep c F ρ H d v) : RepK c F ρ H (putKD kvs k d) (putK es k v) := by
  have any : ∀ {kvs : List (Key × D)} {es : List (Key × V)}, RepK c F ρ H kvs es → (kvs.any fun kv => decide (kv.1 = k)) = (es.any fun kv => decide (kv.1 = k)) := fun {kvs} => by
    induction kvs with
    | nil => intro es r; unfold RepK at r; subst r; rfl
    | cons p kvs ih =>
      intro es r
      obtain ⟨k', d'⟩ := p
      unfold RepK at r
      obtain ⟨w, ws, rfl, r1, r2⟩ := r
      rw [List.any_cons, List.any_cons, ih r2]
  have mp : ∀ {kvs : List (Key × D)} {es : List (Key × V)}, RepK c F ρ H kvs es → RepK c F ρ H (kvs.map fun kv => if kv.1 = k then (kv.1, d) else kv) (es.map fun kv => if kv.1 = k then (kv.1, v) else kv) := fun {kvs} => by
    induction kvs with
    | nil => intro es r; unfold RepK at r; subst r; unfold RepK; rfl
    | cons p kvs ih =>
      intro es r
      obtain ⟨k', d'⟩ := p
      unfold RepK at r
      obtain ⟨w, ws, rfl, r1, r2⟩ := r
      rw [List.map_cons, List.map_cons]
      by_cases z : k' = k
      · simp only [z, if_pos]
        unfold RepK
        exact ⟨v, _, rfl, rv, ih r2⟩
      · simp only [z, if_false]
        unfold RepK
        exact ⟨w, _, rfl, r1, ih r2⟩
  have ap : ∀ {kvs : List (Key × D)} {es : List (Key × V)}, RepK c F ρ H kvs es → RepK c F ρ H (kvs ++ [(k, d)]) (es ++ [(k, v)]) := fun {kvs} => by
    induction kvs with
    | nil => intro es r; unfold RepK at r; subst r; show RepK c F ρ H [(k, d)] [(k, v)]; unfold RepK; exact ⟨v, [], rfl, rv, by unfold RepK; rfl⟩
    | cons p kvs ih =>
      intro es r
      obtain ⟨k', d'⟩ := p
      unfold RepK at r
      obtain ⟨w, ws, rfl, r1, r2⟩ := r
      show RepK c F ρ H ((k', d') :: (kvs ++ [(k, d)])) _
      unfold RepK
      exact ⟨w, _, rfl, r1, ih r2⟩
  unfold putKD L2.putK
  rw [any r]
  split
  · exact mp r
  · exact ap r
theorem RepK.length {c : Ct} : ∀ {kvs : List (Key × D)} {es : List (Key × V)}, RepK c F ρ H kvs es → es.length = kvs.length
  | [], es, r => by unfold RepK at r; subst r; rfl
  | (k', d') :: kvs, es, r => by
    unfold RepK at r
    obtain ⟨w, ws, rfl, r1, r2⟩ := r
    rw [List.length_cons, List.length_cons, RepK.length r2]
/-- d[k] of data: the shared dict, a dict by value -/
def getD (d k : D) : M D := fun s => match keyOf k with
  | none => .bad
  | some k => match d with
    | .obj n => (match (obAt s n).bind (lookK · k) with
      | some v => .ok v s
      | none => .bad)
    | .dct kvs => (match lookK kvs k with
      | some v => .ok v s
      | none => .bad)
    | _ => .bad
theorem Rel.ob (r : Rel e F ρ s σ H) {n : Nat} {kvs : List (Key × D)} {v : V} (h : obAt s n = some kvs) (l : Rep e.c F ρ H (.obj n) v) : ∃ a es, v = .ref a ∧ a ∈ ρ ∧ ρ[n]? = some a ∧ H a = some (.dK es) ∧ RepK e.c F ρ H kvs es := by
  unfold Rep at l
  obtain ⟨a, rfl, ha⟩ := l
  unfold obAt at h
  cases q : s.st[n]? with
  | none => rw [q] at h; cases h
  | some ob =>
    rw [q] at h
    cases ob with
    | dct kvs' =>
      cases h
      obtain ⟨es, h1, h2⟩ := r.store n _ a q ha
      exact ⟨a, es, rfl, List.mem_of_getElem? ha, ha, h1, h2⟩
theorem de_dget {a b : Expr} {fa fb : M D} {pos : Pos} (L : Lk X e W) (ha : DB X e W a fa) (hb : DB X e W b fb) (hs : NoSl b) : DE X e W (.Subscript a b pos) (M.bind fa fun x => M.bind fb fun y => getD x y) :=
  PE.weak (pe_dget (by have := L.hu; omega) ha hb hs) fun σ H Q h => rdG_bind h fun v F ρ s F1 ρ1 s1 H1 x r0 st r1 l1 h1 => ⟨F1, ρ1, s1, r1, rdAt_bind h1 fun w F2 ρ2 s2 H2 y st2 r2 l2 h2 => by
    have l1 : Lent e.c F2 ρ2 H2 x v := Lent.stp r1 st2 l1
    unfold rdAt getD at h2
    cases hk : keyOf y with
    | none => rw [hk] at h2; exact h2.elim
    | some k =>
      rw [hk] at h2
      have hw := keyOf_val hk l2
      subst hw
      cases x with
      | obj n =>
        dsimp only at h2
        cases ho : obAt s2 n with
        | none => rw [ho] at h2; exact h2.elim
        | some kvs =>
          rw [ho] at h2
          simp only [Option.bind_some] at h2
          cases hv : lookK kvs k with
          | none => rw [hv] at h2; exact h2.elim
          | some d =>
            rw [hv] at h2
            obtain ⟨a, es, rfl, _, _, h3, h4⟩ := r2.ob ho l1
            obtain ⟨u, h5, h6⟩ := h4.look hv
            exact ⟨a, u, rfl, .inl ⟨es, k, .of h3, rfl, h5.symm⟩, h2 u F2 ρ2 H2 Stp.refl r2 h6⟩
      | dct kvs =>
        dsimp only at h2
        cases hv : lookK kvs k with
        | none => rw [hv] at h2; exact h2.elim
        | some d =>
          rw [hv] at h2
          obtain ⟨a, rfl, _, es, h3, h4⟩ := l1
          obtain ⟨u, h5, h6⟩ := h4.look hv
          exact ⟨a, u, rfl, .inl ⟨es, k, .of h3, rfl, h5.symm⟩, h2 u F2 ρ2 H2 Stp.refl r2 h6⟩
      | _ => exact h2.elim⟩
/-- d[k] = e, d shared -/
def setOb (n : Nat) (kvs : List (Key × D)) (s : S) : S := { s with st := s.st.set n (.dct kvs) }
def mPutOb (f fd fk : M D) : SM := SM.bind f fun v => SM.bind fd fun d => SM.bind fk fun k => fun s => match d, keyOf k with
  | .obj n, some k => (match obAt s n with
    | some kvs => if kvs.length < SZ then .nx (setOb n (putKD kvs k v) s) else .bad
    | none => .bad)
  | _, _ => .bad
theorem Rel.putOb (r : Rel e F ρ s σ H) {n : Nat} {kvs kvs' : List (Key × D)} {es' : List (Key × V)} {a : Addr} (h : obAt s n = some kvs) (ha : ρ[n]? = some a) (rk : RepK e.c F ρ H kvs' es') : Rel e F ρ (setOb n kvs' s) σ (upd H a (.dK es')) ∧ Kp F F ρ ρ H (upd H a (.dK es')) := by
  have har : a ∈ ρ := List.mem_of_getElem? ha
  have ot : ∀ b, b ≠ a → upd H a (.dK es') b = H b := fun b z => upd_ne z
  have kF : ∀ b u, F b → H b = some u → upd H a (.dK es') b = some u := fun b u f hu => by rw [ot b (fun z => r.sep a har (by rw [← z]; exact f))]; exact hu
  have k : Kp F F ρ ρ H (upd H a (.dK es')) := ⟨fun _ h => h, ⟨[], by simp⟩, kF⟩
  have hn : n < s.st.length := by
    have := (List.getElem?_eq_some_iff.mp ha).1
    have := r.rlen
    omega
  refine ⟨⟨r.len, fun i x hx => Slot.kp (e := e) k (r.slot i x hx) fun b u hb hu => ?_, r.dist, r.ownF, by show ρ.length = (s.st.set n _).length; rw [List.length_set]; exact r.rlen, fun m ob b h1 h2 => ?_, r.nodup, r.sep, r.fF, r.mono, fun b hb => ?_, r.rho, fun b u hu hb m => ?_, (by obtain ⟨u, hu, m1, m2⟩ := r.inRho2 har; exact tabs_but r.tab hu m1 m2 fun b w hb hw => by rw [ot b hb]; exact hw)⟩, k⟩
  · rw [ot b (fun z => (r.ownF b ⟨i, x, hx, hb⟩).2.1 (by rw [z]; exact har))]; exact hu
  · have h1 : (s.st.set n (.dct kvs'))[m]? = some ob := h1
    by_cases hm : m = n
    · subst hm
      rw [List.getElem?_set_self hn] at h1
      cases h1
      rw [ha] at h2
      cases h2
      exact ⟨es', upd_same, RepK.kp k _ _ rk⟩
    · rw [List.getElem?_set_ne (Ne.symm hm)] at h1
      refine Ob.kp k (r.store m ob b h1 h2) fun u hu => ?_
      rw [ot b (fun z => hm ?_)]
      · exact hu
      · subst z
        have l1 := (List.getElem?_eq_some_iff.mp h2).1
        exact (List.getElem?_inj l1 r.nodup).mp (h2.trans ha.symm)
  · obtain ⟨u, hu, m⟩ := r.trk b hb
    exact ⟨u, kF b u hb hu, m⟩
  · have hb' : H b = some u := r.frm b u hu hb m
    rw [ot b (fun z => ?_)]
    · exact hb'
    · obtain ⟨t, ht, hv⟩ := r.rho
      rw [z] at hu hb
      rw [ht] at har
      rcases List.mem_append.mp har with q | q
      · exact hb q
      · exact (hv a q).no hu m
theorem ds_dput {o k v : Expr} {f fd fk : M D} {p2 pos : Pos} (L : Lk X e W) (ho : DB X e W o fd) (hk : DB X e W k fk) (hv : DE X e W v f) (hs : swapsWith v (some (.Subscript o k p2)) pos.line X.env = pure false) : DS X e W (.Assign [.Subscript o k p2] v pos) (mPutOb f fd fk) :=
  PS.weak (ps_dput (by have := L.hu; omega) ho hk hv hs) fun DD σ H h => rdS_bind h fun v F ρ s F1 ρ1 s1 H1 x r st r1 rp h => by
    refine rdSAt_bind r1 h fun w F2 ρ2 s2 H2 y st2 r2 l2 h2 => ?_
    refine rdSAt_bind r2 h2 fun u F3 ρ3 s3 H3 z st3 r3 l3 h3 => ?_
    have rp3 : Rep e.c F3 ρ3 H3 x v := Rep.stp r2 st3 (Rep.stp r1 st2 rp)
    have l2 : Lent e.c F3 ρ3 H3 y w := Lent.stp r2 st3 l2
    unfold rdSAt at h3
    dsimp only at h3
    cases hk : keyOf z with
    | none =>
      rw [hk] at h3
      cases y <;> exact h3.elim
    | some k =>
      rw [hk] at h3
      have hw := keyOf_val hk l3
      subst hw
      cases y with
      | obj n =>
        dsimp only at h3
        cases ho : obAt s3 n with
        | none => rw [ho] at h3; exact h3.elim
        | some kvs =>
          rw [ho] at h3
          dsimp only at h3
          by_cases hz : kvs.length < SZ
          case neg => rw [if_neg hz] at h3; exact h3.elim
          rw [if_pos hz] at h3
          obtain ⟨a, es, rfl, hm, ha, h5, h6⟩ := r3.ob ho l2
          obtain ⟨r', k'⟩ := r3.putOb ho ha (h6.put (k := k) rp3)
          exact ⟨a, _, rfl, DPut.k h5 (by rw [h6.length, ← SZ_eq]; exact hz), h3 F3 ρ3 σ _ k' r'⟩
      | _ => exact h3.elim
end
end Ls
set_option maxHeartbeats 1000000
/-! sum(a list of lists, a list) -/
namespace PySem
theorem args_sum2L (a b : Value) : argsOk "sum" ⟨[a, b], []⟩ := by unfold argsOk; kernel_rfl
section
variable {prog : Program} {w : World} {A : Around} {R : Result → Shared → Prop} {I S : Addr} {ax : Addr} {items : Array Value} {base : Heap}
/-- a list object -/
abbrev LO (h : Heap) (a : Addr) (xs : List Value) : Prop := ∃ n, h.get? a = some { cls := .type "list", data := .seq xs.toArray n }
theorem codeAny_sum_lists (hh : A.in1.handled = none) (hne : ax ≠ I) (hI : base.get? I = none) (hS : base.get? S = none) (hSI : S ≠ I) (hax : ax ≠ S) (hSz : base.objs.size ≤ S) (as : List Addr) (vals : List (List Value)) (hit : items = (as.map Value.ref).toArray) (hl : as.length = vals.length)
    (hv : ∀ (i : Nat) a xs, as[i]? = some a → vals[i]? = some xs → LO base a xs) (tot : Nat) (htot : tot ≤ sizeLine) :
    ∀ (k i : Nat) (s : Shared) (T : Addr) (acc : List Value) (c : Nat), vals.length - i = k → i ≤ vals.length → (s.heap.IsListIter I ax i ∧ s.heap.IsList ax items) → (∀ b o, base.get? b = some o → s.heap.get? b = some o) →
    s.heap.get? S = some { cls := .type "list", dict := none, data := .seq #[.ref T] c, slots := #[] } → LO s.heap T acc → acc.length + ((vals.drop i).flatten).length ≤ tot →
    (∀ s' T', (∀ b o, base.get? b = some o → s'.heap.get? b = some o) → LO s'.heap T' (acc ++ (vals.drop i).flatten) → s'.gens = s.gens → s'.drawn = s.drawn → s'.os = s.os → (T' = T ∨ base.objs.size ≤ T') → R (.ok (.ret (.ref T'))) s') →
    codeAny (model prog w) A (.builtin "sum.loop" ⟨[.ref I, .ref S, rawInt 2, rawInt 0], []⟩) R s := by
  have W := Walks.list (prog := prog) (w := w) (A := A.in1) hh I ax hne items
  have hn : items.size = vals.length := by rw [hit, List.size_toArray, List.length_map, hl]
  intro k
  induction k with
  | zero =>
    intro i s T acc c hk hi hst hkb hSo hT hz hR
    have hin : i = vals.length := by omega
    subst hin
    refine codeAny_builtin F.entry_sum_loop ?_
    rw [Around.under_plainId F.plain_sum_loop _]
    show wpAny _ A.in1 (seqItems? (.ref S) >>= _) _ _ s
    refine wpAny_bind (wpAny_seqItems hSo rfl ?_)
    show wpAny _ A.in1 (tryCatch (pyNext (.ref I)) _ >>= _) _ _ s
    refine wpAny_bind (wpAny_tryCatch (W.done s _ _ (by rw [hn]; exact hst) fun h' tk hk' => ?_))
    obtain ⟨n, hT⟩ := hT
    have nTI : T ≠ I := fun z => by
      obtain ⟨o, ho, hc, _⟩ := hst.1
      rw [← z, hT] at ho
      cases ho
      have hc : Value.type "list" = Value.type "list_iterator" := hc
      injection hc with hc
      exact absurd hc (by decide)
    refine wpAny_pure (hR _ T (fun b o e => hk' b o (fun z => ?_) (hkb b o e)) ⟨n, ?_⟩ rfl rfl rfl (.inl rfl))
    · rw [List.mem_singleton.mp z, hI] at e; cases e
    · rw [List.drop_length, List.flatten_nil, List.append_nil]
      exact hk' T _ (fun z => nTI (List.mem_singleton.mp z)) hT
  | succ k ih =>
    intro i s T acc c hk hi hst hkb hSo hT hz hR
    have hlt : i < vals.length := by omega
    have hdr : vals.drop i = vals[i] :: vals.drop (i + 1) := List.drop_eq_getElem_cons hlt
    have hvi : vals[i]? = some vals[i] := List.getElem?_eq_getElem hlt
    generalize vals[i] = xs at hdr hvi
    obtain ⟨a, hai⟩ : ∃ a, as[i]? = some a := ⟨_, List.getElem?_eq_getElem (by omega)⟩
    obtain ⟨na, hab⟩ := hv i a xs hai hvi
    refine codeAny_builtin F.entry_sum_loop ?_
    rw [Around.under_plainId F.plain_sum_loop _]
    show wpAny _ A.in1 (seqItems? (.ref S) >>= _) _ _ s
    refine wpAny_bind (wpAny_seqItems hSo rfl ?_)
    show wpAny _ A.in1 (tryCatch (pyNext (.ref I)) _ >>= _) _ _ s
    refine wpAny_bind (wpAny_tryCatch (W.item i s _ _ (by rw [hn]; exact hlt) hst fun v h' tk hP hst' hk' => ?_))
    have hv' : v = .ref a := by
      rw [hit] at hP
      have hP : (as.map Value.ref)[i]? = some v := by simpa using hP
      rw [List.getElem?_map, hai] at hP
      cases hP; rfl
    subst hv'
    have kb' : ∀ b o, base.get? b = some o → h'.get? b = some o := fun b o e => hk' b o (fun z => by rw [List.mem_singleton.mp z, hI] at e; cases e) (hkb b o e)
    have nSI : S ∉ [I] := fun z => hSI (List.mem_singleton.mp z)
    have hS' := hk' S _ nSI hSo
    obtain ⟨nT, hT⟩ := hT
    have nTI : T ≠ I := fun z => by
      obtain ⟨o, ho, hc, _⟩ := hst.1
      rw [← z, hT] at ho
      cases ho
      have hc : Value.type "list" = Value.type "list_iterator" := hc
      injection hc with hc
      exact absurd hc (by decide)
    have hT' := hk' T _ (fun z => nTI (List.mem_singleton.mp z)) hT
    have ha' := kb' a _ hab
    rw [hdr, List.flatten_cons, List.length_append] at hz
    show wpAny _ A.in1 ((holding [Value.ref a] (binaryOp .Add (.ref T) (.ref a))).attempt >>= _) _ _ _
    refine wpAny_bind (wpAny_attempt (wpAny_holding (PySem.P.add_list hT' ha' ?_ (by rw [List.size_toArray, List.size_toArray]; omega))))
    have hlS : S < h'.objs.size := Heap.lt_size hS'
    show wpAny _ A.in1 (updateSeq S (fun _ => #[Value.ref h'.objs.size]) >>= _) _ _ _
    refine wpAny_bind ?_
    have hS1 : (h'.push { cls := .type "list", data := .seq (acc.toArray ++ xs.toArray) }).get? S = _ := Heap.get?_push_of_some _ hS'
    refine wpAny_updateSeq hS1 rfl ?_
    have hS2 := Heap.get?_update_self (Obj.mapSeq fun _ => #[Value.ref h'.objs.size]) hS1 rfl
    refine wpAny_bind (wpAny_letGo ?_)
    refine wpAny_bind ?_
    have ot : ∀ b, b ≠ S → ∀ o, h'.get? b = some o → ((((h'.push { cls := .type "list", data := .seq (acc.toArray ++ xs.toArray) }).update S (Obj.mapSeq fun _ => #[Value.ref h'.objs.size])).update S (Obj.mapSeq fun _ => #[Value.ref h'.objs.size]))).get? b = some o := fun b hb o e =>
      (Heap.get?_update_other _ _ (Ne.symm hb)).trans ((Heap.get?_update_other _ _ (Ne.symm hb)).trans (Heap.get?_push_of_some _ e))
    have nb : ∀ b o, base.get? b = some o → b ≠ S := fun b o e z => by rw [z, hS] at e; cases e
    refine wpAny_updateSeq hS2 rfl (wpAny_pure ⟨plainId_quiet F.plain_sum_loop _, ih (i + 1) _ h'.objs.size (acc ++ xs) _ (by omega) hlt (W.frame _ _ _ hst' fun b hb o e => ?_) (fun b o e => ?_) (Heap.get?_update_self _ hS2 rfl) ⟨0, ?_⟩ ?_ fun s' T' q1 q2 q3 q4 q5 q6 => ?_⟩)
    · refine ot b (fun z => ?_) o e
      rw [z] at hb
      rcases List.mem_cons.mp hb with hb | hb
      · exact hSI hb
      · exact hax (List.mem_singleton.mp hb).symm
    · exact ot b (nb b o e) o (kb' b o e)
    · have hne' : h'.objs.size ≠ S := Nat.ne_of_gt hlS
      have e0 : (acc ++ xs).toArray = acc.toArray ++ xs.toArray := by simp
      rw [e0]
      exact (Heap.get?_update_other _ _ (Ne.symm hne')).trans ((Heap.get?_update_other _ _ (Ne.symm hne')).trans (Heap.get?_push_size _ rfl))
    · rw [List.length_append]; omega
    · refine hR s' T' q1 ?_ q3 q4 q5 ?_
      · rw [hdr, List.flatten_cons, ← List.append_assoc]; exact q2
      · have hb : base.objs.size ≤ h'.objs.size := Nat.le_trans hSz (Nat.le_of_lt hlS)
        rcases q6 with q6 | q6
        · rw [q6]; exact .inr hb
        · exact .inr q6
/-- sum(l, t): l a list of lists, t a list -/
theorem call_sum_lists {E : Value → Shared → Prop} {Q : Value → Shared → Prop} {s : Shared} {l t : Addr} {as : List Addr} {vals : List (List Value)} {xs0 : List Value} {A : Around} (hh : A.handled = none) (hl : s.heap.IsList l (as.map Value.ref).toArray) (hlen : as.length = vals.length)
    (hv : ∀ (i : Nat) a xs, as[i]? = some a → vals[i]? = some xs → LO s.heap a xs) (ht : LO s.heap t xs0) (hz : xs0.length + vals.flatten.length ≤ sizeLine)
    (h : ∀ s' T', (∀ b o, s.heap.get? b = some o → s'.heap.get? b = some o) → LO s'.heap T' (xs0 ++ vals.flatten) → s'.gens = s.gens → s'.drawn = s.drawn → s'.os = s.os → (T' = t ∨ s.heap.objs.size ≤ T') → Q (.ref T') s') :
    wpAny (model prog w) A (call (.builtin "sum") [.ref l, .ref t]) Q E s := by
  refine call_function_tree F.kind_sum F.plain_sum F.entry_sum (args_sum2L _ _) ?_
  unfold Builtin.«sum»
  simp only [List.length_cons, List.length_nil]
  rw [if_neg (by decide)]
  refine wpAny_bind (wpAny_of_eq (show Builtin.Builtins.bindParams "sum" ["start"] 0 ⟨[.ref t], []⟩ = pure [some (.ref t)] from rfl) ?_)
  refine wpAny_bind (wpAny_pyIter_list hl ?_)
  refine wpAny_bind (wpAny_pure ?_)
  obtain ⟨n0, ht0⟩ := ht
  have ht1 : (s.heap.push { cls := .type "list_iterator", data := .fields #[.ref l, .int 0 0] }).get? t = _ := Heap.get?_push_of_some _ ht0
  have ty : ({ s with heap := s.heap.push { cls := .type "list_iterator", data := .fields #[.ref l, .int 0 0] } } : Shared).TypeIs (.ref t) "list" := ⟨_, ht1, rfl⟩
  simp only [List.forIn_cons, List.forIn_nil]
  refine wpAny_bind (wpAny_bind (wpAny_bind (wpAny_isInstance (T := "list") (b := false) ty F.sub_list_str ?_)))
  simp only [Bool.false_eq_true, if_false]
  refine wpAny_pure (wpAny_bind (wpAny_bind (wpAny_isInstance (T := "list") (b := false) ty F.sub_list_bytes ?_)))
  simp only [Bool.false_eq_true, if_false]
  refine wpAny_pure (wpAny_bind (wpAny_bind (wpAny_isInstance (T := "list") (b := false) ty (by rw [isSubtype_type]; kernel_rfl) ?_)))
  simp only [Bool.false_eq_true, if_false]
  refine wpAny_pure (wpAny_pure ?_)
  refine wpAny_bind (wpAny_newObj_type ?_)
  have sz : (s.heap.push { cls := .type "list_iterator", data := .fields #[.ref l, .int 0 0] }).objs.size = s.heap.objs.size + 1 := by rw [Heap.size_push]
  have noI : s.heap.get? s.heap.objs.size = none := by
    cases z : s.heap.get? s.heap.objs.size with
    | none => rfl
    | some o => exact absurd (Heap.lt_size z) (Nat.lt_irrefl _)
  have hlt : l < s.heap.objs.size := by obtain ⟨_, e, _⟩ := hl; exact Heap.lt_size e
  have hlt2 : t < s.heap.objs.size := Heap.lt_size ht0
  have noS : s.heap.get? (s.heap.objs.size + 1) = none := by
    cases z : s.heap.get? (s.heap.objs.size + 1) with
    | none => rfl
    | some o => exact absurd (Heap.lt_size z) (Nat.not_lt.mpr (Nat.le_succ _))
  refine wpAny_pure ⟨plainId_quiet F.plain_sum_loop _, ?_⟩
  show codeAny _ A (.builtin "sum.loop" ⟨[.ref s.heap.objs.size, .ref (s.heap.push { cls := .type "list_iterator", data := .fields #[.ref l, .int 0 0] }).objs.size, rawInt 2, rawInt 0], []⟩) _ _
  rw [sz]
  refine codeAny_sum_lists (base := s.heap) (items := (as.map Value.ref).toArray) hh (Nat.ne_of_lt hlt) noI noS (Nat.succ_ne_self _) (Nat.ne_of_lt (Nat.lt_succ_of_lt hlt)) (Nat.le_succ _) as vals rfl hlen hv _ hz _ 0 _ t xs0 0 rfl (Nat.zero_le _) ⟨?_, ?_⟩ (fun b o e => Heap.get?_push_of_some _ (Heap.get?_push_of_some _ e)) ?_ ⟨n0, Heap.get?_push_of_some _ ht1⟩ (by rw [List.drop_zero]; omega) fun s' T' q1 q2 q3 q4 q5 q6 => ?_
  · exact ⟨_, Heap.get?_push_of_some _ (Heap.get?_push_size _ rfl), rfl, rfl⟩
  · exact (hl.push _).push _
  · rw [← sz]; exact Heap.get?_push_size _ rfl
  · rw [List.drop_zero] at q2
    exact h s' T' q1 q2 q3 q4 q5 q6
end
end PySem
namespace Ls
open PySem PySem.Spec L2
def flatL : List D → Option (List D)
  | [] => some []
  | .lst xs :: r => (flatL r).map (xs ++ ·)
  | _ :: _ => none
def rSumLs : List V → Hp → VK → Prop := fun vs H Q => ∃ (l t : Addr) (as : List Addr) (ys : List (List V)) (zs : List V), vs = [.ref l, .ref t] ∧ H l = some (.lst (as.map V.ref)) ∧ as.length = ys.length ∧ (∀ (i : Nat) a xs, as[i]? = some a → ys[i]? = some xs → H a = some (.lst xs)) ∧
  H t = some (.lst zs) ∧ zs.length + ys.flatten.length ≤ sizeLine ∧ (ys.flatten = [] → Q (.ref t) H) ∧ ∀ p, H p = none → Q (.ref p) (upd H p (.lst (zs ++ ys.flatten)))
theorem vals_flat : ∀ {ys : List (List V)} {us : List (List Value)}, Paired Vals ys us → Vals ys.flatten us.flatten
  | _, _, .nil => .nil
  | _, _, .cons r t => by rw [List.flatten_cons, List.flatten_cons]; exact r.append (vals_flat t)
theorem vals_refs : ∀ {as : List Addr} {its : List Value}, Vals (as.map V.ref) its → its = as.map Value.ref
  | [], _, r => by cases r; rfl
  | a :: as, _, r => by
    rw [List.map_cons] at r
    cases r with
    | cons r1 r2 =>
      cases r1
      rw [vals_refs r2]; rfl
theorem cr_sumLs {X : Cx} (hc : X.calm = true) : CallR X (.builtin "sum") rSumLs := by
  intro pins s σ H vs us Q I r h
  obtain ⟨l, t, as, ys, zs, rfl, hl, hlen, hv, ht, hz, q1, q2⟩ := h
  have eus : us = [.ref l, .ref t] := by
    cases r with
    | cons r1 r =>
      cases r with
      | cons r2 r =>
        cases r
        cases r1; cases r2; rfl
  subst eus
  obtain ⟨_, its, n, rl, el, gl⟩ := I.lstM hl
  have hits : its = as.map Value.ref := vals_refs rl
  subst hits
  -- the lists of values
  have ex : ∀ (ys : List (List V)) (as : List Addr), as.length = ys.length → (∀ (i : Nat) a xs, as[i]? = some a → ys[i]? = some xs → H a = some (.lst xs)) → ∃ vals : List (List Value), Paired Vals ys vals ∧ ∀ (i : Nat) a xs, as[i]? = some a → vals[i]? = some xs → LO s.heap a xs := by
    intro ys
    induction ys with
    | nil => intro as _ _; exact ⟨[], .nil, fun i a xs _ h => by simp at h⟩
    | cons y ys ih =>
      intro as hl2 hv2
      cases as with
      | nil => simp at hl2
      | cons a as =>
        obtain ⟨vals, p, k⟩ := ih as (by simpa using hl2) fun i b xs h1 h2 => hv2 (i + 1) b xs (by simpa using h1) (by simpa using h2)
        obtain ⟨_, its2, n2, r2, e2, g2⟩ := I.lstM (hv2 0 a y rfl rfl)
        refine ⟨its2 :: vals, .cons r2 p, fun i b xs h1 h2 => ?_⟩
        cases i with
        | zero => simp at h1 h2; subst h1 h2; exact ⟨n2, g2⟩
        | succ i => exact k i b xs (by simpa using h1) (by simpa using h2)
  obtain ⟨vals, pv, hvals⟩ := ex ys as hlen hv
  obtain ⟨_, its0, n0, r0, e0, g0⟩ := I.lstM ht
  have rf := vals_flat pv
  have lf := rf.length
  refine PySem.call_sum_lists (I.ok.hd hc) (PySem.IsL.isList gl) (by rw [hlen]; exact Paired.length pv) hvals ⟨n0, g0⟩ (by rw [← e0, ← lf]; exact hz) fun s' T' k ⟨nT, gT⟩ k1 k2 k3 hT => ?_
  obtain ⟨h', g', d', tk', os'⟩ := s'
  obtain rfl : g' = s.gens := k1
  obtain rfl : d' = s.drawn := k2
  obtain rfl : os' = s.os := k3
  rcases hT with rfl | hT
  · have z := k _ _ g0
    have gT : h'.get? T' = _ := gT
    have z : h'.get? T' = _ := z
    rw [gT] at z
    have e1 : its0 ++ vals.flatten = its0 := by
      have := congrArg (fun o => match o with | some (Obj.mk _ _ (.seq xs _) _) => xs.toList | _ => []) z
      simpa using this
    have e2 : vals.flatten = [] := by simpa using e1
    have e3 : ys.flatten = [] := List.eq_nil_of_length_eq_zero (by rw [lf, e2]; rfl)
    exact ⟨.ref T', H, I.kept k, rfl, q1 e3⟩
  · have nH : H T' = none := I.hok.fresh hT
    refine ⟨.ref T', _, I.laid k hT (show ObjOk X.prog X.w _ h' T' (.lst (zs ++ ys.flatten)) from ⟨by rw [List.length_append]; exact hz, _, nT, r0.append rf, gT⟩), rfl, q2 T' nH⟩
section
variable {X : Cx} {e : En} {F F' F1 F2 : Addr → Prop} {ρ ρ' ρ1 ρ2 : List Addr} {s s' s1 s2 : S} {σ σ' : L2.St} {H H' H1 H2 Hs : Hp} {W : WX} {α β τ υ : Type} {DD : Ends}
theorem flat_rep {c : Ct} : ∀ {ds : List D} {vs : List V} {r : List D}, RepL c F ρ H ds vs → flatL ds = some r → ∃ (as : List Addr) (ys : List (List V)), vs = as.map V.ref ∧ as.length = ys.length ∧ (∀ (i : Nat) a xs, as[i]? = some a → ys[i]? = some xs → H a = some (.lst xs)) ∧ RepL c F ρ H r ys.flatten
  | [], vs, r, h, q => by
    cases q
    unfold RepL at h
    subst h
    exact ⟨[], [], rfl, rfl, fun i a xs h => by simp at h, by show RepL _ _ _ _ [] []; unfold RepL; rfl⟩
  | .lst xs :: ds, vs, r, h, q => by
    unfold RepL at h
    obtain ⟨v, ws, rfl, r1, r2⟩ := h
    unfold flatL at q
    cases z : flatL ds with
    | none => rw [z] at q; cases q
    | some r' =>
      rw [z] at q
      cases q
      obtain ⟨as, ys, e1, e2, e3, e4⟩ := flat_rep r2 z
      unfold Rep at r1
      obtain ⟨a, us, rfl, ⟨_, h1⟩, r3⟩ := r1
      refine ⟨a :: as, us :: ys, by rw [e1]; rfl, by rw [List.length_cons, List.length_cons, e2], fun i b xs h2 h3 => ?_, by rw [List.flatten_cons]; exact r3.append e4⟩
      cases i with
      | zero => simp at h2 h3; subst h2 h3; exact h1
      | succ i => exact e3 i b xs (by simpa using h2) (by simpa using h3)
  | .non :: _, vs, r, h, q | .bl _ :: _, vs, r, h, q | .int _ :: _, vs, r, h, q | .str _ :: _, vs, r, h, q | .tup _ :: _, vs, r, h, q | .wl _ :: _, vs, r, h, q | .dct _ :: _, vs, r, h, q | .dcT _ :: _, vs, r, h, q | .obj _ :: _, vs, r, h, q | .fn _ :: _, vs, r, h, q | .exc _ _ _ :: _, vs, r, h, q => by cases q
/-- sum(xs, start): the start a new list -/
def mSumL (fa : M D) (fb : M (List D)) : M (List D) := M.bind fa fun d => M.bind fb fun zs => match d with
  | .lst ds => (match flatL ds with
    | some r => if zs.length + r.length ≤ SZ then M.pure (zs ++ r) else M.bad
    | none => M.bad)
  | _ => M.bad
theorem dl_sumL {a b : Expr} {fa : M D} {fb : M (List D)} {p pos : Pos} (hc : X.calm = true) (hg : Gl X "sum") (hm : X.mg "sum" = none) (ha : DB X e W a fa) (hb : DL X e W b fb)
    (he : starEach [a, b] X.env = (false, eval a X.env) :: starEach [b] X.env) (he2 : starEach [b] X.env = (false, eval b X.env) :: starEach [] X.env) (hpl : (backTo pos (starEach [b] X.env)).any (·.1) = false) :
    DL X e W (.Call (.Name "sum" p) [a, b] [] pos) (mSumL fa fb) :=
  PE.weak (pe_callB (cr_sumLs hc) hg hm (by decide +kernel) (pa_cons ha (pa_cons hb pa_nil he2) he) (by decide) (by decide) he hpl) fun σ H Q q => rdG_bind q fun v F ρ s F1 ρ1 s1 H1 d r st r1 l h => ⟨F1, ρ1, s1, r1, rdAt_bind h fun w F2 ρ2 s2 H2 zs st2 r2 rl h2 => by
    have l : Lent e.c F2 ρ2 H2 d v := Lent.stp r1 st2 l
    cases d with
    | lst ds =>
      dsimp only at h2
      cases z : flatL ds with
      | none => rw [z] at h2; exact (show False from h2).elim
      | some rr =>
        rw [z] at h2
        dsimp only at h2
        by_cases hz : zs.length + rr.length ≤ SZ
        case neg => rw [if_neg hz] at h2; exact (show False from h2).elim
        rw [if_pos hz] at h2
        obtain ⟨pl, vl, rfl, _, hl, rv⟩ := l
        obtain ⟨as, ys, e1, e2, e3, e4⟩ := flat_rep rv z
        obtain ⟨t, vt, rfl, t0, t1, t2, t3, t4, t5, t6⟩ := rl
        have hrr := e4.length
        refine ⟨pl, t, as, ys, vt, rfl, by rw [← e1]; exact hl, e2, e3, t5, by rw [t6.length, hrr, ← SZ_eq]; exact hz, fun hn => ?_, fun p hp => ?_⟩
        · have e5 : rr = [] := List.eq_nil_of_length_eq_zero (by rw [← hrr, hn]; rfl)
          rw [e5, List.append_nil] at h2
          exact rdAt_pure (R := RL) h2 r2 ⟨t, vt, rfl, Classical.byContradiction fun q => st.dom t q t0, t1, t2, t3, t4, t5, t6⟩
        · obtain ⟨r', st', n1, n2, n3, n4⟩ := r2.laidN hp (.lst (vt ++ ys.flatten))
          exact h2 (.ref p) _ ρ2 _ st' r' ⟨p, _, rfl, Classical.byContradiction fun q => (st.trans st2).dom p q (.of hp), n1, n2, n3, n4, upd_same, RepL.stp r2 st' (t6.append e4)⟩
    | _ => exact (show False from h2).elim⟩
end
end Ls
namespace Ls
open PySem PySem.Spec L2
section
variable {X : Cx} {e : En} {F F' F1 F2 : Addr → Prop} {ρ ρ' ρ1 ρ2 : List Addr} {s s' s1 s2 : S} {σ σ' : L2.St} {H H' H1 H2 Hs : Hp} {W : WX} {α β τ υ : Type} {DD : Ends}
/-! ### repr -/
def reprL : List D → Option D
  | [.bl b] => some (.str (if b then "True" else "False"))
  | [.non] => some (.str "None")
  | _ => none
theorem cr_repr : CallR X (.builtin "repr") (fun xs H Q => (∃ b, xs = [.bl b] ∧ Q (.str (if b then "True" else "False")) H) ∨ (xs = [.non] ∧ Q (.str "None") H)) := by
  intro pins s σ H xs us Q I r h
  rcases h with ⟨b, rfl, q⟩ | ⟨rfl, q⟩
  · cases r with
    | cons r1 r =>
      cases r
      cases r1
      exact PySem.P.repr_of_bool ⟨.str _, H, I.tok _, ⟨_, rfl⟩, q⟩
  · cases r with
    | cons r1 r =>
      cases r
      cases r1
      exact PySem.P.repr_of_none ⟨.str _, H, I.tok _, ⟨_, rfl⟩, q⟩
theorem c_repr {c : Ct} : CallP c (fun xs H Q => (∃ b, xs = [.bl b] ∧ Q (.str (if b then "True" else "False")) H) ∨ (xs = [.non] ∧ Q (.str "None") H)) reprL := by
  intro e F ρ s σ Hs H W ds d vs Q ec r l hg h
  subst ec
  unfold reprL at hg
  split at hg
  · cases hg
    obtain ⟨v, rfl, l1⟩ := lentA1 l
    rename_i b
    have l1 : Rep e.c F ρ H (.bl b) v := l1
    unfold Rep at l1
    subst l1
    exact .inl ⟨b, rfl, rdAt_pure h r (by unfold RD Rep; rfl)⟩
  · cases hg
    obtain ⟨v, rfl, l1⟩ := lentA1 l
    have l1 : Rep e.c F ρ H .non v := l1
    unfold Rep at l1
    subst l1
    exact .inr ⟨rfl, rdAt_pure h r (by unfold RD Rep; rfl)⟩
  · cases hg
/-! ### the shared dict is made -/
/-- a new shared object -/
theorem Rel.newOb (r : Rel e F ρ s σ H) {p : Addr} {kvs : List (Key × D)} {es : List (Key × V)} (hp : H p = none) (rk : RepK e.c F ρ H kvs es) :
    Rel e F (ρ ++ [p]) { s with st := s.st ++ [.dct kvs] } σ (upd H p (.dK es)) ∧ Stp F F ρ (ρ ++ [p]) s { s with st := s.st ++ [.dct kvs] } σ H (upd H p (.dK es)) := by
  have sm : ∀ a u, H a = some u → upd H p (.dK es) a = some u := fun a u h => by rw [upd_ne (ne_of_none h hp)]; exact h
  have k : Kp F F ρ (ρ ++ [p]) H (upd H p (.dK es)) := ⟨fun _ h => h, ⟨[p], rfl⟩, fun a u _ h => sm a u h⟩
  have nR : p ∉ ρ := fun z => by obtain ⟨o, ho, _⟩ := r.inRho z; rw [hp] at ho; cases ho
  have nF : ¬ F p := fun z => by obtain ⟨o, ho, _⟩ := r.trk p z; rw [hp] at ho; cases ho
  refine ⟨⟨r.len, fun i x h => Slot.kp (e := e) k (r.slot i x h) fun b u _ q => sm b u q, r.dist, fun b hb => ?_, by show (ρ ++ [p]).length = (s.st ++ [Ob.dct kvs]).length; rw [List.length_append, List.length_append, r.rlen]; rfl, fun n ob a h1 h2 => ?_, ?_, fun a ha => ?_, r.fF, r.mono, fun a ha => ?_, ?_, fun a u h n m => sm a u (r.frm a u h n m), r.tab.ext sm⟩,
    ⟨fun _ h => h, fun a h => .inl h, fun _ h => h, ⟨[p], rfl, fun a ha => by rw [List.mem_singleton.mp ha]; exact .of hp⟩, fun a u h _ _ => sm a u h, fun a h => ?_⟩⟩
  · obtain ⟨h1, h2, h3⟩ := r.ownF b hb
    refine ⟨h1, fun z => ?_, h3⟩
    rcases List.mem_append.mp z with z | z
    · exact h2 z
    · obtain ⟨u, hu, _⟩ := r.inOwn hb
      rw [List.mem_singleton.mp z, hp] at hu; cases hu
  · have h1 : (s.st ++ [Ob.dct kvs])[n]? = some ob := h1
    by_cases hn : n < s.st.length
    · rw [List.getElem?_append_left hn] at h1
      rw [List.getElem?_append_left (by rw [r.rlen]; exact hn)] at h2
      exact Ob.kp k (r.store n ob a h1 h2) fun u q => sm a u q
    · have hn2 : n = s.st.length := by
        have := (List.getElem?_eq_some_iff.mp h1).1
        rw [List.length_append] at this
        simp at this
        omega
      subst hn2
      rw [List.getElem?_append_right (Nat.le_refl _), Nat.sub_self] at h1
      rw [← r.rlen, List.getElem?_append_right (Nat.le_refl _), Nat.sub_self] at h2
      cases h1; cases h2
      exact ⟨es, upd_same, RepK.kp k _ _ rk⟩
  · rw [List.nodup_append]
    exact ⟨r.nodup, by simp, fun a ha b hb => by rw [List.mem_singleton.mp hb]; exact fun z => nR (by rw [← z]; exact ha)⟩
  · rcases List.mem_append.mp ha with ha | ha
    · exact r.sep a ha
    · rw [List.mem_singleton.mp ha]; exact nF
  · obtain ⟨u, hu, m⟩ := r.trk a ha
    exact ⟨u, sm _ _ hu, m⟩
  · obtain ⟨t, ht, hv⟩ := r.rho
    refine ⟨t ++ [p], by rw [ht, List.append_assoc], fun a ha => ?_⟩
    rcases List.mem_append.mp ha with ha | ha
    · exact hv a ha
    · rw [List.mem_singleton.mp ha]; exact r.fresh0 (.of hp)
  · obtain ⟨u, q, m⟩ := Fr.not h
    exact fun z => z.no (sm a u q) m
/-- {'k1': e1, 'k2': e2, 'k3': e3}, shared from now on -/
def mDisp3 (k1 k2 k3 : Str) (f1 f2 f3 : M D) : M D := M.bind f1 fun a => M.bind f2 fun b => M.bind f3 fun c => fun s => .ok (.obj s.st.length) { s with st := s.st ++ [.dct [(.inr k1, a), (.inr k2, b), (.inr k3, c)]] }
theorem de_disp3 {k1 k2 k3 : Str} {j1 j2 j3 : Nat} {p1 p2 p3 pos : Pos} {a b c : Expr} {f1 f2 f3 : M D} (h12 : k1 ≠ k2) (h13 : k1 ≠ k3) (h23 : k2 ≠ k3) (h1 : DE X e W a f1) (h2 : DE X e W b f2) (h3 : DE X e W c f3) :
    DE X e W (.Dict [some (.Constant (.str k1) j1 p1), some (.Constant (.str k2) j2 p2), some (.Constant (.str k3) j3 p3)] [a, b, c] pos) (mDisp3 k1 k2 k3 f1 f2 f3) := by
  refine PE.weak (pe_disp (pps_cons pe_str h1 (pps_cons pe_str h2 (pps_cons pe_str h3 pps_nil))) rfl rfl (by intro z; cases z) (Nat.le_of_ble_eq_true rfl)) fun σ H Q ⟨F, ρ, s, r, q⟩ => ?_
  intro p hp
  obtain ⟨r0, st0, n1, n2, n3, n4⟩ := r.laidN hp (.dK [])
  unfold rdAt mDisp3 M.bind Res.bind at q
  show rdG e W RD f1 σ (upd H p (.dK [])) _
  refine ⟨F, ρ, s, r0, ?_⟩
  unfold rdAt
  cases z1 : f1 s with
  | bad => rw [z1] at q; exact q
  | exc x s' => rw [z1] at q; exact fun cls dd F' ρ' H' st => q cls dd F' ρ' H' (st0.trans st)
  | ok da s1 =>
    rw [z1] at q
    intro va F1 ρ1 H1 st1 r1 ra
    show rdG e W RD f2 σ H1 _
    refine ⟨F1, ρ1, s1, r1, ?_⟩
    unfold rdAt
    dsimp only at q
    cases z2 : f2 s1 with
    | bad => rw [z2] at q; exact q
    | exc x s' => rw [z2] at q; exact fun cls dd F' ρ' H' st => q cls dd F' ρ' H' (st0.trans (st1.trans st))
    | ok db s2 =>
      rw [z2] at q
      intro vb F2 ρ2 H2 st2 r2 rb
      show rdG e W RD f3 σ H2 _
      refine ⟨F2, ρ2, s2, r2, ?_⟩
      unfold rdAt
      dsimp only at q
      cases z3 : f3 s2 with
      | bad => rw [z3] at q; exact q
      | exc x s' => rw [z3] at q; exact fun cls dd F' ρ' H' st => q cls dd F' ρ' H' (st0.trans (st1.trans (st2.trans st)))
      | ok dc s3 =>
        rw [z3] at q
        intro vc F3 ρ3 H3 st3 r3 rc
        dsimp only at q
        have st13 := st1.trans (st2.trans st3)
        have hp3 : H3 p = some (.dK []) := st13.keep p _ upd_same n2 (by nofun)
        have hρ3 : p ∉ ρ3 := (rd_stp st13 n2 (.of upd_same)).2
        have hF3 : ¬ F3 p := fun z => by
          rcases st13.new p z with z | z | z
          · exact n1 z
          · exact z.no upd_same
          · exact n4 z
        have no3 : ¬ owned s3.env σ p := fun z => n4 (st13.own p z)
        -- the heap with p taken away: p is nobody's
        let H4 : Hp := fun b => if b = p then none else H3 b
        have e4 : ∀ b, b ≠ p → H4 b = H3 b := fun b hb => if_neg hb
        have k4 : Kp F3 F3 ρ3 ρ3 H3 H4 := ⟨fun _ h => h, ⟨[], by simp⟩, fun a u f hu => by rw [e4 a (fun z => hF3 (by rw [← z]; exact f))]; exact hu⟩
        have r4 : Rel e F3 ρ3 s3 σ H4 := by
          refine ⟨r3.len, fun i x hx => Slot.kp (e := e) k4 (r3.slot i x hx) fun b u hb hu => ?_, r3.dist, r3.ownF, r3.rlen, fun n ob a h1 h2 => Ob.kp k4 (r3.store n ob a h1 h2) fun u hu => ?_, r3.nodup, r3.sep, r3.fF, r3.mono, fun a ha => ?_, r3.rho, fun a u hu n m => ?_, tabs_but r3.tab hp3 (by nofun) (fun _ _ => nofun) fun b u hb hu => by rw [e4 b hb]; exact hu⟩
          · rw [e4 b (fun z => no3 (by rw [← z]; exact ⟨i, x, hx, hb⟩))]; exact hu
          · rw [e4 a (fun z => hρ3 (by rw [← z]; exact List.mem_of_getElem? h2))]; exact hu
          · obtain ⟨u, hu, m⟩ := r3.trk a ha
            exact ⟨u, by rw [e4 a (fun z => hF3 (by rw [← z]; exact ha))]; exact hu, m⟩
          · rw [e4 a (fun z => by rw [z] at hu; exact n3.no hu m)]
            exact r3.frm a u hu n m
        have hp4 : H4 p = none := if_pos rfl
        have ra3 : Rep e.c F3 ρ3 H4 da va := Rep.kp k4 _ _ (Rep.stp r1 (st2.trans st3) ra)
        have rb3 : Rep e.c F3 ρ3 H4 db vb := Rep.kp k4 _ _ (Rep.stp r2 st3 rb)
        have rc3 : Rep e.c F3 ρ3 H4 dc vc := Rep.kp k4 _ _ rc
        obtain ⟨r5, st5⟩ := r4.newOb (kvs := [(.inr k1, da), (.inr k2, db), (.inr k3, dc)]) (es := [(.inr k1, va), (.inr k2, vb), (.inr k3, vc)]) hp4
          (by unfold RepK; exact ⟨va, _, rfl, ra3, by unfold RepK; exact ⟨vb, _, rfl, rb3, by unfold RepK; exact ⟨vc, _, rfl, rc3, by unfold RepK; rfl⟩⟩⟩)
        have eH : upd H4 p (.dK [(.inr k1, va), (.inr k2, vb), (.inr k3, vc)]) = upd H3 p (.dK [(.inr k1, va), (.inr k2, vb), (.inr k3, vc)]) := by
          funext b
          unfold upd
          by_cases z : b = p
          · rw [if_pos z, if_pos z]
          · rw [if_neg z, if_neg z]; exact e4 b z
        rw [eH] at r5
        refine ⟨hp3, [(.inr k1, va), (.inr k2, vb), (.inr k3, vc)], rfl, Nat.le_of_ble_eq_true rfl, ?_⟩
        have em : mergeK [] [(Sum.inr k1, va), (Sum.inr k2, vb), (Sum.inr k3, vc)] = [(Sum.inr k1, va), (Sum.inr k2, vb), (Sum.inr k3, vc)] := by
          simp [mergeK, putK, h12, h13, h23, Ne.symm h12, Ne.symm h13, Ne.symm h23]
        rw [em]
        have st : Stp F F3 ρ ρ3 s s3 σ H H3 := st0.trans st13
        obtain ⟨t, ht, hv⟩ := st.rho
        refine q (.ref p) F3 (ρ3 ++ [p]) _ ⟨st.mono, st.new, st.own, ⟨t ++ [p], by rw [ht, List.append_assoc], fun a ha => ?_⟩, fun a o h n m => ?_, fun a h => ?_⟩ r5 ?_
        · rcases List.mem_append.mp ha with ha | ha
          · exact hv a ha
          · rw [List.mem_singleton.mp ha]; exact .of hp
        · rw [upd_ne (ne_of_none h hp)]; exact st.keep a o h n m
        · by_cases z : a = p
          · rw [z]; exact fun y => y.no upd_same
          · intro y
            obtain ⟨o, w, m⟩ := Fr.not (st.dom a h)
            exact y.no (by rw [upd_ne z]; exact w) m
        · unfold RD Rep
          exact ⟨p, rfl, by rw [← r3.rlen]; simp⟩
end
end Ls
/-! the rules with what the text shows by itself left out -/
namespace Ls
open PySem PySem.Spec L2
/-- the built-in names that the module leaves alone -/
structure Bt (c : Ct) : Prop where
  len : c.mg "len" = none
  isi : c.mg "isinstance" = none
  range : c.mg "range" = none
  tuple : c.mg "tuple" = none
  list : c.mg "list" = none
  int : c.mg "int" = none
  min : c.mg "min" = none
  max : c.mg "max" = none
  sum : c.mg "sum" = none
  bool : c.mg "bool" = none
  str : c.mg "str" = none
  dict : c.mg "dict" = none
  repr : c.mg "repr" = none
  all : c.mg "all" = none
  zip : c.mg "zip" = none
  enum : c.mg "enumerate" = none
  sorted : c.mg "sorted" = none
/-- a def of the module that does what g does -/
structure Cal (P : Program) (w : World) (c : Ct) (base : Heap) (k : Nat) (x : Str) (n : Nat) (g : Fn) : Prop where
  ex : ∃ (fa : Addr) (fd : FuncData) (ps : List Str), ps.length = n ∧ FnOk P w c.K c.mg base (L2.CX P w) k fa fd ps (spD c n g) ∧ c.mg x = some (.ref fa) ∧ PySem.W.keepIn c.K (.ref fa) = true ∧ Binds c.K fd ps []
/-- a constant of the module -/
structure Con (c : Ct) (x : Str) (d : D) : Prop where
  ex : ∃ (u : Value) (v : V), c.mg x = some u ∧ RelV v u ∧ ∀ F ρ H, Rep c F ρ H d v
theorem con_int {c : Ct} {x : Str} {i : Int} {t : Tok} (h : c.mg x = some (.int i t)) : Con c x (.int i) := ⟨_, .int i, h, ⟨t, rfl⟩, fun _ _ _ => rep_int⟩
/-- an error class of the module -/
structure Exn (c : Ct) (x : Str) : Prop where
  ex : ∃ C : Addr, PySem.W.excIn c.K C [.type "ValueError", .type "Exception", .type "BaseException", .type "object"] "ValueError.__new__" = true ∧ c.mg x = some (.ref C) ∧ PySem.W.keepIn c.K (.ref C) = true ∧
    PySem.W.subIn c.K (.ref C) (.type "BaseException") = some true ∧ PySem.W.typeIn c.K (.ref C) = some (.type "type")
/-- g says less -/
def Below (g g' : Fn) : Prop := ∀ ds st, g ds st ≠ .bad → g' ds st = g ds st
theorem spD_below {c : Ct} {n : Nat} {g g' : Fn} (b : Below g g') {vs : List V} {H : Hp} {Q : VK} {E : XK} (h : spD c n g vs H Q E) : spD c n g' vs H Q E := by
  obtain ⟨hl, F, ρ, ds, st, r, rl, h⟩ := h
  refine ⟨hl, F, ρ, ds, st, r, rl, ?_⟩
  have hn : g ds st ≠ .bad := fun z => by rw [z] at h; exact h
  rw [b ds st hn]
  exact h
section
variable {X : Cx} {e : En} {W : WX}
theorem Lk.hc (L : Lk X e W) : e.c.K = X.K := by rw [L.c]
theorem vB (i : Nat) {x : Str} {pos : Pos} (hN : X.N[i]? = some x := by rfl) (hv : Vis X.env.scope x := by first | exact Or.inl rfl | exact Or.inr (Or.inl rfl) | exact Or.inr (Or.inr rfl)) (hd : (x == ("__debug__" : Str)) = false := by decide)
    (hcd : (x == ("__classdict__" : Str)) = false := by decide) : DB X e W (.Name x pos) (mVarB i) := db_var i hN hv hd hcd
theorem vE (i : Nat) {x : Str} {pos : Pos} (hN : X.N[i]? = some x := by rfl) (hv : Vis X.env.scope x := by first | exact Or.inl rfl | exact Or.inr (Or.inl rfl) | exact Or.inr (Or.inr rfl)) (hd : (x == ("__debug__" : Str)) = false := by decide)
    (hcd : (x == ("__classdict__" : Str)) = false := by decide) : DE X e W (.Name x pos) (mVar i) := de_var i hN hv hd hcd
section ops
variable {a b : Expr} {fa fb : M D} {pos : Pos}
theorem eAdd (L : Lk X e W) (ha : DB X e W a fa) (hb : DB X e W b fb) : DE X e W (.BinOp a .Add b pos) (mO2 addD fa fb) := by
  have P := p_add (c := e.c); rw [L.hc] at P
  exact PE.weak (pe_op o_add ha hb) fun σ H Q h => by have q := rd_op2 (p_add (c := e.c)) h; rw [L.hc] at q; exact q
theorem eSub (ha : DB X e W a fa) (hb : DB X e W b fb) : DE X e W (.BinOp a .Sub b pos) (mO2 subD fa fb) := de_op op_sub p_sub ha hb
theorem eMul (L : Lk X e W) (ha : DB X e W a fa) (hb : DB X e W b fb) : DE X e W (.BinOp a .Mult b pos) (mO2 mulD fa fb) :=
  PE.weak (pe_op o_mul ha hb) fun σ H Q h => by have q := rd_op2 (p_mul (c := e.c)) h; rw [L.hc] at q; exact q
theorem eDiv (ha : DB X e W a fa) (hb : DB X e W b fb) : DE X e W (.BinOp a .FloorDiv b pos) (mO2 fdivD fa fb) := de_op op_fdivW p_fdiv ha hb
theorem eMod (ha : DB X e W a fa) (hb : DB X e W b fb) : DE X e W (.BinOp a .Mod b pos) (mO2 modD fa fb) := de_op op_mod p_mod ha hb
theorem ePow (ha : DB X e W a fa) (hb : DB X e W b fb) : DE X e W (.BinOp a .Pow b pos) (mO2 powD fa fb) := de_op op_pow p_pow ha hb
theorem eLt (ha : DB X e W a fa) (hb : DB X e W b fb) (hm : behindInMarks .Lt b = false := by exact nomark _) : DE X e W (.Compare a [.Lt] [b] pos) (mO2 ltD fa fb) := de_cmp op_lt p_lt ha hb hm
theorem eLe (ha : DB X e W a fa) (hb : DB X e W b fb) (hm : behindInMarks .LtE b = false := by exact nomark _) : DE X e W (.Compare a [.LtE] [b] pos) (mO2 leD fa fb) := de_cmp op_le p_le ha hb hm
theorem eGt (ha : DB X e W a fa) (hb : DB X e W b fb) (hm : behindInMarks .Gt b = false := by exact nomark _) : DE X e W (.Compare a [.Gt] [b] pos) (mO2 gtD fa fb) := de_cmp op_gt p_gt ha hb hm
theorem eGe (ha : DB X e W a fa) (hb : DB X e W b fb) (hm : behindInMarks .GtE b = false := by exact nomark _) : DE X e W (.Compare a [.GtE] [b] pos) (mO2 geD fa fb) := de_cmp op_ge p_ge ha hb hm
theorem eEq (L : Lk X e W) (ha : DB X e W a fa) (hb : DB X e W b fb) (hm : behindInMarks .Eq b = false := by exact nomark _) : DE X e W (.Compare a [.Eq] [b] pos) (mO2 eqD fa fb) :=
  PE.weak (pe_cmpR (op_eqD (by have := L.hu; omega)) ha hb hm) fun σ H Q h => by have q := rd_op2 (p_eq (c := e.c)) h; rw [L.hc] at q; exact q
theorem eNe (L : Lk X e W) (ha : DB X e W a fa) (hb : DB X e W b fb) (hm : behindInMarks .NotEq b = false := by exact nomark _) : DE X e W (.Compare a [.NotEq] [b] pos) (mO2 neD fa fb) :=
  PE.weak (pe_cmpR (op_neD (by have := L.hu; omega)) ha hb hm) fun σ H Q h => by have q := rd_op2 (p_ne (c := e.c)) h; rw [L.hc] at q; exact q
theorem eIn (L : Lk X e W) (ha : DB X e W a fa) (hb : DB X e W b fb) (hm : behindInMarks .In b = false := by rfl) : DE X e W (.Compare a [.In] [b] pos) (mO2 inD fa fb) :=
  PE.weak (pe_cmpR (op_inX L.hu) ha hb hm) fun σ H Q h => by have q := rd_op2 (p_in (c := e.c)) h; rw [L.hc] at q; exact q
theorem eNotIn (L : Lk X e W) (ha : DB X e W a fa) (hb : DB X e W b fb) (hm : behindInMarks .NotIn b = false := by rfl) : DE X e W (.Compare a [.NotIn] [b] pos) (mO2 notInD fa fb) :=
  PE.weak (pe_cmpR (op_notInX L.hu) ha hb hm) fun σ H Q h => by have q := rd_op2 (p_notIn (c := e.c)) h; rw [L.hc] at q; exact q
theorem eIs (ha : DB X e W a fa) (hb : DB X e W b fb) (hm : behindInMarks .Is b = false := by exact nomark _) : DE X e W (.Compare a [.Is] [b] pos) (mO2 isD fa fb) := de_cmp op_isN p_is ha hb hm
theorem eIsNot (ha : DB X e W a fa) (hb : DB X e W b fb) (hm : behindInMarks .IsNot b = false := by exact nomark _) : DE X e W (.Compare a [.IsNot] [b] pos) (mO2 isNotD fa fb) := de_cmp op_notN p_isNot ha hb hm
/-- a comparison as a test -/
theorem dt_of {op : CmpOp} {r : R2} {f : M D} (ho : OpR X (compareOp op) r) (ha : DB X e W a fa) (hb : DB X e W b fb) (hm : behindInMarks op b = false) (k : ∀ σ H Q, rdG e W RD f σ H Q → tOp r (rdG e W RB fa) (rdG e W RB fb) σ H Q) : DT X e W (.Compare a [op] [b] pos) (M.bind f asB) := by
  refine PT.weak (pt_cmpR ho ha hb hm) fun σ H Q h => ?_
  have h2 : rdG e W RD f σ H (fun x H' => ∃ k, x = .bl k ∧ Q k H') := rdG_bind h fun v F ρ s F1 ρ1 s1 H1 x r0 st r1 l1 h1 => by
    obtain ⟨b, _, e1, q⟩ := rdAt_asB h1 r1 (Rep.lent r1 l1)
    exact ⟨b, e1, q⟩
  exact k _ _ _ h2
theorem tLt (ha : DB X e W a fa) (hb : DB X e W b fb) (hm : behindInMarks .Lt b = false := by exact nomark _) : DT X e W (.Compare a [.Lt] [b] pos) (M.bind (mO2 ltD fa fb) asB) := dt_cmp op_lt p_lt ha hb hm
theorem tLe (ha : DB X e W a fa) (hb : DB X e W b fb) (hm : behindInMarks .LtE b = false := by exact nomark _) : DT X e W (.Compare a [.LtE] [b] pos) (M.bind (mO2 leD fa fb) asB) := dt_cmp op_le p_le ha hb hm
theorem tGt (ha : DB X e W a fa) (hb : DB X e W b fb) (hm : behindInMarks .Gt b = false := by exact nomark _) : DT X e W (.Compare a [.Gt] [b] pos) (M.bind (mO2 gtD fa fb) asB) := dt_cmp op_gt p_gt ha hb hm
theorem tGe (ha : DB X e W a fa) (hb : DB X e W b fb) (hm : behindInMarks .GtE b = false := by exact nomark _) : DT X e W (.Compare a [.GtE] [b] pos) (M.bind (mO2 geD fa fb) asB) := dt_cmp op_ge p_ge ha hb hm
theorem tEq (L : Lk X e W) (ha : DB X e W a fa) (hb : DB X e W b fb) (hm : behindInMarks .Eq b = false := by exact nomark _) : DT X e W (.Compare a [.Eq] [b] pos) (M.bind (mO2 eqD fa fb) asB) :=
  dt_of (op_eqD (by have := L.hu; omega)) ha hb hm fun σ H Q h => by have q := rd_op2 (p_eq (c := e.c)) h; rw [L.hc] at q; exact q
theorem tNe (L : Lk X e W) (ha : DB X e W a fa) (hb : DB X e W b fb) (hm : behindInMarks .NotEq b = false := by exact nomark _) : DT X e W (.Compare a [.NotEq] [b] pos) (M.bind (mO2 neD fa fb) asB) :=
  dt_of (op_neD (by have := L.hu; omega)) ha hb hm fun σ H Q h => by have q := rd_op2 (p_ne (c := e.c)) h; rw [L.hc] at q; exact q
theorem tIn (L : Lk X e W) (ha : DB X e W a fa) (hb : DB X e W b fb) (hm : behindInMarks .In b = false := by rfl) : DT X e W (.Compare a [.In] [b] pos) (M.bind (mO2 inD fa fb) asB) :=
  dt_of (op_inX L.hu) ha hb hm fun σ H Q h => by have q := rd_op2 (p_in (c := e.c)) h; rw [L.hc] at q; exact q
theorem tNotIn (L : Lk X e W) (ha : DB X e W a fa) (hb : DB X e W b fb) (hm : behindInMarks .NotIn b = false := by rfl) : DT X e W (.Compare a [.NotIn] [b] pos) (M.bind (mO2 notInD fa fb) asB) :=
  dt_of (op_notInX L.hu) ha hb hm fun σ H Q h => by have q := rd_op2 (p_notIn (c := e.c)) h; rw [L.hc] at q; exact q
theorem tIs (ha : DB X e W a fa) (hb : DB X e W b fb) (hm : behindInMarks .Is b = false := by exact nomark _) : DT X e W (.Compare a [.Is] [b] pos) (M.bind (mO2 isD fa fb) asB) := dt_cmp op_isN p_is ha hb hm
theorem tIsNot (ha : DB X e W a fa) (hb : DB X e W b fb) (hm : behindInMarks .IsNot b = false := by exact nomark _) : DT X e W (.Compare a [.IsNot] [b] pos) (M.bind (mO2 isNotD fa fb) asB) := dt_cmp op_notN p_isNot ha hb hm
theorem tLeLe {c : Expr} {fc : M D} (ha : DB X e W a fa) (hb : DB X e W b fb) (hc : DB X e W c fc) (hm : lastMarks [.LtE, .LtE] [b, c] = false := by with_unfolding_all rfl) : DT X e W (.Compare a [.LtE, .LtE] [b, c] pos) (M.bind (mChain leD leD fa fb fc) asB) := dt_chain op_le op_le p_le p_le ha hb hc hm
theorem eLeLe {c : Expr} {fc : M D} (ha : DB X e W a fa) (hb : DB X e W b fb) (hc : DB X e W c fc) (hm : lastMarks [.LtE, .LtE] [b, c] = false := by with_unfolding_all rfl) : DE X e W (.Compare a [.LtE, .LtE] [b, c] pos) (mChain leD leD fa fb fc) := de_chain op_le op_le p_le p_le ha hb hc hm
theorem tLeLt {c : Expr} {fc : M D} (ha : DB X e W a fa) (hb : DB X e W b fb) (hc : DB X e W c fc) (hm : lastMarks [.LtE, .Lt] [b, c] = false := by with_unfolding_all rfl) : DT X e W (.Compare a [.LtE, .Lt] [b, c] pos) (M.bind (mChain leD ltD fa fb fc) asB) := dt_chain op_le op_lt p_le p_lt ha hb hc hm
theorem tVal {x : Expr} {f : M D} (h : DB X e W x f) (he : ∀ whole, isTrue x X.env whole = (do let v ← whole; standAt x.pos; holding [v] (truthy v)) := by intro _; rfl) : DT X e W x (M.bind f asB) := dt_val h he
theorem eIx (L : Lk X e W) (ha : DB X e W a fa) (hb : DB X e W b fb) (hs : PlainIx b := by exact (fun _ _ => rfl)) : DE X e W (.Subscript a b pos) (mO2 ixD fa fb) := de_ix ha hb hs L.hc
theorem eGet (L : Lk X e W) (ha : DB X e W a fa) (hb : DB X e W b fb) (hs : NoSl b := by exact (fun _ _ => rfl)) : DE X e W (.Subscript a b pos) (M.bind fa fun x => M.bind fb fun y => getD x y) := de_dget L ha hb hs
theorem eSl (L : Lk X e W) {lo hi : Option Expr} {fl fh : M (Option Int)} {p2 : Pos} (ha : DB X e W a fa) (hl : PO X lo (rdG e W RO fl)) (hh : PO X hi (rdG e W RO fh)) : DE X e W (.Subscript a (.Slice lo hi none p2) pos) (mSl fa fl fh) := de_sl ha hl hh L.hc
end ops
/-! arguments, calls -/
section
variable {a : Expr} {as : List Expr} {f : M D} {g : M (List D)} {p pos : Pos}
theorem aC (ha : DE X e W a f) (hb : DA X e W as g) (hs : starEach (a :: as) X.env = (false, eval a X.env) :: starEach as X.env := by rfl) : DA X e W (a :: as) (mCons f g) := da_cons ha hb hs
theorem bC (ha : DB X e W a f) (hb : DAB X e W as g) (hs : starEach (a :: as) X.env = (false, eval a X.env) :: starEach as X.env := by rfl) : DAB X e W (a :: as) (mCons f g) := dab_cons ha hb hs
variable {c : Ct}
theorem eLen (L : Lk X e W) (B : Bt e.c) (ha : DAB X e W (a :: as) g) (hg : Gl X "len" := by rfl) (he : starEach (a :: as) X.env = (false, eval a X.env) :: starEach as X.env := by rfl) (hpl : (backTo pos (starEach as X.env)).any (·.1) = false := by rfl) : DE X e W (.Call (.Name "len" p) (a :: as) [] pos) (mB lenL g) :=
  PE.weak (pe_callB call_len_seq hg (by have := B.len; rw [L.c] at this; exact this) PySem.boot_len ha (by decide) (by decide) he hpl) fun σ H Q h => by have q := rd_call (c_len (c := e.c)) h; rw [L.hc] at q; exact q
theorem eTuple (L : Lk X e W) (B : Bt e.c) (ha : DAB X e W (a :: as) g) (hg : Gl X "tuple" := by rfl) (he : starEach (a :: as) X.env = (false, eval a X.env) :: starEach as X.env := by rfl) (hpl : (backTo pos (starEach as X.env)).any (·.1) = false := by rfl) : DE X e W (.Call (.Name "tuple" p) (a :: as) [] pos) (mB tupL g) :=
  PE.weak (pe_callTy call_tuple_of hg (by have := B.tuple; rw [L.c] at this; exact this) (by decide +kernel) ha (by decide) (by decide) he hpl) fun σ H Q h => by have q := rd_call (c_tup (c := e.c)) h; rw [L.hc] at q; exact q
theorem eInt (L : Lk X e W) (B : Bt e.c) (ha : DAB X e W (a :: as) g) (hg : Gl X "int" := by rfl) (he : starEach (a :: as) X.env = (false, eval a X.env) :: starEach as X.env := by rfl) (hpl : (backTo pos (starEach as X.env)).any (·.1) = false := by rfl) : DE X e W (.Call (.Name "int" p) (a :: as) [] pos) (mB int1 g) :=
  PE.weak (pe_callTy call_int1 hg (by have := B.int; rw [L.c] at this; exact this) (by decide +kernel) ha (by decide) (by decide) he hpl) fun σ H Q h => rd_call (c_int1 (c := e.c)) h
theorem eMin2 (L : Lk X e W) (B : Bt e.c) (ha : DAB X e W (a :: as) g) (hg : Gl X "min" := by rfl) (he : starEach (a :: as) X.env = (false, eval a X.env) :: starEach as X.env := by rfl) (hpl : (backTo pos (starEach as X.env)).any (·.1) = false := by rfl) : DE X e W (.Call (.Name "min" p) (a :: as) [] pos) (mB min2 g) :=
  PE.weak (pe_callB (call_min2 L.calm) hg (by have := B.min; rw [L.c] at this; exact this) (by decide +kernel) ha (by decide) (by decide) he hpl) fun σ H Q h => rd_call (c_min2 (c := e.c)) h
theorem eMax2 (L : Lk X e W) (B : Bt e.c) (ha : DAB X e W (a :: as) g) (hg : Gl X "max" := by rfl) (he : starEach (a :: as) X.env = (false, eval a X.env) :: starEach as X.env := by rfl) (hpl : (backTo pos (starEach as X.env)).any (·.1) = false := by rfl) : DE X e W (.Call (.Name "max" p) (a :: as) [] pos) (mB max2 g) :=
  PE.weak (pe_callB (call_max2 L.calm) hg (by have := B.max; rw [L.c] at this; exact this) (by decide +kernel) ha (by decide) (by decide) he hpl) fun σ H Q h => rd_call (c_max2 (c := e.c)) h
theorem eRepr (L : Lk X e W) (B : Bt e.c) (ha : DAB X e W (a :: as) g) (hg : Gl X "repr" := by rfl) (he : starEach (a :: as) X.env = (false, eval a X.env) :: starEach as X.env := by rfl) (hpl : (backTo pos (starEach as X.env)).any (·.1) = false := by rfl) : DE X e W (.Call (.Name "repr" p) (a :: as) [] pos) (mB reprL g) :=
  PE.weak (pe_callB cr_repr hg (by have := B.repr; rw [L.c] at this; exact this) (by decide +kernel) ha (by decide) (by decide) he hpl) fun σ H Q h => rd_call (c_repr (c := e.c)) h
theorem lList (L : Lk X e W) (B : Bt e.c) (ha : DAB X e W [a] g) (hg : Gl X "list" := by rfl) (he : starEach [a] X.env = (false, eval a X.env) :: starEach [] X.env := by rfl) (hpl : (backTo pos (starEach [] X.env)).any (·.1) = false := by rfl) : DL X e W (.Call (.Name "list" p) [a] [] pos) (M.bind g fun ds => ofO (lstL ds)) :=
  dl_list hg (by have := B.list; rw [L.c] at this; exact this) ha L.hc he hpl
theorem lSum {b : Expr} {fb : M (List D)} (L : Lk X e W) (B : Bt e.c) (ha : DB X e W a f) (hb : DL X e W b fb) (hg : Gl X "sum" := by rfl) (he : starEach [a, b] X.env = (false, eval a X.env) :: starEach [b] X.env := by rfl) (he2 : starEach [b] X.env = (false, eval b X.env) :: starEach [] X.env := by rfl) (hpl : (backTo pos (starEach [b] X.env)).any (·.1) = false := by rfl) :
    DL X e W (.Call (.Name "sum" p) [a, b] [] pos) (mSumL f fb) := dl_sumL L.calm hg (by have := B.sum; rw [L.c] at this; exact this) ha hb he he2 hpl
/-- isinstance(a, T), T a built-in class -/
theorem eIsi {T : Str} {t : String} {p2 : Pos} (L : Lk X e W) (B : Bt e.c) (h : DB X e W a f) (hmT : e.c.mg T = none) (hT : t = "int" ∨ t = "bool" ∨ t = "tuple" ∨ t = "list" ∨ t = "str" ∨ t = "dict") (hvT : bootBuiltins T = some (.type t) := by decide +kernel) (hg : Gl X "isinstance" := by rfl) (hgT : Gl X T := by rfl)
    (hn : T ≠ "__name__" := by decide) (hd : (T == ("__debug__" : Str)) = false := by decide) (he : starEach [a, .Name T p2] X.env = (false, eval a X.env) :: starEach [.Name T p2] X.env := by rfl) (he2 : starEach [.Name T p2] X.env = (false, eval (.Name T p2) X.env) :: starEach [] X.env := by rfl) (hpl : (backTo pos (starEach [.Name T p2] X.env)).any (·.1) = false := by rfl) :
    DE X e W (.Call (.Name "isinstance" p) [a, .Name T p2] [] pos) (M.bind f fun d => ofO (isi t d)) :=
  de_isi h L.hc hg (by have := B.isi; rw [L.c] at this; exact this) hgT (by rw [L.c] at hmT; exact hmT) hvT hT hn hd he he2 hpl
/-- a call of a def of the module -/
theorem eCall {k n : Nat} {x : Str} {F : Fn} (L : Lk X e W) (C : Cal X.prog X.w e.c X.base k x n F) (hr : Room k X.A) (ha : DA X e W (a :: as) g) (hlen : ∀ s ds s', g s = .ok ds s' → ds.length = (a :: as).length) (hl : (a :: as).length = n := by rfl) (hg : Gl X x := by rfl) (hdb : (x == ("__debug__" : Str)) = false := by decide)
    (he : starEach (a :: as) X.env = (false, eval a X.env) :: starEach as X.env := by rfl) (hpl : (backTo pos (starEach as X.env)).any (·.1) = false := by rfl) : DE X e W (.Call (.Name x p) (a :: as) [] pos) (mCall F g) := by
  obtain ⟨fa, fd, ps, hps, Fo, hm, hk, hb⟩ := C.ex
  rw [L.c] at Fo hm hk hb
  subst hps
  exact de_call L Fo hr hg hm hk hb ha hdb hl hlen he hpl
end
theorem eGlob {x : Str} {d : D} {pos : Pos} (L : Lk X e W) (C : Con e.c x d) (hg : Gl X x := by rfl) (hd : (x == ("__debug__" : Str)) = false := by decide) : DE X e W (.Name x pos) (M.pure d) := by
  obtain ⟨u, v, hm, r, rp⟩ := C.ex
  rw [L.c] at hm
  exact de_glob hg hm r rp hd
theorem sRaise {x m : Str} {j : Nat} {p p2 p3 pos : Pos} (L : Lk X e W) (C : Exn e.c x) (hg : Gl X x := by rfl) (hdb : (x == ("__debug__" : Str)) = false := by decide) : DS X e W (.Raise (some (.Call (.Name x p) [.Constant (.str m) j p2] [] p3)) none pos) (mRaise x) := by
  obtain ⟨C, h1, h2, h3, h4, h5⟩ := C.ex
  rw [L.c] at h1 h2 h3 h4 h5
  exact ds_raise L PySem.F.excBase_ValueError h1 h2 h3 (raises_own h4 h5) hg hdb
/-! loops -/
section
variable {a b tg : Expr} {f : M D} {g : M (List D)} {p pos : Pos}
theorem iRange1 (L : Lk X e W) (B : Bt e.c) (ha : DAB X e W [a] g) (hg : Gl X "range" := by rfl) (hs : starEach [a] X.env = [(false, eval a X.env)] := by rfl) : DI X e W tg (.Call (.Name "range" p) [a] [] pos) (M.bind g fun ds => ofO (rng1 ds)) :=
  di_range1 hg (by have := B.range; rw [L.c] at this; exact this) ha hs
theorem iRange2 (L : Lk X e W) (B : Bt e.c) (ha : DAB X e W [a, b] g) (hg : Gl X "range" := by rfl) (hs : starEach [a, b] X.env = [(false, eval a X.env), (false, eval b X.env)] := by rfl) (hs2 : starEach [b] X.env = [(false, eval b X.env)] := by rfl) : DI X e W tg (.Call (.Name "range" p) [a, b] [] pos) (M.bind g fun ds => ofO (rng2 ds)) :=
  di_range2 hg (by have := B.range; rw [L.c] at this; exact this) ha hs hs2
theorem iSeq (L : Lk X e W) (h : DE X e W a f) : DI X e W tg a (M.bind f seqOf) := di_seq h L.hc
theorem gN (i : Nat) {is : List Nat} {x : Str} (hN : X.N.Nodup) (hi : X.N[i]? = some x := by rfl) (hx : Loc X.env.scope x := by first | exact Or.inl rfl | exact Or.inr rfl) (hf : X.fn x = true ∨ X.env.scope.names.lookup x = some .local := by first | exact Or.inl rfl | exact Or.inr rfl) (hm : i ∈ is := by decide) : DG X e is (.Name x pos) (tgN i) := dg_name hN hi hx hf hm
theorem gsC {is : List Nat} {xs : List Expr} {t : D → S → Option S} {u : List D → S → Option S} (h1 : DG X e is a t) (h2 : DGs X e is xs u) (hs : (assignEach (a :: xs) X.env).map (·.2) = assign a X.env :: (assignEach xs X.env).map (·.2) := by rfl) : DGs X e is (a :: xs) (tgCons t u) := dgs_cons h1 h2 hs
theorem gT (L : Lk X e W) (n : Nat) {is : List Nat} {es : List Expr} {k : Nat} {u : List D → S → Option S} (h : DGs X e is es u) (hn : (assignEach es X.env).length = n := by rfl) (hst : (assignEach es X.env).findIdx? (·.1) = none := by rfl) : DG X e is (.Tuple es k pos) (tgT n u) := dg_tup L.calm L.hc h hn hst
theorem sFor (L : Lk X e W) {is : List Nat} {body : List Stmt} {tf : D → S → Option S} {bb : SM} (hp : PassesOwn (model X.prog X.w) X.A X.env X.xe) (hi : DI X e W tg a g) (hg : DG X e is tg tf) (hb : DSs X e W body bb)
    (hs : ∀ x, foldedSetIterable a X.env x = pure x := by intro _; rfl) : DS X e W (.For tg a body [] pos) (mFor g tf bb) := ds_for hp L.calm hi hg hb hs
theorem lLc {elt : Expr} {ifs : List Expr} {scope : Scope} (own : List (Str × Nat)) {tf : D → S → Option S} {cond : M Bool} {fe : M D} (L : Lk X e W) (hN : X.N.Nodup) (hi : DI X e W tg a g) (ok : blkC X.N X.env.scope scope own = true)
    (hg : ∀ (s : Shared) (H : Hp) (C : Addr) (cl : List (Str × Addr)) (fp : List Addr), DG (X.blk s H scope (compEnvC scope cl C X.env) fp) e (own.map (·.2)) tg tf) (ht : ∀ (s : Shared) (H : Hp) (C : Addr) (cl : List (Str × Addr)) (fp : List Addr), PTs (X.blk s H scope (compEnvC scope cl C X.env) fp) ifs (rdG e wFalse RT cond))
    (he : ∀ (s : Shared) (H : Hp) (C : Addr) (cl : List (Str × Addr)) (fp : List Addr), DE (X.blk s H scope (compEnvC scope cl C X.env) fp) e wFalse elt fe) (hs : ∀ x, foldedSetIterable a X.env x = pure x := by intro _; rfl) :
    DL X e W (.ListComp elt [⟨tg, a, ifs, 0⟩] scope pos) (mLc (own.map (·.2)) g tf cond fe) := dl_lc L.calm hN hi (blkOk_by ok) hg ht he hs
end
/-! statements -/
section
variable {a : Expr} {x : Str} {pos pos' : Pos}
theorem sSet (i : Nat) {f : M Sl} (hN : X.N.Nodup) (he : DX X e W a f) (hi : X.N[i]? = some x := by rfl) (hx : Loc X.env.scope x := by first | exact Or.inl rfl | exact Or.inr rfl) (hs : swapsWith a (some (.Name x pos')) pos.line X.env = pure false := by rfl)
    (hf : X.fn x = true ∨ X.env.scope.names.lookup x = some .local := by first | exact Or.inl rfl | exact Or.inr rfl) : DS X e W (.Assign [.Name x pos'] a pos) (mSet i f) := ds_set hN hi hx he hs hf
theorem sSetD (i : Nat) {f : M D} (hN : X.N.Nodup) (he : DE X e W a f) (hi : X.N[i]? = some x := by rfl) (hx : Loc X.env.scope x := by first | exact Or.inl rfl | exact Or.inr rfl) (hs : swapsWith a (some (.Name x pos')) pos.line X.env = pure false := by rfl)
    (hf : X.fn x = true ∨ X.env.scope.names.lookup x = some .local := by first | exact Or.inl rfl | exact Or.inr rfl) : DS X e W (.Assign [.Name x pos'] a pos) (mSetD i f) := ds_setD hN hi hx he hs hf
theorem sSetLc (i : Nat) {elt tg : Expr} {ifs : List Expr} {scope : Scope} (own : List (Str × Nat)) {spos : Pos} {it : M (List D)} {tf : D → S → Option S} {cond : M Bool} {fe : M D} (L : Lk X e W) (hN : X.N.Nodup) (hi : DI X e W tg a it) (ok : blkC X.N X.env.scope scope own = true)
    (hg : ∀ (s : Shared) (H : Hp) (C : Addr) (cl : List (Str × Addr)) (fp : List Addr), DG (X.blk s H scope (compEnvC scope cl C X.env) fp) e (own.map (·.2)) tg tf) (ht : ∀ (s : Shared) (H : Hp) (C : Addr) (cl : List (Str × Addr)) (fp : List Addr), PTs (X.blk s H scope (compEnvC scope cl C X.env) fp) ifs (rdG e wFalse RT cond))
    (he : ∀ (s : Shared) (H : Hp) (C : Addr) (cl : List (Str × Addr)) (fp : List Addr), DE (X.blk s H scope (compEnvC scope cl C X.env) fp) e wFalse elt fe) (hs : ∀ x, foldedSetIterable a X.env x = pure x := by intro _; rfl)
    (hy : X.N[i]? = some x := by rfl) (hyl : X.env.scope.names.lookup x = some .local := by rfl) (hsw : swapsWith (.ListComp elt [⟨tg, a, ifs, 0⟩] scope pos) (some (.Name x pos')) spos.line X.env = pure true := by exact sw_true rfl rfl rfl (by decide +kernel)) :
    DS X e W (.Assign [.Name x pos'] (.ListComp elt [⟨tg, a, ifs, 0⟩] scope pos) spos) (mSet i (M.bind (mLc (own.map (·.2)) it tf cond fe) fun d => M.pure (.own d))) := ds_setLc L.calm hN hy hyl hsw hi (blkOk_by ok) hg ht he hs
theorem sExpr {f : M D} (h : DE X e W a f) (hs : swapsWith a none pos.line X.env = pure false := by rfl) : DS X e W (.Expr a pos) (mDrop f) := ds_expr h hs
theorem sPar (L : Lk X e W) (i j : Nat) {y : Str} {b : Expr} {f g : M Sl} {px py pt : Pos} {kt k2 : Nat} {pt2 : Pos} (hN : X.N.Nodup) (ha : DX X e W a f) (hb : DX X e W b g) (hi : X.N[i]? = some x := by rfl) (hj : X.N[j]? = some y := by rfl) (hij : i ≠ j := by decide)
    (hx : X.env.scope.names.lookup x = some .local := by rfl) (hy : X.env.scope.names.lookup y = some .local := by rfl)
    (hw : swappedStores [.Tuple [.Name x px, .Name y py] kt pt] (.Tuple [a, b] k2 pt2) X.env = pure (some [x, y]) := by rfl) (hs : swapsWithSole [.Tuple [.Name x px, .Name y py] kt pt] (.Tuple [a, b] k2 pt2) pos.line X.env = pure false := by rfl)
    (h1 : starEach [a, b] X.env = (false, eval a X.env) :: starEach [b] X.env := by rfl) (h2 : starEach [b] X.env = (false, eval b X.env) :: starEach [] X.env := by rfl) :
    DS X e W (.Assign [.Tuple [.Name x px, .Name y py] kt pt] (.Tuple [a, b] k2 pt2) pos) (mPar i j f g) := ds_par L.calm hN hi hj hij hx hy ha hb hw hs h1 h2
theorem sPar3 (L : Lk X e W) (i j l : Nat) {y z : Str} {b c : Expr} {f g k : M Sl} {px py pz pt : Pos} {kt k2 : Nat} {pt2 : Pos} (hN : X.N.Nodup) (ha : DX X e W a f) (hb : DX X e W b g) (hc : DX X e W c k) (hi : X.N[i]? = some x := by rfl) (hj : X.N[j]? = some y := by rfl) (hl : X.N[l]? = some z := by rfl) (hij : i ≠ j := by decide) (hil : i ≠ l := by decide) (hjl : j ≠ l := by decide)
    (hx : X.env.scope.names.lookup x = some .local := by rfl) (hy : X.env.scope.names.lookup y = some .local := by rfl) (hz : X.env.scope.names.lookup z = some .local := by rfl)
    (hw : swappedStores [.Tuple [.Name x px, .Name y py, .Name z pz] kt pt] (.Tuple [a, b, c] k2 pt2) X.env = pure (some [x, y, z]) := by rfl) (hs : swapsWithSole [.Tuple [.Name x px, .Name y py, .Name z pz] kt pt] (.Tuple [a, b, c] k2 pt2) pos.line X.env = pure false := by rfl)
    (h1 : starEach [a, b, c] X.env = (false, eval a X.env) :: starEach [b, c] X.env := by rfl) (h2 : starEach [b, c] X.env = (false, eval b X.env) :: starEach [c] X.env := by rfl) (h3 : starEach [c] X.env = (false, eval c X.env) :: starEach [] X.env := by rfl) :
    DS X e W (.Assign [.Tuple [.Name x px, .Name y py, .Name z pz] kt pt] (.Tuple [a, b, c] k2 pt2) pos) (mPar3 i j l f g k) := ds_par3 L.calm hN hi hj hl hij hil hjl hx hy hz ha hb hc hw hs h1 h2 h3
theorem sAsg {is : List Nat} {tg : Expr} {f : M D} {tf : D → S → Option S} (ha : DE X e W a f) (hg : DG X e is tg tf) (hs : swapsWithSole [tg] a pos.line X.env = pure false := by rfl) (hw : swappedStores [tg] a X.env = pure none := by rfl) (h1 : (assignEach [tg] X.env).map (·.2) = [assign tg X.env] := by rfl) : DS X e W (.Assign [tg] a pos) (mAsg f tf) := ds_asg ha hg hs hw h1
theorem sApp (i : Nat) {f : M D} {p apos cpos : Pos} (h : DE X e W a f) (hN : X.N[i]? = some x := by rfl) (hv : Vis X.env.scope x := by first | exact Or.inl rfl | exact Or.inr (Or.inl rfl) | exact Or.inr (Or.inr rfl)) (hd : (x == ("__debug__" : Str)) = false := by decide) (hcd : (x == ("__classdict__" : Str)) = false := by decide)
    (hbase : attributeBase (.Name x p) "append" X.env (eval (.Name x p) X.env) = eval (.Name x p) X.env := by rfl)
    (hfew : ((backTo cpos (starEach [a] X.env)).all (fun x => !x.1) && (backToKw cpos (keywordEach [] X.env)).all (fun x => x.1.isSome) && decide ([a].length + ([] : List Keyword).length + (if ([] : List Keyword).isEmpty then 0 else 1) < 30)) = true := by rfl)
    (hline : (apos.endLine == cpos.line) = true := by rfl) (hs : starEach [a] X.env = (false, eval a X.env) :: starEach [] X.env := by rfl) (hplain : (backTo cpos (starEach [] X.env)).any (·.1) = false := by rfl)
    (hsw : swapsWith (.Call (.Attribute (.Name x p) "append" apos) [a] [] cpos) none pos.line X.env = pure false := by rfl) : DS X e W (.Expr (.Call (.Attribute (.Name x p) "append" apos) [a] [] cpos) pos) (mApp i f) := ds_append hN hv hd hcd h hbase hfew hline hs hplain hsw
theorem sPop (j i : Nat) {y : Str} {p py apos cpos : Pos} (hnd : X.N.Nodup) (hN : X.N[i]? = some x := by rfl) (hv : Vis X.env.scope x := by first | exact Or.inl rfl | exact Or.inr (Or.inl rfl) | exact Or.inr (Or.inr rfl)) (hd : (x == ("__debug__" : Str)) = false := by decide) (hcd : (x == ("__classdict__" : Str)) = false := by decide) (hj : X.N[j]? = some y := by rfl) (hy : Loc X.env.scope y := by first | exact Or.inl rfl | exact Or.inr rfl) (hij : i ≠ j := by decide)
    (hbase : attributeBase (.Name x p) "pop" X.env (eval (.Name x p) X.env) = eval (.Name x p) X.env := by rfl) (hline : (apos.endLine == cpos.line) = true := by rfl)
    (hsw : swapsWith (.Call (.Attribute (.Name x p) "pop" apos) [] [] cpos) (some (.Name y py)) pos.line X.env = pure false := by rfl) (hf : X.fn y = true ∨ X.env.scope.names.lookup y = some .local := by first | exact Or.inl rfl | exact Or.inr rfl) :
    DS X e W (.Assign [.Name y py] (.Call (.Attribute (.Name x p) "pop" apos) [] [] cpos) pos) (mPop j i) := ds_pop hnd hN hv hd hcd hj hy hij hbase hline hsw hf
theorem sSetIx (i : Nat) {k : Expr} {f fk : M D} {p p2 : Pos} (ha : DE X e W a f) (hk : DB X e W k fk) (hN : X.N[i]? = some x := by rfl) (hv : Vis X.env.scope x := by first | exact Or.inl rfl | exact Or.inr (Or.inl rfl) | exact Or.inr (Or.inr rfl)) (hd : (x == ("__debug__" : Str)) = false := by decide) (hcd : (x == ("__classdict__" : Str)) = false := by decide)
    (hpg : PG X (.Subscript (.Name x p) k p2) (gSub (tVar i) (rdG e W RB fk) rSetL)) (hs : swapsWithSole [.Subscript (.Name x p) k p2] a pos.line X.env = pure false := by rfl) (hw : swappedStores [.Subscript (.Name x p) k p2] a X.env = pure none := by rfl) :
    DS X e W (.Assign [.Subscript (.Name x p) k p2] a pos) (mSetIx i f fk) := ds_setIx hN hv hd hcd ha hk hpg hs hw
theorem sPut (L : Lk X e W) {o k : Expr} {f fd fk : M D} {p2 : Pos} (hv : DE X e W a f) (ho : DB X e W o fd) (hk : DB X e W k fk) (hs : swapsWith a (some (.Subscript o k p2)) pos.line X.env = pure false := by rfl) : DS X e W (.Assign [.Subscript o k p2] a pos) (mPutOb f fd fk) := ds_dput L ho hk hv hs
end
end
/-- THE RULE for a def, the context's own facts handed on -/
theorem fn_den2 {P : Program} {w : World} {c : Ct} {base : Heap} {x qual : Str} {st : Stmt} {f : Addr} {fd : FuncData} {N ps : List Str} {k : Nat} {body : SM} (Fu : Fun c.K x qual st f fd) (S : FnScope N ps (defScope st))
    (hbody : ∀ (cdv : Value) (A : Around) (outer : List Env) (s : Shared) (e : En) (E : XK), e.c = c → Room k (A.deeper (PyProof.Rows.envOfC qual (defScope st) s.heap.objs.size f cdv)) →
      Lk (cxOf (L2.CX P w) P w c.K c.mg base N qual (defScope st) f cdv A outer s e.H0 E) e (fun cls d _ H => E cls d H) →
      PassesOwn (model P w) (A.deeper (PyProof.Rows.envOfC qual (defScope st) s.heap.objs.size f cdv)) (PyProof.Rows.envOfC qual (defScope st) s.heap.objs.size f cdv) (cxOf (L2.CX P w) P w c.K c.mg base N qual (defScope st) f cdv A outer s e.H0 E).xe →
      DSs (cxOf (L2.CX P w) P w c.K c.mg base N qual (defScope st) f cdv A outer s e.H0 E) e (fun cls d _ H => E cls d H) (defBody st) body) :
    FnOk P w c.K c.mg base (L2.CX P w) (k + 1) f fd ps (spD c ps.length (mFn N.length ps.length body)) :=
  fn_den Fu S fun cdv A outer s e E hc hr => hbody cdv A outer s e E hc hr
    ⟨(by show e.c = ⟨c.K, c.mg, e.c.T⟩; rw [hc]), takes_of rfl rfl rfl rfl, rfl, by have := hr.un; show (A.deeper _).units + 65 < _; omega⟩ (passes_of rfl)
/-- a def for those who call it -/
theorem mk_cal {P : Program} {w : World} {c : Ct} {base : Heap} {x : Str} {st : Stmt} {f : Addr} {fd : FuncData} {ps : List Str} {k : Nat} {g g' : Fn} (Fu : Fun c.K x x st f fd) (hm : c.mg x = some (.ref f)) (hb : Binds c.K fd ps [])
    (F : FnOk P w c.K c.mg base (L2.CX P w) k f fd ps (spD c ps.length g')) (b : Below g g') : Cal P w c base k x ps.length g :=
  ⟨f, fd, ps, rfl, F.imp fun vs H Q E h => spD_below b h, hm, Fu.kp, hb⟩
end Ls
/-! an exception is caught and kept: _law_caught(lambda: ..) -/
namespace Ls
open PySem PySem.Spec L2 PyProof.Rows
section
variable {X : Cx} {pins : List (Addr × Obj)} {σ : L2.St} {H : Hp} {s : Shared}
/-- an object that nobody looked at is looked at from now on -/
theorem Inv.track (I : Inv X pins σ H s) {p : Addr} {o : HO} (n0 : X.s_0.heap.get? p = none) (n1 : p ≠ X.env.locals) (n2 : ∀ x c, X.env.cells.lookup x = some c → c ≠ p) (n3 : ∀ q ∈ X.pn ++ pins, q.1 ≠ p) (n4 : H p = none)
    (ok : ObjOk X.prog X.w (upd H p o) s.heap p o) : Inv X pins σ (upd H p o) s := by
  have u := I.base
  have old : ∀ b w, H b = some w → upd H p o b = some w := fun b w e => by rw [upd_ne (ne_of_none e n4)]; exact e
  have ne0 : ∀ b w, X.s_0.heap.get? b = some w → b ≠ p := fun b w e z => by
    rw [z, n0] at e
    cases e
  exact { ok := I.ok, os := I.os, bare := I.bare, loc := I.loc, cell := I.cell, len := I.len
          base := { keep := u.keep, slot := u.slot, there := u.there
                    free := fun b w e n hx => by rw [upd_ne (ne0 b w e)]; exact u.free b w e n hx
                    tups := fun b xs e => old _ _ (u.tups b xs e)
                    frzs := fun b w xs e => old _ _ (u.frzs b w xs e)
                    tbls := fun b ps e => (u.tbls b ps e).imp fun m q => old _ _ q }
          free := by rw [upd_ne (Ne.symm n1)]; exact I.free
          freeC := fun x c e => by rw [upd_ne (n2 x c e)]; exact I.freeC x c e
          pin := fun q hq => by
            obtain ⟨a1, a2, a3⟩ := I.pin q hq
            exact ⟨a1, by rw [upd_ne (n3 q hq)]; exact a2, a3⟩
          hok := HOk.laidN I.hok (fun _ _ e => e) n4 ok }
end
/-- what the clause wishes of an exception of the body: slot i is its name's; it stands in the heap behind the clause -/
def wHold (K : PySem.W.Frag) (CS : Value) (i : Nat) (ts : Addr → Value → Option Addr → TS) (D : Ends) : WX := fun cls d σ H => PySem.W.exmOne K cls CS = some true ∧
  ∀ p, H p = none → ts p cls d { nx := fun σ1 H1 => D.nx (σ1.set i none) (upd H1 p (ExcV cls d p)), rt := fun _ _ => False, bk := fun _ _ => False, ct := fun _ _ => False } (σ.set i (some (.ref p))) H
section
variable {X : Cx} {x n : Str} {CS : Value} {i : Nat} {body suite : List Stmt} {b₀ : Stmt} {np pos pos' : Pos} {tb : WX → TS} {ts : Addr → Value → Option Addr → TS}
/-- try: body / except x as n: suite, where the suite only falls through; the exception is known from then on -/
theorem ps_hold (hs : X.stack = X.env :: X.outer) (hf : X.env.frame = some X.env.locals) (hex : X.ex = []) (hN : X.N.Nodup) (hi : X.N[i]? = some n) (hln : X.env.kindOf n = some .local) (hc : Names X x CS)
    (hb : ∀ (W : WX) (pn : List (Addr × Obj)) (xe : Value → Shared → Prop), Takes (X.tr pn xe) W → PSs (X.tr pn xe) body (tb W))
    (hsu : ∀ (p : Addr) (op : Obj) (cls : Value) (d : Option Addr) (pn : List (Addr × Obj)), PSs (X.suite p ((p, op) :: pn)) (b₀ :: suite) (ts p cls d)) :
    PS X (.Try body [.ExceptHandler (some (.Name x np)) (some n) (b₀ :: suite) pos'] [] [] pos) (fun D σ H => tb (wHold X.K CS i ts D) D σ H) := by
  constructor
  intro pins t0 σ0 H0 D I0 hD
  have okX := I0.ok
  have hA : X.A.frames = some (X.env :: X.outer) := hs ▸ okX.frames
  apply wpAny_Try_except
  let cat : Value → Shared → Prop := fun e u1 => wpAny (model X.prog X.w) X.A (noteFrame e X.env) (fun _ u2 =>
    wpAny (model X.prog X.w) X.A (setFlight e none) (fun _ u3 => wpAny (model X.prog X.w) X.A
      (handleBy e X.env [.ExceptHandler (some (.Name x np)) (some n) (b₀ :: suite) pos']) (SP X pins D) X.xe u3) X.xe u2) X.xe u1
  have takes : Takes (X.tr (X.pn ++ pins) cat) (wHold X.K CS i ts D) := by
    rintro _ t1 ⟨p, B, tI, pins1, σ1, H1, cls, d, rfl, K1, nb, up, sky, na, os, ag, hm, hy⟩
    have J1 : Inv X pins σ1 H1 tI := K1.ofTry okX
    have skyS : Sky B (X.env :: X.outer) p (Zc cls d) X.env.locals t1.heap := hs ▸ sky
    show wpAny (model X.prog X.w) X.A (noteFrame (.ref p) X.env) _ _ _
    apply Sky.land Zc.steady hA hf skyS
    intro h2 fl2 up2
    have J2 : Inv X pins σ1 H1 { t1 with heap := h2 } := J1.landed nb fl2.1 (up.trans up2) os ag
    obtain ⟨o2, v2, he2, hz2, hd2⟩ := fl2.there
    have off : p ∉ frs (X.env :: X.outer) := fun hm2 => by
      obtain ⟨_, o', e', q⟩ := fl2.2.2.1.mem hm2
      rw [he2] at e'
      cases e'
      exact q _ hd2
    have pL : p ≠ X.env.locals := fun z => off (List.mem_filterMap.mpr ⟨X.env, List.mem_cons_self, z ▸ hf⟩)
    have pF : p ∉ X.fs := fun hm2 => by
      obtain ⟨e, he, q⟩ := List.mem_filterMap.mp hm2
      exact off (List.mem_filterMap.mpr ⟨e, List.mem_cons_of_mem _ he, q⟩)
    -- new since the entry
    have nI : tI.heap.get? p = none := by
      cases e : tI.heap.get? p with
      | none => rfl
      | some o => exact absurd (nb p o e (hs ▸ off)) (by rw [fl2.2.1]; simp)
    have n0 : X.s_0.heap.get? p = none := by
      cases e : X.s_0.heap.get? p with
      | none => rfl
      | some o =>
        obtain ⟨o', q⟩ := J1.base.there p o e (by rw [hex]; simp)
        rw [nI] at q
        cases q
    have nC : ∀ y c, X.env.cells.lookup y = some c → c ≠ p := fun y c e z => by
      obtain ⟨v, o, ho, _⟩ := J1.cell y c e
      rw [z, nI] at ho
      cases ho
    have nP : ∀ q ∈ X.pn ++ pins, q.1 ≠ p := fun q hq z => by
      have a1 := (J1.pin q hq).1
      rw [z, nI] at a1
      cases a1
    have S2 := J2.suite he2 hd2 na pL pF
    refine wpAny_handleBy_cons (codeAny_handlers_test ?_) nofun
    have look : PySem.W.Looks (model X.prog X.w) h2 (typeOf (.ref p)) cls := fun _ _ _ _ k q => by
      apply wpAny_typeOf_ref (k _ _ he2)
      rw [hz2.1]
      exact q
    have one := PySem.W.exm_one (M := model X.prog X.w) J2.kIn look hm
    have name : ∀ {R : Value → Shared → Prop} {E : Value → Shared → Prop}, R CS { t1 with heap := h2 } →
        wpAny (model X.prog X.w) (X.A.mark (some (.ref p))) (eval (.Name x np) X.env) R E { t1 with heap := h2 } := fun {R E} q => by
      obtain ⟨hg, hdb, hm1 | ⟨hm1, hv, hnn⟩⟩ := hc
      · exact ld_glob (X := X.suite p ((p, o2) :: (X.pn ++ pins))) S2 hg hm1 q hdb
      · exact ld_blt (X := X.suite p ((p, o2) :: (X.pn ++ pins))) S2 hg hm1 hv q hnn hdb
    apply name
    apply one.here
    apply codeAny_handlers_suite_as
    apply HandSPX.lands_againZ fl2
    intro h3 fl3 up3
    have J3 : Inv X pins σ1 H1 { t1 with heap := h3 } := J1.landed nb fl3.1 ((up.trans up2).trans up3) os ag
    obtain ⟨o3, v3, he3, hz3, hd3⟩ := fl3.there
    have S3 := J3.suite he3 hd3 na pL pF
    refine store_ok (X := X.suite p ((p, o3) :: (X.pn ++ pins))) (v := .ref p) S3 hN hi (.inl hln) rfl (fun t4 S4 => ?_) (.inr hln)
    refine wpAny_mono ((hsu p o3 cls d (X.pn ++ pins)).run [] t4 _ H1 _ S4 (hy p na)) (fun f t5 hsp => ?_) fun _ _ => False.elim
    cases f with
    | brk => exact hsp.elim fun _ h => h.elim fun _ h => h.2.elim
    | cont => exact hsp.elim fun _ h => h.elim fun _ h => h.2.elim
    | ret u => exact hsp.elim fun _ h => h.elim fun _ h => h.elim fun _ h => h.2.2.elim
    | next =>
      obtain ⟨σ5, H5, S5, q5⟩ := hsp
      refine gone_ok (X := X.suite p ((p, o3) :: (X.pn ++ pins))) (Q := fun _ t7 => SP X pins D .next t7) S5 hN hi hln fun t6 S6 => ?_
      obtain ⟨e6, m6, _⟩ := S6.pin (p, o3) (by simp [Cx.suite])
      have J6 : Inv X pins (σ5.set i none) H5 t6 := S6.unsuite okX
      exact ⟨_, _, Inv.track (o := ExcV cls d p) J6 n0 pL nC nP m6 ⟨⟨o3, v3, e6, hz3, hd3⟩, ⟨o3, e6⟩, fun _ _ ⟨o, v, a1, a2, a3⟩ k => ⟨o, v, k o a1, a2, a3⟩⟩, q5⟩
  refine wpAny_mono ((hb _ _ cat takes).run [] t0 σ0 H0 D (I0.toTry _) hD) (fun f t1 hsp => ?_) fun _ _ h => h
  cases f with
  | next =>
    obtain ⟨σ1, H1, J1, q⟩ := hsp
    exact wpAny_execs_nil ⟨σ1, H1, J1.ofTry okX, q⟩
  | brk => exact hsp.imp fun σ1 h => h.imp fun H1 h => ⟨h.1.ofTry okX, h.2⟩
  | cont => exact hsp.imp fun σ1 h => h.imp fun H1 h => ⟨h.1.ofTry okX, h.2⟩
  | ret u => exact hsp.imp fun v h => h.imp fun σ1 h => h.imp fun H1 h => ⟨h.1.ofTry okX, h.2⟩
end
/-! ### the def that catches -/
/-- what it makes of the work's reading: None, or the exception, known from now on -/
def TCaught (K : PySem.W.Frag) (CS : Addr) : (XK → Hp → VK → Prop) → Hp → VK → Prop := fun tl H Q =>
  tl (fun cls d H1 => PySem.W.exmOne K cls (.ref CS) = some true ∧ ∀ p, H1 p = none → Q (.ref p) (upd H1 p (ExcV cls d p))) H (fun _ H1 => ∃ v, some (some V.non) = some (some v) ∧ Q v H1)
theorem takes_len {X : Cx} {W : WX} (t : Takes X W) : Takes X (fun cls d σ H => σ.length = X.N.length → W cls d σ H) := fun u s1 ⟨p, B, sI, pins, σ, H, cls, d, e, I, nb, up, sky, na, os, ag, w⟩ =>
  t u s1 ⟨p, B, sI, pins, σ, H, cls, d, e, I, nb, up, sky, na, os, ag, w I.len⟩
theorem caught_gives {X : Cx} {x y q : Str} {sg : Scope} {g CS : Addr} {cdg : Value} {j : Nat} {p1 p2 p3 p4 p5 p6 p7 p8 p9 pa pb pc pd pe : Pos} (hs : sg.names.lookup y = some .globalImplicit) (hm : X.mg y = some (.ref CS)) (hd : (y == ("__debug__" : Str)) = false)
    (v0 : sg.names.lookup ("caught" : Str) = some .local) (v1 : sg.names.lookup ("error" : Str) = some .local)
    (hk : sg.kind = .function) (hl : (PyProof.Rows.envOfC x sg 0 g cdg).kindOf ("error" : Str) = some .local) :
    LamX.GivesTo X ["work", "caught", "error"] x sg g cdg
      [.Assign [.Name "caught" p1] (.Constant .none j p2) p3,
       .Try [.Expr (.Call (.Name "work" p4) [] [] p5) p6] [.ExceptHandler (some (.Name y p7)) (some "error") [.Assign [.Name "caught" p8] (.Name "error" p9) pa] pb] [] [] pc,
       .Return (some (.Name "caught" pe)) pd] "work" q (TCaught X.K CS) := by
  intro f c s H Q tl act hc h
  let Z := (cxOf C8.CX0 X.prog X.w X.K X.mg X.base ["work", "caught", "error"] x sg g cdg X.A X.stack s H C8.E0).nox
  have nd : Z.N.Nodup := by show (["work", "caught", "error"] : List Str).Nodup; decide
  refine ⟨_, pss_cons (ps_set (X := Z) (i := 1) nd rfl (.inl v0) pe_non rfl (.inr v0)) (pss_cons (ps_hold (X := Z) (CS := .ref CS) (i := 2)
      (tb := fun W => tDrop (fun σ H Q => ∃ E : XK, (∀ cls d σ1 H1, σ1.length = 3 → E cls d H1 → W cls d σ1 H1) ∧ σ[0]? = some (some (.ref f)) ∧ H c = some (LamX.CodeO c q) ∧ tl E H Q))
      (ts := fun _ _ _ => tAsg (tVar 2) (gName 1)) rfl rfl rfl nd rfl hl ⟨hs, hd, .inl hm⟩ (fun W pn xe tk => pss_one (ps_expr ?_)) fun p op cls d pn => pss_one (ps_set (i := 1) nd rfl (.inl v0) (pe_var (i := 2) rfl (.inl v1)) rfl (.inr v0)))
    (pss_one (ps_ret (pe_var (i := 1) rfl (.inl v0))))), ?_⟩
  · constructor
    intro pins t0 σ0 H0 R I0 hR
    obtain ⟨E, e1, e2, e3, e4⟩ := hR
    exact (act (fun cls d σ H => σ.length = 3 → W cls d σ H) pn xe E p4 p5 (takes_len tk) fun cls d σ1 H1 he hl => e1 cls d σ1 H1 hl he).run pins t0 σ0 H0 R I0 ⟨e2, e3, e4⟩
  · show tAsg _ _ _ _ _
    refine ⟨fun cls d H1 => PySem.W.exmOne X.K cls (.ref CS) = some true ∧ ∀ p, H1 p = none → Q (.ref p) (upd H1 p (ExcV cls d p)), fun cls d σ1 H1 hl1 ⟨a1, a2⟩ => ⟨a1, fun p hp => ?_⟩, ?_, hc, ?_⟩
    · obtain ⟨z0, z1, z2, rfl⟩ : ∃ z0 z1 z2, σ1 = [z0, z1, z2] := by
        match σ1, hl1 with
        | [z0, z1, z2], _ => exact ⟨z0, z1, z2, rfl⟩
      exact ⟨.ref p, rfl, .ref p, rfl, a2 p hp⟩
    · rfl
    · exact h
/-! ### a lambda handed to it -/
def mCaught (cs : List Str) (m : M D) : M D := fun s => match m s with
  | .bad => .bad
  | .ok _ s1 => .ok .non s1
  | .exc x s1 => if x.cls ∈ cs then .ok (.exc x.cls x.fld (match x.fld with
    | none => .non
    | some _ => x.val)) s1 else .bad
/-- a def of the module that catches the errors cs of what it is handed -/
structure Cau (c : Ct) (x : Str) (cs : List Str) : Prop where
  ex : ∃ (g CS : Addr) (y : Str) (fd : FuncData) (st : Stmt) (j : Nat) (p1 p2 p3 p4 p5 p6 p7 p8 p9 pa pb pc pd pe : Pos), Fun c.K x x st g fd ∧ c.mg x = some (.ref g) ∧ Binds c.K fd ["work"] [] ∧ c.mg y = some (.ref CS) ∧ FnScope ["work", "caught", "error"] ["work"] (defScope st) ∧
    (defScope st).names.lookup y = some .globalImplicit ∧ (y == ("__debug__" : Str)) = false ∧ (defScope st).names.lookup ("work" : Str) = some .local ∧ (defScope st).names.lookup ("caught" : Str) = some .local ∧ (defScope st).names.lookup ("error" : Str) = some .local ∧
    defBody st = [.Assign [.Name "caught" p1] (.Constant .none j p2) p3,
       .Try [.Expr (.Call (.Name "work" p4) [] [] p5) p6] [.ExceptHandler (some (.Name y p7)) (some "error") [.Assign [.Name "caught" p8] (.Name "error" p9) pa] pb] [] [] pc,
       .Return (some (.Name "caught" pe)) pd] ∧ ∀ z ∈ cs, ∀ C, c.mg z = some (.ref C) → PySem.W.exmOne c.K (.ref C) (.ref CS) = some true
/-- the maker of lambdas: its code object, its table -/
structure Lm (X : Cx) (e : En) : Prop where
  ex : ∃ cd P : Addr, X.env.code = .ref cd ∧ LamX.TabB X.base X.mg cd P ∧ (P, X.env.qual ++ "<lambda>") ∈ e.c.T ∧ ∀ p ∈ e.c.T, p.1 = P → p.2 = X.env.qual ++ "<lambda>"
theorem Rel.grown {e : En} {F : Addr → Prop} {ρ : List Addr} {s : S} {σ : L2.St} {H H1 : Hp} (r : Rel e F ρ s σ H) (x : LamX.ExtN H H1) (t : LamX.Tabs e.c.T H1) : Rel e F ρ s σ H1 ∧ Stp F F ρ ρ s s σ H H1 := by
  have k : Kp F F ρ ρ H H1 := ⟨fun _ h => h, ⟨[], by simp⟩, fun a u f h => by
    obtain ⟨w, h1, h2⟩ := r.trk a f
    rw [h] at h1
    cases h1
    exact x a u h h2⟩
  refine ⟨⟨r.len, fun i y h => Slot.kp (e := e) k (r.slot i y h) fun b u hb hu => ?_, r.dist, r.ownF, r.rlen, fun n ob a h1 h2 => Ob.kp k (r.store n ob a h1 h2) fun u hu => ?_, r.nodup, r.sep, r.fF, r.mono, fun a ha => ?_, r.rho, fun a u hu n m => x a u (r.frm a u hu n m) m, t⟩,
    ⟨fun _ h => h, fun a h => .inl h, fun _ h => h, ⟨[], by simp⟩, fun a u h _ m => x a u h m, fun a h z => ?_⟩⟩
  · obtain ⟨w, h1, h2⟩ := r.inOwn ⟨i, y, h, hb⟩
    rw [hu] at h1
    cases h1
    exact x b u hu h2
  · obtain ⟨w, h3, h4⟩ := r.inRho (List.mem_of_getElem? h2)
    rw [hu] at h3
    cases h3
    exact x a u hu h4
  · obtain ⟨u, h1, h2⟩ := r.trk a ha
    exact ⟨u, x a u h1 h2, h2⟩
  · obtain ⟨o, h1, h2⟩ := Fr.not h
    exact z.no (x a o h1 h2) h2
section
variable {X : Cx} {e : En} {W : WX}
theorem lk_lam {X : Cx} {e : En} {W : WX} (L : Lk X e W) {A : Around} {outer : List Env} {s : Shared} {H : Hp} {E : XK} {scope : Scope} {f c' : Addr} {k : Nat} (hr : Room k (A.deeper (LamX.lamEnv X scope s.heap.objs.size f c'))) :
    Lk (LamX.lamCx X A outer s H E scope f c') e (fun cls d _ H => E cls d H) := ⟨L.c, takes_of rfl rfl rfl rfl, rfl, by have := hr.un; show (A.deeper _).units + 65 < _; omega⟩
/-- x(lambda: body) -/
theorem eCaught {x : Str} {k : Nat} {cs : List Str} {m : M D} {params : Arguments} {body : Expr} {scope : Scope} {p lpos pos : Pos} (L : Lk X e W) (C : Cau e.c x cs) (M : Lm X e) (hr : Room (k + 2) X.A)
    (hbody : ∀ (A : Around) (outer : List Env) (s : Shared) (H : Hp) (E : XK) (f c' : Addr), Room k (A.deeper (LamX.lamEnv X scope s.heap.objs.size f c')) → Lk (LamX.lamCx X A outer s H E scope f c') e (fun cls d _ H => E cls d H) →
      DE (LamX.lamCx X A outer s H E scope f c') e (fun cls d _ H => E cls d H) body m)
    (hs : LamX.lamSB X.env.scope scope = true := by rfl) (hg : Gl X x := by rfl) (hdb : (x == ("__debug__" : Str)) = false := by decide) (hdef : defaultsOf params X.env = ([], []) := by rfl)
    (hbind : ∀ (q : Str) (cl : List (Str × Addr)) (pm cv ctv : Value), bindArgs (PySem.W.kla_fn "<lambda>" q params body scope cl pm cv ctv) ⟨[], []⟩ = pure [] := by intros; rfl) :
    DE X e W (.Call (.Name x p) [.Lambda params body scope lpos] [] pos) (mCaught cs m) := by
  obtain ⟨g, CS, y, fd, st, j, p1, p2, p3, p4, p5, p6, p7, p8, p9, pa, pb, pc, pd, pe, Fu, hm, hb, hy, S, v1, v2, v3, v4, v5, hB, hcs⟩ := C.ex
  obtain ⟨cd, P, hcode, TB, hT, hu⟩ := M.ex
  obtain ⟨oc, od, kV, doc, pm, an, cdv, ct, osl, rfl, lk, hcg⟩ := Fu.ex
  rw [hB] at lk hb
  have hkp := Fu.kp
  rw [L.c] at lk hcg hm hb hy hkp
  have G := caught_gives (X := X) (x := x) (y := y) (q := X.env.qual ++ "<lambda>") (sg := defScope st) (g := g) (cdg := cdv) (j := j) (p1 := p1) (p2 := p2) (p3 := p3) (p4 := p4) (p5 := p5) (p6 := p6) (p7 := p7) (p8 := p8) (p9 := p9) (pa := pa) (pb := pb) (pc := pc) (pd := pd) (pe := pe) v1 hy v2 v4 v5 S.kind v5
  refine PE.weak (LamX.pe_lamcall (k := k) (T := e.c.T) hg hm hkp lk hcg hb S rfl (.inl v3) G TB hcode hT hu hr (LamX.lamS_by hs) hdef hbind (t := fun E => rdG e (fun cls d _ H => E cls d H) RD m) (fun A outer s H E f c' hr2 => hbody A outer s H E f c' hr2 (lk_lam L hr2)) hdb) fun σ H Q ⟨F, ρ, s, r, h⟩ => ?_
  refine ⟨r.tab, fun H1 xt ht => ?_⟩
  obtain ⟨r1, st1⟩ := r.grown xt ht
  refine ⟨F, ρ, s, r1, ?_⟩
  unfold rdAt mCaught at h
  unfold rdAt
  cases z : m s with
  | bad => rw [z] at h; exact h
  | ok d s1 =>
    rw [z] at h
    exact fun v F' ρ' H' st2 r2 _ => ⟨.non, rfl, h .non F' ρ' H' (st1.trans st2) r2 (by unfold RD Rep; rfl)⟩
  | exc ex s1 =>
    rw [z] at h
    dsimp only at h
    intro cls dd F' ρ' H' st2 r2 xr
    by_cases hc : ex.cls ∈ cs
    case neg => rw [if_neg hc] at h; exact h.elim
    rw [if_pos hc] at h
    obtain ⟨⟨C, rfl, hC⟩, hf⟩ := xr
    have hex := hcs _ hc C hC
    rw [L.c] at hex
    refine ⟨hex, fun a ha => ?_⟩
    obtain ⟨r3, st3⟩ := r2.laidF ha (ExcV (.ref C) dd a)
    refine h (.ref a) _ ρ' _ ((st1.trans st2).trans st3) r3 ?_
    unfold RD
    have k3 := st3.kp r2
    cases q : ex.fld with
    | none =>
      rw [q] at hf
      unfold Rep
      exact ⟨a, C, dd, rfl, .inr rfl, hC, upd_same, hf⟩
    | some n =>
      rw [q] at hf
      obtain ⟨da, v, h1, h2, h3, h4⟩ := hf
      unfold Rep
      exact ⟨a, C, dd, rfl, .inr rfl, hC, upd_same, da, v, h1, .inl h2, k3.keep _ _ h2 h3, Rep.kp k3 _ _ h4⟩
end
end Ls
/-! isinstance of a kept exception; its field -/
namespace Ls
open PySem PySem.Spec L2 PyProof.Rows
section
variable {K : PySem.W.Frag}
theorem exc_ans {a : Addr} {C : Value} : Answers (fun s => ∃ o, s.heap.get? a = some o ∧ o.cls = C) (.ref a) C true := by
  intro dep tk prog w A R s hs
  obtain ⟨hp, gs, dr, tt, os⟩ := s
  obtain ⟨⟨o, ho, hc⟩, hq⟩ := hs
  have look : PySem.W.Looks (model prog w) hp (typeOf (.ref a)) C := fun _ _ _ _ k q => by
    apply wpAny_typeOf_ref (k _ _ ho)
    rw [hc]
    exact q
  unfold Builtin.«isinstance.nested»
  apply wpAny_bind
  apply look.at
  rw [if_pos (beq_self_eq_true C)]
  first
    | exact wpAny_bind (wpAny_rule (wpAny_pure (hq tt)))
    | exact wpAny_bind (wpAny_rule (hq tt))
    | ((repeat lk); exact hq tt)
end
theorem call_isX {X : Cx} : CallR X (.builtin "isinstance") (fun xs H Q => ∃ (a C : Addr) (d : Option Addr), xs = [.ref a, .ref C] ∧ H a = some (ExcV (.ref C) d a) ∧ Q (.bl true) H) := by
  intro pins s σ H xs us Q I r h
  obtain ⟨a, C, d, rfl, ha, q⟩ := h
  obtain ⟨u1, u2, rfl, r1, r2⟩ := vals2 r
  obtain rfl : u1 = Value.ref a := r1
  obtain rfl : u2 = Value.ref C := r2
  obtain ⟨⟨oe, vs, h1, h2, h3⟩, _, _⟩ := I.hok a _ ha
  exact call_isinstance (S := fun _ R s => (∃ o, s.heap.get? a = some o ∧ o.cls = Value.ref C) ∧ ∀ tk, R (.ok (.ret (.bool true))) { s with toks := tk })
    (fun prog w A R s hs => isinstance_outer (exc_ans 0 _ prog w A R s hs) nofun) ⟨⟨oe, h1, h2.1⟩, fun tk => ⟨.bl true, H, I.tok tk, rfl, q⟩⟩
def isX (T : Str) : D → Option D
  | .exc x _ _ => if x = T then some (.bl true) else none
  | _ => none
section
variable {X : Cx} {e : En} {W : WX}
theorem eIsX {a : Expr} {f : M D} {T : Str} {p p2 pos : Pos} (L : Lk X e W) (B : Bt e.c) (h : DB X e W a f) (C : Exn e.c T) (hg : Gl X "isinstance" := by rfl) (hgT : Gl X T := by rfl)
    (hd : (T == ("__debug__" : Str)) = false := by decide) (he : starEach [a, .Name T p2] X.env = (false, eval a X.env) :: starEach [.Name T p2] X.env := by rfl) (he2 : starEach [.Name T p2] X.env = (false, eval (.Name T p2) X.env) :: starEach [] X.env := by rfl) (hpl : (backTo pos (starEach [.Name T p2] X.env)).any (·.1) = false := by rfl) :
    DE X e W (.Call (.Name "isinstance" p) [a, .Name T p2] [] pos) (M.bind f fun d => ofO (isX T d)) := by
  obtain ⟨CC, _, hm, _⟩ := C.ex
  have hm2 := hm
  have hi := B.isi
  rw [L.c] at hm2 hi
  refine PE.weak (pe_callB call_isX hg hi (by decide +kernel) (pa_cons h (pa_cons (pe_glob (v := .ref CC) hgT hm2 rfl hd) pa_nil he2) he) (by decide) (by decide) he hpl) fun σ H Q q => rdG_bind q fun v F ρ s F1 ρ1 s1 H1 d r st r1 l h => ?_
  obtain ⟨b, hb, h⟩ := rdAt_ofO h
  unfold isX at hb
  split at hb
  · rename_i x fl vl
    by_cases z : x = T
    case neg => rw [if_neg z] at hb; cases hb
    rw [if_pos z] at hb
    cases hb
    have l : Rep e.c F1 ρ1 H1 (.exc x fl vl) v := l
    have l2 : ∃ (a0 C0 : Addr) (d0 : Option Addr), v = .ref a0 ∧ e.c.mg x = some (.ref C0) ∧ H1 a0 = some (ExcV (.ref C0) d0 a0) := by
      cases fl with
      | none => unfold Rep at l; obtain ⟨a0, C0, d0, h1, _, h3, h4, _⟩ := l; exact ⟨a0, C0, d0, h1, h3, h4⟩
      | some n => unfold Rep at l; obtain ⟨a0, C0, d0, h1, _, h3, h4, _⟩ := l; exact ⟨a0, C0, d0, h1, h3, h4⟩
    obtain ⟨a0, C0, d0, rfl, h3, h4⟩ := l2
    rw [z, hm] at h3
    cases h3
    exact ⟨a0, CC, d0, rfl, h4, rdAt_pure h r1 rep_bl⟩
  · cases hb
end
end Ls
/-! the end of a row: what the head's facts say in the layer's words; the script -/
namespace Ls
open PySem PySem.Spec L2 PyProof.Rows
/-! ### a def that makes lambdas -/
theorem Fun.okXc {P : Program} {w : World} {K : PySem.W.Frag} {mg : Str → Option Value} {base : Heap} {x qual : Str} {st : Stmt} {f : Addr} {fd : FuncData} {N ps : List Str} {k : Nat} {sp : Sp} (F : Fun K x qual st f fd) (S : FnScope N ps (defScope st)) (len : ∀ vs H Q E, sp vs H Q E → vs.length = ps.length)
    (hbody : ∀ (cdv : Value) (A : Around) (outer : List Env) (s : Shared) (H : Hp) (vs : List V) (Q : VK) (E : XK), fd.code = cdv → Room k (A.deeper (envOfC qual (defScope st) s.heap.objs.size f cdv)) → sp vs H Q E →
      ∃ t, PSs (cxOf (L2.CX P w) P w K mg base N qual (defScope st) f cdv A outer s H E) (defBody st) t ∧ t { nx := fun _ H' => Q .non H', rt := Q } (start N vs) H) : FnOk P w K mg base (L2.CX P w) (k + 1) f fd ps sp := by
  obtain ⟨oc, od, kV, doc, pm, an, cdv, ct, osl, e, lk, hcd⟩ := F.ex
  subst e
  exact fn_of lk hcd S len fun A outer s H vs Q E hr hsp => hbody cdv A outer s H vs Q E rfl hr hsp
/-- its code object has a table, told of -/
structure LamF (c : Ct) (base : Heap) (qual : Str) (fd : FuncData) : Prop where
  ex : ∃ cd P : Addr, fd.code = .ref cd ∧ LamX.TabB base c.mg cd P ∧ (P, qual ++ ".<locals>." ++ "<lambda>") ∈ c.T ∧ ∀ p ∈ c.T, p.1 = P → p.2 = qual ++ ".<locals>." ++ "<lambda>"
theorem fn_denL {P : Program} {w : World} {c : Ct} {base : Heap} {x qual : Str} {st : Stmt} {f : Addr} {fd : FuncData} {N ps : List Str} {k : Nat} {body : SM} (Fu : Fun c.K x qual st f fd) (S : FnScope N ps (defScope st)) (LF : LamF c base qual fd)
    (hbody : ∀ (cdv : Value) (A : Around) (outer : List Env) (s : Shared) (e : En) (E : XK), e.c = c → Room k (A.deeper (PyProof.Rows.envOfC qual (defScope st) s.heap.objs.size f cdv)) →
      Lk (cxOf (L2.CX P w) P w c.K c.mg base N qual (defScope st) f cdv A outer s e.H0 E) e (fun cls d _ H => E cls d H) →
      PassesOwn (model P w) (A.deeper (PyProof.Rows.envOfC qual (defScope st) s.heap.objs.size f cdv)) (PyProof.Rows.envOfC qual (defScope st) s.heap.objs.size f cdv) (cxOf (L2.CX P w) P w c.K c.mg base N qual (defScope st) f cdv A outer s e.H0 E).xe →
      Lm (cxOf (L2.CX P w) P w c.K c.mg base N qual (defScope st) f cdv A outer s e.H0 E) e →
      DSs (cxOf (L2.CX P w) P w c.K c.mg base N qual (defScope st) f cdv A outer s e.H0 E) e (fun cls d _ H => E cls d H) (defBody st) body) :
    FnOk P w c.K c.mg base (L2.CX P w) (k + 1) f fd ps (spD c ps.length (mFn N.length ps.length body)) := by
  refine Fun.okXc Fu S (fun vs H Q E h => h.1) fun cdv A outer s H vs Q E hcd hr h => ?_
  obtain ⟨hl, F, ρ, ds, st', r, rl, h⟩ := h
  obtain ⟨cd, P', h1, h2, h3, h4⟩ := LF.ex
  refine ⟨_, hbody cdv A outer s ⟨c, F, ρ, H⟩ E rfl hr ⟨rfl, takes_of rfl rfl rfl rfl, rfl, by have := hr.un; show (A.deeper _).units + 65 < _; omega⟩ (passes_of rfl) ⟨cd, P', hcd ▸ h1, h2, h3, h4⟩, F, ρ, ⟨ds.map .sh ++ List.replicate (N.length - ds.length) .emp, st'⟩, r.begin rl, ?_⟩
  have hd : ds.length = ps.length := by rw [← rl.length, hl]
  unfold mFn at h
  rw [if_pos hd] at h
  unfold rdSAt
  rw [hd]
  cases z : body ⟨ds.map .sh ++ List.replicate (N.length - ps.length) .emp, st'⟩ with
  | bad => rw [z] at h; exact h
  | bk s' => rw [z] at h; exact h.elim
  | ct s' => rw [z] at h; exact h.elim
  | nx s' => rw [z] at h; exact fun F' ρ' σ' H' _ r' => h .non F' ρ' H' r'.leave rep_non
  | rt d s' => rw [z] at h; exact fun v F' ρ' σ' H' _ r' rp => h v F' ρ' H' r'.leave rp
  | exc x s' => rw [z] at h; exact fun cls dd F' ρ' σ' H' r' xr => h cls dd F' ρ' H' r'.leave xr
/-! ### the head's facts -/
def bltNames : List Str := ["len", "isinstance", "range", "tuple", "list", "int", "min", "max", "sum", "bool", "str", "dict", "repr", "all", "zip", "enumerate", "sorted"]
section
variable {fa : List He.Fa} {fn : List He.DefD} {K : PySem.W.Frag} {h : Heap} {mg : Str → Option Value} {T : List (Addr × Str)}
theorem bt_of (X : K.In h) (G : h.Ns mainGlobals mg) (c : ∀ f ∈ fa, f.ok K = true) (hb : ∀ x ∈ bltNames, He.Fa.free x ∈ fa) : Bt ⟨K, mg, T⟩ := by
  have k : ∀ x ∈ bltNames, mg x = none := fun x hx => He.free_ok X G (c _ (hb x hx))
  constructor <;> exact k _ (by decide)
theorem con_of (X : K.In h) (G : h.Ns mainGlobals mg) {x : Str} {i : Int} (c : (He.Fa.int x i).ok K = true) : Con ⟨K, mg, T⟩ x (.int i) := by
  obtain ⟨t, ht⟩ := He.int_ok X G c
  exact con_int ht
theorem exn_of (X : K.In h) (G : h.Ns mainGlobals mg) {x : Str} (c : (He.Fa.exc x).ok K = true) (g : (He.Fa.glo x).ok K = true) : Exn ⟨K, mg, T⟩ x := by
  obtain ⟨h1, h2, h3, h4⟩ := He.exc_ok c
  exact ⟨_, h1, He.glo_ok X G g, h2, h3, h4⟩
/-- a def that stands at its name -/
def dOf (x : Str) (st : Stmt) : He.DefD := ⟨(x, none), x, x, defArgs st, defBody st, defScope st, [], []⟩
theorem fun_of (c : He.SaysD fa fn K) {x : Str} {st : Stmt} (hd : dOf x st ∈ fn) : ∃ fd, Fun K x x st (He.ga K x) fd := by
  obtain ⟨fd, F⟩ := c.defs hd
  obtain ⟨oc, od, dV, kV, doc, pm, an, cdv, ct, osl, e, lk, hcd, hD, hK⟩ := F.ex
  have hD : dV = .none := by
    rcases hD with ⟨_, h⟩ | ⟨h, _⟩
    · exact h
    · exact absurd rfl h
  subst hD
  exact ⟨fd, ⟨oc, od, kV, doc, pm, an, cdv, ct, osl, e, lk, hcd⟩, F.kp⟩
/-- the tables that are told of -/
def tabsT (K : PySem.W.Frag) (tf : List He.Defn) : List (Addr × Str) := tf.map fun p => ((He.cT K p).2, p.1 ++ ".<locals>." ++ "<lambda>")
def apartB (tf : List He.Defn) (K : PySem.W.Frag) : Bool := decide ((tf.map fun p => (He.cT K p).2).Nodup)
theorem lamF_of {tf : List He.Defn} {x : Str} {st : Stmt} {base : Heap} {fd : FuncData} (F : Fun K x x st (He.ga K x) fd) (hx : ((x, none) : He.Defn) ∈ tf) (ap : apartB tf K = true) (TB : ∀ p ∈ tf, LamX.TabB base mg (He.cT K p).1 (He.cT K p).2) :
    LamF ⟨K, mg, tabsT K tf⟩ base x fd := by
  obtain ⟨oc, od, kV, doc, pm, an, cdv, ct, osl, e, lk, hcd⟩ := F.ex
  subst e
  obtain ⟨cd, rfl⟩ := He.codeIn_ref hcd
  have ec : He.codeOf K (x, none) = cd := He.codeOf_eq (p := (x, none)) lk rfl
  refine ⟨cd, (He.cT K (x, none)).2, rfl, by have q := TB _ hx; rw [show (He.cT K (x, none)).1 = cd from ec] at q; exact q, List.mem_map.mpr ⟨_, hx, rfl⟩, fun p hp e2 => ?_⟩
  obtain ⟨q, hq, rfl⟩ := List.mem_map.mp hp
  have nd : (tf.map fun p => (He.cT K p).2).Nodup := of_decide_eq_true ap
  obtain ⟨i, hi, e3⟩ := List.mem_iff_getElem.mp hq
  obtain ⟨j, hj, e4⟩ := List.mem_iff_getElem.mp hx
  have e5 : i = j := (List.getElem_inj (h₀ := by rw [List.length_map]; exact hi) (h₁ := by rw [List.length_map]; exact hj) nd).mp (by rw [List.getElem_map, List.getElem_map, e3, e4]; exact e2)
  subst e5
  rw [← e3, e4]
end
/-! ### the script -/
/-- the bits of all numbers together -/
def sumBits (ns : List Int) : Nat := (ns.map Builtin.Int.intBits).sum
theorem bits_sum : ∀ l : List Int, sumBits l ≤ PySem.W.WData.weightAll (l.map PySem.W.WData.int)
  | [] => Nat.zero_le _
  | m :: r => by
    have q := bits_sum r
    rw [List.map_cons, Att.weight_cons, Att.weight_int]
    show (Builtin.Int.intBits m + (r.map Builtin.Int.intBits).sum) ≤ _
    have q : (r.map Builtin.Int.intBits).sum ≤ PySem.W.WData.weightAll (r.map PySem.W.WData.int) := q
    omega
theorem script_sum {ns : List Int} (h : PySem.W.WData.layableAll [PySem.W.WData.list (ns.map PySem.W.WData.int)] = true) : sumBits ns ≤ 1048576 := by
  have h2 : PySem.W.WData.layable (PySem.W.WData.list (ns.map PySem.W.WData.int)) = true := by
    simp only [PySem.W.WData.layableAll, List.all_cons, List.all_nil, Bool.and_true] at h
    exact h
  have h3 := (PySem.W.layableW_iff.mp h2).2.2
  rw [Att.weight_list] at h3
  exact Nat.le_trans (bits_sum ns) (Nat.le_trans h3 (by decide))
/-- the law's def, called with the script -/
theorem law_sp {c : Ct} {g : Fn} {a : Addr} {H : Hp} {ns : List Int} (t : LamX.Tabs c.T H) (S : SqL c.K H a (ns.map V.int)) (h : ∃ st, g [.wl (ns.map .int)] [] = .ok (.bl true) st) :
    spD c 1 g [.ref a] H (fun v _ => v = .bl true) fun _ _ _ => False := by
  have ints0 : ∀ (F : Addr → Prop) (ms : List Int), RepL c F [] H (ms.map .int) (ms.map V.int) := fun F ms => by
    induction ms with
    | nil => unfold RepL; rfl
    | cons m ms ih =>
      show RepL c F [] H (.int m :: ms.map .int) (V.int m :: ms.map V.int)
      unfold RepL
      exact ⟨_, _, rfl, by unfold Rep; rfl, ih⟩
  obtain ⟨st, hg⟩ := h
  have key : ∀ F : Addr → Prop, (∀ b, F b → ∃ o, H b = some o ∧ NT o) → AtL c.K F H a (ns.map V.int) → spD c 1 g [.ref a] H (fun v _ => v = .bl true) fun _ _ _ => False := fun F hF hA => by
    refine ⟨rfl, F, [], [.wl (ns.map .int)], [], ⟨rfl, fun i x h => by simp at h, fun i j x y b h => by simp at h, fun b h => absurd h owned_nil, rfl, fun n o a h => by simp at h, List.nodup_nil, fun a h => by simp at h, fun a h => .inl h, fun a h => h, hF, ⟨[], by simp⟩, fun a o h _ _ => h, t⟩, ?_, ?_⟩
    · unfold RepL
      exact ⟨_, [], rfl, by unfold Rep; exact ⟨a, _, rfl, hA, ints0 F ns⟩, by unfold RepL; rfl⟩
    · rw [hg]
      intro v F' ρ' H' _ rp
      unfold Rep at rp
      exact rp
  rcases S with S | S
  · refine key (fun b => b = a) (fun b hb => ?_) (.inl ⟨rfl, S⟩)
    rw [hb]
    rcases S with S | ⟨o, S⟩
    · exact ⟨_, S, by nofun⟩
    · exact ⟨_, S, by nofun⟩
  · exact key (fun _ => False) (fun _ hb => hb.elim) (.inr S)
theorem attach_sum {l : PySem.W.OpenLaw} {n : Nat} {q : Program} {loose : List Str} {XP : (Str → Option Value) → Heap → Prop} {YP : World → Heap → Prop} {d : DefRec} (hn : l.most = some n) (hdf : d.params.defaults = [])
    (call : ∀ (w : World) (s₀ s₁ : Shared) (mg mb : Str → Option Value) (fa : Addr) (a : Addr) (vs : List Value) (ns : List Int), PySem.W.Ground q loose [] XP w s₀ mg mb s₁.heap → YP w s₁.heap → mg d.name = some (.ref fa) →
      s₁.heap.get? a = some { cls := .type "list", data := .seq vs.toArray } → IntsAre vs ns → ns.length ≤ n → sumBits ns ≤ 1048576 → s₁.gens = #[] →
      codeAny (model l.prog w) callerA (.call (.ref fa) ⟨[.ref a], []⟩) (fun r s' => r = .ok (.ret (.bool true)) ∧ OldK s₁.heap s'.heap ∧ s'.os = s₁.os ∧ AllBare s'.gens) s₁) :
    PySem.W.WalkO q loose XP YP l.row.toRowW d [] (fun f vs => PySem.call f vs) := by
  intro w s₀ s₁ mg mb G Y fa o pm cd doc dV kV ho hd hcd hD hmg hg args vals as hpre hlay hrd hwl hlo
  obtain rfl : dV = .none := PySem.W.Dflts.none hD hdf
  obtain rfl : kV = .none := PySem.W.Dflts.noKw hD
  obtain ⟨a, vs, ns, rfl, rfl, hobj, hints, hlen⟩ := Att.script_of hn hpre hwl
  refine PySem.W.enter_call (codeAny_mono (call w s₀ s₁ mg mb fa a vs ns G Y hmg hobj hints hlen (script_sum hlay) hg) fun r s' ⟨e, h2, h3, h4⟩ => ?_)
  subst e
  exact ⟨.inl ⟨.bool true, .bool true, [], rfl, fun _ => rfl, .bool true, Att.post_true l _, fun _ => ⟨List.Pairwise.nil, fun _ hm => (nomatch hm)⟩⟩, h2, h3, h4⟩
theorem fun_bindsA {K : PySem.W.Frag} {x qual : Str} {st : Stmt} {f : Addr} {fd : FuncData} {p : Str} (F : Fun K x qual st f fd)
    (h : ∀ (kV doc pm : Value) (an : Option Addr) (cdv ct : Value) (us : List Value), us.length = 1 → bindArgs (PySem.W.fnOf x qual (defArgs st) (defBody st) (defScope st) .none kV doc pm an cdv ct) ⟨us, []⟩ = pure ([p].zip us)) (s : Shared) (u : Value) : BindsTo s fd ⟨[u], []⟩ [(p, u)] := by
  obtain ⟨oc, od, kV, doc, pm, an, cdv, ct, osl, e, lk, hcd⟩ := F.ex
  subst e
  exact .of_eq (h kV doc pm an cdv ct [u] rfl)
/-- THE END of a row -/
theorem walk_ls {l : PySem.W.OpenLaw} {q : Program} {loose : List Str} {XP : (Str → Option Value) → Heap → Prop} {d : DefRec} {fa : List He.Fa} {fn : List He.DefD} {tf : List He.Defn} {m k : Nat} {g : Fn} {ck : PySem.W.Frag → Bool} (hn : l.most = some 63) (hdf : d.params.defaults = []) (hr : Room k callerA)
    (F : ∀ (w : World) (K : PySem.W.Frag) (mg : Str → Option Value) (h : Heap), K.In h → h.Ns mainGlobals mg → He.SaysD fa fn K → ck K = true →
      ∃ (f : Addr) (fd : FuncData), mg d.name = some (.ref f) ∧ (∀ (s : Shared) (u : Value), BindsTo s fd ⟨[u], []⟩ [("script", u)]) ∧
        ∀ base : Heap, K.In base → base.Ns mainGlobals mg → (∀ p ∈ tf, LamX.TabB base mg (He.cT K p).1 (He.cT K p).2) → FnOk l.prog w K mg base (L2.CX l.prog w) k f fd ["script"] (spD ⟨K, mg, tabsT K tf⟩ 1 g))
    (hg : ∀ ns : List Int, ns.length ≤ 63 → sumBits ns ≤ 1048576 → ∃ st, g [.wl (ns.map .int)] [] = .ok (.bl true) st) :
    PySem.W.WalkO q loose XP (He.hookX m fa fn [] tf ck).says l.row.toRowW d [] (fun f vs => PySem.call f vs) := by
  refine attach_sum hn hdf fun w s₀ s₁ mg mb f a vs ns G Y hmg hobj hints hlen hbits hgen => ?_
  obtain ⟨K, KX, c⟩ := Y
  obtain ⟨f2, fd, hf, hb, hF⟩ := F w K mg _ KX G.T.g c.t.d c.more
  rw [hmg] at hf
  cases hf
  refine LamX.law_callTs (cs := tf.map (He.cT K)) KX G.T.g G.T.b G.T.builtins G.T.nolimit hgen (fun p hp => ?_) (fun p hp => ?_) (fun p hp => ?_) G.T.bmain hobj hints (Nat.le_trans hlen (by decide)) hr (fun base hK hN hT => hF base hK hN fun p hp => hT _ (List.mem_map.mpr ⟨p, hp, rfl⟩)) hb (fun H hH hS => law_sp (fun p hp => ?_) hS (hg ns hlen hbits)) fun H e s' => ?_
  · obtain ⟨p, hq, rfl⟩ := List.mem_map.mp hp
    exact c.empty p hq
  · obtain ⟨p, hq, rfl⟩ := List.mem_map.mp hp
    exact c.out p hq
  · obtain ⟨p, hq, rfl⟩ := List.mem_map.mp hp
    exact PySem.W.codeHd_of_K KX (c.hd p hq)
  · obtain ⟨p, hq, rfl⟩ := List.mem_map.mp hp
    exact .nil (hH (He.cT K p) (List.mem_map.mpr ⟨p, hq, rfl⟩))
  · rintro ⟨_, _, _, _, _, _, _, _, _, _, _, _, z⟩
    exact z
end Ls
/-! more walks, new lists -/
namespace Ls
open PySem PySem.Spec L2 PyProof.Rows
section
variable {X : Cx} {e : En} {F F' F1 F2 : Addr → Prop} {ρ ρ' ρ1 ρ2 : List Addr} {s s' s1 s2 : S} {σ σ' : L2.St} {H H' H1 H2 Hs : Hp} {W : WX}
def rngC (lo c : Int) (n : Nat) : List D := (List.range n).map fun i : Nat => D.int (lo + i * c)
def rng3 : List D → Option (List D)
  | [.int i, .int j, .int c] => if c ≠ 0 ∧ c.natAbs < 1073741824 ∧ Builtin.Range.small i j c = true ∧ 0 ≤ Builtin.Range.rangeSize i j c then some (rngC i c (Builtin.Range.rangeSize i j c).toNat) else none
  | _ => none
theorem deliv_rngC {c : Ct} {lo d : Int} {n : Nat} : Deliv c (Itc lo d n) F ρ H (rngC lo d n) := by
  unfold rngC
  intro F1 ρ1 H1 k i
  constructor
  · intro hi
    show n ≤ i
    simpa using hi
  · intro x hx
    rw [List.getElem?_map] at hx
    by_cases z : i < n
    · have q : (List.range n)[i]? = some i := by simp [z]
      rw [q] at hx
      cases hx
      exact ⟨z, fun y H2 ⟨a1, a2⟩ => .inl ⟨a1, by rw [a2]; exact rep_int⟩⟩
    · have q : (List.range n)[i]? = none := by simp [z]
      rw [q] at hx
      cases hx
theorem lentA3 {c : Ct} {x y z : D} {vs : List V} (l : LentA c F ρ H [x, y, z] vs) : ∃ u v w, vs = [u, v, w] ∧ Lent c F ρ H x u ∧ Lent c F ρ H y v ∧ Lent c F ρ H z w := by
  unfold LentA at l
  obtain ⟨u, us, rfl, a1, l⟩ := l
  unfold LentA at l
  obtain ⟨v, us, rfl, a2, l⟩ := l
  unfold LentA at l
  obtain ⟨w, us, rfl, a3, l⟩ := l
  unfold LentA at l
  subst l
  exact ⟨u, v, w, rfl, a1, a2, a3⟩
theorem iRange3 {a b c tg : Expr} {f : M (List D)} {p pos : Pos} (L : Lk X e W) (B : Bt e.c) (ha : DAB X e W [a, b, c] f) (hg : Gl X "range" := by rfl)
    (hs : starEach [a, b, c] X.env = (false, eval a X.env) :: starEach [b, c] X.env := by rfl) (hpl : (backTo pos (starEach [b, c] X.env)).any (·.1) = false := by rfl) : DI X e W tg (.Call (.Name "range" p) [a, b, c] [] pos) (M.bind f fun ds => ofO (rng3 ds)) :=
  PI.weak (pi_range3 hg (by have := B.range; rw [L.c] at this; exact this) ha hs hpl) fun σ H R q => rdI_bind q fun vs F1 ρ1 s1 H1 ds ds' r1 l w h => by
    unfold rng3 at w
    split at w
    · rename_i i j d
      split at w
      · rename_i hz
        cases w
        obtain ⟨u, v, x, rfl, l1, l2, l3⟩ := lentA3 l
        have e1 := int_of l1
        have e2 := int_of l2
        have e3 := int_of l3
        subst e1 e2 e3
        exact ⟨i, j, d, _, rfl, ⟨hz.1, hz.2.1, hz.2.2.1, (Int.toNat_of_nonneg hz.2.2.2).symm⟩, h _ deliv_rngC⟩
      · cases w
    · cases w
/-! list(range(..)) -/
def rngO (i j : Int) : Option (List D) := if okI i && okI j && decide ((j - i).toNat ≤ 16777216) then some (rngL i (j - i).toNat) else none
def mLr1 (f : M D) : M (List D) := M.bind f fun x => match x with
  | .int j => ofO (rngO 0 j)
  | _ => M.bad
def mLr2 (f g : M D) : M (List D) := M.bind f fun x => M.bind g fun y => match x, y with
  | .int i, .int j => ofO (rngO i j)
  | _, _ => M.bad
theorem rgV_rep {c : Ct} {i j : Int} : RepL c F ρ H (rngL i (j - i).toNat) (rgV i j) := by
  refine RepL.of ?_ fun k d v h1 h2 => ?_
  · unfold rgV rngL
    simp
  · unfold rgV at h2
    unfold rngL at h1
    rw [List.getElem?_map] at h1 h2
    cases q : (List.range (j - i).toNat)[k]? with
    | none => rw [q] at h1; cases h1
    | some m =>
      rw [q] at h1 h2
      cases h1
      cases h2
      exact rep_int
/-- what is asked where the numbers are known -/
theorem lr_end {i j : Int} {Q : VK} (r1 : Rel e F1 ρ1 s1 σ H1) (st : Stp F F1 ρ ρ1 s s1 σ H H1) (h : rdAt e W RL (ofO (rngO i j)) H F1 ρ1 s1 σ H1 Q) : RgOk i j ∧ ∀ q, H1 q = none → Q (.ref q) (upd H1 q (.lst (rgV i j))) := by
  obtain ⟨ds, hd, h⟩ := rdAt_ofO h
  unfold rngO at hd
  split at hd
  · rename_i hz
    cases hd
    unfold okI at hz
    simp only [Bool.and_eq_true, decide_eq_true_eq] at hz
    refine ⟨⟨hz.1.1.1, hz.1.1.2, hz.1.2.1, hz.1.2.2, hz.2⟩, fun q hq => ?_⟩
    obtain ⟨r2, st2, n1, n2, n3, n4⟩ := r1.laidN hq (.lst (rgV i j))
    exact h (.ref q) _ ρ1 _ st2 r2 ⟨q, _, rfl, Classical.byContradiction fun z => st.dom q z (.of hq), n1, n2, n3, n4, upd_same, rgV_rep⟩
  · cases hd
theorem lListR1 {a : Expr} {f : M D} {p p2 pos pos2 : Pos} (L : Lk X e W) (B : Bt e.c) (ha : DB X e W a f) (hg : Gl X "list" := by rfl) (hr : Gl X "range" := by rfl)
    (na : starEach [a] X.env = (false, eval a X.env) :: starEach [] X.env := by rfl) (nl : starEach [.Call (.Name "range" p2) [a] [] pos2] X.env = (false, eval (.Call (.Name "range" p2) [a] [] pos2) X.env) :: starEach [] X.env := by rfl) :
    DL X e W (.Call (.Name "list" p) [.Call (.Name "range" p2) [a] [] pos2] [] pos) (mLr1 f) :=
  PE.weak (pe_listRg L.calm hg (by have := B.list; rw [L.c] at this; exact this) (prg_1 hr (by have := B.range; rw [L.c] at this; exact this) ha na) nl) fun σ H Q q => rdG_bind q fun v F ρ s F1 ρ1 s1 H1 d r st r1 l h => by
    cases d with
    | int j =>
      have := int_of l; subst v
      exact ⟨j, rfl, lr_end r1 st h⟩
    | _ => exact (show False from h).elim
theorem lListR2 {a b : Expr} {f g : M D} {p p2 pos pos2 : Pos} (L : Lk X e W) (B : Bt e.c) (ha : DB X e W a f) (hb : DB X e W b g) (hg : Gl X "list" := by rfl) (hr : Gl X "range" := by rfl)
    (na : starEach [a, b] X.env = (false, eval a X.env) :: starEach [b] X.env := by rfl) (nb : starEach [b] X.env = (false, eval b X.env) :: starEach [] X.env := by rfl) (hp : (backTo pos2 (starEach [b] X.env)).any (·.1) = false := by rfl)
    (nl : starEach [.Call (.Name "range" p2) [a, b] [] pos2] X.env = (false, eval (.Call (.Name "range" p2) [a, b] [] pos2) X.env) :: starEach [] X.env := by rfl) :
    DL X e W (.Call (.Name "list" p) [.Call (.Name "range" p2) [a, b] [] pos2] [] pos) (mLr2 f g) :=
  PE.weak (pe_listRg L.calm hg (by have := B.list; rw [L.c] at this; exact this) (prg_2 hr (by have := B.range; rw [L.c] at this; exact this) ha hb na nb hp) nl) fun σ H Q q => rdG_bind q fun v F ρ s F1 ρ1 s1 H1 d r st r1 l h => by
    refine ⟨F1, ρ1, s1, r1, rdAt_bind h fun w F2 ρ2 s2 H2 d2 st2 r2 l2 h2 => ?_⟩
    cases d with
    | int i =>
      cases d2 with
      | int j =>
        have e1 := int_of l
        have e2 := int_of l2
        subst e1 e2
        exact ⟨i, j, rfl, rfl, lr_end r2 (st.trans st2) h2⟩
      | _ => exact (show False from h2).elim
    | _ => exact (show False from h2).elim
end
/-! ### calls with keywords, without arguments, of what a slot holds -/
/-- the values in the parameters' order -/
def permL {α : Type} (perm : List Nat) (l : List α) : List α := perm.filterMap fun i => l[i]?
theorem vals_perm {perm : List Nat} {vs : List V} {us : List Value} (r : Vals vs us) : Vals (permL perm vs) (permL perm us) := by
  induction perm with
  | nil => exact .nil
  | cons i is ih =>
    unfold permL at ih ⊢
    rw [List.filterMap_cons, List.filterMap_cons]
    have hl := r.length
    cases h : vs[i]? with
    | none =>
      have : us[i]? = none := by
        rw [List.getElem?_eq_none_iff] at h ⊢
        omega
      rw [this]
      exact ih
    | some v =>
      obtain ⟨u, hu, ru⟩ := r.get h
      rw [hu]
      exact .cons ru ih
theorem repL_perm {c : Ct} {F : Addr → Prop} {ρ : List Addr} {H : Hp} {perm : List Nat} {ds : List D} {vs : List V} (r : RepL c F ρ H ds vs) : RepL c F ρ H (permL perm ds) (permL perm vs) := by
  induction perm with
  | nil => show RepL c F ρ H [] []; unfold RepL; rfl
  | cons i is ih =>
    unfold permL at ih ⊢
    rw [List.filterMap_cons, List.filterMap_cons]
    have hl := r.length
    cases h : ds[i]? with
    | none =>
      have : vs[i]? = none := by
        rw [List.getElem?_eq_none_iff] at h ⊢
        omega
      rw [this]
      exact ih
    | some d =>
      obtain ⟨v, hv, rv⟩ := r.get h
      rw [hv]
      show RepL c F ρ H (d :: _) (v :: _)
      unfold RepL
      exact ⟨_, _, rfl, rv, ih⟩
theorem permL_len {α : Type} {l : List α} {n : Nat} : ∀ (perm : List Nat), l.length = n → perm.all (fun i => decide (i < n)) = true → (permL perm l).length = perm.length
  | [], _, _ => rfl
  | i :: is, hl, h => by
    rw [List.all_cons, Bool.and_eq_true, decide_eq_true_eq] at h
    have q := permL_len is hl h.2
    unfold permL at q ⊢
    rw [List.filterMap_cons, List.getElem?_eq_getElem (by omega : i < l.length)]
    show (List.filterMap _ is).length + 1 = is.length + 1
    rw [q]
/-- a def of the module called with m values by place and the names ks behind them -/
structure CalK (P : Program) (w : World) (c : Ct) (base : Heap) (k : Nat) (x : Str) (m : Nat) (ks : List Str) (perm : List Nat) (g : Fn) : Prop where
  ex : ∃ (fa : Addr) (fd : FuncData) (ps : List Str), ps.length = perm.length ∧ FnOk P w c.K c.mg base (L2.CX P w) k fa fd ps (spD c perm.length g) ∧ c.mg x = some (.ref fa) ∧ PySem.W.keepIn c.K (.ref fa) = true ∧
    ∀ (s : Shared) (us ws : List Value), us.length = m → ws.length = ks.length → BindsTo s fd ⟨us, ks.zip ws⟩ (ps.zip (permL perm (us ++ ws)))
section
variable {X : Cx} {e : En} {W : WX} {k : Nat} {x : Str} {g : Fn} {perm : List Nat} {ks : List Str} {p pos : Pos} {f : M (List D)}
/-- the call itself -/
theorem run_ls {pins : List (Addr × Obj)} {σ : L2.St} {H : Hp} {s : Shared} {Q : VK} {fa : Addr} {fd : FuncData} {ps : List Str} {us : List Value} {vs : List V} {as : Args} {sp : Sp} (tk : Takes X W) (Fo : FnOk X.prog X.w X.K X.mg X.base (L2.CX X.prog X.w) k fa fd ps sp) (hr : Room k X.A)
    (I : Inv X pins σ H s) (r : Vals vs us) (hb : BindsTo s fd as (ps.zip us)) (h : sp vs H Q (WE W σ)) : wpAny (model X.prog X.w) X.A (call (.ref fa) as.pos as.kw) (EP X pins σ Q) X.xe s := by
  apply wpAny_call
  refine codeAny_mono (Fo.run X.A X.stack s H as us vs Q (WE W σ) hr I.env0 hb r h) fun z t hz => ?_
  match z, hz with
  | .error u, hz => exact passAt tk σ pins H s u t I hz
  | .ok (.ret u), hz => exact I.after hz
  | .ok .next, hz => exact False.elim hz
  | .ok .brk, hz => exact False.elim hz
  | .ok .cont, hz => exact False.elim hz
/-- x(k = v, ..) -/
theorem eCallK {kws : List Keyword} (L : Lk X e W) (C : CalK X.prog X.w e.c X.base k x 0 ks perm g) (hr : Room k X.A) (ha : PK X kws (rdG e W RA f)) (hlen : ∀ s ds s', f s = .ok ds s' → ds.length = ks.length) (hp2 : ∀ l : List V, l.length = ks.length → (permL perm l).length = perm.length := by exact (fun l hl => permL_len _ hl (by decide)))
    (hg : Gl X x := by rfl) (hall : (backToKw pos (keywordEach kws X.env)).all (·.1.isSome) = true := by rfl) (hks : (backToKw pos (keywordEach kws X.env)).filterMap (·.1) = ks := by rfl) (hdb : (x == ("__debug__" : Str)) = false := by decide)
    (hpl : ((backTo pos (starEach [] X.env)).any (·.1) || (backToKw pos (keywordEach kws X.env)).any (·.1.isNone)) = false := by rfl) :
    DE X e W (.Call (.Name x p) [] kws pos) (mCall g (M.bind f fun ds => M.pure (permL perm ds))) := by
  obtain ⟨fa, fd, ps, hps, Fo, hm, hk, hb⟩ := C.ex
  rw [L.c] at Fo hm hk
  constructor
  intro pins s σ H Q I h
  refine wpAny_Call_Name_kw (ld_glob I hg hm ?_ hdb)
  refine PySem.W.callWith_KW0 (h₀ := X.base) I.ok.mod.kin hk hall ?_ hpl
  have h2 : rdG e W RA f σ H fun vs H1 => vs.length = ks.length ∧ spD e.c perm.length g (permL perm vs) H1 Q (WE W σ) := by
    obtain ⟨F, ρ, s0, r, h⟩ := h
    refine ⟨F, ρ, s0, r, ?_⟩
    have key := h
    unfold rdAt mCall M.bind Res.bind M.pure at key
    unfold rdAt
    cases z : f s0 with
    | bad => rw [z] at key; exact key
    | exc x s' => rw [z] at key; exact key
    | ok ds s' =>
      rw [z] at key
      intro vs F1 ρ1 H1 st r1 rr
      have rr : RepL e.c F1 ρ1 H1 ds vs := rr
      have hl : vs.length = ks.length := by rw [rr.length]; exact hlen _ _ _ z
      refine ⟨hl, rd_callF (Hs := H) (R := RD) (fun _ _ _ _ _ _ _ h => h) (hp2 vs hl) r1 (repL_perm rr) ?_⟩
      unfold rdAt
      dsimp only at key ⊢
      cases w : g (permL perm ds) s'.st with
      | bad => rw [w] at key; exact key
      | ok d st' => rw [w] at key; exact fun v F' ρ' H' st2 => key v F' ρ' H' (st.trans st2)
      | exc x st' => rw [w] at key; exact fun cls dd F' ρ' H' st2 => key cls dd F' ρ' H' (st.trans st2)
  refine thn (ha.run pos pins s σ H _ I h2) fun ws s2 ⟨zs, H2, I2, rz, hl, q2⟩ => ⟨I2.kIn, ?_⟩
  rw [hks]
  rw [L.c] at q2
  exact run_ls (as := ⟨[] ++ [], ks.zip ws⟩) L.tk Fo hr I2 (vals_perm rz) (hb s2 [] ws rfl (by rw [← rz.length]; exact hl)) q2
theorem PK.weak {X : Cx} {x : List Keyword} {t t' : TA} (h : PK X x t) (k : ∀ σ H Q, t' σ H Q → t σ H Q) : PK X x t' := ⟨fun pos pins s σ H Q I hw => h.run pos pins s σ H Q I (k σ H Q hw)⟩
theorem kNil : PK X [] (rdG e W RA mNil) := PK.weak pk_nil fun σ H Q ⟨F, ρ, s, r, h⟩ => rdAt_pure (R := RA) h r (by show RepL _ _ _ _ [] []; unfold RepL; rfl)
theorem kCons {nm : Option Str} {a : Expr} {kpos : Pos} {kws : List Keyword} {fa : M D} {fk : M (List D)} (ha : DE X e W a fa) (hk : PK X kws (rdG e W RA fk)) : PK X (⟨nm, a, kpos⟩ :: kws) (rdG e W RA (mCons fa fk)) :=
  PK.weak (pk_cons ha hk) fun σ H Q q => rdG_bind q fun v F ρ s F1 ρ1 s1 H1 a r st r1 rr h => ⟨F1, ρ1, s1, r1, rdAt_bind h fun vs F2 ρ2 s2 H2 as st2 r2 rr2 h2 =>
    rdAt_pure (R := RA) h2 r2 (by show RepL _ _ _ _ (a :: as) (v :: vs); unfold RepL; exact ⟨v, vs, rfl, Rep.stp r1 st2 rr, rr2⟩)⟩
/-- x() -/
theorem eCall0 {F : Fn} (L : Lk X e W) (C : Cal X.prog X.w e.c X.base k x 0 F) (hr : Room k X.A) (hg : Gl X x := by rfl) (hdb : (x == ("__debug__" : Str)) = false := by decide) : DE X e W (.Call (.Name x p) [] [] pos) (mCall F mNil) := by
  obtain ⟨fa, fd, ps, hps, Fo, hm, hk, hb⟩ := C.ex
  rw [L.c] at Fo hm hk hb
  constructor
  intro pins s σ H Q I ⟨F0, ρ, s0, r, h⟩
  refine wpAny_Call_Name_kw (ld_glob I hg hm ?_ hdb)
  refine PySem.W.callWith_K0 (K := X.K) I.kIn hk ?_
  have h2 : spD e.c 0 F [] H Q (WE W σ) := by
    refine rd_callF (Hs := H) (R := RD) (ds := []) (F := F0) (ρ := ρ) (s := s0) (fun _ _ _ _ _ _ _ h => h) rfl r (by unfold RepL; rfl) ?_
    exact h
  rw [L.c] at h2
  exact run_ls (as := ⟨[] ++ [], []⟩) L.tk Fo hr I .nil (hb s [] I.kIn (by rw [hps]; rfl)) h2
/-- y(..), y a slot that holds a def of the module -/
def mCallV (fv : M D) (fs : List (Str × Fn)) (f : M (List D)) : M D := M.bind fv fun v => match v with
  | .fn x => (match fs.lookup x with
    | some g => mCall g f
    | none => M.bad)
  | _ => M.bad
theorem eCallL (i : Nat) {n : Nat} {y : Str} {a : Expr} {as : List Expr} (fs : List (Str × Fn)) (L : Lk X e W) (C : ∀ x g, fs.lookup x = some g → ∃ k, Room k X.A ∧ Cal X.prog X.w e.c X.base k x n g) (ha : DA X e W (a :: as) f) (hlen : ∀ s ds s', f s = .ok ds s' → ds.length = (a :: as).length) (hl : (a :: as).length = n := by rfl)
    (hN : X.N[i]? = some y := by rfl) (hv : Vis X.env.scope y := by first | exact Or.inl rfl | exact Or.inr (Or.inl rfl) | exact Or.inr (Or.inr rfl)) (hd : (y == ("__debug__" : Str)) = false := by decide) (hcd : (y == ("__classdict__" : Str)) = false := by decide)
    (he : starEach (a :: as) X.env = (false, eval a X.env) :: starEach as X.env := by rfl) (hpl : (backTo pos (starEach as X.env)).any (·.1) = false := by rfl) : DE X e W (.Call (.Name y p) (a :: as) [] pos) (mCallV (mVar i) fs f) := by
  constructor
  intro pins s σ H Q I h
  refine wpAny_Call_Name_kw (thn ((vE (e := e) (W := W) (pos := p) i hN hv hd hcd).run pins s σ H _ I (rdG_bind h fun v F ρ s F1 ρ1 s1 H1 d r st r1 rp h => (show ∃ (fa : Addr) (x : Str) (g : Fn), v = .ref fa ∧ e.c.mg x = some (.ref fa) ∧ fs.lookup x = some g ∧ rdG e W RD (mCall g f) σ H1 Q from ?_))) fun u t1 ⟨v, H1, I1, r1, q1⟩ => ?_)
  · cases d with
    | fn x =>
      have rp : Rep e.c F1 ρ1 H1 (.fn x) v := rp
      unfold Rep at rp
      obtain ⟨fa, rfl, hm⟩ := rp
      cases z : fs.lookup x with
      | none => dsimp only at h; rw [z] at h; exact (show False from h).elim
      | some g =>
        dsimp only at h
        rw [z] at h
        refine ⟨fa, x, g, rfl, hm, z, F1, ρ1, s1, r1, ?_⟩
        unfold rdAt at h ⊢
        dsimp only at h
        cases w : mCall g f s1 with
        | bad => rw [w] at h; exact h
        | ok d s' => rw [w] at h; exact h
        | exc x s' => rw [w] at h; exact h
    | _ => exact (show False from h).elim
  · obtain ⟨fa, x, g, rfl, hm, hx, q⟩ := q1
    obtain rfl : u = Value.ref fa := r1
    obtain ⟨k, hr, Cx⟩ := C x g hx
    obtain ⟨fa2, fd, ps, hps, Fo, hm2, hk, hb⟩ := Cx.ex
    rw [hm] at hm2
    cases hm2
    rw [L.c] at Fo hm hk hb
    refine PySem.W.callWith_K (h₀ := X.base) I1.ok.mod.kin hk ?_ he hpl
    have h2 : rdG e W RA f σ H1 fun vs H2 => vs.length = n ∧ spD e.c n g vs H2 Q (WE W σ) := by
      obtain ⟨F, ρ, s0, r, h⟩ := q
      refine ⟨F, ρ, s0, r, ?_⟩
      have key := h
      unfold rdAt mCall M.bind Res.bind at key
      unfold rdAt
      cases z : f s0 with
      | bad => rw [z] at key; exact key
      | exc x s' => rw [z] at key; exact key
      | ok ds s' =>
        rw [z] at key
        intro vs F1 ρ1 H1 st r1 rr
        have rr : RepL e.c F1 ρ1 H1 ds vs := rr
        have hl2 : vs.length = n := by rw [rr.length, hlen _ _ _ z, hl]
        refine ⟨hl2, rd_callF (Hs := H) (R := RD) (fun _ _ _ _ _ _ _ h => h) hl2 r1 rr ?_⟩
        unfold rdAt
        dsimp only at key ⊢
        cases w : g ds s'.st with
        | bad => rw [w] at key; exact key
        | ok d st' => rw [w] at key; exact fun v F' ρ' H' st2 => key v F' ρ' H' (st.trans st2)
        | exc x st' => rw [w] at key; exact fun cls dd F' ρ' H' st2 => key cls dd F' ρ' H' (st.trans st2)
    refine thn (ha.run pos pins t1 σ H1 _ I1 h2) fun us s2 ⟨vs, H2, I2, rz, hl3, q2⟩ => ⟨I2.kIn, ?_⟩
    rw [L.c] at q2
    have b := hb s2 us I2.kIn (by rw [List.append_nil, ← rz.length, hl3, hps])
    rw [List.append_nil] at b
    exact run_ls (as := ⟨[] ++ us, []⟩) L.tk Fo hr I2 rz b q2
/-- a statement that is never reached -/
def sNever : SM := fun _ => .bad
theorem ds_neverS {st : Stmt} : DS X e W st sNever := ⟨fun pins s σ H D I h => by
  obtain ⟨F, ρ, s0, r, h⟩ := h
  exact (show False from h).elim⟩
theorem de_neverE {a : Expr} : DE X e W a M.bad := ⟨fun pins s σ H D I h => by
  obtain ⟨F, ρ, s0, r, h⟩ := h
  exact (show False from h).elim⟩
end
theorem handed_nil {x : Str} {g : Fn} {p : Prop} (h : ([] : List (Str × Fn)).lookup x = some g) : p := by cases h
theorem handed_cons {x y : Str} {g gy : Fn} {fs : List (Str × Fn)} (h : ((y, gy) :: fs).lookup x = some g) : (x = y ∧ g = gy) ∨ fs.lookup x = some g := by
  rw [List.lookup_cons] at h
  cases z : x == y with
  | true => rw [z] at h; cases h; exact .inl ⟨beq_iff_eq.mp z, rfl⟩
  | false => rw [z] at h; exact .inr h
/-- the errors of the package -/
def sayErrs : List Str := (["BadAt", "BadDay", "BadDays", "BadEdit", "BadEdits", "BadFirst", "BadLeast", "BadLength", "BadLine", "BadMany", "BadMark", "BadMost", "BadName", "BadNumber", "BadOne", "BadOther", "BadPlace", "BadPlaces", "BadPromise", "BadRow", "BadRows", "BadSketch", "BadText", "BadTop", "BadValue", "BadWorkshop", "Clash", "Empty", "InUse", "NoElder", "NoName", "NoPromise", "NothingLeft", "TooMany"] : List String).map Str.ofString
theorem Below.refl (g : Fn) : Below g g := fun _ _ _ => rfl
/-! ### the head's facts of the errors, of keywords -/
def isFree (z : Str) : He.Fa → Bool
  | .free x => x == z
  | _ => false
def isExm (z : Str) : He.Fa → Bool
  | .exm x y b => x == z && (y == ("SayError" : Str) && b)
  | _ => false
def isGlo (z : Str) : He.Fa → Bool
  | .glo x => x == z
  | _ => false
def errsB (fa : List He.Fa) : Bool := sayErrs.all fun z => fa.any (isFree z) || (fa.any (isExm z) && fa.any (isGlo z))
theorem errs_ok {fa : List He.Fa} {K : PySem.W.Frag} {h : Heap} {mg : Str → Option Value} (X : K.In h) (G : h.Ns mainGlobals mg) (c : ∀ f ∈ fa, f.ok K = true) (b : errsB fa = true) :
    ∀ z ∈ sayErrs, ∀ C, mg z = some (.ref C) → PySem.W.exmOne K (.ref C) (.ref (He.ga K "SayError")) = some true := fun z hz C hC => by
  have q := List.all_eq_true.mp b z hz
  rw [Bool.or_eq_true, Bool.and_eq_true, List.any_eq_true, List.any_eq_true, List.any_eq_true] at q
  rcases q with ⟨f, hf, e⟩ | ⟨⟨f, hf, e⟩, f2, hf2, e2⟩
  · cases f with
    | free x =>
      have ex : x = z := beq_iff_eq.mp e
      subst ex
      rw [He.free_ok X G (c _ hf)] at hC
      cases hC
    | _ => cases e
  · cases f with
    | exm x y b =>
      have e : (x == z && (y == ("SayError" : Str) && b)) = true := e
      rw [Bool.and_eq_true, Bool.and_eq_true] at e
      obtain ⟨a1, a2, a3⟩ := e
      have a1 := beq_iff_eq.mp a1
      have a2 := beq_iff_eq.mp a2
      subst a1 a2 a3
      cases f2 with
      | glo w =>
        have ew : w = x := beq_iff_eq.mp e2
        subst ew
        rw [He.glo_ok X G (c _ hf2)] at hC
        cases hC
        exact He.exm_ok (c _ hf)
      | _ => cases e2
    | _ => cases e
theorem fun_bindsK {K : PySem.W.Frag} {x qual : Str} {st : Stmt} {f : Addr} {fd : FuncData} {ps ks : List Str} {perm : List Nat} {m : Nat} (F : Fun K x qual st f fd)
    (h : ∀ (kV doc pm : Value) (an : Option Addr) (cdv ct : Value) (us ws : List Value), us.length = m → ws.length = ks.length → bindArgs (PySem.W.fnOf x qual (defArgs st) (defBody st) (defScope st) .none kV doc pm an cdv ct) ⟨us, ks.zip ws⟩ = pure (ps.zip (permL perm (us ++ ws))))
    (s : Shared) (us ws : List Value) (h1 : us.length = m) (h2 : ws.length = ks.length) : BindsTo s fd ⟨us, ks.zip ws⟩ (ps.zip (permL perm (us ++ ws))) := by
  obtain ⟨oc, od, kV, doc, pm, an, cdv, ct, osl, e, lk, hcd⟩ := F.ex
  subst e
  exact .of_eq (h kV doc pm an cdv ct us ws h1 h2)
end Ls
/-! comprehensions of two walks -/
namespace Ls
open PySem PySem.Spec L2
/-- the inner turns are those of a comprehension of one walk -/
def lc2L (is js : List Nat) (tf : D → S → Option S) (cond : M Bool) (it2 : M (List D)) (tf2 : D → S → Option S) (cond2 : M Bool) (elt : M D) : List D → List D → M (List D)
  | [], acc => fun s => .ok acc s
  | d :: ds, acc => fun s => match tf d s with
    | none => .bad
    | some s1 => match cond s1 with
      | .ok true s2 => (match it2 s2 with
        | .ok es s3 => (match lcL js tf2 cond2 elt es acc (wipeS js s3) with
          | .ok acc2 s4 => lc2L is js tf cond it2 tf2 cond2 elt ds acc2 (wipeS is s4)
          | _ => .bad)
        | _ => .bad)
      | .ok false s2 => lc2L is js tf cond it2 tf2 cond2 elt ds acc (wipeS is s2)
      | _ => .bad
def mLc2 (is js : List Nat) (it : M (List D)) (tf : D → S → Option S) (cond : M Bool) (it2 : M (List D)) (tf2 : D → S → Option S) (cond2 : M Bool) (elt : M D) : M (List D) := M.bind it fun ds => fun s =>
  if is.all (fun i => slFree (s.env.getD i .emp)) && js.all (fun j => is.contains j) then (match lc2L is js tf cond it2 tf2 cond2 elt ds [] (wipeS is s) with
    | .ok acc s' => .ok acc { s' with env := restE s.env s'.env is }
    | _ => .bad) else .bad
section
variable {X : Cx} {e : En} {F F' F1 F2 : Addr → Prop} {ρ ρ' ρ1 ρ2 : List Addr} {s s' s1 s2 t t' : S} {σ τ : L2.St} {H H' H1 H2 Hs : Hp} {W : WX} {D : Addr}
/-! a step seen without one address -/
theorem Stp.del (x : Stp F F' ρ ρ' s s' σ H H') (D : Addr) : Stp F F' ρ ρ' s s' σ (delH H D) (delH H' D) := by
  have fr : ∀ a, Fr H a → Fr (delH H D) a := fun a h o q m => by
    by_cases z : a = D
    · rw [z, delH_same] at q; cases q
    · rw [delH_ne z] at q; exact h o q m
  have at_ : ∀ {G : Hp} {a o}, delH G D a = some o → a ≠ D ∧ G a = some o := fun {G a o} q => by
    by_cases z : a = D
    · rw [z, delH_same] at q; cases q
    · rw [delH_ne z] at q; exact ⟨z, q⟩
  refine ⟨x.mono, fun a h => (x.new a h).imp id (Or.imp (fr a) id), x.own, ?_, fun a o h n m => ?_, fun a h z => ?_⟩
  · obtain ⟨u, e, hu⟩ := x.rho
    exact ⟨u, e, fun a ha => fr a (hu a ha)⟩
  · obtain ⟨z, q⟩ := at_ h
    rw [delH_ne z]
    exact x.keep a o q n m
  · obtain ⟨o, q, m⟩ := Fr.not h
    obtain ⟨z1, q⟩ := at_ q
    refine x.dom a (fun y => y.no q m) fun o' q' m' => z o' ?_ m'
    rw [delH_ne z1]
    exact q'
theorem Stp.undel (x : Stp F F' ρ ρ' s s' σ (delH H D) (delH H' D)) (hD : H D = none) : Stp F F' ρ ρ' s s' σ H H' := by
  have eH : delH H D = H := by
    funext a
    by_cases z : a = D
    · rw [z, delH_same, hD]
    · rw [delH_ne z]
  rw [eH] at x
  have out : ∀ {a o}, delH H' D a = some o → H' a = some o := fun {a o} q => by
    by_cases z : a = D
    · rw [z, delH_same] at q; cases q
    · rw [delH_ne z] at q; exact q
  exact ⟨x.mono, x.new, x.own, x.rho, fun a o h n m => out (x.keep a o h n m), fun a h z => x.dom a h fun o q m => z o (out q) m⟩
theorem Stp.conv (x : Stp F F' ρ ρ' s s' σ H H') (h1 : ∀ a, owned s.env σ a → owned t.env τ a) (h2 : ∀ a, owned t'.env τ a → owned t.env τ a) : Stp F F' ρ ρ' t t' τ H H' :=
  ⟨x.mono, fun a h => (x.new a h).imp id (Or.imp id (h1 a)), h2, x.rho, x.keep, x.dom⟩
theorem delH_upd {o : HO} : delH (upd H D o) D = delH H D := by
  funext a
  by_cases z : a = D
  · rw [z, delH_same, delH_same]
  · rw [delH_ne z, delH_ne z, upd_ne z]
theorem Stp.kpD (x : Stp F F' ρ ρ' s s' σ (delH H D) (delH H' D)) (r : Rel e F ρ t τ H) (nF : ¬ F D) : Kp F F' ρ ρ' H H' := by
  obtain ⟨u, hu, _⟩ := x.rho
  refine ⟨x.mono, ⟨u, hu⟩, fun a o f h => ?_⟩
  have z : a ≠ D := fun z => nF (z ▸ f)
  obtain ⟨w, h1, h2⟩ := r.trk a f
  rw [h] at h1
  cases h1
  have q := x.keep a o (by rw [delH_ne z]; exact h) (fun q => r.sep a q f) h2
  rw [delH_ne z] at q
  exact q
theorem wipe_at (is : List Nat) (σ : L2.St) (j : Nat) : (L2.wipe σ is)[j]? = if j ∈ is then (if j < σ.length then some none else none) else σ[j]? := by
  by_cases h : j ∈ is
  · rw [if_pos h]
    by_cases l : j < σ.length
    · rw [if_pos l]
      have l2 : j < (L2.wipe σ is).length := by rw [L2.wipe_length]; exact l
      rw [List.getElem?_eq_getElem l2]
      cases q : (L2.wipe σ is)[j] with
      | none => rfl
      | some v =>
        have q2 : (L2.wipe σ is)[j]? = some (some v) := by rw [List.getElem?_eq_getElem l2, q]
        exact absurd h (wipe_some q2).2
    · rw [if_neg l]
      exact List.getElem?_eq_none (by rw [L2.wipe_length]; omega)
  · rw [if_neg h]
    exact wipe_get is j h
theorem wipe_sub {is js : List Nat} (h : ∀ j ∈ js, j ∈ is) : L2.wipe (L2.wipe σ js) is = L2.wipe σ is := by
  apply List.ext_getElem?
  intro j
  rw [wipe_at is (L2.wipe σ js) j, wipe_at is σ j, L2.wipe_length]
  by_cases z : j ∈ is
  · rw [if_pos z, if_pos z]
  · rw [if_neg z, if_neg z, wipe_get js j fun q => z (h j q)]
/-- the turns of the inner walk: the list at D grows -/
theorem lc_in {is : List Nat} {tf : Ls.D → S → Option S} {cond : M Bool} {elt : M Ls.D} {es accd0 accd' : List Ls.D} {acc0 : List V} {J : It} {R : Hp → Prop} (r1 : Rel e F1 ρ1 (wipeS is s1) (L2.wipe σ is) H1) (dl : Deliv e.c J F1 ρ1 H1 es) (hD : H1 D = some (.lst acc0))
    (hacc0 : RepL e.c F1 ρ1 H1 accd0 acc0) (n1 : ¬ F1 D) (n2 : D ∉ ρ1) (n3 : Fr e.H0 D) (n4 : ¬ owned (wipeS is s1).env (L2.wipe σ is) D) (h : lcL is tf cond elt es accd0 (wipeS is s1) = .ok accd' s')
    (k : ∀ F ρ H acc, Stp F1 F ρ1 ρ (wipeS is s1) s' (L2.wipe σ is) (delH H1 D) (delH H D) → Rel e F ρ s' (L2.wipe σ is) H → H D = some (.lst acc) → RepL e.c F ρ H accd' acc → ¬ F D → D ∉ ρ → R H) :
    ∃ W1 : Nat → Nat → Hp → Prop, (∃ m, W1 0 m H1) ∧ ∀ i m H, W1 i m H → (J.stop i H ∧ R H) ∨ (J.go i H ∧ ∃ Nx : Hp → Prop, (∀ H', Nx H' → ∃ m', m' < m ∧ W1 (i + 1) m' H') ∧ ∀ x H', J.yld i H x H' →
      rdTg e is tf x (L2.wipe σ is) H' fun σ3 H5 => L2.wipe σ3 is = L2.wipe σ is ∧ rdG e wFalse RT cond σ3 H5 fun b H6 => if b = true then rdG e wFalse RD elt σ3 H6 fun y H7 => ∃ acc, H7 D = some (.lst acc) ∧ acc.length < sizeLine ∧ Nx (upd H7 D (.lst (acc ++ [y]))) else Nx H6) := by
  refine ⟨fun i m H => m = es.length - i ∧ i ≤ es.length ∧ ∃ F ρ s acc accd, Stp F1 F ρ1 ρ (wipeS is s1) s (L2.wipe σ is) (delH H1 D) (delH H D) ∧ Rel e F ρ s (L2.wipe σ is) H ∧ H D = some (.lst acc) ∧ RepL e.c F ρ H accd acc ∧ ¬ F D ∧ D ∉ ρ ∧
      lcL is tf cond elt (es.drop i) accd s = .ok accd' s', ⟨es.length, rfl, Nat.zero_le _, F1, ρ1, wipeS is s1, acc0, accd0, Stp.refl, r1, hD, hacc0, n1, n2, h⟩, ?_⟩
  rintro i m H ⟨rfl, hi, F3, ρ3, s3, acc, accd, st3, r3, hDa, hacc, nF, nρ, eq⟩
  have dl' := dl.kp (st3.kpD r1 n1)
  by_cases hlt : i < es.length
  case neg =>
    have hi' : i = es.length := by omega
    subst hi'
    rw [List.drop_length] at eq
    have eq : Res.ok accd s3 = Res.ok accd' s' := eq
    cases eq
    exact .inl ⟨(dl' F3 ρ3 H Kp.refl _).1 (Nat.le_refl _), k F3 ρ3 H acc st3 r3 hDa hacc nF nρ⟩
  have hd : es[i]? = some es[i] := List.getElem?_eq_getElem hlt
  have hdr : es.drop i = es[i] :: es.drop (i + 1) := List.drop_eq_getElem_cons hlt
  generalize es[i] = d at hd hdr
  refine .inr ⟨((dl' F3 ρ3 H Kp.refl i).2 d hd).1, fun H' => ∃ F ρ s acc accd, Stp F1 F ρ1 ρ (wipeS is s1) s (L2.wipe σ is) (delH H1 D) (delH H' D) ∧ Rel e F ρ s (L2.wipe σ is) H' ∧ H' D = some (.lst acc) ∧ RepL e.c F ρ H' accd acc ∧ ¬ F D ∧ D ∉ ρ ∧
      lcL is tf cond elt (es.drop (i + 1)) accd s = .ok accd' s', fun H' w => ⟨es.length - (i + 1), by omega, rfl, hlt, w⟩, fun x H'' y => ?_⟩
  obtain ⟨F4, r4, st4, rp4⟩ := Deliv.item (c := e.c) hd r3 dl' y
  refine ⟨F4, ρ3, s3, d, r4, rp4, ?_⟩
  rw [hdr] at eq
  have eq : (match tf d s3 with
    | none => Res.bad
    | some s1 => match cond s1 with
      | .ok true s2 => (match elt s2 with
        | .ok y s3 => if accd.length < SZ then lcL is tf cond elt (es.drop (i + 1)) (accd ++ [y]) (wipeS is s3) else .bad
        | _ => .bad)
      | .ok false s2 => lcL is tf cond elt (es.drop (i + 1)) accd (wipeS is s2)
      | _ => .bad) = .ok accd' s' := eq
  cases w : tf d s3 with
  | none => rw [w] at eq; cases eq
  | some s5 =>
    rw [w] at eq
    dsimp only at eq
    intro σ5 w5 o5 r5
    have ws : L2.wipe (L2.wipe σ is) is = L2.wipe σ is := wipe_sub fun _ h => h
    have w5 : L2.wipe σ5 is = L2.wipe σ is := w5.trans ws
    refine ⟨w5, F4, ρ3, s5, r5, ?_⟩
    have hDa4 : H'' D = some (.lst acc) := st4.keep D _ hDa nρ (by nofun)
    have nO : ∀ a, owned s5.env σ5 a → a ≠ D := fun a h z => n4 (st3.own D (o5 D (z ▸ h)))
    have nF4 : ¬ F4 D := fun q => by
      rcases st4.new D q with q | q | q
      · exact nF q
      · exact q.no hDa
      · exact n4 (st3.own D q)
    have back : ∀ {F7 : Addr → Prop} {ρ7 : List Addr} {s7 : S} {H7 : Hp}, Stp F4 F7 ρ3 ρ7 s5 s7 σ5 H'' H7 → Rel e F7 ρ7 s7 σ5 H7 → Rel e F7 ρ7 (wipeS is s7) (L2.wipe σ is) H7 ∧ Stp F1 F7 ρ1 ρ7 (wipeS is s1) (wipeS is s7) (L2.wipe σ is) (delH H1 D) (delH H7 D) ∧ H7 D = some (.lst acc) ∧ ¬ F7 D ∧ D ∉ ρ7 ∧ ¬ owned (wipeS is s7).env (L2.wipe σ is) D :=
      fun {F7 ρ7 s7 H7} st7 r7 => by
        have q := r7.wipe is
        rw [w5] at q
        have sw : ∀ a, owned (wipeS is s7).env (L2.wipe σ is) a → owned s3.env (L2.wipe σ is) a := fun a ha => by
          rw [← w5] at ha
          exact o5 a (st7.own a (owned_wipe is a ha))
        refine ⟨q, st3.trans ((st4.del D).trans ((st7.del D).conv (fun a ha => o5 a ha) sw)), st7.keep D _ hDa4 nρ (by nofun), fun f => ?_, (rd_stp st7 nρ (.of hDa4)).2, fun o => n4 (st3.own D (sw D o))⟩
        rcases st7.new D f with q | q | q
        · exact nF4 q
        · exact q.no hDa4
        · exact nO D q rfl
    unfold rdAt
    cases u : cond s5 with
    | bad => rw [u] at eq; cases eq
    | exc x s' => rw [u] at eq; cases eq
    | ok b s6 =>
      rw [u] at eq
      intro b' F6 ρ6 H6 st6 r6 eb
      have eb : b = b' := eb
      subst eb
      cases b with
      | false =>
        rw [if_neg Bool.false_ne_true]
        obtain ⟨r8, st8, d8, f8, p8, _⟩ := back st6 r6
        exact ⟨F6, ρ6, wipeS is s6, acc, accd, st8, r8, d8, RepL.stp r5 st6 (RepL.stp r3 st4 hacc), f8, p8, eq⟩
      | true =>
        rw [if_pos rfl]
        refine ⟨F6, ρ6, s6, r6, ?_⟩
        unfold rdAt
        dsimp only at eq
        cases v : elt s6 with
        | bad => rw [v] at eq; cases eq
        | exc x s' => rw [v] at eq; cases eq
        | ok z s7 =>
          rw [v] at eq
          intro x F7 ρ7 H7 st7 r7 rp
          by_cases hz : accd.length < SZ
          case neg => dsimp only at eq; rw [if_neg hz] at eq; cases eq
          dsimp only at eq
          rw [if_pos hz] at eq
          obtain ⟨r8, st8, d8, f8, p8, o8⟩ := back (st6.trans st7) r7
          have rl7 : RepL e.c F7 ρ7 H7 accd acc := RepL.stp r6 st7 (RepL.stp r5 st6 (RepL.stp r3 st4 hacc))
          have r9 := r8.grow (o' := .lst (acc ++ [x])) d8 f8 p8 o8 n3
          have k9 : Kp F7 F7 ρ7 ρ7 H7 (upd H7 D (.lst (acc ++ [x]))) := ⟨fun _ h => h, ⟨[], by simp⟩, fun a o f ha => by rw [upd_ne (fun z => f8 (by rw [← z]; exact f))]; exact ha⟩
          refine ⟨acc, d8, by rw [rl7.length, ← SZ_eq]; exact hz, F7, ρ7, wipeS is s7, acc ++ [x], accd ++ [z], by rw [delH_upd]; exact st8, r9, upd_same, ?_, f8, p8, eq⟩
          exact (RepL.kp k9 _ _ rl7).append (by unfold RepL; exact ⟨x, [], rfl, Rep.kp k9 _ _ rp, by unfold RepL; rfl⟩)
/-- the reading of a comprehension of two walks -/
theorem rd_lc2 {is js : List Nat} {it it2 : M (List Ls.D)} {tf tf2 : Ls.D → S → Option S} {cond cond2 : M Bool} {elt : M Ls.D} {Q : VK} (h : rdG e W RL (mLc2 is js it tf cond it2 tf2 cond2 elt) σ H Q) :
    tLc2 (rdI e W it) (rdTg e is tf) (rdG e wFalse RT cond) (rdI e wFalse it2) (rdTg e js tf2) (rdG e wFalse RT cond2) (rdG e wFalse RD elt) is js σ H Q := by
  obtain ⟨F, ρ, s, r, h⟩ := h
  refine ⟨F, ρ, s, r, ?_⟩
  unfold rdAt mLc2 M.bind Res.bind at h
  cases z : it s with
  | bad => rw [z] at h; exact h
  | exc x s' => rw [z] at h; exact h
  | ok ds s1 =>
    rw [z] at h
    intro J F1 ρ1 H1 st r1 dl D hD
    dsimp only at h
    by_cases fr0 : (is.all (fun i => slFree (s1.env.getD i .emp)) && js.all (fun j => is.contains j)) = true
    case neg => rw [if_neg fr0] at h; exact h.elim
    rw [if_pos fr0] at h
    rw [Bool.and_eq_true] at fr0
    obtain ⟨fr, sb⟩ := fr0
    have sub : ∀ j ∈ js, j ∈ is := fun j hj => by simpa using List.all_eq_true.mp sb j hj
    obtain ⟨r0, st0, n1, n2, n3, n4⟩ := r1.laidN hD (.lst [])
    have n4w : ¬ owned (wipeS is s1).env (L2.wipe σ is) D := fun q => n4 (owned_wipe is D q)
    have hD0 : (upd H1 D (.lst [])) D = some (.lst []) := upd_same
    cases fin : lc2L is js tf cond it2 tf2 cond2 elt ds [] (wipeS is s1) with
    | bad => rw [fin] at h; exact h.elim
    | exc x s' => rw [fin] at h; exact h.elim
    | ok accF sF =>
    rw [fin] at h
    dsimp only at h
    refine ⟨fun i m H => m = ds.length - i ∧ i ≤ ds.length ∧ ∃ F ρ s acc accd, Stp F1 F ρ1 ρ (wipeS is s1) s (L2.wipe σ is) (delH H1 D) (delH H D) ∧ Rel e F ρ s (L2.wipe σ is) H ∧ H D = some (.lst acc) ∧ RepL e.c F ρ H accd acc ∧ ¬ F D ∧ D ∉ ρ ∧
        lc2L is js tf cond it2 tf2 cond2 elt (ds.drop i) accd s = .ok accF sF, ⟨ds.length, rfl, Nat.zero_le _, F1, ρ1, wipeS is s1, [], [], by rw [delH_upd]; exact Stp.refl, r0.wipe is, upd_same, by unfold RepL; rfl, n1, n2, fin⟩, ?_⟩
    rintro i m H ⟨rfl, hi, F3, ρ3, s3, acc, accd, st3, r3, hDa, hacc, nF, nρ, eq⟩
    have dl' := dl.kp (show Kp F1 F3 ρ1 ρ3 H1 H by
      have eH : delH H1 D = delH (upd H1 D (.lst [])) D := delH_upd.symm
      have k1 := (eH ▸ st3).kpD r0 n1
      exact (st0.kp r1).trans k1)
    by_cases hlt : i < ds.length
    case neg =>
      have hi' : i = ds.length := by omega
      subst hi'
      rw [List.drop_length] at eq
      have eq : Res.ok accd s3 = Res.ok accF sF := eq
      cases eq
      obtain ⟨r8, st8⟩ := r1.rest fr (st3.undel hD) r3
      exact .inl ⟨(dl' F3 ρ3 H Kp.refl _).1 (Nat.le_refl _), h (.ref D) F3 ρ3 H (st.trans st8) r8 ⟨D, acc, rfl, Classical.byContradiction fun q => st.dom D q (.of hD), nF, nρ, n3, fun q => n4 (st8.own D q), hDa, hacc⟩⟩
    have hd : ds[i]? = some ds[i] := List.getElem?_eq_getElem hlt
    have hdr : ds.drop i = ds[i] :: ds.drop (i + 1) := List.drop_eq_getElem_cons hlt
    generalize ds[i] = d at hd hdr
    refine .inr ⟨((dl' F3 ρ3 H Kp.refl i).2 d hd).1, fun H' => ∃ F ρ s acc accd, Stp F1 F ρ1 ρ (wipeS is s1) s (L2.wipe σ is) (delH H1 D) (delH H' D) ∧ Rel e F ρ s (L2.wipe σ is) H' ∧ H' D = some (.lst acc) ∧ RepL e.c F ρ H' accd acc ∧ ¬ F D ∧ D ∉ ρ ∧
        lc2L is js tf cond it2 tf2 cond2 elt (ds.drop (i + 1)) accd s = .ok accF sF, fun H' w => ⟨ds.length - (i + 1), by omega, rfl, hlt, w⟩, fun x H'' y => ?_⟩
    obtain ⟨F4, r4, st4, rp4⟩ := Deliv.item (c := e.c) hd r3 dl' y
    refine ⟨F4, ρ3, s3, d, r4, rp4, ?_⟩
    rw [hdr] at eq
    have eq : (match tf d s3 with
      | none => Res.bad
      | some s1 => match cond s1 with
        | .ok true s2 => (match it2 s2 with
          | .ok es s3 => (match lcL js tf2 cond2 elt es accd (wipeS js s3) with
            | .ok acc2 s4 => lc2L is js tf cond it2 tf2 cond2 elt (ds.drop (i + 1)) acc2 (wipeS is s4)
            | _ => .bad)
          | _ => .bad)
        | .ok false s2 => lc2L is js tf cond it2 tf2 cond2 elt (ds.drop (i + 1)) accd (wipeS is s2)
        | _ => .bad) = .ok accF sF := eq
    cases w : tf d s3 with
    | none => rw [w] at eq; cases eq
    | some s5 =>
      rw [w] at eq
      dsimp only at eq
      intro σ5 w5 o5 r5
      have w5 : L2.wipe σ5 is = L2.wipe σ is := w5.trans (wipe_sub fun _ h => h)
      refine ⟨w5, F4, ρ3, s5, r5, ?_⟩
      have hDa4 : H'' D = some (.lst acc) := st4.keep D _ hDa nρ (by nofun)
      have nF4 : ¬ F4 D := fun q => by
        rcases st4.new D q with q | q | q
        · exact nF q
        · exact q.no hDa
        · exact n4w (st3.own D q)
      have nO : ∀ a, owned s5.env σ5 a → a ≠ D := fun a h z => n4w (st3.own D (o5 D (z ▸ h)))
      unfold rdAt
      cases u : cond s5 with
      | bad => rw [u] at eq; cases eq
      | exc x s' => rw [u] at eq; cases eq
      | ok b s6 =>
        rw [u] at eq
        intro b' F6 ρ6 H6 st6 r6 eb
        have eb : b = b' := eb
        subst eb
        have sw6 : ∀ a, owned (wipeS is s6).env (L2.wipe σ is) a → owned s3.env (L2.wipe σ is) a := fun a ha => by
          rw [← w5] at ha
          exact o5 a (st6.own a (owned_wipe is a ha))
        have at6 : ∀ {F7 : Addr → Prop} {ρ7 : List Addr} {s7 : S} {H7 : Hp}, Stp F4 F7 ρ3 ρ7 s5 s7 σ5 H'' H7 → H7 D = some (.lst acc) ∧ ¬ F7 D ∧ D ∉ ρ7 := fun {F7 ρ7 s7 H7} st7 => ⟨st7.keep D _ hDa4 nρ (by nofun), fun f => by
          rcases st7.new D f with q | q | q
          · exact nF4 q
          · exact q.no hDa4
          · exact nO D q rfl, (rd_stp st7 nρ (.of hDa4)).2⟩
        cases b with
        | false =>
          rw [if_neg Bool.false_ne_true]
          obtain ⟨d8, f8, p8⟩ := at6 st6
          have q := r6.wipe is
          rw [w5] at q
          exact ⟨F6, ρ6, wipeS is s6, acc, accd, st3.trans ((st4.del D).trans ((st6.del D).conv (fun a ha => o5 a ha) sw6)), q, d8, RepL.stp r5 st6 (RepL.stp r3 st4 hacc), f8, p8, eq⟩
        | true =>
          rw [if_pos rfl]
          refine ⟨F6, ρ6, s6, r6, ?_⟩
          dsimp only at eq
          cases v : it2 s6 with
          | bad => rw [v] at eq; cases eq
          | exc x s' => rw [v] at eq; cases eq
          | ok es s7 =>
            rw [v] at eq
            dsimp only at eq
            intro J1 F7 ρ7 H7 st7 r7 dl7
            obtain ⟨d8, f8, p8⟩ := at6 (st6.trans st7)
            have rl7 : RepL e.c F7 ρ7 H7 accd acc := RepL.stp r6 st7 (RepL.stp r5 st6 (RepL.stp r3 st4 hacc))
            have own7 : ∀ a, owned (wipeS js s7).env (L2.wipe σ5 js) a → owned s3.env (L2.wipe σ is) a := fun a ha => o5 a (st6.own a (st7.own a (owned_wipe js a ha)))
            cases inn : lcL js tf2 cond2 elt es accd (wipeS js s7) with
            | bad => rw [inn] at eq; cases eq
            | exc x s' => rw [inn] at eq; cases eq
            | ok acc2 s8 =>
              rw [inn] at eq
              dsimp only at eq
              refine lc_in (r7.wipe js) dl7 d8 rl7 f8 p8 n3 (fun o => n4w (st3.own D (own7 D o))) inn fun F ρ H acc9 stI rI hI rlI fI pI => ?_
              have q := rI.wipe is
              have ww : L2.wipe (L2.wipe σ5 js) is = L2.wipe σ is := (wipe_sub sub).trans w5
              have ow9 : ∀ a, owned (wipeS is s8).env (L2.wipe σ is) a → owned s3.env (L2.wipe σ is) a := fun a ha => by
                rw [← ww] at ha
                exact own7 a (stI.own a (owned_wipe is a ha))
              rw [ww] at q
              exact ⟨F, ρ, wipeS is s8, acc9, acc2, st3.trans ((st4.del D).trans ((((st6.trans st7).del D).conv (t := s3) (t' := s3) (fun a ha => o5 a ha) fun _ h => h).trans (stI.conv own7 ow9))), q, hI, rlI, fI, pI, eq⟩
theorem lLc2 {elt tg iter tg1 iter1 : Expr} {ifs ifs1 : List Expr} {scope : Scope} (own : List (Str × Nat)) (js : List Nat) {pos : Pos} {it it2 : M (List Ls.D)} {tf tf2 : Ls.D → S → Option S} {cond cond2 : M Bool} {fe : M Ls.D} (L : Lk X e W) (hN : X.N.Nodup) (hi : DI X e W tg iter it) (ok : blkC X.N X.env.scope scope own = true) (hv : ∀ i ∈ js, i ∈ own.map (·.2))
    (hg : ∀ (s : Shared) (H : Hp) (C : Addr) (cl : List (Str × Addr)) (fp : List Addr), DG (X.blk s H scope (compEnvC scope cl C X.env) fp) e (own.map (·.2)) tg tf) (ht : ∀ (s : Shared) (H : Hp) (C : Addr) (cl : List (Str × Addr)) (fp : List Addr), PTs (X.blk s H scope (compEnvC scope cl C X.env) fp) ifs (rdG e wFalse RT cond))
    (hi1 : ∀ (s : Shared) (H : Hp) (C : Addr) (cl : List (Str × Addr)) (fp : List Addr), DI (X.blk s H scope (compEnvC scope cl C X.env) fp) e wFalse tg1 iter1 it2)
    (hg1 : ∀ (s : Shared) (H : Hp) (C : Addr) (cl : List (Str × Addr)) (fp : List Addr), DG (X.blk s H scope (compEnvC scope cl C X.env) fp) e js tg1 tf2) (ht1 : ∀ (s : Shared) (H : Hp) (C : Addr) (cl : List (Str × Addr)) (fp : List Addr), PTs (X.blk s H scope (compEnvC scope cl C X.env) fp) ifs1 (rdG e wFalse RT cond2))
    (he : ∀ (s : Shared) (H : Hp) (C : Addr) (cl : List (Str × Addr)) (fp : List Addr), DE (X.blk s H scope (compEnvC scope cl C X.env) fp) e wFalse elt fe) (hs : ∀ x, foldedSetIterable iter X.env x = pure x := by intro _; rfl) (hs1 : ∀ env x, foldedSetIterable iter1 env x = pure x := by intro _ _; rfl) :
    DL X e W (.ListComp elt [⟨tg, iter, ifs, 0⟩, ⟨tg1, iter1, ifs1, 0⟩] scope pos) (mLc2 (own.map (·.2)) js it tf cond it2 tf2 cond2 fe) := PE.weak (pe_lc2 L.calm hN hi (blkOk_by ok) hv hg ht hi1 hg1 ht1 he hs hs1) fun σ H Q q => rd_lc2 q
end
end Ls
/-! all(list), the empty dict, min(list) .. -/
namespace Ls
open PySem PySem.Spec L2
section
variable {X : Cx} {e : En} {F F' F1 F2 : Addr → Prop} {ρ ρ' ρ1 ρ2 : List Addr} {s s' s1 s2 : S} {σ σ' : L2.St} {H H' H1 H2 Hs : Hp} {W : WX}
/-- the truths of a list -/
def blsL : List D → Option (List Bool)
  | [] => some []
  | .bl b :: ds => (blsL ds).map (b :: ·)
  | _ => none
def allL : List D → Option D
  | [.lst ds] => (blsL ds).map fun bs => .bl (bs.all id)
  | _ => none
theorem bls_rep {c : Ct} : ∀ {ds : List D} {bs : List Bool} {vs : List V}, blsL ds = some bs → RepL c F ρ H ds vs → vs = bs.map V.bl
  | [], bs, vs, h, r => by
    cases h
    unfold RepL at r
    exact r
  | d :: ds, bs, vs, h, r => by
    unfold RepL at r
    obtain ⟨v, ws, rfl, r1, r2⟩ := r
    cases d with
    | bl b =>
      have h : (blsL ds).map (b :: ·) = some bs := h
      cases q : blsL ds with
      | none => rw [q] at h; cases h
      | some cs =>
        rw [q] at h
        cases h
        unfold Rep at r1
        rw [r1, bls_rep q r2]
        rfl
    | _ => cases h
theorem c_all {c : Ct} : CallP c (rAll c.K) allL := by
  intro e F ρ s σ Hs H W ds d vs Q ec r l hg h
  subst ec
  unfold allL at hg
  split at hg
  · rename_i es
    cases q : blsL es with
    | none => rw [q] at hg; cases hg
    | some bs =>
      rw [q] at hg
      cases hg
      obtain ⟨v, rfl, l1⟩ := lentA1 l
      obtain ⟨a, ws, rfl, sq, rl⟩ := LentL.sq l1
      exact ⟨a, bs, rfl, bls_rep q rl ▸ sq, rdAt_pure h r rep_bl⟩
  · cases hg
theorem eAll {a : Expr} {as : List Expr} {g : M (List D)} {p pos : Pos} (L : Lk X e W) (B : Bt e.c) (ha : DAB X e W (a :: as) g) (hg : Gl X "all" := by rfl) (he : starEach (a :: as) X.env = (false, eval a X.env) :: starEach as X.env := by rfl) (hpl : (backTo pos (starEach as X.env)).any (·.1) = false := by rfl) : DE X e W (.Call (.Name "all" p) (a :: as) [] pos) (mB allL g) :=
  PE.weak (pe_callB (cr_all L.calm) hg (by have := B.all; rw [L.c] at this; exact this) (by decide +kernel) ha (by decide) (by decide) he hpl) fun σ H Q h => by have q := rd_call (c_all (c := e.c)) h; rw [L.hc] at q; exact q
/-- {} -/
theorem de_dict0 {pos : Pos} : DE X e W (.Dict [] [] pos) (M.pure (.dct [])) :=
  PE.weak pe_dnewK fun σ H Q ⟨F, ρ, s, r, h⟩ p hp => by
    obtain ⟨r2, st2⟩ := r.laidF hp (.dK [])
    refine h (.ref p) _ ρ _ st2 r2 ?_
    unfold RD Rep
    exact ⟨p, rfl, .inr rfl, [], upd_same, by unfold RepK; rfl⟩
/-- a def as a value -/
theorem eFn {k n : Nat} {x : Str} {g : Fn} {pos : Pos} (L : Lk X e W) (C : Cal X.prog X.w e.c X.base k x n g) (hg : Gl X x := by rfl) (hd : (x == ("__debug__" : Str)) = false := by decide) : DE X e W (.Name x pos) (M.pure (.fn x)) := by
  obtain ⟨fa, fd, ps, _, _, hm, _, _⟩ := C.ex
  have hm2 := hm
  rw [L.c] at hm2
  exact de_glob hg hm2 (v := .ref fa) rfl (fun F ρ H => by unfold Rep; exact ⟨fa, rfl, hm⟩) hd
/-- within a comprehension -/
theorem Lm.blk (M : Lm X e) (s : Shared) (H : Hp) (scope : Scope) (C : Addr) (cl : List (Str × Addr)) (fp : List Addr) : Lm (X.blk s H scope (compEnvC scope cl C X.env) fp) e := by
  obtain ⟨cd, P, h1, h2, h3, h4⟩ := M.ex
  exact ⟨cd, P, h1, h2, h3, h4⟩
end
end Ls
/-! slices by steps, in of a tuple, max and min of a list, constants of the module -/
namespace Ls
open PySem PySem.Spec PyProof.Rows L2
/-! ### t[lo:hi:c] -/
/-- the items of xs[lo:hi:c] -/
def pkS {α : Type} (c : Int) (xs : List α) (lo hi : Option Int) : List α :=
  (List.range (Builtin.Slice.slicePlaces (Builtin.Slice.sliceAdjust lo hi c xs.length).1 (Builtin.Slice.sliceAdjust lo hi c xs.length).2 c)).filterMap fun m : Nat => xs[((Builtin.Slice.sliceAdjust lo hi c xs.length).1 + (m : Int) * c).toNat]?
section
variable {prog : Program} {w : World} {A : Around} {E : Value → Shared → Prop} {s : Shared}
theorem sliceApplied_step {sl : Addr} {vl vu : Value} {lo hi : Option Int} {n : Nat} {c : Int} {u : Tok} {Q : Int × Int × Nat → Shared → Prop} (h0 : c ≠ 0) (hs : s.heap.IsSliceOf sl vl vu (.int c u)) (pl : IsPart vl lo) (pu : IsPart vu hi)
    (h : Q ((Builtin.Slice.sliceAdjust lo hi c (n : Int)).1, c, Builtin.Slice.slicePlaces (Builtin.Slice.sliceAdjust lo hi c (n : Int)).1 (Builtin.Slice.sliceAdjust lo hi c (n : Int)).2 c) s) : wpAny (model prog w) A (Builtin.Slice.sliceApplied (.ref sl) (pure (n : Int))) Q E s := by
  obtain ⟨os, hos, hcs, hds⟩ := id hs
  unfold Builtin.Slice.sliceApplied Builtin.Slice.sliceFields
  refine wpAny_bind (wpAny_bind (wpAny_field hos hds (x := vl) rfl (wpAny_bind (wpAny_field hos hds (x := vu) rfl (wpAny_bind (wpAny_field hos hds (x := .int c u) rfl (wpAny_pure ?_)))))))
  refine wpAny_bind (HT.slicePart_ (.int c u) ?_)
  show wpAny _ _ (if ((c : Int) == 0) = true then _ else _) _ _ s
  rw [if_neg (by simpa using h0)]
  refine wpAny_bind (HT.slicePart_ pl (wpAny_bind (HT.slicePart_ pu (wpAny_bind (wpAny_pure ?_)))))
  exact wpAny_pure h
theorem getItem_tuple_step {t sl : Addr} {items : Array Value} {vl vu : Value} {lo hi : Option Int} {c : Int} {u : Tok} {Q : Value → Shared → Prop} (h0 : c ≠ 0) (h1 : c ≠ 1) (ht : IsTup s.heap t items) (hs : s.heap.IsSliceOf sl vl vu (.int c u)) (pl : IsPart vl lo) (pu : IsPart vu hi)
    (h : Q (.ref s.heap.objs.size) { s with heap := s.heap.push { cls := .type "tuple", data := .seq (pkS c items.toList lo hi).toArray } })
    (hsz : (pkS c items.toList lo hi).length ≤ sizeLine) : wpAny (model prog w) A (getItem (.ref t) (.ref sl)) Q E s := by
  have htake : sizeOk (.seq (pkS c items.toList lo hi).toArray) := by
    show (pkS c items.toList lo hi).toArray.size ≤ sizeLine
    rw [List.size_toArray]
    exact hsz
  obtain ⟨os, hos, hcs, hds⟩ := id hs
  have hTs : s.TypeIs (.ref sl) "slice" := ⟨os, hos, hcs⟩
  unfold getItem
  try with_reducible refine wpAny_holding ?_
  first | refine wpAny_bind (wpAny_pure ?_) | skip
  refine wpAny_bind (wpAny_sequenceKey ht.typeIs (by decide) ?_)
  refine wpAny_bind (wpAny_callSpecial?_slot (name := Str.ofString "__getitem__") ht.typeIs PyProof.Rows.slot_tuple_getitem
    (wpAny_call_entry PyProof.Rows.slot_tuple_getitem ht.typeIs entry_tuple_getitem ?_ (args_tuple_getitem _ _)))
  show wpAny _ _ (Builtin.Tuple.tupleItemsOf (.ref t) >>= _) _ _ s
  refine wpAny_bind (tupleItemsOf_ ht ?_)
  refine wpAny_bind (wpAny_typeOf hTs ?_)
  rw [if_pos (by decide)]
  refine wpAny_bind (sliceApplied_step h0 hs pl pu ?_)
  have hno : ∀ (x y : Bool), ¬ ((x && (c : Int) == 1 && y) = true) := fun x y q => by
    rw [Bool.and_eq_true, Bool.and_eq_true] at q
    exact h1 (eq_of_beq q.1.2)
  have e : ((List.range (Builtin.Slice.slicePlaces (Builtin.Slice.sliceAdjust lo hi c (items.size : Int)).1 (Builtin.Slice.sliceAdjust lo hi c (items.size : Int)).2 c)).filterMap fun (m : Nat) => items[((Builtin.Slice.sliceAdjust lo hi c (items.size : Int)).1 + (m : Int) * c).toNat]?).toArray = (pkS c items.toList lo hi).toArray := by
    unfold pkS
    rw [Array.length_toList]
    simp only [Array.getElem?_toList]
  dsimp only
  rw [if_neg (hno _ _), e]
  first
    | exact wpAny_bind (m := Builtin.Tuple.tupleExact _) (wpAny_newObj_type (wpAny_pure ⟨_, rfl, wpAny_pure h⟩) htake)
    | exact wpAny_bind (m := Builtin.Tuple.tupleExact _) (wpAny_newObj_type (wpAny_bind (wpAny_pure (wpAny_pure ⟨_, rfl, wpAny_pure h⟩))) htake)
    | exact wpAny_bind (wpAny_bind (m := Builtin.Tuple.tupleExact _) (wpAny_newObj_type (wpAny_pure (wpAny_pure ⟨_, rfl, wpAny_pure h⟩)) htake))
    | exact wpAny_bind (wpAny_bind (m := Builtin.Tuple.tupleExact _) (wpAny_newObj_type (wpAny_pure ⟨_, rfl, wpAny_pure h⟩) htake))
end
section
variable {X : Cx} {a b e0 : Expr} {te : TE} {tl th : TO} {lo hi : Option Expr}
/-- t[lo:hi:c], c a written number -/
def tSlC (K : PySem.W.Frag) (c : Int) (te : TE) (tl th : TO) : TE := fun σ H Q => te σ H fun x H1 => tl σ H1 fun l H2 => th σ H2 fun u H3 => ∃ p xs, x = .ref p ∧ SqT K H3 p xs ∧ (pkS c xs l u).length ≤ sizeLine ∧ ∀ q, H3 q = none → Q (.ref q) (upd H3 q (.tup (pkS c xs l u)))
theorem vals_pk {xs : List V} {us : List Value} (r : Vals xs us) (c : Int) (lo hi : Option Int) : Vals (pkS c xs lo hi) (pkS c us lo hi) := by
  unfold pkS
  rw [r.length]
  generalize List.range _ = is
  have hl := r.length
  induction is with
  | nil => exact .nil
  | cons i is ih =>
    rw [List.filterMap_cons, List.filterMap_cons]
    cases q : xs[((Builtin.Slice.sliceAdjust lo hi c us.length).1 + (i : Int) * c).toNat]? with
    | none =>
      have : us[((Builtin.Slice.sliceAdjust lo hi c us.length).1 + (i : Int) * c).toNat]? = none := List.getElem?_eq_none (by have := List.getElem?_eq_none_iff.mp q; omega)
      rw [this]
      exact ih
    | some x =>
      obtain ⟨u, hu, hr⟩ := r.get q
      rw [hu]
      exact .cons hr ih
theorem pe_sliceC {p2 pos : Pos} {x : Expr} {tx : TE} {c : Int} (h0 : c ≠ 0) (h1 : c ≠ 1) (he : PE X e0 te) (hl : PO X lo tl) (hu : PO X hi th) (hx : PE X x tx) (hc : ∀ σ H Q, Q (.int c) H → tx σ H Q) :
    PE X (.Subscript e0 (.Slice lo hi (some x) p2) pos) (tSlC X.K c te tl th) := by
  refine ⟨fun pins s σ H Q I h => ?_⟩
  refine Subscript_ (thn (he.run pins s σ H _ I h) fun v s1 ⟨x0, H1, I1, r1, q1⟩ => ?_)
  refine wpAny_Slice (thn (hl.run pins s1 σ H1 _ I1 q1) fun vl s2 ⟨l, H2, I2, pl, q2⟩ => thn (hu.run pins s2 σ H2 _ I2 q2) fun vu s3 ⟨u, H3, I3, pu, q3⟩ => ?_)
  refine thn ((po_some hx).run pins s3 σ H3 (fun o H4 => o = some c ∧ H4 = H3) I3 (hc _ _ _ ⟨c, rfl, rfl, rfl⟩)) fun vs s4 ⟨o, H4, I4, ps, eo, e4⟩ => ?_
  subst eo e4
  obtain ⟨p, xs, ex, hxs, hz, q⟩ := q3
  subst ex
  cases r1
  have I5 : Inv X pins σ H4 { s4 with heap := s4.heap.push { cls := .type "slice", data := .fields #[vl, vu, vs] } } := I4.kept (t' := s4.toks) fun b ob q => Heap.get?_push_of_some _ q
  obtain ⟨its, r, ht, _⟩ := I5.tuple hxs
  cases ps with
  | int i t =>
    show wpAny (model X.prog X.w) X.A (subscriptTail e0 (.Slice lo hi (some x) p2) (.ref p) (.ref s4.heap.objs.size)) (EP X pins σ Q) X.xe { s4 with heap := s4.heap.push { cls := .type "slice", data := .fields #[vl, vu, .int c t] } }
    refine tail_any (ops := [.ref p, .ref s4.heap.objs.size]) ht.typeIs (PyProof.Rows.slot_tuple_getitem.lookup) ?_ (by with_unfolding_all rfl)
    have hv := vals_pk r c l u
    refine getItem_tuple_step h0 h1 ht (Heap.IsSliceOf.new _ vl vu (.int c t)) pl pu ?_ (by show (pkS c its l u).length ≤ sizeLine; rw [← hv.length]; exact hz)
    refine ⟨.ref _, _, I5.laid (t' := s4.toks) (o := .tup (pkS c xs l u)) (fun b ob q => Heap.get?_push_of_some _ q) (Nat.le_refl _) ?_, rfl, q _ (I5.hok.fresh (Nat.le_refl _))⟩
    exact ⟨hz, _, hv, IsTup.new _ _⟩
end
section
variable {X : Cx} {e : En} {F F' F1 F2 : Addr → Prop} {ρ ρ' ρ1 ρ2 : List Addr} {s s' s1 s2 : S} {σ σ' : L2.St} {H H' H1 H2 Hs : Hp} {W : WX}
theorem RepL.pk {c : Ct} {ds : List D} {vs : List V} (k : Int) (lo hi : Option Int) (h : RepL c F ρ H ds vs) : RepL c F ρ H (pkS k ds lo hi) (pkS k vs lo hi) := by
  unfold pkS
  have hl := h.length
  rw [hl]
  generalize List.range _ = is
  induction is with
  | nil => rw [List.filterMap_nil, List.filterMap_nil]; unfold RepL; rfl
  | cons i is ih =>
    rw [List.filterMap_cons, List.filterMap_cons]
    cases q : ds[((Builtin.Slice.sliceAdjust lo hi k ds.length).1 + (i : Int) * k).toNat]? with
    | none =>
      have : vs[((Builtin.Slice.sliceAdjust lo hi k ds.length).1 + (i : Int) * k).toNat]? = none := List.getElem?_eq_none (by have := List.getElem?_eq_none_iff.mp q; omega)
      rw [this]
      exact ih
    | some x =>
      obtain ⟨v, hv, hr⟩ := h.get q
      rw [hv]
      show RepL c F ρ H (x :: _) (v :: _)
      unfold RepL
      exact ⟨v, _, rfl, hr, ih⟩
def slcD (c : Int) (d : D) (lo hi : Option Int) : Option D := match d with
  | .tup ds => if (pkS c ds lo hi).length ≤ SZ then some (.tup (pkS c ds lo hi)) else none
  | _ => none
def mSlC (c : Int) (f : M D) (lo hi : M (Option Int)) : M D := M.bind f fun d => M.bind lo fun l => M.bind hi fun h => ofO (slcD c d l h)
theorem eSlC {x y : Expr} {lo hi : Option Expr} {f : M D} {fl fh : M (Option Int)} {p2 pos : Pos} {c : Int} {tx : TE} (L : Lk X e W) (ha : DB X e W x f) (hl : PO X lo (rdG e W RO fl)) (hh : PO X hi (rdG e W RO fh)) (hx : PE X y tx) (hc : ∀ σ H Q, Q (.int c) H → tx σ H Q)
    (h0 : c ≠ 0 := by decide) (h1 : c ≠ 1 := by decide) : DE X e W (.Subscript x (.Slice lo hi (some y) p2) pos) (mSlC c f fl fh) := by
  have hK : e.c.K = X.K := by rw [L.c]
  refine PE.weak (pe_sliceC h0 h1 ha hl hh hx hc) fun σ H Q q => ?_
  show rdG e W RB f σ H _
  refine rdG_bind q fun v F ρ s F1 ρ1 s1 H1 d r st r1 rr h => ?_
  refine ⟨F1, ρ1, s1, r1, rdAt_bind (R1 := RO) h fun l F2 ρ2 s2 H2 l' st2 r2 e2 h2 => ?_⟩
  have e2 : l' = l := e2
  subst e2
  refine ⟨F2, ρ2, s2, r2, rdAt_bind (R1 := RO) h2 fun u F3 ρ3 s3 H3 u' st3 r3 e3 h3 => ?_⟩
  have e3 : u' = u := e3
  subst e3
  obtain ⟨d', hd, h4⟩ := rdAt_ofO h3
  have rr : Lent e.c F3 ρ3 H3 d v := Lent.stp r2 st3 (Lent.stp r1 st2 rr)
  unfold slcD at hd
  split at hd
  · split at hd
    · rename_i hz
      cases hd
      obtain ⟨p, vs, rfl, sq, rl⟩ := Rep.tupSq rr
      rw [hK] at sq
      have rp := rl.pk c l' u'
      refine ⟨p, vs, rfl, sq, by rw [rp.length]; exact Nat.le_trans hz (by decide), fun n hn => ?_⟩
      obtain ⟨r', st'⟩ := r3.laidF hn (.tup (pkS c vs l' u'))
      refine h4 (.ref n) _ ρ3 _ st' r' ?_
      unfold RD Rep
      exact ⟨n, _, rfl, .inl ⟨.inr rfl, .of upd_same⟩, RepL.stp r3 st' rp⟩
    · cases hd
  · cases hd
theorem int2 {k : Int} {σ : L2.St} {H : Hp} {Q : V → Hp → Prop} (h : Q (.int k) H) : tC (.int k) σ H Q := h
theorem intN1 {σ : L2.St} {H : Hp} {Q : V → Hp → Prop} (h : Q (.int (-1)) H) : tUn (rU fun i => .int (-i)) (tC (.int 1)) σ H Q := ⟨1, rfl, h⟩
/-! ### max, min, sum of a list of ints -/
def intsL : List D → Option (List Int)
  | [] => some []
  | .int i :: ds => (intsL ds).map (i :: ·)
  | _ => none
theorem ints_rep {c : Ct} : ∀ {ds : List D} {ns : List Int} {vs : List V}, intsL ds = some ns → RepL c F ρ H ds vs → vs = ns.map V.int
  | [], ns, vs, q, l => by
    cases q
    unfold RepL at l
    exact l
  | .int i :: ds, ns, vs, q, l => by
    unfold intsL at q
    cases q2 : intsL ds with
    | none => rw [q2] at q; cases q
    | some ms =>
      rw [q2] at q
      cases q
      unfold RepL at l
      obtain ⟨v, ws, rfl, r, l⟩ := l
      unfold Rep at r
      rw [r, ints_rep q2 l]
      rfl
  | .non :: _, _, _, q, _ | .bl _ :: _, _, _, q, _ | .str _ :: _, _, _, q, _ | .tup _ :: _, _, _, q, _ | .lst _ :: _, _, _, q, _ | .wl _ :: _, _, _, q, _ | .dct _ :: _, _, _, q, _ | .dcT _ :: _, _, _, q, _ | .obj _ :: _, _, _, q, _ | .fn _ :: _, _, _, q, _ | .exc _ _ _ :: _, _, _, q, _ => by simp [intsL] at q
def maxI : List Int → Option Int
  | [] => none
  | i :: r => some (r.foldl max i)
def minI : List Int → Option Int
  | [] => none
  | i :: r => some (r.foldl min i)
theorem foldl_max : ∀ (r : List Int) (i : Int), (r.foldl max i = i ∨ r.foldl max i ∈ r) ∧ i ≤ r.foldl max i ∧ ∀ y ∈ r, y ≤ r.foldl max i
  | [], i => ⟨.inl rfl, Int.le_refl _, by simp⟩
  | j :: r, i => by
    obtain ⟨h1, h2, h3⟩ := foldl_max r (max i j)
    rw [List.foldl_cons]
    refine ⟨?_, by omega, fun y hy => ?_⟩
    · rcases h1 with h1 | h1
      · rcases Int.le_total i j with q | q
        · exact .inr (by rw [h1, Int.max_eq_right q]; simp)
        · exact .inl (by rw [h1, Int.max_eq_left q])
      · exact .inr (List.mem_cons_of_mem _ h1)
    · rcases List.mem_cons.mp hy with rfl | hy
      · omega
      · exact h3 y hy
theorem foldl_min : ∀ (r : List Int) (i : Int), (r.foldl min i = i ∨ r.foldl min i ∈ r) ∧ r.foldl min i ≤ i ∧ ∀ y ∈ r, r.foldl min i ≤ y
  | [], i => ⟨.inl rfl, Int.le_refl _, by simp⟩
  | j :: r, i => by
    obtain ⟨h1, h2, h3⟩ := foldl_min r (min i j)
    rw [List.foldl_cons]
    refine ⟨?_, by omega, fun y hy => ?_⟩
    · rcases h1 with h1 | h1
      · rcases Int.le_total i j with q | q
        · exact .inl (by rw [h1, Int.min_eq_left q])
        · exact .inr (by rw [h1, Int.min_eq_right q]; simp)
      · exact .inr (List.mem_cons_of_mem _ h1)
    · rcases List.mem_cons.mp hy with rfl | hy
      · omega
      · exact h3 y hy
def maxL : List D → Option D
  | [.lst ds] => (intsL ds).bind fun ns => (maxI ns).map .int
  | _ => none
def minL : List D → Option D
  | [.lst ds] => (intsL ds).bind fun ns => (minI ns).map .int
  | _ => none
def sumI : List D → Option D
  | [.lst ds] => (intsL ds).bind fun ns => some (.int ns.sum)
  | _ => none
theorem c_max {c : Ct} : CallP c (rMax c.K) maxL := by
  intro e F ρ s σ Hs H W ds d vs Q ec r l hg h
  subst ec
  unfold maxL at hg
  split at hg
  · rename_i es
    cases q : intsL es with
    | none => rw [q] at hg; cases hg
    | some ns =>
      rw [q] at hg
      cases ns with
      | nil => cases hg
      | cons i ns =>
        cases hg
        obtain ⟨v, rfl, l1⟩ := lentA1 l
        obtain ⟨a, ws, rfl, sq, rl⟩ := LentL.sq l1
        obtain ⟨m1, m2, m3⟩ := foldl_max ns i
        refine ⟨a, i :: ns, rfl, ints_rep q rl ▸ sq, by simp, fun m hm hle => ?_⟩
        have : m = ns.foldl max i := by
          refine Int.le_antisymm ?_ (hle _ ?_)
          · rcases List.mem_cons.mp hm with z | z
            · rw [z]; exact m2
            · exact m3 m z
          · rcases m1 with z | z
            · rw [z]; simp
            · exact List.mem_cons_of_mem _ z
        rw [this]
        exact rdAt_pure h r rep_int
  · cases hg
theorem c_min {c : Ct} : CallP c (rMin c.K) minL := by
  intro e F ρ s σ Hs H W ds d vs Q ec r l hg h
  subst ec
  unfold minL at hg
  split at hg
  · rename_i es
    cases q : intsL es with
    | none => rw [q] at hg; cases hg
    | some ns =>
      rw [q] at hg
      cases ns with
      | nil => cases hg
      | cons i ns =>
        cases hg
        obtain ⟨v, rfl, l1⟩ := lentA1 l
        obtain ⟨a, ws, rfl, sq, rl⟩ := LentL.sq l1
        obtain ⟨m1, m2, m3⟩ := foldl_min ns i
        refine ⟨a, i :: ns, rfl, ints_rep q rl ▸ sq, by simp, fun m hm hle => ?_⟩
        have : m = ns.foldl min i := by
          refine Int.le_antisymm (hle _ ?_) ?_
          · rcases m1 with z | z
            · rw [z]; simp
            · exact List.mem_cons_of_mem _ z
          · rcases List.mem_cons.mp hm with z | z
            · rw [z]; exact m2
            · exact m3 m z
        rw [this]
        exact rdAt_pure h r rep_int
  · cases hg
theorem c_sumI {c : Ct} : CallP c (rSum c.K) sumI := by
  intro e F ρ s σ Hs H W ds d vs Q ec r l hg h
  subst ec
  unfold sumI at hg
  split at hg
  · rename_i es
    cases q : intsL es with
    | none => rw [q] at hg; cases hg
    | some ns =>
      rw [q] at hg
      cases hg
      obtain ⟨v, rfl, l1⟩ := lentA1 l
      obtain ⟨a, ws, rfl, sq, rl⟩ := LentL.sq l1
      exact ⟨a, ns, rfl, ints_rep q rl ▸ sq, rdAt_pure h r rep_int⟩
  · cases hg
variable {a : Expr} {as : List Expr} {g : M (List D)} {p pos : Pos}
theorem eMaxL (L : Lk X e W) (B : Bt e.c) (ha : DAB X e W (a :: as) g) (hg : Gl X "max" := by rfl) (he : starEach (a :: as) X.env = (false, eval a X.env) :: starEach as X.env := by rfl) (hpl : (backTo pos (starEach as X.env)).any (·.1) = false := by rfl) : DE X e W (.Call (.Name "max" p) (a :: as) [] pos) (mB maxL g) :=
  PE.weak (pe_callB (cr_max L.calm) hg (by have := B.max; rw [L.c] at this; exact this) (by decide +kernel) ha (by decide) (by decide) he hpl) fun σ H Q h => by have q := rd_call (c_max (c := e.c)) h; rw [L.hc] at q; exact q
theorem eMinL (L : Lk X e W) (B : Bt e.c) (ha : DAB X e W (a :: as) g) (hg : Gl X "min" := by rfl) (he : starEach (a :: as) X.env = (false, eval a X.env) :: starEach as X.env := by rfl) (hpl : (backTo pos (starEach as X.env)).any (·.1) = false := by rfl) : DE X e W (.Call (.Name "min" p) (a :: as) [] pos) (mB minL g) :=
  PE.weak (pe_callB (cr_min L.calm) hg (by have := B.min; rw [L.c] at this; exact this) (by decide +kernel) ha (by decide) (by decide) he hpl) fun σ H Q h => by have q := rd_call (c_min (c := e.c)) h; rw [L.hc] at q; exact q
theorem eSumI (L : Lk X e W) (B : Bt e.c) (ha : DAB X e W (a :: as) g) (hg : Gl X "sum" := by rfl) (he : starEach (a :: as) X.env = (false, eval a X.env) :: starEach as X.env := by rfl) (hpl : (backTo pos (starEach as X.env)).any (·.1) = false := by rfl) : DE X e W (.Call (.Name "sum" p) (a :: as) [] pos) (mB sumI g) :=
  PE.weak (pe_callB (cr_sum L.calm) hg (by have := B.sum; rw [L.c] at this; exact this) (by decide +kernel) ha (by decide) (by decide) he hpl) fun σ H Q h => by have q := rd_call (c_sumI (c := e.c)) h; rw [L.hc] at q; exact q
end
/-! ### constants of the module that are tuples -/
section
mutual
def valB (K : PySem.W.Frag) : D → Value → Bool
  | .non, v => decide (v = .none)
  | .bl b, v => decide (v = .bool b)
  | .int i, .int j _ => decide (j = i)
  | .str x, .str y _ => decide (y = x)
  | .tup ds, .ref a => (match K.lookup a with
    | some o => decide (o.cls = .type "tuple") && (match o.data with
      | .seq its _ => decide (its.size ≤ sizeLine) && valsB K ds its.toList
      | _ => false)
    | none => false)
  | _, _ => false
def valsB (K : PySem.W.Frag) : List D → List Value → Bool
  | [], [] => true
  | d :: ds, v :: vs => valB K d v && valsB K ds vs
  | _, _ => false
end
mutual
theorem valB_ok {c : Ct} : ∀ (d : D) (v : Value), valB c.K d v = true → ∃ w : V, RelV w v ∧ ∀ F ρ H, Rep c F ρ H d w
  | .non, v, h => by
    unfold valB at h
    have := of_decide_eq_true h
    subst this
    exact ⟨.non, rfl, fun F ρ H => by unfold Rep; rfl⟩
  | .bl b, v, h => by
    unfold valB at h
    have := of_decide_eq_true h
    subst this
    exact ⟨.bl b, rfl, fun F ρ H => by unfold Rep; rfl⟩
  | .int i, v, h => by
    cases v with
    | int j t =>
      unfold valB at h
      have := of_decide_eq_true h
      subst this
      exact ⟨.int j, ⟨t, rfl⟩, fun F ρ H => by unfold Rep; rfl⟩
    | _ => simp [valB] at h
  | .str x, v, h => by
    cases v with
    | str y t =>
      unfold valB at h
      have := of_decide_eq_true h
      subst this
      exact ⟨.str y, ⟨t, rfl⟩, fun F ρ H => by unfold Rep; rfl⟩
    | _ => simp [valB] at h
  | .tup ds, v, h => by
    cases v with
    | ref a =>
      unfold valB at h
      cases q : c.K.lookup a with
      | none => rw [q] at h; simp at h
      | some o =>
        rw [q] at h
        simp only [Bool.and_eq_true] at h
        obtain ⟨h1, h2⟩ := h
        cases q2 : o.data with
        | seq its n =>
          rw [q2] at h2
          simp only [Bool.and_eq_true] at h2
          obtain ⟨vs, hv, hr⟩ := valsB_ok ds its.toList h2.2
          refine ⟨.ref a, rfl, fun F ρ H => ?_⟩
          unfold Rep
          exact ⟨a, vs, rfl, .inr ⟨o, its, n, q, of_decide_eq_true h1, q2, of_decide_eq_true h2.1, hv⟩, hr F ρ H⟩
        | _ => rw [q2] at h2; simp at h2
    | _ => simp [valB] at h
  | .lst _, v, h | .wl _, v, h | .dct _, v, h | .dcT _, v, h | .obj _, v, h | .fn _, v, h | .exc _ _ _, v, h => by simp [valB] at h
theorem valsB_ok {c : Ct} : ∀ (ds : List D) (us : List Value), valsB c.K ds us = true → ∃ vs : List V, Vals vs us ∧ ∀ F ρ H, RepL c F ρ H ds vs
  | [], [], _ => ⟨[], .nil, fun F ρ H => by unfold RepL; rfl⟩
  | d :: ds, u :: us, h => by
    unfold valsB at h
    rw [Bool.and_eq_true] at h
    obtain ⟨w, r, k⟩ := valB_ok d u h.1
    obtain ⟨vs, r2, k2⟩ := valsB_ok ds us h.2
    exact ⟨w :: vs, .cons r r2, fun F ρ H => by unfold RepL; exact ⟨w, vs, rfl, k F ρ H, k2 F ρ H⟩⟩
  | [], _ :: _, h => by simp [valsB] at h
  | _ :: _, [], h => by simp [valsB] at h
end
def conB (K : PySem.W.Frag) (p : Str × D) : Bool := match PySem.W.nsIn K mainGlobals p.1 with
  | some (some v) => valB K p.2 v
  | _ => false
theorem con_ofB {K : PySem.W.Frag} {h : Heap} {mg : Str → Option Value} {T : List (Addr × Str)} (X : K.In h) (G : h.Ns mainGlobals mg) {x : Str} {d : D} (c : conB K (x, d) = true) : Con ⟨K, mg, T⟩ x d := by
  unfold conB at c
  dsimp only at c
  cases e : PySem.W.nsIn K mainGlobals x with
  | none => rw [e] at c; cases c
  | some o =>
    rw [e] at c
    cases o with
    | none => cases c
    | some v =>
      obtain ⟨w, r, k⟩ := valB_ok (c := ⟨K, mg, T⟩) d v c
      exact ⟨v, w, PySem.W.mg_of X G e, r, k⟩
def consB (cs : List (Str × D)) (K : PySem.W.Frag) : Bool := cs.all (conB K)
end
end Ls
/-! what the combinators do, for the plain laws -/
namespace Ls
open PySem PySem.Spec L2
/-! ### while -/
section
variable {c : M Bool} {b : SM} {s s1 s2 : S} {r : SR}
theorem whileN_succ : ∀ (n : Nat) (s : S), whileN c b n s ≠ .bad → whileN c b (n + 1) s = whileN c b n s
  | 0, s, h => absurd rfl h
  | n + 1, s, h => by
    have ih := whileN_succ n
    rw [whileN] at h ⊢
    conv => rhs; rw [whileN]
    unfold SM.bind at h ⊢
    cases hc : c s with
    | bad => rfl
    | exc x t => rfl
    | ok k t =>
      rw [hc] at h
      cases k with
      | false => rfl
      | true =>
        dsimp only at h ⊢
        rw [if_pos rfl] at h ⊢
        rw [if_pos rfl]
        cases hb : b t with
        | nx u => rw [hb] at h; exact ih u h
        | ct u => rw [hb] at h; exact ih u h
        | _ => rfl
theorem whileN_le {n m : Nat} (hm : n ≤ m) (h : whileN c b n s ≠ .bad) : whileN c b m s = whileN c b n s := by
  induction hm with
  | refl => rfl
  | step _ ih => rw [whileN_succ _ _ (by rw [ih]; exact h), ih]
theorem mWhile_of {n : Nat} (h : whileN c b n s = r) (hr : r ≠ .bad) : mWhile c b s = r := by
  have ex : ∃ n, whileN c b n s ≠ .bad := ⟨n, by rw [h]; exact hr⟩
  unfold mWhile
  rw [dif_pos ex]
  rcases Nat.le_total n ex.choose with q | q
  · rw [whileN_le q (by rw [h]; exact hr), h]
  · rw [← whileN_le q ex.choose_spec, h]
theorem mWhile_ex (h : mWhile c b s = r) (hr : r ≠ .bad) : ∃ n, whileN c b n s = r := by
  unfold mWhile at h
  by_cases ex : ∃ n, whileN c b n s ≠ .bad
  · rw [dif_pos ex] at h; exact ⟨_, h⟩
  · rw [dif_neg ex] at h; exact absurd h.symm hr
theorem mWhile_stop (h : c s = .ok false s1) : mWhile c b s = .nx s1 := mWhile_of (n := 1) (by rw [whileN]; unfold SM.bind; rw [h]; rfl) (by nofun)
theorem mWhile_step (h : c s = .ok true s1) (hb : b s1 = .nx s2) (hw : mWhile c b s2 = r) (hr : r ≠ .bad) : mWhile c b s = r := by
  obtain ⟨n, hn⟩ := mWhile_ex hw hr
  refine mWhile_of (n := n + 1) ?_ hr
  rw [whileN]
  unfold SM.bind
  rw [h]
  dsimp only
  rw [if_pos rfl]
  rw [hb]
  exact hn
/-- it is left by return -/
theorem mWhile_out {s' : SR} (h : c s = .ok true s1) (hb : b s1 = s') (h1 : ∀ t, s' ≠ .nx t) (h2 : ∀ t, s' ≠ .ct t) (h3 : ∀ t, s' ≠ .bk t) (hr : s' ≠ .bad) : mWhile c b s = s' := by
  refine mWhile_of (n := 1) ?_ hr
  rw [whileN]
  unfold SM.bind
  rw [h]
  dsimp only
  rw [if_pos rfl]
  rw [hb]
  cases s' with
  | nx t => exact absurd rfl (h1 t)
  | ct t => exact absurd rfl (h2 t)
  | bk t => exact absurd rfl (h3 t)
  | _ => rfl
end
/-! ### for -/
section
variable {tf : D → S → Option S} {b : SM}
/-- an invariant told of the items that were handed out -/
theorem forL_inv {ds : List D} (I : Nat → S → Prop) (h : ∀ (i : Nat) (d : D) (s : S), ds[i]? = some d → I i s → ∃ s1, tf d s = some s1 ∧ ∃ s2, b s1 = .nx s2 ∧ I (i + 1) s2) {s : S} (h0 : I 0 s) : ∃ s', forL tf b ds s = .nx s' ∧ I ds.length s' := by
  have key : ∀ (es : List D) (k : Nat) (s : S), (∀ i, es[i]? = ds[k + i]?) → k + es.length = ds.length → I k s → ∃ s', forL tf b es s = .nx s' ∧ I ds.length s' := by
    intro es
    induction es with
    | nil =>
      intro k s _ hl hk
      have : k = ds.length := by simpa using hl
      exact ⟨s, rfl, this ▸ hk⟩
    | cons d es ih =>
      intro k s he hl hk
      have hd : ds[k]? = some d := by rw [← Nat.add_zero k, ← he 0]; rfl
      obtain ⟨s1, h1, s2, h2, h3⟩ := h k d s hd hk
      have q : forL tf b (d :: es) s = forL tf b es s2 := by
        show (match tf d s with | none => SR.bad | some s1 => _) = _
        rw [h1]
        dsimp only
        rw [h2]
      rw [q]
      refine ih (k + 1) s2 (fun i => ?_) ?_ h3
      · have := he (i + 1)
        rw [List.getElem?_cons_succ] at this
        rw [this]
        congr 1
        omega
      · rw [List.length_cons] at hl
        omega
  exact key ds 0 s (fun i => by rw [Nat.zero_add]) (Nat.zero_add _) h0
theorem forL_cons {d : D} {ds : List D} {s s1 s2 : S} {r : SR} (h1 : tf d s = some s1) (h2 : b s1 = .nx s2) (h3 : forL tf b ds s2 = r) : forL tf b (d :: ds) s = r := by
  show (match tf d s with | none => SR.bad | some s1 => _) = _
  rw [h1]
  dsimp only
  rw [h2]
  exact h3
end
/-! ### one behind the other -/
theorem seq_nx {a b : SM} {s s1 : S} {r : SR} (h : a s = .nx s1) (h2 : b s1 = r) : SM.seq a b s = r := by
  unfold SM.seq
  rw [h]
  exact h2
theorem seq_rt {a b : SM} {s s1 : S} {d : D} (h : a s = .rt d s1) : SM.seq a b s = .rt d s1 := by
  unfold SM.seq
  rw [h]
theorem seq_exc {a b : SM} {s s1 : S} {x : Ex} (h : a s = .exc x s1) : SM.seq a b s = .exc x s1 := by
  unfold SM.seq
  rw [h]
theorem bind_ok {α β : Type} {f : M α} {g : α → M β} {s s1 : S} {a : α} {r : Res β} (h : f s = .ok a s1) (h2 : g a s1 = r) : M.bind f g s = r := by
  unfold M.bind
  rw [h]
  exact h2
theorem bind_exc {α β : Type} {f : M α} {g : α → M β} {s s1 : S} {x : Ex} (h : f s = .exc x s1) : M.bind f g s = .exc x s1 := by
  unfold M.bind
  rw [h]
  rfl
theorem sbind_ok {α : Type} {f : M α} {g : α → SM} {s s1 : S} {a : α} {r : SR} (h : f s = .ok a s1) (h2 : g a s1 = r) : SM.bind f g s = r := by
  unfold SM.bind
  rw [h]
  exact h2
theorem sbind_exc {α : Type} {f : M α} {g : α → SM} {s s1 : S} {x : Ex} (h : f s = .exc x s1) : SM.bind f g s = .exc x s1 := by
  unfold SM.bind
  rw [h]
theorem if_t {c : M Bool} {a b : SM} {s s1 : S} {r : SR} (h : c s = .ok true s1) (h2 : a s1 = r) : mIf c a b s = r := by
  unfold mIf
  exact sbind_ok h (by rw [if_pos rfl]; exact h2)
theorem if_f {c : M Bool} {a b : SM} {s s1 : S} {r : SR} (h : c s = .ok false s1) (h2 : b s1 = r) : mIf c a b s = r := by
  unfold mIf
  exact sbind_ok h (by rw [if_neg Bool.false_ne_true]; exact h2)
theorem fn_ok {n np : Nat} {body : SM} {ds : List D} {st : List Ob} {d : D} {s : S} (hl : ds.length = np) (h : body ⟨ds.map .sh ++ List.replicate (n - np) .emp, st⟩ = .rt d s) : mFn n np body ds st = .ok d s.st := by
  unfold mFn
  rw [if_pos hl, h]
theorem fn_nx {n np : Nat} {body : SM} {ds : List D} {st : List Ob} {s : S} (hl : ds.length = np) (h : body ⟨ds.map .sh ++ List.replicate (n - np) .emp, st⟩ = .nx s) : mFn n np body ds st = .ok .non s.st := by
  unfold mFn
  rw [if_pos hl, h]
theorem fn_exc {n np : Nat} {body : SM} {ds : List D} {st : List Ob} {x : Ex} {s : S} (hl : ds.length = np) (h : body ⟨ds.map .sh ++ List.replicate (n - np) .emp, st⟩ = .exc x s) : mFn n np body ds st = .exc x s.st := by
  unfold mFn
  rw [if_pos hl, h]
theorem call_ok {g : Fn} {f : M (List D)} {s s1 : S} {ds : List D} {d : D} {st : List Ob} (h : f s = .ok ds s1) (h2 : g ds s1.st = .ok d st) : mCall g f s = .ok d { s1 with st := st } := by
  unfold mCall
  exact bind_ok h (by rw [h2])
theorem call_exc {g : Fn} {f : M (List D)} {s s1 : S} {ds : List D} {x : Ex} {st : List Ob} (h : f s = .ok ds s1) (h2 : g ds s1.st = .exc x st) : mCall g f s = .exc x { s1 with st := st } := by
  unfold mCall
  exact bind_ok h (by rw [h2])
theorem cons_ok {f : M D} {g : M (List D)} {s s1 s2 : S} {d : D} {ds : List D} (h : f s = .ok d s1) (h2 : g s1 = .ok ds s2) : mCons f g s = .ok (d :: ds) s2 := by
  unfold mCons
  exact bind_ok h (bind_ok h2 rfl)
theorem setD_ok {i : Nat} {f : M D} {s s1 : S} {d : D} (h : f s = .ok d s1) : mSetD i f s = .nx (setSlot i (.sh d) s1) := by
  unfold mSetD
  exact sbind_ok h rfl
theorem ret_ok {f : M D} {s s1 : S} {d : D} (h : f s = .ok d s1) : mRet f s = .rt d s1 := by
  unfold mRet
  exact sbind_ok h rfl
theorem for_ok {it : M (List D)} {tf : D → S → Option S} {b : SM} {s s1 : S} {ds : List D} {r : SR} (h : it s = .ok ds s1) (h2 : forL tf b ds s1 = r) : mFor it tf b s = r := by
  unfold mFor
  exact sbind_ok h h2
theorem op2_ok {g : D → D → Option D} {fa fb : M D} {s s1 s2 : S} {x y d : D} (h1 : fa s = .ok x s1) (h2 : fb s1 = .ok y s2) (h3 : g x y = some d) : mO2 g fa fb s = .ok d s2 := by
  unfold mO2
  exact bind_ok h1 (bind_ok h2 (by rw [h3]; rfl))
theorem ofO_ok {α : Type} {o : Option α} {a : α} {s : S} (h : o = some a) : ofO o s = .ok a s := by
  rw [h]
  rfl
theorem mul_r {i j : Int} (h : j.natAbs < 2 ^ 64) : mulD (.int i) (.int j) = some (.int (i * j)) := by
  show (if mulOk i j = true then some (D.int (i * j)) else none) = _
  rw [if_pos (by unfold mulOk; rw [decide_eq_true h, Bool.or_true, Bool.true_or])]
theorem mul_l {i j : Int} (h : i.natAbs < 2 ^ 64) : mulD (.int i) (.int j) = some (.int (i * j)) := by
  show (if mulOk i j = true then some (D.int (i * j)) else none) = _
  rw [if_pos (by unfold mulOk; rw [decide_eq_true h, Bool.true_or, Bool.true_or])]
theorem mod_ok {i j : Int} (h : 0 < j) : modD (.int i) (.int j) = some (.int (i % j)) := by
  show (if 0 < j then some (D.int (i % j)) else none) = _
  rw [if_pos h]
theorem fdiv_ok {i j : Int} (h : 0 < j) (h2 : j.natAbs < 2 ^ 64) : fdivD (.int i) (.int j) = some (.int (i / j)) := by
  show (if 0 < j ∧ j.natAbs.log2 < 9000 then some (D.int (i / j)) else none) = _
  rw [if_pos ⟨h, Nat.lt_of_lt_of_le ((Nat.log2_lt (by omega)).mpr h2) (by decide)⟩]
theorem at_ok {α : Type} {xs : List α} {i : Int} (h0 : 0 ≤ i) (h1 : i < xs.length) : L2.atI xs i = xs[i.toNat]? := by
  unfold L2.atI L2.ixN
  rw [if_pos h0, if_pos h1]
  rfl
theorem b1_ok {g : List D → Option D} {f : M D} {s s1 : S} {x d : D} (h : f s = .ok x s1) (h2 : g [x] = some d) : mB g (mCons f mNil) s = .ok d s1 := by
  unfold mB
  exact bind_ok (cons_ok h rfl) (ofO_ok h2)
theorem plain_up : ∀ (n : Nat) (d : D), plainN n d = true → plainN (n + 1) d = true := by
  intro n
  induction n with
  | zero =>
    intro d h
    cases d <;> first | exact h | (simp [plainN] at h)
  | succ n ih =>
    intro d h
    have all : ∀ ds : List D, ds.all (plainN n) = true → ds.all (plainN (n + 1)) = true := fun ds hd => List.all_eq_true.mpr fun d hm => ih d (List.all_eq_true.mp hd d hm)
    cases d with
    | tup ds => exact all ds h
    | lst ds => exact all ds h
    | _ => first | exact h | (simp [plainN] at h)
theorem caught_exc {cs : List Str} {m : M D} {s s1 : S} {c : Str} {v : D} (h : m s = .exc ⟨c, none, v⟩ s1) (hc : c ∈ cs) : mCaught cs m s = .ok (.exc c none .non) s1 := by
  unfold mCaught
  rw [h]
  dsimp only
  rw [if_pos hc]
theorem not_of {f : M D} {s s1 : S} {b : Bool} (h : f s = .ok (.bl b) s1) : M.bind (M.bind f asB) (fun b => M.pure (!b)) s = .ok (!b) s1 := bind_ok (bind_ok h rfl) rfl
/-! ### comprehensions -/
section
variable {is : List Nat} {tf : D → S → Option S} {cond : M Bool} {elt : M D}
/-- an invariant of state and list told of the items that were handed out -/
theorem lcL_inv {ds : List D} (I : Nat → List D → S → Prop) (h : ∀ (i : Nat) (d : D) (acc : List D) (s : S), ds[i]? = some d → I i acc s →
      ∃ s1, tf d s = some s1 ∧ ((∃ s2, cond s1 = .ok false s2 ∧ I (i + 1) acc (wipeS is s2)) ∨ ∃ s2 y s3, cond s1 = .ok true s2 ∧ elt s2 = .ok y s3 ∧ I (i + 1) (acc ++ [y]) (wipeS is s3)))
    {s : S} (h0 : I 0 [] s) (hz : ds.length ≤ SZ) : ∃ acc s', lcL is tf cond elt ds [] s = .ok acc s' ∧ I ds.length acc s' ∧ acc.length ≤ ds.length := by
  have key : ∀ (es : List D) (k : Nat) (acc : List D) (s : S), (∀ i, es[i]? = ds[k + i]?) → k + es.length = ds.length → acc.length ≤ k → I k acc s → ∃ acc' s', lcL is tf cond elt es acc s = .ok acc' s' ∧ I ds.length acc' s' ∧ acc'.length ≤ ds.length := by
    intro es
    induction es with
    | nil =>
      intro k acc s _ hl ha hk
      have : k = ds.length := by simpa using hl
      exact ⟨acc, s, rfl, this ▸ hk, by omega⟩
    | cons d es ih =>
      intro k acc s he hl ha hk
      have hd : ds[k]? = some d := by rw [← Nat.add_zero k, ← he 0]; rfl
      have tl : ∀ i, es[i]? = ds[k + 1 + i]? := fun i => by
        have := he (i + 1)
        rw [List.getElem?_cons_succ] at this
        rw [this]
        congr 1
        omega
      rw [List.length_cons] at hl
      have e : ∀ s1, tf d s = some s1 → lcL is tf cond elt (d :: es) acc s = (match cond s1 with
          | .ok true s2 => (match elt s2 with
            | .ok y s3 => if acc.length < SZ then lcL is tf cond elt es (acc ++ [y]) (wipeS is s3) else .bad
            | _ => .bad)
          | .ok false s2 => lcL is tf cond elt es acc (wipeS is s2)
          | _ => .bad) := fun s1 h1 => by
        show (match tf d s with | none => Res.bad | some s1 => _) = _
        rw [h1]
        all_goals rfl
      obtain ⟨s1, h1, ⟨s2, h2, h3⟩ | ⟨s2, y, s3, h2, h3, h4⟩⟩ := h k d acc s hd hk
      · rw [e s1 h1, h2]
        exact ih (k + 1) acc _ tl (by omega) (by omega) h3
      · rw [e s1 h1, h2]
        dsimp only
        rw [h3]
        dsimp only
        rw [if_pos (by omega)]
        exact ih (k + 1) (acc ++ [y]) _ tl (by omega) (by rw [List.length_append, List.length_singleton]; omega) h4
  exact key ds 0 [] s (fun i => by rw [Nat.zero_add]) (Nat.zero_add _) (Nat.le_refl _) h0
theorem lc_ok {it : M (List D)} {s s1 s2 : S} {ds acc : List D} (h : it s = .ok ds s1) (fr : is.all (fun i => slFree (s1.env.getD i .emp)) = true) (h2 : lcL is tf cond elt ds [] (wipeS is s1) = .ok acc s2) : mLc is it tf cond elt s = .ok acc { s2 with env := restE s1.env s2.env is } := by
  unfold mLc
  refine bind_ok h ?_
  rw [if_pos fr, h2]
end
end Ls
namespace Ls
open PySem PySem.Spec L2
def endR (r : SR) : FR := match r with | .nx s => .ok .non s.st | .rt d s => .ok d s.st | .exc x s => .exc x s.st | _ => .bad
theorem mFn_end {n np : Nat} {body : SM} {ds : List D} {st : List Ob} {env : List Sl} (hl : ds.length = np) (he : ds.map .sh ++ List.replicate (n - np) .emp = env) : mFn n np body ds st = endR (body ⟨env, st⟩) := by
  subst he
  unfold mFn
  rw [if_pos hl]
  cases body ⟨ds.map .sh ++ List.replicate (n - np) .emp, st⟩ <;> rfl
noncomputable def d_is_whole : SM := mRet (mAndV (M.bind (mVarB 0) fun d => ofO (isi "int" d)) (M.bind (M.bind (mVarB 0) fun d => ofO (isi "bool" d)) fun x => M.bind (asB x) fun b => M.pure (.bl (!b))))
noncomputable def g_is_whole : Fn := mFn 1 1 d_is_whole
theorem e_is_whole {a0 : D} {st : List Ob} : g_is_whole [a0] st = endR (d_is_whole ⟨[.sh a0], st⟩) := by unfold g_is_whole; exact mFn_end rfl rfl
noncomputable def q_is_row_of_1 : M (List D) := mLc [1] (M.bind (mVar 0) seqOf) (tgN 1) (mTrue) (mAndV (mCall g_is_whole (mCons (mVar 1) (mNil))) (mChain leD leD (M.pure (.int 1)) (mVarB 1) (M.pure (.int 99))))
noncomputable def d_is_row_of : SM := SM.seq (mIf (mOr (M.bind (M.bind (M.bind (mVarB 0) fun d => ofO (isi "tuple" d)) asB) fun b => M.pure (!b)) (M.bind (mO2 gtD (mB lenL (mCons (mVarB 0) (mNil))) (M.pure (.int 60))) asB)) (mRet (M.pure (.bl false))) (mNx)) (mRet (mB allL (mCons (M.bind (q_is_row_of_1) fun ds => M.pure (.lst ds)) (mNil))))
noncomputable def g_is_row_of : Fn := mFn 2 1 d_is_row_of
theorem e_is_row_of {a0 : D} {st : List Ob} : g_is_row_of [a0] st = endR (d_is_row_of ⟨[.sh a0, .emp], st⟩) := by unfold g_is_row_of; exact mFn_end rfl rfl
noncomputable def d_need_row : SM := SM.seq (mIf (M.bind (mCall g_is_row_of (mCons (mVar 0) (mNil))) asB) (mRetN) (mNx)) (SM.seq (mIf (M.bind (mO2 eqD (mVarB 1) (M.pure (.str "one"))) asB) (mRaise "BadOne") (mNx)) (SM.seq (mIf (M.bind (mO2 eqD (mVarB 1) (M.pure (.str "other"))) asB) (mRaise "BadOther") (mNx)) (mRaise "BadRow")))
noncomputable def g_need_row : Fn := mFn 2 2 d_need_row
theorem e_need_row {a0 a1 : D} {st : List Ob} : g_need_row [a0, a1] st = endR (d_need_row ⟨[.sh a0, .sh a1], st⟩) := by unfold g_need_row; exact mFn_end rfl rfl
noncomputable def l_bar_by_1 : SM := mIf (M.bind (mO2 eqD (mO2 ixD (mVarB 0) (mVarB 1)) (mO2 ixD (mVarB 0) (mO2 subD (mVarB 1) (M.pure (.int 2))))) asB) (mRet (mVar 1)) (mNx)
noncomputable def d_bar_by : SM := SM.seq (mIf (M.bind (mO2 eqD (mO2 modD (mB lenL (mCons (mVarB 0) (mNil))) (M.pure (.int 2))) (M.pure (.int 1))) asB) (mRet (mB lenL (mCons (mVarB 0) (mNil)))) (mNx)) (SM.seq (mFor (M.bind (mCons (M.pure (.int 3)) (mCons (mB lenL (mCons (mVarB 0) (mNil))) (mCons (M.pure (.int 2)) (mNil)))) fun ds => ofO (rng3 ds)) (tgN 1) (l_bar_by_1)) (mRet (M.pure .non)))
noncomputable def g_bar_by : Fn := mFn 2 1 d_bar_by
theorem e_bar_by {a0 : D} {st : List Ob} : g_bar_by [a0] st = endR (d_bar_by ⟨[.sh a0, .emp], st⟩) := by unfold g_bar_by; exact mFn_end rfl rfl
noncomputable def l_elder_by_1 : SM := mSetD 1 (mO2 addD (mVarB 1) (mO2 mulD (M.bind (mLst (mCons (mO2 ixD (mVarB 0) (mO2 addD (mVarB 2) (M.pure (.int 1)))) (mNil))) fun ds => M.pure (.lst ds)) (mO2 ixD (mVarB 0) (mVarB 2))))
noncomputable def d_elder_by : SM := SM.seq (mIf (M.bind (mO2 isNotD (mCall g_bar_by (mCons (mVar 0) (mNil))) (M.pure .non)) asB) (mRet (M.pure .non)) (mNx)) (SM.seq (mSetD 1 (M.bind (mLst (mNil)) fun ds => M.pure (.lst ds))) (SM.seq (mFor (M.bind (mCons (M.pure (.int 0)) (mCons (mB lenL (mCons (mVarB 0) (mNil))) (mCons (M.pure (.int 2)) (mNil)))) fun ds => ofO (rng3 ds)) (tgN 2) (l_elder_by_1)) (mRet (mB tupL (mCons (mVarB 1) (mNil))))))
noncomputable def g_elder_by : Fn := mFn 3 1 d_elder_by
theorem e_elder_by {a0 : D} {st : List Ob} : g_elder_by [a0] st = endR (d_elder_by ⟨[.sh a0, .emp, .emp], st⟩) := by unfold g_elder_by; exact mFn_end rfl rfl
noncomputable def c_elders_by_1 : M Bool := M.bind (mO2 isNotD (mVarB 2) (M.pure .non)) asB
noncomputable def l_elders_by_1 : SM := SM.seq (mApp 1 (mVar 2)) (mSetD 2 (mCall g_elder_by (mCons (mVar 2) (mNil))))
noncomputable def d_elders_by : SM := SM.seq (mPar 1 2 (M.bind (mLst (mNil)) fun d => M.pure (.own d)) (M.bind (mCall g_elder_by (mCons (mVar 0) (mNil))) fun d => M.pure (.sh d))) (SM.seq (mWhile (c_elders_by_1) (l_elders_by_1)) (mRet (mVar 1)))
noncomputable def g_elders_by : Fn := mFn 3 1 d_elders_by
theorem e_elders_by {a0 : D} {st : List Ob} : g_elders_by [a0] st = endR (d_elders_by ⟨[.sh a0, .emp, .emp], st⟩) := by unfold g_elders_by; exact mFn_end rfl rfl
noncomputable def d_age_by : SM := mRet (mIte (M.bind (mO2 inD (mVarB 0) (M.pure (.tup [.tup [], .tup [.int 2, .int 2]]))) asB) (M.pure .non) (mB lenL (mCons (mCall g_elders_by (mCons (mVar 0) (mNil))) (mNil))))
noncomputable def g_age_by : Fn := mFn 1 1 d_age_by
theorem e_age_by {a0 : D} {st : List Ob} : g_age_by [a0] st = endR (d_age_by ⟨[.sh a0], st⟩) := by unfold g_age_by; exact mFn_end rfl rfl
noncomputable def d_age : SM := SM.seq (mDrop (mCall g_need_row (mCons (mVar 0) (mCons (M.pure (.str "row")) (mNil))))) (mRet (mCall g_age_by (mCons (mVar 0) (mNil))))
noncomputable def g_age : Fn := mFn 1 1 d_age
theorem e_age {a0 : D} {st : List Ob} : g_age [a0] st = endR (d_age ⟨[.sh a0], st⟩) := by unfold g_age; exact mFn_end rfl rfl
noncomputable def d_elders : SM := SM.seq (mDrop (mCall g_need_row (mCons (mVar 0) (mCons (M.pure (.str "row")) (mNil))))) (SM.seq (mIf (M.bind (mO2 inD (mVarB 0) (M.pure (.tup [.tup [], .tup [.int 2, .int 2]]))) asB) (mRaise "BadRow") (mNx)) (mRet (mB tupL (mCons (mCall g_elders_by (mCons (mVar 0) (mNil))) (mNil)))))
noncomputable def g_elders : Fn := mFn 1 1 d_elders
theorem e_elders {a0 : D} {st : List Ob} : g_elders [a0] st = endR (d_elders ⟨[.sh a0], st⟩) := by unfold g_elders; exact mFn_end rfl rfl
noncomputable def l_law_begun_1 : SM := mIf (M.bind (M.bind (mVarB 3) fun d => ofO (isi "int" d)) asB) (SM.seq (mIf (M.bind (mO2 geD (mVarB 3) (mO2 powD (M.pure (.int 10)) (M.pure (.int 18)))) asB) (mSetD 1 (mO2 addD (mO2 mulD (mVarB 1) (mO2 addD (mO2 subD (mVarB 3) (mO2 powD (M.pure (.int 10)) (M.pure (.int 18)))) (M.pure (.int 1)))) (mO2 subD (mVarB 3) (mO2 powD (M.pure (.int 10)) (M.pure (.int 18)))))) (mNx)) (mApp 2 (mVar 3))) (mNx)
noncomputable def d_law_begun : SM := SM.seq (mPar 1 2 (M.bind (M.pure (.int 0)) fun d => M.pure (.sh d)) (M.bind (mLst (mNil)) fun d => M.pure (.own d))) (SM.seq (mFor (M.bind (mVar 0) seqOf) (tgN 3) (l_law_begun_1)) (mRet (mDisp3 "whole" "cells" "count" (mVar 1) (mVar 2) (M.pure (.int 0)))))
noncomputable def g_law_begun : Fn := mFn 4 1 d_law_begun
theorem e_law_begun {a0 : D} {st : List Ob} : g_law_begun [a0] st = endR (d_law_begun ⟨[.sh a0, .emp, .emp, .emp], st⟩) := by unfold g_law_begun; exact mFn_end rfl rfl
noncomputable def l_law_mixed_1 : SM := SM.seq (mSetD 1 (mO2 modD (mB int1 (mCons (mO2 mulD (mO2 addD (mVarB 1) (mVarB 2)) (M.pure (.int 1099511628211))) (mNil))) (mO2 subD (mO2 powD (M.pure (.int 2)) (M.pure (.int 61))) (M.pure (.int 1))))) (mSetD 1 (mO2 addD (mVarB 1) (mO2 fdivD (mVarB 1) (mO2 powD (M.pure (.int 2)) (M.pure (.int 17))))))
noncomputable def d_law_mixed : SM := SM.seq (mPutOb (mO2 addD (M.bind (mVarB 0) fun x => M.bind (M.pure (.str "count")) fun y => getD x y) (M.pure (.int 1))) (mVarB 0) (M.pure (.str "count"))) (SM.seq (mSetD 1 (mO2 addD (M.pure (.int 1469598103934665603)) (mO2 mulD (M.pure (.int 97)) (M.bind (mVarB 0) fun x => M.bind (M.pure (.str "count")) fun y => getD x y)))) (SM.seq (mFor (M.bind (mO2 addD (M.bind (mVarB 0) fun x => M.bind (M.pure (.str "cells")) fun y => getD x y) (M.bind (mLst (mCons (M.bind (mVarB 0) fun x => M.bind (M.pure (.str "count")) fun y => getD x y) (mNil))) fun ds => M.pure (.lst ds))) seqOf) (tgN 2) (l_law_mixed_1)) (mRet (mVar 1))))
noncomputable def g_law_mixed : Fn := mFn 3 1 d_law_mixed
theorem e_law_mixed {a0 : D} {st : List Ob} : g_law_mixed [a0] st = endR (d_law_mixed ⟨[.sh a0, .emp, .emp], st⟩) := by unfold g_law_mixed; exact mFn_end rfl rfl
noncomputable def c_law_take_1 : M Bool := mAnd (M.bind (mO2 gtD (mVarB 1) (mO2 powD (M.pure (.int 2)) (M.pure (.int 50)))) asB) (M.bind (mO2 ltD (mVarB 2) (mO2 mulD (mVarB 1) (mVarB 1))) asB)
noncomputable def l_law_take_1 : SM := mSetD 2 (mO2 addD (mO2 mulD (mVarB 2) (mO2 powD (M.pure (.int 2)) (M.pure (.int 61)))) (mCall g_law_mixed (mCons (mVar 0) (mNil))))
noncomputable def d_law_take : SM := SM.seq (mIf (M.bind (mO2 ltD (mVarB 1) (M.pure (.int 2))) asB) (mRet (M.pure (.int 0))) (mNx)) (SM.seq (mIf (M.bind (mO2 gtD (M.bind (mVarB 0) fun x => M.bind (M.pure (.str "whole")) fun y => getD x y) (M.pure (.int 0))) asB) (SM.seq (mSetD 2 (mO2 modD (mB int1 (mCons (M.bind (mVarB 0) fun x => M.bind (M.pure (.str "whole")) fun y => getD x y) (mNil))) (mVarB 1))) (SM.seq (mPutOb (mO2 fdivD (M.bind (mVarB 0) fun x => M.bind (M.pure (.str "whole")) fun y => getD x y) (mVarB 1)) (mVarB 0) (M.pure (.str "whole"))) (mRet (mVar 2)))) (mNx)) (SM.seq (mSetD 2 (mCall g_law_mixed (mCons (mVar 0) (mNil)))) (SM.seq (mWhile (c_law_take_1) (l_law_take_1)) (mRet (mO2 modD (mB int1 (mCons (mO2 fdivD (mVarB 2) (M.pure (.int 1024))) (mNil))) (mVarB 1))))))
noncomputable def g_law_take : Fn := mFn 3 2 d_law_take
theorem e_law_take {a0 a1 : D} {st : List Ob} : g_law_take [a0, a1] st = endR (d_law_take ⟨[.sh a0, .sh a1, .emp], st⟩) := by unfold g_law_take; exact mFn_end rfl rfl
noncomputable def d_law_pick : SM := mRet (mO2 ixD (mVarB 1) (mCall g_law_take (mCons (mVar 0) (mCons (mB lenL (mCons (mVarB 1) (mNil))) (mNil)))))
noncomputable def g_law_pick : Fn := mFn 2 2 d_law_pick
theorem e_law_pick {a0 a1 : D} {st : List Ob} : g_law_pick [a0, a1] st = endR (d_law_pick ⟨[.sh a0, .sh a1], st⟩) := by unfold g_law_pick; exact mFn_end rfl rfl
noncomputable def c_law_kinds_1 : M Bool := M.bind (mO2 neD (mVarB 2) (M.bind (mLst (mNil)) fun ds => M.pure (.lst ds))) asB
noncomputable def l_law_kinds_1 : SM := SM.seq (mPop 3 2) (mIf (mOr (M.bind (M.bind (mVarB 3) fun d => ofO (isi "bool" d)) asB) (M.bind (mO2 isD (mVarB 3) (M.pure .non)) asB)) (mApp 1 (mB reprL (mCons (mVarB 3) (mNil)))) (mIf (M.bind (M.bind (mVarB 3) fun d => ofO (isi "int" d)) asB) (mApp 1 (M.pure (.str "number"))) (mIf (M.bind (M.bind (mVarB 3) fun d => ofO (isi "str" d)) asB) (mApp 1 (M.pure (.str "string"))) (mIf (mOr (M.bind (M.bind (mVarB 3) fun d => ofO (isi "list" d)) asB) (M.bind (M.bind (mVarB 3) fun d => ofO (isi "tuple" d)) asB)) (SM.seq (mApp 1 (mIte (M.bind (M.bind (mVarB 3) fun d => ofO (isi "list" d)) asB) (M.pure (.str "list")) (M.pure (.str "tuple")))) (mSet 2 (M.bind (mL2 catL (mVarB 2) (M.bind (M.bind (mCons (mVarB 3) (mNil)) fun ds => ofO (lstL ds)) fun ds => M.pure (.lst ds))) fun d => M.pure (.own d)))) (mIf (M.bind (M.bind (mVarB 3) fun d => ofO (isi "dict" d)) asB) (SM.seq (mApp 1 (M.pure (.str "dict"))) (sNever)) (mApp 1 (M.pure (.str "other"))))))))
noncomputable def d_law_kinds : SM := SM.seq (mPar 1 2 (M.bind (mLst (mNil)) fun d => M.pure (.own d)) (M.bind (mLst (mCons (mVar 0) (mNil))) fun d => M.pure (.own d))) (SM.seq (mWhile (c_law_kinds_1) (l_law_kinds_1)) (mRet (mVar 1)))
noncomputable def g_law_kinds : Fn := mFn 5 1 d_law_kinds
theorem e_law_kinds {a0 : D} {st : List Ob} : g_law_kinds [a0] st = endR (d_law_kinds ⟨[.sh a0, .emp, .emp, .emp, .emp], st⟩) := by unfold g_law_kinds; exact mFn_end rfl rfl
noncomputable def d_law_says : SM := mRet (mAndV (mO2 eqD (mCall g_law_kinds (mCons (mVar 0) (mNil))) (mCall g_law_kinds (mCons (mVar 1) (mNil)))) (mO2 eqD (mVarB 0) (mVarB 1)))
noncomputable def g_law_says : Fn := mFn 2 2 d_law_says
theorem e_law_says {a0 a1 : D} {st : List Ob} : g_law_says [a0, a1] st = endR (d_law_says ⟨[.sh a0, .sh a1], st⟩) := by unfold g_law_says; exact mFn_end rfl rfl
noncomputable def l_law_runs_1 : SM := mIf (mAnd (M.bind (mO2 neD (mVarB 1) (M.bind (mLst (mNil)) fun ds => M.pure (.lst ds))) asB) (M.bind (mO2 eqD (mO2 ixD (mO2 ixD (mVarB 1) (M.bind (M.pure (.int 1)) fun d => ofO (negD d))) (M.pure (.int 1))) (mVarB 2)) asB)) (mSetIx 1 (mTup (mCons (mO2 addD (mO2 ixD (mO2 ixD (mVarB 1) (M.bind (M.pure (.int 1)) fun d => ofO (negD d))) (M.pure (.int 0))) (M.pure (.int 1))) (mCons (mVar 2) (mNil)))) (M.bind (M.pure (.int 1)) fun d => ofO (negD d))) (mApp 1 (mTup (mCons (M.pure (.int 1)) (mCons (mVar 2) (mNil)))))
noncomputable def d_law_runs : SM := SM.seq (mSet 1 (M.bind (mLst (mNil)) fun d => M.pure (.own d))) (SM.seq (mFor (M.bind (mVar 0) seqOf) (tgN 2) (l_law_runs_1)) (mRet (mVar 1)))
noncomputable def g_law_runs : Fn := mFn 3 1 d_law_runs
theorem e_law_runs {a0 : D} {st : List Ob} : g_law_runs [a0] st = endR (d_law_runs ⟨[.sh a0, .emp, .emp], st⟩) := by unfold g_law_runs; exact mFn_end rfl rfl
noncomputable def q_law_said_1 : M (List D) := mLc [1] (M.bind (mCall g_law_runs (mCons (mVar 0) (mNil))) seqOf) (tgN 1) (mTrue) (M.bind (M.bind (mCons (mVarB 1) (mNil)) fun ds => ofO (lstL ds)) fun ds => M.pure (.lst ds))
noncomputable def d_law_said : SM := mRet (mB tupL (mCons (M.bind (mSumL (M.bind (q_law_said_1) fun ds => M.pure (.lst ds)) (mLst (mNil))) fun ds => M.pure (.lst ds)) (mNil)))
noncomputable def g_law_said : Fn := mFn 2 1 d_law_said
theorem e_law_said {a0 : D} {st : List Ob} : g_law_said [a0] st = endR (d_law_said ⟨[.sh a0, .emp], st⟩) := by unfold g_law_said; exact mFn_end rfl rfl
noncomputable def l_law_days_1 : SM := mApp 2 (mCall g_law_said (mCons (mO2 ixD (mVarB 2) (M.bind (M.pure (.int 1)) fun d => ofO (negD d))) (mNil)))
noncomputable def d_law_days : SM := SM.seq (mSet 2 (M.bind (mLst (mCons (mB tupL (mCons (mVarB 0) (mNil))) (mNil))) fun d => M.pure (.own d))) (SM.seq (mFor (M.bind (mCons (mVarB 1) (mNil)) fun ds => ofO (rng1 ds)) (tgN 3) (l_law_days_1)) (mRet (mVar 2)))
noncomputable def g_law_days : Fn := mFn 4 2 d_law_days
theorem e_law_days {a0 a1 : D} {st : List Ob} : g_law_days [a0, a1] st = endR (d_law_days ⟨[.sh a0, .sh a1, .emp, .emp], st⟩) := by unfold g_law_days; exact mFn_end rfl rfl
noncomputable def l_law_elder_1 : SM := SM.seq (mIf (mAnd (M.bind (mO2 neD (mVarB 1) (M.bind (mLst (mNil)) fun ds => M.pure (.lst ds))) asB) (M.bind (mO2 eqD (mO2 ixD (mVarB 1) (M.bind (M.pure (.int 1)) fun d => ofO (negD d))) (mO2 ixD (mVarB 0) (mO2 addD (mVarB 2) (M.pure (.int 1))))) asB)) (mRet (M.pure .non)) (mNx)) (mSetD 1 (mO2 addD (mVarB 1) (mO2 mulD (M.bind (mLst (mCons (mO2 ixD (mVarB 0) (mO2 addD (mVarB 2) (M.pure (.int 1)))) (mNil))) fun ds => M.pure (.lst ds)) (mO2 ixD (mVarB 0) (mVarB 2)))))
noncomputable def d_law_elder : SM := SM.seq (mSetD 1 (M.bind (mLst (mNil)) fun ds => M.pure (.lst ds))) (SM.seq (mFor (M.bind (mCons (M.pure (.int 0)) (mCons (mO2 subD (mB lenL (mCons (mVarB 0) (mNil))) (M.pure (.int 1))) (mCons (M.pure (.int 2)) (mNil)))) fun ds => ofO (rng3 ds)) (tgN 2) (l_law_elder_1)) (mRet (mIte (M.bind (mO2 eqD (mO2 modD (mB int1 (mCons (mB lenL (mCons (mVarB 0) (mNil))) (mNil))) (M.pure (.int 2))) (M.pure (.int 0))) asB) (mB tupL (mCons (mVarB 1) (mNil))) (M.pure .non))))
noncomputable def g_law_elder : Fn := mFn 3 1 d_law_elder
theorem e_law_elder {a0 : D} {st : List Ob} : g_law_elder [a0] st = endR (d_law_elder ⟨[.sh a0, .emp, .emp], st⟩) := by unfold g_law_elder; exact mFn_end rfl rfl
noncomputable def q_law_row_1 : M (List D) := mLc [5] (M.bind (mCons (mVarB 3) (mNil)) fun ds => ofO (rng1 ds)) (tgN 5) (mTrue) (mO2 addD (M.pure (.int 1)) (mCall g_law_take (mCons (mVar 0) (mCons (M.pure (.int 3)) (mNil)))))
noncomputable def q_law_row_2 : M (List D) := mLc [5] (M.bind (mCons (mB max2 (mCons (M.pure (.int 0)) (mCons (mO2 subD (mVarB 3) (M.pure (.int 4))) (mNil)))) (mNil)) fun ds => ofO (rng1 ds)) (tgN 5) (mTrue) (mO2 addD (M.pure (.int 1)) (mCall g_law_take (mCons (mVar 0) (mCons (M.pure (.int 4)) (mNil)))))
noncomputable def c_law_row_1 : M Bool := M.bind (mO2 ltD (mB lenL (mCons (mVarB 8) (mNil))) (mVarB 3)) asB
noncomputable def l_law_row_1 : SM := mSetD 8 (mO2 addD (mVarB 8) (mO2 mulD (M.bind (mLst (mCons (mO2 addD (M.pure (.int 1)) (mCall g_law_take (mCons (mVar 0) (mCons (M.pure (.int 3)) (mNil))))) (mNil))) fun ds => M.pure (.lst ds)) (mO2 addD (M.pure (.int 1)) (mCall g_law_take (mCons (mVar 0) (mCons (M.pure (.int 4)) (mNil)))))))
noncomputable def q_law_row_3 : M (List D) := mLc [5] (M.bind (mCons (mVarB 3) (mNil)) fun ds => ofO (rng1 ds)) (tgN 5) (mTrue) (mCall g_law_pick (mCons (mVar 0) (mCons (M.bind (mLst (mCons (M.pure (.int 1)) (mCons (M.pure (.int 1)) (mCons (M.pure (.int 2)) (mCons (M.pure (.int 2)) (mCons (M.pure (.int 3)) (mCons (M.pure (.int 3)) (mCons (M.pure (.int 4)) (mCons (M.pure (.int 5)) (mCons (M.pure (.int 9)) (mCons (M.pure (.int 12)) (mCons (M.pure (.int 99)) (mNil))))))))))))) fun ds => M.pure (.lst ds)) (mNil))))
noncomputable def q_law_row_4 : M (List D) := mLc [7] (M.bind (mCall g_law_days (mCons (mVar 4) (mCons (M.pure (.int 9)) (mNil)))) seqOf) (tgN 7) (M.bind (mO2 leD (mB lenL (mCons (mVarB 7) (mNil))) (mVarB 1)) asB) (mVar 7)
noncomputable def q_law_row_5 : M (List D) := mLc [5] (M.bind (mCons (mO2 addD (M.pure (.int 1)) (mCall g_law_take (mCons (mVar 0) (mCons (M.pure (.int 4)) (mNil))))) (mNil)) fun ds => ofO (rng1 ds)) (tgN 5) (mTrue) (mO2 addD (M.pure (.int 1)) (mCall g_law_take (mCons (mVar 0) (mCons (M.pure (.int 3)) (mNil)))))
noncomputable def d_law_row : SM := SM.seq (mPar 2 3 (M.bind (mCall g_law_take (mCons (mVar 0) (mCons (M.pure (.int 6)) (mNil)))) fun d => M.pure (.sh d)) (M.bind (mO2 addD (M.pure (.int 1)) (mCall g_law_take (mCons (mVar 0) (mCons (mVar 1) (mNil))))) fun d => M.pure (.sh d))) (SM.seq (mIf (M.bind (mO2 eqD (mVarB 2) (M.pure (.int 0))) asB) (SM.seq (mSetD 4 (mB tupL (mCons (M.bind (q_law_row_5) fun ds => M.pure (.lst ds)) (mNil)))) (SM.seq (mSet 6 (M.bind (q_law_row_4) fun d => M.pure (.own d))) (mRet (mIte (M.bind (mO2 neD (mVarB 6) (M.bind (mLst (mNil)) fun ds => M.pure (.lst ds))) asB) (mCall g_law_pick (mCons (mVar 0) (mCons (mVar 6) (mNil)))) (mTup (mCons (M.pure (.int 1)) (mNil))))))) (mNx)) (SM.seq (mIf (M.bind (mO2 eqD (mVarB 2) (M.pure (.int 1))) asB) (mRet (mB tupL (mCons (M.bind (q_law_row_3) fun ds => M.pure (.lst ds)) (mNil)))) (mNx)) (SM.seq (mIf (M.bind (mO2 eqD (mVarB 2) (M.pure (.int 2))) asB) (SM.seq (mSetD 8 (M.bind (mLst (mNil)) fun ds => M.pure (.lst ds))) (SM.seq (mWhile (c_law_row_1) (l_law_row_1)) (mRet (mB tupL (mCons (mSl (mVarB 8) (M.pure none) (mPart (mVar 3))) (mNil)))))) (mNx)) (SM.seq (mIf (M.bind (mO2 eqD (mVarB 2) (M.pure (.int 3))) asB) (mRet (mO2 addD (mSl (mB tupL (mCons (mO2 mulD (M.bind (mLst (mCons (M.pure (.int 2)) (mCons (M.pure (.int 2)) (mNil)))) fun ds => M.pure (.lst ds)) (M.pure (.int 30))) (mNil))) (M.pure none) (mPart (mCall g_law_pick (mCons (mVar 0) (mCons (M.bind (mLst (mCons (M.pure (.int 2)) (mCons (M.pure (.int 2)) (mCons (M.pure (.int 4)) (mNil))))) fun ds => M.pure (.lst ds)) (mNil)))))) (mB tupL (mCons (M.bind (q_law_row_2) fun ds => M.pure (.lst ds)) (mNil))))) (mNx)) (mRet (mB tupL (mCons (M.bind (q_law_row_1) fun ds => M.pure (.lst ds)) (mNil))))))))
noncomputable def g_law_row : Fn := mFn 9 2 d_law_row
theorem e_law_row {a0 a1 : D} {st : List Ob} : g_law_row [a0, a1] st = endR (d_law_row ⟨[.sh a0, .sh a1, .emp, .emp, .emp, .emp, .emp, .emp, .emp], st⟩) := by unfold g_law_row; exact mFn_end rfl rfl
noncomputable def d_law_no_row : SM := mRet (mCall g_law_pick (mCons (mVar 0) (mCons (M.bind (mLst (mCons (M.pure .non) (mCons (M.pure (.int 5)) (mCons (M.pure (.str "1")) (mCons (M.bind (mLst (mCons (M.pure (.int 1)) (mNil))) fun ds => M.pure (.lst ds)) (mCons (mTup (mCons (M.pure (.int 0)) (mNil))) (mCons (mTup (mCons (M.pure (.int 100)) (mNil))) (mCons (mTup (mCons (mO2 subD (M.pure (.int 0)) (M.pure (.int 1))) (mNil))) (mCons (mTup (mCons (M.pure (.bl true)) (mNil))) (mCons (mTup (mCons (M.pure (.str "1")) (mNil))) (mCons (mTup (mCons (M.pure (.int 1)) (mCons (M.pure .non) (mNil)))) (mCons (mO2 mulD (mTup (mCons (M.pure (.int 1)) (mNil))) (M.pure (.int 61))) (mCons (M.pure (.dct [])) (mCons (mTup (mCons (mTup (mCons (M.pure (.int 1)) (mNil))) (mNil))) (mNil))))))))))))))) fun ds => M.pure (.lst ds)) (mNil))))
noncomputable def g_law_no_row : Fn := mFn 1 1 d_law_no_row
theorem e_law_no_row {a0 : D} {st : List Ob} : g_law_no_row [a0] st = endR (d_law_no_row ⟨[.sh a0], st⟩) := by unfold g_law_no_row; exact mFn_end rfl rfl
noncomputable def c_law_elders_1 : M Bool := M.bind (mO2 isNotD (mVarB 2) (M.pure .non)) asB
noncomputable def l_law_elders_1 : SM := SM.seq (mApp 1 (mVar 2)) (mSetD 2 (mCall g_law_elder (mCons (mVar 2) (mNil))))
noncomputable def d_law_elders : SM := SM.seq (mPar 1 2 (M.bind (mLst (mNil)) fun d => M.pure (.own d)) (M.bind (mCall g_law_elder (mCons (mVar 0) (mNil))) fun d => M.pure (.sh d))) (SM.seq (mWhile (c_law_elders_1) (l_law_elders_1)) (mRet (mVar 1)))
noncomputable def g_law_elders : Fn := mFn 3 1 d_law_elders
theorem e_law_elders {a0 : D} {st : List Ob} : g_law_elders [a0] st = endR (d_law_elders ⟨[.sh a0, .emp, .emp], st⟩) := by unfold g_law_elders; exact mFn_end rfl rfl
noncomputable def q_law_right_1 : M (List D) := mLc [12] (M.bind (M.bind (mLst (mCons (M.pure (.fn "age")) (mCons (M.pure (.fn "elders")) (mNil)))) fun ds => M.pure (.lst ds)) seqOf) (tgN 12) (mTrue) (M.bind (mCaught sayErrs (mCallV (mVar 12) [("age", g_age), ("elders", g_elders)] (mCons (mCall g_law_no_row (mCons (mVar 0) (mNil))) (mNil)))) fun d => ofO (isX "BadRow" d))
noncomputable def q_law_right_2 : M (List D) := mLc [2] (M.bind (mCons (mO2 addD (M.pure (.int 2)) (mO2 mulD (M.pure (.int 2)) (mCall g_law_take (mCons (mVar 0) (mCons (M.pure (.int 3)) (mNil)))))) (mNil)) fun ds => ofO (rng1 ds)) (tgN 2) (mTrue) (mO2 addD (M.pure (.int 1)) (mCall g_law_take (mCons (mVar 0) (mCons (M.pure (.int 3)) (mNil)))))
noncomputable def q_law_right_3 : M (List D) := mLc [10] (M.bind (mSlC 2 (mVarB 5) (M.pure none) (M.pure none)) seqOf) (tgN 10) (M.bind (mO2 gtD (mVarB 10) (M.pure (.int 3))) asB) (mVar 10)
noncomputable def q_law_right_4 : M (List D) := mLc [8, 9] (M.bind (mCall g_law_runs (mCons (mVar 5) (mNil))) seqOf) (tgT 2 (tgCons (tgN 8) (tgCons (tgN 9) (tgNil)))) (mTrue) (mVar 8)
noncomputable def l_law_right_1 : SM := SM.seq (mIf (M.bind (mO2 eqD (mVarB 5) (mTup (mCons (M.pure (.int 2)) (mCons (M.pure (.int 2)) (mNil))))) asB) (mCt) (mNx)) (SM.seq (mSetD 6 (mCall g_law_elders (mCons (mVar 5) (mNil)))) (SM.seq (mIf (M.bind (M.bind (mCall g_law_says (mCons (M.bind (mLst (mCons (mCall g_elders (mCons (mVar 5) (mNil))) (mCons (mCall g_elders (M.bind (mCons (mVar 5) (mNil)) fun ds => M.pure (permL [0] ds))) (mCons (mCall g_age (mCons (mVar 5) (mNil))) (mCons (mCall g_age (M.bind (mCons (mVar 5) (mNil)) fun ds => M.pure (permL [0] ds))) (mNil)))))) fun ds => M.pure (.lst ds)) (mCons (M.bind (mLst (mCons (mB tupL (mCons (mVarB 6) (mNil))) (mCons (mB tupL (mCons (mVarB 6) (mNil))) (mCons (mB lenL (mCons (mVarB 6) (mNil))) (mCons (mB lenL (mCons (mVarB 6) (mNil))) (mNil)))))) fun ds => M.pure (.lst ds)) (mNil)))) asB) fun b => M.pure (!b)) (mRet (M.pure (.bl false))) (mNx)) (SM.seq (mSetD 7 (mCall g_law_said (mCons (mVar 5) (mNil)))) (SM.seq (mIf (mAnd (M.bind (mO2 leD (mB lenL (mCons (mVarB 7) (mNil))) (M.pure (.int 60))) asB) (M.bind (mO2 neD (mCall g_age (mCons (mVar 7) (mNil))) (mO2 addD (mB lenL (mCons (mVarB 6) (mNil))) (M.pure (.int 1)))) asB)) (mRet (M.pure (.bl false))) (mNx)) (mIf (mAnd (M.bind (mO2 gtD (mB lenL (mCons (mVarB 6) (mNil))) (M.pure (.int 1))) asB) (mOr (M.bind (mO2 gtD (mB maxL (mCons (M.bind (q_law_right_4) fun ds => M.pure (.lst ds)) (mNil))) (M.pure (.int 3))) asB) (M.bind (mO2 neD (M.bind (q_law_right_3) fun ds => M.pure (.lst ds)) (M.bind (mLst (mNil)) fun ds => M.pure (.lst ds))) asB))) (mRet (M.pure (.bl false))) (mNx))))))
noncomputable def q_law_right_5 : M (List D) := mLc [4] (M.bind (mCall g_law_days (mCons (mVar 1) (mCons (mCall g_law_take (mCons (mVar 0) (mCons (M.pure (.int 10)) (mNil)))) (mNil)))) seqOf) (tgN 4) (M.bind (mO2 leD (mB lenL (mCons (mVarB 4) (mNil))) (M.pure (.int 60))) asB) (mVar 4)
noncomputable def q_law_right_6 : M (List D) := mLc [2] (M.bind (mCons (mO2 addD (M.pure (.int 1)) (mCall g_law_take (mCons (mVar 0) (mCons (M.pure (.int 3)) (mNil))))) (mNil)) fun ds => ofO (rng1 ds)) (tgN 2) (mTrue) (mCall g_law_pick (mCons (mVar 0) (mCons (M.bind (mLst (mCons (M.pure (.int 1)) (mCons (M.pure (.int 2)) (mCons (M.pure (.int 3)) (mCons (M.pure (.int 3)) (mCons (M.pure (.int 4)) (mCons (M.pure (.int 9)) (mNil)))))))) fun ds => M.pure (.lst ds)) (mNil))))
noncomputable def d_law_right : SM := SM.seq (mSetD 1 (mB tupL (mCons (M.bind (q_law_right_6) fun ds => M.pure (.lst ds)) (mNil)))) (SM.seq (mSet 3 (M.bind (q_law_right_5) fun d => M.pure (.own d))) (SM.seq (mFor (M.bind (M.bind (mLst (mCons (mO2 ixD (mVarB 3) (M.bind (M.pure (.int 1)) fun d => ofO (negD d))) (mCons (mCall g_law_row (mCons (mVar 0) (mCons (mCall g_law_pick (mCons (mVar 0) (mCons (M.bind (mLst (mCons (M.pure (.int 2)) (mCons (M.pure (.int 4)) (mCons (M.pure (.int 12)) (mNil))))) fun ds => M.pure (.lst ds)) (mNil)))) (mNil)))) (mCons (mB tupL (mCons (M.bind (q_law_right_2) fun ds => M.pure (.lst ds)) (mNil))) (mNil))))) fun ds => M.pure (.lst ds)) seqOf) (tgN 5) (l_law_right_1)) (SM.seq (mSet 11 (M.bind (q_law_right_1) fun d => M.pure (.own d))) (mRet (mO2 eqD (mO2 addD (mVarB 11) (M.bind (mLst (mCons (M.bind (mCaught sayErrs (mCall g_elders (mCons (mCall g_law_pick (mCons (mVar 0) (mCons (M.bind (mLst (mCons (mTup (mNil)) (mCons (mTup (mCons (M.pure (.int 2)) (mCons (M.pure (.int 2)) (mNil)))) (mNil)))) fun ds => M.pure (.lst ds)) (mNil)))) (mNil)))) fun d => ofO (isX "BadRow" d)) (mNil))) fun ds => M.pure (.lst ds))) (mO2 mulD (M.bind (mLst (mCons (M.pure (.bl true)) (mNil))) fun ds => M.pure (.lst ds)) (M.pure (.int 3))))))))
noncomputable def g_law_right : Fn := mFn 13 1 d_law_right
theorem e_law_right {a0 : D} {st : List Ob} : g_law_right [a0] st = endR (d_law_right ⟨[.sh a0, .emp, .emp, .emp, .emp, .emp, .emp, .emp, .emp, .emp, .emp, .emp, .emp], st⟩) := by unfold g_law_right; exact mFn_end rfl rfl
noncomputable def l_law_1 : SM := mIf (M.bind (M.bind (mCall g_law_right (mCons (mVar 1) (mNil))) asB) fun b => M.pure (!b)) (mRet (M.pure (.bl false))) (mNx)
noncomputable def d_law : SM := SM.seq (mSetD 1 (mCall g_law_begun (mCons (mVar 0) (mNil)))) (SM.seq (mFor (M.bind (mCons (mO2 addD (M.pure (.int 5)) (mB min2 (mCons (mB lenL (mCons (mVarB 0) (mNil))) (mCons (M.pure (.int 10)) (mNil))))) (mNil)) fun ds => ofO (rng1 ds)) (tgN 2) (l_law_1)) (SM.seq (mSetD 3 (M.bind (mLst (mCons (mCall g_age (mCons (mTup (mCons (M.pure (.int 1)) (mCons (M.pure (.int 1)) (mCons (M.pure (.int 1)) (mCons (M.pure (.int 2)) (mCons (M.pure (.int 2)) (mCons (M.pure (.int 1)) (mNil)))))))) (mNil))) (mCons (mCall g_elders (mCons (mTup (mCons (M.pure (.int 1)) (mCons (M.pure (.int 1)) (mCons (M.pure (.int 1)) (mCons (M.pure (.int 2)) (mCons (M.pure (.int 2)) (mCons (M.pure (.int 1)) (mNil)))))))) (mNil))) (mCons (mCall g_age (mCons (mTup (mNil)) (mNil))) (mCons (mCall g_age (mCons (mTup (mCons (M.pure (.int 2)) (mCons (M.pure (.int 2)) (mNil)))) (mNil))) (mCons (mCall g_age (mCons (mTup (mCons (M.pure (.int 12)) (mCons (M.pure (.int 1)) (mNil)))) (mNil))) (mCons (mCall g_age (mCons (mTup (mCons (M.pure (.int 7)) (mNil))) (mNil))) (mCons (mCall g_elders (mCons (mTup (mCons (M.pure (.int 7)) (mNil))) (mNil))) (mNil))))))))) fun ds => M.pure (.lst ds))) (mRet (mCall g_law_says (mCons (mVar 3) (mCons (M.bind (mLst (mCons (M.pure (.int 4)) (mCons (mTup (mCons (mTup (mCons (M.pure (.int 1)) (mCons (M.pure (.int 2)) (mCons (M.pure (.int 1)) (mCons (M.pure (.int 1)) (mNil)))))) (mCons (mTup (mCons (M.pure (.int 2)) (mCons (M.pure (.int 1)) (mNil)))) (mCons (mTup (mCons (M.pure (.int 1)) (mCons (M.pure (.int 1)) (mNil)))) (mCons (mTup (mCons (M.pure (.int 1)) (mNil))) (mNil)))))) (mCons (M.pure .non) (mCons (M.pure .non) (mCons (M.pure (.int 1)) (mCons (M.pure (.int 0)) (mCons (mTup (mNil)) (mNil))))))))) fun ds => M.pure (.lst ds)) (mNil)))))))
noncomputable def g_law : Fn := mFn 4 1 d_law
theorem e_law {a0 : D} {st : List Ob} : g_law [a0] st = endR (d_law ⟨[.sh a0, .emp, .emp, .emp], st⟩) := by unfold g_law; exact mFn_end rfl rfl
end Ls
/-! the laws' draws: begun, mixed, take, pick -/
namespace Ls
open PySem PySem.Spec L2
/-- the shared dict of a draw -/
def drawOb (w : Int) (cs : List Int) (n : Int) : Ob := .dct [(.inr "whole", .int w), (.inr "cells", .lst (cs.map .int)), (.inr "count", .int n)]
/-- the store while a law draws -/
def Drawn (st : List Ob) : Prop := ∃ w cs n, st = [drawOb w cs n] ∧ 0 ≤ w ∧ cs.length ≤ 63 ∧ 0 ≤ n
theorem mixed_ok {w n : Int} {cs : List Int} (hc : cs.length ≤ 63) (hn : 0 ≤ n) : ∃ r, g_law_mixed [.obj 0] [drawOb w cs n] = .ok (.int r) [drawOb w cs (n + 1)] ∧ 0 ≤ r := by
  obtain ⟨s', h1, x, c, h2, h3⟩ : ∃ s', forL (tgN 2) (SM.seq (mSetD 1 (mO2 modD (mB int1 (mCons (mO2 mulD (mO2 addD (mVarB 1) (mVarB 2)) (M.pure (.int 1099511628211))) (mNil))) (mO2 subD (mO2 powD (M.pure (.int 2)) (M.pure (.int 61))) (M.pure (.int 1)))))
      (mSetD 1 (mO2 addD (mVarB 1) (mO2 fdivD (mVarB 1) (mO2 powD (M.pure (.int 2)) (M.pure (.int 17))))))) (cs.map .int ++ [.int (n + 1)]) ⟨[.sh (.obj 0), .sh (.int (1469598103934665603 + 97 * (n + 1))), .emp], [drawOb w cs (n + 1)]⟩ = .nx s' ∧
      ∃ (x : Int) (c : Sl), s' = ⟨[.sh (.obj 0), .sh (.int x), c], [drawOb w cs (n + 1)]⟩ ∧ 0 ≤ x := by
    refine forL_inv (fun _ s => ∃ (x : Int) (c : Sl), s = ⟨[.sh (.obj 0), .sh (.int x), c], [drawOb w cs (n + 1)]⟩ ∧ 0 ≤ x) (fun i d s hd hs => ?_) ⟨_, _, rfl, by omega⟩
    obtain ⟨x, c, rfl, hx⟩ := hs
    obtain ⟨z, rfl⟩ : ∃ z, d = .int z := by
      rcases List.mem_append.mp (List.mem_of_getElem? hd) with q | q
      · obtain ⟨z, _, rfl⟩ := List.mem_map.mp q
        exact ⟨z, rfl⟩
      · exact ⟨_, List.mem_singleton.mp q⟩
    have y0 : 0 ≤ ((x + z) * 1099511628211) % 2305843009213693951 := Int.emod_nonneg _ (by decide)
    refine ⟨_, rfl, ⟨[.sh (.obj 0), .sh (.int (((x + z) * 1099511628211) % 2305843009213693951 + ((x + z) * 1099511628211) % 2305843009213693951 / 131072)), .sh (.int z)], [drawOb w cs (n + 1)]⟩,
      seq_nx (s1 := ⟨[.sh (.obj 0), .sh (.int (((x + z) * 1099511628211) % 2305843009213693951)), .sh (.int z)], [drawOb w cs (n + 1)]⟩) (setD_ok (s1 := ⟨[.sh (.obj 0), .sh (.int x), .sh (.int z)], [drawOb w cs (n + 1)]⟩)
        (op2_ok (x := .int ((x + z) * 1099511628211)) (y := .int 2305843009213693951) (s1 := ⟨[.sh (.obj 0), .sh (.int x), .sh (.int z)], [drawOb w cs (n + 1)]⟩) (b1_ok (op2_ok (x := .int (x + z)) rfl rfl (mul_r (by decide))) rfl) (by kernel_rfl) (mod_ok (by decide)))) (by kernel_rfl), _, _, rfl, ?_⟩
    have := Int.ediv_nonneg y0 (by decide : (0 : Int) ≤ 131072)
    omega
  subst h2
  refine ⟨x, fn_ok (d := .int x) (s := ⟨[.sh (.obj 0), .sh (.int x), c], [drawOb w cs (n + 1)]⟩) rfl (seq_nx (s1 := ⟨[.sh (.obj 0), .emp, .emp], [drawOb w cs (n + 1)]⟩) rfl (seq_nx (s1 := ⟨[.sh (.obj 0), .sh (.int (1469598103934665603 + 97 * (n + 1))), .emp], [drawOb w cs (n + 1)]⟩) (by kernel_rfl) (seq_nx (for_ok ?_ h1) rfl))), h3⟩
  refine bind_ok (s1 := ⟨[.sh (.obj 0), .sh (.int (1469598103934665603 + 97 * (n + 1))), .emp], [drawOb w cs (n + 1)]⟩) (a := .lst (cs.map .int ++ [.int (n + 1)])) (op2_ok (x := .lst (cs.map .int)) (y := .lst [.int (n + 1)]) rfl rfl ?_) rfl
  show (if (cs.map D.int).length + 1 ≤ SZ then some (D.lst (cs.map .int ++ [.int (n + 1)])) else none) = _
  rw [if_pos (by rw [List.length_map]; unfold SZ; omega)]
/-- a draw: some number below the amount -/
theorem take_ok {a : Int} {st : List Ob} (D : Drawn st) (h1 : 1 ≤ a) (h2 : a ≤ 1125899906842624) : ∃ r st', g_law_take [.obj 0, .int a] st = .ok (.int r) st' ∧ Drawn st' ∧ 0 ≤ r ∧ r < a := by
  obtain ⟨w, cs, n, rfl, hw, hc, hn⟩ := D
  by_cases ha : a < 2
  · refine ⟨0, _, fn_ok (d := .int 0) (s := ⟨[.sh (.obj 0), .sh (.int a), .emp], [drawOb w cs n]⟩) rfl (seq_rt (if_t (s1 := ⟨[.sh (.obj 0), .sh (.int a), .emp], [drawOb w cs n]⟩) ?_ rfl)), ⟨w, cs, n, rfl, hw, hc, hn⟩, by omega, by omega⟩
    exact bind_ok (op2_ok (d := .bl true) rfl rfl (by show some (D.bl (decide (a < 2))) = _; rw [decide_eq_true ha])) rfl
  have t1 : mIf (M.bind (mO2 ltD (mVarB 1) (M.pure (.int 2))) asB) (mRet (M.pure (.int 0))) mNx ⟨[.sh (.obj 0), .sh (.int a), .emp], [drawOb w cs n]⟩ = .nx ⟨[.sh (.obj 0), .sh (.int a), .emp], [drawOb w cs n]⟩ :=
    if_f (bind_ok (op2_ok (d := .bl false) rfl rfl (by show some (D.bl (decide (a < 2))) = _; rw [decide_eq_false ha])) rfl) rfl
  by_cases hp : 0 < w
  · refine ⟨w % a, [drawOb (w / a) cs n], fn_ok (d := .int (w % a)) (s := ⟨[.sh (.obj 0), .sh (.int a), .sh (.int (w % a))], [drawOb (w / a) cs n]⟩) rfl (seq_nx t1 (seq_rt (if_t (s1 := ⟨[.sh (.obj 0), .sh (.int a), .emp], [drawOb w cs n]⟩) ?_
      (seq_nx (s1 := ⟨[.sh (.obj 0), .sh (.int a), .sh (.int (w % a))], [drawOb w cs n]⟩) (setD_ok (s1 := ⟨[.sh (.obj 0), .sh (.int a), .emp], [drawOb w cs n]⟩) (op2_ok (x := .int w) rfl rfl ?_)) (seq_nx (s1 := ⟨[.sh (.obj 0), .sh (.int a), .sh (.int (w % a))], [drawOb (w / a) cs n]⟩) ?_ rfl))))), ⟨w / a, cs, n, rfl, Int.ediv_nonneg hw (by omega), hc, hn⟩, Int.emod_nonneg _ (by omega), Int.emod_lt_of_pos _ (by omega)⟩
    · exact bind_ok (op2_ok (x := .int w) (d := .bl true) rfl rfl (by show some (D.bl (decide (0 < w))) = _; rw [decide_eq_true hp])) rfl
    · exact mod_ok (by omega)
    · have e : fdivD (.int w) (.int a) = some (.int (w / a)) := fdiv_ok (by omega) (by omega)
      have e2 : mO2 fdivD (M.bind (mVarB 0) fun x => M.bind (M.pure (.str "whole")) fun y => getD x y) (mVarB 1) ⟨[.sh (.obj 0), .sh (.int a), .sh (.int (w % a))], [drawOb w cs n]⟩ = .ok (.int (w / a)) ⟨[.sh (.obj 0), .sh (.int a), .sh (.int (w % a))], [drawOb w cs n]⟩ := op2_ok (x := .int w) rfl rfl e
      unfold mPutOb
      exact sbind_ok e2 rfl
  · have t2 : ∀ b1 b2, mIf (M.bind (mO2 gtD (M.bind (mVarB 0) fun x => M.bind (M.pure (.str "whole")) fun y => getD x y) (M.pure (.int 0))) asB) b1 mNx ⟨[.sh (.obj 0), .sh (.int a), .emp], [drawOb w cs n]⟩ = b2 → b2 = .nx ⟨[.sh (.obj 0), .sh (.int a), .emp], [drawOb w cs n]⟩ → True := fun _ _ _ _ => trivial
    obtain ⟨x, hx, x0⟩ := mixed_ok (w := w) (n := n) hc hn
    have y0 : 0 ≤ x / 1024 % a := Int.emod_nonneg _ (by omega)
    refine ⟨x / 1024 % a, [drawOb w cs (n + 1)], fn_ok (d := .int (x / 1024 % a)) (s := ⟨[.sh (.obj 0), .sh (.int a), .sh (.int x)], [drawOb w cs (n + 1)]⟩) rfl (seq_nx t1 (seq_nx (if_f (s1 := ⟨[.sh (.obj 0), .sh (.int a), .emp], [drawOb w cs n]⟩) ?_ rfl) (seq_nx (s1 := ⟨[.sh (.obj 0), .sh (.int a), .sh (.int x)], [drawOb w cs (n + 1)]⟩)
      (setD_ok (s1 := ⟨[.sh (.obj 0), .sh (.int a), .emp], [drawOb w cs (n + 1)]⟩) (call_ok (s1 := ⟨[.sh (.obj 0), .sh (.int a), .emp], [drawOb w cs n]⟩) rfl hx)) (seq_nx (mWhile_stop (s1 := ⟨[.sh (.obj 0), .sh (.int a), .sh (.int x)], [drawOb w cs (n + 1)]⟩) ?_) (ret_ok (op2_ok (x := .int (x / 1024)) (s1 := ⟨[.sh (.obj 0), .sh (.int a), .sh (.int x)], [drawOb w cs (n + 1)]⟩) (by kernel_rfl) rfl ?_)))))), ⟨w, cs, n + 1, rfl, hw, hc, by omega⟩, y0, Int.emod_lt_of_pos _ (by omega)⟩
    · exact bind_ok (op2_ok (x := .int w) (d := .bl false) rfl rfl (by show some (D.bl (decide (0 < w))) = _; rw [decide_eq_false hp])) rfl
    · unfold c_law_take_1 mAnd
      refine bind_ok (a := false) (bind_ok (op2_ok (x := .int a) (y := .int 1125899906842624) (d := .bl false) rfl (by kernel_rfl) (by show some (D.bl (decide (1125899906842624 < a))) = _; rw [decide_eq_false (by omega)])) rfl) rfl
    · exact mod_ok (by omega)
/-- a draw from a list -/
theorem pick_ok {ds : List D} {st : List Ob} (Dr : Drawn st) (h1 : 0 < ds.length) (h2 : ds.length ≤ 1000000) : ∃ d st', g_law_pick [.obj 0, .lst ds] st = .ok d st' ∧ Drawn st' ∧ d ∈ ds := by
  obtain ⟨r, st', e, D', r0, r1⟩ := take_ok (a := ds.length) Dr (by omega) (by omega)
  have hr : r.toNat < ds.length := by omega
  refine ⟨ds[r.toNat], st', fn_ok (d := ds[r.toNat]) (s := ⟨[.sh (.obj 0), .sh (.lst ds)], st'⟩) rfl (ret_ok (op2_ok (x := .lst ds) (y := .int r) (s1 := ⟨[.sh (.obj 0), .sh (.lst ds)], st⟩) rfl (call_ok (s1 := ⟨[.sh (.obj 0), .sh (.lst ds)], st⟩) rfl e) ?_)), D', List.getElem_mem _⟩
  show L2.atI ds r = _
  rw [at_ok r0 r1, List.getElem?_eq_getElem hr]
/-- the bits of the first numbers -/
theorem sumBits_snoc (l : List Int) (x : Int) : sumBits (l ++ [x]) = sumBits l + Builtin.Int.intBits x := by
  unfold sumBits
  simp
theorem begun_step {w c : Int} {b : Nat} (h0 : 0 ≤ w) (hw : w + 1 ≤ 2 ^ b) (hc : 1000000000000000000 ≤ c) : w * (c - 1000000000000000000 + 1) + (c - 1000000000000000000) + 1 ≤ 2 ^ (b + Builtin.Int.intBits c) := by
  have e : w * (c - 1000000000000000000 + 1) + (c - 1000000000000000000) + 1 = (w + 1) * (c - 1000000000000000000 + 1) := by
    generalize c - 1000000000000000000 = d
    rw [Int.mul_add, Int.mul_one, Int.add_mul, Int.mul_add, Int.mul_one, Int.one_mul]
    omega
  have hc2 : c.natAbs < 2 ^ Builtin.Int.intBits c := PySem.intBits_le_iff.mp (Nat.le_refl _)
  have hc3 : c - 1000000000000000000 + 1 ≤ ((2 ^ Builtin.Int.intBits c : Nat) : Int) := by omega
  rw [e, Int.pow_add]
  have p1 : ((2 ^ Builtin.Int.intBits c : Nat) : Int) = (2 : Int) ^ Builtin.Int.intBits c := by rw [Int.natCast_pow]; rfl
  rw [p1] at hc3
  exact Int.mul_le_mul hw hc3 (by omega) (by omega)
theorem begun_mul {w c : Int} {b : Nat} (h0 : 0 ≤ w) (hw : w + 1 ≤ 2 ^ b) (hb : b + Builtin.Int.intBits c ≤ 1048576) (hc : 1000000000000000000 ≤ c) : mulD (.int w) (.int (c - 1000000000000000000 + 1)) = some (.int (w * (c - 1000000000000000000 + 1))) := by
  show (if mulOk w (c - 1000000000000000000 + 1) = true then some (D.int (w * (c - 1000000000000000000 + 1))) else none) = _
  have p1 : ((2 ^ b : Nat) : Int) = (2 : Int) ^ b := by rw [Int.natCast_pow]; rfl
  have a1 : Builtin.Int.intBits w ≤ b := PySem.intBits_le_iff.mpr (by rw [← p1] at hw; omega)
  have a2 : Builtin.Int.intBits (c - 1000000000000000000 + 1) ≤ Builtin.Int.intBits c := PySem.intBits_le_of_natAbs (y := c) (by omega) (Nat.le_refl _)
  rw [if_pos]
  unfold mulOk
  rw [decide_eq_true (show Builtin.Int.intBits w ≤ 2 ^ 20 by omega), decide_eq_true (show Builtin.Int.intBits (c - 1000000000000000000 + 1) ≤ 2 ^ 20 by omega), Bool.and_true, Bool.or_true]
theorem begun_ok {ns : List Int} (hl : ns.length ≤ 63) (hb : sumBits ns ≤ 1048576) : ∃ st, g_law_begun [.wl (ns.map .int)] [] = .ok (.obj 0) st ∧ Drawn st := by
  have inv := forL_inv (ds := ns.map .int) (tf := tgN 3) (b := mIf (M.bind (M.bind (mVarB 3) fun d => ofO (isi "int" d)) asB) (SM.seq (mIf (M.bind (mO2 geD (mVarB 3) (mO2 powD (M.pure (.int 10)) (M.pure (.int 18)))) asB) (mSetD 1 (mO2 addD (mO2 mulD (mVarB 1) (mO2 addD (mO2 subD (mVarB 3) (mO2 powD (M.pure (.int 10)) (M.pure (.int 18)))) (M.pure (.int 1)))) (mO2 subD (mVarB 3) (mO2 powD (M.pure (.int 10)) (M.pure (.int 18)))))) (mNx)) (mApp 2 (mVar 3))) (mNx))
    (fun i s => ∃ (w : Int) (c : Sl), s = ⟨[.sh (.wl (ns.map .int)), .sh (.int w), .own ((ns.take i).map .int), c], []⟩ ∧ 0 ≤ w ∧ w + 1 ≤ 2 ^ sumBits (ns.take i)) (fun i d s hd hs => ?_) (s := ⟨[.sh (.wl (ns.map .int)), .sh (.int 0), .own [], .emp], []⟩) ⟨0, .emp, rfl, Int.le_refl _, by rw [List.take_zero]; exact Int.le_refl 1⟩
  · obtain ⟨s', h1, w, c, rfl, hw, _⟩ := inv
    refine ⟨[drawOb w ns 0], fn_ok (d := .obj 0) (s := ⟨[.sh (.wl (ns.map .int)), .sh (.int w), .sh (.lst (ns.map .int)), c], [drawOb w ns 0]⟩) rfl (seq_nx (s1 := ⟨[.sh (.wl (ns.map .int)), .sh (.int 0), .own [], .emp], []⟩) (by kernel_rfl) (seq_nx (for_ok (s1 := ⟨[.sh (.wl (ns.map .int)), .sh (.int 0), .own [], .emp], []⟩) (ds := ns.map .int) rfl h1) ?_)), w, ns, 0, rfl, hw, hl, Int.le_refl _⟩
    rw [List.length_map, List.take_length]
    rfl
  · obtain ⟨w, c, rfl, hw, hb2⟩ := hs
    rw [List.getElem?_map] at hd
    cases hx : ns[i]? with
    | none => rw [hx] at hd; cases hd
    | some x =>
      rw [hx] at hd
      cases hd
      have hi := (List.getElem?_eq_some_iff.mp hx).1
      have et : ns.take (i + 1) = ns.take i ++ [x] := by
        rw [List.take_succ, hx]
        rfl
      have eb : sumBits (ns.take (i + 1)) = sumBits (ns.take i) + Builtin.Int.intBits x := by rw [et, sumBits_snoc]
      have le : sumBits (ns.take (i + 1)) ≤ sumBits ns := by
        have : sumBits ns = sumBits (ns.take (i + 1)) + sumBits (ns.drop (i + 1)) := by
          unfold sumBits
          rw [← List.sum_append, ← List.map_append, List.take_append_drop]
        omega
      have app : ∀ v : Int, mApp 2 (mVar 3) ⟨[.sh (.wl (ns.map .int)), .sh (.int v), .own ((ns.take i).map .int), .sh (.int x)], []⟩ = .nx ⟨[.sh (.wl (ns.map .int)), .sh (.int v), .own ((ns.take (i + 1)).map .int), .sh (.int x)], []⟩ := fun v => by
        show (if ((ns.take i).map D.int).length < SZ then SR.nx ⟨[.sh (.wl (ns.map .int)), .sh (.int v), .own ((ns.take i).map .int ++ [.int x]), .sh (.int x)], []⟩ else .bad) = _
        rw [if_pos (by rw [List.length_map, List.length_take]; unfold SZ; omega), et, List.map_append]
        rfl
      by_cases hc : 1000000000000000000 ≤ x
      · refine ⟨_, rfl, _, if_t (s1 := ⟨[.sh (.wl (ns.map .int)), .sh (.int w), .own ((ns.take i).map .int), .sh (.int x)], []⟩) (by kernel_rfl) (seq_nx (s1 := ⟨[.sh (.wl (ns.map .int)), .sh (.int (w * (x - 1000000000000000000 + 1) + (x - 1000000000000000000))), .own ((ns.take i).map .int), .sh (.int x)], []⟩) (if_t (s1 := ⟨[.sh (.wl (ns.map .int)), .sh (.int w), .own ((ns.take i).map .int), .sh (.int x)], []⟩) ?_ (setD_ok (s1 := ⟨[.sh (.wl (ns.map .int)), .sh (.int w), .own ((ns.take i).map .int), .sh (.int x)], []⟩) ?_)) (app _)), _, _, rfl, ?_, ?_⟩
        · exact bind_ok (op2_ok (x := .int x) (y := .int 1000000000000000000) (d := .bl true) rfl (by kernel_rfl) (by show some (D.bl (decide ((1000000000000000000 : Int) ≤ x))) = _; rw [decide_eq_true hc])) rfl
        · exact op2_ok (x := .int (w * (x - 1000000000000000000 + 1))) (y := .int (x - 1000000000000000000)) (s1 := ⟨[.sh (.wl (ns.map .int)), .sh (.int w), .own ((ns.take i).map .int), .sh (.int x)], []⟩) (op2_ok (x := .int w) (y := .int (x - 1000000000000000000 + 1)) rfl (by kernel_rfl) (begun_mul hw hb2 (by omega) hc)) (by kernel_rfl) rfl
        · have : 0 ≤ w * (x - 1000000000000000000 + 1) := Int.mul_nonneg hw (by omega)
          omega
        · rw [eb]
          exact begun_step hw hb2 hc
      · refine ⟨_, rfl, _, if_t (s1 := ⟨[.sh (.wl (ns.map .int)), .sh (.int w), .own ((ns.take i).map .int), .sh (.int x)], []⟩) (by kernel_rfl) (seq_nx (s1 := ⟨[.sh (.wl (ns.map .int)), .sh (.int w), .own ((ns.take i).map .int), .sh (.int x)], []⟩) (if_f (s1 := ⟨[.sh (.wl (ns.map .int)), .sh (.int w), .own ((ns.take i).map .int), .sh (.int x)], []⟩) ?_ rfl) (app _)), _, _, rfl, hw, ?_⟩
        · exact bind_ok (op2_ok (x := .int x) (y := .int 1000000000000000000) (d := .bl false) rfl (by kernel_rfl) (by show some (D.bl (decide ((1000000000000000000 : Int) ≤ x))) = _; rw [decide_eq_false hc])) rfl
        · rw [eb, Int.pow_add]
          have : (1 : Int) ≤ 2 ^ Builtin.Int.intBits x := Int.pow_pos (by decide)
          calc w + 1 ≤ 2 ^ sumBits (ns.take i) * 1 := by rw [Int.mul_one]; exact hb2
            _ ≤ _ := Int.mul_le_mul (Int.le_refl _) this (by omega) (by omega)
end Ls
/-! the laws' "says": what is equal is of equal kinds -/
namespace Ls
open PySem PySem.Spec L2
mutual
theorem deq_refl : ∀ d : D, deq d d = true
  | .non => rfl
  | .bl b => by cases b <;> rfl
  | .int i => by show (i == i) = true; exact beq_self_eq_true i
  | .str x => by show (x == x) = true; exact beq_self_eq_true x
  | .tup ds => deqL_refl ds
  | .lst ds => deqL_refl ds
  | .wl _ => rfl
  | .dct _ => rfl
  | .dcT _ => rfl
  | .obj _ => rfl
  | .fn _ => rfl
  | .exc _ _ _ => rfl
theorem deqL_refl : ∀ ds : List D, PyData.eqvAll (toPyL ds) (toPyL ds) = true
  | [] => rfl
  | d :: ds => by
    show (PyData.eqv (toPy d) (toPy d) && PyData.eqvAll (toPyL ds) (toPyL ds)) = true
    rw [show PyData.eqv (toPy d) (toPy d) = true from deq_refl d, deqL_refl ds] <;> rfl
end
mutual
/-- how many things are in it -/
def dsz : D → Nat
  | .tup ds => 1 + dszL ds
  | .lst ds => 1 + dszL ds
  | _ => 1
def dszL : List D → Nat
  | [] => 0
  | d :: ds => dsz d + dszL ds
end
theorem dszL_append : ∀ a b : List D, dszL (a ++ b) = dszL a + dszL b
  | [], b => by rw [List.nil_append, show dszL [] = 0 from rfl, Nat.zero_add]
  | d :: a, b => by
    show dsz d + dszL (a ++ b) = dsz d + dszL a + dszL b
    rw [dszL_append a b, Nat.add_assoc]
theorem dsz_pos (d : D) : 1 ≤ dsz d := by
  cases d <;> simp [dsz]
theorem dszL_len : ∀ a : List D, a.length ≤ dszL a
  | [] => Nat.le_refl _
  | d :: a => by
    have := dszL_len a
    have := dsz_pos d
    show a.length + 1 ≤ dsz d + dszL a
    omega
/-- the words of kinds -/
def isKind (d : D) : Bool := match d with
  | .str x => PyData.strOk x
  | _ => false
theorem plain_kinds {ks : List D} (h : ks.all isKind = true) : plain (.lst ks) = true := by
  show ks.all (plainN 59) = true
  rw [List.all_eq_true] at h ⊢
  intro d hd
  have q := h d hd
  unfold isKind at q
  cases d with
  | str x => exact q
  | _ => cases q
theorem kinds_loop (th : D) (st : List Ob) : ∀ (n : Nat) (found line : List D) (c3 c4 : Sl), dszL line ≤ n → line.all (plainN 58) = true → found.length + dszL line ≤ 4000000 → found.all isKind = true →
    ∃ (ks : List D) (c5 c6 : Sl), mWhile c_law_kinds_1 l_law_kinds_1 ⟨[.sh th, .own found, .own line, c3, c4], st⟩ = .nx ⟨[.sh th, .own ks, .own [], c5, c6], st⟩ ∧ ks.all isKind = true := by
  intro n
  induction n with
  | zero =>
    intro found line c3 c4 hn hp hs hk
    have hl := dszL_len line
    have : line = [] := List.eq_nil_of_length_eq_zero (by omega)
    subst this
    exact ⟨found, c3, c4, mWhile_stop (by rfl), hk⟩
  | succ n ih =>
    intro found line c3 c4 hn hp hs hk
    rcases List.eq_nil_or_concat line with rfl | ⟨ini, one, rfl⟩
    · exact ⟨found, c3, c4, mWhile_stop (by rfl), hk⟩
    rw [List.concat_eq_append] at *
    rw [dszL_append] at hn hs
    have e1 : dszL [one] = dsz one := by show dsz one + 0 = _; rw [Nat.add_zero]
    rw [e1] at hn hs
    have h1 := dsz_pos one
    rw [List.all_append, Bool.and_eq_true] at hp
    have hp1 : plainN 58 one = true := by
      have := hp.2
      rw [List.all_cons, Bool.and_eq_true] at this
      exact this.1
    -- the test
    have test : c_law_kinds_1 ⟨[.sh th, .own found, .own (ini ++ [one]), c3, c4], st⟩ = .ok true ⟨[.sh th, .own found, .own (ini ++ [one]), c3, c4], st⟩ := by
      refine bind_ok (a := .bl true) (op2_ok (x := .lst (ini ++ [one])) (y := .lst []) rfl rfl ?_) rfl
      have p1 : plain (.lst (ini ++ [one])) = true := by
        show (ini ++ [one]).all (plainN 59) = true
        rw [List.all_eq_true]
        intro d hd
        have : (ini ++ [one]).all (plainN 58) = true := by rw [List.all_append, hp.1, hp.2]; rfl
        exact plain_up _ _ (List.all_eq_true.mp this d hd)
      show (if (plain (.lst (ini ++ [one])) && plain (.lst [])) = true then some (D.bl (!deq (.lst (ini ++ [one])) (.lst []))) else none) = _
      rw [p1, if_pos (by rfl)]
      cases ini with
      | nil => rfl
      | cons a b => rfl
    have pop : ∀ r, (mIf (mOr (M.bind (M.bind (mVarB 3) fun d => ofO (isi "bool" d)) asB) (M.bind (mO2 isD (mVarB 3) (M.pure .non)) asB)) (mApp 1 (mB reprL (mCons (mVarB 3) (mNil)))) r) = (mIf (mOr (M.bind (M.bind (mVarB 3) fun d => ofO (isi "bool" d)) asB) (M.bind (mO2 isD (mVarB 3) (M.pure .non)) asB)) (mApp 1 (mB reprL (mCons (mVarB 3) (mNil)))) r) := fun _ => rfl
    have pp : mPop 3 2 ⟨[.sh th, .own found, .own (ini ++ [one]), c3, c4], st⟩ = .nx ⟨[.sh th, .own found, .own ini, .sh one, c4], st⟩ := by
      show (match (ini ++ [one]).getLast? with
        | none => SR.bad
        | some d => .nx ⟨[.sh th, .own found, .own (ini ++ [one]).dropLast, .sh d, c4], st⟩) = _
      rw [List.getLast?_concat, List.dropLast_concat]
    -- one word more, the line shorter
    have word : ∀ (x : Str) (line2 : List D), PyData.strOk x = true → dszL line2 + 1 ≤ dszL ini + dsz one → line2.all (plainN 58) = true → l_law_kinds_1 ⟨[.sh th, .own found, .own (ini ++ [one]), c3, c4], st⟩ = .nx ⟨[.sh th, .own (found ++ [.str x]), .own line2, .sh one, c4], st⟩ →
        ∃ (ks : List D) (c5 c6 : Sl), mWhile c_law_kinds_1 l_law_kinds_1 ⟨[.sh th, .own found, .own (ini ++ [one]), c3, c4], st⟩ = .nx ⟨[.sh th, .own ks, .own [], c5, c6], st⟩ ∧ ks.all isKind = true := by
      intro x line2 hx hsz hpl hb
      obtain ⟨ks, c5, c6, hw, hk2⟩ := ih (found ++ [.str x]) line2 (.sh one) c4 (by omega) hpl (by rw [List.length_append, List.length_singleton]; omega) (by rw [List.all_append, hk]; show (true && (isKind (.str x) && true)) = true; rw [show isKind (.str x) = true from hx]; rfl)
      exact ⟨ks, c5, c6, mWhile_step test hb hw (by nofun), hk2⟩
    have app : ∀ (x : Str) (ln : List D), mApp 1 (M.pure (.str x)) ⟨[.sh th, .own found, .own ln, .sh one, c4], st⟩ = .nx ⟨[.sh th, .own (found ++ [.str x]), .own ln, .sh one, c4], st⟩ := fun x ln => by
      show (if found.length < SZ then SR.nx ⟨[.sh th, .own (found ++ [.str x]), .own ln, .sh one, c4], st⟩ else .bad) = _
      rw [if_pos (by unfold SZ; omega)]
    cases one with
    | non => exact word "None" ini (by decide +kernel) (by omega) hp.1 (seq_nx pp (by
        show (if found.length < SZ then SR.nx ⟨[.sh th, .own (found ++ [.str "None"]), .own ini, .sh .non, c4], st⟩ else .bad) = _
        rw [if_pos (by unfold SZ; omega)]))
    | bl b =>
      cases b with
      | true => exact word "True" ini (by decide +kernel) (by omega) hp.1 (seq_nx pp (by
          show (if found.length < SZ then SR.nx ⟨[.sh th, .own (found ++ [.str "True"]), .own ini, .sh (.bl true), c4], st⟩ else .bad) = _
          rw [if_pos (by unfold SZ; omega)]))
      | false => exact word "False" ini (by decide +kernel) (by omega) hp.1 (seq_nx pp (by
          show (if found.length < SZ then SR.nx ⟨[.sh th, .own (found ++ [.str "False"]), .own ini, .sh (.bl false), c4], st⟩ else .bad) = _
          rw [if_pos (by unfold SZ; omega)]))
    | int i => exact word "number" ini (by decide +kernel) (by omega) hp.1 (seq_nx pp (if_f rfl (if_t rfl (app _ _))))
    | str y => exact word "string" ini (by decide +kernel) (by omega) hp.1 (seq_nx pp (if_f rfl (if_f rfl (if_t rfl (app _ _)))))
    | tup ds =>
      have hd : dsz (.tup ds) = 1 + dszL ds := rfl
      have hpd : ds.all (plainN 57) = true := hp1
      refine word "tuple" (ini ++ ds) (by decide +kernel) (by rw [dszL_append]; omega) (by rw [List.all_append, hp.1]; exact List.all_eq_true.mpr fun d h => plain_up _ _ (List.all_eq_true.mp hpd d h)) (seq_nx pp (if_f rfl (if_f rfl (if_f rfl (if_t rfl (seq_nx (s1 := ⟨[.sh th, .own (found ++ [.str "tuple"]), .own ini, .sh (.tup ds), c4], st⟩) ?_ ?_))))))
      · show (if found.length < SZ then SR.nx ⟨[.sh th, .own (found ++ [.str "tuple"]), .own ini, .sh (.tup ds), c4], st⟩ else .bad) = _
        rw [if_pos (by unfold SZ; omega)]
      · have e : catL (.lst ini) (.lst ds) = some (ini ++ ds) := by
          show (if ini.length + ds.length ≤ SZ then some (ini ++ ds) else none) = _
          have a1 := dszL_len ini
          have a2 := dszL_len ds
          rw [if_pos (by unfold SZ; omega)]
        unfold mSet mL2
        exact sbind_ok (bind_ok (bind_ok (a := .lst ini) rfl (bind_ok (a := .lst ds) rfl (ofO_ok e))) rfl) rfl
    | lst ds =>
      have hd : dsz (.lst ds) = 1 + dszL ds := rfl
      have hpd : ds.all (plainN 57) = true := hp1
      refine word "list" (ini ++ ds) (by decide +kernel) (by rw [dszL_append]; omega) (by rw [List.all_append, hp.1]; exact List.all_eq_true.mpr fun d h => plain_up _ _ (List.all_eq_true.mp hpd d h)) (seq_nx pp (if_f rfl (if_f rfl (if_f rfl (if_t rfl (seq_nx (s1 := ⟨[.sh th, .own (found ++ [.str "list"]), .own ini, .sh (.lst ds), c4], st⟩) ?_ ?_))))))
      · show (if found.length < SZ then SR.nx ⟨[.sh th, .own (found ++ [.str "list"]), .own ini, .sh (.lst ds), c4], st⟩ else .bad) = _
        rw [if_pos (by unfold SZ; omega)]
      · have e : catL (.lst ini) (.lst ds) = some (ini ++ ds) := by
          show (if ini.length + ds.length ≤ SZ then some (ini ++ ds) else none) = _
          have a1 := dszL_len ini
          have a2 := dszL_len ds
          rw [if_pos (by unfold SZ; omega)]
        unfold mSet mL2
        exact sbind_ok (bind_ok (bind_ok (a := .lst ini) rfl (bind_ok (a := .lst ds) rfl (ofO_ok e))) rfl) rfl
    | _ => simp [plainN] at hp1
theorem kinds_ok {d : D} {st : List Ob} (h : plainN 58 d = true) (hs : dsz d ≤ 4000000) : ∃ ks, g_law_kinds [d] st = .ok (.lst ks) st ∧ ks.all isKind = true := by
  obtain ⟨ks, c5, c6, hw, hk⟩ := kinds_loop d st (dszL [d]) [] [d] .emp .emp (Nat.le_refl _) (by show (plainN 58 d && true) = true; rw [h]; rfl) (by show 0 + (dsz d + 0) ≤ _; omega) rfl
  exact ⟨ks, fn_ok (d := .lst ks) (s := ⟨[.sh d, .sh (.lst ks), .own [], c5, c6], st⟩) rfl (seq_nx (s1 := ⟨[.sh d, .own [], .own [d], .emp, .emp], st⟩) rfl (seq_nx hw rfl)), hk⟩
/-- what is told is what is due -/
theorem says_ok {d : D} {st : List Ob} (h : plainN 58 d = true) (hs : dsz d ≤ 4000000) : g_law_says [d, d] st = .ok (.bl true) st := by
  obtain ⟨ks, hk, ha⟩ := kinds_ok (st := st) h hs
  have p1 := plain_kinds ha
  have p2 : plain d = true := plain_up _ _ (plain_up _ _ h)
  have e1 : eqD (.lst ks) (.lst ks) = some (.bl true) := by
    unfold eqD
    rw [p1, if_pos (by rfl), deq_refl]
  have e2 : eqD d d = some (.bl true) := by
    unfold eqD
    rw [p2, if_pos (by rfl), deq_refl]
  refine fn_ok (d := .bl true) (s := ⟨[.sh d, .sh d], st⟩) rfl (ret_ok (bind_ok (a := .bl true) (s1 := ⟨[.sh d, .sh d], st⟩) (op2_ok (x := .lst ks) (y := .lst ks) (s1 := ⟨[.sh d, .sh d], st⟩) (call_ok (s1 := ⟨[.sh d, .sh d], st⟩) rfl hk) (call_ok (s1 := ⟨[.sh d, .sh d], st⟩) rfl hk) e1) ?_))
  show (M.bind (asB (.bl true)) fun b => if b then mO2 eqD (mVarB 0) (mVarB 1) else M.pure (.bl false)) _ = _
  exact op2_ok (x := d) (y := d) (s1 := ⟨[.sh d, .sh d], st⟩) rfl rfl e2
end Ls
/-! rules by which a den is evaluated, step by step -/
namespace Ls
open PySem PySem.Spec L2
def SR.cont (r : SR) (b : SM) : SR := match r with
  | .nx s => b s
  | r => r
def Res.sbind {α : Type} (r : Res α) (k : α → SM) : SR := match r with
  | .bad => .bad
  | .ok a s => k a s
  | .exc x s => .exc x s
/-- the slot i of env becomes x -/
def SetAt (env : List Sl) (i : Nat) (x : Sl) (env' : List Sl) : Prop := env.set i x = env'
section
variable {α β : Type} {a b : SM} {s s1 : S} {r r1 : SR} {d d2 : D} {x : Ex} {env env' env2 : List Sl} {st st2 : List Ob} {i j : Nat} {y : Sl} {ds : List D}
theorem set_0 {l : List Sl} {z : Sl} : SetAt (y :: l) 0 z (z :: l) := rfl
theorem set_s {l l' : List Sl} {z : Sl} (h : SetAt l i z l') : SetAt (y :: l) (i + 1) z (y :: l') := by
  unfold SetAt at h ⊢
  rw [List.set_cons_succ, h]
theorem seq_ev (h : a s = r1) (h2 : r1.cont b = r) : SM.seq a b s = r := by
  subst h
  exact h2
theorem cont_nx (h : b s = r) : SR.cont (.nx s) b = r := h
theorem cont_rt : SR.cont (.rt d s) b = .rt d s := rfl
theorem cont_rtE_ev (h : d = d2) : SR.cont (.rt d s) b = .rt d2 s := by
  subst h
  rfl
theorem cont_exc : SR.cont (.exc x s) b = .exc x s := rfl
theorem cont_bk : SR.cont (.bk s) b = .bk s := rfl
theorem cont_ct : SR.cont (.ct s) b = .ct s := rfl
theorem sb_ev {f : M α} {k : α → SM} {q : Res α} (h : f s = q) (h2 : q.sbind k = r) : SM.bind f k s = r := by
  subst h
  exact h2
theorem sb_ok {k : α → SM} {v : α} (h : k v s = r) : Res.sbind (.ok v s) k = r := h
theorem sb_exc {k : α → SM} : Res.sbind (.exc x s) k = .exc x s := rfl
theorem nx_set (h : SetAt env i y env') : SR.nx (setSlot i y ⟨env, st⟩) = .nx ⟨env', st⟩ := by
  unfold SetAt at h
  subst h
  rfl
theorem nx_id : SR.nx s = .nx s := rfl
theorem rt_id : SR.rt d s = .rt d s := rfl
theorem nx_ev : mNx s = .nx s := rfl
theorem bk_ev : mBk s = .bk s := rfl
theorem ct_ev : mCt s = .ct s := rfl
theorem retN_ev : mRetN s = .rt .non s := rfl
theorem raise_ev {x : Str} : mRaise x s = .exc ⟨x, none, .non⟩ s := rfl
theorem mset_ev {f : M Sl} (h : SM.bind f (fun x => fun s => .nx (setSlot i x s)) s = r) : mSet i f s = r := h
theorem msetD_ev {f : M D} (h : SM.bind f (fun d => fun s => .nx (setSlot i (.sh d) s)) s = r) : mSetD i f s = r := h
theorem mif_ev {c : M Bool} (h : SM.bind c (fun k => if k then a else b) s = r) : mIf c a b s = r := h
theorem mret_ev {f : M D} (h : SM.bind f (fun d => fun s => .rt d s) s = r) : mRet f s = r := h
theorem mdrop_ev {f : M D} (h : SM.bind f (fun _ => fun s => .nx s) s = r) : mDrop f s = r := h
theorem mfor_ev {it : M (List D)} {tf : D → S → Option S} (h : SM.bind it (fun ds => forL tf b ds) s = r) : mFor it tf b s = r := h
theorem mpar_ev {f g : M Sl} (h : SM.bind f (fun x => SM.bind g fun y => fun s => .nx (setSlot j y (setSlot i x s))) s = r) : mPar i j f g s = r := h
theorem mpar3_ev {l : Nat} {f g k : M Sl} (h : SM.bind f (fun x => SM.bind g fun y => SM.bind k fun z => fun s => .nx (setSlot l z (setSlot j y (setSlot i x s)))) s = r) : mPar3 i j l f g k s = r := h
theorem nx_set2 {z : Sl} (h : SetAt env i y env') (h2 : SetAt env' j z env2) : SR.nx (setSlot j z (setSlot i y ⟨env, st⟩)) = .nx ⟨env2, st⟩ := by
  unfold SetAt at h h2
  subst h
  subst h2
  rfl
theorem nx_set3 {l : Nat} {z w : Sl} {env3 : List Sl} (h : SetAt env i y env') (h2 : SetAt env' j z env2) (h3 : SetAt env2 l w env3) : SR.nx (setSlot l w (setSlot j z (setSlot i y ⟨env, st⟩))) = .nx ⟨env3, st⟩ := by
  unfold SetAt at h h2 h3
  subst h
  subst h2
  subst h3
  rfl
/-- targets -/
def asgR (o : Option S) : SR := match o with
  | none => .bad
  | some s => .nx s
theorem masg_ev {f : M D} {tf : D → S → Option S} (h : SM.bind f (fun d => fun s => asgR (tf d s)) s = r) : mAsg f tf s = r := h
theorem asg_ev {o : Option S} (h : o = some s) : asgR o = .nx s := by
  subst h
  rfl
theorem tgN_ev (h : SetAt env i (.sh d) env') : tgN i d ⟨env, st⟩ = some ⟨env', st⟩ := by
  unfold SetAt at h
  subst h
  rfl
theorem tgNil_ev : tgNil [] s = some s := rfl
theorem tgCons_ev {t : D → S → Option S} {u : List D → S → Option S} {s2 : S} (h : t d s = some s1) (h2 : u ds s1 = some s2) : tgCons t u (d :: ds) s = some s2 := by
  show (t d s).bind (fun s' => u ds s') = _
  rw [h]
  exact h2
theorem tgT_ev {n : Nat} {u : List D → S → Option S} {s2 : S} (h : ds.length = n) (h2 : u ds s = some s2) : tgT n u (.tup ds) s = some s2 := by
  show (if ds.length = n then u ds s else none) = _
  rw [if_pos h]
  exact h2
/-- own lists -/
theorem app_ev {f : M D} {ds ds2 : List D} (h0 : env[i]? = some (.own ds)) (h : f ⟨env, st⟩ = .ok d ⟨env2, st2⟩) (h1 : env2[i]? = some (.own ds2)) (h2 : ds2.length < SZ) (h3 : SetAt env2 i (.own (ds2 ++ [d])) env') : mApp i f ⟨env, st⟩ = .nx ⟨env', st2⟩ := by
  unfold SetAt at h3
  subst h3
  have e1 : getOwn i ⟨env, st⟩ = some ds := by show (match env[i]? with | some (.own ds) => some ds | _ => none) = _; rw [h0]
  have e2 : getOwn i ⟨env2, st2⟩ = some ds2 := by show (match env2[i]? with | some (.own ds) => some ds | _ => none) = _; rw [h1]
  unfold mApp
  rw [e1]
  show SM.bind f _ ⟨env, st⟩ = _
  refine sbind_ok h ?_
  rw [e2]
  dsimp only
  rw [if_pos h2]
  rfl
theorem setIx_ev {f fk : M D} {ds ds2 : List D} {st3 : List Ob} {env3 : List Sl} {k : Int} {n : Nat} (h : f ⟨env, st⟩ = .ok d ⟨env2, st2⟩) (h0 : env2[i]? = some (.own ds)) (hk : fk ⟨env2, st2⟩ = .ok (.int k) ⟨env3, st3⟩) (h1 : env3[i]? = some (.own ds2)) (h2 : ixN ds2.length k = some n) (h3 : SetAt env3 i (.own (ds2.set n d)) env') : mSetIx i f fk ⟨env, st⟩ = .nx ⟨env', st3⟩ := by
  unfold SetAt at h3
  subst h3
  have e1 : getOwn i ⟨env2, st2⟩ = some ds := by show (match env2[i]? with | some (.own ds) => some ds | _ => none) = _; rw [h0]
  have e2 : getOwn i ⟨env3, st3⟩ = some ds2 := by show (match env3[i]? with | some (.own ds) => some ds | _ => none) = _; rw [h1]
  unfold mSetIx
  refine sbind_ok h ?_
  rw [e1]
  show SM.bind fk _ ⟨env2, st2⟩ = _
  refine sbind_ok hk ?_
  rw [e2]
  dsimp only
  rw [h2]
  rfl
theorem mpop_ev {ini : List D} (h : env[i]? = some (.own (ini ++ [d]))) (h2 : SetAt env i (.own ini) env2) (h3 : SetAt env2 j (.sh d) env') : mPop j i ⟨env, st⟩ = .nx ⟨env', st⟩ := by
  unfold SetAt at h2 h3
  subst h2
  subst h3
  have e1 : getOwn i ⟨env, st⟩ = some (ini ++ [d]) := by show (match env[i]? with | some (.own ds) => some ds | _ => none) = _; rw [h]
  unfold mPop
  rw [e1]
  dsimp only
  rw [List.getLast?_concat, List.dropLast_concat]
  rfl
end
section
variable {α β : Type} {s s1 : S} {d d2 : D} {x : Ex} {env env' env2 : List Sl} {st st2 : List Ob} {i j : Nat} {y : Sl} {ds : List D}
theorem b_ev {f : M α} {g : α → M β} {q : Res α} {r : Res β} (h : f s = q) (h2 : q.bind g = r) : M.bind f g s = r := by
  subst h
  exact h2
theorem rb_ok {g : α → M β} {v : α} {r : Res β} (h : g v s = r) : Res.bind (.ok v s) g = r := h
theorem rb_exc {g : α → M β} : Res.bind (.exc x s) g = .exc x s := rfl
theorem pure_ev {v : α} : M.pure v s = .ok v s := rfl
theorem perm0 {a : D} : M.pure (permL [0] [a]) s = .ok [a] s := rfl
theorem perm01 {a b : D} : M.pure (permL [0, 1] [a, b]) s = .ok [a, b] s := rfl
theorem perm10 {a b : D} : M.pure (permL [1, 0] [a, b]) s = .ok [b, a] s := rfl
theorem perm012 {a b c : D} : M.pure (permL [0, 1, 2] [a, b, c]) s = .ok [a, b, c] s := rfl
theorem perm021 {a b c : D} : M.pure (permL [0, 2, 1] [a, b, c]) s = .ok [a, c, b] s := rfl
theorem perm102 {a b c : D} : M.pure (permL [1, 0, 2] [a, b, c]) s = .ok [b, a, c] s := rfl
theorem perm120 {a b c : D} : M.pure (permL [1, 2, 0] [a, b, c]) s = .ok [b, c, a] s := rfl
theorem perm201 {a b c : D} : M.pure (permL [2, 0, 1] [a, b, c]) s = .ok [c, a, b] s := rfl
theorem perm210 {a b c : D} : M.pure (permL [2, 1, 0] [a, b, c]) s = .ok [c, b, a] s := rfl
theorem ofO_ev {o : Option α} {v : α} (h : o = some v) : ofO o s = .ok v s := by
  subst h
  rfl
theorem asB_ev {v : Bool} : asB (.bl v) s = .ok v s := rfl
theorem varB_ev (h : env[i]? = some (.sh d)) : mVarB i ⟨env, st⟩ = .ok d ⟨env, st⟩ := by
  unfold mVarB
  simp only [h]
theorem varB_own (h : env[i]? = some (.own ds)) : mVarB i ⟨env, st⟩ = .ok (.lst ds) ⟨env, st⟩ := by
  unfold mVarB
  simp only [h]
theorem var_ev (h : env[i]? = some (.sh d)) : mVar i ⟨env, st⟩ = .ok d ⟨env, st⟩ := by
  unfold mVar
  simp only [h]
theorem var_own (h : env[i]? = some (.own ds)) (h2 : SetAt env i (.sh (.lst ds)) env') : mVar i ⟨env, st⟩ = .ok (.lst ds) ⟨env', st⟩ := by
  unfold SetAt at h2
  subst h2
  unfold mVar
  simp only [h]
variable {r : Res D} {rL : Res (List D)} {rb : Res Bool}
theorem o2_ev {g : D → D → Option D} {fa fb : M D} (h : M.bind fa (fun x => M.bind fb fun y => ofO (g x y)) s = r) : mO2 g fa fb s = r := h
theorem nil_ev : mNil s = .ok [] s := rfl
theorem cons_ev {f : M D} {g : M (List D)} (h : M.bind f (fun x => M.bind g fun xs => M.pure (x :: xs)) s = rL) : mCons f g s = rL := h
theorem tup_ev {f : M (List D)} (h : M.bind f (fun ds => if ds.length ≤ SZ then M.pure (.tup ds) else M.bad) s = r) : mTup f s = r := h
theorem lst_ev {f : M (List D)} (h : M.bind f (fun ds => if ds.length ≤ SZ then M.pure ds else M.bad) s = rL) : mLst f s = rL := h
theorem sz_ev {α : Type} {n : Nat} {g : M α} {q : Res α} (h : n ≤ SZ) (h2 : g s = q) : (if n ≤ SZ then g else M.bad) s = q := by
  rw [if_pos h]
  exact h2
theorem l2_ev {g : D → D → Option (List D)} {fa fb : M D} (h : M.bind fa (fun x => M.bind fb fun y => ofO (g x y)) s = rL) : mL2 g fa fb s = rL := h
theorem mb_ev {g : List D → Option D} {f : M (List D)} (h : M.bind f (fun ds => ofO (g ds)) s = r) : mB g f s = r := h
theorem ite_ev {c : M Bool} {a b : M D} (h : M.bind c (fun k => if k then a else b) s = r) : mIte c a b s = r := h
theorem and_ev {f g : M Bool} (h : M.bind f (fun b => if b then g else M.pure false) s = rb) : mAnd f g s = rb := h
theorem or_ev {f g : M Bool} (h : M.bind f (fun b => if b then M.pure true else g) s = rb) : mOr f g s = rb := h
theorem andV_ev {f g : M D} (h : M.bind f (fun x => M.bind (asB x) fun b => if b then g else M.pure (.bl false)) s = r) : mAndV f g s = r := h
theorem orV_ev {f g : M D} (h : M.bind f (fun x => M.bind (asB x) fun b => if b then M.pure (.bl true) else g) s = r) : mOrV f g s = r := h
theorem chain_ev {g g' : D → D → Option D} {fa fb fc : M D} (h : M.bind fa (fun x => M.bind fb fun y => M.bind (ofO (g x y)) fun z => M.bind (asB z) fun k => if k then M.bind fc fun w => ofO (g' y w) else M.pure (.bl false)) s = r) : mChain g g' fa fb fc s = r := h
theorem sl_ev {f : M D} {lo hi : M (Option Int)} (h : M.bind f (fun d => M.bind lo fun l => M.bind hi fun h => ofO (slD d l h)) s = r) : mSl f lo hi s = r := h
theorem slC_ev {c : Int} {f : M D} {lo hi : M (Option Int)} (h : M.bind f (fun d => M.bind lo fun l => M.bind hi fun h => ofO (slcD c d l h)) s = r) : mSlC c f lo hi s = r := h
theorem part_ev {f : M D} {k : Int} (h : f s = .ok (.int k) s1) : mPart f s = .ok (some k) s1 := bind_ok h rfl
/-- a Bool that the way hangs on -/
theorem if_t1 {v : Bool} {a b : M α} {q : Res α} (h : v = true) (h2 : a s = q) : (if v = true then a else b) s = q := by
  rw [if_pos h]
  exact h2
theorem if_f1 {v : Bool} {a b : M α} {q : Res α} (h : v = false) (h2 : b s = q) : (if v = true then a else b) s = q := by
  rw [if_neg (by rw [h]; decide)]
  exact h2
theorem if_t2 {v : Bool} {a b : SM} {q : SR} (h : v = true) (h2 : a s = q) : (if v = true then a else b) s = q := by
  rw [if_pos h]
  exact h2
theorem if_f2 {v : Bool} {a b : SM} {q : SR} (h : v = false) (h2 : b s = q) : (if v = true then a else b) s = q := by
  rw [if_neg (by rw [h]; decide)]
  exact h2
/-- calls -/
def callG (g : Fn) (ds : List D) : M D := fun s => match g ds s.st with
  | .bad => .bad
  | .ok d st' => .ok d { s with st := st' }
  | .exc x st' => .exc x { s with st := st' }
theorem call_ev {g : Fn} {f : M (List D)} (h : M.bind f (fun ds => callG g ds) s = r) : mCall g f s = r := h
theorem cok {g : Fn} (h : g ds st = .ok d st2) : callG g ds ⟨env, st⟩ = .ok d ⟨env, st2⟩ := by
  unfold callG
  simp only [h]
theorem cex {g : Fn} (h : g ds st = .exc x st2) : callG g ds ⟨env, st⟩ = .exc x ⟨env, st2⟩ := by
  unfold callG
  simp only [h]
theorem callV_ev {fv : M D} {fs : List (Str × Fn)} {f : M (List D)} {x : Str} {g : Fn} (h : fv s = .ok (.fn x) s1) (h2 : fs.lookup x = some g) (h3 : mCall g f s1 = r) : mCallV fv fs f s = r := by
  unfold mCallV
  refine bind_ok h ?_
  dsimp only
  rw [h2]
  exact h3
theorem isX_ev {x T : Str} {a : Option Str} {b : D} (h : x = T) : isX T (.exc x a b) = some (.bl true) := by
  show (if x = T then _ else _) = _
  rw [if_pos h]
def caughtR (cs : List Str) (r : Res D) : Res D := match r with
  | .bad => .bad
  | .ok _ s1 => .ok .non s1
  | .exc x s1 => if x.cls ∈ cs then .ok (.exc x.cls x.fld (match x.fld with
    | none => .non
    | some _ => x.val)) s1 else .bad
theorem caught_ev {cs : List Str} {m : M D} {q : Res D} (h : m s = q) (h2 : caughtR cs q = r) : mCaught cs m s = r := by
  subst h
  subst h2
  rfl
theorem cau_ok {cs : List Str} : caughtR cs (.ok d s) = .ok .non s := rfl
theorem cau_exc {cs : List Str} {c : Str} {v : D} (h : c ∈ cs) : caughtR cs (.exc ⟨c, none, v⟩ s) = .ok (.exc c none .non) s := by
  show (if c ∈ cs then _ else _) = _
  rw [if_pos h]
theorem cau_excF {cs : List Str} {c n : Str} {v : D} (h : c ∈ cs) : caughtR cs (.exc ⟨c, some n, v⟩ s) = .ok (.exc c (some n) v) s := by
  show (if c ∈ cs then _ else _) = _
  rw [if_pos h]
/-- what walks are over -/
theorem seqT_ev : seqOf (.tup ds) s = .ok ds s := rfl
theorem seqL_ev : seqOf (.lst ds) s = .ok ds s := rfl
theorem seqW_ev : seqOf (.wl ds) s = .ok ds s := rfl
theorem some_ev {α : Type} {o : Option α} {v : α} (h : o = some v) : o = some v := h
theorem add_ev {i j : Int} : addD (.int i) (.int j) = some (.int (i + j)) := rfl
theorem sub_ev {i j : Int} : subD (.int i) (.int j) = some (.int (i - j)) := rfl
theorem neg_ev {i : Int} : negD (.int i) = some (.int (-i)) := rfl
theorem lt_ev {i j : Int} : ltD (.int i) (.int j) = some (.bl (decide (i < j))) := rfl
theorem le_ev {i j : Int} : leD (.int i) (.int j) = some (.bl (decide (i ≤ j))) := rfl
theorem gt_ev {i j : Int} : gtD (.int i) (.int j) = some (.bl (decide (j < i))) := rfl
theorem ge_ev {i j : Int} : geD (.int i) (.int j) = some (.bl (decide (j ≤ i))) := rfl
theorem eqi_ev (i j : Int) : eqD (.int i) (.int j) = some (.bl (decide (i = j))) := by
  show some (D.bl (i == j)) = _
  by_cases h : i = j
  · rw [decide_eq_true h, h, beq_self_eq_true]
  · rw [decide_eq_false h, beq_eq_false_iff_ne.mpr h]
theorem nei_ev (i j : Int) : neD (.int i) (.int j) = some (.bl (!decide (i = j))) := by
  show some (D.bl (!(i == j))) = _
  by_cases h : i = j
  · rw [decide_eq_true h, h, beq_self_eq_true]
  · rw [decide_eq_false h, beq_eq_false_iff_ne.mpr h]
theorem eqs_ev {a b : Str} (h : PyData.strOk a = true) (h2 : PyData.strOk b = true) : eqD (.str a) (.str b) = some (.bl (a == b)) := by
  show (if (PyData.strOk a && PyData.strOk b) = true then some (D.bl (a == b)) else none) = _
  rw [h, h2]
  rfl
theorem nes_ev {a b : Str} (h : PyData.strOk a = true) (h2 : PyData.strOk b = true) : neD (.str a) (.str b) = some (.bl (!(a == b))) := by
  show (if (PyData.strOk a && PyData.strOk b) = true then some (D.bl (!(a == b))) else none) = _
  rw [h, h2]
  rfl
theorem ltT_ev {i j : Int} (h : i < j) : ltD (.int i) (.int j) = some (.bl true) := by rw [lt_ev, decide_eq_true h]
theorem leT_ev {i j : Int} (h : i ≤ j) : leD (.int i) (.int j) = some (.bl true) := by rw [le_ev, decide_eq_true h]
theorem gtT_ev {i j : Int} (h : j < i) : gtD (.int i) (.int j) = some (.bl true) := by rw [gt_ev, decide_eq_true h]
theorem geT_ev {i j : Int} (h : j ≤ i) : geD (.int i) (.int j) = some (.bl true) := by rw [ge_ev, decide_eq_true h]
theorem ltF_ev {i j : Int} (h : j ≤ i) : ltD (.int i) (.int j) = some (.bl false) := by rw [lt_ev, decide_eq_false (by omega)]
theorem leF_ev {i j : Int} (h : j < i) : leD (.int i) (.int j) = some (.bl false) := by rw [le_ev, decide_eq_false (by omega)]
theorem gtF_ev {i j : Int} (h : i ≤ j) : gtD (.int i) (.int j) = some (.bl false) := by rw [gt_ev, decide_eq_false (by omega)]
theorem geF_ev {i j : Int} (h : i < j) : geD (.int i) (.int j) = some (.bl false) := by rw [ge_ev, decide_eq_false (by omega)]
theorem asBv_ev {v w : Bool} {s : S} (h : v = w) : asB (.bl v) s = .ok w s := by
  subst h
  rfl
theorem rt_eq_ev {d d' : D} {s : S} (h : d = d') : SR.rt d s = .rt d' s := by
  subst h
  rfl
theorem pureB_ev {d d' : D} {s : S} (h : d = d') : M.pure d s = .ok d' s := by
  subst h
  rfl
theorem ltSZ_ev {n : Nat} (h : n < SZ) : n < SZ := h
theorem is_non : isD .non .non = some (.bl true) := rfl
theorem isNot_non : isNotD .non .non = some (.bl false) := rfl
theorem lenT_ev : lenL [.tup ds] = some (.int ds.length) := rfl
theorem lenL_ev : lenL [.lst ds] = some (.int ds.length) := rfl
theorem lenW_ev : lenL [.wl ds] = some (.int ds.length) := rfl
theorem tupL_ev : tupL [.lst ds] = some (.tup ds) := rfl
theorem tupT_ev : tupL [.tup ds] = some (.tup ds) := rfl
theorem lstT_ev : lstL [.tup ds] = some ds := rfl
theorem lstL_ev : lstL [.lst ds] = some ds := rfl
theorem int_ev {i : Int} : int1 [.int i] = some (.int i) := rfl
theorem min_ev {i j : Int} : min2 [.int i, .int j] = some (.int (if j < i then j else i)) := rfl
theorem max_ev {i j : Int} : max2 [.int i, .int j] = some (.int (if j > i then j else i)) := rfl
theorem catL_ev {a b : List D} (h : a.length + b.length ≤ SZ) : catL (.lst a) (.lst b) = some (a ++ b) := by
  show (if a.length + b.length ≤ SZ then some (a ++ b) else none) = _
  rw [if_pos h]
theorem addT_ev {a b : List D} (h : a.length + b.length ≤ SZ) : addD (.tup a) (.tup b) = some (.tup (a ++ b)) := by
  show (if a.length + b.length ≤ SZ then some (D.tup (a ++ b)) else none) = _
  rw [if_pos h]
theorem addL_ev {a b : List D} (h : a.length + b.length ≤ SZ) : addD (.lst a) (.lst b) = some (.lst (a ++ b)) := by
  show (if a.length + b.length ≤ SZ then some (D.lst (a ++ b)) else none) = _
  rw [if_pos h]
theorem rep1_ev {a : D} {k : Int} (h0 : 0 ≤ k) (h1 : k ≤ 16777216) : repL (.lst [a]) (.int k) = some (List.replicate k.toNat a) := by
  show (if -(2 ^ 63) ≤ k ∧ k < 2 ^ 63 ∧ [a].length * k.toNat ≤ SZ then some (List.replicate k.toNat [a]).flatten else none) = _
  rw [if_pos ⟨by omega, by omega, by show 1 * k.toNat ≤ SZ; unfold SZ; omega⟩]
  congr 1
  generalize k.toNat = n
  induction n with
  | zero => rfl
  | succ n ih => rw [List.replicate_succ, List.flatten_cons, ih, List.replicate_succ]; rfl
theorem ixT_ev {k : Int} (h0 : 0 ≤ k) (h1 : ds[k.toNat]? = some d) : ixD (.tup ds) (.int k) = some d := by
  have := (List.getElem?_eq_some_iff.mp h1).1
  exact (at_ok h0 (by omega)).trans h1
theorem ixL_ev {k : Int} (h0 : 0 ≤ k) (h1 : ds[k.toNat]? = some d) : ixD (.lst ds) (.int k) = some d := by
  have := (List.getElem?_eq_some_iff.mp h1).1
  exact (at_ok h0 (by omega)).trans h1
theorem at_neg {α : Type} {xs : List α} {i : Int} (h0 : i < 0) (h1 : 0 ≤ i + xs.length) : L2.atI xs i = xs[(i + xs.length).toNat]? := by
  unfold L2.atI L2.ixN
  rw [if_neg (by omega), if_pos (by omega)]
  rfl
theorem eqP_ev (h : plain d = true) (h2 : plain d2 = true) : eqD d d2 = some (.bl (deq d d2)) := by
  unfold eqD
  rw [h, h2]
  rfl
theorem neP_ev (h : plain d = true) (h2 : plain d2 = true) : neD d d2 = some (.bl (!deq d d2)) := by
  unfold neD
  rw [h, h2]
  rfl
theorem rng1_ev {n : Int} (h : n ≤ 1000000000) (h0 : -1000000000 ≤ n) : rng1 [.int n] = some (rngL 0 n.toNat) := by
  show (if okI n = true then some (rngL 0 n.toNat) else none) = _
  rw [if_pos (by unfold okI; rw [decide_eq_true (by omega), decide_eq_true (by omega)]; rfl)]
theorem rngL_get {lo : Int} {n i : Nat} {d : D} (h : (rngL lo n)[i]? = some d) : i < n ∧ d = .int (lo + i) := by
  unfold rngL at h
  rw [List.getElem?_map] at h
  by_cases z : i < n
  · have q : (List.range n)[i]? = some i := by simp [z]
    rw [q] at h
    cases h
    exact ⟨z, rfl⟩
  · have q : (List.range n)[i]? = none := by simp [z]
    rw [q] at h
    cases h
theorem rngL_len {lo : Int} {n : Nat} : (rngL lo n).length = n := by
  unfold rngL
  simp
end
section
variable {s s1 s2 : S} {d : D} {env env' env2 env3 : List Sl} {st st2 st3 : List Ob} {i j : Nat} {ds : List D}
theorem true_ev : mTrue s = .ok true s := rfl
theorem ixLast_ev : ixD (.lst (ds ++ [d])) (.int (-1)) = some d := by
  refine (at_neg (by decide) (by rw [List.length_append, List.length_singleton]; omega)).trans ?_
  rw [List.length_append, List.length_singleton, show ((-1 : Int) + ((ds.length + 1 : Nat) : Int)).toNat = ds.length by omega, List.getElem?_concat_length]
theorem ixLastT_ev : ixD (.tup (ds ++ [d])) (.int (-1)) = some d := by
  refine (at_neg (by decide) (by rw [List.length_append, List.length_singleton]; omega)).trans ?_
  rw [List.length_append, List.length_singleton, show ((-1 : Int) + ((ds.length + 1 : Nat) : Int)).toNat = ds.length by omega, List.getElem?_concat_length]
theorem setLast_ev {f fk : M D} {ini ini2 : List D} {x x2 : D} (h : f ⟨env, st⟩ = .ok d ⟨env2, st2⟩) (h0 : env2[i]? = some (.own (ini ++ [x]))) (hk : fk ⟨env2, st2⟩ = .ok (.int (-1)) ⟨env3, st3⟩) (h1 : env3[i]? = some (.own (ini2 ++ [x2]))) (h3 : SetAt env3 i (.own (ini2 ++ [d])) env') : mSetIx i f fk ⟨env, st⟩ = .nx ⟨env', st3⟩ := by
  refine setIx_ev h h0 hk h1 (n := ini2.length) ?_ ?_
  · show ixN (ini2 ++ [x2]).length (-1) = some ini2.length
    rw [List.length_append, List.length_singleton]
    unfold L2.ixN
    rw [if_neg (by decide), if_pos (by omega)]
    congr 1
    omega
  · have : (ini2 ++ [x2]).set ini2.length d = ini2 ++ [d] := by
      rw [List.set_append_right _ _ (Nat.le_refl _), Nat.sub_self]
      rfl
    rw [this]
    exact h3
theorem sumL_ev {fa : M D} {fb : M (List D)} {ds zs r : List D} (h : fa s = .ok (.lst ds) s1) (h2 : fb s1 = .ok zs s2) (h3 : flatL ds = some r) (h4 : zs.length + r.length ≤ SZ) : mSumL fa fb s = .ok (zs ++ r) s2 := by
  unfold mSumL
  refine bind_ok h (bind_ok h2 ?_)
  dsimp only
  rw [h3]
  dsimp only
  rw [if_pos h4]
  rfl
theorem neNil_ev (h : plain (.lst ds) = true) : neD (.lst ds) (.lst []) = some (.bl (!ds.isEmpty)) := by
  rw [neP_ev h (by rfl)]
  cases ds <;> rfl
theorem bls_true {α : Type} : ∀ l : List α, blsL (l.map fun _ => D.bl true) = some (l.map fun _ => true)
  | [] => rfl
  | a :: l => by
    show (blsL (l.map fun _ => D.bl true)).map (true :: ·) = _
    rw [bls_true l]
    rfl
theorem allTrue_ev {α : Type} {l : List α} : allL [.lst (l.map fun _ => D.bl true)] = some (.bl true) := by
  show (blsL _).map _ = _
  rw [bls_true]
  show some (D.bl ((l.map fun _ => true).all id)) = _
  rw [List.all_eq_true.mpr (fun b hb => by obtain ⟨_, _, rfl⟩ := List.mem_map.mp hb; rfl)]
end
/-! ### comprehensions, loops -/
theorem wipeE_len {env : List Sl} : ∀ is : List Nat, (wipeE env is).length = env.length
  | [] => rfl
  | v :: vs => by
    show ((wipeE env vs).set v .emp).length = _
    rw [List.length_set, wipeE_len vs]
theorem rest_wipe {env : List Sl} : ∀ is : List Nat, restE env (wipeE env is) is = env := by
  have len : ∀ (vs : List Nat) (e : List Sl), (restE env e vs).length = e.length := fun vs e => by
    induction vs with
    | nil => rfl
    | cons v vs ih => show ((restE env e vs).set v _).length = _; rw [List.length_set, ih]
  have key : ∀ (is : List Nat) (e : List Sl), e.length = env.length → (∀ j, j ∉ is → e[j]? = env[j]?) → restE env e is = env := by
    intro is
    induction is with
    | nil =>
      intro e hl h
      exact List.ext_getElem? fun j => h j (by simp)
    | cons v vs ih =>
      intro e hl h
      show (restE env e vs).set v (env.getD v .emp) = env
      refine List.ext_getElem? fun j => ?_
      by_cases hj : v = j
      · subst hj
        by_cases hv : v < env.length
        · rw [List.getElem?_set_self (by rw [len, hl]; exact hv), List.getElem?_eq_getElem hv, List.getD_eq_getElem?_getD, List.getElem?_eq_getElem hv]
          rfl
        · rw [List.getElem?_eq_none (by rw [List.length_set, len, hl]; omega), List.getElem?_eq_none (by omega)]
      · rw [List.getElem?_set_ne hj]
        have : restE env (e.set v (env.getD v .emp)) vs = env := ih _ (by rw [List.length_set, hl]) fun k hk => by
          by_cases hkv : v = k
          · subst hkv
            by_cases hv : v < env.length
            · rw [List.getElem?_set_self (by omega), List.getElem?_eq_getElem hv, List.getD_eq_getElem?_getD, List.getElem?_eq_getElem hv]
              rfl
            · rw [List.getElem?_eq_none (by rw [List.length_set, hl]; omega), List.getElem?_eq_none (by omega)]
          · rw [List.getElem?_set_ne hkv]
            exact h k (by simp; exact ⟨fun q => hkv q.symm, hk⟩)
        have e2 : ∀ (us : List Nat) (e : List Sl) (x : Sl), v ≠ j → (restE env (e.set v x) us)[j]? = (restE env e us)[j]? := fun us => by
          induction us with
          | nil => intro e x hj; exact List.getElem?_set_ne hj
          | cons u us ih2 =>
            intro e x hj
            show ((restE env (e.set v x) us).set u _)[j]? = ((restE env e us).set u _)[j]?
            by_cases hu : u = j
            · subst hu
              by_cases hl2 : u < e.length
              · rw [List.getElem?_set_self (by rw [len, List.length_set]; exact hl2), List.getElem?_set_self (by rw [len]; exact hl2)]
              · rw [List.getElem?_eq_none (by rw [List.length_set, len, List.length_set]; omega), List.getElem?_eq_none (by rw [List.length_set, len]; omega)]
            · rw [List.getElem?_set_ne hu, List.getElem?_set_ne hu, ih2 e x hj]
        rw [← e2 vs e _ hj, this]
  intro is
  refine key is _ (wipeE_len is) fun j hj => ?_
  have : ∀ us : List Nat, j ∉ us → (wipeE env us)[j]? = env[j]? := fun us => by
    induction us with
    | nil => intro _; rfl
    | cons u us ih =>
      intro h
      show ((wipeE env us).set u .emp)[j]? = _
      rw [List.getElem?_set_ne (fun q => h (by simp [q])), ih (fun q => h (by simp [q]))]
  exact this is hj
section
variable {is : List Nat} {it : M (List D)} {tf : D → S → Option S} {cond : M Bool} {elt : M D} {env e0 : List Sl} {st st0 : List Ob} {ds : List D}
/-- a comprehension that draws nothing -/
theorem lc_map (p : D → Bool) (f : D → D) (hit : it ⟨env, st⟩ = .ok ds ⟨env, st⟩) (fr : is.all (fun i => slFree (env.getD i .emp)) = true) (h0 : wipeE env is = e0)
    (h : ∀ d ∈ ds, ∃ e1, tf d ⟨e0, st⟩ = some ⟨e1, st⟩ ∧ cond ⟨e1, st⟩ = .ok (p d) ⟨e1, st⟩ ∧ (p d = true → elt ⟨e1, st⟩ = .ok (f d) ⟨e1, st⟩) ∧ wipeE e1 is = e0) (hz : ds.length ≤ SZ) :
    mLc is it tf cond elt ⟨env, st⟩ = .ok ((ds.filter p).map f) ⟨env, st⟩ := by
  have key : ∀ (es acc : List D), (∀ d ∈ es, d ∈ ds) → acc.length + es.length ≤ ds.length → lcL is tf cond elt es acc ⟨e0, st⟩ = .ok (acc ++ (es.filter p).map f) ⟨e0, st⟩ := by
    intro es
    induction es with
    | nil => intro acc _ _; show Res.ok acc _ = _; rw [List.filter_nil, List.map_nil, List.append_nil]
    | cons d es ih =>
      intro acc hm hl
      rw [List.length_cons] at hl
      obtain ⟨e1, h1, h2, h3, h4⟩ := h d (hm d (by simp))
      show (match tf d ⟨e0, st⟩ with | none => Res.bad | some s1 => _) = _
      rw [h1]
      dsimp only
      rw [h2]
      have w : ∀ t : List Ob, wipeS is ⟨e1, t⟩ = ⟨e0, t⟩ := fun t => by unfold wipeS; dsimp only; rw [h4]
      cases hp : p d with
      | false =>
        dsimp only
        rw [w, ih acc (fun d' q => hm d' (by simp [q])) (by omega), List.filter_cons_of_neg (by rw [hp]; decide)]
      | true =>
        dsimp only
        rw [h3 hp]
        dsimp only
        rw [if_pos (by omega), w, ih _ (fun d' q => hm d' (by simp [q])) (by rw [List.length_append, List.length_singleton]; omega), List.filter_cons_of_pos hp, List.map_cons, List.append_assoc]
        rfl
  unfold mLc
  refine bind_ok hit ?_
  dsimp only
  rw [if_pos fr]
  have w : wipeS is ⟨env, st⟩ = ⟨e0, st⟩ := by unfold wipeS; dsimp only; rw [h0]
  rw [w, key ds [] (fun _ q => q) (by simp)]
  dsimp only
  rw [List.nil_append, ← h0, rest_wipe]
/-- the walk draws, the items don't -/
theorem lc_mapS (p : D → Bool) (f : D → D) (hit : it ⟨env, st0⟩ = .ok ds ⟨env, st⟩) (fr : is.all (fun i => slFree (env.getD i .emp)) = true) (h0 : wipeE env is = e0)
    (h : ∀ d ∈ ds, ∃ e1, tf d ⟨e0, st⟩ = some ⟨e1, st⟩ ∧ cond ⟨e1, st⟩ = .ok (p d) ⟨e1, st⟩ ∧ (p d = true → elt ⟨e1, st⟩ = .ok (f d) ⟨e1, st⟩) ∧ wipeE e1 is = e0) (hz : ds.length ≤ SZ) :
    mLc is it tf cond elt ⟨env, st0⟩ = .ok ((ds.filter p).map f) ⟨env, st⟩ := by
  have key := lc_map (is := is) (it := M.pure ds) (tf := tf) (cond := cond) (elt := elt) p f rfl fr h0 h hz
  unfold mLc at key ⊢
  exact bind_ok hit key
/-- all items are taken -/
theorem lc_all (f : D → D) (hit : it ⟨env, st⟩ = .ok ds ⟨env, st⟩) (fr : is.all (fun i => slFree (env.getD i .emp)) = true) (h0 : wipeE env is = e0)
    (h : ∀ d ∈ ds, ∃ e1, tf d ⟨e0, st⟩ = some ⟨e1, st⟩ ∧ cond ⟨e1, st⟩ = .ok true ⟨e1, st⟩ ∧ elt ⟨e1, st⟩ = .ok (f d) ⟨e1, st⟩ ∧ wipeE e1 is = e0) (hz : ds.length ≤ SZ) :
    mLc is it tf cond elt ⟨env, st⟩ = .ok (ds.map f) ⟨env, st⟩ := by
  have := lc_map (fun _ => true) f hit fr h0 (fun d hd => by
    obtain ⟨e1, a, b, c, w⟩ := h d hd
    exact ⟨e1, a, b, fun _ => c, w⟩) hz
  rwa [List.filter_eq_self.mpr (fun _ _ => rfl)] at this
/-- a comprehension whose elements draw -/
theorem lc_draw (P : List Ob → Prop) (Q : D → Prop) (hit : it ⟨env, st⟩ = .ok ds ⟨env, st0⟩) (fr : is.all (fun i => slFree (env.getD i .emp)) = true) (h0 : wipeE env is = e0) (hP : P st0)
    (h : ∀ d ∈ ds, ∀ st, P st → ∃ e1 y st2, tf d ⟨e0, st⟩ = some ⟨e1, st⟩ ∧ cond ⟨e1, st⟩ = .ok true ⟨e1, st⟩ ∧ elt ⟨e1, st⟩ = .ok y ⟨e1, st2⟩ ∧ wipeE e1 is = e0 ∧ P st2 ∧ Q y) (hz : ds.length ≤ SZ) :
    ∃ acc st2, mLc is it tf cond elt ⟨env, st⟩ = .ok acc ⟨env, st2⟩ ∧ P st2 ∧ acc.length = ds.length ∧ ∀ y ∈ acc, Q y := by
  have key : ∀ (es acc : List D) (st : List Ob), (∀ d ∈ es, d ∈ ds) → acc.length + es.length ≤ ds.length → P st → (∀ y ∈ acc, Q y) → ∃ acc2 st2, lcL is tf cond elt es acc ⟨e0, st⟩ = .ok acc2 ⟨e0, st2⟩ ∧ P st2 ∧ acc2.length = acc.length + es.length ∧ ∀ y ∈ acc2, Q y := by
    intro es
    induction es with
    | nil => intro acc st _ _ hp hq; exact ⟨acc, st, rfl, hp, rfl, hq⟩
    | cons d es ih =>
      intro acc st hm hl hp hq
      rw [List.length_cons] at hl
      obtain ⟨e1, y, st2, h1, h2, h3, h4, h5, h6⟩ := h d (hm d (by simp)) st hp
      obtain ⟨acc2, st3, e, p2, l2, q2⟩ := ih (acc ++ [y]) st2 (fun d' q => hm d' (by simp [q])) (by rw [List.length_append, List.length_singleton]; omega) h5 (fun z hz => by
        rcases List.mem_append.mp hz with q | q
        · exact hq z q
        · rw [List.mem_singleton.mp q]; exact h6)
      refine ⟨acc2, st3, ?_, p2, by rw [l2, List.length_append, List.length_singleton, List.length_cons]; omega, q2⟩
      show (match tf d ⟨e0, st⟩ with | none => Res.bad | some s1 => _) = _
      rw [h1]
      dsimp only
      rw [h2]
      dsimp only
      rw [h3]
      dsimp only
      have w : ∀ t : List Ob, wipeS is ⟨e1, t⟩ = ⟨e0, t⟩ := fun t => by unfold wipeS; dsimp only; rw [h4]
      rw [if_pos (by omega), w]
      exact e
  obtain ⟨acc, st2, e, p2, l2, q2⟩ := key ds [] st0 (fun _ q => q) (by simp) hP (by simp)
  refine ⟨acc, st2, ?_, p2, by simpa using l2, q2⟩
  unfold mLc
  refine bind_ok hit ?_
  dsimp only
  rw [if_pos fr]
  have w : wipeS is ⟨env, st0⟩ = ⟨e0, st0⟩ := by unfold wipeS; dsimp only; rw [h0]
  rw [w, e]
  dsimp only
  rw [← h0, rest_wipe]
end
section
variable {tf : D → S → Option S} {b : SM} {s s1 s2 : S} {ds es : List D} {d e : D}
/-- an invariant over the first items, the others left -/
theorem forL_go (es : List D) (I : Nat → S → Prop) (h : ∀ (i : Nat) (d : D) (s : S), es[i]? = some d → I i s → ∃ s1, tf d s = some s1 ∧ ∃ s2, b s1 = .nx s2 ∧ I (i + 1) s2) {s : S} (h0 : I 0 s) : ∃ s', (∀ ds, forL tf b (es ++ ds) s = forL tf b ds s') ∧ I es.length s' := by
  induction es generalizing I s with
  | nil => exact ⟨s, fun _ => rfl, h0⟩
  | cons d es ih =>
    obtain ⟨s1, h1, s2, h2, h3⟩ := h 0 d s rfl h0
    obtain ⟨s', h4, h5⟩ := ih (fun i => I (i + 1)) (fun i d' s' q => h (i + 1) d' s' (by simpa using q)) h3
    exact ⟨s', fun ds => by rw [List.cons_append]; exact forL_cons h1 h2 (h4 ds), h5⟩
theorem forL_ct {d : D} {ds : List D} {s s1 s2 : S} {r : SR} (h1 : tf d s = some s1) (h2 : b s1 = .ct s2) (h3 : forL tf b ds s2 = r) : forL tf b (d :: ds) s = r := by
  show (match tf d s with | none => SR.bad | some s1 => _) = _
  rw [h1]
  dsimp only
  rw [h2]
  exact h3
/-- an invariant over items, some of them passed over by continue -/
theorem forL_all (es : List D) (I : S → Prop) (h : ∀ (d : D) (s : S), d ∈ es → I s → ∃ s1, tf d s = some s1 ∧ ∃ s2, (b s1 = .nx s2 ∨ b s1 = .ct s2) ∧ I s2) {s : S} (h0 : I s) : ∃ s', forL tf b es s = .nx s' ∧ I s' := by
  induction es generalizing s with
  | nil => exact ⟨s, rfl, h0⟩
  | cons d es ih =>
    obtain ⟨s1, h1, s2, h2, h3⟩ := h d s (by simp) h0
    obtain ⟨s', h4, h5⟩ := ih (fun d' s' q => h d' s' (List.mem_cons_of_mem _ q)) h3
    rcases h2 with h2 | h2
    · exact ⟨s', forL_cons h1 h2 h4, h5⟩
    · exact ⟨s', forL_ct h1 h2 h4, h5⟩
theorem forL_out {t : S} {r : D} (h1 : tf d s = some s1) (h2 : b s1 = .rt r t) : forL tf b (d :: ds) s = .rt r t := by
  show (match tf d s with | none => SR.bad | some s1 => _) = _
  rw [h1]
  dsimp only
  rw [h2]
theorem forL_nil : forL tf b [] s = .nx s := rfl
end
section
variable {ds : List D} {d : D} {env2 : List Sl} {st st2 : List Ob} {s : S} {g : Fn} {body : SM} {x : Ex}
theorem frt (e : g ds st = endR (body s)) (h : body s = .rt d ⟨env2, st2⟩) : g ds st = .ok d st2 := by
  rw [e, h]
  rfl
theorem fnx (e : g ds st = endR (body s)) (h : body s = .nx ⟨env2, st2⟩) : g ds st = .ok .non st2 := by
  rw [e, h]
  rfl
theorem fex (e : g ds st = endR (body s)) (h : body s = .exc x ⟨env2, st2⟩) : g ds st = .exc x st2 := by
  rw [e, h]
  rfl
end
end Ls
local macro_rules | `(tactic| isplit) => `(tactic| first | with_reducible assumption | (exact decide_eq_true (by omega)) | (exact decide_eq_false (by omega)) | omega | (simp only [Bool.not_eq_true', Bool.not_eq_false', decide_eq_true_eq, decide_eq_false_iff_not, Bool.and_eq_true, Bool.or_eq_true]; omega) | decide | decide +kernel | (focus (simp [Ls.SZ]; done)) | (simp [Ls.SZ]; omega))
local macro_rules | `(tactic| cell_call) => `(tactic| first
  | with_reducible assumption
  | with_reducible apply Ls.seq_ev
  | with_reducible apply Ls.cont_nx | with_reducible exact Ls.cont_rt | with_reducible exact Ls.cont_exc | with_reducible exact Ls.cont_bk | with_reducible exact Ls.cont_ct
  | with_reducible apply Ls.b_ev | with_reducible apply Ls.rb_ok | with_reducible exact Ls.rb_exc
  | with_reducible apply Ls.sb_ev | with_reducible apply Ls.sb_ok | with_reducible exact Ls.sb_exc
  | with_reducible exact Ls.perm0 | with_reducible exact Ls.perm01 | with_reducible exact Ls.perm10 | with_reducible exact Ls.perm012 | with_reducible exact Ls.perm021 | with_reducible exact Ls.perm102 | with_reducible exact Ls.perm120 | with_reducible exact Ls.perm201 | with_reducible exact Ls.perm210
  | with_reducible exact Ls.pure_ev | with_reducible apply Ls.ofO_ev | with_reducible exact Ls.asB_ev
  | with_reducible exact Ls.set_0 | with_reducible apply Ls.set_s
  | ((with_reducible apply Ls.varB_ev); exact rfl) | ((with_reducible apply Ls.varB_own); exact rfl) | ((with_reducible apply Ls.var_ev); exact rfl) | ((with_reducible apply Ls.var_own); exact rfl)
  | with_reducible apply Ls.o2_ev | with_reducible exact Ls.nil_ev | with_reducible apply Ls.cons_ev | with_reducible apply Ls.mb_ev
  | with_reducible apply Ls.msetD_ev | with_reducible apply Ls.nx_set3 | with_reducible apply Ls.nx_set2 | with_reducible apply Ls.nx_set | with_reducible apply Ls.mif_ev | with_reducible apply Ls.mret_ev | with_reducible exact Ls.rt_id | with_reducible exact Ls.nx_ev | with_reducible exact Ls.nx_id
  | with_reducible apply Ls.mset_ev | with_reducible apply Ls.mdrop_ev | with_reducible apply Ls.mfor_ev | with_reducible exact Ls.bk_ev | with_reducible exact Ls.ct_ev | with_reducible exact Ls.retN_ev | with_reducible exact Ls.raise_ev
  | ((with_reducible apply Ls.if_t2); exact rfl) | ((with_reducible apply Ls.if_f2); exact rfl) | ((with_reducible apply Ls.if_t1); exact rfl) | ((with_reducible apply Ls.if_f1); exact rfl)
  | ((with_reducible apply Ls.if_t2); isplit) | ((with_reducible apply Ls.if_f2); isplit) | ((with_reducible apply Ls.if_t1); isplit) | ((with_reducible apply Ls.if_f1); isplit)
  | with_reducible apply Ls.call_ev | ((with_reducible apply Ls.cok); with_reducible assumption) | ((with_reducible apply Ls.cex); with_reducible assumption)
  | with_reducible apply Ls.tup_ev | with_reducible apply Ls.lst_ev | ((with_reducible apply Ls.sz_ev); isplit) | with_reducible apply Ls.l2_ev | with_reducible apply Ls.ite_ev | with_reducible apply Ls.and_ev | with_reducible apply Ls.or_ev | with_reducible apply Ls.andV_ev | with_reducible apply Ls.orV_ev | with_reducible apply Ls.chain_ev | with_reducible apply Ls.sl_ev | with_reducible apply Ls.slC_ev | with_reducible apply Ls.part_ev
  | with_reducible apply Ls.mpar_ev | with_reducible apply Ls.mpar3_ev | with_reducible apply Ls.masg_ev | with_reducible apply Ls.asg_ev | with_reducible apply Ls.tgN_ev | with_reducible exact Ls.tgNil_ev | with_reducible apply Ls.tgCons_ev | ((with_reducible apply Ls.tgT_ev); isplit)
  | with_reducible apply Ls.caught_ev | with_reducible exact Ls.cau_ok | ((with_reducible apply Ls.cau_exc); decide +kernel) | ((with_reducible apply Ls.cau_excF); decide +kernel)
  | with_reducible exact Ls.seqT_ev | with_reducible exact Ls.seqL_ev | with_reducible exact Ls.seqW_ev
  | with_reducible exact Ls.add_ev | with_reducible exact Ls.sub_ev | with_reducible exact Ls.neg_ev | with_reducible exact Ls.lt_ev | with_reducible exact Ls.le_ev | with_reducible exact Ls.gt_ev | with_reducible exact Ls.ge_ev | with_reducible exact Ls.eqi_ev _ _ | with_reducible exact Ls.nei_ev _ _
  | ((with_reducible apply Ls.eqs_ev); decide +kernel; decide +kernel) | ((with_reducible apply Ls.nes_ev); decide +kernel; decide +kernel)
  | with_reducible exact Ls.true_ev | with_reducible exact Ls.ixLast_ev | with_reducible exact Ls.ixLastT_ev | with_reducible exact Ls.allTrue_ev
  | ((with_reducible apply Ls.leT_ev); omega) | ((with_reducible apply Ls.ltT_ev); omega) | ((with_reducible apply Ls.geT_ev); omega) | ((with_reducible apply Ls.gtT_ev); omega) | ((with_reducible apply Ls.leF_ev); omega) | ((with_reducible apply Ls.ltF_ev); omega) | ((with_reducible apply Ls.geF_ev); omega) | ((with_reducible apply Ls.gtF_ev); omega) | ((with_reducible apply Ls.asBv_ev); isplit) | ((with_reducible apply Ls.rt_eq_ev); exact rfl) | ((with_reducible apply Ls.pureB_ev); exact rfl)
  | ((with_reducible apply Ls.app_ev); exact rfl) | ((with_reducible apply Ls.ltSZ_ev); isplit)
  | with_reducible apply Ls.setLast_ev
  | ((with_reducible apply Ls.cont_rtE_ev); exact rfl)
  | with_reducible apply Ls.callV_ev | ((with_reducible apply Ls.isX_ev); exact rfl)
  | with_reducible exact Ls.is_non | with_reducible exact Ls.isNot_non | with_reducible exact Ls.lenT_ev | with_reducible exact Ls.lenL_ev | with_reducible exact Ls.lenW_ev | with_reducible exact Ls.tupL_ev | with_reducible exact Ls.tupT_ev | with_reducible exact Ls.lstT_ev | with_reducible exact Ls.lstL_ev | with_reducible exact Ls.int_ev | with_reducible exact Ls.min_ev | with_reducible exact Ls.max_ev
  | ((with_reducible apply Ls.catL_ev); isplit) | ((with_reducible apply Ls.addT_ev); isplit) | ((with_reducible apply Ls.addL_ev); isplit)
  | ((with_reducible apply Ls.mod_ok); isplit) | ((with_reducible apply Ls.fdiv_ok); isplit; isplit) | ((with_reducible apply Ls.mul_r); isplit) | ((with_reducible apply Ls.mul_l); isplit)
  | ((with_reducible apply Ls.rng1_ev); isplit; isplit) | ((with_reducible apply Ls.rep1_ev); isplit; isplit)
  | ((with_reducible apply Ls.some_ev); exact rfl))
/-! runs, what is said, elders: plain -/
namespace Ls
/-- laid out: how many, what -/
def flat2 : List (Int × Int) → List Int
  | [] => []
  | p :: ps => p.1 :: p.2 :: flat2 ps
def expL : List (Int × Int) → List Int
  | [] => []
  | p :: ps => List.replicate p.1.toNat p.2 ++ expL ps
def runStep (f : List (Int × Int)) (n : Int) : List (Int × Int) := match f.getLast? with
  | none => f ++ [(1, n)]
  | some (c, m) => if m = n then f.dropLast ++ [(c + 1, n)] else f ++ [(1, n)]
def runsL (l : List Int) : List (Int × Int) := l.foldl runStep []
def saidL (l : List Int) : List Int := flat2 (runsL l)
/-- whats one behind the other are unlike -/
def chainF : Option Int → List (Int × Int) → Prop
  | _, [] => True
  | o, p :: ps => o ≠ some p.2 ∧ chainF (some p.2) ps
instance chainDec : ∀ (o : Option Int) (ps : List (Int × Int)), Decidable (chainF o ps)
  | _, [] => .isTrue trivial
  | o, p :: ps => by
    have := chainDec (some p.2) ps
    unfold chainF
    exact inferInstance
def lastW : Option Int → List (Int × Int) → Option Int
  | o, [] => o
  | _, p :: ps => lastW (some p.2) ps
theorem lastW_append (o : Option Int) : ∀ (f g : List (Int × Int)), lastW o (f ++ g) = lastW (lastW o f) g
  | [], _ => rfl
  | p :: f, g => lastW_append (some p.2) f g
theorem lastW_getLast : ∀ (o : Option Int) (f : List (Int × Int)), lastW o f = (f.getLast?.map (·.2)).or o
  | o, [] => rfl
  | o, [p] => rfl
  | o, p :: q :: f => by
    show lastW (some p.2) (q :: f) = _
    rw [lastW_getLast (some p.2) (q :: f), List.getLast?_cons_cons]
    cases h : (q :: f).getLast? with
    | none => exact absurd h (by simp)
    | some x => rfl
theorem chain_append {o : Option Int} : ∀ {f g : List (Int × Int)}, chainF o (f ++ g) ↔ chainF o f ∧ chainF (lastW o f) g
  | [], g => ⟨fun h => ⟨trivial, h⟩, fun h => h.2⟩
  | p :: f, g => by
    show (o ≠ some p.2 ∧ chainF (some p.2) (f ++ g)) ↔ _
    rw [chain_append (o := some p.2) (f := f)]
    exact ⟨fun h => ⟨⟨h.1, h.2.1⟩, h.2.2⟩, fun h => ⟨h.1.1, h.1.2, h.2⟩⟩
theorem expL_append : ∀ f g : List (Int × Int), expL (f ++ g) = expL f ++ expL g
  | [], _ => rfl
  | p :: f, g => by
    show List.replicate p.1.toNat p.2 ++ expL (f ++ g) = _
    rw [expL_append f g, ← List.append_assoc]
    rfl
theorem flat2_append : ∀ f g : List (Int × Int), flat2 (f ++ g) = flat2 f ++ flat2 g
  | [], _ => rfl
  | p :: f, g => by
    show p.1 :: p.2 :: flat2 (f ++ g) = _
    rw [flat2_append f g]
    rfl
theorem flat2_len : ∀ f : List (Int × Int), (flat2 f).length = 2 * f.length
  | [] => rfl
  | p :: f => by
    show (flat2 f).length + 1 + 1 = 2 * (f.length + 1)
    rw [flat2_len f]
    omega
theorem flat2_get : ∀ (f : List (Int × Int)) (i : Nat) (p : Int × Int), f[i]? = some p → (flat2 f)[2 * i]? = some p.1 ∧ (flat2 f)[2 * i + 1]? = some p.2
  | [], i, p, h => by simp at h
  | q :: f, 0, p, h => by simp at h; subst h; exact ⟨rfl, rfl⟩
  | q :: f, i + 1, p, h => by
    have := flat2_get f i p (by simpa using h)
    rw [show 2 * (i + 1) = 2 * i + 1 + 1 by omega]
    exact this
/-- of a row of even length -/
def pairsL : List Int → List (Int × Int)
  | a :: b :: r => (a, b) :: pairsL r
  | _ => []
theorem flat2_pairs : ∀ l : List Int, l.length % 2 = 0 → flat2 (pairsL l) = l
  | [], _ => rfl
  | [a], h => by simp at h
  | a :: b :: r, h => by
    show a :: b :: flat2 (pairsL r) = _
    rw [flat2_pairs r (by simp at h; omega)]
theorem runStep_new {f : List (Int × Int)} {n : Int} (h : lastW none f ≠ some n) : runStep f n = f ++ [(1, n)] := by
  unfold runStep
  rw [lastW_getLast] at h
  cases q : f.getLast? with
  | none => rfl
  | some p =>
    rw [q] at h
    obtain ⟨c, m⟩ := p
    dsimp only
    rw [if_neg (fun z => h (by rw [z]; rfl))]
theorem runStep_old {f : List (Int × Int)} {c n : Int} : runStep (f ++ [(c, n)]) n = f ++ [(c + 1, n)] := by
  unfold runStep
  rw [List.getLast?_concat]
  dsimp only
  rw [if_pos rfl, List.dropLast_concat]
theorem runs_rep {f : List (Int × Int)} {n : Int} : ∀ (k : Nat) (c : Int), (List.replicate k n).foldl runStep (f ++ [(c, n)]) = f ++ [(c + k, n)]
  | 0, c => by simp
  | k + 1, c => by
    rw [List.replicate_succ, List.foldl_cons, runStep_old, runs_rep k (c + 1)]
    congr 3
    omega
theorem runs_exp : ∀ (ps f : List (Int × Int)), (∀ p ∈ ps, 1 ≤ p.1) → chainF (lastW none f) ps → (expL ps).foldl runStep f = f ++ ps
  | [], f, _, _ => by simp [expL]
  | p :: ps, f, hp, hc => by
    have h1 := hp p (by simp)
    obtain ⟨k, hk⟩ : ∃ k : Nat, p.1.toNat = k + 1 := ⟨p.1.toNat - 1, by omega⟩
    show (List.replicate p.1.toNat p.2 ++ expL ps).foldl runStep f = _
    rw [List.foldl_append, hk, List.replicate_succ, List.foldl_cons, runStep_new hc.1, runs_rep, show (1 : Int) + k = p.1 by omega, runs_exp ps (f ++ [(p.1, p.2)]) (fun q h => hp q (by simp [h])) (by rw [lastW_append]; exact hc.2), List.append_assoc]
    rfl
theorem runsL_exp {ps : List (Int × Int)} (h : ∀ p ∈ ps, 1 ≤ p.1) (hc : chainF none ps) : runsL (expL ps) = ps := by
  unfold runsL
  rw [runs_exp ps [] h hc, List.nil_append]
structure IsRuns (f : List (Int × Int)) (l : List Int) : Prop where
  exp : expL f = l
  chain : chainF none f
  pos : ∀ p ∈ f, 1 ≤ p.1
theorem isRuns_step {f : List (Int × Int)} {l : List Int} {n : Int} (h : IsRuns f l) : IsRuns (runStep f n) (l ++ [n]) := by
  by_cases q : lastW none f = some n
  · rw [lastW_getLast] at q
    rcases List.eq_nil_or_concat f with rfl | ⟨g, ⟨c, m⟩, rfl⟩
    · cases q
    rw [List.concat_eq_append] at *
    rw [List.getLast?_concat] at q
    have : m = n := by simpa using q
    subst this
    rw [runStep_old]
    obtain ⟨h1, h2, h3⟩ := h
    have hc : 1 ≤ c := h3 (c, m) (by simp)
    refine ⟨?_, ?_, ?_⟩
    · rw [← h1, expL_append, expL_append, List.append_assoc]
      congr 1
      show List.replicate (c + 1).toNat m ++ [] = (List.replicate c.toNat m ++ []) ++ [m]
      rw [show (c + 1).toNat = c.toNat + 1 by omega, List.append_nil, List.append_nil, List.replicate_succ']
    · rw [chain_append] at h2 ⊢
      exact ⟨h2.1, h2.2.1, trivial⟩
    · intro p hp
      rcases List.mem_append.mp hp with z | z
      · exact h3 p (List.mem_append_left _ z)
      · rw [List.mem_singleton.mp z]; show 1 ≤ c + 1; omega
  · rw [runStep_new q]
    obtain ⟨h1, h2, h3⟩ := h
    refine ⟨?_, ?_, ?_⟩
    · rw [expL_append, h1]; rfl
    · rw [chain_append]; exact ⟨h2, q, trivial⟩
    · intro p hp
      rcases List.mem_append.mp hp with z | z
      · exact h3 p z
      · rw [List.mem_singleton.mp z]; exact Int.le_refl 1
theorem isRuns_fold : ∀ (l : List Int) (f : List (Int × Int)) (k : List Int), IsRuns f k → IsRuns (l.foldl runStep f) (k ++ l)
  | [], f, k, h => by rw [List.append_nil]; exact h
  | n :: l, f, k, h => by
    rw [List.foldl_cons, show k ++ n :: l = (k ++ [n]) ++ l by simp]
    exact isRuns_fold l _ _ (isRuns_step h)
theorem isRuns_runs (l : List Int) : IsRuns (runsL l) l := by
  have := isRuns_fold l [] [] ⟨rfl, trivial, by simp⟩
  rwa [List.nil_append] at this
theorem expL_len_ge {ps : List (Int × Int)} (h : ∀ p ∈ ps, 1 ≤ p.1) : ps.length ≤ (expL ps).length := by
  induction ps with
  | nil => exact Nat.le_refl _
  | cons p ps ih =>
    have h1 := h p (by simp)
    have := ih fun q hq => h q (by simp [hq])
    show ps.length + 1 ≤ (List.replicate p.1.toNat p.2 ++ expL ps).length
    rw [List.length_append, List.length_replicate]
    omega
theorem runs_len (l : List Int) : (runsL l).length ≤ l.length := by
  have h := isRuns_runs l
  have := expL_len_ge h.pos
  rwa [h.exp] at this
theorem expL_count {ps : List (Int × Int)} (h : ∀ p ∈ ps, 1 ≤ p.1) : ∀ p ∈ ps, p.1 ≤ (expL ps).length := by
  induction ps with
  | nil => intro p hp; cases hp
  | cons q ps ih =>
    intro p hp
    show p.1 ≤ ((List.replicate q.1.toNat q.2 ++ expL ps).length : Nat)
    rw [List.length_append, List.length_replicate]
    rcases List.mem_cons.mp hp with rfl | z
    · omega
    · have := ih (fun r hr => h r (by simp [hr])) p z
      omega
theorem runs_count {l : List Int} : ∀ p ∈ runsL l, 1 ≤ p.1 ∧ p.1 ≤ l.length ∧ p.2 ∈ l := by
  intro p hp
  have h := isRuns_runs l
  have c := expL_count h.pos p hp
  rw [h.exp] at c
  refine ⟨h.pos p hp, c, ?_⟩
  have hx := h.exp
  rw [← hx]
  have : ∀ ps : List (Int × Int), (∀ q ∈ ps, 1 ≤ q.1) → p ∈ ps → p.2 ∈ expL ps := fun ps => by
    induction ps with
    | nil => intro _ z; cases z
    | cons q ps ih =>
      intro hq z
      show p.2 ∈ List.replicate q.1.toNat q.2 ++ expL ps
      rcases List.mem_cons.mp z with rfl | z
      · exact List.mem_append_left _ (List.mem_replicate.mpr ⟨by have := hq p (by simp); omega, rfl⟩)
      · exact List.mem_append_right _ (ih (fun r hr => hq r (by simp [hr])) z)
  exact this _ h.pos hp
theorem mem_flat2 {x : Int} : ∀ {f : List (Int × Int)}, x ∈ flat2 f → ∃ p ∈ f, x = p.1 ∨ x = p.2
  | [], h => by cases h
  | p :: f, h => by
    rcases List.mem_cons.mp h with h | h
    · exact ⟨p, by simp, .inl h⟩
    rcases List.mem_cons.mp h with h | h
    · exact ⟨p, by simp, .inr h⟩
    obtain ⟨q, a, b⟩ := mem_flat2 h
    exact ⟨q, by simp [a], b⟩
theorem said_len (l : List Int) : (saidL l).length ≤ 2 * l.length := by
  unfold saidL
  rw [flat2_len]
  have := runs_len l
  omega
theorem said_even (l : List Int) : (saidL l).length % 2 = 0 := by
  unfold saidL
  rw [flat2_len]
  omega
theorem said_pos {l : List Int} (h : l ≠ []) : 2 ≤ (saidL l).length := by
  unfold saidL
  rw [flat2_len]
  cases q : runsL l with
  | nil =>
    have := (isRuns_runs l).exp
    rw [q] at this
    exact absurd this.symm h
  | cons p f => rw [List.length_cons]; omega
end Ls
namespace Ls
open PySem PySem.Spec L2
/-- rows -/
abbrev tI (ns : List Int) : D := .tup (ns.map .int)
structure RowOk (ns : List Int) : Prop where
  len : ns.length ≤ 60
  num : ∀ x ∈ ns, 1 ≤ x ∧ x ≤ 99
theorem is_whole_ok {i : Int} {st : List Ob} : g_is_whole [.int i] st = .ok (.bl true) st := by
  apply frt e_is_whole
  unfold d_is_whole
  repeat cell_call
theorem is_row_of_ok {ns : List Int} {st : List Ob} (h : RowOk ns) : g_is_row_of [tI ns] st = .ok (.bl true) st := by
  have hl := h.len
  have hq : q_is_row_of_1 ⟨[.sh (tI ns), .emp], st⟩ = .ok ((ns.map D.int).map fun _ => D.bl true) ⟨[.sh (tI ns), .emp], st⟩ := by
    unfold q_is_row_of_1
    refine lc_all (e0 := [.sh (tI ns), .emp]) (fun _ => .bl true) (by repeat cell_call) rfl rfl (fun d hd => ?_) (by rw [List.length_map]; unfold SZ; omega)
    obtain ⟨i, hi, rfl⟩ := List.mem_map.mp hd
    have ⟨h1, h2⟩ := h.num i hi
    have hw := is_whole_ok (i := i) (st := st)
    exact ⟨[.sh (tI ns), .sh (.int i)], rfl, rfl, by repeat cell_call, rfl⟩
  apply frt e_is_row_of
  unfold d_is_row_of
  have hl2 : (ns.map D.int).length ≤ 60 := by rw [List.length_map]; exact hl
  repeat cell_call
theorem need_row_ok {ns : List Int} {st : List Ob} {w : D} (h : RowOk ns) : g_need_row [tI ns, w] st = .ok .non st := by
  have h1 := is_row_of_ok (st := st) h
  unfold g_need_row d_need_row
  refine fn_ok (s := ⟨[.sh (tI ns), .sh w], st⟩) rfl ?_
  show SM.seq _ _ ⟨[.sh (tI ns), .sh w], st⟩ = _
  repeat cell_call
end Ls
namespace Ls
open PySem PySem.Spec L2
/-- runs as data -/
def runD (f : List (Int × Int)) : List D := f.map fun p => .tup [.int p.1, .int p.2]
theorem plain_runD (f : List (Int × Int)) : plain (.lst (runD f)) = true := by
  show (runD f).all (plainN 59) = true
  rw [List.all_eq_true]
  intro d hd
  obtain ⟨p, _, rfl⟩ := List.mem_map.mp hd
  rfl
theorem runs_turn {row c : D} {f : List (Int × Int)} {n : Int} {st : List Ob} {e : Sl} (hf : f.length ≤ 1000000) : ∃ s1, tgN 2 (.int n) ⟨[.sh row, .own (runD f), e], st⟩ = some s1 ∧ ∃ s2, l_law_runs_1 s1 = .nx s2 ∧ s2 = ⟨[.sh row, .own (runD (runStep f n)), .sh (.int n)], st⟩ := by
  refine ⟨⟨[.sh row, .own (runD f), .sh (.int n)], st⟩, rfl, _, ?_, rfl⟩
  rcases List.eq_nil_or_concat f with rfl | ⟨g, ⟨k, m⟩, rfl⟩
  · unfold l_law_runs_1
    have h0 := neNil_ev (plain_runD [])
    have h1 : (runD []).isEmpty = true := rfl
    have hz : (runD []).length < SZ := by decide
    have e0 : runD (runStep [] n) = runD [] ++ [.tup [.int 1, .int n]] := rfl
    rw [e0]
    repeat cell_call
  rw [List.concat_eq_append] at *
  have e1 : runD (g ++ [(k, m)]) = runD g ++ [.tup [.int k, .int m]] := by unfold runD; rw [List.map_append]; rfl
  have h0 := neNil_ev (plain_runD (g ++ [(k, m)]))
  rw [e1] at h0 ⊢
  have h1 : (runD g ++ [D.tup [.int k, .int m]]).isEmpty = false := by cases runD g <;> rfl
  rw [h1] at h0
  by_cases q : m = n
  · subst q
    rw [runStep_old]
    have e2 : runD (g ++ [(k + 1, m)]) = runD g ++ [.tup [.int (k + 1), .int m]] := by unfold runD; rw [List.map_append]; rfl
    rw [e2]
    unfold l_law_runs_1
    repeat cell_call
  · have e2 : runStep (g ++ [(k, m)]) n = g ++ [(k, m)] ++ [(1, n)] := by
      refine runStep_new ?_
      rw [lastW_append]
      intro z
      exact q (by simpa [lastW] using z)
    rw [e2]
    have e3 : runD (g ++ [(k, m)] ++ [(1, n)]) = runD g ++ [.tup [.int k, .int m]] ++ [.tup [.int 1, .int n]] := by unfold runD; rw [List.map_append, List.map_append]; rfl
    rw [e3]
    unfold l_law_runs_1
    have hz : (runD g ++ [D.tup [.int k, .int m]]).length < SZ := by
      unfold runD SZ
      simp at hf ⊢
      omega
    repeat cell_call
theorem law_runs_ok {ns : List Int} {st : List Ob} (h : ns.length ≤ 1000000) : g_law_runs [tI ns] st = .ok (.lst (runD (runsL ns))) st := by
  obtain ⟨s', f1, e, rfl⟩ := forL_inv (ds := ns.map D.int) (tf := tgN 2) (b := l_law_runs_1) (fun i s => ∃ e, s = ⟨[.sh (tI ns), .own (runD (runsL (ns.take i))), e], st⟩) (fun i d s hd hs => by
    obtain ⟨e, rfl⟩ := hs
    rw [List.getElem?_map] at hd
    cases q : ns[i]? with
    | none => rw [q] at hd; cases hd
    | some n =>
      rw [q] at hd
      cases hd
      obtain ⟨s1, a, s2, b, c⟩ := runs_turn (row := tI ns) (c := .non) (f := runsL (ns.take i)) (n := n) (st := st) (e := e) (by have := runs_len (ns.take i); rw [List.length_take] at this; omega)
      refine ⟨s1, a, s2, b, .sh (.int n), ?_⟩
      rw [c]
      have : ns.take (i + 1) = ns.take i ++ [n] := by rw [List.take_succ, q]; rfl
      rw [this]
      unfold runsL
      rw [List.foldl_append]
      rfl) (s := ⟨[.sh (tI ns), .own [], .emp], st⟩) ⟨.emp, rfl⟩
  rw [List.length_map, List.take_length] at f1
  apply frt e_law_runs
  unfold d_law_runs
  repeat cell_call
theorem flat_runs : ∀ f : List (Int × Int), flatL (f.map fun p => D.lst [.int p.1, .int p.2]) = some ((flat2 f).map .int)
  | [] => rfl
  | p :: f => by
    show (flatL (f.map fun p => D.lst [.int p.1, .int p.2])).map ([D.int p.1, .int p.2] ++ ·) = _
    rw [flat_runs f]
    rfl
theorem law_said_ok {ns : List Int} {st : List Ob} (h : ns.length ≤ 1000000) : g_law_said [tI ns] st = .ok (tI (saidL ns)) st := by
  have hr := law_runs_ok (st := st) h
  have hl := runs_len ns
  have hq : q_law_said_1 ⟨[.sh (tI ns), .emp], st⟩ = .ok ((runD (runsL ns)).map fun d => match d with
      | .tup ds => .lst ds
      | _ => .non) ⟨[.sh (tI ns), .emp], st⟩ := by
    unfold q_law_said_1
    refine lc_all (e0 := [.sh (tI ns), .emp]) _ (by repeat cell_call) rfl rfl (fun d hd => ?_) (by unfold runD SZ; rw [List.length_map]; omega)
    obtain ⟨p, hp, rfl⟩ := List.mem_map.mp hd
    exact ⟨[.sh (tI ns), .sh (.tup [.int p.1, .int p.2])], rfl, rfl, by repeat cell_call, rfl⟩
  have e : ((runD (runsL ns)).map fun d => match d with
      | .tup ds => D.lst ds
      | _ => .non) = (runsL ns).map fun p => D.lst [.int p.1, .int p.2] := by unfold runD; rw [List.map_map]; rfl
  rw [e] at hq
  have hs : mSumL (M.bind (q_law_said_1) fun ds => M.pure (.lst ds)) (mLst (mNil)) ⟨[.sh (tI ns), .emp], st⟩ = .ok ([] ++ (saidL ns).map .int) ⟨[.sh (tI ns), .emp], st⟩ := by
    refine sumL_ev (zs := []) (s1 := ⟨[.sh (tI ns), .emp], st⟩) (by repeat cell_call) (by repeat cell_call) (flat_runs _) ?_
    have := said_len ns
    rw [List.length_map]
    show 0 + _ ≤ SZ
    unfold SZ
    omega
  rw [List.nil_append] at hs
  apply frt e_law_said
  unfold d_law_said
  repeat cell_call
/-- days -/
def dayL (ns : List Int) : Nat → List Int
  | 0 => ns
  | k + 1 => saidL (dayL ns k)
def daysL (ns : List Int) (k : Nat) : List (List Int) := (List.range (k + 1)).map (dayL ns)
theorem dayL_len (ns : List Int) : ∀ k, (dayL ns k).length ≤ 2 ^ k * ns.length
  | 0 => by simp [dayL]
  | k + 1 => by
    have h1 := said_len (dayL ns k)
    have h2 := dayL_len ns k
    show (saidL (dayL ns k)).length ≤ _
    have e : 2 ^ (k + 1) * ns.length = 2 * (2 ^ k * ns.length) := by rw [Nat.pow_succ, Nat.mul_comm (2 ^ k) 2, Nat.mul_assoc]
    omega
theorem law_days_ok {ns : List Int} {k : Nat} {st : List Ob} (hk : k ≤ 1000) (h : ∀ i, i ≤ k → (dayL ns i).length ≤ 1000000) : g_law_days [tI ns, .int k] st = .ok (.lst ((daysL ns k).map tI)) st := by
  have hr : rng1 [.int k] = some (rngL 0 k) := by
    have := rng1_ev (n := (k : Int)) (by omega) (by omega)
    rwa [Int.toNat_natCast] at this
  obtain ⟨s', f1, e, rfl⟩ := forL_inv (ds := rngL 0 k) (tf := tgN 3) (b := l_law_days_1) (fun i s => ∃ e, s = ⟨[.sh (tI ns), .sh (.int k), .own ((daysL ns i).map tI), e], st⟩) (fun i d s hd hs => by
    obtain ⟨e, rfl⟩ := hs
    obtain ⟨hi, rfl⟩ := rngL_get hd
    have e1 : (daysL ns i).map tI = ((List.range i).map (dayL ns)).map tI ++ [tI (dayL ns i)] := by unfold daysL; rw [List.range_succ, List.map_append, List.map_append]; rfl
    have e2 : (daysL ns (i + 1)).map tI = (daysL ns i).map tI ++ [tI (saidL (dayL ns i))] := by unfold daysL; rw [List.range_succ, List.map_append, List.map_append]; rfl
    have hs := law_said_ok (st := st) (h i (by omega))
    refine ⟨⟨[.sh (tI ns), .sh (.int k), .own ((daysL ns i).map tI), .sh (.int (0 + i))], st⟩, rfl, ⟨[.sh (tI ns), .sh (.int k), .own ((daysL ns (i + 1)).map tI), .sh (.int (0 + i))], st⟩, ?_, _, rfl⟩
    unfold l_law_days_1
    have hz : ((daysL ns i).map tI).length < SZ := by rw [List.length_map]; unfold daysL SZ; rw [List.length_map, List.length_range]; omega
    rw [e2]
    rw [e1] at hz ⊢
    repeat cell_call) (s := ⟨[.sh (tI ns), .sh (.int k), .own [tI ns], .emp], st⟩) ⟨.emp, rfl⟩
  rw [rngL_len] at f1
  apply frt e_law_days
  unfold d_law_days
  repeat cell_call
end Ls
namespace Ls
open PySem PySem.Spec L2
theorem rng3two {i j : Int} (h0 : 0 ≤ i) (h1 : i ≤ 1000) (h2 : -10 ≤ j) (h3 : j ≤ 1000000) : rng3 [.int i, .int j, .int 2] = some (rngC i 2 ((j - i + 1) / 2).toNat) := by
  have e : Builtin.Range.rangeSize i j 2 = if i < j then (j - i - 1) / 2 + 1 else 0 := by
    unfold Builtin.Range.rangeSize
    rw [if_pos (by decide)]
  have z : 0 ≤ Builtin.Range.rangeSize i j 2 := by rw [e]; split <;> omega
  have q : (Builtin.Range.rangeSize i j 2).toNat = ((j - i + 1) / 2).toNat := by rw [e]; split <;> omega
  have sm : Builtin.Range.small i j 2 = true := by
    unfold Builtin.Range.small
    rw [e, if_pos (show (2 : Int) > 0 by decide)]
    by_cases hij : i < j
    · rw [if_pos hij]
      simp only [Builtin.Range.rangeFitsLong, Bool.and_eq_true, Bool.or_eq_true, decide_eq_true_eq, beq_iff_eq]
      omega
    · rw [if_neg hij]
      simp only [Builtin.Range.rangeFitsLong, Bool.and_eq_true, Bool.or_eq_true, decide_eq_true_eq, beq_iff_eq]
      omega
  show (if (2 : Int) ≠ 0 ∧ (2 : Int).natAbs < 1073741824 ∧ Builtin.Range.small i j 2 = true ∧ 0 ≤ Builtin.Range.rangeSize i j 2 then some (rngC i 2 (Builtin.Range.rangeSize i j 2).toNat) else none) = _
  rw [if_pos ⟨by decide, by decide, sm, z⟩, q]
theorem rngC_get {lo c : Int} {n i : Nat} {d : D} (h : (rngC lo c n)[i]? = some d) : i < n ∧ d = .int (lo + i * c) := by
  unfold rngC at h
  rw [List.getElem?_map] at h
  by_cases z : i < n
  · have q : (List.range n)[i]? = some i := by simp [z]
    rw [q] at h
    cases h
    exact ⟨z, rfl⟩
  · have q : (List.range n)[i]? = none := by simp [z]
    rw [q] at h
    cases h
theorem rngC_len {lo c : Int} {n : Nat} : (rngC lo c n).length = n := by
  unfold rngC
  simp
theorem rngC_split {lo c : Int} {n k : Nat} (h : k < n) : ∃ rest, rngC lo c n = rngC lo c k ++ .int (lo + k * c) :: rest := by
  refine ⟨(rngC lo c n).drop (k + 1), ?_⟩
  refine List.ext_getElem? fun j => ?_
  have g : ∀ (m i : Nat), i < m → (rngC lo c m)[i]? = some (.int (lo + i * c)) := fun m i hi => by unfold rngC; simp [hi]
  have go : ∀ (m i : Nat), m ≤ i → (rngC lo c m)[i]? = none := fun m i hi => List.getElem?_eq_none (by rw [rngC_len]; exact hi)
  rcases Nat.lt_trichotomy j k with z | z | z
  · rw [List.getElem?_append_left (by rw [rngC_len]; exact z), g _ _ z, g _ _ (by omega)]
  · subst z
    rw [List.getElem?_append_right (by rw [rngC_len]; exact Nat.le_refl _), rngC_len, Nat.sub_self, g _ _ h]
    rfl
  · rw [List.getElem?_append_right (by rw [rngC_len]; omega), rngC_len, show j - k = (j - k - 1) + 1 by omega, List.getElem?_cons_succ, List.getElem?_drop]
    congr 1
    omega
theorem tI_ix {ns : List Int} {k x : Int} {j : Nat} (h : ns[j]? = some x) (e : k = j) : ixD (tI ns) (.int k) = some (.int x) := by
  refine ixT_ev (by omega) ?_
  rw [List.getElem?_map, e, Int.toNat_natCast, h]
  rfl
theorem pairs_get : ∀ (l : List Int) (i : Nat) (p : Int × Int), (pairsL l)[i]? = some p → l[2 * i]? = some p.1 ∧ l[2 * i + 1]? = some p.2
  | a :: b :: r, 0, p, h => by simp [pairsL] at h; subst h; exact ⟨rfl, rfl⟩
  | a :: b :: r, i + 1, p, h => by
    have := pairs_get r i p (by simpa [pairsL] using h)
    rw [show 2 * (i + 1) = 2 * i + 1 + 1 by omega]
    exact this
  | [], i, p, h => by simp [pairsL] at h
  | [a], i, p, h => by simp [pairsL] at h
theorem pairs_len : ∀ l : List Int, (pairsL l).length = l.length / 2
  | a :: b :: r => by
    show (pairsL r).length + 1 = (r.length + 1 + 1) / 2
    rw [pairs_len r]
    omega
  | [] => rfl
  | [a] => by show 0 = 1 / 2; rfl
theorem chain_bad : ∀ (o : Option Int) (ps : List (Int × Int)), ¬ chainF o ps → ∃ f p g, ps = f ++ p :: g ∧ chainF o f ∧ lastW o f = some p.2
  | o, [], h => absurd trivial h
  | o, p :: ps, h => by
    by_cases q : o = some p.2
    · exact ⟨[], p, ps, rfl, trivial, q⟩
    · obtain ⟨f, r, g, e, c, l⟩ := chain_bad (some p.2) ps fun z => h ⟨q, z⟩
      exact ⟨p :: f, r, g, by rw [e]; rfl, ⟨q, c⟩, l⟩
/-- a list with an item k times behind it -/
theorem mulL1 {a : D} {k : Int} (h0 : 0 ≤ k) (h1 : k ≤ 1000000) : mulD (.lst [a]) (.int k) = some (.lst (List.replicate k.toNat a)) := by
  show (if -(2 ^ 63) ≤ k ∧ k < 2 ^ 63 ∧ [a].length * k.toNat ≤ SZ then some (D.lst (List.replicate k.toNat [a]).flatten) else none) = _
  rw [if_pos ⟨by omega, by omega, by show 1 * k.toNat ≤ SZ; unfold SZ; omega⟩]
  congr 2
  generalize k.toNat = n
  induction n with
  | zero => rfl
  | succ n ih => rw [List.replicate_succ, List.flatten_cons, ih, List.replicate_succ]; rfl
theorem expL_len {ps : List (Int × Int)} {b : Nat} (h : ∀ p ∈ ps, p.1 ≤ b) : (expL ps).length ≤ b * ps.length := by
  induction ps with
  | nil => exact Nat.zero_le _
  | cons p ps ih =>
    have h1 := h p (by simp)
    have h2 := ih fun q hq => h q (by simp [hq])
    show (List.replicate p.1.toNat p.2 ++ expL ps).length ≤ b * (ps.length + 1)
    rw [List.length_append, List.length_replicate, Nat.mul_add]
    omega
theorem plainI (l : List Int) (n : Nat) : (l.map D.int).all (plainN n) = true := by
  rw [List.all_eq_true]
  intro d hd
  obtain ⟨i, _, rfl⟩ := List.mem_map.mp hd
  cases n <;> rfl
theorem plain_lI (l : List Int) : plain (.lst (l.map .int)) = true := plainI l 59
theorem plain_tI (l : List Int) : plain (tI l) = true := plainI l 59
/-- rows of whole numbers from 1 to 99 -/
structure Nums (ns : List Int) : Prop where
  len : ns.length ≤ 10000
  num : ∀ x ∈ ns, 1 ≤ x ∧ x ≤ 99
theorem pairs_num {ns : List Int} (h : Nums ns) : ∀ p ∈ pairsL ns, 1 ≤ p.1 ∧ p.1 ≤ 99 := by
  intro p hp
  obtain ⟨i, hi⟩ := List.mem_iff_getElem?.mp hp
  exact h.num _ (List.mem_of_getElem? (pairs_get ns i p hi).1)
theorem mem_take {α : Type} {l : List α} {k : Nat} {x : α} (h : x ∈ l.take k) : x ∈ l := (List.take_subset k l) h
/-- the law's loop of elders as far as whats are unlike -/
theorem lel_go {ns : List Int} {st : List Ob} (hn : Nums ns) (k : Nat) (hk : k ≤ (pairsL ns).length) (hc : chainF none ((pairsL ns).take k)) :
    ∃ e, ∀ ds, forL (tgN 2) l_law_elder_1 (rngC 0 2 k ++ ds) ⟨[.sh (tI ns), .sh (.lst []), .emp], st⟩ = forL (tgN 2) l_law_elder_1 ds ⟨[.sh (tI ns), .sh (.lst ((expL ((pairsL ns).take k)).map .int)), e], st⟩ := by
  obtain ⟨s', h1, e, rfl⟩ := forL_go (tf := tgN 2) (b := l_law_elder_1) (rngC 0 2 k) (fun i s => ∃ e, s = ⟨[.sh (tI ns), .sh (.lst ((expL ((pairsL ns).take i)).map .int)), e], st⟩) (fun i d s hd hs => by
    obtain ⟨e, rfl⟩ := hs
    obtain ⟨hi, rfl⟩ := rngC_get hd
    obtain ⟨p, hp⟩ : ∃ p, (pairsL ns)[i]? = some p := ⟨_, List.getElem?_eq_getElem (by omega)⟩
    obtain ⟨g1, g2⟩ := pairs_get ns i p hp
    have x1 : ixD (tI ns) (.int (0 + i * 2)) = some (.int p.1) := tI_ix g1 (by omega)
    have x2 : ixD (tI ns) (.int (0 + i * 2 + 1)) = some (.int p.2) := tI_ix g2 (by omega)
    obtain ⟨n1, n2⟩ := pairs_num hn p (List.mem_of_getElem? hp)
    have tk : (pairsL ns).take (i + 1) = (pairsL ns).take i ++ [p] := by rw [List.take_succ, hp]; rfl
    have hm := mulL1 (a := .int p.2) (k := p.1) (by omega) (by omega)
    have lim : (expL ((pairsL ns).take i)).length ≤ 99 * ((pairsL ns).take i).length := expL_len fun q hq => by have := pairs_num hn q (mem_take hq); omega
    have l2 : ((pairsL ns).take i).length ≤ 10000 := by have := pairs_len ns; have := hn.len; rw [List.length_take]; omega
    have ha : addD (.lst ((expL ((pairsL ns).take i)).map .int)) (.lst (List.replicate p.1.toNat (.int p.2))) = some (.lst ((expL ((pairsL ns).take (i + 1))).map .int)) := by
      rw [addL_ev (by rw [List.length_map, List.length_replicate]; unfold SZ; omega), tk, expL_append]
      congr 2
      show _ = ((expL ((pairsL ns).take i)) ++ (List.replicate p.1.toNat p.2 ++ [])).map D.int
      rw [List.append_nil, List.map_append, List.map_replicate]
    refine ⟨⟨[.sh (tI ns), .sh (.lst ((expL ((pairsL ns).take i)).map .int)), .sh (.int (0 + i * 2))], st⟩, rfl, ⟨[.sh (tI ns), .sh (.lst ((expL ((pairsL ns).take (i + 1))).map .int)), .sh (.int (0 + i * 2))], st⟩, ?_, _, rfl⟩
    have cond : mAnd (M.bind (mO2 neD (mVarB 1) (M.bind (mLst (mNil)) fun ds => M.pure (.lst ds))) asB) (M.bind (mO2 eqD (mO2 ixD (mVarB 1) (M.bind (M.pure (.int 1)) fun d => ofO (negD d))) (mO2 ixD (mVarB 0) (mO2 addD (mVarB 2) (M.pure (.int 1))))) asB)
        ⟨[.sh (tI ns), .sh (.lst ((expL ((pairsL ns).take i)).map .int)), .sh (.int (0 + i * 2))], st⟩ = .ok false ⟨[.sh (tI ns), .sh (.lst ((expL ((pairsL ns).take i)).map .int)), .sh (.int (0 + i * 2))], st⟩ := by
      rcases List.eq_nil_or_concat ((pairsL ns).take i) with z | ⟨f, q, z⟩
      · rw [z]
        have h0 := neNil_ev (plain_lI (expL []))
        have h1 : (expL []).map D.int = [] := rfl
        rw [h1] at h0 ⊢
        repeat cell_call
      · rw [List.concat_eq_append] at z
        have q1 : 1 ≤ q.1 := (pairs_num hn q (mem_take (k := i) (by rw [z]; simp))).1
        have e1 : (expL ((pairsL ns).take i)).map D.int = (expL f ++ List.replicate (q.1.toNat - 1) q.2).map D.int ++ [.int q.2] := by
          rw [z, expL_append]
          show (expL f ++ (List.replicate q.1.toNat q.2 ++ [])).map D.int = _
          rw [List.append_nil, show q.1.toNat = (q.1.toNat - 1) + 1 by omega, List.replicate_succ', ← List.append_assoc, List.map_append]
          rfl
        have pl := plain_lI (expL ((pairsL ns).take i))
        rw [e1] at pl ⊢
        have h0 := neNil_ev pl
        have h1 : ((expL f ++ List.replicate (q.1.toNat - 1) q.2).map D.int ++ [D.int q.2]).isEmpty = false := by cases (expL f ++ List.replicate (q.1.toNat - 1) q.2).map D.int <;> rfl
        rw [h1] at h0
        have ne : ¬ q.2 = p.2 := fun w => by
          have c2 : chainF none ((pairsL ns).take (i + 1)) := by
            have : (pairsL ns).take k = (pairsL ns).take (i + 1) ++ ((pairsL ns).take k).drop (i + 1) := by
              rw [show (pairsL ns).take (i + 1) = ((pairsL ns).take k).take (i + 1) by rw [List.take_take]; congr 1; omega, List.take_append_drop]
            rw [this, chain_append] at hc
            exact hc.1
          rw [tk, z, chain_append] at c2
          have := c2.2.1
          rw [lastW_append] at this
          exact this (by rw [← w]; rfl)
        repeat cell_call
    have pl := plain_lI (expL ((pairsL ns).take i))
    unfold l_law_elder_1
    repeat cell_call) (s := ⟨[.sh (tI ns), .sh (.lst []), .emp], st⟩) ⟨.emp, rfl⟩
  rw [rngC_len] at h1
  exact ⟨e, h1⟩
/-- the loop where two are alike -/
theorem lel_bad {ns : List Int} {st : List Ob} (hn : Nums ns) (hc : ¬ chainF none (pairsL ns)) : ∃ e, forL (tgN 2) l_law_elder_1 (rngC 0 2 (pairsL ns).length) ⟨[.sh (tI ns), .sh (.lst []), .emp], st⟩ = .rt .non ⟨e, st⟩ := by
  obtain ⟨f, p, g, hs, cf, lf⟩ := chain_bad _ _ hc
  have hl : (pairsL ns).length = f.length + (g.length + 1) := by rw [hs, List.length_append, List.length_cons]
  obtain ⟨rest, hr⟩ := rngC_split (lo := 0) (c := 2) (n := (pairsL ns).length) (k := f.length) (by omega)
  have tk : (pairsL ns).take f.length = f := by rw [hs, List.take_left']; rfl
  obtain ⟨e, h⟩ := lel_go (st := st) hn f.length (by omega) (by rw [tk]; exact cf)
  rw [tk] at h
  have hp : (pairsL ns)[f.length]? = some p := by rw [hs, List.getElem?_append_right (Nat.le_refl _), Nat.sub_self]; rfl
  obtain ⟨g1, g2⟩ := pairs_get ns _ p hp
  have x2 : ixD (tI ns) (.int (0 + f.length * 2 + 1)) = some (.int p.2) := tI_ix g2 (by omega)
  rcases List.eq_nil_or_concat f with z | ⟨f1, q, z⟩
  · rw [z] at lf
    cases lf
  rw [List.concat_eq_append] at z
  have q1 : 1 ≤ q.1 := (pairs_num hn q (by rw [hs, z]; simp)).1
  have e1 : (expL f).map D.int = (expL f1 ++ List.replicate (q.1.toNat - 1) q.2).map D.int ++ [.int q.2] := by
    rw [z, expL_append]
    show (expL f1 ++ (List.replicate q.1.toNat q.2 ++ [])).map D.int = _
    rw [List.append_nil, show q.1.toNat = (q.1.toNat - 1) + 1 by omega, List.replicate_succ', ← List.append_assoc, List.map_append]
    rfl
  have pl := plain_lI (expL f)
  have lq : q.2 = p.2 := by
    rw [z, lastW_append] at lf
    exact Option.some.inj lf
  rw [e1] at pl h
  have h0 := neNil_ev pl
  have h1 : ((expL f1 ++ List.replicate (q.1.toNat - 1) q.2).map D.int ++ [D.int q.2]).isEmpty = false := by cases (expL f1 ++ List.replicate (q.1.toNat - 1) q.2).map D.int <;> rfl
  rw [h1] at h0
  refine ⟨[.sh (tI ns), .sh (.lst ((expL f1 ++ List.replicate (q.1.toNat - 1) q.2).map D.int ++ [.int q.2])), .sh (.int (0 + f.length * 2))], ?_⟩
  rw [hr, h]
  refine forL_out (s1 := ⟨[.sh (tI ns), .sh (.lst ((expL f1 ++ List.replicate (q.1.toNat - 1) q.2).map D.int ++ [.int q.2])), .sh (.int (0 + f.length * 2))], st⟩) rfl ?_
  unfold l_law_elder_1
  repeat cell_call
/-- what the row is the day of -/
def elderO (ns : List Int) : Option (List Int) := if ns.length % 2 = 0 ∧ chainF none (pairsL ns) then some (expL (pairsL ns)) else none
/-- None or a row -/
def oT : Option (List Int) → D
  | none => .non
  | some l => tI l
theorem law_elder_ok {ns : List Int} {st : List Ob} (hn : Nums ns) : g_law_elder [tI ns] st = .ok (oT (elderO ns)) st := by
  have hl : (ns.map D.int).length = ns.length := List.length_map ..
  have hz := hn.len
  have hr : rng3 [.int 0, .int (((ns.map D.int).length : Int) - 1), .int 2] = some (rngC 0 2 (pairsL ns).length) := by
    rw [rng3two (by decide) (by decide) (by omega) (by omega), pairs_len, hl]
    congr 2
    omega
  by_cases hc : chainF none (pairsL ns)
  · obtain ⟨e, h⟩ := lel_go (st := st) hn (pairsL ns).length (Nat.le_refl _) (by rw [List.take_length]; exact hc)
    have h := h []
    rw [List.append_nil, List.take_length, forL_nil] at h
    by_cases hp : ns.length % 2 = 0
    · have ed : oT (elderO ns) = tI (expL (pairsL ns)) := by unfold elderO; rw [if_pos ⟨hp, hc⟩]; rfl
      rw [ed]
      apply frt e_law_elder
      unfold d_law_elder
      repeat cell_call
    · have ed : oT (elderO ns) = .non := by unfold elderO; rw [if_neg (fun q => hp q.1)]; rfl
      rw [ed]
      apply frt e_law_elder
      unfold d_law_elder
      repeat cell_call
  · obtain ⟨e, h⟩ := lel_bad (st := st) hn hc
    have ed : oT (elderO ns) = .non := by unfold elderO; rw [if_neg (fun q => hc q.2)]; rfl
    rw [ed]
    apply frt e_law_elder
    unfold d_law_elder
    repeat cell_call
open Classical in
/-- the place where it stops -/
noncomputable def barO (ns : List Int) : Option Int := if ns.length % 2 = 1 then some ns.length else
  if h : chainF none (pairsL ns) then none else some ((2 * (chain_bad _ _ h).choose.length + 1 : Nat) : Int)
theorem barO_bad {ns : List Int} (h : ¬ chainF none (pairsL ns)) (he : ns.length % 2 = 0) : ∃ f p q g, pairsL ns = f ++ q :: p :: g ∧ chainF none (f ++ [q]) ∧ q.2 = p.2 ∧ barO ns = some (3 + (f.length : Int) * 2) := by
  obtain ⟨p, g, hs, cf, lf⟩ := (chain_bad _ _ h).choose_spec
  have e : barO ns = some ((2 * (chain_bad _ _ h).choose.length + 1 : Nat) : Int) := by unfold barO; rw [if_neg (by omega), dif_neg h]
  generalize (chain_bad _ _ h).choose = f at *
  rcases List.eq_nil_or_concat f with z | ⟨f1, q, z⟩
  · rw [z] at lf
    cases lf
  rw [List.concat_eq_append] at z
  refine ⟨f1, p, q, g, by rw [hs, z, List.append_assoc]; rfl, by rw [← z]; exact cf, ?_, ?_⟩
  · rw [z, lastW_append] at lf
    exact Option.some.inj lf
  · rw [e, z, List.length_append, List.length_singleton]
    exact congrArg some (by omega)
theorem chain_at {o : Option Int} {f g : List (Int × Int)} {p q : Int × Int} (h : chainF o (f ++ p :: q :: g)) : p.2 ≠ q.2 := fun z => by
  rw [chain_append] at h
  exact h.2.2.1 (by rw [z])
theorem chain_get {ps : List (Int × Int)} (h : chainF none ps) {i : Nat} {p q : Int × Int} (hp : ps[i]? = some p) (hq : ps[i + 1]? = some q) : p.2 ≠ q.2 := by
  have e : ps = ps.take i ++ p :: q :: ps.drop (i + 2) := by
    have h1 := List.getElem?_eq_some_iff.mp hp
    have h2 := List.getElem?_eq_some_iff.mp hq
    obtain ⟨l1, e1⟩ := h1
    obtain ⟨l2, e2⟩ := h2
    rw [← e1, ← e2, ← List.drop_eq_getElem_cons l2, ← List.drop_eq_getElem_cons l1, List.take_append_drop]
  rw [e] at h
  exact chain_at h
def oI : Option Int → D
  | none => .non
  | some i => .int i
/-- the turns of a bar -/
theorem bar_turn {ns : List Int} {st : List Ob} {e : Sl} {i : Nat} {p q : Int × Int} (hp : (pairsL ns)[i]? = some p) (hq : (pairsL ns)[i + 1]? = some q) :
    l_bar_by_1 ⟨[.sh (tI ns), .sh (.int (3 + i * 2))], st⟩ = if p.2 = q.2 then .rt (.int (3 + i * 2)) ⟨[.sh (tI ns), .sh (.int (3 + i * 2))], st⟩ else .nx ⟨[.sh (tI ns), .sh (.int (3 + i * 2))], st⟩ := by
  have x1 : ixD (tI ns) (.int (3 + i * 2)) = some (.int q.2) := tI_ix (pairs_get ns _ q hq).2 (by omega)
  have x2 : ixD (tI ns) (.int (3 + i * 2 - 2)) = some (.int p.2) := tI_ix (pairs_get ns _ p hp).2 (by omega)
  unfold l_bar_by_1
  by_cases z : p.2 = q.2
  · rw [if_pos z]
    repeat cell_call
  · rw [if_neg z]
    repeat cell_call
theorem bar_go {ns : List Int} {st : List Ob} (k : Nat) (hk : k + 1 ≤ (pairsL ns).length) (hc : chainF none ((pairsL ns).take (k + 1))) :
    ∃ e, ∀ ds, forL (tgN 1) l_bar_by_1 (rngC 3 2 k ++ ds) ⟨[.sh (tI ns), .emp], st⟩ = forL (tgN 1) l_bar_by_1 ds ⟨[.sh (tI ns), e], st⟩ := by
  obtain ⟨s', h1, e, rfl⟩ := forL_go (tf := tgN 1) (b := l_bar_by_1) (rngC 3 2 k) (fun i s => ∃ e, s = ⟨[.sh (tI ns), e], st⟩) (fun i d s hd hs => by
    obtain ⟨e, rfl⟩ := hs
    obtain ⟨hi, rfl⟩ := rngC_get hd
    obtain ⟨p, hp⟩ : ∃ p, (pairsL ns)[i]? = some p := ⟨_, List.getElem?_eq_getElem (by omega)⟩
    obtain ⟨q, hq⟩ : ∃ q, (pairsL ns)[i + 1]? = some q := ⟨_, List.getElem?_eq_getElem (by omega)⟩
    have ne : p.2 ≠ q.2 := chain_get hc (i := i) (by rw [List.getElem?_take_of_lt (by omega)]; exact hp) (by rw [List.getElem?_take_of_lt (by omega)]; exact hq)
    refine ⟨⟨[.sh (tI ns), .sh (.int (3 + i * 2))], st⟩, rfl, ⟨[.sh (tI ns), .sh (.int (3 + i * 2))], st⟩, ?_, _, rfl⟩
    rw [bar_turn (e := .emp) hp hq, if_neg ne]) (s := ⟨[.sh (tI ns), .emp], st⟩) ⟨.emp, rfl⟩
  exact ⟨e, h1⟩
theorem bar_by_ok {ns : List Int} {st : List Ob} (hn : Nums ns) : g_bar_by [tI ns] st = .ok (oI (barO ns)) st := by
  have hl : (ns.map D.int).length = ns.length := List.length_map ..
  have hz := hn.len
  have hpl := pairs_len ns
  have hr : rng3 [.int 3, .int ((ns.map D.int).length : Int), .int 2] = some (rngC 3 2 (((ns.length : Int) - 2) / 2).toNat) := by
    rw [rng3two (by decide) (by decide) (by omega) (by omega), hl]
    congr 2
    omega
  by_cases hp : ns.length % 2 = 1
  · have ed : oI (barO ns) = .int (ns.map D.int).length := by unfold barO; rw [if_pos hp, hl]; rfl
    rw [ed]
    apply frt e_bar_by
    unfold d_bar_by
    repeat cell_call
  by_cases hc : chainF none (pairsL ns)
  · have ed : oI (barO ns) = .non := by unfold barO; rw [if_neg hp, dif_pos hc]; rfl
    rw [ed]
    have : ∃ e, forL (tgN 1) l_bar_by_1 (rngC 3 2 (((ns.length : Int) - 2) / 2).toNat) ⟨[.sh (tI ns), .emp], st⟩ = .nx ⟨[.sh (tI ns), e], st⟩ := by
      by_cases h0 : (pairsL ns).length = 0
      · rw [show (((ns.length : Int) - 2) / 2).toNat = 0 by omega]
        exact ⟨.emp, rfl⟩
      · obtain ⟨e, h⟩ := bar_go (ns := ns) (st := st) ((pairsL ns).length - 1) (by omega) (by rw [show (pairsL ns).length - 1 + 1 = (pairsL ns).length by omega, List.take_length]; exact hc)
        have h := h []
        rw [List.append_nil, forL_nil] at h
        rw [show (((ns.length : Int) - 2) / 2).toNat = (pairsL ns).length - 1 by omega]
        exact ⟨e, h⟩
    obtain ⟨e, h⟩ := this
    apply frt e_bar_by
    unfold d_bar_by
    repeat cell_call
  · obtain ⟨f, p, q, g, hs, cf, hpq, hb⟩ := barO_bad hc (by omega)
    rw [hb]
    have hlen : (pairsL ns).length = f.length + (g.length + 1 + 1) := by rw [hs, List.length_append, List.length_cons, List.length_cons]
    obtain ⟨rest, hsp⟩ := rngC_split (lo := 3) (c := 2) (n := (((ns.length : Int) - 2) / 2).toNat) (k := f.length) (by omega)
    obtain ⟨e, h⟩ := bar_go (ns := ns) (st := st) f.length (by omega) (by
      rw [hs, show f ++ q :: p :: g = (f ++ [q]) ++ p :: g by simp, List.take_left' (by simp)]
      exact cf)
    have g1 : (pairsL ns)[f.length]? = some q := by rw [hs, List.getElem?_append_right (Nat.le_refl _), Nat.sub_self]; rfl
    have g2 : (pairsL ns)[f.length + 1]? = some p := by rw [hs, List.getElem?_append_right (by omega), show f.length + 1 - f.length = 1 by omega]; rfl
    have fl : forL (tgN 1) l_bar_by_1 (rngC 3 2 (((ns.length : Int) - 2) / 2).toNat) ⟨[.sh (tI ns), .emp], st⟩ = .rt (.int (3 + f.length * 2)) ⟨[.sh (tI ns), .sh (.int (3 + f.length * 2))], st⟩ := by
      rw [hsp, h]
      refine forL_out (s1 := ⟨[.sh (tI ns), .sh (.int (3 + f.length * 2))], st⟩) rfl ?_
      rw [bar_turn (e := .emp) g1 g2, if_pos hpq]
    show _ = FR.ok (.int (3 + f.length * 2)) _
    apply frt e_bar_by
    unfold d_bar_by
    repeat cell_call
/-- the program's loop of elders -/
theorem eb_all {ns : List Int} {st : List Ob} (hn : Nums ns) : ∃ e, forL (tgN 2) l_elder_by_1 (rngC 0 2 (pairsL ns).length) ⟨[.sh (tI ns), .sh (.lst []), .emp], st⟩ = .nx ⟨[.sh (tI ns), .sh (.lst ((expL (pairsL ns)).map .int)), e], st⟩ := by
  obtain ⟨s', h1, e, rfl⟩ := forL_inv (tf := tgN 2) (b := l_elder_by_1) (ds := rngC 0 2 (pairsL ns).length) (fun i s => ∃ e, s = ⟨[.sh (tI ns), .sh (.lst ((expL ((pairsL ns).take i)).map .int)), e], st⟩) (fun i d s hd hs => by
    obtain ⟨e, rfl⟩ := hs
    obtain ⟨hi, rfl⟩ := rngC_get hd
    obtain ⟨p, hp⟩ : ∃ p, (pairsL ns)[i]? = some p := ⟨_, List.getElem?_eq_getElem (by omega)⟩
    obtain ⟨g1, g2⟩ := pairs_get ns i p hp
    have x1 : ixD (tI ns) (.int (0 + i * 2)) = some (.int p.1) := tI_ix g1 (by omega)
    have x2 : ixD (tI ns) (.int (0 + i * 2 + 1)) = some (.int p.2) := tI_ix g2 (by omega)
    obtain ⟨n1, n2⟩ := pairs_num hn p (List.mem_of_getElem? hp)
    have tk : (pairsL ns).take (i + 1) = (pairsL ns).take i ++ [p] := by rw [List.take_succ, hp]; rfl
    have hm := mulL1 (a := .int p.2) (k := p.1) (by omega) (by omega)
    have lim : (expL ((pairsL ns).take i)).length ≤ 99 * ((pairsL ns).take i).length := expL_len fun q hq => by have := pairs_num hn q (mem_take hq); omega
    have l2 : ((pairsL ns).take i).length ≤ 10000 := by have := pairs_len ns; have := hn.len; rw [List.length_take]; omega
    have ha : addD (.lst ((expL ((pairsL ns).take i)).map .int)) (.lst (List.replicate p.1.toNat (.int p.2))) = some (.lst ((expL ((pairsL ns).take (i + 1))).map .int)) := by
      rw [addL_ev (by rw [List.length_map, List.length_replicate]; unfold SZ; omega), tk, expL_append]
      congr 2
      show _ = ((expL ((pairsL ns).take i)) ++ (List.replicate p.1.toNat p.2 ++ [])).map D.int
      rw [List.append_nil, List.map_append, List.map_replicate]
    refine ⟨⟨[.sh (tI ns), .sh (.lst ((expL ((pairsL ns).take i)).map .int)), .sh (.int (0 + i * 2))], st⟩, rfl, ⟨[.sh (tI ns), .sh (.lst ((expL ((pairsL ns).take (i + 1))).map .int)), .sh (.int (0 + i * 2))], st⟩, ?_, _, rfl⟩
    unfold l_elder_by_1
    repeat cell_call) (s := ⟨[.sh (tI ns), .sh (.lst []), .emp], st⟩) ⟨.emp, rfl⟩
  rw [rngC_len, List.take_length] at h1
  exact ⟨e, h1⟩
theorem elder_by_ok {ns : List Int} {st : List Ob} (hn : Nums ns) : g_elder_by [tI ns] st = .ok (oT (elderO ns)) st := by
  have hl : (ns.map D.int).length = ns.length := List.length_map ..
  have hz := hn.len
  have hpl := pairs_len ns
  have hb := bar_by_ok (st := st) hn
  by_cases hp : ns.length % 2 = 1
  · have ed : oI (barO ns) = .int ns.length := by unfold barO; rw [if_pos hp]; rfl
    have ee : oT (elderO ns) = .non := by unfold elderO; rw [if_neg (fun q => by omega)]; rfl
    rw [ed] at hb
    rw [ee]
    apply frt e_elder_by
    unfold d_elder_by
    repeat cell_call
  by_cases hc : chainF none (pairsL ns)
  · have ed : oI (barO ns) = .non := by unfold barO; rw [if_neg hp, dif_pos hc]; rfl
    have ee : oT (elderO ns) = tI (expL (pairsL ns)) := by unfold elderO; rw [if_pos ⟨by omega, hc⟩]; rfl
    rw [ed] at hb
    rw [ee]
    have hr : rng3 [.int 0, .int ((ns.map D.int).length : Int), .int 2] = some (rngC 0 2 (pairsL ns).length) := by
      rw [rng3two (by decide) (by decide) (by omega) (by omega), hl]
      congr 2
      omega
    obtain ⟨e, h⟩ := eb_all (st := st) hn
    apply frt e_elder_by
    unfold d_elder_by
    repeat cell_call
  · obtain ⟨f, p, q, g, hs, cf, hpq, hbo⟩ := barO_bad hc (by omega)
    have ed : oI (barO ns) = .int (3 + f.length * 2) := by rw [hbo]; rfl
    have ee : oT (elderO ns) = .non := by unfold elderO; rw [if_neg (fun q => hc q.2)]; rfl
    rw [ed] at hb
    rw [ee]
    apply frt e_elder_by
    unfold d_elder_by
    repeat cell_call
theorem RowOk.nums {ns : List Int} (h : RowOk ns) : Nums ns := ⟨by have := h.len; omega, h.num⟩
theorem elder_cases (ns : List Int) : (elderO ns = some (expL (pairsL ns)) ∧ barO ns = none ∧ ns.length % 2 = 0 ∧ chainF none (pairsL ns)) ∨ (elderO ns = none ∧ ∃ b, barO ns = some b) := by
  by_cases hp : ns.length % 2 = 1
  · exact .inr ⟨by unfold elderO; rw [if_neg (by omega)], _, by unfold barO; rw [if_pos hp]⟩
  by_cases hc : chainF none (pairsL ns)
  · exact .inl ⟨by unfold elderO; rw [if_pos ⟨by omega, hc⟩], by unfold barO; rw [if_neg hp, dif_pos hc], by omega, hc⟩
  · exact .inr ⟨by unfold elderO; rw [if_neg (fun q => hc q.2)], _, by unfold barO; rw [if_neg hp, dif_neg hc]⟩
theorem pairs_flat2 : ∀ f : List (Int × Int), pairsL (flat2 f) = f
  | [] => rfl
  | p :: f => by
    show (p.1, p.2) :: pairsL (flat2 f) = _
    rw [pairs_flat2 f]
theorem elder_said (l : List Int) : elderO (saidL l) = some l := by
  unfold elderO saidL
  have h := isRuns_runs l
  rw [pairs_flat2, if_pos ⟨by rw [flat2_len]; omega, h.chain⟩, h.exp]
theorem said_elder {ns : List Int} (hn : Nums ns) (he : ns.length % 2 = 0) (hc : chainF none (pairsL ns)) : saidL (expL (pairsL ns)) = ns := by
  unfold saidL
  rw [runsL_exp (fun p hp => (pairs_num hn p hp).1) hc, flat2_pairs _ he]
theorem plainN_tI (l : List Int) (n : Nat) : plainN (n + 1) (tI l) = true := plainI l n
theorem dszL_ints : ∀ l : List Int, dszL (l.map .int) = l.length
  | [] => rfl
  | a :: l => by
    show 1 + dszL (l.map .int) = l.length + 1
    rw [dszL_ints l]
    omega
theorem dsz_tI (l : List Int) : dsz (tI l) = 1 + l.length := by
  show 1 + dszL (l.map .int) = _
  rw [dszL_ints]
theorem tI_any {ns : List Int} {k : Int} (h0 : -(ns.length : Int) ≤ k) (h1 : k < ns.length) : ∃ x ∈ ns, ixD (tI ns) (.int k) = some (.int x) := by
  by_cases hk : 0 ≤ k
  · have hl : k.toNat < ns.length := by omega
    exact ⟨ns[k.toNat], List.getElem_mem hl, tI_ix (List.getElem?_eq_getElem hl) (by omega)⟩
  · have hl : (k + ns.length).toNat < ns.length := by omega
    refine ⟨ns[(k + ns.length).toNat], List.getElem_mem hl, ?_⟩
    refine (at_neg (by omega) (by rw [List.length_map]; omega)).trans ?_
    rw [List.length_map, List.getElem?_map, List.getElem?_eq_getElem hl]
    rfl
theorem said_row {base : List Int} (h : ∀ x ∈ base, 1 ≤ x ∧ x ≤ 99) (hl : base.length ≤ 60) : ∀ x ∈ saidL base, 1 ≤ x ∧ x ≤ 99 := by
  intro x hx
  obtain ⟨p, hp, hx⟩ := mem_flat2 hx
  obtain ⟨p1, p2, p3⟩ := runs_count p hp
  rcases hx with rfl | rfl
  · omega
  · exact h _ p3
end Ls
namespace Ls
open PySem PySem.Spec L2
/-- data that are whole numbers -/
theorem ints_of {P : Int → Prop} : ∀ {acc : List D}, (∀ y ∈ acc, ∃ i, y = .int i ∧ P i) → ∃ ns : List Int, acc = ns.map .int ∧ ∀ x ∈ ns, P x
  | [], _ => ⟨[], rfl, by simp⟩
  | y :: acc, h => by
    obtain ⟨i, rfl, hi⟩ := h y (by simp)
    obtain ⟨ns, e, hn⟩ := ints_of (acc := acc) fun z hz => h z (List.mem_cons_of_mem _ hz)
    exact ⟨i :: ns, by rw [e]; rfl, fun x hx => by
      rcases List.mem_cons.mp hx with z | z
      · rw [z]; exact hi
      · exact hn x z⟩
theorem slTake_ev {xs : List D} {k : Int} (h : 0 ≤ k) : slD (.lst xs) none (some k) = some (.lst (xs.take k.toNat)) := by
  obtain ⟨n, rfl⟩ := Int.eq_ofNat_of_zero_le h
  show some (D.lst (((xs.drop (HT.sIx xs.length 0 none)).take (HT.sIx xs.length xs.length (some (n : Int)) - HT.sIx xs.length 0 none)))) = _
  rw [HT.sIx_none, HT.sIx_nat, List.drop_zero, Nat.sub_zero, Int.toNat_natCast]
  congr 2
  rcases Nat.le_total n xs.length with z | z
  · rw [Nat.min_eq_left z]
  · rw [Nat.min_eq_right z, List.take_length, List.take_of_length_le z]
theorem slTakeT_ev {xs : List D} {k : Int} (h : 0 ≤ k) : slD (.tup xs) none (some k) = some (.tup (xs.take k.toNat)) := by
  have := slTake_ev (xs := xs) h
  have e : slD (.lst xs) none (some k) = some (.lst (cutD xs none (some k))) := rfl
  rw [e] at this
  show some (D.tup (cutD xs none (some k))) = _
  rw [D.lst.inj (Option.some.inj this)]
theorem slDropT_ev {xs : List D} {k : Int} (h : 0 ≤ k) : slD (.tup xs) (some k) none = some (.tup (xs.drop k.toNat)) := by
  obtain ⟨n, rfl⟩ := Int.eq_ofNat_of_zero_le h
  show some (D.tup (((xs.drop (HT.sIx xs.length 0 (some (n : Int)))).take (HT.sIx xs.length xs.length none - HT.sIx xs.length 0 (some (n : Int)))))) = _
  rw [HT.sIx_none, HT.sIx_nat, Int.toNat_natCast]
  congr 2
  rcases Nat.le_total n xs.length with z | z
  · rw [Nat.min_eq_left z, List.take_of_length_le (by rw [List.length_drop]; exact Nat.le_refl _)]
  · rw [Nat.min_eq_right z, List.drop_of_length_le (Nat.le_refl _), List.drop_of_length_le z, List.take_nil]
/-- 1 + take k -/
theorem plusTake {k : Int} {st : List Ob} {env : List Sl} {i : Nat} (D0 : Drawn st) (h1 : 1 ≤ k) (h2 : k ≤ 1000000) (he : env[i]? = some (.sh (.obj 0))) : ∃ y st2, mO2 addD (M.pure (.int 1)) (mCall g_law_take (mCons (mVar i) (mCons (M.pure (.int k)) (mNil)))) ⟨env, st⟩ = .ok y ⟨env, st2⟩ ∧ Drawn st2 ∧ ∃ j, y = .int j ∧ 1 ≤ j ∧ j ≤ k := by
  obtain ⟨r, st2, h, D2, r0, r1⟩ := take_ok D0 h1 (by omega)
  have hv : mVar i ⟨env, st⟩ = .ok (.obj 0) ⟨env, st⟩ := var_ev he
  exact ⟨.int (1 + r), st2, by repeat cell_call, D2, 1 + r, rfl, by omega, by omega⟩
/-- small rows' days -/
def okDay (l : List Int) : Bool := !l.isEmpty && l.all fun x => decide (1 ≤ x ∧ x ≤ 99)
theorem small1 : ∀ a ∈ ([1, 2, 3] : List Int), ∀ k ∈ List.range 10, okDay (dayL [a] k) = true := by decide +kernel
theorem small2 : ∀ a ∈ ([1, 2, 3] : List Int), ∀ b ∈ ([1, 2, 3] : List Int), ∀ k ∈ List.range 10, okDay (dayL [a, b] k) = true := by decide +kernel
theorem small3 : ∀ a ∈ ([1, 2, 3] : List Int), ∀ b ∈ ([1, 2, 3] : List Int), ∀ c ∈ ([1, 2, 3] : List Int), ∀ k ∈ List.range 10, okDay (dayL [a, b, c] k) = true := by decide +kernel
theorem small4 : ∀ a ∈ ([1, 2, 3] : List Int), ∀ b ∈ ([1, 2, 3] : List Int), ∀ c ∈ ([1, 2, 3] : List Int), ∀ d ∈ ([1, 2, 3] : List Int), ∀ k ∈ List.range 10, okDay (dayL [a, b, c, d] k) = true := by decide +kernel
theorem mem123 {x : Int} (h : 1 ≤ x ∧ x ≤ 3) : x ∈ ([1, 2, 3] : List Int) := by
  have : x = 1 ∨ x = 2 ∨ x = 3 := by omega
  simp only [List.mem_cons, List.not_mem_nil, or_false]
  exact this
theorem small_ok {ns : List Int} (h0 : 1 ≤ ns.length) (h : ns.length ≤ 4) (hn : ∀ x ∈ ns, 1 ≤ x ∧ x ≤ 3) {k : Nat} (hk : k ≤ 9) : dayL ns k ≠ [] ∧ ∀ x ∈ dayL ns k, 1 ≤ x ∧ x ≤ 99 := by
  have key : okDay (dayL ns k) = true := by
    have hk : k ∈ List.range 10 := by simp; omega
    match ns, h0, h, hn with
    | [a], _, _, hn => exact small1 a (mem123 (hn a (by simp))) k hk
    | [a, b], _, _, hn => exact small2 a (mem123 (hn a (by simp))) b (mem123 (hn b (by simp))) k hk
    | [a, b, c], _, _, hn => exact small3 a (mem123 (hn a (by simp))) b (mem123 (hn b (by simp))) c (mem123 (hn c (by simp))) k hk
    | [a, b, c, d], _, _, hn => exact small4 a (mem123 (hn a (by simp))) b (mem123 (hn b (by simp))) c (mem123 (hn c (by simp))) d (mem123 (hn d (by simp))) k hk
    | _ :: _ :: _ :: _ :: _ :: _, _, h, _ => (simp at h)
  unfold okDay at key
  rw [Bool.and_eq_true, List.all_eq_true] at key
  refine ⟨fun z => ?_, fun x hx => by simpa using key.2 x hx⟩
  rw [z] at key
  exact absurd key.1 (by decide)
/-- what a drawn row is like -/
structure RowD (m : Int) (ns : List Int) : Prop where
  ne : ns ≠ []
  len : ns.length ≤ max 4 m.toNat
  num : ∀ x ∈ ns, 1 ≤ x ∧ x ≤ 99
theorem row_while {most way : Int} {many : Nat} (hm : many ≤ 1000) : ∀ (n : Nat) (found : List Int) (st : List Ob), many - found.length ≤ n → found.length ≤ many + 3 → (∀ x ∈ found, 1 ≤ x ∧ x ≤ 3) → Drawn st →
    ∃ (found2 : List Int) (st2 : List Ob), mWhile c_law_row_1 l_law_row_1 ⟨[.sh (.obj 0), .sh (.int most), .sh (.int way), .sh (.int many), .emp, .emp, .emp, .emp, .sh (.lst (found.map .int))], st⟩ = .nx ⟨[.sh (.obj 0), .sh (.int most), .sh (.int way), .sh (.int many), .emp, .emp, .emp, .emp, .sh (.lst (found2.map .int))], st2⟩ ∧
      Drawn st2 ∧ many ≤ found2.length ∧ ∀ x ∈ found2, 1 ≤ x ∧ x ≤ 3 := by
  intro n
  induction n with
  | zero =>
    intro found st h1 h2 h3 D0
    have hl : (found.map D.int).length = found.length := List.length_map ..
    refine ⟨found, st, mWhile_stop (s1 := ⟨[.sh (.obj 0), .sh (.int most), .sh (.int way), .sh (.int many), .emp, .emp, .emp, .emp, .sh (.lst (found.map .int))], st⟩) ?_, D0, by omega, h3⟩
    unfold c_law_row_1
    repeat cell_call
  | succ n ih =>
    intro found st h1 h2 h3 D0
    have hl : (found.map D.int).length = found.length := List.length_map ..
    by_cases hc : many ≤ found.length
    · refine ⟨found, st, mWhile_stop (s1 := ⟨[.sh (.obj 0), .sh (.int most), .sh (.int way), .sh (.int many), .emp, .emp, .emp, .emp, .sh (.lst (found.map .int))], st⟩) ?_, D0, by omega, h3⟩
      unfold c_law_row_1
      repeat cell_call
    obtain ⟨r, sta, ha, D1, r0, r1⟩ := take_ok (a := 3) D0 (by decide) (by decide)
    obtain ⟨q, stb, hb, D2, q0, q1⟩ := take_ok (a := 4) D1 (by decide) (by decide)
    have hmul : mulD (.lst [.int (1 + r)]) (.int (1 + q)) = some (.lst ((List.replicate (1 + q).toNat (1 + r)).map .int)) := by
      rw [List.map_replicate]
      show (if -(2 ^ 63) ≤ (1 + q) ∧ (1 + q) < 2 ^ 63 ∧ [D.int (1 + r)].length * (1 + q).toNat ≤ SZ then some (D.lst (List.replicate (1 + q).toNat [D.int (1 + r)]).flatten) else none) = _
      rw [if_pos ⟨by omega, by omega, by show 1 * (1 + q).toNat ≤ SZ; unfold SZ; omega⟩]
      congr 2
      generalize (1 + q).toNat = n
      induction n with
      | zero => rfl
      | succ n ih => rw [List.replicate_succ, List.flatten_cons, ih, List.replicate_succ]; rfl
    have hadd : addD (.lst (found.map .int)) (.lst ((List.replicate (1 + q).toNat (1 + r)).map .int)) = some (.lst ((found ++ List.replicate (1 + q).toNat (1 + r)).map .int)) := by
      rw [addL_ev (by rw [List.length_map, List.length_map, List.length_replicate]; unfold SZ; omega), List.map_append]
    obtain ⟨f2, st2, hw, D3, l3, n3⟩ := ih (found ++ List.replicate (1 + q).toNat (1 + r)) stb (by rw [List.length_append, List.length_replicate]; omega) (by rw [List.length_append, List.length_replicate]; omega) (fun x hx => by
      rcases List.mem_append.mp hx with z | z
      · exact h3 x z
      · rw [(List.mem_replicate.mp z).2]; omega) D2
    refine ⟨f2, st2, mWhile_step (s1 := ⟨[.sh (.obj 0), .sh (.int most), .sh (.int way), .sh (.int many), .emp, .emp, .emp, .emp, .sh (.lst (found.map .int))], st⟩) ?_ ?_ hw (by nofun), D3, l3, n3⟩
    · unfold c_law_row_1
      repeat cell_call
    · unfold l_law_row_1
      repeat cell_call
theorem law_row_ok {m : Int} {st : List Ob} (D0 : Drawn st) (h1 : 1 ≤ m) (h2 : m ≤ 60) : ∃ ns st2, g_law_row [.obj 0, .int m] st = .ok (tI ns) st2 ∧ Drawn st2 ∧ RowD m ns := by
  obtain ⟨way, sta, hw, D1, w0, w1⟩ := take_ok (a := 6) D0 (by decide) (by decide)
  obtain ⟨mm, stb, hm, D2, m0, m1⟩ := take_ok (a := m) D1 h1 (by omega)
  have hr : rng1 [.int (1 + mm)] = some (rngL 0 (1 + mm).toNat) := rng1_ev (by omega) (by omega)
  by_cases a0 : way = 0
  · -- days of a small row
    subst a0
    obtain ⟨c, stc, hc, D3, c0, c1⟩ := take_ok (a := 4) D2 (by decide) (by decide)
    have hr4 : rng1 [.int (1 + c)] = some (rngL 0 (1 + c).toNat) := rng1_ev (by omega) (by omega)
    obtain ⟨acc, std, hq, D4, la, qa⟩ := lc_draw (is := [5]) (it := (M.bind (mCons (mO2 addD (M.pure (.int 1)) (mCall g_law_take (mCons (mVar 0) (mCons (M.pure (.int 4)) (mNil))))) (mNil)) fun ds => ofO (rng1 ds))) (tf := tgN 5) (cond := mTrue) (elt := (mO2 addD (M.pure (.int 1)) (mCall g_law_take (mCons (mVar 0) (mCons (M.pure (.int 3)) (mNil))))))
      (env := [.sh (.obj 0), .sh (.int m), .sh (.int 0), .sh (.int (1 + mm)), .emp, .emp, .emp, .emp, .emp]) (e0 := [.sh (.obj 0), .sh (.int m), .sh (.int 0), .sh (.int (1 + mm)), .emp, .emp, .emp, .emp, .emp]) (st := stb) (st0 := stc) (ds := rngL 0 (1 + c).toNat)
      Drawn (fun y => ∃ j, y = .int j ∧ 1 ≤ j ∧ j ≤ 3) (by repeat cell_call) rfl rfl D3 (fun d hd s2 Ds => by
        obtain ⟨y, s3, e3, D5, hy⟩ := plusTake (k := 3) (env := [.sh (.obj 0), .sh (.int m), .sh (.int 0), .sh (.int (1 + mm)), .emp, .sh d, .emp, .emp, .emp]) (i := 0) Ds (by decide) (by decide) rfl
        exact ⟨_, y, s3, rfl, rfl, e3, rfl, D5, hy⟩) (by rw [rngL_len]; unfold SZ; omega)
    have hq : q_law_row_5 ⟨[.sh (.obj 0), .sh (.int m), .sh (.int 0), .sh (.int (1 + mm)), .emp, .emp, .emp, .emp, .emp], stb⟩ = .ok acc ⟨[.sh (.obj 0), .sh (.int m), .sh (.int 0), .sh (.int (1 + mm)), .emp, .emp, .emp, .emp, .emp], std⟩ := hq
    obtain ⟨ns, rfl, hn⟩ := ints_of qa
    rw [rngL_len, List.length_map] at la
    have dl : ∀ i, i ≤ 9 → (dayL ns i).length ≤ 1000000 := fun i hi => by
      have h3 := dayL_len ns i
      have : 2 ^ i ≤ 2 ^ 9 := Nat.pow_le_pow_right (by decide) hi
      have : 2 ^ i * ns.length ≤ 2 ^ 9 * 4 := Nat.mul_le_mul this (by omega)
      omega
    have hd : g_law_days [tI ns, .int 9] std = .ok (.lst ((daysL ns 9).map tI)) std := law_days_ok (k := 9) (by decide) dl
    let p : D → Bool := fun d => match d with
      | .tup l => decide ((l.length : Int) ≤ m)
      | _ => false
    have hq4 : q_law_row_4 ⟨[.sh (.obj 0), .sh (.int m), .sh (.int 0), .sh (.int (1 + mm)), .sh (tI ns), .emp, .emp, .emp, .emp], std⟩ = .ok ((((daysL ns 9).map tI).filter p).map id) ⟨[.sh (.obj 0), .sh (.int m), .sh (.int 0), .sh (.int (1 + mm)), .sh (tI ns), .emp, .emp, .emp, .emp], std⟩ := by
      unfold q_law_row_4
      refine lc_map (e0 := [.sh (.obj 0), .sh (.int m), .sh (.int 0), .sh (.int (1 + mm)), .sh (tI ns), .emp, .emp, .emp, .emp]) p id (by repeat cell_call) rfl rfl (fun d hd => ?_) (by rw [List.length_map]; unfold daysL; rw [List.length_map, List.length_range]; decide)
      obtain ⟨l, hl, rfl⟩ := List.mem_map.mp hd
      exact ⟨[.sh (.obj 0), .sh (.int m), .sh (.int 0), .sh (.int (1 + mm)), .sh (tI ns), .emp, .emp, .sh (tI l), .emp], rfl, by repeat cell_call, fun _ => by repeat cell_call, rfl⟩
    rw [List.map_id] at hq4
    generalize hg : ((daysL ns 9).map tI).filter p = days at hq4
    have inD : ∀ d ∈ days, ∃ l, d = tI l ∧ RowD m l := fun d hd => by
      rw [← hg, List.mem_filter] at hd
      obtain ⟨hd, hp⟩ := hd
      obtain ⟨l, hl, rfl⟩ := List.mem_map.mp hd
      unfold daysL at hl
      obtain ⟨k, hk, rfl⟩ := List.mem_map.mp hl
      obtain ⟨b1, b2⟩ := small_ok (k := k) (by omega) (by omega) hn (by simp at hk; omega)
      refine ⟨_, rfl, b1, ?_, b2⟩
      have : (((dayL ns k).map D.int).length : Int) ≤ m := by simpa [p] using hp
      rw [List.length_map] at this
      omega
    have ld : days.length ≤ 10 := by
      rw [← hg]
      have := List.length_filter_le p ((daysL ns 9).map tI)
      rw [List.length_map] at this
      unfold daysL at this
      rw [List.length_map, List.length_range] at this
      exact this
    have pl : plain (.lst days) = true := by
      show days.all (plainN 59) = true
      rw [List.all_eq_true]
      intro d hd
      obtain ⟨l, rfl, _⟩ := inD d hd
      show (l.map D.int).all (plainN 58) = true
      rw [List.all_eq_true]
      intro z hz
      obtain ⟨i, _, rfl⟩ := List.mem_map.mp hz
      rfl
    have h0 := neNil_ev pl
    by_cases hne : days = []
    · subst hne
      have hz : ([] : List D).isEmpty = true := rfl
      refine ⟨[1], std, ?_, D4, by decide, by show 1 ≤ max 4 m.toNat; omega, by decide⟩
      apply frt e_law_row
      unfold d_law_row
      repeat cell_call
    · have hz : days.isEmpty = false := by cases days with | nil => exact absurd rfl hne | cons a b => rfl
      rw [hz] at h0
      obtain ⟨d, ste, hpk, D5, hmem⟩ := pick_ok (ds := days) D4 (by cases days with | nil => exact absurd rfl hne | cons a b => simp) (by omega)
      obtain ⟨l, rfl, hrow⟩ := inD d hmem
      refine ⟨l, ste, ?_, D5, hrow⟩
      apply frt e_law_row
      unfold d_law_row
      repeat cell_call
  by_cases a1 : way = 1
  · subst a1
    have key : ∀ y ∈ ([.int 1, .int 1, .int 2, .int 2, .int 3, .int 3, .int 4, .int 5, .int 9, .int 12, .int 99] : List D), ∃ j, y = .int j ∧ 1 ≤ j ∧ j ≤ 99 := by
      intro y hy
      simp only [List.mem_cons, List.not_mem_nil, or_false] at hy
      rcases hy with rfl | rfl | rfl | rfl | rfl | rfl | rfl | rfl | rfl | rfl | rfl <;> exact ⟨_, rfl, by decide, by decide⟩
    obtain ⟨acc, std, hq, D4, la, qa⟩ := lc_draw (is := [5]) (it := (M.bind (mCons (mVarB 3) (mNil)) fun ds => ofO (rng1 ds))) (tf := tgN 5) (cond := mTrue) (elt := (mCall g_law_pick (mCons (mVar 0) (mCons (M.bind (mLst (mCons (M.pure (.int 1)) (mCons (M.pure (.int 1)) (mCons (M.pure (.int 2)) (mCons (M.pure (.int 2)) (mCons (M.pure (.int 3)) (mCons (M.pure (.int 3)) (mCons (M.pure (.int 4)) (mCons (M.pure (.int 5)) (mCons (M.pure (.int 9)) (mCons (M.pure (.int 12)) (mCons (M.pure (.int 99)) (mNil))))))))))))) fun ds => M.pure (.lst ds)) (mNil)))))
      (env := [.sh (.obj 0), .sh (.int m), .sh (.int 1), .sh (.int (1 + mm)), .emp, .emp, .emp, .emp, .emp]) (e0 := [.sh (.obj 0), .sh (.int m), .sh (.int 1), .sh (.int (1 + mm)), .emp, .emp, .emp, .emp, .emp]) (st := stb) (st0 := stb) (ds := rngL 0 (1 + mm).toNat)
      Drawn (fun y => ∃ j, y = .int j ∧ 1 ≤ j ∧ j ≤ 99) (by repeat cell_call) rfl rfl D2 (fun d hd s2 Ds => by
        obtain ⟨y, s3, e3, D5, hy⟩ := pick_ok (ds := [.int 1, .int 1, .int 2, .int 2, .int 3, .int 3, .int 4, .int 5, .int 9, .int 12, .int 99]) Ds (by decide) (by decide)
        refine ⟨[.sh (.obj 0), .sh (.int m), .sh (.int 1), .sh (.int (1 + mm)), .emp, .sh d, .emp, .emp, .emp], y, s3, rfl, rfl, ?_, rfl, D5, key y hy⟩
        repeat cell_call) (by rw [rngL_len]; unfold SZ; omega)
    have hq : q_law_row_3 ⟨[.sh (.obj 0), .sh (.int m), .sh (.int 1), .sh (.int (1 + mm)), .emp, .emp, .emp, .emp, .emp], stb⟩ = .ok acc ⟨[.sh (.obj 0), .sh (.int m), .sh (.int 1), .sh (.int (1 + mm)), .emp, .emp, .emp, .emp, .emp], std⟩ := hq
    obtain ⟨ns, rfl, hn⟩ := ints_of qa
    rw [rngL_len, List.length_map] at la
    refine ⟨ns, std, ?_, D4, fun z => by rw [z] at la; simp at la; omega, by omega, hn⟩
    apply frt e_law_row
    unfold d_law_row
    repeat cell_call
  by_cases a2 : way = 2
  · subst a2
    obtain ⟨many, hmany⟩ : ∃ many : Nat, (1 + mm) = (many : Int) := ⟨(1 + mm).toNat, by omega⟩
    obtain ⟨f2, st2, hwl, D3, l3, n3⟩ := row_while (most := m) (way := 2) (many := many) (by omega) many [] stb (by simp) (by simp) (by simp) D2
    rw [List.map_nil, ← hmany] at hwl
    have hs : slD (.lst (f2.map .int)) none (some (1 + mm)) = some (.lst ((f2.take many).map .int)) := by
      rw [slTake_ev (by omega), hmany, Int.toNat_natCast, List.map_take]
    refine ⟨f2.take many, st2, ?_, D3, fun z => ?_, by rw [List.length_take]; omega, fun x hx => ?_⟩
    · apply frt e_law_row
      unfold d_law_row
      repeat cell_call
    · have : (f2.take many).length = 0 := by rw [z]; rfl
      rw [List.length_take] at this
      omega
    · have := n3 x ((List.take_subset many f2) hx)
      omega
  by_cases a3 : way = 3
  · subst a3
    obtain ⟨p, stc, hp, D3, hmem⟩ := pick_ok (ds := [.int 2, .int 2, .int 4]) D2 (by decide) (by decide)
    obtain ⟨pk, rfl, p0, p1⟩ : ∃ j, p = .int j ∧ 2 ≤ j ∧ j ≤ 4 := by
      simp only [List.mem_cons, List.not_mem_nil, or_false] at hmem
      rcases hmem with rfl | rfl | rfl <;> exact ⟨_, rfl, by decide, by decide⟩
    obtain ⟨v, hv, v0, v1⟩ : ∃ v : Int, (if (1 + mm - 4) > 0 then (1 + mm - 4) else 0) = v ∧ 0 ≤ v ∧ v ≤ 60 ∧ v ≤ max 0 (m - 4) := by
      refine ⟨_, rfl, ?_, ?_⟩ <;> split <;> omega
    have hmx : max2 [.int 0, .int (1 + mm - 4)] = some (.int v) := by rw [max_ev, hv]
    have hr3 : rng1 [.int v] = some (rngL 0 v.toNat) := rng1_ev (by omega) (by omega)
    have h22 : mulD (.lst [.int 2, .int 2]) (.int 30) = some (.lst ((List.replicate 60 2).map .int)) := by kernel_rfl
    have hs : slD (.tup ((List.replicate 60 2).map .int)) none (some pk) = some (tI (List.replicate pk.toNat 2)) := by
      rw [slTakeT_ev (by omega), ← List.map_take, List.take_replicate, Nat.min_eq_left (by omega)]
    obtain ⟨acc, std, hq, D4, la, qa⟩ := lc_draw (is := [5]) (it := (M.bind (mCons (mB max2 (mCons (M.pure (.int 0)) (mCons (mO2 subD (mVarB 3) (M.pure (.int 4))) (mNil)))) (mNil)) fun ds => ofO (rng1 ds))) (tf := tgN 5) (cond := mTrue) (elt := (mO2 addD (M.pure (.int 1)) (mCall g_law_take (mCons (mVar 0) (mCons (M.pure (.int 4)) (mNil))))))
      (env := [.sh (.obj 0), .sh (.int m), .sh (.int 3), .sh (.int (1 + mm)), .emp, .emp, .emp, .emp, .emp]) (e0 := [.sh (.obj 0), .sh (.int m), .sh (.int 3), .sh (.int (1 + mm)), .emp, .emp, .emp, .emp, .emp]) (st := stc) (st0 := stc) (ds := rngL 0 v.toNat)
      Drawn (fun y => ∃ j, y = .int j ∧ 1 ≤ j ∧ j ≤ 4) (by repeat cell_call) rfl rfl D3 (fun d hd s2 Ds => by
        obtain ⟨y, s3, e3, D5, hy⟩ := plusTake (k := 4) (env := [.sh (.obj 0), .sh (.int m), .sh (.int 3), .sh (.int (1 + mm)), .emp, .sh d, .emp, .emp, .emp]) (i := 0) Ds (by decide) (by decide) rfl
        exact ⟨_, y, s3, rfl, rfl, e3, rfl, D5, hy⟩) (by rw [rngL_len]; unfold SZ; omega)
    have hq : q_law_row_2 ⟨[.sh (.obj 0), .sh (.int m), .sh (.int 3), .sh (.int (1 + mm)), .emp, .emp, .emp, .emp, .emp], stc⟩ = .ok acc ⟨[.sh (.obj 0), .sh (.int m), .sh (.int 3), .sh (.int (1 + mm)), .emp, .emp, .emp, .emp, .emp], std⟩ := hq
    obtain ⟨ns, rfl, hn⟩ := ints_of qa
    rw [rngL_len, List.length_map] at la
    have hadd : addD (tI (List.replicate pk.toNat 2)) (.tup (ns.map .int)) = some (tI (List.replicate pk.toNat 2 ++ ns)) := by
      rw [addT_ev (by rw [List.length_map, List.length_map, List.length_replicate]; unfold SZ; omega), ← List.map_append]
    refine ⟨List.replicate pk.toNat 2 ++ ns, std, ?_, D4, fun z => ?_, by rw [List.length_append, List.length_replicate]; omega, fun x hx => ?_⟩
    · apply frt e_law_row
      unfold d_law_row
      repeat cell_call
    · have : (List.replicate pk.toNat (2 : Int) ++ ns).length = 0 := by rw [z]; rfl
      rw [List.length_append, List.length_replicate] at this
      omega
    · rcases List.mem_append.mp hx with z | z
      · rw [(List.mem_replicate.mp z).2]; decide
      · have := hn x z
        omega
  · obtain ⟨acc, std, hq, D4, la, qa⟩ := lc_draw (is := [5]) (it := (M.bind (mCons (mVarB 3) (mNil)) fun ds => ofO (rng1 ds))) (tf := tgN 5) (cond := mTrue) (elt := (mO2 addD (M.pure (.int 1)) (mCall g_law_take (mCons (mVar 0) (mCons (M.pure (.int 3)) (mNil))))))
      (env := [.sh (.obj 0), .sh (.int m), .sh (.int way), .sh (.int (1 + mm)), .emp, .emp, .emp, .emp, .emp]) (e0 := [.sh (.obj 0), .sh (.int m), .sh (.int way), .sh (.int (1 + mm)), .emp, .emp, .emp, .emp, .emp]) (st := stb) (st0 := stb) (ds := rngL 0 (1 + mm).toNat)
      Drawn (fun y => ∃ j, y = .int j ∧ 1 ≤ j ∧ j ≤ 3) (by repeat cell_call) rfl rfl D2 (fun d hd s2 Ds => by
        obtain ⟨y, s3, e3, D5, hy⟩ := plusTake (k := 3) (env := [.sh (.obj 0), .sh (.int m), .sh (.int way), .sh (.int (1 + mm)), .emp, .sh d, .emp, .emp, .emp]) (i := 0) Ds (by decide) (by decide) rfl
        exact ⟨_, y, s3, rfl, rfl, e3, rfl, D5, hy⟩) (by rw [rngL_len]; unfold SZ; omega)
    have hq : q_law_row_1 ⟨[.sh (.obj 0), .sh (.int m), .sh (.int way), .sh (.int (1 + mm)), .emp, .emp, .emp, .emp, .emp], stb⟩ = .ok acc ⟨[.sh (.obj 0), .sh (.int m), .sh (.int way), .sh (.int (1 + mm)), .emp, .emp, .emp, .emp, .emp], std⟩ := hq
    obtain ⟨ns, rfl, hn⟩ := ints_of qa
    rw [rngL_len, List.length_map] at la
    refine ⟨ns, std, ?_, D4, fun z => by rw [z] at la; simp at la; omega, by omega, fun x hx => by have := hn x hx; omega⟩
    apply frt e_law_row
    unfold d_law_row
    repeat cell_call
end Ls
namespace Ls
open PySem PySem.Spec L2
/-- what is no row -/
def badRows : List D := [.non, .int 5, .str "1", .lst [.int 1], .tup [.int 0], .tup [.int 100], .tup [.int (0 - 1)], .tup [.bl true], .tup [.str "1"], .tup [.int 1, .non], tI (List.replicate 61 1), .dct [], .tup [.tup [.int 1]]]
theorem noRow_0 (st : List Ob) : g_is_row_of [.non] st = .ok (.bl false) st := by kernel_rfl
theorem noRow_1 (st : List Ob) : g_is_row_of [.int 5] st = .ok (.bl false) st := by kernel_rfl
theorem noRow_2 (st : List Ob) : g_is_row_of [.str "1"] st = .ok (.bl false) st := by kernel_rfl
theorem noRow_3 (st : List Ob) : g_is_row_of [.lst [.int 1]] st = .ok (.bl false) st := by kernel_rfl
theorem noRow_4 (st : List Ob) : g_is_row_of [.tup [.int 0]] st = .ok (.bl false) st := by kernel_rfl
theorem noRow_5 (st : List Ob) : g_is_row_of [.tup [.int 100]] st = .ok (.bl false) st := by kernel_rfl
theorem noRow_6 (st : List Ob) : g_is_row_of [.tup [.int (0 - 1)]] st = .ok (.bl false) st := by kernel_rfl
theorem noRow_7 (st : List Ob) : g_is_row_of [.tup [.bl true]] st = .ok (.bl false) st := by kernel_rfl
theorem noRow_8 (st : List Ob) : g_is_row_of [.tup [.str "1"]] st = .ok (.bl false) st := by kernel_rfl
theorem noRow_9 (st : List Ob) : g_is_row_of [.tup [.int 1, .non]] st = .ok (.bl false) st := by kernel_rfl
theorem noRow_10 (st : List Ob) : g_is_row_of [tI (List.replicate 61 1)] st = .ok (.bl false) st := by kernel_rfl
theorem noRow_11 (st : List Ob) : g_is_row_of [.dct []] st = .ok (.bl false) st := by kernel_rfl
theorem noRow_12 (st : List Ob) : g_is_row_of [.tup [.tup [.int 1]]] st = .ok (.bl false) st := by kernel_rfl
theorem noRow_ok {d : D} (st : List Ob) (h : d ∈ badRows) : g_is_row_of [d] st = .ok (.bl false) st := by
  unfold badRows at h
  simp only [List.mem_cons, List.not_mem_nil, or_false] at h
  rcases h with rfl | rfl | rfl | rfl | rfl | rfl | rfl | rfl | rfl | rfl | rfl | rfl | rfl
  · exact noRow_0 st
  · exact noRow_1 st
  · exact noRow_2 st
  · exact noRow_3 st
  · exact noRow_4 st
  · exact noRow_5 st
  · exact noRow_6 st
  · exact noRow_7 st
  · exact noRow_8 st
  · exact noRow_9 st
  · exact noRow_10 st
  · exact noRow_11 st
  · exact noRow_12 st
theorem need_row_bad {d : D} {st : List Ob} (h : d ∈ badRows) : g_need_row [d, .str "row"] st = .exc ⟨"BadRow", none, .non⟩ st := by
  have h1 := noRow_ok st h
  apply fex e_need_row
  unfold d_need_row
  repeat cell_call
theorem law_no_row_ok {st : List Ob} (D0 : Drawn st) : ∃ d st2, g_law_no_row [.obj 0] st = .ok d st2 ∧ Drawn st2 ∧ d ∈ badRows := by
  obtain ⟨d, st2, h, D2, hm⟩ := pick_ok (ds := badRows) D0 (by decide) (by decide)
  refine ⟨d, st2, ?_, D2, hm⟩
  have h61 : mulD (.tup [.int 1]) (.int 61) = some (tI (List.replicate 61 1)) := by kernel_rfl
  unfold badRows at h
  apply frt e_law_no_row
  unfold d_law_no_row
  repeat cell_call
end Ls
/-! slices by steps of rows -/
namespace Ls
open PySem PySem.Spec L2
theorem pk2_len {α : Type} (xs : List α) : (pkS 2 xs none none).length ≤ xs.length := by
  unfold pkS
  refine Nat.le_trans (List.length_filterMap_le _ _) ?_
  rw [List.length_range]
  show Builtin.Slice.slicePlaces 0 (xs.length : Int) 2 ≤ _
  unfold Builtin.Slice.slicePlaces
  rw [if_pos (by decide)]
  split <;> omega
theorem pk2_mem {α : Type} {xs : List α} {x : α} (h : x ∈ pkS 2 xs none none) : ∃ m : Nat, xs[2 * m]? = some x := by
  unfold pkS at h
  obtain ⟨m, _, hm⟩ := List.mem_filterMap.mp h
  refine ⟨m, ?_⟩
  have e : ((Builtin.Slice.sliceAdjust none none 2 (xs.length : Int)).1 + (m : Int) * 2).toNat = 2 * m := by
    show ((0 : Int) + (m : Int) * 2).toNat = 2 * m
    omega
  rw [e] at hm
  exact hm
theorem slc2_ok {ds : List D} (h : ds.length ≤ 1000000) : slcD 2 (.tup ds) none none = some (.tup (pkS 2 ds none none)) := by
  show (if (pkS 2 ds none none).length ≤ SZ then some (D.tup (pkS 2 ds none none)) else none) = _
  have := pk2_len ds
  rw [if_pos (by unfold SZ; omega)]
theorem ints_map : ∀ l : List Int, intsL (l.map .int) = some l
  | [] => rfl
  | i :: l => by
    show (intsL (l.map .int)).map (i :: ·) = _
    rw [ints_map l]
    rfl
theorem max_le {l : List Int} {b : Int} (h0 : l ≠ []) (h : ∀ x ∈ l, x ≤ b) : ∃ m, maxL [.lst (l.map .int)] = some (.int m) ∧ m ≤ b := by
  cases l with
  | nil => exact absurd rfl h0
  | cons i r =>
    obtain ⟨m1, _, _⟩ := foldl_max r i
    refine ⟨r.foldl max i, ?_, ?_⟩
    · show (intsL ((i :: r).map .int)).bind _ = _
      rw [ints_map]
      rfl
    · rcases m1 with z | z
      · rw [z]; exact h i (by simp)
      · exact h _ (by simp [z])
end Ls
/-! ages: why they end; plain -/
namespace Ls
/-- how many runs begin -/
def rcL : Option Int → List Int → Nat
  | _, [] => 0
  | o, a :: l => (if o = some a then 0 else 1) + rcL (some a) l
theorem lastW_snoc (o : Option Int) (f : List (Int × Int)) (p : Int × Int) : lastW o (f ++ [p]) = some p.2 := by
  rw [lastW_append]
  rfl
theorem rc_fold : ∀ (l : List Int) (f : List (Int × Int)), (l.foldl runStep f).length = f.length + rcL (lastW none f) l
  | [], f => rfl
  | a :: l, f => by
    rw [List.foldl_cons, rc_fold l]
    by_cases q : lastW none f = some a
    · rcases List.eq_nil_or_concat f with z | ⟨g, ⟨c, m⟩, z⟩
      · rw [z] at q; cases q
      rw [List.concat_eq_append] at z
      subst z
      have : m = a := by rw [lastW_snoc] at q; exact Option.some.inj q
      subst this
      have e : rcL (some m) (m :: l) = rcL (some m) l := by
        show (if some m = some m then 0 else 1) + _ = _
        rw [if_pos rfl, Nat.zero_add]
      rw [runStep_old, lastW_snoc, lastW_snoc, List.length_append, List.length_append, e]
      rfl
    · rw [runStep_new q, lastW_snoc, List.length_append]
      show f.length + 1 + rcL (some a) l = f.length + ((if lastW none f = some a then 0 else 1) + rcL (some a) l)
      rw [if_neg q]
      omega
theorem runs_rc (l : List Int) : (runsL l).length = rcL none l := by
  unfold runsL
  rw [rc_fold]
  exact Nat.zero_add _
/-- each pair adds one run alone -/
def tightP : Option Int → List (Int × Int) → Prop
  | _, [] => True
  | o, p :: ps => (o = some p.1 ∨ p.1 = p.2) ∧ tightP (some p.2) ps
theorem rc_flat : ∀ (o : Option Int) (ps : List (Int × Int)), chainF o ps → ps.length ≤ rcL o (flat2 ps) ∧ (¬ tightP o ps → ps.length + 1 ≤ rcL o (flat2 ps))
  | o, [], _ => ⟨Nat.le_refl _, fun h => absurd trivial h⟩
  | o, (c, w) :: ps, h => by
    obtain ⟨h1, h2⟩ := rc_flat (some w) ps h.2
    have e : rcL o (flat2 ((c, w) :: ps)) = (if o = some c then 0 else 1) + ((if some c = some w then 0 else 1) + rcL (some w) (flat2 ps)) := rfl
    have hw : o ≠ some w := h.1
    rw [e, List.length_cons]
    by_cases q1 : o = some c
    · have q2 : ¬ some c = some w := fun z => hw (q1.trans z)
      rw [if_pos q1, if_neg q2]
      exact ⟨by omega, fun t => by have := h2 fun z => t ⟨.inl q1, z⟩; omega⟩
    · rw [if_neg q1]
      by_cases q2 : some c = some w
      · rw [if_pos q2]
        exact ⟨by omega, fun t => by have := h2 fun z => t ⟨.inr (Option.some.inj q2), z⟩; omega⟩
      · rw [if_neg q2]
        exact ⟨by omega, fun t => by omega⟩
/-- a row that is a day is no longer than its day -/
theorem said_grows {ps : List (Int × Int)} (h : chainF none ps) : (flat2 ps).length ≤ (saidL (flat2 ps)).length ∧ (¬ tightP none ps → (flat2 ps).length + 2 ≤ (saidL (flat2 ps)).length) := by
  obtain ⟨h1, h2⟩ := rc_flat none ps h
  have e : (saidL (flat2 ps)).length = 2 * rcL none (flat2 ps) := by unfold saidL; rw [flat2_len, runs_rc]
  rw [e, flat2_len]
  exact ⟨by omega, fun t => by have := h2 t; omega⟩
theorem runs_uniq {f : List (Int × Int)} {l : List Int} (h : IsRuns f l) : runsL l = f := by
  rw [← h.exp]
  exact runsL_exp h.pos h.chain
theorem chain_some {a : Int} {f : List (Int × Int)} (h : chainF none f) (ha : ∀ p r, f = p :: r → p.2 ≠ a) : chainF (some a) f := by
  cases f with
  | nil => trivial
  | cons p r => exact ⟨fun z => ha p r rfl (Option.some.inj z).symm, h.2⟩
theorem head_runs {l : List Int} {p : Int × Int} {r : List (Int × Int)} (h : runsL l = p :: r) : ∃ t, l = p.2 :: t := by
  have i := isRuns_runs l
  rw [h] at i
  have hp := i.pos p (by simp)
  have e := i.exp
  obtain ⟨k, hk⟩ : ∃ k : Nat, p.1.toNat = k + 1 := ⟨p.1.toNat - 1, by omega⟩
  have e : List.replicate p.1.toNat p.2 ++ expL r = l := e
  rw [hk, List.replicate_succ] at e
  exact ⟨_, e.symm⟩
/-- the first run -/
theorem runs_front {k : Nat} {a : Int} {l : List Int} (hk : 1 ≤ k) (hl : ∀ b t, l = b :: t → b ≠ a) : runsL (List.replicate k a ++ l) = ((k : Int), a) :: runsL l := by
  have i := isRuns_runs l
  refine runs_uniq ⟨?_, ⟨by simp, chain_some i.chain fun p r hp => ?_⟩, fun p hp => ?_⟩
  · show List.replicate (k : Int).toNat a ++ expL (runsL l) = _
    rw [Int.toNat_natCast, i.exp]
  · obtain ⟨t, ht⟩ := head_runs hp
    exact hl _ _ ht
  · rcases List.mem_cons.mp hp with rfl | z
    · show 1 ≤ (k : Int); omega
    · exact i.pos p z
theorem flat2_cons (p : Int × Int) (ps : List (Int × Int)) : flat2 (p :: ps) = p.1 :: p.2 :: flat2 ps := rfl
/-- a run that a what begins has one or two numbers -/
theorem run_what {w : Int} {ps : List (Int × Int)} (h : chainF (some w) ps) : ∃ (k : Int) (t : List (Int × Int)), (k = 1 ∨ k = 2) ∧ runsL (w :: flat2 ps) = (k, w) :: t := by
  cases ps with
  | nil => exact ⟨1, _, .inl rfl, runs_front (k := 1) (a := w) (l := []) (by decide) (by simp)⟩
  | cons p r =>
    obtain ⟨c, v⟩ := p
    have hv : v ≠ w := fun z => h.1 (by rw [z])
    by_cases q : c = w
    · subst q
      exact ⟨2, _, .inr rfl, runs_front (k := 2) (a := c) (l := v :: flat2 r) (by decide) (fun b t e => by cases e; exact hv)⟩
    · exact ⟨1, _, .inl rfl, runs_front (k := 1) (a := w) (l := c :: v :: flat2 r) (by decide) (fun b t e => by cases e; exact q)⟩
/-- among four days one is longer than the day before it -/
theorem not_all_tight {ps : List (Int × Int)} (h : chainF none ps) (h0 : ps ≠ []) (h1 : ps ≠ [(2, 2)]) (t0 : tightP none ps) (t1 : tightP none (runsL (flat2 ps))) (t2 : tightP none (runsL (flat2 (runsL (flat2 ps))))) (t3 : tightP none (runsL (flat2 (runsL (flat2 (runsL (flat2 ps))))))) : False := by
  have hd : ∀ {k : Int} {a : Int} {r : List (Int × Int)}, tightP none ((k, a) :: r) → k = a := fun t => by
    rcases t.1 with z | z
    · cases z
    · exact z
  match ps, h, h0, h1, t0 with
  | (a', a) :: rest, h, _, h1, t0 =>
    have e0 : a' = a := hd t0
    subst e0
    cases rest with
    | nil =>
      have e1 : runsL (flat2 [(a', a')]) = [(2, a')] := runs_front (k := 2) (a := a') (l := []) (by decide) (by simp)
      rw [e1] at t1
      have := hd t1
      subst this
      exact h1 rfl
    | cons p rest2 =>
      obtain ⟨c, w⟩ := p
      have hw : w ≠ a' := fun z => h.2.1 (by rw [z])
      have hch : chainF (some w) rest2 := h.2.2
      by_cases hca : c = a'
      · -- three at the front
        subst hca
        have e1 : runsL (flat2 ((c, c) :: (c, w) :: rest2)) = (3, c) :: runsL (w :: flat2 rest2) := runs_front (k := 3) (a := c) (l := w :: flat2 rest2) (by decide) (fun b t e => by cases e; exact hw)
        rw [e1] at t1 t2
        have := hd t1
        subst this
        obtain ⟨k, t, hk, e2⟩ := run_what hch
        rw [e2] at t2
        have e3 : runsL (flat2 ((3, 3) :: (k, w) :: t)) = (2, 3) :: runsL (k :: w :: flat2 t) := runs_front (k := 2) (a := 3) (l := k :: w :: flat2 t) (by decide) (fun b t e => by cases e; omega)
        rw [e3] at t2
        have := hd t2
        omega
      · have hcw : c = w := by
          rcases t0.2.1 with z | z
          · exact absurd (Option.some.inj z).symm hca
          · exact z
        subst hcw
        have e1 : runsL (flat2 ((a', a') :: (c, c) :: rest2)) = (2, a') :: runsL (c :: c :: flat2 rest2) := runs_front (k := 2) (a := a') (l := c :: c :: flat2 rest2) (by decide) (fun b t e => by cases e; exact hw)
        rw [e1] at t1 t2 t3
        have := hd t1
        subst this
        -- the second run
        have run2 : (∃ t, runsL (c :: c :: flat2 rest2) = (2, c) :: t) ∨ (∃ w' r3, rest2 = (c, w') :: r3 ∧ w' ≠ c ∧ runsL (c :: c :: flat2 rest2) = (3, c) :: runsL (w' :: flat2 r3)) := by
          cases rest2 with
          | nil => exact .inl ⟨_, runs_front (k := 2) (a := c) (l := []) (by decide) (by simp)⟩
          | cons p r3 =>
            obtain ⟨c', w'⟩ := p
            have hw' : w' ≠ c := fun z => hch.1 (by rw [z])
            by_cases q : c' = c
            · subst q
              exact .inr ⟨w', r3, rfl, hw', runs_front (k := 3) (a := c') (l := w' :: flat2 r3) (by decide) (fun b t e => by cases e; exact hw')⟩
            · exact .inl ⟨_, runs_front (k := 2) (a := c) (l := c' :: w' :: flat2 r3) (by decide) (fun b t e => by cases e; exact q)⟩
        rcases run2 with ⟨t, e2⟩ | ⟨w', r3, e4, hw', e2⟩
        · rw [e2] at t2
          have e3 : runsL (flat2 ((2, 2) :: (2, c) :: t)) = (3, 2) :: runsL (c :: flat2 t) := runs_front (k := 3) (a := 2) (l := c :: flat2 t) (by decide) (fun b t e => by cases e; exact hw)
          rw [e3] at t2
          have := hd t2
          omega
        · rw [e2] at t1 t2 t3
          have h3 : (3 : Int) = c := by
            rcases t1.2.1 with z | z
            · exact absurd (Option.some.inj z) (by show ¬ (2 : Int) = 3; decide)
            · exact z
          subst h3
          rw [e4] at hch
          obtain ⟨k, t, hk, e5⟩ := run_what hch.2
          rw [e5] at t2 t3
          have e6 : runsL (flat2 ((2, 2) :: (3, 3) :: (k, w') :: t)) = (2, 2) :: runsL (3 :: 3 :: k :: w' :: flat2 t) := runs_front (k := 2) (a := 2) (l := 3 :: 3 :: k :: w' :: flat2 t) (by decide) (fun b t e => by cases e; decide)
          have e7 : runsL (3 :: 3 :: k :: w' :: flat2 t) = (2, 3) :: runsL (k :: w' :: flat2 t) := runs_front (k := 2) (a := 3) (l := k :: w' :: flat2 t) (by decide) (fun b t e => by cases e; omega)
          rw [e6, e7] at t3
          have e8 : runsL (flat2 ((2, 2) :: (2, 3) :: runsL (k :: w' :: flat2 t))) = (3, 2) :: runsL (3 :: flat2 (runsL (k :: w' :: flat2 t))) := runs_front (k := 3) (a := 2) (l := 3 :: flat2 (runsL (k :: w' :: flat2 t))) (by decide) (fun b t e => by cases e; decide)
          rw [e8] at t3
          have := hd t3
          omega
/-- said is a day -/
theorem saidL_flat (l : List Int) : saidL l = flat2 (runsL l) := rfl
theorem four_days {ps : List (Int × Int)} (h : chainF none ps) (h0 : ps ≠ []) (h1 : ps ≠ [(2, 2)]) : (flat2 ps).length + 2 ≤ (dayL (flat2 ps) 4).length := by
  have c1 := (isRuns_runs (flat2 ps)).chain
  have c2 := (isRuns_runs (flat2 (runsL (flat2 ps)))).chain
  have c3 := (isRuns_runs (flat2 (runsL (flat2 (runsL (flat2 ps)))))).chain
  obtain ⟨a1, a2⟩ := said_grows h
  obtain ⟨b1, b2⟩ := said_grows c1
  obtain ⟨d1, d2⟩ := said_grows c2
  obtain ⟨f1, f2⟩ := said_grows c3
  show _ ≤ (saidL (saidL (saidL (saidL (flat2 ps))))).length
  rw [saidL_flat (flat2 ps), saidL_flat (flat2 (runsL (flat2 ps))), saidL_flat (flat2 (runsL (flat2 (runsL (flat2 ps)))))]
  rw [saidL_flat (flat2 ps)] at a1 a2
  rw [saidL_flat (flat2 (runsL (flat2 ps)))] at b1 b2
  rw [saidL_flat (flat2 (runsL (flat2 (runsL (flat2 ps)))))] at d1 d2
  by_cases t0 : tightP none ps
  · by_cases t1 : tightP none (runsL (flat2 ps))
    · by_cases t2 : tightP none (runsL (flat2 (runsL (flat2 ps))))
      · have t3 := f2 fun t3 => not_all_tight h h0 h1 t0 t1 t2 t3
        omega
      · have := d2 t2
        omega
    · have := b2 t1
      omega
  · have := a2 t0
    omega
/-- the n-th elder -/
def ancL : Nat → List Int → Option (List Int)
  | 0, r => some r
  | n + 1, r => (elderO r).bind (ancL n)
theorem elder_day {r e : List Int} (hn : Nums r) (h : elderO r = some e) : saidL e = r := by
  rcases elder_cases r with ⟨h1, _, h3, h4⟩ | ⟨h1, _⟩
  · rw [h1] at h
    cases h
    exact said_elder hn h3 h4
  · rw [h1] at h
    cases h
theorem elder_nums {r e : List Int} (hn : Nums r) (hl : r.length ≤ 60) (h : elderO r = some e) : Nums e ∧ e.length ≤ 2970 := by
  rcases elder_cases r with ⟨h1, _, h3, h4⟩ | ⟨h1, _⟩
  · rw [h1] at h
    cases h
    have le : (expL (pairsL r)).length ≤ 99 * (pairsL r).length := expL_len fun p hp => by have := pairs_num hn p hp; omega
    have lp := pairs_len r
    refine ⟨⟨by omega, fun x hx => ?_⟩, by omega⟩
    have key : ∀ ps : List (Int × Int), (∀ p ∈ ps, 1 ≤ p.2 ∧ p.2 ≤ 99) → x ∈ expL ps → 1 ≤ x ∧ x ≤ 99 := fun ps => by
      induction ps with
      | nil => intro _ z; cases z
      | cons p ps ih =>
        intro hp z
        rcases List.mem_append.mp (show x ∈ List.replicate p.1.toNat p.2 ++ expL ps from z) with z | z
        · rw [(List.mem_replicate.mp z).2]; exact hp p (by simp)
        · exact ih (fun q hq => hp q (by simp [hq])) z
    refine key _ (fun p hp => ?_) hx
    obtain ⟨i, hi⟩ := List.mem_iff_getElem?.mp hp
    exact hn.num _ (List.mem_of_getElem? (pairs_get r i p hi).2)
  · rw [h1] at h
    cases h
/-- rows along which elders are told -/
structure GoodR (r : List Int) : Prop where
  nums : Nums r
  short : elderO r ≠ none → r.length ≤ 60
theorem good_elder {r e : List Int} (g : GoodR r) (h : elderO r = some e) : GoodR e := by
  have hl := g.short (by rw [h]; nofun)
  obtain ⟨n1, n2⟩ := elder_nums g.nums hl h
  refine ⟨n1, fun q => ?_⟩
  rcases elder_cases e with ⟨h1, _, h3, h4⟩ | ⟨h1, _⟩
  · have := (said_grows h4).1
    rw [flat2_pairs _ h3, elder_day g.nums h] at this
    omega
  · exact absurd h1 q
theorem dayL_add (r : List Int) (m : Nat) : ∀ n, dayL r (m + n) = dayL (dayL r m) n
  | 0 => rfl
  | n + 1 => by
    show saidL (dayL r (m + n)) = saidL (dayL (dayL r m) n)
    rw [dayL_add r m n]
theorem dayL_succ' (r : List Int) : ∀ n, dayL r (n + 1) = dayL (saidL r) n
  | n => by
    rw [Nat.add_comm, dayL_add r 1 n]
    rfl
theorem anc_day : ∀ (n : Nat) (r x : List Int), GoodR r → ancL n r = some x → dayL x n = r ∧ GoodR x
  | 0, r, x, g, h => by cases h; exact ⟨rfl, g⟩
  | n + 1, r, x, g, h => by
    cases q : elderO r with
    | none => simp [ancL, q] at h
    | some e =>
      have h : ancL n e = some x := by simpa [ancL, q] using h
      obtain ⟨h1, h2⟩ := anc_day n e x (good_elder g q) h
      exact ⟨by show saidL (dayL x n) = r; rw [h1]; exact elder_day g.nums q, h2⟩
theorem anc_add : ∀ (m n : Nat) (r : List Int), ancL (m + n) r = (ancL m r).bind (ancL n)
  | 0, n, r => by rw [Nat.zero_add]; rfl
  | m + 1, n, r => by
    rw [show m + 1 + n = (m + n) + 1 by omega]
    show (elderO r).bind (ancL (m + n)) = ((elderO r).bind (ancL m)).bind (ancL n)
    cases elderO r with
    | none => rfl
    | some e => exact anc_add m n e
/-- a day is no row that stays as it is, but of such -/
theorem said_22 {l : List Int} (h : saidL l = [2, 2]) : l = [2, 2] := by
  have h2 := elder_said l
  rw [h] at h2
  exact (Option.some.inj h2).symm.trans rfl |>.symm ▸ rfl
theorem said_nil {l : List Int} (h : saidL l = []) : l = [] := by
  have h2 := elder_said l
  rw [h] at h2
  exact (Option.some.inj h2).symm
theorem grow_days : ∀ (m : Nat) (l : List Int), l ≠ [] → l ≠ [2, 2] → (saidL l).length + 2 * m ≤ (dayL (saidL l) (4 * m)).length
  | 0, l, _, _ => Nat.le_refl _
  | m + 1, l, h0, h1 => by
    have c := (isRuns_runs l).chain
    have n0 : runsL l ≠ [] := fun z => h0 (said_nil (by unfold saidL; rw [z]; rfl))
    have n1 : runsL l ≠ [(2, 2)] := fun z => h1 (said_22 (by unfold saidL; rw [z]; rfl))
    have g := four_days c n0 n1
    have q0 : ∀ k, dayL l k ≠ [] := fun k => by
      induction k with
      | zero => exact h0
      | succ k ih => exact fun z => ih (said_nil z)
    have q1 : ∀ k, dayL l k ≠ [2, 2] := fun k => by
      induction k with
      | zero => exact h1
      | succ k ih => exact fun z => ih (said_22 z)
    have ih := grow_days m (dayL l 4) (q0 4) (q1 4)
    have e1 : saidL (dayL l 4) = dayL (saidL l) 4 := by rw [← dayL_succ']; rfl
    rw [e1] at ih
    rw [show 4 * (m + 1) = 4 + 4 * m by omega, dayL_add]
    have g : (saidL l).length + 2 ≤ (dayL (saidL l) 4).length := g
    omega
/-- elders end -/
theorem anc_none {r : List Int} (g : GoodR r) (h0 : r ≠ []) (h1 : r ≠ [2, 2]) (hl : r.length ≤ 60) : ancL 121 r = none := by
  cases q : ancL 121 r with
  | none => rfl
  | some x =>
    obtain ⟨hd, _⟩ := anc_day 121 r x g q
    rw [dayL_succ'] at hd
    have x0 : x ≠ [] := fun z => h0 (by
      rw [← hd, z]
      have : ∀ k, dayL ([] : List Int) k = [] := fun k => by
        induction k with
        | zero => rfl
        | succ k ih => show saidL (dayL [] k) = []; rw [ih]; rfl
      exact this 120)
    have x1 : x ≠ [2, 2] := fun z => h1 (by
      rw [← hd, z]
      have : ∀ k, dayL ([2, 2] : List Int) k = [2, 2] := fun k => by
        induction k with
        | zero => rfl
        | succ k ih => show saidL (dayL [2, 2] k) = [2, 2]; rw [ih]; decide
      exact this 120)
    have := grow_days 30 x x0 x1
    rw [show 4 * 30 = 120 by decide, hd] at this
    have := said_pos x0
    omega
/-- the elders, as far as n -/
def eldsL : Nat → List Int → List (List Int)
  | 0, _ => []
  | n + 1, r => match elderO r with
    | none => []
    | some e => e :: eldsL n e
theorem elds_some {n : Nat} {r e : List Int} (h : elderO r = some e) : eldsL (n + 1) r = e :: eldsL n e := by
  show (match elderO r with
    | none => []
    | some e => e :: eldsL n e) = _
  rw [h]
theorem elds_none {n : Nat} {r : List Int} (h : elderO r = none) : eldsL (n + 1) r = [] := by
  show (match elderO r with
    | none => []
    | some e => e :: eldsL n e) = _
  rw [h]
theorem anc_some {n : Nat} {r e : List Int} (h : elderO r = some e) : ancL (n + 1) r = ancL n e := by
  show (elderO r).bind (ancL n) = _
  rw [h]
  rfl
theorem elds_len : ∀ (n : Nat) (r : List Int), (eldsL n r).length ≤ n
  | 0, _ => Nat.le_refl _
  | n + 1, r => by
    unfold eldsL
    cases elderO r with
    | none => exact Nat.zero_le _
    | some e => show (eldsL n e).length + 1 ≤ n + 1; have := elds_len n e; omega
theorem elds_good : ∀ (n : Nat) (r : List Int), GoodR r → ∀ e ∈ eldsL n r, GoodR e ∧ e.length ≤ 2970
  | 0, _, _, e, h => by cases h
  | n + 1, r, g, e, h => by
    unfold eldsL at h
    cases q : elderO r with
    | none => rw [q] at h; cases h
    | some x =>
      rw [q] at h
      rcases List.mem_cons.mp h with z | z
      · rw [z]
        exact ⟨good_elder g q, (elder_nums g.nums (g.short (by rw [q]; nofun)) q).2⟩
      · exact elds_good n x (good_elder g q) e z
/-- no four alike -/
theorem no_four : ∀ (ps : List (Int × Int)) (o : Option Int) (u v : List Int) (a : Int), chainF o ps → flat2 ps ≠ u ++ a :: a :: a :: a :: v
  | [], _, u, v, a, _, h => by cases u <;> simp [flat2] at h
  | [p], _, u, v, a, _, h => by
    have := congrArg List.length h
    simp [flat2] at this
    omega
  | p :: q :: r, o, [], v, a, hc, h => by
    simp [flat2] at h
    exact hc.2.1 (by rw [h.2.1, h.2.2.2.1])
  | p :: q :: r, o, [x], v, a, hc, h => by
    simp [flat2] at h
    exact hc.2.1 (by rw [h.2.1, h.2.2.2.1])
  | p :: q :: r, o, x :: y :: u, v, a, hc, h => by
    have h : p.1 :: p.2 :: flat2 (q :: r) = x :: y :: (u ++ a :: a :: a :: a :: v) := h
    injection h with _ h
    injection h with _ h
    exact no_four (q :: r) _ u v a hc.2 h
theorem run_infix : ∀ (ps : List (Int × Int)) (p : Int × Int), p ∈ ps → ∃ u v, expL ps = u ++ (List.replicate p.1.toNat p.2 ++ v)
  | [], p, h => by cases h
  | q :: ps, p, h => by
    rcases List.mem_cons.mp h with z | z
    · exact ⟨[], expL ps, by rw [z]; rfl⟩
    · obtain ⟨u, v, e⟩ := run_infix ps p z
      exact ⟨List.replicate q.1.toNat q.2 ++ u, v, by show List.replicate q.1.toNat q.2 ++ expL ps = _; rw [e, List.append_assoc]⟩
theorem runs_three {l : List Int} : ∀ p ∈ runsL (saidL l), p.1 ≤ 3 := by
  intro p hp
  by_cases q : p.1 ≤ 3
  · exact q
  have i := isRuns_runs (saidL l)
  obtain ⟨u, v, e⟩ := run_infix _ p hp
  rw [i.exp] at e
  obtain ⟨k, hk⟩ : ∃ k : Nat, p.1.toNat = k + 1 + 1 + 1 + 1 := ⟨p.1.toNat - 4, by omega⟩
  rw [hk, List.replicate_succ, List.replicate_succ, List.replicate_succ, List.replicate_succ] at e
  exact absurd e (no_four _ none u (List.replicate k p.2 ++ v) p.2 (isRuns_runs l).chain)
/-- elders end, somewhere -/
theorem anc_end {r : List Int} (h : Nums r) (h0 : r ≠ []) (h1 : r ≠ [2, 2]) (hl : r.length ≤ 60) : ∃ n, n ≤ 120 ∧ ancL (n + 1) r = none := ⟨120, Nat.le_refl _, anc_none ⟨h, fun _ => hl⟩ h0 h1 hl⟩
/-- rows whose elders have elders -/
theorem two_elders {r : List Int} {n : Nat} (g : GoodR r) (hz : 1 < (eldsL (n + 1) r).length) : (∀ p ∈ runsL r, p.1 ≤ 3) ∧ ∀ m x, r[2 * m]? = some x → x ≤ 3 := by
  cases q1 : elderO r with
  | none => rw [elds_none q1] at hz; simp at hz
  | some e1 =>
    rw [elds_some q1, List.length_cons] at hz
    cases n with
    | zero => simp [eldsL] at hz
    | succ n =>
      cases q2 : elderO e1 with
      | none => rw [elds_none q2] at hz; simp at hz
      | some e2 =>
        have d1 := elder_day g.nums q1
        have d2 := elder_day (good_elder g q1).nums q2
        refine ⟨fun p hp => runs_three p (by rw [d1]; exact hp), fun m x hx => ?_⟩
        have fr : r = flat2 (runsL e1) := d1.symm
        have t := fun p hp => runs_three (l := e2) p (by rw [d2]; exact hp)
        have hm : m < (runsL e1).length := by
          have := (List.getElem?_eq_some_iff.mp hx).1
          rw [fr, flat2_len] at this
          omega
        have g := (flat2_get (runsL e1) m _ (List.getElem?_eq_getElem hm)).1
        rw [← fr, hx] at g
        rw [Option.some.inj g]
        exact t _ (List.getElem_mem hm)
end Ls
namespace Ls
open PySem PySem.Spec L2
theorem eqvAll_ints : ∀ a b : List Int, PyData.eqvAll (toPyL (a.map .int)) (toPyL (b.map .int)) = decide (a = b)
  | [], [] => rfl
  | [], y :: b => by rw [decide_eq_false (by simp)]; rfl
  | x :: a, [] => by rw [decide_eq_false (by simp)]; rfl
  | x :: a, y :: b => by
    show (PyData.eqv (toPy (.int x)) (toPy (.int y)) && PyData.eqvAll (toPyL (a.map .int)) (toPyL (b.map .int))) = _
    rw [eqvAll_ints a b]
    show ((x == y) && decide (a = b)) = _
    by_cases h : x = y
    · by_cases h2 : a = b
      · rw [decide_eq_true h2, h, beq_self_eq_true, decide_eq_true (by rw [h2])]
        rfl
      · rw [decide_eq_false h2, Bool.and_false, decide_eq_false (fun q => h2 (List.cons.inj q).2)]
    · rw [beq_eq_false_iff_ne.mpr h, Bool.false_and, decide_eq_false (fun q => h (List.cons.inj q).1)]
theorem deq_tI (a b : List Int) : deq (tI a) (tI b) = decide (a = b) := eqvAll_ints a b
theorem deq_lI (a b : List Int) : deq (.lst (a.map .int)) (.lst (b.map .int)) = decide (a = b) := eqvAll_ints a b
theorem eq_tI (a b : List Int) : eqD (tI a) (tI b) = some (.bl (decide (a = b))) := by rw [eqP_ev (plain_tI a) (plain_tI b), deq_tI]
theorem ne_tI (a b : List Int) : neD (tI a) (tI b) = some (.bl (!decide (a = b))) := by rw [neP_ev (plain_tI a) (plain_tI b), deq_tI]
/-- the law's own elders -/
theorem law_elders_loop {st : List Ob} {s0 : Sl} : ∀ (n : Nat) (r : List Int) (found : List D), GoodR r → ancL (n + 1) r = none → found.length + n ≤ 1000 →
    mWhile c_law_elders_1 l_law_elders_1 ⟨[s0, .own found, .sh (oT (elderO r))], st⟩ = .nx ⟨[s0, .own (found ++ (eldsL (n + 1) r).map tI), .sh .non], st⟩ := by
  intro n
  induction n with
  | zero =>
    intro r found g h hz
    cases q : elderO r with
    | some e => simp [ancL, q] at h
    | none =>
      have e1 : eldsL 1 r = [] := by simp [eldsL, q]
      rw [e1, List.map_nil, List.append_nil]
      exact mWhile_stop (by unfold c_law_elders_1; show M.bind _ asB ⟨[s0, .own found, .sh .non], st⟩ = _; repeat cell_call)
  | succ n ih =>
    intro r found g h hz
    cases q : elderO r with
    | none =>
      have e1 : eldsL (n + 1 + 1) r = [] := by simp [eldsL, q]
      rw [e1, List.map_nil, List.append_nil]
      exact mWhile_stop (by unfold c_law_elders_1; show M.bind _ asB ⟨[s0, .own found, .sh .non], st⟩ = _; repeat cell_call)
    | some e =>
      have e1 : eldsL (n + 1 + 1) r = e :: eldsL (n + 1) e := by simp [eldsL, q]
      have h2 : ancL (n + 1) e = none := by simpa [ancL, q] using h
      have ge := good_elder g q
      have hz2 : found.length < SZ := by unfold SZ; omega
      have he := law_elder_ok (st := st) ge.nums
      have := ih e (found ++ [tI e]) ge h2 (by rw [List.length_append, List.length_singleton]; omega)
      rw [e1, show found ++ (e :: eldsL (n + 1) e).map tI = (found ++ [tI e]) ++ (eldsL (n + 1) e).map tI by rw [List.map_cons, List.append_assoc]; rfl]
      refine mWhile_step (s1 := ⟨[s0, .own found, .sh (tI e)], st⟩) ?_ ?_ this (by nofun)
      · unfold c_law_elders_1
        show M.bind _ asB ⟨[s0, .own found, .sh (tI e)], st⟩ = _
        have b : isNotD (tI e) .non = some (.bl true) := rfl
        repeat cell_call
      · unfold l_law_elders_1
        repeat cell_call
theorem law_elders_ok {r : List Int} {st : List Ob} {n : Nat} (g : GoodR r) (h : ancL (n + 1) r = none) (hn : n ≤ 1000) : g_law_elders [tI r] st = .ok (.lst ((eldsL (n + 1) r).map tI)) st := by
  have h1 := law_elder_ok (st := st) g.nums
  have h2 := law_elders_loop (st := st) (s0 := .sh (tI r)) n r [] g h (by simpa using hn)
  rw [List.nil_append] at h2
  apply frt e_law_elders
  unfold d_law_elders
  repeat cell_call
/-- the program's elders -/
theorem elders_loop {st : List Ob} {s0 : Sl} : ∀ (n : Nat) (r : List Int) (found : List D), GoodR r → ancL (n + 1) r = none → found.length + n ≤ 1000 →
    mWhile c_elders_by_1 l_elders_by_1 ⟨[s0, .own found, .sh (oT (elderO r))], st⟩ = .nx ⟨[s0, .own (found ++ (eldsL (n + 1) r).map tI), .sh .non], st⟩ := by
  intro n
  induction n with
  | zero =>
    intro r found g h hz
    cases q : elderO r with
    | some e => simp [ancL, q] at h
    | none =>
      have e1 : eldsL 1 r = [] := by simp [eldsL, q]
      rw [e1, List.map_nil, List.append_nil]
      exact mWhile_stop (by unfold c_elders_by_1; show M.bind _ asB ⟨[s0, .own found, .sh .non], st⟩ = _; repeat cell_call)
  | succ n ih =>
    intro r found g h hz
    cases q : elderO r with
    | none =>
      have e1 : eldsL (n + 1 + 1) r = [] := by simp [eldsL, q]
      rw [e1, List.map_nil, List.append_nil]
      exact mWhile_stop (by unfold c_elders_by_1; show M.bind _ asB ⟨[s0, .own found, .sh .non], st⟩ = _; repeat cell_call)
    | some e =>
      have e1 : eldsL (n + 1 + 1) r = e :: eldsL (n + 1) e := by simp [eldsL, q]
      have h2 : ancL (n + 1) e = none := by simpa [ancL, q] using h
      have ge := good_elder g q
      have hz2 : found.length < SZ := by unfold SZ; omega
      have he := elder_by_ok (st := st) ge.nums
      have := ih e (found ++ [tI e]) ge h2 (by rw [List.length_append, List.length_singleton]; omega)
      rw [e1, show found ++ (e :: eldsL (n + 1) e).map tI = (found ++ [tI e]) ++ (eldsL (n + 1) e).map tI by rw [List.map_cons, List.append_assoc]; rfl]
      refine mWhile_step (s1 := ⟨[s0, .own found, .sh (tI e)], st⟩) ?_ ?_ this (by nofun)
      · unfold c_elders_by_1
        show M.bind _ asB ⟨[s0, .own found, .sh (tI e)], st⟩ = _
        have b : isNotD (tI e) .non = some (.bl true) := rfl
        repeat cell_call
      · unfold l_elders_by_1
        repeat cell_call
theorem elders_by_ok {r : List Int} {st : List Ob} {n : Nat} (g : GoodR r) (h : ancL (n + 1) r = none) (hn : n ≤ 1000) : g_elders_by [tI r] st = .ok (.lst ((eldsL (n + 1) r).map tI)) st := by
  have h1 := elder_by_ok (st := st) g.nums
  have h2 := elders_loop (st := st) (s0 := .sh (tI r)) n r [] g h (by simpa using hn)
  rw [List.nil_append] at h2
  apply frt e_elders_by
  unfold d_elders_by
  repeat cell_call
theorem still_in (r : List Int) : inD (tI r) (.tup [.tup [], .tup [.int 2, .int 2]]) = some (.bl (decide (r = []) || decide (r = [2, 2]))) := by
  show (if (plain (tI r) && plain (.tup [.tup [], .tup [.int 2, .int 2]])) = true then some (D.bl (deq (tI []) (tI r) || (deq (tI [2, 2]) (tI r) || false))) else none) = _
  rw [plain_tI, if_pos (by decide), deq_tI, deq_tI, Bool.or_false]
  simp only [eq_comm]
end Ls
namespace Ls
open PySem PySem.Spec L2
theorem RowD.ok {m : Int} {ns : List Int} (h : RowD m ns) (hm : m ≤ 60) : RowOk ns := ⟨by have := h.len; omega, h.num⟩
theorem RowOk.good {ns : List Int} (h : RowOk ns) : GoodR ns := ⟨h.nums, fun _ => h.len⟩
/-- the number of elders -/
theorem age_ok {r : List Int} {st : List Ob} {n : Nat} (h : RowOk r) (h0 : r ≠ []) (h1 : r ≠ [2, 2]) (ha : ancL (n + 1) r = none) (hn : n ≤ 1000) : g_age [tI r] st = .ok (.int (((eldsL (n + 1) r).map tI).length : Int)) st := by
  have a1 := need_row_ok (w := .str "row") (st := st) h
  have a2 := elders_by_ok (st := st) h.good ha hn
  have a3 := still_in r
  rw [decide_eq_false h0, decide_eq_false h1, Bool.or_self] at a3
  have a4 : g_age_by [tI r] st = .ok (.int (((eldsL (n + 1) r).map tI).length : Int)) st := by
    apply frt e_age_by
    unfold d_age_by
    repeat cell_call
  apply frt e_age
  unfold d_age
  repeat cell_call
theorem elders_ok {r : List Int} {st : List Ob} {n : Nat} (h : RowOk r) (h0 : r ≠ []) (h1 : r ≠ [2, 2]) (ha : ancL (n + 1) r = none) (hn : n ≤ 1000) : g_elders [tI r] st = .ok (.tup ((eldsL (n + 1) r).map tI)) st := by
  have a1 := need_row_ok (w := .str "row") (st := st) h
  have a2 := elders_by_ok (st := st) h.good ha hn
  have a3 := still_in r
  rw [decide_eq_false h0, decide_eq_false h1, Bool.or_self] at a3
  apply frt e_elders
  unfold d_elders
  repeat cell_call
theorem dszL_tI : ∀ ls : List (List Int), (∀ l ∈ ls, l.length ≤ 2970) → dszL (ls.map tI) ≤ 2971 * ls.length
  | [], _ => Nat.le_refl _
  | l :: ls, h => by
    have h1 := h l (by simp)
    have h2 := dszL_tI ls fun x hx => h x (by simp [hx])
    show dsz (tI l) + dszL (ls.map tI) ≤ _
    rw [dsz_tI, List.length_cons]
    omega
theorem says_e {E : List D} {n : Int} {st : List Ob} (hp : E.all (plainN 56) = true) (hs : dszL E ≤ 1000000) : g_law_says [.lst [.tup E, .tup E, .int n, .int n], .lst [.tup E, .tup E, .int n, .int n]] st = .ok (.bl true) st := by
  refine says_ok ?_ ?_
  · show (E.all (plainN 56) && (E.all (plainN 56) && (true && (true && true)))) = true
    rw [hp]
    rfl
  · show 1 + ((1 + dszL E) + ((1 + dszL E) + (1 + (1 + 0)))) ≤ _
    omega
/-- one row of the law -/
theorem right_turn {r : List Int} {st : List Ob} {s1 s3 c6 c7 : Sl} (h : RowOk r) (h0 : r ≠ []) : ∃ e6 e7, (l_law_right_1 ⟨[.sh (.obj 0), s1, .emp, s3, .emp, .sh (tI r), c6, c7, .emp, .emp, .emp, .emp, .emp], st⟩ = .nx ⟨[.sh (.obj 0), s1, .emp, s3, .emp, .sh (tI r), e6, e7, .emp, .emp, .emp, .emp, .emp], st⟩ ∨
    l_law_right_1 ⟨[.sh (.obj 0), s1, .emp, s3, .emp, .sh (tI r), c6, c7, .emp, .emp, .emp, .emp, .emp], st⟩ = .ct ⟨[.sh (.obj 0), s1, .emp, s3, .emp, .sh (tI r), e6, e7, .emp, .emp, .emp, .emp, .emp], st⟩) := by
  have q22 : eqD (tI r) (.tup [.int 2, .int 2]) = some (.bl (decide (r = [2, 2]))) := eq_tI r [2, 2]
  by_cases h1 : r = [2, 2]
  · rw [decide_eq_true h1] at q22
    refine ⟨c6, c7, .inr ?_⟩
    unfold l_law_right_1
    repeat cell_call
  rw [decide_eq_false h1] at q22
  obtain ⟨n, n1, an⟩ := anc_end h.nums h0 h1 h.len
  obtain ⟨E, hE⟩ : ∃ E, (eldsL (n + 1) r).map tI = E := ⟨_, rfl⟩
  have b1 := law_elders_ok (st := st) h.good an (by omega)
  have b2 := elders_ok (st := st) h h0 h1 an (by omega)
  have b3 := age_ok (st := st) h h0 h1 an (by omega)
  rw [hE] at b1 b2 b3
  have gl := elds_good (n + 1) r h.good
  have ll := elds_len (n + 1) r
  have El : E.length = (eldsL (n + 1) r).length := by rw [← hE, List.length_map]
  have b4 : g_law_says [.lst [.tup E, .tup E, .int (E.length : Int), .int (E.length : Int)], .lst [.tup E, .tup E, .int (E.length : Int), .int (E.length : Int)]] st = .ok (.bl true) st := by
    refine says_e ?_ ?_
    · rw [← hE, List.all_eq_true]
      intro d hd
      obtain ⟨l, _, rfl⟩ := List.mem_map.mp hd
      exact plainN_tI l 55
    · rw [← hE]
      have := dszL_tI (eldsL (n + 1) r) fun l hl => (gl l hl).2
      omega
  have rl := h.len
  have sl := said_len r
  have hs := law_said_ok (ns := r) (st := st) (by omega)
  obtain ⟨late, hlate⟩ : ∃ late, saidL r = late := ⟨_, rfl⟩
  have hll : (late.map D.int).length = late.length := List.length_map ..
  rw [hlate] at hs
  -- the day's age
  have c2 : late.length ≤ 60 → g_age [tI late] st = .ok (.int ((E.length : Int) + 1)) st := fun hz => by
    have ro : RowOk late := ⟨hz, by rw [← hlate]; exact said_row h.num h.len⟩
    have l0 : late ≠ [] := fun z => h0 (said_nil (hlate.trans z))
    have l1 : late ≠ [2, 2] := fun z => h1 (said_22 (hlate.trans z))
    have el : elderO late = some r := by rw [← hlate]; exact elder_said r
    have an2 : ancL (n + 1 + 1) late = none := by rw [anc_some el]; exact an
    have := age_ok (st := st) ro l0 l1 an2 (by omega)
    have e : eldsL (n + 1 + 1) late = r :: eldsL (n + 1) r := elds_some el
    rw [e, List.map_cons, hE] at this
    rw [this]
    rfl
  -- runs and numbers of rows that have elders of elders
  have runs := law_runs_ok (ns := r) (st := st) (by omega)
  have c3 : 1 < E.length → (∀ p ∈ runsL r, p.1 ≤ 3) ∧ ∀ m x, r[2 * m]? = some x → x ≤ 3 := fun hz => two_elders h.good (by rw [El] at hz; exact hz)
  have hq4 : q_law_right_4 ⟨[.sh (.obj 0), s1, .emp, s3, .emp, .sh (tI r), .sh (.lst E), .sh (tI late), .emp, .emp, .emp, .emp, .emp], st⟩ = .ok (((runsL r).map (·.1)).map .int) ⟨[.sh (.obj 0), s1, .emp, s3, .emp, .sh (tI r), .sh (.lst E), .sh (tI late), .emp, .emp, .emp, .emp, .emp], st⟩ := by
    have key : q_law_right_4 ⟨[.sh (.obj 0), s1, .emp, s3, .emp, .sh (tI r), .sh (.lst E), .sh (tI late), .emp, .emp, .emp, .emp, .emp], st⟩ = .ok ((runD (runsL r)).map fun d => match d with
        | .tup (a :: _) => a
        | _ => .non) ⟨[.sh (.obj 0), s1, .emp, s3, .emp, .sh (tI r), .sh (.lst E), .sh (tI late), .emp, .emp, .emp, .emp, .emp], st⟩ := by
      unfold q_law_right_4
      refine lc_all (e0 := [.sh (.obj 0), s1, .emp, s3, .emp, .sh (tI r), .sh (.lst E), .sh (tI late), .emp, .emp, .emp, .emp, .emp]) _ (by repeat cell_call) rfl rfl (fun d hd => ?_) (by have := runs_len r; unfold runD SZ; rw [List.length_map]; omega)
      obtain ⟨p, hp, rfl⟩ := List.mem_map.mp hd
      exact ⟨[.sh (.obj 0), s1, .emp, s3, .emp, .sh (tI r), .sh (.lst E), .sh (tI late), .sh (.int p.1), .sh (.int p.2), .emp, .emp, .emp], rfl, rfl, by repeat cell_call, rfl⟩
    rw [key]
    unfold runD
    rw [List.map_map, List.map_map]
    rfl
  have hsl : slcD 2 (tI r) none none = some (.tup (pkS 2 (r.map .int) none none)) := slc2_ok (by rw [List.length_map]; omega)
  have hlr : (r.map D.int).length = r.length := List.length_map ..
  let pb : D → Bool := fun d => match d with
    | .int k => decide (3 < k)
    | _ => false
  have hmem : ∀ d ∈ pkS 2 (r.map D.int) none none, ∃ (m : Nat) (x : Int), d = .int x ∧ r[2 * m]? = some x := fun d hd => by
    obtain ⟨m, hm⟩ := pk2_mem hd
    rw [List.getElem?_map] at hm
    cases q : r[2 * m]? with
    | none => rw [q] at hm; cases hm
    | some x => rw [q] at hm; cases hm; exact ⟨m, x, rfl, q⟩
  have hq3 : q_law_right_3 ⟨[.sh (.obj 0), s1, .emp, s3, .emp, .sh (tI r), .sh (.lst E), .sh (tI late), .emp, .emp, .emp, .emp, .emp], st⟩ = .ok (((pkS 2 (r.map .int) none none).filter pb).map id) ⟨[.sh (.obj 0), s1, .emp, s3, .emp, .sh (tI r), .sh (.lst E), .sh (tI late), .emp, .emp, .emp, .emp, .emp], st⟩ := by
    unfold q_law_right_3
    refine lc_map (e0 := [.sh (.obj 0), s1, .emp, s3, .emp, .sh (tI r), .sh (.lst E), .sh (tI late), .emp, .emp, .emp, .emp, .emp]) pb id (by repeat cell_call) rfl rfl (fun d hd => ?_) (by have := pk2_len (r.map D.int); unfold SZ; omega)
    obtain ⟨m, x, rfl, _⟩ := hmem d hd
    have ea : pb (.int x) = decide (3 < x) := rfl
    rw [ea]
    exact ⟨[.sh (.obj 0), s1, .emp, s3, .emp, .sh (tI r), .sh (.lst E), .sh (tI late), .emp, .emp, .sh (.int x), .emp, .emp], rfl, by repeat cell_call, fun _ => by repeat cell_call, rfl⟩
  rw [List.map_id] at hq3
  have rne : (runsL r).map (·.1) ≠ [] := fun z => by
    have := said_pos h0
    unfold saidL at this
    rw [flat2_len] at this
    have z := congrArg List.length z
    rw [List.length_map] at z
    simp at z
    rw [z] at this
    simp at this
  refine ⟨.sh (.lst E), .sh (tI late), .inl ?_⟩
  by_cases k1 : late.length ≤ 60
  · have c2 := c2 k1
    by_cases k2 : 1 < E.length
    · obtain ⟨c3, c4⟩ := c3 k2
      obtain ⟨m, hm, hm3⟩ := max_le (b := 3) rne (fun x hx => by obtain ⟨p, hp, rfl⟩ := List.mem_map.mp hx; exact c3 p hp)
      have hf : (pkS 2 (r.map D.int) none none).filter pb = [] := by
        rw [List.filter_eq_nil_iff]
        intro d hd
        obtain ⟨m, x, rfl, hx⟩ := hmem d hd
        have := c4 m x hx
        show ¬ decide (3 < x) = true
        rw [decide_eq_true_eq]
        omega
      rw [hf] at hq3
      have h0 := neNil_ev (ds := []) rfl
      unfold l_law_right_1
      repeat cell_call
    · unfold l_law_right_1
      repeat cell_call
  · by_cases k2 : 1 < E.length
    · obtain ⟨c3, c4⟩ := c3 k2
      obtain ⟨m, hm, hm3⟩ := max_le (b := 3) rne (fun x hx => by obtain ⟨p, hp, rfl⟩ := List.mem_map.mp hx; exact c3 p hp)
      have hf : (pkS 2 (r.map D.int) none none).filter pb = [] := by
        rw [List.filter_eq_nil_iff]
        intro d hd
        obtain ⟨m, x, rfl, hx⟩ := hmem d hd
        have := c4 m x hx
        show ¬ decide (3 < x) = true
        rw [decide_eq_true_eq]
        omega
      rw [hf] at hq3
      have h0 := neNil_ev (ds := []) rfl
      unfold l_law_right_1
      repeat cell_call
    · unfold l_law_right_1
      repeat cell_call
end Ls
namespace Ls
open PySem PySem.Spec L2
theorem smallA1 : ∀ a ∈ ([1, 2, 3, 4, 9] : List Int), ∀ k ∈ List.range 10, okDay (dayL [a] k) = true := by decide +kernel
theorem smallA2 : ∀ a ∈ ([1, 2, 3, 4, 9] : List Int), ∀ b ∈ ([1, 2, 3, 4, 9] : List Int), ∀ k ∈ List.range 10, okDay (dayL [a, b] k) = true := by decide +kernel
theorem smallA3 : ∀ a ∈ ([1, 2, 3, 4, 9] : List Int), ∀ b ∈ ([1, 2, 3, 4, 9] : List Int), ∀ c ∈ ([1, 2, 3, 4, 9] : List Int), ∀ k ∈ List.range 10, okDay (dayL [a, b, c] k) = true := by decide +kernel
theorem smallA_ok {ns : List Int} (h0 : 1 ≤ ns.length) (h : ns.length ≤ 3) (hn : ∀ x ∈ ns, x ∈ ([1, 2, 3, 4, 9] : List Int)) {k : Nat} (hk : k ≤ 9) : dayL ns k ≠ [] ∧ ∀ x ∈ dayL ns k, 1 ≤ x ∧ x ≤ 99 := by
  have key : okDay (dayL ns k) = true := by
    have hk : k ∈ List.range 10 := by simp; omega
    match ns, h0, h, hn with
    | [a], _, _, hn => exact smallA1 a (hn a (by simp)) k hk
    | [a, b], _, _, hn => exact smallA2 a (hn a (by simp)) b (hn b (by simp)) k hk
    | [a, b, c], _, _, hn => exact smallA3 a (hn a (by simp)) b (hn b (by simp)) c (hn c (by simp)) k hk
    | _ :: _ :: _ :: _ :: _, _, h, _ => (simp at h)
  unfold okDay at key
  rw [Bool.and_eq_true, List.all_eq_true] at key
  refine ⟨fun z => ?_, fun x hx => by simpa using key.2 x hx⟩
  rw [z] at key
  exact absurd key.1 (by decide)
/-- the last of the days of a small row -/
theorem line_ok {ns : List Int} {k : Nat} {st : List Ob} (h0 : 1 ≤ ns.length) (h : ns.length ≤ 3) (hn : ∀ x ∈ ns, x ∈ ([1, 2, 3, 4, 9] : List Int)) (hk : k ≤ 9) {st0 : List Ob} {a : List D} (ht : g_law_take [.obj 0, .int 10] st0 = .ok (.int k) st) :
    ∃ ini l, q_law_right_5 ⟨[.sh (.obj 0), .sh (tI ns), .emp, .emp, .emp, .emp, .emp, .emp, .emp, .emp, .emp, .emp, .emp], st0⟩ = .ok (ini ++ [tI l]) ⟨[.sh (.obj 0), .sh (tI ns), .emp, .emp, .emp, .emp, .emp, .emp, .emp, .emp, .emp, .emp, .emp], st⟩ ∧ RowOk l ∧ l ≠ [] := by
  have dl : ∀ i, i ≤ k → (dayL ns i).length ≤ 1000000 := fun i hi => by
    have h3 := dayL_len ns i
    have : 2 ^ i ≤ 2 ^ 9 := Nat.pow_le_pow_right (by decide) (by omega)
    have : 2 ^ i * ns.length ≤ 2 ^ 9 * 4 := Nat.mul_le_mul this (by omega)
    omega
  have hd : g_law_days [tI ns, .int k] st = .ok (.lst ((daysL ns k).map tI)) st := law_days_ok (by omega) dl
  let p : D → Bool := fun d => match d with
    | .tup l => decide ((l.length : Int) ≤ 60)
    | _ => false
  have hit : (M.bind (mCall g_law_days (mCons (mVar 1) (mCons (mCall g_law_take (mCons (mVar 0) (mCons (M.pure (.int 10)) (mNil)))) (mNil)))) seqOf) ⟨[.sh (.obj 0), .sh (tI ns), .emp, .emp, .emp, .emp, .emp, .emp, .emp, .emp, .emp, .emp, .emp], st0⟩ = .ok ((daysL ns k).map tI) ⟨[.sh (.obj 0), .sh (tI ns), .emp, .emp, .emp, .emp, .emp, .emp, .emp, .emp, .emp, .emp, .emp], st⟩ := by
    repeat cell_call
  have hq := lc_mapS (is := [4]) (tf := tgN 4) (cond := (M.bind (mO2 leD (mB lenL (mCons (mVarB 4) (mNil))) (M.pure (.int 60))) asB)) (elt := mVar 4) (e0 := [.sh (.obj 0), .sh (tI ns), .emp, .emp, .emp, .emp, .emp, .emp, .emp, .emp, .emp, .emp, .emp]) p id hit rfl rfl (fun d hd => by
    obtain ⟨l, hl, rfl⟩ := List.mem_map.mp hd
    exact ⟨[.sh (.obj 0), .sh (tI ns), .emp, .emp, .sh (tI l), .emp, .emp, .emp, .emp, .emp, .emp, .emp, .emp], rfl, by repeat cell_call, fun _ => by repeat cell_call, rfl⟩) (by rw [List.length_map]; unfold daysL SZ; rw [List.length_map, List.length_range]; omega)
  rw [List.map_id] at hq
  have inD : ∀ d ∈ ((daysL ns k).map tI).filter p, ∃ l, d = tI l ∧ RowOk l ∧ l ≠ [] := fun d hd => by
    rw [List.mem_filter] at hd
    obtain ⟨hd, hp⟩ := hd
    obtain ⟨l, hl, rfl⟩ := List.mem_map.mp hd
    unfold daysL at hl
    obtain ⟨i, hi, rfl⟩ := List.mem_map.mp hl
    have hi : i < k + 1 := by simpa using hi
    obtain ⟨b1, b2⟩ := smallA_ok (k := i) h0 h hn (by omega)
    have : (((dayL ns i).map D.int).length : Int) ≤ 60 := by simpa [p] using hp
    rw [List.length_map] at this
    exact ⟨_, rfl, ⟨by omega, b2⟩, b1⟩
  have first : tI ns ∈ ((daysL ns k).map tI).filter p := by
    rw [List.mem_filter]
    refine ⟨List.mem_map.mpr ⟨ns, ?_, rfl⟩, ?_⟩
    · unfold daysL
      exact List.mem_map.mpr ⟨0, by simp, rfl⟩
    · show decide (((ns.map D.int).length : Int) ≤ 60) = true
      rw [List.length_map]
      exact decide_eq_true (by omega)
  rcases List.eq_nil_or_concat (((daysL ns k).map tI).filter p) with z | ⟨ini, d, z⟩
  · rw [z] at first
    cases first
  rw [List.concat_eq_append] at z
  obtain ⟨l, rfl, h1, h2⟩ := inD d (by rw [z]; simp)
  rw [z] at hq
  exact ⟨ini, l, hq, h1, h2⟩
theorem right_ok {st : List Ob} (D0 : Drawn st) : ∃ st2, g_law_right [.obj 0] st = .ok (.bl true) st2 ∧ Drawn st2 := by
  -- the small row
  obtain ⟨c, stc, hc, D3, c0, c1⟩ := take_ok (a := 3) D0 (by decide) (by decide)
  have hr3 : rng1 [.int (1 + c)] = some (rngL 0 (1 + c).toNat) := rng1_ev (by omega) (by omega)
  have key : ∀ y ∈ ([.int 1, .int 2, .int 3, .int 3, .int 4, .int 9] : List D), ∃ j, y = .int j ∧ j ∈ ([1, 2, 3, 4, 9] : List Int) := by
    intro y hy
    simp only [List.mem_cons, List.not_mem_nil, or_false] at hy
    rcases hy with rfl | rfl | rfl | rfl | rfl | rfl <;> exact ⟨_, rfl, by decide⟩
  obtain ⟨acc, std, hq, D4, la, qa⟩ := lc_draw (is := [2]) (it := (M.bind (mCons (mO2 addD (M.pure (.int 1)) (mCall g_law_take (mCons (mVar 0) (mCons (M.pure (.int 3)) (mNil))))) (mNil)) fun ds => ofO (rng1 ds))) (tf := tgN 2) (cond := mTrue) (elt := (mCall g_law_pick (mCons (mVar 0) (mCons (M.bind (mLst (mCons (M.pure (.int 1)) (mCons (M.pure (.int 2)) (mCons (M.pure (.int 3)) (mCons (M.pure (.int 3)) (mCons (M.pure (.int 4)) (mCons (M.pure (.int 9)) (mNil)))))))) fun ds => M.pure (.lst ds)) (mNil)))))
    (env := [.sh (.obj 0), .emp, .emp, .emp, .emp, .emp, .emp, .emp, .emp, .emp, .emp, .emp, .emp]) (e0 := [.sh (.obj 0), .emp, .emp, .emp, .emp, .emp, .emp, .emp, .emp, .emp, .emp, .emp, .emp]) (st := st) (st0 := stc) (ds := rngL 0 (1 + c).toNat)
    Drawn (fun y => ∃ j, y = .int j ∧ j ∈ ([1, 2, 3, 4, 9] : List Int)) (by repeat cell_call) rfl rfl D3 (fun d hd s2 Ds => by
      obtain ⟨y, s3, e3, D5, hy⟩ := pick_ok (ds := [.int 1, .int 2, .int 3, .int 3, .int 4, .int 9]) Ds (by decide) (by decide)
      refine ⟨[.sh (.obj 0), .emp, .sh d, .emp, .emp, .emp, .emp, .emp, .emp, .emp, .emp, .emp, .emp], y, s3, rfl, rfl, ?_, rfl, D5, key y hy⟩
      repeat cell_call) (by rw [rngL_len]; unfold SZ; omega)
  have hq : q_law_right_6 ⟨[.sh (.obj 0), .emp, .emp, .emp, .emp, .emp, .emp, .emp, .emp, .emp, .emp, .emp, .emp], st⟩ = .ok acc ⟨[.sh (.obj 0), .emp, .emp, .emp, .emp, .emp, .emp, .emp, .emp, .emp, .emp, .emp, .emp], std⟩ := hq
  obtain ⟨ns, rfl, hn⟩ := ints_of qa
  rw [rngL_len, List.length_map] at la
  -- its days
  obtain ⟨k, ste, hk, D5, k0, k1⟩ := take_ok (a := 10) D4 (by decide) (by decide)
  obtain ⟨kn, rfl⟩ := Int.eq_ofNat_of_zero_le k0
  obtain ⟨ini, l, hl, rl, nl⟩ := line_ok (a := []) (by omega) (by omega) hn (by omega) hk
  -- a drawn row
  obtain ⟨m, stf, hm, D6, mm⟩ := pick_ok (ds := [.int 2, .int 4, .int 12]) D5 (by decide) (by decide)
  obtain ⟨mi, rfl, m0, m1⟩ : ∃ j, m = .int j ∧ 2 ≤ j ∧ j ≤ 12 := by
    simp only [List.mem_cons, List.not_mem_nil, or_false] at mm
    rcases mm with rfl | rfl | rfl <;> exact ⟨_, rfl, by decide, by decide⟩
  obtain ⟨r2, stg, h2, D7, rr2⟩ := law_row_ok (m := mi) D6 (by omega) (by omega)
  -- a third one
  obtain ⟨c', sth, hc', D8, d0, d1⟩ := take_ok (a := 3) D7 (by decide) (by decide)
  have hr5 : rng1 [.int (2 + 2 * c')] = some (rngL 0 (2 + 2 * c').toNat) := rng1_ev (by omega) (by omega)
  obtain ⟨acc, sti, hq2, D9, la2, qa2⟩ := lc_draw (is := [2]) (it := (M.bind (mCons (mO2 addD (M.pure (.int 2)) (mO2 mulD (M.pure (.int 2)) (mCall g_law_take (mCons (mVar 0) (mCons (M.pure (.int 3)) (mNil)))))) (mNil)) fun ds => ofO (rng1 ds))) (tf := tgN 2) (cond := mTrue) (elt := (mO2 addD (M.pure (.int 1)) (mCall g_law_take (mCons (mVar 0) (mCons (M.pure (.int 3)) (mNil))))))
    (env := [.sh (.obj 0), .sh (tI ns), .emp, .own (ini ++ [tI l]), .emp, .emp, .emp, .emp, .emp, .emp, .emp, .emp, .emp]) (e0 := [.sh (.obj 0), .sh (tI ns), .emp, .own (ini ++ [tI l]), .emp, .emp, .emp, .emp, .emp, .emp, .emp, .emp, .emp]) (st := stg) (st0 := sth) (ds := rngL 0 (2 + 2 * c').toNat)
    Drawn (fun y => ∃ j, y = .int j ∧ 1 ≤ j ∧ j ≤ 3) (by repeat cell_call) rfl rfl D8 (fun d hd s2 Ds => by
      obtain ⟨y, s3, e3, D5, hy⟩ := plusTake (k := 3) (env := [.sh (.obj 0), .sh (tI ns), .sh d, .own (ini ++ [tI l]), .emp, .emp, .emp, .emp, .emp, .emp, .emp, .emp, .emp]) (i := 0) Ds (by decide) (by decide) rfl
      exact ⟨_, y, s3, rfl, rfl, e3, rfl, D5, hy⟩) (by rw [rngL_len]; unfold SZ; omega)
  have hq2 : q_law_right_2 ⟨[.sh (.obj 0), .sh (tI ns), .emp, .own (ini ++ [tI l]), .emp, .emp, .emp, .emp, .emp, .emp, .emp, .emp, .emp], stg⟩ = .ok acc ⟨[.sh (.obj 0), .sh (tI ns), .emp, .own (ini ++ [tI l]), .emp, .emp, .emp, .emp, .emp, .emp, .emp, .emp, .emp], sti⟩ := hq2
  obtain ⟨r3, rfl, hn3⟩ := ints_of qa2
  rw [rngL_len, List.length_map] at la2
  have rr3 : RowOk r3 := ⟨by omega, fun x hx => by have := hn3 x hx; omega⟩
  have n3 : r3 ≠ [] := fun z => by rw [z] at la2; simp at la2; omega
  -- the walk
  obtain ⟨s', f1, k5, k6, k7, rfl⟩ := forL_all (tf := tgN 5) (b := l_law_right_1) [tI l, tI r2, tI r3] (fun s => ∃ c5 c6 c7, s = ⟨[.sh (.obj 0), .sh (tI ns), .emp, .own (ini ++ [tI l]), .emp, c5, c6, c7, .emp, .emp, .emp, .emp, .emp], sti⟩) (fun d s hd hs => by
    obtain ⟨c5, c6, c7, rfl⟩ := hs
    obtain ⟨x, rfl, hr, hx⟩ : ∃ x, d = tI x ∧ RowOk x ∧ x ≠ [] := by
      simp only [List.mem_cons, List.not_mem_nil, or_false] at hd
      rcases hd with rfl | rfl | rfl
      · exact ⟨_, rfl, rl, nl⟩
      · exact ⟨_, rfl, rr2.ok (by omega), rr2.ne⟩
      · exact ⟨_, rfl, rr3, n3⟩
    obtain ⟨e6, e7, h⟩ := right_turn (st := sti) (s1 := .sh (tI ns)) (s3 := .own (ini ++ [tI l])) (c6 := c6) (c7 := c7) hr hx
    refine ⟨⟨[.sh (.obj 0), .sh (tI ns), .emp, .own (ini ++ [tI l]), .emp, .sh (tI x), c6, c7, .emp, .emp, .emp, .emp, .emp], sti⟩, rfl, ⟨[.sh (.obj 0), .sh (tI ns), .emp, .own (ini ++ [tI l]), .emp, .sh (tI x), e6, e7, .emp, .emp, .emp, .emp, .emp], sti⟩, h, _, _, _, rfl⟩) (s := ⟨[.sh (.obj 0), .sh (tI ns), .emp, .own (ini ++ [tI l]), .emp, .emp, .emp, .emp, .emp, .emp, .emp, .emp, .emp], sti⟩) ⟨_, _, _, rfl⟩
  -- what is refused
  obtain ⟨acc, stj, hq3, D10, la3, qa3⟩ := lc_draw (is := [12]) (it := (M.bind (M.bind (mLst (mCons (M.pure (.fn "age")) (mCons (M.pure (.fn "elders")) (mNil)))) fun ds => M.pure (.lst ds)) seqOf)) (tf := tgN 12) (cond := mTrue) (elt := (M.bind (mCaught sayErrs (mCallV (mVar 12) [("age", g_age), ("elders", g_elders)] (mCons (mCall g_law_no_row (mCons (mVar 0) (mNil))) (mNil)))) fun d => ofO (isX "BadRow" d)))
    (env := [.sh (.obj 0), .sh (tI ns), .emp, .own (ini ++ [tI l]), .emp, k5, k6, k7, .emp, .emp, .emp, .emp, .emp]) (e0 := [.sh (.obj 0), .sh (tI ns), .emp, .own (ini ++ [tI l]), .emp, k5, k6, k7, .emp, .emp, .emp, .emp, .emp]) (st := sti) (st0 := sti) (ds := [.fn "age", .fn "elders"])
    Drawn (fun y => y = .bl true) (by repeat cell_call) rfl rfl D9 (fun d hd s2 Ds => by
      obtain ⟨bad, s3, hb, D3, hm⟩ := law_no_row_ok Ds
      have hn := need_row_bad (st := s3) hm
      have e1 : g_age [bad] s3 = .exc ⟨"BadRow", none, .non⟩ s3 := by
        apply fex e_age
        unfold d_age
        repeat cell_call
      have e2 : g_elders [bad] s3 = .exc ⟨"BadRow", none, .non⟩ s3 := by
        apply fex e_elders
        unfold d_elders
        repeat cell_call
      have l1 : List.lookup ("age" : Str) [("age", g_age), ("elders", g_elders)] = some g_age := rfl
      have l2 : List.lookup ("elders" : Str) [("age", g_age), ("elders", g_elders)] = some g_elders := rfl
      refine ⟨[.sh (.obj 0), .sh (tI ns), .emp, .own (ini ++ [tI l]), .emp, k5, k6, k7, .emp, .emp, .emp, .emp, .sh d], .bl true, s3, rfl, rfl, ?_, rfl, D3, rfl⟩
      simp only [List.mem_cons, List.not_mem_nil, or_false] at hd
      rcases hd with rfl | rfl
      · repeat cell_call
      · repeat cell_call) (by decide)
  have hacc : acc = [.bl true, .bl true] := by
    match acc, la3, qa3 with
    | [a, b], _, qa => rw [qa a (by simp), qa b (by simp)]
  subst hacc
  have hq3 : q_law_right_1 ⟨[.sh (.obj 0), .sh (tI ns), .emp, .own (ini ++ [tI l]), .emp, k5, k6, k7, .emp, .emp, .emp, .emp, .emp], sti⟩ = .ok [.bl true, .bl true] ⟨[.sh (.obj 0), .sh (tI ns), .emp, .own (ini ++ [tI l]), .emp, k5, k6, k7, .emp, .emp, .emp, .emp, .emp], stj⟩ := hq3
  obtain ⟨px, stk, hpx, D11, hpm⟩ := pick_ok (ds := [.tup [], .tup [.int 2, .int 2]]) D10 (by decide) (by decide)
  have hx : g_elders [px] stk = .exc ⟨"BadRow", none, .non⟩ stk := by
    simp only [List.mem_cons, List.not_mem_nil, or_false] at hpm
    rcases hpm with rfl | rfl <;> kernel_rfl
  have m3 : mulD (.lst [.bl true]) (.int 3) = some (.lst [.bl true, .bl true, .bl true]) := by kernel_rfl
  have fin : eqD (.lst ([.bl true, .bl true] ++ [.bl true])) (.lst [.bl true, .bl true, .bl true]) = some (.bl true) := rfl
  refine ⟨stk, ?_, D11⟩
  apply frt e_law_right
  unfold d_law_right
  repeat cell_call
theorem law03 {ns : List Int} (hl : ns.length ≤ 63) (hb : sumBits ns ≤ 1048576) : ∃ st, g_law [.wl (ns.map .int)] [] = .ok (.bl true) st := by
  obtain ⟨st, e1, D0⟩ := begun_ok hl hb
  obtain ⟨s0, hs0⟩ : ∃ s0 : D, s0 = .wl (ns.map .int) := ⟨_, rfl⟩
  obtain ⟨n, hn⟩ : ∃ n : Int, 5 + (if (10 : Int) < ((ns.map D.int).length : Int) then 10 else ((ns.map D.int).length : Int)) = n ∧ 0 ≤ n ∧ n ≤ 15 := by
    refine ⟨_, rfl, ?_, ?_⟩ <;> split <;> omega
  obtain ⟨hn, n0, n1⟩ := hn
  have hr : rng1 [.int n] = some (rngL 0 n.toNat) := rng1_ev (by omega) (by omega)
  have hadd : addD (.int 5) (.int (if (10 : Int) < ((ns.map D.int).length : Int) then 10 else ((ns.map D.int).length : Int))) = some (.int n) := by rw [add_ev, hn]
  have loop := forL_inv (ds := rngL 0 n.toNat) (tf := tgN 2) (b := l_law_1) (fun _ s => ∃ (st : List Ob) (c2 : Sl), s = ⟨[.sh s0, .sh (.obj 0), c2, .emp], st⟩ ∧ Drawn st) (fun i d s _ hs => by
    obtain ⟨st, c2, rfl, D1⟩ := hs
    obtain ⟨st2, h, D2⟩ := right_ok D1
    refine ⟨_, rfl, ⟨[.sh s0, .sh (.obj 0), .sh d, .emp], st2⟩, ?_, st2, _, rfl, D2⟩
    show l_law_1 ⟨[.sh s0, .sh (.obj 0), .sh d, .emp], st⟩ = _
    unfold l_law_1
    repeat cell_call) (s := ⟨[.sh s0, .sh (.obj 0), .emp, .emp], st⟩) ⟨st, _, rfl, D0⟩
  obtain ⟨s', f1, st2, c2, rfl, D2⟩ := loop
  subst hs0
  have row6 : RowOk [1, 1, 1, 2, 2, 1] := ⟨by decide, by decide⟩
  have row2 : RowOk [12, 1] := ⟨by decide, by decide⟩
  have row1 : RowOk [7] := ⟨by decide, by decide⟩
  have t1 : g_age [tI [1, 1, 1, 2, 2, 1]] st2 = .ok (.int 4) st2 := age_ok (n := 9) row6 (by decide) (by decide) (by decide +kernel) (by decide)
  have t2 : g_elders [tI [1, 1, 1, 2, 2, 1]] st2 = .ok (.tup ([[1, 2, 1, 1], [2, 1], [1, 1], [1]].map tI)) st2 := by
    have := elders_ok (n := 9) (st := st2) row6 (by decide) (by decide) (by decide +kernel) (by decide)
    rw [this, show eldsL 10 [1, 1, 1, 2, 2, 1] = [[1, 2, 1, 1], [2, 1], [1, 1], [1]] by decide +kernel]
  have t3 : g_age [.tup []] st2 = .ok .non st2 := by kernel_rfl
  have t4 : g_age [.tup [.int 2, .int 2]] st2 = .ok .non st2 := by kernel_rfl
  have t5 : g_age [tI [12, 1]] st2 = .ok (.int 1) st2 := age_ok (n := 9) row2 (by decide) (by decide) (by decide +kernel) (by decide)
  have t6 : g_age [tI [7]] st2 = .ok (.int 0) st2 := age_ok (n := 9) row1 (by decide) (by decide) (by decide +kernel) (by decide)
  have t7 : g_elders [tI [7]] st2 = .ok (.tup []) st2 := elders_ok (n := 9) row1 (by decide) (by decide) (by decide +kernel) (by decide)
  have t1 : g_age [.tup [.int 1, .int 1, .int 1, .int 2, .int 2, .int 1]] st2 = .ok (.int 4) st2 := t1
  have t2 : g_elders [.tup [.int 1, .int 1, .int 1, .int 2, .int 2, .int 1]] st2 = .ok (.tup [.tup [.int 1, .int 2, .int 1, .int 1], .tup [.int 2, .int 1], .tup [.int 1, .int 1], .tup [.int 1]]) st2 := t2
  have t5 : g_age [.tup [.int 12, .int 1]] st2 = .ok (.int 1) st2 := t5
  have t6 : g_age [.tup [.int 7]] st2 = .ok (.int 0) st2 := t6
  have t7 : g_elders [.tup [.int 7]] st2 = .ok (.tup []) st2 := t7
  have sy := says_ok (d := .lst [.int 4, .tup [.tup [.int 1, .int 2, .int 1, .int 1], .tup [.int 2, .int 1], .tup [.int 1, .int 1], .tup [.int 1]], .non, .non, .int 1, .int 0, .tup []]) (st := st2) (by decide) (by decide)
  refine ⟨st2, ?_⟩
  apply frt e_law
  unfold d_law
  repeat cell_call
end Ls
set_option maxHeartbeats 4000000
namespace Ls
open PySem PySem.Spec L2
def topS (i : Nat) : Stmt := PySem.Challenge.pw_looksay_k03_whole_ages.main.body.getD i (.Pass ⟨0, 0, 0, 0⟩)
theorem sc_is_whole : FnScope ["thing"] ["thing"] (defScope (topS 8)) := ⟨rfl, rfl, rfl, by decide +kernel, rfl, by decide +kernel, by decide +kernel⟩
theorem b_is_whole {P : Program} {w : World} {c : Ct} {base : Heap} {f : Addr} {fd : FuncData} (Fu : Fun c.K "is_whole" "is_whole" (topS 8) f fd) (B : Bt c)  :
    FnOk P w c.K c.mg base (L2.CX P w) 1 f fd ["thing"] (spD c 1 (mFn 1 1 d_is_whole)) :=
  fn_den2 Fu sc_is_whole fun cdv A outer s e E hc hr L hp => by
    subst hc
    have nd := (sc_is_whole).nd
    exact dss_one (ds_ret (de_and (eIsi (t := "int") L B (vB 0) B.int (.inl rfl)) (de_one (de_not (eIsi (t := "bool") L B (vB 0) B.bool (.inr (.inl rfl)))))))
theorem sc_is_row_of : FnScope ["thing", "number"] ["thing"] (defScope (topS 9)) := ⟨rfl, rfl, rfl, by decide +kernel, rfl, by decide +kernel, by decide +kernel⟩
theorem b_is_row_of {P : Program} {w : World} {c : Ct} {base : Heap} {f : Addr} {fd : FuncData} (Fu : Fun c.K "is_row_of" "is_row_of" (topS 9) f fd) (B : Bt c) (k_MOST_NUMBER : Con c "MOST_NUMBER" (.int 99)) (C_is_whole : Cal P w c base 1 "is_whole" 1 g_is_whole) (k_MOST_NUMBERS : Con c "MOST_NUMBERS" (.int 60)) :
    FnOk P w c.K c.mg base (L2.CX P w) 2 f fd ["thing"] (spD c 1 (mFn 2 1 d_is_row_of)) :=
  fn_den2 Fu sc_is_row_of fun cdv A outer s e E hc hr L hp => by
    subst hc
    have nd := (sc_is_row_of).nd
    exact dss_cons (ds_if (dt_w (dw_or (dt_not (tVal (db_of (eIsi (t := "tuple") L B (vB 0) B.tuple (.inr (.inr (.inl rfl))))))) (dw_or1 (tGt (db_of (eLen L B (bC (vB 0) (dab_nil)))) (db_of (eGlob L k_MOST_NUMBERS)))))) (dss_one (ds_ret (de_bl))) (dss_nil)) (dss_one (ds_ret (eAll L B (bC (db_of (de_ofL (lLc [("number", 1)] L nd (iSeq L (vE 0)) (by kernel_rfl) (fun _ _ _ _ _ => gN 1 nd) (fun _ _ _ _ _ => dts_nil) (fun _ _ _ _ _ => de_and (eCall (Lk.blk L _ _ _ _ _) C_is_whole (hr.mono (by decide)) (aC (vE 1) (da_nil)) (len_cons (fun _ _ _ h => len_nil h))) (de_one (eLeLe (db_of (de_int)) (vB 1) (db_of (eGlob (Lk.blk L _ _ _ _ _) k_MOST_NUMBER)))))))) (dab_nil)))))
theorem sc_need_row : FnScope ["row", "word"] ["row", "word"] (defScope (topS 10)) := ⟨rfl, rfl, rfl, by decide +kernel, rfl, by decide +kernel, by decide +kernel⟩
theorem b_need_row {P : Program} {w : World} {c : Ct} {base : Heap} {f : Addr} {fd : FuncData} (Fu : Fun c.K "need_row" "need_row" (topS 10) f fd) (B : Bt c) (X_BadRow : Exn c "BadRow") (X_BadOther : Exn c "BadOther") (X_BadOne : Exn c "BadOne") (C_is_row_of : Cal P w c base 2 "is_row_of" 1 g_is_row_of) :
    FnOk P w c.K c.mg base (L2.CX P w) 3 f fd ["row", "word"] (spD c 2 (mFn 2 2 d_need_row)) :=
  fn_den2 Fu sc_need_row fun cdv A outer s e E hc hr L hp => by
    subst hc
    have nd := (sc_need_row).nd
    exact dss_cons (ds_if (tVal (db_of (eCall L C_is_row_of (hr.mono (by decide)) (aC (vE 0) (da_nil)) (len_cons (fun _ _ _ h => len_nil h))))) (dss_one (ds_retN)) (dss_nil)) (dss_cons (ds_if (tEq L (vB 1) (db_of (de_str))) (dss_one (sRaise L X_BadOne)) (dss_nil)) (dss_cons (ds_if (tEq L (vB 1) (db_of (de_str))) (dss_one (sRaise L X_BadOther)) (dss_nil)) (dss_one (sRaise L X_BadRow))))
theorem sc_bar_by : FnScope ["row", "place"] ["row"] (defScope (topS 13)) := ⟨rfl, rfl, rfl, by decide +kernel, rfl, by decide +kernel, by decide +kernel⟩
theorem b_bar_by {P : Program} {w : World} {c : Ct} {base : Heap} {f : Addr} {fd : FuncData} (Fu : Fun c.K "bar_by" "bar_by" (topS 13) f fd) (B : Bt c)  :
    FnOk P w c.K c.mg base (L2.CX P w) 1 f fd ["row"] (spD c 1 (mFn 2 1 d_bar_by)) :=
  fn_den2 Fu sc_bar_by fun cdv A outer s e E hc hr L hp => by
    subst hc
    have nd := (sc_bar_by).nd
    exact dss_cons (ds_if (tEq L (db_of (eMod (db_of (eLen L B (bC (vB 0) (dab_nil)))) (db_of (de_int)))) (db_of (de_int))) (dss_one (ds_ret (eLen L B (bC (vB 0) (dab_nil))))) (dss_nil)) (dss_cons (sFor (is := [1]) L hp (iRange3 L B (bC (db_of (de_int)) (bC (db_of (eLen L B (bC (vB 0) (dab_nil)))) (bC (db_of (de_int)) (dab_nil))))) (gN 1 nd) (dss_one (ds_if (tEq L (db_of (eIx L (vB 0) (vB 1))) (db_of (eIx L (vB 0) (db_of (eSub (vB 1) (db_of (de_int))))))) (dss_one (ds_ret (vE 1))) (dss_nil)))) (dss_one (ds_ret (de_non))))
theorem sc_elder_by : FnScope ["row", "found", "place"] ["row"] (defScope (topS 14)) := ⟨rfl, rfl, rfl, by decide +kernel, rfl, by decide +kernel, by decide +kernel⟩
theorem b_elder_by {P : Program} {w : World} {c : Ct} {base : Heap} {f : Addr} {fd : FuncData} (Fu : Fun c.K "elder_by" "elder_by" (topS 14) f fd) (B : Bt c) (C_bar_by : Cal P w c base 1 "bar_by" 1 g_bar_by) :
    FnOk P w c.K c.mg base (L2.CX P w) 2 f fd ["row"] (spD c 1 (mFn 3 1 d_elder_by)) :=
  fn_den2 Fu sc_elder_by fun cdv A outer s e E hc hr L hp => by
    subst hc
    have nd := (sc_elder_by).nd
    exact dss_cons (ds_if (tIsNot (db_of (eCall L C_bar_by (hr.mono (by decide)) (aC (vE 0) (da_nil)) (len_cons (fun _ _ _ h => len_nil h)))) (db_of (de_non))) (dss_one (ds_ret (de_non))) (dss_nil)) (dss_cons (sSetD 1 nd (de_ofL (dl_lst (da_nil)))) (dss_cons (sFor (is := [2]) L hp (iRange3 L B (bC (db_of (de_int)) (bC (db_of (eLen L B (bC (vB 0) (dab_nil)))) (bC (db_of (de_int)) (dab_nil))))) (gN 2 nd) (dss_one (sSetD 1 nd (eAdd L (vB 1) (db_of (eMul L (db_of (de_ofL (dl_lst (aC (eIx L (vB 0) (db_of (eAdd L (vB 2) (db_of (de_int))))) (da_nil))))) (db_of (eIx L (vB 0) (vB 2))))))))) (dss_one (ds_ret (eTuple L B (bC (vB 1) (dab_nil)))))))
theorem sc_elders_by : FnScope ["row", "found", "here"] ["row"] (defScope (topS 15)) := ⟨rfl, rfl, rfl, by decide +kernel, rfl, by decide +kernel, by decide +kernel⟩
theorem b_elders_by {P : Program} {w : World} {c : Ct} {base : Heap} {f : Addr} {fd : FuncData} (Fu : Fun c.K "elders_by" "elders_by" (topS 15) f fd) (B : Bt c) (C_elder_by : Cal P w c base 2 "elder_by" 1 g_elder_by) :
    FnOk P w c.K c.mg base (L2.CX P w) 3 f fd ["row"] (spD c 1 (mFn 3 1 d_elders_by)) :=
  fn_den2 Fu sc_elders_by fun cdv A outer s e E hc hr L hp => by
    subst hc
    have nd := (sc_elders_by).nd
    exact dss_cons (sPar L 1 2 nd (dx_ofL (dl_lst (da_nil))) (dx_of (eCall L C_elder_by (hr.mono (by decide)) (aC (vE 0) (da_nil)) (len_cons (fun _ _ _ h => len_nil h))))) (dss_cons (ds_while hp (tIsNot (vB 2) (db_of (de_non))) (dss_cons (sApp 1 (vE 2)) (dss_one (sSetD 2 nd (eCall L C_elder_by (hr.mono (by decide)) (aC (vE 2) (da_nil)) (len_cons (fun _ _ _ h => len_nil h))))))) (dss_one (ds_ret (vE 1))))
theorem sc_age_by : FnScope ["row"] ["row"] (defScope (topS 16)) := ⟨rfl, rfl, rfl, by decide +kernel, rfl, by decide +kernel, by decide +kernel⟩
theorem b_age_by {P : Program} {w : World} {c : Ct} {base : Heap} {f : Addr} {fd : FuncData} (Fu : Fun c.K "age_by" "age_by" (topS 16) f fd) (B : Bt c) (k_STILL : Con c "STILL" (.tup [.tup [], .tup [.int 2, .int 2]])) (C_elders_by : Cal P w c base 3 "elders_by" 1 g_elders_by) :
    FnOk P w c.K c.mg base (L2.CX P w) 4 f fd ["row"] (spD c 1 (mFn 1 1 d_age_by)) :=
  fn_den2 Fu sc_age_by fun cdv A outer s e E hc hr L hp => by
    subst hc
    have nd := (sc_age_by).nd
    exact dss_one (ds_ret (de_if (tIn L (vB 0) (db_of (eGlob L k_STILL))) (de_non) (eLen L B (bC (db_of (eCall L C_elders_by (hr.mono (by decide)) (aC (vE 0) (da_nil)) (len_cons (fun _ _ _ h => len_nil h)))) (dab_nil)))))
theorem sc_elders : FnScope ["row"] ["row"] (defScope (topS 17)) := ⟨rfl, rfl, rfl, by decide +kernel, rfl, by decide +kernel, by decide +kernel⟩
theorem b_elders {P : Program} {w : World} {c : Ct} {base : Heap} {f : Addr} {fd : FuncData} (Fu : Fun c.K "elders" "elders" (topS 17) f fd) (B : Bt c) (C_elders_by : Cal P w c base 3 "elders_by" 1 g_elders_by) (k_STILL : Con c "STILL" (.tup [.tup [], .tup [.int 2, .int 2]])) (X_BadRow : Exn c "BadRow") (C_need_row : Cal P w c base 3 "need_row" 2 g_need_row) :
    FnOk P w c.K c.mg base (L2.CX P w) 4 f fd ["row"] (spD c 1 (mFn 1 1 d_elders)) :=
  fn_den2 Fu sc_elders fun cdv A outer s e E hc hr L hp => by
    subst hc
    have nd := (sc_elders).nd
    exact dss_cons (sExpr (eCall L C_need_row (hr.mono (by decide)) (aC (vE 0) (aC (de_str) (da_nil))) (len_cons (len_cons (fun _ _ _ h => len_nil h))))) (dss_cons (ds_if (tIn L (vB 0) (db_of (eGlob L k_STILL))) (dss_one (sRaise L X_BadRow)) (dss_nil)) (dss_one (ds_ret (eTuple L B (bC (db_of (eCall L C_elders_by (hr.mono (by decide)) (aC (vE 0) (da_nil)) (len_cons (fun _ _ _ h => len_nil h)))) (dab_nil))))))
theorem sc_age : FnScope ["row"] ["row"] (defScope (topS 18)) := ⟨rfl, rfl, rfl, by decide +kernel, rfl, by decide +kernel, by decide +kernel⟩
theorem b_age {P : Program} {w : World} {c : Ct} {base : Heap} {f : Addr} {fd : FuncData} (Fu : Fun c.K "age" "age" (topS 18) f fd) (B : Bt c) (C_age_by : Cal P w c base 4 "age_by" 1 g_age_by) (C_need_row : Cal P w c base 3 "need_row" 2 g_need_row) :
    FnOk P w c.K c.mg base (L2.CX P w) 5 f fd ["row"] (spD c 1 (mFn 1 1 d_age)) :=
  fn_den2 Fu sc_age fun cdv A outer s e E hc hr L hp => by
    subst hc
    have nd := (sc_age).nd
    exact dss_cons (sExpr (eCall L C_need_row (hr.mono (by decide)) (aC (vE 0) (aC (de_str) (da_nil))) (len_cons (len_cons (fun _ _ _ h => len_nil h))))) (dss_one (ds_ret (eCall L C_age_by (hr.mono (by decide)) (aC (vE 0) (da_nil)) (len_cons (fun _ _ _ h => len_nil h)))))
theorem sc__law_begun : FnScope ["script", "whole", "cells", "cell"] ["script"] (defScope (topS 20)) := ⟨rfl, rfl, rfl, by decide +kernel, rfl, by decide +kernel, by decide +kernel⟩
theorem b__law_begun {P : Program} {w : World} {c : Ct} {base : Heap} {f : Addr} {fd : FuncData} (Fu : Fun c.K "_law_begun" "_law_begun" (topS 20) f fd) (B : Bt c)  :
    FnOk P w c.K c.mg base (L2.CX P w) 1 f fd ["script"] (spD c 1 (mFn 4 1 d_law_begun)) :=
  fn_den2 Fu sc__law_begun fun cdv A outer s e E hc hr L hp => by
    subst hc
    have nd := (sc__law_begun).nd
    exact dss_cons (sPar L 1 2 nd (dx_of (de_int)) (dx_ofL (dl_lst (da_nil)))) (dss_cons (sFor (is := [3]) L hp (iSeq L (vE 0)) (gN 3 nd) (dss_one (ds_if (tVal (db_of (eIsi (t := "int") L B (vB 3) B.int (.inl rfl)))) (dss_cons (ds_if (tGe (vB 3) (db_of (ePow (db_of (de_int)) (db_of (de_int))))) (dss_one (sSetD 1 nd (eAdd L (db_of (eMul L (vB 1) (db_of (eAdd L (db_of (eSub (vB 3) (db_of (ePow (db_of (de_int)) (db_of (de_int)))))) (db_of (de_int)))))) (db_of (eSub (vB 3) (db_of (ePow (db_of (de_int)) (db_of (de_int))))))))) (dss_nil)) (dss_one (sApp 2 (vE 3)))) (dss_nil)))) (dss_one (ds_ret (de_disp3 (by decide) (by decide) (by decide) (vE 1) (vE 2) (de_int)))))
theorem sc__law_mixed : FnScope ["draw", "found", "cell"] ["draw"] (defScope (topS 21)) := ⟨rfl, rfl, rfl, by decide +kernel, rfl, by decide +kernel, by decide +kernel⟩
theorem b__law_mixed {P : Program} {w : World} {c : Ct} {base : Heap} {f : Addr} {fd : FuncData} (Fu : Fun c.K "_law_mixed" "_law_mixed" (topS 21) f fd) (B : Bt c)  :
    FnOk P w c.K c.mg base (L2.CX P w) 1 f fd ["draw"] (spD c 1 (mFn 3 1 d_law_mixed)) :=
  fn_den2 Fu sc__law_mixed fun cdv A outer s e E hc hr L hp => by
    subst hc
    have nd := (sc__law_mixed).nd
    exact dss_cons (sPut L (eAdd L (db_of (eGet L (vB 0) (db_of (de_str)))) (db_of (de_int))) (vB 0) (db_of (de_str))) (dss_cons (sSetD 1 nd (eAdd L (db_of (de_int)) (db_of (eMul L (db_of (de_int)) (db_of (eGet L (vB 0) (db_of (de_str)))))))) (dss_cons (sFor (is := [2]) L hp (iSeq L (eAdd L (db_of (eGet L (vB 0) (db_of (de_str)))) (db_of (de_ofL (dl_lst (aC (eGet L (vB 0) (db_of (de_str))) (da_nil))))))) (gN 2 nd) (dss_cons (sSetD 1 nd (eMod (db_of (eInt L B (bC (db_of (eMul L (db_of (eAdd L (vB 1) (vB 2))) (db_of (de_int)))) (dab_nil)))) (db_of (eSub (db_of (ePow (db_of (de_int)) (db_of (de_int)))) (db_of (de_int)))))) (dss_one (sSetD 1 nd (eAdd L (vB 1) (db_of (eDiv (vB 1) (db_of (ePow (db_of (de_int)) (db_of (de_int))))))))))) (dss_one (ds_ret (vE 1)))))
theorem sc__law_take : FnScope ["draw", "amount", "found"] ["draw", "amount"] (defScope (topS 22)) := ⟨rfl, rfl, rfl, by decide +kernel, rfl, by decide +kernel, by decide +kernel⟩
theorem b__law_take {P : Program} {w : World} {c : Ct} {base : Heap} {f : Addr} {fd : FuncData} (Fu : Fun c.K "_law_take" "_law_take" (topS 22) f fd) (B : Bt c) (C__law_mixed : Cal P w c base 1 "_law_mixed" 1 g_law_mixed) :
    FnOk P w c.K c.mg base (L2.CX P w) 2 f fd ["draw", "amount"] (spD c 2 (mFn 3 2 d_law_take)) :=
  fn_den2 Fu sc__law_take fun cdv A outer s e E hc hr L hp => by
    subst hc
    have nd := (sc__law_take).nd
    exact dss_cons (ds_if (tLt (vB 1) (db_of (de_int))) (dss_one (ds_ret (de_int))) (dss_nil)) (dss_cons (ds_if (tGt (db_of (eGet L (vB 0) (db_of (de_str)))) (db_of (de_int))) (dss_cons (sSetD 2 nd (eMod (db_of (eInt L B (bC (db_of (eGet L (vB 0) (db_of (de_str)))) (dab_nil)))) (vB 1))) (dss_cons (sPut L (eDiv (db_of (eGet L (vB 0) (db_of (de_str)))) (vB 1)) (vB 0) (db_of (de_str))) (dss_one (ds_ret (vE 2))))) (dss_nil)) (dss_cons (sSetD 2 nd (eCall L C__law_mixed (hr.mono (by decide)) (aC (vE 0) (da_nil)) (len_cons (fun _ _ _ h => len_nil h)))) (dss_cons (ds_while hp (dt_w (dw_and (tGt (vB 1) (db_of (ePow (db_of (de_int)) (db_of (de_int))))) (dw_and1 (tLt (vB 2) (db_of (eMul L (vB 1) (vB 1))))))) (dss_one (sSetD 2 nd (eAdd L (db_of (eMul L (vB 2) (db_of (ePow (db_of (de_int)) (db_of (de_int)))))) (db_of (eCall L C__law_mixed (hr.mono (by decide)) (aC (vE 0) (da_nil)) (len_cons (fun _ _ _ h => len_nil h)))))))) (dss_one (ds_ret (eMod (db_of (eInt L B (bC (db_of (eDiv (vB 2) (db_of (de_int)))) (dab_nil)))) (vB 1)))))))
theorem sc__law_pick : FnScope ["draw", "items"] ["draw", "items"] (defScope (topS 23)) := ⟨rfl, rfl, rfl, by decide +kernel, rfl, by decide +kernel, by decide +kernel⟩
theorem b__law_pick {P : Program} {w : World} {c : Ct} {base : Heap} {f : Addr} {fd : FuncData} (Fu : Fun c.K "_law_pick" "_law_pick" (topS 23) f fd) (B : Bt c) (C__law_take : Cal P w c base 2 "_law_take" 2 g_law_take) :
    FnOk P w c.K c.mg base (L2.CX P w) 3 f fd ["draw", "items"] (spD c 2 (mFn 2 2 d_law_pick)) :=
  fn_den2 Fu sc__law_pick fun cdv A outer s e E hc hr L hp => by
    subst hc
    have nd := (sc__law_pick).nd
    exact dss_one (ds_ret (eIx L (vB 1) (db_of (eCall L C__law_take (hr.mono (by decide)) (aC (vE 0) (aC (eLen L B (bC (vB 1) (dab_nil))) (da_nil))) (len_cons (len_cons (fun _ _ _ h => len_nil h)))))))
theorem sc__law_caught : FnScope ["work", "caught", "error"] ["work"] (defScope (topS 24)) := ⟨rfl, rfl, rfl, by decide +kernel, rfl, by decide +kernel, by decide +kernel⟩
theorem sc__law_kinds : FnScope ["thing", "found", "line", "one", "key"] ["thing"] (defScope (topS 25)) := ⟨rfl, rfl, rfl, by decide +kernel, rfl, by decide +kernel, by decide +kernel⟩
theorem b__law_kinds {P : Program} {w : World} {c : Ct} {base : Heap} {f : Addr} {fd : FuncData} (Fu : Fun c.K "_law_kinds" "_law_kinds" (topS 25) f fd) (B : Bt c)  :
    FnOk P w c.K c.mg base (L2.CX P w) 1 f fd ["thing"] (spD c 1 (mFn 5 1 d_law_kinds)) :=
  fn_den2 Fu sc__law_kinds fun cdv A outer s e E hc hr L hp => by
    subst hc
    have nd := (sc__law_kinds).nd
    exact dss_cons (sPar L 1 2 nd (dx_ofL (dl_lst (da_nil))) (dx_ofL (dl_lst (aC (vE 0) (da_nil))))) (dss_cons (ds_while hp (tNe L (vB 2) (db_of (de_ofL (dl_lst (da_nil))))) (dss_cons (sPop 3 2 nd) (dss_one (ds_if (dt_w (dw_or (tVal (db_of (eIsi (t := "bool") L B (vB 3) B.bool (.inr (.inl rfl))))) (dw_or1 (tIs (vB 3) (db_of (de_non)))))) (dss_one (sApp 1 (eRepr L B (bC (vB 3) (dab_nil))))) (dss_one (ds_if (tVal (db_of (eIsi (t := "int") L B (vB 3) B.int (.inl rfl)))) (dss_one (sApp 1 (de_str))) (dss_one (ds_if (tVal (db_of (eIsi (t := "str") L B (vB 3) B.str (.inr (.inr (.inr (.inr (.inl rfl)))))))) (dss_one (sApp 1 (de_str))) (dss_one (ds_if (dt_w (dw_or (tVal (db_of (eIsi (t := "list") L B (vB 3) B.list (.inr (.inr (.inr (.inl rfl))))))) (dw_or1 (tVal (db_of (eIsi (t := "tuple") L B (vB 3) B.tuple (.inr (.inr (.inl rfl))))))))) (dss_cons (sApp 1 (de_if (tVal (db_of (eIsi (t := "list") L B (vB 3) B.list (.inr (.inr (.inr (.inl rfl))))))) (de_str) (de_str))) (dss_one (sSet 2 nd (dx_ofL (dl_cat (vB 2) (db_of (de_ofL (lList L B (bC (vB 3) (dab_nil)))))))))) (dss_one (ds_if (tVal (db_of (eIsi (t := "dict") L B (vB 3) B.dict (.inr (.inr (.inr (.inr (.inr rfl)))))))) (dss_cons (sApp 1 (de_str)) (dss_one (ds_neverS))) (dss_one (sApp 1 (de_str))))))))))))))) (dss_one (ds_ret (vE 1))))
theorem sc__law_says : FnScope ["told", "due"] ["told", "due"] (defScope (topS 26)) := ⟨rfl, rfl, rfl, by decide +kernel, rfl, by decide +kernel, by decide +kernel⟩
theorem b__law_says {P : Program} {w : World} {c : Ct} {base : Heap} {f : Addr} {fd : FuncData} (Fu : Fun c.K "_law_says" "_law_says" (topS 26) f fd) (B : Bt c) (C__law_kinds : Cal P w c base 1 "_law_kinds" 1 g_law_kinds) :
    FnOk P w c.K c.mg base (L2.CX P w) 2 f fd ["told", "due"] (spD c 2 (mFn 2 2 d_law_says)) :=
  fn_den2 Fu sc__law_says fun cdv A outer s e E hc hr L hp => by
    subst hc
    have nd := (sc__law_says).nd
    exact dss_one (ds_ret (de_and (eEq L (db_of (eCall L C__law_kinds (hr.mono (by decide)) (aC (vE 0) (da_nil)) (len_cons (fun _ _ _ h => len_nil h)))) (db_of (eCall L C__law_kinds (hr.mono (by decide)) (aC (vE 1) (da_nil)) (len_cons (fun _ _ _ h => len_nil h))))) (de_one (eEq L (vB 0) (vB 1)))))
theorem sc__law_runs : FnScope ["row", "found", "number"] ["row"] (defScope (topS 27)) := ⟨rfl, rfl, rfl, by decide +kernel, rfl, by decide +kernel, by decide +kernel⟩
theorem b__law_runs {P : Program} {w : World} {c : Ct} {base : Heap} {f : Addr} {fd : FuncData} (Fu : Fun c.K "_law_runs" "_law_runs" (topS 27) f fd) (B : Bt c)  :
    FnOk P w c.K c.mg base (L2.CX P w) 1 f fd ["row"] (spD c 1 (mFn 3 1 d_law_runs)) :=
  fn_den2 Fu sc__law_runs fun cdv A outer s e E hc hr L hp => by
    subst hc
    have nd := (sc__law_runs).nd
    exact dss_cons (sSet 1 nd (dx_ofL (dl_lst (da_nil)))) (dss_cons (sFor (is := [2]) L hp (iSeq L (vE 0)) (gN 2 nd) (dss_one (ds_if (dt_w (dw_and (tNe L (vB 1) (db_of (de_ofL (dl_lst (da_nil))))) (dw_and1 (tEq L (db_of (eIx L (db_of (eIx L (vB 1) (db_of (de_neg (db_of (de_int)))))) (db_of (de_int)))) (vB 2))))) (dss_one (sSetIx 1 (de_tup (aC (eAdd L (db_of (eIx L (db_of (eIx L (vB 1) (db_of (de_neg (db_of (de_int)))))) (db_of (de_int)))) (db_of (de_int))) (aC (vE 2) (da_nil)))) (db_of (de_neg (db_of (de_int)))) (hpg := pg_sub (pv 1) (db_of (de_neg (db_of (de_int)))) set_list))) (dss_one (sApp 1 (de_tup (aC (de_int) (aC (vE 2) (da_nil))))))))) (dss_one (ds_ret (vE 1))))
theorem sc__law_said : FnScope ["row", "run"] ["row"] (defScope (topS 28)) := ⟨rfl, rfl, rfl, by decide +kernel, rfl, by decide +kernel, by decide +kernel⟩
theorem b__law_said {P : Program} {w : World} {c : Ct} {base : Heap} {f : Addr} {fd : FuncData} (Fu : Fun c.K "_law_said" "_law_said" (topS 28) f fd) (B : Bt c) (C__law_runs : Cal P w c base 1 "_law_runs" 1 g_law_runs) :
    FnOk P w c.K c.mg base (L2.CX P w) 2 f fd ["row"] (spD c 1 (mFn 2 1 d_law_said)) :=
  fn_den2 Fu sc__law_said fun cdv A outer s e E hc hr L hp => by
    subst hc
    have nd := (sc__law_said).nd
    exact dss_one (ds_ret (eTuple L B (bC (db_of (de_ofL (lSum L B (db_of (de_ofL (lLc [("run", 1)] L nd (iSeq L (eCall L C__law_runs (hr.mono (by decide)) (aC (vE 0) (da_nil)) (len_cons (fun _ _ _ h => len_nil h)))) (by kernel_rfl) (fun _ _ _ _ _ => gN 1 nd) (fun _ _ _ _ _ => dts_nil) (fun _ _ _ _ _ => de_ofL (lList (Lk.blk L _ _ _ _ _) B (bC (vB 1) (dab_nil))))))) (dl_lst (da_nil))))) (dab_nil))))
theorem sc__law_days : FnScope ["row", "days", "found", "lap"] ["row", "days"] (defScope (topS 29)) := ⟨rfl, rfl, rfl, by decide +kernel, rfl, by decide +kernel, by decide +kernel⟩
theorem b__law_days {P : Program} {w : World} {c : Ct} {base : Heap} {f : Addr} {fd : FuncData} (Fu : Fun c.K "_law_days" "_law_days" (topS 29) f fd) (B : Bt c) (C__law_said : Cal P w c base 2 "_law_said" 1 g_law_said) :
    FnOk P w c.K c.mg base (L2.CX P w) 3 f fd ["row", "days"] (spD c 2 (mFn 4 2 d_law_days)) :=
  fn_den2 Fu sc__law_days fun cdv A outer s e E hc hr L hp => by
    subst hc
    have nd := (sc__law_days).nd
    exact dss_cons (sSet 2 nd (dx_ofL (dl_lst (aC (eTuple L B (bC (vB 0) (dab_nil))) (da_nil))))) (dss_cons (sFor (is := [3]) L hp (iRange1 L B (bC (vB 1) (dab_nil))) (gN 3 nd) (dss_one (sApp 2 (eCall L C__law_said (hr.mono (by decide)) (aC (eIx L (vB 2) (db_of (de_neg (db_of (de_int))))) (da_nil)) (len_cons (fun _ _ _ h => len_nil h)))))) (dss_one (ds_ret (vE 2))))
theorem sc__law_elder : FnScope ["row", "found", "place"] ["row"] (defScope (topS 30)) := ⟨rfl, rfl, rfl, by decide +kernel, rfl, by decide +kernel, by decide +kernel⟩
theorem b__law_elder {P : Program} {w : World} {c : Ct} {base : Heap} {f : Addr} {fd : FuncData} (Fu : Fun c.K "_law_elder" "_law_elder" (topS 30) f fd) (B : Bt c)  :
    FnOk P w c.K c.mg base (L2.CX P w) 1 f fd ["row"] (spD c 1 (mFn 3 1 d_law_elder)) :=
  fn_den2 Fu sc__law_elder fun cdv A outer s e E hc hr L hp => by
    subst hc
    have nd := (sc__law_elder).nd
    exact dss_cons (sSetD 1 nd (de_ofL (dl_lst (da_nil)))) (dss_cons (sFor (is := [2]) L hp (iRange3 L B (bC (db_of (de_int)) (bC (db_of (eSub (db_of (eLen L B (bC (vB 0) (dab_nil)))) (db_of (de_int)))) (bC (db_of (de_int)) (dab_nil))))) (gN 2 nd) (dss_cons (ds_if (dt_w (dw_and (tNe L (vB 1) (db_of (de_ofL (dl_lst (da_nil))))) (dw_and1 (tEq L (db_of (eIx L (vB 1) (db_of (de_neg (db_of (de_int)))))) (db_of (eIx L (vB 0) (db_of (eAdd L (vB 2) (db_of (de_int)))))))))) (dss_one (ds_ret (de_non))) (dss_nil)) (dss_one (sSetD 1 nd (eAdd L (vB 1) (db_of (eMul L (db_of (de_ofL (dl_lst (aC (eIx L (vB 0) (db_of (eAdd L (vB 2) (db_of (de_int))))) (da_nil))))) (db_of (eIx L (vB 0) (vB 2)))))))))) (dss_one (ds_ret (de_if (tEq L (db_of (eMod (db_of (eInt L B (bC (db_of (eLen L B (bC (vB 0) (dab_nil)))) (dab_nil)))) (db_of (de_int)))) (db_of (de_int))) (eTuple L B (bC (vB 1) (dab_nil))) (de_non)))))
theorem sc__law_row : FnScope ["draw", "most", "way", "many", "small", "lap", "days", "day", "found"] ["draw", "most"] (defScope (topS 31)) := ⟨rfl, rfl, rfl, by decide +kernel, rfl, by decide +kernel, by decide +kernel⟩
theorem b__law_row {P : Program} {w : World} {c : Ct} {base : Heap} {f : Addr} {fd : FuncData} (Fu : Fun c.K "_law_row" "_law_row" (topS 31) f fd) (B : Bt c) (C__law_take : Cal P w c base 2 "_law_take" 2 g_law_take) (C__law_pick : Cal P w c base 3 "_law_pick" 2 g_law_pick) (C__law_days : Cal P w c base 3 "_law_days" 2 g_law_days) :
    FnOk P w c.K c.mg base (L2.CX P w) 4 f fd ["draw", "most"] (spD c 2 (mFn 9 2 d_law_row)) :=
  fn_den2 Fu sc__law_row fun cdv A outer s e E hc hr L hp => by
    subst hc
    have nd := (sc__law_row).nd
    exact dss_cons (sPar L 2 3 nd (dx_of (eCall L C__law_take (hr.mono (by decide)) (aC (vE 0) (aC (de_int) (da_nil))) (len_cons (len_cons (fun _ _ _ h => len_nil h))))) (dx_of (eAdd L (db_of (de_int)) (db_of (eCall L C__law_take (hr.mono (by decide)) (aC (vE 0) (aC (vE 1) (da_nil))) (len_cons (len_cons (fun _ _ _ h => len_nil h)))))))) (dss_cons (ds_if (tEq L (vB 2) (db_of (de_int))) (dss_cons (sSetD 4 nd (eTuple L B (bC (db_of (de_ofL (lLc [("lap", 5)] L nd (iRange1 L B (bC (db_of (eAdd L (db_of (de_int)) (db_of (eCall L C__law_take (hr.mono (by decide)) (aC (vE 0) (aC (de_int) (da_nil))) (len_cons (len_cons (fun _ _ _ h => len_nil h))))))) (dab_nil))) (by kernel_rfl) (fun _ _ _ _ _ => gN 5 nd) (fun _ _ _ _ _ => dts_nil) (fun _ _ _ _ _ => eAdd (Lk.blk L _ _ _ _ _) (db_of (de_int)) (db_of (eCall (Lk.blk L _ _ _ _ _) C__law_take (hr.mono (by decide)) (aC (vE 0) (aC (de_int) (da_nil))) (len_cons (len_cons (fun _ _ _ h => len_nil h))))))))) (dab_nil)))) (dss_cons (sSetLc 6 [("day", 7)] L nd (iSeq L (eCall L C__law_days (hr.mono (by decide)) (aC (vE 4) (aC (de_int) (da_nil))) (len_cons (len_cons (fun _ _ _ h => len_nil h))))) (by kernel_rfl) (fun _ _ _ _ _ => gN 7 nd) (fun _ _ _ _ _ => dts_one (tLe (db_of (eLen (Lk.blk L _ _ _ _ _) B (bC (vB 7) (dab_nil)))) (vB 1))) (fun _ _ _ _ _ => vE 7)) (dss_one (ds_ret (de_if (tNe L (vB 6) (db_of (de_ofL (dl_lst (da_nil))))) (eCall L C__law_pick (hr.mono (by decide)) (aC (vE 0) (aC (vE 6) (da_nil))) (len_cons (len_cons (fun _ _ _ h => len_nil h)))) (de_tup (aC (de_int) (da_nil)))))))) (dss_nil)) (dss_cons (ds_if (tEq L (vB 2) (db_of (de_int))) (dss_one (ds_ret (eTuple L B (bC (db_of (de_ofL (lLc [("lap", 5)] L nd (iRange1 L B (bC (vB 3) (dab_nil))) (by kernel_rfl) (fun _ _ _ _ _ => gN 5 nd) (fun _ _ _ _ _ => dts_nil) (fun _ _ _ _ _ => eCall (Lk.blk L _ _ _ _ _) C__law_pick (hr.mono (by decide)) (aC (vE 0) (aC (de_ofL (dl_lst (aC (de_int) (aC (de_int) (aC (de_int) (aC (de_int) (aC (de_int) (aC (de_int) (aC (de_int) (aC (de_int) (aC (de_int) (aC (de_int) (aC (de_int) (da_nil)))))))))))))) (da_nil))) (len_cons (len_cons (fun _ _ _ h => len_nil h))))))) (dab_nil))))) (dss_nil)) (dss_cons (ds_if (tEq L (vB 2) (db_of (de_int))) (dss_cons (sSetD 8 nd (de_ofL (dl_lst (da_nil)))) (dss_cons (ds_while hp (tLt (db_of (eLen L B (bC (vB 8) (dab_nil)))) (vB 3)) (dss_one (sSetD 8 nd (eAdd L (vB 8) (db_of (eMul L (db_of (de_ofL (dl_lst (aC (eAdd L (db_of (de_int)) (db_of (eCall L C__law_take (hr.mono (by decide)) (aC (vE 0) (aC (de_int) (da_nil))) (len_cons (len_cons (fun _ _ _ h => len_nil h)))))) (da_nil))))) (db_of (eAdd L (db_of (de_int)) (db_of (eCall L C__law_take (hr.mono (by decide)) (aC (vE 0) (aC (de_int) (da_nil))) (len_cons (len_cons (fun _ _ _ h => len_nil h))))))))))))) (dss_one (ds_ret (eTuple L B (bC (db_of (eSl L (vB 8) (do_none) (do_some (vE 3)))) (dab_nil))))))) (dss_nil)) (dss_cons (ds_if (tEq L (vB 2) (db_of (de_int))) (dss_one (ds_ret (eAdd L (db_of (eSl L (db_of (eTuple L B (bC (db_of (eMul L (db_of (de_ofL (dl_lst (aC (de_int) (aC (de_int) (da_nil)))))) (db_of (de_int)))) (dab_nil)))) (do_none) (do_some (eCall L C__law_pick (hr.mono (by decide)) (aC (vE 0) (aC (de_ofL (dl_lst (aC (de_int) (aC (de_int) (aC (de_int) (da_nil)))))) (da_nil))) (len_cons (len_cons (fun _ _ _ h => len_nil h))))))) (db_of (eTuple L B (bC (db_of (de_ofL (lLc [("lap", 5)] L nd (iRange1 L B (bC (db_of (eMax2 L B (bC (db_of (de_int)) (bC (db_of (eSub (vB 3) (db_of (de_int)))) (dab_nil))))) (dab_nil))) (by kernel_rfl) (fun _ _ _ _ _ => gN 5 nd) (fun _ _ _ _ _ => dts_nil) (fun _ _ _ _ _ => eAdd (Lk.blk L _ _ _ _ _) (db_of (de_int)) (db_of (eCall (Lk.blk L _ _ _ _ _) C__law_take (hr.mono (by decide)) (aC (vE 0) (aC (de_int) (da_nil))) (len_cons (len_cons (fun _ _ _ h => len_nil h))))))))) (dab_nil))))))) (dss_nil)) (dss_one (ds_ret (eTuple L B (bC (db_of (de_ofL (lLc [("lap", 5)] L nd (iRange1 L B (bC (vB 3) (dab_nil))) (by kernel_rfl) (fun _ _ _ _ _ => gN 5 nd) (fun _ _ _ _ _ => dts_nil) (fun _ _ _ _ _ => eAdd (Lk.blk L _ _ _ _ _) (db_of (de_int)) (db_of (eCall (Lk.blk L _ _ _ _ _) C__law_take (hr.mono (by decide)) (aC (vE 0) (aC (de_int) (da_nil))) (len_cons (len_cons (fun _ _ _ h => len_nil h))))))))) (dab_nil)))))))))
theorem sc__law_no_row : FnScope ["draw"] ["draw"] (defScope (topS 32)) := ⟨rfl, rfl, rfl, by decide +kernel, rfl, by decide +kernel, by decide +kernel⟩
theorem b__law_no_row {P : Program} {w : World} {c : Ct} {base : Heap} {f : Addr} {fd : FuncData} (Fu : Fun c.K "_law_no_row" "_law_no_row" (topS 32) f fd) (B : Bt c) (C__law_pick : Cal P w c base 3 "_law_pick" 2 g_law_pick) :
    FnOk P w c.K c.mg base (L2.CX P w) 4 f fd ["draw"] (spD c 1 (mFn 1 1 d_law_no_row)) :=
  fn_den2 Fu sc__law_no_row fun cdv A outer s e E hc hr L hp => by
    subst hc
    have nd := (sc__law_no_row).nd
    exact dss_one (ds_ret (eCall L C__law_pick (hr.mono (by decide)) (aC (vE 0) (aC (de_ofL (dl_lst (aC (de_non) (aC (de_int) (aC (de_str) (aC (de_ofL (dl_lst (aC (de_int) (da_nil)))) (aC (de_tup (aC (de_int) (da_nil))) (aC (de_tup (aC (de_int) (da_nil))) (aC (de_tup (aC (eSub (db_of (de_int)) (db_of (de_int))) (da_nil))) (aC (de_tup (aC (de_bl) (da_nil))) (aC (de_tup (aC (de_str) (da_nil))) (aC (de_tup (aC (de_int) (aC (de_non) (da_nil)))) (aC (eMul L (db_of (de_tup (aC (de_int) (da_nil)))) (db_of (de_int))) (aC (de_dict0) (aC (de_tup (aC (de_tup (aC (de_int) (da_nil))) (da_nil))) (da_nil)))))))))))))))) (da_nil))) (len_cons (len_cons (fun _ _ _ h => len_nil h)))))
theorem sc__law_elders : FnScope ["row", "found", "here"] ["row"] (defScope (topS 33)) := ⟨rfl, rfl, rfl, by decide +kernel, rfl, by decide +kernel, by decide +kernel⟩
theorem b__law_elders {P : Program} {w : World} {c : Ct} {base : Heap} {f : Addr} {fd : FuncData} (Fu : Fun c.K "_law_elders" "_law_elders" (topS 33) f fd) (B : Bt c) (C__law_elder : Cal P w c base 1 "_law_elder" 1 g_law_elder) :
    FnOk P w c.K c.mg base (L2.CX P w) 2 f fd ["row"] (spD c 1 (mFn 3 1 d_law_elders)) :=
  fn_den2 Fu sc__law_elders fun cdv A outer s e E hc hr L hp => by
    subst hc
    have nd := (sc__law_elders).nd
    exact dss_cons (sPar L 1 2 nd (dx_ofL (dl_lst (da_nil))) (dx_of (eCall L C__law_elder (hr.mono (by decide)) (aC (vE 0) (da_nil)) (len_cons (fun _ _ _ h => len_nil h))))) (dss_cons (ds_while hp (tIsNot (vB 2) (db_of (de_non))) (dss_cons (sApp 1 (vE 2)) (dss_one (sSetD 2 nd (eCall L C__law_elder (hr.mono (by decide)) (aC (vE 2) (da_nil)) (len_cons (fun _ _ _ h => len_nil h))))))) (dss_one (ds_ret (vE 1))))
theorem sc__law_right : FnScope ["draw", "small", "lap", "line", "day", "row", "due", "late", "many", "what", "number", "errors", "work"] ["draw"] (defScope (topS 34)) := ⟨rfl, rfl, rfl, by decide +kernel, rfl, by decide +kernel, by decide +kernel⟩
theorem b__law_right {P : Program} {w : World} {c : Ct} {base : Heap} {f : Addr} {fd : FuncData} (Fu : Fun c.K "_law_right" "_law_right" (topS 34) f fd) (B : Bt c) (C__law_pick : Cal P w c base 3 "_law_pick" 2 g_law_pick) (C_elders : Cal P w c base 4 "elders" 1 g_elders) (U__law_caught : Cau c "_law_caught" sayErrs) (X_BadRow : Exn c "BadRow") (C_age : Cal P w c base 5 "age" 1 g_age) (C__law_no_row : Cal P w c base 4 "_law_no_row" 1 g_law_no_row) (C__law_take : Cal P w c base 2 "_law_take" 2 g_law_take) (C__law_row : Cal P w c base 4 "_law_row" 2 g_law_row) (C__law_runs : Cal P w c base 1 "_law_runs" 1 g_law_runs) (C__law_said : Cal P w c base 2 "_law_said" 1 g_law_said) (K_age_0 : CalK P w c base 5 "age" 0 ["row"] [0] g_age) (K_elders_0 : CalK P w c base 4 "elders" 0 ["row"] [0] g_elders) (C__law_says : Cal P w c base 2 "_law_says" 2 g_law_says) (C__law_elders : Cal P w c base 2 "_law_elders" 1 g_law_elders) (C__law_days : Cal P w c base 3 "_law_days" 2 g_law_days) (LF : LamF c base "_law_right" fd) :
    FnOk P w c.K c.mg base (L2.CX P w) 8 f fd ["draw"] (spD c 1 (mFn 13 1 d_law_right)) :=
  fn_denL Fu sc__law_right LF fun cdv A outer s e E hc hr L hp M => by
    subst hc
    have nd := (sc__law_right).nd
    exact dss_cons (sSetD 1 nd (eTuple L B (bC (db_of (de_ofL (lLc [("lap", 2)] L nd (iRange1 L B (bC (db_of (eAdd L (db_of (de_int)) (db_of (eCall L C__law_take (hr.mono (by decide)) (aC (vE 0) (aC (de_int) (da_nil))) (len_cons (len_cons (fun _ _ _ h => len_nil h))))))) (dab_nil))) (by kernel_rfl) (fun _ _ _ _ _ => gN 2 nd) (fun _ _ _ _ _ => dts_nil) (fun _ _ _ _ _ => eCall (Lk.blk L _ _ _ _ _) C__law_pick (hr.mono (by decide)) (aC (vE 0) (aC (de_ofL (dl_lst (aC (de_int) (aC (de_int) (aC (de_int) (aC (de_int) (aC (de_int) (aC (de_int) (da_nil))))))))) (da_nil))) (len_cons (len_cons (fun _ _ _ h => len_nil h))))))) (dab_nil)))) (dss_cons (sSetLc 3 [("day", 4)] L nd (iSeq L (eCall L C__law_days (hr.mono (by decide)) (aC (vE 1) (aC (eCall L C__law_take (hr.mono (by decide)) (aC (vE 0) (aC (de_int) (da_nil))) (len_cons (len_cons (fun _ _ _ h => len_nil h)))) (da_nil))) (len_cons (len_cons (fun _ _ _ h => len_nil h))))) (by kernel_rfl) (fun _ _ _ _ _ => gN 4 nd) (fun _ _ _ _ _ => dts_one (tLe (db_of (eLen (Lk.blk L _ _ _ _ _) B (bC (vB 4) (dab_nil)))) (db_of (de_int)))) (fun _ _ _ _ _ => vE 4)) (dss_cons (sFor (is := [5]) L hp (iSeq L (de_ofL (dl_lst (aC (eIx L (vB 3) (db_of (de_neg (db_of (de_int))))) (aC (eCall L C__law_row (hr.mono (by decide)) (aC (vE 0) (aC (eCall L C__law_pick (hr.mono (by decide)) (aC (vE 0) (aC (de_ofL (dl_lst (aC (de_int) (aC (de_int) (aC (de_int) (da_nil)))))) (da_nil))) (len_cons (len_cons (fun _ _ _ h => len_nil h)))) (da_nil))) (len_cons (len_cons (fun _ _ _ h => len_nil h)))) (aC (eTuple L B (bC (db_of (de_ofL (lLc [("lap", 2)] L nd (iRange1 L B (bC (db_of (eAdd L (db_of (de_int)) (db_of (eMul L (db_of (de_int)) (db_of (eCall L C__law_take (hr.mono (by decide)) (aC (vE 0) (aC (de_int) (da_nil))) (len_cons (len_cons (fun _ _ _ h => len_nil h))))))))) (dab_nil))) (by kernel_rfl) (fun _ _ _ _ _ => gN 2 nd) (fun _ _ _ _ _ => dts_nil) (fun _ _ _ _ _ => eAdd (Lk.blk L _ _ _ _ _) (db_of (de_int)) (db_of (eCall (Lk.blk L _ _ _ _ _) C__law_take (hr.mono (by decide)) (aC (vE 0) (aC (de_int) (da_nil))) (len_cons (len_cons (fun _ _ _ h => len_nil h))))))))) (dab_nil))) (da_nil))))))) (gN 5 nd) (dss_cons (ds_if (tEq L (vB 5) (db_of (de_tup (aC (de_int) (aC (de_int) (da_nil)))))) (dss_one (ds_continue)) (dss_nil)) (dss_cons (sSetD 6 nd (eCall L C__law_elders (hr.mono (by decide)) (aC (vE 5) (da_nil)) (len_cons (fun _ _ _ h => len_nil h)))) (dss_cons (ds_if (dt_not (tVal (db_of (eCall L C__law_says (hr.mono (by decide)) (aC (de_ofL (dl_lst (aC (eCall L C_elders (hr.mono (by decide)) (aC (vE 5) (da_nil)) (len_cons (fun _ _ _ h => len_nil h))) (aC (eCallK L K_elders_0 (hr.mono (by decide)) (kCons (vE 5) (kNil)) (len_cons (fun _ _ _ h => len_nil h))) (aC (eCall L C_age (hr.mono (by decide)) (aC (vE 5) (da_nil)) (len_cons (fun _ _ _ h => len_nil h))) (aC (eCallK L K_age_0 (hr.mono (by decide)) (kCons (vE 5) (kNil)) (len_cons (fun _ _ _ h => len_nil h))) (da_nil))))))) (aC (de_ofL (dl_lst (aC (eTuple L B (bC (vB 6) (dab_nil))) (aC (eTuple L B (bC (vB 6) (dab_nil))) (aC (eLen L B (bC (vB 6) (dab_nil))) (aC (eLen L B (bC (vB 6) (dab_nil))) (da_nil))))))) (da_nil))) (len_cons (len_cons (fun _ _ _ h => len_nil h))))))) (dss_one (ds_ret (de_bl))) (dss_nil)) (dss_cons (sSetD 7 nd (eCall L C__law_said (hr.mono (by decide)) (aC (vE 5) (da_nil)) (len_cons (fun _ _ _ h => len_nil h)))) (dss_cons (ds_if (dt_w (dw_and (tLe (db_of (eLen L B (bC (vB 7) (dab_nil)))) (db_of (de_int))) (dw_and1 (tNe L (db_of (eCall L C_age (hr.mono (by decide)) (aC (vE 7) (da_nil)) (len_cons (fun _ _ _ h => len_nil h)))) (db_of (eAdd L (db_of (eLen L B (bC (vB 6) (dab_nil)))) (db_of (de_int)))))))) (dss_one (ds_ret (de_bl))) (dss_nil)) (dss_one (ds_if (dt_w (dw_and (tGt (db_of (eLen L B (bC (vB 6) (dab_nil)))) (db_of (de_int))) (dw_and1 (dt_w (dw_or (tGt (db_of (eMaxL L B (bC (db_of (de_ofL (lLc [("many", 8), ("what", 9)] L nd (iSeq L (eCall L C__law_runs (hr.mono (by decide)) (aC (vE 5) (da_nil)) (len_cons (fun _ _ _ h => len_nil h)))) (by kernel_rfl) (fun _ _ _ _ _ => gT (Lk.blk L _ _ _ _ _) 2 (gsC (gN 8 nd) (gsC (gN 9 nd) (dgs_nil)))) (fun _ _ _ _ _ => dts_nil) (fun _ _ _ _ _ => vE 8)))) (dab_nil)))) (db_of (de_int))) (dw_or1 (tNe L (db_of (de_ofL (lLc [("number", 10)] L nd (iSeq L (eSlC (c := 2) L (vB 5) (do_none) (do_none) pe_int (fun _ _ _ h => h))) (by kernel_rfl) (fun _ _ _ _ _ => gN 10 nd) (fun _ _ _ _ _ => dts_one (tGt (vB 10) (db_of (de_int)))) (fun _ _ _ _ _ => vE 10)))) (db_of (de_ofL (dl_lst (da_nil))))))))))) (dss_one (ds_ret (de_bl))) (dss_nil))))))))) (dss_cons (sSetLc 11 [("work", 12)] L nd (iSeq L (de_ofL (dl_lst (aC (eFn L C_age) (aC (eFn L C_elders) (da_nil)))))) (by kernel_rfl) (fun _ _ _ _ _ => gN 12 nd) (fun _ _ _ _ _ => dts_nil) (fun _ _ _ _ _ => eIsX (Lk.blk L _ _ _ _ _) B (db_of (eCaught (k := 5) (Lk.blk L _ _ _ _ _) U__law_caught (Lm.blk M _ _ _ _ _ _) (hr.mono (by decide)) (fun _ _ _ _ _ _ _ hr2 L2 => eCallL (n := 1) 12 [("age", g_age), ("elders", g_elders)] L2 (fun x q h => (handed_cons h).elim (fun ⟨ex, eq⟩ => by subst ex; subst eq; exact ⟨_, hr2.mono (by decide), C_age⟩) fun h => (handed_cons h).elim (fun ⟨ex, eq⟩ => by subst ex; subst eq; exact ⟨_, hr2.mono (by decide), C_elders⟩) fun h => handed_nil h) (aC (eCall L2 C__law_no_row (hr2.mono (by decide)) (aC (vE 0) (da_nil)) (len_cons (fun _ _ _ h => len_nil h))) (da_nil)) (len_cons (fun _ _ _ h => len_nil h))))) X_BadRow)) (dss_one (ds_ret (eEq L (db_of (eAdd L (vB 11) (db_of (de_ofL (dl_lst (aC (eIsX L B (db_of (eCaught (k := 4) L U__law_caught M (hr.mono (by decide)) (fun _ _ _ _ _ _ _ hr2 L2 => eCall L2 C_elders (hr2.mono (by decide)) (aC (eCall L2 C__law_pick (hr2.mono (by decide)) (aC (vE 0) (aC (de_ofL (dl_lst (aC (de_tup (da_nil)) (aC (de_tup (aC (de_int) (aC (de_int) (da_nil)))) (da_nil))))) (da_nil))) (len_cons (len_cons (fun _ _ _ h => len_nil h)))) (da_nil)) (len_cons (fun _ _ _ h => len_nil h))))) X_BadRow) (da_nil))))))) (db_of (eMul L (db_of (de_ofL (dl_lst (aC (de_bl) (da_nil))))) (db_of (de_int))))))))))
theorem sc_law : FnScope ["script", "draw", "lap", "told"] ["script"] (defScope (topS 35)) := ⟨rfl, rfl, rfl, by decide +kernel, rfl, by decide +kernel, by decide +kernel⟩
theorem b_law {P : Program} {w : World} {c : Ct} {base : Heap} {f : Addr} {fd : FuncData} (Fu : Fun c.K "law" "law" (topS 35) f fd) (B : Bt c) (C__law_says : Cal P w c base 2 "_law_says" 2 g_law_says) (C_elders : Cal P w c base 4 "elders" 1 g_elders) (C_age : Cal P w c base 5 "age" 1 g_age) (C__law_right : Cal P w c base 8 "_law_right" 1 g_law_right) (C__law_begun : Cal P w c base 1 "_law_begun" 1 g_law_begun) :
    FnOk P w c.K c.mg base (L2.CX P w) 9 f fd ["script"] (spD c 1 (mFn 4 1 d_law)) :=
  fn_den2 Fu sc_law fun cdv A outer s e E hc hr L hp => by
    subst hc
    have nd := (sc_law).nd
    exact dss_cons (sSetD 1 nd (eCall L C__law_begun (hr.mono (by decide)) (aC (vE 0) (da_nil)) (len_cons (fun _ _ _ h => len_nil h)))) (dss_cons (sFor (is := [2]) L hp (iRange1 L B (bC (db_of (eAdd L (db_of (de_int)) (db_of (eMin2 L B (bC (db_of (eLen L B (bC (vB 0) (dab_nil)))) (bC (db_of (de_int)) (dab_nil))))))) (dab_nil))) (gN 2 nd) (dss_one (ds_if (dt_not (tVal (db_of (eCall L C__law_right (hr.mono (by decide)) (aC (vE 1) (da_nil)) (len_cons (fun _ _ _ h => len_nil h)))))) (dss_one (ds_ret (de_bl))) (dss_nil)))) (dss_cons (sSetD 3 nd (de_ofL (dl_lst (aC (eCall L C_age (hr.mono (by decide)) (aC (de_tup (aC (de_int) (aC (de_int) (aC (de_int) (aC (de_int) (aC (de_int) (aC (de_int) (da_nil)))))))) (da_nil)) (len_cons (fun _ _ _ h => len_nil h))) (aC (eCall L C_elders (hr.mono (by decide)) (aC (de_tup (aC (de_int) (aC (de_int) (aC (de_int) (aC (de_int) (aC (de_int) (aC (de_int) (da_nil)))))))) (da_nil)) (len_cons (fun _ _ _ h => len_nil h))) (aC (eCall L C_age (hr.mono (by decide)) (aC (de_tup (da_nil)) (da_nil)) (len_cons (fun _ _ _ h => len_nil h))) (aC (eCall L C_age (hr.mono (by decide)) (aC (de_tup (aC (de_int) (aC (de_int) (da_nil)))) (da_nil)) (len_cons (fun _ _ _ h => len_nil h))) (aC (eCall L C_age (hr.mono (by decide)) (aC (de_tup (aC (de_int) (aC (de_int) (da_nil)))) (da_nil)) (len_cons (fun _ _ _ h => len_nil h))) (aC (eCall L C_age (hr.mono (by decide)) (aC (de_tup (aC (de_int) (da_nil))) (da_nil)) (len_cons (fun _ _ _ h => len_nil h))) (aC (eCall L C_elders (hr.mono (by decide)) (aC (de_tup (aC (de_int) (da_nil))) (da_nil)) (len_cons (fun _ _ _ h => len_nil h))) (da_nil))))))))))) (dss_one (ds_ret (eCall L C__law_says (hr.mono (by decide)) (aC (vE 3) (aC (de_ofL (dl_lst (aC (de_int) (aC (de_tup (aC (de_tup (aC (de_int) (aC (de_int) (aC (de_int) (aC (de_int) (da_nil)))))) (aC (de_tup (aC (de_int) (aC (de_int) (da_nil)))) (aC (de_tup (aC (de_int) (aC (de_int) (da_nil)))) (aC (de_tup (aC (de_int) (da_nil))) (da_nil)))))) (aC (de_non) (aC (de_non) (aC (de_int) (aC (de_int) (aC (de_tup (da_nil)) (da_nil)))))))))) (da_nil))) (len_cons (len_cons (fun _ _ _ h => len_nil h))))))))
def fa : List He.Fa := bltNames.map He.Fa.free ++ [(.glo "is_whole"), (.glo "is_row_of"), (.glo "need_row"), (.glo "bar_by"), (.glo "elder_by"), (.glo "elders_by"), (.glo "age_by"), (.glo "age"), (.glo "elders"), (.glo "_law_begun"), (.glo "_law_mixed"), (.glo "_law_take"), (.glo "_law_pick"), (.glo "_law_caught"), (.glo "_law_kinds"), (.glo "_law_says"), (.glo "_law_runs"), (.glo "_law_said"), (.glo "_law_days"), (.glo "_law_elder"), (.glo "_law_row"), (.glo "_law_no_row"), (.glo "_law_elders"), (.glo "_law_right"), (.glo "law"), (.int "MOST_NUMBER" 99), (.int "MOST_NUMBERS" 60), (.glo "SayError"), (.exc "SayError"), (.glo "BadOne"), (.exc "BadOne"), (.exm "BadOne" "SayError" true), (.glo "BadOther"), (.exc "BadOther"), (.exm "BadOther" "SayError" true), (.glo "BadRow"), (.exc "BadRow"), (.exm "BadRow" "SayError" true), (.free "BadAt"), (.free "BadDay"), (.free "BadDays"), (.free "BadEdit"), (.free "BadEdits"), (.free "BadFirst"), (.free "BadLeast"), (.free "BadLength"), (.free "BadLine"), (.free "BadMany"), (.free "BadMark"), (.free "BadMost"), (.free "BadName"), (.free "BadNumber"), (.free "BadPlace"), (.free "BadPlaces"), (.free "BadPromise"), (.free "BadRows"), (.free "BadSketch"), (.free "BadText"), (.free "BadTop"), (.free "BadValue"), (.free "BadWorkshop"), (.free "Clash"), (.free "Empty"), (.free "InUse"), (.free "NoElder"), (.free "NoName"), (.free "NoPromise"), (.free "NothingLeft"), (.free "TooMany")]
def fn : List He.DefD := [dOf "is_whole" (topS 8), dOf "is_row_of" (topS 9), dOf "need_row" (topS 10), dOf "bar_by" (topS 13), dOf "elder_by" (topS 14), dOf "elders_by" (topS 15), dOf "age_by" (topS 16), dOf "age" (topS 18), dOf "elders" (topS 17), dOf "_law_begun" (topS 20), dOf "_law_mixed" (topS 21), dOf "_law_take" (topS 22), dOf "_law_pick" (topS 23), dOf "_law_caught" (topS 24), dOf "_law_kinds" (topS 25), dOf "_law_says" (topS 26), dOf "_law_runs" (topS 27), dOf "_law_said" (topS 28), dOf "_law_days" (topS 29), dOf "_law_elder" (topS 30), dOf "_law_row" (topS 31), dOf "_law_no_row" (topS 32), dOf "_law_elders" (topS 33), dOf "_law_right" (topS 34), dOf "law" (topS 35)]
def tf : List He.Defn := [("_law_right", none)]
def cs : List (Str × D) := [("STILL", .tup [.tup [], .tup [.int 2, .int 2]])]
def ck (K : PySem.W.Frag) : Bool := apartB tf K && consB cs K
def names0 : List Str := ["SayError", "BadOne", "BadOther", "BadRow", "MOST_NUMBERS", "MOST_NUMBER", "is_whole", "is_row_of", "need_row", "STILL", "bar_by", "elder_by", "elders_by", "age_by", "elders", "age", "_law_begun", "_law_mixed", "_law_take", "_law_pick", "_law_caught", "_law_kinds", "_law_says", "_law_runs", "_law_said", "_law_days", "_law_elder", "_law_row", "_law_no_row", "_law_elders"]
def names1 : List Str := ["_law_right"]
def names : List Str := names0 ++ names1
abbrev Rr : PySem.W.OpenRow := PySem.W.OpenLaw.row PySem.Challenge.rw_looksay_k03_whole_ages
abbrev hk : PySem.W.Hook := He.hookX 5 fa fn [] tf ck
def ob (s : PySem.W.SharedT) : He.AlX := He.obsX 5 fa fn [] tf ck (HandSHeadRun.getT s)
theorem ob_eq (s : PySem.W.SharedT) : ob s = hk.obs s.abs := He.obsX_eq (HandSHeadRun.getT_eq s)
set_option maxHeartbeats 0 in
theorem run (w : World) : HandSHeadRun.RunEq Rr (PySem.W.view Rr.prog [35]) hk ob 30000 names w := by
  intro os
  kernel_rfl
theorem facts {P : Program} {w : World} {K : PySem.W.Frag} {h : Heap} {mg : Str → Option Value} (X : K.In h) (G : h.Ns mainGlobals mg) (c : He.SaysD fa fn K) (ckh : ck K = true) :
    ∃ (f : Addr) (fd : FuncData), mg ("law" : Str) = some (.ref f) ∧ (∀ (s : Shared) (u : Value), BindsTo s fd ⟨[u], []⟩ [("script", u)]) ∧
      ∀ base : Heap, K.In base → base.Ns mainGlobals mg → (∀ p ∈ tf, LamX.TabB base mg (He.cT K p).1 (He.cT K p).2) → FnOk P w K mg base (L2.CX P w) 9 f fd ["script"] (spD ⟨K, mg, tabsT K tf⟩ 1 g_law) := by
  obtain ⟨fd_is_whole, F_is_whole⟩ := fun_of c (x := "is_whole") (st := topS 8) (List.mem_of_getElem? (i := 0) rfl)
  have m_is_whole := He.glo_ok X G (c.fact 17 (f := .glo "is_whole") rfl)
  have a_is_whole : Binds K fd_is_whole ["thing"] [] := Fun.binds F_is_whole fun _ _ _ _ _ _ us hl => match us, hl with | [_], _ => rfl
  obtain ⟨fd_is_row_of, F_is_row_of⟩ := fun_of c (x := "is_row_of") (st := topS 9) (List.mem_of_getElem? (i := 1) rfl)
  have m_is_row_of := He.glo_ok X G (c.fact 18 (f := .glo "is_row_of") rfl)
  have a_is_row_of : Binds K fd_is_row_of ["thing"] [] := Fun.binds F_is_row_of fun _ _ _ _ _ _ us hl => match us, hl with | [_], _ => rfl
  obtain ⟨fd_need_row, F_need_row⟩ := fun_of c (x := "need_row") (st := topS 10) (List.mem_of_getElem? (i := 2) rfl)
  have m_need_row := He.glo_ok X G (c.fact 19 (f := .glo "need_row") rfl)
  have a_need_row : Binds K fd_need_row ["row", "word"] [] := Fun.binds F_need_row fun _ _ _ _ _ _ us hl => match us, hl with | [_, _], _ => rfl
  obtain ⟨fd_bar_by, F_bar_by⟩ := fun_of c (x := "bar_by") (st := topS 13) (List.mem_of_getElem? (i := 3) rfl)
  have m_bar_by := He.glo_ok X G (c.fact 20 (f := .glo "bar_by") rfl)
  have a_bar_by : Binds K fd_bar_by ["row"] [] := Fun.binds F_bar_by fun _ _ _ _ _ _ us hl => match us, hl with | [_], _ => rfl
  obtain ⟨fd_elder_by, F_elder_by⟩ := fun_of c (x := "elder_by") (st := topS 14) (List.mem_of_getElem? (i := 4) rfl)
  have m_elder_by := He.glo_ok X G (c.fact 21 (f := .glo "elder_by") rfl)
  have a_elder_by : Binds K fd_elder_by ["row"] [] := Fun.binds F_elder_by fun _ _ _ _ _ _ us hl => match us, hl with | [_], _ => rfl
  obtain ⟨fd_elders_by, F_elders_by⟩ := fun_of c (x := "elders_by") (st := topS 15) (List.mem_of_getElem? (i := 5) rfl)
  have m_elders_by := He.glo_ok X G (c.fact 22 (f := .glo "elders_by") rfl)
  have a_elders_by : Binds K fd_elders_by ["row"] [] := Fun.binds F_elders_by fun _ _ _ _ _ _ us hl => match us, hl with | [_], _ => rfl
  obtain ⟨fd_age_by, F_age_by⟩ := fun_of c (x := "age_by") (st := topS 16) (List.mem_of_getElem? (i := 6) rfl)
  have m_age_by := He.glo_ok X G (c.fact 23 (f := .glo "age_by") rfl)
  have a_age_by : Binds K fd_age_by ["row"] [] := Fun.binds F_age_by fun _ _ _ _ _ _ us hl => match us, hl with | [_], _ => rfl
  obtain ⟨fd_age, F_age⟩ := fun_of c (x := "age") (st := topS 18) (List.mem_of_getElem? (i := 7) rfl)
  have m_age := He.glo_ok X G (c.fact 24 (f := .glo "age") rfl)
  have a_age : Binds K fd_age ["row"] [] := Fun.binds F_age fun _ _ _ _ _ _ us hl => match us, hl with | [_], _ => rfl
  obtain ⟨fd_elders, F_elders⟩ := fun_of c (x := "elders") (st := topS 17) (List.mem_of_getElem? (i := 8) rfl)
  have m_elders := He.glo_ok X G (c.fact 25 (f := .glo "elders") rfl)
  have a_elders : Binds K fd_elders ["row"] [] := Fun.binds F_elders fun _ _ _ _ _ _ us hl => match us, hl with | [_], _ => rfl
  obtain ⟨fd__law_begun, F__law_begun⟩ := fun_of c (x := "_law_begun") (st := topS 20) (List.mem_of_getElem? (i := 9) rfl)
  have m__law_begun := He.glo_ok X G (c.fact 26 (f := .glo "_law_begun") rfl)
  have a__law_begun : Binds K fd__law_begun ["script"] [] := Fun.binds F__law_begun fun _ _ _ _ _ _ us hl => match us, hl with | [_], _ => rfl
  obtain ⟨fd__law_mixed, F__law_mixed⟩ := fun_of c (x := "_law_mixed") (st := topS 21) (List.mem_of_getElem? (i := 10) rfl)
  have m__law_mixed := He.glo_ok X G (c.fact 27 (f := .glo "_law_mixed") rfl)
  have a__law_mixed : Binds K fd__law_mixed ["draw"] [] := Fun.binds F__law_mixed fun _ _ _ _ _ _ us hl => match us, hl with | [_], _ => rfl
  obtain ⟨fd__law_take, F__law_take⟩ := fun_of c (x := "_law_take") (st := topS 22) (List.mem_of_getElem? (i := 11) rfl)
  have m__law_take := He.glo_ok X G (c.fact 28 (f := .glo "_law_take") rfl)
  have a__law_take : Binds K fd__law_take ["draw", "amount"] [] := Fun.binds F__law_take fun _ _ _ _ _ _ us hl => match us, hl with | [_, _], _ => rfl
  obtain ⟨fd__law_pick, F__law_pick⟩ := fun_of c (x := "_law_pick") (st := topS 23) (List.mem_of_getElem? (i := 12) rfl)
  have m__law_pick := He.glo_ok X G (c.fact 29 (f := .glo "_law_pick") rfl)
  have a__law_pick : Binds K fd__law_pick ["draw", "items"] [] := Fun.binds F__law_pick fun _ _ _ _ _ _ us hl => match us, hl with | [_, _], _ => rfl
  obtain ⟨fd__law_caught, F__law_caught⟩ := fun_of c (x := "_law_caught") (st := topS 24) (List.mem_of_getElem? (i := 13) rfl)
  have m__law_caught := He.glo_ok X G (c.fact 30 (f := .glo "_law_caught") rfl)
  have a__law_caught : Binds K fd__law_caught ["work"] [] := Fun.binds F__law_caught fun _ _ _ _ _ _ us hl => match us, hl with | [_], _ => rfl
  obtain ⟨fd__law_kinds, F__law_kinds⟩ := fun_of c (x := "_law_kinds") (st := topS 25) (List.mem_of_getElem? (i := 14) rfl)
  have m__law_kinds := He.glo_ok X G (c.fact 31 (f := .glo "_law_kinds") rfl)
  have a__law_kinds : Binds K fd__law_kinds ["thing"] [] := Fun.binds F__law_kinds fun _ _ _ _ _ _ us hl => match us, hl with | [_], _ => rfl
  obtain ⟨fd__law_says, F__law_says⟩ := fun_of c (x := "_law_says") (st := topS 26) (List.mem_of_getElem? (i := 15) rfl)
  have m__law_says := He.glo_ok X G (c.fact 32 (f := .glo "_law_says") rfl)
  have a__law_says : Binds K fd__law_says ["told", "due"] [] := Fun.binds F__law_says fun _ _ _ _ _ _ us hl => match us, hl with | [_, _], _ => rfl
  obtain ⟨fd__law_runs, F__law_runs⟩ := fun_of c (x := "_law_runs") (st := topS 27) (List.mem_of_getElem? (i := 16) rfl)
  have m__law_runs := He.glo_ok X G (c.fact 33 (f := .glo "_law_runs") rfl)
  have a__law_runs : Binds K fd__law_runs ["row"] [] := Fun.binds F__law_runs fun _ _ _ _ _ _ us hl => match us, hl with | [_], _ => rfl
  obtain ⟨fd__law_said, F__law_said⟩ := fun_of c (x := "_law_said") (st := topS 28) (List.mem_of_getElem? (i := 17) rfl)
  have m__law_said := He.glo_ok X G (c.fact 34 (f := .glo "_law_said") rfl)
  have a__law_said : Binds K fd__law_said ["row"] [] := Fun.binds F__law_said fun _ _ _ _ _ _ us hl => match us, hl with | [_], _ => rfl
  obtain ⟨fd__law_days, F__law_days⟩ := fun_of c (x := "_law_days") (st := topS 29) (List.mem_of_getElem? (i := 18) rfl)
  have m__law_days := He.glo_ok X G (c.fact 35 (f := .glo "_law_days") rfl)
  have a__law_days : Binds K fd__law_days ["row", "days"] [] := Fun.binds F__law_days fun _ _ _ _ _ _ us hl => match us, hl with | [_, _], _ => rfl
  obtain ⟨fd__law_elder, F__law_elder⟩ := fun_of c (x := "_law_elder") (st := topS 30) (List.mem_of_getElem? (i := 19) rfl)
  have m__law_elder := He.glo_ok X G (c.fact 36 (f := .glo "_law_elder") rfl)
  have a__law_elder : Binds K fd__law_elder ["row"] [] := Fun.binds F__law_elder fun _ _ _ _ _ _ us hl => match us, hl with | [_], _ => rfl
  obtain ⟨fd__law_row, F__law_row⟩ := fun_of c (x := "_law_row") (st := topS 31) (List.mem_of_getElem? (i := 20) rfl)
  have m__law_row := He.glo_ok X G (c.fact 37 (f := .glo "_law_row") rfl)
  have a__law_row : Binds K fd__law_row ["draw", "most"] [] := Fun.binds F__law_row fun _ _ _ _ _ _ us hl => match us, hl with | [_, _], _ => rfl
  obtain ⟨fd__law_no_row, F__law_no_row⟩ := fun_of c (x := "_law_no_row") (st := topS 32) (List.mem_of_getElem? (i := 21) rfl)
  have m__law_no_row := He.glo_ok X G (c.fact 38 (f := .glo "_law_no_row") rfl)
  have a__law_no_row : Binds K fd__law_no_row ["draw"] [] := Fun.binds F__law_no_row fun _ _ _ _ _ _ us hl => match us, hl with | [_], _ => rfl
  obtain ⟨fd__law_elders, F__law_elders⟩ := fun_of c (x := "_law_elders") (st := topS 33) (List.mem_of_getElem? (i := 22) rfl)
  have m__law_elders := He.glo_ok X G (c.fact 39 (f := .glo "_law_elders") rfl)
  have a__law_elders : Binds K fd__law_elders ["row"] [] := Fun.binds F__law_elders fun _ _ _ _ _ _ us hl => match us, hl with | [_], _ => rfl
  obtain ⟨fd__law_right, F__law_right⟩ := fun_of c (x := "_law_right") (st := topS 34) (List.mem_of_getElem? (i := 23) rfl)
  have m__law_right := He.glo_ok X G (c.fact 40 (f := .glo "_law_right") rfl)
  have a__law_right : Binds K fd__law_right ["draw"] [] := Fun.binds F__law_right fun _ _ _ _ _ _ us hl => match us, hl with | [_], _ => rfl
  obtain ⟨fd_law, F_law⟩ := fun_of c (x := "law") (st := topS 35) (List.mem_of_getElem? (i := 24) rfl)
  have m_law := He.glo_ok X G (c.fact 41 (f := .glo "law") rfl)
  have a_law : Binds K fd_law ["script"] [] := Fun.binds F_law fun _ _ _ _ _ _ us hl => match us, hl with | [_], _ => rfl
  refine ⟨_, fd_law, m_law, fun_bindsA F_law (fun _ _ _ _ _ _ us hl => match us, hl with | [_], _ => rfl), fun base hK hN TB => ?_⟩
  have B : Bt ⟨K, mg, tabsT K tf⟩ := bt_of X G (fun f hf => c.facts hf) fun x hx => List.mem_append_left _ (List.mem_map_of_mem hx)
  have ap : apartB tf K = true := (Bool.and_eq_true _ _ ▸ ckh : _ ∧ _).1
  have cn : consB cs K = true := (Bool.and_eq_true _ _ ▸ ckh : _ ∧ _).2
  have k_STILL : Con ⟨K, mg, tabsT K tf⟩ "STILL" (.tup [.tup [], .tup [.int 2, .int 2]]) := con_ofB X G (List.all_eq_true.mp cn _ (List.mem_of_getElem? (i := 0) rfl))
  have k_MOST_NUMBER : Con ⟨K, mg, tabsT K tf⟩ "MOST_NUMBER" (.int 99) := con_of X G (c.fact 42 (f := .int "MOST_NUMBER" 99) rfl)
  have k_MOST_NUMBERS : Con ⟨K, mg, tabsT K tf⟩ "MOST_NUMBERS" (.int 60) := con_of X G (c.fact 43 (f := .int "MOST_NUMBERS" 60) rfl)
  have X_SayError : Exn ⟨K, mg, tabsT K tf⟩ "SayError" := exn_of X G (c.fact 45 (f := .exc "SayError") rfl) (c.fact 44 (f := .glo "SayError") rfl)
  have X_BadOne : Exn ⟨K, mg, tabsT K tf⟩ "BadOne" := exn_of X G (c.fact 47 (f := .exc "BadOne") rfl) (c.fact 46 (f := .glo "BadOne") rfl)
  have X_BadOther : Exn ⟨K, mg, tabsT K tf⟩ "BadOther" := exn_of X G (c.fact 50 (f := .exc "BadOther") rfl) (c.fact 49 (f := .glo "BadOther") rfl)
  have X_BadRow : Exn ⟨K, mg, tabsT K tf⟩ "BadRow" := exn_of X G (c.fact 53 (f := .exc "BadRow") rfl) (c.fact 52 (f := .glo "BadRow") rfl)
  have U__law_caught : Cau ⟨K, mg, tabsT K tf⟩ "_law_caught" sayErrs := ⟨_, _, "SayError", fd__law_caught, topS 24, _, _, _, _, _, _, _, _, _, _, _, _, _, _, _, F__law_caught, m__law_caught, a__law_caught, He.glo_ok X G (c.fact 44 (f := .glo "SayError") rfl), sc__law_caught, rfl, by decide, rfl, rfl, rfl, rfl, errs_ok X G (fun f hf => c.facts hf) (by kernel_rfl)⟩
  have C_is_whole : Cal P w ⟨K, mg, tabsT K tf⟩ base 1 "is_whole" 1 g_is_whole := mk_cal F_is_whole m_is_whole a_is_whole (b_is_whole F_is_whole B ) (Below.refl _)
  have C_is_row_of : Cal P w ⟨K, mg, tabsT K tf⟩ base 2 "is_row_of" 1 g_is_row_of := mk_cal F_is_row_of m_is_row_of a_is_row_of (b_is_row_of F_is_row_of B k_MOST_NUMBER C_is_whole k_MOST_NUMBERS) (Below.refl _)
  have C_need_row : Cal P w ⟨K, mg, tabsT K tf⟩ base 3 "need_row" 2 g_need_row := mk_cal F_need_row m_need_row a_need_row (b_need_row F_need_row B X_BadRow X_BadOther X_BadOne C_is_row_of) (Below.refl _)
  have C_bar_by : Cal P w ⟨K, mg, tabsT K tf⟩ base 1 "bar_by" 1 g_bar_by := mk_cal F_bar_by m_bar_by a_bar_by (b_bar_by F_bar_by B ) (Below.refl _)
  have C_elder_by : Cal P w ⟨K, mg, tabsT K tf⟩ base 2 "elder_by" 1 g_elder_by := mk_cal F_elder_by m_elder_by a_elder_by (b_elder_by F_elder_by B C_bar_by) (Below.refl _)
  have C_elders_by : Cal P w ⟨K, mg, tabsT K tf⟩ base 3 "elders_by" 1 g_elders_by := mk_cal F_elders_by m_elders_by a_elders_by (b_elders_by F_elders_by B C_elder_by) (Below.refl _)
  have C_age_by : Cal P w ⟨K, mg, tabsT K tf⟩ base 4 "age_by" 1 g_age_by := mk_cal F_age_by m_age_by a_age_by (b_age_by F_age_by B k_STILL C_elders_by) (Below.refl _)
  have C_age : Cal P w ⟨K, mg, tabsT K tf⟩ base 5 "age" 1 g_age := mk_cal F_age m_age a_age (b_age F_age B C_age_by C_need_row) (Below.refl _)
  have K_age_0 : CalK P w ⟨K, mg, tabsT K tf⟩ base 5 "age" 0 ["row"] [0] g_age := ⟨_, fd_age, _, rfl, b_age F_age B C_age_by C_need_row, m_age, F_age.kp, fun_bindsK F_age fun _ _ _ _ _ _ us ws h1 h2 => match us, h1, ws, h2 with | [], _, [_], _ => rfl⟩
  have C_elders : Cal P w ⟨K, mg, tabsT K tf⟩ base 4 "elders" 1 g_elders := mk_cal F_elders m_elders a_elders (b_elders F_elders B C_elders_by k_STILL X_BadRow C_need_row) (Below.refl _)
  have K_elders_0 : CalK P w ⟨K, mg, tabsT K tf⟩ base 4 "elders" 0 ["row"] [0] g_elders := ⟨_, fd_elders, _, rfl, b_elders F_elders B C_elders_by k_STILL X_BadRow C_need_row, m_elders, F_elders.kp, fun_bindsK F_elders fun _ _ _ _ _ _ us ws h1 h2 => match us, h1, ws, h2 with | [], _, [_], _ => rfl⟩
  have C__law_begun : Cal P w ⟨K, mg, tabsT K tf⟩ base 1 "_law_begun" 1 g_law_begun := mk_cal F__law_begun m__law_begun a__law_begun (b__law_begun F__law_begun B ) (Below.refl _)
  have C__law_mixed : Cal P w ⟨K, mg, tabsT K tf⟩ base 1 "_law_mixed" 1 g_law_mixed := mk_cal F__law_mixed m__law_mixed a__law_mixed (b__law_mixed F__law_mixed B ) (Below.refl _)
  have C__law_take : Cal P w ⟨K, mg, tabsT K tf⟩ base 2 "_law_take" 2 g_law_take := mk_cal F__law_take m__law_take a__law_take (b__law_take F__law_take B C__law_mixed) (Below.refl _)
  have C__law_pick : Cal P w ⟨K, mg, tabsT K tf⟩ base 3 "_law_pick" 2 g_law_pick := mk_cal F__law_pick m__law_pick a__law_pick (b__law_pick F__law_pick B C__law_take) (Below.refl _)
  have C__law_kinds : Cal P w ⟨K, mg, tabsT K tf⟩ base 1 "_law_kinds" 1 g_law_kinds := mk_cal F__law_kinds m__law_kinds a__law_kinds (b__law_kinds F__law_kinds B ) (Below.refl _)
  have C__law_says : Cal P w ⟨K, mg, tabsT K tf⟩ base 2 "_law_says" 2 g_law_says := mk_cal F__law_says m__law_says a__law_says (b__law_says F__law_says B C__law_kinds) (Below.refl _)
  have C__law_runs : Cal P w ⟨K, mg, tabsT K tf⟩ base 1 "_law_runs" 1 g_law_runs := mk_cal F__law_runs m__law_runs a__law_runs (b__law_runs F__law_runs B ) (Below.refl _)
  have C__law_said : Cal P w ⟨K, mg, tabsT K tf⟩ base 2 "_law_said" 1 g_law_said := mk_cal F__law_said m__law_said a__law_said (b__law_said F__law_said B C__law_runs) (Below.refl _)
  have C__law_days : Cal P w ⟨K, mg, tabsT K tf⟩ base 3 "_law_days" 2 g_law_days := mk_cal F__law_days m__law_days a__law_days (b__law_days F__law_days B C__law_said) (Below.refl _)
  have C__law_elder : Cal P w ⟨K, mg, tabsT K tf⟩ base 1 "_law_elder" 1 g_law_elder := mk_cal F__law_elder m__law_elder a__law_elder (b__law_elder F__law_elder B ) (Below.refl _)
  have C__law_row : Cal P w ⟨K, mg, tabsT K tf⟩ base 4 "_law_row" 2 g_law_row := mk_cal F__law_row m__law_row a__law_row (b__law_row F__law_row B C__law_take C__law_pick C__law_days) (Below.refl _)
  have C__law_no_row : Cal P w ⟨K, mg, tabsT K tf⟩ base 4 "_law_no_row" 1 g_law_no_row := mk_cal F__law_no_row m__law_no_row a__law_no_row (b__law_no_row F__law_no_row B C__law_pick) (Below.refl _)
  have C__law_elders : Cal P w ⟨K, mg, tabsT K tf⟩ base 2 "_law_elders" 1 g_law_elders := mk_cal F__law_elders m__law_elders a__law_elders (b__law_elders F__law_elders B C__law_elder) (Below.refl _)
  have C__law_right : Cal P w ⟨K, mg, tabsT K tf⟩ base 8 "_law_right" 1 g_law_right := mk_cal F__law_right m__law_right a__law_right (b__law_right F__law_right B C__law_pick C_elders U__law_caught X_BadRow C_age C__law_no_row C__law_take C__law_row C__law_runs C__law_said K_age_0 K_elders_0 C__law_says C__law_elders C__law_days (lamF_of F__law_right (List.mem_of_getElem? (i := 0) rfl) ap TB)) (Below.refl _)
  exact b_law F_law B C__law_says C_elders C_age C__law_right C__law_begun
end Ls
open PySem PySem.W PySem.Calls PyProof.Rows in
set_option maxHeartbeats 0 in
theorem Ls.holds_of (hg : ∀ ns : List Int, ns.length ≤ 63 → Ls.sumBits ns ≤ 1048576 → ∃ st, Ls.g_law [.wl (ns.map .int)] [] = .ok (.bl true) st) : PySem.Challenge.rw_looksay_k03_whole_ages.Holds := by
  w_on; o_law
  refine HandSHeadRun.head_any (r := OpenLaw.row PySem.Challenge.rw_looksay_k03_whole_ages) (q := view (OpenLaw.row PySem.Challenge.rw_looksay_k03_whole_ages).prog [35]) (H := Ls.hk) (ob := Ls.ob) (M := 30000) (loose := Ls.names) (d := HandSHeadRun.topDef (OpenLaw.row PySem.Challenge.rw_looksay_k03_whole_ages).prog 35) (kwd := []) Ls.ob_eq
    (by kernel_rfl) (fun s => by kernel_rfl) Ls.run (by kernel_rfl) (by kernel_rfl) (by kernel_rfl) (by rfl) (by first | assumption | decide +kernel) (by decide +kernel) ⟨rfl, rfl, rfl, rfl, rfl, by decide +kernel⟩ ?hw ?hc
  case hw => w_witness2
  case hc =>
    have hnm : (HandSHeadRun.topDef (OpenLaw.row PySem.Challenge.rw_looksay_k03_whole_ages).prog 35).name = ("law" : PySem.Str) := by kernel_rfl
    exact Ls.walk_ls (m := 5) (k := 9) (g := Ls.g_law) rfl (by kernel_rfl) ⟨rfl, by decide, by decide⟩ (fun w K mg h X G c ap => by rw [hnm]; exact Ls.facts X G c ap) hg
theorem PySem.Challenge.cw_looksay_k03_whole_ages_holds : PySem.Challenge.rw_looksay_k03_whole_ages.Holds := by
  exact Ls.holds_of fun ns hl hb => Ls.law03 hl hb
